import Derived.Test.YtlhamcjimbeggaaGreatDoorS2
open Go.IntKind (i64)
open List (cons_append length_nil map_congr_left map_append)
namespace Go.Proofs
open Go.Gb Go.RowKit
abbrev gi:OP SI:=.c 10 [[.v (.sl bE),.v (.sl bn),.v (.sl bG),.v (.sl aU),.v (.sl bM),.v (.sl bI),.v (.sl bf),.v af,.v (.sl ax),.o 1]]
abbrev q7:OP SI:=.c 1 [[.o 1]]
abbrev sm:OP SI:=.c 2 [[.v (.sl bE),.v (.sl (.sl af))]]
abbrev uC:OP SI:=.c 1 [[.v af]]
abbrev uA:OP SI:=.c 4 [[.v af,.v af,.v af,.v af]]
abbrev ux:OP SI:=.c 10 [[.v (.sl bE),.v (.sl bn),.v (.sl bG),.v (.sl aU),.v (.sl bM),.v (.sl bI),.v (.sl bf),.v af,.v (.sl ax),.o 2]]
abbrev wa:OP SI:=.c 2 [[.v af,.v af]]
abbrev yp:OP SI:=.c 1 [[.o 1384]]
abbrev HX:OP SI:=.c 1 [[.v (.sl (.st SI.eW))]]
abbrev cp(a:Hn SI):Hn SI:=.s .z (.s .z a)
abbrev jj(a:Hn SI):Hn SI:=.s .z (.s .z (.s .z a))
abbrev ra(a:Hn SI):Hn SI:=.s .z (.s .z (.s .z (.s .z a)))
abbrev SR(a:Hn SI):Hn SI:=.s .z (.s .z (.s .z (.s .z (.s .z a))))
abbrev SP(a:Hn SI):Hn SI:=.s .z (.s .z (.s .z (.s .z (.s .z (.s .z a)))))
open Tryz
noncomputable section
variable (n:Nat)
def abC:ct xx:=⟨[],[.d (.st SI.kA)],λ_=>JR,none⟩
theorem abD:aJ 12 abC:=cq aA func12 .z 0
def VX:ct xx:=⟨[.d (.sl ax)],[.fresh ax],λa=>xh a.1,none⟩
theorem Ht:aJ 43 VX:=cq aA func43 .z 0
def Z4:ct xx:=⟨[.d (.sl af)],[.fresh af],λa=>Gd a.1,none⟩
theorem Z5:aJ 46 Z4:=cq aA func46 .z 0
def ajT:ct xx:=⟨[.d (.st SI.Lot)],[.d (.st SI.Lot)],λa=>PX a.1,none⟩
theorem ajU:aJ 18 ajT:=cq (au Ht (au Z5 aA)) func18 .z 0
def amN:ct xx:=⟨[.d (.sl (.st SI.Lot)),.d af],[.d (.st SI.Lot),.d .bool],λa=>za n a.1 a.2.1,none⟩
def amO:Hn SI:=(.s .z (.s (.s .z (.b (.lx ⟨[(10,.v af)],[],[1,4,8,9],[1000],1320,[]⟩ 0 ⟨[],[],[4],[1000],1320,[]⟩ .z))) .z))
theorem LG:aJ 7 (amN n):=cq (au ajU aA) func7 amO n
def amP:ct xx:=⟨[.d ax],[.d .bool],λa=>qC a.1,none⟩
theorem rU:aJ 86 amP:=cq aA func86 .z 0
def Z6:ct xx:=⟨[.nil,.d af],[.fresh ax],λa=>PY a.1 a.2.1,none⟩
theorem Z7:aJ 182 Z6:=cq aA func182 .z 0
def TD:ct xx:=⟨[.d (.sl (.sl ax))],[.fresh ax],λa=>Al n a.1,none⟩
def TF:Hn SI:=(cp (.s (.s .z (.b (.l ⟨[(3,.v af),(11,.v af)],[],[0,9,10],[],1320,[]⟩ 0 ⟨[(3,.v af)],[],[0],[],1320,[]⟩ .z))) (.s .z (.s (.s .z (.b (.l ⟨[(6,.o 1704),(27,.v af)],[(1704,.l ax)],[25,26],[],1705,[]⟩ 2 ⟨[(6,.o 1704)],[(1704,.l ax)],[],[],1705,[]⟩ .z))) .z))))
theorem TH:aJ 131 (TD n):=cq (au Z7 aA) func131 TF n
def abE:ct xx:=⟨[.mut af],[.mu af],λa=>mO n a.1,none⟩
theorem qp:aJ 50 (abE n):=by have hcall:fP Tryz.prog 50:=⟨_,func50,by kernel_rfl,by kernel_rfl⟩;refine A2 hcall (λ a r h=>?_) rfl;obtain⟨l,⟨⟩⟩:=a;exact al4 Tryz.so50 rfl hcall h
def TJ:ct xx:=⟨[.mut af],[.whole 0,.mu af],λa=>lF n a.1,none⟩
def TK:Hn SI:=(cp (.s (.s .z (.b (.lx ⟨[(3,.v af)],[],[0],[0],1320,[]⟩ 0 ⟨[],[],[0],[0],1320,[]⟩ (.s .z (.s (.b (.s .z (.s (.s .z (.s (.s .z (.b (.l ⟨[(3,.v af),(5,.v af)],[(0,.l af)],[0,4],[],2536,[]⟩ 2 ⟨[(3,.v af)],[(0,.l af)],[0],[],2536,[]⟩ (.s .z (.s (.j ⟨[(3,.v af)],[(0,.l af)],[0,4,5],[],2792,[]⟩ .z) .z))))) .z)) .z))) .z))))) .z))
theorem oW:aJ 51 (TJ n):=cq aA func51 TK n
def Od:ct xx:=⟨[.mut (.st SI.span),.en [.st SI.span,.st SI.span] af],[.mu (.st SI.span)],λa=>wO n a.1 a.2.1,none⟩
theorem Oe:aJ 183 (Od n):=by have hcall:fP Tryz.prog 183:=⟨_,func183,by kernel_rfl,by kernel_rfl⟩;refine A2 hcall (λ a r h=>?_) rfl;obtain⟨l,Z,⟨⟩⟩:=a;refine ac1 (X:=xx) (i:=SI.span) (hI:=(inferInstance:Inhabited aN)) Tryz.so183 rfl hcall Tryz.underlying212 (by kernel_rfl) (λ x t ht=>?_) h;cases x;have ht:t∈[_,_]:=ht;simp only[aG,aQ,or_false]at ht;rcases ht with rfl|rfl<;>exact⟨_,rfl,trivial⟩
def VY:ct xx:=⟨[.d af],[.d .bool],λa=>cmp_isNaN_int a.1,none⟩
theorem VZ:aJ 190 VY:=cq aA func190 .z 0
def QT:ct xx:=⟨[.d af,.d af],[.d af],λa=>cmp_Compare_int a.1 a.2.1,none⟩
theorem nI:aJ 150 QT:=cq (au VZ aA) func150 .z 0
def Z8:ct xx:=⟨[.d (.st SI.span),.d (.st SI.span)],[.d af],λa=>zb a.1 a.2.1,none⟩
theorem Z9:aJ 184 Z8:=cq (au nI aA) func184 .z 0
def ahF:ct xx:=⟨[.d (.sl ax),.d af],[.fresh (.st SI.span)],λa=>Lr n a.1 a.2.1,none⟩
def ahG:Hn SI:=(cp (.s (.s .z (.b (.l ⟨[(5,.o 1320),(14,.v af)],[(1320,.l (.st SI.span))],[1,12,13],[],1321,[(5,.st SI.span)]⟩ 0 ⟨[(5,.o 1320)],[(1320,.l (.st SI.span))],[],[],1321,[]⟩ (cp (.s (.j ⟨[(5,.o 1385)],[(1385,.l (.st SI.span))],[1,12,13,14],[],1386,[]⟩ (.b (.s .z (.s (.j ⟨[(27,.v .bool)],[],[1,5,7,12,13,14],[1320,1513],1641,[]⟩ .z) .z)))) .z))))) (cp (.s (.s .z (.b (.l ⟨[(8,.o 1705),(41,.v af)],[(1705,.l (.st SI.span))],[39,40],[1320],1706,[(8,.st SI.span)]⟩ 2 ⟨[(8,.o 1705)],[(1705,.l (.st SI.span))],[],[],1706,[]⟩ (cp (.s (.j ⟨[(8,.o 1770)],[(1770,.l (.st SI.span))],[39,40,41],[1320],1771,[]⟩ (.b (cp (.s (.j ⟨[(59,.v .bool)],[],[8,10,11,39,40,41],[1320,1705,1898],2218,[]⟩ .z) .z)))) .z))))) .z))))
theorem ahH:aJ 132 (ahF n):=cq (au (Oe n) (au Z9 aA)) func132 ahG n
def ahI:ct xx:=⟨[.d (.sl (.sl ax))],[.fresh (.st SI.strip)],λa=>qj n a.1,none⟩
def ahJ:Hn SI:=(jj (.s (.s .z (.b (.l ⟨[(4,.o 1512),(13,.v af)],[(1512,.l af)],[3,11,12],[1128],1513,[(4,af)]⟩ 0 ⟨[(4,.o 1512)],[(1512,.l af)],[3],[1128],1513,[]⟩ .z))) (jj (.s (.s .z (.b (.l ⟨[(7,.o 1961),(8,.v af)],[(1961,.l (.st SI.strip))],[3,4],[1128,1512],1962,[(7,.st SI.strip)]⟩ 2 ⟨[(7,.o 1961)],[(1961,.l (.st SI.strip))],[],[],1962,[]⟩ .z))) .z))))
theorem Vr:aJ 89 (ahI n):=cq (au (TH n) (au (qp n) (au (oW n) (au (ahH n) aA)))) func89 ahJ n
def V3:ct xx:=⟨[.d (.sl (.st SI.span)),.d (.sl (.st SI.span))],[.d .bool],λa=>xk n a.1 a.2.1,none⟩
def V4:Hn SI:=(cp (.s (.s .z (.b (.lx ⟨[(13,.v af)],[],[0,1,12],[],1576,[]⟩ 0 ⟨[],[],[],[],1576,[]⟩ .z))) .z))
theorem V5:aJ 130 (V3 n):=cq aA func130 V4 n
def ajV:ct xx:=⟨[.d (.sl (.st SI.strip))],[.fresh ax],λa=>JS n a.1,none⟩
def ajW:Hn SI:=(cp (.s (.s .z (.b (.l ⟨[(3,.o 1192),(4,.v af)],[(1192,.l ax)],[0],[],1193,[(3,ax)]⟩ 0 ⟨[(3,.o 1192)],[(1192,.l ax)],[],[],1193,[]⟩ (.s .z (.b (.s .z (.s (.b (.l ⟨[(5,.v af)],[],[0,3,4],[1192],1641,[]⟩ 2 ⟨[(5,.v af)],[],[0,3,4],[1192],1641,[]⟩ (.s (.s (.j ⟨[(30,.v .bool)],[],[0,3,4,5],[1192],1641,[]⟩ .z) .z) .z))) (.s (.s .z (.b (.l ⟨[(3,.o 2089),(39,.v af)],[(2089,.l ax)],[0,4,5,37,38],[],2090,[]⟩ 4 ⟨[(3,.o 2089)],[(2089,.l ax)],[0,5],[],2090,[]⟩ .z))) .z)))))))) .z))
theorem aac:aJ 88 (ajV n):=cq (au (V5 n) aA) func88 ajW n
def aeU:ct xx:=⟨[.d (.sl ax)],[.d (.sl ax),.d af],λa=>Am a.1,none⟩
theorem QU:aJ 87 aeU:=cq aA func87 .z 0
def aql:ct xx:=⟨[.d (.sl ax)],[.d (.sl ax),.d af],λa=>RK n a.1,none⟩
def aqm:Hn SI:=(.s .z (.s (.s .z (.b (.lx ⟨[(8,.v af)],[],[0,6,7],[],1320,[]⟩ 0 ⟨[],[],[0],[],1320,[]⟩ .z))) .z))
theorem aqn:aJ 47 (aql n):=cq (au rU (au (Vr n) (au (aac n) (au QU aA)))) func47 aqm n
def V6:ct xx:=⟨[.d (.sl ax),.d (.sl ax)],[.d .bool],λa=>nP n a.1 a.2.1,none⟩
def V7:Hn SI:=(cp (.s (.s .z (.b (.lx ⟨[(13,.v af)],[],[0,1,12],[],1576,[]⟩ 0 ⟨[],[],[],[],1576,[]⟩ .z))) .z))
theorem yN:aJ 42 (V6 n):=cq aA func42 V7 n
def ajX:ct xx:=⟨[.d (.sl ax)],[.d .bool],λa=>ko n a.1,none⟩
theorem lV:aJ 19 (ajX n):=cq (au (aqn n) (au (yN n) aA)) func19 .z n
def TM:ct xx:=⟨[.d (.sl (.st SI.ju))],[.fresh (.st SI.side)],λa=>qQ n a.1,none⟩
def TN:Hn SI:=(cp (.s (.s .z (.b (.l ⟨[(10,.v af)],[(1192,.l (.st SI.side))],[0,3,9],[],1512,[]⟩ 0 ⟨[],[(1192,.l (.st SI.side))],[3],[],1512,[]⟩ .z))) .z))
theorem EZ:aJ 223 (TM n):=cq aA func223 TN n
def TP:ct xx:=⟨[.d (.st SI.ju)],[.d .bool],λa=>vw a.1,none⟩
theorem TQ:aJ 246 TP:=cq aA func246 .z 0
def GU:ct xx:=⟨[.d (.st SI.side)],[.d .bool],λa=>iF a.1,none⟩
theorem vT:aJ 224 GU:=cq aA func224 .z 0
def aeV:ct xx:=⟨[.d (.sl af)],[.d af],λa=>wP n a.1,none⟩
def aeW:Hn SI:=(cp (.s (.s .z (.b (.lx ⟨[(8,.v af)],[],[3,6,7],[],1320,[]⟩ 0 ⟨[],[],[3],[],1320,[]⟩ .z))) .z))
theorem QV:aJ 193 (aeV n):=cq aA func193 aeW n
def QW:ct xx:=⟨[.d (.st SI.ju),.d (.st SI.ju)],[.d af],λa=>tK n a.1 a.2.1,none⟩
theorem QX:aJ 247 (QW n):=cq (au nI (au (QV n) aA)) func247 .z n
def GV:ct xx:=⟨[.d (.st SI.side),.d (.st SI.side)],[.d .bool],λa=>mQ a.1 a.2.1,none⟩
theorem GX:aJ 248 GV:=cq aA func248 .z 0
def V8:ct xx:=⟨[.d (.sl (.st SI.ju))],[.d .bool],λa=>xq n a.1,none⟩
def V9:Hn SI:=(.s .z (.s (.s (.j ⟨[(16,.v .bool)],[],[0],[],1064,[]⟩ .z) .z) (.s .z (.s (.s .z (.b (.lx ⟨[(21,.v af)],[],[0,3,19,20],[1128],1448,[]⟩ 0 ⟨[],[],[3],[1128],1448,[]⟩ (cp (.s (.b (cp (.s (.s (.j ⟨[(61,.v .bool)],[],[0,3,4,19,20,21],[1128],2536,[]⟩ .z) .z) (.s (.j ⟨[(74,.v .bool)],[],[0,3,19,20,21],[1128],2536,[]⟩ .z) .z)))) .z))))) (.s (.s .z (.b (.lx ⟨[(78,.v af)],[],[3,77],[1128],1640,[]⟩ 2 ⟨[],[],[3],[1128],1640,[]⟩ (cp (.s (.b (cp (.b (.lx ⟨[(8,.v af)],[],[3,7,77,78],[1128],2024,[]⟩ 4 ⟨[],[],[3,77,78],[1128],2024,[]⟩ (.s .z (.s (.b (.s (.j ⟨[(106,.v .bool)],[],[3,7,8,77,78],[1128],2280,[]⟩ .z) .z)) .z)))))) .z))))) .z)))))
theorem Wh:aJ 222 (V8 n):=cq (au (EZ n) (au TQ (au vT (au (QX n) (au GX aA))))) func222 V9 n
def TS:ct xx:=⟨[.d (.sl (.st SI.ju))],[.fresh ax,.d af],λa=>vz n a.1,none⟩
def TU:Hn SI:=(jj (.s (.s .z (.b (.l ⟨[(4,.o 1576),(19,.v af)],[(1576,.l af)],[0,17,18],[],1577,[(4,af)]⟩ 0 ⟨[(4,.o 1576)],[(1576,.l af)],[0],[],1577,[]⟩ .z))) (ra (.s (.s .z (.b (.l ⟨[(8,.o 2409),(38,.v af)],[(2409,.l ax)],[4,7,37],[1576,1961],2410,[(8,ax)]⟩ 2 ⟨[(8,.o 2409)],[(2409,.l ax)],[],[],2410,[]⟩ (cp (.s (.b (cp (.s (.s .z (.b (.l ⟨[(10,.o 2858),(43,.v af)],[(2858,.l af)],[4,7,8,9,37,38,41,42],[1576,1961,2409],2859,[(10,af)]⟩ 4 ⟨[(10,.o 2858)],[(2858,.l af)],[4,7,8,9,37,38],[1576,1961,2409],2859,[]⟩ (cp (.s (.j ⟨[(10,.o 2923)],[(2923,.l af)],[4,7,8,9,37,38,41,42,43],[1576,1961,2409],2924,[]⟩ (.b (.s .z (.s (.j ⟨[(77,.v .bool)],[],[4,7,8,9,10,12,37,38,41,42,43],[1576,1961,2409,2858,3051],3179,[]⟩ .z) .z)))) .z))))) (cp (.b (.l ⟨[(8,.o 3051),(13,.v af)],[(3051,.l ax)],[4,7,9,10,37,38],[1576,1961,2858],3052,[]⟩ 6 ⟨[(8,.o 3051)],[(3051,.l ax)],[4,7,37,38],[1576,1961],3052,[]⟩ .z)))))) .z))))) .z))))
theorem TW:aJ 194 (TS n):=cq (au (Wh n) (au (qp n) (au (oW n) (au (EZ n) (au vT aA))))) func194 TU n
def aad:ct xx:=⟨[.d bG],[.fresh ax],λa=>ze n a.1,none⟩
theorem aae:aJ 152 (aad n):=cq (au (TW n) aA) func152 .z n
def ahK:ct xx:=⟨[.d ax],[.d ax,.d .bool],λa=>zP a.1,none⟩
theorem Vs:aJ 82 ahK:=cq (au rU aA) func82 .z 0
def abF:ct xx:=⟨[.d ax,.d ax],[.d ax,.d .bool],λa=>uD a.1 a.2.1,none⟩
def abG:Hn SI:=(.s .z (.s (.s (.j ⟨[(13,.v .bool)],[],[2,3,4],[1000,1064,1128],1256,[]⟩ .z) .z) .z))
theorem Di:aJ 125 abF:=cq (au rU (au Vs aA)) func125 abG 0
def ao0:ct xx:=⟨[.d ax],[.d af],λa=>Ao a.1,none⟩
theorem KD:aJ 36 ao0:=cq (au Vs aA) func36 .z 0
def Wi:ct xx:=⟨[.d (.sl ax),.d (.sl ax)],[.d af,.d (.st SI.ju)],λa=>xu n a.1 a.2.1,none⟩
def Wj:Hn SI:=(cp (.s (.s .z (.b (.l ⟨[(6,.v af),(18,.v af)],[(1192,wa)],[1,5,7,16,17],[1064],1576,[]⟩ 0 ⟨[(6,.v af)],[(1192,wa)],[5,7],[1064],1576,[]⟩ (cp (.s (.b (cp (.b (.l ⟨[(6,.v af),(24,.v af)],[(1192,wa)],[1,5,7,9,16,17,18,22,23],[1064,1768],2088,[]⟩ 2 ⟨[(6,.v af)],[(1192,wa)],[1,5,7,16,17,18],[1064],2088,[]⟩ (cp (.s (.j ⟨[(6,.v af)],[(1192,wa)],[1,5,7,9,16,17,18,22,23,24],[1064,1768],2152,[]⟩ .z) .z)))))) .z))))) .z))
theorem Wl:aJ 151 (Wi n):=cq (au Di (au KD (au nI (au (QV n) aA)))) func151 Wj n
def Wm:ct xx:=⟨[.d (.st SI.lj),.d (.sl ax)],[.fresh af],λa=>xw n a.1 a.2.1,none⟩
def Wn:Hn SI:=(jj (.s (.s .z (.b (.l ⟨[(5,.o 1640),(16,.v af)],[(1640,.l af)],[1,14,15],[],1641,[(5,af)]⟩ 0 ⟨[(5,.o 1640)],[(1640,.l af)],[],[],1641,[]⟩ .z))) .z))
theorem Wo:aJ 100 (Wm n):=cq (au (lV n) (au (aae n) (au (Wl n) aA))) func100 Wn n
def ahL:ct xx:=⟨[.d (.st SI.lj),.d (.sl ax)],[.fresh .str],λa=>zQ n a.1 a.2.1,none⟩
def ahM:Hn SI:=(jj (.s (.s .z (.b (.l ⟨[(6,.v af),(17,.v af)],[],[2,5,15,16],[1000,1256],1640,[]⟩ 0 ⟨[(6,.v af)],[],[2,5],[1000,1256],1640,[]⟩ (cp (.s (.j ⟨[(6,.v af)],[],[2,5,15,16,17],[1000,1256],1704,[]⟩ (.b (.s .z (.s (.j ⟨[(44,.v .bool)],[],[2,5,6,7,15,16,17],[1000,1256],2024,[]⟩ .z) .z)))) .z))))) (.s .z (.s (.s .z (.b (.l ⟨[(9,.o 1896),(49,.v af)],[(1896,.l .str)],[2,6,47,48],[1000,1256],1897,[(9,.str)]⟩ 2 ⟨[(9,.o 1896)],[(1896,.l .str)],[],[],1897,[]⟩ (cp (.s (.j ⟨[(9,.o 1961)],[(1961,.l .str)],[2,6,47,48,49],[1000,1256],1962,[]⟩ (.b (.s .z (.s (.j ⟨[(68,.v .bool)],[],[2,6,9,10,47,48,49],[1000,1256,1896],2281,[]⟩ .z) .z)))) .z))))) .z))))
theorem Vt:aJ 60 (ahL n):=cq (au (Wo n) aA) func60 ahM n
def QY:ct xx:=⟨[.d (.sl .str),.d .str],[.d af],λa=>tL n a.1 a.2.1,none⟩
def QZ:Hn SI:=(.s .z (.s (.s .z (.b (.lx ⟨[(8,.v af)],[],[0,1,7],[],1256,[]⟩ 0 ⟨[],[],[],[],1256,[]⟩ .z))) .z))
theorem Q0:aJ 61 (QY n):=cq aA func61 QZ n
def KE:ct xx:=⟨[.d (.sl .str),.d .str],[.d .bool],λa=>gu n a.1 a.2.1,none⟩
theorem qZ:aJ 25 (KE n):=cq (au (Q0 n) aA) func25 .z n
def Og:ct xx:=⟨[.d .str,.ref (.sl .str)],[.d .bool],λa=>lg n a.1 a.2.1,none⟩
theorem Oh:aJ 101 (Og n):=cq (au (qZ n) aA) func101 .z n
def Ii:ct xx:=⟨[.d (.sl .str),.en [.str] .bool],[.d af],λa=>sD n a.1 a.2.1,none⟩
def Ij:Hn SI:=(.s .z (.s (.s .z (.b (.lx ⟨[(8,.v af)],[],[0,1,7],[],1256,[]⟩ 0 ⟨[],[],[],[],1256,[]⟩ .z))) .z))
theorem Ik:aJ 153 (Ii n):=cq aA func153 Ij n
def Dj:ct xx:=⟨[.d (.sl .str),.en [.str] .bool],[.d .bool],λa=>gG n a.1 a.2.1,none⟩
theorem Dk:aJ 102 (Dj n):=cq (au (Ik n) aA) func102 .z n
def Wp:ct xx:=⟨[.d aU,.d (.sl .str)],[.d .bool],λa=>sP n a.1 a.2.1,none⟩
theorem Wq:aJ 62 (Wp n):=cq (au (Dk n) (au (Oh n) aA)) func62 .z n
def aaf:ct xx:=⟨[.d (.st SI.lj),.d (.sl .str),.d af],[.fresh af],λa=>rO n a.1 a.2.1 a.2.2.1,none⟩
def aag:Hn SI:=(cp (.s (.s .z (.b (.l ⟨[(7,.o 1448),(13,.v af)],[(1448,.l af)],[1,2,11,12],[],1449,[(7,af)]⟩ 0 ⟨[(7,.o 1448)],[(1448,.l af)],[],[],1449,[]⟩ (cp (.s (.j ⟨[(7,.o 1513)],[(1513,.l af)],[1,2,11,12,13],[],1514,[]⟩ (.b (.s .z (.s (.j ⟨[(37,.v .bool)],[],[1,2,7,8,11,12,13],[1448],1897,[]⟩ .z) .z)))) .z))))) .z))
theorem KF:aJ 26 (aaf n):=cq (au (Wq n) aA) func26 aag n
def TY:ct xx:=⟨[.d (.st SI.kA),.d af,.d af],[.fresh aU],λa=>qR n a.1 a.2.1 a.2.2.1,none⟩
def T9:Hn SI:=(ra (.s (.s .z (.b (.l ⟨[(9,.o 2664),(31,.v af)],[(2664,.l aU)],[3,29,30],[1000,2472],2665,[(9,aU)]⟩ 0 ⟨[(9,.o 2664)],[(2664,.l aU)],[],[],2665,[]⟩ .z))) .z))
theorem E5:aJ 44 (TY n):=cq (au (LG n) (au (Vt n) (au (KF n) aA))) func44 T9 n
def Oi:ct xx:=⟨[.d aU],[.d af,.d .bool],λa=>rP a.1,none⟩
def Oj:Hn SI:=(.s .z (.s (.s (.j ⟨[(22,.v .bool)],[],[1],[1000],1192,[]⟩ .z) .z) (.s .z (.s (.j ⟨[(6,.v .bool)],[],[4],[1832],2088,[]⟩ .z) .z))))
theorem Ol:aJ 45 Oi:=cq aA func45 Oj 0
def LZ:ct xx:=⟨[.d (.st SI.kA),.d af,.d af],[.d af],λa=>mX n a.1 a.2.1 a.2.2.1,none⟩
def L6:Hn SI:=(cp (.s (.s .z (.b (.l ⟨[(7,.v af),(17,.v af)],[],[15,16],[1384],1576,[]⟩ 0 ⟨[(7,.v af)],[],[],[],1576,[]⟩ (cp (.s (.j ⟨[(7,.v af)],[],[15,16,17],[1384],1640,[]⟩ .z) .z))))) .z))
theorem yV:aJ 15 (LZ n):=cq (au (E5 n) (au Ol aA)) func15 L6 n
def ajY:ct xx:=⟨[.d (.sl ax),.d af],[.d .bool],λa=>Zc n a.1 a.2.1,none⟩
theorem ajZ:aJ 48 (ajY n):=cq (au (lV n) aA) func48 .z n
noncomputable def aah:ct xx:=⟨[.d (.sl ax),.d af],[.fresh (.st SI.sx)],λa=>JU a.1 a.2.1,none⟩
noncomputable abbrev tn(n:Int):AV:=.t (.sc (.int .i64 n))
noncomputable abbrev iR(l:U cZ):U (List AV):=aK (l.map EC)
noncomputable abbrev rZ(k:Nat)(s:dh):U AV:=[tn s.x0,tn s.x1,.own k 0 s.column.length]
noncomputable def iw:Nat->U dh->U (List AV)
 |_,[]=>[]
 |k,s::r=>rZ k s::iw (k+1) r
noncomputable def rK(pre:U dh):Nat->J aR:=λk=>if 2000<=k then(pre[k-2000]?).map λs=>⟨2,iR s.column⟩else none
noncomputable def fq(A:U aj)(d i:Int)(aa:AV):U (Nat×AV):=[(1,tn d),(5,aa),(10,.t (.sl (A.map kD))),(11,tn (A.length:Int)),(12,tn i)]
noncomputable def zt(A:U aj)(d i:Int):ft:=⟨fq A d i .cD,[],[]⟩
noncomputable def Ws(A:U aj)(d i:Int)(pre:U dh)(c:dh):ft:=
 ⟨fq A d i (.own 1000 0 (pre.length+1)),[(1000,some ⟨3,iw 2000 pre++[rZ 1001 c]⟩),(1001,some ⟨2,iR c.column⟩)],[]⟩
noncomputable def Wt(A:U aj)(d i:Int)(l:U dh):St:=
 match l.getLast? with
 |none=>(zt A d i).st (λ _=>none)
 |some c=>(Ws A d i l.dropLast c).st (rK l.dropLast)
noncomputable def cA:Code->Code
 |.seq a _=>a
 |.block _ c=>c
 |.loop c=>c
 |.cond _ a _=>a
 |c=>c
noncomputable def cB:Code->Code
 |.seq _ b=>b
 |.cond _ _ b=>b
 |c=>c
noncomputable def cO:Code->Array Oper
 |.region _ o _=>o
 |_=>#[]
noncomputable abbrev pZ:Code:=Tryz.f49.body.getD .skip
noncomputable abbrev hsB:Code:=cA (cA (cB (cA (cB (cB pZ)))))
noncomputable abbrev hsI:Code:=cA (cA (cB (cB hsB)))
noncomputable def td:kB:=⟨.none,[],[],false⟩
noncomputable def bx(r:aj):aR:=⟨4,[[tn r.x0,tn r.y0,tn r.x1,tn r.y1]]⟩
noncomputable def asg(r:aj):Nat->kB
 | 0=>⟨.sq (kD r),[],[],false⟩
 | 3=>⟨.none,[cE 2],[cE 2],false⟩
 |_=>td
theorem aqK{A:U aj}{d i:Int}{aa:AV}{O:U (Nat×Option aR)}{F:E}{r:aj}:
 Bp Tryz.prog (pV tab) (cO (cA hsI)) (asg r) F (List.range (cO (cA hsI)).size) ⟨fq A d i aa,O,[]⟩=
  some (⟨(7,.ptr (cE 2) 0 0)::(15,.agg [tn r.x0,tn r.y0,tn r.x1,tn r.y1])::(14,.eV (kD r) 0)::fq A d i aa,(cE 2,some (bx r))::(cE 2,some ⟨4,[[tn 0,tn 0,tn 0,tn 0]]⟩)::O,[(7,none),(15,none),(14,none)]⟩,
   [0<=i/\(A.map kD)[i.toNat]? =some (kD r)]):=by kernel_rfl
noncomputable abbrev jM(A:U aj)(d i:Int)(aa:AV):U (Nat×AV):=(7,.ptr 1002 0 0)::fq A d i aa
noncomputable abbrev Bi(A:U aj)(d i n:Int)(aa:AV):U (Nat×AV):=(8,tn n)::jM A d i aa
noncomputable abbrev hsO(r:aj)(K:U (List AV))(c:U cZ):U (Nat×Option aR):=[(1000,some ⟨3,K⟩),(1001,some ⟨2,iR c⟩),(1002,some (bx r))]
noncomputable abbrev hsJ:Code:=cB hsI
theorem arv{A:U aj}{d i:Int}{O:U (Nat×Option aR)}{F:E}:
 Bp Tryz.prog (pV tab) (cO (cA (cA hsJ))) (λ _=>td) F (List.range (cO (cA (cA hsJ))).size) ⟨jM A d i .cD,O,[]⟩=
  some (⟨(8,tn 0)::(17,tn 0)::(16,.cD)::jM A d i .cD,O,[(8,none),(17,none),(16,none)]⟩,[]):=by kernel_rfl
theorem ash{A:U aj}{d i:Int}{m:Nat}{O:U (Nat×Option aR)}{F:E}:
 Bp Tryz.prog (pV tab) (cO (cA (cA hsJ))) (λ _=>td) F (List.range (cO (cA (cA hsJ))).size) ⟨jM A d i (.own 1000 0 m),O,[]⟩=
  some (⟨(8,tn (m:Int))::(17,tn (m:Int))::(16,.own 1000 0 m)::jM A d i (.own 1000 0 m),O,[(8,none),(17,none),(16,none)]⟩,[]):=by kernel_rfl
noncomputable def aqL(c:dh):Nat->kB
 | 6=>⟨.none,[1000],[],false⟩
 | 8=>⟨.row (rZ 1001 c),[1000],[],false⟩
 | 10=>⟨.none,[1002],[],false⟩
 |_=>td
noncomputable abbrev yd:Code:=cA (cB (cA hsJ))
noncomputable abbrev bo(b:Bool):AV:=.t (.sc (.bool b))
theorem arw{A:U aj}{d i:Int}{O:U (Nat×Option aR)}{F:E}:
 Bp Tryz.prog (pV tab) (cO yd) (λ _=>td) F (List.range (cO yd).size) ⟨Bi A d i 0 .cD,O,[]⟩=
  some (⟨(30,bo true)::(29,.undef)::(28,.undef)::(27,.undef)::(26,.undef)::(25,.undef)::(24,.undef)::(23,.undef)::(22,.undef)::(21,.undef)::(20,bo true)::(19,bo true)::(18,tn 0)::Bi A d i 0 .cD,O,
   [(30,none),(29,some false),(28,some false),(27,some false),(26,some false),(25,some false),(24,some false),(23,some false),(22,some false),(21,some false),(20,none),(19,none),(18,none)]⟩,[true=false->false=true]):=by kernel_rfl
noncomputable abbrev rI(m:Nat):Int:=i64.wrap ((m:Int)-1)
theorem asi{A:U aj}{d i:Int}{m:Nat}{r:aj}{c:dh}{K:U (List AV)}{F:E}:
 Bp Tryz.prog (pV tab) (cO yd) (aqL c) F (List.range (cO yd).size) ⟨Bi A d i ((m+1:Nat):Int) (.own 1000 0 (m+1)),hsO r K c.column,[]⟩=
  some (⟨(30,bo (c.x0 !=r.x0))::(29,bo (c.x0 !=r.x0))::(28,tn r.x0)::(27,.ptr 1002 0 0)::(26,tn c.x0)::(25,.ptr 1000 (0+(rI (m+1)).toNat) 0)::(24,.ptr 1000 (0+(rI (m+1)).toNat) 0)::(23,tn (rI (m+1)))::(22,tn ((m+1:Nat):Int))::(21,.own 1000 0 (m+1))::(20,bo false)::(19,bo false)::(18,tn ((m+1:Nat):Int))::Bi A d i ((m+1:Nat):Int) (.own 1000 0 (m+1)),hsO r K c.column,
   [(30,none),(29,none),(28,none),(27,none),(26,none),(25,none),(24,none),(23,none),(22,none),(21,none),(20,none),(19,none),(18,none)]⟩,[0<=rI (m+1)/\(rI (m+1)).toNat<m+1,K[0+(rI (m+1)).toNat]? =some (rZ 1001 c)]):=by kernel_rfl
theorem asj{c:dh}:UE (cO yd) (aqL c)=true:=by kernel_rfl
theorem arx:UE (cO yd) (λ _=>td)=true:=by kernel_rfl
noncomputable abbrev xT:Code:=cA (cB (cB (cA hsJ)))
noncomputable def aqM(rs:U (List AV)):Nat->kB
 | 2=>⟨.none,[1002],[],false⟩
 | 4=>⟨.none,[1002],[],false⟩
 | 6=>⟨.row [],[],[],false⟩
 | 7=>⟨.rows rs,[1000,cE 6],[1000],false⟩
 |_=>td
noncomputable abbrev tu(r:aj):U AV:=[tn r.x0,tn r.x1,.cD]
theorem arz{A:U aj}{d i:Int}{r:aj}{F:E}:
 Bp Tryz.prog (pV tab) (cO xT) (aqM [tu r]) F (List.range (cO xT).size) ⟨jM A d i .cD,[(1002,some (bx r))],[]⟩=
  some (⟨(5,.own (cE 7) 0 1)::(38,.own (cE 7) 0 1)::(37,.own (cE 6) 0 1)::(36,.agg (tu r))::(35,tn r.x1)::(34,.ptr 1002 0 2)::(33,tn r.x0)::(32,.ptr 1002 0 0)::(31,.cD)::jM A d i .cD,
   (cE 7,some ⟨3,[tu r]⟩)::(cE 6,some ⟨3,[tu r]⟩)::[(1002,some (bx r))],
   [(5,none),(38,none),(37,none),(36,none),(35,none),(34,none),(33,none),(32,none),(31,none)]⟩,[True/\1=1/\[tu r]=[tu r]/\1*40<=140737488355328/\1<=maxLen]):=by kernel_rfl
theorem asl{A:U aj}{d i:Int}{m:Nat}{r:aj}{c:U cZ}{K:U (List AV)}{F:E}:
 Bp Tryz.prog (pV tab) (cO xT) (aqM (K++[tu r])) F (List.range (cO xT).size) ⟨jM A d i (.own 1000 0 m),hsO r K c,[]⟩=
  some (⟨(5,.own (cE 7) 0 (K++[tu r]).length)::(38,.own (cE 7) 0 (K++[tu r]).length)::(37,.own (cE 6) 0 1)::(36,.agg (tu r))::(35,tn r.x1)::(34,.ptr 1002 0 2)::(33,tn r.x0)::(32,.ptr 1002 0 0)::(31,.own 1000 0 m)::jM A d i (.own 1000 0 m),
   (cE 7,some ⟨3,K++[tu r]⟩)::(1000,none)::(cE 6,some ⟨3,[tu r]⟩)::hsO r K c,
   [(5,none),(38,none),(37,none),(36,none),(35,none),(34,none),(33,none),(32,none),(31,none)]⟩,[True/\K.length=m/\1=1/\K++[tu r]=K++[tu r]/\(m+1)*40<=140737488355328/\m+1<=maxLen]):=by kernel_rfl
noncomputable abbrev YY:Code:=cA (cB hsJ)
noncomputable def asn:Nat->kB
 | 1=>⟨.none,[1002],[],false⟩
 | 5=>⟨.none,[1002],[],false⟩
 |_=>td
noncomputable abbrev Dl(d:Int)(r:aj):Int:=i64.wrap (r.y0+d)
noncomputable abbrev Dm(d:Int)(r:aj):Int:=i64.wrap (r.y1-d)
theorem aso{A:U aj}{d i:Int}{m:Nat}{r:aj}{c:U cZ}{K:U (List AV)}{F:E}:
 Bp Tryz.prog (pV tab) (cO YY) asn F (List.range (cO YY).size) ⟨jM A d i (.own 1000 0 m),hsO r K c,[]⟩=
  some (⟨(47,bo (decide (Dl d r<Dm d r)))::(46,tn (Dm d r))::(45,tn d)::(44,tn r.y1)::(43,.ptr 1002 0 3)::(42,tn (Dl d r))::(41,tn d)::(40,tn r.y0)::(39,.ptr 1002 0 1)::jM A d i (.own 1000 0 m),hsO r K c,
   [(47,none),(46,none),(45,none),(44,none),(43,none),(42,none),(41,none),(40,none),(39,none)]⟩,[]):=by kernel_rfl
noncomputable abbrev On:Code:=cA (cB (cB hsJ))
noncomputable abbrev Ys:Code:=cA On
noncomputable abbrev PT:Code:=cB On
noncomputable def asq:Nat->kB
 | 4=>⟨.none,[1000],[],false⟩
 |_=>td
noncomputable abbrev hsP(m:Nat):AV:=.ptr 1000 (0+(rI m).toNat) 0
theorem asr{A:U aj}{d i:Int}{m:Nat}{r:aj}{c:U cZ}{K:U (List AV)}{F:E}:
 Bp Tryz.prog (pV tab) (cO Ys) asq F (List.range (cO Ys).size) ⟨jM A d i (.own 1000 0 m),hsO r K c,[]⟩=
  some (⟨(9,hsP m)::(52,hsP m)::(51,tn (rI m))::(50,tn (m:Int))::(49,.own 1000 0 m)::(48,.own 1000 0 m)::jM A d i (.own 1000 0 m),hsO r K c,
   [(9,none),(52,none),(51,none),(50,none),(49,none),(48,none)]⟩,[0<=rI m/\(rI m).toNat<m]):=by kernel_rfl
noncomputable def ao1(c:dh)(rs K3:U (List AV)):Nat->kB
 | 2=>⟨.ext 0,[],[],false⟩
 | 16=>⟨.ext 0,[],[],false⟩
 | 4=>⟨.row (rZ 1001 c),[1000],[],false⟩
 | 6=>⟨.none,[1002],[],false⟩
 | 10=>⟨.none,[1002],[],false⟩
 | 15=>⟨.rows rs,[1001,cE 14],[1001],false⟩
 | 18=>⟨.set (rZ 1001 c) K3,[1000],[1000],false⟩
 |_=>td
theorem arC{c:dh}{rs K3:U (List AV)}:UE (cO PT) (ao1 c rs K3)=true:=by kernel_rfl
noncomputable abbrev xl(d:Int)(r:aj):U AV:=[tn (Dl d r),tn (Dm d r)]
theorem arD{A:U aj}{d i:Int}{m:Nat}{r:aj}{c:dh}{K K3:U (List AV)}{F:E}:
 Bp Tryz.prog (pV tab) (cO PT) (ao1 c (iR c.column++[xl d r]) K3) F (List.range (cO PT).size) ⟨(9,hsP m)::jM A d i (.own 1000 0 m),hsO r K c.column,[]⟩=
  some (⟨(70,.ptr 1000 (0+(rI m).toNat) 2)::(69,hsP m)::(68,.own (cE 15) 0 (iR c.column++[xl d r]).length)::(67,.own (cE 14) 0 1)::(66,.agg (xl d r))::(65,tn (Dm d r))::(64,tn d)::(63,tn r.y1)::(62,.ptr 1002 0 3)::(61,tn (Dl d r))::(60,tn d)::(59,tn r.y0)::(58,.ptr 1002 0 1)::(57,.own 1001 0 c.column.length)::(56,.ptr 1000 (0+(rI m).toNat) 2)::(55,hsP m)::(54,hsP m)::(53,hsP m)::(9,hsP m)::jM A d i (.own 1000 0 m),
   (1000,some ⟨3,K3⟩)::(cE 15,some ⟨2,iR c.column++[xl d r]⟩)::(1001,none)::(cE 14,some ⟨2,[xl d r]⟩)::hsO r K c.column,
   [(70,none),(69,none),(68,none),(67,none),(66,none),(65,none),(64,none),(63,none),(62,none),(61,none),(60,none),(59,none),(58,none),(57,none),(56,none),(55,none),(54,none),(53,none)]⟩,
   [K[0+(rI m).toNat]? =some (rZ 1001 c),True/\(iR c.column).length=c.column.length/\1=1/\iR c.column++[xl d r]=iR c.column++[xl d r]/\(c.column.length+1)*16<=140737488355328/\c.column.length+1<=maxLen,
    K[0+(rI m).toNat]? =some (rZ 1001 c)/\K3=dZ (K.set (0+(rI m).toNat) (put' (rZ 1001 c) 2 [.own (cE 15) 0 (iR c.column++[xl d r]).length]))]):=by kernel_rfl
theorem iY{L' L2:ft}{F:E}(hE:∀p∈L2.env,(lk L'.ok p.1).join=none/\(lk L'.env p.1).getD .undef=p.2)
 (hO:∀j o',(L2.st F).obj j=some o'->(L'.st F).obj j=some o') (hok:L2.ok=[]) (old:nb (L2.st F)):Gb.Told (L'.st F) (L2.st F):=by
 refine Li (λ k=>k) (λ k=>k) (λ _=>True) (λ _ _=>rfl) (λ _ _=>rfl) (λ p hp=>?_) (λ j o' hj=>?_) hok old
 .obtain⟨h1,h2⟩:=hE p hp;exact⟨h1,λ_ _=>trivial,by rw[h2];exact aek _ λ_ _=>rfl⟩
 .refine⟨j,o',hO j o' hj,trivial,rfl,?_,λ_ _ _ _=>trivial⟩;obtain⟨sz,rows⟩:=o';simp only[xI];congr 1
  conv=>lhs;rw[<- List.map_id rows]
  exact map_congr_left λr _=>(oD r λ_ _=>rfl).symm
theorem kX:∀(l:U dh)(k:Nat),∀r∈iw k l,∀j∈cu r,k<=j/\j<k+l.length
 |[],_,r,hr,_,_=>by cases hr
 |s::l,k,r,hr,j,hj=>by
  simp only[iw,aG]at hr;rcases hr with rfl|hr
  .simp[cu,refs]at hj;subst hj;simp
  .have:=kX l (k+1) r hr j hj;simp only[eu];omega
theorem q8:∀(l:U dh)(k:Nat),(iw k l).length=l.length
 |[],_=>rfl
 |_::l,k=>by simp only[iw,eu,q8 l (k+1)]
theorem aaj:∀(l:U dh)(k:Nat)(c:dh),iw k (l++[c])=iw k l++[rZ (k+l.length) c]
 |[],k,c=>rfl
 |s::l,k,c=>by simp only[cons_append,iw,aaj l (k+1) c,eu];rw[show k+1+l.length=k+(l.length+1)by omega]
theorem ady:∀(l:U dh)(k:Nat),dZ (iw k l)=iw k l
 |[],_=>rfl
 |s::l,k=>by have:=ady l (k+1);simp only[dZ,iw,bK]at this |-;rw[this];rfl
theorem rV(l:U cZ):∀r∈iR l,∀j,j∉cu r:=by intro r hr j hj;simp only[aK,List.mem_map]at hr;obtain⟨q,⟨s,_,rfl⟩,rfl⟩:=hr;simp[EC,cu,refs]at hj
theorem E8{pre:U dh}{k:Nat}{o:aR}(h:rK pre k=some o):2000<=k/\k<2000+pre.length/\∃s,pre[k-2000]? =some s/\o=⟨2,iR s.column⟩:=by
 unfold rK at h;by_cases hk:2000<=k
 .rw[aM hk,sK]at h;obtain⟨s,h1,h2⟩:=h;have h3:=(dO.1 h1).1;exact⟨hk,by omega,s,h1,h2.symm⟩
 .rw[aC hk]at h;cases h
theorem amQ{r:U AV}{x:AV}(hx:x∈r):∀j∈refs x,j∈cu r:=λj hj=>by
 induction r with
 |nil=>cases hx
 |cons y ys ih=>
  simp only[cu,bD];rcases aG.1 hx with rfl|hx
  .exact .inl hj
  .exact .inr (ih hx)
theorem Dn{Φ:U (Nat×AV)}{O:U (Nat×Option aR)}{ok:U (Nat×Option Bool)}{F:E}(hE:∀p∈Φ,∀k∈refs p.2,k<1000000)
 (hO:∀p∈O,∀o,p.2=some o->p.1<1000000/\∀r∈o.rows,∀j∈cu r,j<1000000) (hF:∀k o,F k=some o->k<1000000/\∀r∈o.rows,∀j∈cu r,j<1000000):nb ((⟨Φ,O,ok⟩:ft).st F):=by
 refine⟨λ t k hk=>?_,λk o hk=>?_⟩
 .simp only[ft.st]at hk;cases h:lk Φ t with
  |none=>rw[h]at hk;simp[refs]at hk
  |some x=>rw[h]at hk;exact hE _ (o7 h) k hk
 .have:k<1000000/\∀r∈o.rows,∀j∈cu r,j<1000000:=by
   simp only[ft.st]at hk;cases h:lk O k with
   |none=>rw[h]at hk;exact hF k o hk
   |some x=>rw[h]at hk;exact hO _ (o7 h) o hk
  exact⟨this.1,λr hr x hx j hj=>this.2 r hr j (amQ hx j hj)⟩
theorem aeY{pre:U dh}(hp:pre.length<=500000):∀k o,rK pre k=some o->k<1000000/\∀r∈o.rows,∀j∈cu r,j<1000000:=by intro k o h;obtain⟨h1,h2,s,_,rfl⟩:=E8 h;exact⟨by omega,λr hr j hj=>(rV _ r hr j hj).elim⟩
theorem pU{A:U aj}{d i:Int}{aa:AV}{Φ:U (Nat×AV)}(hE:∀p∈Φ,∀k∈refs p.2,k<1000000)(ho:∀k∈refs aa,k<1000000):∀p∈Φ++fq A d i aa,∀k∈refs p.2,k<1000000:=by
 intro p hp k hk;rcases bD.1 hp with hp|hp
 .exact hE p hp k hk
 .simp only[fq,aG,aQ,or_false]at hp;rcases hp with rfl|rfl|rfl|rfl|rfl
  .simp[refs]at hk
  .exact ho k hk
  .simp[refs]at hk
  .simp[refs]at hk
  .simp[refs]at hk
noncomputable abbrev sE(Φ:U (Nat×AV))(r:aj)(pre:U dh)(c:dh):St:=(⟨Φ,hsO r (iw 2000 pre++[rZ 1001 c]) c.column,[]⟩:ft).st (rK pre)
noncomputable abbrev nJ(pre:U dh):AV:=.own 1000 0 (pre.length+1)
theorem Q5{A:U aj}{d i:Int}{Φ:U (Nat×AV)}{r:aj}{pre:U dh}{c:dh}(hE:∀p∈Φ,∀k∈refs p.2,k<1000000)(hp:pre.length<=500000):nb (sE (Φ++fq A d i (nJ pre)) r pre c):=by
 refine Dn (pU hE (by simp[refs])) (λ p hp' o ho=>?_) (aeY hp);simp only[hsO,aG,aQ,or_false]at hp';rcases hp' with rfl|rfl|rfl
 .cases ho;refine⟨by simp,λq hq j hj=>?_⟩;rcases bD.1 hq with hq|hq
  .have:=kX _ _ q hq j hj;omega
  .rw[aI]at hq;subst hq;simp[cu,refs]at hj;omega
 .cases ho;exact⟨by simp,λq hq j hj=>(rV _ q hq j hj).elim⟩
 .cases ho;refine⟨by simp,λq hq j hj=>?_⟩;simp only[bx,aI]at hq;subst hq;simp[cu,refs]at hj
theorem R2{m:Nat}(h:m<=500000):rI (m+1)=(m:Int):=by
 have e:((m+1:Nat):Int)-1=(m:Int):=by omega
 unfold rI;rw[e];exact Pw (by omega)
theorem Ua{A:U aj}{d i:Int}{r:aj}{pre:U dh}{c:dh}(hp:pre.length<=500000):nb (sE (jM A d i (nJ pre)) r pre c):=
 Q5 (Φ:=[(7,.ptr 1002 0 0)]) (λ p hp' k hk=>by simp only[aI]at hp';subst hp';simp[refs]at hk;omega) hp
theorem ae0{pre:U dh}{c:dh}(h:pre.length<=500000):(iw 2000 pre++[rZ 1001 c])[0+(rI (pre.length+1)).toNat]? =some (rZ 1001 c):=by rw[R2 h,Nat.zero_add,Int.toNat_natCast,jf (by rw[q8];omega),q8,Nat.sub_self];rfl
noncomputable abbrev Vu(A:U aj)(d i:Int)(pre:U dh)(c:dh):St:=(Ws A d i pre c).st (rK pre)
theorem uL{A:U aj}{d i:Int}{pre:U dh}{c:dh}(hp:pre.length<=500000):nb (Vu A d i pre c):=by
 refine Dn (pU (Φ:=[]) (λ p hp'=>by cases hp') (by simp[refs])) (λ p hp' o ho=>?_) (aeY hp);simp only[aG,aQ,or_false]at hp';rcases hp' with rfl|rfl
 .cases ho;refine⟨by simp,λq hq j hj=>?_⟩;rcases bD.1 hq with hq|hq
  .have:=kX _ _ q hq j hj;omega
  .rw[aI]at hq;subst hq;simp[cu,refs]at hj;omega
 .cases ho;exact⟨by simp,λq hq j hj=>(rV _ q hq j hj).elim⟩
theorem aak{Q:Exit->St->Prop}{A:U aj}{d i:Int}{r:aj}{pre:U dh}{c:dh}(hp:pre.length<=500000)(hc:c.column.length<=500000)
 (hq:Q .normal (Vu A d i pre (if Dl d r<Dm d r then⟨c.x0,c.x1,c.column++[⟨Dl d r,Dm d r⟩]⟩else c))):
 Ev Tryz.prog Tryz.f49.ntmps (cB hsJ) Q (sE (jM A d i (nJ pre)) r pre c):=by
 show Ev _ _ (Code.seq (cA (cB hsJ)) (cB (cB hsJ))) Q _;refine kC ?_;refine fZ (am:=cO YY) (σ2:=sE ((47,bo (decide (Dl d r<Dm d r)))::jM A d i (nJ pre)) r pre c) qP (by kernel_rfl) aso trivial ?_ ?_
 .refine iY (λ p hp'=>?_) (λ _ _ h=>h) rfl ?_
  .simp only[jM,fq,aG,aQ,or_false]at hp';rcases hp' with rfl|rfl|rfl|rfl|rfl|rfl|rfl<;>exact⟨rfl,rfl⟩
  .exact Q5 (Φ:=[(47,bo _),(7,.ptr 1002 0 0)]) (λ p hp' k hk=>by
    simp only[aG,aQ,or_false]at hp';rcases hp' with rfl|rfl
    .simp[refs]at hk
    .simp[refs]at hk;omega) hp
 show Ev _ _ (Code.cond (.tmp 47) (cA (cB (cB hsJ))) (cB (cB (cB hsJ)))) Q _;refine FO (decide (Dl d r<Dm d r)) (λ _ _=>rfl) rfl ?_;by_cases hlt:Dl d r<Dm d r
 .rw[aM hlt]at hq;rw[show decide (Dl d r<Dm d r)=true from decide_eq_true hlt];refine F8 (σ2:=sE (jM A d i (nJ pre)) r pre c) ?_ ?_
  .refine iY (λ p hp'=>?_) (λ _ _ h=>h) rfl (Ua hp);simp only[jM,fq,aG,aQ,or_false]at hp';rcases hp' with rfl|rfl|rfl|rfl|rfl|rfl<;>exact⟨rfl,rfl⟩
  show Ev _ _ (Code.seq (cA On) (cB On)) Q _;refine kC ?_;refine fZ (am:=cO Ys) (σ2:=sE ((9,hsP (pre.length+1))::jM A d i (nJ pre)) r pre c) qP (by kernel_rfl) asr (by rw[R2 hp];exact⟨by omega,by omega⟩) ?_ ?_
  .refine iY (λ p hp'=>?_) (λ _ _ h=>h) rfl ?_
   .simp only[jM,fq,aG,aQ,or_false]at hp';rcases hp' with rfl|rfl|rfl|rfl|rfl|rfl|rfl<;>exact⟨rfl,rfl⟩
   .exact Q5 (Φ:=[(9,hsP (pre.length+1)),(7,.ptr 1002 0 0)]) (λ p hp' k hk=>by
     simp only[aG,aQ,or_false]at hp';rcases hp' with rfl|rfl
     .simp[refs]at hk;omega
     .simp[refs]at hk;omega) hp
  have hl:(iR c.column).length=c.column.length:=by simp[aK]
  have hK3:dZ ((iw 2000 pre++[rZ 1001 c]).set (0+(rI (pre.length+1)).toNat) (put' (rZ 1001 c) 2 [.own (cE 15) 0 (iR c.column++[xl d r]).length]))=iw 2000 pre++[[tn c.x0,tn c.x1,.own (cE 15) 0 (c.column.length+1)]]:=by rw[R2 hp,Nat.zero_add,Int.toNat_natCast,List.set_append_right _ _ (by rw[q8];omega),q8,Nat.sub_self];have:=ady pre 2000;simp only[dZ]at this |-;rw[map_append,this,bW,hl];rfl
  refine Ns (am:=cO PT) (L':=_) (obs:=_) qP mixed (by kernel_rfl) arC arD ⟨ae0 hp,⟨trivial,hl,rfl,rfl,by omega,?_⟩,ae0 hp,hK3.symm⟩ ?_ hq
  .have:(500000:Nat)<maxLen:=(by decide);omega
  refine Li (λ k=>if k=cE 15 then 1001 else k) (λ k=>if k=1001 then cE 15 else k) (λ k=>k≠1001) (λ k hk=>?_) (λ j hj=>by rw[aC (by omega)]) (λ p hp'=>?_) (λ j o' hj=>?_) rfl (uL hp)
  .by_cases e:k=cE 15
   .rw[aM e,aM rfl,e]
   .rw[aC e,aC hk]
  .simp only[Ws,fq,aG,aQ,or_false]at hp';rcases hp' with rfl|rfl|rfl|rfl|rfl
   .exact⟨rfl,λk hk=>absurd (show k∈([]:U Nat)from hk) (aQ),rfl⟩
   .exact⟨rfl,λk hk=>by have:=aI.1 (show k∈[1000]from hk);omega,rfl⟩
   .exact⟨rfl,λk hk=>absurd (show k∈([]:U Nat)from hk) (aQ),rfl⟩
   .exact⟨rfl,λk hk=>absurd (show k∈([]:U Nat)from hk) (aQ),rfl⟩
   .exact⟨rfl,λk hk=>absurd (show k∈([]:U Nat)from hk) (aQ),rfl⟩
  .simp only[Ws,ft.st,lk]at hj;by_cases e0:1000=j
   .rw[aM e0]at hj;injection hj with hj;subst e0 hj;refine⟨1000,_,rfl,by omega,rfl,?_,λq hq k hk=>?_⟩
    .simp only[xI];have hf:(iw 2000 pre).map (vY λk=>if k=cE 15 then 1001 else k)=iw 2000 pre:=by
      have:∀q∈iw 2000 pre,vY (λ k=>if k=cE 15 then 1001 else k) q=q:=λq hq=>oD q λk hk=>aC (by have:=kX _ _ q hq k hk;simp only[cE];omega)
      conv=>rhs;rw[<- List.map_id (iw 2000 pre)]
      exact map_congr_left this
     rw[map_append,hf];simp only[rZ,bW,eu,length_nil,Nat.zero_add];rfl
    .rcases bD.1 hq with hq|hq
     .have:=kX _ _ q hq k hk;omega
     .rw[aI]at hq;subst hq;simp[cu,refs,cE]at hk;omega
   .rw[aC e0]at hj;by_cases e1:1001=j
    .rw[aM e1]at hj;injection hj with hj;subst e1 hj;have hsp:iR (c.column++[⟨Dl d r,Dm d r⟩])=iR c.column++[xl d r]:=(by simp only[aK,map_append];rfl);refine⟨cE 15,⟨2,iR c.column++[xl d r]⟩,rfl,by simp[cE],rfl,?_,λq hq k hk=>?_⟩
     .simp only[xI];rw[<- hsp];congr 1
      conv=>lhs;rw[<- List.map_id (iR _)]
      exact map_congr_left λq hq=>(oD q λk hk=>(rV _ q hq k hk).elim).symm
     .rw[<- hsp]at hq;exact(rV _ q hq k hk).elim
    .rw[aC e1]at hj;obtain⟨h1,h2,s,h3,rfl⟩:=E8 hj;have hn:j≠cE 15:=(by simp only[cE];omega);have hn':j≠cE 14:=(by simp only[cE];omega);refine⟨j,⟨2,iR s.column⟩,?_,λe=>e1 e.symm,aC hn,?_,λq hq k hk=>(rV _ q hq k hk).elim⟩
     .simp only[ft.st,lk];rw[aC e0,aC (Ne.symm hn),aC e1,aC (Ne.symm hn')];rw[aC e0,aC e1,aC (by omega)];exact hj
     .simp only[xI];congr 1
      conv=>lhs;rw[<- List.map_id (iR _)]
      exact map_congr_left λq hq=>(oD q λk hk=>(rV _ q hq k hk).elim).symm
 .rw[aC hlt]at hq;rw[show decide (Dl d r<Dm d r)=false from decide_eq_false hlt];refine F8 (σ2:=Vu A d i pre c) ?_ (OZ hq);refine iY (λ p hp'=>?_) (λ j o' hj=>?_) rfl (uL hp)
  .simp only[Ws,fq,aG,aQ,or_false]at hp';rcases hp' with rfl|rfl|rfl|rfl|rfl<;>exact⟨rfl,rfl⟩
  .simp only[Ws,ft.st,lk]at hj |-;by_cases e:1002=j
   .subst e;simp[rK]at hj
   .rw[aC e];exact hj
theorem ao2{Q:Exit->St->Prop}{cd:Code}{A:U aj}{d i:Int}{r:aj}{pre:U dh}(_hp:pre.length<=500000)
 (hq:Ev Tryz.prog Tryz.f49.ntmps cd Q (sE (jM A d i (nJ pre)) r pre ⟨r.x0,r.x1,[]⟩)):
 Ev Tryz.prog Tryz.f49.ntmps cd Q ((⟨jM A d i (nJ pre),[(1000,some ⟨3,iw 2000 pre++[tu r]⟩),(1002,some (bx r))],[]⟩:ft).st (rK pre)):=by
 refine alY (σ2:=sE (jM A d i (nJ pre)) r pre ⟨r.x0,r.x1,[]⟩) (K:=1000) (k0:=1001) (sz:=3) (N4:=2) (R:=iw 2000 pre) (q:=[tn r.x0,tn r.x1]) (by omega) (by omega) (by omega) rfl (λ t=>?_) (λ k o hk=>?_) rfl rfl (λ k=>?_) (λ _=>rfl) hq
 .intro hk;simp only[ft.st]at hk;cases h:lk (jM A d i (nJ pre)) t with
  |none=>rw[h]at hk;simp[refs]at hk
  |some x=>
   rw[h]at hk;have:=o7 h;simp only[jM,fq,aG,aQ,or_false,Prod.mk.injEq]at this;rcases this with ⟨_,rfl⟩|⟨_,rfl⟩|⟨_,rfl⟩|⟨_,rfl⟩|⟨_,rfl⟩|⟨_,rfl⟩<;>simp[refs]at hk
 .simp only[ft.st,lk]at hk;by_cases e0:1000=k
  .rw[aM e0]at hk;injection hk with hk;subst e0 hk;refine⟨by omega,λq hq hk=>?_⟩;rcases bD.1 hq with hq|hq
   .have:=kX _ _ q hq _ hk;omega
   .rw[aI]at hq;subst hq;simp[cu,refs]at hk
  .rw[aC e0]at hk;by_cases e2:1002=k
   .rw[aM e2]at hk;injection hk with hk;subst e2 hk;refine⟨by omega,λq hq hk=>?_⟩;simp only[bx,aI]at hq;subst hq;simp[cu,refs]at hk
   .rw[aC e2]at hk;obtain⟨h1,_,s,_,rfl⟩:=E8 hk;exact⟨by omega,λq hq hk=>rV _ q hq _ hk⟩
 .simp only[sE,ft.st,lk];by_cases e1:k=1001
  .subst e1;simp[aK]
  .rw[aC e1];by_cases e0:k=1000
   .subst e0;rfl
   .rw[aC e0,aC (Ne.symm e0),aC (Ne.symm e1),aC (Ne.symm e0)]
theorem Q6{A:U aj}{d i:Int}{Φ:U (Nat×AV)}{r:aj}(hE:∀p∈Φ,∀k∈refs p.2,k<1000000):nb ((⟨Φ++fq A d i .cD,[(1002,some (bx r))],[]⟩:ft).st λ_=>none):=by refine Dn (pU hE (by simp[refs])) (λ p hp' o ho=>?_) (λ k o h=>by cases h);rw[aI]at hp';subst hp';cases ho;refine⟨by simp,λq hq j hj=>?_⟩;simp only[bx,aI]at hq;subst hq;simp[cu,refs]at hj
theorem alk{A:U aj}{d i:Int}{r:aj}{pre:U dh}(hp:pre.length<=500000):nb ((⟨jM A d i (nJ pre),[(1000,some ⟨3,iw 2000 pre++[tu r]⟩),(1002,some (bx r))],[]⟩:ft).st (rK pre)):=by
 refine Dn (pU (Φ:=[(7,.ptr 1002 0 0)]) (λ p hp' k hk=>by rw[aI]at hp';subst hp';simp[refs]at hk;omega) (by simp[refs])) (λ p hp' o ho=>?_) (aeY hp);simp only[aG,aQ,or_false]at hp';rcases hp' with rfl|rfl
 .cases ho;refine⟨by simp,λq hq j hj=>?_⟩;rcases bD.1 hq with hq|hq
  .have:=kX _ _ q hq j hj;omega
  .rw[aI]at hq;subst hq;simp[cu,refs]at hj
 .cases ho;refine⟨by simp,λq hq j hj=>?_⟩;simp only[bx,aI]at hq;subst hq;simp[cu,refs]at hj
theorem amR{cd:Code}{Q:Exit->St->Prop}{A:U aj}{d i:Int}{r:aj}
 (hq:Ev Tryz.prog Tryz.f49.ntmps cd Q (sE (jM A d i (nJ [])) r [] ⟨r.x0,r.x1,[]⟩)):
 Ev Tryz.prog Tryz.f49.ntmps (cA hsJ) (HM (Ev Tryz.prog Tryz.f49.ntmps cd Q) Q) ((⟨jM A d i .cD,[(1002,some (bx r))],[]⟩:ft).st λ_=>none):=by
 show Ev _ _ (Code.seq (cA (cA hsJ)) (Code.seq yd (cB (cB (cA hsJ))))) _ _;refine kC ?_;refine fZ (am:=cO (cA (cA hsJ))) (σ2:=(⟨Bi A d i 0 .cD,[(1002,some (bx r))],[]⟩:ft).st λ_=>none) qP (by kernel_rfl) arv trivial ?_ ?_
 .refine iY (λ p hp'=>?_) (λ _ _ h=>h) rfl (Q6 (Φ:=[(8,tn 0),(7,.ptr 1002 0 0)]) λp hp' k hk=>?_)
  .simp only[Bi,jM,fq,aG,aQ,or_false]at hp';rcases hp' with rfl|rfl|rfl|rfl|rfl|rfl|rfl<;>exact⟨rfl,rfl⟩
  .simp only[aG,aQ,or_false]at hp';rcases hp' with rfl|rfl
   .simp[refs]at hk
   .simp[refs]at hk;omega
 refine kC ?_;refine Ns (am:=cO yd) (σ2:=(⟨(30,bo true)::jM A d i .cD,[(1002,some (bx r))],[]⟩:ft).st λ_=>none) qP mixed (by kernel_rfl) arx arw (λ h=>by cases h) ?_ ?_
 .refine iY (λ p hp'=>?_) (λ _ _ h=>h) rfl (Q6 (Φ:=[(30,bo true),(7,.ptr 1002 0 0)]) λp hp' k hk=>?_)
  .simp only[jM,fq,aG,aQ,or_false]at hp';rcases hp' with rfl|rfl|rfl|rfl|rfl|rfl|rfl<;>exact⟨rfl,rfl⟩
  .simp only[aG,aQ,or_false]at hp';rcases hp' with rfl|rfl
   .simp[refs]at hk
   .simp[refs]at hk;omega
 show Ev _ _ (Code.cond (.tmp 30) xT (cB (cB (cB (cA hsJ))))) _ _;refine FO true (λ _ _=>rfl) rfl ?_;refine F8 (σ2:=(⟨jM A d i .cD,[(1002,some (bx r))],[]⟩:ft).st λ_=>none) ?_ ?_
 .refine iY (λ p hp'=>?_) (λ _ _ h=>h) rfl (Q6 (Φ:=[(7,.ptr 1002 0 0)]) λp hp' k hk=>?_)
  .simp only[jM,fq,aG,aQ,or_false]at hp';rcases hp' with rfl|rfl|rfl|rfl|rfl|rfl<;>exact⟨rfl,rfl⟩
  .rw[aI]at hp';subst hp';simp[refs]at hk;omega
 show Ev _ _ (Code.region _ (cO xT) false) _ _;refine fZ (am:=cO xT) (σ2:=(⟨jM A d i (nJ []),[(1000,some ⟨3,iw 2000 []++[tu r]⟩),(1002,some (bx r))],[]⟩:ft).st (rK [])) qP (by kernel_rfl) arz ⟨trivial,rfl,rfl,by omega,by decide⟩ ?_ (ao2 (by simp) hq);refine Li (λ k=>if k=cE 7 then 1000 else k) (λ k=>if k=1000 then cE 7 else k) (λ k=>k≠1000) (λ k hk=>?_) (λ j hj=>by rw[aC (by omega)]) (λ p hp'=>?_) (λ j o' hj=>?_) rfl (alk (by simp))
 .by_cases e:k=cE 7
  .rw[aM e,aM rfl,e]
  .rw[aC e,aC hk]
 .simp only[jM,fq,aG,aQ,or_false]at hp';rcases hp' with rfl|rfl|rfl|rfl|rfl|rfl
  .exact⟨rfl,λk hk=>by have:=aI.1 (show k∈[1002]from hk);omega,rfl⟩
  .exact⟨rfl,λk hk=>absurd (show k∈([]:U Nat)from hk) (aQ),rfl⟩
  .exact⟨rfl,λk hk=>by have:=aI.1 (show k∈[cE 7]from hk);simp only[cE]at this;omega,rfl⟩
  .exact⟨rfl,λk hk=>absurd (show k∈([]:U Nat)from hk) (aQ),rfl⟩
  .exact⟨rfl,λk hk=>absurd (show k∈([]:U Nat)from hk) (aQ),rfl⟩
  .exact⟨rfl,λk hk=>absurd (show k∈([]:U Nat)from hk) (aQ),rfl⟩
 .simp only[ft.st,lk]at hj;by_cases e0:1000=j
  .rw[aM e0]at hj;injection hj with hj;subst e0 hj;refine⟨cE 7,⟨3,[tu r]⟩,rfl,by simp[cE],rfl,rfl,λq hq k hk=>?_⟩;rw[aI]at hq;subst hq;simp[cu,refs]at hk
  .rw[aC e0]at hj;by_cases e2:1002=j
   .rw[aM e2]at hj;injection hj with hj;subst e2 hj;refine⟨1002,bx r,rfl,by omega,rfl,rfl,λq hq k hk=>?_⟩;simp only[bx,aI]at hq;subst hq;simp[cu,refs]at hk
   .rw[aC e2]at hj;obtain⟨h1,h2,_⟩:=E8 hj;simp at h2;omega
theorem ao3{cd:Code}{Q:Exit->St->Prop}{A:U aj}{d i:Int}{r:aj}{pre:U dh}{c:dh}(hp:pre.length+1<=500000)
 (hq:Ev Tryz.prog Tryz.f49.ntmps cd Q (if c.x0=r.x0 then sE (jM A d i (nJ pre)) r pre c else sE (jM A d i (nJ (pre++[c]))) r (pre++[c]) ⟨r.x0,r.x1,[]⟩)):
 Ev Tryz.prog Tryz.f49.ntmps (cA hsJ) (HM (Ev Tryz.prog Tryz.f49.ntmps cd Q) Q) (sE (jM A d i (nJ pre)) r pre c):=by
 have hp':pre.length<=500000:=by omega
 show Ev _ _ (Code.seq (cA (cA hsJ)) (Code.seq yd (cB (cB (cA hsJ))))) _ _;refine kC ?_;refine fZ (am:=cO (cA (cA hsJ))) (σ2:=sE (Bi A d i ((pre.length+1:Nat):Int) (nJ pre)) r pre c) qP (by kernel_rfl) ash trivial ?_ ?_
 .refine iY (λ p hp'=>?_) (λ _ _ h=>h) rfl (Q5 (Φ:=[(8,tn ((pre.length+1:Nat):Int)),(7,.ptr 1002 0 0)]) (λ p hp' k hk=>?_) hp')
  .simp only[Bi,jM,fq,aG,aQ,or_false]at hp';rcases hp' with rfl|rfl|rfl|rfl|rfl|rfl|rfl<;>exact⟨rfl,rfl⟩
  .simp only[aG,aQ,or_false]at hp';rcases hp' with rfl|rfl
   .simp[refs]at hk
   .simp[refs]at hk;omega
 refine kC ?_;refine Ns (am:=cO yd) (σ2:=sE ((30,bo (c.x0 !=r.x0))::jM A d i (nJ pre)) r pre c) qP mixed (by kernel_rfl) asj asi ⟨by rw[R2 hp'];exact⟨by omega,by omega⟩,ae0 hp'⟩ ?_ ?_
 .refine iY (λ p hp'=>?_) (λ _ _ h=>h) rfl (Q5 (Φ:=[(30,bo (c.x0 !=r.x0)),(7,.ptr 1002 0 0)]) (λ p hp' k hk=>?_) hp')
  .simp only[jM,fq,aG,aQ,or_false]at hp';rcases hp' with rfl|rfl|rfl|rfl|rfl|rfl|rfl<;>exact⟨rfl,rfl⟩
  .simp only[aG,aQ,or_false]at hp';rcases hp' with rfl|rfl
   .simp[refs]at hk
   .simp[refs]at hk;omega
 show Ev _ _ (Code.cond (.tmp 30) xT (cB (cB (cB (cA hsJ))))) _ _;refine FO (c.x0 !=r.x0) (λ _ _=>rfl) rfl ?_;refine F8 (σ2:=sE (jM A d i (nJ pre)) r pre c) ?_ ?_
 .refine iY (λ p hp'=>?_) (λ _ _ h=>h) rfl (Ua hp');simp only[jM,fq,aG,aQ,or_false]at hp';rcases hp' with rfl|rfl|rfl|rfl|rfl|rfl<;>exact⟨rfl,rfl⟩
 by_cases e:c.x0=r.x0
 .rw[aM e]at hq;rw[show (c.x0 !=r.x0)=false by simp[e]];exact OZ hq
 rw[aC e]at hq;rw[show (c.x0 !=r.x0)=true by simp[e]];show Ev _ _ (Code.region _ (cO xT) false) _ _;have hpl:(pre++[c]).length=pre.length+1:=by simp
 refine fZ (am:=cO xT) (σ2:=(⟨jM A d i (nJ (pre++[c])),[(1000,some ⟨3,iw 2000 (pre++[c])++[tu r]⟩),(1002,some (bx r))],[]⟩:ft).st (rK (pre++[c]))) qP (by kernel_rfl) asl
  ⟨trivial,by rw[bW,q8];rfl,rfl,rfl,by omega,?_⟩ ?_ (ao2 (by omega) hq)
 .have:(500000:Nat)<maxLen:=by decide
  omega
 refine Li (λ k=>if k=cE 7 then 1000 else if k=1001 then 2000+pre.length else k) (λ k=>if k=1000 then cE 7 else if k=2000+pre.length then 1001 else k) (λ k=>k≠1000/\k≠2000+pre.length)
  (λ k hk=>?_) (λ j hj=>by rw[aC (by omega),aC (by omega)]) (λ p hp'=>?_) (λ j o' hj=>?_) rfl (alk (by omega))
 .by_cases e1:k=cE 7
  .rw[aM e1,aM rfl,e1]
  .rw[aC e1];by_cases e2:k=1001
   .rw[aM e2,aC (by omega),aM rfl,e2]
   .rw[aC e2,aC hk.1,aC hk.2]
 .simp only[jM,fq,aG,aQ,or_false]at hp';rcases hp' with rfl|rfl|rfl|rfl|rfl|rfl
  .exact⟨rfl,λk hk=>by have:=aI.1 (show k∈[1002]from hk);omega,rfl⟩
  .exact⟨rfl,λk hk=>absurd (show k∈([]:U Nat)from hk) (aQ),rfl⟩
  .refine⟨rfl,λk hk=>by have:=aI.1 (show k∈[cE 7]from hk);simp only[cE]at this;omega,?_⟩;show AV.own 1000 0 (iw 2000 pre++[rZ 1001 c]++[tu r]).length=AV.own 1000 0 ((pre++[c]).length+1);simp only[bW,q8,eu,length_nil,Nat.zero_add]
  .exact⟨rfl,λk hk=>absurd (show k∈([]:U Nat)from hk) (aQ),rfl⟩
  .exact⟨rfl,λk hk=>absurd (show k∈([]:U Nat)from hk) (aQ),rfl⟩
  .exact⟨rfl,λk hk=>absurd (show k∈([]:U Nat)from hk) (aQ),rfl⟩
 .simp only[ft.st,lk]at hj;by_cases e0:1000=j
  .rw[aM e0]at hj;injection hj with hj;subst e0 hj;refine⟨cE 7,⟨3,iw 2000 pre++[rZ 1001 c]++[tu r]⟩,rfl,⟨by simp[cE],by simp only[cE];omega⟩,rfl,?_,λq hq k hk=>?_⟩
   .simp only[xI];congr 1;rw[map_append,map_append,aaj];congr 1;congr 1
    conv=>lhs;rw[<- List.map_id (iw 2000 pre)]
    exact map_congr_left λq hq=>(oD q λk hk=>by have:=kX _ _ q hq k hk;rw[aC (by simp only[cE];omega),aC (by omega)]).symm
   .rcases bD.1 hq with hq|hq
    .rcases bD.1 hq with hq|hq
     .have:=kX _ _ q hq k hk;omega
     .rw[aI]at hq;subst hq;simp[cu,refs]at hk;omega
    .rw[aI]at hq;subst hq;simp[cu,refs]at hk
  .rw[aC e0]at hj;by_cases e2:1002=j
   .rw[aM e2]at hj;injection hj with hj;subst e2 hj;refine⟨1002,bx r,rfl,by omega,rfl,rfl,λq hq k hk=>?_⟩;simp only[bx,aI]at hq;subst hq;simp[cu,refs]at hk
   .rw[aC e2]at hj;obtain⟨h1,h2,s,h3,rfl⟩:=E8 hj;have hrn:∀f:Nat->Nat,(⟨2,iR s.column⟩:aR)=xI f ⟨2,iR s.column⟩:=λf=>by
     simp only[xI];congr 1
     conv=>lhs;rw[<- List.map_id (iR _)]
     exact map_congr_left λq hq=>(oD q λk hk=>(rV _ q hq k hk).elim).symm
    by_cases e3:j=2000+pre.length
    .have hs:s=c:=(by rw[e3,Nat.add_sub_cancel_left,jf (aB _),Nat.sub_self]at h3;injection h3 with h3;exact h3.symm);subst hs;exact⟨1001,_,rfl,by omega,by rw[aC (by simp[cE]),aM rfl,e3],hrn _,λq hq k hk=>(rV _ q hq k hk).elim⟩
    .have hjl:j-2000<pre.length:=(by rw[hpl]at h2;omega);rw[List.getElem?_append_left hjl]at h3;have hjn:j<600000:=(by rw[hpl]at h2;omega);refine⟨j,⟨2,iR s.column⟩,?_,⟨by omega,e3⟩,by rw[aC (by simp only[cE];omega),aC (by omega)],hrn _,λq hq k hk=>(rV _ q hq k hk).elim⟩;simp only[ft.st,lk];rw[aC (by simp only[cE];omega),aC e0,aC (by simp only[cE];omega),aC e0,aC (by omega),aC e2];show rK pre j=_;unfold rK;rw[aM h1,h3];rfl
theorem ahO{A:U aj}{d i:Int}:Wt A d i []=(zt A d i).st λ_=>none:=rfl
theorem AR{A:U aj}{d i:Int}{pre:U dh}{c:dh}:Wt A d i (pre++[c])=Vu A d i pre c:=by unfold Wt;simp
theorem aal{A:U aj}{d i:Int}:nb ((zt A d i).st λ_=>none):=
 Dn (pU (Φ:=[]) (λ p hp'=>by cases hp') (by simp[refs])) (λ p hp'=>by cases hp') (λ k o h=>by cases h)
theorem ao4{A:U aj}{d i:Int}{aa:AV}{O:U (Nat×Option aR)}{F:E}:
 Bp Tryz.prog (pV tab) (cO (cA hsB)) (λ _=>td) F (List.range (cO (cA hsB)).size) ⟨fq A d i aa,O,[]⟩=
  some (⟨(13,bo (decide (i<(A.length:Int))))::fq A d i aa,O,[(13,none)]⟩,[]):=by kernel_rfl
theorem arE{A:U aj}{d i:Int}{aa:AV}{O:U (Nat×Option aR)}{F:E}:
 Bp Tryz.prog (pV tab) (cO (cB (cB (cB hsB)))) (λ _=>td) F (List.range (cO (cB (cB (cB hsB)))).size) ⟨fq A d i aa,O,[]⟩=
  some (⟨(12,tn (i64.wrap (i+1)))::(71,tn (i64.wrap (i+1)))::fq A d i aa,O,[(12,none),(71,none)]⟩,[]):=by kernel_rfl
theorem ae1{Q:Exit->St->Prop}{A:U aj}{d:Int}{k:Nat}{pre:U dh}{c:dh}(hk:k<600000)(hp:pre.length<=500000)(hq:Q .normal (Vu A d ((k+1:Nat):Int) pre c)):
 Ev Tryz.prog Tryz.f49.ntmps (cB (cB (cB hsB))) Q (Vu A d (k:Int) pre c):=by
 show Ev _ _ (Code.region _ (cO (cB (cB (cB hsB)))) false) _ _;refine fZ (am:=cO (cB (cB (cB hsB)))) qP (by kernel_rfl) arE trivial ?_ hq;refine iY (λ p hp'=>?_) (λ _ _ h=>h) rfl (uL hp);simp only[Ws,fq,aG,aQ,or_false]at hp';rcases hp' with rfl|rfl|rfl|rfl|rfl
 .exact⟨rfl,rfl⟩
 .exact⟨rfl,rfl⟩
 .exact⟨rfl,rfl⟩
 .exact⟨rfl,rfl⟩
 .refine⟨rfl,?_⟩;show tn (i64.wrap ((k:Int)+1))=tn ((k+1:Nat):Int);rw[aX (by omega)]
theorem ao5{Q:Exit->St->Prop}{A:U aj}{d:Int}{k:Nat}{r:aj}{pre:U dh}{c:dh}(hr:A[k]? =some r)(hp:pre.length<=500000)
 (hq:Ev Tryz.prog Tryz.f49.ntmps hsJ Q (sE (jM A d (k:Int) (nJ pre)) r pre c)):Ev Tryz.prog Tryz.f49.ntmps hsI Q (Vu A d (k:Int) pre c):=by
 show Ev _ _ (Code.seq (cA hsI) hsJ) _ _;refine kC ?_;refine fZ (am:=cO (cA hsI)) qP (by kernel_rfl) (aqK (r:=r)) ⟨by omega,by rw[Int.toNat_natCast,List.getElem?_map,hr];rfl⟩ ?_ hq;refine Li (λ k=>if k=cE 2 then 1002 else k) (λ k=>if k=1002 then cE 2 else k) (λ k=>k≠1002) (λ k hk=>?_) (λ j hj=>by rw[aC (by omega)]) (λ p hp'=>?_) (λ j o' hj=>?_) rfl (Ua hp)
 .by_cases e:k=cE 2
  .rw[aM e,aM rfl,e]
  .rw[aC e,aC hk]
 .simp only[jM,fq,aG,aQ,or_false]at hp';rcases hp' with rfl|rfl|rfl|rfl|rfl|rfl
  .exact⟨rfl,λk hk=>by have:=aI.1 (show k∈[cE 2]from hk);simp only[cE]at this;omega,rfl⟩
  .exact⟨rfl,λk hk=>absurd (show k∈([]:U Nat)from hk) (aQ),rfl⟩
  .exact⟨rfl,λk hk=>by have:=aI.1 (show k∈[1000]from hk);omega,rfl⟩
  .exact⟨rfl,λk hk=>absurd (show k∈([]:U Nat)from hk) (aQ),rfl⟩
  .exact⟨rfl,λk hk=>absurd (show k∈([]:U Nat)from hk) (aQ),rfl⟩
  .exact⟨rfl,λk hk=>absurd (show k∈([]:U Nat)from hk) (aQ),rfl⟩
 .have hfix:∀(sz:Nat)(rows:U (List AV)),(∀ q∈rows,∀k∈cu q,k<600000/\k≠1002)->(⟨sz,rows⟩:aR)=xI (λ k=>if k=cE 2 then 1002 else k) ⟨sz,rows⟩/\∀q∈rows,∀k∈cu q,k≠1002:=by
   intro sz rows h;refine⟨?_,λq hq k hk=>(h q hq k hk).2⟩;simp only[xI];congr 1
   conv=>lhs;rw[<- List.map_id rows]
   exact map_congr_left λq hq=>(oD q λk hk=>aC (by have:=(h q hq k hk).1;simp only[cE];omega)).symm
  simp only[ft.st,lk]at hj;by_cases e0:1000=j
  .rw[aM e0]at hj;injection hj with hj;subst e0 hj;obtain⟨g1,g2⟩:=hfix 3 (iw 2000 pre++[rZ 1001 c]) (λ q hq k hk=>by
    rcases bD.1 hq with hq|hq
    .have:=kX _ _ q hq k hk;omega
    .rw[aI]at hq;subst hq;simp[cu,refs]at hk;omega)
   exact⟨1000,_,rfl,by omega,rfl,g1,g2⟩
  .rw[aC e0]at hj;by_cases e1:1001=j
   .rw[aM e1]at hj;injection hj with hj;subst e1 hj;obtain⟨g1,g2⟩:=hfix 2 (iR c.column) (λ q hq k hk=>(rV _ q hq k hk).elim);exact⟨1001,_,rfl,by omega,rfl,g1,g2⟩
   .rw[aC e1]at hj;by_cases e2:1002=j
    .rw[aM e2]at hj;injection hj with hj;subst e2 hj;refine⟨cE 2,bx r,rfl,by simp[cE],rfl,rfl,λq hq k hk=>?_⟩;simp only[bx,aI]at hq;subst hq;simp[cu,refs]at hk
    .rw[aC e2]at hj;obtain⟨h1,h2,s,h3,rfl⟩:=E8 hj;obtain⟨g1,g2⟩:=hfix 2 (iR s.column) (λ q hq k hk=>(rV _ q hq k hk).elim);refine⟨j,_,?_,λe=>e2 e.symm,aC (by simp only[cE];omega),g1,g2⟩;simp only[ft.st,lk];rw[aC (by simp only[cE];omega),aC (by simp only[cE];omega),aC e0,aC e1];exact hj
theorem ao6{Q:Exit->St->Prop}{A:U aj}{d:Int}{k:Nat}{r:aj}(hr:A[k]? =some r)
 (hq:Ev Tryz.prog Tryz.f49.ntmps hsJ Q ((⟨jM A d (k:Int) .cD,[(1002,some (bx r))],[]⟩:ft).st λ_=>none)):Ev Tryz.prog Tryz.f49.ntmps hsI Q ((zt A d (k:Int)).st λ_=>none):=by
 show Ev _ _ (Code.seq (cA hsI) hsJ) _ _;refine kC ?_;refine fZ (am:=cO (cA hsI)) qP (by kernel_rfl) (aqK (r:=r)) ⟨by omega,by rw[Int.toNat_natCast,List.getElem?_map,hr];rfl⟩ ?_ hq;refine Li (λ k=>if k=cE 2 then 1002 else k) (λ k=>if k=1002 then cE 2 else k) (λ k=>k≠1002) (λ k hk=>?_) (λ j hj=>by rw[aC (by omega)]) (λ p hp'=>?_) (λ j o' hj=>?_) rfl (Q6 (Φ:=[(7,.ptr 1002 0 0)]) λp hp' k hk=>?_)
 .by_cases e:k=cE 2
  .rw[aM e,aM rfl,e]
  .rw[aC e,aC hk]
 .simp only[jM,fq,aG,aQ,or_false]at hp';rcases hp' with rfl|rfl|rfl|rfl|rfl|rfl
  .exact⟨rfl,λk hk=>by have:=aI.1 (show k∈[cE 2]from hk);simp only[cE]at this;omega,rfl⟩
  .exact⟨rfl,λk hk=>absurd (show k∈([]:U Nat)from hk) (aQ),rfl⟩
  .exact⟨rfl,λk hk=>absurd (show k∈([]:U Nat)from hk) (aQ),rfl⟩
  .exact⟨rfl,λk hk=>absurd (show k∈([]:U Nat)from hk) (aQ),rfl⟩
  .exact⟨rfl,λk hk=>absurd (show k∈([]:U Nat)from hk) (aQ),rfl⟩
  .exact⟨rfl,λk hk=>absurd (show k∈([]:U Nat)from hk) (aQ),rfl⟩
 .simp only[ft.st,lk]at hj;by_cases e2:1002=j
  .rw[aM e2]at hj;injection hj with hj;subst e2 hj;refine⟨cE 2,bx r,rfl,by simp[cE],rfl,rfl,λq hq k hk=>?_⟩;simp only[bx,aI]at hq;subst hq;simp[cu,refs]at hk
  .rw[aC e2]at hj;cases hj
 .rw[aI]at hp';subst hp';simp[refs]at hk;omega
theorem aam(d:Int)(r:aj):jG d [] r=[if Dl d r<Dm d r then⟨r.x0,r.x1,[]++[⟨Dl d r,Dm d r⟩]⟩else⟨r.x0,r.x1,[]⟩]:=by
 unfold jG;by_cases h:Dl d r<Dm d r
 .rw[aM h,aM h];rfl
 .rw[aC h,aC h];rfl
theorem aan(d:Int)(pre:U dh)(c:dh)(r:aj):jG d (pre++[c]) r=
 if c.x0=r.x0 then pre++[if Dl d r<Dm d r then⟨c.x0,c.x1,c.column++[⟨Dl d r,Dm d r⟩]⟩else c]
 else(pre++[c])++[if Dl d r<Dm d r then⟨r.x0,r.x1,[]++[⟨Dl d r,Dm d r⟩]⟩else⟨r.x0,r.x1,[]⟩]:=by
 unfold jG;by_cases e:c.x0=r.x0
 .by_cases h:Dl d r<Dm d r
  .simp[e,h]
  .simp[e,h]
 .by_cases h:Dl d r<Dm d r
  .simp[e,h]
  .simp[e,h]
def GM(k:Nat)(l:U dh):Prop:=l.length<=k/\∀s∈l,s.column.length<=k
theorem aap{k:Nat}{l:U dh}(h:GM k l)(d:Int)(r:aj):GM (k+1) (jG d l r):=by
 rcases List.eq_nil_or_concat l with rfl|⟨pre,c,rfl⟩
 .rw[aam];refine⟨by simp,λs hs=>?_⟩;rw[aI]at hs;subst hs;split<;>simp
 .rw[List.concat_eq_append]at h |-;rw[aan];obtain⟨h1,h2⟩:=h;simp only[bW,eu,length_nil]at h1;have hc:=h2 c (by simp);split
  .refine⟨by simp;omega,λs hs=>?_⟩;rcases bD.1 hs with hs|hs
   .have:=h2 s (by simp[hs]);omega
   .rw[aI]at hs;subst hs;split
    .simp;omega
    .omega
  .refine⟨by simp;omega,λs hs=>?_⟩;rcases bD.1 hs with hs|hs
   .have:=h2 s hs;omega
   .rw[aI]at hs;subst hs;split<;>simp
theorem ao7{Q:Exit->St->Prop}{K:St->Prop}{A:U aj}{d:Int}{k:Nat}{r:aj}{l:U dh}(hA:A.length<500000)(hr:A[k]? =some r)(hl:GM k l)(hK:K (Wt A d ((k+1:Nat):Int) (jG d l r))):
 Ev Tryz.prog Tryz.f49.ntmps hsB (HM K Q) (Wt A d (k:Int) l):=by
 have hk:k<A.length:=(dO.1 hr).1;have hdec:decide ((k:Int)<(A.length:Int))=true:=decide_eq_true (by omega);show Ev _ _ (Code.seq (cA hsB) (Code.seq (cA (cB hsB)) (Code.seq (Code.block (match cA (cB (cB hsB))with|.block i _=>i|_=>0) hsI) (cB (cB (cB hsB)))))) _ _;rcases List.eq_nil_or_concat l with rfl|⟨pre,c,rfl⟩
 .rw[ahO];rw[aam]at hK;refine kC ?_;refine fZ (am:=cO (cA hsB)) (σ2:=(⟨(13,bo true)::fq A d (k:Int) .cD,[],[]⟩:ft).st λ_=>none) qP (by kernel_rfl) ao4 trivial ?_ ?_
  .refine iY (λ p hp'=>?_) (λ _ _ h=>h) rfl (Dn (pU (Φ:=[(13,bo true)]) (λ p hp' k hk=>by rw[aI]at hp';subst hp';simp[refs]at hk) (by simp[refs])) (λ p hp'=>by cases hp') (λ k o h=>by cases h));simp only[fq,aG,aQ,or_false]at hp';rcases hp' with rfl|rfl|rfl|rfl|rfl|rfl
   .refine⟨rfl,?_⟩;show bo (decide ((k:Int)<(A.length:Int)))=bo true;rw[hdec]
   all_goals exact⟨rfl,rfl⟩
  refine kC ?_;show Ev _ _ (Code.cond (.tmp 13) (cA (cA (cB hsB))) (cB (cA (cB hsB)))) _ _;refine FO true (λ _ _=>rfl) rfl (OZ ?_);refine kC (O1 ?_);refine F8 (σ2:=(zt A d (k:Int)).st λ_=>none) ?_ (ao6 hr ?_)
  .refine iY (λ p hp'=>?_) (λ _ _ h=>h) rfl aal;simp only[zt,fq,aG,aQ,or_false]at hp';rcases hp' with rfl|rfl|rfl|rfl|rfl<;>exact⟨rfl,rfl⟩
  show Ev _ _ (Code.seq (cA hsJ) (cB hsJ)) _ _;refine kC (amR (aak (by simp) (by simp) ?_));refine ae1 (by omega) (by simp) ?_;show K _;rw[<- AR];exact hK
 .rw[List.concat_eq_append]at hl hK |-;obtain⟨h1,h2⟩:=hl;simp only[bW,eu,length_nil]at h1;have hc:=h2 c (by simp);rw[AR];rw[aan]at hK;refine kC ?_;refine fZ (am:=cO (cA hsB)) (σ2:=(⟨(13,bo true)::fq A d (k:Int) (nJ pre),(Ws A d (k:Int) pre c).obj,[]⟩:ft).st (rK pre)) qP (by kernel_rfl) ao4 trivial ?_ ?_
  .refine iY (λ p hp'=>?_) (λ _ _ h=>h) rfl ?_
   .simp only[fq,aG,aQ,or_false]at hp';rcases hp' with rfl|rfl|rfl|rfl|rfl|rfl
    .refine⟨rfl,?_⟩;show bo (decide ((k:Int)<(A.length:Int)))=bo true;rw[hdec]
    all_goals exact⟨rfl,rfl⟩
   .have h:=uL (A:=A) (d:=d) (i:=(k:Int)) (pre:=pre) (c:=c) (by omega);refine⟨λ t j hj=>?_,h.obj⟩;simp only[ft.st,lk]at hj;by_cases e:13=t
    .rw[aM e]at hj;simp[refs]at hj
    .rw[aC e]at hj;exact h.env t j hj
  refine kC ?_;show Ev _ _ (Code.cond (.tmp 13) (cA (cA (cB hsB))) (cB (cA (cB hsB)))) _ _;refine FO true (λ _ _=>rfl) rfl (OZ ?_);refine kC (O1 ?_);refine F8 (σ2:=Vu A d (k:Int) pre c) ?_ (ao5 hr (by omega) ?_)
  .refine iY (λ p hp'=>?_) (λ _ _ h=>h) rfl (uL (by omega));simp only[Ws,fq,aG,aQ,or_false]at hp';rcases hp' with rfl|rfl|rfl|rfl|rfl<;>exact⟨rfl,rfl⟩
  show Ev _ _ (Code.seq (cA hsJ) (cB hsJ)) _ _;refine kC (ao3 (by omega) ?_);by_cases e:c.x0=r.x0
  .rw[aM e]at hK |-;refine aak (by omega) (by omega) (ae1 (by omega) (by omega) ?_);show K _;rw[<- AR];exact hK
  .rw[aC e]at hK |-;refine aak (by simp;omega) (by simp) (ae1 (by omega) (by simp;omega) ?_);show K _;rw[<- AR];exact hK
theorem amS{A:U aj}{d i:Int}{l:U dh}{Φ:U (Nat×AV)}(hE:∀p∈Φ,p.1∉[1,5,10,11,12]/\p.2=bo false)(hl:l.length<=500000):
 ∃L F,Wt A d i l=(⟨fq A d i (match l.getLast? with|none=>.cD|some _=>.own 1000 0 l.length),L,[]⟩:ft).st F/\
  Gb.Told ((⟨Φ++fq A d i (match l.getLast? with|none=>.cD|some _=>.own 1000 0 l.length),L,[]⟩:ft).st F) (Wt A d i l)/\
  nb ((⟨Φ++fq A d i (match l.getLast? with|none=>.cD|some _=>.own 1000 0 l.length),L,[]⟩:ft).st F):=by
 have hlk:∀(Φ:U (Nat×AV)),(∀ p∈Φ,p.1∉[1,5,10,11,12]/\p.2=bo false)->∀(aa:AV)(t:Nat),t∈[1,5,10,11,12]->lk (Φ++fq A d i aa) t=lk (fq A d i aa) t:=by
  intro Φ hE aa t ht
  induction Φ with
  |nil=>rfl
  |cons p Φ ih=>
   simp only[cons_append,lk];rw[aC (λ e:p.1=t=>(hE p (by simp)).1 (by rw[e];exact ht))];exact ih λq hq=>hE q (by simp[hq])
 have hen:∀(aa:AV),∀p∈fq A d i aa,p.1∈[1,5,10,11,12]/\(lk (fq A d i aa) p.1).getD .undef=p.2:=by intro aa p hp;simp only[fq,aG,aQ,or_false]at hp;rcases hp with rfl|rfl|rfl|rfl|rfl<;>exact⟨by simp,rfl⟩
 have hEr:∀p∈Φ,∀k∈refs p.2,k<1000000:=λp hp k hk=>by rw[(hE p hp).2]at hk;simp[refs]at hk
 rcases List.eq_nil_or_concat l with rfl|⟨pre,c,rfl⟩
 .refine⟨[],λ_=>none,rfl,?_,?_⟩
  .refine iY (L2:=zt A d i) (λ p hp=>⟨rfl,?_⟩) (λ _ _ h=>h) rfl aal;obtain⟨h1,h2⟩:=hen .cD p hp;show(lk (Φ++fq A d i .cD) p.1).getD .undef=p.2;rw[hlk Φ hE _ _ h1];exact h2
  .exact Dn (pU hEr (by simp[refs])) (λ p hp'=>by cases hp') (λ k o h=>by cases h)
 .rw[List.concat_eq_append]at hl |-;have hpl:(pre++[c]).length=pre.length+1:=by simp
  have hp:pre.length<=500000:=by omega
  refine⟨[(1000,some ⟨3,iw 2000 pre++[rZ 1001 c]⟩),(1001,some ⟨2,iR c.column⟩)],rK pre,?_,?_,?_⟩
  .rw[AR];simp only[List.getLast?_append,List.getLast?_singleton,Option.some_or,hpl];rfl
  .rw[AR];simp only[List.getLast?_append,List.getLast?_singleton,Option.some_or,hpl];refine iY (λ p hp=>⟨rfl,?_⟩) (λ _ _ h=>h) rfl (uL (by omega));obtain⟨h1,h2⟩:=hen (nJ pre) p hp;show(lk (Φ++fq A d i (nJ pre)) p.1).getD .undef=p.2;rw[hlk Φ hE _ _ h1];exact h2
  .simp only[List.getLast?_append,List.getLast?_singleton,Option.some_or,hpl];have h:=uL (A:=A) (d:=d) (i:=i) (pre:=pre) (c:=c) (by omega);exact⟨(Dn (O:=[]) (ok:=[]) (F:=λ_=>none) (pU hEr (by simp[refs])) (λ p hp'=>by cases hp') (λ k o h=>by cases h)).env,h.obj⟩
theorem aqo{Q:Exit->St->Prop}{A:U aj}{d:Int}(hA:A.length<500000)(hQ:Q (.exit 0) (Wt A d (A.length:Int) (A.foldl (jG d) []))):Ev Tryz.prog Tryz.f49.ntmps (.loop hsB) Q (Wt A d 0 []):=by
 refine akz (λ n M=>∃k,k<=A.length/\n+k=A.length+1/\GM k ((A.take k).foldl (jG d) [])/\M=Wt A d (k:Int) ((A.take k).foldl (jG d) [])) ?_ ?_ (A.length+1) ⟨0,by omega,by omega,⟨by simp,by simp⟩,rfl⟩
 .rintro M ⟨k,h1,h2,_⟩;omega
 .rintro n M ⟨k,h1,h2,h3,rfl⟩;rcases Nat.lt_or_ge k A.length with hk|hk
  .have hr:A[k]? =some A[k]:=dY hk;have e:(A.take (k+1)).foldl (jG d) []=jG d ((A.take k).foldl (jG d) []) A[k]:=(by rw[List.take_add_one,hr,List.foldl_append];rfl);refine ao7 hA hr h3 ⟨k+1,by omega,by omega,?_,?_⟩
   .rw[e];exact aap h3 d _
   .rw[e]
  .have hkA:k=A.length:=(by omega);subst hkA;rw[List.take_length]at h3 |-;generalize hl:A.foldl (jG d) []=l at hQ h3;obtain⟨L,F,e1,e2,e3⟩:=amS (A:=A) (d:=d) (i:=(A.length:Int)) (l:=l) (Φ:=[(13,bo false)]) (λ p hp=>by rw[aI]at hp;subst hp;exact⟨by simp,rfl⟩) (by have:=h3.1;omega);have hsub:Ev Tryz.prog Tryz.f49.ntmps hsB (HM (λ M=>∃k,k<=A.length/\n+k=A.length+1/\GM k ((A.take k).foldl (jG d) [])/\M=Wt A d (k:Int) ((A.take k).foldl (jG d) [])) Q) ((⟨fq A d (A.length:Int) (match l.getLast? with|none=>.cD|some _=>.own 1000 0 l.length),L,[]⟩:ft).st F):=by
    show Ev _ _ (Code.seq (cA hsB) (Code.seq (Code.cond (.tmp 13) (cA (cA (cB hsB))) (.exit 0)) (cB (cB hsB)))) _ _;refine kC ?_;refine fZ (am:=cO (cA hsB)) qP (by kernel_rfl) ao4 trivial (σ2:=(⟨[(13,bo false)]++fq A d (A.length:Int) (match l.getLast? with|none=>.cD|some _=>.own 1000 0 l.length),L,[]⟩:ft).st F) ?_ ?_
    .refine iY (λ p hp'=>?_) (λ _ _ h=>h) rfl e3;have hdec:decide ((A.length:Int)<(A.length:Int))=false:=(by simp);simp only[fq,cons_append,fO,aG,aQ,or_false]at hp';rcases hp' with rfl|rfl|rfl|rfl|rfl|rfl
     .refine⟨rfl,?_⟩;show bo (decide ((A.length:Int)<(A.length:Int)))=bo false;rw[hdec]
     all_goals exact⟨rfl,rfl⟩
    refine kC ?_;refine FO false (λ _ _=>rfl) rfl (F8 e2 (aky ?_));exact hQ
   rw[e1];exact hsub
end
end Go.Proofs
