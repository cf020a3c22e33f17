import Derived.Test.YtnclkjejgffdmaaGreatS2
open List (mem_map all_eq_true map_map all_cons)
namespace Go.Proofs
open Go.Gb Go.RowKit
abbrev fy:OP SI:=.c 10 [[.v (.sl bg),.v (.sl aW),.v (.sl bB),.v (.sl aT),.v (.sl bF),.v (.sl bC),.v (.sl aV),.v af,.v (.sl aA),.o 1]]
abbrev ry:OP SI:=.c 1 [[.o 1]]
abbrev sC:OP SI:=.c 2 [[.v (.sl bg),(.v (.sl (.sl af)))]]
abbrev uv:OP SI:=.c 10 [[.v (.sl bg),.v (.sl aW),.v (.sl bB),.v (.sl aT),.v (.sl bF),.v (.sl bC),.v (.sl aV),.v af,.v (.sl aA),.o 2]]
abbrev wa:OP SI:=.c 2 [[.v af,.v af]]
abbrev xT:OP SI:=.c 1 [[.o 1384]]
abbrev BW:OP SI:=.c 4 [[.v af,.v af,.v af,.v af]]
abbrev HW:OP SI:=.c 10 [[.v (.sl bg),.v (.sl aW),.v (.sl bB),.v (.sl aT),.v (.sl bF),.v (.sl bC),.v (.sl aV),.v af,.v (.sl aA),.o 1960]]
abbrev co(a:Hn SI):Hn SI:=.s .z (.s .z a)
abbrev io(a:Hn SI):Hn SI:=.s .z (.s .z (.s .z a))
abbrev ux(a:Hn SI):Hn SI:=.s .z (.s .z (.s .z (.s .z a)))
abbrev yd(a:Hn SI):Hn SI:=.s .z (.s .z (.s .z (.s .z (.s .z a))))
abbrev TZ(a:Hn SI):Hn SI:=.s .z (.s .z (.s .z (.s .z (.s .z (.s .z a)))))
open Tryz
noncomputable section
variable (n:Nat)
def ZN:cm xx:=⟨[.d af,.d af],[.d dJ],λa=>sH a.1 a.2.1,none⟩
theorem ZO:aC 10 ZN :=cq ay func10 .z 0
def Je:cm xx:=⟨[.d (.sl aW),.el [aW] .bool],[.d af],λa=>nQ n a.1 a.2.1,none⟩
def Jf:Hn SI:=(.s .z (.s (.s .z (.b (.lx ⟨[(8,.v af)],[],[0,1,7],[],1256,[]⟩ 0 ⟨[],[],[],[],1256,[]⟩ .z))) .z))
theorem wW:aC 145 (Je n) :=cq ay func145 Jf n
def afK:cm xx:=⟨[.d aW],[.d .bool],λa=>abk a.1,none⟩
theorem afL:aC 146 afK :=cq ay func146 .z 0
def afM:cm xx:=⟨[.d gI,.ref .str],[.d .bool],λa=>abl a.1 a.2.1,none⟩
theorem afN:aC 148 afM :=cq ay func148 .z 0
def Jg:cm xx:=⟨[.d (.sl gI),.el [gI] .bool],[.d af],λa=>iT n a.1 a.2.1,none⟩
def Jh:Hn SI:=(.s .z (.s (.s .z (.b (.lx ⟨[(8,.v af)],[],[0,1,7],[],1256,[]⟩ 0 ⟨[],[],[],[],1256,[]⟩ .z))) .z))
theorem qc:aC 147 (Jg n) :=cq ay func147 Jh n
def ana:cm xx:=⟨[.d gF,.d .str],[.d af],λa=>Qs n a.1 a.2.1,none⟩
theorem afO:aC 99 (ana n) :=cq (ak (wW n) (ak afL (ak (qc n) (ak afN ay)))) func99 .z n
def akK:cm xx:=⟨[.d gF],[.d af],λa=>NS n a.1,none⟩
theorem akL:aC 39 (akK n) :=cq (ak (afO n) ay) func39 .z n
def TJ:cm xx:=⟨[.d (.sl fE)],[.fresh fE],λa=>Bp a.1,none⟩
theorem TK:aC 141 TJ :=cq ay func141 .z 0
def Md:cm xx:=⟨[.mut fE,.el [fE,fE] af],[.mu fE],λa=>vH n a.1 a.2.1,none⟩
theorem Me:aC 142 (Md n):=by have hcall:dU Tryz.prog 142:=⟨_,func142,by kernel_rfl,by kernel_rfl⟩;refine vx hcall (λ a r h=>?_) rfl;obtain⟨l,φ,⟨⟩⟩:=a;refine Qq (X:=xx) (i:=SI.ra) (hI:=(inferInstance:Inhabited dH)) Tryz.so142 rfl hcall Tryz.underlying229 (by kernel_rfl) (λ x t ht=>?_) h;cases x;have ht:t∈[_,_]:=ht;simp only[aH,bn,or_false]at ht;rcases ht with rfl |rfl<;>exact⟨_,rfl,trivial⟩
def Mf:cm xx:=⟨[.d fE,.d fE],[.d af],λa=>nC a.1 a.2.1,none⟩
theorem Mg:aC 143 Mf :=cq ay func143 .z 0
def TM:cm xx:=⟨[.d (.sl fE)],[.fresh fE,.d .bool],λa=>vW n a.1,none⟩
def TN:Hn SI:=(yd (.s (.s .z (.b (.lx ⟨[(20,.v af)],[],[4,5,18,19],[1384],1896,[]⟩ 0 ⟨[],[],[4,5],[1384],1896,[]⟩ (co (.s (.b (.s .z (.s (.j ⟨[(38,.v .bool)],[],[4,5,18,19,20],[1384],2216,[]⟩ .z) .z))) .z))))) (.s (.s .z (.b (.l ⟨[(5,.o 2088),(42,.v af)],[(2088,.l fE)],[40,41],[1384],2089,[(5,fE)]⟩ 2 ⟨[(5,.o 2088)],[(2088,.l fE)],[],[],2089,[]⟩ (co (.s (.j ⟨[(5,.o 2153)],[(2153,.l fE)],[40,41,42],[1384],2154,[]⟩ (.b (.s .z (.s (.s .z (.s (.j ⟨[(60,.v .bool)],[],[5,9,10,40,41,42],[1384,2088,2281],2665,[]⟩ .z) .z)) .z)))) .z))))) .z)))
theorem TP:aC 93 (TM n) :=cq (ak TK (ak (Me n) (ak Mg ay))) func93 TN n
def QS:cm xx:=⟨[.d af],[.d .bool],λa=>nD a.1,none⟩
theorem Dq:aC 95 QS :=cq ay func95 .z 0
def QT:cm xx:=⟨[.d (.sl af)],[.d .bool],λa=>tN n a.1,none⟩
def QU:Hn SI:=(co (.s (.s .z (.b (.lx ⟨[(10,.v af)],[],[0,8,9],[],1448,[]⟩ 0 ⟨[],[],[],[],1448,[]⟩ (co (.s (.b (.s .z (.s (.j ⟨[(30,.v .bool)],[],[0,8,9,10],[],1832,[]⟩ .z) .z))) .z))))) .z))
theorem QV:aC 94 (QT n) :=cq (ak Dq ay) func94 QU n
def TQ:cm xx:=⟨[.d (.sl af),.d af],[.d af],λa=>kr n a.1 a.2.1,none⟩
def TS:Hn SI:=(co (.s (.s .z (.b (.l ⟨[(5,.v af),(17,.v af)],[],[1,15,16],[],1768,[]⟩ 0 ⟨[(5,.v af)],[],[],[],1768,[]⟩ (co (.s (.j ⟨[(5,.v af)],[],[1,15,16,17],[],1832,[]⟩ (.b (.s .z (.s (.j ⟨[(28,.v .bool)],[],[1,5,15,16,17],[],2024,[]⟩ .z) .z)))) .z))))) .z))
theorem TU:aC 144 (TQ n) :=cq ay func144 TS n
def QW:cm xx:=⟨[.d (.sl af),.d (.sl fE),.d af,.d af],[.d af],λa=>tO n a.1 a.2.1 a.2.2.1 a.2.2.2.1,none⟩
def QX:Hn SI:=(co (.s (.s .z (.b (.l ⟨[(9,.v af),(25,.v af)],[],[0,2,3,23,24],[],1896,[]⟩ 0 ⟨[(9,.v af)],[],[],[],1896,[]⟩ (co (.s (.j ⟨[(9,.v af)],[],[0,2,3,23,24,25],[],1960,[]⟩ .z) .z))))) .z))
theorem QY:aC 98 (QW n) :=cq (ak (TU n) ay) func98 QX n
def Ff:cm xx:=⟨[.d af,.ref (.sl af),.ref (.sl fE),.ref af,.ref af],[.d .bool],λa=>ja n a.1 a.2.1 a.2.2.1 a.2.2.2.1 a.2.2.2.2.1,none⟩
theorem Fg:aC 97 (Ff n) :=cq (ak (QY n) ay) func97 .z n
def ZP:cm xx:=⟨[.d af,.el [af] .bool],[.d af],λa=>sort_Search n a.1 a.2.1,none⟩
def ZQ:Hn SI:=(co (.s (.b (.l ⟨[(5,.v af),(6,.v af)],[],[1],[],1256,[]⟩ 0 ⟨[(5,.v af)],[],[],[],1256,[]⟩ .z)) .z))
theorem ZR:aC 96 (ZP n) :=cq ay func96 ZQ n
def Kk:cm xx:=⟨[.d (.sl af),.d (.sl fE),.d af,.d af],[.d af,.d af],λa=>fU n a.1 a.2.1 a.2.2.1 a.2.2.2.1,none⟩
def Kl:Hn SI:=(.s .z (.s (.f [6]) (.s (.s (.j ⟨[(35,.v .bool)],[],[4,6,7,10],[1000,1064,1128,1640],1832,[]⟩ .z) .z) .z)))
theorem Km:aC 38 (Kk n) :=cq (ak (TP n) (ak (QV n) (ak Dq (ak (ZR n) (ak (Fg n) ay))))) func38 Kl n
def Mh:cm xx:=⟨[.d dJ],[.d af,.d af],λa=>gJ n a.1,none⟩
theorem zm:aC 11 (Mh n) :=cq (ak (akL n) (ak (Km n) ay)) func11 .z n
def QZ:cm xx:=⟨[.d dJ],[.d .bool],λa=>nE a.1,none⟩
theorem Dr:aC 100 QZ :=cq ay func100 .z 0
def Q0:cm xx:=⟨[.d dJ,.d af],[.d .bool],λa=>tQ n a.1 a.2.1,none⟩
theorem Q5:aC 149 (Q0 n) :=cq (ak (zm n) ay) func149 .z n
def TW:cm xx:=⟨[.d (.sl aA)],[.fresh aA],λa=>Bq a.1,none⟩
theorem TY:aC 44 TW :=cq ay func44 .z 0
def Yp:cm xx:=⟨[.d (.sl af)],[.fresh af],λa=>xJ a.1,none⟩
theorem Yq:aC 45 Yp :=cq ay func45 .z 0
def ah5:cm xx:=⟨[.d (.st SI.Lot)],[.d (.st SI.Lot)],λa=>C8 a.1,none⟩
theorem ah6:aC 16 ah5 :=cq (ak TY (ak Yq ay)) func16 .z 0
def akM:cm xx:=⟨[.d (.sl (.st SI.Lot)),.d af],[.d (.st SI.Lot),.d .bool],λa=>pG n a.1 a.2.1,none⟩
def akN:Hn SI:=(.s .z (.s (.s .z (.b (.lx ⟨[(10,.v af)],[],[1,4,8,9],[1000],1320,[]⟩ 0 ⟨[],[],[4],[1000],1320,[]⟩ .z))) .z))
theorem yB:aC 6 (akM n) :=cq (ak ah6 ay) func6 akN n
def ZT:cm xx:=⟨[.d gF,.d dY],[.d af],λa=>wM n a.1 a.2.1,none⟩
def ZU:Hn SI:=(io (.s (.s .z (.b (.l ⟨[(6,.v af),(15,.v af)],[],[2,5,13,14],[1000,1256],1704,[]⟩ 0 ⟨[(6,.v af)],[],[],[],1704,[]⟩ (co (.s (.b (co (.b (.l ⟨[(6,.v af),(22,.v af)],[],[2,5,13,14,15,20,21],[1000,1256],2280,[]⟩ 2 ⟨[(6,.v af)],[],[2,5,13,14,15],[1000,1256],2280,[]⟩ (co (.s (.j ⟨[(6,.v af)],[],[2,5,13,14,15,20,21,22],[1000,1256],2344,[]⟩ (.b (.s .z (.s (.j ⟨[(33,.v .bool)],[],[2,5,6,10,13,14,15,20,21,22],[1000,1256,2472],2600,[]⟩ .z) .z)))) .z)))))) .z))))) .z))
theorem ZV:aC 288 (ZT n) :=cq (ak (afO n) ay) func288 ZU n
def akO:cm xx:=⟨[.d aA],[.d .bool],λa=>pI a.1,none⟩
theorem qF:aC 48 akO :=cq ay func48 .z 0
def Yr:cm xx:=⟨[.nil,.d af],[.fresh aA],λa=>NT a.1 a.2.1,none⟩
theorem Yt:aC 202 Yr :=cq ay func202 .z 0
def Q6:cm xx:=⟨[.d (.sl (.sl aA))],[.fresh aA],λa=>yU n a.1,none⟩
def Q7:Hn SI:=(co (.s (.s .z (.b (.l ⟨[(3,.v af),(11,.v af)],[],[0,9,10],[],1320,[]⟩ 0 ⟨[(3,.v af)],[],[0],[],1320,[]⟩ .z))) (.s .z (.s (.s .z (.b (.l ⟨[(6,.o 1704),(27,.v af)],[(1704,.l aA)],[25,26],[],1705,[]⟩ 2 ⟨[(6,.o 1704)],[(1704,.l aA)],[],[],1705,[]⟩ .z))) .z))))
theorem Q8:aC 155 (Q6 n) :=cq (ak Yt ay) func155 Q7 n
def ZW:cm xx:=⟨[.mut af],[.mu af],λa=>lN n a.1,none⟩
theorem o8:aC 53 (ZW n):=by have hcall:dU Tryz.prog 53:=⟨_,func53,by kernel_rfl,by kernel_rfl⟩;refine vx hcall (λ a r h=>?_) rfl;obtain⟨l,⟨⟩⟩:=a;exact aj9 Tryz.so53 rfl hcall h
def Q9:cm xx:=⟨[.mut af],[.whole 0,.mu af],λa=>kF n a.1,none⟩
def Ra:Hn SI:=(co (.s (.s .z (.b (.lx ⟨[(3,.v af)],[],[0],[0],1320,[]⟩ 0 ⟨[],[],[0],[0],1320,[]⟩ (.s .z (.s (.b (.s .z (.s (.s .z (.s (.s .z (.b (.l ⟨[(3,.v af),(5,.v af)],[(0,.l af)],[0,4],[],2536,[]⟩ 2 ⟨[(3,.v af)],[(0,.l af)],[0],[],2536,[]⟩ (.s .z (.s (.j ⟨[(3,.v af)],[(0,.l af)],[0,4,5],[],2792,[]⟩ .z) .z))))) .z)) .z))) .z))))) .z))
theorem nK:aC 156 (Q9 n) :=cq ay func156 Ra n
def Mi:cm xx:=⟨[.mut (.st SI.span),.el [.st SI.span,.st SI.span] af],[.mu (.st SI.span)],λa=>vI n a.1 a.2.1,none⟩
theorem Mj:aC 203 (Mi n):=by have hcall:dU Tryz.prog 203:=⟨_,func203,by kernel_rfl,by kernel_rfl⟩;refine vx hcall (λ a r h=>?_) rfl;obtain⟨l,φ,⟨⟩⟩:=a;refine Qq (X:=xx) (i:=SI.span) (hI:=(inferInstance:Inhabited aN)) Tryz.so203 rfl hcall Tryz.underlying245 (by kernel_rfl) (λ x t ht=>?_) h;cases x;have ht:t∈[_,_]:=ht;simp only[aH,bn,or_false]at ht;rcases ht with rfl |rfl<;>exact⟨_,rfl,trivial⟩
def T9:cm xx:=⟨[.d af],[.d .bool],λa=>cmp_isNaN_int a.1,none⟩
theorem Ua:aC 110 T9 :=cq ay func110 .z 0
def OT:cm xx:=⟨[.d af,.d af],[.d af],λa=>cmp_Compare_int a.1 a.2.1,none⟩
theorem pO:aC 52 OT :=cq (ak Ua ay) func52 .z 0
def Yu:cm xx:=⟨[.d (.st SI.span),.d (.st SI.span)],[.d af],λa=>xK a.1 a.2.1,none⟩
theorem Yv:aC 204 Yu :=cq (ak pO ay) func204 .z 0
def afP:cm xx:=⟨[.d (.sl aA),.d af],[.fresh (.st SI.span)],λa=>JW n a.1 a.2.1,none⟩
def afQ:Hn SI:=(co (.s (.s .z (.b (.l ⟨[(5,.o 1320),(14,.v af)],[(1320,.l (.st SI.span))],[1,12,13],[],1321,[(5,.st SI.span)]⟩ 0 ⟨[(5,.o 1320)],[(1320,.l (.st SI.span))],[],[],1321,[]⟩ (co (.s (.j ⟨[(5,.o 1385)],[(1385,.l (.st SI.span))],[1,12,13,14],[],1386,[]⟩ (.b (.s .z (.s (.j ⟨[(27,.v .bool)],[],[1,5,7,12,13,14],[1320,1513],1641,[]⟩ .z) .z)))) .z))))) (co (.s (.s .z (.b (.l ⟨[(8,.o 1705),(41,.v af)],[(1705,.l (.st SI.span))],[39,40],[1320],1706,[(8,.st SI.span)]⟩ 2 ⟨[(8,.o 1705)],[(1705,.l (.st SI.span))],[],[],1706,[]⟩ (co (.s (.j ⟨[(8,.o 1770)],[(1770,.l (.st SI.span))],[39,40,41],[1320],1771,[]⟩ (.b (co (.s (.j ⟨[(59,.v .bool)],[],[8,10,11,39,40,41],[1320,1705,1898],2218,[]⟩ .z) .z)))) .z))))) .z))))
theorem afR:aC 157 (afP n) :=cq (ak (Mj n) (ak Yv ay)) func157 afQ n
def afS:cm xx:=⟨[.d (.sl (.sl aA))],[.fresh (.st SI.strip)],λa=>oW n a.1,none⟩
def afT:Hn SI:=(io (.s (.s .z (.b (.l ⟨[(4,.o 1512),(13,.v af)],[(1512,.l af)],[3,11,12],[1128],1513,[(4,af)]⟩ 0 ⟨[(4,.o 1512)],[(1512,.l af)],[3],[1128],1513,[]⟩ .z))) (io (.s (.s .z (.b (.l ⟨[(7,.o 1961),(8,.v af)],[(1961,.l (.st SI.strip))],[3,4],[1128,1512],1962,[(7,.st SI.strip)]⟩ 2 ⟨[(7,.o 1961)],[(1961,.l (.st SI.strip))],[],[],1962,[]⟩ .z))) .z))))
theorem SV:aC 106 (afS n) :=cq (ak (Q8 n) (ak (o8 n) (ak (nK n) (ak (afR n) ay)))) func106 afT n
def Ub:cm xx:=⟨[.d (.sl (.st SI.span)),.d (.sl (.st SI.span))],[.d .bool],λa=>vX n a.1 a.2.1,none⟩
def Uc:Hn SI:=(co (.s (.s .z (.b (.lx ⟨[(13,.v af)],[],[0,1,12],[],1576,[]⟩ 0 ⟨[],[],[],[],1576,[]⟩ .z))) .z))
theorem Ud:aC 154 (Ub n) :=cq ay func154 Uc n
def ah7:cm xx:=⟨[.d (.sl (.st SI.strip))],[.fresh aA],λa=>Iw n a.1,none⟩
def ah8:Hn SI:=(co (.s (.s .z (.b (.l ⟨[(3,.o 1192),(4,.v af)],[(1192,.l aA)],[0],[],1193,[(3,aA)]⟩ 0 ⟨[(3,.o 1192)],[(1192,.l aA)],[],[],1193,[]⟩ (.s .z (.b (.s .z (.s (.b (.l ⟨[(5,.v af)],[],[0,3,4],[1192],1641,[]⟩ 2 ⟨[(5,.v af)],[],[0,3,4],[1192],1641,[]⟩ (.s (.s (.j ⟨[(30,.v .bool)],[],[0,3,4,5],[1192],1641,[]⟩ .z) .z) .z))) (.s (.s .z (.b (.l ⟨[(3,.o 2089),(39,.v af)],[(2089,.l aA)],[0,4,5,37,38],[],2090,[]⟩ 4 ⟨[(3,.o 2089)],[(2089,.l aA)],[0,5],[],2090,[]⟩ .z))) .z)))))))) .z))
theorem Yw:aC 105 (ah7 n) :=cq (ak (Ud n) ay) func105 ah8 n
def adg:cm xx:=⟨[.d (.sl aA)],[.d (.sl aA),.d af],λa=>yV a.1,none⟩
theorem OU:aC 104 adg :=cq ay func104 .z 0
def aoE:cm xx:=⟨[.d (.sl aA)],[.d (.sl aA),.d af],λa=>SO n a.1,none⟩
def aoF:Hn SI:=(.s .z (.s (.s .z (.b (.lx ⟨[(8,.v af)],[],[0,6,7],[],1320,[]⟩ 0 ⟨[],[],[0],[],1320,[]⟩ .z))) .z))
theorem aoG:aC 46 (aoE n) :=cq (ak qF (ak (SV n) (ak (Yw n) (ak OU ay)))) func46 aoF n
def Ue:cm xx:=⟨[.d (.sl aA),.d (.sl aA)],[.d .bool],λa=>oZ n a.1 a.2.1,none⟩
def Uf:Hn SI:=(co (.s (.s .z (.b (.lx ⟨[(13,.v af)],[],[0,1,12],[],1576,[]⟩ 0 ⟨[],[],[],[],1576,[]⟩ .z))) .z))
theorem FR:aC 47 (Ue n) :=cq ay func47 Uf n
def ah9:cm xx:=⟨[.d (.sl aA)],[.d .bool],λa=>lQ n a.1,none⟩
theorem om:aC 17 (ah9 n) :=cq (ak (aoG n) (ak (FR n) ay)) func17 .z n
def anb:cm xx:=⟨[.d aA,.d aA],[.d af,.d af],λa=>amv a.1 a.2.1,none⟩
theorem ane:aC 198 anb :=cq ay func198 .z 0
def aoH:cm xx:=⟨[.d aA,.d aA],[.d af],λa=>N0 a.1 a.2.1,none⟩
def aoI:Hn SI:=(.s .z (.s (.s (.j ⟨[(14,.v .bool)],[],[2,3],[1000,1064],1192,[]⟩ .z) .z) .z))
theorem ajq:aC 134 aoH :=cq (ak qF (ak ane ay)) func134 aoI 0
def anf:cm xx:=⟨[.d (.sl aA),.d (.sl aA)],[.d af,.d .bool],λa=>Xt n a.1 a.2.1,none⟩
def ang:Hn SI:=(.s .z (.s (.s (.j ⟨[(28,.v .bool)],[],[0,1],[],1128,[]⟩ .z) .z) (.s .z (.s (.s .z (.b (.l ⟨[(6,.v af),(31,.v af)],[],[1,29,30],[],1384,[]⟩ 0 ⟨[(6,.v af)],[],[],[],1384,[]⟩ (co (.s (.b (co (.b (.l ⟨[(6,.v af),(37,.v af)],[],[1,8,29,30,31,35,36],[1576],1896,[]⟩ 2 ⟨[(6,.v af)],[],[1,29,30,31],[],1896,[]⟩ .z)))) .z))))) .z))))
theorem anh:aC 302 (anf n) :=cq (ak (om n) (ak ajq ay)) func302 ang n
def akP:cm xx:=⟨[.d (.sl (.st SI.Lot)),.d af,.d af],[.fresh af],λa=>N7 n a.1 a.2.1 a.2.2.1,none⟩
def akQ:Hn SI:=(ux (.s (.s .z (.b (.l ⟨[(9,.o 2024),(27,.v af)],[(2024,.l (.sl aA))],[0,1,2,7,25,26],[1448],2025,[(9,.sl aA)]⟩ 0 ⟨[(9,.o 2024)],[(2024,.l (.sl aA))],[0,1,2,7],[1448],2025,[]⟩ .z))) (.s .z (.s (.s .z (.b (.l ⟨[(12,.o 2281),(39,.v af)],[(2281,.l af)],[0,1,2,7,37,38],[1448,2024],2282,[(12,af)]⟩ 2 ⟨[(12,.o 2281)],[(2281,.l af)],[],[],2282,[]⟩ (co (.s (.j ⟨[(12,.o 2346)],[(2346,.l af)],[0,1,2,7,37,38,39],[1448,2024],2347,[]⟩ (.b (co (.s (.j ⟨[(65,.v .bool)],[],[0,1,2,7,12,13,37,38,39],[1448,2024,2281],3242,[]⟩ .z) .z)))) .z))))) .z))))
theorem akR:aC 287 (akP n) :=cq (ak (yB n) (ak (anh n) (ak (o8 n) (ak (nK n) ay)))) func287 akQ n
def akS:cm xx:=⟨[.d (.st SI.pf),.d dY],[.fresh af],λa=>U0 n a.1 a.2.1,none⟩
theorem akT:aC 264 (akS n) :=cq (ak (ZV n) (ak (akR n) ay)) func264 .z n
def afU:cm xx:=⟨[.d (.st SI.pf),.d dY],[.fresh af],λa=>JX n a.1 a.2.1,none⟩
def afV:Hn SI:=(co (.s (.s .z (.b (.l ⟨[(5,.o 1576),(14,.v af)],[(1576,.l af)],[2,12,13],[1000,1384],1577,[(5,af)]⟩ 0 ⟨[(5,.o 1576)],[(1576,.l af)],[],[],1577,[]⟩ .z))) .z))
theorem afW:aC 239 (afU n) :=cq (ak (akT n) (ak (yB n) (ak (o8 n) (ak (nK n) ay)))) func239 afV n
def Yx:cm xx:=⟨[.d (.sl af),.d af],[.d af],λa=>EC n a.1 a.2.1,none⟩
def Yy:Hn SI:=(.s .z (.s (.s .z (.b (.lx ⟨[(8,.v af)],[],[0,1,7],[],1256,[]⟩ 0 ⟨[],[],[],[],1256,[]⟩ .z))) .z))
theorem Yz:aC 263 (Yx n) :=cq ay func263 Yy n
def OV:cm xx:=⟨[.d (.sl af),.d af],[.d .bool],λa=>oI n a.1 a.2.1,none⟩
theorem AX:aC 238 (OV n) :=cq (ak (Yz n) ay) func238 .z n
def ani:cm xx:=⟨[.d (.st SI.pf),.d dY,.d af],[.d .bool],λa=>Xu n a.1 a.2.1 a.2.2.1,none⟩
theorem anj:aC 201 (ani n) :=cq (ak (yB n) (ak (afW n) (ak (AX n) ay))) func201 .z n
def Ug:cm xx:=⟨[.d dJ,.d af],[.d .bool],λa=>vY n a.1 a.2.1,none⟩
theorem Uh:aC 150 (Ug n) :=cq (ak (anj n) ay) func150 .z n
noncomputable def rZ:List (TypeId×py):=(97,⟨1,8,false,[.nilFunc],.other,[]⟩)::(99,⟨2,16,true,[.nilFunc,.nilFunc],.struct [(0,97),(1,97)],[]⟩)::(101,⟨1,8,false,[.map none],.map 3 99,[]⟩)::tab
theorem xk:eX Tryz.prog (iB rZ):=adW (by kernel_rfl)
noncomputable def cA:Code->Code
 | .seq a _=>a
 |c=>c
noncomputable def cB:Code->Code
 | .seq _ b=>b
 |c=>c
noncomputable def cO:Code->Array Oper
 | .region _ o _=>o
 |_=>#[]
noncomputable def zd:j9:=⟨.none,[],[],false⟩
noncomputable def aqp(l:List Nat):j9:=⟨.none,l,l,false⟩
noncomputable def ZX(l:List Nat):j9:=⟨.none,l,[],false⟩
noncomputable abbrev tn(n:Int):AV:= .t (.sc (.int .i64 n))
noncomputable abbrev bo(b:Bool):AV:= .t (.sc (.bool b))
noncomputable abbrev qr(h:aG):AV:= .agg ((jB h).map AV.t)
noncomputable abbrev sd(c:aL):AV:= .agg ((yT c).map AV.t)
noncomputable abbrev ly(h:aG):aK:=⟨22,[(jB h).map AV.t]⟩
noncomputable abbrev xm(c:aL):aK:=⟨6,[(yT c).map AV.t]⟩
noncomputable abbrev hf0:AV:= .fn 63 [] []
noncomputable abbrev hfB(f B:Nat):AV:= .fn f [] [.ptr B 0 0]
noncomputable abbrev ot(B:Nat):List (List AV):=[[tn 0,.agg [hf0,hf0]],[tn 1,.agg [.fn 64 [] [],hfB 66 B]],[tn 2,.agg [hfB 68 B,hfB 71 B]],[tn 3,.agg [.fn 72 [] [],hfB 73 B]]]
noncomputable def fR(ρ:List (Nat×Nat))(k:Nat):Nat:=(lk ρ k).getD k
noncomputable def gR(ρ:List (Nat×Nat))(k:Nat):Nat:=(lk (ρ.map λp=>(p.2,p.1)) k).getD k
noncomputable def dR(ρ:List (Nat×Nat))(k:Nat):Bool:=(ρ.map (·.1)).contains k || !(ρ.map (·.2)).contains k
noncomputable def okR(ρ:List (Nat×Nat)):Bool:=ρ.all λp=>gR ρ (fR ρ p.1)==p.1&&Nat.ble 1000 p.2
theorem lw{α:Type}{l:List (Nat×α)}{k:Nat}(h:k∉l.map (·.1)):lk l k=none:=by
 induction l with
 |nil=>rfl
 |cons p l ih=>
  simp only[bE,aH,not_or]at h;simp only[lk];rw[aR (λ e=>h.1 e.symm)];exact ih h.2
theorem uL(ρ:List (Nat×Nat)){L' L2:ij}(hρ:okR ρ=true)
 (hE:∀p∈L2.env,(lk L'.ok p.1).join=none/\(refs ((lk L'.env p.1).getD .undef)).all (dR ρ)=true/\gO (fR ρ) ((lk L'.env p.1).getD .undef)=p.2)
 (hO:∀q∈L2.obj,∀o',q.2=some o'->∃k o,lk L'.obj k=some (some o)/\dR ρ k=true/\fR ρ k=q.1/\o'=Cx (fR ρ) o/\(o.rows.all λr=>(dh r).all (dR ρ))=true) (hok:L2.ok=[])
 (h1:(L2.env.all λp=>(refs p.2).all (Nat.blt · 1000000))=true) (h2:(L2.obj.all λq=>Nat.blt q.1 1000000&&((q.2.map λo=>o.rows.all λr=>(dh r).all (Nat.blt · 1000000)).getD true))=true):Gb.Told (L'.st λ_=>none) (L2.st λ_=>none):=by
 have hx:∀j o',(L2.st λ_=>none).obj j=some o'->(j,some o')∈L2.obj:=λj o' hj=>by
  simp only[ij.st]at hj;cases h:lk L2.obj j with
  |none=>rw[h]at hj;cases hj
  |some x=>rw[h]at hj;rw[<- hj];exact pq h
 have hmem:∀k,dR ρ k=true->gR ρ (fR ρ k)=k:=λk hk=>by
  by_cases h:k∈ρ.map (·.1)
  ·obtain⟨p,hp,rfl⟩:=mem_map.1 h;have:=all_eq_true.1 hρ p hp;simp only[aY,beq_iff_eq]at this;exact this.1
  ·have hn:k∉ρ.map (·.2):=λh'=>(by unfold dR at hk;simp only[Bool.or_eq_true,List.contains_iff_mem,Bool.not_eq_true']at hk;rcases hk with hk |hk;exact h hk;rw[List.contains_iff_mem.2 h']at hk;cases hk);have e:fR ρ k=k:=(by unfold fR;rw[lw h];rfl);rw[e];unfold gR;rw[lw (by rw[map_map];exact hn)];rfl
 refine anV (fR ρ) (gR ρ) (λ k=>dR ρ k=true) hmem (λ j hj=>?_) (λ p hp=>?_) (λ j o' hj=>?_) hok ⟨λ t k hk=>?_,λk o hk=>?_⟩
 ·unfold gR;rw[lw];rfl;intro h;rw[map_map]at h;obtain⟨p,hp,e⟩:=mem_map.1 h;have:=all_eq_true.1 hρ p hp;simp only[aY,Nat.ble_eq]at this;have e:p.2=j:=e;omega
 ·obtain⟨a,b,c⟩:=hE p hp;exact⟨a,λk hk=>all_eq_true.1 b k hk,c⟩
 ·obtain⟨k,o,a,b,c,d,e⟩:=hO _ (hx j o' hj) o' rfl;refine⟨k,o,?_,b,c,d,λr hr q hq=>all_eq_true.1 (all_eq_true.1 e r hr) q hq⟩;simp only[ij.st,a]
 ·simp only[ij.st]at hk;cases h:lk L2.env t with
  |none=>rw[h]at hk;simp[refs]at hk
  |some x=>
   rw[h]at hk;exact Nat.blt_eq.mp (all_eq_true.1 (all_eq_true.1 h1 _ (pq h)) k hk)
 ·have:=all_eq_true.1 h2 _ (hx k o hk);simp only[Option.map_some,Option.getD_some,aY]at this;refine⟨Nat.blt_eq.mp this.1,λr hr x hx j hj=>?_⟩;exact Nat.blt_eq.mp (all_eq_true.1 (all_eq_true.1 this.2 r hr) j (JE hx j hj))
noncomputable abbrev hcC:Code:=Tryz.f28.body.getD .skip
theorem aqP{h:aG}{F:Nat->Option aK}:oH Tryz.prog (iB rZ) (cO (cA hcC)) (λ _=>zd) F (List.range (cO (cA hcC)).size) ⟨[(0,qr h)],[],[]⟩=
 some (⟨[(2,.t (.sc (.map none))),(1,.ptr (cx 0) 0 0),(0,qr h)],[(cx 0,some (ly h))],[(2,none),(1,none)]⟩,[]):=by kernel_rfl
noncomputable abbrev Hp:List (Nat×AV):=[(1,.ptr 1001 0 0)]
noncomputable abbrev Hm(h:aG):List (Nat×Option aK):=[(1001,some (ly h))]
theorem aqQ{h:aG}{F:Nat->Option aK}:oH Tryz.prog (iB rZ) (cO (cA (cB hcC))) (λ _=>zd) F (List.range (cO (cA (cB hcC))).size) ⟨Hp,Hm h,[]⟩=
 some (⟨(3,hf0)::Hp,Hm h,[(3,none)]⟩,[]):=by kernel_rfl
noncomputable def aqr:Nat->j9
 | 0=>⟨.ext 0,[],[],false⟩
 | 4 | 7 | 11 | 14=>⟨.ext 0,[cx 0],[cx 0],false⟩
 |_=>zd
noncomputable abbrev aqR(B:Nat):List (Nat×AV):=[(15,.mp (cx 0)),(14,.agg [.fn 72 [] [],hfB 73 B]),(13,hfB 73 B),(12,.agg [hfB 68 B,hfB 71 B]),(11,hfB 71 B),(10,hfB 68 B),(9,.agg [.fn 64 [] [],hfB 66 B]),(8,hfB 66 B),(7,.agg [hf0,hf0]),(6,hf0),(5,hf0),(4,.mp (cx 0)),(3,hf0)]++Hp
theorem aqS{h:aG}{F:Nat->Option aK}:oH Tryz.prog (iB rZ) (cO (cA (cB (cB hcC)))) aqr F (List.range (cO (cA (cB (cB hcC)))).size) ⟨(3,hf0)::Hp,Hm h,[]⟩=
 some (⟨(2,.mp (cx 0))::aqR 1001,[(cx 0,some ⟨4,ot 1001⟩),(cx 0,some ⟨3,(ot 1001).take 3⟩),(cx 0,some ⟨2,(ot 1001).take 2⟩),(cx 0,some ⟨1,(ot 1001).take 1⟩),(cx 0,some ⟨0,[]⟩)]++Hm h,[2,15,14,13,12,11,10,9,8,7,6,5,4].map λt=>(t,none)⟩,[]):=by kernel_rfl
theorem ao2(h:aG):xy Tryz.prog 28 [qr h] [] [(1000,⟨4,ot 1001⟩),(1001,ly h)] (.mp 1000):=by
 have hb:Tryz.f28.body=some hcC:=by kernel_rfl
 have hn : (Tryz.f28.name == "runtime.NumGoroutine") = false := by kernel_rfl
 refine aaF xk func28 hb hn (by show 1<=Tryz.f28.ntmps;decide +kernel) (λ k hk=>by have hk:k∈([]:List Nat):=hk;cases hk) (by simp) (by simp) ?_;show Ev _ _ (Code.seq (cA hcC) (Code.seq (cA (cB hcC)) (Code.seq (cA (cB (cB hcC))) Code.ret))) _ ((⟨[(0,qr h)],[],[]⟩:ij).st λ_=>none);refine Bc (rU (ag:=cO (cA hcC)) (σ2:=(⟨Hp,Hm h,[]⟩:ij).st λ_=>none) xk (by kernel_rfl) aqP trivial ?_ ?_)
 ·refine uL [(cx 0,1001)] (by kernel_rfl) (λ p hp=>?_) (λ q hq o' ho=>?_) rfl (by kernel_rfl) (by kernel_rfl)
  ·simp only[bq]at hp;subst hp;exact⟨rfl,rfl,rfl⟩
  ·simp only[bq]at hq;subst hq;cases ho;exact⟨cx 0,ly h,rfl,rfl,rfl,rfl,rfl⟩
 refine Bc (rU (ag:=cO (cA (cB hcC))) (σ2:=(⟨(3,hf0)::Hp,Hm h,[]⟩:ij).st λ_=>none) xk (by kernel_rfl) aqQ trivial ?_ ?_)
 ·refine uL [] (by kernel_rfl) (λ p hp=>?_) (λ q hq o' ho=>?_) rfl (by kernel_rfl) (by kernel_rfl)
  ·simp only[aH,bn,or_false]at hp;rcases hp with rfl |rfl<;>exact⟨rfl,rfl,rfl⟩
  ·simp only[bq]at hq;subst hq;cases ho;exact⟨1001,ly h,rfl,rfl,rfl,rfl,rfl⟩
 refine Bc (rU (ag:=cO (cA (cB (cB hcC)))) (σ2:=(⟨[(2,.mp 1000)],[(1000,some ⟨4,ot 1001⟩),(1001,some (ly h))],[]⟩:ij).st λ_=>none) xk (by kernel_rfl) aqS trivial ?_ (To ⟨[.mp 1000],rfl,?_⟩))
 ·refine uL [(cx 0,1000)] (by kernel_rfl) (λ p hp=>?_) (λ q hq o' ho=>?_) rfl (by kernel_rfl) (by kernel_rfl)
  ·simp only[bq]at hp;subst hp;exact⟨rfl,rfl,rfl⟩
  ·simp only[aH,bn,or_false]at hq;rcases hq with rfl |rfl
   ·cases ho;exact⟨cx 0,⟨4,ot 1001⟩,rfl,rfl,rfl,rfl,rfl⟩
   ·cases ho;exact⟨1001,ly h,rfl,rfl,rfl,rfl,rfl⟩
 ·intro w0 O0 β I w vs hM hv;obtain⟨vs⟩:=vs
  match vs,hv with
  |[v],hv=>
   refine⟨β,I,?_,λ_ h=>h,hv.1⟩;have e:∀k,((⟨[(2,.mp 1000)],[(1000,some ⟨4,ot 1001⟩),(1001,some (ly h))],[]⟩:ij).st λ_=>none).obj k=pj [(1000,⟨4,ot 1001⟩),(1001,ly h)] k:=λk=>by
    simp only[ij.st,lk,pj];by_cases h1:1000=k
    ·simp only[aS h1]
    ·simp only[aR h1];by_cases h2:1001=k
     ·simp only[aS h2]
     ·simp only[aR h2]
   rw[<- funext e];exact hM
theorem Ji{P:Program}{T:ez}{ag:Array Oper}{da:Nat->j9}{F:Nat->Option aK}:∀(a b:List Nat)(L L1 L2:ij)(o1 o2:List Prop),oH P T ag da F a L=some (L1,o1)->oH P T ag da F b L1=some (L2,o2)->oH P T ag da F (a++b) L=some (L2,o1++o2)
 |[],b,L,L1,L2,o1,o2,h1,h2=>by simp only[oH,bJ,Prod.mk.injEq]at h1;obtain⟨rfl,rfl⟩:=h1;exact h2
 |i::a,b,L,L1,L2,o1,o2,h1,h2=>by simp only[oH,ah]at h1;obtain⟨o,e1,out,e2,q,e3,e4⟩:=h1;simp only[bJ,Prod.mk.injEq]at e4;obtain⟨rfl,rfl⟩:=e4;have:=Ji a b _ q.1 L2 q.2 o2 e3 h2;simp only[List.cons_append,oH,e1,e2,ai,this,aQ]
noncomputable abbrev nf:AV:= .t (.sc .nilFunc)
theorem ajr(h:aG):MZ 0 [(1000,⟨4,ot 1001⟩),(1001,ly h)] (.mp 1000):=by
 refine⟨λ q hq=>?_,by show [1000,1001].Nodup;decide,λq hq r hr k hk=>?_,λk hk=>?_⟩
 ·simp only[aH,bn,or_false]at hq;rcases hq with rfl |rfl<;>exact .inr ⟨Nat.le_of_ble_eq_true rfl,Nat.le_of_ble_eq_true rfl⟩
 ·simp only[aH,bn,or_false]at hq;rcases hq with rfl |rfl
  ·simp only[ot,aH,bn,or_false]at hr;rcases hr with rfl |rfl |rfl |rfl<;>simp[dh,refs]at hk<;>(subst hk;exact .inr ⟨by decide,by decide⟩)
  ·simp only[bq]at hr;subst hr;have hk:k∈([]:List Nat):=hk;cases hk
 ·simp[refs]at hk;subst hk;exact .inr ⟨by decide,by decide⟩
theorem ajs{h:aG}{get:Nat->Option aK}:Ho get [qr h] [] [] []:=by refine⟨λ k hk=>(by cases hk),λk hk=>?_,λj hs q o hj=>by simp at hj⟩;have hk:k∈([]:List Nat):=hk;cases hk
theorem ajt{B:Nat}{x:Int}(h0:x≠0)(h1:x≠1)(h2:x≠2)(h3:x≠3):xA (.int .i64 x) (ot B)=some none:=by simp[xA,MX,h0,h1,h2,h3]
def uM:cm xx:=⟨[.d (.sl af),.d af],[.d .bool],λa=>fG n a.1 a.2.1,none⟩
def OW:Hn SI:=(co (.s (.s .z (.b (.lx ⟨[(5,.v af),(10,.v af)],[],[1,8,9],[],1320,[]⟩ 0 ⟨[],[],[],[],1320,[]⟩ (co (.s (.b (.s .z (.s (.s (.j ⟨[(21,.v .bool)],[],[1,7,8,9,10],[],1576,[]⟩ .z) .z) .z))) .z))))) .z))
theorem AY:aC 102 (uM n) :=cq ay func102 OW n
def j6:cm xx:=⟨[.d d9],[.d .bool],λa=>p8 a.1,none⟩
theorem uN:aC 63 j6 :=cq ay func63 .z 0
def OX:cm xx:=⟨[],[.fresh .str],λ_=>oJ,none⟩
theorem AZ:aC 65 OX :=cq ay func65 .z 0
def OY:cm xx:=⟨[.d (.sl .str),.d .str],[.d af],λa=>rG n a.1 a.2.1,none⟩
def OZ:Hn SI:=(.s .z (.s (.s .z (.b (.lx ⟨[(8,.v af)],[],[0,1,7],[],1256,[]⟩ 0 ⟨[],[],[],[],1256,[]⟩ .z))) .z))
theorem O1:aC 79 (OY n) :=cq ay func79 OZ n
def Jj:cm xx:=⟨[.d (.sl .str),.d .str],[.d .bool],λa=>dQ n a.1 a.2.1,none⟩
theorem jh:aC 31 (Jj n) :=cq (ak (O1 n) ay) func31 .z n
def oo:cm xx:=⟨[.d d9],[.d .bool],λa=>lT n a.1,none⟩
theorem Fh:aC 64 (oo n) :=cq (ak AZ (ak (jh n) ay)) func64 .z n
def zM:cm xx:=⟨[.d aT,.ref d9],[.d .bool],λa=>jo a.1 a.2.1,none⟩
theorem zN:aC 70 zM :=cq ay func70 .z 0
def Kn:cm xx:=⟨[.d (.sl aT),.el [aT] .bool],[.d af],λa=>ug n a.1 a.2.1,none⟩
def Ko:Hn SI:=(.s .z (.s (.s .z (.b (.lx ⟨[(8,.v af)],[],[0,1,7],[],1256,[]⟩ 0 ⟨[],[],[],[],1256,[]⟩ .z))) .z))
theorem Kq:aC 116 (Kn n) :=cq ay func116 Ko n
def Fj:cm xx:=⟨[.d (.sl aT),.el [aT] .bool],[.d .bool],λa=>p9 n a.1 a.2.1,none⟩
theorem Fp:aC 69 (Fj n) :=cq (ak (Kq n) ay) func69 .z n
def oq:cm xx:=⟨[.d d9,.ref dJ],[.d .bool],λa=>lU n a.1 a.2.1,none⟩
theorem Fq:aC 68 (oq n) :=cq (ak (Fp n) (ak zN ay)) func68 .z n
def ow:cm xx:=⟨[.d d9],[.d .bool],λa=>lV a.1,none⟩
theorem Fs:aC 72 ow :=cq ay func72 .z 0
noncomputable abbrev lz:Code:=Tryz.f151.body.getD .skip
theorem aqT{h:aG}{c:aL}{F:Nat->Option aK}:oH Tryz.prog (iB rZ) (cO (cA lz)) (λ _=>zd) F (List.range (cO (cA lz)).size) ⟨[(0,qr h),(1,sd c)],[],[]⟩=
 some (⟨[(4,bo false),(3,.ptr (cx 1) 0 0),(2,.ptr (cx 0) 0 0),(0,qr h),(1,sd c)],[(cx 1,some (xm c)),(cx 0,some (ly h))],[(4,none),(3,none),(2,none)]⟩,[]):=by kernel_rfl
noncomputable abbrev Pu:List (Nat×AV):=[(2,.ptr 1001 0 0),(3,.ptr 1002 0 0)]
noncomputable abbrev Pr(h:aG)(c:aL):List (Nat×Option aK):=[(1001,some (ly h)),(1002,some (xm c))]
noncomputable def aqs:Nat->j9
 | 0=>ZX [1001]
 | 3=>ZX [1002]
 | 4=>⟨.ext 0,[cx 1],[],false⟩
 | 9=>aqp [cx 8]
 |_=>zd
noncomputable def pd(h:aG):Nat->j9:=λi=>if i=1 then⟨.ro [] [] [] [] [(1000,⟨4,ot 1001⟩),(1001,ly h)] (.mp 1000) false,[],[],false⟩else aqs i
noncomputable abbrev ZY(h:aG)(c:aL):List (Nat×Option aK):=[(cx 1,some ⟨4,ot (cx 1+1)⟩),(cx 1+1,some (ly h))]++Pr h c
noncomputable abbrev Z0(h:aG)(c:aL):List (Nat×AV):=[(11,tn c.d6),(10,.ptr 1002 0 3),(9,.mp (cx 1)),(8,qr h)]++Pu
theorem aqt{h:aG}{c:aL}{F:Nat->Option aK}:oH Tryz.prog (iB rZ) (cO (cA (cB lz))) (pd h) F [0,1,2,3] ⟨Pu,Pr h c,[]⟩=
 some (⟨Z0 h c,ZY h c,[11,10,9,8].map λt=>(t,none)⟩,[xy Tryz.prog 28 [qr h] [] [(1000,⟨4,ot 1001⟩),(1001,ly h)] (.mp 1000),MZ 0 [(1000,⟨4,ot 1001⟩),(1001,ly h)] (.mp 1000),Ho (dF [] ((⟨Pu,Pr h c,[]⟩:ij).st F).obj) [qr h] [] [] []]):=by kernel_rfl
noncomputable abbrev yp:List (Nat×Option Bool):=[(11,none),(10,none),(9,none),(8,none)]
theorem aqu{h:aG}{c:aL}{F:Nat->Option aK}:∃g:Option Out->Option Out,(∀ o,g (some o)=some o)/\Gb.opAt Tryz.prog (iB rZ) (cO (cA (cB lz))) (pd h) 4 ((⟨Z0 h c,ZY h c,yp⟩:ij).st F)=
 (g ((xA (.int .i64 c.d6) (ot (cx 1+1))).bind λr=>(wi r (some (.agg [nf,nf]))).bind λv=>pv (.en [v,bo r.isSome]))).bind λout=>if out.upd.all (λ p=>Eb 4 p.1 || [].contains p.1)then some (⟨out.v,out.upd,[]++out.obs⟩,none)else none:=
 ⟨λ X=>X,λ_=>rfl,by kernel_rfl⟩
theorem SY{h:aG}{c:aL}{F:Nat->Option aK}{f1 f2:Nat}{c1 c2:List AV}{b:Bool}:oH Tryz.prog (iB rZ) (cO (cA (cB lz))) (pd h) F [5,6,7,8,9,10] ⟨(12,.en [.agg [.fn f1 [] c1,.fn f2 [] c2],bo b])::Z0 h c,ZY h c,(12,none)::yp⟩=
 some (⟨[(6,bo b),(5,.ptr (cx 8) 0 0),(14,bo b),(13,.agg [.fn f1 [] c1,.fn f2 [] c2]),(7,.en [.agg [.fn f1 [] c1,.fn f2 [] c2],bo b]),(12,.en [.agg [.fn f1 [] c1,.fn f2 [] c2],bo b])]++Z0 h c,[(cx 8,some ⟨2,[[.fn f1 [] c1,.fn f2 [] c2]]⟩),(cx 8,some ⟨2,[[nf,nf]]⟩)]++ZY h c,[(6,none),(5,none),(14,none),(13,none),(7,none),(12,none)]++yp⟩,[]):=by kernel_rfl
theorem aqv{h:aG}{c:aL}{F:Nat->Option aK}{b:Bool}:oH Tryz.prog (iB rZ) (cO (cA (cB lz))) (pd h) F [5,6,7,8,9,10] ⟨(12,.en [.agg [nf,nf],bo b])::Z0 h c,ZY h c,(12,none)::yp⟩=
 some (⟨[(6,bo b),(5,.ptr (cx 8) 0 0),(14,bo b),(13,.agg [nf,nf]),(7,.en [.agg [nf,nf],bo b]),(12,.en [.agg [nf,nf],bo b])]++Z0 h c,[(cx 8,some ⟨2,[[nf,nf]]⟩),(cx 8,some ⟨2,[[nf,nf]]⟩)]++ZY h c,[(6,none),(5,none),(14,none),(13,none),(7,none),(12,none)]++yp⟩,[]):=by kernel_rfl
theorem aqw{h:aG}:VN (cO (cA (cB lz))) (pd h)=true:=by kernel_rfl
theorem aqx{h:aG}{c:aL}{F:Nat->Option aK}{r:Option (Nat×AV)}{v:AV}(hm:xA (.int .i64 c.d6) (ot (cx 1+1))=some r)(hz:wi r (some (.agg [nf,nf]))=some v):
 oH Tryz.prog (iB rZ) (cO (cA (cB lz))) (pd h) F [4] ⟨Z0 h c,ZY h c,yp⟩=some (⟨(12,.en [v,bo r.isSome])::Z0 h c,ZY h c,(12,none)::yp⟩,[]):=by
 obtain⟨g,hg,e⟩:=aqu (h:=h) (c:=c) (F:=F);rw[hm]at e;simp only[ai,hz,pv,hg]at e;have e1:(cO (cA (cB lz)))[4]? =some ((cO (cA (cB lz)))[4]!):=by kernel_rfl
 have e2:((cO (cA (cB lz)))[4]!).dst=some 12:=by kernel_rfl
 simp only[oH,e1,ai,e];simp only[ij.app,e2];rfl
noncomputable abbrev Ui(b:Bool):List (Nat×AV):=[(2,.ptr 1001 0 0),(3,.ptr 1002 0 0),(5,.ptr 1003 0 0),(6,bo b)]
noncomputable abbrev YA(h:aG)(c:aL)(x y:AV):List (Nat×Option aK):=[(1001,some (ly h)),(1002,some (xm c)),(1003,some ⟨2,[[x,y]]⟩),(1004,some (ly h))]
noncomputable def Rg(h:aG)(a r b:Bool):Nat->j9
 | 3=>ZX [1002]
 | 5=>ZX [1001]
 | 6=>⟨.num (h.claims.length:Int),[],[],false⟩
 | 7=>⟨.call [] (.one (.d (.s (.sc (.bool a))))) false,[],[],false⟩
 | 11=>ZX [1003]
 | 12=>ZX [1002]
 | 13=>if b then⟨.call [.row (jB h)] (.one (.d (.s (.sc (.bool r))))) false,[1004],[1004],false⟩else⟨.call [] (.one (.d (.s (.sc (.bool r))))) false,[],[],false⟩
 |_=>zd
noncomputable abbrev hfA(h:aG)(c:aL)(a:Bool):Prop:=rx Tryz.prog 102 [.t (.sl (c.attacks.map λy=>[.sc (.int .i64 y)])),tn (h.claims.length:Int)] (.one (.d (.s (.sc (.bool a)))))
noncomputable abbrev I3(h:aG):Prop:=(h.claims.length:Int)=((h.claims.map yT).length:Int)
noncomputable abbrev WF(h:aG)(c:aL)(a:Bool):List (Nat×AV):=[(23,bo a),(22,bo a),(21,tn (h.claims.length:Int)),(20,.t (.sl (h.claims.map yT))),(19,.ptr 1001 0 21),(18,.t (.sl (c.attacks.map λy=>[.sc (.int .i64 y)]))),(17,.ptr 1002 0 2),(16,bo true),(15,bo true)]
theorem aqU{h:aG}{c:aL}{F:Nat->Option aK}{y:AV}{f:Nat}{r:Bool}:∃E O K,oH Tryz.prog (iB rZ) (cO (cA (cB (cB lz)))) (Rg h true r true) F (List.range (cO (cA (cB (cB lz)))).size) ⟨Ui true,YA h c (hfB f 1004) y,[]⟩=
 some (⟨(4,bo r)::E,O,(4,none)::K⟩,[I3 h,hfA h c true,(ly h).rows[0]? =some ((jB h).map AV.t),rx Tryz.prog f [sd c,.eK (jB h) 0] (.one (.d (.s (.sc (.bool r)))))]):=
 ⟨[(29,bo r),(28,bo r),(27,sd c),(26,hfB f 1004),(25,.ptr 1003 0 0),(24,bo true)]++WF h c true++Ui true,(1004,none)::YA h c (hfB f 1004) y,[29,28,27,26,25,24,23,22,21,20,19,18,17,16,15].map λt=>(t,none),by kernel_rfl⟩
theorem ank{h:aG}{c:aL}{F:Nat->Option aK}{y:AV}{f:Nat}{r:Bool}:∃E O K,oH Tryz.prog (iB rZ) (cO (cA (cB (cB lz)))) (Rg h true r false) F (List.range (cO (cA (cB (cB lz)))).size) ⟨Ui true,YA h c (.fn f [] []) y,[]⟩=
 some (⟨(4,bo r)::E,O,(4,none)::K⟩,[I3 h,hfA h c true,rx Tryz.prog f [sd c] (.one (.d (.s (.sc (.bool r)))))]):=
 ⟨[(29,bo r),(28,bo r),(27,sd c),(26,.fn f [] []),(25,.ptr 1003 0 0),(24,bo true)]++WF h c true++Ui true,YA h c (.fn f [] []) y,[29,28,27,26,25,24,23,22,21,20,19,18,17,16,15].map λt=>(t,none),by kernel_rfl⟩
theorem Re{h:aG}{c:aL}{F:Nat->Option aK}{x y:AV}:∃E O K,oH Tryz.prog (iB rZ) (cO (cA (cB (cB lz)))) (Rg h false false false) F (List.range (cO (cA (cB (cB lz)))).size) ⟨Ui true,YA h c x y,[]⟩=
 some (⟨(4,bo false)::E,O,(4,none)::K⟩,[I3 h,hfA h c false,false=true->false=true]):=
 ⟨[(29,bo false),(28,.undef),(27,.undef),(26,.undef),(25,.undef),(24,bo false)]++WF h c false++Ui true,YA h c x y,[(29,none),(28,some false),(27,some false),(26,some false),(25,some false),(24,none),(23,none),(22,none),(21,none),(20,none),(19,none),(18,none),(17,none),(16,none),(15,none)],by kernel_rfl⟩
theorem aqy{h:aG}{c:aL}{F:Nat->Option aK}:∃E O K,oH Tryz.prog (iB rZ) (cO (cA (cB (cB lz)))) (Rg h false false false) F (List.range (cO (cA (cB (cB lz)))).size) ⟨Ui false,YA h c nf nf,[]⟩=
 some (⟨(4,bo false)::E,O,(4,none)::K⟩,[false=true->false=true,false=true->false=true]):=
 ⟨[(29,bo false),(28,.undef),(27,.undef),(26,.undef),(25,.undef),(24,bo false),(23,bo false),(22,.undef),(21,.undef),(20,.undef),(19,.undef),(18,.undef),(17,.undef),(16,bo false),(15,bo false)]++Ui false,YA h c nf nf,[(29,none),(28,some false),(27,some false),(26,some false),(25,some false),(24,none),(23,none),(22,some false),(21,some false),(20,some false),(19,some false),(18,some false),(17,some false),(16,none),(15,none)],by kernel_rfl⟩
theorem O3{Q:Exit->St->Prop}{h:aG}{c:aL}{r:Option (Nat×AV)}{x y x' y':AV}(hm:xA (.int .i64 c.d6) (ot (cx 1+1))=some r)(hz:wi r (some (.agg [nf,nf]))=some (.agg [x,y]))
 (hr:oH Tryz.prog (iB rZ) (cO (cA (cB lz))) (pd h) (λ _=>none) [5,6,7,8,9,10] ⟨(12,.en [.agg [x,y],bo r.isSome])::Z0 h c,ZY h c,(12,none)::yp⟩=
  some (⟨[(6,bo r.isSome),(5,.ptr (cx 8) 0 0),(14,bo r.isSome),(13,.agg [x,y]),(7,.en [.agg [x,y],bo r.isSome]),(12,.en [.agg [x,y],bo r.isSome])]++Z0 h c,[(cx 8,some ⟨2,[[x,y]]⟩),(cx 8,some ⟨2,[[nf,nf]]⟩)]++ZY h c,[(6,none),(5,none),(14,none),(13,none),(7,none),(12,none)]++yp⟩,[]))
 (hx:∀z∈[(x,x'),(y,y')],gO (fR [(cx 8,1003),(cx 1+1,1004)]) z.1=z.2/\(refs z.1).all (dR [(cx 8,1003),(cx 1+1,1004)])=true/\(refs z.2).all (Nat.blt · 1000000)=true)
 (hq:Ev Tryz.prog Tryz.f151.ntmps (.seq (cA (cB (cB lz))) .ret) Q ((⟨Ui r.isSome,YA h c x' y',[]⟩:ij).st λ_=>none)):
 Ev Tryz.prog Tryz.f151.ntmps lz Q ((⟨[(0,qr h),(1,sd c)],[],[]⟩:ij).st λ_=>none):=by
 show Ev _ _ (Code.seq (cA lz) (Code.seq (cA (cB lz)) (Code.seq (cA (cB (cB lz))) Code.ret))) _ _;refine Bc (rU (ag:=cO (cA lz)) (σ2:=(⟨Pu,Pr h c,[]⟩:ij).st λ_=>none) xk (by kernel_rfl) aqT trivial ?_ ?_)
 ·refine uL [(cx 0,1001),(cx 1,1002)] (by kernel_rfl) (λ p hp=>?_) (λ q hq o' ho=>?_) rfl (by kernel_rfl) (by kernel_rfl)
  ·simp only[aH,bn,or_false]at hp;rcases hp with rfl |rfl<;>exact⟨rfl,rfl,rfl⟩
  ·simp only[aH,bn,or_false]at hq;rcases hq with rfl |rfl
   ·cases ho;exact⟨cx 0,ly h,rfl,rfl,rfl,rfl,rfl⟩
   ·cases ho;exact⟨cx 1,xm c,rfl,rfl,rfl,rfl,rfl⟩
 have hrun:=Ji [0,1,2,3] ([4]++[5,6,7,8,9,10]) _ _ _ _ _ aqt (Ji [4] [5,6,7,8,9,10] _ _ _ _ _ (aqx hm hz) hr);refine Bc (WZ (ag:=cO (cA (cB lz))) (σ2:=(⟨Ui r.isSome,YA h c x' y',[]⟩:ij).st λ_=>none) xk mixed (by kernel_rfl) aqw hrun ?_ ?_ hq)
 ·exact⟨ao2 h,ajr h,ajs⟩
 ·obtain⟨a1,a2,a3⟩:=hx (x,x') (by simp);obtain⟨b1,b2,b3⟩:=hx (y,y') (by simp);refine uL [(cx 8,1003),(cx 1+1,1004)] (by kernel_rfl) (λ p hp=>?_) (λ q hq o' ho=>?_) rfl (by cases r<;>rfl) ?_
  ·simp only[aH,bn,or_false]at hp;rcases hp with rfl |rfl |rfl |rfl<;>exact⟨rfl,rfl,rfl⟩
  ·simp only[aH,bn,or_false]at hq;rcases hq with rfl |rfl |rfl |rfl
   ·cases ho;exact⟨1001,ly h,rfl,rfl,rfl,rfl,rfl⟩
   ·cases ho;exact⟨1002,xm c,rfl,rfl,rfl,rfl,rfl⟩
   ·cases ho;refine⟨cx 8,⟨2,[[x,y]]⟩,rfl,rfl,rfl,?_,?_⟩
    ·simp only[Cx,bE,List.map_nil,vv];rw[a1,b1]
    ·simp only[all_cons,List.all_nil,dh,List.append_nil,List.all_append];rw[a2,b2];rfl
   ·cases ho;exact⟨cx 1+1,ly h,rfl,rfl,rfl,rfl,rfl⟩
  ·have e:(Nat.blt 1003 1000000&&((some (⟨2,[[x',y']]⟩:aK)).map λo=>o.rows.all λr=>(dh r).all (Nat.blt · 1000000)).getD true)=true:=(by simp only[Option.map_some,Option.getD_some,all_cons,List.all_nil,dh,List.append_nil,List.all_append];rw[a3,b3];rfl);simp only[YA,all_cons,List.all_nil,e,Bool.and_true];rfl
theorem Fu{S:List (Nat×Option aK)}{b r:Bool}{obs:List Prop}{da:Nat->j9}{E:List (Nat×AV)}{O:List (Nat×Option aK)}{K:List (Nat×Option Bool)}
 (hr:oH Tryz.prog (iB rZ) (cO (cA (cB (cB lz)))) da (λ _=>none) (List.range (cO (cA (cB (cB lz)))).size) ⟨Ui b,S,[]⟩=some (⟨(4,bo r)::E,O,(4,none)::K⟩,obs)) (ho:iM obs):
 Ev Tryz.prog Tryz.f151.ntmps (.seq (cA (cB (cB lz))) .ret) (My (iB rZ) Tryz.f151.results.toList (.one (.d (.s (.sc (.bool r))))) []) ((⟨Ui b,S,[]⟩:ij).st λ_=>none):=by refine Bc (rU (ag:=cO (cA (cB (cB lz)))) (σ2:=(⟨[(4,bo r)],[],[]⟩:ij).st λ_=>none) xk (by kernel_rfl) hr ho ?_ (To ⟨[bo r],none,rfl,rfl,λj p hj=>by simp at hj⟩));refine uL [] (by kernel_rfl) (λ p hp=>?_) (λ q hq=>by cases hq) rfl rfl rfl;simp only[bq]at hp;subst hp;exact⟨rfl,rfl,rfl⟩
noncomputable def Dt(n:Nat):cm xx:=⟨[.d dJ,.d d9],[.d .bool],λa=>nG n a.1 a.2.1,none⟩
theorem A2(h:aG):I3 h:=by simp[I3]
theorem anl(ka:aC 102 (uM n))(k1:aC 63 j6)(k2:aC 64 (oo n))(k4:aC 68 (oq n))(k6:aC 72 ow)(h:aG)(c:aL)(r:Bool)(e:nG n h c=some r):qu Tryz.prog 151 [qr h,sd c] [] [] (.one (.d (.s (.sc (.bool r))))):=by
 have hb:Tryz.f151.body=some lz:=by kernel_rfl
 have hn : (Tryz.f151.name == "runtime.NumGoroutine") = false := by kernel_rfl
 refine PX (args:=[qr h,sd c]) (os:=[]) (os':=[]) xk func151 hb hn (by show 2<=Tryz.f151.ntmps;decide +kernel) (λ k hk=>by have hk:k∈([]:List Nat):=hk;cases hk) (by simp) rfl ?_;show Ev _ _ lz (My (iB rZ) Tryz.f151.results.toList (.one (.d (.s (.sc (.bool r))))) []) ((⟨[(0,qr h),(1,sd c)],[],[]⟩:ij).st λ_=>none);unfold nG at e;have fa:∀{a:Bool},fG n c.attacks (h.claims.length:Int)=some a->hfA h c a:=λ{a} ha=>oC (ka.2.1 (c.attacks,(h.claims.length:Int),()) a ha);have sp:∀{X:Option Bool},((fG n c.attacks (h.claims.length:Int)).bind λa=>bif a then X else some false)=some r->(hfA h c true/\X=some r)\/(hfA h c false/\r=false):=λ{X} hx=>by
  rw[ah]at hx;obtain⟨a,ha,hx⟩:=hx;cases a with
  |true=>exact .inl ⟨fa ha,hx⟩
  |false=>injection hx with hx;exact .inr ⟨fa ha,hx.symm⟩
 by_cases h0:c.d6=0
 ·rw[h0]at e;rcases sp e with ⟨g1,g2⟩ |⟨g1,rfl⟩
  ·have f:=oC (k1.2.1 (c,()) r g2);obtain⟨E,O,K,hr⟩:=ank (h:=h) (c:=c) (F:=λ_=>none) (y:=hf0) (f:=63) (r:=r);exact O3 (r:=some (0,.agg [hf0,hf0])) (by rw[h0];rfl) rfl SY (λ z hz=>by simp only[aH,bn,or_false]at hz;rcases hz with rfl |rfl<;>exact⟨rfl,rfl,rfl⟩) (Fu hr ⟨A2 h,g1,f⟩)
  ·obtain⟨E,O,K,hr⟩:=Re (h:=h) (c:=c) (F:=λ_=>none) (x:=hf0) (y:=hf0);exact O3 (r:=some (0,.agg [hf0,hf0])) (by rw[h0];rfl) rfl SY (λ z hz=>by simp only[aH,bn,or_false]at hz;rcases hz with rfl |rfl<;>exact⟨rfl,rfl,rfl⟩) (Fu hr ⟨A2 h,g1,λe=>e⟩)
 by_cases h1:c.d6=1
 ·rw[h1]at e;rcases sp e with ⟨g1,g2⟩ |⟨g1,rfl⟩
  ·have f:=oC (k2.2.1 (c,()) r g2);obtain⟨E,O,K,hr⟩:=ank (h:=h) (c:=c) (F:=λ_=>none) (y:=hfB 66 1004) (f:=64) (r:=r);exact O3 (r:=some (1,.agg [.fn 64 [] [],hfB 66 (cx 1+1)])) (by rw[h1];rfl) rfl SY (λ z hz=>by simp only[aH,bn,or_false]at hz;rcases hz with rfl |rfl<;>exact⟨rfl,rfl,rfl⟩) (Fu hr ⟨A2 h,g1,f⟩)
  ·obtain⟨E,O,K,hr⟩:=Re (h:=h) (c:=c) (F:=λ_=>none) (x:= .fn 64 [] []) (y:=hfB 66 1004);exact O3 (r:=some (1,.agg [.fn 64 [] [],hfB 66 (cx 1+1)])) (by rw[h1];rfl) rfl SY (λ z hz=>by simp only[aH,bn,or_false]at hz;rcases hz with rfl |rfl<;>exact⟨rfl,rfl,rfl⟩) (Fu hr ⟨A2 h,g1,λe=>e⟩)
 by_cases h2:c.d6=2
 ·rw[h2]at e;rcases sp e with ⟨g1,g2⟩ |⟨g1,rfl⟩
  ·have f:=oC (k4.2.1 (c,h,()) r g2);obtain⟨E,O,K,hr⟩:=aqU (h:=h) (c:=c) (F:=λ_=>none) (y:=hfB 71 1004) (f:=68) (r:=r);exact O3 (r:=some (2,.agg [hfB 68 (cx 1+1),hfB 71 (cx 1+1)])) (by rw[h2];rfl) rfl SY (λ z hz=>by simp only[aH,bn,or_false]at hz;rcases hz with rfl |rfl<;>exact⟨rfl,rfl,rfl⟩) (Fu hr ⟨A2 h,g1,rfl,f⟩)
  ·obtain⟨E,O,K,hr⟩:=Re (h:=h) (c:=c) (F:=λ_=>none) (x:=hfB 68 1004) (y:=hfB 71 1004);exact O3 (r:=some (2,.agg [hfB 68 (cx 1+1),hfB 71 (cx 1+1)])) (by rw[h2];rfl) rfl SY (λ z hz=>by simp only[aH,bn,or_false]at hz;rcases hz with rfl |rfl<;>exact⟨rfl,rfl,rfl⟩) (Fu hr ⟨A2 h,g1,λe=>e⟩)
 by_cases h3:c.d6=3
 ·rw[h3]at e;rcases sp e with ⟨g1,g2⟩ |⟨g1,rfl⟩
  ·have f:=oC (k6.2.1 (c,()) r g2);obtain⟨E,O,K,hr⟩:=ank (h:=h) (c:=c) (F:=λ_=>none) (y:=hfB 73 1004) (f:=72) (r:=r);exact O3 (r:=some (3,.agg [.fn 72 [] [],hfB 73 (cx 1+1)])) (by rw[h3];rfl) rfl SY (λ z hz=>by simp only[aH,bn,or_false]at hz;rcases hz with rfl |rfl<;>exact⟨rfl,rfl,rfl⟩) (Fu hr ⟨A2 h,g1,f⟩)
  ·obtain⟨E,O,K,hr⟩:=Re (h:=h) (c:=c) (F:=λ_=>none) (x:= .fn 72 [] []) (y:=hfB 73 1004);exact O3 (r:=some (3,.agg [.fn 72 [] [],hfB 73 (cx 1+1)])) (by rw[h3];rfl) rfl SY (λ z hz=>by simp only[aH,bn,or_false]at hz;rcases hz with rfl |rfl<;>exact⟨rfl,rfl,rfl⟩) (Fu hr ⟨A2 h,g1,λe=>e⟩)
 ·have er:r=false:=by rw[show (c.d6==0)=false by simpa using h0,show(c.d6==1)=false by simpa using h1,show(c.d6==2)=false by simpa using h2,show(c.d6==3)=false by simpa using h3]at e;injection e with e;exact e.symm
  subst er;obtain⟨E,O,K,hr⟩:=aqy (h:=h) (c:=c) (F:=λ_=>none);exact O3 (r:=none) (ajt h0 h1 h2 h3) rfl aqv (λ z hz=>by simp only[aH,bn,or_false]at hz;rcases hz with rfl |rfl<;>exact⟨rfl,rfl,rfl⟩) (Fu hr ⟨λ e=>e,λe=>e⟩)
theorem Rb(ka:aC 102 (uM n))(k1:aC 63 j6)(k2:aC 64 (oo n))(k4:aC 68 (oq n))(k6:aC 72 ow):aC 151 (Dt n):=
 vx (pW (c:=lz) func151 (by kernel_rfl) (by kernel_rfl)) (λ a r e=>anl n ka k1 k2 k4 k6 a.1 a.2.1 r e) rfl
theorem Rc:aC 151 (Dt n):=Rb n (AY n) uN (Fh n) (Fq n) Fs
def O4:cm xx:=⟨[.d dY,.d af,.d af],[.fresh aD],λa=>oK n a.1 a.2.1 a.2.2.1,none⟩
def O5:Hn SI:=(co (.s (.s .z (.b (.l ⟨[(7,.o 1448),(13,.v af)],[(1448,.l aD)],[1,2,11,12],[],1449,[(7,aD)]⟩ 0 ⟨[(7,.o 1448)],[(1448,.l aD)],[],[],1449,[]⟩ (co (.s (.j ⟨[(7,.o 1513)],[(1513,.l aD)],[1,2,11,12,13],[],1514,[]⟩ (.b (.s .z (.s (.j ⟨[(25,.v .bool)],[],[1,2,7,9,11,12,13],[1448,1705],1897,[]⟩ .z) .z)))) .z))))) .z))
theorem A7:aC 18 (O4 n) :=cq ay func18 O5 n
def F7:cm xx:=⟨[.d aD],[.d .bool],λa=>fP a.1,none⟩
def F8:Hn SI:=(co (.s (.s (.j ⟨[(26,.v .bool)],[],[1],[1000],1384,[]⟩ .z) .z) (.s (.s (.j ⟨[(34,.v .bool)],[],[1],[1000],1384,[]⟩ .z) .z) .z)))
theorem kT:aC 19 F7 :=cq (ak qF ay) func19 F8 0
def afY:cm xx:=⟨[.d aA],[.d aA,.d .bool],λa=>yA a.1,none⟩
theorem S9:aC 158 afY :=cq (ak qF ay) func158 .z 0
def anm:cm xx:=⟨[.d aA],[.d af],λa=>yZ a.1,none⟩
theorem Jk:aC 107 anm :=cq (ak S9 ay) func107 .z 0
def akW:cm xx:=⟨[.d (.sl aA)],[.d af],λa=>N8 n a.1,none⟩
def akX:Hn SI:=(io (.s (.s .z (.b (.l ⟨[(3,.v af),(11,.v af)],[],[9,10],[],1512,[]⟩ 0 ⟨[(3,.v af)],[],[],[],1512,[]⟩ .z))) .z))
theorem abH:aC 49 (akW n) :=cq (ak (om n) (ak Jk ay)) func49 akX n
def Mk:cm xx:=⟨[.mut aA,.el [aA,aA] af],[.mu aA],λa=>vJ n a.1 a.2.1,none⟩
theorem Ml:aC 50 (Mk n):=by have hcall:dU Tryz.prog 50:=⟨_,func50,by kernel_rfl,by kernel_rfl⟩;refine vx hcall (λ a r h=>?_) rfl;obtain⟨l,φ,⟨⟩⟩:=a;refine Qq (X:=xx) (i:=SI.m6) (hI:=(inferInstance:Inhabited ax)) Tryz.so50 rfl hcall Tryz.underlying87 (by kernel_rfl) (λ x t ht=>?_) h;cases x;have ht:t∈[_,_,_,_]:=ht;simp only[aH,bn,or_false]at ht;rcases ht with rfl |rfl |rfl |rfl<;>exact⟨_,rfl,trivial⟩
def Du:cm xx:=⟨[.d aA,.d aA],[.d af],λa=>iH a.1 a.2.1,none⟩
theorem Dv:aC 51 Du :=cq (ak pO ay) func51 .z 0
def O6:cm xx:=⟨[.d aD],[.d af],λa=>lq a.1,none⟩
def O7:Hn SI:=(.s .z (.s (.s (.j ⟨[(9,.v .bool)],[],[1],[1000],1128,[]⟩ .z) .z) .z))
theorem A8:aC 57 O6 :=cq (ak kT ay) func57 O7 0
def Uj:cm xx:=⟨[.d aD],[.d af],λa=>o6 a.1,none⟩
theorem FT:aC 55 Uj :=cq (ak kT (ak Jk (ak A8 ay))) func55 .z 0
def BD:cm xx:=⟨[.d aD],[.d af],λa=>nU a.1,none⟩
theorem BF:aC 58 BD :=cq ay func58 .z 0
def Dw:cm xx:=⟨[.d aD],[.d af],λa=>pz a.1,none⟩
theorem Dx:aC 59 Dw :=cq ay func59 .z 0
def Uk:cm xx:=⟨[.d aA,.d af],[.d aA,.d .bool],λa=>Br a.1 a.2.1,none⟩
theorem Ul:aC 112 Uk :=cq (ak qF ay) func112 .z 0
def Z4:cm xx:=⟨[.d aA,.d aA],[.d aA,.d .bool],λa=>sJ a.1 a.2.1,none⟩
def Z5:Hn SI:=(.s .z (.s (.s (.j ⟨[(13,.v .bool)],[],[2,3,4],[1000,1064,1128],1256,[]⟩ .z) .z) .z))
theorem BG:aC 113 Z4 :=cq (ak qF (ak S9 ay)) func113 Z5 0
def Rf:cm xx:=⟨[.d gI,.ref (.st SI.nw),.ref af],[.d .bool],λa=>kG a.1 a.2.1 a.2.2.1,none⟩
theorem Rh:aC 178 Rf :=cq ay func178 .z 0
def Z6:cm xx:=⟨[.d gF,.d af],[.d af],λa=>Ao n a.1 a.2.1,none⟩
def Z7:Hn SI:=(co (.s (.s .z (.b (.lx ⟨[(14,.v af)],[],[3,5,12,13],[1064,1256],1640,[]⟩ 0 ⟨[],[],[],[],1640,[]⟩ (co (.s (.b (io (.s (.j ⟨[(8,.v af)],[],[],[],2344,[]⟩ .z) .z))) .z))))) .z))
theorem Z8:aC 114 (Z6 n) :=cq (ak (qc n) (ak Rh ay)) func114 Z7 n
def O8:cm xx:=⟨[.d gF,.d aD],[.d af],λa=>jC n a.1 a.2.1,none⟩
def O9:Hn SI:=(co (.s (.s (.j ⟨[(20,.v .bool)],[],[5,6],[],1704,[]⟩ .z) .z) .z))
theorem Pb:aC 62 (O8 n) :=cq (ak (Z8 n) (ak FT ay)) func62 O9 n
def F9:dE xx:=⟨[.p 0],[(0,fy),(1,.l aD)],[.v af],[(0,fy),(1,.l aD)],λv=>mY n v.1 v.2.1 v.2.2.1 v.2.2.2.1 v.2.2.2.2.1 v.2.2.2.2.2.1 v.2.2.2.2.2.2.1 v.2.2.2.2.2.2.2.1 v.2.2.2.2.2.2.2.2.1 v.2.2.2.2.2.2.2.2.2⟩
def Ga:cm xx:=⟨[],[.d .bool],λ_=>none,some (F9 n)⟩
theorem Gc:aC 20 (Ga n) :=pn (ak (abH n) ay) func20 .z n (by kernel_rfl) λ_=>by kernel_rfl
def Dy:dE xx:=⟨[.p 0],[(0,fy),(1,.l aD)],[.v af],[(0,fy),(1,.l aD)],λv=>iJ n v.1 v.2.1 v.2.2.1 v.2.2.2.1 v.2.2.2.2.1 v.2.2.2.2.2.1 v.2.2.2.2.2.2.1 v.2.2.2.2.2.2.2.1 v.2.2.2.2.2.2.2.2.1 v.2.2.2.2.2.2.2.2.2⟩
def Dz:cm xx:=⟨[],[.d .bool],λ_=>none,some (Dy n)⟩
def DF:Hn SI:=(io (.s (.s .z (.b (.l ⟨[(3,.o 1960),(23,.v af)],[(1448,.l aA),(1960,.l af)],[4,21,22],[0,1],1961,[(3,af)]⟩ 0 ⟨[(3,.o 1960)],[(1448,.l aA),(1960,.l af)],[4],[0,1],1961,[]⟩ .z))) (io (.s (.s .z (.b (.l ⟨[(7,.v af),(56,.v af)],[],[3,4,55],[0,1,1448,1960],2601,[]⟩ 2 ⟨[(7,.v af)],[],[],[0,1],2601,[]⟩ (co (.s (.b (io (.b (.l ⟨[(7,.v af),(9,.v af),(61,.v af)],[],[3,4,8,55,56,59,60],[0,1,1448,1960],3049,[]⟩ 4 ⟨[(7,.v af)],[],[3,4,55,56],[0,1,1448,1960],3049,[]⟩ (co (.s (.j ⟨[(7,.v af),(9,.v af)],[],[3,4,8,55,56,59,60,61],[0,1,1448,1960],3113,[]⟩ (.b (.s .z (.s (.j ⟨[(86,.v .bool)],[],[3,4,7,8,9,11,55,56,59,60,61],[0,1,1448,1960,3241],3369,[]⟩ .z) .z)))) .z)))))) .z))))) .z))))
theorem DI:aC 21 (Dz n) :=pn (ak (Ml n) (ak Dv (ak (o8 n) ay))) func21 DF n (by kernel_rfl) λ_=>by kernel_rfl
def Gd:dE xx:=⟨[.p 0,(.f 55 [] [])],[(0,fy),(1,.l aD)],[.v af],[(0,fy),(1,.l aD)],λv=>qK n v.1 v.2.1 v.2.2.1 v.2.2.2.1 v.2.2.2.2.1 v.2.2.2.2.2.1 v.2.2.2.2.2.2.1 v.2.2.2.2.2.2.2.1 v.2.2.2.2.2.2.2.2.1 v.2.2.2.2.2.2.2.2.2⟩
def Gf:cm xx:=⟨[],[.d .bool],λ_=>none,some (Gd n)⟩
def Gg:Hn SI:=(co (.s (.s .z (.b (.l ⟨[(5,.v af),(13,.v af)],[],[1,11,12],[0,1],1512,[]⟩ 0 ⟨[(5,.v af)],[],[],[0,1],1512,[]⟩ .z))) .z))
theorem Gh:aC 54 (Gf n) :=pn (ak FT ay) func54 Gg n (by kernel_rfl) λ_=>by kernel_rfl
def DJ:dE xx:=⟨[.p 0],[(0,fy),(1,.l aD)],[.v af],[(0,fy),(1,.l aD)],λv=>kM n v.1 v.2.1 v.2.2.1 v.2.2.2.1 v.2.2.2.2.1 v.2.2.2.2.2.1 v.2.2.2.2.2.2.1 v.2.2.2.2.2.2.2.1 v.2.2.2.2.2.2.2.2.1 v.2.2.2.2.2.2.2.2.2⟩
def DK:cm xx:=⟨[],[.d .bool],λ_=>none,some (DJ n)⟩
theorem DL:aC 22 (DK n) :=pn (ak (Gh n) ay) func22 .z n (by kernel_rfl) λ_=>by kernel_rfl
def zn:dE xx:=⟨[.p 0,(.f 57 [] [])],[(0,fy),(1,.l aD)],[.v af],[(0,fy),(1,.l aD)],λv=>mM n v.1 v.2.1 v.2.2.1 v.2.2.2.1 v.2.2.2.2.1 v.2.2.2.2.2.1 v.2.2.2.2.2.2.1 v.2.2.2.2.2.2.2.1 v.2.2.2.2.2.2.2.2.1 v.2.2.2.2.2.2.2.2.2⟩
def zo:cm xx:=⟨[],[.d .bool],λ_=>none,some (zn n)⟩
def zq:Hn SI:=(co (.s (.s .z (.b (.l ⟨[(5,.v af),(13,.v af)],[],[1,11,12],[0,1],1512,[]⟩ 0 ⟨[(5,.v af)],[],[],[0,1],1512,[]⟩ .z))) .z))
theorem zu:aC 56 (zo n) :=pn (ak A8 ay) func56 zq n (by kernel_rfl) λ_=>by kernel_rfl
def BH:dE xx:=⟨[.p 0],[(0,fy),(1,.l aD)],[.v af],[(0,fy),(1,.l aD)],λv=>jQ n v.1 v.2.1 v.2.2.1 v.2.2.2.1 v.2.2.2.2.1 v.2.2.2.2.2.1 v.2.2.2.2.2.2.1 v.2.2.2.2.2.2.2.1 v.2.2.2.2.2.2.2.2.1 v.2.2.2.2.2.2.2.2.2⟩
def BJ:cm xx:=⟨[],[.d .bool],λ_=>none,some (BH n)⟩
theorem BK:aC 23 (BJ n) :=pn (ak (zu n) ay) func23 .z n (by kernel_rfl) λ_=>by kernel_rfl
def zw:dE xx:=⟨[.p 0,(.f 58 [] [])],[(0,fy),(1,.l aD)],[.v af],[(0,fy),(1,.l aD)],λv=>mO n v.1 v.2.1 v.2.2.1 v.2.2.2.1 v.2.2.2.2.1 v.2.2.2.2.2.1 v.2.2.2.2.2.2.1 v.2.2.2.2.2.2.2.1 v.2.2.2.2.2.2.2.2.1 v.2.2.2.2.2.2.2.2.2⟩
def zx:cm xx:=⟨[],[.d .bool],λ_=>none,some (zw n)⟩
def zy:Hn SI:=(co (.s (.s .z (.b (.l ⟨[(5,.v af),(13,.v af)],[],[1,11,12],[0,1],1512,[]⟩ 0 ⟨[(5,.v af)],[],[],[0,1],1512,[]⟩ .z))) .z))
theorem zA:aC 56 (zx n) :=pn (ak BF ay) func56 zy n (by kernel_rfl) λ_=>by kernel_rfl
def BL:dE xx:=⟨[.p 0],[(0,fy),(1,.l aD)],[.v af],[(0,fy),(1,.l aD)],λv=>jR n v.1 v.2.1 v.2.2.1 v.2.2.2.1 v.2.2.2.2.1 v.2.2.2.2.2.1 v.2.2.2.2.2.2.1 v.2.2.2.2.2.2.2.1 v.2.2.2.2.2.2.2.2.1 v.2.2.2.2.2.2.2.2.2⟩
def BM:cm xx:=⟨[],[.d .bool],λ_=>none,some (BL n)⟩
end
end Go.Proofs
