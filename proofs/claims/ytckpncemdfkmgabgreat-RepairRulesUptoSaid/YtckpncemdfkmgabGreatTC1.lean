import Derived.Test.YtckpncemdfkmgabGreatS2
namespace Go.Proofs
open Go.Gb Go.RowKit
abbrev ff:OP SI:=.c 10 [[.v (.sl aZ),.v (.sl aS),.v (.sl bn),.v (.sl aU),.v (.sl bC),.v (.sl bB),.v (.sl aP),.v af,.v (.sl aA),.o 1]]
abbrev qr:OP SI:=.c 1 [[.o 1]]
abbrev rm:OP SI:=.c 2 [[.v (.sl aZ),(.v (.sl (.sl af)))]]
abbrev t6:OP SI:=.c 10 [[.v (.sl aZ),.v (.sl aS),.v (.sl bn),.v (.sl aU),.v (.sl bC),.v (.sl bB),.v (.sl aP),.v af,.v (.sl aA),.o 2]]
abbrev vh:OP SI:=.c 2 [[.v af,.v af]]
abbrev xe:OP SI:=.c 1 [[.o 1384]]
abbrev Bm:OP SI:=.c 4 [[.v af,.v af,.v af,.v af]]
abbrev HE:OP SI:=.c 10 [[.v (.sl aZ),.v (.sl aS),.v (.sl bn),.v (.sl aU),.v (.sl bC),.v (.sl bB),.v (.sl aP),.v af,.v (.sl aA),.o 1960]]
abbrev cm(a:Hn SI):Hn SI:=.s .z (.s .z a)
abbrev gR(a:Hn SI):Hn SI:=.s .z (.s .z (.s .z a))
abbrev xf(a:Hn SI):Hn SI:=.s .z (.s .z (.s .z (.s .z a)))
abbrev HH(a:Hn SI):Hn SI:=.s .z (.s .z (.s .z (.s .z (.s .z a))))
abbrev TZ(a:Hn SI):Hn SI:=.s .z (.s .z (.s .z (.s .z (.s .z (.s .z a)))))
abbrev TX(a:Hn SI):Hn SI:=.s .z (.s .z (.s .z (.s .z (.s .z (.s .z (.s .z a))))))
open Tryz
noncomputable section
variable (n:Nat)
def aed:ca xx:=⟨[.d .str,.d af],[.d aU],λa=>Zy a.1 a.2.1,none⟩
theorem aee:aH 20 aed :=cq aB func20 .z 0
def abz:ca xx:=⟨[.d af],[.d (.st SI.ir),.d dI],λa=>yD a.1,none⟩
theorem abA:aH 8 abz :=cq (ak aee aB) func8 .z 0
def RY:ca xx:=⟨[.d (.sl aA)],[.fresh aA],λa=>AA a.1,none⟩
theorem RZ:aH 116 RY :=cq aB func116 .z 0
def WQ:ca xx:=⟨[.d (.sl af)],[.fresh af],λa=>tF a.1,none⟩
theorem Iq:aH 37 WQ :=cq aB func37 .z 0
def agr:ca xx:=⟨[.d (.st SI.Lot)],[.d (.st SI.Lot)],λa=>MF a.1,none⟩
theorem ags:aH 76 agr :=cq (ak RZ (ak Iq aB)) func76 .z 0
def ajf:ca xx:=⟨[.d (.sl (.st SI.Lot)),.d af],[.d (.st SI.Lot),.d .bool],λa=>MH n a.1 a.2.1,none⟩
def ajg:Hn SI:=(.s .z (.s (.s .z (.b (.lx ⟨[(10,.v af)],[],[1,4,8,9],[1000],1320,[]⟩ 0 ⟨[],[],[4],[1000],1320,[]⟩ .z))) .z))
theorem ajh:aH 48 (ajf n) :=cq (ak ags aB) func48 ajg n
def Nv:ca xx:=⟨[.d dI,.d af,.d af],[.fresh aF],λa=>nW n a.1 a.2.1 a.2.2.1,none⟩
def Nw:Hn SI:=(cm (.s (.s .z (.b (.l ⟨[(7,.o 1448),(13,.v af)],[(1448,.l aF)],[1,2,11,12],[],1449,[(7,aF)]⟩ 0 ⟨[(7,.o 1448)],[(1448,.l aF)],[],[],1449,[]⟩ (cm (.s (.j ⟨[(7,.o 1513)],[(1513,.l aF)],[1,2,11,12,13],[],1514,[]⟩ (.b (.s .z (.s (.j ⟨[(25,.v .bool)],[],[1,2,7,9,11,12,13],[1448,1705],1897,[]⟩ .z) .z)))) .z))))) .z))
theorem Am:aH 69 (Nv n) :=cq aB func69 Nw n
def Yk:ca xx:=⟨[.d dI],[.fresh aF],λa=>vT n a.1,none⟩
theorem Kv:aH 40 (Yk n) :=cq (ak (Am n) aB) func40 .z n
def aji:ca xx:=⟨[.d aA],[.d .bool],λa=>oP a.1,none⟩
theorem qj:aH 46 aji :=cq aB func46 .z 0
def FC:ca xx:=⟨[.d aF],[.d .bool],λa=>fQ a.1,none⟩
def FD:Hn SI:=(cm (.s (.s (.j ⟨[(26,.v .bool)],[],[1],[1000],1384,[]⟩ .z) .z) (.s (.s (.j ⟨[(34,.v .bool)],[],[1],[1000],1384,[]⟩ .z) .z) .z)))
theorem jb:aH 24 FC :=cq (ak qj aB) func24 FD 0
def aef:ca xx:=⟨[.d aA],[.d aA,.d .bool],λa=>xU a.1,none⟩
theorem Rs:aH 45 aef :=cq (ak qj aB) func45 .z 0
def Yl:ca xx:=⟨[.d aA,.d aA],[.d aA,.d .bool],λa=>rY a.1 a.2.1,none⟩
def Ym:Hn SI:=(.s .z (.s (.s (.j ⟨[(13,.v .bool)],[],[2,3,4],[1000,1064,1128],1256,[]⟩ .z) .z) .z))
theorem AU:aH 71 Yl :=cq (ak qj (ak Rs aB)) func71 Ym 0
def WR:ca xx:=⟨[.d (.st SI.A6),.d (.st SI.A6)],[.d .bool],λa=>wY a.1 a.2.1,none⟩
theorem WS:aH 43 WR :=cq (ak AU aB) func43 .z 0
def Ny:ca xx:=⟨[.d aF,.ref aF],[.d .bool],λa=>qZ a.1 a.2.1,none⟩
theorem Nz:aH 42 Ny :=cq (ak WS aB) func42 .z 0
def FE:ca xx:=⟨[.d (.sl aF),.du [aF] .bool],[.d af],λa=>qx n a.1 a.2.1,none⟩
def FH:Hn SI:=(.s .z (.s (.s .z (.b (.lx ⟨[(8,.v af)],[],[0,1,7],[],1256,[]⟩ 0 ⟨[],[],[],[],1256,[]⟩ .z))) .z))
theorem FI:aH 70 (FE n) :=cq aB func70 FH n
def AX:ca xx:=⟨[.d (.sl aF),.du [aF] .bool],[.d .bool],λa=>gu n a.1 a.2.1,none⟩
theorem qV:aH 41 (AX n) :=cq (ak (FI n) aB) func41 .z n
def abB:ca xx:=⟨[.d (.int .u8)],[.d .bool],λa=>Ee a.1,none⟩
theorem NA:aH 110 abB :=cq aB func110 .z 0
def agt:ca xx:=⟨[.d .str,.du [.int .u8] .bool],[.d af],λa=>MI n a.1 a.2.1,none⟩
def agu:Hn SI:=(cm (.s (.b (.l ⟨[(5,.v af)],[],[0,1],[],1128,[]⟩ 0 ⟨[(5,.v af)],[],[],[],1128,[]⟩ (.s (.s (.j ⟨[(16,.v .bool)],[],[0,1,5],[],1128,[]⟩ .z) .z) .z))) .z))
theorem agv:aH 111 (agt n) :=cq aB func111 agu n
def aeg:ca xx:=⟨[.d (.int .u8)],[.d .bool],λa=>Pg a.1,none⟩
theorem aeh:aH 113 aeg :=cq aB func113 .z 0
def Yn:ca xx:=⟨[.d (.int .u8)],[.d .bool],λa=>zV a.1,none⟩
theorem Yo:aH 112 Yn :=cq (ak NA (ak aeh aB)) func112 .z 0
def agx:ca xx:=⟨[.d .str],[.d .bool],λa=>MJ n a.1,none⟩
def agy:Hn SI:=(.s .z (.s (.s (.j ⟨[(15,.v .bool)],[],[0],[],1064,[]⟩ .z) .z) .z))
theorem agz:aH 72 (agx n) :=cq (ak NA (ak (agv n) (ak Yo aB))) func72 agy n
def KZ:ca xx:=⟨[.d .str,.d .str],[.d .bool],λa=>strings_Contains a.1 a.2.1,none⟩
theorem K3:aH 73 KZ:=by
 have hcall:eT Tryz.prog 73:=⟨_,func73,by kernel_rfl,by kernel_rfl⟩;refine yd hcall (λ a r h=>?_) rfl;obtain⟨s,b,⟨⟩⟩:=a;have h':strings_Contains s b=some r:=h;unfold strings_Contains at h';cases hb:Nat.ble s.size 4000000 with
 |false=>rw[hb]at h';cases h'
 |true=>
  rw[hb]at h';have h'':some (Lib.contains s.data.toList b.data.toList)=some r:=h';injection h'' with e;subst e;have hw:=Nat.le_of_ble_eq_true hb;exact aaY (g:=0) rfl hcall λm w hm=>adq s b m w (by omega) hm
def Yp:ca xx:=⟨[.d .str],[.d .bool],λa=>vU n a.1,none⟩
theorem Yq:aH 44 (Yp n) :=cq (ak (agz n) (ak K3 aB)) func44 .z n
def WT:ca xx:=⟨[.d dI],[.d .bool],λa=>lQ n a.1,none⟩
def WU:Hn SI:=(cm (.s (.s (.j ⟨[(42,.v .bool)],[],[1,3],[1000,1192],1320,[]⟩ .z) .z) (.s (.s .z (.b (.lx ⟨[(45,.v af)],[],[1,3,43,44],[1000,1192],1512,[]⟩ 0 ⟨[],[],[1],[1000],1512,[]⟩ (cm (.s (.b (.s .z (.s (.j ⟨[(59,.v .bool)],[],[1,3,43,44,45],[1000,1192],1960,[]⟩ .z) .z))) .z))))) (.s (.s .z (.b (.lx ⟨[(64,.v af)],[],[62,63],[],1768,[]⟩ 2 ⟨[],[],[],[],1768,[]⟩ (cm (.s (.b (cm (.s (.s .z (.b (.lx ⟨[(72,.v af)],[(2088,.m .str .bool)],[7,8,62,63,64,70,71],[1960],2472,[]⟩ 4 ⟨[],[],[7,62,63,64],[1960],2472,[]⟩ (cm (.s (.b (.s .z (.s (.s (.j ⟨[(95,.v .bool)],[],[7,8,10,62,63,64,70,71,72],[1960,2088,2664],2792,[]⟩ .z) .z) .z))) .z))))) .z))) .z))))) .z))))
theorem Ir:aH 21 (WT n) :=cq (ak (Kv n) (ak jb (ak (qV n) (ak Nz (ak (Yq n) aB))))) func21 WU n
def WV:ca xx:=⟨[.nil,.d af],[.fresh aA],λa=>MK a.1 a.2.1,none⟩
theorem WW:aH 215 WV :=cq aB func215 .z 0
def PY:ca xx:=⟨[.d (.sl (.sl aA))],[.fresh aA],λa=>yE n a.1,none⟩
def PZ:Hn SI:=(cm (.s (.s .z (.b (.l ⟨[(3,.v af),(11,.v af)],[],[0,9,10],[],1320,[]⟩ 0 ⟨[(3,.v af)],[],[0],[],1320,[]⟩ .z))) (.s .z (.s (.s .z (.b (.l ⟨[(6,.o 1704),(27,.v af)],[(1704,.l aA)],[25,26],[],1705,[]⟩ 2 ⟨[(6,.o 1704)],[(1704,.l aA)],[],[],1705,[]⟩ .z))) .z))))
theorem P5:aH 176 (PY n) :=cq (ak WW aB) func176 PZ n
def Yr:ca xx:=⟨[.mut af],[.mu af],λa=>pF n a.1,none⟩
theorem vG:aH 130 (Yr n):=by have hcall:eT Tryz.prog 130:=⟨_,func130,by kernel_rfl,by kernel_rfl⟩;refine yd hcall (λ a r h=>?_) rfl;obtain⟨l,⟨⟩⟩:=a;exact aiH Tryz.so130 rfl hcall h
def P6:ca xx:=⟨[.mut af],[.whole 0,.mu af],λa=>pG n a.1,none⟩
def P7:Hn SI:=(cm (.s (.s .z (.b (.lx ⟨[(3,.v af)],[],[0],[0],1320,[]⟩ 0 ⟨[],[],[0],[0],1320,[]⟩ (.s .z (.s (.b (.s .z (.s (.s .z (.s (.s .z (.b (.l ⟨[(3,.v af),(5,.v af)],[(0,.l af)],[0,4],[],2536,[]⟩ 2 ⟨[(3,.v af)],[(0,.l af)],[0],[],2536,[]⟩ (.s .z (.s (.j ⟨[(3,.v af)],[(0,.l af)],[0,4,5],[],2792,[]⟩ .z) .z))))) .z)) .z))) .z))))) .z))
theorem u6:aH 177 (P6 n) :=cq aB func177 P7 n
def K4:ca xx:=⟨[.mut (.st SI.span),.du [.st SI.span,.st SI.span] af],[.mu (.st SI.span)],λa=>uU n a.1 a.2.1,none⟩
theorem K5:aH 216 (K4 n):=by have hcall:eT Tryz.prog 216:=⟨_,func216,by kernel_rfl,by kernel_rfl⟩;refine yd hcall (λ a r h=>?_) rfl;obtain⟨l,φ,⟨⟩⟩:=a;refine Zw (X:=xx) (i:=SI.span) (hI:=(inferInstance:Inhabited aK)) Tryz.so216 rfl hcall Tryz.underlying251 (by kernel_rfl) (λ x t ht=>?_) h;cases x;have ht:t∈[_,_]:=ht;simp only[aR,nE,or_false]at ht;rcases ht with rfl|rfl<;>exact⟨_,rfl,trivial⟩
def R3:ca xx:=⟨[.d af],[.d .bool],λa=>cmp_isNaN_int a.1,none⟩
theorem R4:aH 39 R3 :=cq aB func39 .z 0
def NC:ca xx:=⟨[.d af,.d af],[.d af],λa=>cmp_Compare_int a.1 a.2.1,none⟩
theorem l9:aH 19 NC :=cq (ak R4 aB) func19 .z 0
def WX:ca xx:=⟨[.d (.st SI.span),.d (.st SI.span)],[.d af],λa=>wZ a.1 a.2.1,none⟩
theorem WY:aH 217 WX :=cq (ak l9 aB) func217 .z 0
def aei:ca xx:=⟨[.d (.sl aA),.d af],[.fresh (.st SI.span)],λa=>Jk n a.1 a.2.1,none⟩
def aej:Hn SI:=(cm (.s (.s .z (.b (.l ⟨[(5,.o 1320),(14,.v af)],[(1320,.l (.st SI.span))],[1,12,13],[],1321,[(5,.st SI.span)]⟩ 0 ⟨[(5,.o 1320)],[(1320,.l (.st SI.span))],[],[],1321,[]⟩ (cm (.s (.j ⟨[(5,.o 1385)],[(1385,.l (.st SI.span))],[1,12,13,14],[],1386,[]⟩ (.b (.s .z (.s (.j ⟨[(27,.v .bool)],[],[1,5,7,12,13,14],[1320,1513],1641,[]⟩ .z) .z)))) .z))))) (cm (.s (.s .z (.b (.l ⟨[(8,.o 1705),(41,.v af)],[(1705,.l (.st SI.span))],[39,40],[1320],1706,[(8,.st SI.span)]⟩ 2 ⟨[(8,.o 1705)],[(1705,.l (.st SI.span))],[],[],1706,[]⟩ (cm (.s (.j ⟨[(8,.o 1770)],[(1770,.l (.st SI.span))],[39,40,41],[1320],1771,[]⟩ (.b (cm (.s (.j ⟨[(59,.v .bool)],[],[8,10,11,39,40,41],[1320,1705,1898],2218,[]⟩ .z) .z)))) .z))))) .z))))
theorem aek:aH 178 (aei n) :=cq (ak (K5 n) (ak WY aB)) func178 aej n
def ael:ca xx:=⟨[.d (.sl (.sl aA))],[.fresh (.st SI.strip)],λa=>oD n a.1,none⟩
def aem:Hn SI:=(gR (.s (.s .z (.b (.l ⟨[(4,.o 1512),(13,.v af)],[(1512,.l af)],[3,11,12],[1128],1513,[(4,af)]⟩ 0 ⟨[(4,.o 1512)],[(1512,.l af)],[3],[1128],1513,[]⟩ .z))) (gR (.s (.s .z (.b (.l ⟨[(7,.o 1961),(8,.v af)],[(1961,.l (.st SI.strip))],[3,4],[1128,1512],1962,[(7,.st SI.strip)]⟩ 2 ⟨[(7,.o 1961)],[(1961,.l (.st SI.strip))],[],[],1962,[]⟩ .z))) .z))))
theorem Rt:aH 148 (ael n) :=cq (ak (P5 n) (ak (vG n) (ak (u6 n) (ak (aek n) aB)))) func148 aem n
def R5:ca xx:=⟨[.d (.sl (.st SI.span)),.d (.sl (.st SI.span))],[.d .bool],λa=>vw n a.1 a.2.1,none⟩
def R6:Hn SI:=(cm (.s (.s .z (.b (.lx ⟨[(13,.v af)],[],[0,1,12],[],1576,[]⟩ 0 ⟨[],[],[],[],1576,[]⟩ .z))) .z))
theorem R7:aH 175 (R5 n) :=cq aB func175 R6 n
def agA:ca xx:=⟨[.d (.sl (.st SI.strip))],[.fresh aA],λa=>Ht n a.1,none⟩
def agB:Hn SI:=(cm (.s (.s .z (.b (.l ⟨[(3,.o 1192),(4,.v af)],[(1192,.l aA)],[0],[],1193,[(3,aA)]⟩ 0 ⟨[(3,.o 1192)],[(1192,.l aA)],[],[],1193,[]⟩ (.s .z (.b (.s .z (.s (.b (.l ⟨[(5,.v af)],[],[0,3,4],[1192],1641,[]⟩ 2 ⟨[(5,.v af)],[],[0,3,4],[1192],1641,[]⟩ (.s (.s (.j ⟨[(30,.v .bool)],[],[0,3,4,5],[1192],1641,[]⟩ .z) .z) .z))) (.s (.s .z (.b (.l ⟨[(3,.o 2089),(39,.v af)],[(2089,.l aA)],[0,4,5,37,38],[],2090,[]⟩ 4 ⟨[(3,.o 2089)],[(2089,.l aA)],[0,5],[],2090,[]⟩ .z))) .z)))))))) .z))
theorem WZ:aH 147 (agA n) :=cq (ak (R7 n) aB) func147 agB n
def abC:ca xx:=⟨[.d (.sl aA)],[.d (.sl aA),.d af],λa=>yF a.1,none⟩
theorem ND:aH 146 abC :=cq aB func146 .z 0
def amt:ca xx:=⟨[.d (.sl aA)],[.d (.sl aA),.d af],λa=>RE n a.1,none⟩
def amu:Hn SI:=(.s .z (.s (.s .z (.b (.lx ⟨[(8,.v af)],[],[0,6,7],[],1320,[]⟩ 0 ⟨[],[],[0],[],1320,[]⟩ .z))) .z))
theorem amv:aH 103 (amt n) :=cq (ak qj (ak (Rt n) (ak (WZ n) (ak ND aB)))) func103 amu n
def R8:ca xx:=⟨[.d (.sl aA),.d (.sl aA)],[.d .bool],λa=>oF n a.1 a.2.1,none⟩
def R9:Hn SI:=(cm (.s (.s .z (.b (.lx ⟨[(13,.v af)],[],[0,1,12],[],1576,[]⟩ 0 ⟨[],[],[],[],1576,[]⟩ .z))) .z))
theorem Fb:aH 104 (R8 n) :=cq aB func104 R9 n
def agC:ca xx:=⟨[.d (.sl aA)],[.d .bool],λa=>nX n a.1,none⟩
theorem pV:aH 63 (agC n) :=cq (ak (amv n) (ak (Fb n) aB)) func63 .z n
def uI:ca xx:=⟨[.d (.sl (.st SI.strip)),.d af,.du [.st SI.strip,af] af],[.d af,.d .bool],λa=>jq n a.1 a.2.1 a.2.2.1,none⟩
def uJ:Hn SI:=(gR (.s (.b (.l ⟨[(9,.v af),(10,.v af)],[],[0,1,2,8],[],1512,[]⟩ 0 ⟨[(9,.v af)],[],[0,1,2,8],[],1512,[]⟩ .z)) .z))
theorem uK:aH 185 (uI n) :=cq aB func185 uJ n
def agD:ca xx:=⟨[.d (.st SI.strip),.d af],[.d af],λa=>vX a.1 a.2.1,none⟩
theorem agE:aH 186 agD :=cq aB func186 .z 0
def amw:ca xx:=⟨[.d (.sl (.st SI.strip)),.d af],[.d (.sl (.st SI.span))],λa=>VN n a.1 a.2.1,none⟩
def amx:Hn SI:=(cm (.s (.s (.j ⟨[(25,.v .bool)],[],[0,5],[],1576,[]⟩ .z) .z) .z))
theorem amy:aH 153 (amw n) :=cq (ak (uK n) (ak agE aB)) func153 amx n
def W9:ca xx:=⟨[.nil,.d af],[.fresh (.st SI.span)],λa=>MR a.1 a.2.1,none⟩
theorem Xa:aH 220 W9 :=cq aB func220 .z 0
def P8:ca xx:=⟨[.d (.sl (.sl (.st SI.span)))],[.fresh (.st SI.span)],λa=>yG n a.1,none⟩
def P9:Hn SI:=(cm (.s (.s .z (.b (.l ⟨[(3,.v af),(11,.v af)],[],[0,9,10],[],1320,[]⟩ 0 ⟨[(3,.v af)],[],[0],[],1320,[]⟩ .z))) (.s .z (.s (.s .z (.b (.l ⟨[(6,.o 1704),(27,.v af)],[(1704,.l (.st SI.span))],[25,26],[],1705,[]⟩ 2 ⟨[(6,.o 1704)],[(1704,.l (.st SI.span))],[],[],1705,[]⟩ .z))) .z))))
theorem Qa:aH 183 (P8 n) :=cq (ak Xa aB) func183 P9 n
def u7:ca xx:=⟨[.d (.sl (.st SI.span)),.d af,.du [.st SI.span,af] af],[.d af,.d .bool],λa=>jH n a.1 a.2.1 a.2.2.1,none⟩
def vg:Hn SI:=(gR (.s (.b (.l ⟨[(9,.v af),(10,.v af)],[],[0,1,2,8],[],1512,[]⟩ 0 ⟨[(9,.v af)],[],[0,1,2,8],[],1512,[]⟩ .z)) .z))
theorem vk:aH 221 (u7 n) :=cq aB func221 vg n
def Xb:ca xx:=⟨[.d (.st SI.span),.d af],[.d af],λa=>lU a.1 a.2.1,none⟩
theorem Xc:aH 222 Xb :=cq aB func222 .z 0
def aen:ca xx:=⟨[.d (.sl (.st SI.span)),.d af],[.d .bool],λa=>Cn n a.1 a.2.1,none⟩
theorem aeo:aH 184 (aen n) :=cq (ak (vk n) (ak Xc aB)) func184 .z n
def agF:ca xx:=⟨[.d (.sl (.st SI.span)),.d (.sl (.st SI.span)),.du [.bool,.bool] .bool],[.fresh (.st SI.span)],λa=>Hu n a.1 a.2.1 a.2.2.1,none⟩
def agG:Hn SI:=(cm (.s (.s .z (.b (.l ⟨[(7,.o 1512),(19,.v af)],[(1512,.l af)],[0,1,2,17,18],[1320],1513,[(7,af)]⟩ 0 ⟨[(7,.o 1512)],[(1512,.l af)],[0,1,2],[],1513,[]⟩ .z))) (gR (.s (.s .z (.b (.l ⟨[(10,.o 1961),(11,.v af)],[(1961,.l (.st SI.span))],[0,1,2,7],[1512],1962,[(10,.st SI.span)]⟩ 2 ⟨[(10,.o 1961)],[(1961,.l (.st SI.span))],[],[],1962,[]⟩ (.s .z (.s (.j ⟨[(10,.o 2218)],[(2218,.l (.st SI.span))],[0,1,2,7,11],[1512],2219,[]⟩ (.b (gR (.s (.j ⟨[(68,.v .bool)],[],[0,1,2,7,10,11,12,13],[1512,1961],3370,[]⟩ .z) .z)))) .z))))) .z))))
theorem agH:aH 152 (agF n) :=cq (ak (Qa n) (ak (vG n) (ak (u6 n) (ak (aeo n) aB)))) func152 agG n
def abD:ca xx:=⟨[.d (.sl aA),.d (.sl aA),.du [.bool,.bool] .bool],[.d (.sl aA),.d af],λa=>Ef n a.1 a.2.1 a.2.2.1,none⟩
def abE:Hn SI:=(.s .z (.s (.s (.j ⟨[(20,.v .bool)],[],[0,1,2],[],1128,[]⟩ .z) .z) (.s (.f [6,7]) (.s .z (.s (.s .z (.b (.l ⟨[(33,.v af)],[(1832,.l (.st SI.strip))],[2,8,9,10,31,32],[],2152,[]⟩ 0 ⟨[],[(1832,.l (.st SI.strip))],[10],[],2152,[]⟩ .z))) .z)))))
theorem abF:aH 117 (abD n) :=cq (ak (pV n) (ak (Rt n) (ak (amy n) (ak (agH n) (ak (WZ n) (ak ND aB)))))) func117 abE n
def Xd:ca xx:=⟨[.d .bool,.d .bool],[.d .bool],λa=>xg a.1 a.2.1,none⟩
theorem Xe:aH 118 Xd :=cq aB func118 .z 0
def aep:ca xx:=⟨[.d (.sl aA),.d (.sl aA)],[.d (.sl aA),.d af],λa=>Jl n a.1 a.2.1,none⟩
theorem aer:aH 77 (aep n) :=cq (ak (abF n) (ak Xe aB)) func77 .z n
def alh:ca xx:=⟨[.d aA],[.d af],λa=>uV a.1,none⟩
theorem CJ:aH 23 alh :=cq (ak Rs aB) func23 .z 0
def ajj:ca xx:=⟨[.d (.sl aA)],[.d af],λa=>MV n a.1,none⟩
def ajk:Hn SI:=(gR (.s (.s .z (.b (.l ⟨[(3,.v af),(11,.v af)],[],[9,10],[],1512,[]⟩ 0 ⟨[(3,.v af)],[],[],[],1512,[]⟩ .z))) .z))
theorem Z4:aH 78 (ajj n) :=cq (ak (pV n) (ak CJ aB)) func78 ajk n
def K6:ca xx:=⟨[.d bC,.ref gK],[.d .bool],λa=>uW a.1 a.2.1,none⟩
theorem K7:aH 80 K6 :=cq aB func80 .z 0
def K8:ca xx:=⟨[.d (.sl bC),.du [bC] .bool],[.d af],λa=>uX n a.1 a.2.1,none⟩
def K9:Hn SI:=(.s .z (.s (.s .z (.b (.lx ⟨[(8,.v af)],[],[0,1,7],[],1256,[]⟩ 0 ⟨[],[],[],[],1256,[]⟩ .z))) .z))
theorem La:aH 119 (K8 n) :=cq aB func119 K9 n
def FJ:ca xx:=⟨[.d (.sl bC),.du [bC] .bool],[.d .bool],λa=>mX n a.1 a.2.1,none⟩
theorem FK:aH 79 (FJ n) :=cq (ak (La n) aB) func79 .z n
def Sb:ca xx:=⟨[.d (.st SI.lf),.d (.st SI.Lot),.d dI],[.d .bool],λa=>kC n a.1 a.2.1 a.2.2.1,none⟩
def Sc:Hn SI:=(.s .z (.s (.s (.j ⟨[(30,.v .bool)],[],[3,4,5],[1000,1064,1128],1256,[]⟩ .z) .z) (.s (.s .z (.b (.lx ⟨[(34,.v af)],[],[3,4,5,32,33],[1000,1064,1128,1320],1512,[]⟩ 0 ⟨[],[],[3,5],[1000,1128],1512,[]⟩ (cm (.s (.b (cm (.s (.j ⟨[(58,.v .bool)],[],[3,4,5,32,33,34],[1000,1064,1128,1320],2600,[]⟩ .z) .z))) .z))))) (.s (.s .z (.b (.lx ⟨[(63,.v af)],[],[3,61,62],[1000],1768,[]⟩ 2 ⟨[],[],[],[],1768,[]⟩ (cm (.s (.b (cm (.b (.lx ⟨[(70,.v af)],[],[3,61,62,63,68,69],[1000],2344,[]⟩ 4 ⟨[],[],[3,61,62,63],[1000],2344,[]⟩ .z)))) .z))))) .z))))
theorem Sd:aH 49 (Sb n) :=cq (ak (Ir n) (ak (pV n) (ak (Kv n) (ak (aer n) (ak (Z4 n) (ak CJ (ak (FK n) (ak K7 aB)))))))) func49 Sc n
def Qb:ca xx:=⟨[.d dI],[.fresh aF],λa=>tN n a.1,none⟩
def Qc:Hn SI:=(cm (.s (.s .z (.b (.l ⟨[(3,.o 1448),(9,.v af)],[(1448,.l aF)],[7,8],[],1449,[(3,aF)]⟩ 0 ⟨[(3,.o 1448)],[(1448,.l aF)],[],[],1449,[]⟩ .z))) .z))
theorem Qd:aH 50 (Qb n) :=cq aB func50 Qc n
def Qe:ca xx:=⟨[.d (.sl (.st SI.iv))],[.fresh (.st SI.side)],λa=>pI n a.1,none⟩
def Qf:Hn SI:=(cm (.s (.s .z (.b (.l ⟨[(10,.v af)],[(1192,.l (.st SI.side))],[0,3,9],[],1512,[]⟩ 0 ⟨[],[(1192,.l (.st SI.side))],[3],[],1512,[]⟩ .z))) .z))
theorem CK:aH 188 (Qe n) :=cq aB func188 Qf n
def Qg:ca xx:=⟨[.d (.st SI.iv)],[.d .bool],λa=>tO a.1,none⟩
theorem Qh:aH 223 Qg :=cq aB func223 .z 0
def EM:ca xx:=⟨[.d (.st SI.side)],[.d .bool],λa=>ig a.1,none⟩
theorem uq:aH 189 EM :=cq aB func189 .z 0
def abG:ca xx:=⟨[.d (.sl af)],[.d af],λa=>uY n a.1,none⟩
def abH:Hn SI:=(cm (.s (.s .z (.b (.lx ⟨[(8,.v af)],[],[3,6,7],[],1320,[]⟩ 0 ⟨[],[],[3],[],1320,[]⟩ .z))) .z))
theorem NE:aH 154 (abG n) :=cq aB func154 abH n
def NF:ca xx:=⟨[.d (.st SI.iv),.d (.st SI.iv)],[.d af],λa=>q8 n a.1 a.2.1,none⟩
theorem NG:aH 224 (NF n) :=cq (ak l9 (ak (NE n) aB)) func224 .z n
def EN:ca xx:=⟨[.d (.st SI.side),.d (.st SI.side)],[.d .bool],λa=>lV a.1 a.2.1,none⟩
theorem EO:aH 225 EN :=cq aB func225 .z 0
def Sg:ca xx:=⟨[.d (.sl (.st SI.iv))],[.d .bool],λa=>vz n a.1,none⟩
def Si:Hn SI:=(.s .z (.s (.s (.j ⟨[(16,.v .bool)],[],[0],[],1064,[]⟩ .z) .z) (.s .z (.s (.s .z (.b (.lx ⟨[(21,.v af)],[],[0,3,19,20],[1128],1448,[]⟩ 0 ⟨[],[],[3],[1128],1448,[]⟩ (cm (.s (.b (cm (.s (.s (.j ⟨[(61,.v .bool)],[],[0,3,4,19,20,21],[1128],2536,[]⟩ .z) .z) (.s (.j ⟨[(74,.v .bool)],[],[0,3,19,20,21],[1128],2536,[]⟩ .z) .z)))) .z))))) (.s (.s .z (.b (.lx ⟨[(78,.v af)],[],[3,77],[1128],1640,[]⟩ 2 ⟨[],[],[3],[1128],1640,[]⟩ (cm (.s (.b (cm (.b (.lx ⟨[(8,.v af)],[],[3,7,77,78],[1128],2024,[]⟩ 4 ⟨[],[],[3,77,78],[1128],2024,[]⟩ (.s .z (.s (.b (.s (.j ⟨[(106,.v .bool)],[],[3,7,8,77,78],[1128],2280,[]⟩ .z) .z)) .z)))))) .z))))) .z)))))
theorem Sj:aH 187 (Sg n) :=cq (ak (CK n) (ak Qh (ak uq (ak (NG n) (ak EO aB))))) func187 Si n
def Qi:ca xx:=⟨[.d (.sl (.st SI.iv))],[.fresh aA,.d af],λa=>tQ n a.1,none⟩
def Qj:Hn SI:=(gR (.s (.s .z (.b (.l ⟨[(4,.o 1576),(19,.v af)],[(1576,.l af)],[0,17,18],[],1577,[(4,af)]⟩ 0 ⟨[(4,.o 1576)],[(1576,.l af)],[0],[],1577,[]⟩ .z))) (xf (.s (.s .z (.b (.l ⟨[(8,.o 2409),(38,.v af)],[(2409,.l aA)],[4,7,37],[1576,1961],2410,[(8,aA)]⟩ 2 ⟨[(8,.o 2409)],[(2409,.l aA)],[],[],2410,[]⟩ (cm (.s (.b (cm (.s (.s .z (.b (.l ⟨[(10,.o 2858),(43,.v af)],[(2858,.l af)],[4,7,8,9,37,38,41,42],[1576,1961,2409],2859,[(10,af)]⟩ 4 ⟨[(10,.o 2858)],[(2858,.l af)],[4,7,8,9,37,38],[1576,1961,2409],2859,[]⟩ (cm (.s (.j ⟨[(10,.o 2923)],[(2923,.l af)],[4,7,8,9,37,38,41,42,43],[1576,1961,2409],2924,[]⟩ (.b (.s .z (.s (.j ⟨[(77,.v .bool)],[],[4,7,8,9,10,12,37,38,41,42,43],[1576,1961,2409,2858,3051],3179,[]⟩ .z) .z)))) .z))))) (cm (.b (.l ⟨[(8,.o 3051),(13,.v af)],[(3051,.l aA)],[4,7,9,10,37,38],[1576,1961,2858],3052,[]⟩ 6 ⟨[(8,.o 3051)],[(3051,.l aA)],[4,7,37,38],[1576,1961],3052,[]⟩ .z)))))) .z))))) .z))))
theorem Qk:aH 155 (Qi n) :=cq (ak (Sj n) (ak (vG n) (ak (u6 n) (ak (CK n) (ak uq aB))))) func155 Qj n
def Xf:ca xx:=⟨[.d bn],[.fresh aA],λa=>xh n a.1,none⟩
theorem Xg:aH 121 (Xf n) :=cq (ak (Qk n) aB) func121 .z n
def Sk:ca xx:=⟨[.d (.sl aA),.d (.sl aA)],[.d af,.d (.st SI.iv)],λa=>vB n a.1 a.2.1,none⟩
def Sl:Hn SI:=(cm (.s (.s .z (.b (.l ⟨[(6,.v af),(18,.v af)],[(1192,vh)],[1,5,7,16,17],[1064],1576,[]⟩ 0 ⟨[(6,.v af)],[(1192,vh)],[5,7],[1064],1576,[]⟩ (cm (.s (.b (cm (.b (.l ⟨[(6,.v af),(24,.v af)],[(1192,vh)],[1,5,7,9,16,17,18,22,23],[1064,1768],2088,[]⟩ 2 ⟨[(6,.v af)],[(1192,vh)],[1,5,7,16,17,18],[1064],2088,[]⟩ (cm (.s (.j ⟨[(6,.v af)],[(1192,vh)],[1,5,7,9,16,17,18,22,23,24],[1064,1768],2152,[]⟩ .z) .z)))))) .z))))) .z))
theorem Sm:aH 120 (Sk n) :=cq (ak AU (ak CJ (ak l9 (ak (NE n) aB)))) func120 Sl n
def Sn:ca xx:=⟨[.d (.st SI.lf),.d (.sl aA)],[.fresh af],λa=>vC n a.1 a.2.1,none⟩
def Sq:Hn SI:=(gR (.s (.s .z (.b (.l ⟨[(5,.o 1640),(16,.v af)],[(1640,.l af)],[1,14,15],[],1641,[(5,af)]⟩ 0 ⟨[(5,.o 1640)],[(1640,.l af)],[],[],1641,[]⟩ .z))) .z))
theorem Sr:aH 81 (Sn n) :=cq (ak (pV n) (ak (Xg n) (ak (Sm n) aB))) func81 Sq n
def aes:ca xx:=⟨[.d (.st SI.lf),.d (.sl aA)],[.fresh .str],λa=>Co n a.1 a.2.1,none⟩
def aeu:Hn SI:=(gR (.s (.s .z (.b (.l ⟨[(6,.v af),(17,.v af)],[],[2,5,15,16],[1000,1256],1640,[]⟩ 0 ⟨[(6,.v af)],[],[2,5],[1000,1256],1640,[]⟩ (cm (.s (.j ⟨[(6,.v af)],[],[2,5,15,16,17],[1000,1256],1704,[]⟩ (.b (.s .z (.s (.j ⟨[(44,.v .bool)],[],[2,5,6,7,15,16,17],[1000,1256],2024,[]⟩ .z) .z)))) .z))))) (.s .z (.s (.s .z (.b (.l ⟨[(9,.o 1896),(49,.v af)],[(1896,.l .str)],[2,6,47,48],[1000,1256],1897,[(9,.str)]⟩ 2 ⟨[(9,.o 1896)],[(1896,.l .str)],[],[],1897,[]⟩ (cm (.s (.j ⟨[(9,.o 1961)],[(1961,.l .str)],[2,6,47,48,49],[1000,1256],1962,[]⟩ (.b (.s .z (.s (.j ⟨[(68,.v .bool)],[],[2,6,9,10,47,48,49],[1000,1256,1896],2281,[]⟩ .z) .z)))) .z))))) .z))))
theorem aev:aH 51 (aes n) :=cq (ak (Sr n) aB) func51 aeu n
def Yt:ca xx:=⟨[.d (.st SI.ir),.d dI],[.d (.st SI.kf),.d af],λa=>zW n a.1 a.2.1,none⟩
theorem Yu:aH 27 (Yt n) :=cq (ak (ajh n) (ak (Sd n) (ak (Qd n) (ak (aev n) aB)))) func27 .z n
def NH:ca xx:=⟨[.d (.sl .str),.d .str],[.d af],λa=>q9 n a.1 a.2.1,none⟩
def NI:Hn SI:=(.s .z (.s (.s .z (.b (.lx ⟨[(8,.v af)],[],[0,1,7],[],1256,[]⟩ 0 ⟨[],[],[],[],1256,[]⟩ .z))) .z))
theorem NJ:aH 52 (NH n) :=cq aB func52 NI n
def Iu:ca xx:=⟨[.d (.sl .str),.d .str],[.d .bool],λa=>gm n a.1 a.2.1,none⟩
theorem pW:aH 29 (Iu n) :=cq (ak (NJ n) aB) func29 .z n
def Lb:ca xx:=⟨[.d .str,.ref (.sl .str)],[.d .bool],λa=>kH n a.1 a.2.1,none⟩
theorem Lc:aH 82 (Lb n) :=cq (ak (pW n) aB) func82 .z n
def FL:ca xx:=⟨[.d (.sl .str),.du [.str] .bool],[.d af],λa=>qy n a.1 a.2.1,none⟩
def FM:Hn SI:=(.s .z (.s (.s .z (.b (.lx ⟨[(8,.v af)],[],[0,1,7],[],1256,[]⟩ 0 ⟨[],[],[],[],1256,[]⟩ .z))) .z))
theorem FN:aH 122 (FL n) :=cq aB func122 FM n
def AY:ca xx:=⟨[.d (.sl .str),.du [.str] .bool],[.d .bool],λa=>gB n a.1 a.2.1,none⟩
theorem AZ:aH 83 (AY n) :=cq (ak (FN n) aB) func83 .z n
def Sv:ca xx:=⟨[.d aU,.d (.sl .str)],[.d .bool],λa=>qL n a.1 a.2.1,none⟩
theorem Sw:aH 53 (Sv n) :=cq (ak (AZ n) (ak (Lc n) aB)) func53 .z n
def Xh:ca xx:=⟨[.d (.st SI.lf),.d (.sl .str),.d af],[.fresh af],λa=>tT n a.1 a.2.1 a.2.2.1,none⟩
def Xi:Hn SI:=(cm (.s (.s .z (.b (.l ⟨[(7,.o 1448),(13,.v af)],[(1448,.l af)],[1,2,11,12],[],1449,[(7,af)]⟩ 0 ⟨[(7,.o 1448)],[(1448,.l af)],[],[],1449,[]⟩ (cm (.s (.j ⟨[(7,.o 1513)],[(1513,.l af)],[1,2,11,12,13],[],1514,[]⟩ (.b (.s .z (.s (.j ⟨[(37,.v .bool)],[],[1,2,7,8,11,12,13],[1448],1897,[]⟩ .z) .z)))) .z))))) .z))
theorem Xj:aH 30 (Xh n) :=cq (ak (Sw n) aB) func30 Xi n
def Ld:ca xx:=⟨[.mut aA,.du [aA,aA] af],[.mu aA],λa=>uZ n a.1 a.2.1,none⟩
theorem Le:aH 128 (Ld n):=by have hcall:eT Tryz.prog 128:=⟨_,func128,by kernel_rfl,by kernel_rfl⟩;refine yd hcall (λ a r h=>?_) rfl;obtain⟨l,φ,⟨⟩⟩:=a;refine Zw (X:=xx) (i:=SI.mN) (hI:=(inferInstance:Inhabited au)) Tryz.so128 rfl hcall Tryz.underlying59 (by kernel_rfl) (λ x t ht=>?_) h;cases x;have ht:t∈[_,_,_,_]:=ht;simp only[aR,nE,or_false]at ht;rcases ht with rfl|rfl|rfl|rfl<;>exact⟨_,rfl,trivial⟩
def CO:ca xx:=⟨[.d aA,.d aA],[.d af],λa=>iY a.1 a.2.1,none⟩
theorem CP:aH 129 CO :=cq (ak l9 aB) func129 .z 0
def NK:ca xx:=⟨[.d aF],[.d af],λa=>lH a.1,none⟩
def NN:Hn SI:=(.s .z (.s (.s (.j ⟨[(9,.v .bool)],[],[1],[1000],1128,[]⟩ .z) .z) .z))
theorem Ao:aH 134 NK :=cq (ak jb aB) func134 NN 0
def Sy:ca xx:=⟨[.d aF],[.d af],λa=>oG a.1,none⟩
theorem Fe:aH 132 Sy :=cq (ak jb (ak CJ (ak Ao aB))) func132 .z 0
def A7:ca xx:=⟨[.d aF],[.d af],λa=>nM a.1,none⟩
theorem A8:aH 135 A7 :=cq aB func135 .z 0
def CQ:ca xx:=⟨[.d aF],[.d af],λa=>oI a.1,none⟩
theorem CR:aH 136 CQ :=cq aB func136 .z 0
def Sz:ca xx:=⟨[.d aA,.d af],[.d aA,.d .bool],λa=>AJ a.1 a.2.1,none⟩
theorem SA:aH 169 Sz :=cq (ak qj aB) func169 .z 0
def Ql:ca xx:=⟨[.d gK,.ref (.st SI.nq),.ref af],[.d .bool],λa=>kP a.1 a.2.1 a.2.2.1,none⟩
theorem Qm:aH 214 Ql :=cq aB func214 .z 0
def Iw:ca xx:=⟨[.d (.sl gK),.du [gK] .bool],[.d af],λa=>kQ n a.1 a.2.1,none⟩
def Iy:Hn SI:=(.s .z (.s (.s .z (.b (.lx ⟨[(8,.v af)],[],[0,1,7],[],1256,[]⟩ 0 ⟨[],[],[],[],1256,[]⟩ .z))) .z))
theorem wz:aH 163 (Iw n) :=cq aB func163 Iy n
def Yv:ca xx:=⟨[.d (.st SI.lf),.d af],[.d af],λa=>zX n a.1 a.2.1,none⟩
def Yw:Hn SI:=(cm (.s (.s .z (.b (.lx ⟨[(14,.v af)],[],[3,5,12,13],[1064,1256],1640,[]⟩ 0 ⟨[],[],[],[],1640,[]⟩ (cm (.s (.b (gR (.s (.j ⟨[(8,.v af)],[],[],[],2344,[]⟩ .z) .z))) .z))))) .z))
theorem Yx:aH 170 (Yv n) :=cq (ak (wz n) (ak Qm aB)) func170 Yw n
def NP:ca xx:=⟨[.d (.st SI.lf),.d aF],[.d af],λa=>jI n a.1 a.2.1,none⟩
def NQ:Hn SI:=(cm (.s (.s (.j ⟨[(20,.v .bool)],[],[5,6],[],1704,[]⟩ .z) .z) .z))
theorem NR:aH 139 (NP n) :=cq (ak (Yx n) (ak Fe aB)) func139 NQ n
def FO:cN xx:=⟨[.p 0],[(0,ff),(1,.l aF)],[.v af],[(0,ff),(1,.l aF)],λv=>mY n v.1 v.2.1 v.2.2.1 v.2.2.2.1 v.2.2.2.2.1 v.2.2.2.2.2.1 v.2.2.2.2.2.2.1 v.2.2.2.2.2.2.2.1 v.2.2.2.2.2.2.2.2.1 v.2.2.2.2.2.2.2.2.2⟩
def FP:ca xx:=⟨[],[.d .bool],λ_=>none,some (FO n)⟩
theorem FQ:aH 87 (FP n) :=oB (ak (Z4 n) aB) func87 .z n (by kernel_rfl) λ_=>by kernel_rfl
def CU:cN xx:=⟨[.p 0],[(0,ff),(1,.l aF)],[.v af],[(0,ff),(1,.l aF)],λv=>iZ n v.1 v.2.1 v.2.2.1 v.2.2.2.1 v.2.2.2.2.1 v.2.2.2.2.2.1 v.2.2.2.2.2.2.1 v.2.2.2.2.2.2.2.1 v.2.2.2.2.2.2.2.2.1 v.2.2.2.2.2.2.2.2.2⟩
def CV:ca xx:=⟨[],[.d .bool],λ_=>none,some (CU n)⟩
def CW:Hn SI:=(gR (.s (.s .z (.b (.l ⟨[(3,.o 1960),(23,.v af)],[(1448,.l aA),(1960,.l af)],[4,21,22],[0,1],1961,[(3,af)]⟩ 0 ⟨[(3,.o 1960)],[(1448,.l aA),(1960,.l af)],[4],[0,1],1961,[]⟩ .z))) (gR (.s (.s .z (.b (.l ⟨[(7,.v af),(56,.v af)],[],[3,4,55],[0,1,1448,1960],2601,[]⟩ 2 ⟨[(7,.v af)],[],[],[0,1],2601,[]⟩ (cm (.s (.b (gR (.b (.l ⟨[(7,.v af),(9,.v af),(61,.v af)],[],[3,4,8,55,56,59,60],[0,1,1448,1960],3049,[]⟩ 4 ⟨[(7,.v af)],[],[3,4,55,56],[0,1,1448,1960],3049,[]⟩ (cm (.s (.j ⟨[(7,.v af),(9,.v af)],[],[3,4,8,55,56,59,60,61],[0,1,1448,1960],3113,[]⟩ (.b (.s .z (.s (.j ⟨[(86,.v .bool)],[],[3,4,7,8,9,11,55,56,59,60,61],[0,1,1448,1960,3241],3369,[]⟩ .z) .z)))) .z)))))) .z))))) .z))))
theorem CX:aH 88 (CV n) :=oB (ak (Le n) (ak CP (ak (vG n) aB))) func88 CW n (by kernel_rfl) λ_=>by kernel_rfl
def FR:cN xx:=⟨[.p 0,(.f 132 [] [])],[(0,ff),(1,.l aF)],[.v af],[(0,ff),(1,.l aF)],λv=>qz n v.1 v.2.1 v.2.2.1 v.2.2.2.1 v.2.2.2.2.1 v.2.2.2.2.2.1 v.2.2.2.2.2.2.1 v.2.2.2.2.2.2.2.1 v.2.2.2.2.2.2.2.2.1 v.2.2.2.2.2.2.2.2.2⟩
def FT:ca xx:=⟨[],[.d .bool],λ_=>none,some (FR n)⟩
def FU:Hn SI:=(cm (.s (.s .z (.b (.l ⟨[(5,.v af),(13,.v af)],[],[1,11,12],[0,1],1512,[]⟩ 0 ⟨[(5,.v af)],[],[],[0,1],1512,[]⟩ .z))) .z))
theorem FV:aH 131 (FT n) :=oB (ak Fe aB) func131 FU n (by kernel_rfl) λ_=>by kernel_rfl
def CY:cN xx:=⟨[.p 0],[(0,ff),(1,.l aF)],[.v af],[(0,ff),(1,.l aF)],λv=>kU n v.1 v.2.1 v.2.2.1 v.2.2.2.1 v.2.2.2.2.1 v.2.2.2.2.2.1 v.2.2.2.2.2.2.1 v.2.2.2.2.2.2.2.1 v.2.2.2.2.2.2.2.2.1 v.2.2.2.2.2.2.2.2.2⟩
def CZ:ca xx:=⟨[],[.d .bool],λ_=>none,some (CY n)⟩
theorem C8:aH 89 (CZ n) :=oB (ak (FV n) aB) func89 .z n (by kernel_rfl) λ_=>by kernel_rfl
def yQ:cN xx:=⟨[.p 0,(.f 134 [] [])],[(0,ff),(1,.l aF)],[.v af],[(0,ff),(1,.l aF)],λv=>mG n v.1 v.2.1 v.2.2.1 v.2.2.2.1 v.2.2.2.2.1 v.2.2.2.2.2.1 v.2.2.2.2.2.2.1 v.2.2.2.2.2.2.2.1 v.2.2.2.2.2.2.2.2.1 v.2.2.2.2.2.2.2.2.2⟩
def yR:ca xx:=⟨[],[.d .bool],λ_=>none,some (yQ n)⟩
def yS:Hn SI:=(cm (.s (.s .z (.b (.l ⟨[(5,.v af),(13,.v af)],[],[1,11,12],[0,1],1512,[]⟩ 0 ⟨[(5,.v af)],[],[],[0,1],1512,[]⟩ .z))) .z))
theorem yT:aH 133 (yR n) :=oB (ak Ao aB) func133 yS n (by kernel_rfl) λ_=>by kernel_rfl
def A9:cN xx:=⟨[.p 0],[(0,ff),(1,.l aF)],[.v af],[(0,ff),(1,.l aF)],λv=>jT n v.1 v.2.1 v.2.2.1 v.2.2.2.1 v.2.2.2.2.1 v.2.2.2.2.2.1 v.2.2.2.2.2.2.1 v.2.2.2.2.2.2.2.1 v.2.2.2.2.2.2.2.2.1 v.2.2.2.2.2.2.2.2.2⟩
def Ba:ca xx:=⟨[],[.d .bool],λ_=>none,some (A9 n)⟩
theorem Bb:aH 90 (Ba n) :=oB (ak (yT n) aB) func90 .z n (by kernel_rfl) λ_=>by kernel_rfl
def yU:cN xx:=⟨[.p 0,(.f 135 [] [])],[(0,ff),(1,.l aF)],[.v af],[(0,ff),(1,.l aF)],λv=>mH n v.1 v.2.1 v.2.2.1 v.2.2.2.1 v.2.2.2.2.1 v.2.2.2.2.2.1 v.2.2.2.2.2.2.1 v.2.2.2.2.2.2.2.1 v.2.2.2.2.2.2.2.2.1 v.2.2.2.2.2.2.2.2.2⟩
def yV:ca xx:=⟨[],[.d .bool],λ_=>none,some (yU n)⟩
def yX:Hn SI:=(cm (.s (.s .z (.b (.l ⟨[(5,.v af),(13,.v af)],[],[1,11,12],[0,1],1512,[]⟩ 0 ⟨[(5,.v af)],[],[],[0,1],1512,[]⟩ .z))) .z))
theorem yY:aH 133 (yV n) :=oB (ak A8 aB) func133 yX n (by kernel_rfl) λ_=>by kernel_rfl
def Bc:cN xx:=⟨[.p 0],[(0,ff),(1,.l aF)],[.v af],[(0,ff),(1,.l aF)],λv=>jU n v.1 v.2.1 v.2.2.1 v.2.2.2.1 v.2.2.2.2.1 v.2.2.2.2.2.1 v.2.2.2.2.2.2.1 v.2.2.2.2.2.2.2.1 v.2.2.2.2.2.2.2.2.1 v.2.2.2.2.2.2.2.2.2⟩
def Bd:ca xx:=⟨[],[.d .bool],λ_=>none,some (Bc n)⟩
theorem Be:aH 91 (Bd n) :=oB (ak (yY n) aB) func91 .z n (by kernel_rfl) λ_=>by kernel_rfl
def FW:cN xx:=⟨[.p 0,(.f 136 [] [])],[(0,ff),(1,.l aF)],[.v af],[(0,ff),(1,.l aF)],λv=>qC n v.1 v.2.1 v.2.2.1 v.2.2.2.1 v.2.2.2.2.1 v.2.2.2.2.2.1 v.2.2.2.2.2.2.1 v.2.2.2.2.2.2.2.1 v.2.2.2.2.2.2.2.2.1 v.2.2.2.2.2.2.2.2.2⟩
def FX:ca xx:=⟨[],[.d .bool],λ_=>none,some (FW n)⟩
def FY:Hn SI:=(cm (.s (.s .z (.b (.l ⟨[(5,.v af),(13,.v af)],[],[1,11,12],[0,1],1512,[]⟩ 0 ⟨[(5,.v af)],[],[],[0,1],1512,[]⟩ .z))) .z))
theorem FZ:aH 131 (FX n) :=oB (ak CR aB) func131 FY n (by kernel_rfl) λ_=>by kernel_rfl
def C9:cN xx:=⟨[.p 0],[(0,ff),(1,.l aF)],[.v af],[(0,ff),(1,.l aF)],λv=>kV n v.1 v.2.1 v.2.2.1 v.2.2.2.1 v.2.2.2.2.1 v.2.2.2.2.2.1 v.2.2.2.2.2.2.1 v.2.2.2.2.2.2.2.1 v.2.2.2.2.2.2.2.2.1 v.2.2.2.2.2.2.2.2.2⟩
def Da:ca xx:=⟨[],[.d .bool],λ_=>none,some (C9 n)⟩
theorem Db:aH 92 (Da n) :=oB (ak (FZ n) aB) func92 .z n (by kernel_rfl) λ_=>by kernel_rfl
def Bf:cN xx:=⟨[.p 0,.v aA,.v af],[(0,ff),(1,.l aF)],[.v .bool],[(0,ff),(1,.l aF)],λv=>jW n v.1 v.2.1 v.2.2.1 v.2.2.2.1 v.2.2.2.2.1 v.2.2.2.2.2.1 v.2.2.2.2.2.2.1 v.2.2.2.2.2.2.2.1 v.2.2.2.2.2.2.2.2.1 v.2.2.2.2.2.2.2.2.2.1 v.2.2.2.2.2.2.2.2.2.2.1 v.2.2.2.2.2.2.2.2.2.2.2⟩
def Bg:ca xx:=⟨[],[.d .bool],λ_=>none,some (Bf n)⟩
def Bh:Hn SI:=(xf (.s (.s .z (.b (.l ⟨[(9,.v af),(27,.v af)],[],[7,25,26],[0,1,1512],2280,[]⟩ 0 ⟨[(9,.v af)],[],[7],[0,1,1512],2280,[]⟩ (cm (.s (.j ⟨[(9,.v af)],[],[7,25,26,27],[0,1,1512],2344,[]⟩ .z) .z))))) .z))
theorem Bj:aH 137 (Bg n) :=oB (ak SA (ak AU (ak CJ aB))) func137 Bh n (by kernel_rfl) λ_=>by kernel_rfl
def zm:cN xx:=⟨[.p 0],[(0,ff),(1,.l aF)],[.v af],[(0,ff),(1,.l aF)],λv=>jE n v.1 v.2.1 v.2.2.1 v.2.2.2.1 v.2.2.2.2.1 v.2.2.2.2.2.1 v.2.2.2.2.2.2.1 v.2.2.2.2.2.2.2.1 v.2.2.2.2.2.2.2.2.1 v.2.2.2.2.2.2.2.2.2⟩
def zn:ca xx:=⟨[],[.d .bool],λ_=>none,some (zm n)⟩
def zo:Hn SI:=(cm (.s (.s .z (.b (.l ⟨[(3,.v af),(14,.v af)],[(0,ff),(1,.l aF)],[0,12,13],[],1512,[]⟩ 0 ⟨[(3,.v af)],[(0,ff),(1,.l aF)],[],[],1512,[]⟩ (cm (.s (.b (cm (.s (.b (.l ⟨[(6,.v af),(7,.v af)],[(0,ff),(1,.l aF)],[0,5,12,13,14],[1704],2024,[]⟩ 2 ⟨[(6,.v af)],[(0,ff),(1,.l aF)],[0,12,13,14],[],2024,[]⟩ .z)) .z))) .z))))) .z))
theorem zq:aH 93 (zn n) :=oB (ak (Bj n) aB) func93 zo n (by kernel_rfl) λ_=>by kernel_rfl
def wI:cN xx:=⟨[.v aF,.p 0],[(0,.c 1 [[.p 1]]),(1,t6),(2,.l aF)],[.v af],[(0,.c 1 [[.p 1]]),(1,t6),(2,.l aF)],λv=>kS n v.1 v.2.1 v.2.2.1 v.2.2.2.1 v.2.2.2.2.1 v.2.2.2.2.2.1 v.2.2.2.2.2.2.1 v.2.2.2.2.2.2.2.1 v.2.2.2.2.2.2.2.2.1 v.2.2.2.2.2.2.2.2.2.1 v.2.2.2.2.2.2.2.2.2.2⟩
def wJ:ca xx:=⟨[],[.d .bool],λ_=>none,some (wI n)⟩
theorem wK:aH 138 (wJ n) :=oB (ak (NR n) aB) func138 .z n (by kernel_rfl) λ_=>by kernel_rfl
def F3:cN xx:=⟨[.p 0,(.f 138 [] [.p 1])],[(0,t6),(1,.c 1 [[.p 0]]),(2,.l aF)],[.v af],[(0,t6),(1,.c 1 [[.p 0]]),(2,.l aF)],λv=>qD n v.1 v.2.1 v.2.2.1 v.2.2.2.1 v.2.2.2.2.1 v.2.2.2.2.2.1 v.2.2.2.2.2.2.1 v.2.2.2.2.2.2.2.1 v.2.2.2.2.2.2.2.2.1 v.2.2.2.2.2.2.2.2.2⟩
def F4:ca xx:=⟨[],[.d .bool],λ_=>none,some (F3 n)⟩
def F5:Hn SI:=(cm (.s (.s .z (.b (.l ⟨[(5,.v af),(13,.v af)],[(0,t6),(1,.c 1 [[.p 0]]),(2,.l aF)],[1,11,12],[],1512,[]⟩ 0 ⟨[(5,.v af)],[(0,t6),(1,.c 1 [[.p 0]]),(2,.l aF)],[],[],1512,[]⟩ .z))) .z))
theorem F6:aH 131 (F4 n) :=oB (ak (wK n) aB) func131 F5 n (by kernel_rfl) λ_=>by kernel_rfl
def zu:cN xx:=⟨[.p 0],[(0,ff),(1,.l aF)],[.v af],[(0,ff),(1,.l aF)],λv=>jF n v.1 v.2.1 v.2.2.1 v.2.2.2.1 v.2.2.2.2.1 v.2.2.2.2.2.1 v.2.2.2.2.2.2.1 v.2.2.2.2.2.2.2.1 v.2.2.2.2.2.2.2.2.1 v.2.2.2.2.2.2.2.2.2⟩
def zw:ca xx:=⟨[],[.d .bool],λ_=>none,some (zu n)⟩
theorem zx:aH 94 (zw n) :=oB (ak (F6 n) aB) func94 .z n (by kernel_rfl) λ_=>by kernel_rfl
def abI:ca xx:=⟨[.d (.st SI.lf),.d (.st SI.Lot),.d dI],[.fresh gK],λa=>nN n a.1 a.2.1 a.2.2.1,none⟩
def abJ:Hn SI:=(cm (.s (.j ⟨[],[(1384,.c 10 [[.v (.sl aZ),.v (.sl aS),.v (.sl bn),.v (.sl aU),.v (.sl bC),.v (.sl bB),.v (.sl aP),.v af,.v (.sl aA),.nil]])],[5,7],[1128],1512,[]⟩ .z) (.s (.s .z (.b (.l ⟨[(31,.v af)],[(1384,HE),(1960,.l aF)],[7,29,30],[1768],1961,[(6668873,aF)]⟩ 0 ⟨[],[(1384,HE),(1960,.l aF)],[7],[],1961,[]⟩ (cm (.s (.j ⟨[],[(1384,.c 10 [[.v (.sl aZ),.v (.sl aS),.v (.sl bn),.v (.sl aU),.v (.sl bC),.v (.sl bB),.v (.sl aP),.v af,.v (.sl aA),.o 2025]]),(2025,.l aF)],[7,29,30,31],[1768],2026,[]⟩ (.b (.s .z (.s (.j ⟨[(41,.v .bool)],[],[7,9,29,30,31],[1384,1768,1960,2217],2409,[]⟩ .z) .z)))) .z))))) (cm (.s (.s .z (.b (.un .z (.un .z (.un .z (.un .z (.un .z (.un .z (.un .z (.un .z (.un .z (.un .z .z)))))))))))) .z)))))
theorem abK:aH 55 (abI n) :=cq (ak (pV n) (ak (Am n) (ak jb (ak (FQ n) (ak (CX n) (ak (C8 n) (ak (Bb n) (ak (Be n) (ak (Db n) (ak (zq n) (ak (zx n) aB))))))))))) func55 abJ n
def agI:ca xx:=⟨[.d af],[.d af,.d .bool],λa=>yH a.1,none⟩
def agJ:Hn SI:=(.s .z (.s (.s .z (.b (.s (.j ⟨[(5,.v .bool)],[],[0,4],[],1192,[]⟩ .z) (.s .z (.s (.j ⟨[(10,.v .bool)],[],[0,4],[],1192,[]⟩ .z) .z))))) .z))
theorem agK:aH 156 agI :=cq aB func156 agJ 0
def aew:Hn SI:=(cm (.s (.s (.j ⟨[(28,.v .bool)],[],[1,2],[1000],1640,[]⟩ .z) .z) (.s .z (.s (.s .z (.b (.l ⟨[(7,.v af),(32,.v af)],[],[1,30,31],[],1960,[]⟩ 0 ⟨[(7,.v af)],[],[],[],1960,[]⟩ .z))) .z))))
theorem abL(rc:(bU)->(Int)->Option Int)(hr:aH 123 (Ei rc)):aH 123 (Ei (zY n rc)) :=cq (ak agK (ak hr aB)) func123 aew n
theorem NS(n:Nat):∀m,aH 123 (Ei (sj n m))
 | 0=>yd (pz func123 (by kernel_rfl:Tryz.f123.body=some (Tryz.f123.body.getD .skip)) (by kernel_rfl)) (λ _ _ h=>(by cases h)) rfl
 |m+1=>abL n _ (NS n m)
def aex:ca xx:=⟨[.d (.st SI.Expr),.d af],[.d af],λa=>Pk n a.1 a.2.1,none⟩
theorem aey:aH 123 (aex n):=NS n n
def agL:ca xx:=⟨[.d (.st SI.Expr)],[.d .bool],λa=>Hw n a.1,none⟩
theorem Xk:aH 84 (agL n) :=cq (ak (aey n) aB) func84 .z n
def NT:ca xx:=⟨[],[.fresh .str],λ_=>wG,none⟩
theorem NU:aH 157 NT :=cq aB func157 .z 0
mutual
theorem amz:∀g:bU,(toE g).wt<=4000000->sg (toE g) (qY g)
 |⟨op,n,s,key,args⟩,h=>by simp only[toE,ET.wt]at h;have:=ET.qS (Hy args);simp only[toE,qY,sg];exact⟨n,key,_,rfl,by unfold maxLen;omega,by omega,Xl args (by omega)⟩
theorem Xl:∀l:List bU,ET.tf (Hy l)<=4000000->oc (Hy l) (tu l)
 |[],_=>by simp only[Hy,tu,oc]
 |x::xs,h=>by simp only[Hy,ET.tf]at h;simp only[Hy,tu,oc];exact⟨_,_,rfl,amz x (by omega),Xl xs (by omega)⟩
end
def NV:ca xx:=⟨[],[.d .bool],λ_=>none,some ⟨[.v (.sl aZ)],[],[.p 1000],[(1000,rm)],λv=>lI v⟩⟩
theorem aez:∀l:List gP,rk (l.map toD)<=4000000->oe (l.map toD) (l.map Eb)
 |[],_=>by simp only[List.map_nil,oe]
 |x::xs,h=>by simp only[bJ,rk,List.foldr_cons,toD,ET.wt]at h;have:=ET.qS (Hy x.el);simp only[bJ,oe];refine⟨_,_,rfl,⟨_,_,_,_,_,rfl,by simp only[toD];unfold maxLen;omega,?_⟩,aez xs (by simp only[rk];omega)⟩;simp only[toD,sg];exact⟨_,_,_,rfl,by unfold maxLen;omega,by omega,by rw[<- tC];exact Xl _ (by omega)⟩
theorem NW:aH 158 NV:=by
 have hcall:eT Tryz.prog 158:=⟨_,func158,by kernel_rfl,by kernel_rfl⟩;refine Q3 hcall ?_;intro v r hr;have h':lI v=some r:=hr;unfold lI at h';cases hb:Nat.ble (rk (List.map toD v)) 4000000 with
 |false=>rw[hb]at h';cases h'
 |true=>
  rw[hb]at h';have h'':some (v,oH (List.map toD v))=some r:=h';injection h'' with e;subst e;have hw:=Nat.le_of_ble_eq_true hb;have hlen:=Tt (List.map toD v);have hn:∀d∈List.map toD v,d.2.names.length<=4000000:=λd hd=>by have h1:=Tv hd;have h2:=ET.pb d.2;omega
  exact aaX (TL:=43) (TG:=268) (TI:=3) hcall (aez v hw) λsv w hS=>alW (List.map toD v) (by omega) (λ d hd=>Nat.le_trans (hn d hd) (by omega))
   (λ d hd v0 v1 v2 v3 v4 w hE=>callsIn_wide.1 (akt 0 d.2 v0 v1 v2 v3 v4 w hE (Nat.le_trans (hn d hd) (by omega)))) sv w hS
def SB:ca xx:=⟨[.d (.sl af),.d af],[.fresh af],λa=>qN a.1 a.2.1,none⟩
theorem SC:aH 245 SB:=by
 have hcall:eT Tryz.prog 245:=⟨_,func245,by kernel_rfl,by kernel_rfl⟩;refine yd hcall (λ a r h=>?_) rfl;obtain⟨l,c,⟨⟩⟩:=a;have h':qN l c=some r:=h
 match l,h' with
 |[x],h'=>
  simp only[qN]at h';cases hb:(decide (0<=c)&&decide (c<=1000000000000))with
  |false=>rw[hb]at h';cases h'
  |true=>
   rw[hb]at h';have h'':some (List.replicate c.toNat x)=some r:=h';injection h'' with e;subst e;simp only[bg,bE]at hb;obtain⟨h1,h2⟩:=hb;obtain⟨k,hk⟩:=Int.eq_ofNat_of_zero_le h1;subst hk;exact afJ (E:=3) (c:=k) hcall λa cap w hx=>aiK x k (Int.ofNat_le.1 (by simpa using h2)) a cap w hx
def Xm:ca xx:=⟨[.d (.sl af),.d af],[.d af],λa=>Ej n a.1 a.2.1,none⟩
def Xn:Hn SI:=(.s .z (.s (.s .z (.b (.lx ⟨[(8,.v af)],[],[0,1,7],[],1256,[]⟩ 0 ⟨[],[],[],[],1256,[]⟩ .z))) .z))
theorem Xo:aH 261 (Xm n) :=cq aB func261 Xn n
def NY:ca xx:=⟨[.d (.sl af),.d af],[.d .bool],λa=>rq n a.1 a.2.1,none⟩
theorem NZ:aH 246 (NY n) :=cq (ak (Xo n) aB) func246 .z n
def Bl:ca xx:=⟨[.ref (.st SI.graph),.d af],[.fresh af],λa=>jY n a.1 a.2.1,none⟩
def Bn:Hn SI:=(xf (.s (.b (.l ⟨[(6,.od 2024)],[(1448,.l af),(2024,.l af)],[0,5],[],2025,[]⟩ 0 ⟨[],[(1448,.l af)],[5],[],2024,[]⟩ (.s .z (.b (gR (.b (.l ⟨[(6,.od 3049),(35,.v af)],[(1448,.l af),(3049,.l af)],[0,5,7,33,34],[],3050,[]⟩ 2 ⟨[(6,.od 3049)],[(1448,.l af),(3049,.l af)],[0,5],[],3050,[]⟩ (cm (.s (.j ⟨[(6,.od 3114)],[(1448,.l af),(3114,.l af)],[0,5,7,33,34,35],[],3115,[]⟩ (.b (.s .z (.s (.j ⟨[(49,.v .bool)],[],[0,5,6,7,8,33,34,35],[1448,3049],3434,[]⟩ .z) .z)))) .z))))))))) .z))
theorem Bo:aH 229 (Bl n) :=cq (ak SC (ak (NZ n) aB)) func229 Bn n
def Lf:ca xx:=⟨[.d .str],[.d .bool],λa=>cmp_isNaN_string a.1,none⟩
theorem Lg:aH 247 Lf :=cq aB func247 .z 0
def Iz:ca xx:=⟨[.d .str,.d .str],[.d af],λa=>nO a.1 a.2.1,none⟩
theorem IA:aH 230 Iz :=cq (ak Lg aB) func230 .z 0
def JH:ca xx:=⟨[.d (.sl .str),.d (.sl .str)],[.d af],λa=>l5 n a.1 a.2.1,none⟩
def JI:Hn SI:=(.s .z (.s (.s .z (.b (.lx ⟨[(11,.v af)],[],[0,1,9,10],[],1256,[]⟩ 0 ⟨[],[],[0,1],[],1256,[]⟩ .z))) .z))
theorem JJ:aH 192 (JH n) :=cq (ak IA aB) func192 JI n
end
end Go.Proofs
