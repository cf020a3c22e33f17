import Derived.Test.YtlkpmaaacgedkaaGreatS2
namespace Go.Proofs
open Go.Gb Go.RowKit
abbrev eV:OP SI:=.c 10 [[.v (.sl aZ),.v (.sl aS),.v (.sl bg),.v (.sl aV),.v (.sl bB),.v (.sl bq),.v (.sl aP),.v af,.v (.sl aA),.o 1]]
abbrev qr:OP SI:=.c 1 [[.o 1]]
abbrev rx:OP SI:=.c 2 [[.v (.sl aZ),(.v (.sl (.sl af)))]]
abbrev tW:OP SI:=.c 10 [[.v (.sl aZ),.v (.sl aS),.v (.sl bg),.v (.sl aV),.v (.sl bB),.v (.sl bq),.v (.sl aP),.v af,.v (.sl aA),.o 2]]
abbrev vj:OP SI:=.c 2 [[.v af,.v af]]
abbrev xd:OP SI:=.c 1 [[.o 1384]]
abbrev A5:OP SI:=.c 4 [[.v af,.v af,.v af,.v af]]
abbrev HE:OP SI:=.c 10 [[.v (.sl aZ),.v (.sl aS),.v (.sl bg),.v (.sl aV),.v (.sl bB),.v (.sl bq),.v (.sl aP),.v af,.v (.sl aA),.o 1960]]
abbrev cd(a:Hn SI):Hn SI:=.s .z (.s .z a)
abbrev gx(a:Hn SI):Hn SI:=.s .z (.s .z (.s .z a))
abbrev xe(a:Hn SI):Hn SI:=.s .z (.s .z (.s .z (.s .z a)))
abbrev HH(a:Hn SI):Hn SI:=.s .z (.s .z (.s .z (.s .z (.s .z a))))
abbrev TX(a:Hn SI):Hn SI:=.s .z (.s .z (.s .z (.s .z (.s .z (.s .z a)))))
abbrev TO(a:Hn SI):Hn SI:=.s .z (.s .z (.s .z (.s .z (.s .z (.s .z (.s .z a))))))
open Tryz
noncomputable section
variable (n:Nat)
def aea:b7 xx:=⟨[.d .str,.d af],[.d aV],λa=>ZH a.1 a.2.1,none⟩
theorem aeb:aH 36 aea :=cq aB func36 .z 0
def abB:b7 xx:=⟨[.d af],[.d (.st SI.j7),.d cK],λa=>yF a.1,none⟩
theorem abC:aH 13 abB :=cq (ak aeb aB) func13 .z 0
def R4:b7 xx:=⟨[.d (.sl aA)],[.fresh aA],λa=>AR a.1,none⟩
theorem R5:aH 113 R4 :=cq aB func113 .z 0
def WU:b7 xx:=⟨[.d (.sl af)],[.fresh af],λa=>sV a.1,none⟩
theorem Iz:aH 40 WU :=cq aB func40 .z 0
def agp:b7 xx:=⟨[.d (.st SI.Lot)],[.d (.st SI.Lot)],λa=>MH a.1,none⟩
theorem agq:aH 72 agp :=cq (ak R5 (ak Iz aB)) func72 .z 0
def ajm:b7 xx:=⟨[.d (.sl (.st SI.Lot)),.d af],[.d (.st SI.Lot),.d .bool],λa=>MI n a.1 a.2.1,none⟩
def ajn:Hn SI:=(.s .z (.s (.s .z (.b (.lx ⟨[(10,.v af)],[],[1,4,8,9],[1000],1320,[]⟩ 0 ⟨[],[],[4],[1000],1320,[]⟩ .z))) .z))
theorem ajo:aH 43 (ajm n) :=cq (ak agq aB) func43 ajn n
def Ny:b7 xx:=⟨[.d cK,.d af,.d af],[.fresh aF],λa=>nU n a.1 a.2.1 a.2.2.1,none⟩
def Nz:Hn SI:=(cd (.s (.s .z (.b (.l ⟨[(7,.o 1448),(13,.v af)],[(1448,.l aF)],[1,2,11,12],[],1449,[(7,aF)]⟩ 0 ⟨[(7,.o 1448)],[(1448,.l aF)],[],[],1449,[]⟩ (cd (.s (.j ⟨[(7,.o 1513)],[(1513,.l aF)],[1,2,11,12,13],[],1514,[]⟩ (.b (.s .z (.s (.j ⟨[(25,.v .bool)],[],[1,2,7,9,11,12,13],[1448,1705],1897,[]⟩ .z) .z)))) .z))))) .z))
theorem Av:aH 83 (Ny n) :=cq aB func83 Nz n
def Yq:b7 xx:=⟨[.d cK],[.fresh aF],λa=>vX n a.1,none⟩
theorem Kv:aH 63 (Yq n) :=cq (ak (Av n) aB) func63 .z n
def ajp:b7 xx:=⟨[.d aA],[.d .bool],λa=>oO a.1,none⟩
theorem qj:aH 69 ajp :=cq aB func69 .z 0
def FH:b7 xx:=⟨[.d aF],[.d .bool],λa=>fH a.1,none⟩
def FI:Hn SI:=(cd (.s (.s (.j ⟨[(26,.v .bool)],[],[1],[1000],1384,[]⟩ .z) .z) (.s (.s (.j ⟨[(34,.v .bool)],[],[1],[1000],1384,[]⟩ .z) .z) .z)))
theorem iX:aH 37 FH :=cq (ak qj aB) func37 FI 0
def aec:b7 xx:=⟨[.d aA],[.d aA,.d .bool],λa=>xX a.1,none⟩
theorem Ru:aH 67 aec :=cq (ak qj aB) func67 .z 0
def Yr:b7 xx:=⟨[.d aA,.d aA],[.d aA,.d .bool],λa=>rU a.1 a.2.1,none⟩
def Yt:Hn SI:=(.s .z (.s (.s (.j ⟨[(13,.v .bool)],[],[2,3,4],[1000,1064,1128],1256,[]⟩ .z) .z) .z))
theorem Ba:aH 107 Yr :=cq (ak qj (ak Ru aB)) func107 Yt 0
def WV:b7 xx:=⟨[.d (.st SI.A4),.d (.st SI.A4)],[.d .bool],λa=>xk a.1 a.2.1,none⟩
theorem WW:aH 65 WV :=cq (ak Ba aB) func65 .z 0
def NA:b7 xx:=⟨[.d aF,.ref aF],[.d .bool],λa=>qW a.1 a.2.1,none⟩
theorem NC:aH 64 NA :=cq (ak WW aB) func64 .z 0
def FJ:b7 xx:=⟨[.d (.sl aF),.du [aF] .bool],[.d af],λa=>qx n a.1 a.2.1,none⟩
def FK:Hn SI:=(.s .z (.s (.s .z (.b (.lx ⟨[(8,.v af)],[],[0,1,7],[],1256,[]⟩ 0 ⟨[],[],[],[],1256,[]⟩ .z))) .z))
theorem FL:aH 99 (FJ n) :=cq aB func99 FK n
def Bb:b7 xx:=⟨[.d (.sl aF),.du [aF] .bool],[.d .bool],λa=>fU n a.1 a.2.1,none⟩
theorem qQ:aH 57 (Bb n) :=cq (ak (FL n) aB) func57 .z n
def abD:b7 xx:=⟨[.d (.int .u8)],[.d .bool],λa=>El a.1,none⟩
theorem ND:aH 147 abD :=cq aB func147 .z 0
def agr:b7 xx:=⟨[.d .str,.du [.int .u8] .bool],[.d af],λa=>MJ n a.1 a.2.1,none⟩
def ags:Hn SI:=(cd (.s (.b (.l ⟨[(5,.v af)],[],[0,1],[],1128,[]⟩ 0 ⟨[(5,.v af)],[],[],[],1128,[]⟩ (.s (.s (.j ⟨[(16,.v .bool)],[],[0,1,5],[],1128,[]⟩ .z) .z) .z))) .z))
theorem agt:aH 148 (agr n) :=cq aB func148 ags n
def aed:b7 xx:=⟨[.d (.int .u8)],[.d .bool],λa=>Pk a.1,none⟩
theorem aee:aH 150 aed :=cq aB func150 .z 0
def Yu:b7 xx:=⟨[.d (.int .u8)],[.d .bool],λa=>zZ a.1,none⟩
theorem Yv:aH 149 Yu :=cq (ak ND (ak aee aB)) func149 .z 0
def agu:b7 xx:=⟨[.d .str],[.d .bool],λa=>MK n a.1,none⟩
def agv:Hn SI:=(.s .z (.s (.s (.j ⟨[(15,.v .bool)],[],[0],[],1064,[]⟩ .z) .z) .z))
theorem agx:aH 108 (agu n) :=cq (ak ND (ak (agt n) (ak Yv aB))) func108 agv n
def KZ:b7 xx:=⟨[.d .str,.d .str],[.d .bool],λa=>strings_Contains a.1 a.2.1,none⟩
theorem K3:aH 109 KZ:=by
 have hcall:eD Tryz.prog 109:=⟨_,func109,by kernel_rfl,by kernel_rfl⟩;refine xF hcall (λ a r h=>?_) rfl;obtain⟨s,b,⟨⟩⟩:=a;have h':strings_Contains s b=some r:=h;unfold strings_Contains at h';cases hb:Nat.ble s.size 4000000 with
 |false=>rw[hb]at h';cases h'
 |true=>
  rw[hb]at h';have h'':some (Lib.contains s.data.toList b.data.toList)=some r:=h';injection h'' with e;subst e;have hw:=Nat.le_of_ble_eq_true hb;exact aa0 (g:=0) rfl hcall λm w hm=>adq s b m w (by omega) hm
def Yw:b7 xx:=⟨[.d .str],[.d .bool],λa=>vY n a.1,none⟩
theorem Yx:aH 66 (Yw n) :=cq (ak (agx n) (ak K3 aB)) func66 .z n
def WX:b7 xx:=⟨[.d cK],[.d .bool],λa=>lN n a.1,none⟩
def WY:Hn SI:=(cd (.s (.s (.j ⟨[(42,.v .bool)],[],[1,3],[1000,1192],1320,[]⟩ .z) .z) (.s (.s .z (.b (.lx ⟨[(45,.v af)],[],[1,3,43,44],[1000,1192],1512,[]⟩ 0 ⟨[],[],[1],[1000],1512,[]⟩ (cd (.s (.b (.s .z (.s (.j ⟨[(59,.v .bool)],[],[1,3,43,44,45],[1000,1192],1960,[]⟩ .z) .z))) .z))))) (.s (.s .z (.b (.lx ⟨[(64,.v af)],[],[62,63],[],1768,[]⟩ 2 ⟨[],[],[],[],1768,[]⟩ (cd (.s (.b (cd (.s (.s .z (.b (.lx ⟨[(72,.v af)],[(2088,.m .str .bool)],[7,8,62,63,64,70,71],[1960],2472,[]⟩ 4 ⟨[],[],[7,62,63,64],[1960],2472,[]⟩ (cd (.s (.b (.s .z (.s (.s (.j ⟨[(95,.v .bool)],[],[7,8,10,62,63,64,70,71,72],[1960,2088,2664],2792,[]⟩ .z) .z) .z))) .z))))) .z))) .z))))) .z))))
theorem IA:aH 32 (WX n) :=cq (ak (Kv n) (ak iX (ak (qQ n) (ak NC (ak (Yx n) aB))))) func32 WY n
def WZ:b7 xx:=⟨[.nil,.d af],[.fresh aA],λa=>ML a.1 a.2.1,none⟩
theorem W9:aH 214 WZ :=cq aB func214 .z 0
def P6:b7 xx:=⟨[.d (.sl (.sl aA))],[.fresh aA],λa=>yG n a.1,none⟩
def P7:Hn SI:=(cd (.s (.s .z (.b (.l ⟨[(3,.v af),(11,.v af)],[],[0,9,10],[],1320,[]⟩ 0 ⟨[(3,.v af)],[],[0],[],1320,[]⟩ .z))) (.s .z (.s (.s .z (.b (.l ⟨[(6,.o 1704),(27,.v af)],[(1704,.l aA)],[25,26],[],1705,[]⟩ 2 ⟨[(6,.o 1704)],[(1704,.l aA)],[],[],1705,[]⟩ .z))) .z))))
theorem P8:aH 178 (P6 n) :=cq (ak W9 aB) func178 P7 n
def Yy:b7 xx:=⟨[.mut af],[.mu af],λa=>pF n a.1,none⟩
theorem vK:aH 127 (Yy n):=by have hcall:eD Tryz.prog 127:=⟨_,func127,by kernel_rfl,by kernel_rfl⟩;refine xF hcall (λ a r h=>?_) rfl;obtain⟨l,⟨⟩⟩:=a;exact aiO Tryz.so127 rfl hcall h
def P9:b7 xx:=⟨[.mut af],[.whole 0,.mu af],λa=>pG n a.1,none⟩
def Qa:Hn SI:=(cd (.s (.s .z (.b (.lx ⟨[(3,.v af)],[],[0],[0],1320,[]⟩ 0 ⟨[],[],[0],[0],1320,[]⟩ (.s .z (.s (.b (.s .z (.s (.s .z (.s (.s .z (.b (.l ⟨[(3,.v af),(5,.v af)],[(0,.l af)],[0,4],[],2536,[]⟩ 2 ⟨[(3,.v af)],[(0,.l af)],[0],[],2536,[]⟩ (.s .z (.s (.j ⟨[(3,.v af)],[(0,.l af)],[0,4,5],[],2792,[]⟩ .z) .z))))) .z)) .z))) .z))))) .z))
theorem vk:aH 179 (P9 n) :=cq aB func179 Qa n
def K4:b7 xx:=⟨[.mut (.st SI.span),.du [.st SI.span,.st SI.span] af],[.mu (.st SI.span)],λa=>uS n a.1 a.2.1,none⟩
theorem K5:aH 215 (K4 n):=by have hcall:eD Tryz.prog 215:=⟨_,func215,by kernel_rfl,by kernel_rfl⟩;refine xF hcall (λ a r h=>?_) rfl;obtain⟨l,φ,⟨⟩⟩:=a;refine ZF (X:=xx) (i:=SI.span) (hI:=(inferInstance:Inhabited aK)) Tryz.so215 rfl hcall Tryz.underlying252 (by kernel_rfl) (λ x t ht=>?_) h;cases x;have ht:t∈[_,_]:=ht;simp only[aR,ny,or_false]at ht;rcases ht with rfl|rfl<;>exact⟨_,rfl,trivial⟩
def R6:b7 xx:=⟨[.d af],[.d .bool],λa=>cmp_isNaN_int a.1,none⟩
theorem R7:aH 42 R6 :=cq aB func42 .z 0
def NE:b7 xx:=⟨[.d af,.d af],[.d af],λa=>cmp_Compare_int a.1 a.2.1,none⟩
theorem l8:aH 22 NE :=cq (ak R7 aB) func22 .z 0
def Xa:b7 xx:=⟨[.d (.st SI.span),.d (.st SI.span)],[.d af],λa=>xq a.1 a.2.1,none⟩
theorem Xb:aH 216 Xa :=cq (ak l8 aB) func216 .z 0
def aef:b7 xx:=⟨[.d (.sl aA),.d af],[.fresh (.st SI.span)],λa=>Jp n a.1 a.2.1,none⟩
def aeg:Hn SI:=(cd (.s (.s .z (.b (.l ⟨[(5,.o 1320),(14,.v af)],[(1320,.l (.st SI.span))],[1,12,13],[],1321,[(5,.st SI.span)]⟩ 0 ⟨[(5,.o 1320)],[(1320,.l (.st SI.span))],[],[],1321,[]⟩ (cd (.s (.j ⟨[(5,.o 1385)],[(1385,.l (.st SI.span))],[1,12,13,14],[],1386,[]⟩ (.b (.s .z (.s (.j ⟨[(27,.v .bool)],[],[1,5,7,12,13,14],[1320,1513],1641,[]⟩ .z) .z)))) .z))))) (cd (.s (.s .z (.b (.l ⟨[(8,.o 1705),(41,.v af)],[(1705,.l (.st SI.span))],[39,40],[1320],1706,[(8,.st SI.span)]⟩ 2 ⟨[(8,.o 1705)],[(1705,.l (.st SI.span))],[],[],1706,[]⟩ (cd (.s (.j ⟨[(8,.o 1770)],[(1770,.l (.st SI.span))],[39,40,41],[1320],1771,[]⟩ (.b (cd (.s (.j ⟨[(59,.v .bool)],[],[8,10,11,39,40,41],[1320,1705,1898],2218,[]⟩ .z) .z)))) .z))))) .z))))
theorem aeh:aH 180 (aef n) :=cq (ak (K5 n) (ak Xb aB)) func180 aeg n
def aei:b7 xx:=⟨[.d (.sl (.sl aA))],[.fresh (.st SI.strip)],λa=>ow n a.1,none⟩
def aej:Hn SI:=(gx (.s (.s .z (.b (.l ⟨[(4,.o 1512),(13,.v af)],[(1512,.l af)],[3,11,12],[1128],1513,[(4,af)]⟩ 0 ⟨[(4,.o 1512)],[(1512,.l af)],[3],[1128],1513,[]⟩ .z))) (gx (.s (.s .z (.b (.l ⟨[(7,.o 1961),(8,.v af)],[(1961,.l (.st SI.strip))],[3,4],[1128,1512],1962,[(7,.st SI.strip)]⟩ 2 ⟨[(7,.o 1961)],[(1961,.l (.st SI.strip))],[],[],1962,[]⟩ .z))) .z))))
theorem Rv:aH 145 (aei n) :=cq (ak (P8 n) (ak (vK n) (ak (vk n) (ak (aeh n) aB)))) func145 aej n
def R8:b7 xx:=⟨[.d (.sl (.st SI.span)),.d (.sl (.st SI.span))],[.d .bool],λa=>vC n a.1 a.2.1,none⟩
def R9:Hn SI:=(cd (.s (.s .z (.b (.lx ⟨[(13,.v af)],[],[0,1,12],[],1576,[]⟩ 0 ⟨[],[],[],[],1576,[]⟩ .z))) .z))
theorem Sb:aH 177 (R8 n) :=cq aB func177 R9 n
def agy:b7 xx:=⟨[.d (.sl (.st SI.strip))],[.fresh aA],λa=>Hy n a.1,none⟩
def agz:Hn SI:=(cd (.s (.s .z (.b (.l ⟨[(3,.o 1192),(4,.v af)],[(1192,.l aA)],[0],[],1193,[(3,aA)]⟩ 0 ⟨[(3,.o 1192)],[(1192,.l aA)],[],[],1193,[]⟩ (.s .z (.b (.s .z (.s (.b (.l ⟨[(5,.v af)],[],[0,3,4],[1192],1641,[]⟩ 2 ⟨[(5,.v af)],[],[0,3,4],[1192],1641,[]⟩ (.s (.s (.j ⟨[(30,.v .bool)],[],[0,3,4,5],[1192],1641,[]⟩ .z) .z) .z))) (.s (.s .z (.b (.l ⟨[(3,.o 2089),(39,.v af)],[(2089,.l aA)],[0,4,5,37,38],[],2090,[]⟩ 4 ⟨[(3,.o 2089)],[(2089,.l aA)],[0,5],[],2090,[]⟩ .z))) .z)))))))) .z))
theorem Xc:aH 144 (agy n) :=cq (ak (Sb n) aB) func144 agz n
def abE:b7 xx:=⟨[.d (.sl aA)],[.d (.sl aA),.d af],λa=>yH a.1,none⟩
theorem NF:aH 143 abE :=cq aB func143 .z 0
def amw:b7 xx:=⟨[.d (.sl aA)],[.d (.sl aA),.d af],λa=>Ss n a.1,none⟩
def amx:Hn SI:=(.s .z (.s (.s .z (.b (.lx ⟨[(8,.v af)],[],[0,6,7],[],1320,[]⟩ 0 ⟨[],[],[0],[],1320,[]⟩ .z))) .z))
theorem amy:aH 101 (amw n) :=cq (ak qj (ak (Rv n) (ak (Xc n) (ak NF aB)))) func101 amx n
def Sc:b7 xx:=⟨[.d (.sl aA),.d (.sl aA)],[.d .bool],λa=>oC n a.1 a.2.1,none⟩
def Sd:Hn SI:=(cd (.s (.s .z (.b (.lx ⟨[(13,.v af)],[],[0,1,12],[],1576,[]⟩ 0 ⟨[],[],[],[],1576,[]⟩ .z))) .z))
theorem Fh:aH 102 (Sc n) :=cq aB func102 Sd n
def agA:b7 xx:=⟨[.d (.sl aA)],[.d .bool],λa=>nV n a.1,none⟩
theorem pV:aH 59 (agA n) :=cq (ak (amy n) (ak (Fh n) aB)) func59 .z n
def uE:b7 xx:=⟨[.d (.sl (.st SI.strip)),.d af,.du [.st SI.strip,af] af],[.d af,.d .bool],λa=>jk n a.1 a.2.1 a.2.2.1,none⟩
def uF:Hn SI:=(gx (.s (.b (.l ⟨[(9,.v af),(10,.v af)],[],[0,1,2,8],[],1512,[]⟩ 0 ⟨[(9,.v af)],[],[0,1,2,8],[],1512,[]⟩ .z)) .z))
theorem uG:aH 184 (uE n) :=cq aB func184 uF n
def agB:b7 xx:=⟨[.d (.st SI.strip),.d af],[.d af],λa=>wo a.1 a.2.1,none⟩
theorem agC:aH 185 agB :=cq aB func185 .z 0
def amz:b7 xx:=⟨[.d (.sl (.st SI.strip)),.d af],[.d (.sl (.st SI.span))],λa=>VU n a.1 a.2.1,none⟩
def amA:Hn SI:=(cd (.s (.s (.j ⟨[(25,.v .bool)],[],[0,5],[],1576,[]⟩ .z) .z) .z))
theorem amB:aH 155 (amz n) :=cq (ak (uG n) (ak agC aB)) func155 amA n
def Xd:b7 xx:=⟨[.nil,.d af],[.fresh (.st SI.span)],λa=>MS a.1 a.2.1,none⟩
theorem Xe:aH 221 Xd :=cq aB func221 .z 0
def Qb:b7 xx:=⟨[.d (.sl (.sl (.st SI.span)))],[.fresh (.st SI.span)],λa=>yI n a.1,none⟩
def Qc:Hn SI:=(cd (.s (.s .z (.b (.l ⟨[(3,.v af),(11,.v af)],[],[0,9,10],[],1320,[]⟩ 0 ⟨[(3,.v af)],[],[0],[],1320,[]⟩ .z))) (.s .z (.s (.s .z (.b (.l ⟨[(6,.o 1704),(27,.v af)],[(1704,.l (.st SI.span))],[25,26],[],1705,[]⟩ 2 ⟨[(6,.o 1704)],[(1704,.l (.st SI.span))],[],[],1705,[]⟩ .z))) .z))))
theorem Qd:aH 182 (Qb n) :=cq (ak Xe aB) func182 Qc n
def vo:b7 xx:=⟨[.d (.sl (.st SI.span)),.d af,.du [.st SI.span,af] af],[.d af,.d .bool],λa=>jD n a.1 a.2.1 a.2.2.1,none⟩
def vv:Hn SI:=(gx (.s (.b (.l ⟨[(9,.v af),(10,.v af)],[],[0,1,2,8],[],1512,[]⟩ 0 ⟨[(9,.v af)],[],[0,1,2,8],[],1512,[]⟩ .z)) .z))
theorem vw:aH 222 (vo n) :=cq aB func222 vv n
def Xf:b7 xx:=⟨[.d (.st SI.span),.d af],[.d af],λa=>lT a.1 a.2.1,none⟩
theorem Xg:aH 223 Xf :=cq aB func223 .z 0
def aek:b7 xx:=⟨[.d (.sl (.st SI.span)),.d af],[.d .bool],λa=>Cu n a.1 a.2.1,none⟩
theorem ael:aH 183 (aek n) :=cq (ak (vw n) (ak Xg aB)) func183 .z n
def agD:b7 xx:=⟨[.d (.sl (.st SI.span)),.d (.sl (.st SI.span)),.du [.bool,.bool] .bool],[.fresh (.st SI.span)],λa=>Hz n a.1 a.2.1 a.2.2.1,none⟩
def agE:Hn SI:=(cd (.s (.s .z (.b (.l ⟨[(7,.o 1512),(19,.v af)],[(1512,.l af)],[0,1,2,17,18],[1320],1513,[(7,af)]⟩ 0 ⟨[(7,.o 1512)],[(1512,.l af)],[0,1,2],[],1513,[]⟩ .z))) (gx (.s (.s .z (.b (.l ⟨[(10,.o 1961),(11,.v af)],[(1961,.l (.st SI.span))],[0,1,2,7],[1512],1962,[(10,.st SI.span)]⟩ 2 ⟨[(10,.o 1961)],[(1961,.l (.st SI.span))],[],[],1962,[]⟩ (.s .z (.s (.j ⟨[(10,.o 2218)],[(2218,.l (.st SI.span))],[0,1,2,7,11],[1512],2219,[]⟩ (.b (gx (.s (.j ⟨[(68,.v .bool)],[],[0,1,2,7,10,11,12,13],[1512,1961],3370,[]⟩ .z) .z)))) .z))))) .z))))
theorem agF:aH 154 (agD n) :=cq (ak (Qd n) (ak (vK n) (ak (vk n) (ak (ael n) aB)))) func154 agE n
def abF:b7 xx:=⟨[.d (.sl aA),.d (.sl aA),.du [.bool,.bool] .bool],[.d (.sl aA),.d af],λa=>Em n a.1 a.2.1 a.2.2.1,none⟩
def abG:Hn SI:=(.s .z (.s (.s (.j ⟨[(20,.v .bool)],[],[0,1,2],[],1128,[]⟩ .z) .z) (.s (.f [6,7]) (.s .z (.s (.s .z (.b (.l ⟨[(33,.v af)],[(1832,.l (.st SI.strip))],[2,8,9,10,31,32],[],2152,[]⟩ 0 ⟨[],[(1832,.l (.st SI.strip))],[10],[],2152,[]⟩ .z))) .z)))))
theorem abH:aH 114 (abF n) :=cq (ak (pV n) (ak (Rv n) (ak (amB n) (ak (agF n) (ak (Xc n) (ak NF aB)))))) func114 abG n
def Xh:b7 xx:=⟨[.d .bool,.d .bool],[.d .bool],λa=>xu a.1 a.2.1,none⟩
theorem Xi:aH 115 Xh :=cq aB func115 .z 0
def aem:b7 xx:=⟨[.d (.sl aA),.d (.sl aA)],[.d (.sl aA),.d af],λa=>Jq n a.1 a.2.1,none⟩
theorem aen:aH 73 (aem n) :=cq (ak (abH n) (ak Xi aB)) func73 .z n
def alk:b7 xx:=⟨[.d aA],[.d af],λa=>uT a.1,none⟩
theorem CU:aH 34 alk :=cq (ak Ru aB) func34 .z 0
def ajq:b7 xx:=⟨[.d (.sl aA)],[.d af],λa=>MW n a.1,none⟩
def ajr:Hn SI:=(gx (.s (.s .z (.b (.l ⟨[(3,.v af),(11,.v af)],[],[9,10],[],1512,[]⟩ 0 ⟨[(3,.v af)],[],[],[],1512,[]⟩ .z))) .z))
theorem Z6:aH 74 (ajq n) :=cq (ak (pV n) (ak CU aB)) func74 ajr n
def K6:b7 xx:=⟨[.d bB,.ref gF],[.d .bool],λa=>uU a.1 a.2.1,none⟩
theorem K7:aH 76 K6 :=cq aB func76 .z 0
def K8:b7 xx:=⟨[.d (.sl bB),.du [bB] .bool],[.d af],λa=>uV n a.1 a.2.1,none⟩
def K9:Hn SI:=(.s .z (.s (.s .z (.b (.lx ⟨[(8,.v af)],[],[0,1,7],[],1256,[]⟩ 0 ⟨[],[],[],[],1256,[]⟩ .z))) .z))
theorem La:aH 116 (K8 n) :=cq aB func116 K9 n
def FM:b7 xx:=⟨[.d (.sl bB),.du [bB] .bool],[.d .bool],λa=>mU n a.1 a.2.1,none⟩
theorem FN:aH 75 (FM n) :=cq (ak (La n) aB) func75 .z n
def Sg:b7 xx:=⟨[.d (.st SI.ld),.d (.st SI.Lot),.d cK],[.d .bool],λa=>ku n a.1 a.2.1 a.2.2.1,none⟩
def Si:Hn SI:=(.s .z (.s (.s (.j ⟨[(30,.v .bool)],[],[3,4,5],[1000,1064,1128],1256,[]⟩ .z) .z) (.s (.s .z (.b (.lx ⟨[(34,.v af)],[],[3,4,5,32,33],[1000,1064,1128,1320],1512,[]⟩ 0 ⟨[],[],[3,5],[1000,1128],1512,[]⟩ (cd (.s (.b (cd (.s (.j ⟨[(58,.v .bool)],[],[3,4,5,32,33,34],[1000,1064,1128,1320],2600,[]⟩ .z) .z))) .z))))) (.s (.s .z (.b (.lx ⟨[(63,.v af)],[],[3,61,62],[1000],1768,[]⟩ 2 ⟨[],[],[],[],1768,[]⟩ (cd (.s (.b (cd (.b (.lx ⟨[(70,.v af)],[],[3,61,62,63,68,69],[1000],2344,[]⟩ 4 ⟨[],[],[3,61,62,63],[1000],2344,[]⟩ .z)))) .z))))) .z))))
theorem Sj:aH 44 (Sg n) :=cq (ak (IA n) (ak (pV n) (ak (Kv n) (ak (aen n) (ak (Z6 n) (ak CU (ak (FN n) (ak K7 aB)))))))) func44 Si n
def Qe:b7 xx:=⟨[.d cK],[.fresh aF],λa=>tC n a.1,none⟩
def Qf:Hn SI:=(cd (.s (.s .z (.b (.l ⟨[(3,.o 1448),(9,.v af)],[(1448,.l aF)],[7,8],[],1449,[(3,aF)]⟩ 0 ⟨[(3,.o 1448)],[(1448,.l aF)],[],[],1449,[]⟩ .z))) .z))
theorem Qg:aH 45 (Qe n) :=cq aB func45 Qf n
def Qh:b7 xx:=⟨[.d (.sl (.st SI.iv))],[.fresh (.st SI.side)],λa=>pI n a.1,none⟩
def Qi:Hn SI:=(cd (.s (.s .z (.b (.l ⟨[(10,.v af)],[(1192,.l (.st SI.side))],[0,3,9],[],1512,[]⟩ 0 ⟨[],[(1192,.l (.st SI.side))],[3],[],1512,[]⟩ .z))) .z))
theorem CV:aH 187 (Qh n) :=cq aB func187 Qi n
def Qj:b7 xx:=⟨[.d (.st SI.iv)],[.d .bool],λa=>tF a.1,none⟩
theorem Qk:aH 224 Qj :=cq aB func224 .z 0
def EQ:b7 xx:=⟨[.d (.st SI.side)],[.d .bool],λa=>gV a.1,none⟩
theorem uf:aH 188 EQ :=cq aB func188 .z 0
def abI:b7 xx:=⟨[.d (.sl af)],[.d af],λa=>uW n a.1,none⟩
def abJ:Hn SI:=(cd (.s (.s .z (.b (.lx ⟨[(8,.v af)],[],[3,6,7],[],1320,[]⟩ 0 ⟨[],[],[3],[],1320,[]⟩ .z))) .z))
theorem NG:aH 156 (abI n) :=cq aB func156 abJ n
def NH:b7 xx:=⟨[.d (.st SI.iv),.d (.st SI.iv)],[.d af],λa=>qX n a.1 a.2.1,none⟩
theorem NI:aH 225 (NH n) :=cq (ak l8 (ak (NG n) aB)) func225 .z n
def ER:b7 xx:=⟨[.d (.st SI.side),.d (.st SI.side)],[.d .bool],λa=>lU a.1 a.2.1,none⟩
theorem ES:aH 226 ER :=cq aB func226 .z 0
def Sk:b7 xx:=⟨[.d (.sl (.st SI.iv))],[.d .bool],λa=>vD n a.1,none⟩
def Sl:Hn SI:=(.s .z (.s (.s (.j ⟨[(16,.v .bool)],[],[0],[],1064,[]⟩ .z) .z) (.s .z (.s (.s .z (.b (.lx ⟨[(21,.v af)],[],[0,3,19,20],[1128],1448,[]⟩ 0 ⟨[],[],[3],[1128],1448,[]⟩ (cd (.s (.b (cd (.s (.s (.j ⟨[(61,.v .bool)],[],[0,3,4,19,20,21],[1128],2536,[]⟩ .z) .z) (.s (.j ⟨[(74,.v .bool)],[],[0,3,19,20,21],[1128],2536,[]⟩ .z) .z)))) .z))))) (.s (.s .z (.b (.lx ⟨[(78,.v af)],[],[3,77],[1128],1640,[]⟩ 2 ⟨[],[],[3],[1128],1640,[]⟩ (cd (.s (.b (cd (.b (.lx ⟨[(8,.v af)],[],[3,7,77,78],[1128],2024,[]⟩ 4 ⟨[],[],[3,77,78],[1128],2024,[]⟩ (.s .z (.s (.b (.s (.j ⟨[(106,.v .bool)],[],[3,7,8,77,78],[1128],2280,[]⟩ .z) .z)) .z)))))) .z))))) .z)))))
theorem Sm:aH 186 (Sk n) :=cq (ak (CV n) (ak Qk (ak uf (ak (NI n) (ak ES aB))))) func186 Sl n
def Ql:b7 xx:=⟨[.d (.sl (.st SI.iv))],[.fresh aA,.d af],λa=>tH n a.1,none⟩
def Qm:Hn SI:=(gx (.s (.s .z (.b (.l ⟨[(4,.o 1576),(19,.v af)],[(1576,.l af)],[0,17,18],[],1577,[(4,af)]⟩ 0 ⟨[(4,.o 1576)],[(1576,.l af)],[0],[],1577,[]⟩ .z))) (xe (.s (.s .z (.b (.l ⟨[(8,.o 2409),(38,.v af)],[(2409,.l aA)],[4,7,37],[1576,1961],2410,[(8,aA)]⟩ 2 ⟨[(8,.o 2409)],[(2409,.l aA)],[],[],2410,[]⟩ (cd (.s (.b (cd (.s (.s .z (.b (.l ⟨[(10,.o 2858),(43,.v af)],[(2858,.l af)],[4,7,8,9,37,38,41,42],[1576,1961,2409],2859,[(10,af)]⟩ 4 ⟨[(10,.o 2858)],[(2858,.l af)],[4,7,8,9,37,38],[1576,1961,2409],2859,[]⟩ (cd (.s (.j ⟨[(10,.o 2923)],[(2923,.l af)],[4,7,8,9,37,38,41,42,43],[1576,1961,2409],2924,[]⟩ (.b (.s .z (.s (.j ⟨[(77,.v .bool)],[],[4,7,8,9,10,12,37,38,41,42,43],[1576,1961,2409,2858,3051],3179,[]⟩ .z) .z)))) .z))))) (cd (.b (.l ⟨[(8,.o 3051),(13,.v af)],[(3051,.l aA)],[4,7,9,10,37,38],[1576,1961,2858],3052,[]⟩ 6 ⟨[(8,.o 3051)],[(3051,.l aA)],[4,7,37,38],[1576,1961],3052,[]⟩ .z)))))) .z))))) .z))))
theorem Qn:aH 157 (Ql n) :=cq (ak (Sm n) (ak (vK n) (ak (vk n) (ak (CV n) (ak uf aB))))) func157 Qm n
def Xj:b7 xx:=⟨[.d bg],[.fresh aA],λa=>xw n a.1,none⟩
theorem Xk:aH 118 (Xj n) :=cq (ak (Qn n) aB) func118 .z n
def Sn:b7 xx:=⟨[.d (.sl aA),.d (.sl aA)],[.d af,.d (.st SI.iv)],λa=>vE n a.1 a.2.1,none⟩
def Sq:Hn SI:=(cd (.s (.s .z (.b (.l ⟨[(6,.v af),(18,.v af)],[(1192,vj)],[1,5,7,16,17],[1064],1576,[]⟩ 0 ⟨[(6,.v af)],[(1192,vj)],[5,7],[1064],1576,[]⟩ (cd (.s (.b (cd (.b (.l ⟨[(6,.v af),(24,.v af)],[(1192,vj)],[1,5,7,9,16,17,18,22,23],[1064,1768],2088,[]⟩ 2 ⟨[(6,.v af)],[(1192,vj)],[1,5,7,16,17,18],[1064],2088,[]⟩ (cd (.s (.j ⟨[(6,.v af)],[(1192,vj)],[1,5,7,9,16,17,18,22,23,24],[1064,1768],2152,[]⟩ .z) .z)))))) .z))))) .z))
theorem Sr:aH 117 (Sn n) :=cq (ak Ba (ak CU (ak l8 (ak (NG n) aB)))) func117 Sq n
def Sv:b7 xx:=⟨[.d (.st SI.ld),.d (.sl aA)],[.fresh af],λa=>vF n a.1 a.2.1,none⟩
def Sw:Hn SI:=(gx (.s (.s .z (.b (.l ⟨[(5,.o 1640),(16,.v af)],[(1640,.l af)],[1,14,15],[],1641,[(5,af)]⟩ 0 ⟨[(5,.o 1640)],[(1640,.l af)],[],[],1641,[]⟩ .z))) .z))
theorem Sy:aH 77 (Sv n) :=cq (ak (pV n) (ak (Xk n) (ak (Sr n) aB))) func77 Sw n
def aeo:b7 xx:=⟨[.d (.st SI.ld),.d (.sl aA)],[.fresh .str],λa=>Cv n a.1 a.2.1,none⟩
def aep:Hn SI:=(gx (.s (.s .z (.b (.l ⟨[(6,.v af),(17,.v af)],[],[2,5,15,16],[1000,1256],1640,[]⟩ 0 ⟨[(6,.v af)],[],[2,5],[1000,1256],1640,[]⟩ (cd (.s (.j ⟨[(6,.v af)],[],[2,5,15,16,17],[1000,1256],1704,[]⟩ (.b (.s .z (.s (.j ⟨[(44,.v .bool)],[],[2,5,6,7,15,16,17],[1000,1256],2024,[]⟩ .z) .z)))) .z))))) (.s .z (.s (.s .z (.b (.l ⟨[(9,.o 1896),(49,.v af)],[(1896,.l .str)],[2,6,47,48],[1000,1256],1897,[(9,.str)]⟩ 2 ⟨[(9,.o 1896)],[(1896,.l .str)],[],[],1897,[]⟩ (cd (.s (.j ⟨[(9,.o 1961)],[(1961,.l .str)],[2,6,47,48,49],[1000,1256],1962,[]⟩ (.b (.s .z (.s (.j ⟨[(68,.v .bool)],[],[2,6,9,10,47,48,49],[1000,1256,1896],2281,[]⟩ .z) .z)))) .z))))) .z))))
theorem aer:aH 46 (aeo n) :=cq (ak (Sy n) aB) func46 aep n
def Yz:b7 xx:=⟨[.d (.st SI.j7),.d cK],[.d (.st SI.ka),.d af],λa=>z8 n a.1 a.2.1,none⟩
theorem YA:aH 23 (Yz n) :=cq (ak (ajo n) (ak (Sj n) (ak (Qg n) (ak (aer n) aB)))) func23 .z n
def NJ:b7 xx:=⟨[.d (.sl .str),.d .str],[.d af],λa=>qY n a.1 a.2.1,none⟩
def NK:Hn SI:=(.s .z (.s (.s .z (.b (.lx ⟨[(8,.v af)],[],[0,1,7],[],1256,[]⟩ 0 ⟨[],[],[],[],1256,[]⟩ .z))) .z))
theorem NN:aH 47 (NJ n) :=cq aB func47 NK n
def IB:b7 xx:=⟨[.d (.sl .str),.d .str],[.d .bool],λa=>fQ n a.1 a.2.1,none⟩
theorem pW:aH 25 (IB n) :=cq (ak (NN n) aB) func25 .z n
def Lb:b7 xx:=⟨[.d .str,.ref (.sl .str)],[.d .bool],λa=>kG n a.1 a.2.1,none⟩
theorem Lc:aH 78 (Lb n) :=cq (ak (pW n) aB) func78 .z n
def FO:b7 xx:=⟨[.d (.sl .str),.du [.str] .bool],[.d af],λa=>qy n a.1 a.2.1,none⟩
def FP:Hn SI:=(.s .z (.s (.s .z (.b (.lx ⟨[(8,.v af)],[],[0,1,7],[],1256,[]⟩ 0 ⟨[],[],[],[],1256,[]⟩ .z))) .z))
theorem FQ:aH 119 (FO n) :=cq aB func119 FP n
def Bc:b7 xx:=⟨[.d (.sl .str),.du [.str] .bool],[.d .bool],λa=>fV n a.1 a.2.1,none⟩
theorem Bd:aH 79 (Bc n) :=cq (ak (FQ n) aB) func79 .z n
def Sz:b7 xx:=⟨[.d aV,.d (.sl .str)],[.d .bool],λa=>qJ n a.1 a.2.1,none⟩
theorem SA:aH 48 (Sz n) :=cq (ak (Bd n) (ak (Lc n) aB)) func48 .z n
def Xl:b7 xx:=⟨[.d (.st SI.ld),.d (.sl .str),.d af],[.fresh af],λa=>tJ n a.1 a.2.1 a.2.2.1,none⟩
def Xm:Hn SI:=(cd (.s (.s .z (.b (.l ⟨[(7,.o 1448),(13,.v af)],[(1448,.l af)],[1,2,11,12],[],1449,[(7,af)]⟩ 0 ⟨[(7,.o 1448)],[(1448,.l af)],[],[],1449,[]⟩ (cd (.s (.j ⟨[(7,.o 1513)],[(1513,.l af)],[1,2,11,12,13],[],1514,[]⟩ (.b (.s .z (.s (.j ⟨[(37,.v .bool)],[],[1,2,7,8,11,12,13],[1448],1897,[]⟩ .z) .z)))) .z))))) .z))
theorem Xn:aH 26 (Xl n) :=cq (ak (SA n) aB) func26 Xm n
def Ld:b7 xx:=⟨[.mut aA,.du [aA,aA] af],[.mu aA],λa=>uX n a.1 a.2.1,none⟩
theorem Le:aH 125 (Ld n):=by have hcall:eD Tryz.prog 125:=⟨_,func125,by kernel_rfl,by kernel_rfl⟩;refine xF hcall (λ a r h=>?_) rfl;obtain⟨l,φ,⟨⟩⟩:=a;refine ZF (X:=xx) (i:=SI.mL) (hI:=(inferInstance:Inhabited au)) Tryz.so125 rfl hcall Tryz.underlying64 (by kernel_rfl) (λ x t ht=>?_) h;cases x;have ht:t∈[_,_,_,_]:=ht;simp only[aR,ny,or_false]at ht;rcases ht with rfl|rfl|rfl|rfl<;>exact⟨_,rfl,trivial⟩
def CW:b7 xx:=⟨[.d aA,.d aA],[.d af],λa=>iU a.1 a.2.1,none⟩
theorem CX:aH 126 CW :=cq (ak l8 aB) func126 .z 0
def NP:b7 xx:=⟨[.d aF],[.d af],λa=>lG a.1,none⟩
def NQ:Hn SI:=(.s .z (.s (.s (.j ⟨[(9,.v .bool)],[],[1],[1000],1128,[]⟩ .z) .z) .z))
theorem Aw:aH 131 NP :=cq (ak iX aB) func131 NQ 0
def SB:b7 xx:=⟨[.d aF],[.d af],λa=>oD a.1,none⟩
theorem Fj:aH 129 SB :=cq (ak iX (ak CU (ak Aw aB))) func129 .z 0
def Be:b7 xx:=⟨[.d aF],[.d af],λa=>nJ a.1,none⟩
theorem Bf:aH 132 Be :=cq aB func132 .z 0
def CY:b7 xx:=⟨[.d aF],[.d af],λa=>oH a.1,none⟩
theorem CZ:aH 133 CY :=cq aB func133 .z 0
def SC:b7 xx:=⟨[.d aA,.d af],[.d aA,.d .bool],λa=>AX a.1 a.2.1,none⟩
theorem SF:aH 171 SC :=cq (ak qj aB) func171 .z 0
def Qo:b7 xx:=⟨[.d gF,.ref (.st SI.nj),.ref af],[.d .bool],λa=>kM a.1 a.2.1 a.2.2.1,none⟩
theorem Qp:aH 213 Qo :=cq aB func213 .z 0
def IC:b7 xx:=⟨[.d (.sl gF),.du [gF] .bool],[.d af],λa=>kN n a.1 a.2.1,none⟩
def IE:Hn SI:=(.s .z (.s (.s .z (.b (.lx ⟨[(8,.v af)],[],[0,1,7],[],1256,[]⟩ 0 ⟨[],[],[],[],1256,[]⟩ .z))) .z))
theorem wD:aH 165 (IC n) :=cq aB func165 IE n
def YB:b7 xx:=⟨[.d (.st SI.ld),.d af],[.d af],λa=>Aa n a.1 a.2.1,none⟩
def YC:Hn SI:=(cd (.s (.s .z (.b (.lx ⟨[(14,.v af)],[],[3,5,12,13],[1064,1256],1640,[]⟩ 0 ⟨[],[],[],[],1640,[]⟩ (cd (.s (.b (gx (.s (.j ⟨[(8,.v af)],[],[],[],2344,[]⟩ .z) .z))) .z))))) .z))
theorem YD:aH 172 (YB n) :=cq (ak (wD n) (ak Qp aB)) func172 YC n
def NR:b7 xx:=⟨[.d (.st SI.ld),.d aF],[.d af],λa=>jE n a.1 a.2.1,none⟩
def NS:Hn SI:=(cd (.s (.s (.j ⟨[(20,.v .bool)],[],[5,6],[],1704,[]⟩ .z) .z) .z))
theorem NT:aH 136 (NR n) :=cq (ak (YD n) (ak Fj aB)) func136 NS n
def FR:cM xx:=⟨[.p 0],[(0,eV),(1,.l aF)],[.v af],[(0,eV),(1,.l aF)],λv=>mV n v.1 v.2.1 v.2.2.1 v.2.2.2.1 v.2.2.2.2.1 v.2.2.2.2.2.1 v.2.2.2.2.2.2.1 v.2.2.2.2.2.2.2.1 v.2.2.2.2.2.2.2.2.1 v.2.2.2.2.2.2.2.2.2⟩
def FT:b7 xx:=⟨[],[.d .bool],λ_=>none,some (FR n)⟩
theorem FU:aH 84 (FT n) :=oA (ak (Z6 n) aB) func84 .z n (by kernel_rfl) λ_=>by kernel_rfl
def C8:cM xx:=⟨[.p 0],[(0,eV),(1,.l aF)],[.v af],[(0,eV),(1,.l aF)],λv=>iV n v.1 v.2.1 v.2.2.1 v.2.2.2.1 v.2.2.2.2.1 v.2.2.2.2.2.1 v.2.2.2.2.2.2.1 v.2.2.2.2.2.2.2.1 v.2.2.2.2.2.2.2.2.1 v.2.2.2.2.2.2.2.2.2⟩
def C9:b7 xx:=⟨[],[.d .bool],λ_=>none,some (C8 n)⟩
def Da:Hn SI:=(gx (.s (.s .z (.b (.l ⟨[(3,.o 1960),(23,.v af)],[(1448,.l aA),(1960,.l af)],[4,21,22],[0,1],1961,[(3,af)]⟩ 0 ⟨[(3,.o 1960)],[(1448,.l aA),(1960,.l af)],[4],[0,1],1961,[]⟩ .z))) (gx (.s (.s .z (.b (.l ⟨[(7,.v af),(56,.v af)],[],[3,4,55],[0,1,1448,1960],2601,[]⟩ 2 ⟨[(7,.v af)],[],[],[0,1],2601,[]⟩ (cd (.s (.b (gx (.b (.l ⟨[(7,.v af),(9,.v af),(61,.v af)],[],[3,4,8,55,56,59,60],[0,1,1448,1960],3049,[]⟩ 4 ⟨[(7,.v af)],[],[3,4,55,56],[0,1,1448,1960],3049,[]⟩ (cd (.s (.j ⟨[(7,.v af),(9,.v af)],[],[3,4,8,55,56,59,60,61],[0,1,1448,1960],3113,[]⟩ (.b (.s .z (.s (.j ⟨[(86,.v .bool)],[],[3,4,7,8,9,11,55,56,59,60,61],[0,1,1448,1960,3241],3369,[]⟩ .z) .z)))) .z)))))) .z))))) .z))))
theorem Db:aH 85 (C9 n) :=oA (ak (Le n) (ak CX (ak (vK n) aB))) func85 Da n (by kernel_rfl) λ_=>by kernel_rfl
def FV:cM xx:=⟨[.p 0,(.f 129 [] [])],[(0,eV),(1,.l aF)],[.v af],[(0,eV),(1,.l aF)],λv=>qz n v.1 v.2.1 v.2.2.1 v.2.2.2.1 v.2.2.2.2.1 v.2.2.2.2.2.1 v.2.2.2.2.2.2.1 v.2.2.2.2.2.2.2.1 v.2.2.2.2.2.2.2.2.1 v.2.2.2.2.2.2.2.2.2⟩
def FW:b7 xx:=⟨[],[.d .bool],λ_=>none,some (FV n)⟩
def FX:Hn SI:=(cd (.s (.s .z (.b (.l ⟨[(5,.v af),(13,.v af)],[],[1,11,12],[0,1],1512,[]⟩ 0 ⟨[(5,.v af)],[],[],[0,1],1512,[]⟩ .z))) .z))
theorem FY:aH 128 (FW n) :=oA (ak Fj aB) func128 FX n (by kernel_rfl) λ_=>by kernel_rfl
def Dc:cM xx:=⟨[.p 0],[(0,eV),(1,.l aF)],[.v af],[(0,eV),(1,.l aF)],λv=>kT n v.1 v.2.1 v.2.2.1 v.2.2.2.1 v.2.2.2.2.1 v.2.2.2.2.2.1 v.2.2.2.2.2.2.1 v.2.2.2.2.2.2.2.1 v.2.2.2.2.2.2.2.2.1 v.2.2.2.2.2.2.2.2.2⟩
def Df:b7 xx:=⟨[],[.d .bool],λ_=>none,some (Dc n)⟩
theorem Dg:aH 86 (Df n) :=oA (ak (FY n) aB) func86 .z n (by kernel_rfl) λ_=>by kernel_rfl
def yU:cM xx:=⟨[.p 0,(.f 131 [] [])],[(0,eV),(1,.l aF)],[.v af],[(0,eV),(1,.l aF)],λv=>mF n v.1 v.2.1 v.2.2.1 v.2.2.2.1 v.2.2.2.2.1 v.2.2.2.2.2.1 v.2.2.2.2.2.2.1 v.2.2.2.2.2.2.2.1 v.2.2.2.2.2.2.2.2.1 v.2.2.2.2.2.2.2.2.2⟩
def yV:b7 xx:=⟨[],[.d .bool],λ_=>none,some (yU n)⟩
def yX:Hn SI:=(cd (.s (.s .z (.b (.l ⟨[(5,.v af),(13,.v af)],[],[1,11,12],[0,1],1512,[]⟩ 0 ⟨[(5,.v af)],[],[],[0,1],1512,[]⟩ .z))) .z))
theorem yY:aH 130 (yV n) :=oA (ak Aw aB) func130 yX n (by kernel_rfl) λ_=>by kernel_rfl
def Bg:cM xx:=⟨[.p 0],[(0,eV),(1,.l aF)],[.v af],[(0,eV),(1,.l aF)],λv=>jR n v.1 v.2.1 v.2.2.1 v.2.2.2.1 v.2.2.2.2.1 v.2.2.2.2.2.1 v.2.2.2.2.2.2.1 v.2.2.2.2.2.2.2.1 v.2.2.2.2.2.2.2.2.1 v.2.2.2.2.2.2.2.2.2⟩
def Bh:b7 xx:=⟨[],[.d .bool],λ_=>none,some (Bg n)⟩
theorem Bj:aH 87 (Bh n) :=oA (ak (yY n) aB) func87 .z n (by kernel_rfl) λ_=>by kernel_rfl
def yZ:cM xx:=⟨[.p 0,(.f 132 [] [])],[(0,eV),(1,.l aF)],[.v af],[(0,eV),(1,.l aF)],λv=>mG n v.1 v.2.1 v.2.2.1 v.2.2.2.1 v.2.2.2.2.1 v.2.2.2.2.2.1 v.2.2.2.2.2.2.1 v.2.2.2.2.2.2.2.1 v.2.2.2.2.2.2.2.2.1 v.2.2.2.2.2.2.2.2.2⟩
def y5:b7 xx:=⟨[],[.d .bool],λ_=>none,some (yZ n)⟩
def y7:Hn SI:=(cd (.s (.s .z (.b (.l ⟨[(5,.v af),(13,.v af)],[],[1,11,12],[0,1],1512,[]⟩ 0 ⟨[(5,.v af)],[],[],[0,1],1512,[]⟩ .z))) .z))
theorem y8:aH 130 (y5 n) :=oA (ak Bf aB) func130 y7 n (by kernel_rfl) λ_=>by kernel_rfl
def Bl:cM xx:=⟨[.p 0],[(0,eV),(1,.l aF)],[.v af],[(0,eV),(1,.l aF)],λv=>jS n v.1 v.2.1 v.2.2.1 v.2.2.2.1 v.2.2.2.2.1 v.2.2.2.2.2.1 v.2.2.2.2.2.2.1 v.2.2.2.2.2.2.2.1 v.2.2.2.2.2.2.2.2.1 v.2.2.2.2.2.2.2.2.2⟩
def Bn:b7 xx:=⟨[],[.d .bool],λ_=>none,some (Bl n)⟩
theorem Bo:aH 88 (Bn n) :=oA (ak (y8 n) aB) func88 .z n (by kernel_rfl) λ_=>by kernel_rfl
def FZ:cM xx:=⟨[.p 0,(.f 133 [] [])],[(0,eV),(1,.l aF)],[.v af],[(0,eV),(1,.l aF)],λv=>qC n v.1 v.2.1 v.2.2.1 v.2.2.2.1 v.2.2.2.2.1 v.2.2.2.2.2.1 v.2.2.2.2.2.2.1 v.2.2.2.2.2.2.2.1 v.2.2.2.2.2.2.2.2.1 v.2.2.2.2.2.2.2.2.2⟩
def F3:b7 xx:=⟨[],[.d .bool],λ_=>none,some (FZ n)⟩
def F4:Hn SI:=(cd (.s (.s .z (.b (.l ⟨[(5,.v af),(13,.v af)],[],[1,11,12],[0,1],1512,[]⟩ 0 ⟨[(5,.v af)],[],[],[0,1],1512,[]⟩ .z))) .z))
theorem F5:aH 128 (F3 n) :=oA (ak CZ aB) func128 F4 n (by kernel_rfl) λ_=>by kernel_rfl
def Dh:cM xx:=⟨[.p 0],[(0,eV),(1,.l aF)],[.v af],[(0,eV),(1,.l aF)],λv=>kU n v.1 v.2.1 v.2.2.1 v.2.2.2.1 v.2.2.2.2.1 v.2.2.2.2.2.1 v.2.2.2.2.2.2.1 v.2.2.2.2.2.2.2.1 v.2.2.2.2.2.2.2.2.1 v.2.2.2.2.2.2.2.2.2⟩
def Di:b7 xx:=⟨[],[.d .bool],λ_=>none,some (Dh n)⟩
theorem Dj:aH 89 (Di n) :=oA (ak (F5 n) aB) func89 .z n (by kernel_rfl) λ_=>by kernel_rfl
def Bp:cM xx:=⟨[.p 0,.v aA,.v af],[(0,eV),(1,.l aF)],[.v .bool],[(0,eV),(1,.l aF)],λv=>jU n v.1 v.2.1 v.2.2.1 v.2.2.2.1 v.2.2.2.2.1 v.2.2.2.2.2.1 v.2.2.2.2.2.2.1 v.2.2.2.2.2.2.2.1 v.2.2.2.2.2.2.2.2.1 v.2.2.2.2.2.2.2.2.2.1 v.2.2.2.2.2.2.2.2.2.2.1 v.2.2.2.2.2.2.2.2.2.2.2⟩
def Bq:b7 xx:=⟨[],[.d .bool],λ_=>none,some (Bp n)⟩
def Br:Hn SI:=(xe (.s (.s .z (.b (.l ⟨[(9,.v af),(27,.v af)],[],[7,25,26],[0,1,1512],2280,[]⟩ 0 ⟨[(9,.v af)],[],[7],[0,1,1512],2280,[]⟩ (cd (.s (.j ⟨[(9,.v af)],[],[7,25,26,27],[0,1,1512],2344,[]⟩ .z) .z))))) .z))
theorem Bt:aH 134 (Bq n) :=oA (ak SF (ak Ba (ak CU aB))) func134 Br n (by kernel_rfl) λ_=>by kernel_rfl
def zu:cM xx:=⟨[.p 0],[(0,eV),(1,.l aF)],[.v af],[(0,eV),(1,.l aF)],λv=>jA n v.1 v.2.1 v.2.2.1 v.2.2.2.1 v.2.2.2.2.1 v.2.2.2.2.2.1 v.2.2.2.2.2.2.1 v.2.2.2.2.2.2.2.1 v.2.2.2.2.2.2.2.2.1 v.2.2.2.2.2.2.2.2.2⟩
def zw:b7 xx:=⟨[],[.d .bool],λ_=>none,some (zu n)⟩
def zx:Hn SI:=(cd (.s (.s .z (.b (.l ⟨[(3,.v af),(14,.v af)],[(0,eV),(1,.l aF)],[0,12,13],[],1512,[]⟩ 0 ⟨[(3,.v af)],[(0,eV),(1,.l aF)],[],[],1512,[]⟩ (cd (.s (.b (cd (.s (.b (.l ⟨[(6,.v af),(7,.v af)],[(0,eV),(1,.l aF)],[0,5,12,13,14],[1704],2024,[]⟩ 2 ⟨[(6,.v af)],[(0,eV),(1,.l aF)],[0,12,13,14],[],2024,[]⟩ .z)) .z))) .z))))) .z))
theorem zy:aH 90 (zw n) :=oA (ak (Bt n) aB) func90 zx n (by kernel_rfl) λ_=>by kernel_rfl
def wK:cM xx:=⟨[.v aF,.p 0],[(0,.c 1 [[.p 1]]),(1,tW),(2,.l aF)],[.v af],[(0,.c 1 [[.p 1]]),(1,tW),(2,.l aF)],λv=>kQ n v.1 v.2.1 v.2.2.1 v.2.2.2.1 v.2.2.2.2.1 v.2.2.2.2.2.1 v.2.2.2.2.2.2.1 v.2.2.2.2.2.2.2.1 v.2.2.2.2.2.2.2.2.1 v.2.2.2.2.2.2.2.2.2.1 v.2.2.2.2.2.2.2.2.2.2⟩
def wL:b7 xx:=⟨[],[.d .bool],λ_=>none,some (wK n)⟩
theorem wM:aH 135 (wL n) :=oA (ak (NT n) aB) func135 .z n (by kernel_rfl) λ_=>by kernel_rfl
def F6:cM xx:=⟨[.p 0,(.f 135 [] [.p 1])],[(0,tW),(1,.c 1 [[.p 0]]),(2,.l aF)],[.v af],[(0,tW),(1,.c 1 [[.p 0]]),(2,.l aF)],λv=>qD n v.1 v.2.1 v.2.2.1 v.2.2.2.1 v.2.2.2.2.1 v.2.2.2.2.2.1 v.2.2.2.2.2.2.1 v.2.2.2.2.2.2.2.1 v.2.2.2.2.2.2.2.2.1 v.2.2.2.2.2.2.2.2.2⟩
def F7:b7 xx:=⟨[],[.d .bool],λ_=>none,some (F6 n)⟩
def F8:Hn SI:=(cd (.s (.s .z (.b (.l ⟨[(5,.v af),(13,.v af)],[(0,tW),(1,.c 1 [[.p 0]]),(2,.l aF)],[1,11,12],[],1512,[]⟩ 0 ⟨[(5,.v af)],[(0,tW),(1,.c 1 [[.p 0]]),(2,.l aF)],[],[],1512,[]⟩ .z))) .z))
theorem F9:aH 128 (F7 n) :=oA (ak (wM n) aB) func128 F8 n (by kernel_rfl) λ_=>by kernel_rfl
def zA:cM xx:=⟨[.p 0],[(0,eV),(1,.l aF)],[.v af],[(0,eV),(1,.l aF)],λv=>jB n v.1 v.2.1 v.2.2.1 v.2.2.2.1 v.2.2.2.2.1 v.2.2.2.2.2.1 v.2.2.2.2.2.2.1 v.2.2.2.2.2.2.2.1 v.2.2.2.2.2.2.2.2.1 v.2.2.2.2.2.2.2.2.2⟩
def zB:b7 xx:=⟨[],[.d .bool],λ_=>none,some (zA n)⟩
theorem zC:aH 91 (zB n) :=oA (ak (F9 n) aB) func91 .z n (by kernel_rfl) λ_=>by kernel_rfl
def abK:b7 xx:=⟨[.d (.st SI.ld),.d (.st SI.Lot),.d cK],[.fresh gF],λa=>nK n a.1 a.2.1 a.2.2.1,none⟩
def abL:Hn SI:=(cd (.s (.j ⟨[],[(1384,.c 10 [[.v (.sl aZ),.v (.sl aS),.v (.sl bg),.v (.sl aV),.v (.sl bB),.v (.sl bq),.v (.sl aP),.v af,.v (.sl aA),.nil]])],[5,7],[1128],1512,[]⟩ .z) (.s (.s .z (.b (.l ⟨[(31,.v af)],[(1384,HE),(1960,.l aF)],[7,29,30],[1768],1961,[(6668873,aF)]⟩ 0 ⟨[],[(1384,HE),(1960,.l aF)],[7],[],1961,[]⟩ (cd (.s (.j ⟨[],[(1384,.c 10 [[.v (.sl aZ),.v (.sl aS),.v (.sl bg),.v (.sl aV),.v (.sl bB),.v (.sl bq),.v (.sl aP),.v af,.v (.sl aA),.o 2025]]),(2025,.l aF)],[7,29,30,31],[1768],2026,[]⟩ (.b (.s .z (.s (.j ⟨[(41,.v .bool)],[],[7,9,29,30,31],[1384,1768,1960,2217],2409,[]⟩ .z) .z)))) .z))))) (cd (.s (.s .z (.b (.un .z (.un .z (.un .z (.un .z (.un .z (.un .z (.un .z (.un .z (.un .z (.un .z .z)))))))))))) .z)))))
theorem abM:aH 50 (abK n) :=cq (ak (pV n) (ak (Av n) (ak iX (ak (FU n) (ak (Db n) (ak (Dg n) (ak (Bj n) (ak (Bo n) (ak (Dj n) (ak (zy n) (ak (zC n) aB))))))))))) func50 abL n
def agG:b7 xx:=⟨[.d af],[.d af,.d .bool],λa=>yJ a.1,none⟩
def agH:Hn SI:=(.s .z (.s (.s .z (.b (.s (.j ⟨[(5,.v .bool)],[],[0,4],[],1192,[]⟩ .z) (.s .z (.s (.j ⟨[(10,.v .bool)],[],[0,4],[],1192,[]⟩ .z) .z))))) .z))
theorem agI:aH 158 agG :=cq aB func158 agH 0
def aes:Hn SI:=(cd (.s (.s (.j ⟨[(28,.v .bool)],[],[1,2],[1000],1640,[]⟩ .z) .z) (.s .z (.s (.s .z (.b (.l ⟨[(7,.v af),(32,.v af)],[],[1,30,31],[],1960,[]⟩ 0 ⟨[(7,.v af)],[],[],[],1960,[]⟩ .z))) .z))))
theorem abN(rc:(bR)->(Int)->Option Int)(hr:aH 120 (Ep rc)):aH 120 (Ep (Ab n rc)) :=cq (ak agI (ak hr aB)) func120 aes n
theorem NU(n:Nat):∀m,aH 120 (Ep (rW n m))
 | 0=>xF (pz func120 (by kernel_rfl:Tryz.f120.body=some (Tryz.f120.body.getD .skip)) (by kernel_rfl)) (λ _ _ h=>(by cases h)) rfl
 |m+1=>abN n _ (NU n m)
def aeu:b7 xx:=⟨[.d (.st SI.Expr),.d af],[.d af],λa=>Po n a.1 a.2.1,none⟩
theorem aev:aH 120 (aeu n):=NU n n
def agJ:b7 xx:=⟨[.d (.st SI.Expr)],[.d .bool],λa=>HV n a.1,none⟩
theorem Xo:aH 80 (agJ n) :=cq (ak (aev n) aB) func80 .z n
def NV:b7 xx:=⟨[],[.fresh .str],λ_=>wI,none⟩
theorem NW:aH 159 NV :=cq aB func159 .z 0
mutual
theorem amC:∀g:bR,(toE g).wt<=4000000->sk (toE g) (qV g)
 |⟨op,n,s,key,args⟩,h=>by simp only[toE,ET.wt]at h;have:=ET.qS (HY args);simp only[toE,qV,sk];exact⟨n,key,_,rfl,by unfold maxLen;omega,by omega,Xp args (by omega)⟩
theorem Xp:∀l:List bR,ET.te (HY l)<=4000000->oa (HY l) (sS l)
 |[],_=>by simp only[HY,sS,oa]
 |x::xs,h=>by simp only[HY,ET.te]at h;simp only[HY,sS,oa];exact⟨_,_,rfl,amC x (by omega),Xp xs (by omega)⟩
end
def NY:b7 xx:=⟨[],[.d .bool],λ_=>none,some ⟨[.v (.sl aZ)],[],[.p 1000],[(1000,rx)],λv=>lH v⟩⟩
theorem aew:∀l:List gI,rm (l.map toD)<=4000000->oc (l.map toD) (l.map Eh)
 |[],_=>by simp only[List.map_nil,oc]
 |x::xs,h=>by simp only[bH,rm,List.foldr_cons,toD,ET.wt]at h;have:=ET.qS (HY x.ek);simp only[bH,oc];refine⟨_,_,rfl,⟨_,_,_,_,_,rfl,by simp only[toD];unfold maxLen;omega,?_⟩,aew xs (by simp only[rm];omega)⟩;simp only[toD,sk];exact⟨_,_,_,rfl,by unfold maxLen;omega,by omega,by rw[<- sU];exact Xp _ (by omega)⟩
theorem NZ:aH 160 NY:=by
 have hcall:eD Tryz.prog 160:=⟨_,func160,by kernel_rfl,by kernel_rfl⟩;refine QQ hcall ?_;intro v r hr;have h':lH v=some r:=hr;unfold lH at h';cases hb:Nat.ble (rm (List.map toD v)) 4000000 with
 |false=>rw[hb]at h';cases h'
 |true=>
  rw[hb]at h';have h'':some (v,oG (List.map toD v))=some r:=h';injection h'' with e;subst e;have hw:=Nat.le_of_ble_eq_true hb;have hlen:=Tx (List.map toD v);have hn:∀d∈List.map toD v,d.2.names.length<=4000000:=λd hd=>by have h1:=Ty hd;have h2:=ET.oY d.2;omega
  exact aaZ (TL:=43) (TG:=267) (TI:=3) hcall (aew v hw) λsv w hS=>alZ (List.map toD v) (by omega) (λ d hd=>Nat.le_trans (hn d hd) (by omega))
   (λ d hd v0 v1 v2 v3 v4 w hE=>callsIn_wide.1 (akA 0 d.2 v0 v1 v2 v3 v4 w hE (Nat.le_trans (hn d hd) (by omega)))) sv w hS
def SG:b7 xx:=⟨[.d (.sl af),.d af],[.fresh af],λa=>qL a.1 a.2.1,none⟩
theorem SH:aH 248 SG:=by
 have hcall:eD Tryz.prog 248:=⟨_,func248,by kernel_rfl,by kernel_rfl⟩;refine xF hcall (λ a r h=>?_) rfl;obtain⟨l,c,⟨⟩⟩:=a;have h':qL l c=some r:=h
 match l,h' with
 |[x],h'=>
  simp only[qL]at h';cases hb:(decide (0<=c)&&decide (c<=1000000000000))with
  |false=>rw[hb]at h';cases h'
  |true=>
   rw[hb]at h';have h'':some (List.replicate c.toNat x)=some r:=h';injection h'' with e;subst e;simp only[bC,bF]at hb;obtain⟨h1,h2⟩:=hb;obtain⟨k,hk⟩:=Int.eq_ofNat_of_zero_le h1;subst hk;exact afG (E:=3) (c:=k) hcall λa cap w hx=>aiR x k (Int.ofNat_le.1 (by simpa using h2)) a cap w hx
def Xq:b7 xx:=⟨[.d (.sl af),.d af],[.d af],λa=>Er n a.1 a.2.1,none⟩
def Xr:Hn SI:=(.s .z (.s (.s .z (.b (.lx ⟨[(8,.v af)],[],[0,1,7],[],1256,[]⟩ 0 ⟨[],[],[],[],1256,[]⟩ .z))) .z))
theorem Xt:aH 264 (Xq n) :=cq aB func264 Xr n
def N7:b7 xx:=⟨[.d (.sl af),.d af],[.d .bool],λa=>q8 n a.1 a.2.1,none⟩
theorem N8:aH 249 (N7 n) :=cq (ak (Xt n) aB) func249 .z n
def Bu:b7 xx:=⟨[.ref (.st SI.graph),.d af],[.fresh af],λa=>jW n a.1 a.2.1,none⟩
def Bv:Hn SI:=(xe (.s (.b (.l ⟨[(6,.od 2024)],[(1448,.l af),(2024,.l af)],[0,5],[],2025,[]⟩ 0 ⟨[],[(1448,.l af)],[5],[],2024,[]⟩ (.s .z (.b (gx (.b (.l ⟨[(6,.od 3049),(35,.v af)],[(1448,.l af),(3049,.l af)],[0,5,7,33,34],[],3050,[]⟩ 2 ⟨[(6,.od 3049)],[(1448,.l af),(3049,.l af)],[0,5],[],3050,[]⟩ (cd (.s (.j ⟨[(6,.od 3114)],[(1448,.l af),(3114,.l af)],[0,5,7,33,34,35],[],3115,[]⟩ (.b (.s .z (.s (.j ⟨[(49,.v .bool)],[],[0,5,6,7,8,33,34,35],[1448,3049],3434,[]⟩ .z) .z)))) .z))))))))) .z))
theorem Bw:aH 230 (Bu n) :=cq (ak SH (ak (N8 n) aB)) func230 Bv n
def Lf:b7 xx:=⟨[.d .str],[.d .bool],λa=>cmp_isNaN_string a.1,none⟩
theorem Lg:aH 250 Lf :=cq aB func250 .z 0
def IG:b7 xx:=⟨[.d .str,.d .str],[.d af],λa=>nL a.1 a.2.1,none⟩
theorem II:aH 231 IG :=cq (ak Lg aB) func231 .z 0
def JI:b7 xx:=⟨[.d (.sl .str),.d (.sl .str)],[.d af],λa=>lZ n a.1 a.2.1,none⟩
def JJ:Hn SI:=(.s .z (.s (.s .z (.b (.lx ⟨[(11,.v af)],[],[0,1,9,10],[],1256,[]⟩ 0 ⟨[],[],[0,1],[],1256,[]⟩ .z))) .z))
theorem JK:aH 191 (JI n) :=cq (ak II aB) func191 JJ n
end
end Go.Proofs
