import Derived.Test.YtknmfellccjagaaGreatS2
namespace Go.Proofs
open Go.Gb Go.RowKit
abbrev fy:OP SI:=.c 10 [[.v (.sl bE),.v (.sl aW),.v (.sl bH),.v (.sl aZ),.v (.sl bJ),.v (.sl bI),.v (.sl aS),.v af,.v (.sl aA),.o 1]]
abbrev rI:OP SI:=.c 1 [[.o 1]]
abbrev sx:OP SI:=.c 2 [[.v (.sl bE),(.v (.sl (.sl af)))]]
abbrev vi:OP SI:=.c 10 [[.v (.sl bE),.v (.sl aW),.v (.sl bH),.v (.sl aZ),.v (.sl bJ),.v (.sl bI),.v (.sl aS),.v af,.v (.sl aA),.o 2]]
abbrev wy:OP SI:=.c 2 [[.v af,.v af]]
abbrev zc:OP SI:=.c 1 [[.o 1384]]
abbrev C4:OP SI:=.c 4 [[.v af,.v af,.v af,.v af]]
abbrev Jx:OP SI:=.c 10 [[.v (.sl bE),.v (.sl aW),.v (.sl bH),.v (.sl aZ),.v (.sl bJ),.v (.sl bI),.v (.sl aS),.v af,.v (.sl aA),.o 1960]]
abbrev cj(a:Hn SI):Hn SI:=.s .z (.s .z a)
abbrev ik(a:Hn SI):Hn SI:=.s .z (.s .z (.s .z a))
abbrev wA(a:Hn SI):Hn SI:=.s .z (.s .z (.s .z (.s .z a)))
abbrev X2(a:Hn SI):Hn SI:=.s .z (.s .z (.s .z (.s .z (.s .z a))))
abbrev X1(a:Hn SI):Hn SI:=.s .z (.s .z (.s .z (.s .z (.s .z (.s .z a)))))
abbrev XX(a:Hn SI):Hn SI:=.s .z (.s .z (.s .z (.s .z (.s .z (.s .z (.s .z a))))))
open Tryz
noncomputable section
variable (n:Nat)
def agC:ci xx:=⟨[.d .str,.d af],[.d aZ],λa=>abJ a.1 a.2.1,none⟩
theorem agD:aH 35 agC :=cq aC func35 .z 0
def adR:ci xx:=⟨[.d af],[.d (.st SI.pg),.d dm],λa=>zF a.1,none⟩
theorem adS:aH 12 adR :=cq (ak agD aC) func12 .z 0
def UG:ci xx:=⟨[.d (.sl aA)],[.fresh aA],λa=>BR a.1,none⟩
theorem UH:aH 172 UG :=cq aC func172 .z 0
def Y5:ci xx:=⟨[.d (.sl af)],[.fresh af],λa=>uG a.1,none⟩
theorem JL:aH 69 Y5 :=cq aC func69 .z 0
def aiJ:ci xx:=⟨[.d (.st SI.Lot)],[.d (.st SI.Lot)],λa=>Oh a.1,none⟩
theorem aiK:aH 119 aiJ :=cq (ak UH (ak JL aC)) func119 .z 0
def alL:ci xx:=⟨[.d (.sl (.st SI.Lot)),.d af],[.d (.st SI.Lot),.d .bool],λa=>Oi n a.1 a.2.1,none⟩
def alM:Hn SI:=(.s .z (.s (.s .z (.b (.lx ⟨[(10,.v af)],[],[1,4,8,9],[1000],1320,[]⟩ 0 ⟨[],[],[4],[1000],1320,[]⟩ .z))) .z))
theorem alN:aH 87 (alL n) :=cq (ak aiK aC) func87 alM n
def Pn:ci xx:=⟨[.d dm,.d af,.d af],[.fresh aF],λa=>lY n a.1 a.2.1 a.2.2.1,none⟩
def Po:Hn SI:=(cj (.s (.s .z (.b (.l ⟨[(7,.o 1448),(13,.v af)],[(1448,.l aF)],[1,2,11,12],[],1449,[(7,aF)]⟩ 0 ⟨[(7,.o 1448)],[(1448,.l aF)],[],[],1449,[]⟩ (cj (.s (.j ⟨[(7,.o 1513)],[(1513,.l aF)],[1,2,11,12,13],[],1514,[]⟩ (.b (.s .z (.s (.j ⟨[(25,.v .bool)],[],[1,2,7,9,11,12,13],[1448,1705],1897,[]⟩ .z) .z)))) .z))))) .z))
theorem u7:aH 20 (Pn n) :=cq aC func20 Po n
def aat:ci xx:=⟨[.d dm],[.fresh aF],λa=>xu n a.1,none⟩
theorem LK:aH 22 (aat n) :=cq (ak (u7 n) aC) func22 .z n
def alO:ci xx:=⟨[.d aA],[.d .bool],λa=>nJ a.1,none⟩
theorem pQ:aH 46 alO :=cq aC func46 .z 0
def GH:ci xx:=⟨[.d aF],[.d .bool],λa=>fV a.1,none⟩
def GI:Hn SI:=(cj (.s (.s (.j ⟨[(26,.v .bool)],[],[1],[1000],1384,[]⟩ .z) .z) (.s (.s (.j ⟨[(34,.v .bool)],[],[1],[1000],1384,[]⟩ .z) .z) .z)))
theorem jl:aH 23 GH :=cq (ak pQ aC) func23 GI 0
def agE:ci xx:=⟨[.d aA],[.d aA,.d .bool],λa=>zk a.1,none⟩
theorem Ug:aH 45 agE :=cq (ak pQ aC) func45 .z 0
def aau:ci xx:=⟨[.d aA,.d aA],[.d aA,.d .bool],λa=>tV a.1 a.2.1,none⟩
def aav:Hn SI:=(.s .z (.s (.s (.j ⟨[(13,.v .bool)],[],[2,3,4],[1000,1064,1128],1256,[]⟩ .z) .z) .z))
theorem Cf:aH 52 aau :=cq (ak pQ (ak Ug aC)) func52 aav 0
def Y6:ci xx:=⟨[.d (.st SI.wc),.d (.st SI.wc)],[.d .bool],λa=>uH a.1 a.2.1,none⟩
theorem Y7:aH 26 Y6 :=cq (ak Cf aC) func26 .z 0
def Pp:ci xx:=⟨[.d aF,.ref aF],[.d .bool],λa=>iy a.1 a.2.1,none⟩
theorem Pq:aH 25 Pp :=cq (ak Y7 aC) func25 .z 0
def GJ:ci xx:=⟨[.d (.sl aF),.d7 [aF] .bool],[.d af],λa=>rE n a.1 a.2.1,none⟩
def GK:Hn SI:=(.s .z (.s (.s .z (.b (.lx ⟨[(8,.v af)],[],[0,1,7],[],1256,[]⟩ 0 ⟨[],[],[],[],1256,[]⟩ .z))) .z))
theorem GL:aH 51 (GJ n) :=cq aC func51 GK n
def Cg:ci xx:=⟨[.d (.sl aF),.d7 [aF] .bool],[.d .bool],λa=>gP n a.1 a.2.1,none⟩
theorem sH:aH 24 (Cg n) :=cq (ak (GL n) aC) func24 .z n
def adT:ci xx:=⟨[.d (.int .u8)],[.d .bool],λa=>Fh a.1,none⟩
theorem Ps:aH 79 adT :=cq aC func79 .z 0
def aiL:ci xx:=⟨[.d .str,.d7 [.int .u8] .bool],[.d af],λa=>Oj n a.1 a.2.1,none⟩
def aiM:Hn SI:=(cj (.s (.b (.l ⟨[(5,.v af)],[],[0,1],[],1128,[]⟩ 0 ⟨[(5,.v af)],[],[],[],1128,[]⟩ (.s (.s (.j ⟨[(16,.v .bool)],[],[0,1,5],[],1128,[]⟩ .z) .z) .z))) .z))
theorem aiN:aH 80 (aiL n) :=cq aC func80 aiM n
def agF:ci xx:=⟨[.d (.int .u8)],[.d .bool],λa=>Q7 a.1,none⟩
theorem agG:aH 82 agF :=cq aC func82 .z 0
def aaw:ci xx:=⟨[.d (.int .u8)],[.d .bool],λa=>Be a.1,none⟩
theorem aax:aH 81 aaw :=cq (ak Ps (ak agG aC)) func81 .z 0
def aiO:ci xx:=⟨[.d .str],[.d .bool],λa=>Ol n a.1,none⟩
def aiP:Hn SI:=(.s .z (.s (.s (.j ⟨[(15,.v .bool)],[],[0],[],1064,[]⟩ .z) .z) .z))
theorem aiQ:aH 53 (aiO n) :=cq (ak Ps (ak (aiN n) (ak aax aC))) func53 aiP n
def MH:ci xx:=⟨[.d .str,.d .str],[.d .bool],λa=>strings_Contains a.1 a.2.1,none⟩
theorem MI:aH 54 MH:=by
 have hcall:eZ Tryz.prog 54:=⟨_,func54,by kernel_rfl,by kernel_rfl⟩;refine At hcall (λ a r h=>?_) rfl;obtain⟨s,b,⟨⟩⟩:=a;have h':strings_Contains s b=some r:=h;unfold strings_Contains at h';cases hb:Nat.ble s.size 4000000 with
 |false=>rw[hb]at h';cases h'
 |true=>
  rw[hb]at h';have h'':some (Lib.contains s.data.toList b.data.toList)=some r:=h';injection h'' with e;subst e;have hw:=Nat.le_of_ble_eq_true hb;exact adg (g:=0) rfl hcall λm w hm=>afB s b m w (by omega) hm
def aay:ci xx:=⟨[.d .str],[.d .bool],λa=>xw n a.1,none⟩
theorem aaz:aH 27 (aay n) :=cq (ak (aiQ n) (ak MI aC)) func27 .z n
def Y8:ci xx:=⟨[.d dm],[.d .bool],λa=>eY n a.1,none⟩
def Y9:Hn SI:=(cj (.s (.s (.j ⟨[(42,.v .bool)],[],[1,3],[1000,1192],1320,[]⟩ .z) .z) (.s (.s .z (.b (.lx ⟨[(45,.v af)],[],[1,3,43,44],[1000,1192],1512,[]⟩ 0 ⟨[],[],[1],[1000],1512,[]⟩ (cj (.s (.b (.s .z (.s (.j ⟨[(59,.v .bool)],[],[1,3,43,44,45],[1000,1192],1960,[]⟩ .z) .z))) .z))))) (.s (.s .z (.b (.lx ⟨[(64,.v af)],[],[62,63],[],1768,[]⟩ 2 ⟨[],[],[],[],1768,[]⟩ (cj (.s (.b (cj (.s (.s .z (.b (.lx ⟨[(72,.v af)],[(2088,.m .str .bool)],[7,8,62,63,64,70,71],[1960],2472,[]⟩ 4 ⟨[],[],[7,62,63,64],[1960],2472,[]⟩ (cj (.s (.b (.s .z (.s (.s (.j ⟨[(95,.v .bool)],[],[7,8,10,62,63,64,70,71,72],[1960,2088,2664],2792,[]⟩ .z) .z) .z))) .z))))) .z))) .z))))) .z))))
theorem vg:aH 8 (Y8 n) :=cq (ak (LK n) (ak jl (ak (sH n) (ak Pq (ak (aaz n) aC))))) func8 Y9 n
def Za:ci xx:=⟨[.nil,.d af],[.fresh aA],λa=>Om a.1 a.2.1,none⟩
theorem Zb:aH 162 Za :=cq aC func162 .z 0
def RL:ci xx:=⟨[.d (.sl (.sl aA))],[.fresh aA],λa=>zG n a.1,none⟩
def RN:Hn SI:=(cj (.s (.s .z (.b (.l ⟨[(3,.v af),(11,.v af)],[],[0,9,10],[],1320,[]⟩ 0 ⟨[(3,.v af)],[],[0],[],1320,[]⟩ .z))) (.s .z (.s (.s .z (.b (.l ⟨[(6,.o 1704),(27,.v af)],[(1704,.l aA)],[25,26],[],1705,[]⟩ 2 ⟨[(6,.o 1704)],[(1704,.l aA)],[],[],1705,[]⟩ .z))) .z))))
theorem RO:aH 111 (RL n) :=cq (ak Zb aC) func111 RN n
def aaA:ci xx:=⟨[.mut af],[.mu af],λa=>og n a.1,none⟩
theorem sI:aH 73 (aaA n):=by have hcall:eZ Tryz.prog 73:=⟨_,func73,by kernel_rfl,by kernel_rfl⟩;refine At hcall (λ a r h=>?_) rfl;obtain⟨l,⟨⟩⟩:=a;exact ak5 Tryz.so73 rfl hcall h
def RP:ci xx:=⟨[.mut af],[.whole 0,.mu af],λa=>nP n a.1,none⟩
def RQ:Hn SI:=(cj (.s (.s .z (.b (.lx ⟨[(3,.v af)],[],[0],[0],1320,[]⟩ 0 ⟨[],[],[0],[0],1320,[]⟩ (.s .z (.s (.b (.s .z (.s (.s .z (.s (.s .z (.b (.l ⟨[(3,.v af),(5,.v af)],[(0,.l af)],[0,4],[],2536,[]⟩ 2 ⟨[(3,.v af)],[(0,.l af)],[0],[],2536,[]⟩ (.s .z (.s (.j ⟨[(3,.v af)],[(0,.l af)],[0,4,5],[],2792,[]⟩ .z) .z))))) .z)) .z))) .z))))) .z))
theorem rq:aH 74 (RP n) :=cq aC func74 RQ n
def MJ:ci xx:=⟨[.mut (.st SI.span),.d7 [.st SI.span,.st SI.span] af],[.mu (.st SI.span)],λa=>vV n a.1 a.2.1,none⟩
theorem MK:aH 163 (MJ n):=by have hcall:eZ Tryz.prog 163:=⟨_,func163,by kernel_rfl,by kernel_rfl⟩;refine At hcall (λ a r h=>?_) rfl;obtain⟨l,φ,⟨⟩⟩:=a;refine abH (X:=xx) (i:=SI.span) (hI:=(inferInstance:Inhabited aJ)) Tryz.so163 rfl hcall Tryz.underlying197 (by kernel_rfl) (λ x t ht=>?_) h;cases x;have ht:t∈[_,_]:=ht;simp only[aL,oh,or_false]at ht;rcases ht with rfl|rfl<;>exact⟨_,rfl,trivial⟩
def UI:ci xx:=⟨[.d af],[.d .bool],λa=>cmp_isNaN_int a.1,none⟩
theorem UJ:aH 71 UI :=cq aC func71 .z 0
def Pv:ci xx:=⟨[.d af,.d af],[.d af],λa=>cmp_Compare_int a.1 a.2.1,none⟩
theorem mU:aH 41 Pv :=cq (ak UJ aC) func41 .z 0
def Zc:ci xx:=⟨[.d (.st SI.span),.d (.st SI.span)],[.d af],λa=>yI a.1 a.2.1,none⟩
theorem Zd:aH 164 Zc :=cq (ak mU aC) func164 .z 0
def agH:ci xx:=⟨[.d (.sl aA),.d af],[.fresh (.st SI.span)],λa=>Kq n a.1 a.2.1,none⟩
def agI:Hn SI:=(cj (.s (.s .z (.b (.l ⟨[(5,.o 1320),(14,.v af)],[(1320,.l (.st SI.span))],[1,12,13],[],1321,[(5,.st SI.span)]⟩ 0 ⟨[(5,.o 1320)],[(1320,.l (.st SI.span))],[],[],1321,[]⟩ (cj (.s (.j ⟨[(5,.o 1385)],[(1385,.l (.st SI.span))],[1,12,13,14],[],1386,[]⟩ (.b (.s .z (.s (.j ⟨[(27,.v .bool)],[],[1,5,7,12,13,14],[1320,1513],1641,[]⟩ .z) .z)))) .z))))) (cj (.s (.s .z (.b (.l ⟨[(8,.o 1705),(41,.v af)],[(1705,.l (.st SI.span))],[39,40],[1320],1706,[(8,.st SI.span)]⟩ 2 ⟨[(8,.o 1705)],[(1705,.l (.st SI.span))],[],[],1706,[]⟩ (cj (.s (.j ⟨[(8,.o 1770)],[(1770,.l (.st SI.span))],[39,40,41],[1320],1771,[]⟩ (.b (cj (.s (.j ⟨[(59,.v .bool)],[],[8,10,11,39,40,41],[1320,1705,1898],2218,[]⟩ .z) .z)))) .z))))) .z))))
theorem agJ:aH 112 (agH n) :=cq (ak (MK n) (ak Zd aC)) func112 agI n
def agK:ci xx:=⟨[.d (.sl (.sl aA))],[.fresh (.st SI.strip)],λa=>pJ n a.1,none⟩
def agL:Hn SI:=(ik (.s (.s .z (.b (.l ⟨[(4,.o 1512),(13,.v af)],[(1512,.l af)],[3,11,12],[1128],1513,[(4,af)]⟩ 0 ⟨[(4,.o 1512)],[(1512,.l af)],[3],[1128],1513,[]⟩ .z))) (ik (.s (.s .z (.b (.l ⟨[(7,.o 1961),(8,.v af)],[(1961,.l (.st SI.strip))],[3,4],[1128,1512],1962,[(7,.st SI.strip)]⟩ 2 ⟨[(7,.o 1961)],[(1961,.l (.st SI.strip))],[],[],1962,[]⟩ .z))) .z))))
theorem Uh:aH 77 (agK n) :=cq (ak (RO n) (ak (sI n) (ak (rq n) (ak (agJ n) aC)))) func77 agL n
def UK:ci xx:=⟨[.d (.sl (.st SI.span)),.d (.sl (.st SI.span))],[.d .bool],λa=>wI n a.1 a.2.1,none⟩
def UL:Hn SI:=(cj (.s (.s .z (.b (.lx ⟨[(13,.v af)],[],[0,1,12],[],1576,[]⟩ 0 ⟨[],[],[],[],1576,[]⟩ .z))) .z))
theorem UM:aH 110 (UK n) :=cq aC func110 UL n
def aiR:ci xx:=⟨[.d (.sl (.st SI.strip))],[.fresh aA],λa=>Jd n a.1,none⟩
def aiS:Hn SI:=(cj (.s (.s .z (.b (.l ⟨[(3,.o 1192),(4,.v af)],[(1192,.l aA)],[0],[],1193,[(3,aA)]⟩ 0 ⟨[(3,.o 1192)],[(1192,.l aA)],[],[],1193,[]⟩ (.s .z (.b (.s .z (.s (.b (.l ⟨[(5,.v af)],[],[0,3,4],[1192],1641,[]⟩ 2 ⟨[(5,.v af)],[],[0,3,4],[1192],1641,[]⟩ (.s (.s (.j ⟨[(30,.v .bool)],[],[0,3,4,5],[1192],1641,[]⟩ .z) .z) .z))) (.s (.s .z (.b (.l ⟨[(3,.o 2089),(39,.v af)],[(2089,.l aA)],[0,4,5,37,38],[],2090,[]⟩ 4 ⟨[(3,.o 2089)],[(2089,.l aA)],[0,5],[],2090,[]⟩ .z))) .z)))))))) .z))
theorem Ze:aH 76 (aiR n) :=cq (ak (UM n) aC) func76 aiS n
def adU:ci xx:=⟨[.d (.sl aA)],[.d (.sl aA),.d af],λa=>zH a.1,none⟩
theorem Pw:aH 75 adU :=cq aC func75 .z 0
def ape:ci xx:=⟨[.d (.sl aA)],[.d (.sl aA),.d af],λa=>Is n a.1,none⟩
def apf:Hn SI:=(.s .z (.s (.s .z (.b (.lx ⟨[(8,.v af)],[],[0,6,7],[],1320,[]⟩ 0 ⟨[],[],[0],[],1320,[]⟩ .z))) .z))
theorem akn:aH 48 (ape n) :=cq (ak pQ (ak (Uh n) (ak (Ze n) (ak Pw aC)))) func48 apf n
def UN:ci xx:=⟨[.d (.sl aA),.d (.sl aA)],[.d .bool],λa=>pK n a.1 a.2.1,none⟩
def UO:Hn SI:=(cj (.s (.s .z (.b (.lx ⟨[(13,.v af)],[],[0,1,12],[],1576,[]⟩ 0 ⟨[],[],[],[],1576,[]⟩ .z))) .z))
theorem Gm:aH 113 (UN n) :=cq aC func113 UO n
def aiT:ci xx:=⟨[.d (.sl aA)],[.d .bool],λa=>oV n a.1,none⟩
theorem qK:aH 84 (aiT n) :=cq (ak (akn n) (ak (Gm n) aC)) func84 .z n
def vG:ci xx:=⟨[.d (.sl (.st SI.strip)),.d af,.d7 [.st SI.strip,af] af],[.d af,.d .bool],λa=>jJ n a.1 a.2.1 a.2.2.1,none⟩
def vH:Hn SI:=(ik (.s (.b (.l ⟨[(9,.v af),(10,.v af)],[],[0,1,2,8],[],1512,[]⟩ 0 ⟨[(9,.v af)],[],[0,1,2,8],[],1512,[]⟩ .z)) .z))
theorem vI:aH 117 (vG n) :=cq aC func117 vH n
def aiU:ci xx:=⟨[.d (.st SI.strip),.d af],[.d af],λa=>xC a.1 a.2.1,none⟩
theorem aiV:aH 118 aiU :=cq aC func118 .z 0
def apg:ci xx:=⟨[.d (.sl (.st SI.strip)),.d af],[.d (.sl (.st SI.span))],λa=>Yh n a.1 a.2.1,none⟩
def aph:Hn SI:=(cj (.s (.s (.j ⟨[(25,.v .bool)],[],[0,5],[],1576,[]⟩ .z) .z) .z))
theorem apj:aH 86 (apg n) :=cq (ak (vI n) (ak aiV aC)) func86 aph n
def Zf:ci xx:=⟨[.nil,.d af],[.fresh (.st SI.span)],λa=>Ow a.1 a.2.1,none⟩
theorem Zg:aH 169 Zf :=cq aC func169 .z 0
def RS:ci xx:=⟨[.d (.sl (.sl (.st SI.span)))],[.fresh (.st SI.span)],λa=>zI n a.1,none⟩
def RU:Hn SI:=(cj (.s (.s .z (.b (.l ⟨[(3,.v af),(11,.v af)],[],[0,9,10],[],1320,[]⟩ 0 ⟨[(3,.v af)],[],[0],[],1320,[]⟩ .z))) (.s .z (.s (.s .z (.b (.l ⟨[(6,.o 1704),(27,.v af)],[(1704,.l (.st SI.span))],[25,26],[],1705,[]⟩ 2 ⟨[(6,.o 1704)],[(1704,.l (.st SI.span))],[],[],1705,[]⟩ .z))) .z))))
theorem RX:aH 115 (RS n) :=cq (ak Zg aC) func115 RU n
def wC:ci xx:=⟨[.d (.sl (.st SI.span)),.d af,.d7 [.st SI.span,af] af],[.d af,.d .bool],λa=>jU n a.1 a.2.1 a.2.2.1,none⟩
def wD:Hn SI:=(ik (.s (.b (.l ⟨[(9,.v af),(10,.v af)],[],[0,1,2,8],[],1512,[]⟩ 0 ⟨[(9,.v af)],[],[0,1,2,8],[],1512,[]⟩ .z)) .z))
theorem wE:aH 170 (wC n) :=cq aC func170 wD n
def Zh:ci xx:=⟨[.d (.st SI.span),.d af],[.d af],λa=>mq a.1 a.2.1,none⟩
theorem Zi:aH 171 Zh :=cq aC func171 .z 0
def agM:ci xx:=⟨[.d (.sl (.st SI.span)),.d af],[.d .bool],λa=>Dx n a.1 a.2.1,none⟩
theorem agN:aH 116 (agM n) :=cq (ak (wE n) (ak Zi aC)) func116 .z n
def aiW:ci xx:=⟨[.d (.sl (.st SI.span)),.d (.sl (.st SI.span)),.d7 [.bool,.bool] .bool],[.fresh (.st SI.span)],λa=>Je n a.1 a.2.1 a.2.2.1,none⟩
def aiX:Hn SI:=(cj (.s (.s .z (.b (.l ⟨[(7,.o 1512),(19,.v af)],[(1512,.l af)],[0,1,2,17,18],[1320],1513,[(7,af)]⟩ 0 ⟨[(7,.o 1512)],[(1512,.l af)],[0,1,2],[],1513,[]⟩ .z))) (ik (.s (.s .z (.b (.l ⟨[(10,.o 1961),(11,.v af)],[(1961,.l (.st SI.span))],[0,1,2,7],[1512],1962,[(10,.st SI.span)]⟩ 2 ⟨[(10,.o 1961)],[(1961,.l (.st SI.span))],[],[],1962,[]⟩ (.s .z (.s (.j ⟨[(10,.o 2218)],[(2218,.l (.st SI.span))],[0,1,2,7,11],[1512],2219,[]⟩ (.b (ik (.s (.j ⟨[(68,.v .bool)],[],[0,1,2,7,10,11,12,13],[1512,1961],3370,[]⟩ .z) .z)))) .z))))) .z))))
theorem aiY:aH 85 (aiW n) :=cq (ak (RX n) (ak (sI n) (ak (rq n) (ak (agN n) aC)))) func85 aiX n
def adV:ci xx:=⟨[.d (.sl aA),.d (.sl aA),.d7 [.bool,.bool] .bool],[.d (.sl aA),.d af],λa=>zJ n a.1 a.2.1 a.2.2.1,none⟩
def adW:Hn SI:=(.s .z (.s (.s (.j ⟨[(20,.v .bool)],[],[0,1,2],[],1128,[]⟩ .z) .z) (.s (.f [6,7]) (.s .z (.s (.s .z (.b (.l ⟨[(33,.v af)],[(1832,.l (.st SI.strip))],[2,8,9,10,31,32],[],2152,[]⟩ 0 ⟨[],[(1832,.l (.st SI.strip))],[10],[],2152,[]⟩ .z))) .z)))))
theorem Px:aH 57 (adV n) :=cq (ak (qK n) (ak (Uh n) (ak (apj n) (ak (aiY n) (ak (Ze n) (ak Pw aC)))))) func57 adW n
def Zj:ci xx:=⟨[.d .bool,.d .bool],[.d .bool],λa=>yJ a.1 a.2.1,none⟩
theorem Zk:aH 173 Zj :=cq aC func173 .z 0
def agO:ci xx:=⟨[.d (.sl aA),.d (.sl aA)],[.d (.sl aA),.d af],λa=>Kr n a.1 a.2.1,none⟩
theorem agP:aH 120 (agO n) :=cq (ak (Px n) (ak Zk aC)) func120 .z n
def anZ:ci xx:=⟨[.d aA],[.d af],λa=>uM a.1,none⟩
theorem D5:aH 19 anZ :=cq (ak Ug aC) func19 .z 0
def alP:ci xx:=⟨[.d (.sl aA)],[.d af],λa=>Oz n a.1,none⟩
def alQ:Hn SI:=(ik (.s (.s .z (.b (.l ⟨[(3,.v af),(11,.v af)],[],[9,10],[],1512,[]⟩ 0 ⟨[(3,.v af)],[],[],[],1512,[]⟩ .z))) .z))
theorem ace:aH 121 (alP n) :=cq (ak (qK n) (ak D5 aC)) func121 alQ n
def ML:ci xx:=⟨[.d bJ,.ref fU],[.d .bool],λa=>vW a.1 a.2.1,none⟩
theorem MN:aH 123 ML :=cq aC func123 .z 0
def MO:ci xx:=⟨[.d (.sl bJ),.d7 [bJ] .bool],[.d af],λa=>vX n a.1 a.2.1,none⟩
def MP:Hn SI:=(.s .z (.s (.s .z (.b (.lx ⟨[(8,.v af)],[],[0,1,7],[],1256,[]⟩ 0 ⟨[],[],[],[],1256,[]⟩ .z))) .z))
theorem MQ:aH 174 (MO n) :=cq aC func174 MP n
def GN:ci xx:=⟨[.d (.sl bJ),.d7 [bJ] .bool],[.d .bool],λa=>nK n a.1 a.2.1,none⟩
theorem GQ:aH 122 (GN n) :=cq (ak (MQ n) aC) func122 .z n
def UQ:ci xx:=⟨[.d (.st SI.lP),.d (.st SI.Lot),.d dm],[.d .bool],λa=>kS n a.1 a.2.1 a.2.2.1,none⟩
def UR:Hn SI:=(.s .z (.s (.s (.j ⟨[(30,.v .bool)],[],[3,4,5],[1000,1064,1128],1256,[]⟩ .z) .z) (.s (.s .z (.b (.lx ⟨[(34,.v af)],[],[3,4,5,32,33],[1000,1064,1128,1320],1512,[]⟩ 0 ⟨[],[],[3,5],[1000,1128],1512,[]⟩ (cj (.s (.b (cj (.s (.j ⟨[(58,.v .bool)],[],[3,4,5,32,33,34],[1000,1064,1128,1320],2600,[]⟩ .z) .z))) .z))))) (.s (.s .z (.b (.lx ⟨[(63,.v af)],[],[3,61,62],[1000],1768,[]⟩ 2 ⟨[],[],[],[],1768,[]⟩ (cj (.s (.b (cj (.b (.lx ⟨[(70,.v af)],[],[3,61,62,63,68,69],[1000],2344,[]⟩ 4 ⟨[],[],[3,61,62,63],[1000],2344,[]⟩ .z)))) .z))))) .z))))
theorem UU:aH 88 (UQ n) :=cq (ak (vg n) (ak (qK n) (ak (LK n) (ak (agP n) (ak (ace n) (ak D5 (ak (GQ n) (ak MN aC)))))))) func88 UR n
def RY:ci xx:=⟨[.d dm],[.fresh aF],λa=>uN n a.1,none⟩
def RZ:Hn SI:=(cj (.s (.s .z (.b (.l ⟨[(3,.o 1448),(9,.v af)],[(1448,.l aF)],[7,8],[],1449,[(3,aF)]⟩ 0 ⟨[(3,.o 1448)],[(1448,.l aF)],[],[],1449,[]⟩ .z))) .z))
theorem R3:aH 89 (RY n) :=cq aC func89 RZ n
def R4:ci xx:=⟨[.d (.sl (.st SI.jz))],[.fresh (.st SI.side)],λa=>qy n a.1,none⟩
def R5:Hn SI:=(cj (.s (.s .z (.b (.l ⟨[(10,.v af)],[(1192,.l (.st SI.side))],[0,3,9],[],1512,[]⟩ 0 ⟨[],[(1192,.l (.st SI.side))],[3],[],1512,[]⟩ .z))) .z))
theorem D6:aH 239 (R4 n) :=cq aC func239 R5 n
def R6:ci xx:=⟨[.d (.st SI.jz)],[.d .bool],λa=>uO a.1,none⟩
theorem R7:aH 258 R6 :=cq aC func258 .z 0
def F3:ci xx:=⟨[.d (.st SI.side)],[.d .bool],λa=>iG a.1,none⟩
theorem vk:aH 240 F3 :=cq aC func240 .z 0
def adX:ci xx:=⟨[.d (.sl af)],[.d af],λa=>vY n a.1,none⟩
def adY:Hn SI:=(cj (.s (.s .z (.b (.lx ⟨[(8,.v af)],[],[3,6,7],[],1320,[]⟩ 0 ⟨[],[],[3],[],1320,[]⟩ .z))) .z))
theorem Py:aH 210 (adX n) :=cq aC func210 adY n
def Pz:ci xx:=⟨[.d (.st SI.jz),.d (.st SI.jz)],[.d af],λa=>sN n a.1 a.2.1,none⟩
theorem PD:aH 259 (Pz n) :=cq (ak mU (ak (Py n) aC)) func259 .z n
def F4:ci xx:=⟨[.d (.st SI.side),.d (.st SI.side)],[.d .bool],λa=>mD a.1 a.2.1,none⟩
theorem F5:aH 260 F4 :=cq aC func260 .z 0
def UW:ci xx:=⟨[.d (.sl (.st SI.jz))],[.d .bool],λa=>wJ n a.1,none⟩
def UX:Hn SI:=(.s .z (.s (.s (.j ⟨[(16,.v .bool)],[],[0],[],1064,[]⟩ .z) .z) (.s .z (.s (.s .z (.b (.lx ⟨[(21,.v af)],[],[0,3,19,20],[1128],1448,[]⟩ 0 ⟨[],[],[3],[1128],1448,[]⟩ (cj (.s (.b (cj (.s (.s (.j ⟨[(61,.v .bool)],[],[0,3,4,19,20,21],[1128],2536,[]⟩ .z) .z) (.s (.j ⟨[(74,.v .bool)],[],[0,3,19,20,21],[1128],2536,[]⟩ .z) .z)))) .z))))) (.s (.s .z (.b (.lx ⟨[(78,.v af)],[],[3,77],[1128],1640,[]⟩ 2 ⟨[],[],[3],[1128],1640,[]⟩ (cj (.s (.b (cj (.b (.lx ⟨[(8,.v af)],[],[3,7,77,78],[1128],2024,[]⟩ 4 ⟨[],[],[3,77,78],[1128],2024,[]⟩ (.s .z (.s (.b (.s (.j ⟨[(106,.v .bool)],[],[3,7,8,77,78],[1128],2280,[]⟩ .z) .z)) .z)))))) .z))))) .z)))))
theorem UY:aH 238 (UW n) :=cq (ak (D6 n) (ak R7 (ak vk (ak (PD n) (ak F5 aC))))) func238 UX n
def R8:ci xx:=⟨[.d (.sl (.st SI.jz))],[.fresh aA,.d af],λa=>uP n a.1,none⟩
def R9:Hn SI:=(ik (.s (.s .z (.b (.l ⟨[(4,.o 1576),(19,.v af)],[(1576,.l af)],[0,17,18],[],1577,[(4,af)]⟩ 0 ⟨[(4,.o 1576)],[(1576,.l af)],[0],[],1577,[]⟩ .z))) (wA (.s (.s .z (.b (.l ⟨[(8,.o 2409),(38,.v af)],[(2409,.l aA)],[4,7,37],[1576,1961],2410,[(8,aA)]⟩ 2 ⟨[(8,.o 2409)],[(2409,.l aA)],[],[],2410,[]⟩ (cj (.s (.b (cj (.s (.s .z (.b (.l ⟨[(10,.o 2858),(43,.v af)],[(2858,.l af)],[4,7,8,9,37,38,41,42],[1576,1961,2409],2859,[(10,af)]⟩ 4 ⟨[(10,.o 2858)],[(2858,.l af)],[4,7,8,9,37,38],[1576,1961,2409],2859,[]⟩ (cj (.s (.j ⟨[(10,.o 2923)],[(2923,.l af)],[4,7,8,9,37,38,41,42,43],[1576,1961,2409],2924,[]⟩ (.b (.s .z (.s (.j ⟨[(77,.v .bool)],[],[4,7,8,9,10,12,37,38,41,42,43],[1576,1961,2409,2858,3051],3179,[]⟩ .z) .z)))) .z))))) (cj (.b (.l ⟨[(8,.o 3051),(13,.v af)],[(3051,.l aA)],[4,7,9,10,37,38],[1576,1961,2858],3052,[]⟩ 6 ⟨[(8,.o 3051)],[(3051,.l aA)],[4,7,37,38],[1576,1961],3052,[]⟩ .z)))))) .z))))) .z))))
theorem Sb:aH 211 (R8 n) :=cq (ak (UY n) (ak (sI n) (ak (rq n) (ak (D6 n) (ak vk aC))))) func211 R9 n
def Zl:ci xx:=⟨[.d bH],[.fresh aA],λa=>yK n a.1,none⟩
theorem Zm:aH 176 (Zl n) :=cq (ak (Sb n) aC) func176 .z n
def UZ:ci xx:=⟨[.d (.sl aA),.d (.sl aA)],[.d af,.d (.st SI.jz)],λa=>wK n a.1 a.2.1,none⟩
def U0:Hn SI:=(cj (.s (.s .z (.b (.l ⟨[(6,.v af),(18,.v af)],[(1192,wy)],[1,5,7,16,17],[1064],1576,[]⟩ 0 ⟨[(6,.v af)],[(1192,wy)],[5,7],[1064],1576,[]⟩ (cj (.s (.b (cj (.b (.l ⟨[(6,.v af),(24,.v af)],[(1192,wy)],[1,5,7,9,16,17,18,22,23],[1064,1768],2088,[]⟩ 2 ⟨[(6,.v af)],[(1192,wy)],[1,5,7,16,17,18],[1064],2088,[]⟩ (cj (.s (.j ⟨[(6,.v af)],[(1192,wy)],[1,5,7,9,16,17,18,22,23,24],[1064,1768],2152,[]⟩ .z) .z)))))) .z))))) .z))
theorem U1:aH 175 (UZ n) :=cq (ak Cf (ak D5 (ak mU (ak (Py n) aC)))) func175 U0 n
def U2:ci xx:=⟨[.d (.st SI.lP),.d (.sl aA)],[.fresh af],λa=>wL n a.1 a.2.1,none⟩
def U3:Hn SI:=(ik (.s (.s .z (.b (.l ⟨[(5,.o 1640),(16,.v af)],[(1640,.l af)],[1,14,15],[],1641,[(5,af)]⟩ 0 ⟨[(5,.o 1640)],[(1640,.l af)],[],[],1641,[]⟩ .z))) .z))
theorem U4:aH 124 (U2 n) :=cq (ak (qK n) (ak (Zm n) (ak (U1 n) aC))) func124 U3 n
def agQ:ci xx:=⟨[.d (.st SI.lP),.d (.sl aA)],[.fresh .str],λa=>Dy n a.1 a.2.1,none⟩
def agR:Hn SI:=(ik (.s (.s .z (.b (.l ⟨[(6,.v af),(17,.v af)],[],[2,5,15,16],[1000,1256],1640,[]⟩ 0 ⟨[(6,.v af)],[],[2,5],[1000,1256],1640,[]⟩ (cj (.s (.j ⟨[(6,.v af)],[],[2,5,15,16,17],[1000,1256],1704,[]⟩ (.b (.s .z (.s (.j ⟨[(44,.v .bool)],[],[2,5,6,7,15,16,17],[1000,1256],2024,[]⟩ .z) .z)))) .z))))) (.s .z (.s (.s .z (.b (.l ⟨[(9,.o 1896),(49,.v af)],[(1896,.l .str)],[2,6,47,48],[1000,1256],1897,[(9,.str)]⟩ 2 ⟨[(9,.o 1896)],[(1896,.l .str)],[],[],1897,[]⟩ (cj (.s (.j ⟨[(9,.o 1961)],[(1961,.l .str)],[2,6,47,48,49],[1000,1256],1962,[]⟩ (.b (.s .z (.s (.j ⟨[(68,.v .bool)],[],[2,6,9,10,47,48,49],[1000,1256,1896],2281,[]⟩ .z) .z)))) .z))))) .z))))
theorem agS:aH 90 (agQ n) :=cq (ak (U4 n) aC) func90 agR n
def aaB:ci xx:=⟨[.d (.st SI.pg),.d dm],[.d (.st SI.lf),.d af],λa=>Bf n a.1 a.2.1,none⟩
theorem aaC:aH 59 (aaB n) :=cq (ak (alN n) (ak (UU n) (ak (R3 n) (ak (agS n) aC)))) func59 .z n
def PE:ci xx:=⟨[.d (.sl .str),.d .str],[.d af],λa=>sO n a.1 a.2.1,none⟩
def PG:Hn SI:=(.s .z (.s (.s .z (.b (.lx ⟨[(8,.v af)],[],[0,1,7],[],1256,[]⟩ 0 ⟨[],[],[],[],1256,[]⟩ .z))) .z))
theorem PI:aH 91 (PE n) :=cq aC func91 PG n
def JM:ci xx:=⟨[.d (.sl .str),.d .str],[.d .bool],λa=>gG n a.1 a.2.1,none⟩
theorem qL:aH 61 (JM n) :=cq (ak (PI n) aC) func61 .z n
def MR:ci xx:=⟨[.d .str,.ref (.sl .str)],[.d .bool],λa=>kX n a.1 a.2.1,none⟩
theorem MS:aH 125 (MR n) :=cq (ak (qL n) aC) func125 .z n
def GR:ci xx:=⟨[.d (.sl .str),.d7 [.str] .bool],[.d af],λa=>rF n a.1 a.2.1,none⟩
def GU:Hn SI:=(.s .z (.s (.s .z (.b (.lx ⟨[(8,.v af)],[],[0,1,7],[],1256,[]⟩ 0 ⟨[],[],[],[],1256,[]⟩ .z))) .z))
theorem GV:aH 177 (GR n) :=cq aC func177 GU n
def Ci:ci xx:=⟨[.d (.sl .str),.d7 [.str] .bool],[.d .bool],λa=>gQ n a.1 a.2.1,none⟩
theorem Cj:aH 126 (Ci n) :=cq (ak (GV n) aC) func126 .z n
def U5:ci xx:=⟨[.d aZ,.d (.sl .str)],[.d .bool],λa=>rU n a.1 a.2.1,none⟩
theorem U6:aH 92 (U5 n) :=cq (ak (Cj n) (ak (MS n) aC)) func92 .z n
def Zn:ci xx:=⟨[.d (.st SI.lP),.d (.sl .str),.d af],[.fresh af],λa=>uQ n a.1 a.2.1 a.2.2.1,none⟩
def Zo:Hn SI:=(cj (.s (.s .z (.b (.l ⟨[(7,.o 1448),(13,.v af)],[(1448,.l af)],[1,2,11,12],[],1449,[(7,af)]⟩ 0 ⟨[(7,.o 1448)],[(1448,.l af)],[],[],1449,[]⟩ (cj (.s (.j ⟨[(7,.o 1513)],[(1513,.l af)],[1,2,11,12,13],[],1514,[]⟩ (.b (.s .z (.s (.j ⟨[(37,.v .bool)],[],[1,2,7,8,11,12,13],[1448],1897,[]⟩ .z) .z)))) .z))))) .z))
theorem Zp:aH 62 (Zn n) :=cq (ak (U6 n) aC) func62 Zo n
def MU:ci xx:=⟨[.mut aA,.d7 [aA,aA] af],[.mu aA],λa=>vZ n a.1 a.2.1,none⟩
theorem MV:aH 183 (MU n):=by have hcall:eZ Tryz.prog 183:=⟨_,func183,by kernel_rfl,by kernel_rfl⟩;refine At hcall (λ a r h=>?_) rfl;obtain⟨l,φ,⟨⟩⟩:=a;refine abH (X:=xx) (i:=SI.nf) (hI:=(inferInstance:Inhabited ax)) Tryz.so183 rfl hcall Tryz.underlying65 (by kernel_rfl) (λ x t ht=>?_) h;cases x;have ht:t∈[_,_,_,_]:=ht;simp only[aL,oh,or_false]at ht;rcases ht with rfl|rfl|rfl|rfl<;>exact⟨_,rfl,trivial⟩
def D7:ci xx:=⟨[.d aA,.d aA],[.d af],λa=>jh a.1 a.2.1,none⟩
theorem D8:aH 184 D7 :=cq (ak mU aC) func184 .z 0
def PK:ci xx:=⟨[.d aF],[.d af],λa=>jV a.1,none⟩
def PL:Hn SI:=(.s .z (.s (.s (.j ⟨[(9,.v .bool)],[],[1],[1000],1128,[]⟩ .z) .z) .z))
theorem BH:aH 188 PK :=cq (ak jl aC) func188 PL 0
def U7:ci xx:=⟨[.d aF],[.d af],λa=>ng a.1,none⟩
theorem Gn:aH 186 U7 :=cq (ak jl (ak D5 (ak BH aC))) func186 .z 0
def Ck:ci xx:=⟨[.d aF],[.d af],λa=>oH a.1,none⟩
theorem Cm:aH 189 Ck :=cq aC func189 .z 0
def D9:ci xx:=⟨[.d aF],[.d af],λa=>pV a.1,none⟩
theorem Ea:aH 190 D9 :=cq aC func190 .z 0
def U8:ci xx:=⟨[.d aA,.d af],[.d aA,.d .bool],λa=>BV a.1 a.2.1,none⟩
theorem U9:aH 223 U8 :=cq (ak pQ aC) func223 .z 0
def Sc:ci xx:=⟨[.d fU,.ref (.st SI.ov),.ref af],[.d .bool],λa=>lC a.1 a.2.1 a.2.2.1,none⟩
theorem Sd:aH 254 Sc :=cq aC func254 .z 0
def JN:ci xx:=⟨[.d (.sl fU),.d7 [fU] .bool],[.d af],λa=>lD n a.1 a.2.1,none⟩
def JO:Hn SI:=(.s .z (.s (.s .z (.b (.lx ⟨[(8,.v af)],[],[0,1,7],[],1256,[]⟩ 0 ⟨[],[],[],[],1256,[]⟩ .z))) .z))
theorem xL:aH 219 (JN n) :=cq aC func219 JO n
def aaD:ci xx:=⟨[.d (.st SI.lP),.d af],[.d af],λa=>Bg n a.1 a.2.1,none⟩
def aaE:Hn SI:=(cj (.s (.s .z (.b (.lx ⟨[(14,.v af)],[],[3,5,12,13],[1064,1256],1640,[]⟩ 0 ⟨[],[],[],[],1640,[]⟩ (cj (.s (.b (ik (.s (.j ⟨[(8,.v af)],[],[],[],2344,[]⟩ .z) .z))) .z))))) .z))
theorem aaF:aH 224 (aaD n) :=cq (ak (xL n) (ak Sd aC)) func224 aaE n
def PN:ci xx:=⟨[.d (.st SI.lP),.d aF],[.d af],λa=>jW n a.1 a.2.1,none⟩
def PO:Hn SI:=(cj (.s (.s (.j ⟨[(20,.v .bool)],[],[5,6],[],1704,[]⟩ .z) .z) .z))
theorem PS:aH 193 (PN n) :=cq (ak (aaF n) (ak Gn aC)) func193 PO n
def GX:cQ xx:=⟨[.p 0],[(0,fy),(1,.l aF)],[.v af],[(0,fy),(1,.l aF)],λ(qa,qb,qc,qd,qe,qf,qg,qh,qi,qj)=>nL n qa qb qc qd qe qf qg qh qi qj⟩
def GY:ci xx:=tzG (GX n)
theorem GZ:aH 130 (GY n) :=oB (ak (ace n) aC) func130 .z n
def Eb:cQ xx:=⟨[.p 0],[(0,fy),(1,.l aF)],[.v af],[(0,fy),(1,.l aF)],λ(qa,qb,qc,qd,qe,qf,qg,qh,qi,qj)=>ji n qa qb qc qd qe qf qg qh qi qj⟩
def Ec:ci xx:=tzG (Eb n)
def Ed:Hn SI:=(ik (.s (.s .z (.b (.l ⟨[(3,.o 1960),(23,.v af)],[(1448,.l aA),(1960,.l af)],[4,21,22],[0,1],1961,[(3,af)]⟩ 0 ⟨[(3,.o 1960)],[(1448,.l aA),(1960,.l af)],[4],[0,1],1961,[]⟩ .z))) (ik (.s (.s .z (.b (.l ⟨[(7,.v af),(56,.v af)],[],[3,4,55],[0,1,1448,1960],2601,[]⟩ 2 ⟨[(7,.v af)],[],[],[0,1],2601,[]⟩ (cj (.s (.b (ik (.b (.l ⟨[(7,.v af),(9,.v af),(61,.v af)],[],[3,4,8,55,56,59,60],[0,1,1448,1960],3049,[]⟩ 4 ⟨[(7,.v af)],[],[3,4,55,56],[0,1,1448,1960],3049,[]⟩ (cj (.s (.j ⟨[(7,.v af),(9,.v af)],[],[3,4,8,55,56,59,60,61],[0,1,1448,1960],3113,[]⟩ (.b (.s .z (.s (.j ⟨[(86,.v .bool)],[],[3,4,7,8,9,11,55,56,59,60,61],[0,1,1448,1960,3241],3369,[]⟩ .z) .z)))) .z)))))) .z))))) .z))))
theorem Ee:aH 131 (Ec n) :=oB (ak (MV n) (ak D8 (ak (sI n) aC))) func131 Ed n
def G5:cQ xx:=⟨[.p 0,(.f 186 [] [])],[(0,fy),(1,.l aF)],[.v af],[(0,fy),(1,.l aF)],λ(qa,qb,qc,qd,qe,qf,qg,qh,qi,qj)=>rG n qa qb qc qd qe qf qg qh qi qj⟩
def G6:ci xx:=tzG (G5 n)
def G7:Hn SI:=(cj (.s (.s .z (.b (.l ⟨[(5,.v af),(13,.v af)],[],[1,11,12],[0,1],1512,[]⟩ 0 ⟨[(5,.v af)],[],[],[0,1],1512,[]⟩ .z))) .z))
theorem G8:aH 185 (G6 n) :=oB (ak Gn aC) func185 G7 n
def Ef:cQ xx:=⟨[.p 0],[(0,fy),(1,.l aF)],[.v af],[(0,fy),(1,.l aF)],λ(qa,qb,qc,qd,qe,qf,qg,qh,qi,qj)=>lK n qa qb qc qd qe qf qg qh qi qj⟩
def Eg:ci xx:=tzG (Ef n)
theorem Eh:aH 132 (Eg n) :=oB (ak (G8 n) aC) func132 .z n
def zQ:cQ xx:=⟨[.p 0,(.f 188 [] [])],[(0,fy),(1,.l aF)],[.v af],[(0,fy),(1,.l aF)],λ(qa,qb,qc,qd,qe,qf,qg,qh,qi,qj)=>ni n qa qb qc qd qe qf qg qh qi qj⟩
def zR:ci xx:=tzG (zQ n)
def zS:Hn SI:=(cj (.s (.s .z (.b (.l ⟨[(5,.v af),(13,.v af)],[],[1,11,12],[0,1],1512,[]⟩ 0 ⟨[(5,.v af)],[],[],[0,1],1512,[]⟩ .z))) .z))
theorem zT:aH 187 (zR n) :=oB (ak BH aC) func187 zS n
def Cn:cQ xx:=⟨[.p 0],[(0,fy),(1,.l aF)],[.v af],[(0,fy),(1,.l aF)],λ(qa,qb,qc,qd,qe,qf,qg,qh,qi,qj)=>kz n qa qb qc qd qe qf qg qh qi qj⟩
def Co:ci xx:=tzG (Cn n)
theorem Cq:aH 133 (Co n) :=oB (ak (zT n) aC) func133 .z n
def zU:cQ xx:=⟨[.p 0,(.f 189 [] [])],[(0,fy),(1,.l aF)],[.v af],[(0,fy),(1,.l aF)],λ(qa,qb,qc,qd,qe,qf,qg,qh,qi,qj)=>nk n qa qb qc qd qe qf qg qh qi qj⟩
def zV:ci xx:=tzG (zU n)
def zW:Hn SI:=(cj (.s (.s .z (.b (.l ⟨[(5,.v af),(13,.v af)],[],[1,11,12],[0,1],1512,[]⟩ 0 ⟨[(5,.v af)],[],[],[0,1],1512,[]⟩ .z))) .z))
theorem zX:aH 187 (zV n) :=oB (ak Cm aC) func187 zW n
def Cr:cQ xx:=⟨[.p 0],[(0,fy),(1,.l aF)],[.v af],[(0,fy),(1,.l aF)],λ(qa,qb,qc,qd,qe,qf,qg,qh,qi,qj)=>kC n qa qb qc qd qe qf qg qh qi qj⟩
def Cs:ci xx:=tzG (Cr n)
theorem Ct:aH 134 (Cs n) :=oB (ak (zX n) aC) func134 .z n
def G9:cQ xx:=⟨[.p 0,(.f 190 [] [])],[(0,fy),(1,.l aF)],[.v af],[(0,fy),(1,.l aF)],λ(qa,qb,qc,qd,qe,qf,qg,qh,qi,qj)=>rH n qa qb qc qd qe qf qg qh qi qj⟩
def He:ci xx:=tzG (G9 n)
def Hf:Hn SI:=(cj (.s (.s .z (.b (.l ⟨[(5,.v af),(13,.v af)],[],[1,11,12],[0,1],1512,[]⟩ 0 ⟨[(5,.v af)],[],[],[0,1],1512,[]⟩ .z))) .z))
theorem Hg:aH 185 (He n) :=oB (ak Ea aC) func185 Hf n
def Ei:cQ xx:=⟨[.p 0],[(0,fy),(1,.l aF)],[.v af],[(0,fy),(1,.l aF)],λ(qa,qb,qc,qd,qe,qf,qg,qh,qi,qj)=>lM n qa qb qc qd qe qf qg qh qi qj⟩
def Ej:ci xx:=tzG (Ei n)
theorem El:aH 135 (Ej n) :=oB (ak (Hg n) aC) func135 .z n
def Cu:cQ xx:=⟨[.p 0,.v aA,.v af],[(0,fy),(1,.l aF)],[.v .bool],[(0,fy),(1,.l aF)],λ(qa,qb,qc,qd,qe,qf,qg,qh,qi,qj,qk,ql)=>kE n qa qb qc qd qe qf qg qh qi qj qk ql⟩
def Cv:ci xx:=tzG (Cu n)
def Cw:Hn SI:=(wA (.s (.s .z (.b (.l ⟨[(9,.v af),(27,.v af)],[],[7,25,26],[0,1,1512],2280,[]⟩ 0 ⟨[(9,.v af)],[],[7],[0,1,1512],2280,[]⟩ (cj (.s (.j ⟨[(9,.v af)],[],[7,25,26,27],[0,1,1512],2344,[]⟩ .z) .z))))) .z))
theorem Cx:aH 191 (Cv n) :=oB (ak U9 (ak Cf (ak D5 aC))) func191 Cw n
def Ao:cQ xx:=⟨[.p 0],[(0,fy),(1,.l aF)],[.v af],[(0,fy),(1,.l aF)],λ(qa,qb,qc,qd,qe,qf,qg,qh,qi,qj)=>jR n qa qb qc qd qe qf qg qh qi qj⟩
def Ap:ci xx:=tzG (Ao n)
def Aq:Hn SI:=(cj (.s (.s .z (.b (.l ⟨[(3,.v af),(14,.v af)],[(0,fy),(1,.l aF)],[0,12,13],[],1512,[]⟩ 0 ⟨[(3,.v af)],[(0,fy),(1,.l aF)],[],[],1512,[]⟩ (cj (.s (.b (cj (.s (.b (.l ⟨[(6,.v af),(7,.v af)],[(0,fy),(1,.l aF)],[0,5,12,13,14],[1704],2024,[]⟩ 2 ⟨[(6,.v af)],[(0,fy),(1,.l aF)],[0,12,13,14],[],2024,[]⟩ .z)) .z))) .z))))) .z))
theorem Ar:aH 136 (Ap n) :=oB (ak (Cx n) aC) func136 Aq n
def xX:cQ xx:=⟨[.v aF,.p 0],[(0,.c 1 [[.p 1]]),(1,vi),(2,.l aF)],[.v af],[(0,.c 1 [[.p 1]]),(1,vi),(2,.l aF)],λ(qa,qb,qc,qd,qe,qf,qg,qh,qi,qj,qk)=>lG n qa qb qc qd qe qf qg qh qi qj qk⟩
def xY:ci xx:=tzG (xX n)
theorem xZ:aH 192 (xY n) :=oB (ak (PS n) aC) func192 .z n
def Hl:cQ xx:=⟨[.p 0,(.f 192 [] [.p 1])],[(0,vi),(1,.c 1 [[.p 0]]),(2,.l aF)],[.v af],[(0,vi),(1,.c 1 [[.p 0]]),(2,.l aF)],λ(qa,qb,qc,qd,qe,qf,qg,qh,qi,qj)=>rJ n qa qb qc qd qe qf qg qh qi qj⟩
def Ho:ci xx:=tzG (Hl n)
def Hq:Hn SI:=(cj (.s (.s .z (.b (.l ⟨[(5,.v af),(13,.v af)],[(0,vi),(1,.c 1 [[.p 0]]),(2,.l aF)],[1,11,12],[],1512,[]⟩ 0 ⟨[(5,.v af)],[(0,vi),(1,.c 1 [[.p 0]]),(2,.l aF)],[],[],1512,[]⟩ .z))) .z))
theorem Hr:aH 185 (Ho n) :=oB (ak (xZ n) aC) func185 Hq n
def Au:cQ xx:=⟨[.p 0],[(0,fy),(1,.l aF)],[.v af],[(0,fy),(1,.l aF)],λ(qa,qb,qc,qd,qe,qf,qg,qh,qi,qj)=>jS n qa qb qc qd qe qf qg qh qi qj⟩
def Av:ci xx:=tzG (Au n)
theorem Aw:aH 137 (Av n) :=oB (ak (Hr n) aC) func137 .z n
def adZ:ci xx:=⟨[.d (.st SI.lP),.d (.st SI.Lot),.d dm],[.fresh fU],λa=>oI n a.1 a.2.1 a.2.2.1,none⟩
def ad1:Hn SI:=(cj (.s (.j ⟨[],[(1384,.c 10 [[.v (.sl bE),.v (.sl aW),.v (.sl bH),.v (.sl aZ),.v (.sl bJ),.v (.sl bI),.v (.sl aS),.v af,.v (.sl aA),.nil]])],[5,7],[1128],1512,[]⟩ .z) (.s (.s .z (.b (.l ⟨[(31,.v af)],[(1384,Jx),(1960,.l aF)],[7,29,30],[1768],1961,[(6668873,aF)]⟩ 0 ⟨[],[(1384,Jx),(1960,.l aF)],[7],[],1961,[]⟩ (cj (.s (.j ⟨[],[(1384,.c 10 [[.v (.sl bE),.v (.sl aW),.v (.sl bH),.v (.sl aZ),.v (.sl bJ),.v (.sl bI),.v (.sl aS),.v af,.v (.sl aA),.o 2025]]),(2025,.l aF)],[7,29,30,31],[1768],2026,[]⟩ (.b (.s .z (.s (.j ⟨[(41,.v .bool)],[],[7,9,29,30,31],[1384,1768,1960,2217],2409,[]⟩ .z) .z)))) .z))))) (cj (.s (.s .z (.b (.un .z (.un .z (.un .z (.un .z (.un .z (.un .z (.un .z (.un .z (.un .z (.un .z .z)))))))))))) .z)))))
theorem ad2:aH 94 (adZ n) :=cq (ak (qK n) (ak (u7 n) (ak jl (ak (GZ n) (ak (Ee n) (ak (Eh n) (ak (Cq n) (ak (Ct n) (ak (El n) (ak (Ar n) (ak (Aw n) aC))))))))))) func94 ad1 n
def aiZ:ci xx:=⟨[.d af],[.d af,.d .bool],λa=>zK a.1,none⟩
def ai0:Hn SI:=(.s .z (.s (.s .z (.b (.s (.j ⟨[(5,.v .bool)],[],[0,4],[],1192,[]⟩ .z) (.s .z (.s (.j ⟨[(10,.v .bool)],[],[0,4],[],1192,[]⟩ .z) .z))))) .z))
theorem ai1:aH 212 aiZ :=cq aC func212 ai0 0
def agT:Hn SI:=(cj (.s (.s (.j ⟨[(28,.v .bool)],[],[1,2],[1000],1640,[]⟩ .z) .z) (.s .z (.s (.s .z (.b (.l ⟨[(7,.v af),(32,.v af)],[],[1,30,31],[],1960,[]⟩ 0 ⟨[(7,.v af)],[],[],[],1960,[]⟩ .z))) .z))))
theorem ad3(rc:(bZ)->(Int)->J Int)(hr:aH 178 (Fq rc)):aH 178 (Fq (Bh n rc)) :=cq (ak ai1 (ak hr aC)) func178 agT n
theorem PU(n:Nat):∀m,aH 178 (Fq (tY n m))
 | 0=>At (qp func178 (by kernel_rfl:Tryz.f178.body=some (Tryz.f178.body.getD .skip)) (by kernel_rfl)) (λ _ _ h=>(by cases h)) rfl
 |m+1=>ad3 n _ (PU n m)
def agU:ci xx:=⟨[.d (.st SI.Expr),.d af],[.d af],λa=>Ra n a.1 a.2.1,none⟩
theorem agV:aH 178 (agU n):=PU n n
def ai2:ci xx:=⟨[.d (.st SI.Expr)],[.d .bool],λa=>Jf n a.1,none⟩
theorem Zq:aH 127 (ai2 n) :=cq (ak (agV n) aC) func127 .z n
def PV:ci xx:=⟨[],[.fresh .str],λ_=>xS,none⟩
theorem PW:aH 213 PV :=cq aC func213 .z 0
mutual
theorem apk:∀g:bZ,(toE g).wt<=4000000->s7 (toE g) (sM g)
 |⟨op,n,s,key,args⟩,h=>by simp only[toE,ET.wt]at h;have:=ET.rS (Jg args);simp only[toE,sM,s7];exact⟨n,key,_,rfl,by unfold maxLen;omega,by omega,Zr args (by omega)⟩
theorem Zr:∀l:List bZ,ET.tU (Jg l)<=4000000->oS (Jg l) (uE l)
 |[],_=>by simp only[Jg,uE,oS]
 |x::xs,h=>by simp only[Jg,ET.tU]at h;simp only[Jg,uE,oS];exact⟨_,_,rfl,apk x (by omega),Zr xs (by omega)⟩
end
def PX:ci xx:=⟨[],[.d .bool],λ_=>none,some ⟨[.v (.sl bE)],[],[.p 1000],[(1000,sx)],λv=>l5 v⟩⟩
theorem agW:∀l:U gZ,sq (l.map toD)<=4000000->oT (l.map toD) (l.map Fe)
 |[],_=>by simp only[List.map_nil,oT]
 |x::xs,h=>by simp only[bK,sq,List.foldr_cons,toD,ET.wt]at h;have:=ET.rS (Jg x.ez);simp only[bK,oT];refine⟨_,_,rfl,⟨_,_,_,_,_,rfl,by simp only[toD];unfold maxLen;omega,?_⟩,agW xs (by simp only[sq];omega)⟩;simp only[toD,s7];exact⟨_,_,_,rfl,by unfold maxLen;omega,by omega,by rw[<- uF];exact Zr _ (by omega)⟩
theorem PY:aH 214 PX:=by
 have hcall:eZ Tryz.prog 214:=⟨_,func214,by kernel_rfl,by kernel_rfl⟩;refine S0 hcall ?_;intro v r hr;have h':l5 v=some r:=hr;unfold l5 at h';cases hb:Nat.ble (sq (List.map toD v)) 4000000 with
 |false=>rw[hb]at h';cases h'
 |true=>
  rw[hb]at h';have h'':some (v,pU (List.map toD v))=some r:=h';injection h'' with e;subst e;have hw:=Nat.le_of_ble_eq_true hb;have hlen:=VH (List.map toD v);have hn:∀d∈List.map toD v,d.2.names.length<=4000000:=λd hd=>by have h1:=VI hd;have h2:=ET.py d.2;omega
  exact adf (TL:=25) (TG:=320) (TI:=3) hcall (agW v hw) λsv w hS=>aoE (List.map toD v) (by omega) (λ d hd=>Nat.le_trans (hn d hd) (by omega))
   (λ d hd v0 v1 v2 v3 v4 w hE=>callsIn_wide.1 (amZ 0 d.2 v0 v1 v2 v3 v4 w hE (Nat.le_trans (hn d hd) (by omega)))) sv w hS
def Va:ci xx:=⟨[.d (.sl af),.d af],[.fresh af],λa=>rW a.1 a.2.1,none⟩
theorem Vb:aH 275 Va:=by
 have hcall:eZ Tryz.prog 275:=⟨_,func275,by kernel_rfl,by kernel_rfl⟩;refine At hcall (λ a r h=>?_) rfl;obtain⟨l,c,⟨⟩⟩:=a;have h':rW l c=some r:=h
 match l,h' with
 |[x],h'=>
  simp only[rW]at h';cases hb:(decide (0<=c)&&decide (c<=1000000000000))with
  |false=>rw[hb]at h';cases h'
  |true=>
   rw[hb]at h';have h'':some (List.replicate c.toNat x)=some r:=h';injection h'' with e;subst e;simp only[aX,bq]at hb;obtain⟨h1,h2⟩:=hb;obtain⟨k,hk⟩:=Int.eq_ofNat_of_zero_le h1;subst hk;exact ah6 (E:=3) (c:=k) hcall λa cap w hx=>ak8 x k (Int.ofNat_le.1 (by simpa using h2)) a cap w hx
def Zt:ci xx:=⟨[.d (.sl af),.d af],[.d af],λa=>Fs n a.1 a.2.1,none⟩
def Zu:Hn SI:=(.s .z (.s (.s .z (.b (.lx ⟨[(8,.v af)],[],[0,1,7],[],1256,[]⟩ 0 ⟨[],[],[],[],1256,[]⟩ .z))) .z))
theorem Zv:aH 282 (Zt n) :=cq aC func282 Zu n
def PZ:ci xx:=⟨[.d (.sl af),.d af],[.d .bool],λa=>sQ n a.1 a.2.1,none⟩
theorem P5:aH 276 (PZ n) :=cq (ak (Zv n) aC) func276 .z n
def Cy:ci xx:=⟨[.ref (.st SI.graph),.d af],[.fresh af],λa=>kG n a.1 a.2.1,none⟩
def Cz:Hn SI:=(wA (.s (.b (.l ⟨[(6,.od 2024)],[(1448,.l af),(2024,.l af)],[0,5],[],2025,[]⟩ 0 ⟨[],[(1448,.l af)],[5],[],2024,[]⟩ (.s .z (.b (ik (.b (.l ⟨[(6,.od 3049),(35,.v af)],[(1448,.l af),(3049,.l af)],[0,5,7,33,34],[],3050,[]⟩ 2 ⟨[(6,.od 3049)],[(1448,.l af),(3049,.l af)],[0,5],[],3050,[]⟩ (cj (.s (.j ⟨[(6,.od 3114)],[(1448,.l af),(3114,.l af)],[0,5,7,33,34,35],[],3115,[]⟩ (.b (.s .z (.s (.j ⟨[(49,.v .bool)],[],[0,5,6,7,8,33,34,35],[1448,3049],3434,[]⟩ .z) .z)))) .z))))))))) .z))
theorem CB:aH 264 (Cy n) :=cq (ak Vb (ak (P5 n) aC)) func264 Cz n
def MW:ci xx:=⟨[.d .str],[.d .bool],λa=>cmp_isNaN_string a.1,none⟩
theorem MX:aH 277 MW :=cq aC func277 .z 0
def JP:ci xx:=⟨[.d .str,.d .str],[.d af],λa=>oJ a.1 a.2.1,none⟩
theorem JQ:aH 265 JP :=cq (ak MX aC) func265 .z 0
def KL:ci xx:=⟨[.d (.sl .str),.d (.sl .str)],[.d af],λa=>mI n a.1 a.2.1,none⟩
def KM:Hn SI:=(.s .z (.s (.s .z (.b (.lx ⟨[(11,.v af)],[],[0,1,9,10],[],1256,[]⟩ 0 ⟨[],[],[0,1],[],1256,[]⟩ .z))) .z))
theorem KN:aH 243 (KL n) :=cq (ak JQ aC) func243 KM n
end
end Go.Proofs
