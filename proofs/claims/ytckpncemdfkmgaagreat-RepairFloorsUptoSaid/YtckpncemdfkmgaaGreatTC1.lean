import Derived.Test.YtckpncemdfkmgaaGreatS2
namespace Go.Proofs
open Go.Gb Go.RowKit
abbrev eW:OP SI:=.c 10 [[.v (.sl aZ),.v (.sl aS),.v (.sl bn),.v (.sl aU),.v (.sl bE),.v (.sl bB),.v (.sl aP),.v af,.v (.sl aB),.o 1]]
abbrev qr:OP SI:=.c 1 [[.o 1]]
abbrev rm:OP SI:=.c 2 [[.v (.sl aZ),(.v (.sl (.sl af)))]]
abbrev tW:OP SI:=.c 10 [[.v (.sl aZ),.v (.sl aS),.v (.sl bn),.v (.sl aU),.v (.sl bE),.v (.sl bB),.v (.sl aP),.v af,.v (.sl aB),.o 2]]
abbrev vh:OP SI:=.c 2 [[.v af,.v af]]
abbrev xe:OP SI:=.c 1 [[.o 1384]]
abbrev Bm:OP SI:=.c 4 [[.v af,.v af,.v af,.v af]]
abbrev HF:OP SI:=.c 10 [[.v (.sl aZ),.v (.sl aS),.v (.sl bn),.v (.sl aU),.v (.sl bE),.v (.sl bB),.v (.sl aP),.v af,.v (.sl aB),.o 1960]]
abbrev cg(a:Hn SI):Hn SI:=.s .z (.s .z a)
abbrev gR(a:Hn SI):Hn SI:=.s .z (.s .z (.s .z a))
abbrev xf(a:Hn SI):Hn SI:=.s .z (.s .z (.s .z (.s .z a)))
abbrev T2(a:Hn SI):Hn SI:=.s .z (.s .z (.s .z (.s .z (.s .z a))))
abbrev T1(a:Hn SI):Hn SI:=.s .z (.s .z (.s .z (.s .z (.s .z (.s .z a)))))
abbrev T0(a:Hn SI):Hn SI:=.s .z (.s .z (.s .z (.s .z (.s .z (.s .z (.s .z a))))))
open Tryz
noncomputable section
variable (n:Nat)
def aev:b8 xx:=⟨[.d .str,.d af],[.d aU],λa=>ZQ a.1 a.2.1,none⟩
theorem aew:aH 36 aev :=cq aC func36 .z 0
def abN:b8 xx:=⟨[.d af],[.d (.st SI.oB),.d dF],λa=>yH a.1,none⟩
theorem abO:aH 11 abN :=cq (ak aew aC) func11 .z 0
def Sc:b8 xx:=⟨[.d (.sl aB)],[.fresh aB],λa=>AJ a.1,none⟩
theorem Sd:aH 187 Sc :=cq aC func187 .z 0
def Xd:b8 xx:=⟨[.d (.sl af)],[.fresh af],λa=>sZ a.1,none⟩
theorem Ir:aH 79 Xd :=cq aC func79 .z 0
def agI:b8 xx:=⟨[.d (.st SI.Lot)],[.d (.st SI.Lot)],λa=>MK a.1,none⟩
theorem agJ:aH 151 agI :=cq (ak Sd (ak Ir aC)) func151 .z 0
def ajx:b8 xx:=⟨[.d (.sl (.st SI.Lot)),.d af],[.d (.st SI.Lot),.d .bool],λa=>ML n a.1 a.2.1,none⟩
def ajy:Hn SI:=(.s .z (.s (.s .z (.b (.lx ⟨[(10,.v af)],[],[1,4,8,9],[1000],1320,[]⟩ 0 ⟨[],[],[4],[1000],1320,[]⟩ .z))) .z))
theorem ajz:aH 97 (ajx n) :=cq (ak agJ aC) func97 ajy n
def NG:b8 xx:=⟨[.d dF,.d af,.d af],[.fresh aF],λa=>nY n a.1 a.2.1 a.2.2.1,none⟩
def NH:Hn SI:=(cg (.s (.s .z (.b (.l ⟨[(7,.o 1448),(13,.v af)],[(1448,.l aF)],[1,2,11,12],[],1449,[(7,aF)]⟩ 0 ⟨[(7,.o 1448)],[(1448,.l aF)],[],[],1449,[]⟩ (cg (.s (.j ⟨[(7,.o 1513)],[(1513,.l aF)],[1,2,11,12,13],[],1514,[]⟩ (.b (.s .z (.s (.j ⟨[(25,.v .bool)],[],[1,2,7,9,11,12,13],[1448,1705],1897,[]⟩ .z) .z)))) .z))))) .z))
theorem Ap:aH 26 (NG n) :=cq aC func26 NH n
def Yz:b8 xx:=⟨[.d dF],[.fresh aF],λa=>vU n a.1,none⟩
theorem Kv:aH 18 (Yz n) :=cq (ak (Ap n) aC) func18 .z n
def ajA:b8 xx:=⟨[.d aB],[.d .bool],λa=>oO a.1,none⟩
theorem ql:aH 56 ajA :=cq aC func56 .z 0
def FC:b8 xx:=⟨[.d aF],[.d .bool],λa=>fK a.1,none⟩
def FD:Hn SI:=(cg (.s (.s (.j ⟨[(26,.v .bool)],[],[1],[1000],1384,[]⟩ .z) .z) (.s (.s (.j ⟨[(34,.v .bool)],[],[1],[1000],1384,[]⟩ .z) .z) .z)))
theorem jg:aH 27 FC :=cq (ak ql aC) func27 FD 0
def aex:b8 xx:=⟨[.d aB],[.d aB,.d .bool],λa=>xY a.1,none⟩
theorem RB:aH 54 aex :=cq (ak ql aC) func54 .z 0
def YA:b8 xx:=⟨[.d aB,.d aB],[.d aB,.d .bool],λa=>rX a.1 a.2.1,none⟩
def YB:Hn SI:=(.s .z (.s (.s (.j ⟨[(13,.v .bool)],[],[2,3,4],[1000,1064,1128],1256,[]⟩ .z) .z) .z))
theorem AX:aH 84 YA :=cq (ak ql (ak RB aC)) func84 YB 0
def Xe:b8 xx:=⟨[.d (.st SI.Bi),.d (.st SI.Bi)],[.d .bool],λa=>tq a.1 a.2.1,none⟩
theorem Xf:aH 48 Xe :=cq (ak AX aC) func48 .z 0
def NI:b8 xx:=⟨[.d aF,.ref aF],[.d .bool],λa=>gZ a.1 a.2.1,none⟩
theorem NJ:aH 47 NI :=cq (ak Xf aC) func47 .z 0
def FE:b8 xx:=⟨[.d (.sl aF),.dt [aF] .bool],[.d af],λa=>qx n a.1 a.2.1,none⟩
def FH:Hn SI:=(.s .z (.s (.s .z (.b (.lx ⟨[(8,.v af)],[],[0,1,7],[],1256,[]⟩ 0 ⟨[],[],[],[],1256,[]⟩ .z))) .z))
theorem FI:aH 83 (FE n) :=cq aC func83 FH n
def AY:b8 xx:=⟨[.d (.sl aF),.dt [aF] .bool],[.d .bool],λa=>gG n a.1 a.2.1,none⟩
theorem qW:aH 46 (AY n) :=cq (ak (FI n) aC) func46 .z n
def abP:b8 xx:=⟨[.d (.int .u8)],[.d .bool],λa=>Ef a.1,none⟩
theorem NK:aH 117 abP :=cq aC func117 .z 0
def agK:b8 xx:=⟨[.d .str,.dt [.int .u8] .bool],[.d af],λa=>MN n a.1 a.2.1,none⟩
def agL:Hn SI:=(cg (.s (.b (.l ⟨[(5,.v af)],[],[0,1],[],1128,[]⟩ 0 ⟨[(5,.v af)],[],[],[],1128,[]⟩ (.s (.s (.j ⟨[(16,.v .bool)],[],[0,1,5],[],1128,[]⟩ .z) .z) .z))) .z))
theorem agM:aH 118 (agK n) :=cq aC func118 agL n
def aey:b8 xx:=⟨[.d (.int .u8)],[.d .bool],λa=>Pq a.1,none⟩
theorem aez:aH 120 aey :=cq aC func120 .z 0
def YC:b8 xx:=⟨[.d (.int .u8)],[.d .bool],λa=>zX a.1,none⟩
theorem YD:aH 119 YC :=cq (ak NK (ak aez aC)) func119 .z 0
def agN:b8 xx:=⟨[.d .str],[.d .bool],λa=>MO n a.1,none⟩
def agO:Hn SI:=(.s .z (.s (.s (.j ⟨[(15,.v .bool)],[],[0],[],1064,[]⟩ .z) .z) .z))
theorem agP:aH 85 (agN n) :=cq (ak NK (ak (agM n) (ak YD aC))) func85 agO n
def K3:b8 xx:=⟨[.d .str,.d .str],[.d .bool],λa=>strings_Contains a.1 a.2.1,none⟩
theorem K4:aH 86 K3:=by
 have hcall:eU Tryz.prog 86:=⟨_,func86,by kernel_rfl,by kernel_rfl⟩;refine yd hcall (λ a r h=>?_) rfl;obtain⟨s,b,⟨⟩⟩:=a;have h':strings_Contains s b=some r:=h;unfold strings_Contains at h';cases hb:Nat.ble s.size 4000000 with
 |false=>rw[hb]at h';cases h'
 |true=>
  rw[hb]at h';have h'':some (Lib.contains s.data.toList b.data.toList)=some r:=h';injection h'' with e;subst e;have hw:=Nat.le_of_ble_eq_true hb;exact abe (g:=0) rfl hcall λm w hm=>adC s b m w (by omega) hm
def YE:b8 xx:=⟨[.d .str],[.d .bool],λa=>vV n a.1,none⟩
theorem YF:aH 49 (YE n) :=cq (ak (agP n) (ak K4 aC)) func49 .z n
def Xg:b8 xx:=⟨[.d dF],[.d .bool],λa=>iQ n a.1,none⟩
def Xh:Hn SI:=(cg (.s (.s (.j ⟨[(42,.v .bool)],[],[1,3],[1000,1192],1320,[]⟩ .z) .z) (.s (.s .z (.b (.lx ⟨[(45,.v af)],[],[1,3,43,44],[1000,1192],1512,[]⟩ 0 ⟨[],[],[1],[1000],1512,[]⟩ (cg (.s (.b (.s .z (.s (.j ⟨[(59,.v .bool)],[],[1,3,43,44,45],[1000,1192],1960,[]⟩ .z) .z))) .z))))) (.s (.s .z (.b (.lx ⟨[(64,.v af)],[],[62,63],[],1768,[]⟩ 2 ⟨[],[],[],[],1768,[]⟩ (cg (.s (.b (cg (.s (.s .z (.b (.lx ⟨[(72,.v af)],[(2088,.m .str .bool)],[7,8,62,63,64,70,71],[1960],2472,[]⟩ 4 ⟨[],[],[7,62,63,64],[1960],2472,[]⟩ (cg (.s (.b (.s .z (.s (.s (.j ⟨[(95,.v .bool)],[],[7,8,10,62,63,64,70,71,72],[1960,2088,2664],2792,[]⟩ .z) .z) .z))) .z))))) .z))) .z))))) .z))))
theorem Iu:aH 16 (Xg n) :=cq (ak (Kv n) (ak jg (ak (qW n) (ak NJ (ak (YF n) aC))))) func16 Xh n
def Xi:b8 xx:=⟨[.nil,.d af],[.fresh aB],λa=>MP a.1 a.2.1,none⟩
theorem Xj:aH 173 Xi :=cq aC func173 .z 0
def Qc:b8 xx:=⟨[.d (.sl (.sl aB))],[.fresh aB],λa=>yI n a.1,none⟩
def Qd:Hn SI:=(cg (.s (.s .z (.b (.l ⟨[(3,.v af),(11,.v af)],[],[0,9,10],[],1320,[]⟩ 0 ⟨[(3,.v af)],[],[0],[],1320,[]⟩ .z))) (.s .z (.s (.s .z (.b (.l ⟨[(6,.o 1704),(27,.v af)],[(1704,.l aB)],[25,26],[],1705,[]⟩ 2 ⟨[(6,.o 1704)],[(1704,.l aB)],[],[],1705,[]⟩ .z))) .z))))
theorem Qe:aH 123 (Qc n) :=cq (ak Xj aC) func123 Qd n
def YG:b8 xx:=⟨[.mut af],[.mu af],λa=>pF n a.1,none⟩
theorem vH:aH 59 (YG n):=by have hcall:eU Tryz.prog 59:=⟨_,func59,by kernel_rfl,by kernel_rfl⟩;refine yd hcall (λ a r h=>?_) rfl;obtain⟨l,⟨⟩⟩:=a;exact aiX Tryz.so59 rfl hcall h
def Qf:b8 xx:=⟨[.mut af],[.whole 0,.mu af],λa=>pG n a.1,none⟩
def Qg:Hn SI:=(cg (.s (.s .z (.b (.lx ⟨[(3,.v af)],[],[0],[0],1320,[]⟩ 0 ⟨[],[],[0],[0],1320,[]⟩ (.s .z (.s (.b (.s .z (.s (.s .z (.s (.s .z (.b (.l ⟨[(3,.v af),(5,.v af)],[(0,.l af)],[0,4],[],2536,[]⟩ 2 ⟨[(3,.v af)],[(0,.l af)],[0],[],2536,[]⟩ (.s .z (.s (.j ⟨[(3,.v af)],[(0,.l af)],[0,4,5],[],2792,[]⟩ .z) .z))))) .z)) .z))) .z))))) .z))
theorem u7:aH 124 (Qf n) :=cq aC func124 Qg n
def K5:b8 xx:=⟨[.mut (.st SI.span),.dt [.st SI.span,.st SI.span] af],[.mu (.st SI.span)],λa=>uU n a.1 a.2.1,none⟩
theorem K6:aH 174 (K5 n):=by have hcall:eU Tryz.prog 174:=⟨_,func174,by kernel_rfl,by kernel_rfl⟩;refine yd hcall (λ a r h=>?_) rfl;obtain⟨l,φ,⟨⟩⟩:=a;refine ZO (X:=xx) (i:=SI.span) (hI:=(inferInstance:Inhabited aK)) Tryz.so174 rfl hcall Tryz.underlying200 (by kernel_rfl) (λ x t ht=>?_) h;cases x;have ht:t∈[_,_]:=ht;simp only[aQ,nI,or_false]at ht;rcases ht with rfl|rfl<;>exact⟨_,rfl,trivial⟩
def Sg:b8 xx:=⟨[.d af],[.d .bool],λa=>cmp_isNaN_int a.1,none⟩
theorem Si:aH 81 Sg :=cq aC func81 .z 0
def NN:b8 xx:=⟨[.d af,.d af],[.d af],λa=>cmp_Compare_int a.1 a.2.1,none⟩
theorem mD:aH 42 NN :=cq (ak Si aC) func42 .z 0
def Xk:b8 xx:=⟨[.d (.st SI.span),.d (.st SI.span)],[.d af],λa=>xq a.1 a.2.1,none⟩
theorem Xl:aH 175 Xk :=cq (ak mD aC) func175 .z 0
def aeA:b8 xx:=⟨[.d (.sl aB),.d af],[.fresh (.st SI.span)],λa=>Jl n a.1 a.2.1,none⟩
def aeB:Hn SI:=(cg (.s (.s .z (.b (.l ⟨[(5,.o 1320),(14,.v af)],[(1320,.l (.st SI.span))],[1,12,13],[],1321,[(5,.st SI.span)]⟩ 0 ⟨[(5,.o 1320)],[(1320,.l (.st SI.span))],[],[],1321,[]⟩ (cg (.s (.j ⟨[(5,.o 1385)],[(1385,.l (.st SI.span))],[1,12,13,14],[],1386,[]⟩ (.b (.s .z (.s (.j ⟨[(27,.v .bool)],[],[1,5,7,12,13,14],[1320,1513],1641,[]⟩ .z) .z)))) .z))))) (cg (.s (.s .z (.b (.l ⟨[(8,.o 1705),(41,.v af)],[(1705,.l (.st SI.span))],[39,40],[1320],1706,[(8,.st SI.span)]⟩ 2 ⟨[(8,.o 1705)],[(1705,.l (.st SI.span))],[],[],1706,[]⟩ (cg (.s (.j ⟨[(8,.o 1770)],[(1770,.l (.st SI.span))],[39,40,41],[1320],1771,[]⟩ (.b (cg (.s (.j ⟨[(59,.v .bool)],[],[8,10,11,39,40,41],[1320,1705,1898],2218,[]⟩ .z) .z)))) .z))))) .z))))
theorem aeC:aH 125 (aeA n) :=cq (ak (K6 n) (ak Xl aC)) func125 aeB n
def aeD:b8 xx:=⟨[.d (.sl (.sl aB))],[.fresh (.st SI.strip)],λa=>oF n a.1,none⟩
def aeE:Hn SI:=(gR (.s (.s .z (.b (.l ⟨[(4,.o 1512),(13,.v af)],[(1512,.l af)],[3,11,12],[1128],1513,[(4,af)]⟩ 0 ⟨[(4,.o 1512)],[(1512,.l af)],[3],[1128],1513,[]⟩ .z))) (gR (.s (.s .z (.b (.l ⟨[(7,.o 1961),(8,.v af)],[(1961,.l (.st SI.strip))],[3,4],[1128,1512],1962,[(7,.st SI.strip)]⟩ 2 ⟨[(7,.o 1961)],[(1961,.l (.st SI.strip))],[],[],1962,[]⟩ .z))) .z))))
theorem RD:aH 89 (aeD n) :=cq (ak (Qe n) (ak (vH n) (ak (u7 n) (ak (aeC n) aC)))) func89 aeE n
def Sj:b8 xx:=⟨[.d (.sl (.st SI.span)),.d (.sl (.st SI.span))],[.d .bool],λa=>vz n a.1 a.2.1,none⟩
def Sk:Hn SI:=(cg (.s (.s .z (.b (.lx ⟨[(13,.v af)],[],[0,1,12],[],1576,[]⟩ 0 ⟨[],[],[],[],1576,[]⟩ .z))) .z))
theorem Sl:aH 122 (Sj n) :=cq aC func122 Sk n
def agQ:b8 xx:=⟨[.d (.sl (.st SI.strip))],[.fresh aB],λa=>Ht n a.1,none⟩
def agR:Hn SI:=(cg (.s (.s .z (.b (.l ⟨[(3,.o 1192),(4,.v af)],[(1192,.l aB)],[0],[],1193,[(3,aB)]⟩ 0 ⟨[(3,.o 1192)],[(1192,.l aB)],[],[],1193,[]⟩ (.s .z (.b (.s .z (.s (.b (.l ⟨[(5,.v af)],[],[0,3,4],[1192],1641,[]⟩ 2 ⟨[(5,.v af)],[],[0,3,4],[1192],1641,[]⟩ (.s (.s (.j ⟨[(30,.v .bool)],[],[0,3,4,5],[1192],1641,[]⟩ .z) .z) .z))) (.s (.s .z (.b (.l ⟨[(3,.o 2089),(39,.v af)],[(2089,.l aB)],[0,4,5,37,38],[],2090,[]⟩ 4 ⟨[(3,.o 2089)],[(2089,.l aB)],[0,5],[],2090,[]⟩ .z))) .z)))))))) .z))
theorem Xm:aH 88 (agQ n) :=cq (ak (Sl n) aC) func88 agR n
def abQ:b8 xx:=⟨[.d (.sl aB)],[.d (.sl aB),.d af],λa=>yJ a.1,none⟩
theorem NP:aH 87 abQ :=cq aC func87 .z 0
def amR:b8 xx:=⟨[.d (.sl aB)],[.d (.sl aB),.d af],λa=>SJ n a.1,none⟩
def amS:Hn SI:=(.s .z (.s (.s .z (.b (.lx ⟨[(8,.v af)],[],[0,6,7],[],1320,[]⟩ 0 ⟨[],[],[0],[],1320,[]⟩ .z))) .z))
theorem amT:aH 50 (amR n) :=cq (ak ql (ak (RD n) (ak (Xm n) (ak NP aC)))) func50 amS n
def Sm:b8 xx:=⟨[.d (.sl aB),.d (.sl aB)],[.d .bool],λa=>oG n a.1 a.2.1,none⟩
def Sn:Hn SI:=(cg (.s (.s .z (.b (.lx ⟨[(13,.v af)],[],[0,1,12],[],1576,[]⟩ 0 ⟨[],[],[],[],1576,[]⟩ .z))) .z))
theorem Fb:aH 51 (Sm n) :=cq aC func51 Sn n
def agS:b8 xx:=⟨[.d (.sl aB)],[.d .bool],λa=>ny n a.1,none⟩
theorem pU:aH 17 (agS n) :=cq (ak (amT n) (ak (Fb n) aC)) func17 .z n
def uG:b8 xx:=⟨[.d (.sl (.st SI.strip)),.d af,.dt [.st SI.strip,af] af],[.d af,.d .bool],λa=>jB n a.1 a.2.1 a.2.2.1,none⟩
def uH:Hn SI:=(gR (.s (.b (.l ⟨[(9,.v af),(10,.v af)],[],[0,1,2,8],[],1512,[]⟩ 0 ⟨[(9,.v af)],[],[0,1,2,8],[],1512,[]⟩ .z)) .z))
theorem uI:aH 128 (uG n) :=cq aC func128 uH n
def agT:b8 xx:=⟨[.d (.st SI.strip),.d af],[.d af],λa=>vY a.1 a.2.1,none⟩
theorem agU:aH 129 agT :=cq aC func129 .z 0
def amU:b8 xx:=⟨[.d (.sl (.st SI.strip)),.d af],[.d (.sl (.st SI.span))],λa=>V6 n a.1 a.2.1,none⟩
def amV:Hn SI:=(cg (.s (.s (.j ⟨[(25,.v .bool)],[],[0,5],[],1576,[]⟩ .z) .z) .z))
theorem amW:aH 91 (amU n) :=cq (ak (uI n) (ak agU aC)) func91 amV n
def Xn:b8 xx:=⟨[.nil,.d af],[.fresh (.st SI.span)],λa=>MW a.1 a.2.1,none⟩
theorem Xo:aH 176 Xn :=cq aC func176 .z 0
def Qh:b8 xx:=⟨[.d (.sl (.sl (.st SI.span)))],[.fresh (.st SI.span)],λa=>yK n a.1,none⟩
def Qi:Hn SI:=(cg (.s (.s .z (.b (.l ⟨[(3,.v af),(11,.v af)],[],[0,9,10],[],1320,[]⟩ 0 ⟨[(3,.v af)],[],[0],[],1320,[]⟩ .z))) (.s .z (.s (.s .z (.b (.l ⟨[(6,.o 1704),(27,.v af)],[(1704,.l (.st SI.span))],[25,26],[],1705,[]⟩ 2 ⟨[(6,.o 1704)],[(1704,.l (.st SI.span))],[],[],1705,[]⟩ .z))) .z))))
theorem Qj:aH 126 (Qh n) :=cq (ak Xo aC) func126 Qi n
def vg:b8 xx:=⟨[.d (.sl (.st SI.span)),.d af,.dt [.st SI.span,af] af],[.d af,.d .bool],λa=>jN n a.1 a.2.1 a.2.2.1,none⟩
def vk:Hn SI:=(gR (.s (.b (.l ⟨[(9,.v af),(10,.v af)],[],[0,1,2,8],[],1512,[]⟩ 0 ⟨[(9,.v af)],[],[0,1,2,8],[],1512,[]⟩ .z)) .z))
theorem vo:aH 177 (vg n) :=cq aC func177 vk n
def Xp:b8 xx:=⟨[.d (.st SI.span),.d af],[.d af],λa=>lY a.1 a.2.1,none⟩
theorem Xq:aH 178 Xp :=cq aC func178 .z 0
def aeF:b8 xx:=⟨[.d (.sl (.st SI.span)),.d af],[.d .bool],λa=>Cn n a.1 a.2.1,none⟩
theorem aeG:aH 127 (aeF n) :=cq (ak (vo n) (ak Xq aC)) func127 .z n
def agV:b8 xx:=⟨[.d (.sl (.st SI.span)),.d (.sl (.st SI.span)),.dt [.bool,.bool] .bool],[.fresh (.st SI.span)],λa=>Hu n a.1 a.2.1 a.2.2.1,none⟩
def agW:Hn SI:=(cg (.s (.s .z (.b (.l ⟨[(7,.o 1512),(19,.v af)],[(1512,.l af)],[0,1,2,17,18],[1320],1513,[(7,af)]⟩ 0 ⟨[(7,.o 1512)],[(1512,.l af)],[0,1,2],[],1513,[]⟩ .z))) (gR (.s (.s .z (.b (.l ⟨[(10,.o 1961),(11,.v af)],[(1961,.l (.st SI.span))],[0,1,2,7],[1512],1962,[(10,.st SI.span)]⟩ 2 ⟨[(10,.o 1961)],[(1961,.l (.st SI.span))],[],[],1962,[]⟩ (.s .z (.s (.j ⟨[(10,.o 2218)],[(2218,.l (.st SI.span))],[0,1,2,7,11],[1512],2219,[]⟩ (.b (gR (.s (.j ⟨[(68,.v .bool)],[],[0,1,2,7,10,11,12,13],[1512,1961],3370,[]⟩ .z) .z)))) .z))))) .z))))
theorem agX:aH 90 (agV n) :=cq (ak (Qj n) (ak (vH n) (ak (u7 n) (ak (aeG n) aC)))) func90 agW n
def abR:b8 xx:=⟨[.d (.sl aB),.d (.sl aB),.dt [.bool,.bool] .bool],[.d (.sl aB),.d af],λa=>Eg n a.1 a.2.1 a.2.2.1,none⟩
def abS:Hn SI:=(.s .z (.s (.s (.j ⟨[(20,.v .bool)],[],[0,1,2],[],1128,[]⟩ .z) .z) (.s (.f [6,7]) (.s .z (.s (.s .z (.b (.l ⟨[(33,.v af)],[(1832,.l (.st SI.strip))],[2,8,9,10,31,32],[],2152,[]⟩ 0 ⟨[],[(1832,.l (.st SI.strip))],[10],[],2152,[]⟩ .z))) .z)))))
theorem abT:aH 52 (abR n) :=cq (ak (pU n) (ak (RD n) (ak (amW n) (ak (agX n) (ak (Xm n) (ak NP aC)))))) func52 abS n
def Xr:b8 xx:=⟨[.d .bool,.d .bool],[.d .bool],λa=>xu a.1 a.2.1,none⟩
theorem Xt:aH 53 Xr :=cq aC func53 .z 0
def aeH:b8 xx:=⟨[.d (.sl aB),.d (.sl aB)],[.d (.sl aB),.d af],λa=>Co n a.1 a.2.1,none⟩
theorem aeI:aH 19 (aeH n) :=cq (ak (abT n) (ak Xt aC)) func19 .z n
def alG:b8 xx:=⟨[.d aB],[.d af],λa=>rH a.1,none⟩
theorem CK:aH 21 alG :=cq (ak RB aC) func21 .z 0
def ajB:b8 xx:=⟨[.d (.sl aB)],[.d af],λa=>Jm n a.1,none⟩
def ajC:Hn SI:=(gR (.s (.s .z (.b (.l ⟨[(3,.v af),(11,.v af)],[],[9,10],[],1512,[]⟩ 0 ⟨[(3,.v af)],[],[],[],1512,[]⟩ .z))) .z))
theorem aaj:aH 20 (ajB n) :=cq (ak (pU n) (ak CK aC)) func20 ajC n
def K7:b8 xx:=⟨[.d bE,.ref fZ],[.d .bool],λa=>uV a.1 a.2.1,none⟩
theorem K8:aH 23 K7 :=cq aC func23 .z 0
def K9:b8 xx:=⟨[.d (.sl bE),.dt [bE] .bool],[.d af],λa=>uW n a.1 a.2.1,none⟩
def La:Hn SI:=(.s .z (.s (.s .z (.b (.lx ⟨[(8,.v af)],[],[0,1,7],[],1256,[]⟩ 0 ⟨[],[],[],[],1256,[]⟩ .z))) .z))
theorem Lb:aH 55 (K9 n) :=cq aC func55 La n
def FJ:b8 xx:=⟨[.d (.sl bE),.dt [bE] .bool],[.d .bool],λa=>mZ n a.1 a.2.1,none⟩
theorem FK:aH 22 (FJ n) :=cq (ak (Lb n) aC) func22 .z n
def Sq:b8 xx:=⟨[.d (.st SI.i7),.d (.st SI.Lot),.d dF],[.d .bool],λa=>eG n a.1 a.2.1 a.2.2.1,none⟩
def Sr:Hn SI:=(.s .z (.s (.s (.j ⟨[(30,.v .bool)],[],[3,4,5],[1000,1064,1128],1256,[]⟩ .z) .z) (.s (.s .z (.b (.lx ⟨[(34,.v af)],[],[3,4,5,32,33],[1000,1064,1128,1320],1512,[]⟩ 0 ⟨[],[],[3,5],[1000,1128],1512,[]⟩ (cg (.s (.b (cg (.s (.j ⟨[(58,.v .bool)],[],[3,4,5,32,33,34],[1000,1064,1128,1320],2600,[]⟩ .z) .z))) .z))))) (.s (.s .z (.b (.lx ⟨[(63,.v af)],[],[3,61,62],[1000],1768,[]⟩ 2 ⟨[],[],[],[],1768,[]⟩ (cg (.s (.b (cg (.b (.lx ⟨[(70,.v af)],[],[3,61,62,63,68,69],[1000],2344,[]⟩ 4 ⟨[],[],[3,61,62,63],[1000],2344,[]⟩ .z)))) .z))))) .z))))
theorem Fe:aH 6 (Sq n) :=cq (ak (Iu n) (ak (pU n) (ak (Kv n) (ak (aeI n) (ak (aaj n) (ak CK (ak (FK n) (ak K8 aC)))))))) func6 Sr n
def Qk:b8 xx:=⟨[.d dF],[.fresh aF],λa=>tJ n a.1,none⟩
def Ql:Hn SI:=(cg (.s (.s .z (.b (.l ⟨[(3,.o 1448),(9,.v af)],[(1448,.l aF)],[7,8],[],1449,[(3,aF)]⟩ 0 ⟨[(3,.o 1448)],[(1448,.l aF)],[],[],1449,[]⟩ .z))) .z))
theorem Qm:aH 98 (Qk n) :=cq aC func98 Ql n
def Qn:b8 xx:=⟨[.d (.sl (.st SI.iv))],[.fresh (.st SI.side)],λa=>pI n a.1,none⟩
def Qo:Hn SI:=(cg (.s (.s .z (.b (.l ⟨[(10,.v af)],[(1192,.l (.st SI.side))],[0,3,9],[],1512,[]⟩ 0 ⟨[],[(1192,.l (.st SI.side))],[3],[],1512,[]⟩ .z))) .z))
theorem CO:aH 237 (Qn n) :=cq aC func237 Qo n
def Qp:b8 xx:=⟨[.d (.st SI.iv)],[.d .bool],λa=>tK a.1,none⟩
theorem Qq:aH 247 Qp :=cq aC func247 .z 0
def EN:b8 xx:=⟨[.d (.st SI.side)],[.d .bool],λa=>iy a.1,none⟩
theorem ul:aH 238 EN :=cq aC func238 .z 0
def abU:b8 xx:=⟨[.d (.sl af)],[.d af],λa=>uX n a.1,none⟩
def abV:Hn SI:=(cg (.s (.s .z (.b (.lx ⟨[(8,.v af)],[],[3,6,7],[],1320,[]⟩ 0 ⟨[],[],[3],[],1320,[]⟩ .z))) .z))
theorem NQ:aH 211 (abU n) :=cq aC func211 abV n
def NR:b8 xx:=⟨[.d (.st SI.iv),.d (.st SI.iv)],[.d af],λa=>q8 n a.1 a.2.1,none⟩
theorem NS:aH 248 (NR n) :=cq (ak mD (ak (NQ n) aC)) func248 .z n
def EO:b8 xx:=⟨[.d (.st SI.side),.d (.st SI.side)],[.d .bool],λa=>lZ a.1 a.2.1,none⟩
theorem EP:aH 249 EO :=cq aC func249 .z 0
def Sv:b8 xx:=⟨[.d (.sl (.st SI.iv))],[.d .bool],λa=>vB n a.1,none⟩
def Sw:Hn SI:=(.s .z (.s (.s (.j ⟨[(16,.v .bool)],[],[0],[],1064,[]⟩ .z) .z) (.s .z (.s (.s .z (.b (.lx ⟨[(21,.v af)],[],[0,3,19,20],[1128],1448,[]⟩ 0 ⟨[],[],[3],[1128],1448,[]⟩ (cg (.s (.b (cg (.s (.s (.j ⟨[(61,.v .bool)],[],[0,3,4,19,20,21],[1128],2536,[]⟩ .z) .z) (.s (.j ⟨[(74,.v .bool)],[],[0,3,19,20,21],[1128],2536,[]⟩ .z) .z)))) .z))))) (.s (.s .z (.b (.lx ⟨[(78,.v af)],[],[3,77],[1128],1640,[]⟩ 2 ⟨[],[],[3],[1128],1640,[]⟩ (cg (.s (.b (cg (.b (.lx ⟨[(8,.v af)],[],[3,7,77,78],[1128],2024,[]⟩ 4 ⟨[],[],[3,77,78],[1128],2024,[]⟩ (.s .z (.s (.b (.s (.j ⟨[(106,.v .bool)],[],[3,7,8,77,78],[1128],2280,[]⟩ .z) .z)) .z)))))) .z))))) .z)))))
theorem Sy:aH 236 (Sv n) :=cq (ak (CO n) (ak Qq (ak ul (ak (NS n) (ak EP aC))))) func236 Sw n
def Qr:b8 xx:=⟨[.d (.sl (.st SI.iv))],[.fresh aB,.d af],λa=>tL n a.1,none⟩
def Qs:Hn SI:=(gR (.s (.s .z (.b (.l ⟨[(4,.o 1576),(19,.v af)],[(1576,.l af)],[0,17,18],[],1577,[(4,af)]⟩ 0 ⟨[(4,.o 1576)],[(1576,.l af)],[0],[],1577,[]⟩ .z))) (xf (.s (.s .z (.b (.l ⟨[(8,.o 2409),(38,.v af)],[(2409,.l aB)],[4,7,37],[1576,1961],2410,[(8,aB)]⟩ 2 ⟨[(8,.o 2409)],[(2409,.l aB)],[],[],2410,[]⟩ (cg (.s (.b (cg (.s (.s .z (.b (.l ⟨[(10,.o 2858),(43,.v af)],[(2858,.l af)],[4,7,8,9,37,38,41,42],[1576,1961,2409],2859,[(10,af)]⟩ 4 ⟨[(10,.o 2858)],[(2858,.l af)],[4,7,8,9,37,38],[1576,1961,2409],2859,[]⟩ (cg (.s (.j ⟨[(10,.o 2923)],[(2923,.l af)],[4,7,8,9,37,38,41,42,43],[1576,1961,2409],2924,[]⟩ (.b (.s .z (.s (.j ⟨[(77,.v .bool)],[],[4,7,8,9,10,12,37,38,41,42,43],[1576,1961,2409,2858,3051],3179,[]⟩ .z) .z)))) .z))))) (cg (.b (.l ⟨[(8,.o 3051),(13,.v af)],[(3051,.l aB)],[4,7,9,10,37,38],[1576,1961,2858],3052,[]⟩ 6 ⟨[(8,.o 3051)],[(3051,.l aB)],[4,7,37,38],[1576,1961],3052,[]⟩ .z)))))) .z))))) .z))))
theorem Qt:aH 212 (Qr n) :=cq (ak (Sy n) (ak (vH n) (ak (u7 n) (ak (CO n) (ak ul aC))))) func212 Qs n
def Xu:b8 xx:=⟨[.d bn],[.fresh aB],λa=>xw n a.1,none⟩
theorem Xv:aH 189 (Xu n) :=cq (ak (Qt n) aC) func189 .z n
def Sz:b8 xx:=⟨[.d (.sl aB),.d (.sl aB)],[.d af,.d (.st SI.iv)],λa=>vC n a.1 a.2.1,none⟩
def SA:Hn SI:=(cg (.s (.s .z (.b (.l ⟨[(6,.v af),(18,.v af)],[(1192,vh)],[1,5,7,16,17],[1064],1576,[]⟩ 0 ⟨[(6,.v af)],[(1192,vh)],[5,7],[1064],1576,[]⟩ (cg (.s (.b (cg (.b (.l ⟨[(6,.v af),(24,.v af)],[(1192,vh)],[1,5,7,9,16,17,18,22,23],[1064,1768],2088,[]⟩ 2 ⟨[(6,.v af)],[(1192,vh)],[1,5,7,16,17,18],[1064],2088,[]⟩ (cg (.s (.j ⟨[(6,.v af)],[(1192,vh)],[1,5,7,9,16,17,18,22,23,24],[1064,1768],2152,[]⟩ .z) .z)))))) .z))))) .z))
theorem SB:aH 188 (Sz n) :=cq (ak AX (ak CK (ak mD (ak (NQ n) aC)))) func188 SA n
def SC:b8 xx:=⟨[.d (.st SI.i7),.d (.sl aB)],[.fresh af],λa=>vD n a.1 a.2.1,none⟩
def SF:Hn SI:=(gR (.s (.s .z (.b (.l ⟨[(5,.o 1640),(16,.v af)],[(1640,.l af)],[1,14,15],[],1641,[(5,af)]⟩ 0 ⟨[(5,.o 1640)],[(1640,.l af)],[],[],1641,[]⟩ .z))) .z))
theorem SG:aH 152 (SC n) :=cq (ak (pU n) (ak (Xv n) (ak (SB n) aC))) func152 SF n
def aeJ:b8 xx:=⟨[.d (.st SI.i7),.d (.sl aB)],[.fresh .str],λa=>Cq n a.1 a.2.1,none⟩
def aeK:Hn SI:=(gR (.s (.s .z (.b (.l ⟨[(6,.v af),(17,.v af)],[],[2,5,15,16],[1000,1256],1640,[]⟩ 0 ⟨[(6,.v af)],[],[2,5],[1000,1256],1640,[]⟩ (cg (.s (.j ⟨[(6,.v af)],[],[2,5,15,16,17],[1000,1256],1704,[]⟩ (.b (.s .z (.s (.j ⟨[(44,.v .bool)],[],[2,5,6,7,15,16,17],[1000,1256],2024,[]⟩ .z) .z)))) .z))))) (.s .z (.s (.s .z (.b (.l ⟨[(9,.o 1896),(49,.v af)],[(1896,.l .str)],[2,6,47,48],[1000,1256],1897,[(9,.str)]⟩ 2 ⟨[(9,.o 1896)],[(1896,.l .str)],[],[],1897,[]⟩ (cg (.s (.j ⟨[(9,.o 1961)],[(1961,.l .str)],[2,6,47,48,49],[1000,1256],1962,[]⟩ (.b (.s .z (.s (.j ⟨[(68,.v .bool)],[],[2,6,9,10,47,48,49],[1000,1256,1896],2281,[]⟩ .z) .z)))) .z))))) .z))))
theorem aeL:aH 99 (aeJ n) :=cq (ak (SG n) aC) func99 aeK n
def YH:b8 xx:=⟨[.d (.st SI.oB),.d dF],[.d (.st SI.kf),.d af],λa=>zY n a.1 a.2.1,none⟩
theorem YI:aH 69 (YH n) :=cq (ak (ajz n) (ak (Fe n) (ak (Qm n) (ak (aeL n) aC)))) func69 .z n
def NT:b8 xx:=⟨[.d (.sl .str),.d .str],[.d af],λa=>q9 n a.1 a.2.1,none⟩
def NU:Hn SI:=(.s .z (.s (.s .z (.b (.lx ⟨[(8,.v af)],[],[0,1,7],[],1256,[]⟩ 0 ⟨[],[],[],[],1256,[]⟩ .z))) .z))
theorem NV:aH 100 (NT n) :=cq aC func100 NU n
def Iw:b8 xx:=⟨[.d (.sl .str),.d .str],[.d .bool],λa=>gm n a.1 a.2.1,none⟩
theorem pV:aH 71 (Iw n) :=cq (ak (NV n) aC) func71 .z n
def Lc:b8 xx:=⟨[.d .str,.ref (.sl .str)],[.d .bool],λa=>kP n a.1 a.2.1,none⟩
theorem Ld:aH 153 (Lc n) :=cq (ak (pV n) aC) func153 .z n
def FL:b8 xx:=⟨[.d (.sl .str),.dt [.str] .bool],[.d af],λa=>qy n a.1 a.2.1,none⟩
def FM:Hn SI:=(.s .z (.s (.s .z (.b (.lx ⟨[(8,.v af)],[],[0,1,7],[],1256,[]⟩ 0 ⟨[],[],[],[],1256,[]⟩ .z))) .z))
theorem FN:aH 190 (FL n) :=cq aC func190 FM n
def AZ:b8 xx:=⟨[.d (.sl .str),.dt [.str] .bool],[.d .bool],λa=>gI n a.1 a.2.1,none⟩
theorem A7:aH 154 (AZ n) :=cq (ak (FN n) aC) func154 .z n
def SH:b8 xx:=⟨[.d aU,.d (.sl .str)],[.d .bool],λa=>qK n a.1 a.2.1,none⟩
theorem SK:aH 101 (SH n) :=cq (ak (A7 n) (ak (Ld n) aC)) func101 .z n
def Xw:b8 xx:=⟨[.d (.st SI.i7),.d (.sl .str),.d af],[.fresh af],λa=>tN n a.1 a.2.1 a.2.2.1,none⟩
def Xx:Hn SI:=(cg (.s (.s .z (.b (.l ⟨[(7,.o 1448),(13,.v af)],[(1448,.l af)],[1,2,11,12],[],1449,[(7,af)]⟩ 0 ⟨[(7,.o 1448)],[(1448,.l af)],[],[],1449,[]⟩ (cg (.s (.j ⟨[(7,.o 1513)],[(1513,.l af)],[1,2,11,12,13],[],1514,[]⟩ (.b (.s .z (.s (.j ⟨[(37,.v .bool)],[],[1,2,7,8,11,12,13],[1448],1897,[]⟩ .z) .z)))) .z))))) .z))
theorem Xy:aH 72 (Xw n) :=cq (ak (SK n) aC) func72 Xx n
def Le:b8 xx:=⟨[.mut aB,.dt [aB,aB] af],[.mu aB],λa=>uY n a.1 a.2.1,none⟩
theorem Lf:aH 57 (Le n):=by have hcall:eU Tryz.prog 57:=⟨_,func57,by kernel_rfl,by kernel_rfl⟩;refine yd hcall (λ a r h=>?_) rfl;obtain⟨l,φ,⟨⟩⟩:=a;refine ZO (X:=xx) (i:=SI.mL) (hI:=(inferInstance:Inhabited ax)) Tryz.so57 rfl hcall Tryz.underlying51 (by kernel_rfl) (λ x t ht=>?_) h;cases x;have ht:t∈[_,_,_,_]:=ht;simp only[aQ,nI,or_false]at ht;rcases ht with rfl|rfl|rfl|rfl<;>exact⟨_,rfl,trivial⟩
def CP:b8 xx:=⟨[.d aB,.d aB],[.d af],λa=>jd a.1 a.2.1,none⟩
theorem CQ:aH 58 CP :=cq (ak mD aC) func58 .z 0
def NW:b8 xx:=⟨[.d aF],[.d af],λa=>jO a.1,none⟩
def NY:Hn SI:=(.s .z (.s (.s (.j ⟨[(9,.v .bool)],[],[1],[1000],1128,[]⟩ .z) .z) .z))
theorem Aq:aH 63 NW :=cq (ak jg aC) func63 NY 0
def SL:b8 xx:=⟨[.d aF],[.d af],λa=>mJ a.1,none⟩
theorem Ff:aH 61 SL :=cq (ak jg (ak CK (ak Aq aC))) func61 .z 0
def A8:b8 xx:=⟨[.d aF],[.d af],λa=>nP a.1,none⟩
theorem A9:aH 64 A8 :=cq aC func64 .z 0
def CR:b8 xx:=⟨[.d aF],[.d af],λa=>oI a.1,none⟩
theorem CU:aH 65 CR :=cq aC func65 .z 0
def SQ:b8 xx:=⟨[.d aB,.d af],[.d aB,.d .bool],λa=>AO a.1 a.2.1,none⟩
theorem SS:aH 95 SQ :=cq (ak ql aC) func95 .z 0
def Qu:b8 xx:=⟨[.d fZ,.ref (.st SI.nj),.ref af],[.d .bool],λa=>kW a.1 a.2.1 a.2.2.1,none⟩
theorem Qv:aH 150 Qu :=cq aC func150 .z 0
def Iy:b8 xx:=⟨[.d (.sl fZ),.dt [fZ] .bool],[.d af],λa=>kX n a.1 a.2.1,none⟩
def Iz:Hn SI:=(.s .z (.s (.s .z (.b (.lx ⟨[(8,.v af)],[],[0,1,7],[],1256,[]⟩ 0 ⟨[],[],[],[],1256,[]⟩ .z))) .z))
theorem wz:aH 149 (Iy n) :=cq aC func149 Iz n
def YJ:b8 xx:=⟨[.d (.st SI.i7),.d af],[.d af],λa=>zZ n a.1 a.2.1,none⟩
def YK:Hn SI:=(cg (.s (.s .z (.b (.lx ⟨[(14,.v af)],[],[3,5,12,13],[1064,1256],1640,[]⟩ 0 ⟨[],[],[],[],1640,[]⟩ (cg (.s (.b (gR (.s (.j ⟨[(8,.v af)],[],[],[],2344,[]⟩ .z) .z))) .z))))) .z))
theorem YL:aH 96 (YJ n) :=cq (ak (wz n) (ak Qv aC)) func96 YK n
def NZ:b8 xx:=⟨[.d (.st SI.i7),.d aF],[.d af],λa=>jP n a.1 a.2.1,none⟩
def N7:Hn SI:=(cg (.s (.s (.j ⟨[(20,.v .bool)],[],[5,6],[],1704,[]⟩ .z) .z) .z))
theorem N8:aH 68 (NZ n) :=cq (ak (YL n) (ak Ff aC)) func68 N7 n
def FO:cM xx:=⟨[.p 0],[(0,eW),(1,.l aF)],[.v af],[(0,eW),(1,.l aF)],λv=>ng n v.1 v.2.1 v.2.2.1 v.2.2.2.1 v.2.2.2.2.1 v.2.2.2.2.2.1 v.2.2.2.2.2.2.1 v.2.2.2.2.2.2.2.1 v.2.2.2.2.2.2.2.2.1 v.2.2.2.2.2.2.2.2.2⟩
def FP:b8 xx:=⟨[],[.d .bool],λ_=>none,some (FO n)⟩
theorem FQ:aH 28 (FP n) :=oA (ak (aaj n) aC) func28 .z n (by kernel_rfl) λ_=>by kernel_rfl
def CV:cM xx:=⟨[.p 0],[(0,eW),(1,.l aF)],[.v af],[(0,eW),(1,.l aF)],λv=>je n v.1 v.2.1 v.2.2.1 v.2.2.2.1 v.2.2.2.2.1 v.2.2.2.2.2.1 v.2.2.2.2.2.2.1 v.2.2.2.2.2.2.2.1 v.2.2.2.2.2.2.2.2.1 v.2.2.2.2.2.2.2.2.2⟩
def CW:b8 xx:=⟨[],[.d .bool],λ_=>none,some (CV n)⟩
def CX:Hn SI:=(gR (.s (.s .z (.b (.l ⟨[(3,.o 1960),(23,.v af)],[(1448,.l aB),(1960,.l af)],[4,21,22],[0,1],1961,[(3,af)]⟩ 0 ⟨[(3,.o 1960)],[(1448,.l aB),(1960,.l af)],[4],[0,1],1961,[]⟩ .z))) (gR (.s (.s .z (.b (.l ⟨[(7,.v af),(56,.v af)],[],[3,4,55],[0,1,1448,1960],2601,[]⟩ 2 ⟨[(7,.v af)],[],[],[0,1],2601,[]⟩ (cg (.s (.b (gR (.b (.l ⟨[(7,.v af),(9,.v af),(61,.v af)],[],[3,4,8,55,56,59,60],[0,1,1448,1960],3049,[]⟩ 4 ⟨[(7,.v af)],[],[3,4,55,56],[0,1,1448,1960],3049,[]⟩ (cg (.s (.j ⟨[(7,.v af),(9,.v af)],[],[3,4,8,55,56,59,60,61],[0,1,1448,1960],3113,[]⟩ (.b (.s .z (.s (.j ⟨[(86,.v .bool)],[],[3,4,7,8,9,11,55,56,59,60,61],[0,1,1448,1960,3241],3369,[]⟩ .z) .z)))) .z)))))) .z))))) .z))))
theorem CY:aH 29 (CW n) :=oA (ak (Lf n) (ak CQ (ak (vH n) aC))) func29 CX n (by kernel_rfl) λ_=>by kernel_rfl
def FR:cM xx:=⟨[.p 0,(.f 61 [] [])],[(0,eW),(1,.l aF)],[.v af],[(0,eW),(1,.l aF)],λv=>qz n v.1 v.2.1 v.2.2.1 v.2.2.2.1 v.2.2.2.2.1 v.2.2.2.2.2.1 v.2.2.2.2.2.2.1 v.2.2.2.2.2.2.2.1 v.2.2.2.2.2.2.2.2.1 v.2.2.2.2.2.2.2.2.2⟩
def FT:b8 xx:=⟨[],[.d .bool],λ_=>none,some (FR n)⟩
def FU:Hn SI:=(cg (.s (.s .z (.b (.l ⟨[(5,.v af),(13,.v af)],[],[1,11,12],[0,1],1512,[]⟩ 0 ⟨[(5,.v af)],[],[],[0,1],1512,[]⟩ .z))) .z))
theorem FV:aH 60 (FT n) :=oA (ak Ff aC) func60 FU n (by kernel_rfl) λ_=>by kernel_rfl
def CZ:cM xx:=⟨[.p 0],[(0,eW),(1,.l aF)],[.v af],[(0,eW),(1,.l aF)],λv=>lu n v.1 v.2.1 v.2.2.1 v.2.2.2.1 v.2.2.2.2.1 v.2.2.2.2.2.1 v.2.2.2.2.2.2.1 v.2.2.2.2.2.2.2.1 v.2.2.2.2.2.2.2.2.1 v.2.2.2.2.2.2.2.2.2⟩
def C8:b8 xx:=⟨[],[.d .bool],λ_=>none,some (CZ n)⟩
theorem C9:aH 30 (C8 n) :=oA (ak (FV n) aC) func30 .z n (by kernel_rfl) λ_=>by kernel_rfl
def yS:cM xx:=⟨[.p 0,(.f 63 [] [])],[(0,eW),(1,.l aF)],[.v af],[(0,eW),(1,.l aF)],λv=>mK n v.1 v.2.1 v.2.2.1 v.2.2.2.1 v.2.2.2.2.1 v.2.2.2.2.2.1 v.2.2.2.2.2.2.1 v.2.2.2.2.2.2.2.1 v.2.2.2.2.2.2.2.2.1 v.2.2.2.2.2.2.2.2.2⟩
def yT:b8 xx:=⟨[],[.d .bool],λ_=>none,some (yS n)⟩
def yU:Hn SI:=(cg (.s (.s .z (.b (.l ⟨[(5,.v af),(13,.v af)],[],[1,11,12],[0,1],1512,[]⟩ 0 ⟨[(5,.v af)],[],[],[0,1],1512,[]⟩ .z))) .z))
theorem yV:aH 62 (yT n) :=oA (ak Aq aC) func62 yU n (by kernel_rfl) λ_=>by kernel_rfl
def Ba:cM xx:=⟨[.p 0],[(0,eW),(1,.l aF)],[.v af],[(0,eW),(1,.l aF)],λv=>j6 n v.1 v.2.1 v.2.2.1 v.2.2.2.1 v.2.2.2.2.1 v.2.2.2.2.2.1 v.2.2.2.2.2.2.1 v.2.2.2.2.2.2.2.1 v.2.2.2.2.2.2.2.2.1 v.2.2.2.2.2.2.2.2.2⟩
def Bb:b8 xx:=⟨[],[.d .bool],λ_=>none,some (Ba n)⟩
theorem Bc:aH 31 (Bb n) :=oA (ak (yV n) aC) func31 .z n (by kernel_rfl) λ_=>by kernel_rfl
def yX:cM xx:=⟨[.p 0,(.f 64 [] [])],[(0,eW),(1,.l aF)],[.v af],[(0,eW),(1,.l aF)],λv=>mM n v.1 v.2.1 v.2.2.1 v.2.2.2.1 v.2.2.2.2.1 v.2.2.2.2.2.1 v.2.2.2.2.2.2.1 v.2.2.2.2.2.2.2.1 v.2.2.2.2.2.2.2.2.1 v.2.2.2.2.2.2.2.2.2⟩
def yY:b8 xx:=⟨[],[.d .bool],λ_=>none,some (yX n)⟩
def yZ:Hn SI:=(cg (.s (.s .z (.b (.l ⟨[(5,.v af),(13,.v af)],[],[1,11,12],[0,1],1512,[]⟩ 0 ⟨[(5,.v af)],[],[],[0,1],1512,[]⟩ .z))) .z))
theorem y5:aH 62 (yY n) :=oA (ak A9 aC) func62 yZ n (by kernel_rfl) λ_=>by kernel_rfl
def Bd:cM xx:=⟨[.p 0],[(0,eW),(1,.l aF)],[.v af],[(0,eW),(1,.l aF)],λv=>kg n v.1 v.2.1 v.2.2.1 v.2.2.2.1 v.2.2.2.2.1 v.2.2.2.2.2.1 v.2.2.2.2.2.2.1 v.2.2.2.2.2.2.2.1 v.2.2.2.2.2.2.2.2.1 v.2.2.2.2.2.2.2.2.2⟩
def Be:b8 xx:=⟨[],[.d .bool],λ_=>none,some (Bd n)⟩
theorem Bf:aH 32 (Be n) :=oA (ak (y5 n) aC) func32 .z n (by kernel_rfl) λ_=>by kernel_rfl
def FW:cM xx:=⟨[.p 0,(.f 65 [] [])],[(0,eW),(1,.l aF)],[.v af],[(0,eW),(1,.l aF)],λv=>qC n v.1 v.2.1 v.2.2.1 v.2.2.2.1 v.2.2.2.2.1 v.2.2.2.2.2.1 v.2.2.2.2.2.2.1 v.2.2.2.2.2.2.2.1 v.2.2.2.2.2.2.2.2.1 v.2.2.2.2.2.2.2.2.2⟩
def FX:b8 xx:=⟨[],[.d .bool],λ_=>none,some (FW n)⟩
def FY:Hn SI:=(cg (.s (.s .z (.b (.l ⟨[(5,.v af),(13,.v af)],[],[1,11,12],[0,1],1512,[]⟩ 0 ⟨[(5,.v af)],[],[],[0,1],1512,[]⟩ .z))) .z))
theorem FZ:aH 60 (FX n) :=oA (ak CU aC) func60 FY n (by kernel_rfl) λ_=>by kernel_rfl
def Da:cM xx:=⟨[.p 0],[(0,eW),(1,.l aF)],[.v af],[(0,eW),(1,.l aF)],λv=>lC n v.1 v.2.1 v.2.2.1 v.2.2.2.1 v.2.2.2.2.1 v.2.2.2.2.2.1 v.2.2.2.2.2.2.1 v.2.2.2.2.2.2.2.1 v.2.2.2.2.2.2.2.2.1 v.2.2.2.2.2.2.2.2.2⟩
def Db:b8 xx:=⟨[],[.d .bool],λ_=>none,some (Da n)⟩
theorem Dc:aH 33 (Db n) :=oA (ak (FZ n) aC) func33 .z n (by kernel_rfl) λ_=>by kernel_rfl
def Bg:cM xx:=⟨[.p 0,.v aB,.v af],[(0,eW),(1,.l aF)],[.v .bool],[(0,eW),(1,.l aF)],λv=>kr n v.1 v.2.1 v.2.2.1 v.2.2.2.1 v.2.2.2.2.1 v.2.2.2.2.2.1 v.2.2.2.2.2.2.1 v.2.2.2.2.2.2.2.1 v.2.2.2.2.2.2.2.2.1 v.2.2.2.2.2.2.2.2.2.1 v.2.2.2.2.2.2.2.2.2.2.1 v.2.2.2.2.2.2.2.2.2.2.2⟩
def Bh:b8 xx:=⟨[],[.d .bool],λ_=>none,some (Bg n)⟩
def Bj:Hn SI:=(xf (.s (.s .z (.b (.l ⟨[(9,.v af),(27,.v af)],[],[7,25,26],[0,1,1512],2280,[]⟩ 0 ⟨[(9,.v af)],[],[7],[0,1,1512],2280,[]⟩ (cg (.s (.j ⟨[(9,.v af)],[],[7,25,26,27],[0,1,1512],2344,[]⟩ .z) .z))))) .z))
theorem Bl:aH 66 (Bh n) :=oA (ak SS (ak AX (ak CK aC))) func66 Bj n (by kernel_rfl) λ_=>by kernel_rfl
def zo:cM xx:=⟨[.p 0],[(0,eW),(1,.l aF)],[.v af],[(0,eW),(1,.l aF)],λv=>jJ n v.1 v.2.1 v.2.2.1 v.2.2.2.1 v.2.2.2.2.1 v.2.2.2.2.2.1 v.2.2.2.2.2.2.1 v.2.2.2.2.2.2.2.1 v.2.2.2.2.2.2.2.2.1 v.2.2.2.2.2.2.2.2.2⟩
def zq:b8 xx:=⟨[],[.d .bool],λ_=>none,some (zo n)⟩
def zu:Hn SI:=(cg (.s (.s .z (.b (.l ⟨[(3,.v af),(14,.v af)],[(0,eW),(1,.l aF)],[0,12,13],[],1512,[]⟩ 0 ⟨[(3,.v af)],[(0,eW),(1,.l aF)],[],[],1512,[]⟩ (cg (.s (.b (cg (.s (.b (.l ⟨[(6,.v af),(7,.v af)],[(0,eW),(1,.l aF)],[0,5,12,13,14],[1704],2024,[]⟩ 2 ⟨[(6,.v af)],[(0,eW),(1,.l aF)],[0,12,13,14],[],2024,[]⟩ .z)) .z))) .z))))) .z))
theorem zw:aH 34 (zq n) :=oA (ak (Bl n) aC) func34 zu n (by kernel_rfl) λ_=>by kernel_rfl
def wK:cM xx:=⟨[.v aF,.p 0],[(0,.c 1 [[.p 1]]),(1,tW),(2,.l aF)],[.v af],[(0,.c 1 [[.p 1]]),(1,tW),(2,.l aF)],λv=>kZ n v.1 v.2.1 v.2.2.1 v.2.2.2.1 v.2.2.2.2.1 v.2.2.2.2.2.1 v.2.2.2.2.2.2.1 v.2.2.2.2.2.2.2.1 v.2.2.2.2.2.2.2.2.1 v.2.2.2.2.2.2.2.2.2.1 v.2.2.2.2.2.2.2.2.2.2⟩
def wL:b8 xx:=⟨[],[.d .bool],λ_=>none,some (wK n)⟩
theorem wM:aH 67 (wL n) :=oA (ak (N8 n) aC) func67 .z n (by kernel_rfl) λ_=>by kernel_rfl
def F3:cM xx:=⟨[.p 0,(.f 67 [] [.p 1])],[(0,tW),(1,.c 1 [[.p 0]]),(2,.l aF)],[.v af],[(0,tW),(1,.c 1 [[.p 0]]),(2,.l aF)],λv=>qD n v.1 v.2.1 v.2.2.1 v.2.2.2.1 v.2.2.2.2.1 v.2.2.2.2.2.1 v.2.2.2.2.2.2.1 v.2.2.2.2.2.2.2.1 v.2.2.2.2.2.2.2.2.1 v.2.2.2.2.2.2.2.2.2⟩
def F4:b8 xx:=⟨[],[.d .bool],λ_=>none,some (F3 n)⟩
def F5:Hn SI:=(cg (.s (.s .z (.b (.l ⟨[(5,.v af),(13,.v af)],[(0,tW),(1,.c 1 [[.p 0]]),(2,.l aF)],[1,11,12],[],1512,[]⟩ 0 ⟨[(5,.v af)],[(0,tW),(1,.c 1 [[.p 0]]),(2,.l aF)],[],[],1512,[]⟩ .z))) .z))
theorem F6:aH 60 (F4 n) :=oA (ak (wM n) aC) func60 F5 n (by kernel_rfl) λ_=>by kernel_rfl
def zx:cM xx:=⟨[.p 0],[(0,eW),(1,.l aF)],[.v af],[(0,eW),(1,.l aF)],λv=>jK n v.1 v.2.1 v.2.2.1 v.2.2.2.1 v.2.2.2.2.1 v.2.2.2.2.2.1 v.2.2.2.2.2.2.1 v.2.2.2.2.2.2.2.1 v.2.2.2.2.2.2.2.2.1 v.2.2.2.2.2.2.2.2.2⟩
def zy:b8 xx:=⟨[],[.d .bool],λ_=>none,some (zx n)⟩
theorem zA:aH 35 (zy n) :=oA (ak (F6 n) aC) func35 .z n (by kernel_rfl) λ_=>by kernel_rfl
def abW:b8 xx:=⟨[.d (.st SI.i7),.d (.st SI.Lot),.d dF],[.fresh fZ],λa=>jk n a.1 a.2.1 a.2.2.1,none⟩
def abX:Hn SI:=(cg (.s (.j ⟨[],[(1384,.c 10 [[.v (.sl aZ),.v (.sl aS),.v (.sl bn),.v (.sl aU),.v (.sl bE),.v (.sl bB),.v (.sl aP),.v af,.v (.sl aB),.nil]])],[5,7],[1128],1512,[]⟩ .z) (.s (.s .z (.b (.l ⟨[(31,.v af)],[(1384,HF),(1960,.l aF)],[7,29,30],[1768],1961,[(6668873,aF)]⟩ 0 ⟨[],[(1384,HF),(1960,.l aF)],[7],[],1961,[]⟩ (cg (.s (.j ⟨[],[(1384,.c 10 [[.v (.sl aZ),.v (.sl aS),.v (.sl bn),.v (.sl aU),.v (.sl bE),.v (.sl bB),.v (.sl aP),.v af,.v (.sl aB),.o 2025]]),(2025,.l aF)],[7,29,30,31],[1768],2026,[]⟩ (.b (.s .z (.s (.j ⟨[(41,.v .bool)],[],[7,9,29,30,31],[1384,1768,1960,2217],2409,[]⟩ .z) .z)))) .z))))) (cg (.s (.s .z (.b (.un .z (.un .z (.un .z (.un .z (.un .z (.un .z (.un .z (.un .z (.un .z (.un .z .z)))))))))))) .z)))))
theorem N9:aH 10 (abW n) :=cq (ak (pU n) (ak (Ap n) (ak jg (ak (FQ n) (ak (CY n) (ak (C9 n) (ak (Bc n) (ak (Bf n) (ak (Dc n) (ak (zw n) (ak (zA n) aC))))))))))) func10 abX n
def agY:b8 xx:=⟨[.d af],[.d af,.d .bool],λa=>yL a.1,none⟩
def agZ:Hn SI:=(.s .z (.s (.s .z (.b (.s (.j ⟨[(5,.v .bool)],[],[0,4],[],1192,[]⟩ .z) (.s .z (.s (.j ⟨[(10,.v .bool)],[],[0,4],[],1192,[]⟩ .z) .z))))) .z))
theorem ag0:aH 213 agY :=cq aC func213 agZ 0
def aeM:Hn SI:=(cg (.s (.s (.j ⟨[(28,.v .bool)],[],[1,2],[1000],1640,[]⟩ .z) .z) (.s .z (.s (.s .z (.b (.l ⟨[(7,.v af),(32,.v af)],[],[1,30,31],[],1960,[]⟩ 0 ⟨[(7,.v af)],[],[],[],1960,[]⟩ .z))) .z))))
theorem abY(rc:(bV)->(Int)->Option Int)(hr:aH 191 (Ej rc)):aH 191 (Ej (z8 n rc)) :=cq (ak ag0 (ak hr aC)) func191 aeM n
theorem Oa(n:Nat):∀m,aH 191 (Ej (rZ n m))
 | 0=>yd (pu func191 (by kernel_rfl:Tryz.f191.body=some (Tryz.f191.body.getD .skip)) (by kernel_rfl)) (λ _ _ h=>(by cases h)) rfl
 |m+1=>abY n _ (Oa n m)
def aeN:b8 xx:=⟨[.d (.st SI.Expr),.d af],[.d af],λa=>Pw n a.1 a.2.1,none⟩
theorem aeO:aH 191 (aeN n):=Oa n n
def ag1:b8 xx:=⟨[.d (.st SI.Expr)],[.d .bool],λa=>Hw n a.1,none⟩
theorem Xz:aH 155 (ag1 n) :=cq (ak (aeO n) aC) func155 .z n
def Ob:b8 xx:=⟨[],[.fresh .str],λ_=>wG,none⟩
theorem Oc:aH 214 Ob :=cq aC func214 .z 0
mutual
theorem amX:∀g:bV,(toE g).wt<=4000000->sg (toE g) (qZ g)
 |⟨op,n,s,key,args⟩,h=>by simp only[toE,ET.wt]at h;have:=ET.qS (Hy args);simp only[toE,qZ,sg];exact⟨n,key,_,rfl,by unfold maxLen;omega,by omega,XA args (by omega)⟩
theorem XA:∀l:List bV,ET.te (Hy l)<=4000000->nF (Hy l) (sV l)
 |[],_=>by simp only[Hy,sV,nF]
 |x::xs,h=>by simp only[Hy,ET.te]at h;simp only[Hy,sV,nF];exact⟨_,_,rfl,amX x (by omega),XA xs (by omega)⟩
end
def Od:b8 xx:=⟨[],[.d .bool],λ_=>none,some ⟨[.v (.sl aZ)],[],[.p 1000],[(1000,rm)],λv=>lQ v⟩⟩
theorem aeP:∀l:List gT,rk (l.map toD)<=4000000->oa (l.map toD) (l.map Ec)
 |[],_=>by simp only[List.map_nil,oa]
 |x::xs,h=>by simp only[bH,rk,List.foldr_cons,toD,ET.wt]at h;have:=ET.qS (Hy x.el);simp only[bH,oa];refine⟨_,_,rfl,⟨_,_,_,_,_,rfl,by simp only[toD];unfold maxLen;omega,?_⟩,aeP xs (by simp only[rk];omega)⟩;simp only[toD,sg];exact⟨_,_,_,rfl,by unfold maxLen;omega,by omega,by rw[<- sW];exact XA _ (by omega)⟩
theorem Oe:aH 215 Od:=by
 have hcall:eU Tryz.prog 215:=⟨_,func215,by kernel_rfl,by kernel_rfl⟩;refine Re hcall ?_;intro v r hr;have h':lQ v=some r:=hr;unfold lQ at h';cases hb:Nat.ble (rk (List.map toD v)) 4000000 with
 |false=>rw[hb]at h';cases h'
 |true=>
  rw[hb]at h';have h'':some (v,oH (List.map toD v))=some r:=h';injection h'' with e;subst e;have hw:=Nat.le_of_ble_eq_true hb;have hlen:=TH (List.map toD v);have hn:∀d∈List.map toD v,d.2.names.length<=4000000:=λd hd=>by have h1:=TJ hd;have h2:=ET.pb d.2;omega
  exact abd (TL:=32) (TG:=313) (TI:=3) hcall (aeP v hw) λsv w hS=>ami (List.map toD v) (by omega) (λ d hd=>Nat.le_trans (hn d hd) (by omega))
   (λ d hd v0 v1 v2 v3 v4 w hE=>callsIn_wide.1 (akL 0 d.2 v0 v1 v2 v3 v4 w hE (Nat.le_trans (hn d hd) (by omega)))) sv w hS
def SV:b8 xx:=⟨[.d (.sl af),.d af],[.fresh af],λa=>qM a.1 a.2.1,none⟩
theorem SY:aH 261 SV:=by
 have hcall:eU Tryz.prog 261:=⟨_,func261,by kernel_rfl,by kernel_rfl⟩;refine yd hcall (λ a r h=>?_) rfl;obtain⟨l,c,⟨⟩⟩:=a;have h':qM l c=some r:=h
 match l,h' with
 |[x],h'=>
  simp only[qM]at h';cases hb:(decide (0<=c)&&decide (c<=1000000000000))with
  |false=>rw[hb]at h';cases h'
  |true=>
   rw[hb]at h';have h'':some (List.replicate c.toNat x)=some r:=h';injection h'' with e;subst e;simp only[bC,bF]at hb;obtain⟨h1,h2⟩:=hb;obtain⟨k,hk⟩:=Int.eq_ofNat_of_zero_le h1;subst hk;exact af3 (E:=3) (c:=k) hcall λa cap w hx=>ai0 x k (Int.ofNat_le.1 (by simpa using h2)) a cap w hx
def XB:b8 xx:=⟨[.d (.sl af),.d af],[.d af],λa=>El n a.1 a.2.1,none⟩
def XC:Hn SI:=(.s .z (.s (.s .z (.b (.lx ⟨[(8,.v af)],[],[0,1,7],[],1256,[]⟩ 0 ⟨[],[],[],[],1256,[]⟩ .z))) .z))
theorem XD:aH 267 (XB n) :=cq aC func267 XC n
def Og:b8 xx:=⟨[.d (.sl af),.d af],[.d .bool],λa=>rq n a.1 a.2.1,none⟩
theorem Oh:aH 262 (Og n) :=cq (ak (XD n) aC) func262 .z n
def Bn:b8 xx:=⟨[.ref (.st SI.graph),.d af],[.fresh af],λa=>kz n a.1 a.2.1,none⟩
def Bo:Hn SI:=(xf (.s (.b (.l ⟨[(6,.od 2024)],[(1448,.l af),(2024,.l af)],[0,5],[],2025,[]⟩ 0 ⟨[],[(1448,.l af)],[5],[],2024,[]⟩ (.s .z (.b (gR (.b (.l ⟨[(6,.od 3049),(35,.v af)],[(1448,.l af),(3049,.l af)],[0,5,7,33,34],[],3050,[]⟩ 2 ⟨[(6,.od 3049)],[(1448,.l af),(3049,.l af)],[0,5],[],3050,[]⟩ (cg (.s (.j ⟨[(6,.od 3114)],[(1448,.l af),(3114,.l af)],[0,5,7,33,34,35],[],3115,[]⟩ (.b (.s .z (.s (.j ⟨[(49,.v .bool)],[],[0,5,6,7,8,33,34,35],[1448,3049],3434,[]⟩ .z) .z)))) .z))))))))) .z))
theorem Bp:aH 253 (Bn n) :=cq (ak SY (ak (Oh n) aC)) func253 Bo n
def Lg:b8 xx:=⟨[.d .str],[.d .bool],λa=>cmp_isNaN_string a.1,none⟩
theorem Lh:aH 263 Lg :=cq aC func263 .z 0
def IA:b8 xx:=⟨[.d .str,.d .str],[.d af],λa=>nQ a.1 a.2.1,none⟩
theorem IB:aH 254 IA :=cq (ak Lh aC) func254 .z 0
def JG:b8 xx:=⟨[.d (.sl .str),.d (.sl .str)],[.d af],λa=>l9 n a.1 a.2.1,none⟩
def JH:Hn SI:=(.s .z (.s (.s .z (.b (.lx ⟨[(11,.v af)],[],[0,1,9,10],[],1256,[]⟩ 0 ⟨[],[],[0,1],[],1256,[]⟩ .z))) .z))
theorem JI:aH 241 (JG n) :=cq (ak IB aC) func241 JH n
end
end Go.Proofs
