/-
  Printed by wip/gen: that functions of the program compute this.
-/
import Derived.Test.YtbdekfpclohfnaaGreatTC1
namespace Go.Proofs
open Go.Gb Go.RowKit
noncomputable section
def Dy (n:Nat):Sig xx:=⟨[],[.d .bool],fun _=>none,some (Dx n)⟩
def Dz:Hn SI:=(.s .z (.s .z (.s .z (.s (.s .z (.b (.l ⟨[(3,(.o 1960)),(23,(.v ah))],[(1448,.l ak),(1960,.l ah)],[4,21,22],[0,1],1961,[(3,ah)]⟩ 0 ⟨[(3,(.o 1960))],[(1448,.l ak),(1960,.l ah)],[4],[0,1],1961,[]⟩ .z))) (.s .z (.s .z (.s .z (.s (.s .z (.b (.l ⟨[(7,(.v ah)),(56,(.v ah))],[],[3,4,55],[0,1,1448,1960],2601,[]⟩ 2 ⟨[(7,(.v ah))],[],[],[0,1],2601,[]⟩ (.s .z (.s .z (.s (.b (.s .z (.s .z (.s .z (.b (.l ⟨[(7,(.v ah)),(9,(.v ah)),(61,(.v ah))],[],[3,4,8,55,56,59,60],[0,1,1448,1960],3049,[]⟩ 4 ⟨[(7,(.v ah))],[],[3,4,55,56],[0,1,1448,1960],3049,[]⟩ (.s .z (.s .z (.s (.j ⟨[(7,(.v ah)),(9,(.v ah))],[],[3,4,8,55,56,59,60,61],[0,1,1448,1960],3113,[]⟩ (.b (.s .z (.s (.j ⟨[(86,(.v .bool))],[],[3,4,7,8,9,11,55,56,59,60,61],[0,1,1448,1960,3241],3369,[]⟩ .z) .z)))) .z))))))))) .z)))))) .z))))))))
theorem DF (n:Nat):aD 110 (Dy n) :=cqG (aj (Kk n) (aj Du (aj (BL n) ax))) Tryz.func110 Dz n (by kernel_rfl) fun _=>by kernel_rfl
def FY (n:Nat):GSig xx:=⟨[(.p 0),(.f 151 [] [])],[(0,.c 10 [[(.v (.sl aX)),(.v (.sl aP)),(.v (.sl aR)),(.v (.sl aO)),(.v (.sl aY)),(.v (.sl aS)),(.v (.sl aM)),(.v ah),(.v (.sl ak)),(.o 1)]]),(1,.l aH)],[(.v ah)],[(0,.c 10 [[(.v (.sl aX)),(.v (.sl aP)),(.v (.sl aR)),(.v (.sl aO)),(.v (.sl aY)),(.v (.sl aS)),(.v (.sl aM)),(.v ah),(.v (.sl ak)),(.o 1)]]),(1,.l aH)],fun v=>nZ n v.1 v.2.1 v.2.2.1 v.2.2.2.1 v.2.2.2.2.1 v.2.2.2.2.2.1 v.2.2.2.2.2.2.1 v.2.2.2.2.2.2.2.1 v.2.2.2.2.2.2.2.2.1 v.2.2.2.2.2.2.2.2.2⟩
def FZ (n:Nat):Sig xx:=⟨[],[.d .bool],fun _=>none,some (FY n)⟩
def F3:Hn SI:=(.s .z (.s .z (.s (.s .z (.b (.l ⟨[(5,(.v ah)),(13,(.v ah))],[],[1,11,12],[0,1],1512,[]⟩ 0 ⟨[(5,(.v ah))],[],[],[0,1],1512,[]⟩ .z))) .z)))
theorem F4 (n:Nat):aD 150 (FZ n) :=cqG (aj FB ax) Tryz.func150 F3 n (by kernel_rfl) fun _=>by kernel_rfl
def DI (n:Nat):GSig xx:=⟨[(.p 0)],[(0,.c 10 [[(.v (.sl aX)),(.v (.sl aP)),(.v (.sl aR)),(.v (.sl aO)),(.v (.sl aY)),(.v (.sl aS)),(.v (.sl aM)),(.v ah),(.v (.sl ak)),(.o 1)]]),(1,.l aH)],[(.v ah)],[(0,.c 10 [[(.v (.sl aX)),(.v (.sl aP)),(.v (.sl aR)),(.v (.sl aO)),(.v (.sl aY)),(.v (.sl aS)),(.v (.sl aM)),(.v ah),(.v (.sl ak)),(.o 1)]]),(1,.l aH)],fun v=>iY n v.1 v.2.1 v.2.2.1 v.2.2.2.1 v.2.2.2.2.1 v.2.2.2.2.2.1 v.2.2.2.2.2.2.1 v.2.2.2.2.2.2.2.1 v.2.2.2.2.2.2.2.2.1 v.2.2.2.2.2.2.2.2.2⟩
def DJ (n:Nat):Sig xx:=⟨[],[.d .bool],fun _=>none,some (DI n)⟩
theorem DK (n:Nat):aD 111 (DJ n) :=cqG (aj (F4 n) ax) Tryz.func111 .z n (by kernel_rfl) fun _=>by kernel_rfl
def za (n:Nat):GSig xx:=⟨[(.p 0),(.f 153 [] [])],[(0,.c 10 [[(.v (.sl aX)),(.v (.sl aP)),(.v (.sl aR)),(.v (.sl aO)),(.v (.sl aY)),(.v (.sl aS)),(.v (.sl aM)),(.v ah),(.v (.sl ak)),(.o 1)]]),(1,.l aH)],[(.v ah)],[(0,.c 10 [[(.v (.sl aX)),(.v (.sl aP)),(.v (.sl aR)),(.v (.sl aO)),(.v (.sl aY)),(.v (.sl aS)),(.v (.sl aM)),(.v ah),(.v (.sl ak)),(.o 1)]]),(1,.l aH)],fun v=>jK n v.1 v.2.1 v.2.2.1 v.2.2.2.1 v.2.2.2.2.1 v.2.2.2.2.2.1 v.2.2.2.2.2.2.1 v.2.2.2.2.2.2.2.1 v.2.2.2.2.2.2.2.2.1 v.2.2.2.2.2.2.2.2.2⟩
def zb (n:Nat):Sig xx:=⟨[],[.d .bool],fun _=>none,some (za n)⟩
def ze:Hn SI:=(.s .z (.s .z (.s (.s .z (.b (.l ⟨[(5,(.v ah)),(13,(.v ah))],[],[1,11,12],[0,1],1512,[]⟩ 0 ⟨[(5,(.v ah))],[],[],[0,1],1512,[]⟩ .z))) .z)))
theorem zf (n:Nat):aD 152 (zb n) :=cqG (aj Ba ax) Tryz.func152 ze n (by kernel_rfl) fun _=>by kernel_rfl
def BV (n:Nat):GSig xx:=⟨[(.p 0)],[(0,.c 10 [[(.v (.sl aX)),(.v (.sl aP)),(.v (.sl aR)),(.v (.sl aO)),(.v (.sl aY)),(.v (.sl aS)),(.v (.sl aM)),(.v ah),(.v (.sl ak)),(.o 1)]]),(1,.l aH)],[(.v ah)],[(0,.c 10 [[(.v (.sl aX)),(.v (.sl aP)),(.v (.sl aR)),(.v (.sl aO)),(.v (.sl aY)),(.v (.sl aS)),(.v (.sl aM)),(.v ah),(.v (.sl ak)),(.o 1)]]),(1,.l aH)],fun v=>iy n v.1 v.2.1 v.2.2.1 v.2.2.2.1 v.2.2.2.2.1 v.2.2.2.2.2.1 v.2.2.2.2.2.2.1 v.2.2.2.2.2.2.2.1 v.2.2.2.2.2.2.2.2.1 v.2.2.2.2.2.2.2.2.2⟩
def BX (n:Nat):Sig xx:=⟨[],[.d .bool],fun _=>none,some (BV n)⟩
theorem BZ (n:Nat):aD 112 (BX n) :=cqG (aj (zf n) ax) Tryz.func112 .z n (by kernel_rfl) fun _=>by kernel_rfl
def zh (n:Nat):GSig xx:=⟨[(.p 0),(.f 154 [] [])],[(0,.c 10 [[(.v (.sl aX)),(.v (.sl aP)),(.v (.sl aR)),(.v (.sl aO)),(.v (.sl aY)),(.v (.sl aS)),(.v (.sl aM)),(.v ah),(.v (.sl ak)),(.o 1)]]),(1,.l aH)],[(.v ah)],[(0,.c 10 [[(.v (.sl aX)),(.v (.sl aP)),(.v (.sl aR)),(.v (.sl aO)),(.v (.sl aY)),(.v (.sl aS)),(.v (.sl aM)),(.v ah),(.v (.sl ak)),(.o 1)]]),(1,.l aH)],fun v=>jL n v.1 v.2.1 v.2.2.1 v.2.2.2.1 v.2.2.2.2.1 v.2.2.2.2.2.1 v.2.2.2.2.2.2.1 v.2.2.2.2.2.2.2.1 v.2.2.2.2.2.2.2.2.1 v.2.2.2.2.2.2.2.2.2⟩
def zi (n:Nat):Sig xx:=⟨[],[.d .bool],fun _=>none,some (zh n)⟩
def zk:Hn SI:=(.s .z (.s .z (.s (.s .z (.b (.l ⟨[(5,(.v ah)),(13,(.v ah))],[],[1,11,12],[0,1],1512,[]⟩ 0 ⟨[(5,(.v ah))],[],[],[0,1],1512,[]⟩ .z))) .z)))
theorem zl (n:Nat):aD 152 (zi n) :=cqG (aj BU ax) Tryz.func152 zk n (by kernel_rfl) fun _=>by kernel_rfl
def Ca (n:Nat):GSig xx:=⟨[(.p 0)],[(0,.c 10 [[(.v (.sl aX)),(.v (.sl aP)),(.v (.sl aR)),(.v (.sl aO)),(.v (.sl aY)),(.v (.sl aS)),(.v (.sl aM)),(.v ah),(.v (.sl ak)),(.o 1)]]),(1,.l aH)],[(.v ah)],[(0,.c 10 [[(.v (.sl aX)),(.v (.sl aP)),(.v (.sl aR)),(.v (.sl aO)),(.v (.sl aY)),(.v (.sl aS)),(.v (.sl aM)),(.v ah),(.v (.sl ak)),(.o 1)]]),(1,.l aH)],fun v=>iA n v.1 v.2.1 v.2.2.1 v.2.2.2.1 v.2.2.2.2.1 v.2.2.2.2.2.1 v.2.2.2.2.2.2.1 v.2.2.2.2.2.2.2.1 v.2.2.2.2.2.2.2.2.1 v.2.2.2.2.2.2.2.2.2⟩
def Cb (n:Nat):Sig xx:=⟨[],[.d .bool],fun _=>none,some (Ca n)⟩
theorem Cc (n:Nat):aD 113 (Cb n) :=cqG (aj (zl n) ax) Tryz.func113 .z n (by kernel_rfl) fun _=>by kernel_rfl
def F5 (n:Nat):GSig xx:=⟨[(.p 0),(.f 155 [] [])],[(0,.c 10 [[(.v (.sl aX)),(.v (.sl aP)),(.v (.sl aR)),(.v (.sl aO)),(.v (.sl aY)),(.v (.sl aS)),(.v (.sl aM)),(.v ah),(.v (.sl ak)),(.o 1)]]),(1,.l aH)],[(.v ah)],[(0,.c 10 [[(.v (.sl aX)),(.v (.sl aP)),(.v (.sl aR)),(.v (.sl aO)),(.v (.sl aY)),(.v (.sl aS)),(.v (.sl aM)),(.v ah),(.v (.sl ak)),(.o 1)]]),(1,.l aH)],fun v=>og n v.1 v.2.1 v.2.2.1 v.2.2.2.1 v.2.2.2.2.1 v.2.2.2.2.2.1 v.2.2.2.2.2.2.1 v.2.2.2.2.2.2.2.1 v.2.2.2.2.2.2.2.2.1 v.2.2.2.2.2.2.2.2.2⟩
def F6 (n:Nat):Sig xx:=⟨[],[.d .bool],fun _=>none,some (F5 n)⟩
def F7:Hn SI:=(.s .z (.s .z (.s (.s .z (.b (.l ⟨[(5,(.v ah)),(13,(.v ah))],[],[1,11,12],[0,1],1512,[]⟩ 0 ⟨[(5,(.v ah))],[],[],[0,1],1512,[]⟩ .z))) .z)))
theorem F8 (n:Nat):aD 150 (F6 n) :=cqG (aj Dw ax) Tryz.func150 F7 n (by kernel_rfl) fun _=>by kernel_rfl
def DL (n:Nat):GSig xx:=⟨[(.p 0)],[(0,.c 10 [[(.v (.sl aX)),(.v (.sl aP)),(.v (.sl aR)),(.v (.sl aO)),(.v (.sl aY)),(.v (.sl aS)),(.v (.sl aM)),(.v ah),(.v (.sl ak)),(.o 1)]]),(1,.l aH)],[(.v ah)],[(0,.c 10 [[(.v (.sl aX)),(.v (.sl aP)),(.v (.sl aR)),(.v (.sl aO)),(.v (.sl aY)),(.v (.sl aS)),(.v (.sl aM)),(.v ah),(.v (.sl ak)),(.o 1)]]),(1,.l aH)],fun v=>iZ n v.1 v.2.1 v.2.2.1 v.2.2.2.1 v.2.2.2.2.1 v.2.2.2.2.2.1 v.2.2.2.2.2.2.1 v.2.2.2.2.2.2.2.1 v.2.2.2.2.2.2.2.2.1 v.2.2.2.2.2.2.2.2.2⟩
def DR (n:Nat):Sig xx:=⟨[],[.d .bool],fun _=>none,some (DL n)⟩
theorem DT (n:Nat):aD 114 (DR n) :=cqG (aj (F8 n) ax) Tryz.func114 .z n (by kernel_rfl) fun _=>by kernel_rfl
def Ce (n:Nat):GSig xx:=⟨[(.p 0),(.v ak),(.v ah)],[(0,.c 10 [[(.v (.sl aX)),(.v (.sl aP)),(.v (.sl aR)),(.v (.sl aO)),(.v (.sl aY)),(.v (.sl aS)),(.v (.sl aM)),(.v ah),(.v (.sl ak)),(.o 1)]]),(1,.l aH)],[(.v .bool)],[(0,.c 10 [[(.v (.sl aX)),(.v (.sl aP)),(.v (.sl aR)),(.v (.sl aO)),(.v (.sl aY)),(.v (.sl aS)),(.v (.sl aM)),(.v ah),(.v (.sl ak)),(.o 1)]]),(1,.l aH)],fun v=>iC n v.1 v.2.1 v.2.2.1 v.2.2.2.1 v.2.2.2.2.1 v.2.2.2.2.2.1 v.2.2.2.2.2.2.1 v.2.2.2.2.2.2.2.1 v.2.2.2.2.2.2.2.2.1 v.2.2.2.2.2.2.2.2.2.1 v.2.2.2.2.2.2.2.2.2.2.1 v.2.2.2.2.2.2.2.2.2.2.2⟩
def Cf (n:Nat):Sig xx:=⟨[],[.d .bool],fun _=>none,some (Ce n)⟩
def Cg:Hn SI:=(.s .z (.s .z (.s .z (.s .z (.s (.s .z (.b (.l ⟨[(9,(.v ah)),(27,(.v ah))],[],[7,25,26],[0,1,1512],2280,[]⟩ 0 ⟨[(9,(.v ah))],[],[7],[0,1,1512],2280,[]⟩ (.s .z (.s .z (.s (.j ⟨[(9,(.v ah))],[],[7,25,26,27],[0,1,1512],2344,[]⟩ .z) .z)))))) .z)))))
theorem Ch (n:Nat):aD 156 (Cf n) :=cqG (aj P5 (aj UW (aj TQ ax))) Tryz.func156 Cg n (by kernel_rfl) fun _=>by kernel_rfl
def zW (n:Nat):GSig xx:=⟨[(.p 0)],[(0,.c 10 [[(.v (.sl aX)),(.v (.sl aP)),(.v (.sl aR)),(.v (.sl aO)),(.v (.sl aY)),(.v (.sl aS)),(.v (.sl aM)),(.v ah),(.v (.sl ak)),(.o 1)]]),(1,.l aH)],[(.v ah)],[(0,.c 10 [[(.v (.sl aX)),(.v (.sl aP)),(.v (.sl aR)),(.v (.sl aO)),(.v (.sl aY)),(.v (.sl aS)),(.v (.sl aM)),(.v ah),(.v (.sl ak)),(.o 1)]]),(1,.l aH)],fun v=>gQ n v.1 v.2.1 v.2.2.1 v.2.2.2.1 v.2.2.2.2.1 v.2.2.2.2.2.1 v.2.2.2.2.2.2.1 v.2.2.2.2.2.2.2.1 v.2.2.2.2.2.2.2.2.1 v.2.2.2.2.2.2.2.2.2⟩
def zX (n:Nat):Sig xx:=⟨[],[.d .bool],fun _=>none,some (zW n)⟩
def zY:Hn SI:=(.s .z (.s .z (.s (.s .z (.b (.l ⟨[(3,(.v ah)),(14,(.v ah))],[(0,.c 10 [[(.v (.sl aX)),(.v (.sl aP)),(.v (.sl aR)),(.v (.sl aO)),(.v (.sl aY)),(.v (.sl aS)),(.v (.sl aM)),(.v ah),(.v (.sl ak)),(.o 1)]]),(1,.l aH)],[0,12,13],[],1512,[]⟩ 0 ⟨[(3,(.v ah))],[(0,.c 10 [[(.v (.sl aX)),(.v (.sl aP)),(.v (.sl aR)),(.v (.sl aO)),(.v (.sl aY)),(.v (.sl aS)),(.v (.sl aM)),(.v ah),(.v (.sl ak)),(.o 1)]]),(1,.l aH)],[],[],1512,[]⟩ (.s .z (.s .z (.s (.b (.s .z (.s .z (.s (.b (.l ⟨[(6,(.v ah)),(7,(.v ah))],[(0,.c 10 [[(.v (.sl aX)),(.v (.sl aP)),(.v (.sl aR)),(.v (.sl aO)),(.v (.sl aY)),(.v (.sl aS)),(.v (.sl aM)),(.v ah),(.v (.sl ak)),(.o 1)]]),(1,.l aH)],[0,5,12,13,14],[1704],2024,[]⟩ 2 ⟨[(6,(.v ah))],[(0,.c 10 [[(.v (.sl aX)),(.v (.sl aP)),(.v (.sl aR)),(.v (.sl aO)),(.v (.sl aY)),(.v (.sl aS)),(.v (.sl aM)),(.v ah),(.v (.sl ak)),(.o 1)]]),(1,.l aH)],[0,12,13,14],[],2024,[]⟩ .z)) .z)))) .z)))))) .z)))
theorem zZ (n:Nat):aD 115 (zX n) :=cqG (aj (Ch n) ax) Tryz.func115 zY n (by kernel_rfl) fun _=>by kernel_rfl
def wz (n:Nat):GSig xx:=⟨[(.v aH),(.p 0)],[(0,.c 1 [[(.p 1)]]),(1,.c 10 [[(.v (.sl aX)),(.v (.sl aP)),(.v (.sl aR)),(.v (.sl aO)),(.v (.sl aY)),(.v (.sl aS)),(.v (.sl aM)),(.v ah),(.v (.sl ak)),(.o 2)]]),(2,.l aH)],[(.v ah)],[(0,.c 1 [[(.p 1)]]),(1,.c 10 [[(.v (.sl aX)),(.v (.sl aP)),(.v (.sl aR)),(.v (.sl aO)),(.v (.sl aY)),(.v (.sl aS)),(.v (.sl aM)),(.v ah),(.v (.sl ak)),(.o 2)]]),(2,.l aH)],fun v=>iV n v.1 v.2.1 v.2.2.1 v.2.2.2.1 v.2.2.2.2.1 v.2.2.2.2.2.1 v.2.2.2.2.2.2.1 v.2.2.2.2.2.2.2.1 v.2.2.2.2.2.2.2.2.1 v.2.2.2.2.2.2.2.2.2.1 v.2.2.2.2.2.2.2.2.2.2⟩
def wB (n:Nat):Sig xx:=⟨[],[.d .bool],fun _=>none,some (wz n)⟩
theorem wC (n:Nat):aD 157 (wB n) :=cqG (aj (Mr n) ax) Tryz.func157 .z n (by kernel_rfl) fun _=>by kernel_rfl
def F9 (n:Nat):GSig xx:=⟨[(.p 0),(.f 157 [] [(.p 1)])],[(0,.c 10 [[(.v (.sl aX)),(.v (.sl aP)),(.v (.sl aR)),(.v (.sl aO)),(.v (.sl aY)),(.v (.sl aS)),(.v (.sl aM)),(.v ah),(.v (.sl ak)),(.o 2)]]),(1,.c 1 [[(.p 0)]]),(2,.l aH)],[(.v ah)],[(0,.c 10 [[(.v (.sl aX)),(.v (.sl aP)),(.v (.sl aR)),(.v (.sl aO)),(.v (.sl aY)),(.v (.sl aS)),(.v (.sl aM)),(.v ah),(.v (.sl ak)),(.o 2)]]),(1,.c 1 [[(.p 0)]]),(2,.l aH)],fun v=>oh n v.1 v.2.1 v.2.2.1 v.2.2.2.1 v.2.2.2.2.1 v.2.2.2.2.2.1 v.2.2.2.2.2.2.1 v.2.2.2.2.2.2.2.1 v.2.2.2.2.2.2.2.2.1 v.2.2.2.2.2.2.2.2.2⟩
def Ga (n:Nat):Sig xx:=⟨[],[.d .bool],fun _=>none,some (F9 n)⟩
def Gc:Hn SI:=(.s .z (.s .z (.s (.s .z (.b (.l ⟨[(5,(.v ah)),(13,(.v ah))],[(0,.c 10 [[(.v (.sl aX)),(.v (.sl aP)),(.v (.sl aR)),(.v (.sl aO)),(.v (.sl aY)),(.v (.sl aS)),(.v (.sl aM)),(.v ah),(.v (.sl ak)),(.o 2)]]),(1,.c 1 [[(.p 0)]]),(2,.l aH)],[1,11,12],[],1512,[]⟩ 0 ⟨[(5,(.v ah))],[(0,.c 10 [[(.v (.sl aX)),(.v (.sl aP)),(.v (.sl aR)),(.v (.sl aO)),(.v (.sl aY)),(.v (.sl aS)),(.v (.sl aM)),(.v ah),(.v (.sl ak)),(.o 2)]]),(1,.c 1 [[(.p 0)]]),(2,.l aH)],[],[],1512,[]⟩ .z))) .z)))
theorem Gd (n:Nat):aD 150 (Ga n) :=cqG (aj (wC n) ax) Tryz.func150 Gc n (by kernel_rfl) fun _=>by kernel_rfl
def z8 (n:Nat):GSig xx:=⟨[(.p 0)],[(0,.c 10 [[(.v (.sl aX)),(.v (.sl aP)),(.v (.sl aR)),(.v (.sl aO)),(.v (.sl aY)),(.v (.sl aS)),(.v (.sl aM)),(.v ah),(.v (.sl ak)),(.o 1)]]),(1,.l aH)],[(.v ah)],[(0,.c 10 [[(.v (.sl aX)),(.v (.sl aP)),(.v (.sl aR)),(.v (.sl aO)),(.v (.sl aY)),(.v (.sl aS)),(.v (.sl aM)),(.v ah),(.v (.sl ak)),(.o 1)]]),(1,.l aH)],fun v=>gT n v.1 v.2.1 v.2.2.1 v.2.2.2.1 v.2.2.2.2.1 v.2.2.2.2.2.1 v.2.2.2.2.2.2.1 v.2.2.2.2.2.2.2.1 v.2.2.2.2.2.2.2.2.1 v.2.2.2.2.2.2.2.2.2⟩
def Aa (n:Nat):Sig xx:=⟨[],[.d .bool],fun _=>none,some (z8 n)⟩
theorem Ab (n:Nat):aD 116 (Aa n) :=cqG (aj (Gd n) ax) Tryz.func116 .z n (by kernel_rfl) fun _=>by kernel_rfl
def Yc (n:Nat):Sig xx:=⟨[.d (.st SI.Plan),.d (.st SI.Lot),.d (.st SI.Drawing)],[.fresh (.st SI.Entry)],fun a=>EC n a.1 a.2.1 a.2.2.1,none⟩
def Yd:Hn SI:=(.s .z (.s .z (.s (.j ⟨[],[(1384,.c 10 [[(.v (.sl aX)),(.v (.sl aP)),(.v (.sl aR)),(.v (.sl aO)),(.v (.sl aY)),(.v (.sl aS)),(.v (.sl aM)),(.v ah),(.v (.sl ak)),.nil]])],[5,7],[1128],1512,[]⟩ .z) (.s (.s .z (.b (.l ⟨[(31,(.v ah))],[(1384,.c 10 [[(.v (.sl aX)),(.v (.sl aP)),(.v (.sl aR)),(.v (.sl aO)),(.v (.sl aY)),(.v (.sl aS)),(.v (.sl aM)),(.v ah),(.v (.sl ak)),(.o 1960)]]),(1960,.l aH)],[7,29,30],[1768],1961,[(6668873,aH)]⟩ 0 ⟨[],[(1384,.c 10 [[(.v (.sl aX)),(.v (.sl aP)),(.v (.sl aR)),(.v (.sl aO)),(.v (.sl aY)),(.v (.sl aS)),(.v (.sl aM)),(.v ah),(.v (.sl ak)),(.o 1960)]]),(1960,.l aH)],[7],[],1961,[]⟩ (.s .z (.s .z (.s (.j ⟨[],[(1384,.c 10 [[(.v (.sl aX)),(.v (.sl aP)),(.v (.sl aR)),(.v (.sl aO)),(.v (.sl aY)),(.v (.sl aS)),(.v (.sl aM)),(.v ah),(.v (.sl ak)),(.o 2025)]]),(2025,.l aH)],[7,29,30,31],[1768],2026,[]⟩ (.b (.s .z (.s (.j ⟨[(41,(.v .bool))],[],[7,9,29,30,31],[1384,1768,1960,2217],2409,[]⟩ .z) .z)))) .z)))))) (.s .z (.s .z (.s (.s .z (.b (.un .z (.un .z (.un .z (.un .z (.un .z (.un .z (.un .z (.un .z (.un .z (.un .z .z)))))))))))) .z)))))))
theorem Ye (n:Nat):aD 66 (Yc n) :=cq (aj (Ki n) (aj (Mi n) (aj lu (aj (FX n) (aj (DF n) (aj (DK n) (aj (BZ n) (aj (Cc n) (aj (DT n) (aj (zZ n) (aj (Ab n) ax))))))))))) Tryz.func66 Yd n (by kernel_rfl) rfl fun _=>by kernel_rfl
def Kl (n:Nat):Sig xx:=⟨[.d (.st SI.Town),.d (.st SI.Lot),.d (.st SI.Drawing)],[.d ah],fun a=>ni n a.1 a.2.1 a.2.2.1,none⟩
def Km:Hn SI:=(.s .z (.s (.s .z (.b (.lx ⟨[(15,(.v ah))],[],[13,14],[1512],1704,[]⟩ 0 ⟨[],[],[],[],1704,[]⟩ .z))) .z))
theorem Kn (n:Nat):aD 33 (Kl n) :=cq (aj (Ye n) ax) Tryz.func33 Km n (by kernel_rfl) rfl fun _=>by kernel_rfl
def Gf (n:Nat):Sig xx:=⟨[.ref (.st SI.Town),.ref (.st SI.Lot),.ref (.st SI.Drawing)],[.d ah],fun a=>jQ n a.1 a.2.1 a.2.2.1,none⟩
theorem Gg (n:Nat):aD 32 (Gf n) :=cq (aj (Kn n) ax) Tryz.func32 .z n (by kernel_rfl) rfl fun _=>by kernel_rfl
def afM:Sig xx:=⟨[.d ak,.d ak],[.d ah,.d ah],fun a=>afa a.1 a.2.1,none⟩
theorem afN:aD 159 afM :=cq ax Tryz.func159 .z 0 (by kernel_rfl) rfl fun _=>by kernel_rfl
def agN:Sig xx:=⟨[.d ak,.d ak],[.d ah],fun a=>acF a.1 a.2.1,none⟩
def agO:Hn SI:=(.s .z (.s (.s (.j ⟨[(14,(.v .bool))],[],[2,3],[1000,1064],1192,[]⟩ .z) .z) .z))
theorem agP:aD 117 agN :=cq (aj xM (aj afN ax)) Tryz.func117 agO 0 (by kernel_rfl) rfl fun _=>by kernel_rfl
def afO (n:Nat):Sig xx:=⟨[.d (.sl ak),.d (.sl ak)],[.d ah,.d .bool],fun a=>SQ n a.1 a.2.1,none⟩
def afP:Hn SI:=(.s .z (.s (.s (.j ⟨[(28,(.v .bool))],[],[0,1],[],1128,[]⟩ .z) .z) (.s .z (.s (.s .z (.b (.l ⟨[(6,(.v ah)),(31,(.v ah))],[],[1,29,30],[],1384,[]⟩ 0 ⟨[(6,(.v ah))],[],[],[],1384,[]⟩ (.s .z (.s .z (.s (.b (.s .z (.s .z (.b (.l ⟨[(6,(.v ah)),(37,(.v ah))],[],[1,8,29,30,31,35,36],[1576],1896,[]⟩ 2 ⟨[(6,(.v ah))],[],[1,29,30,31],[],1896,[]⟩ .z))))) .z)))))) .z))))
theorem afQ (n:Nat):aD 67 (afO n) :=cq (aj (Ki n) (aj agP ax)) Tryz.func67 afP n (by kernel_rfl) rfl fun _=>by kernel_rfl
def aeb (n:Nat):Sig xx:=⟨[.d (.sl (.st SI.Lot)),.d ah,.d ah],[.fresh ah],fun a=>Qw n a.1 a.2.1 a.2.2.1,none⟩
def aec:Hn SI:=(.s .z (.s .z (.s .z (.s .z (.s (.s .z (.b (.l ⟨[(9,(.o 2024)),(27,(.v ah))],[(2024,.l (.sl ak))],[0,1,2,7,25,26],[1448],2025,[(9,(.sl ak))]⟩ 0 ⟨[(9,(.o 2024))],[(2024,.l (.sl ak))],[0,1,2,7],[1448],2025,[]⟩ .z))) (.s .z (.s (.s .z (.b (.l ⟨[(12,(.o 2281)),(39,(.v ah))],[(2281,.l ah)],[0,1,2,7,37,38],[1448,2024],2282,[(12,ah)]⟩ 2 ⟨[(12,(.o 2281))],[(2281,.l ah)],[],[],2282,[]⟩ (.s .z (.s .z (.s (.j ⟨[(12,(.o 2346))],[(2346,.l ah)],[0,1,2,7,37,38,39],[1448,2024],2347,[]⟩ (.b (.s .z (.s .z (.s (.j ⟨[(65,(.v .bool))],[],[0,1,2,7,12,13,37,38,39],[1448,2024,2281],3242,[]⟩ .z) .z))))) .z)))))) .z)))))))
theorem aed (n:Nat):aD 35 (aeb n) :=cq (aj (Ws n) (aj (afQ n) (aj (BL n) (aj (Dk n) ax)))) Tryz.func35 aec n (by kernel_rfl) rfl fun _=>by kernel_rfl
def Gh (n:Nat):Sig xx:=⟨[.ref (.st SI.Town),.ref (.st SI.Drawing)],[.d ah],fun a=>jR n a.1 a.2.1,none⟩
theorem Gi (n:Nat):aD 34 (Gh n) :=cq (aj (aed n) ax) Tryz.func34 .z n (by kernel_rfl) rfl fun _=>by kernel_rfl
def Gj:Sig xx:=⟨[.ref (.st SI.Lot)],[.d ah],fun a=>om a.1,none⟩
theorem Gl:aD 36 Gj :=cq ax Tryz.func36 .z 0 (by kernel_rfl) rfl fun _=>by kernel_rfl
def Ko (n:Nat):Sig xx:=⟨[.d (.st SI.Town),.d (.st SI.Drawing),.d (.sl .str)],[.fresh ah],fun a=>nk n a.1 a.2.1 a.2.2.1,none⟩
def Kq:Hn SI:=(.s .z (.s .z (.s .z (.s .z (.s (.s .z (.b (.un .z (.un .z (.un .z (.un .z (.un .z .z))))))) .z)))))
theorem Kr (n:Nat):aD 11 (Ko n) :=cq (aj (Ws n) (aj (FR n) (aj (Gg n) (aj (Gi n) (aj Gl ax))))) Tryz.func11 Kq n (by kernel_rfl) rfl fun _=>by kernel_rfl
def Ms (n:Nat):Sig xx:=⟨[.d (.st SI.Town),.d (.sl bR),.d (.st SI.Drawing),.d (.sl .str)],[.fresh ah],fun a=>pu n a.1 a.2.1 a.2.2.1 a.2.2.2.1,none⟩
def Mt:Hn SI:=(.s .z (.s .z (.s .z (.s .z (.s (.s .z (.b (.l ⟨[(27,(.v ah))],[(1832,.l ah)],[9,10,25,26],[1576],2152,[]⟩ 0 ⟨[],[(1832,.l ah)],[10],[],2152,[]⟩ (.s .z (.s .z (.s (.b (.s .z (.s .z (.s .z (.s (.j ⟨[(14,(.v ah))],[],[9,10,11,25,26,27],[1576,1832],3368,[]⟩ .z) .z))))) .z)))))) .z)))))
theorem Mv (n:Nat):aD 8 (Ms n) :=cq (aj (yS n) (aj (Kr n) ax)) Tryz.func8 Mt n (by kernel_rfl) rfl fun _=>by kernel_rfl
def U0 (n:Nat):Sig xx:=⟨[.d (.st SI.A144_bool),.d ah],[.d (.st SI.A12_i64)],fun a=>uV n a.1 a.2.1,none⟩
def U1:Hn SI:=(.s .z (.s .z (.s (.s .z (.b (.l ⟨[(9,(.v ah))],[(1128,.l ah)],[1,2,4,5],[1000,1064],1256,[]⟩ 0 ⟨[],[(1128,.l ah)],[1,2,4,5],[1000,1064],1256,[]⟩ .z))) (.s .z (.s (.s .z (.b (.l ⟨[(17,(.v ah))],[(1128,.l ah)],[1,2,4,5],[1000,1064],1512,[]⟩ 2 ⟨[],[(1128,.l ah)],[4,5],[1064],1512,[]⟩ (.s .z (.s .z (.s (.b (.s .z (.b (.l ⟨[(7,(.v ah))],[(1128,.l ah)],[1,2,4,5,17],[1000,1064],1704,[]⟩ 4 ⟨[],[(1128,.l ah)],[1,2,4,5,17],[1000,1064],1704,[]⟩ (.s .z (.s (.b (.s .z (.b (.l ⟨[(8,(.v ah))],[(1128,.l ah)],[1,2,4,5,7,17],[1000,1064],1960,[]⟩ 6 ⟨[],[(1128,.l ah)],[1,2,4,5,7,17],[1000,1064],1960,[]⟩ (.s .z (.s (.j ⟨[],[(1128,.l ah)],[1,2,4,5,7,8,17],[1000,1064],2088,[]⟩ (.b (.s (.j ⟨[(38,(.v .bool))],[],[1,2,4,5,7,8,17],[1000,1064,1128],2088,[]⟩ .z) .z))) .z)))))) .z)))))) .z)))))) .z)))))
theorem U2 (n:Nat):aD 200 (U0 n) :=cq ax Tryz.func200 U1 n (by kernel_rfl) rfl fun _=>by kernel_rfl
def P6 (n:Nat):Sig xx:=⟨[.d (.st SI.A144_bool)],[.fresh ah],fun a=>uo n a.1,none⟩
def P7:Hn SI:=(.s .z (.s .z (.s (.s .z (.b (.l ⟨[(3,(.v ah)),(4,(.v ah)),(11,(.v ah))],[],[1],[1000],1320,[]⟩ 0 ⟨[(3,(.v ah)),(4,(.v ah))],[],[1],[1000],1320,[]⟩ (.s .z (.s .z (.s (.b (.s .z (.s .z (.s .z (.b (.l ⟨[(3,(.v ah)),(4,(.v ah)),(7,(.v ah))],[],[1,5,6,11],[1000,1704],1960,[]⟩ 2 ⟨[(3,(.v ah)),(4,(.v ah))],[],[1,11],[1000],1960,[]⟩ (.s .z (.s (.j ⟨[(3,(.v ah)),(4,(.v ah))],[],[1,5,6,7,11],[1000,1704],2088,[]⟩ (.b (.s (.j ⟨[(34,(.v .bool))],[],[1,3,4,5,6,7,11],[1000,1704],2088,[]⟩ .z) .z))) .z)))))))) .z)))))) (.s .z (.s .z (.s (.b (.l ⟨[(9,(.o 1960))],[(1960,.l ah)],[1,3,4,8],[1000,1768],1961,[]⟩ 4 ⟨[(9,(.o 1960))],[(1960,.l ah)],[],[],1961,[]⟩ (.s .z (.b (.s .z (.b (.l ⟨[(9,(.o 1960)),(10,(.v ah))],[(1960,.l ah)],[1,3,4,8],[1000,1768],2345,[]⟩ 6 ⟨[(9,(.o 2345))],[(2345,.l ah)],[1,3,4,8],[1000,1768],2346,[]⟩ (.s (.b (.s (.j ⟨[(74,(.v .bool))],[],[1,3,4,8,9,10],[1000,1768,1960],2345,[]⟩ .z) .z)) .z)))))))) .z))))))
theorem P8 (n:Nat):aD 178 (P6 n) :=cq (aj (U2 n) ax) Tryz.func178 P7 n (by kernel_rfl) rfl fun _=>by kernel_rfl
def P9:Sig xx:=⟨[.d (.sl .bool)],[.fresh .bool],fun a=>Bz a.1,none⟩
theorem Qa:aD 179 P9 :=cq ax Tryz.func179 .z 0 (by kernel_rfl) rfl fun _=>by kernel_rfl
def Od (n:Nat):Sig xx:=⟨[.d bR],[.fresh (.sl .bool),.d (.sl ah),.d ah],fun a=>qR n a.1,none⟩
def Oe:Hn SI:=(.s .z (.s .z (.s .z (.s .z (.s (.s .z (.b (.l ⟨[(7,(.o 2472)),(26,(.v ah))],[(2472,.l (.sl .bool))],[1,5,25],[1000,1576],2473,[(7,(.sl .bool))]⟩ 1 ⟨[(7,(.o 2472))],[(2472,.l (.sl .bool))],[],[],2473,[]⟩ .z))) .z)))))
theorem Og (n:Nat):aD 131 (Od n) :=cq (aj (vR n) (aj (H8 n) (aj (H9 n) (aj (P8 n) (aj Qa ax))))) Tryz.func131 Oe n (by kernel_rfl) rfl fun _=>by kernel_rfl
def Oh (n:Nat):Sig xx:=⟨[.d (.sl bR)],[.fresh (.sl (.sl .bool)),.d .bool],fun a=>qU n a.1,none⟩
def Oi:Hn SI:=(.s .z (.s .z (.s .z (.s (.s .z (.b (.lx ⟨[(4,(.o 1576)),(15,(.v ah))],[(1576,.l (.sl (.sl .bool)))],[13,14],[],1577,[(4,(.sl (.sl .bool)))]⟩ 0 ⟨[(4,(.o 1576))],[(1576,.l (.sl (.sl .bool)))],[],[],1577,[]⟩ .z))) .z))))
theorem Oj (n:Nat):aD 99 (Oh n) :=cq (aj (Og n) ax) Tryz.func99 Oi n (by kernel_rfl) rfl fun _=>by kernel_rfl
def xA (n:Nat):Sig xx:=⟨[.d (.sl (.sl (.sl .bool))),.d (.sl ah)],[.d .bool],fun a=>bU n a.1 a.2.1,none⟩
def xB:Hn SI:=(.s .z (.s .z (.s (.s .z (.b (.lx ⟨[(14,(.v ah))],[],[0,12,13],[],1576,[]⟩ 0 ⟨[],[],[],[],1576,[]⟩ (.s .z (.s .z (.s (.b (.s .z (.s (.j ⟨[(29,(.v .bool))],[],[0,12,13,14],[],1960,[]⟩ .z) .z))) .z)))))) .z)))
theorem iE (n:Nat):aD 82 (xA n) :=cq ax Tryz.func82 xB n (by kernel_rfl) rfl fun _=>by kernel_rfl
def Mw (n:Nat):Sig xx:=⟨[.d (.sl bR),.d (.sl aW)],[.fresh (.sl (.sl .bool)),.d .bool],fun a=>gY n a.1 a.2.1,none⟩
def MB:Hn SI:=(.s .z (.s .z (.s .z (.s (.s .z (.b (.lx ⟨[(19,(.v ah))],[(1576,.m ah .bool)],[1,6,7,8,17,18],[1192],1896,[]⟩ 0 ⟨[],[],[1,6,7],[1192],1896,[]⟩ (.s .z (.s .z (.s (.b (.s .z (.s (.s (.j ⟨[(37,(.v .bool))],[],[1,6,7,8,10,17,18,19],[1192,1576,2088],2216,[]⟩ .z) .z) .z))) .z)))))) .z))))
theorem lU (n:Nat):aD 55 (Mw n) :=cq (aj (Oj n) (aj (iE n) ax)) Tryz.func55 MB n (by kernel_rfl) rfl fun _=>by kernel_rfl
def Ac (n:Nat):Sig xx:=⟨[.d (.sl (.sl (.sl .bool))),.d (.sl ah),.d (.sl ah)],[.fresh ah],fun a=>dK n a.1 a.2.1 a.2.2.1,none⟩
def Ad:Hn SI:=(.s .z (.s .z (.s (.s .z (.b (.l ⟨[(7,(.o 1320)),(11,(.v ah))],[(1320,.l ah)],[0,1,2,10],[],1321,[(7,ah)]⟩ 0 ⟨[(7,(.o 1320))],[(1320,.l ah)],[],[],1321,[]⟩ (.s .z (.s .z (.s (.j ⟨[(7,(.o 1385))],[(1385,.l ah)],[0,1,2,10,11],[],1386,[]⟩ .z) .z)))))) .z)))
theorem nT (n:Nat):aD 58 (Ac n) :=cq ax Tryz.func58 Ad n (by kernel_rfl) rfl fun _=>by kernel_rfl
def Ci (n:Nat):Sig xx:=⟨[.d (.sl (.sl (.sl .bool))),.d aW,.d (.sl ah)],[.fresh ah],fun a=>fB n a.1 a.2.1 a.2.2.1,none⟩
theorem oO (n:Nat):aD 87 (Ci n) :=cq (aj (nT n) ax) Tryz.func87 .z n (by kernel_rfl) rfl fun _=>by kernel_rfl
def Ae (n:Nat):Sig xx:=⟨[.d (.sl (.sl (.sl .bool))),.d (.sl aW),.d (.sl ah)],[.d ah,.fresh ah],fun a=>gU n a.1 a.2.1 a.2.2.1,none⟩
def Af:Hn SI:=(.s .z (.s .z (.s .z (.s (.s .z (.b (.l ⟨[(8,(.o 1512)),(15,(.v ah))],[(1192,.m .bool .bool),(1512,.l ah)],[0,2,9,13,14],[],1513,[(8,ah)]⟩ 0 ⟨[(8,(.o 1512))],[(1192,.m .bool .bool),(1512,.l ah)],[9],[],1513,[]⟩ (.s .z (.s .z (.s (.j ⟨[(8,(.o 1577))],[(1192,.m .bool .bool),(1577,.l ah)],[0,2,9,13,14,15],[],1578,[]⟩ .z) .z)))))) (.s (.b (.s (.j ⟨[(34,(.v .bool))],[],[8,9],[1192,1512],1513,[]⟩ .z) .z)) .z)))))
theorem Ag (n:Nat):aD 83 (Ae n) :=cq (aj (oO n) ax) Tryz.func83 Af n (by kernel_rfl) rfl fun _=>by kernel_rfl
def Kt (n:Nat):Sig xx:=⟨[.d (.sl bR),.d (.sl aW),.d (.sl ah)],[.d ah,.fresh ah,.d ah],fun a=>nE n a.1 a.2.1 a.2.2.1,none⟩
def Ku:Hn SI:=(.s .z (.s .z (.s (.s (.j ⟨[(26,(.v .bool))],[],[1,2,9],[1320],1704,[]⟩ .z) .z) .z)))
theorem Kv (n:Nat):aD 44 (Kt n) :=cq (aj (lU n) (aj (iE n) (aj (Ag n) ax))) Tryz.func44 Ku n (by kernel_rfl) rfl fun _=>by kernel_rfl
def Qb:Sig xx:=⟨[.d (.sl aW)],[.fresh aW],fun a=>BA a.1,none⟩
theorem Qc:aD 84 Qb :=cq ax Tryz.func84 .z 0 (by kernel_rfl) rfl fun _=>by kernel_rfl
def Ol (n:Nat):Sig xx:=⟨[.d (.sl aW)],[.fresh aW],fun a=>jX n a.1,none⟩
def Om:Hn SI:=(.s .z (.s .z (.s (.s .z (.b (.l ⟨[(9,(.v ah))],[(1128,.l aW)],[3,8],[],1448,[]⟩ 0 ⟨[],[(1128,.l aW)],[3],[],1448,[]⟩ .z))) .z)))
theorem Oo (n:Nat):aD 45 (Ol n) :=cq (aj Qc (aj qY ax)) Tryz.func45 Om n (by kernel_rfl) rfl fun _=>by kernel_rfl
def Kw:Sig xx:=⟨[.d aW,.ref aW],[.d .bool],fun a=>CY a.1 a.2.1,none⟩
theorem Ky:aD 86 Kw :=cq ax Tryz.func86 .z 0 (by kernel_rfl) rfl fun _=>by kernel_rfl
def Jc (n:Nat):Sig xx:=⟨[.d (.sl aW),.clo [aW] .bool],[.d ah],fun a=>lI n a.1 a.2.1,none⟩
def Jd:Hn SI:=(.s .z (.s (.s .z (.b (.lx ⟨[(8,(.v ah))],[],[0,1,7],[],1256,[]⟩ 0 ⟨[],[],[],[],1256,[]⟩ .z))) .z))
theorem wG (n:Nat):aD 56 (Jc n) :=cq ax Tryz.func56 Jd n (by kernel_rfl) rfl fun _=>by kernel_rfl
def ES (n:Nat):Sig xx:=⟨[.d (.sl aW),.clo [aW] .bool],[.d .bool],fun a=>jy n a.1 a.2.1,none⟩
theorem ET (n:Nat):aD 85 (ES n) :=cq (aj (wG n) ax) Tryz.func85 .z n (by kernel_rfl) rfl fun _=>by kernel_rfl
def MC:Sig xx:=⟨[.d aW],[.d aW],fun a=>kS a.1,none⟩
theorem ME:aD 88 MC :=cq (aj qY ax) Tryz.func88 .z 0 (by kernel_rfl) rfl fun _=>by kernel_rfl
def Qd (n:Nat):Sig xx:=⟨[.d (.sl bR),.d (.sl aW),.d aW],[.fresh aW,.d ah],fun a=>uq n a.1 a.2.1 a.2.2.1,none⟩
def Qe:Hn SI:=(.s .z (.s .z (.s (.b (.s (.j ⟨[(19,(.v .bool))],[],[1,5,8],[1000,1320],1704,[]⟩ .z) .z)) (.s .z (.s (.s .z (.b (.lx ⟨[(10,(.o 2472)),(39,(.v ah))],[(2472,.l aW)],[5,8,37,38],[1000,1320],2473,[(10,aW)]⟩ 1 ⟨[(10,(.o 2472))],[(2472,.l aW)],[5],[1000],2473,[]⟩ (.s .z (.s .z (.s (.b (.s .z (.s (.s (.j ⟨[(56,(.v .bool))],[],[5,8,10,12,37,38,39],[1000,1320,2472,2665],2793,[]⟩ .z) .z) .z))) .z)))))) .z)))))
theorem Qf (n:Nat):aD 46 (Qd n) :=cq (aj (lU n) (aj (iE n) (aj (ET n) (aj Ky (aj (oO n) (aj ME ax)))))) Tryz.func46 Qe n (by kernel_rfl) rfl fun _=>by kernel_rfl
def MF (n:Nat):Sig xx:=⟨[.d (.sl bR),.d (.sl aW),.d ah,.d (.sl ah),.d .bool],[.d .bool,.fresh aW,.d ah],fun a=>fI n a.1 a.2.1 a.2.2.1 a.2.2.2.1 a.2.2.2.2.1,none⟩
def MH:Hn SI:=(.s .z (.s .z (.s .z (.s .z (.s (.j ⟨[(16,(.v .bool))],[],[0,1,2,3],[],2408,[]⟩ .z) .z)))))
theorem Bb (n:Nat):aD 15 (MF n) :=cq (aj (Kv n) (aj (Oo n) (aj qY (aj (Qf n) ax)))) Tryz.func15 MH n (by kernel_rfl) rfl fun _=>by kernel_rfl
def TS (n:Nat):Sig xx:=⟨[.d (.sl ah),.d (.sl ah)],[.d .bool],fun a=>nH n a.1 a.2.1,none⟩
def TU:Hn SI:=(.s .z (.s .z (.s (.s .z (.b (.lx ⟨[(5,(.v ah))],[],[0,1],[],1448,[]⟩ 0 ⟨[],[],[],[],1448,[]⟩ .z))) .z)))
theorem Ie (n:Nat):aD 10 (TS n) :=cq ax Tryz.func10 TU n (by kernel_rfl) rfl fun _=>by kernel_rfl
def MI:Sig xx:=⟨[.d aO,.ref .str],[.d .bool],fun a=>vO a.1 a.2.1,none⟩
theorem Bc:aD 41 MI :=cq ax Tryz.func41 .z 0 (by kernel_rfl) rfl fun _=>by kernel_rfl
def Je (n:Nat):Sig xx:=⟨[.d (.sl aO),.clo [aO] .bool],[.d ah],fun a=>AQ n a.1 a.2.1,none⟩
def Jf:Hn SI:=(.s .z (.s (.s .z (.b (.lx ⟨[(8,(.v ah))],[],[0,1,7],[],1256,[]⟩ 0 ⟨[],[],[],[],1256,[]⟩ .z))) .z))
theorem Jg (n:Nat):aD 81 (Je n) :=cq ax Tryz.func81 Jf n (by kernel_rfl) rfl fun _=>by kernel_rfl
def EU (n:Nat):Sig xx:=⟨[.d (.sl aO),.clo [aO] .bool],[.d .bool],fun a=>uW n a.1 a.2.1,none⟩
theorem EW (n:Nat):aD 43 (EU n) :=cq (aj (Jg n) ax) Tryz.func43 .z n (by kernel_rfl) rfl fun _=>by kernel_rfl
def Ig:GSig xx:=⟨[(.v aO),(.p 0)],[(0,.c 1 [[(.f 41 [] [(.p 1)])]]),(1,.c 1 [[(.v .str)]])],[(.v .bool)],[(0,.c 1 [[(.f 41 [] [(.p 1)])]]),(1,.c 1 [[(.v .str)]])],fun v=>yK v.1 v.2⟩
def Ih:Sig xx:=⟨[],[.d .bool],fun _=>none,some (Ig)⟩
theorem Ii:aD 42 Ih :=cqG (aj Bc ax) Tryz.func42 .z 0 (by kernel_rfl) fun _=>by kernel_rfl
def EX (n:Nat):GSig xx:=⟨[(.v (.sl aO)),(.f 42 [] [(.p 0)])],[(0,.c 1 [[(.f 41 [] [(.p 1)])]]),(1,.c 1 [[(.v .str)]])],[(.v ah)],[(0,.c 1 [[(.f 41 [] [(.p 1)])]]),(1,.c 1 [[(.v .str)]])],fun v=>uX n v.1 v.2⟩
def EY (n:Nat):Sig xx:=⟨[],[.d .bool],fun _=>none,some (EX n)⟩
def EZ:Hn SI:=(.s .z (.s (.s .z (.b (.lx ⟨[(8,(.v ah))],[(0,.c 1 [[(.f 41 [] [(.p 1)])]]),(1,.c 1 [[(.v .str)]])],[0,1,7],[],1256,[]⟩ 0 ⟨[],[(0,.c 1 [[(.f 41 [] [(.p 1)])]]),(1,.c 1 [[(.v .str)]])],[],[],1256,[]⟩ .z))) .z))
theorem E8 (n:Nat):aD 81 (EY n) :=cqG (aj Ii ax) Tryz.func81 EZ n (by kernel_rfl) fun _=>by kernel_rfl
def Ah (n:Nat):GSig xx:=⟨[(.v (.sl aO)),(.f 42 [] [(.p 0)])],[(0,.c 1 [[(.f 41 [] [(.p 1)])]]),(1,.c 1 [[(.v .str)]])],[(.v .bool)],[(0,.c 1 [[(.f 41 [] [(.p 1)])]]),(1,.c 1 [[(.v .str)]])],fun v=>qb n v.1 v.2⟩
def Ai (n:Nat):Sig xx:=⟨[],[.d .bool],fun _=>none,some (Ah n)⟩
theorem Aj (n:Nat):aD 43 (Ai n) :=cqG (aj (E8 n) ax) Tryz.func43 .z n (by kernel_rfl) fun _=>by kernel_rfl
def TW (n:Nat):Sig xx:=⟨[.d (.st SI.Plan),.d (.sl .str)],[.d .bool],fun a=>wS n a.1 a.2.1,none⟩
def TY:Hn SI:=(.s .z (.s (.s .z (.b (.lx ⟨[(11,(.v ah))],[],[1,2,9,10],[1000],1320,[]⟩ 0 ⟨[],[],[1],[],1320,[]⟩ (.s .z (.s .z (.s (.b (.s .z (.s .z (.s .z (.s (.j ⟨[(27,(.v .bool))],[],[1,2,9,10,11],[1000],1960,[]⟩ .z) .z))))) .z)))))) .z))
theorem T9 (n:Nat):aD 13 (TW n) :=cq (aj (aij (EW n) (Aj n)) (aj Bc ax)) Tryz.func13 TY n (by kernel_rfl) rfl fun _=>by kernel_rfl
def aad (n:Nat):Sig xx:=⟨[],[.d .bool],fun _=>IE n,none⟩
def aae:Hn SI:=(.s .z (.s (.f [3]) (.s .z (.s .z (.s .z (.s .z (.s (.f [8]) (.s (.f [9]) (.s (.f [9]) (.s .z (.s (.j ⟨[(18,(.v .bool))],[],[5,7,10,13,16],[2792,5160],5672,[]⟩ .z) .z)))))))))))
theorem aaf (n:Nat):aD 5 (aad n) :=cq (aj abT (aj (Mv n) (aj (Bb n) (aj (Ie n) (aj (T9 n) ax))))) Tryz.func5 aae n (by kernel_rfl) rfl fun _=>by kernel_rfl
def Ua (n:Nat):Sig xx:=⟨[.d (.sl bR),.d (.sl aW)],[.d .bool],fun a=>wT n a.1 a.2.1,none⟩
def Ub:Hn SI:=(.s .z (.s (.s .z (.b (.lx ⟨[(5,(.v ah))],[],[0,1],[],1128,[]⟩ 0 ⟨[],[],[0,1],[],1128,[]⟩ .z))) (.s (.s .z (.b (.lx ⟨[(6,(.v ah))],[],[0,1],[],1192,[]⟩ 2 ⟨[],[],[0,1],[],1192,[]⟩ .z))) .z)))
theorem Uc (n:Nat):aD 7 (Ua n) :=cq ax Tryz.func7 Ub n (by kernel_rfl) rfl fun _=>by kernel_rfl
def U3 (n:Nat):Sig xx:=⟨[.d (.sl (.st SI.Ask))],[.d .bool],fun a=>AR n a.1,none⟩
def U4:Hn SI:=(.s .z (.s (.s .z (.b (.lx ⟨[(3,(.v ah))],[],[0],[],1128,[]⟩ 0 ⟨[],[],[0],[],1128,[]⟩ .z))) .z))
theorem U5 (n:Nat):aD 18 (U3 n) :=cq ax Tryz.func18 U4 n (by kernel_rfl) rfl fun _=>by kernel_rfl
def ab1 (n:Nat):Sig xx:=⟨[.d (.sl ah),.d (.sl ah)],[.d .bool],fun a=>LU n a.1 a.2.1,none⟩
def ab2:Hn SI:=(.s .z (.s .z (.s (.s .z (.b (.lx ⟨[(5,(.v ah))],[],[0,1],[],1448,[]⟩ 0 ⟨[],[],[],[],1448,[]⟩ .z))) .z)))
theorem ab3 (n:Nat):aD 51 (ab1 n) :=cq ax Tryz.func51 ab2 n (by kernel_rfl) rfl fun _=>by kernel_rfl
def ab4 (n:Nat):Sig xx:=⟨[.d (.sl aW),.d (.sl aW)],[.d .bool],fun a=>Ht n a.1 a.2.1,none⟩
def ab5:Hn SI:=(.s .z (.s .z (.s (.s .z (.b (.lx ⟨[(5,(.v ah))],[],[0,1],[],1448,[]⟩ 0 ⟨[],[],[],[],1448,[]⟩ (.s .z (.s (.b (.s (.j ⟨[(54,(.v .bool))],[],[0,1,5],[],1704,[]⟩ .z) .z)) .z))))) .z)))
theorem ab6 (n:Nat):aD 17 (ab4 n) :=cq (aj (ab3 n) ax) Tryz.func17 ab5 n (by kernel_rfl) rfl fun _=>by kernel_rfl
def Oq (n:Nat):Sig xx:=⟨[.d (.sl bR),.d (.sl ah),.d (.sl ah)],[.d .bool],fun a=>mq n a.1 a.2.1 a.2.2.1,none⟩
def Ot:Hn SI:=(.s .z (.s (.s (.j ⟨[(25,(.v .bool))],[],[0,1,2],[],1064,[]⟩ .z) .z) (.s (.s .z (.b (.lx ⟨[(28,(.v ah))],[],[1,2,26,27],[],1256,[]⟩ 0 ⟨[],[],[],[],1256,[]⟩ (.s .z (.s .z (.s (.b (.s .z (.s (.j ⟨[(56,(.v .bool))],[],[1,2,26,27,28],[],1704,[]⟩ .z) .z))) .z)))))) .z)))
theorem DU (n:Nat):aD 53 (Oq n) :=cq (aj (yS n) ax) Tryz.func53 Ot n (by kernel_rfl) rfl fun _=>by kernel_rfl
def Ou (n:Nat):Sig xx:=⟨[.d bR,.d ah,.d ah],[.d .bool],fun a=>qW n a.1 a.2.1 a.2.2.1,none⟩
theorem Ov (n:Nat):aD 98 (Ou n) :=cq (aj (vR n) ax) Tryz.func98 .z n (by kernel_rfl) rfl fun _=>by kernel_rfl
def Qg (n:Nat):Sig xx:=⟨[.d (.sl bR),.d (.sl ah),.d (.sl ah)],[.fresh ah],fun a=>uw n a.1 a.2.1 a.2.2.1,none⟩
def Qh:Hn SI:=(.s .z (.s .z (.s .z (.s (.s .z (.b (.l ⟨[(7,(.o 1640)),(17,(.v ah))],[(1640,.l ah)],[1,2,15,16],[],1641,[(7,ah)]⟩ 0 ⟨[(7,(.o 1640))],[(1640,.l ah)],[],[],1641,[]⟩ (.s .z (.s .z (.s (.j ⟨[(7,(.o 1705))],[(1705,.l ah)],[1,2,15,16,17],[],1706,[]⟩ .z) .z)))))) .z))))
theorem Qi (n:Nat):aD 54 (Qg n) :=cq (aj (DU n) (aj (Ov n) ax)) Tryz.func54 Qh n (by kernel_rfl) rfl fun _=>by kernel_rfl
def Ud (n:Nat):Sig xx:=⟨[.d (.sl bR),.d (.sl ah),.d (.sl ah)],[.d .bool],fun a=>kL n a.1 a.2.1 a.2.2.1,none⟩
theorem Ue (n:Nat):aD 20 (Ud n) :=cq (aj (DU n) (aj (Qi n) ax)) Tryz.func20 .z n (by kernel_rfl) rfl fun _=>by kernel_rfl
def Ak (n:Nat):Sig xx:=⟨[.d aW,.ref (.sl (.sl (.sl .bool))),.ref aW],[.d .bool],fun a=>gV n a.1 a.2.1 a.2.2.1,none⟩
theorem Al (n:Nat):aD 57 (Ak n) :=cq (aj (nT n) ax) Tryz.func57 .z n (by kernel_rfl) rfl fun _=>by kernel_rfl
def E9 (n:Nat):Sig xx:=⟨[.d (.sl bR),.d (.sl aW)],[.d ah,.d ah,.d .bool],fun a=>jA n a.1 a.2.1,none⟩
def Fa:Hn SI:=(.s .z (.s (.f [7]) (.s .z (.s (.s .z (.b (.lx ⟨[(22,(.v ah))],[],[1,7,20,21],[1576],2088,[]⟩ 0 ⟨[],[],[],[],2088,[]⟩ (.s .z (.s .z (.s (.jx ⟨[],[],[1,7,20,21,22],[1576],2152,[]⟩ .z) .z)))))) .z))))
theorem Fb (n:Nat):aD 21 (E9 n) :=cq (aj (lU n) (aj (wG n) (aj (Al n) ax))) Tryz.func21 Fa n (by kernel_rfl) rfl fun _=>by kernel_rfl
def MJ (n:Nat):Sig xx:=⟨[.d (.sl bR),.d (.sl aW)],[.d .bool],fun a=>pG n a.1 a.2.1,none⟩
theorem MK (n:Nat):aD 22 (MJ n) :=cq (aj (lU n) ax) Tryz.func22 .z n (by kernel_rfl) rfl fun _=>by kernel_rfl
def Jh (n:Nat):Sig xx:=⟨[.d (.sl bR),.d (.sl (.st SI.Ask))],[.d .bool],fun a=>lK n a.1 a.2.1,none⟩
def Ji:Hn SI:=(.s .z (.s .z (.s (.s (.j ⟨[(29,(.v .bool))],[],[0,1,5],[],1192,[]⟩ .z) .z) (.s .z (.s (.s .z (.b (.lx ⟨[(6,(.v (.sl aW))),(7,(.v ah))],[],[0,1,5],[],1320,[]⟩ 0 ⟨[],[],[5],[],1320,[]⟩ (.s .z (.s (.jx ⟨[(6,(.v (.sl aW)))],[],[0,1,5,7],[],1576,[]⟩ (.b (.s (.f [23]) (.s (.s (.j ⟨[(73,(.v .bool))],[],[0,1,5,6,7,8,9,10],[],3176,[]⟩ .z) .z) (.s .z (.s (.s .z (.b (.lx ⟨[(11,(.v ah))],[],[0,1,5,6,7,8,9],[],3368,[]⟩ 2 ⟨[],[],[0,1,5,6,7,8,9],[],3368,[]⟩ (.s .z (.s (.b (.s (.j ⟨[(129,(.v .bool))],[],[0,1,5,6,7,8,9,11],[],3624,[]⟩ .z) .z)) .z))))) (.s .z (.s .z (.s (.s (.j ⟨[(153,(.v .bool))],[],[0,1,5,6,7,8,9,15],[],4200,[]⟩ .z) .z) (.s (.s (.j ⟨[(195,(.v .bool))],[],[0,1,5,7,9],[],4200,[]⟩ .z) .z) .z)))))))))) .z))))) .z)))))
theorem Jj (n:Nat):aD 4 (Jh n) :=cq (aj (aaf n) (aj (Uc n) (aj (U5 n) (aj (yS n) (aj (Bb n) (aj (ab6 n) (aj (Ue n) (aj (Fb n) (aj (MK n) (aj (Ie n) ax)))))))))) Tryz.func4 Ji n (by kernel_rfl) rfl fun _=>by kernel_rfl
end
end Go.Proofs
