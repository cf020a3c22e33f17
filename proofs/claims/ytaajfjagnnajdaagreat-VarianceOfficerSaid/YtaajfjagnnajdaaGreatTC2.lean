/-
  Printed by wip/gen: that functions of the program compute this.
-/
import Derived.Test.YtaajfjagnnajdaaGreatTC1
namespace Go.Proofs
open Go.Gb Go.RowKit
noncomputable section
def CQ (n:Nat):Sig xx:=⟨[],[.d .bool],fun _=>none,some (CP n)⟩
def CR:Hn SI:=(.s .z (.s .z (.s .z (.s (.s .z (.b (.l ⟨[(3,(.o 1960)),(23,(.v ah))],[(1448,.l ak),(1960,.l ah)],[4,21,22],[0,1],1961,[(3,ah)]⟩ 0 ⟨[(3,(.o 1960))],[(1448,.l ak),(1960,.l ah)],[4],[0,1],1961,[]⟩ .z))) (.s .z (.s .z (.s .z (.s (.s .z (.b (.l ⟨[(7,(.v ah)),(56,(.v ah))],[],[3,4,55],[0,1,1448,1960],2601,[]⟩ 2 ⟨[(7,(.v ah))],[],[],[0,1],2601,[]⟩ (.s .z (.s .z (.s (.b (.s .z (.s .z (.s .z (.b (.l ⟨[(7,(.v ah)),(9,(.v ah)),(61,(.v ah))],[],[3,4,8,55,56,59,60],[0,1,1448,1960],3049,[]⟩ 4 ⟨[(7,(.v ah))],[],[3,4,55,56],[0,1,1448,1960],3049,[]⟩ (.s .z (.s .z (.s (.j ⟨[(7,(.v ah)),(9,(.v ah))],[],[3,4,8,55,56,59,60,61],[0,1,1448,1960],3113,[]⟩ (.b (.s .z (.s (.j ⟨[(86,(.v .bool))],[],[3,4,7,8,9,11,55,56,59,60,61],[0,1,1448,1960,3241],3369,[]⟩ .z) .z)))) .z))))))))) .z)))))) .z))))))))
theorem CU (n:Nat):aF 114 (CQ n) :=cqG (aj (JC n) (aj CJ (aj (AZ n) ax))) Tryz.func114 CR n (by kernel_rfl) fun _=>by kernel_rfl
def Fp (n:Nat):GSig xx:=⟨[(.p 0),(.f 163 [] [])],[(0,.c 10 [[(.v (.sl aW)),(.v (.sl aO)),(.v (.sl aQ)),(.v (.sl aN)),(.v (.sl aX)),(.v (.sl aR)),(.v (.sl aM)),(.v ah),(.v (.sl ak)),(.o 1)]]),(1,.l aG)],[(.v ah)],[(0,.c 10 [[(.v (.sl aW)),(.v (.sl aO)),(.v (.sl aQ)),(.v (.sl aN)),(.v (.sl aX)),(.v (.sl aR)),(.v (.sl aM)),(.v ah),(.v (.sl ak)),(.o 1)]]),(1,.l aG)],fun v=>nD n v.1 v.2.1 v.2.2.1 v.2.2.2.1 v.2.2.2.2.1 v.2.2.2.2.2.1 v.2.2.2.2.2.2.1 v.2.2.2.2.2.2.2.1 v.2.2.2.2.2.2.2.2.1 v.2.2.2.2.2.2.2.2.2⟩
def Fq (n:Nat):Sig xx:=⟨[],[.d .bool],fun _=>none,some (Fp n)⟩
def Fs:Hn SI:=(.s .z (.s .z (.s (.s .z (.b (.l ⟨[(5,(.v ah)),(13,(.v ah))],[],[1,11,12],[0,1],1512,[]⟩ 0 ⟨[(5,(.v ah))],[],[],[0,1],1512,[]⟩ .z))) .z)))
theorem Fu (n:Nat):aF 162 (Fq n) :=cqG (aj EO ax) Tryz.func162 Fs n (by kernel_rfl) fun _=>by kernel_rfl
def CV (n:Nat):GSig xx:=⟨[(.p 0)],[(0,.c 10 [[(.v (.sl aW)),(.v (.sl aO)),(.v (.sl aQ)),(.v (.sl aN)),(.v (.sl aX)),(.v (.sl aR)),(.v (.sl aM)),(.v ah),(.v (.sl ak)),(.o 1)]]),(1,.l aG)],[(.v ah)],[(0,.c 10 [[(.v (.sl aW)),(.v (.sl aO)),(.v (.sl aQ)),(.v (.sl aN)),(.v (.sl aX)),(.v (.sl aR)),(.v (.sl aM)),(.v ah),(.v (.sl ak)),(.o 1)]]),(1,.l aG)],fun v=>iP n v.1 v.2.1 v.2.2.1 v.2.2.2.1 v.2.2.2.2.1 v.2.2.2.2.2.1 v.2.2.2.2.2.2.1 v.2.2.2.2.2.2.2.1 v.2.2.2.2.2.2.2.2.1 v.2.2.2.2.2.2.2.2.2⟩
def CW (n:Nat):Sig xx:=⟨[],[.d .bool],fun _=>none,some (CV n)⟩
theorem CX (n:Nat):aF 115 (CW n) :=cqG (aj (Fu n) ax) Tryz.func115 .z n (by kernel_rfl) fun _=>by kernel_rfl
def yB (n:Nat):GSig xx:=⟨[(.p 0),(.f 165 [] [])],[(0,.c 10 [[(.v (.sl aW)),(.v (.sl aO)),(.v (.sl aQ)),(.v (.sl aN)),(.v (.sl aX)),(.v (.sl aR)),(.v (.sl aM)),(.v ah),(.v (.sl ak)),(.o 1)]]),(1,.l aG)],[(.v ah)],[(0,.c 10 [[(.v (.sl aW)),(.v (.sl aO)),(.v (.sl aQ)),(.v (.sl aN)),(.v (.sl aX)),(.v (.sl aR)),(.v (.sl aM)),(.v ah),(.v (.sl ak)),(.o 1)]]),(1,.l aG)],fun v=>jD n v.1 v.2.1 v.2.2.1 v.2.2.2.1 v.2.2.2.2.1 v.2.2.2.2.2.1 v.2.2.2.2.2.2.1 v.2.2.2.2.2.2.2.1 v.2.2.2.2.2.2.2.2.1 v.2.2.2.2.2.2.2.2.2⟩
def yC (n:Nat):Sig xx:=⟨[],[.d .bool],fun _=>none,some (yB n)⟩
def yD:Hn SI:=(.s .z (.s .z (.s (.s .z (.b (.l ⟨[(5,(.v ah)),(13,(.v ah))],[],[1,11,12],[0,1],1512,[]⟩ 0 ⟨[(5,(.v ah))],[],[],[0,1],1512,[]⟩ .z))) .z)))
theorem yE (n:Nat):aF 164 (yC n) :=cqG (aj Ae ax) Tryz.func164 yD n (by kernel_rfl) fun _=>by kernel_rfl
def Bf (n:Nat):GSig xx:=⟨[(.p 0)],[(0,.c 10 [[(.v (.sl aW)),(.v (.sl aO)),(.v (.sl aQ)),(.v (.sl aN)),(.v (.sl aX)),(.v (.sl aR)),(.v (.sl aM)),(.v ah),(.v (.sl ak)),(.o 1)]]),(1,.l aG)],[(.v ah)],[(0,.c 10 [[(.v (.sl aW)),(.v (.sl aO)),(.v (.sl aQ)),(.v (.sl aN)),(.v (.sl aX)),(.v (.sl aR)),(.v (.sl aM)),(.v ah),(.v (.sl ak)),(.o 1)]]),(1,.l aG)],fun v=>gX n v.1 v.2.1 v.2.2.1 v.2.2.2.1 v.2.2.2.2.1 v.2.2.2.2.2.1 v.2.2.2.2.2.2.1 v.2.2.2.2.2.2.2.1 v.2.2.2.2.2.2.2.2.1 v.2.2.2.2.2.2.2.2.2⟩
def Bg (n:Nat):Sig xx:=⟨[],[.d .bool],fun _=>none,some (Bf n)⟩
theorem Bh (n:Nat):aF 116 (Bg n) :=cqG (aj (yE n) ax) Tryz.func116 .z n (by kernel_rfl) fun _=>by kernel_rfl
def yF (n:Nat):GSig xx:=⟨[(.p 0),(.f 166 [] [])],[(0,.c 10 [[(.v (.sl aW)),(.v (.sl aO)),(.v (.sl aQ)),(.v (.sl aN)),(.v (.sl aX)),(.v (.sl aR)),(.v (.sl aM)),(.v ah),(.v (.sl ak)),(.o 1)]]),(1,.l aG)],[(.v ah)],[(0,.c 10 [[(.v (.sl aW)),(.v (.sl aO)),(.v (.sl aQ)),(.v (.sl aN)),(.v (.sl aX)),(.v (.sl aR)),(.v (.sl aM)),(.v ah),(.v (.sl ak)),(.o 1)]]),(1,.l aG)],fun v=>jE n v.1 v.2.1 v.2.2.1 v.2.2.2.1 v.2.2.2.2.1 v.2.2.2.2.2.1 v.2.2.2.2.2.2.1 v.2.2.2.2.2.2.2.1 v.2.2.2.2.2.2.2.2.1 v.2.2.2.2.2.2.2.2.2⟩
def yG (n:Nat):Sig xx:=⟨[],[.d .bool],fun _=>none,some (yF n)⟩
def yH:Hn SI:=(.s .z (.s .z (.s (.s .z (.b (.l ⟨[(5,(.v ah)),(13,(.v ah))],[],[1,11,12],[0,1],1512,[]⟩ 0 ⟨[(5,(.v ah))],[],[],[0,1],1512,[]⟩ .z))) .z)))
theorem yI (n:Nat):aF 164 (yG n) :=cqG (aj Be ax) Tryz.func164 yH n (by kernel_rfl) fun _=>by kernel_rfl
def Bj (n:Nat):GSig xx:=⟨[(.p 0)],[(0,.c 10 [[(.v (.sl aW)),(.v (.sl aO)),(.v (.sl aQ)),(.v (.sl aN)),(.v (.sl aX)),(.v (.sl aR)),(.v (.sl aM)),(.v ah),(.v (.sl ak)),(.o 1)]]),(1,.l aG)],[(.v ah)],[(0,.c 10 [[(.v (.sl aW)),(.v (.sl aO)),(.v (.sl aQ)),(.v (.sl aN)),(.v (.sl aX)),(.v (.sl aR)),(.v (.sl aM)),(.v ah),(.v (.sl ak)),(.o 1)]]),(1,.l aG)],fun v=>gY n v.1 v.2.1 v.2.2.1 v.2.2.2.1 v.2.2.2.2.1 v.2.2.2.2.2.1 v.2.2.2.2.2.2.1 v.2.2.2.2.2.2.2.1 v.2.2.2.2.2.2.2.2.1 v.2.2.2.2.2.2.2.2.2⟩
def Bl (n:Nat):Sig xx:=⟨[],[.d .bool],fun _=>none,some (Bj n)⟩
theorem Bo (n:Nat):aF 117 (Bl n) :=cqG (aj (yI n) ax) Tryz.func117 .z n (by kernel_rfl) fun _=>by kernel_rfl
def Fv (n:Nat):GSig xx:=⟨[(.p 0),(.f 167 [] [])],[(0,.c 10 [[(.v (.sl aW)),(.v (.sl aO)),(.v (.sl aQ)),(.v (.sl aN)),(.v (.sl aX)),(.v (.sl aR)),(.v (.sl aM)),(.v ah),(.v (.sl ak)),(.o 1)]]),(1,.l aG)],[(.v ah)],[(0,.c 10 [[(.v (.sl aW)),(.v (.sl aO)),(.v (.sl aQ)),(.v (.sl aN)),(.v (.sl aX)),(.v (.sl aR)),(.v (.sl aM)),(.v ah),(.v (.sl ak)),(.o 1)]]),(1,.l aG)],fun v=>nE n v.1 v.2.1 v.2.2.1 v.2.2.2.1 v.2.2.2.2.1 v.2.2.2.2.2.1 v.2.2.2.2.2.2.1 v.2.2.2.2.2.2.2.1 v.2.2.2.2.2.2.2.2.1 v.2.2.2.2.2.2.2.2.2⟩
def Fw (n:Nat):Sig xx:=⟨[],[.d .bool],fun _=>none,some (Fv n)⟩
def Fx:Hn SI:=(.s .z (.s .z (.s (.s .z (.b (.l ⟨[(5,(.v ah)),(13,(.v ah))],[],[1,11,12],[0,1],1512,[]⟩ 0 ⟨[(5,(.v ah))],[],[],[0,1],1512,[]⟩ .z))) .z)))
theorem Fy (n:Nat):aF 162 (Fw n) :=cqG (aj CO ax) Tryz.func162 Fx n (by kernel_rfl) fun _=>by kernel_rfl
def CY (n:Nat):GSig xx:=⟨[(.p 0)],[(0,.c 10 [[(.v (.sl aW)),(.v (.sl aO)),(.v (.sl aQ)),(.v (.sl aN)),(.v (.sl aX)),(.v (.sl aR)),(.v (.sl aM)),(.v ah),(.v (.sl ak)),(.o 1)]]),(1,.l aG)],[(.v ah)],[(0,.c 10 [[(.v (.sl aW)),(.v (.sl aO)),(.v (.sl aQ)),(.v (.sl aN)),(.v (.sl aX)),(.v (.sl aR)),(.v (.sl aM)),(.v ah),(.v (.sl ak)),(.o 1)]]),(1,.l aG)],fun v=>iQ n v.1 v.2.1 v.2.2.1 v.2.2.2.1 v.2.2.2.2.1 v.2.2.2.2.2.1 v.2.2.2.2.2.2.1 v.2.2.2.2.2.2.2.1 v.2.2.2.2.2.2.2.2.1 v.2.2.2.2.2.2.2.2.2⟩
def CZ (n:Nat):Sig xx:=⟨[],[.d .bool],fun _=>none,some (CY n)⟩
theorem C8 (n:Nat):aF 118 (CZ n) :=cqG (aj (Fy n) ax) Tryz.func118 .z n (by kernel_rfl) fun _=>by kernel_rfl
def Bp (n:Nat):GSig xx:=⟨[(.p 0),(.v ak),(.v ah)],[(0,.c 10 [[(.v (.sl aW)),(.v (.sl aO)),(.v (.sl aQ)),(.v (.sl aN)),(.v (.sl aX)),(.v (.sl aR)),(.v (.sl aM)),(.v ah),(.v (.sl ak)),(.o 1)]]),(1,.l aG)],[(.v .bool)],[(0,.c 10 [[(.v (.sl aW)),(.v (.sl aO)),(.v (.sl aQ)),(.v (.sl aN)),(.v (.sl aX)),(.v (.sl aR)),(.v (.sl aM)),(.v ah),(.v (.sl ak)),(.o 1)]]),(1,.l aG)],fun v=>ic n v.1 v.2.1 v.2.2.1 v.2.2.2.1 v.2.2.2.2.1 v.2.2.2.2.2.1 v.2.2.2.2.2.2.1 v.2.2.2.2.2.2.2.1 v.2.2.2.2.2.2.2.2.1 v.2.2.2.2.2.2.2.2.2.1 v.2.2.2.2.2.2.2.2.2.2.1 v.2.2.2.2.2.2.2.2.2.2.2⟩
def Bq (n:Nat):Sig xx:=⟨[],[.d .bool],fun _=>none,some (Bp n)⟩
def Br:Hn SI:=(.s .z (.s .z (.s .z (.s .z (.s (.s .z (.b (.l ⟨[(9,(.v ah)),(27,(.v ah))],[],[7,25,26],[0,1,1512],2280,[]⟩ 0 ⟨[(9,(.v ah))],[],[7],[0,1,1512],2280,[]⟩ (.s .z (.s .z (.s (.j ⟨[(9,(.v ah))],[],[7,25,26,27],[0,1,1512],2344,[]⟩ .z) .z)))))) .z)))))
theorem Bt (n:Nat):aF 168 (Bq n) :=cqG (aj OV (aj TN (aj Sw ax))) Tryz.func168 Br n (by kernel_rfl) fun _=>by kernel_rfl
def zl (n:Nat):GSig xx:=⟨[(.p 0)],[(0,.c 10 [[(.v (.sl aW)),(.v (.sl aO)),(.v (.sl aQ)),(.v (.sl aN)),(.v (.sl aX)),(.v (.sl aR)),(.v (.sl aM)),(.v ah),(.v (.sl ak)),(.o 1)]]),(1,.l aG)],[(.v ah)],[(0,.c 10 [[(.v (.sl aW)),(.v (.sl aO)),(.v (.sl aQ)),(.v (.sl aN)),(.v (.sl aX)),(.v (.sl aR)),(.v (.sl aM)),(.v ah),(.v (.sl ak)),(.o 1)]]),(1,.l aG)],fun v=>gG n v.1 v.2.1 v.2.2.1 v.2.2.2.1 v.2.2.2.2.1 v.2.2.2.2.2.1 v.2.2.2.2.2.2.1 v.2.2.2.2.2.2.2.1 v.2.2.2.2.2.2.2.2.1 v.2.2.2.2.2.2.2.2.2⟩
def zm (n:Nat):Sig xx:=⟨[],[.d .bool],fun _=>none,some (zl n)⟩
def zn:Hn SI:=(.s .z (.s .z (.s (.s .z (.b (.l ⟨[(3,(.v ah)),(14,(.v ah))],[(0,.c 10 [[(.v (.sl aW)),(.v (.sl aO)),(.v (.sl aQ)),(.v (.sl aN)),(.v (.sl aX)),(.v (.sl aR)),(.v (.sl aM)),(.v ah),(.v (.sl ak)),(.o 1)]]),(1,.l aG)],[0,12,13],[],1512,[]⟩ 0 ⟨[(3,(.v ah))],[(0,.c 10 [[(.v (.sl aW)),(.v (.sl aO)),(.v (.sl aQ)),(.v (.sl aN)),(.v (.sl aX)),(.v (.sl aR)),(.v (.sl aM)),(.v ah),(.v (.sl ak)),(.o 1)]]),(1,.l aG)],[],[],1512,[]⟩ (.s .z (.s .z (.s (.b (.s .z (.s .z (.s (.b (.l ⟨[(6,(.v ah)),(7,(.v ah))],[(0,.c 10 [[(.v (.sl aW)),(.v (.sl aO)),(.v (.sl aQ)),(.v (.sl aN)),(.v (.sl aX)),(.v (.sl aR)),(.v (.sl aM)),(.v ah),(.v (.sl ak)),(.o 1)]]),(1,.l aG)],[0,5,12,13,14],[1704],2024,[]⟩ 2 ⟨[(6,(.v ah))],[(0,.c 10 [[(.v (.sl aW)),(.v (.sl aO)),(.v (.sl aQ)),(.v (.sl aN)),(.v (.sl aX)),(.v (.sl aR)),(.v (.sl aM)),(.v ah),(.v (.sl ak)),(.o 1)]]),(1,.l aG)],[0,12,13,14],[],2024,[]⟩ .z)) .z)))) .z)))))) .z)))
theorem zo (n:Nat):aF 119 (zm n) :=cqG (aj (Bt n) ax) Tryz.func119 zn n (by kernel_rfl) fun _=>by kernel_rfl
def vF (n:Nat):GSig xx:=⟨[(.v aG),(.p 0)],[(0,.c 1 [[(.p 1)]]),(1,.c 10 [[(.v (.sl aW)),(.v (.sl aO)),(.v (.sl aQ)),(.v (.sl aN)),(.v (.sl aX)),(.v (.sl aR)),(.v (.sl aM)),(.v ah),(.v (.sl ak)),(.o 2)]]),(2,.l aG)],[(.v ah)],[(0,.c 1 [[(.p 1)]]),(1,.c 10 [[(.v (.sl aW)),(.v (.sl aO)),(.v (.sl aQ)),(.v (.sl aN)),(.v (.sl aX)),(.v (.sl aR)),(.v (.sl aM)),(.v ah),(.v (.sl ak)),(.o 2)]]),(2,.l aG)],fun v=>iM n v.1 v.2.1 v.2.2.1 v.2.2.2.1 v.2.2.2.2.1 v.2.2.2.2.2.1 v.2.2.2.2.2.2.1 v.2.2.2.2.2.2.2.1 v.2.2.2.2.2.2.2.2.1 v.2.2.2.2.2.2.2.2.2.1 v.2.2.2.2.2.2.2.2.2.2⟩
def vG (n:Nat):Sig xx:=⟨[],[.d .bool],fun _=>none,some (vF n)⟩
theorem vH (n:Nat):aF 169 (vG n) :=cqG (aj (Lg n) ax) Tryz.func169 .z n (by kernel_rfl) fun _=>by kernel_rfl
def Fz (n:Nat):GSig xx:=⟨[(.p 0),(.f 169 [] [(.p 1)])],[(0,.c 10 [[(.v (.sl aW)),(.v (.sl aO)),(.v (.sl aQ)),(.v (.sl aN)),(.v (.sl aX)),(.v (.sl aR)),(.v (.sl aM)),(.v ah),(.v (.sl ak)),(.o 2)]]),(1,.c 1 [[(.p 0)]]),(2,.l aG)],[(.v ah)],[(0,.c 10 [[(.v (.sl aW)),(.v (.sl aO)),(.v (.sl aQ)),(.v (.sl aN)),(.v (.sl aX)),(.v (.sl aR)),(.v (.sl aM)),(.v ah),(.v (.sl ak)),(.o 2)]]),(1,.c 1 [[(.p 0)]]),(2,.l aG)],fun v=>nG n v.1 v.2.1 v.2.2.1 v.2.2.2.1 v.2.2.2.2.1 v.2.2.2.2.2.1 v.2.2.2.2.2.2.1 v.2.2.2.2.2.2.2.1 v.2.2.2.2.2.2.2.2.1 v.2.2.2.2.2.2.2.2.2⟩
def FB (n:Nat):Sig xx:=⟨[],[.d .bool],fun _=>none,some (Fz n)⟩
def FC:Hn SI:=(.s .z (.s .z (.s (.s .z (.b (.l ⟨[(5,(.v ah)),(13,(.v ah))],[(0,.c 10 [[(.v (.sl aW)),(.v (.sl aO)),(.v (.sl aQ)),(.v (.sl aN)),(.v (.sl aX)),(.v (.sl aR)),(.v (.sl aM)),(.v ah),(.v (.sl ak)),(.o 2)]]),(1,.c 1 [[(.p 0)]]),(2,.l aG)],[1,11,12],[],1512,[]⟩ 0 ⟨[(5,(.v ah))],[(0,.c 10 [[(.v (.sl aW)),(.v (.sl aO)),(.v (.sl aQ)),(.v (.sl aN)),(.v (.sl aX)),(.v (.sl aR)),(.v (.sl aM)),(.v ah),(.v (.sl ak)),(.o 2)]]),(1,.c 1 [[(.p 0)]]),(2,.l aG)],[],[],1512,[]⟩ .z))) .z)))
theorem FD (n:Nat):aF 162 (FB n) :=cqG (aj (vH n) ax) Tryz.func162 FC n (by kernel_rfl) fun _=>by kernel_rfl
def zq (n:Nat):GSig xx:=⟨[(.p 0)],[(0,.c 10 [[(.v (.sl aW)),(.v (.sl aO)),(.v (.sl aQ)),(.v (.sl aN)),(.v (.sl aX)),(.v (.sl aR)),(.v (.sl aM)),(.v ah),(.v (.sl ak)),(.o 1)]]),(1,.l aG)],[(.v ah)],[(0,.c 10 [[(.v (.sl aW)),(.v (.sl aO)),(.v (.sl aQ)),(.v (.sl aN)),(.v (.sl aX)),(.v (.sl aR)),(.v (.sl aM)),(.v ah),(.v (.sl ak)),(.o 1)]]),(1,.l aG)],fun v=>gH n v.1 v.2.1 v.2.2.1 v.2.2.2.1 v.2.2.2.2.1 v.2.2.2.2.2.1 v.2.2.2.2.2.2.1 v.2.2.2.2.2.2.2.1 v.2.2.2.2.2.2.2.2.1 v.2.2.2.2.2.2.2.2.2⟩
def zu (n:Nat):Sig xx:=⟨[],[.d .bool],fun _=>none,some (zq n)⟩
theorem zw (n:Nat):aF 120 (zu n) :=cqG (aj (FD n) ax) Tryz.func120 .z n (by kernel_rfl) fun _=>by kernel_rfl
def Xe (n:Nat):Sig xx:=⟨[.d (.st SI.Plan),.d (.st SI.Lot),.d (.st SI.Drawing)],[.fresh (.st SI.Entry)],fun a=>DY n a.1 a.2.1 a.2.2.1,none⟩
def Xf:Hn SI:=(.s .z (.s .z (.s (.j ⟨[],[(1384,.c 10 [[(.v (.sl aW)),(.v (.sl aO)),(.v (.sl aQ)),(.v (.sl aN)),(.v (.sl aX)),(.v (.sl aR)),(.v (.sl aM)),(.v ah),(.v (.sl ak)),.nil]])],[5,7],[1128],1512,[]⟩ .z) (.s (.s .z (.b (.l ⟨[(31,(.v ah))],[(1384,.c 10 [[(.v (.sl aW)),(.v (.sl aO)),(.v (.sl aQ)),(.v (.sl aN)),(.v (.sl aX)),(.v (.sl aR)),(.v (.sl aM)),(.v ah),(.v (.sl ak)),(.o 1960)]]),(1960,.l aG)],[7,29,30],[1768],1961,[(6668873,aG)]⟩ 0 ⟨[],[(1384,.c 10 [[(.v (.sl aW)),(.v (.sl aO)),(.v (.sl aQ)),(.v (.sl aN)),(.v (.sl aX)),(.v (.sl aR)),(.v (.sl aM)),(.v ah),(.v (.sl ak)),(.o 1960)]]),(1960,.l aG)],[7],[],1961,[]⟩ (.s .z (.s .z (.s (.j ⟨[],[(1384,.c 10 [[(.v (.sl aW)),(.v (.sl aO)),(.v (.sl aQ)),(.v (.sl aN)),(.v (.sl aX)),(.v (.sl aR)),(.v (.sl aM)),(.v ah),(.v (.sl ak)),(.o 2025)]]),(2025,.l aG)],[7,29,30,31],[1768],2026,[]⟩ (.b (.s .z (.s (.j ⟨[(41,(.v .bool))],[],[7,9,29,30,31],[1384,1768,1960,2217],2409,[]⟩ .z) .z)))) .z)))))) (.s .z (.s .z (.s (.s .z (.b (.un .z (.un .z (.un .z (.un .z (.un .z (.un .z (.un .z (.un .z (.un .z (.un .z .z)))))))))))) .z)))))))
theorem Xg (n:Nat):aF 73 (Xe n) :=cq (aj (JA n) (aj (Lb n) (aj kX (aj (Fj n) (aj (CU n) (aj (CX n) (aj (Bh n) (aj (Bo n) (aj (C8 n) (aj (zo n) (aj (zw n) ax))))))))))) Tryz.func73 Xf n (by kernel_rfl) rfl fun _=>by kernel_rfl
def JD (n:Nat):Sig xx:=⟨[.d (.st SI.Town),.d (.st SI.Lot),.d (.st SI.Drawing)],[.d ah],fun a=>mD n a.1 a.2.1 a.2.2.1,none⟩
def JE:Hn SI:=(.s .z (.s (.s .z (.b (.lx ⟨[(15,(.v ah))],[],[13,14],[1512],1704,[]⟩ 0 ⟨[],[],[],[],1704,[]⟩ .z))) .z))
theorem JF (n:Nat):aF 37 (JD n) :=cq (aj (Xg n) ax) Tryz.func37 JE n (by kernel_rfl) rfl fun _=>by kernel_rfl
def FE (n:Nat):Sig xx:=⟨[.ref (.st SI.Town),.ref (.st SI.Lot),.ref (.st SI.Drawing)],[.d ah],fun a=>jI n a.1 a.2.1 a.2.2.1,none⟩
theorem FH (n:Nat):aF 36 (FE n) :=cq (aj (JF n) ax) Tryz.func36 .z n (by kernel_rfl) rfl fun _=>by kernel_rfl
def aeD:Sig xx:=⟨[.d ak,.d ak],[.d ah,.d ah],fun a=>ad1 a.1 a.2.1,none⟩
theorem aeE:aF 137 aeD :=cq ax Tryz.func137 .z 0 (by kernel_rfl) rfl fun _=>by kernel_rfl
def afw:Sig xx:=⟨[.d ak,.d ak],[.d ah],fun a=>abu a.1 a.2.1,none⟩
def afx:Hn SI:=(.s .z (.s (.s (.j ⟨[(14,(.v .bool))],[],[2,3],[1000,1064],1192,[]⟩ .z) .z) .z))
theorem afy:aF 100 afw :=cq (aj wR (aj aeE ax)) Tryz.func100 afx 0 (by kernel_rfl) rfl fun _=>by kernel_rfl
def aeF (n:Nat):Sig xx:=⟨[.d (.sl ak),.d (.sl ak)],[.d ah,.d .bool],fun a=>RB n a.1 a.2.1,none⟩
def aeG:Hn SI:=(.s .z (.s (.s (.j ⟨[(28,(.v .bool))],[],[0,1],[],1128,[]⟩ .z) .z) (.s .z (.s (.s .z (.b (.l ⟨[(6,(.v ah)),(31,(.v ah))],[],[1,29,30],[],1384,[]⟩ 0 ⟨[(6,(.v ah))],[],[],[],1384,[]⟩ (.s .z (.s .z (.s (.b (.s .z (.s .z (.b (.l ⟨[(6,(.v ah)),(37,(.v ah))],[],[1,8,29,30,31,35,36],[1576],1896,[]⟩ 2 ⟨[(6,(.v ah))],[],[1,29,30,31],[],1896,[]⟩ .z))))) .z)))))) .z))))
theorem aeH (n:Nat):aF 58 (aeF n) :=cq (aj (JA n) (aj afy ax)) Tryz.func58 aeG n (by kernel_rfl) rfl fun _=>by kernel_rfl
def ac0 (n:Nat):Sig xx:=⟨[.d (.sl (.st SI.Lot)),.d ah,.d ah],[.fresh ah],fun a=>Pp n a.1 a.2.1 a.2.2.1,none⟩
def ac1:Hn SI:=(.s .z (.s .z (.s .z (.s .z (.s (.s .z (.b (.l ⟨[(9,(.o 2024)),(27,(.v ah))],[(2024,.l (.sl ak))],[0,1,2,7,25,26],[1448],2025,[(9,(.sl ak))]⟩ 0 ⟨[(9,(.o 2024))],[(2024,.l (.sl ak))],[0,1,2,7],[1448],2025,[]⟩ .z))) (.s .z (.s (.s .z (.b (.l ⟨[(12,(.o 2281)),(39,(.v ah))],[(2281,.l ah)],[0,1,2,7,37,38],[1448,2024],2282,[(12,ah)]⟩ 2 ⟨[(12,(.o 2281))],[(2281,.l ah)],[],[],2282,[]⟩ (.s .z (.s .z (.s (.j ⟨[(12,(.o 2346))],[(2346,.l ah)],[0,1,2,7,37,38,39],[1448,2024],2347,[]⟩ (.b (.s .z (.s .z (.s (.j ⟨[(65,(.v .bool))],[],[0,1,2,7,12,13,37,38,39],[1448,2024,2281],3242,[]⟩ .z) .z))))) .z)))))) .z)))))))
theorem ac2 (n:Nat):aF 22 (ac0 n) :=cq (aj (Vl n) (aj (aeH n) (aj (AZ n) (aj (Cv n) ax)))) Tryz.func22 ac1 n (by kernel_rfl) rfl fun _=>by kernel_rfl
def FI (n:Nat):Sig xx:=⟨[.ref (.st SI.Town),.ref (.st SI.Drawing)],[.d ah],fun a=>jJ n a.1 a.2.1,none⟩
theorem FJ (n:Nat):aF 38 (FI n) :=cq (aj (ac2 n) ax) Tryz.func38 .z n (by kernel_rfl) rfl fun _=>by kernel_rfl
def FK:Sig xx:=⟨[.ref (.st SI.Lot)],[.d ah],fun a=>nH a.1,none⟩
theorem FL:aF 39 FK :=cq ax Tryz.func39 .z 0 (by kernel_rfl) rfl fun _=>by kernel_rfl
def JG (n:Nat):Sig xx:=⟨[.d (.st SI.Town),.d (.st SI.Drawing),.d (.sl .str)],[.fresh ah],fun a=>mE n a.1 a.2.1 a.2.2.1,none⟩
def JH:Hn SI:=(.s .z (.s .z (.s .z (.s .z (.s (.s .z (.b (.un .z (.un .z (.un .z (.un .z (.un .z .z))))))) .z)))))
theorem JI (n:Nat):aF 13 (JG n) :=cq (aj (Vl n) (aj (Fb n) (aj (FH n) (aj (FJ n) (aj FL ax))))) Tryz.func13 JH n (by kernel_rfl) rfl fun _=>by kernel_rfl
def Lh (n:Nat):Sig xx:=⟨[.d (.st SI.Town),.d (.sl dN),.d (.st SI.Drawing),.d (.sl .str)],[.fresh ah],fun a=>oG n a.1 a.2.1 a.2.2.1 a.2.2.2.1,none⟩
def Li:Hn SI:=(.s .z (.s .z (.s .z (.s .z (.s (.s .z (.b (.l ⟨[(27,(.v ah))],[(1832,.l ah)],[9,10,25,26],[1576],2152,[]⟩ 0 ⟨[],[(1832,.l ah)],[10],[],2152,[]⟩ (.s .z (.s .z (.s (.b (.s .z (.s .z (.s .z (.s (.j ⟨[(14,(.v ah))],[],[9,10,11,25,26,27],[1576,1832],3368,[]⟩ .z) .z))))) .z)))))) .z)))))
theorem Lj (n:Nat):aF 10 (Lh n) :=cq (aj (Sk n) (aj (JI n) ax)) Tryz.func10 Li n (by kernel_rfl) rfl fun _=>by kernel_rfl
def TU (n:Nat):Sig xx:=⟨[.d (.st SI.A144_bool),.d ah],[.d (.st SI.A12_i64)],fun a=>uo n a.1 a.2.1,none⟩
def TW:Hn SI:=(.s .z (.s .z (.s (.s .z (.b (.l ⟨[(9,(.v ah))],[(1128,.l ah)],[1,2,4,5],[1000,1064],1256,[]⟩ 0 ⟨[],[(1128,.l ah)],[1,2,4,5],[1000,1064],1256,[]⟩ .z))) (.s .z (.s (.s .z (.b (.l ⟨[(17,(.v ah))],[(1128,.l ah)],[1,2,4,5],[1000,1064],1512,[]⟩ 2 ⟨[],[(1128,.l ah)],[4,5],[1064],1512,[]⟩ (.s .z (.s .z (.s (.b (.s .z (.b (.l ⟨[(7,(.v ah))],[(1128,.l ah)],[1,2,4,5,17],[1000,1064],1704,[]⟩ 4 ⟨[],[(1128,.l ah)],[1,2,4,5,17],[1000,1064],1704,[]⟩ (.s .z (.s (.b (.s .z (.b (.l ⟨[(8,(.v ah))],[(1128,.l ah)],[1,2,4,5,7,17],[1000,1064],1960,[]⟩ 6 ⟨[],[(1128,.l ah)],[1,2,4,5,7,17],[1000,1064],1960,[]⟩ (.s .z (.s (.j ⟨[],[(1128,.l ah)],[1,2,4,5,7,8,17],[1000,1064],2088,[]⟩ (.b (.s (.j ⟨[(38,(.v .bool))],[],[1,2,4,5,7,8,17],[1000,1064,1128],2088,[]⟩ .z) .z))) .z)))))) .z)))))) .z)))))) .z)))))
theorem TY (n:Nat):aF 202 (TU n) :=cq ax Tryz.func202 TW n (by kernel_rfl) rfl fun _=>by kernel_rfl
def OW (n:Nat):Sig xx:=⟨[.d (.st SI.A144_bool)],[.fresh ah],fun a=>tq n a.1,none⟩
def OX:Hn SI:=(.s .z (.s .z (.s (.s .z (.b (.l ⟨[(3,(.v ah)),(4,(.v ah)),(11,(.v ah))],[],[1],[1000],1320,[]⟩ 0 ⟨[(3,(.v ah)),(4,(.v ah))],[],[1],[1000],1320,[]⟩ (.s .z (.s .z (.s (.b (.s .z (.s .z (.s .z (.b (.l ⟨[(3,(.v ah)),(4,(.v ah)),(7,(.v ah))],[],[1,5,6,11],[1000,1704],1960,[]⟩ 2 ⟨[(3,(.v ah)),(4,(.v ah))],[],[1,11],[1000],1960,[]⟩ (.s .z (.s (.j ⟨[(3,(.v ah)),(4,(.v ah))],[],[1,5,6,7,11],[1000,1704],2088,[]⟩ (.b (.s (.j ⟨[(34,(.v .bool))],[],[1,3,4,5,6,7,11],[1000,1704],2088,[]⟩ .z) .z))) .z)))))))) .z)))))) (.s .z (.s .z (.s (.b (.l ⟨[(9,(.o 1960))],[(1960,.l ah)],[1,3,4,8],[1000,1768],1961,[]⟩ 4 ⟨[(9,(.o 1960))],[(1960,.l ah)],[],[],1961,[]⟩ (.s .z (.b (.s .z (.b (.l ⟨[(9,(.o 1960)),(10,(.v ah))],[(1960,.l ah)],[1,3,4,8],[1000,1768],2345,[]⟩ 6 ⟨[(9,(.o 2345))],[(2345,.l ah)],[1,3,4,8],[1000,1768],2346,[]⟩ (.s (.b (.s (.j ⟨[(74,(.v .bool))],[],[1,3,4,8,9,10],[1000,1768,1960],2345,[]⟩ .z) .z)) .z)))))))) .z))))))
theorem OY (n:Nat):aF 180 (OW n) :=cq (aj (TY n) ax) Tryz.func180 OX n (by kernel_rfl) rfl fun _=>by kernel_rfl
def OZ:Sig xx:=⟨[.d (.sl .bool)],[.fresh .bool],fun a=>AB a.1,none⟩
theorem O1:aF 181 OZ :=cq ax Tryz.func181 .z 0 (by kernel_rfl) rfl fun _=>by kernel_rfl
def Nc (n:Nat):Sig xx:=⟨[.d dN],[.fresh (.sl .bool),.d (.sl ah),.d ah],fun a=>qp n a.1,none⟩
def Nf:Hn SI:=(.s .z (.s .z (.s .z (.s .z (.s (.s .z (.b (.l ⟨[(7,(.o 2472)),(26,(.v ah))],[(2472,.l (.sl .bool))],[1,5,25],[1000,1576],2473,[(7,(.sl .bool))]⟩ 1 ⟨[(7,(.o 2472))],[(2472,.l (.sl .bool))],[],[],2473,[]⟩ .z))) .z)))))
theorem Ng (n:Nat):aF 133 (Nc n) :=cq (aj (EM n) (aj (GQ n) (aj (GR n) (aj (OY n) (aj O1 ax))))) Tryz.func133 Nf n (by kernel_rfl) rfl fun _=>by kernel_rfl
def Nh (n:Nat):Sig xx:=⟨[.d (.sl dN)],[.fresh (.sl (.sl .bool)),.d .bool],fun a=>qw n a.1,none⟩
def Ni:Hn SI:=(.s .z (.s .z (.s .z (.s (.s .z (.b (.lx ⟨[(4,(.o 1576)),(15,(.v ah))],[(1576,.l (.sl (.sl .bool)))],[13,14],[],1577,[(4,(.sl (.sl .bool)))]⟩ 0 ⟨[(4,(.o 1576))],[(1576,.l (.sl (.sl .bool)))],[],[],1577,[]⟩ .z))) .z))))
theorem Nj (n:Nat):aF 97 (Nh n) :=cq (aj (Ng n) ax) Tryz.func97 Ni n (by kernel_rfl) rfl fun _=>by kernel_rfl
def wG (n:Nat):Sig xx:=⟨[.d (.sl (.sl (.sl .bool))),.d (.sl ah)],[.d .bool],fun a=>bR n a.1 a.2.1,none⟩
def wH:Hn SI:=(.s .z (.s .z (.s (.s .z (.b (.lx ⟨[(14,(.v ah))],[],[0,12,13],[],1576,[]⟩ 0 ⟨[],[],[],[],1576,[]⟩ (.s .z (.s .z (.s (.b (.s .z (.s (.j ⟨[(29,(.v .bool))],[],[0,12,13,14],[],1960,[]⟩ .z) .z))) .z)))))) .z)))
theorem iq (n:Nat):aF 55 (wG n) :=cq ax Tryz.func55 wH n (by kernel_rfl) rfl fun _=>by kernel_rfl
def Ll (n:Nat):Sig xx:=⟨[.d (.sl dN),.d (.sl bn)],[.fresh (.sl (.sl .bool)),.d .bool],fun a=>kK n a.1 a.2.1,none⟩
def Lm:Hn SI:=(.s .z (.s .z (.s .z (.s (.s .z (.b (.lx ⟨[(19,(.v ah))],[(1576,.m ah .bool)],[1,6,7,8,17,18],[1192],1896,[]⟩ 0 ⟨[],[],[1,6,7],[1192],1896,[]⟩ (.s .z (.s .z (.s (.b (.s .z (.s (.s (.j ⟨[(37,(.v .bool))],[],[1,6,7,8,10,17,18,19],[1192,1576,2088],2216,[]⟩ .z) .z) .z))) .z)))))) .z))))
theorem Af (n:Nat):aF 54 (Ll n) :=cq (aj (Nj n) (aj (iq n) ax)) Tryz.func54 Lm n (by kernel_rfl) rfl fun _=>by kernel_rfl
def zx (n:Nat):Sig xx:=⟨[.d (.sl (.sl (.sl .bool))),.d (.sl ah),.d (.sl ah)],[.fresh ah],fun a=>dY n a.1 a.2.1 a.2.2.1,none⟩
def zy:Hn SI:=(.s .z (.s .z (.s (.s .z (.b (.l ⟨[(7,(.o 1320)),(11,(.v ah))],[(1320,.l ah)],[0,1,2,10],[],1321,[(7,ah)]⟩ 0 ⟨[(7,(.o 1320))],[(1320,.l ah)],[],[],1321,[]⟩ (.s .z (.s .z (.s (.j ⟨[(7,(.o 1385))],[(1385,.l ah)],[0,1,2,10,11],[],1386,[]⟩ .z) .z)))))) .z)))
theorem zA (n:Nat):aF 66 (zx n) :=cq ax Tryz.func66 zy n (by kernel_rfl) rfl fun _=>by kernel_rfl
def Bu (n:Nat):Sig xx:=⟨[.d (.sl (.sl (.sl .bool))),.d bn,.d (.sl ah)],[.fresh ah],fun a=>eZ n a.1 a.2.1 a.2.2.1,none⟩
theorem oh (n:Nat):aF 89 (Bu n) :=cq (aj (zA n) ax) Tryz.func89 .z n (by kernel_rfl) rfl fun _=>by kernel_rfl
def zB (n:Nat):Sig xx:=⟨[.d (.sl (.sl (.sl .bool))),.d (.sl bn),.d (.sl ah)],[.d ah,.fresh ah],fun a=>gK n a.1 a.2.1 a.2.2.1,none⟩
def zC:Hn SI:=(.s .z (.s .z (.s .z (.s (.s .z (.b (.l ⟨[(8,(.o 1512)),(15,(.v ah))],[(1192,.m .bool .bool),(1512,.l ah)],[0,2,9,13,14],[],1513,[(8,ah)]⟩ 0 ⟨[(8,(.o 1512))],[(1192,.m .bool .bool),(1512,.l ah)],[9],[],1513,[]⟩ (.s .z (.s .z (.s (.j ⟨[(8,(.o 1577))],[(1192,.m .bool .bool),(1577,.l ah)],[0,2,9,13,14,15],[],1578,[]⟩ .z) .z)))))) (.s (.b (.s (.j ⟨[(34,(.v .bool))],[],[8,9],[1192,1512],1513,[]⟩ .z) .z)) .z)))))
theorem zF (n:Nat):aF 56 (zB n) :=cq (aj (oh n) ax) Tryz.func56 zC n (by kernel_rfl) rfl fun _=>by kernel_rfl
def JJ (n:Nat):Sig xx:=⟨[.d (.sl dN),.d (.sl bn),.d (.sl ah)],[.d ah,.fresh ah,.d ah],fun a=>jQ n a.1 a.2.1 a.2.2.1,none⟩
def JK:Hn SI:=(.s .z (.s .z (.s (.s (.j ⟨[(26,(.v .bool))],[],[1,2,9],[1320],1704,[]⟩ .z) .z) .z)))
theorem yJ (n:Nat):aF 20 (JJ n) :=cq (aj (Af n) (aj (iq n) (aj (zF n) ax))) Tryz.func20 JK n (by kernel_rfl) rfl fun _=>by kernel_rfl
def O3:Sig xx:=⟨[.d (.sl bn)],[.fresh bn],fun a=>AJ a.1,none⟩
theorem O4:aF 86 O3 :=cq ax Tryz.func86 .z 0 (by kernel_rfl) rfl fun _=>by kernel_rfl
def Nk (n:Nat):Sig xx:=⟨[.d (.sl bn)],[.fresh bn],fun a=>jR n a.1,none⟩
def Nl:Hn SI:=(.s .z (.s .z (.s (.s .z (.b (.l ⟨[(9,(.v ah))],[(1128,.l bn)],[3,8],[],1448,[]⟩ 0 ⟨[],[(1128,.l bn)],[3],[],1448,[]⟩ .z))) .z)))
theorem Nn (n:Nat):aF 47 (Nk n) :=cq (aj O4 (aj qC ax)) Tryz.func47 Nl n (by kernel_rfl) rfl fun _=>by kernel_rfl
def JL:Sig xx:=⟨[.d bn,.ref bn],[.d .bool],fun a=>Cg a.1 a.2.1,none⟩
theorem JM:aF 88 JL :=cq ax Tryz.func88 .z 0 (by kernel_rfl) rfl fun _=>by kernel_rfl
def Io (n:Nat):Sig xx:=⟨[.d (.sl bn),.clo [bn] .bool],[.d ah],fun a=>qx n a.1 a.2.1,none⟩
def Ip:Hn SI:=(.s .z (.s (.s .z (.b (.lx ⟨[(8,(.v ah))],[],[0,1,7],[],1256,[]⟩ 0 ⟨[],[],[],[],1256,[]⟩ .z))) .z))
theorem Iq (n:Nat):aF 64 (Io n) :=cq ax Tryz.func64 Ip n (by kernel_rfl) rfl fun _=>by kernel_rfl
def El (n:Nat):Sig xx:=⟨[.d (.sl bn),.clo [bn] .bool],[.d .bool],fun a=>jk n a.1 a.2.1,none⟩
theorem Em (n:Nat):aF 87 (El n) :=cq (aj (Iq n) ax) Tryz.func87 .z n (by kernel_rfl) rfl fun _=>by kernel_rfl
def Lp:Sig xx:=⟨[.d bn],[.d bn],fun a=>kL a.1,none⟩
theorem Lr:aF 90 Lp :=cq (aj qC ax) Tryz.func90 .z 0 (by kernel_rfl) rfl fun _=>by kernel_rfl
def O5 (n:Nat):Sig xx:=⟨[.d (.sl dN),.d (.sl bn),.d bn],[.fresh bn,.d ah],fun a=>tu n a.1 a.2.1 a.2.2.1,none⟩
def O6:Hn SI:=(.s .z (.s .z (.s (.b (.s (.j ⟨[(19,(.v .bool))],[],[1,5,8],[1000,1320],1704,[]⟩ .z) .z)) (.s .z (.s (.s .z (.b (.lx ⟨[(10,(.o 2472)),(39,(.v ah))],[(2472,.l bn)],[5,8,37,38],[1000,1320],2473,[(10,bn)]⟩ 1 ⟨[(10,(.o 2472))],[(2472,.l bn)],[5],[1000],2473,[]⟩ (.s .z (.s .z (.s (.b (.s .z (.s (.s (.j ⟨[(56,(.v .bool))],[],[5,8,10,12,37,38,39],[1000,1320,2472,2665],2793,[]⟩ .z) .z) .z))) .z)))))) .z)))))
theorem O7 (n:Nat):aF 48 (O5 n) :=cq (aj (Af n) (aj (iq n) (aj (Em n) (aj JM (aj (oh n) (aj Lr ax)))))) Tryz.func48 O6 n (by kernel_rfl) rfl fun _=>by kernel_rfl
def Ls (n:Nat):Sig xx:=⟨[.d (.sl dN),.d (.sl bn),.d ah,.d (.sl ah),.d .bool],[.d .bool,.fresh bn,.d ah],fun a=>dU n a.1 a.2.1 a.2.2.1 a.2.2.2.1 a.2.2.2.2.1,none⟩
def Lu:Hn SI:=(.s .z (.s .z (.s .z (.s .z (.s (.j ⟨[(16,(.v .bool))],[],[0,1,2,3],[],2408,[]⟩ .z) .z)))))
theorem Ag (n:Nat):aF 17 (Ls n) :=cq (aj (yJ n) (aj (Nn n) (aj qC (aj (O7 n) ax)))) Tryz.func17 Lu n (by kernel_rfl) rfl fun _=>by kernel_rfl
def Sy (n:Nat):Sig xx:=⟨[.d (.sl ah),.d (.sl ah)],[.d .bool],fun a=>DZ n a.1 a.2.1,none⟩
def Sz:Hn SI:=(.s .z (.s .z (.s (.s .z (.b (.lx ⟨[(5,(.v ah))],[],[0,1],[],1448,[]⟩ 0 ⟨[],[],[],[],1448,[]⟩ .z))) .z)))
theorem SA (n:Nat):aF 12 (Sy n) :=cq ax Tryz.func12 Sz n (by kernel_rfl) rfl fun _=>by kernel_rfl
def Lv:Sig xx:=⟨[.d aN,.ref .str],[.d .bool],fun a=>uZ a.1 a.2.1,none⟩
theorem Ah:aF 44 Lv :=cq ax Tryz.func44 .z 0 (by kernel_rfl) rfl fun _=>by kernel_rfl
def Ir (n:Nat):Sig xx:=⟨[.d (.sl aN),.clo [aN] .bool],[.d ah],fun a=>Aa n a.1 a.2.1,none⟩
def Iu:Hn SI:=(.s .z (.s (.s .z (.b (.lx ⟨[(8,(.v ah))],[],[0,1,7],[],1256,[]⟩ 0 ⟨[],[],[],[],1256,[]⟩ .z))) .z))
theorem Iw (n:Nat):aF 85 (Ir n) :=cq ax Tryz.func85 Iu n (by kernel_rfl) rfl fun _=>by kernel_rfl
def En (n:Nat):Sig xx:=⟨[.d (.sl aN),.clo [aN] .bool],[.d .bool],fun a=>uq n a.1 a.2.1,none⟩
theorem Eo (n:Nat):aF 46 (En n) :=cq (aj (Iw n) ax) Tryz.func46 .z n (by kernel_rfl) rfl fun _=>by kernel_rfl
def GY:GSig xx:=⟨[(.v aN),(.p 0)],[(0,.c 1 [[(.f 44 [] [(.p 1)])]]),(1,.c 1 [[(.v .str)]])],[(.v .bool)],[(0,.c 1 [[(.f 44 [] [(.p 1)])]]),(1,.c 1 [[(.v .str)]])],fun v=>xQ v.1 v.2⟩
def GZ:Sig xx:=⟨[],[.d .bool],fun _=>none,some (GY)⟩
theorem G5:aF 45 GZ :=cqG (aj Ah ax) Tryz.func45 .z 0 (by kernel_rfl) fun _=>by kernel_rfl
def Ep (n:Nat):GSig xx:=⟨[(.v (.sl aN)),(.f 45 [] [(.p 0)])],[(0,.c 1 [[(.f 44 [] [(.p 1)])]]),(1,.c 1 [[(.v .str)]])],[(.v ah)],[(0,.c 1 [[(.f 44 [] [(.p 1)])]]),(1,.c 1 [[(.v .str)]])],fun v=>uw n v.1 v.2⟩
def Er (n:Nat):Sig xx:=⟨[],[.d .bool],fun _=>none,some (Ep n)⟩
def Es:Hn SI:=(.s .z (.s (.s .z (.b (.lx ⟨[(8,(.v ah))],[(0,.c 1 [[(.f 44 [] [(.p 1)])]]),(1,.c 1 [[(.v .str)]])],[0,1,7],[],1256,[]⟩ 0 ⟨[],[(0,.c 1 [[(.f 44 [] [(.p 1)])]]),(1,.c 1 [[(.v .str)]])],[],[],1256,[]⟩ .z))) .z))
theorem Et (n:Nat):aF 85 (Er n) :=cqG (aj G5 ax) Tryz.func85 Es n (by kernel_rfl) fun _=>by kernel_rfl
def zG (n:Nat):GSig xx:=⟨[(.v (.sl aN)),(.f 45 [] [(.p 0)])],[(0,.c 1 [[(.f 44 [] [(.p 1)])]]),(1,.c 1 [[(.v .str)]])],[(.v .bool)],[(0,.c 1 [[(.f 44 [] [(.p 1)])]]),(1,.c 1 [[(.v .str)]])],fun v=>pu n v.1 v.2⟩
def zH (n:Nat):Sig xx:=⟨[],[.d .bool],fun _=>none,some (zG n)⟩
theorem zI (n:Nat):aF 46 (zH n) :=cqG (aj (Et n) ax) Tryz.func46 .z n (by kernel_rfl) fun _=>by kernel_rfl
def SB (n:Nat):Sig xx:=⟨[.d (.st SI.Plan),.d (.sl .str)],[.d .bool],fun a=>vX n a.1 a.2.1,none⟩
def SC:Hn SI:=(.s .z (.s (.s .z (.b (.lx ⟨[(11,(.v ah))],[],[1,2,9,10],[1000],1320,[]⟩ 0 ⟨[],[],[1],[],1320,[]⟩ (.s .z (.s .z (.s (.b (.s .z (.s .z (.s .z (.s (.j ⟨[(27,(.v .bool))],[],[1,2,9,10,11],[1000],1960,[]⟩ .z) .z))))) .z)))))) .z))
theorem SF (n:Nat):aF 15 (SB n) :=cq (aj (ag6 (Eo n) (zI n)) (aj Ah ax)) Tryz.func15 SC n (by kernel_rfl) rfl fun _=>by kernel_rfl
def Zb (n:Nat):Sig xx:=⟨[],[.d .bool],fun _=>Hz n,none⟩
def Zc:Hn SI:=(.s .z (.s (.f [3]) (.s .z (.s .z (.s .z (.s .z (.s (.f [8]) (.s (.f [9]) (.s (.f [9]) (.s .z (.s (.j ⟨[(18,(.v .bool))],[],[5,7,10,13,16],[2792,5160],5672,[]⟩ .z) .z)))))))))))
theorem Zd (n:Nat):aF 7 (Zb n) :=cq (aj aaR (aj (Lj n) (aj (Ag n) (aj (SA n) (aj (SF n) ax))))) Tryz.func7 Zc n (by kernel_rfl) rfl fun _=>by kernel_rfl
def SG (n:Nat):Sig xx:=⟨[.d (.sl dN),.d (.sl bn)],[.d .bool],fun a=>vY n a.1 a.2.1,none⟩
def SH:Hn SI:=(.s .z (.s (.s .z (.b (.lx ⟨[(5,(.v ah))],[],[0,1],[],1128,[]⟩ 0 ⟨[],[],[0,1],[],1128,[]⟩ .z))) (.s (.s .z (.b (.lx ⟨[(6,(.v ah))],[],[0,1],[],1192,[]⟩ 2 ⟨[],[],[0,1],[],1192,[]⟩ .z))) .z)))
theorem SK (n:Nat):aF 9 (SG n) :=cq ax Tryz.func9 SH n (by kernel_rfl) rfl fun _=>by kernel_rfl
def FM (n:Nat):Sig xx:=⟨[.d (.sl dN),.d (.sl bn),.d (.st SI.Ask)],[.d .bool],fun a=>jK n a.1 a.2.1 a.2.2.1,none⟩
def FN:Hn SI:=(.s .z (.s .z (.s (.s (.j ⟨[(27,(.v .bool))],[],[0,1,5,7],[1000],1256,[]⟩ .z) .z) (.s .z (.s .z (.s .z (.s (.s (.j ⟨[(69,(.v .bool))],[],[1,7,8,9,10,11,14,16],[1640],3816,[]⟩ .z) .z) .z)))))))
theorem FO (n:Nat):aF 4 (FM n) :=cq (aj (Zd n) (aj (SK n) (aj (Ag n) (aj (yJ n) ax)))) Tryz.func4 FN n (by kernel_rfl) rfl fun _=>by kernel_rfl
end
end Go.Proofs
