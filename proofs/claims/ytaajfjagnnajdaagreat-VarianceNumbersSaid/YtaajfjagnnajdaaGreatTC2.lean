/-
  Printed by wip/gen: that functions of the program compute this.
-/
import Derived.Test.YtaajfjagnnajdaaGreatTC1
namespace Go.Proofs
open Go.Gb Go.RowKit
noncomputable section
def CQ (n:Nat):Sig xx:=⟨[],[.d .bool],fun _=>none,some (CP n)⟩
def CR:Hn SI:=(.s .z (.s .z (.s .z (.s (.s .z (.b (.l ⟨[(3,(.o 1960)),(23,(.v ah))],[(1448,.l ak),(1960,.l ah)],[4,21,22],[0,1],1961,[(3,ah)]⟩ 0 ⟨[(3,(.o 1960))],[(1448,.l ak),(1960,.l ah)],[4],[0,1],1961,[]⟩ .z))) (.s .z (.s .z (.s .z (.s (.s .z (.b (.l ⟨[(7,(.v ah)),(56,(.v ah))],[],[3,4,55],[0,1,1448,1960],2601,[]⟩ 2 ⟨[(7,(.v ah))],[],[],[0,1],2601,[]⟩ (.s .z (.s .z (.s (.b (.s .z (.s .z (.s .z (.b (.l ⟨[(7,(.v ah)),(9,(.v ah)),(61,(.v ah))],[],[3,4,8,55,56,59,60],[0,1,1448,1960],3049,[]⟩ 4 ⟨[(7,(.v ah))],[],[3,4,55,56],[0,1,1448,1960],3049,[]⟩ (.s .z (.s .z (.s (.j ⟨[(7,(.v ah)),(9,(.v ah))],[],[3,4,8,55,56,59,60,61],[0,1,1448,1960],3113,[]⟩ (.b (.s .z (.s (.j ⟨[(86,(.v .bool))],[],[3,4,7,8,9,11,55,56,59,60,61],[0,1,1448,1960,3241],3369,[]⟩ .z) .z)))) .z))))))))) .z)))))) .z))))))))
theorem CU (n:Nat):aD 114 (CQ n) :=cqG (aj (JO n) (aj CJ (aj (A7 n) ax))) Tryz.func114 CR n (by kernel_rfl) fun _=>by kernel_rfl
def Fp (n:Nat):GSig xx:=⟨[(.p 0),(.f 163 [] [])],[(0,.c 10 [[(.v (.sl aV)),(.v (.sl aO)),(.v (.sl aR)),(.v (.sl aN)),(.v (.sl aW)),(.v (.sl aS)),(.v (.sl aM)),(.v ah),(.v (.sl ak)),(.o 1)]]),(1,.l aG)],[(.v ah)],[(0,.c 10 [[(.v (.sl aV)),(.v (.sl aO)),(.v (.sl aR)),(.v (.sl aN)),(.v (.sl aW)),(.v (.sl aS)),(.v (.sl aM)),(.v ah),(.v (.sl ak)),(.o 1)]]),(1,.l aG)],fun v=>nK n v.1 v.2.1 v.2.2.1 v.2.2.2.1 v.2.2.2.2.1 v.2.2.2.2.2.1 v.2.2.2.2.2.2.1 v.2.2.2.2.2.2.2.1 v.2.2.2.2.2.2.2.2.1 v.2.2.2.2.2.2.2.2.2⟩
def Fq (n:Nat):Sig xx:=⟨[],[.d .bool],fun _=>none,some (Fp n)⟩
def Fs:Hn SI:=(.s .z (.s .z (.s (.s .z (.b (.l ⟨[(5,(.v ah)),(13,(.v ah))],[],[1,11,12],[0,1],1512,[]⟩ 0 ⟨[(5,(.v ah))],[],[],[0,1],1512,[]⟩ .z))) .z)))
theorem Fu (n:Nat):aD 162 (Fq n) :=cqG (aj EN ax) Tryz.func162 Fs n (by kernel_rfl) fun _=>by kernel_rfl
def CV (n:Nat):GSig xx:=⟨[(.p 0)],[(0,.c 10 [[(.v (.sl aV)),(.v (.sl aO)),(.v (.sl aR)),(.v (.sl aN)),(.v (.sl aW)),(.v (.sl aS)),(.v (.sl aM)),(.v ah),(.v (.sl ak)),(.o 1)]]),(1,.l aG)],[(.v ah)],[(0,.c 10 [[(.v (.sl aV)),(.v (.sl aO)),(.v (.sl aR)),(.v (.sl aN)),(.v (.sl aW)),(.v (.sl aS)),(.v (.sl aM)),(.v ah),(.v (.sl ak)),(.o 1)]]),(1,.l aG)],fun v=>iW n v.1 v.2.1 v.2.2.1 v.2.2.2.1 v.2.2.2.2.1 v.2.2.2.2.2.1 v.2.2.2.2.2.2.1 v.2.2.2.2.2.2.2.1 v.2.2.2.2.2.2.2.2.1 v.2.2.2.2.2.2.2.2.2⟩
def CW (n:Nat):Sig xx:=⟨[],[.d .bool],fun _=>none,some (CV n)⟩
theorem CX (n:Nat):aD 115 (CW n) :=cqG (aj (Fu n) ax) Tryz.func115 .z n (by kernel_rfl) fun _=>by kernel_rfl
def yD (n:Nat):GSig xx:=⟨[(.p 0),(.f 165 [] [])],[(0,.c 10 [[(.v (.sl aV)),(.v (.sl aO)),(.v (.sl aR)),(.v (.sl aN)),(.v (.sl aW)),(.v (.sl aS)),(.v (.sl aM)),(.v ah),(.v (.sl ak)),(.o 1)]]),(1,.l aG)],[(.v ah)],[(0,.c 10 [[(.v (.sl aV)),(.v (.sl aO)),(.v (.sl aR)),(.v (.sl aN)),(.v (.sl aW)),(.v (.sl aS)),(.v (.sl aM)),(.v ah),(.v (.sl ak)),(.o 1)]]),(1,.l aG)],fun v=>jI n v.1 v.2.1 v.2.2.1 v.2.2.2.1 v.2.2.2.2.1 v.2.2.2.2.2.1 v.2.2.2.2.2.2.1 v.2.2.2.2.2.2.2.1 v.2.2.2.2.2.2.2.2.1 v.2.2.2.2.2.2.2.2.2⟩
def yE (n:Nat):Sig xx:=⟨[],[.d .bool],fun _=>none,some (yD n)⟩
def yF:Hn SI:=(.s .z (.s .z (.s (.s .z (.b (.l ⟨[(5,(.v ah)),(13,(.v ah))],[],[1,11,12],[0,1],1512,[]⟩ 0 ⟨[(5,(.v ah))],[],[],[0,1],1512,[]⟩ .z))) .z)))
theorem yG (n:Nat):aD 164 (yE n) :=cqG (aj Ag ax) Tryz.func164 yF n (by kernel_rfl) fun _=>by kernel_rfl
def Bg (n:Nat):GSig xx:=⟨[(.p 0)],[(0,.c 10 [[(.v (.sl aV)),(.v (.sl aO)),(.v (.sl aR)),(.v (.sl aN)),(.v (.sl aW)),(.v (.sl aS)),(.v (.sl aM)),(.v ah),(.v (.sl ak)),(.o 1)]]),(1,.l aG)],[(.v ah)],[(0,.c 10 [[(.v (.sl aV)),(.v (.sl aO)),(.v (.sl aR)),(.v (.sl aN)),(.v (.sl aW)),(.v (.sl aS)),(.v (.sl aM)),(.v ah),(.v (.sl ak)),(.o 1)]]),(1,.l aG)],fun v=>ic n v.1 v.2.1 v.2.2.1 v.2.2.2.1 v.2.2.2.2.1 v.2.2.2.2.2.1 v.2.2.2.2.2.2.1 v.2.2.2.2.2.2.2.1 v.2.2.2.2.2.2.2.2.1 v.2.2.2.2.2.2.2.2.2⟩
def Bh (n:Nat):Sig xx:=⟨[],[.d .bool],fun _=>none,some (Bg n)⟩
theorem Bj (n:Nat):aD 116 (Bh n) :=cqG (aj (yG n) ax) Tryz.func116 .z n (by kernel_rfl) fun _=>by kernel_rfl
def yH (n:Nat):GSig xx:=⟨[(.p 0),(.f 166 [] [])],[(0,.c 10 [[(.v (.sl aV)),(.v (.sl aO)),(.v (.sl aR)),(.v (.sl aN)),(.v (.sl aW)),(.v (.sl aS)),(.v (.sl aM)),(.v ah),(.v (.sl ak)),(.o 1)]]),(1,.l aG)],[(.v ah)],[(0,.c 10 [[(.v (.sl aV)),(.v (.sl aO)),(.v (.sl aR)),(.v (.sl aN)),(.v (.sl aW)),(.v (.sl aS)),(.v (.sl aM)),(.v ah),(.v (.sl ak)),(.o 1)]]),(1,.l aG)],fun v=>jJ n v.1 v.2.1 v.2.2.1 v.2.2.2.1 v.2.2.2.2.1 v.2.2.2.2.2.1 v.2.2.2.2.2.2.1 v.2.2.2.2.2.2.2.1 v.2.2.2.2.2.2.2.2.1 v.2.2.2.2.2.2.2.2.2⟩
def yI (n:Nat):Sig xx:=⟨[],[.d .bool],fun _=>none,some (yH n)⟩
def yJ:Hn SI:=(.s .z (.s .z (.s (.s .z (.b (.l ⟨[(5,(.v ah)),(13,(.v ah))],[],[1,11,12],[0,1],1512,[]⟩ 0 ⟨[(5,(.v ah))],[],[],[0,1],1512,[]⟩ .z))) .z)))
theorem yK (n:Nat):aD 164 (yI n) :=cqG (aj Bf ax) Tryz.func164 yJ n (by kernel_rfl) fun _=>by kernel_rfl
def Bl (n:Nat):GSig xx:=⟨[(.p 0)],[(0,.c 10 [[(.v (.sl aV)),(.v (.sl aO)),(.v (.sl aR)),(.v (.sl aN)),(.v (.sl aW)),(.v (.sl aS)),(.v (.sl aM)),(.v ah),(.v (.sl ak)),(.o 1)]]),(1,.l aG)],[(.v ah)],[(0,.c 10 [[(.v (.sl aV)),(.v (.sl aO)),(.v (.sl aR)),(.v (.sl aN)),(.v (.sl aW)),(.v (.sl aS)),(.v (.sl aM)),(.v ah),(.v (.sl ak)),(.o 1)]]),(1,.l aG)],fun v=>ig n v.1 v.2.1 v.2.2.1 v.2.2.2.1 v.2.2.2.2.1 v.2.2.2.2.2.1 v.2.2.2.2.2.2.1 v.2.2.2.2.2.2.2.1 v.2.2.2.2.2.2.2.2.1 v.2.2.2.2.2.2.2.2.2⟩
def Bo (n:Nat):Sig xx:=⟨[],[.d .bool],fun _=>none,some (Bl n)⟩
theorem Bp (n:Nat):aD 117 (Bo n) :=cqG (aj (yK n) ax) Tryz.func117 .z n (by kernel_rfl) fun _=>by kernel_rfl
def Fv (n:Nat):GSig xx:=⟨[(.p 0),(.f 167 [] [])],[(0,.c 10 [[(.v (.sl aV)),(.v (.sl aO)),(.v (.sl aR)),(.v (.sl aN)),(.v (.sl aW)),(.v (.sl aS)),(.v (.sl aM)),(.v ah),(.v (.sl ak)),(.o 1)]]),(1,.l aG)],[(.v ah)],[(0,.c 10 [[(.v (.sl aV)),(.v (.sl aO)),(.v (.sl aR)),(.v (.sl aN)),(.v (.sl aW)),(.v (.sl aS)),(.v (.sl aM)),(.v ah),(.v (.sl ak)),(.o 1)]]),(1,.l aG)],fun v=>nL n v.1 v.2.1 v.2.2.1 v.2.2.2.1 v.2.2.2.2.1 v.2.2.2.2.2.1 v.2.2.2.2.2.2.1 v.2.2.2.2.2.2.2.1 v.2.2.2.2.2.2.2.2.1 v.2.2.2.2.2.2.2.2.2⟩
def Fw (n:Nat):Sig xx:=⟨[],[.d .bool],fun _=>none,some (Fv n)⟩
def Fx:Hn SI:=(.s .z (.s .z (.s (.s .z (.b (.l ⟨[(5,(.v ah)),(13,(.v ah))],[],[1,11,12],[0,1],1512,[]⟩ 0 ⟨[(5,(.v ah))],[],[],[0,1],1512,[]⟩ .z))) .z)))
theorem Fy (n:Nat):aD 162 (Fw n) :=cqG (aj CO ax) Tryz.func162 Fx n (by kernel_rfl) fun _=>by kernel_rfl
def CY (n:Nat):GSig xx:=⟨[(.p 0)],[(0,.c 10 [[(.v (.sl aV)),(.v (.sl aO)),(.v (.sl aR)),(.v (.sl aN)),(.v (.sl aW)),(.v (.sl aS)),(.v (.sl aM)),(.v ah),(.v (.sl ak)),(.o 1)]]),(1,.l aG)],[(.v ah)],[(0,.c 10 [[(.v (.sl aV)),(.v (.sl aO)),(.v (.sl aR)),(.v (.sl aN)),(.v (.sl aW)),(.v (.sl aS)),(.v (.sl aM)),(.v ah),(.v (.sl ak)),(.o 1)]]),(1,.l aG)],fun v=>iX n v.1 v.2.1 v.2.2.1 v.2.2.2.1 v.2.2.2.2.1 v.2.2.2.2.2.1 v.2.2.2.2.2.2.1 v.2.2.2.2.2.2.2.1 v.2.2.2.2.2.2.2.2.1 v.2.2.2.2.2.2.2.2.2⟩
def CZ (n:Nat):Sig xx:=⟨[],[.d .bool],fun _=>none,some (CY n)⟩
theorem C8 (n:Nat):aD 118 (CZ n) :=cqG (aj (Fy n) ax) Tryz.func118 .z n (by kernel_rfl) fun _=>by kernel_rfl
def Bq (n:Nat):GSig xx:=⟨[(.p 0),(.v ak),(.v ah)],[(0,.c 10 [[(.v (.sl aV)),(.v (.sl aO)),(.v (.sl aR)),(.v (.sl aN)),(.v (.sl aW)),(.v (.sl aS)),(.v (.sl aM)),(.v ah),(.v (.sl ak)),(.o 1)]]),(1,.l aG)],[(.v .bool)],[(0,.c 10 [[(.v (.sl aV)),(.v (.sl aO)),(.v (.sl aR)),(.v (.sl aN)),(.v (.sl aW)),(.v (.sl aS)),(.v (.sl aM)),(.v ah),(.v (.sl ak)),(.o 1)]]),(1,.l aG)],fun v=>iw n v.1 v.2.1 v.2.2.1 v.2.2.2.1 v.2.2.2.2.1 v.2.2.2.2.2.1 v.2.2.2.2.2.2.1 v.2.2.2.2.2.2.2.1 v.2.2.2.2.2.2.2.2.1 v.2.2.2.2.2.2.2.2.2.1 v.2.2.2.2.2.2.2.2.2.2.1 v.2.2.2.2.2.2.2.2.2.2.2⟩
def Br (n:Nat):Sig xx:=⟨[],[.d .bool],fun _=>none,some (Bq n)⟩
def Bt:Hn SI:=(.s .z (.s .z (.s .z (.s .z (.s (.s .z (.b (.l ⟨[(9,(.v ah)),(27,(.v ah))],[],[7,25,26],[0,1,1512],2280,[]⟩ 0 ⟨[(9,(.v ah))],[],[7],[0,1,1512],2280,[]⟩ (.s .z (.s .z (.s (.j ⟨[(9,(.v ah))],[],[7,25,26,27],[0,1,1512],2344,[]⟩ .z) .z)))))) .z)))))
theorem Bu (n:Nat):aD 168 (Br n) :=cqG (aj Pd (aj Un (aj Tk ax))) Tryz.func168 Bt n (by kernel_rfl) fun _=>by kernel_rfl
def zn (n:Nat):GSig xx:=⟨[(.p 0)],[(0,.c 10 [[(.v (.sl aV)),(.v (.sl aO)),(.v (.sl aR)),(.v (.sl aN)),(.v (.sl aW)),(.v (.sl aS)),(.v (.sl aM)),(.v ah),(.v (.sl ak)),(.o 1)]]),(1,.l aG)],[(.v ah)],[(0,.c 10 [[(.v (.sl aV)),(.v (.sl aO)),(.v (.sl aR)),(.v (.sl aN)),(.v (.sl aW)),(.v (.sl aS)),(.v (.sl aM)),(.v ah),(.v (.sl ak)),(.o 1)]]),(1,.l aG)],fun v=>gP n v.1 v.2.1 v.2.2.1 v.2.2.2.1 v.2.2.2.2.1 v.2.2.2.2.2.1 v.2.2.2.2.2.2.1 v.2.2.2.2.2.2.2.1 v.2.2.2.2.2.2.2.2.1 v.2.2.2.2.2.2.2.2.2⟩
def zo (n:Nat):Sig xx:=⟨[],[.d .bool],fun _=>none,some (zn n)⟩
def zq:Hn SI:=(.s .z (.s .z (.s (.s .z (.b (.l ⟨[(3,(.v ah)),(14,(.v ah))],[(0,.c 10 [[(.v (.sl aV)),(.v (.sl aO)),(.v (.sl aR)),(.v (.sl aN)),(.v (.sl aW)),(.v (.sl aS)),(.v (.sl aM)),(.v ah),(.v (.sl ak)),(.o 1)]]),(1,.l aG)],[0,12,13],[],1512,[]⟩ 0 ⟨[(3,(.v ah))],[(0,.c 10 [[(.v (.sl aV)),(.v (.sl aO)),(.v (.sl aR)),(.v (.sl aN)),(.v (.sl aW)),(.v (.sl aS)),(.v (.sl aM)),(.v ah),(.v (.sl ak)),(.o 1)]]),(1,.l aG)],[],[],1512,[]⟩ (.s .z (.s .z (.s (.b (.s .z (.s .z (.s (.b (.l ⟨[(6,(.v ah)),(7,(.v ah))],[(0,.c 10 [[(.v (.sl aV)),(.v (.sl aO)),(.v (.sl aR)),(.v (.sl aN)),(.v (.sl aW)),(.v (.sl aS)),(.v (.sl aM)),(.v ah),(.v (.sl ak)),(.o 1)]]),(1,.l aG)],[0,5,12,13,14],[1704],2024,[]⟩ 2 ⟨[(6,(.v ah))],[(0,.c 10 [[(.v (.sl aV)),(.v (.sl aO)),(.v (.sl aR)),(.v (.sl aN)),(.v (.sl aW)),(.v (.sl aS)),(.v (.sl aM)),(.v ah),(.v (.sl ak)),(.o 1)]]),(1,.l aG)],[0,12,13,14],[],2024,[]⟩ .z)) .z)))) .z)))))) .z)))
theorem zu (n:Nat):aD 119 (zo n) :=cqG (aj (Bu n) ax) Tryz.func119 zq n (by kernel_rfl) fun _=>by kernel_rfl
def vM (n:Nat):GSig xx:=⟨[(.v aG),(.p 0)],[(0,.c 1 [[(.p 1)]]),(1,.c 10 [[(.v (.sl aV)),(.v (.sl aO)),(.v (.sl aR)),(.v (.sl aN)),(.v (.sl aW)),(.v (.sl aS)),(.v (.sl aM)),(.v ah),(.v (.sl ak)),(.o 2)]]),(2,.l aG)],[(.v ah)],[(0,.c 1 [[(.p 1)]]),(1,.c 10 [[(.v (.sl aV)),(.v (.sl aO)),(.v (.sl aR)),(.v (.sl aN)),(.v (.sl aW)),(.v (.sl aS)),(.v (.sl aM)),(.v ah),(.v (.sl ak)),(.o 2)]]),(2,.l aG)],fun v=>iT n v.1 v.2.1 v.2.2.1 v.2.2.2.1 v.2.2.2.2.1 v.2.2.2.2.2.1 v.2.2.2.2.2.2.1 v.2.2.2.2.2.2.2.1 v.2.2.2.2.2.2.2.2.1 v.2.2.2.2.2.2.2.2.2.1 v.2.2.2.2.2.2.2.2.2.2⟩
def vN (n:Nat):Sig xx:=⟨[],[.d .bool],fun _=>none,some (vM n)⟩
theorem vO (n:Nat):aD 169 (vN n) :=cqG (aj (LA n) ax) Tryz.func169 .z n (by kernel_rfl) fun _=>by kernel_rfl
def Fz (n:Nat):GSig xx:=⟨[(.p 0),(.f 169 [] [(.p 1)])],[(0,.c 10 [[(.v (.sl aV)),(.v (.sl aO)),(.v (.sl aR)),(.v (.sl aN)),(.v (.sl aW)),(.v (.sl aS)),(.v (.sl aM)),(.v ah),(.v (.sl ak)),(.o 2)]]),(1,.c 1 [[(.p 0)]]),(2,.l aG)],[(.v ah)],[(0,.c 10 [[(.v (.sl aV)),(.v (.sl aO)),(.v (.sl aR)),(.v (.sl aN)),(.v (.sl aW)),(.v (.sl aS)),(.v (.sl aM)),(.v ah),(.v (.sl ak)),(.o 2)]]),(1,.c 1 [[(.p 0)]]),(2,.l aG)],fun v=>nM n v.1 v.2.1 v.2.2.1 v.2.2.2.1 v.2.2.2.2.1 v.2.2.2.2.2.1 v.2.2.2.2.2.2.1 v.2.2.2.2.2.2.2.1 v.2.2.2.2.2.2.2.2.1 v.2.2.2.2.2.2.2.2.2⟩
def FB (n:Nat):Sig xx:=⟨[],[.d .bool],fun _=>none,some (Fz n)⟩
def FC:Hn SI:=(.s .z (.s .z (.s (.s .z (.b (.l ⟨[(5,(.v ah)),(13,(.v ah))],[(0,.c 10 [[(.v (.sl aV)),(.v (.sl aO)),(.v (.sl aR)),(.v (.sl aN)),(.v (.sl aW)),(.v (.sl aS)),(.v (.sl aM)),(.v ah),(.v (.sl ak)),(.o 2)]]),(1,.c 1 [[(.p 0)]]),(2,.l aG)],[1,11,12],[],1512,[]⟩ 0 ⟨[(5,(.v ah))],[(0,.c 10 [[(.v (.sl aV)),(.v (.sl aO)),(.v (.sl aR)),(.v (.sl aN)),(.v (.sl aW)),(.v (.sl aS)),(.v (.sl aM)),(.v ah),(.v (.sl ak)),(.o 2)]]),(1,.c 1 [[(.p 0)]]),(2,.l aG)],[],[],1512,[]⟩ .z))) .z)))
theorem FD (n:Nat):aD 162 (FB n) :=cqG (aj (vO n) ax) Tryz.func162 FC n (by kernel_rfl) fun _=>by kernel_rfl
def zw (n:Nat):GSig xx:=⟨[(.p 0)],[(0,.c 10 [[(.v (.sl aV)),(.v (.sl aO)),(.v (.sl aR)),(.v (.sl aN)),(.v (.sl aW)),(.v (.sl aS)),(.v (.sl aM)),(.v ah),(.v (.sl ak)),(.o 1)]]),(1,.l aG)],[(.v ah)],[(0,.c 10 [[(.v (.sl aV)),(.v (.sl aO)),(.v (.sl aR)),(.v (.sl aN)),(.v (.sl aW)),(.v (.sl aS)),(.v (.sl aM)),(.v ah),(.v (.sl ak)),(.o 1)]]),(1,.l aG)],fun v=>gQ n v.1 v.2.1 v.2.2.1 v.2.2.2.1 v.2.2.2.2.1 v.2.2.2.2.2.1 v.2.2.2.2.2.2.1 v.2.2.2.2.2.2.2.1 v.2.2.2.2.2.2.2.2.1 v.2.2.2.2.2.2.2.2.2⟩
def zx (n:Nat):Sig xx:=⟨[],[.d .bool],fun _=>none,some (zw n)⟩
theorem zy (n:Nat):aD 120 (zx n) :=cqG (aj (FD n) ax) Tryz.func120 .z n (by kernel_rfl) fun _=>by kernel_rfl
def Xz (n:Nat):Sig xx:=⟨[.d (.st SI.Plan),.d (.st SI.Lot),.d (.st SI.Drawing)],[.fresh (.st SI.Entry)],fun a=>DZ n a.1 a.2.1 a.2.2.1,none⟩
def XA:Hn SI:=(.s .z (.s .z (.s (.j ⟨[],[(1384,.c 10 [[(.v (.sl aV)),(.v (.sl aO)),(.v (.sl aR)),(.v (.sl aN)),(.v (.sl aW)),(.v (.sl aS)),(.v (.sl aM)),(.v ah),(.v (.sl ak)),.nil]])],[5,7],[1128],1512,[]⟩ .z) (.s (.s .z (.b (.l ⟨[(31,(.v ah))],[(1384,.c 10 [[(.v (.sl aV)),(.v (.sl aO)),(.v (.sl aR)),(.v (.sl aN)),(.v (.sl aW)),(.v (.sl aS)),(.v (.sl aM)),(.v ah),(.v (.sl ak)),(.o 1960)]]),(1960,.l aG)],[7,29,30],[1768],1961,[(6668873,aG)]⟩ 0 ⟨[],[(1384,.c 10 [[(.v (.sl aV)),(.v (.sl aO)),(.v (.sl aR)),(.v (.sl aN)),(.v (.sl aW)),(.v (.sl aS)),(.v (.sl aM)),(.v ah),(.v (.sl ak)),(.o 1960)]]),(1960,.l aG)],[7],[],1961,[]⟩ (.s .z (.s .z (.s (.j ⟨[],[(1384,.c 10 [[(.v (.sl aV)),(.v (.sl aO)),(.v (.sl aR)),(.v (.sl aN)),(.v (.sl aW)),(.v (.sl aS)),(.v (.sl aM)),(.v ah),(.v (.sl ak)),(.o 2025)]]),(2025,.l aG)],[7,29,30,31],[1768],2026,[]⟩ (.b (.s .z (.s (.j ⟨[(41,(.v .bool))],[],[7,9,29,30,31],[1384,1768,1960,2217],2409,[]⟩ .z) .z)))) .z)))))) (.s .z (.s .z (.s (.s .z (.b (.un .z (.un .z (.un .z (.un .z (.un .z (.un .z (.un .z (.un .z (.un .z (.un .z .z)))))))))))) .z)))))))
theorem XB (n:Nat):aD 73 (Xz n) :=cq (aj (JM n) (aj (Lr n) (aj lq (aj (Fj n) (aj (CU n) (aj (CX n) (aj (Bj n) (aj (Bp n) (aj (C8 n) (aj (zu n) (aj (zy n) ax))))))))))) Tryz.func73 XA n (by kernel_rfl) rfl fun _=>by kernel_rfl
def JP (n:Nat):Sig xx:=⟨[.d (.st SI.Town),.d (.st SI.Lot),.d (.st SI.Drawing)],[.d ah],fun a=>mJ n a.1 a.2.1 a.2.2.1,none⟩
def JQ:Hn SI:=(.s .z (.s (.s .z (.b (.lx ⟨[(15,(.v ah))],[],[13,14],[1512],1704,[]⟩ 0 ⟨[],[],[],[],1704,[]⟩ .z))) .z))
theorem JS (n:Nat):aD 37 (JP n) :=cq (aj (XB n) ax) Tryz.func37 JQ n (by kernel_rfl) rfl fun _=>by kernel_rfl
def FE (n:Nat):Sig xx:=⟨[.ref (.st SI.Town),.ref (.st SI.Lot),.ref (.st SI.Drawing)],[.d ah],fun a=>jN n a.1 a.2.1 a.2.2.1,none⟩
theorem FH (n:Nat):aD 36 (FE n) :=cq (aj (JS n) ax) Tryz.func36 .z n (by kernel_rfl) rfl fun _=>by kernel_rfl
def ae6:Sig xx:=⟨[.d ak,.d ak],[.d ah,.d ah],fun a=>aew a.1 a.2.1,none⟩
theorem ae7:aD 137 ae6 :=cq ax Tryz.func137 .z 0 (by kernel_rfl) rfl fun _=>by kernel_rfl
def af4:Sig xx:=⟨[.d ak,.d ak],[.d ah],fun a=>abP a.1 a.2.1,none⟩
def af5:Hn SI:=(.s .z (.s (.s (.j ⟨[(14,(.v .bool))],[],[2,3],[1000,1064],1192,[]⟩ .z) .z) .z))
theorem af6:aD 100 af4 :=cq (aj wV (aj ae7 ax)) Tryz.func100 af5 0 (by kernel_rfl) rfl fun _=>by kernel_rfl
def ae8 (n:Nat):Sig xx:=⟨[.d (.sl ak),.d (.sl ak)],[.d ah,.d .bool],fun a=>R6 n a.1 a.2.1,none⟩
def ae9:Hn SI:=(.s .z (.s (.s (.j ⟨[(28,(.v .bool))],[],[0,1],[],1128,[]⟩ .z) .z) (.s .z (.s (.s .z (.b (.l ⟨[(6,(.v ah)),(31,(.v ah))],[],[1,29,30],[],1384,[]⟩ 0 ⟨[(6,(.v ah))],[],[],[],1384,[]⟩ (.s .z (.s .z (.s (.b (.s .z (.s .z (.b (.l ⟨[(6,(.v ah)),(37,(.v ah))],[],[1,8,29,30,31,35,36],[1576],1896,[]⟩ 2 ⟨[(6,(.v ah))],[],[1,29,30,31],[],1896,[]⟩ .z))))) .z)))))) .z))))
theorem afa (n:Nat):aD 58 (ae8 n) :=cq (aj (JM n) (aj af6 ax)) Tryz.func58 ae9 n (by kernel_rfl) rfl fun _=>by kernel_rfl
def adq (n:Nat):Sig xx:=⟨[.d (.sl (.st SI.Lot)),.d ah,.d ah],[.fresh ah],fun a=>K8 n a.1 a.2.1 a.2.2.1,none⟩
def adr:Hn SI:=(.s .z (.s .z (.s .z (.s .z (.s (.s .z (.b (.l ⟨[(9,(.o 2024)),(27,(.v ah))],[(2024,.l (.sl ak))],[0,1,2,7,25,26],[1448],2025,[(9,(.sl ak))]⟩ 0 ⟨[(9,(.o 2024))],[(2024,.l (.sl ak))],[0,1,2,7],[1448],2025,[]⟩ .z))) (.s .z (.s (.s .z (.b (.l ⟨[(12,(.o 2281)),(39,(.v ah))],[(2281,.l ah)],[0,1,2,7,37,38],[1448,2024],2282,[(12,ah)]⟩ 2 ⟨[(12,(.o 2281))],[(2281,.l ah)],[],[],2282,[]⟩ (.s .z (.s .z (.s (.j ⟨[(12,(.o 2346))],[(2346,.l ah)],[0,1,2,7,37,38,39],[1448,2024],2347,[]⟩ (.b (.s .z (.s .z (.s (.j ⟨[(65,(.v .bool))],[],[0,1,2,7,12,13,37,38,39],[1448,2024,2281],3242,[]⟩ .z) .z))))) .z)))))) .z)))))))
theorem VH (n:Nat):aD 22 (adq n) :=cq (aj (Nl n) (aj (afa n) (aj (A7 n) (aj (Cv n) ax)))) Tryz.func22 adr n (by kernel_rfl) rfl fun _=>by kernel_rfl
def FI (n:Nat):Sig xx:=⟨[.ref (.st SI.Town),.ref (.st SI.Drawing)],[.d ah],fun a=>jO n a.1 a.2.1,none⟩
theorem FJ (n:Nat):aD 38 (FI n) :=cq (aj (VH n) ax) Tryz.func38 .z n (by kernel_rfl) rfl fun _=>by kernel_rfl
def FK:Sig xx:=⟨[.ref (.st SI.Lot)],[.d ah],fun a=>nN a.1,none⟩
theorem FL:aD 39 FK :=cq ax Tryz.func39 .z 0 (by kernel_rfl) rfl fun _=>by kernel_rfl
def JU (n:Nat):Sig xx:=⟨[.d (.st SI.Town),.d (.st SI.Drawing),.d (.sl .str)],[.fresh ah],fun a=>iI n a.1 a.2.1 a.2.2.1,none⟩
def JV:Hn SI:=(.s .z (.s .z (.s .z (.s .z (.s (.s .z (.b (.un .z (.un .z (.un .z (.un .z (.un .z .z))))))) .z)))))
theorem yL (n:Nat):aD 13 (JU n) :=cq (aj (Nl n) (aj (Fb n) (aj (FH n) (aj (FJ n) (aj FL ax))))) Tryz.func13 JV n (by kernel_rfl) rfl fun _=>by kernel_rfl
def LB (n:Nat):Sig xx:=⟨[.d (.st SI.Town),.d (.sl (.st SI.Order)),.d (.st SI.Drawing),.d (.sl .str)],[.fresh ah],fun a=>oN n a.1 a.2.1 a.2.2.1 a.2.2.2.1,none⟩
def LC:Hn SI:=(.s .z (.s .z (.s .z (.s .z (.s (.s .z (.b (.l ⟨[(27,(.v ah))],[(1832,.l ah)],[9,10,25,26],[1576],2152,[]⟩ 0 ⟨[],[(1832,.l ah)],[10],[],2152,[]⟩ (.s .z (.s .z (.s (.b (.s .z (.s .z (.s .z (.s (.j ⟨[(14,(.v ah))],[],[9,10,11,25,26,27],[1576,1832],3368,[]⟩ .z) .z))))) .z)))))) .z)))))
theorem LD (n:Nat):aD 10 (LB n) :=cq (aj (Ta n) (aj (yL n) ax)) Tryz.func10 LC n (by kernel_rfl) rfl fun _=>by kernel_rfl
def Us (n:Nat):Sig xx:=⟨[.d (.st SI.A144_bool),.d ah],[.d (.st SI.A12_i64)],fun a=>uE n a.1 a.2.1,none⟩
def Ut:Hn SI:=(.s .z (.s .z (.s (.s .z (.b (.l ⟨[(9,(.v ah))],[(1128,.l ah)],[1,2,4,5],[1000,1064],1256,[]⟩ 0 ⟨[],[(1128,.l ah)],[1,2,4,5],[1000,1064],1256,[]⟩ .z))) (.s .z (.s (.s .z (.b (.l ⟨[(17,(.v ah))],[(1128,.l ah)],[1,2,4,5],[1000,1064],1512,[]⟩ 2 ⟨[],[(1128,.l ah)],[4,5],[1064],1512,[]⟩ (.s .z (.s .z (.s (.b (.s .z (.b (.l ⟨[(7,(.v ah))],[(1128,.l ah)],[1,2,4,5,17],[1000,1064],1704,[]⟩ 4 ⟨[],[(1128,.l ah)],[1,2,4,5,17],[1000,1064],1704,[]⟩ (.s .z (.s (.b (.s .z (.b (.l ⟨[(8,(.v ah))],[(1128,.l ah)],[1,2,4,5,7,17],[1000,1064],1960,[]⟩ 6 ⟨[],[(1128,.l ah)],[1,2,4,5,7,17],[1000,1064],1960,[]⟩ (.s .z (.s (.j ⟨[],[(1128,.l ah)],[1,2,4,5,7,8,17],[1000,1064],2088,[]⟩ (.b (.s (.j ⟨[(38,(.v .bool))],[],[1,2,4,5,7,8,17],[1000,1064,1128],2088,[]⟩ .z) .z))) .z)))))) .z)))))) .z)))))) .z)))))
theorem Uu (n:Nat):aD 202 (Us n) :=cq ax Tryz.func202 Ut n (by kernel_rfl) rfl fun _=>by kernel_rfl
def Pe (n:Nat):Sig xx:=⟨[.d (.st SI.A144_bool)],[.fresh ah],fun a=>tJ n a.1,none⟩
def Pf:Hn SI:=(.s .z (.s .z (.s (.s .z (.b (.l ⟨[(3,(.v ah)),(4,(.v ah)),(11,(.v ah))],[],[1],[1000],1320,[]⟩ 0 ⟨[(3,(.v ah)),(4,(.v ah))],[],[1],[1000],1320,[]⟩ (.s .z (.s .z (.s (.b (.s .z (.s .z (.s .z (.b (.l ⟨[(3,(.v ah)),(4,(.v ah)),(7,(.v ah))],[],[1,5,6,11],[1000,1704],1960,[]⟩ 2 ⟨[(3,(.v ah)),(4,(.v ah))],[],[1,11],[1000],1960,[]⟩ (.s .z (.s (.j ⟨[(3,(.v ah)),(4,(.v ah))],[],[1,5,6,7,11],[1000,1704],2088,[]⟩ (.b (.s (.j ⟨[(34,(.v .bool))],[],[1,3,4,5,6,7,11],[1000,1704],2088,[]⟩ .z) .z))) .z)))))))) .z)))))) (.s .z (.s .z (.s (.b (.l ⟨[(9,(.o 1960))],[(1960,.l ah)],[1,3,4,8],[1000,1768],1961,[]⟩ 4 ⟨[(9,(.o 1960))],[(1960,.l ah)],[],[],1961,[]⟩ (.s .z (.b (.s .z (.b (.l ⟨[(9,(.o 1960)),(10,(.v ah))],[(1960,.l ah)],[1,3,4,8],[1000,1768],2345,[]⟩ 6 ⟨[(9,(.o 2345))],[(2345,.l ah)],[1,3,4,8],[1000,1768],2346,[]⟩ (.s (.b (.s (.j ⟨[(74,(.v .bool))],[],[1,3,4,8,9,10],[1000,1768,1960],2345,[]⟩ .z) .z)) .z)))))))) .z))))))
theorem Pg (n:Nat):aD 180 (Pe n) :=cq (aj (Uu n) ax) Tryz.func180 Pf n (by kernel_rfl) rfl fun _=>by kernel_rfl
def Ph:Sig xx:=⟨[.d (.sl .bool)],[.fresh .bool],fun a=>AJ a.1,none⟩
theorem Pj:aD 181 Ph :=cq ax Tryz.func181 .z 0 (by kernel_rfl) rfl fun _=>by kernel_rfl
def Ny (n:Nat):Sig xx:=⟨[.d (.st SI.Order)],[.fresh (.sl .bool),.d (.sl ah),.d ah],fun a=>qC n a.1,none⟩
def Nz:Hn SI:=(.s .z (.s .z (.s .z (.s .z (.s (.s .z (.b (.l ⟨[(7,(.o 2472)),(26,(.v ah))],[(2472,.l (.sl .bool))],[1,5,25],[1000,1576],2473,[(7,(.sl .bool))]⟩ 1 ⟨[(7,(.o 2472))],[(2472,.l (.sl .bool))],[],[],2473,[]⟩ .z))) .z)))))
theorem NA (n:Nat):aD 133 (Ny n) :=cq (aj (EL n) (aj (GY n) (aj (GZ n) (aj (Pg n) (aj Pj ax))))) Tryz.func133 Nz n (by kernel_rfl) rfl fun _=>by kernel_rfl
def NC (n:Nat):Sig xx:=⟨[.d (.sl (.st SI.Order))],[.fresh (.sl (.sl .bool)),.d .bool],fun a=>qD n a.1,none⟩
def ND:Hn SI:=(.s .z (.s .z (.s .z (.s (.s .z (.b (.lx ⟨[(4,(.o 1576)),(15,(.v ah))],[(1576,.l (.sl (.sl .bool)))],[13,14],[],1577,[(4,(.sl (.sl .bool)))]⟩ 0 ⟨[(4,(.o 1576))],[(1576,.l (.sl (.sl .bool)))],[],[],1577,[]⟩ .z))) .z))))
theorem NE (n:Nat):aD 97 (NC n) :=cq (aj (NA n) ax) Tryz.func97 ND n (by kernel_rfl) rfl fun _=>by kernel_rfl
def wL (n:Nat):Sig xx:=⟨[.d (.sl (.sl (.sl .bool))),.d (.sl ah)],[.d .bool],fun a=>bS n a.1 a.2.1,none⟩
def wM:Hn SI:=(.s .z (.s .z (.s (.s .z (.b (.lx ⟨[(14,(.v ah))],[],[0,12,13],[],1576,[]⟩ 0 ⟨[],[],[],[],1576,[]⟩ (.s .z (.s .z (.s (.b (.s .z (.s (.j ⟨[(29,(.v .bool))],[],[0,12,13,14],[],1960,[]⟩ .z) .z))) .z)))))) .z)))
theorem iB (n:Nat):aD 55 (wL n) :=cq ax Tryz.func55 wM n (by kernel_rfl) rfl fun _=>by kernel_rfl
def LF (n:Nat):Sig xx:=⟨[.d (.sl (.st SI.Order)),.d (.sl bB)],[.fresh (.sl (.sl .bool)),.d .bool],fun a=>kQ n a.1 a.2.1,none⟩
def LG:Hn SI:=(.s .z (.s .z (.s .z (.s (.s .z (.b (.lx ⟨[(19,(.v ah))],[(1576,.m ah .bool)],[1,6,7,8,17,18],[1192],1896,[]⟩ 0 ⟨[],[],[1,6,7],[1192],1896,[]⟩ (.s .z (.s .z (.s (.b (.s .z (.s (.s (.j ⟨[(37,(.v .bool))],[],[1,6,7,8,10,17,18,19],[1192,1576,2088],2216,[]⟩ .z) .z) .z))) .z)))))) .z))))
theorem Ah (n:Nat):aD 54 (LF n) :=cq (aj (NE n) (aj (iB n) ax)) Tryz.func54 LG n (by kernel_rfl) rfl fun _=>by kernel_rfl
def zA (n:Nat):Sig xx:=⟨[.d (.sl (.sl (.sl .bool))),.d (.sl ah),.d (.sl ah)],[.fresh ah],fun a=>dV n a.1 a.2.1 a.2.2.1,none⟩
def zB:Hn SI:=(.s .z (.s .z (.s (.s .z (.b (.l ⟨[(7,(.o 1320)),(11,(.v ah))],[(1320,.l ah)],[0,1,2,10],[],1321,[(7,ah)]⟩ 0 ⟨[(7,(.o 1320))],[(1320,.l ah)],[],[],1321,[]⟩ (.s .z (.s .z (.s (.j ⟨[(7,(.o 1385))],[(1385,.l ah)],[0,1,2,10,11],[],1386,[]⟩ .z) .z)))))) .z)))
theorem zC (n:Nat):aD 66 (zA n) :=cq ax Tryz.func66 zB n (by kernel_rfl) rfl fun _=>by kernel_rfl
def Bv (n:Nat):Sig xx:=⟨[.d (.sl (.sl (.sl .bool))),.d bB,.d (.sl ah)],[.fresh ah],fun a=>eY n a.1 a.2.1 a.2.2.1,none⟩
theorem oC (n:Nat):aD 89 (Bv n) :=cq (aj (zC n) ax) Tryz.func89 .z n (by kernel_rfl) rfl fun _=>by kernel_rfl
def zF (n:Nat):Sig xx:=⟨[.d (.sl (.sl (.sl .bool))),.d (.sl bB),.d (.sl ah)],[.d ah,.fresh ah],fun a=>gT n a.1 a.2.1 a.2.2.1,none⟩
def zG:Hn SI:=(.s .z (.s .z (.s .z (.s (.s .z (.b (.l ⟨[(8,(.o 1512)),(15,(.v ah))],[(1192,.m .bool .bool),(1512,.l ah)],[0,2,9,13,14],[],1513,[(8,ah)]⟩ 0 ⟨[(8,(.o 1512))],[(1192,.m .bool .bool),(1512,.l ah)],[9],[],1513,[]⟩ (.s .z (.s .z (.s (.j ⟨[(8,(.o 1577))],[(1192,.m .bool .bool),(1577,.l ah)],[0,2,9,13,14,15],[],1578,[]⟩ .z) .z)))))) (.s (.b (.s (.j ⟨[(34,(.v .bool))],[],[8,9],[1192,1512],1513,[]⟩ .z) .z)) .z)))))
theorem zH (n:Nat):aD 56 (zF n) :=cq (aj (oC n) ax) Tryz.func56 zG n (by kernel_rfl) rfl fun _=>by kernel_rfl
def JW (n:Nat):Sig xx:=⟨[.d (.sl (.st SI.Order)),.d (.sl bB),.d (.sl ah)],[.d ah,.fresh ah,.d ah],fun a=>mR n a.1 a.2.1 a.2.2.1,none⟩
def JX:Hn SI:=(.s .z (.s .z (.s (.s (.j ⟨[(26,(.v .bool))],[],[1,2,9],[1320],1704,[]⟩ .z) .z) .z)))
theorem JY (n:Nat):aD 20 (JW n) :=cq (aj (Ah n) (aj (iB n) (aj (zH n) ax))) Tryz.func20 JX n (by kernel_rfl) rfl fun _=>by kernel_rfl
def Pk:Sig xx:=⟨[.d (.sl bB)],[.fresh bB],fun a=>AL a.1,none⟩
theorem Pm:aD 86 Pk :=cq ax Tryz.func86 .z 0 (by kernel_rfl) rfl fun _=>by kernel_rfl
def NF (n:Nat):Sig xx:=⟨[.d (.sl bB)],[.fresh bB],fun a=>jU n a.1,none⟩
def NG:Hn SI:=(.s .z (.s .z (.s (.s .z (.b (.l ⟨[(9,(.v ah))],[(1128,.l bB)],[3,8],[],1448,[]⟩ 0 ⟨[],[(1128,.l bB)],[3],[],1448,[]⟩ .z))) .z)))
theorem NH (n:Nat):aD 47 (NF n) :=cq (aj Pm (aj qH ax)) Tryz.func47 NG n (by kernel_rfl) rfl fun _=>by kernel_rfl
def JZ:Sig xx:=⟨[.d bB,.ref bB],[.d .bool],fun a=>Ch a.1 a.2.1,none⟩
theorem J2:aD 88 JZ :=cq ax Tryz.func88 .z 0 (by kernel_rfl) rfl fun _=>by kernel_rfl
def Iy (n:Nat):Sig xx:=⟨[.d (.sl bB),.clo [bB] .bool],[.d ah],fun a=>qE n a.1 a.2.1,none⟩
def Iz:Hn SI:=(.s .z (.s (.s .z (.b (.lx ⟨[(8,(.v ah))],[],[0,1,7],[],1256,[]⟩ 0 ⟨[],[],[],[],1256,[]⟩ .z))) .z))
theorem IA (n:Nat):aD 64 (Iy n) :=cq ax Tryz.func64 Iz n (by kernel_rfl) rfl fun _=>by kernel_rfl
def Ej (n:Nat):Sig xx:=⟨[.d (.sl bB),.clo [bB] .bool],[.d .bool],fun a=>jr n a.1 a.2.1,none⟩
theorem El (n:Nat):aD 87 (Ej n) :=cq (aj (IA n) ax) Tryz.func87 .z n (by kernel_rfl) rfl fun _=>by kernel_rfl
def LJ:Sig xx:=⟨[.d bB],[.d bB],fun a=>kR a.1,none⟩
theorem LK:aD 90 LJ :=cq (aj qH ax) Tryz.func90 .z 0 (by kernel_rfl) rfl fun _=>by kernel_rfl
def Pn (n:Nat):Sig xx:=⟨[.d (.sl (.st SI.Order)),.d (.sl bB),.d bB],[.fresh bB,.d ah],fun a=>tK n a.1 a.2.1 a.2.2.1,none⟩
def Po:Hn SI:=(.s .z (.s .z (.s (.b (.s (.j ⟨[(19,(.v .bool))],[],[1,5,8],[1000,1320],1704,[]⟩ .z) .z)) (.s .z (.s (.s .z (.b (.lx ⟨[(10,(.o 2472)),(39,(.v ah))],[(2472,.l bB)],[5,8,37,38],[1000,1320],2473,[(10,bB)]⟩ 1 ⟨[(10,(.o 2472))],[(2472,.l bB)],[5],[1000],2473,[]⟩ (.s .z (.s .z (.s (.b (.s .z (.s (.s (.j ⟨[(56,(.v .bool))],[],[5,8,10,12,37,38,39],[1000,1320,2472,2665],2793,[]⟩ .z) .z) .z))) .z)))))) .z)))))
theorem Pp (n:Nat):aD 48 (Pn n) :=cq (aj (Ah n) (aj (iB n) (aj (El n) (aj J2 (aj (oC n) (aj LK ax)))))) Tryz.func48 Po n (by kernel_rfl) rfl fun _=>by kernel_rfl
def LM (n:Nat):Sig xx:=⟨[.d (.sl (.st SI.Order)),.d (.sl bB),.d ah,.d (.sl ah),.d .bool],[.d .bool,.fresh bB,.d ah],fun a=>gU n a.1 a.2.1 a.2.2.1 a.2.2.2.1 a.2.2.2.2.1,none⟩
def LP:Hn SI:=(.s .z (.s .z (.s .z (.s .z (.s (.j ⟨[(16,(.v .bool))],[],[0,1,2,3],[],2408,[]⟩ .z) .z)))))
theorem LQ (n:Nat):aD 17 (LM n) :=cq (aj (JY n) (aj (NH n) (aj qH (aj (Pp n) ax)))) Tryz.func17 LP n (by kernel_rfl) rfl fun _=>by kernel_rfl
def Tm (n:Nat):Sig xx:=⟨[.d (.sl ah),.d (.sl ah)],[.d .bool],fun a=>mV n a.1 a.2.1,none⟩
def Tn:Hn SI:=(.s .z (.s .z (.s (.s .z (.b (.lx ⟨[(5,(.v ah))],[],[0,1],[],1448,[]⟩ 0 ⟨[],[],[],[],1448,[]⟩ .z))) .z)))
theorem G8 (n:Nat):aD 12 (Tm n) :=cq ax Tryz.func12 Tn n (by kernel_rfl) rfl fun _=>by kernel_rfl
def LU:Sig xx:=⟨[.d aN,.ref .str],[.d .bool],fun a=>vv a.1 a.2.1,none⟩
theorem Ai:aD 44 LU :=cq ax Tryz.func44 .z 0 (by kernel_rfl) rfl fun _=>by kernel_rfl
def IB (n:Nat):Sig xx:=⟨[.d (.sl aN),.clo [aN] .bool],[.d ah],fun a=>Ac n a.1 a.2.1,none⟩
def IC:Hn SI:=(.s .z (.s (.s .z (.b (.lx ⟨[(8,(.v ah))],[],[0,1,7],[],1256,[]⟩ 0 ⟨[],[],[],[],1256,[]⟩ .z))) .z))
theorem IE (n:Nat):aD 85 (IB n) :=cq ax Tryz.func85 IC n (by kernel_rfl) rfl fun _=>by kernel_rfl
def Em (n:Nat):Sig xx:=⟨[.d (.sl aN),.clo [aN] .bool],[.d .bool],fun a=>uF n a.1 a.2.1,none⟩
theorem En (n:Nat):aD 46 (Em n) :=cq (aj (IE n) ax) Tryz.func46 .z n (by kernel_rfl) rfl fun _=>by kernel_rfl
def G9:GSig xx:=⟨[(.v aN),(.p 0)],[(0,.c 1 [[(.f 44 [] [(.p 1)])]]),(1,.c 1 [[(.v .str)]])],[(.v .bool)],[(0,.c 1 [[(.f 44 [] [(.p 1)])]]),(1,.c 1 [[(.v .str)]])],fun v=>xU v.1 v.2⟩
def He:Sig xx:=⟨[],[.d .bool],fun _=>none,some (G9)⟩
theorem Hf:aD 45 He :=cqG (aj Ai ax) Tryz.func45 .z 0 (by kernel_rfl) fun _=>by kernel_rfl
def Eo (n:Nat):GSig xx:=⟨[(.v (.sl aN)),(.f 45 [] [(.p 0)])],[(0,.c 1 [[(.f 44 [] [(.p 1)])]]),(1,.c 1 [[(.v .str)]])],[(.v ah)],[(0,.c 1 [[(.f 44 [] [(.p 1)])]]),(1,.c 1 [[(.v .str)]])],fun v=>uG n v.1 v.2⟩
def Ep (n:Nat):Sig xx:=⟨[],[.d .bool],fun _=>none,some (Eo n)⟩
def Er:Hn SI:=(.s .z (.s (.s .z (.b (.lx ⟨[(8,(.v ah))],[(0,.c 1 [[(.f 44 [] [(.p 1)])]]),(1,.c 1 [[(.v .str)]])],[0,1,7],[],1256,[]⟩ 0 ⟨[],[(0,.c 1 [[(.f 44 [] [(.p 1)])]]),(1,.c 1 [[(.v .str)]])],[],[],1256,[]⟩ .z))) .z))
theorem Es (n:Nat):aD 85 (Ep n) :=cqG (aj Hf ax) Tryz.func85 Er n (by kernel_rfl) fun _=>by kernel_rfl
def zI (n:Nat):GSig xx:=⟨[(.v (.sl aN)),(.f 45 [] [(.p 0)])],[(0,.c 1 [[(.f 44 [] [(.p 1)])]]),(1,.c 1 [[(.v .str)]])],[(.v .bool)],[(0,.c 1 [[(.f 44 [] [(.p 1)])]]),(1,.c 1 [[(.v .str)]])],fun v=>pI n v.1 v.2⟩
def zJ (n:Nat):Sig xx:=⟨[],[.d .bool],fun _=>none,some (zI n)⟩
theorem zK (n:Nat):aD 46 (zJ n) :=cqG (aj (Es n) ax) Tryz.func46 .z n (by kernel_rfl) fun _=>by kernel_rfl
def Tp (n:Nat):Sig xx:=⟨[.d (.st SI.Plan),.d (.sl .str)],[.d .bool],fun a=>wu n a.1 a.2.1,none⟩
def Tq:Hn SI:=(.s .z (.s (.s .z (.b (.lx ⟨[(11,(.v ah))],[],[1,2,9,10],[1000],1320,[]⟩ 0 ⟨[],[],[1],[],1320,[]⟩ (.s .z (.s .z (.s (.b (.s .z (.s .z (.s .z (.s (.j ⟨[(27,(.v .bool))],[],[1,2,9,10,11],[1000],1960,[]⟩ .z) .z))))) .z)))))) .z))
theorem Tt (n:Nat):aD 15 (Tp n) :=cq (aj (ahF (En n) (zK n)) (aj Ai ax)) Tryz.func15 Tq n (by kernel_rfl) rfl fun _=>by kernel_rfl
def Zu (n:Nat):Sig xx:=⟨[],[.d .bool],fun _=>H7 n,none⟩
def Zv:Hn SI:=(.s .z (.s (.f [3]) (.s .z (.s .z (.s .z (.s .z (.s (.f [8]) (.s (.f [9]) (.s (.f [9]) (.s .z (.s (.j ⟨[(18,(.v .bool))],[],[5,7,10,13,16],[2792,5160],5672,[]⟩ .z) .z)))))))))))
theorem Zw (n:Nat):aD 7 (Zu n) :=cq (aj abe (aj (LD n) (aj (LQ n) (aj (G8 n) (aj (Tt n) ax))))) Tryz.func7 Zv n (by kernel_rfl) rfl fun _=>by kernel_rfl
def ads (n:Nat):Sig xx:=⟨[.d (.st SI.Town)],[.d .bool],fun a=>PN n a.1,none⟩
def adt:Hn SI:=(.s .z (.s .z (.s (.s (.j ⟨[(48,(.v .bool))],[],[1,3],[1000,1256],1384,[]⟩ .z) .z) (.s (.s .z (.b (.lx ⟨[(4,(.v ah))],[],[1,3],[1000,1256],1448,[]⟩ 0 ⟨[],[],[1],[1000],1448,[]⟩ (.s .z (.s (.b (.s (.j ⟨[(73,(.v .bool))],[],[1,3,4],[1000,1256],1768,[]⟩ .z) .z)) .z))))) (.s (.s .z (.b (.lx ⟨[(5,(.v ah))],[],[1],[1000],1512,[]⟩ 2 ⟨[],[],[1],[1000],1512,[]⟩ .z))) (.s (.s .z (.b (.lx ⟨[(6,(.v ah))],[],[1],[1000],1576,[]⟩ 4 ⟨[],[],[],[],1576,[]⟩ .z))) .z))))))
theorem adu (n:Nat):aD 29 (ads n) :=cq ax Tryz.func29 adt n (by kernel_rfl) rfl fun _=>by kernel_rfl
def LV (n:Nat):Sig xx:=⟨[.d (.sl (.st SI.Drawing))],[.d .bool],fun a=>kS n a.1,none⟩
def LW:Hn SI:=(.s .z (.s (.s .z (.b (.lx ⟨[(3,(.v ah))],[],[0],[],1128,[]⟩ 0 ⟨[],[],[0],[],1128,[]⟩ (.s .z (.s (.b (.s (.s .z (.b (.lx ⟨[(4,(.v ah))],[],[0,3],[],1448,[]⟩ 2 ⟨[],[],[0,3],[],1448,[]⟩ (.s .z (.s (.b (.s (.j ⟨[(44,(.v .bool))],[],[0,3,4],[],1960,[]⟩ .z) .z)) .z))))) .z)) .z))))) .z))
theorem LX (n:Nat):aD 67 (LV n) :=cq ax Tryz.func67 LW n (by kernel_rfl) rfl fun _=>by kernel_rfl
def adv (n:Nat):Sig xx:=⟨[.d (.st SI.Plan),.d (.st SI.Dossier),.d (.sl (.st SI.Act))],[.d .bool],fun a=>PO n a.1 a.2.1 a.2.2.1,none⟩
def adw:Hn SI:=(.s .z (.s (.s .z (.b (.lx ⟨[(7,(.v ah))],[],[2,3,4],[1000,1064],1256,[]⟩ 0 ⟨[],[],[2,3,4],[1000,1064],1256,[]⟩ .z))) .z))
theorem adx (n:Nat):aD 30 (adv n) :=cq (aj (LX n) ax) Tryz.func30 adw n (by kernel_rfl) rfl fun _=>by kernel_rfl
def ady (n:Nat):Sig xx:=⟨[.d (.st SI.Town),.d (.st SI.Drawing),.d (.sl .str)],[.d .bool],fun a=>PS n a.1 a.2.1 a.2.2.1,none⟩
theorem adz (n:Nat):aD 8 (ady n) :=cq (aj (adu n) (aj (adx n) ax)) Tryz.func8 .z n (by kernel_rfl) rfl fun _=>by kernel_rfl
def FM (n:Nat):Sig xx:=⟨[.d (.st SI.Town),.d (.st SI.Drawing),.d (.sl .str)],[.d .bool],fun a=>jP n a.1 a.2.1 a.2.2.1,none⟩
def FN:Hn SI:=(.s .z (.s .z (.s .z (.s .z (.s .z (.s .z (.s (.s .z (.b (.l ⟨[(9,(.o 2344)),(10,(.v ah)),(11,(.v ah))],[(2344,.l .str)],[2,3,4,7,8],[1000,1064,1832],2345,[(9,.str)]⟩ 0 ⟨[(9,(.o 2344)),(10,(.v ah))],[(2344,.l .str)],[2,3,4,7,8],[1000,1064,1832],2345,[]⟩ (.s .z (.s (.j ⟨[(9,(.o 2473)),(10,(.v ah))],[(2473,.l .str)],[2,3,4,7,8,11],[1000,1064,1832],2474,[]⟩ (.b (.s .z (.s .z (.s (.s .z (.b (.l ⟨[(12,(.v .bool)),(13,(.v ah))],[],[2,3,4,7,8,9,10,11],[1000,1064,1832,2857],3241,[]⟩ 2 ⟨[(12,(.v .bool))],[],[2,3,4,7,8,9,10,11],[1000,1064,1832,2857],3241,[]⟩ (.s .z (.s (.j ⟨[(12,(.v .bool))],[],[2,3,4,7,8,9,10,11,13],[1000,1064,1832,2857],3497,[]⟩ .z) .z))))) .z))))) .z))))) (.s .z (.s .z (.s (.s (.j ⟨[(87,(.v .bool))],[],[3,4,7,8,10,15],[1000,1064,1832,3305],3497,[]⟩ .z) .z) .z))))))))))
theorem FO (n:Nat):aD 5 (FM n) :=cq (aj (Zw n) (aj (adz n) (aj (yL n) (aj (Nl n) (aj (G8 n) (aj (VH n) ax)))))) Tryz.func5 FN n (by kernel_rfl) rfl fun _=>by kernel_rfl
end
end Go.Proofs
