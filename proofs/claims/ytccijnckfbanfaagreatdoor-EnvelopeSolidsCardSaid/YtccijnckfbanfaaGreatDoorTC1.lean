/-
  Printed by wip/gen: that functions of the program compute this.
-/
import Derived.Test.YtccijnckfbanfaaGreatDoorS2
open Go.IntKind (i64)
open List (mem_cons mem_append mem_singleton length_cons map_congr_left map_append)
namespace Go.Proofs
open Go.Gb Go.RowKit
noncomputable section
def UM:Sig xx:=⟨[],[.d (.st SI.Town)],fun _=>EY,none⟩
theorem UN:aH 30 UM :=cq aA Tryz.func30 .z 0 (by kernel_rfl) rfl fun _=>by kernel_rfl
def Pj:Sig xx:=⟨[.d (.sl ak)],[.fresh ak],fun a=>nY a.1,none⟩
theorem vv:aH 47 Pj :=cq aA Tryz.func47 .z 0 (by kernel_rfl) rfl fun _=>by kernel_rfl
def Tq:Sig xx:=⟨[.d (.sl ah)],[.fresh ah],fun a=>CO a.1,none⟩
theorem Tt:aH 89 Tq :=cq aA Tryz.func89 .z 0 (by kernel_rfl) rfl fun _=>by kernel_rfl
def ab9:Sig xx:=⟨[.d (.st SI.Lot)],[.d (.st SI.Lot)],fun a=>Kt a.1,none⟩
theorem acd:aH 48 ab9 :=cq (au vv (au Tt aA)) Tryz.func48 .z 0 (by kernel_rfl) rfl fun _=>by kernel_rfl
def aee (n:Nat):Sig xx:=⟨[.d (.sl (.st SI.Lot)),.d ah],[.d (.st SI.Lot),.d .bool],fun a=>CQ n a.1 a.2.1,none⟩
def aef:Hn SI:=(.s .z (.s (.s .z (.b (.lx ⟨[(10,(.v ah))],[],[1,4,8,9],[1000],1320,[]⟩ 0 ⟨[],[],[4],[1000],1320,[]⟩ .z))) .z))
theorem Nf (n:Nat):aH 19 (aee n) :=cq (au acd aA) Tryz.func19 aef n (by kernel_rfl) rfl fun _=>by kernel_rfl
def aeg:Sig xx:=⟨[.d ak],[.d .bool],fun a=>vV a.1,none⟩
theorem BH:aH 92 aeg :=cq aA Tryz.func92 .z 0 (by kernel_rfl) rfl fun _=>by kernel_rfl
def Tv:Sig xx:=⟨[.nil,.d ah],[.fresh ak],fun a=>Ku a.1 a.2.1,none⟩
theorem Tw:aH 157 Tv :=cq aA Tryz.func157 .z 0 (by kernel_rfl) rfl fun _=>by kernel_rfl
def Ng (n:Nat):Sig xx:=⟨[.d (.sl (.sl ak))],[.fresh ak],fun a=>xN n a.1,none⟩
def Nh:Hn SI:=(.s .z (.s .z (.s (.s .z (.b (.l ⟨[(3,(.v ah)),(11,(.v ah))],[],[0,9,10],[],1320,[]⟩ 0 ⟨[(3,(.v ah))],[],[0],[],1320,[]⟩ .z))) (.s .z (.s (.s .z (.b (.l ⟨[(6,(.o 1704)),(27,(.v ah))],[(1704,.l ak)],[25,26],[],1705,[]⟩ 2 ⟨[(6,(.o 1704))],[(1704,.l ak)],[],[],1705,[]⟩ .z))) .z)))))
theorem Ni (n:Nat):aH 128 (Ng n) :=cq (au Tw aA) Tryz.func128 Nh n (by kernel_rfl) rfl fun _=>by kernel_rfl
def XY:Sig xx:=⟨[.d (.int .u64)],[.d ah],fun a=>bits_Len64 a.1,none⟩
def XZ:Hn SI:=(.s .z (.s (.j ⟨[(0,(.v (.int .u64))),(2,(.v ah))],[],[],[],1064,[]⟩ .z) (.s (.j ⟨[(0,(.v (.int .u64))),(2,(.v ah))],[],[],[],1064,[]⟩ .z) (.s (.j ⟨[(0,(.v (.int .u64))),(2,(.v ah))],[],[],[],1064,[]⟩ .z) .z))))
theorem X0:aH 140 XY :=cq aA Tryz.func140 XZ 0 (by kernel_rfl) rfl fun _=>by kernel_rfl
def ace:Sig xx:=⟨[.d (.int .u64)],[.d ah],fun a=>bits_Len a.1,none⟩
theorem Dm:aH 105 ace :=cq (au X0 aA) Tryz.func105 .z 0 (by kernel_rfl) rfl fun _=>by kernel_rfl
def Pk:Sig xx:=⟨[.d ah],[.d .bool],fun a=>cmp_isNaN_int a.1,none⟩
theorem DZ:aH 165 Pk :=cq aA Tryz.func165 .z 0 (by kernel_rfl) rfl fun _=>by kernel_rfl
def Tx:Sig xx:=⟨[.d ah,.d ah],[.d .bool],fun a=>cmp_Less_int a.1 a.2.1,none⟩
theorem iH:aH 136 Tx :=cq (au DZ aA) Tryz.func136 .z 0 (by kernel_rfl) rfl fun _=>by kernel_rfl
def uI (n:Nat):Sig xx:=⟨[.mut ah,.d ah,.d ah],[.mu ah],fun a=>vW n a.1 a.2.1 a.2.2.1,none⟩
def uJ:Hn SI:=(.s .z (.b (.l ⟨[(6,(.v ah))],[(0,.l ah)],[0,1,2],[],1192,[]⟩ 0 ⟨[],[(0,.l ah)],[],[],1192,[]⟩ (.s .z (.s (.b (.s .z (.b (.l ⟨[(7,(.v ah))],[(0,.l ah)],[0,1,2,6],[],1512,[]⟩ 2 ⟨[],[(0,.l ah)],[0,1,2,6],[],1512,[]⟩ (.s (.s (.j ⟨[(30,(.v .bool))],[],[0,1,2,6,7],[0],1512,[]⟩ .z) .z) .z))))) .z)))))
theorem uK (n:Nat):aH 130 (uI n) :=cq (au iH aA) Tryz.func130 uJ n (by kernel_rfl) rfl fun _=>by kernel_rfl
def Ag (n:Nat):Sig xx:=⟨[.mut ah,.d ah,.d ah,.d ah],[.mu ah],fun a=>CR n a.1 a.2.1 a.2.2.1 a.2.2.2.1,none⟩
def Ah:Hn SI:=(.s .z (.b (.lx ⟨[(8,(.v ah))],[(0,.l ah)],[0,2,3],[],1128,[]⟩ 0 ⟨[],[(0,.l ah)],[],[],1128,[]⟩ (.b (.s .z (.s .z (.s (.j ⟨[(9,(.v ah))],[],[0,2,3,8],[0],1576,[]⟩ (.s (.j ⟨[(36,(.v .bool))],[],[0,2,3,8,9],[0],1576,[]⟩ .z) .z)) .z)))))))
theorem Ai (n:Nat):aH 160 (Ag n) :=cq (au iH aA) Tryz.func160 Ah n (by kernel_rfl) rfl fun _=>by kernel_rfl
def Aj (n:Nat):Sig xx:=⟨[.mut ah,.d ah,.d ah],[.mu ah],fun a=>CU n a.1 a.2.1 a.2.2.1,none⟩
def Ak:Hn SI:=(.s .z (.s .z (.s .z (.s (.s .z (.b (.l ⟨[(9,(.v ah))],[(0,.l ah)],[0,6,7,8],[],1704,[]⟩ 0 ⟨[],[(0,.l ah)],[0,6,7,8],[],1704,[]⟩ .z))) (.s .z (.b (.l ⟨[(10,(.v ah))],[(0,.l ah)],[0,6,7],[],1896,[]⟩ 2 ⟨[],[(0,.l ah)],[],[],1896,[]⟩ .z)))))))
theorem Al (n:Nat):aH 131 (Aj n) :=cq (au (Ai n) aA) Tryz.func131 Ak n (by kernel_rfl) rfl fun _=>by kernel_rfl
def GX:Sig xx:=⟨[.d ah],[.d (.int .u64)],fun a=>aM a.1,none⟩
theorem nP:aH 161 GX :=cq (au Dm aA) Tryz.func161 .z 0 (by kernel_rfl) rfl fun _=>by kernel_rfl
def Ji:Sig xx:=⟨[.mref (.int .u64)],[.d (.int .u64),.mr (.int .u64)],fun a=>aN a.1,none⟩
theorem pz:aH 162 Ji :=cq aA Tryz.func162 .z 0 (by kernel_rfl) rfl fun _=>by kernel_rfl
def uL (n:Nat):Sig xx:=⟨[.mut ah,.d ah,.d ah],[.mu ah],fun a=>vX n a.1 a.2.1 a.2.2.1,none⟩
def uM:Hn SI:=(.s .z (.s .z (.s (.s .z (.s .z (.s .z (.b (.l ⟨[(9,(.v ah))],[(0,.l ah),(1512,.c 1 [[(.v (.int .u64))]])],[0,1,6,7,8],[],2280,[]⟩ 0 ⟨[],[(0,.l ah)],[],[],2280,[]⟩ (.s .z (.s (.b (.s .z (.s (.j ⟨[(10,(.v ah))],[],[0,1,6,7,8,9],[0,1512],3176,[]⟩ .z) .z))) .z))))))) .z)))
theorem uN (n:Nat):aH 132 (uL n) :=cq (au nP (au pz aA)) Tryz.func132 uM n (by kernel_rfl) rfl fun _=>by kernel_rfl
def Dn:Sig xx:=⟨[.d (.sl ah),.d ah,.d ah,.mref ah],[.d ah,.d ah,.mr ah],fun a=>EZ a.1 a.2.1 a.2.2.1 a.2.2.2.1,none⟩
theorem Dp:aH 180 Dn :=cq (au iH aA) Tryz.func180 .z 0 (by kernel_rfl) rfl fun _=>by kernel_rfl
def Dq:Sig xx:=⟨[.d (.sl ah),.d ah,.d ah,.d ah,.mref ah],[.d ah,.mr ah],fun a=>E8 a.1 a.2.1 a.2.2.1 a.2.2.2.1 a.2.2.2.2.1,none⟩
theorem qM:aH 164 Dq :=cq (au Dp aA) Tryz.func164 .z 0 (by kernel_rfl) rfl fun _=>by kernel_rfl
def rV:Sig xx:=⟨[.d (.sl ah),.d ah,.mref ah],[.d ah,.mr ah],fun a=>uY a.1 a.2.1 a.2.2.1,none⟩
theorem rW:aH 163 rV :=cq (au qM aA) Tryz.func163 .z 0 (by kernel_rfl) rfl fun _=>by kernel_rfl
def wN:Sig xx:=⟨[.d (.sl ah),.d ah,.d ah],[.d ah,.d ah],fun a=>yD a.1 a.2.1 a.2.2.1,none⟩
def wO:Hn SI:=(.s .z (.s .z (.s .z (.s .z (.s .z (.s .z (.s (.j ⟨[(11,(.v ah))],[(1384,.c 1 [[(.v ah)]])],[9],[],2600,[]⟩ (.s .z (.s (.s (.j ⟨[(10,(.v ah)),(11,(.v ah)),(12,(.v ah))],[(1384,.c 1 [[(.v ah)]])],[0,9],[],2728,[]⟩ .z) .z) .z))) .z)))))))
theorem wP:aH 133 wN :=cq (au rW (au qM aA)) Tryz.func133 wO 0 (by kernel_rfl) rfl fun _=>by kernel_rfl
def vw (n:Nat):Sig xx:=⟨[.mut ah,.d ah,.d ah],[.mu ah],fun a=>xO n a.1 a.2.1 a.2.2.1,none⟩
def vz:Hn SI:=(.s .z (.s .z (.b (.l ⟨[(6,(.v ah)),(7,(.v ah))],[(0,.l ah)],[0],[],1320,[]⟩ 0 ⟨[],[(0,.l ah)],[],[],1320,[]⟩ .z))))
theorem vB (n:Nat):aH 134 (vw n) :=cq aA Tryz.func134 vz n (by kernel_rfl) rfl fun _=>by kernel_rfl
def nQ (n:Nat):Sig xx:=⟨[.mut ah,.d ah,.d ah],[.d .bool,.mu ah],fun a=>oV n a.1 a.2.1 a.2.2.1,none⟩
def nR:Hn SI:=(.s .z (.s .z (.s (.s .z (.b (.lx ⟨[(7,(.v ah)),(8,(.v ah))],[(0,.l ah)],[0,1,2],[],1320,[]⟩ 0 ⟨[],[(0,.l ah)],[],[],1320,[]⟩ (.s .z (.s (.jx ⟨[(7,(.v ah))],[(0,.l ah)],[0,1,2,8],[],1448,[]⟩ (.b (.s (.b (.l ⟨[(7,(.v ah))],[],[0,1,2,8],[0],1448,[]⟩ 2 ⟨[(7,(.v ah))],[],[0,1,2,8],[0],1448,[]⟩ (.s (.s (.j ⟨[(32,(.v .bool))],[],[0,1,2,7,8],[0],1448,[]⟩ .z) .z) .z))) (.s .z (.s .z (.s .z (.s (.j ⟨[],[(0,.l ah)],[0,1,2,7,8],[],3048,[]⟩ (.s .z (.s (.s .z (.b (.l ⟨[(9,(.v ah))],[(0,.l ah)],[0,1,2,7,8],[],3496,[]⟩ 4 ⟨[],[(0,.l ah)],[0,1,2,7,8],[],3496,[]⟩ .z))) .z))) (.s .z (.s (.s .z (.b (.l ⟨[(10,(.v ah))],[(0,.l ah)],[0,1,2,7,8],[],3496,[]⟩ 6 ⟨[],[(0,.l ah)],[0,1,2,7,8],[],3496,[]⟩ .z))) .z))))))))) .z))))) .z)))
theorem nS (n:Nat):aH 135 (nQ n) :=cq (au iH aA) Tryz.func135 nR n (by kernel_rfl) rfl fun _=>by kernel_rfl
def rX (n:Nat):Sig xx:=⟨[.mut ah,.d ah,.d ah,.d ah],[.d ah,.mu ah],fun a=>uZ n a.1 a.2.1 a.2.2.1 a.2.2.2.1,none⟩
def rY:Hn SI:=(.s .z (.s .z (.s .z (.s (.b (.l ⟨[(9,(.v ah)),(10,(.v ah))],[(0,.l ah)],[0,1],[],2472,[]⟩ 0 ⟨[(9,(.v ah))],[(0,.l ah)],[],[],2472,[]⟩ (.b (.s (.b (.l ⟨[(9,(.v ah))],[],[0,1,10],[0],2472,[]⟩ 2 ⟨[(9,(.v ah))],[],[0,1,10],[0],2472,[]⟩ (.s (.s (.j ⟨[(43,(.v .bool))],[],[0,1,9,10],[0],2472,[]⟩ .z) .z) .z))) (.s (.b (.l ⟨[(10,(.v ah))],[],[0,1,9],[0],2472,[]⟩ 4 ⟨[(10,(.v ah))],[],[0,1,9],[0],2472,[]⟩ (.s (.s (.j ⟨[(59,(.v .bool))],[],[0,1,9,10],[0],2472,[]⟩ .z) .z) .z))) .z))))) .z))))
theorem rZ (n:Nat):aH 137 (rX n) :=cq (au iH aA) Tryz.func137 rY n (by kernel_rfl) rfl fun _=>by kernel_rfl
def yF (n:Nat):Sig xx:=⟨[.mut ah,.d ah,.d ah,.d ah],[.d ah,.d .bool,.mu ah],fun a=>Bj n a.1 a.2.1 a.2.2.1 a.2.2.2.1,none⟩
def yG:Hn SI:=(.s .z (.s .z (.s .z (.s (.b (.l ⟨[(10,(.v ah))],[],[0,1,11],[0],2536,[]⟩ 0 ⟨[(10,(.v ah))],[],[0,1,11],[0],2536,[]⟩ (.s (.s (.j ⟨[(43,(.v .bool))],[],[0,1,10,11],[0],2536,[]⟩ .z) .z) .z))) (.s (.b (.l ⟨[(11,(.v ah))],[],[0,1,10],[0],2536,[]⟩ 2 ⟨[(11,(.v ah))],[],[0,1,10],[0],2536,[]⟩ (.s (.s (.j ⟨[(60,(.v .bool))],[],[0,1,10,11],[0],2536,[]⟩ .z) .z) .z))) (.s .z (.s .z (.s .z (.s .z (.s (.b (.l ⟨[(10,(.v ah)),(11,(.v ah))],[(0,.l ah)],[0,1],[],4136,[]⟩ 4 ⟨[(11,(.v ah))],[(0,.l ah)],[0,1],[],4136,[]⟩ (.b (.s (.b (.l ⟨[(10,(.v ah))],[],[0,1,11],[0],4136,[]⟩ 6 ⟨[(10,(.v ah))],[],[0,1,11],[0],4136,[]⟩ (.s (.s (.j ⟨[(112,(.v .bool))],[],[0,1,10,11],[0],4136,[]⟩ .z) .z) .z))) (.s (.b (.l ⟨[(11,(.v ah))],[],[0,1,10],[0],4136,[]⟩ 8 ⟨[(11,(.v ah))],[],[0,1,10],[0],4136,[]⟩ (.s (.s (.j ⟨[(129,(.v .bool))],[],[0,1,10,11],[0],4136,[]⟩ .z) .z) .z))) .z))))) .z))))))))))
theorem yH (n:Nat):aH 138 (yF n) :=cq (au iH aA) Tryz.func138 yG n (by kernel_rfl) rfl fun _=>by kernel_rfl
def BI:Hn SI:=(.s .z (.s .z (.b (.lx ⟨[(1,(.v ah)),(2,(.v ah)),(3,(.v ah)),(8,(.v .bool)),(9,(.v .bool))],[(0,.l ah)],[0],[],1128,[]⟩ 999999 ⟨[],[],[],[],1128,[]⟩ (.b (.s .z (.s .z (.s .z (.s (.j ⟨[(3,(.v ah))],[(0,.l ah)],[0,1,2,8,9,10],[],1640,[]⟩ .z) (.s .z (.s (.j ⟨[(11,(.v ah)),(12,(.v ah))],[(0,.l ah)],[0,1,2,3,8,9,10],[],2216,[]⟩ .z) (.s (.jx ⟨[],[(0,.l ah)],[0,1,2,3,8,9,10,11],[],2216,[]⟩ (.s (.j ⟨[(68,(.v .bool))],[],[0,1,2,3,8,9,10,11],[0],2216,[]⟩ .z) .z)) (.s (.s (.j ⟨[(87,(.v .bool))],[],[0,1,2,3,8,9,10,11],[0],2216,[]⟩ .z) .z) .z)))))))))))))
theorem Am (n:Nat) (rc:((List Int))->(Int)->(Int)->(Int)->Option (List Int)) (hr:aH 104 (jA rc)):aH 104 (jA (jJ n rc)) :=cq (au (uK n) (au (Al n) (au (uN n) (au wP (au (vB n) (au (nS n) (au iH (au (rZ n) (au (yH n) (au hr aA)))))))))) Tryz.func104 BI n (by kernel_rfl) rfl fun _=>by kernel_rfl
theorem oz (n:Nat):∀ m,aH 104 (jA (dZ n m))
 | 0=>cok (pK Tryz.func104 (by kernel_rfl:Tryz.f104.body=some (Tryz.f104.body.getD .skip)) (by kernel_rfl)) (fun _ _ h=>(by cases h)) rfl
 |m+1=>Am n _ (oz n m)
def BJ (n:Nat):Sig xx:=⟨[.mut ah,.d ah,.d ah,.d ah],[.mu ah],fun a=>lF n a.1 a.2.1 a.2.2.1 a.2.2.2.1,none⟩
theorem BK (n:Nat):aH 104 (BJ n):=oz n n
def UO (n:Nat):Sig xx:=⟨[.mut ah],[.mu ah],fun a=>j4 n a.1,none⟩
theorem tH (n:Nat):aH 65 (UO n) :=cq (au Dm (au (BK n) aA)) Tryz.func65 .z n (by kernel_rfl) rfl fun _=>by kernel_rfl
def Nj (n:Nat):Sig xx:=⟨[.mut ah],[.whole 0,.mu ah],fun a=>jK n a.1,none⟩
def Nk:Hn SI:=(.s .z (.s .z (.s (.s .z (.b (.lx ⟨[(3,(.v ah))],[],[0],[0],1320,[]⟩ 0 ⟨[],[],[0],[0],1320,[]⟩ (.s .z (.s (.b (.s .z (.s (.s .z (.s (.s .z (.b (.l ⟨[(3,(.v ah)),(5,(.v ah))],[(0,.l ah)],[0,4],[],2536,[]⟩ 2 ⟨[(3,(.v ah))],[(0,.l ah)],[0],[],2536,[]⟩ (.s .z (.s (.j ⟨[(3,(.v ah))],[(0,.l ah)],[0,4,5],[],2792,[]⟩ .z) .z))))) .z)) .z))) .z))))) .z)))
theorem ng (n:Nat):aH 66 (Nj n) :=cq aA Tryz.func66 Nk n (by kernel_rfl) rfl fun _=>by kernel_rfl
def sj (n:Nat):Sig xx:=⟨[.mut (.st SI.span),.d ah,.d ah,.clo [(.st SI.span),(.st SI.span)] ah],[.mu (.st SI.span)],fun a=>u6 n a.1 a.2.1 a.2.2.1 a.2.2.2.1,none⟩
def su:Hn SI:=(.s .z (.b (.l ⟨[(8,(.v ah))],[(0,.l (.st SI.span))],[0,1,2,3],[],1192,[]⟩ 0 ⟨[],[(0,.l (.st SI.span))],[],[],1192,[]⟩ (.s .z (.s (.b (.s .z (.b (.l ⟨[(9,(.v ah))],[(0,.l (.st SI.span))],[0,1,2,3,8],[],1512,[]⟩ 2 ⟨[],[(0,.l (.st SI.span))],[0,1,2,3,8],[],1512,[]⟩ (.s (.s (.j ⟨[(34,(.v .bool))],[],[0,1,2,3,8,9],[0],1512,[]⟩ .z) .z) .z))))) .z)))))
theorem sw (n:Nat):aH 195 (sj n) :=cq aA Tryz.func195 su n (by kernel_rfl) rfl fun _=>by kernel_rfl
def yI (n:Nat):Sig xx:=⟨[.mut (.st SI.span),.d ah,.d ah,.d ah,.clo [(.st SI.span),(.st SI.span)] ah],[.mu (.st SI.span)],fun a=>Bl n a.1 a.2.1 a.2.2.1 a.2.2.2.1 a.2.2.2.2.1,none⟩
def yJ:Hn SI:=(.s .z (.b (.lx ⟨[(10,(.v ah))],[(0,.l (.st SI.span))],[0,2,3,4],[],1128,[]⟩ 0 ⟨[],[(0,.l (.st SI.span))],[],[],1128,[]⟩ (.b (.s .z (.s .z (.s (.j ⟨[(11,(.v ah))],[],[0,2,3,4,10],[0],1576,[]⟩ (.s (.j ⟨[(40,(.v .bool))],[],[0,2,3,4,10,11],[0],1576,[]⟩ .z) .z)) .z)))))))
theorem yK (n:Nat):aH 212 (yI n) :=cq aA Tryz.func212 yJ n (by kernel_rfl) rfl fun _=>by kernel_rfl
def yL (n:Nat):Sig xx:=⟨[.mut (.st SI.span),.d ah,.d ah,.clo [(.st SI.span),(.st SI.span)] ah],[.mu (.st SI.span)],fun a=>Bn n a.1 a.2.1 a.2.2.1 a.2.2.2.1,none⟩
def yM:Hn SI:=(.s .z (.s .z (.s .z (.s (.s .z (.b (.l ⟨[(11,(.v ah))],[(0,.l (.st SI.span))],[0,3,8,9,10],[],1704,[]⟩ 0 ⟨[],[(0,.l (.st SI.span))],[0,3,8,9,10],[],1704,[]⟩ .z))) (.s .z (.b (.l ⟨[(12,(.v ah))],[(0,.l (.st SI.span))],[0,3,8,9],[],1896,[]⟩ 2 ⟨[],[(0,.l (.st SI.span))],[],[],1896,[]⟩ .z)))))))
theorem yN (n:Nat):aH 196 (yL n) :=cq (au (yK n) aA) Tryz.func196 yM n (by kernel_rfl) rfl fun _=>by kernel_rfl
def sD (n:Nat):Sig xx:=⟨[.mut (.st SI.span),.d ah,.d ah,.clo [(.st SI.span),(.st SI.span)] ah],[.mu (.st SI.span)],fun a=>u7 n a.1 a.2.1 a.2.2.1 a.2.2.2.1,none⟩
def sF:Hn SI:=(.s .z (.s .z (.s (.s .z (.s .z (.s .z (.b (.l ⟨[(11,(.v ah))],[(0,.l (.st SI.span)),(1512,.c 1 [[(.v (.int .u64))]])],[0,1,8,9,10],[],2280,[]⟩ 0 ⟨[],[(0,.l (.st SI.span))],[],[],2280,[]⟩ (.s .z (.s (.b (.s .z (.s (.j ⟨[(12,(.v ah))],[],[0,1,8,9,10,11],[0,1512],3176,[]⟩ .z) .z))) .z))))))) .z)))
theorem sG (n:Nat):aH 197 (sD n) :=cq (au nP (au pz aA)) Tryz.func197 sF n (by kernel_rfl) rfl fun _=>by kernel_rfl
def BL:Sig xx:=⟨[.d (.sl (.st SI.span)),.d ah,.d ah,.mref ah,.clo [(.st SI.span),(.st SI.span)] ah],[.d ah,.d ah,.mr ah],fun a=>D6 a.1 a.2.1 a.2.2.1 a.2.2.2.1 a.2.2.2.2.1,none⟩
theorem BM:aH 216 BL :=cq aA Tryz.func216 .z 0 (by kernel_rfl) rfl fun _=>by kernel_rfl
def BN:Sig xx:=⟨[.d (.sl (.st SI.span)),.d ah,.d ah,.d ah,.mref ah,.clo [(.st SI.span),(.st SI.span)] ah],[.d ah,.mr ah],fun a=>D7 a.1 a.2.1 a.2.2.1 a.2.2.2.1 a.2.2.2.2.1 a.2.2.2.2.2.1,none⟩
theorem pW:aH 214 BN :=cq (au BM aA) Tryz.func214 .z 0 (by kernel_rfl) rfl fun _=>by kernel_rfl
def qR:Sig xx:=⟨[.d (.sl (.st SI.span)),.d ah,.mref ah,.clo [(.st SI.span),(.st SI.span)] ah],[.d ah,.mr ah],fun a=>uh a.1 a.2.1 a.2.2.1 a.2.2.2.1,none⟩
theorem qU:aH 213 qR :=cq (au pW aA) Tryz.func213 .z 0 (by kernel_rfl) rfl fun _=>by kernel_rfl
def vC:Sig xx:=⟨[.d (.sl (.st SI.span)),.d ah,.d ah,.clo [(.st SI.span),(.st SI.span)] ah],[.d ah,.d ah],fun a=>xP a.1 a.2.1 a.2.2.1 a.2.2.2.1,none⟩
def vD:Hn SI:=(.s .z (.s .z (.s .z (.s .z (.s .z (.s .z (.s (.j ⟨[(13,(.v ah))],[(1384,.c 1 [[(.v ah)]])],[11],[],2600,[]⟩ (.s .z (.s (.s (.j ⟨[(12,(.v ah)),(13,(.v ah)),(14,(.v ah))],[(1384,.c 1 [[(.v ah)]])],[0,3,11],[],2728,[]⟩ .z) .z) .z))) .z)))))))
theorem vE:aH 198 vC :=cq (au qU (au pW aA)) Tryz.func198 vD 0 (by kernel_rfl) rfl fun _=>by kernel_rfl
def uO (n:Nat):Sig xx:=⟨[.mut (.st SI.span),.d ah,.d ah,.clo [(.st SI.span),(.st SI.span)] ah],[.mu (.st SI.span)],fun a=>vY n a.1 a.2.1 a.2.2.1 a.2.2.2.1,none⟩
def uP:Hn SI:=(.s .z (.s .z (.b (.l ⟨[(8,(.v ah)),(9,(.v ah))],[(0,.l (.st SI.span))],[0],[],1320,[]⟩ 0 ⟨[],[(0,.l (.st SI.span))],[],[],1320,[]⟩ .z))))
theorem uQ (n:Nat):aH 199 (uO n) :=cq aA Tryz.func199 uP n (by kernel_rfl) rfl fun _=>by kernel_rfl
def ni (n:Nat):Sig xx:=⟨[.mut (.st SI.span),.d ah,.d ah,.clo [(.st SI.span),(.st SI.span)] ah],[.d .bool,.mu (.st SI.span)],fun a=>nZ n a.1 a.2.1 a.2.2.1 a.2.2.2.1,none⟩
def nk:Hn SI:=(.s .z (.s .z (.s (.s .z (.b (.lx ⟨[(9,(.v ah)),(10,(.v ah))],[(0,.l (.st SI.span))],[0,1,2,3],[],1320,[]⟩ 0 ⟨[],[(0,.l (.st SI.span))],[],[],1320,[]⟩ (.s .z (.s (.jx ⟨[(9,(.v ah))],[(0,.l (.st SI.span))],[0,1,2,3,10],[],1448,[]⟩ (.b (.s (.b (.l ⟨[(9,(.v ah))],[],[0,1,2,3,10],[0],1448,[]⟩ 2 ⟨[(9,(.v ah))],[],[0,1,2,3,10],[0],1448,[]⟩ (.s (.s (.j ⟨[(36,(.v .bool))],[],[0,1,2,3,9,10],[0],1448,[]⟩ .z) .z) .z))) (.s .z (.s .z (.s .z (.s (.j ⟨[],[(0,.l (.st SI.span))],[0,1,2,3,9,10],[],3048,[]⟩ (.s .z (.s (.s .z (.b (.l ⟨[(11,(.v ah))],[(0,.l (.st SI.span))],[0,1,2,3,9,10],[],3496,[]⟩ 4 ⟨[],[(0,.l (.st SI.span))],[0,1,2,3,9,10],[],3496,[]⟩ .z))) .z))) (.s .z (.s (.s .z (.b (.l ⟨[(12,(.v ah))],[(0,.l (.st SI.span))],[0,1,2,3,9,10],[],3496,[]⟩ 6 ⟨[],[(0,.l (.st SI.span))],[0,1,2,3,9,10],[],3496,[]⟩ .z))) .z))))))))) .z))))) .z)))
theorem nu (n:Nat):aH 200 (ni n) :=cq aA Tryz.func200 nk n (by kernel_rfl) rfl fun _=>by kernel_rfl
def qV (n:Nat):Sig xx:=⟨[.mut (.st SI.span),.d ah,.d ah,.d ah,.clo [(.st SI.span),(.st SI.span)] ah],[.d ah,.mu (.st SI.span)],fun a=>uj n a.1 a.2.1 a.2.2.1 a.2.2.2.1 a.2.2.2.2.1,none⟩
def qW:Hn SI:=(.s .z (.s .z (.s .z (.s (.b (.l ⟨[(11,(.v ah)),(12,(.v ah))],[(0,.l (.st SI.span))],[0,1,4],[],2472,[]⟩ 0 ⟨[(11,(.v ah))],[(0,.l (.st SI.span))],[],[],2472,[]⟩ (.b (.s (.b (.l ⟨[(11,(.v ah))],[],[0,1,4,12],[0],2472,[]⟩ 2 ⟨[(11,(.v ah))],[],[0,1,4,12],[0],2472,[]⟩ (.s (.s (.j ⟨[(47,(.v .bool))],[],[0,1,4,11,12],[0],2472,[]⟩ .z) .z) .z))) (.s (.b (.l ⟨[(12,(.v ah))],[],[0,1,4,11],[0],2472,[]⟩ 4 ⟨[(12,(.v ah))],[],[0,1,4,11],[0],2472,[]⟩ (.s (.s (.j ⟨[(65,(.v .bool))],[],[0,1,4,11,12],[0],2472,[]⟩ .z) .z) .z))) .z))))) .z))))
theorem qX (n:Nat):aH 201 (qV n) :=cq aA Tryz.func201 qW n (by kernel_rfl) rfl fun _=>by kernel_rfl
def yc (n:Nat):Sig xx:=⟨[.mut (.st SI.span),.d ah,.d ah,.d ah,.clo [(.st SI.span),(.st SI.span)] ah],[.d ah,.d .bool,.mu (.st SI.span)],fun a=>zW n a.1 a.2.1 a.2.2.1 a.2.2.2.1 a.2.2.2.2.1,none⟩
def yg:Hn SI:=(.s .z (.s .z (.s .z (.s (.b (.l ⟨[(12,(.v ah))],[],[0,1,4,13],[0],2536,[]⟩ 0 ⟨[(12,(.v ah))],[],[0,1,4,13],[0],2536,[]⟩ (.s (.s (.j ⟨[(47,(.v .bool))],[],[0,1,4,12,13],[0],2536,[]⟩ .z) .z) .z))) (.s (.b (.l ⟨[(13,(.v ah))],[],[0,1,4,12],[0],2536,[]⟩ 2 ⟨[(13,(.v ah))],[],[0,1,4,12],[0],2536,[]⟩ (.s (.s (.j ⟨[(66,(.v .bool))],[],[0,1,4,12,13],[0],2536,[]⟩ .z) .z) .z))) (.s .z (.s .z (.s .z (.s .z (.s (.b (.l ⟨[(12,(.v ah)),(13,(.v ah))],[(0,.l (.st SI.span))],[0,1,4],[],4136,[]⟩ 4 ⟨[(13,(.v ah))],[(0,.l (.st SI.span))],[0,1],[],4136,[]⟩ (.b (.s (.b (.l ⟨[(12,(.v ah))],[],[0,1,4,13],[0],4136,[]⟩ 6 ⟨[(12,(.v ah))],[],[0,1,4,13],[0],4136,[]⟩ (.s (.s (.j ⟨[(120,(.v .bool))],[],[0,1,4,12,13],[0],4136,[]⟩ .z) .z) .z))) (.s (.b (.l ⟨[(13,(.v ah))],[],[0,1,4,12],[0],4136,[]⟩ 8 ⟨[(13,(.v ah))],[],[0,1,4,12],[0],4136,[]⟩ (.s (.s (.j ⟨[(139,(.v .bool))],[],[0,1,4,12,13],[0],4136,[]⟩ .z) .z) .z))) .z))))) .z))))))))))
theorem yh (n:Nat):aH 202 (yc n) :=cq aA Tryz.func202 yg n (by kernel_rfl) rfl fun _=>by kernel_rfl
def Ao:Hn SI:=(.s .z (.s .z (.b (.lx ⟨[(1,(.v ah)),(2,(.v ah)),(3,(.v ah)),(10,(.v .bool)),(11,(.v .bool))],[(0,.l (.st SI.span))],[0,4],[],1128,[]⟩ 999999 ⟨[],[],[],[],1128,[]⟩ (.b (.s .z (.s .z (.s .z (.s (.j ⟨[(3,(.v ah))],[(0,.l (.st SI.span))],[0,1,2,4,10,11,12],[],1640,[]⟩ .z) (.s .z (.s (.j ⟨[(13,(.v ah)),(14,(.v ah))],[(0,.l (.st SI.span))],[0,1,2,3,4,10,11,12],[],2280,[]⟩ .z) (.s (.jx ⟨[],[(0,.l (.st SI.span))],[0,1,2,3,4,10,11,12,13],[],2280,[]⟩ (.s (.j ⟨[(75,(.v .bool))],[],[0,1,2,3,4,10,11,12,13],[0],2280,[]⟩ .z) .z)) (.s (.s (.j ⟨[(97,(.v .bool))],[],[0,1,2,3,4,10,11,12,13],[0],2280,[]⟩ .z) .z) .z)))))))))))))
theorem yO (n:Nat) (rc:((List aC))->(Int)->(Int)->(Int)->((aC×aC×Unit)->Option Int)->Option (List aC)) (hr:aH 179 (iL rc)):aH 179 (iL (fK n rc)) :=cq (au (sw n) (au (yN n) (au (sG n) (au vE (au (uQ n) (au (nu n) (au (qX n) (au (yh n) (au hr aA))))))))) Tryz.func179 Ao n (by kernel_rfl) rfl fun _=>by kernel_rfl
theorem nH (n:Nat):∀ m,aH 179 (iL (cu n m))
 | 0=>cok (pK Tryz.func179 (by kernel_rfl:Tryz.f179.body=some (Tryz.f179.body.getD .skip)) (by kernel_rfl)) (fun _ _ h=>(by cases h)) rfl
 |m+1=>yO n _ (nH n m)
def Ap (n:Nat):Sig xx:=⟨[.mut (.st SI.span),.d ah,.d ah,.d ah,.clo [(.st SI.span),(.st SI.span)] ah],[.mu (.st SI.span)],fun a=>kE n a.1 a.2.1 a.2.2.1 a.2.2.2.1 a.2.2.2.2.1,none⟩
theorem Aq (n:Nat):aH 179 (Ap n):=nH n n
def Jj (n:Nat):Sig xx:=⟨[.mut (.st SI.span),.clo [(.st SI.span),(.st SI.span)] ah],[.mu (.st SI.span)],fun a=>mK n a.1 a.2.1,none⟩
theorem Jk (n:Nat):aH 158 (Jj n) :=cq (au Dm (au (Aq n) aA)) Tryz.func158 .z n (by kernel_rfl) rfl fun _=>by kernel_rfl
def K9:Sig xx:=⟨[.d ah,.d ah],[.d ah],fun a=>cmp_Compare_int a.1 a.2.1,none⟩
theorem lK:aH 143 K9 :=cq (au DZ aA) Tryz.func143 .z 0 (by kernel_rfl) rfl fun _=>by kernel_rfl
def Ty:Sig xx:=⟨[.d (.st SI.span),.d (.st SI.span)],[.d ah],fun a=>vZ a.1 a.2.1,none⟩
theorem Tz:aH 159 Ty :=cq (au lK aA) Tryz.func159 .z 0 (by kernel_rfl) rfl fun _=>by kernel_rfl
def aah (n:Nat):Sig xx:=⟨[.d (.sl ak),.d ah],[.fresh (.st SI.span)],fun a=>Gs n a.1 a.2.1,none⟩
def aai:Hn SI:=(.s .z (.s .z (.s (.s .z (.b (.l ⟨[(5,(.o 1320)),(14,(.v ah))],[(1320,.l (.st SI.span))],[1,12,13],[],1321,[(5,(.st SI.span))]⟩ 0 ⟨[(5,(.o 1320))],[(1320,.l (.st SI.span))],[],[],1321,[]⟩ (.s .z (.s .z (.s (.j ⟨[(5,(.o 1385))],[(1385,.l (.st SI.span))],[1,12,13,14],[],1386,[]⟩ (.b (.s .z (.s (.j ⟨[(27,(.v .bool))],[],[1,5,7,12,13,14],[1320,1513],1641,[]⟩ .z) .z)))) .z)))))) (.s .z (.s .z (.s (.s .z (.b (.l ⟨[(8,(.o 1705)),(41,(.v ah))],[(1705,.l (.st SI.span))],[39,40],[1320],1706,[(8,(.st SI.span))]⟩ 2 ⟨[(8,(.o 1705))],[(1705,.l (.st SI.span))],[],[],1706,[]⟩ (.s .z (.s .z (.s (.j ⟨[(8,(.o 1770))],[(1770,.l (.st SI.span))],[39,40,41],[1320],1771,[]⟩ (.b (.s .z (.s .z (.s (.j ⟨[(59,(.v .bool))],[],[8,10,11,39,40,41],[1320,1705,1898],2218,[]⟩ .z) .z))))) .z)))))) .z))))))
theorem aaj (n:Nat):aH 129 (aah n) :=cq (au (Jk n) (au Tz aA)) Tryz.func129 aai n (by kernel_rfl) rfl fun _=>by kernel_rfl
def aak (n:Nat):Sig xx:=⟨[.d (.sl (.sl ak))],[.fresh (.st SI.strip)],fun a=>Gt n a.1,none⟩
def aal:Hn SI:=(.s .z (.s .z (.s .z (.s (.s .z (.b (.l ⟨[(4,(.o 1512)),(13,(.v ah))],[(1512,.l ah)],[3,11,12],[1128],1513,[(4,ah)]⟩ 0 ⟨[(4,(.o 1512))],[(1512,.l ah)],[3],[1128],1513,[]⟩ .z))) (.s .z (.s .z (.s .z (.s (.s .z (.b (.l ⟨[(7,(.o 1961)),(8,(.v ah))],[(1961,.l (.st SI.strip))],[3,4],[1128,1512],1962,[(7,(.st SI.strip))]⟩ 2 ⟨[(7,(.o 1961))],[(1961,.l (.st SI.strip))],[],[],1962,[]⟩ .z))) .z))))))))
theorem aam (n:Nat):aH 103 (aak n) :=cq (au (Ni n) (au (tH n) (au (ng n) (au (aaj n) aA)))) Tryz.func103 aal n (by kernel_rfl) rfl fun _=>by kernel_rfl
def Pm (n:Nat):Sig xx:=⟨[.d (.sl (.st SI.span)),.d (.sl (.st SI.span))],[.d .bool],fun a=>sP n a.1 a.2.1,none⟩
def Pn:Hn SI:=(.s .z (.s .z (.s (.s .z (.b (.lx ⟨[(13,(.v ah))],[],[0,1,12],[],1576,[]⟩ 0 ⟨[],[],[],[],1576,[]⟩ .z))) .z)))
theorem Po (n:Nat):aH 127 (Pm n) :=cq aA Tryz.func127 Pn n (by kernel_rfl) rfl fun _=>by kernel_rfl
def acf (n:Nat):Sig xx:=⟨[.d (.sl (.st SI.strip))],[.fresh ak],fun a=>KA n a.1,none⟩
def acg:Hn SI:=(.s .z (.s .z (.s (.s .z (.b (.l ⟨[(3,(.o 1192)),(4,(.v ah))],[(1192,.l ak)],[0],[],1193,[(3,ak)]⟩ 0 ⟨[(3,(.o 1192))],[(1192,.l ak)],[],[],1193,[]⟩ (.s .z (.b (.s .z (.s (.b (.l ⟨[(5,(.v ah))],[],[0,3,4],[1192],1641,[]⟩ 2 ⟨[(5,(.v ah))],[],[0,3,4],[1192],1641,[]⟩ (.s (.s (.j ⟨[(30,(.v .bool))],[],[0,3,4,5],[1192],1641,[]⟩ .z) .z) .z))) (.s (.s .z (.b (.l ⟨[(3,(.o 2089)),(39,(.v ah))],[(2089,.l ak)],[0,4,5,37,38],[],2090,[]⟩ 4 ⟨[(3,(.o 2089))],[(2089,.l ak)],[0,5],[],2090,[]⟩ .z))) .z)))))))) .z)))
theorem ach (n:Nat):aH 102 (acf n) :=cq (au (Po n) aA) Tryz.func102 acg n (by kernel_rfl) rfl fun _=>by kernel_rfl
def X3:Sig xx:=⟨[.d (.sl ak)],[.d (.sl ak),.d ah],fun a=>IL a.1,none⟩
theorem X4:aH 101 X3 :=cq aA Tryz.func101 .z 0 (by kernel_rfl) rfl fun _=>by kernel_rfl
def agS (n:Nat):Sig xx:=⟨[.d (.sl ak)],[.d (.sl ak),.d ah],fun a=>ac0 n a.1,none⟩
def agT:Hn SI:=(.s .z (.s (.s .z (.b (.lx ⟨[(8,(.v ah))],[],[0,6,7],[],1320,[]⟩ 0 ⟨[],[],[0],[],1320,[]⟩ .z))) .z))
theorem agU (n:Nat):aH 62 (agS n) :=cq (au BH (au (aam n) (au (ach n) (au X4 aA)))) Tryz.func62 agT n (by kernel_rfl) rfl fun _=>by kernel_rfl
def Pp (n:Nat):Sig xx:=⟨[.d (.sl ak),.d (.sl ak)],[.d .bool],fun a=>gY n a.1 a.2.1,none⟩
def Pq:Hn SI:=(.s .z (.s .z (.s (.s .z (.b (.lx ⟨[(13,(.v ah))],[],[0,1,12],[],1576,[]⟩ 0 ⟨[],[],[],[],1576,[]⟩ .z))) .z)))
theorem vF (n:Nat):aH 46 (Pp n) :=cq aA Tryz.func46 Pq n (by kernel_rfl) rfl fun _=>by kernel_rfl
def aci (n:Nat):Sig xx:=⟨[.d (.sl ak)],[.d .bool],fun a=>kT n a.1,none⟩
theorem mq (n:Nat):aH 31 (aci n) :=cq (au (agU n) (au (vF n) aA)) Tryz.func31 .z n (by kernel_rfl) rfl fun _=>by kernel_rfl
def Nl (n:Nat):Sig xx:=⟨[.d (.sl (.st SI.Point))],[.fresh (.st SI.side)],fun a=>lX n a.1,none⟩
def Nn:Hn SI:=(.s .z (.s .z (.s (.s .z (.b (.l ⟨[(10,(.v ah))],[(1192,.l (.st SI.side))],[0,3,9],[],1512,[]⟩ 0 ⟨[],[(1192,.l (.st SI.side))],[3],[],1512,[]⟩ .z))) .z)))
theorem BO (n:Nat):aH 190 (Nl n) :=cq aA Tryz.func190 Nn n (by kernel_rfl) rfl fun _=>by kernel_rfl
def Np:Sig xx:=⟨[.d (.st SI.Point)],[.d .bool],fun a=>qy a.1,none⟩
theorem Nq:aH 206 Np :=cq aA Tryz.func206 .z 0 (by kernel_rfl) rfl fun _=>by kernel_rfl
def Dr:Sig xx:=⟨[.d (.st SI.side)],[.d .bool],fun a=>d9 a.1,none⟩
theorem qN:aH 191 Dr :=cq aA Tryz.func191 .z 0 (by kernel_rfl) rfl fun _=>by kernel_rfl
def X5 (n:Nat):Sig xx:=⟨[.d (.sl ah)],[.d ah],fun a=>oW n a.1,none⟩
def X6:Hn SI:=(.s .z (.s .z (.s (.s .z (.b (.lx ⟨[(8,(.v ah))],[],[3,6,7],[],1320,[]⟩ 0 ⟨[],[],[3],[],1320,[]⟩ .z))) .z)))
theorem La (n:Nat):aH 170 (X5 n) :=cq aA Tryz.func170 X6 n (by kernel_rfl) rfl fun _=>by kernel_rfl
def Lb (n:Nat):Sig xx:=⟨[.d (.st SI.Point),.d (.st SI.Point)],[.d ah],fun a=>oG n a.1 a.2.1,none⟩
theorem Lc (n:Nat):aH 207 (Lb n) :=cq (au lK (au (La n) aA)) Tryz.func207 .z n (by kernel_rfl) rfl fun _=>by kernel_rfl
def Dt:Sig xx:=⟨[.d (.st SI.side),.d (.st SI.side)],[.d .bool],fun a=>jb a.1 a.2.1,none⟩
theorem Du:aH 208 Dt :=cq aA Tryz.func208 .z 0 (by kernel_rfl) rfl fun _=>by kernel_rfl
def Ps (n:Nat):Sig xx:=⟨[.d (.sl (.st SI.Point))],[.d .bool],fun a=>sS n a.1,none⟩
def Pv:Hn SI:=(.s .z (.s (.s (.j ⟨[(16,(.v .bool))],[],[0],[],1064,[]⟩ .z) .z) (.s .z (.s (.s .z (.b (.lx ⟨[(21,(.v ah))],[],[0,3,19,20],[1128],1448,[]⟩ 0 ⟨[],[],[3],[1128],1448,[]⟩ (.s .z (.s .z (.s (.b (.s .z (.s .z (.s (.s (.j ⟨[(61,(.v .bool))],[],[0,3,4,19,20,21],[1128],2536,[]⟩ .z) .z) (.s (.j ⟨[(74,(.v .bool))],[],[0,3,19,20,21],[1128],2536,[]⟩ .z) .z))))) .z)))))) (.s (.s .z (.b (.lx ⟨[(78,(.v ah))],[],[3,77],[1128],1640,[]⟩ 2 ⟨[],[],[3],[1128],1640,[]⟩ (.s .z (.s .z (.s (.b (.s .z (.s .z (.b (.lx ⟨[(8,(.v ah))],[],[3,7,77,78],[1128],2024,[]⟩ 4 ⟨[],[],[3,77,78],[1128],2024,[]⟩ (.s .z (.s (.b (.s (.j ⟨[(106,(.v .bool))],[],[3,7,8,77,78],[1128],2280,[]⟩ .z) .z)) .z))))))) .z)))))) .z)))))
theorem Pw (n:Nat):aH 189 (Ps n) :=cq (au (BO n) (au Nq (au qN (au (Lc n) (au Du aA))))) Tryz.func189 Pv n (by kernel_rfl) rfl fun _=>by kernel_rfl
def Nr (n:Nat):Sig xx:=⟨[.d (.sl (.st SI.Point))],[.fresh ak,.d ah],fun a=>qz n a.1,none⟩
def Ns:Hn SI:=(.s .z (.s .z (.s .z (.s (.s .z (.b (.l ⟨[(4,(.o 1576)),(19,(.v ah))],[(1576,.l ah)],[0,17,18],[],1577,[(4,ah)]⟩ 0 ⟨[(4,(.o 1576))],[(1576,.l ah)],[0],[],1577,[]⟩ .z))) (.s .z (.s .z (.s .z (.s .z (.s (.s .z (.b (.l ⟨[(8,(.o 2409)),(38,(.v ah))],[(2409,.l ak)],[4,7,37],[1576,1961],2410,[(8,ak)]⟩ 2 ⟨[(8,(.o 2409))],[(2409,.l ak)],[],[],2410,[]⟩ (.s .z (.s .z (.s (.b (.s .z (.s .z (.s (.s .z (.b (.l ⟨[(10,(.o 2858)),(43,(.v ah))],[(2858,.l ah)],[4,7,8,9,37,38,41,42],[1576,1961,2409],2859,[(10,ah)]⟩ 4 ⟨[(10,(.o 2858))],[(2858,.l ah)],[4,7,8,9,37,38],[1576,1961,2409],2859,[]⟩ (.s .z (.s .z (.s (.j ⟨[(10,(.o 2923))],[(2923,.l ah)],[4,7,8,9,37,38,41,42,43],[1576,1961,2409],2924,[]⟩ (.b (.s .z (.s (.j ⟨[(77,(.v .bool))],[],[4,7,8,9,10,12,37,38,41,42,43],[1576,1961,2409,2858,3051],3179,[]⟩ .z) .z)))) .z)))))) (.s .z (.s .z (.b (.l ⟨[(8,(.o 3051)),(13,(.v ah))],[(3051,.l ak)],[4,7,9,10,37,38],[1576,1961,2858],3052,[]⟩ 6 ⟨[(8,(.o 3051))],[(3051,.l ak)],[4,7,37,38],[1576,1961],3052,[]⟩ .z)))))))) .z)))))) .z)))))))))
theorem Nt (n:Nat):aH 171 (Nr n) :=cq (au (Pw n) (au (tH n) (au (ng n) (au (BO n) (au qN aA))))) Tryz.func171 Ns n (by kernel_rfl) rfl fun _=>by kernel_rfl
def TA (n:Nat):Sig xx:=⟨[.d (.st SI.Zone)],[.fresh ak],fun a=>wh n a.1,none⟩
theorem TB (n:Nat):aH 149 (TA n) :=cq (au (Nt n) aA) Tryz.func149 .z n (by kernel_rfl) rfl fun _=>by kernel_rfl
def aan:Sig xx:=⟨[.d ak],[.d ak,.d .bool],fun a=>wW a.1,none⟩
theorem OQ:aH 93 aan :=cq (au BH aA) Tryz.func93 .z 0 (by kernel_rfl) rfl fun _=>by kernel_rfl
def UQ:Sig xx:=⟨[.d ak,.d ak],[.d ak,.d .bool],fun a=>zi a.1 a.2.1,none⟩
def UR:Hn SI:=(.s .z (.s (.s (.j ⟨[(13,(.v .bool))],[],[2,3,4],[1000,1064,1128],1256,[]⟩ .z) .z) .z))
theorem UU:aH 169 UQ :=cq (au BH (au OQ aA)) Tryz.func169 UR 0 (by kernel_rfl) rfl fun _=>by kernel_rfl
def afR:Sig xx:=⟨[.d ak],[.d ah],fun a=>E9 a.1,none⟩
theorem TD:aH 51 afR :=cq (au OQ aA) Tryz.func51 .z 0 (by kernel_rfl) rfl fun _=>by kernel_rfl
def Px (n:Nat):Sig xx:=⟨[.d (.sl ak),.d (.sl ak)],[.d ah,.d (.st SI.Point)],fun a=>sU n a.1 a.2.1,none⟩
def Py:Hn SI:=(.s .z (.s .z (.s (.s .z (.b (.l ⟨[(6,(.v ah)),(18,(.v ah))],[(1192,.c 2 [[(.v ah),(.v ah)]])],[1,5,7,16,17],[1064],1576,[]⟩ 0 ⟨[(6,(.v ah))],[(1192,.c 2 [[(.v ah),(.v ah)]])],[5,7],[1064],1576,[]⟩ (.s .z (.s .z (.s (.b (.s .z (.s .z (.b (.l ⟨[(6,(.v ah)),(24,(.v ah))],[(1192,.c 2 [[(.v ah),(.v ah)]])],[1,5,7,9,16,17,18,22,23],[1064,1768],2088,[]⟩ 2 ⟨[(6,(.v ah))],[(1192,.c 2 [[(.v ah),(.v ah)]])],[1,5,7,16,17,18],[1064],2088,[]⟩ (.s .z (.s .z (.s (.j ⟨[(6,(.v ah))],[(1192,.c 2 [[(.v ah),(.v ah)]])],[1,5,7,9,16,17,18,22,23,24],[1064,1768],2152,[]⟩ .z) .z)))))))) .z)))))) .z)))
theorem Pz (n:Nat):aH 148 (Px n) :=cq (au UU (au TD (au lK (au (La n) aA)))) Tryz.func148 Py n (by kernel_rfl) rfl fun _=>by kernel_rfl
def PD (n:Nat):Sig xx:=⟨[.d (.st SI.Plan),.d (.sl ak)],[.fresh ah],fun a=>sV n a.1 a.2.1,none⟩
def PE:Hn SI:=(.s .z (.s .z (.s .z (.s (.s .z (.b (.l ⟨[(5,(.o 1640)),(16,(.v ah))],[(1640,.l ah)],[1,14,15],[],1641,[(5,ah)]⟩ 0 ⟨[(5,(.o 1640))],[(1640,.l ah)],[],[],1641,[]⟩ .z))) .z))))
theorem PG (n:Nat):aH 118 (PD n) :=cq (au (mq n) (au (TB n) (au (Pz n) aA))) Tryz.func118 PE n (by kernel_rfl) rfl fun _=>by kernel_rfl
def aao (n:Nat):Sig xx:=⟨[.d (.st SI.Plan),.d (.sl ak)],[.fresh .str],fun a=>Gu n a.1 a.2.1,none⟩
def aap:Hn SI:=(.s .z (.s .z (.s .z (.s (.s .z (.b (.l ⟨[(6,(.v ah)),(17,(.v ah))],[],[2,5,15,16],[1000,1256],1640,[]⟩ 0 ⟨[(6,(.v ah))],[],[2,5],[1000,1256],1640,[]⟩ (.s .z (.s .z (.s (.j ⟨[(6,(.v ah))],[],[2,5,15,16,17],[1000,1256],1704,[]⟩ (.b (.s .z (.s (.j ⟨[(44,(.v .bool))],[],[2,5,6,7,15,16,17],[1000,1256],2024,[]⟩ .z) .z)))) .z)))))) (.s .z (.s (.s .z (.b (.l ⟨[(9,(.o 1896)),(49,(.v ah))],[(1896,.l .str)],[2,6,47,48],[1000,1256],1897,[(9,.str)]⟩ 2 ⟨[(9,(.o 1896))],[(1896,.l .str)],[],[],1897,[]⟩ (.s .z (.s .z (.s (.j ⟨[(9,(.o 1961))],[(1961,.l .str)],[2,6,47,48,49],[1000,1256],1962,[]⟩ (.b (.s .z (.s (.j ⟨[(68,(.v .bool))],[],[2,6,9,10,47,48,49],[1000,1256,1896],2281,[]⟩ .z) .z)))) .z)))))) .z))))))
theorem aaq (n:Nat):aH 85 (aao n) :=cq (au (PG n) aA) Tryz.func85 aap n (by kernel_rfl) rfl fun _=>by kernel_rfl
def Ld (n:Nat):Sig xx:=⟨[.d (.sl .str),.d .str],[.d ah],fun a=>ve n a.1 a.2.1,none⟩
def Le:Hn SI:=(.s .z (.s (.s .z (.b (.lx ⟨[(8,(.v ah))],[],[0,1,7],[],1256,[]⟩ 0 ⟨[],[],[],[],1256,[]⟩ .z))) .z))
theorem Lf (n:Nat):aH 167 (Ld n) :=cq aA Tryz.func167 Le n (by kernel_rfl) rfl fun _=>by kernel_rfl
def FU (n:Nat):Sig xx:=⟨[.d (.sl .str),.d .str],[.d .bool],fun a=>kF n a.1 a.2.1,none⟩
theorem FV (n:Nat):aH 146 (FU n) :=cq (au (Lf n) aA) Tryz.func146 .z n (by kernel_rfl) rfl fun _=>by kernel_rfl
def Jl (n:Nat):Sig xx:=⟨[.d .str,.ref (.sl .str)],[.d .bool],fun a=>iq n a.1 a.2.1,none⟩
theorem Jm (n:Nat):aH 145 (Jl n) :=cq (au (FV n) aA) Tryz.func145 .z n (by kernel_rfl) rfl fun _=>by kernel_rfl
def Ej (n:Nat):Sig xx:=⟨[.d (.sl .str),.clo [.str] .bool],[.d ah],fun a=>nN n a.1 a.2.1,none⟩
def El:Hn SI:=(.s .z (.s (.s .z (.b (.lx ⟨[(8,(.v ah))],[],[0,1,7],[],1256,[]⟩ 0 ⟨[],[],[],[],1256,[]⟩ .z))) .z))
theorem Em (n:Nat):aH 168 (Ej n) :=cq aA Tryz.func168 El n (by kernel_rfl) rfl fun _=>by kernel_rfl
def Ar (n:Nat):Sig xx:=⟨[.d (.sl .str),.clo [.str] .bool],[.d .bool],fun a=>dP n a.1 a.2.1,none⟩
theorem Au (n:Nat):aH 147 (Ar n) :=cq (au (Em n) aA) Tryz.func147 .z n (by kernel_rfl) rfl fun _=>by kernel_rfl
def PI (n:Nat):Sig xx:=⟨[.d (.st SI.Rule),.d (.sl .str)],[.d .bool],fun a=>og n a.1 a.2.1,none⟩
theorem PK (n:Nat):aH 117 (PI n) :=cq (au (Au n) (au (Jm n) aA)) Tryz.func117 .z n (by kernel_rfl) rfl fun _=>by kernel_rfl
def TF (n:Nat):Sig xx:=⟨[.d (.st SI.Plan),.d (.sl .str),.d ah],[.fresh ah],fun a=>wu n a.1 a.2.1 a.2.2.1,none⟩
def TG:Hn SI:=(.s .z (.s .z (.s (.s .z (.b (.l ⟨[(7,(.o 1448)),(13,(.v ah))],[(1448,.l ah)],[1,2,11,12],[],1449,[(7,ah)]⟩ 0 ⟨[(7,(.o 1448))],[(1448,.l ah)],[],[],1449,[]⟩ (.s .z (.s .z (.s (.j ⟨[(7,(.o 1513))],[(1513,.l ah)],[1,2,11,12,13],[],1514,[]⟩ (.b (.s .z (.s (.j ⟨[(37,(.v .bool))],[],[1,2,7,8,11,12,13],[1448],1897,[]⟩ .z) .z)))) .z)))))) .z)))
theorem TH (n:Nat):aH 84 (TF n) :=cq (au (PK n) aA) Tryz.func84 TG n (by kernel_rfl) rfl fun _=>by kernel_rfl
def Nu (n:Nat):Sig xx:=⟨[.d (.st SI.Town),.d ah,.d ah],[.fresh (.st SI.Rule)],fun a=>lY n a.1 a.2.1 a.2.2.1,none⟩
def Nv:Hn SI:=(.s .z (.s .z (.s .z (.s .z (.s (.s .z (.b (.l ⟨[(9,(.o 2664)),(31,(.v ah))],[(2664,.l (.st SI.Rule))],[3,29,30],[1000,2472],2665,[(9,(.st SI.Rule))]⟩ 0 ⟨[(9,(.o 2664))],[(2664,.l (.st SI.Rule))],[],[],2665,[]⟩ .z))) .z)))))
theorem BP (n:Nat):aH 40 (Nu n) :=cq (au (Nf n) (au (aaq n) (au (TH n) aA))) Tryz.func40 Nv n (by kernel_rfl) rfl fun _=>by kernel_rfl
def Jo:Sig xx:=⟨[.d (.st SI.Rule)],[.d ah,.d .bool],fun a=>mW a.1,none⟩
def Jp:Hn SI:=(.s .z (.s (.s (.j ⟨[(22,(.v .bool))],[],[1],[1000],1192,[]⟩ .z) .z) (.s .z (.s (.j ⟨[(6,(.v .bool))],[],[4],[1832],2088,[]⟩ .z) .z))))
theorem Jq:aH 41 Jo :=cq aA Tryz.func41 Jp 0 (by kernel_rfl) rfl fun _=>by kernel_rfl
def GY (n:Nat):Sig xx:=⟨[.d (.st SI.Town),.d ah,.d ah],[.d ah],fun a=>jg n a.1 a.2.1 a.2.2.1,none⟩
def GZ:Hn SI:=(.s .z (.s .z (.s (.s .z (.b (.l ⟨[(7,(.v ah)),(17,(.v ah))],[],[15,16],[1384],1576,[]⟩ 0 ⟨[(7,(.v ah))],[],[],[],1576,[]⟩ (.s .z (.s .z (.s (.j ⟨[(7,(.v ah))],[],[15,16,17],[1384],1640,[]⟩ .z) .z)))))) .z)))
theorem vN (n:Nat):aH 12 (GY n) :=cq (au (BP n) (au Jq aA)) Tryz.func12 GZ n (by kernel_rfl) rfl fun _=>by kernel_rfl
def acj (n:Nat):Sig xx:=⟨[.d (.sl ak),.d ah],[.d .bool],fun a=>Sq n a.1 a.2.1,none⟩
theorem ack (n:Nat):aH 63 (acj n) :=cq (au (mq n) aA) Tryz.func63 .z n (by kernel_rfl) rfl fun _=>by kernel_rfl
noncomputable def TI:Sig xx:=⟨[.d (.sl ak),.d ah],[.fresh (.st SI.slab)],fun a=>Fa a.1 a.2.1,none⟩
noncomputable abbrev tn (n:Int):AV:= .t (.sc (.int .i64 n))
noncomputable abbrev eD (l:List aK):List (List AV):=aD (l.map Bh)
noncomputable abbrev nI (k:Nat) (s:aX):List AV:=[tn s.x0,tn s.x1,.own k 0 s.column.length]
noncomputable def dW:Nat->List aX->List (List AV)
 |_,[]=>[]
 |k,s::r=>nI k s::dW (k+1) r
noncomputable def hsF (pre:List aX):Nat->Option aF:=fun k=>if 2000<=k then (pre[k - 2000]?).map fun s=>⟨2,eD s.column⟩else none
noncomputable def cZ (A:List aj) (d i:Int) (out:AV):List (Nat×AV):=[(1,tn d),(5,out),(10,.t (.sl (A.map ja))),(11,tn (A.length:Int)),(12,tn i)]
noncomputable def X7 (A:List aj) (d i:Int):GSt:=⟨cZ A d i .nilsl,[],[]⟩
noncomputable def PL (A:List aj) (d i:Int) (pre:List aX) (c:aX):GSt:=
 ⟨cZ A d i (.own 1000 0 (pre.length+1)),[(1000,some ⟨3,dW 2000 pre++[nI 1001 c]⟩),(1001,some ⟨2,eD c.column⟩)],[]⟩
noncomputable def PN (A:List aj) (d i:Int) (l:List aX):St:=
 match l.getLast? with
 |none=>(X7 A d i).st (fun _=>none)
 |some c=>(PL A d i l.dropLast c).st (hsF l.dropLast)
noncomputable def cA:Code->Code
 | .seq a _=>a
 | .block _ c=>c
 | .loop c=>c
 | .cond _ a _=>a
 |c=>c
noncomputable def cB:Code->Code
 | .seq _ b=>b
 | .cond _ _ b=>b
 |c=>c
noncomputable def cO:Code->Array Oper
 | .region _ o _=>o
 |_=>#[]
noncomputable abbrev hsC:Code:=Tryz.f64.body.getD .skip
noncomputable abbrev hsB:Code:=cA (cA (cB (cA (cB (cB hsC)))))
noncomputable abbrev hsI:Code:=cA (cA (cB (cB hsB)))
noncomputable def an0:Ann:=⟨.none,[],[],false⟩
noncomputable def bx (r:aj):aF:=⟨4,[[tn r.x0,tn r.y0,tn r.x1,tn r.y1]]⟩
noncomputable def aic (r:aj):Nat->Ann
 | 0=>⟨.trow (ja r),[],[],false⟩
 | 3=>⟨.none,[nid 2],[nid 2],false⟩
 |_=>an0
theorem aha {A:List aj} {d i:Int} {out:AV} {O:List (Nat×Option aF)} {F:Nat->Option aF} {r:aj}:
 yC Tryz.prog (kP tab) (cO (cA hsI)) (aic r) F (List.range (cO (cA hsI)).size) ⟨cZ A d i out,O,[]⟩=
  some (⟨(7,.ptr (nid 2) 0 0)::(15,.agg [tn r.x0,tn r.y0,tn r.x1,tn r.y1])::(14,.rptr (ja r) 0)::cZ A d i out,(nid 2,some (bx r))::(nid 2,some ⟨4,[[tn 0,tn 0,tn 0,tn 0]]⟩)::O,[(7,none),(15,none),(14,none)]⟩,
   [0<=i∧(A.map ja)[i.toNat]? =some (ja r)]):=by kernel_rfl
noncomputable abbrev fZ (A:List aj) (d i:Int) (out:AV):List (Nat×AV):=(7,.ptr 1002 0 0)::cZ A d i out
noncomputable abbrev aar (A:List aj) (d i n:Int) (out:AV):List (Nat×AV):=(8,tn n)::fZ A d i out
noncomputable abbrev hsO (r:aj) (K:List (List AV)) (c:List aK):List (Nat×Option aF):=[(1000,some ⟨3,K⟩),(1001,some ⟨2,eD c⟩),(1002,some (bx r))]
noncomputable abbrev hsJ:Code:=cB hsI
theorem ahF {A:List aj} {d i:Int} {O:List (Nat×Option aF)} {F:Nat->Option aF}:
 yC Tryz.prog (kP tab) (cO (cA (cA hsJ))) (fun _=>an0) F (List.range (cO (cA (cA hsJ))).size) ⟨fZ A d i .nilsl,O,[]⟩=
  some (⟨(8,tn 0)::(17,tn 0)::(16,.nilsl)::fZ A d i .nilsl,O,[(8,none),(17,none),(16,none)]⟩,[]):=by kernel_rfl
theorem aid {A:List aj} {d i:Int} {m:Nat} {O:List (Nat×Option aF)} {F:Nat->Option aF}:
 yC Tryz.prog (kP tab) (cO (cA (cA hsJ))) (fun _=>an0) F (List.range (cO (cA (cA hsJ))).size) ⟨fZ A d i (.own 1000 0 m),O,[]⟩=
  some (⟨(8,tn (m:Int))::(17,tn (m:Int))::(16,.own 1000 0 m)::fZ A d i (.own 1000 0 m),O,[(8,none),(17,none),(16,none)]⟩,[]):=by kernel_rfl
noncomputable def ahb (c:aX):Nat->Ann
 | 6=>⟨.none,[1000],[],false⟩
 | 8=>⟨.row (nI 1001 c),[1000],[],false⟩
 | 10=>⟨.none,[1002],[],false⟩
 |_=>an0
noncomputable abbrev UW:Code:=cA (cB (cA hsJ))
noncomputable abbrev bo (b:Bool):AV:= .t (.sc (.bool b))
theorem ahG {A:List aj} {d i:Int} {O:List (Nat×Option aF)} {F:Nat->Option aF}:
 yC Tryz.prog (kP tab) (cO UW) (fun _=>an0) F (List.range (cO UW).size) ⟨aar A d i 0 .nilsl,O,[]⟩=
  some (⟨(30,bo true)::(29,.undef)::(28,.undef)::(27,.undef)::(26,.undef)::(25,.undef)::(24,.undef)::(23,.undef)::(22,.undef)::(21,.undef)::(20,bo true)::(19,bo true)::(18,tn 0)::aar A d i 0 .nilsl,O,
   [(30,none),(29,some false),(28,some false),(27,some false),(26,some false),(25,some false),(24,some false),(23,some false),(22,some false),(21,some false),(20,none),(19,none),(18,none)]⟩,[true=false->false=true]):=by kernel_rfl
noncomputable abbrev hsW (m:Nat):Int:=i64.wrap ((m:Int) - 1)
theorem aie {A:List aj} {d i:Int} {m:Nat} {r:aj} {c:aX} {K:List (List AV)} {F:Nat->Option aF}:
 yC Tryz.prog (kP tab) (cO UW) (ahb c) F (List.range (cO UW).size) ⟨aar A d i ((m+1:Nat):Int) (.own 1000 0 (m+1)),hsO r K c.column,[]⟩=
  some (⟨(30,bo (c.x0 != r.x0))::(29,bo (c.x0 != r.x0))::(28,tn r.x0)::(27,.ptr 1002 0 0)::(26,tn c.x0)::(25,.ptr 1000 (0+(hsW (m+1)).toNat) 0)::(24,.ptr 1000 (0+(hsW (m+1)).toNat) 0)::(23,tn (hsW (m+1)))::(22,tn ((m+1:Nat):Int))::(21,.own 1000 0 (m+1))::(20,bo false)::(19,bo false)::(18,tn ((m+1:Nat):Int))::aar A d i ((m+1:Nat):Int) (.own 1000 0 (m+1)),hsO r K c.column,
   [(30,none),(29,none),(28,none),(27,none),(26,none),(25,none),(24,none),(23,none),(22,none),(21,none),(20,none),(19,none),(18,none)]⟩,[0<=hsW (m+1)∧(hsW (m+1)).toNat < m+1,K[0+(hsW (m+1)).toNat]? =some (nI 1001 c)]):=by kernel_rfl
theorem aif {c:aX}:NU (cO UW) (ahb c)=true:=by kernel_rfl
theorem ahH:NU (cO UW) (fun _=>an0)=true:=by kernel_rfl
noncomputable abbrev UX:Code:=cA (cB (cB (cA hsJ)))
noncomputable def ahc (rs:List (List AV)):Nat->Ann
 | 2=>⟨.none,[1002],[],false⟩
 | 4=>⟨.none,[1002],[],false⟩
 | 6=>⟨.row [],[],[],false⟩
 | 7=>⟨.rows rs,[1000,nid 6],[1000],false⟩
 |_=>an0
noncomputable abbrev oC (r:aj):List AV:=[tn r.x0,tn r.x1,.nilsl]
theorem ahI {A:List aj} {d i:Int} {r:aj} {F:Nat->Option aF}:
 yC Tryz.prog (kP tab) (cO UX) (ahc [oC r]) F (List.range (cO UX).size) ⟨fZ A d i .nilsl,[(1002,some (bx r))],[]⟩=
  some (⟨(5,.own (nid 7) 0 1)::(38,.own (nid 7) 0 1)::(37,.own (nid 6) 0 1)::(36,.agg (oC r))::(35,tn r.x1)::(34,.ptr 1002 0 2)::(33,tn r.x0)::(32,.ptr 1002 0 0)::(31,.nilsl)::fZ A d i .nilsl,
   (nid 7,some ⟨3,[oC r]⟩)::(nid 6,some ⟨3,[oC r]⟩)::[(1002,some (bx r))],
   [(5,none),(38,none),(37,none),(36,none),(35,none),(34,none),(33,none),(32,none),(31,none)]⟩,[True∧1=1∧[oC r]=[oC r]∧1*40<=140737488355328∧1<=maxLen]):=by kernel_rfl
theorem aii {A:List aj} {d i:Int} {m:Nat} {r:aj} {c:List aK} {K:List (List AV)} {F:Nat->Option aF}:
 yC Tryz.prog (kP tab) (cO UX) (ahc (K++[oC r])) F (List.range (cO UX).size) ⟨fZ A d i (.own 1000 0 m),hsO r K c,[]⟩=
  some (⟨(5,.own (nid 7) 0 (K++[oC r]).length)::(38,.own (nid 7) 0 (K++[oC r]).length)::(37,.own (nid 6) 0 1)::(36,.agg (oC r))::(35,tn r.x1)::(34,.ptr 1002 0 2)::(33,tn r.x0)::(32,.ptr 1002 0 0)::(31,.own 1000 0 m)::fZ A d i (.own 1000 0 m),
   (nid 7,some ⟨3,K++[oC r]⟩)::(1000,none)::(nid 6,some ⟨3,[oC r]⟩)::hsO r K c,
   [(5,none),(38,none),(37,none),(36,none),(35,none),(34,none),(33,none),(32,none),(31,none)]⟩,[True∧K.length=m∧1=1∧K++[oC r]=K++[oC r]∧(m+1)*40<=140737488355328∧m+1<=maxLen]):=by kernel_rfl
noncomputable abbrev ahJ:Code:=cA (cB hsJ)
noncomputable def aij:Nat->Ann
 | 1=>⟨.none,[1002],[],false⟩
 | 5=>⟨.none,[1002],[],false⟩
 |_=>an0
noncomputable abbrev Av (d:Int) (r:aj):Int:=i64.wrap (r.y0+d)
noncomputable abbrev Aw (d:Int) (r:aj):Int:=i64.wrap (r.y1 - d)
theorem aik {A:List aj} {d i:Int} {m:Nat} {r:aj} {c:List aK} {K:List (List AV)} {F:Nat->Option aF}:
 yC Tryz.prog (kP tab) (cO ahJ) aij F (List.range (cO ahJ).size) ⟨fZ A d i (.own 1000 0 m),hsO r K c,[]⟩=
  some (⟨(47,bo (decide (Av d r < Aw d r)))::(46,tn (Aw d r))::(45,tn d)::(44,tn r.y1)::(43,.ptr 1002 0 3)::(42,tn (Av d r))::(41,tn d)::(40,tn r.y0)::(39,.ptr 1002 0 1)::fZ A d i (.own 1000 0 m),hsO r K c,
   [(47,none),(46,none),(45,none),(44,none),(43,none),(42,none),(41,none),(40,none),(39,none)]⟩,[]):=by kernel_rfl
noncomputable abbrev hsH:Code:=cA (cB (cB hsJ))
noncomputable abbrev ahK:Code:=cA hsH
noncomputable abbrev ac6:Code:=cB hsH
noncomputable def ail:Nat->Ann
 | 4=>⟨.none,[1000],[],false⟩
 |_=>an0
noncomputable abbrev hsP (m:Nat):AV:= .ptr 1000 (0+(hsW m).toNat) 0
theorem aim {A:List aj} {d i:Int} {m:Nat} {r:aj} {c:List aK} {K:List (List AV)} {F:Nat->Option aF}:
 yC Tryz.prog (kP tab) (cO ahK) ail F (List.range (cO ahK).size) ⟨fZ A d i (.own 1000 0 m),hsO r K c,[]⟩=
  some (⟨(9,hsP m)::(52,hsP m)::(51,tn (hsW m))::(50,tn (m:Int))::(49,.own 1000 0 m)::(48,.own 1000 0 m)::fZ A d i (.own 1000 0 m),hsO r K c,
   [(9,none),(52,none),(51,none),(50,none),(49,none),(48,none)]⟩,[0<=hsW m∧(hsW m).toNat < m]):=by kernel_rfl
noncomputable def afS (c:aX) (rs K3:List (List AV)):Nat->Ann
 | 2=>⟨.ext 0,[],[],false⟩
 | 16=>⟨.ext 0,[],[],false⟩
 | 4=>⟨.row (nI 1001 c),[1000],[],false⟩
 | 6=>⟨.none,[1002],[],false⟩
 | 10=>⟨.none,[1002],[],false⟩
 | 15=>⟨.rows rs,[1001,nid 14],[1001],false⟩
 | 18=>⟨.set (nI 1001 c) K3,[1000],[1000],false⟩
 |_=>an0
theorem ahL {c:aX} {rs K3:List (List AV)}:NU (cO ac6) (afS c rs K3)=true:=by kernel_rfl
noncomputable abbrev TJ (d:Int) (r:aj):List AV:=[tn (Av d r),tn (Aw d r)]
theorem ahM {A:List aj} {d i:Int} {m:Nat} {r:aj} {c:aX} {K K3:List (List AV)} {F:Nat->Option aF}:
 yC Tryz.prog (kP tab) (cO ac6) (afS c (eD c.column++[TJ d r]) K3) F (List.range (cO ac6).size) ⟨(9,hsP m)::fZ A d i (.own 1000 0 m),hsO r K c.column,[]⟩=
  some (⟨(70,.ptr 1000 (0+(hsW m).toNat) 2)::(69,hsP m)::(68,.own (nid 15) 0 (eD c.column++[TJ d r]).length)::(67,.own (nid 14) 0 1)::(66,.agg (TJ d r))::(65,tn (Aw d r))::(64,tn d)::(63,tn r.y1)::(62,.ptr 1002 0 3)::(61,tn (Av d r))::(60,tn d)::(59,tn r.y0)::(58,.ptr 1002 0 1)::(57,.own 1001 0 c.column.length)::(56,.ptr 1000 (0+(hsW m).toNat) 2)::(55,hsP m)::(54,hsP m)::(53,hsP m)::(9,hsP m)::fZ A d i (.own 1000 0 m),
   (1000,some ⟨3,K3⟩)::(nid 15,some ⟨2,eD c.column++[TJ d r]⟩)::(1001,none)::(nid 14,some ⟨2,[TJ d r]⟩)::hsO r K c.column,
   [(70,none),(69,none),(68,none),(67,none),(66,none),(65,none),(64,none),(63,none),(62,none),(61,none),(60,none),(59,none),(58,none),(57,none),(56,none),(55,none),(54,none),(53,none)]⟩,
   [K[0+(hsW m).toNat]? =some (nI 1001 c),True∧(eD c.column).length=c.column.length∧1=1∧eD c.column++[TJ d r]=eD c.column++[TJ d r]∧(c.column.length+1)*16<=140737488355328∧c.column.length+1<=maxLen,
    K[0+(hsW m).toNat]? =some (nI 1001 c)∧K3=bR (K.set (0+(hsW m).toNat) (put' (nI 1001 c) 2 [.own (nid 15) 0 (eD c.column++[TJ d r]).length]))]):=by kernel_rfl
theorem eY {L' L2:GSt} {F:Nat->Option aF} (hE:∀ p∈L2.env,(lk L'.ok p.1).join=none∧(lk L'.env p.1).getD .undef=p.2)
 (hO:∀ j o',(L2.st F).obj j=some o'->(L'.st F).obj j=some o') (hok:L2.ok=[]) (old:Old (L2.st F)):Gb.Told (L'.st F) (L2.st F):=by
 refine Gp (fun k=>k) (fun k=>k) (fun _=>True) (fun _ _=>rfl) (fun _ _=>rfl) (fun p hp=>?_) (fun j o' hj=>?_) hok old
 ·obtain⟨h1,h2⟩:=hE p hp;exact⟨h1,fun _ _=>trivial,by rw[h2];exact Xt _ fun _ _=>rfl⟩
 ·refine⟨j,o',hO j o' hj,trivial,rfl,?_,fun _ _ _ _=>trivial⟩;obtain⟨sz,rows⟩:=o';simp only[tK];congr 1
  conv=>lhs;rw[<- List.map_id rows]
  exact map_congr_left fun r _=>(jF r fun _ _=>rfl).symm
theorem gZ:∀ (l:List aX) (k:Nat),∀ r∈dW k l,∀ j∈bg r,k<=j∧j < k+l.length
 |[],_,r,hr,_,_=>by cases hr
 |s::l,k,r,hr,j,hj=>by
  simp only[dW,mem_cons]at hr;rcases hr with rfl |hr
  ·simp[bg,refs]at hj;subst hj;simp
  ·have:=gZ l (k+1) r hr j hj;simp only[length_cons];omega
theorem mD:∀ (l:List aX) (k:Nat),(dW k l).length=l.length
 |[],_=>rfl
 |_::l,k=>by simp only[dW,length_cons,mD l (k+1)]
theorem TK:∀ (l:List aX) (k:Nat) (c:aX),dW k (l++[c])=dW k l++[nI (k+l.length) c]
 |[],k,c=>rfl
 |s::l,k,c=>by
  simp only[List.cons_append,dW,TK l (k+1) c,length_cons];rw[show k+1+l.length=k+(l.length+1)by omega]
theorem Wu:∀ (l:List aX) (k:Nat),bR (dW k l)=dW k l
 |[],_=>rfl
 |s::l,k=>by
  have:=Wu l (k+1);simp only[bR,dW,List.map_cons]at this ⊢;rw[this];rfl
theorem ny (l:List aK):∀ r∈eD l,∀ j,j∉bg r:=by
 intro r hr j hj;simp only[aD,List.mem_map]at hr;obtain⟨q,⟨s,_,rfl⟩,rfl⟩:=hr;simp[Bh,bg,refs]at hj
theorem BQ {pre:List aX} {k:Nat} {o:aF} (h:hsF pre k=some o):2000<=k∧k < 2000+pre.length∧∃ s,pre[k - 2000]? =some s∧o=⟨2,eD s.column⟩:=by
 unfold hsF at h;by_cases hk:2000<=k
 ·rw[if_pos hk,Option.map_eq_some_iff]at h;obtain⟨s,h1,h2⟩:=h;have h3:=(List.getElem?_eq_some_iff.1 h1).1;exact⟨hk,by omega,s,h1,h2.symm⟩
 ·rw[if_neg hk]at h;cases h
theorem aeh {r:List AV} {x:AV} (hx:x∈r):∀ j∈refs x,j∈bg r:=fun j hj=>by
 induction r with
 |nil=>cases hx
 |cons y ys ih=>
  simp only[bg,mem_append];rcases mem_cons.1 hx with rfl |hx
  ·exact .inl hj
  ·exact .inr (ih hx)
theorem Ay {E:List (Nat×AV)} {O:List (Nat×Option aF)} {ok:List (Nat×Option Bool)} {F:Nat->Option aF} (hE:∀ p∈E,∀ k∈refs p.2,k < 1000000)
 (hO:∀ p∈O,∀ o,p.2=some o->p.1 < 1000000∧∀ r∈o.rows,∀ j∈bg r,j < 1000000) (hF:∀ k o,F k=some o->k < 1000000∧∀ r∈o.rows,∀ j∈bg r,j < 1000000):Old ((⟨E,O,ok⟩:GSt).st F):=by
 refine⟨fun t k hk=>?_,fun k o hk=>?_⟩
 ·simp only[GSt.st]at hk;cases h:lk E t with
  |none=>rw[h]at hk;simp[refs]at hk
  |some x=>rw[h]at hk;exact hE _ (ko h) k hk
 ·have:k < 1000000∧∀ r∈o.rows,∀ j∈bg r,j < 1000000:=by
   simp only[GSt.st]at hk;cases h:lk O k with
   |none=>rw[h]at hk;exact hF k o hk
   |some x=>rw[h]at hk;exact hO _ (ko h) o hk
  exact⟨this.1,fun r hr x hx j hj=>this.2 r hr j (aeh hx j hj)⟩
theorem X8 {pre:List aX} (hp:pre.length<=500000):∀ k o,hsF pre k=some o->k < 1000000∧∀ r∈o.rows,∀ j∈bg r,j < 1000000:=by
 intro k o h;obtain⟨h1,h2,s,_,rfl⟩:=BQ h;exact⟨by omega,fun r hr j hj=>(ny _ r hr j hj).elim⟩
theorem kM {A:List aj} {d i:Int} {out:AV} {E:List (Nat×AV)} (hE:∀ p∈E,∀ k∈refs p.2,k < 1000000) (ho:∀ k∈refs out,k < 1000000):∀ p∈E++cZ A d i out,∀ k∈refs p.2,k < 1000000:=by
 intro p hp k hk;rcases mem_append.1 hp with hp |hp
 ·exact hE p hp k hk
 ·simp only[cZ,mem_cons,List.not_mem_nil,or_false]at hp;rcases hp with rfl |rfl |rfl |rfl |rfl
  ·simp[refs]at hk
  ·exact ho k hk
  ·simp[refs]at hk
  ·simp[refs]at hk
  ·simp[refs]at hk
noncomputable abbrev hsM (E:List (Nat×AV)) (r:aj) (pre:List aX) (c:aX):St:=(⟨E,hsO r (dW 2000 pre++[nI 1001 c]) c.column,[]⟩:GSt).st (hsF pre)
noncomputable abbrev jo (pre:List aX):AV:= .own 1000 0 (pre.length+1)
theorem Lg {A:List aj} {d i:Int} {E:List (Nat×AV)} {r:aj} {pre:List aX} {c:aX} (hE:∀ p∈E,∀ k∈refs p.2,k < 1000000) (hp:pre.length<=500000):Old (hsM (E++cZ A d i (jo pre)) r pre c):=by
 refine Ay (kM hE (by simp[refs])) (fun p hp' o ho=>?_) (X8 hp);simp only[hsO,mem_cons,List.not_mem_nil,or_false]at hp';rcases hp' with rfl |rfl |rfl
 ·injection ho with ho;subst ho;refine⟨by simp,fun q hq j hj=>?_⟩;rcases mem_append.1 hq with hq |hq
  ·have:=gZ _ _ q hq j hj;omega
  ·rw[mem_singleton]at hq;subst hq;simp[bg,refs]at hj;omega
 ·injection ho with ho;subst ho;exact⟨by simp,fun q hq j hj=>(ny _ q hq j hj).elim⟩
 ·injection ho with ho;subst ho;refine⟨by simp,fun q hq j hj=>?_⟩;simp only[bx,mem_singleton]at hq;subst hq;simp[bg,refs]at hj
theorem X9 {m:Nat} (h:m<=500000):hsW (m+1)=(m:Int):=by
 have e:((m+1:Nat):Int) - 1=(m:Int):=by omega
 unfold hsW;rw[e];exact lV (by omega)
theorem Nw {A:List aj} {d i:Int} {r:aj} {pre:List aX} {c:aX} (hp:pre.length<=500000):Old (hsM (fZ A d i (jo pre)) r pre c):=
 Lg (E:=[(7,.ptr 1002 0 0)]) (fun p hp' k hk=>by
  simp only[mem_singleton]at hp';subst hp';simp[refs]at hk;omega) hp
theorem Ya {pre:List aX} {c:aX} (h:pre.length<=500000):(dW 2000 pre++[nI 1001 c])[0+(hsW (pre.length+1)).toNat]? =some (nI 1001 c):=by
 rw[X9 h,Nat.zero_add,Int.toNat_natCast,List.getElem?_append_right (by rw[mD];omega),mD,Nat.sub_self];rfl
noncomputable abbrev OT (A:List aj) (d i:Int) (pre:List aX) (c:aX):St:=(PL A d i pre c).st (hsF pre)
theorem pX {A:List aj} {d i:Int} {pre:List aX} {c:aX} (hp:pre.length<=500000):Old (OT A d i pre c):=by
 refine Ay (kM (E:=[]) (fun p hp'=>by cases hp') (by simp[refs])) (fun p hp' o ho=>?_) (X8 hp);simp only[mem_cons,List.not_mem_nil,or_false]at hp';rcases hp' with rfl |rfl
 ·injection ho with ho;subst ho;refine⟨by simp,fun q hq j hj=>?_⟩;rcases mem_append.1 hq with hq |hq
  ·have:=gZ _ _ q hq j hj;omega
  ·rw[mem_singleton]at hq;subst hq;simp[bg,refs]at hj;omega
 ·injection ho with ho;subst ho;exact⟨by simp,fun q hq j hj=>(ny _ q hq j hj).elim⟩
theorem TL {Q:Exit->St->Prop} {A:List aj} {d i:Int} {r:aj} {pre:List aX} {c:aX} (hp:pre.length<=500000) (hc:c.column.length<=500000)
 (hq:Q .normal (OT A d i pre (if Av d r < Aw d r then⟨c.x0,c.x1,c.column++[⟨Av d r,Aw d r⟩]⟩else c))):
 Ev Tryz.prog Tryz.f64.ntmps (cB hsJ) Q (hsM (fZ A d i (jo pre)) r pre c):=by
 show Ev _ _ (Code.seq (cA (cB hsJ)) (cB (cB hsJ))) Q _;refine gQ ?_;refine dM (ops:=cO ahJ) (σ2:=hsM ((47,bo (decide (Av d r < Aw d r)))::fZ A d i (jo pre)) r pre c) lW (by kernel_rfl) aik trivial ?_ ?_
 ·refine eY (fun p hp'=>?_) (fun _ _ h=>h) rfl ?_
  ·simp only[fZ,cZ,mem_cons,List.not_mem_nil,or_false]at hp';rcases hp' with rfl |rfl |rfl |rfl |rfl |rfl |rfl<;>exact⟨rfl,rfl⟩
  ·exact Lg (E:=[(47,bo _),(7,.ptr 1002 0 0)]) (fun p hp' k hk=>by
    simp only[mem_cons,List.not_mem_nil,or_false]at hp';rcases hp' with rfl |rfl
    ·simp[refs]at hk
    ·simp[refs]at hk;omega) hp
 show Ev _ _ (Code.cond (.tmp 47) (cA (cB (cB hsJ))) (cB (cB (cB hsJ)))) Q _;refine Cj (decide (Av d r < Aw d r)) (fun _ _=>rfl) rfl ?_;by_cases hlt:Av d r < Aw d r
 ·rw[if_pos hlt]at hq;rw[show decide (Av d r < Aw d r)=true from decide_eq_true hlt];refine CB (σ2:=hsM (fZ A d i (jo pre)) r pre c) ?_ ?_
  ·refine eY (fun p hp'=>?_) (fun _ _ h=>h) rfl (Nw hp);simp only[fZ,cZ,mem_cons,List.not_mem_nil,or_false]at hp';rcases hp' with rfl |rfl |rfl |rfl |rfl |rfl<;>exact⟨rfl,rfl⟩
  show Ev _ _ (Code.seq (cA hsH) (cB hsH)) Q _;refine gQ ?_;refine dM (ops:=cO ahK) (σ2:=hsM ((9,hsP (pre.length+1))::fZ A d i (jo pre)) r pre c) lW (by kernel_rfl) aim (by rw[X9 hp];exact⟨by omega,by omega⟩) ?_ ?_
  ·refine eY (fun p hp'=>?_) (fun _ _ h=>h) rfl ?_
   ·simp only[fZ,cZ,mem_cons,List.not_mem_nil,or_false]at hp';rcases hp' with rfl |rfl |rfl |rfl |rfl |rfl |rfl<;>exact⟨rfl,rfl⟩
   ·exact Lg (E:=[(9,hsP (pre.length+1)),(7,.ptr 1002 0 0)]) (fun p hp' k hk=>by
     simp only[mem_cons,List.not_mem_nil,or_false]at hp';rcases hp' with rfl |rfl
     ·simp[refs]at hk;omega
     ·simp[refs]at hk;omega) hp
  have hl:(eD c.column).length=c.column.length:=by simp[aD]
  have hK3:bR ((dW 2000 pre++[nI 1001 c]).set (0+(hsW (pre.length+1)).toNat) (put' (nI 1001 c) 2 [.own (nid 15) 0 (eD c.column++[TJ d r]).length]))=dW 2000 pre++[[tn c.x0,tn c.x1,.own (nid 15) 0 (c.column.length+1)]]:=by
   rw[X9 hp,Nat.zero_add,Int.toNat_natCast,List.set_append_right _ _ (by rw[mD];omega),mD,Nat.sub_self];have:=Wu pre 2000;simp only[bR]at this ⊢;rw[map_append,this,List.length_append,hl];rfl
  refine IC (ops:=cO ac6) (L':=_) (obs:=_) lW mixed (by kernel_rfl) ahL ahM ⟨Ya hp,⟨trivial,hl,rfl,rfl,by omega,?_⟩,Ya hp,hK3.symm⟩ ?_ hq
  ·have:(500000:Nat) < maxLen:=(by decide);omega
  refine Gp (fun k=>if k=nid 15 then 1001 else k) (fun k=>if k=1001 then nid 15 else k) (fun k=>k≠1001) (fun k hk=>?_) (fun j hj=>by rw[if_neg (by omega)]) (fun p hp'=>?_) (fun j o' hj=>?_) rfl (pX hp)
  ·by_cases e:k=nid 15
   ·rw[if_pos e,if_pos rfl,e]
   ·rw[if_neg e,if_neg hk]
  ·simp only[PL,cZ,mem_cons,List.not_mem_nil,or_false]at hp';rcases hp' with rfl |rfl |rfl |rfl |rfl
   ·exact⟨rfl,fun k hk=>absurd (show k∈([]:List Nat)from hk) (List.not_mem_nil),rfl⟩
   ·exact⟨rfl,fun k hk=>by have:=mem_singleton.1 (show k∈[1000]from hk);omega,rfl⟩
   ·exact⟨rfl,fun k hk=>absurd (show k∈([]:List Nat)from hk) (List.not_mem_nil),rfl⟩
   ·exact⟨rfl,fun k hk=>absurd (show k∈([]:List Nat)from hk) (List.not_mem_nil),rfl⟩
   ·exact⟨rfl,fun k hk=>absurd (show k∈([]:List Nat)from hk) (List.not_mem_nil),rfl⟩
  ·simp only[PL,GSt.st,lk]at hj;by_cases e0:1000=j
   ·rw[if_pos e0]at hj;injection hj with hj;subst e0 hj;refine⟨1000,_,rfl,by omega,rfl,?_,fun q hq k hk=>?_⟩
    ·simp only[tK];have hf:(dW 2000 pre).map (qd fun k=>if k=nid 15 then 1001 else k)=dW 2000 pre:=by
      have:∀ q∈dW 2000 pre,qd (fun k=>if k=nid 15 then 1001 else k) q=q:=fun q hq=>jF q fun k hk=>if_neg (by have:=gZ _ _ q hq k hk;simp only[nid];omega)
      conv=>rhs;rw[<- List.map_id (dW 2000 pre)]
      exact map_congr_left this
     rw[map_append,hf];simp only[nI,List.length_append,length_cons,List.length_nil,Nat.zero_add];rfl
    ·rcases mem_append.1 hq with hq |hq
     ·have:=gZ _ _ q hq k hk;omega
     ·rw[mem_singleton]at hq;subst hq;simp[bg,refs,nid]at hk;omega
   ·rw[if_neg e0]at hj;by_cases e1:1001=j
    ·rw[if_pos e1]at hj;injection hj with hj;subst e1 hj;have hsp:eD (c.column++[⟨Av d r,Aw d r⟩])=eD c.column++[TJ d r]:=(by simp only[aD,map_append];rfl);refine⟨nid 15,⟨2,eD c.column++[TJ d r]⟩,rfl,by simp[nid],rfl,?_,fun q hq k hk=>?_⟩
     ·simp only[tK];rw[<- hsp];congr 1
      conv=>lhs;rw[<- List.map_id (eD _)]
      exact map_congr_left fun q hq=>(jF q fun k hk=>(ny _ q hq k hk).elim).symm
     ·rw[<- hsp]at hq;exact (ny _ q hq k hk).elim
    ·rw[if_neg e1]at hj;obtain⟨h1,h2,s,h3,rfl⟩:=BQ hj;have hn:j≠nid 15:=(by simp only[nid];omega);have hn':j≠nid 14:=(by simp only[nid];omega);refine⟨j,⟨2,eD s.column⟩,?_,fun e=>e1 e.symm,if_neg hn,?_,fun q hq k hk=>(ny _ q hq k hk).elim⟩
     ·simp only[GSt.st,lk];rw[if_neg e0,if_neg (Ne.symm hn),if_neg e1,if_neg (Ne.symm hn')];rw[if_neg e0,if_neg e1,if_neg (by omega)];exact hj
     ·simp only[tK];congr 1
      conv=>lhs;rw[<- List.map_id (eD _)]
      exact map_congr_left fun q hq=>(jF q fun k hk=>(ny _ q hq k hk).elim).symm
 ·rw[if_neg hlt]at hq;rw[show decide (Av d r < Aw d r)=false from decide_eq_false hlt];refine CB (σ2:=OT A d i pre c) ?_ (JJ hq);refine eY (fun p hp'=>?_) (fun j o' hj=>?_) rfl (pX hp)
  ·simp only[PL,cZ,mem_cons,List.not_mem_nil,or_false]at hp';rcases hp' with rfl |rfl |rfl |rfl |rfl<;>exact⟨rfl,rfl⟩
  ·simp only[PL,GSt.st,lk]at hj ⊢;by_cases e:1002=j
   ·subst e;simp[hsF]at hj
   ·rw[if_neg e];exact hj
theorem afT {Q:Exit->St->Prop} {cd:Code} {A:List aj} {d i:Int} {r:aj} {pre:List aX} (_hp:pre.length<=500000)
 (hq:Ev Tryz.prog Tryz.f64.ntmps cd Q (hsM (fZ A d i (jo pre)) r pre ⟨r.x0,r.x1,[]⟩)):
 Ev Tryz.prog Tryz.f64.ntmps cd Q ((⟨fZ A d i (jo pre),[(1000,some ⟨3,dW 2000 pre++[oC r]⟩),(1002,some (bx r))],[]⟩:GSt).st (hsF pre)):=by
 refine adH (σ2:=hsM (fZ A d i (jo pre)) r pre ⟨r.x0,r.x1,[]⟩) (K:=1000) (k0:=1001) (sz:=3) (sz0:=2) (R:=dW 2000 pre) (q:=[tn r.x0,tn r.x1]) (by omega) (by omega) (by omega) rfl (fun t=>?_) (fun k o hk=>?_) rfl rfl (fun k=>?_) (fun _=>rfl) hq
 ·intro hk;simp only[GSt.st]at hk;cases h:lk (fZ A d i (jo pre)) t with
  |none=>rw[h]at hk;simp[refs]at hk
  |some x=>
   rw[h]at hk;have:=ko h;simp only[fZ,cZ,mem_cons,List.not_mem_nil,or_false,Prod.mk.injEq]at this;rcases this with ⟨_,rfl⟩ |⟨_,rfl⟩ |⟨_,rfl⟩ |⟨_,rfl⟩ |⟨_,rfl⟩ |⟨_,rfl⟩<;>simp[refs]at hk
 ·simp only[GSt.st,lk]at hk;by_cases e0:1000=k
  ·rw[if_pos e0]at hk;injection hk with hk;subst e0 hk;refine⟨by omega,fun q hq hk=>?_⟩;rcases mem_append.1 hq with hq |hq
   ·have:=gZ _ _ q hq _ hk;omega
   ·rw[mem_singleton]at hq;subst hq;simp[bg,refs]at hk
  ·rw[if_neg e0]at hk;by_cases e2:1002=k
   ·rw[if_pos e2]at hk;injection hk with hk;subst e2 hk;refine⟨by omega,fun q hq hk=>?_⟩;simp only[bx,mem_singleton]at hq;subst hq;simp[bg,refs]at hk
   ·rw[if_neg e2]at hk;obtain⟨h1,_,s,_,rfl⟩:=BQ hk;exact⟨by omega,fun q hq hk=>ny _ q hq _ hk⟩
 ·simp only[hsM,GSt.st,lk];by_cases e1:k=1001
  ·subst e1;simp[aD]
  ·rw[if_neg e1];by_cases e0:k=1000
   ·subst e0;rfl
   ·rw[if_neg e0,if_neg (Ne.symm e0),if_neg (Ne.symm e1),if_neg (Ne.symm e0)]
theorem Lh {A:List aj} {d i:Int} {E:List (Nat×AV)} {r:aj} (hE:∀ p∈E,∀ k∈refs p.2,k < 1000000):Old ((⟨E++cZ A d i .nilsl,[(1002,some (bx r))],[]⟩:GSt).st fun _=>none):=by
 refine Ay (kM hE (by simp[refs])) (fun p hp' o ho=>?_) (fun k o h=>by cases h);rw[mem_singleton]at hp';subst hp';injection ho with ho;subst ho;refine⟨by simp,fun q hq j hj=>?_⟩;simp only[bx,mem_singleton]at hq;subst hq;simp[bg,refs]at hj
theorem ac7 {A:List aj} {d i:Int} {r:aj} {pre:List aX} (hp:pre.length<=500000):Old ((⟨fZ A d i (jo pre),[(1000,some ⟨3,dW 2000 pre++[oC r]⟩),(1002,some (bx r))],[]⟩:GSt).st (hsF pre)):=by
 refine Ay (kM (E:=[(7,.ptr 1002 0 0)]) (fun p hp' k hk=>by
  rw[mem_singleton]at hp';subst hp';simp[refs]at hk;omega) (by simp[refs])) (fun p hp' o ho=>?_) (X8 hp)
 simp only[mem_cons,List.not_mem_nil,or_false]at hp';rcases hp' with rfl |rfl
 ·injection ho with ho;subst ho;refine⟨by simp,fun q hq j hj=>?_⟩;rcases mem_append.1 hq with hq |hq
  ·have:=gZ _ _ q hq j hj;omega
  ·rw[mem_singleton]at hq;subst hq;simp[bg,refs]at hj
 ·injection ho with ho;subst ho;refine⟨by simp,fun q hq j hj=>?_⟩;simp only[bx,mem_singleton]at hq;subst hq;simp[bg,refs]at hj
theorem aei {cd:Code} {Q:Exit->St->Prop} {A:List aj} {d i:Int} {r:aj}
 (hq:Ev Tryz.prog Tryz.f64.ntmps cd Q (hsM (fZ A d i (jo [])) r [] ⟨r.x0,r.x1,[]⟩)):
 Ev Tryz.prog Tryz.f64.ntmps (cA hsJ) (Va (Ev Tryz.prog Tryz.f64.ntmps cd Q) Q) ((⟨fZ A d i .nilsl,[(1002,some (bx r))],[]⟩:GSt).st fun _=>none):=by
 show Ev _ _ (Code.seq (cA (cA hsJ)) (Code.seq UW (cB (cB (cA hsJ))))) _ _;refine gQ ?_;refine dM (ops:=cO (cA (cA hsJ))) (σ2:=(⟨aar A d i 0 .nilsl,[(1002,some (bx r))],[]⟩:GSt).st fun _=>none) lW (by kernel_rfl) ahF trivial ?_ ?_
 ·refine eY (fun p hp'=>?_) (fun _ _ h=>h) rfl (Lh (E:=[(8,tn 0),(7,.ptr 1002 0 0)]) fun p hp' k hk=>?_)
  ·simp only[aar,fZ,cZ,mem_cons,List.not_mem_nil,or_false]at hp';rcases hp' with rfl |rfl |rfl |rfl |rfl |rfl |rfl<;>exact⟨rfl,rfl⟩
  ·simp only[mem_cons,List.not_mem_nil,or_false]at hp';rcases hp' with rfl |rfl
   ·simp[refs]at hk
   ·simp[refs]at hk;omega
 refine gQ ?_;refine IC (ops:=cO UW) (σ2:=(⟨(30,bo true)::fZ A d i .nilsl,[(1002,some (bx r))],[]⟩:GSt).st fun _=>none) lW mixed (by kernel_rfl) ahH ahG (fun h=>by cases h) ?_ ?_
 ·refine eY (fun p hp'=>?_) (fun _ _ h=>h) rfl (Lh (E:=[(30,bo true),(7,.ptr 1002 0 0)]) fun p hp' k hk=>?_)
  ·simp only[fZ,cZ,mem_cons,List.not_mem_nil,or_false]at hp';rcases hp' with rfl |rfl |rfl |rfl |rfl |rfl |rfl<;>exact⟨rfl,rfl⟩
  ·simp only[mem_cons,List.not_mem_nil,or_false]at hp';rcases hp' with rfl |rfl
   ·simp[refs]at hk
   ·simp[refs]at hk;omega
 show Ev _ _ (Code.cond (.tmp 30) UX (cB (cB (cB (cA hsJ))))) _ _;refine Cj true (fun _ _=>rfl) rfl ?_;refine CB (σ2:=(⟨fZ A d i .nilsl,[(1002,some (bx r))],[]⟩:GSt).st fun _=>none) ?_ ?_
 ·refine eY (fun p hp'=>?_) (fun _ _ h=>h) rfl (Lh (E:=[(7,.ptr 1002 0 0)]) fun p hp' k hk=>?_)
  ·simp only[fZ,cZ,mem_cons,List.not_mem_nil,or_false]at hp';rcases hp' with rfl |rfl |rfl |rfl |rfl |rfl<;>exact⟨rfl,rfl⟩
  ·rw[mem_singleton]at hp';subst hp';simp[refs]at hk;omega
 show Ev _ _ (Code.region _ (cO UX) false) _ _;refine dM (ops:=cO UX) (σ2:=(⟨fZ A d i (jo []),[(1000,some ⟨3,dW 2000 []++[oC r]⟩),(1002,some (bx r))],[]⟩:GSt).st (hsF [])) lW (by kernel_rfl) ahI ⟨trivial,rfl,rfl,by omega,by decide⟩ ?_ (afT (by simp) hq);refine Gp (fun k=>if k=nid 7 then 1000 else k) (fun k=>if k=1000 then nid 7 else k) (fun k=>k≠1000) (fun k hk=>?_) (fun j hj=>by rw[if_neg (by omega)]) (fun p hp'=>?_) (fun j o' hj=>?_) rfl (ac7 (by simp))
 ·by_cases e:k=nid 7
  ·rw[if_pos e,if_pos rfl,e]
  ·rw[if_neg e,if_neg hk]
 ·simp only[fZ,cZ,mem_cons,List.not_mem_nil,or_false]at hp';rcases hp' with rfl |rfl |rfl |rfl |rfl |rfl
  ·exact⟨rfl,fun k hk=>by have:=mem_singleton.1 (show k∈[1002]from hk);omega,rfl⟩
  ·exact⟨rfl,fun k hk=>absurd (show k∈([]:List Nat)from hk) (List.not_mem_nil),rfl⟩
  ·exact⟨rfl,fun k hk=>by have:=mem_singleton.1 (show k∈[nid 7]from hk);simp only[nid]at this;omega,rfl⟩
  ·exact⟨rfl,fun k hk=>absurd (show k∈([]:List Nat)from hk) (List.not_mem_nil),rfl⟩
  ·exact⟨rfl,fun k hk=>absurd (show k∈([]:List Nat)from hk) (List.not_mem_nil),rfl⟩
  ·exact⟨rfl,fun k hk=>absurd (show k∈([]:List Nat)from hk) (List.not_mem_nil),rfl⟩
 ·simp only[GSt.st,lk]at hj;by_cases e0:1000=j
  ·rw[if_pos e0]at hj;injection hj with hj;subst e0 hj;refine⟨nid 7,⟨3,[oC r]⟩,rfl,by simp[nid],rfl,rfl,fun q hq k hk=>?_⟩;rw[mem_singleton]at hq;subst hq;simp[bg,refs]at hk
  ·rw[if_neg e0]at hj;by_cases e2:1002=j
   ·rw[if_pos e2]at hj;injection hj with hj;subst e2 hj;refine⟨1002,bx r,rfl,by omega,rfl,rfl,fun q hq k hk=>?_⟩;simp only[bx,mem_singleton]at hq;subst hq;simp[bg,refs]at hk
   ·rw[if_neg e2]at hj;obtain⟨h1,h2,_⟩:=BQ hj;simp at h2;omega
end
end Go.Proofs
