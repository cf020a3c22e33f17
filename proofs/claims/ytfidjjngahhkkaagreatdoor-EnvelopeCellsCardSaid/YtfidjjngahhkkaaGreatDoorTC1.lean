/-
  Printed by wip/gen: that functions of the program compute this.
-/
import Derived.Test.YtfidjjngahhkkaaGreatDoorS2
open Go.IntKind (i64)
open List (mem_cons mem_append mem_singleton length_cons map_congr_left map_append)
namespace Go.Proofs
open Go.Gb Go.RowKit
noncomputable section
def SK:Sig xx:=⟨[],[.d (.st SI.Town)],fun a=>Ec,none⟩
theorem SL:aH 40 SK :=cq aB Tryz.func40 .z 0 (by kernel_rfl) rfl fun _=>by kernel_rfl
def NV:Sig xx:=⟨[.d (.sl ak)],[.fresh ak],fun a=>rO a.1,none⟩
theorem CP:aH 55 NV :=cq aB Tryz.func55 .z 0 (by kernel_rfl) rfl fun _=>by kernel_rfl
def Ru:Sig xx:=⟨[.d (.sl ah)],[.fresh ah],fun a=>BN a.1,none⟩
theorem Rv:aH 113 Ru :=cq aB Tryz.func113 .z 0 (by kernel_rfl) rfl fun _=>by kernel_rfl
def aaw:Sig xx:=⟨[.d (.st SI.Lot)],[.d (.st SI.Lot)],fun a=>Jr a.1,none⟩
theorem aax:aH 56 aaw :=cq (au CP (au Rv aB)) Tryz.func56 .z 0 (by kernel_rfl) rfl fun _=>by kernel_rfl
def acs (n:Nat):Sig xx:=⟨[.d (.sl (.st SI.Lot)),.d ah],[.d (.st SI.Lot),.d .bool],fun a=>BP n a.1 a.2.1,none⟩
def acu:Hn SI:=(.s .z (.s (.s .z (.b (.lx ⟨[(10,(.v ah))],[],[1,4,8,9],[1000],1320,[]⟩ 0 ⟨[],[],[4],[1000],1320,[]⟩ .z))) .z))
theorem LU (n:Nat):aH 21 (acs n) :=cq (au aax aB) Tryz.func21 acu n (by kernel_rfl) rfl fun _=>by kernel_rfl
def acv:Sig xx:=⟨[.d ak],[.d .bool],fun a=>uZ a.1,none⟩
theorem AL:aH 120 acv :=cq aB Tryz.func120 .z 0 (by kernel_rfl) rfl fun _=>by kernel_rfl
def Rw:Sig xx:=⟨[.nil,.d ah],[.fresh ak],fun a=>Js a.1 a.2.1,none⟩
theorem Rx:aH 214 Rw :=cq aB Tryz.func214 .z 0 (by kernel_rfl) rfl fun _=>by kernel_rfl
def LV (n:Nat):Sig xx:=⟨[.d (.sl (.sl ak))],[.fresh ak],fun a=>wM n a.1,none⟩
def LW:Hn SI:=(.s .z (.s .z (.s (.s .z (.b (.l ⟨[(3,(.v ah)),(11,(.v ah))],[],[0,9,10],[],1320,[]⟩ 0 ⟨[(3,(.v ah))],[],[0],[],1320,[]⟩ .z))) (.s .z (.s (.s .z (.b (.l ⟨[(6,(.o 1704)),(27,(.v ah))],[(1704,.l ak)],[25,26],[],1705,[]⟩ 2 ⟨[(6,(.o 1704))],[(1704,.l ak)],[],[],1705,[]⟩ .z))) .z)))))
theorem LX (n:Nat):aH 175 (LV n) :=cq (au Rx aB) Tryz.func175 LW n (by kernel_rfl) rfl fun _=>by kernel_rfl
def Wm:Sig xx:=⟨[.d (.int .u64)],[.d ah],fun a=>bits_Len64 a.1,none⟩
def Wn:Hn SI:=(.s .z (.s (.j ⟨[(0,(.v (.int .u64))),(2,(.v ah))],[],[],[],1064,[]⟩ .z) (.s (.j ⟨[(0,(.v (.int .u64))),(2,(.v ah))],[],[],[],1064,[]⟩ .z) (.s (.j ⟨[(0,(.v (.int .u64))),(2,(.v ah))],[],[],[],1064,[]⟩ .z) .z))))
theorem Wo:aH 172 Wm :=cq aB Tryz.func172 Wn 0 (by kernel_rfl) rfl fun _=>by kernel_rfl
def aay:Sig xx:=⟨[.d (.int .u64)],[.d ah],fun a=>bits_Len a.1,none⟩
theorem Ci:aH 115 aay :=cq (au Wo aB) Tryz.func115 .z 0 (by kernel_rfl) rfl fun _=>by kernel_rfl
def NW:Sig xx:=⟨[.d ah],[.d .bool],fun a=>cmp_isNaN_int a.1,none⟩
theorem CQ:aH 213 NW :=cq aB Tryz.func213 .z 0 (by kernel_rfl) rfl fun _=>by kernel_rfl
def Ry:Sig xx:=⟨[.d ah,.d ah],[.d .bool],fun a=>cmp_Less_int a.1 a.2.1,none⟩
theorem iE:aH 168 Ry :=cq (au CQ aB) Tryz.func168 .z 0 (by kernel_rfl) rfl fun _=>by kernel_rfl
def tF (n:Nat):Sig xx:=⟨[.mut ah,.d ah,.d ah],[.mu ah],fun a=>u6 n a.1 a.2.1 a.2.2.1,none⟩
def tH:Hn SI:=(.s .z (.b (.l ⟨[(6,(.v ah))],[(0,.l ah)],[0,1,2],[],1192,[]⟩ 0 ⟨[],[(0,.l ah)],[],[],1192,[]⟩ (.s .z (.s (.b (.s .z (.b (.l ⟨[(7,(.v ah))],[(0,.l ah)],[0,1,2,6],[],1512,[]⟩ 2 ⟨[],[(0,.l ah)],[0,1,2,6],[],1512,[]⟩ (.s (.s (.j ⟨[(30,(.v .bool))],[],[0,1,2,6,7],[0],1512,[]⟩ .z) .z) .z))))) .z)))))
theorem tJ (n:Nat):aH 162 (tF n) :=cq (au iE aB) Tryz.func162 tH n (by kernel_rfl) rfl fun _=>by kernel_rfl
def zm (n:Nat):Sig xx:=⟨[.mut ah,.d ah,.d ah,.d ah],[.mu ah],fun a=>BQ n a.1 a.2.1 a.2.2.1 a.2.2.2.1,none⟩
def zn:Hn SI:=(.s .z (.b (.lx ⟨[(8,(.v ah))],[(0,.l ah)],[0,2,3],[],1128,[]⟩ 0 ⟨[],[(0,.l ah)],[],[],1128,[]⟩ (.b (.s .z (.s .z (.s (.j ⟨[(9,(.v ah))],[],[0,2,3,8],[0],1576,[]⟩ (.s (.j ⟨[(36,(.v .bool))],[],[0,2,3,8,9],[0],1576,[]⟩ .z) .z)) .z)))))))
theorem zq (n:Nat):aH 208 (zm n) :=cq (au iE aB) Tryz.func208 zn n (by kernel_rfl) rfl fun _=>by kernel_rfl
def zu (n:Nat):Sig xx:=⟨[.mut ah,.d ah,.d ah],[.mu ah],fun a=>BR n a.1 a.2.1 a.2.2.1,none⟩
def zw:Hn SI:=(.s .z (.s .z (.s .z (.s (.s .z (.b (.l ⟨[(9,(.v ah))],[(0,.l ah)],[0,6,7,8],[],1704,[]⟩ 0 ⟨[],[(0,.l ah)],[0,6,7,8],[],1704,[]⟩ .z))) (.s .z (.b (.l ⟨[(10,(.v ah))],[(0,.l ah)],[0,6,7],[],1896,[]⟩ 2 ⟨[],[(0,.l ah)],[],[],1896,[]⟩ .z)))))))
theorem zx (n:Nat):aH 163 (zu n) :=cq (au (zq n) aB) Tryz.func163 zw n (by kernel_rfl) rfl fun _=>by kernel_rfl
def FQ:Sig xx:=⟨[.d ah],[.d (.int .u64)],fun a=>aM a.1,none⟩
theorem mZ:aH 209 FQ :=cq (au Ci aB) Tryz.func209 .z 0 (by kernel_rfl) rfl fun _=>by kernel_rfl
def HZ:Sig xx:=⟨[.mref (.int .u64)],[.d (.int .u64),.mr (.int .u64)],fun a=>aN a.1,none⟩
theorem oF:aH 210 HZ :=cq aB Tryz.func210 .z 0 (by kernel_rfl) rfl fun _=>by kernel_rfl
def tK (n:Nat):Sig xx:=⟨[.mut ah,.d ah,.d ah],[.mu ah],fun a=>u7 n a.1 a.2.1 a.2.2.1,none⟩
def tL:Hn SI:=(.s .z (.s .z (.s (.s .z (.s .z (.s .z (.b (.l ⟨[(9,(.v ah))],[(0,.l ah),(1512,.c 1 [[(.v (.int .u64))]])],[0,1,6,7,8],[],2280,[]⟩ 0 ⟨[],[(0,.l ah)],[],[],2280,[]⟩ (.s .z (.s (.b (.s .z (.s (.j ⟨[(10,(.v ah))],[],[0,1,6,7,8,9],[0,1512],3176,[]⟩ .z) .z))) .z))))))) .z)))
theorem tN (n:Nat):aH 164 (tK n) :=cq (au mZ (au oF aB)) Tryz.func164 tL n (by kernel_rfl) rfl fun _=>by kernel_rfl
def Cj:Sig xx:=⟨[.d (.sl ah),.d ah,.d ah,.mref ah],[.d ah,.d ah,.mr ah],fun a=>Ed a.1 a.2.1 a.2.2.1 a.2.2.2.1,none⟩
theorem Ck:aH 251 Cj :=cq (au iE aB) Tryz.func251 .z 0 (by kernel_rfl) rfl fun _=>by kernel_rfl
def Cm:Sig xx:=⟨[.d (.sl ah),.d ah,.d ah,.d ah,.mref ah],[.d ah,.mr ah],fun a=>Ee a.1 a.2.1 a.2.2.1 a.2.2.2.1 a.2.2.2.2.1,none⟩
theorem qh:aH 212 Cm :=cq (au Ck aB) Tryz.func212 .z 0 (by kernel_rfl) rfl fun _=>by kernel_rfl
def qV:Sig xx:=⟨[.d (.sl ah),.d ah,.mref ah],[.d ah,.mr ah],fun a=>ul a.1 a.2.1 a.2.2.1,none⟩
theorem qW:aH 211 qV :=cq (au qh aB) Tryz.func211 .z 0 (by kernel_rfl) rfl fun _=>by kernel_rfl
def vH:Sig xx:=⟨[.d (.sl ah),.d ah,.d ah],[.d ah,.d ah],fun a=>xA a.1 a.2.1 a.2.2.1,none⟩
def vI:Hn SI:=(.s .z (.s .z (.s .z (.s .z (.s .z (.s .z (.s (.j ⟨[(11,(.v ah))],[(1384,.c 1 [[(.v ah)]])],[9],[],2600,[]⟩ (.s .z (.s (.s (.j ⟨[(10,(.v ah)),(11,(.v ah)),(12,(.v ah))],[(1384,.c 1 [[(.v ah)]])],[0,9],[],2728,[]⟩ .z) .z) .z))) .z)))))))
theorem vJ:aH 165 vH :=cq (au qW (au qh aB)) Tryz.func165 vI 0 (by kernel_rfl) rfl fun _=>by kernel_rfl
def uE (n:Nat):Sig xx:=⟨[.mut ah,.d ah,.d ah],[.mu ah],fun a=>wN n a.1 a.2.1 a.2.2.1,none⟩
def uF:Hn SI:=(.s .z (.s .z (.b (.l ⟨[(6,(.v ah)),(7,(.v ah))],[(0,.l ah)],[0],[],1320,[]⟩ 0 ⟨[],[(0,.l ah)],[],[],1320,[]⟩ .z))))
theorem uG (n:Nat):aH 166 (uE n) :=cq aB Tryz.func166 uF n (by kernel_rfl) rfl fun _=>by kernel_rfl
def ng (n:Nat):Sig xx:=⟨[.mut ah,.d ah,.d ah],[.d .bool,.mu ah],fun a=>oo n a.1 a.2.1 a.2.2.1,none⟩
def ni:Hn SI:=(.s .z (.s .z (.s (.s .z (.b (.lx ⟨[(7,(.v ah)),(8,(.v ah))],[(0,.l ah)],[0,1,2],[],1320,[]⟩ 0 ⟨[],[(0,.l ah)],[],[],1320,[]⟩ (.s .z (.s (.jx ⟨[(7,(.v ah))],[(0,.l ah)],[0,1,2,8],[],1448,[]⟩ (.b (.s (.b (.l ⟨[(7,(.v ah))],[],[0,1,2,8],[0],1448,[]⟩ 2 ⟨[(7,(.v ah))],[],[0,1,2,8],[0],1448,[]⟩ (.s (.s (.j ⟨[(32,(.v .bool))],[],[0,1,2,7,8],[0],1448,[]⟩ .z) .z) .z))) (.s .z (.s .z (.s .z (.s (.j ⟨[],[(0,.l ah)],[0,1,2,7,8],[],3048,[]⟩ (.s .z (.s (.s .z (.b (.l ⟨[(9,(.v ah))],[(0,.l ah)],[0,1,2,7,8],[],3496,[]⟩ 4 ⟨[],[(0,.l ah)],[0,1,2,7,8],[],3496,[]⟩ .z))) .z))) (.s .z (.s (.s .z (.b (.l ⟨[(10,(.v ah))],[(0,.l ah)],[0,1,2,7,8],[],3496,[]⟩ 6 ⟨[],[(0,.l ah)],[0,1,2,7,8],[],3496,[]⟩ .z))) .z))))))))) .z))))) .z)))
theorem nk (n:Nat):aH 167 (ng n) :=cq (au iE aB) Tryz.func167 ni n (by kernel_rfl) rfl fun _=>by kernel_rfl
def qX (n:Nat):Sig xx:=⟨[.mut ah,.d ah,.d ah,.d ah],[.d ah,.mu ah],fun a=>um n a.1 a.2.1 a.2.2.1 a.2.2.2.1,none⟩
def qY:Hn SI:=(.s .z (.s .z (.s .z (.s (.b (.l ⟨[(9,(.v ah)),(10,(.v ah))],[(0,.l ah)],[0,1],[],2472,[]⟩ 0 ⟨[(9,(.v ah))],[(0,.l ah)],[],[],2472,[]⟩ (.b (.s (.b (.l ⟨[(9,(.v ah))],[],[0,1,10],[0],2472,[]⟩ 2 ⟨[(9,(.v ah))],[],[0,1,10],[0],2472,[]⟩ (.s (.s (.j ⟨[(43,(.v .bool))],[],[0,1,9,10],[0],2472,[]⟩ .z) .z) .z))) (.s (.b (.l ⟨[(10,(.v ah))],[],[0,1,9],[0],2472,[]⟩ 4 ⟨[(10,(.v ah))],[],[0,1,9],[0],2472,[]⟩ (.s (.s (.j ⟨[(59,(.v .bool))],[],[0,1,9,10],[0],2472,[]⟩ .z) .z) .z))) .z))))) .z))))
theorem qZ (n:Nat):aH 169 (qX n) :=cq (au iE aB) Tryz.func169 qY n (by kernel_rfl) rfl fun _=>by kernel_rfl
def xC (n:Nat):Sig xx:=⟨[.mut ah,.d ah,.d ah,.d ah],[.d ah,.d .bool,.mu ah],fun a=>Ai n a.1 a.2.1 a.2.2.1 a.2.2.2.1,none⟩
def xD:Hn SI:=(.s .z (.s .z (.s .z (.s (.b (.l ⟨[(10,(.v ah))],[],[0,1,11],[0],2536,[]⟩ 0 ⟨[(10,(.v ah))],[],[0,1,11],[0],2536,[]⟩ (.s (.s (.j ⟨[(43,(.v .bool))],[],[0,1,10,11],[0],2536,[]⟩ .z) .z) .z))) (.s (.b (.l ⟨[(11,(.v ah))],[],[0,1,10],[0],2536,[]⟩ 2 ⟨[(11,(.v ah))],[],[0,1,10],[0],2536,[]⟩ (.s (.s (.j ⟨[(60,(.v .bool))],[],[0,1,10,11],[0],2536,[]⟩ .z) .z) .z))) (.s .z (.s .z (.s .z (.s .z (.s (.b (.l ⟨[(10,(.v ah)),(11,(.v ah))],[(0,.l ah)],[0,1],[],4136,[]⟩ 4 ⟨[(11,(.v ah))],[(0,.l ah)],[0,1],[],4136,[]⟩ (.b (.s (.b (.l ⟨[(10,(.v ah))],[],[0,1,11],[0],4136,[]⟩ 6 ⟨[(10,(.v ah))],[],[0,1,11],[0],4136,[]⟩ (.s (.s (.j ⟨[(112,(.v .bool))],[],[0,1,10,11],[0],4136,[]⟩ .z) .z) .z))) (.s (.b (.l ⟨[(11,(.v ah))],[],[0,1,10],[0],4136,[]⟩ 8 ⟨[(11,(.v ah))],[],[0,1,10],[0],4136,[]⟩ (.s (.s (.j ⟨[(129,(.v .bool))],[],[0,1,10,11],[0],4136,[]⟩ .z) .z) .z))) .z))))) .z))))))))))
theorem xE (n:Nat):aH 170 (xC n) :=cq (au iE aB) Tryz.func170 xD n (by kernel_rfl) rfl fun _=>by kernel_rfl
def AO:Hn SI:=(.s .z (.s .z (.b (.lx ⟨[(1,(.v ah)),(2,(.v ah)),(3,(.v ah)),(8,(.v .bool)),(9,(.v .bool))],[(0,.l ah)],[0],[],1128,[]⟩ 999999 ⟨[],[],[],[],1128,[]⟩ (.b (.s .z (.s .z (.s .z (.s (.j ⟨[(3,(.v ah))],[(0,.l ah)],[0,1,2,8,9,10],[],1640,[]⟩ .z) (.s .z (.s (.j ⟨[(11,(.v ah)),(12,(.v ah))],[(0,.l ah)],[0,1,2,3,8,9,10],[],2216,[]⟩ .z) (.s (.jx ⟨[],[(0,.l ah)],[0,1,2,3,8,9,10,11],[],2216,[]⟩ (.s (.j ⟨[(68,(.v .bool))],[],[0,1,2,3,8,9,10,11],[0],2216,[]⟩ .z) .z)) (.s (.s (.j ⟨[(87,(.v .bool))],[],[0,1,2,3,8,9,10,11],[0],2216,[]⟩ .z) .z) .z)))))))))))))
theorem zy (n:Nat) (rc:((List Int))->(Int)->(Int)->(Int)->Option (List Int)) (hr:aH 114 (jr rc)):aH 114 (jr (jE n rc)) :=cq (au (tJ n) (au (zx n) (au (tN n) (au vJ (au (uG n) (au (nk n) (au iE (au (qZ n) (au (xE n) (au hr aB)))))))))) Tryz.func114 AO n (by kernel_rfl) rfl fun _=>by kernel_rfl
theorem nO (n:Nat):∀ m,aH 114 (jr (dW n m))
 | 0=>cok (oM Tryz.func114 (by kernel_rfl:Tryz.f114.body=some (Tryz.f114.body.getD .skip)) (by kernel_rfl)) (fun _ _ h=>(by cases h)) rfl
 |m+1=>zy n _ (nO n m)
def AP (n:Nat):Sig xx:=⟨[.mut ah,.d ah,.d ah,.d ah],[.mu ah],fun a=>kN n a.1 a.2.1 a.2.2.1 a.2.2.2.1,none⟩
theorem AQ (n:Nat):aH 114 (AP n):=nO n n
def SQ (n:Nat):Sig xx:=⟨[.mut ah],[.mu ah],fun a=>jR n a.1,none⟩
theorem rZ (n:Nat):aH 59 (SQ n) :=cq (au Ci (au (AQ n) aB)) Tryz.func59 .z n (by kernel_rfl) rfl fun _=>by kernel_rfl
def LY (n:Nat):Sig xx:=⟨[.mut ah],[.whole 0,.mu ah],fun a=>jF n a.1,none⟩
def LZ:Hn SI:=(.s .z (.s .z (.s (.s .z (.b (.lx ⟨[(3,(.v ah))],[],[0],[0],1320,[]⟩ 0 ⟨[],[],[0],[0],1320,[]⟩ (.s .z (.s (.b (.s .z (.s (.s .z (.s (.s .z (.b (.l ⟨[(3,(.v ah)),(5,(.v ah))],[(0,.l ah)],[0,4],[],2536,[]⟩ 2 ⟨[(3,(.v ah))],[(0,.l ah)],[0],[],2536,[]⟩ (.s .z (.s (.j ⟨[(3,(.v ah))],[(0,.l ah)],[0,4,5],[],2792,[]⟩ .z) .z))))) .z)) .z))) .z))))) .z)))
theorem mD (n:Nat):aH 60 (LY n) :=cq aB Tryz.func60 LZ n (by kernel_rfl) rfl fun _=>by kernel_rfl
def q8 (n:Nat):Sig xx:=⟨[.mut (.st SI.span),.d ah,.d ah,.clo [(.st SI.span),(.st SI.span)] ah],[.mu (.st SI.span)],fun a=>uo n a.1 a.2.1 a.2.2.1 a.2.2.2.1,none⟩
def q9:Hn SI:=(.s .z (.b (.l ⟨[(8,(.v ah))],[(0,.l (.st SI.span))],[0,1,2,3],[],1192,[]⟩ 0 ⟨[],[(0,.l (.st SI.span))],[],[],1192,[]⟩ (.s .z (.s (.b (.s .z (.b (.l ⟨[(9,(.v ah))],[(0,.l (.st SI.span))],[0,1,2,3,8],[],1512,[]⟩ 2 ⟨[],[(0,.l (.st SI.span))],[0,1,2,3,8],[],1512,[]⟩ (.s (.s (.j ⟨[(34,(.v .bool))],[],[0,1,2,3,8,9],[0],1512,[]⟩ .z) .z) .z))))) .z)))))
theorem rf (n:Nat):aH 283 (q8 n) :=cq aB Tryz.func283 q9 n (by kernel_rfl) rfl fun _=>by kernel_rfl
def xG (n:Nat):Sig xx:=⟨[.mut (.st SI.span),.d ah,.d ah,.d ah,.clo [(.st SI.span),(.st SI.span)] ah],[.mu (.st SI.span)],fun a=>Aj n a.1 a.2.1 a.2.2.1 a.2.2.2.1 a.2.2.2.2.1,none⟩
def xH:Hn SI:=(.s .z (.b (.lx ⟨[(10,(.v ah))],[(0,.l (.st SI.span))],[0,2,3,4],[],1128,[]⟩ 0 ⟨[],[(0,.l (.st SI.span))],[],[],1128,[]⟩ (.b (.s .z (.s .z (.s (.j ⟨[(11,(.v ah))],[],[0,2,3,4,10],[0],1576,[]⟩ (.s (.j ⟨[(40,(.v .bool))],[],[0,2,3,4,10,11],[0],1576,[]⟩ .z) .z)) .z)))))))
theorem xI (n:Nat):aH 310 (xG n) :=cq aB Tryz.func310 xH n (by kernel_rfl) rfl fun _=>by kernel_rfl
def xJ (n:Nat):Sig xx:=⟨[.mut (.st SI.span),.d ah,.d ah,.clo [(.st SI.span),(.st SI.span)] ah],[.mu (.st SI.span)],fun a=>Ak n a.1 a.2.1 a.2.2.1 a.2.2.2.1,none⟩
def xK:Hn SI:=(.s .z (.s .z (.s .z (.s (.s .z (.b (.l ⟨[(11,(.v ah))],[(0,.l (.st SI.span))],[0,3,8,9,10],[],1704,[]⟩ 0 ⟨[],[(0,.l (.st SI.span))],[0,3,8,9,10],[],1704,[]⟩ .z))) (.s .z (.b (.l ⟨[(12,(.v ah))],[(0,.l (.st SI.span))],[0,3,8,9],[],1896,[]⟩ 2 ⟨[],[(0,.l (.st SI.span))],[],[],1896,[]⟩ .z)))))))
theorem xL (n:Nat):aH 284 (xJ n) :=cq (au (xI n) aB) Tryz.func284 xK n (by kernel_rfl) rfl fun _=>by kernel_rfl
def rq (n:Nat):Sig xx:=⟨[.mut (.st SI.span),.d ah,.d ah,.clo [(.st SI.span),(.st SI.span)] ah],[.mu (.st SI.span)],fun a=>uq n a.1 a.2.1 a.2.2.1 a.2.2.2.1,none⟩
def ru:Hn SI:=(.s .z (.s .z (.s (.s .z (.s .z (.s .z (.b (.l ⟨[(11,(.v ah))],[(0,.l (.st SI.span)),(1512,.c 1 [[(.v (.int .u64))]])],[0,1,8,9,10],[],2280,[]⟩ 0 ⟨[],[(0,.l (.st SI.span))],[],[],2280,[]⟩ (.s .z (.s (.b (.s .z (.s (.j ⟨[(12,(.v ah))],[],[0,1,8,9,10,11],[0,1512],3176,[]⟩ .z) .z))) .z))))))) .z)))
theorem rz (n:Nat):aH 285 (rq n) :=cq (au mZ (au oF aB)) Tryz.func285 ru n (by kernel_rfl) rfl fun _=>by kernel_rfl
def AR:Sig xx:=⟨[.d (.sl (.st SI.span)),.d ah,.d ah,.mref ah,.clo [(.st SI.span),(.st SI.span)] ah],[.d ah,.d ah,.mr ah],fun a=>CV a.1 a.2.1 a.2.2.1 a.2.2.2.1 a.2.2.2.2.1,none⟩
theorem AU:aH 322 AR :=cq aB Tryz.func322 .z 0 (by kernel_rfl) rfl fun _=>by kernel_rfl
def AX:Sig xx:=⟨[.d (.sl (.st SI.span)),.d ah,.d ah,.d ah,.mref ah,.clo [(.st SI.span),(.st SI.span)] ah],[.d ah,.mr ah],fun a=>CW a.1 a.2.1 a.2.2.1 a.2.2.2.1 a.2.2.2.2.1 a.2.2.2.2.2.1,none⟩
theorem oV:aH 312 AX :=cq (au AU aB) Tryz.func312 .z 0 (by kernel_rfl) rfl fun _=>by kernel_rfl
def ql:Sig xx:=⟨[.d (.sl (.st SI.span)),.d ah,.mref ah,.clo [(.st SI.span),(.st SI.span)] ah],[.d ah,.mr ah],fun a=>sN a.1 a.2.1 a.2.2.1 a.2.2.2.1,none⟩
theorem qm:aH 311 ql :=cq (au oV aB) Tryz.func311 .z 0 (by kernel_rfl) rfl fun _=>by kernel_rfl
def uH:Sig xx:=⟨[.d (.sl (.st SI.span)),.d ah,.d ah,.clo [(.st SI.span),(.st SI.span)] ah],[.d ah,.d ah],fun a=>wO a.1 a.2.1 a.2.2.1 a.2.2.2.1,none⟩
def uI:Hn SI:=(.s .z (.s .z (.s .z (.s .z (.s .z (.s .z (.s (.j ⟨[(13,(.v ah))],[(1384,.c 1 [[(.v ah)]])],[11],[],2600,[]⟩ (.s .z (.s (.s (.j ⟨[(12,(.v ah)),(13,(.v ah)),(14,(.v ah))],[(1384,.c 1 [[(.v ah)]])],[0,3,11],[],2728,[]⟩ .z) .z) .z))) .z)))))))
theorem uJ:aH 286 uH :=cq (au qm (au oV aB)) Tryz.func286 uI 0 (by kernel_rfl) rfl fun _=>by kernel_rfl
def tO (n:Nat):Sig xx:=⟨[.mut (.st SI.span),.d ah,.d ah,.clo [(.st SI.span),(.st SI.span)] ah],[.mu (.st SI.span)],fun a=>ve n a.1 a.2.1 a.2.2.1 a.2.2.2.1,none⟩
def tQ:Hn SI:=(.s .z (.s .z (.b (.l ⟨[(8,(.v ah)),(9,(.v ah))],[(0,.l (.st SI.span))],[0],[],1320,[]⟩ 0 ⟨[],[(0,.l (.st SI.span))],[],[],1320,[]⟩ .z))))
theorem tT (n:Nat):aH 287 (tO n) :=cq aB Tryz.func287 tQ n (by kernel_rfl) rfl fun _=>by kernel_rfl
def mE (n:Nat):Sig xx:=⟨[.mut (.st SI.span),.d ah,.d ah,.clo [(.st SI.span),(.st SI.span)] ah],[.d .bool,.mu (.st SI.span)],fun a=>nH n a.1 a.2.1 a.2.2.1 a.2.2.2.1,none⟩
def mF:Hn SI:=(.s .z (.s .z (.s (.s .z (.b (.lx ⟨[(9,(.v ah)),(10,(.v ah))],[(0,.l (.st SI.span))],[0,1,2,3],[],1320,[]⟩ 0 ⟨[],[(0,.l (.st SI.span))],[],[],1320,[]⟩ (.s .z (.s (.jx ⟨[(9,(.v ah))],[(0,.l (.st SI.span))],[0,1,2,3,10],[],1448,[]⟩ (.b (.s (.b (.l ⟨[(9,(.v ah))],[],[0,1,2,3,10],[0],1448,[]⟩ 2 ⟨[(9,(.v ah))],[],[0,1,2,3,10],[0],1448,[]⟩ (.s (.s (.j ⟨[(36,(.v .bool))],[],[0,1,2,3,9,10],[0],1448,[]⟩ .z) .z) .z))) (.s .z (.s .z (.s .z (.s (.j ⟨[],[(0,.l (.st SI.span))],[0,1,2,3,9,10],[],3048,[]⟩ (.s .z (.s (.s .z (.b (.l ⟨[(11,(.v ah))],[(0,.l (.st SI.span))],[0,1,2,3,9,10],[],3496,[]⟩ 4 ⟨[],[(0,.l (.st SI.span))],[0,1,2,3,9,10],[],3496,[]⟩ .z))) .z))) (.s .z (.s (.s .z (.b (.l ⟨[(12,(.v ah))],[(0,.l (.st SI.span))],[0,1,2,3,9,10],[],3496,[]⟩ 6 ⟨[],[(0,.l (.st SI.span))],[0,1,2,3,9,10],[],3496,[]⟩ .z))) .z))))))))) .z))))) .z)))
theorem mG (n:Nat):aH 288 (mE n) :=cq aB Tryz.func288 mF n (by kernel_rfl) rfl fun _=>by kernel_rfl
def qo (n:Nat):Sig xx:=⟨[.mut (.st SI.span),.d ah,.d ah,.d ah,.clo [(.st SI.span),(.st SI.span)] ah],[.d ah,.mu (.st SI.span)],fun a=>sO n a.1 a.2.1 a.2.2.1 a.2.2.2.1 a.2.2.2.2.1,none⟩
def qp:Hn SI:=(.s .z (.s .z (.s .z (.s (.b (.l ⟨[(11,(.v ah)),(12,(.v ah))],[(0,.l (.st SI.span))],[0,1,4],[],2472,[]⟩ 0 ⟨[(11,(.v ah))],[(0,.l (.st SI.span))],[],[],2472,[]⟩ (.b (.s (.b (.l ⟨[(11,(.v ah))],[],[0,1,4,12],[0],2472,[]⟩ 2 ⟨[(11,(.v ah))],[],[0,1,4,12],[0],2472,[]⟩ (.s (.s (.j ⟨[(47,(.v .bool))],[],[0,1,4,11,12],[0],2472,[]⟩ .z) .z) .z))) (.s (.b (.l ⟨[(12,(.v ah))],[],[0,1,4,11],[0],2472,[]⟩ 4 ⟨[(12,(.v ah))],[],[0,1,4,11],[0],2472,[]⟩ (.s (.s (.j ⟨[(65,(.v .bool))],[],[0,1,4,11,12],[0],2472,[]⟩ .z) .z) .z))) .z))))) .z))))
theorem qw (n:Nat):aH 289 (qo n) :=cq aB Tryz.func289 qp n (by kernel_rfl) rfl fun _=>by kernel_rfl
def wX (n:Nat):Sig xx:=⟨[.mut (.st SI.span),.d ah,.d ah,.d ah,.clo [(.st SI.span),(.st SI.span)] ah],[.d ah,.d .bool,.mu (.st SI.span)],fun a=>y7 n a.1 a.2.1 a.2.2.1 a.2.2.2.1 a.2.2.2.2.1,none⟩
def wY:Hn SI:=(.s .z (.s .z (.s .z (.s (.b (.l ⟨[(12,(.v ah))],[],[0,1,4,13],[0],2536,[]⟩ 0 ⟨[(12,(.v ah))],[],[0,1,4,13],[0],2536,[]⟩ (.s (.s (.j ⟨[(47,(.v .bool))],[],[0,1,4,12,13],[0],2536,[]⟩ .z) .z) .z))) (.s (.b (.l ⟨[(13,(.v ah))],[],[0,1,4,12],[0],2536,[]⟩ 2 ⟨[(13,(.v ah))],[],[0,1,4,12],[0],2536,[]⟩ (.s (.s (.j ⟨[(66,(.v .bool))],[],[0,1,4,12,13],[0],2536,[]⟩ .z) .z) .z))) (.s .z (.s .z (.s .z (.s .z (.s (.b (.l ⟨[(12,(.v ah)),(13,(.v ah))],[(0,.l (.st SI.span))],[0,1,4],[],4136,[]⟩ 4 ⟨[(13,(.v ah))],[(0,.l (.st SI.span))],[0,1],[],4136,[]⟩ (.b (.s (.b (.l ⟨[(12,(.v ah))],[],[0,1,4,13],[0],4136,[]⟩ 6 ⟨[(12,(.v ah))],[],[0,1,4,13],[0],4136,[]⟩ (.s (.s (.j ⟨[(120,(.v .bool))],[],[0,1,4,12,13],[0],4136,[]⟩ .z) .z) .z))) (.s (.b (.l ⟨[(13,(.v ah))],[],[0,1,4,12],[0],4136,[]⟩ 8 ⟨[(13,(.v ah))],[],[0,1,4,12],[0],4136,[]⟩ (.s (.s (.j ⟨[(139,(.v .bool))],[],[0,1,4,12,13],[0],4136,[]⟩ .z) .z) .z))) .z))))) .z))))))))))
theorem wZ (n:Nat):aH 290 (wX n) :=cq aB Tryz.func290 wY n (by kernel_rfl) rfl fun _=>by kernel_rfl
def zA:Hn SI:=(.s .z (.s .z (.b (.lx ⟨[(1,(.v ah)),(2,(.v ah)),(3,(.v ah)),(10,(.v .bool)),(11,(.v .bool))],[(0,.l (.st SI.span))],[0,4],[],1128,[]⟩ 999999 ⟨[],[],[],[],1128,[]⟩ (.b (.s .z (.s .z (.s .z (.s (.j ⟨[(3,(.v ah))],[(0,.l (.st SI.span))],[0,1,2,4,10,11,12],[],1640,[]⟩ .z) (.s .z (.s (.j ⟨[(13,(.v ah)),(14,(.v ah))],[(0,.l (.st SI.span))],[0,1,2,3,4,10,11,12],[],2280,[]⟩ .z) (.s (.jx ⟨[],[(0,.l (.st SI.span))],[0,1,2,3,4,10,11,12,13],[],2280,[]⟩ (.s (.j ⟨[(75,(.v .bool))],[],[0,1,2,3,4,10,11,12,13],[0],2280,[]⟩ .z) .z)) (.s (.s (.j ⟨[(97,(.v .bool))],[],[0,1,2,3,4,10,11,12,13],[0],2280,[]⟩ .z) .z) .z)))))))))))))
theorem xM (n:Nat) (rc:((List aA))->(Int)->(Int)->(Int)->((aA×aA×Unit)->Option Int)->Option (List aA)) (hr:aH 252 (iH rc)):aH 252 (iH (fE n rc)) :=cq (au (rf n) (au (xL n) (au (rz n) (au uJ (au (tT n) (au (mG n) (au (qw n) (au (wZ n) (au hr aB))))))))) Tryz.func252 zA n (by kernel_rfl) rfl fun _=>by kernel_rfl
theorem mO (n:Nat):∀ m,aH 252 (iH (bW n m))
 | 0=>cok (oM Tryz.func252 (by kernel_rfl:Tryz.f252.body=some (Tryz.f252.body.getD .skip)) (by kernel_rfl)) (fun _ _ h=>(by cases h)) rfl
 |m+1=>xM n _ (mO n m)
def zB (n:Nat):Sig xx:=⟨[.mut (.st SI.span),.d ah,.d ah,.d ah,.clo [(.st SI.span),(.st SI.span)] ah],[.mu (.st SI.span)],fun a=>j4 n a.1 a.2.1 a.2.2.1 a.2.2.2.1 a.2.2.2.2.1,none⟩
theorem zC (n:Nat):aH 252 (zB n):=mO n n
def H6 (n:Nat):Sig xx:=⟨[.mut (.st SI.span),.clo [(.st SI.span),(.st SI.span)] ah],[.mu (.st SI.span)],fun a=>lY n a.1 a.2.1,none⟩
theorem H7 (n:Nat):aH 215 (H6 n) :=cq (au Ci (au (zC n) aB)) Tryz.func215 .z n (by kernel_rfl) rfl fun _=>by kernel_rfl
def J3:Sig xx:=⟨[.d ah,.d ah],[.d ah],fun a=>cmp_Compare_int a.1 a.2.1,none⟩
theorem kU:aH 201 J3 :=cq (au CQ aB) Tryz.func201 .z 0 (by kernel_rfl) rfl fun _=>by kernel_rfl
def Rz:Sig xx:=⟨[.d (.st SI.span),.d (.st SI.span)],[.d ah],fun a=>vg a.1 a.2.1,none⟩
theorem RA:aH 216 Rz :=cq (au kU aB) Tryz.func216 .z 0 (by kernel_rfl) rfl fun _=>by kernel_rfl
def YC (n:Nat):Sig xx:=⟨[.d (.sl ak),.d ah],[.fresh (.st SI.span)],fun a=>Fv n a.1 a.2.1,none⟩
def YD:Hn SI:=(.s .z (.s .z (.s (.s .z (.b (.l ⟨[(5,(.o 1320)),(14,(.v ah))],[(1320,.l (.st SI.span))],[1,12,13],[],1321,[(5,(.st SI.span))]⟩ 0 ⟨[(5,(.o 1320))],[(1320,.l (.st SI.span))],[],[],1321,[]⟩ (.s .z (.s .z (.s (.j ⟨[(5,(.o 1385))],[(1385,.l (.st SI.span))],[1,12,13,14],[],1386,[]⟩ (.b (.s .z (.s (.j ⟨[(27,(.v .bool))],[],[1,5,7,12,13,14],[1320,1513],1641,[]⟩ .z) .z)))) .z)))))) (.s .z (.s .z (.s (.s .z (.b (.l ⟨[(8,(.o 1705)),(41,(.v ah))],[(1705,.l (.st SI.span))],[39,40],[1320],1706,[(8,(.st SI.span))]⟩ 2 ⟨[(8,(.o 1705))],[(1705,.l (.st SI.span))],[],[],1706,[]⟩ (.s .z (.s .z (.s (.j ⟨[(8,(.o 1770))],[(1770,.l (.st SI.span))],[39,40,41],[1320],1771,[]⟩ (.b (.s .z (.s .z (.s (.j ⟨[(59,(.v .bool))],[],[8,10,11,39,40,41],[1320,1705,1898],2218,[]⟩ .z) .z))))) .z)))))) .z))))))
theorem YE (n:Nat):aH 176 (YC n) :=cq (au (H7 n) (au RA aB)) Tryz.func176 YD n (by kernel_rfl) rfl fun _=>by kernel_rfl
def YF (n:Nat):Sig xx:=⟨[.d (.sl (.sl ak))],[.fresh (.st SI.strip)],fun a=>Fw n a.1,none⟩
def YG:Hn SI:=(.s .z (.s .z (.s .z (.s (.s .z (.b (.l ⟨[(4,(.o 1512)),(13,(.v ah))],[(1512,.l ah)],[3,11,12],[1128],1513,[(4,ah)]⟩ 0 ⟨[(4,(.o 1512))],[(1512,.l ah)],[3],[1128],1513,[]⟩ .z))) (.s .z (.s .z (.s .z (.s (.s .z (.b (.l ⟨[(7,(.o 1961)),(8,(.v ah))],[(1961,.l (.st SI.strip))],[3,4],[1128,1512],1962,[(7,(.st SI.strip))]⟩ 2 ⟨[(7,(.o 1961))],[(1961,.l (.st SI.strip))],[],[],1962,[]⟩ .z))) .z))))))))
theorem YH (n:Nat):aH 127 (YF n) :=cq (au (LX n) (au (rZ n) (au (mD n) (au (YE n) aB)))) Tryz.func127 YG n (by kernel_rfl) rfl fun _=>by kernel_rfl
def NY (n:Nat):Sig xx:=⟨[.d (.sl (.st SI.span)),.d (.sl (.st SI.span))],[.d .bool],fun a=>rP n a.1 a.2.1,none⟩
def NZ:Hn SI:=(.s .z (.s .z (.s (.s .z (.b (.lx ⟨[(13,(.v ah))],[],[0,1,12],[],1576,[]⟩ 0 ⟨[],[],[],[],1576,[]⟩ .z))) .z)))
theorem N8 (n:Nat):aH 174 (NY n) :=cq aB Tryz.func174 NZ n (by kernel_rfl) rfl fun _=>by kernel_rfl
def aaz (n:Nat):Sig xx:=⟨[.d (.sl (.st SI.strip))],[.fresh ak],fun a=>Jy n a.1,none⟩
def aaA:Hn SI:=(.s .z (.s .z (.s (.s .z (.b (.l ⟨[(3,(.o 1192)),(4,(.v ah))],[(1192,.l ak)],[0],[],1193,[(3,ak)]⟩ 0 ⟨[(3,(.o 1192))],[(1192,.l ak)],[],[],1193,[]⟩ (.s .z (.b (.s .z (.s (.b (.l ⟨[(5,(.v ah))],[],[0,3,4],[1192],1641,[]⟩ 2 ⟨[(5,(.v ah))],[],[0,3,4],[1192],1641,[]⟩ (.s (.s (.j ⟨[(30,(.v .bool))],[],[0,3,4,5],[1192],1641,[]⟩ .z) .z) .z))) (.s (.s .z (.b (.l ⟨[(3,(.o 2089)),(39,(.v ah))],[(2089,.l ak)],[0,4,5,37,38],[],2090,[]⟩ 4 ⟨[(3,(.o 2089))],[(2089,.l ak)],[0,5],[],2090,[]⟩ .z))) .z)))))))) .z)))
theorem aaB (n:Nat):aH 126 (aaz n) :=cq (au (N8 n) aB) Tryz.func126 aaA n (by kernel_rfl) rfl fun _=>by kernel_rfl
def Wp:Sig xx:=⟨[.d (.sl ak)],[.d (.sl ak),.d ah],fun a=>GY a.1,none⟩
theorem Wq:aH 125 Wp :=cq aB Tryz.func125 .z 0 (by kernel_rfl) rfl fun _=>by kernel_rfl
def ae1 (n:Nat):Sig xx:=⟨[.d (.sl ak)],[.d (.sl ak),.d ah],fun a=>abd n a.1,none⟩
def ae2:Hn SI:=(.s .z (.s (.s .z (.b (.lx ⟨[(8,(.v ah))],[],[0,6,7],[],1320,[]⟩ 0 ⟨[],[],[0],[],1320,[]⟩ .z))) .z))
theorem ae3 (n:Nat):aH 70 (ae1 n) :=cq (au AL (au (YH n) (au (aaB n) (au Wq aB)))) Tryz.func70 ae2 n (by kernel_rfl) rfl fun _=>by kernel_rfl
def N9 (n:Nat):Sig xx:=⟨[.d (.sl ak),.d (.sl ak)],[.d .bool],fun a=>kL n a.1 a.2.1,none⟩
def Oa:Hn SI:=(.s .z (.s .z (.s (.s .z (.b (.lx ⟨[(13,(.v ah))],[],[0,1,12],[],1576,[]⟩ 0 ⟨[],[],[],[],1576,[]⟩ .z))) .z)))
theorem CR (n:Nat):aH 54 (N9 n) :=cq aB Tryz.func54 Oa n (by kernel_rfl) rfl fun _=>by kernel_rfl
def aaC (n:Nat):Sig xx:=⟨[.d (.sl ak)],[.d .bool],fun a=>lG n a.1,none⟩
theorem oG (n:Nat):aH 27 (aaC n) :=cq (au (ae3 n) (au (CR n) aB)) Tryz.func27 .z n (by kernel_rfl) rfl fun _=>by kernel_rfl
def L6 (n:Nat):Sig xx:=⟨[.d (.sl (.st SI.Point))],[.fresh (.st SI.side)],fun a=>lH n a.1,none⟩
def L8:Hn SI:=(.s .z (.s .z (.s (.s .z (.b (.l ⟨[(10,(.v ah))],[(1192,.l (.st SI.side))],[0,3,9],[],1512,[]⟩ 0 ⟨[],[(1192,.l (.st SI.side))],[3],[],1512,[]⟩ .z))) .z)))
theorem AY (n:Nat):aH 278 (L6 n) :=cq aB Tryz.func278 L8 n (by kernel_rfl) rfl fun _=>by kernel_rfl
def L9:Sig xx:=⟨[.d (.st SI.Point)],[.d .bool],fun a=>pV a.1,none⟩
theorem Ma:aH 304 L9 :=cq aB Tryz.func304 .z 0 (by kernel_rfl) rfl fun _=>by kernel_rfl
def Cn:Sig xx:=⟨[.d (.st SI.side)],[.d .bool],fun a=>dX a.1,none⟩
theorem qi:aH 279 Cn :=cq aB Tryz.func279 .z 0 (by kernel_rfl) rfl fun _=>by kernel_rfl
def Ws (n:Nat):Sig xx:=⟨[.d (.sl ah)],[.d ah],fun a=>oq n a.1,none⟩
def Wt:Hn SI:=(.s .z (.s .z (.s (.s .z (.b (.lx ⟨[(8,(.v ah))],[],[3,6,7],[],1320,[]⟩ 0 ⟨[],[],[3],[],1320,[]⟩ .z))) .z)))
theorem J4 (n:Nat):aH 245 (Ws n) :=cq aB Tryz.func245 Wt n (by kernel_rfl) rfl fun _=>by kernel_rfl
def J5 (n:Nat):Sig xx:=⟨[.d (.st SI.Point),.d (.st SI.Point)],[.d ah],fun a=>nR n a.1 a.2.1,none⟩
theorem J6 (n:Nat):aH 305 (J5 n) :=cq (au kU (au (J4 n) aB)) Tryz.func305 .z n (by kernel_rfl) rfl fun _=>by kernel_rfl
def Co:Sig xx:=⟨[.d (.st SI.side),.d (.st SI.side)],[.d .bool],fun a=>iW a.1 a.2.1,none⟩
theorem Cq:aH 306 Co :=cq aB Tryz.func306 .z 0 (by kernel_rfl) rfl fun _=>by kernel_rfl
def Ob (n:Nat):Sig xx:=⟨[.d (.sl (.st SI.Point))],[.d .bool],fun a=>rR n a.1,none⟩
def Oc:Hn SI:=(.s .z (.s (.s (.j ⟨[(16,(.v .bool))],[],[0],[],1064,[]⟩ .z) .z) (.s .z (.s (.s .z (.b (.lx ⟨[(21,(.v ah))],[],[0,3,19,20],[1128],1448,[]⟩ 0 ⟨[],[],[3],[1128],1448,[]⟩ (.s .z (.s .z (.s (.b (.s .z (.s .z (.s (.s (.j ⟨[(61,(.v .bool))],[],[0,3,4,19,20,21],[1128],2536,[]⟩ .z) .z) (.s (.j ⟨[(74,(.v .bool))],[],[0,3,19,20,21],[1128],2536,[]⟩ .z) .z))))) .z)))))) (.s (.s .z (.b (.lx ⟨[(78,(.v ah))],[],[3,77],[1128],1640,[]⟩ 2 ⟨[],[],[3],[1128],1640,[]⟩ (.s .z (.s .z (.s (.b (.s .z (.s .z (.b (.lx ⟨[(8,(.v ah))],[],[3,7,77,78],[1128],2024,[]⟩ 4 ⟨[],[],[3,77,78],[1128],2024,[]⟩ (.s .z (.s (.b (.s (.j ⟨[(106,(.v .bool))],[],[3,7,8,77,78],[1128],2280,[]⟩ .z) .z)) .z))))))) .z)))))) .z)))))
theorem Od (n:Nat):aH 277 (Ob n) :=cq (au (AY n) (au Ma (au qi (au (J6 n) (au Cq aB))))) Tryz.func277 Oc n (by kernel_rfl) rfl fun _=>by kernel_rfl
def Mc (n:Nat):Sig xx:=⟨[.d (.sl (.st SI.Point))],[.fresh ak,.d ah],fun a=>pW n a.1,none⟩
def Md:Hn SI:=(.s .z (.s .z (.s .z (.s (.s .z (.b (.l ⟨[(4,(.o 1576)),(19,(.v ah))],[(1576,.l ah)],[0,17,18],[],1577,[(4,ah)]⟩ 0 ⟨[(4,(.o 1576))],[(1576,.l ah)],[0],[],1577,[]⟩ .z))) (.s .z (.s .z (.s .z (.s .z (.s (.s .z (.b (.l ⟨[(8,(.o 2409)),(38,(.v ah))],[(2409,.l ak)],[4,7,37],[1576,1961],2410,[(8,ak)]⟩ 2 ⟨[(8,(.o 2409))],[(2409,.l ak)],[],[],2410,[]⟩ (.s .z (.s .z (.s (.b (.s .z (.s .z (.s (.s .z (.b (.l ⟨[(10,(.o 2858)),(43,(.v ah))],[(2858,.l ah)],[4,7,8,9,37,38,41,42],[1576,1961,2409],2859,[(10,ah)]⟩ 4 ⟨[(10,(.o 2858))],[(2858,.l ah)],[4,7,8,9,37,38],[1576,1961,2409],2859,[]⟩ (.s .z (.s .z (.s (.j ⟨[(10,(.o 2923))],[(2923,.l ah)],[4,7,8,9,37,38,41,42,43],[1576,1961,2409],2924,[]⟩ (.b (.s .z (.s (.j ⟨[(77,(.v .bool))],[],[4,7,8,9,10,12,37,38,41,42,43],[1576,1961,2409,2858,3051],3179,[]⟩ .z) .z)))) .z)))))) (.s .z (.s .z (.b (.l ⟨[(8,(.o 3051)),(13,(.v ah))],[(3051,.l ak)],[4,7,9,10,37,38],[1576,1961,2858],3052,[]⟩ 6 ⟨[(8,(.o 3051))],[(3051,.l ak)],[4,7,37,38],[1576,1961],3052,[]⟩ .z)))))))) .z)))))) .z)))))))))
theorem Me (n:Nat):aH 246 (Mc n) :=cq (au (Od n) (au (rZ n) (au (mD n) (au (AY n) (au qi aB))))) Tryz.func246 Md n (by kernel_rfl) rfl fun _=>by kernel_rfl
def RB (n:Nat):Sig xx:=⟨[.d (.st SI.Zone)],[.fresh ak],fun a=>vk n a.1,none⟩
theorem RD (n:Nat):aH 204 (RB n) :=cq (au (Me n) aB) Tryz.func204 .z n (by kernel_rfl) rfl fun _=>by kernel_rfl
def YI:Sig xx:=⟨[.d ak],[.d ak,.d .bool],fun a=>qQ a.1,none⟩
theorem EN:aH 119 YI :=cq (au AL aB) Tryz.func119 .z 0 (by kernel_rfl) rfl fun _=>by kernel_rfl
def SS:Sig xx:=⟨[.d ak,.d ak],[.d ak,.d .bool],fun a=>yB a.1 a.2.1,none⟩
def SV:Hn SI:=(.s .z (.s (.s (.j ⟨[(13,(.v .bool))],[],[2,3,4],[1000,1064,1128],1256,[]⟩ .z) .z) .z))
theorem SY:aH 196 SS :=cq (au AL (au EN aB)) Tryz.func196 SV 0 (by kernel_rfl) rfl fun _=>by kernel_rfl
def adZ:Sig xx:=⟨[.d ak],[.d ah],fun a=>VZ a.1,none⟩
theorem ad1:aH 72 adZ :=cq (au EN aB) Tryz.func72 .z 0 (by kernel_rfl) rfl fun _=>by kernel_rfl
def Oe (n:Nat):Sig xx:=⟨[.d (.sl ak),.d (.sl ak)],[.d ah,.d (.st SI.Point)],fun a=>rT n a.1 a.2.1,none⟩
def Og:Hn SI:=(.s .z (.s .z (.s (.s .z (.b (.l ⟨[(6,(.v ah)),(18,(.v ah))],[(1192,.c 2 [[(.v ah),(.v ah)]])],[1,5,7,16,17],[1064],1576,[]⟩ 0 ⟨[(6,(.v ah))],[(1192,.c 2 [[(.v ah),(.v ah)]])],[5,7],[1064],1576,[]⟩ (.s .z (.s .z (.s (.b (.s .z (.s .z (.b (.l ⟨[(6,(.v ah)),(24,(.v ah))],[(1192,.c 2 [[(.v ah),(.v ah)]])],[1,5,7,9,16,17,18,22,23],[1064,1768],2088,[]⟩ 2 ⟨[(6,(.v ah))],[(1192,.c 2 [[(.v ah),(.v ah)]])],[1,5,7,16,17,18],[1064],2088,[]⟩ (.s .z (.s .z (.s (.j ⟨[(6,(.v ah))],[(1192,.c 2 [[(.v ah),(.v ah)]])],[1,5,7,9,16,17,18,22,23,24],[1064,1768],2152,[]⟩ .z) .z)))))))) .z)))))) .z)))
theorem Oh (n:Nat):aH 203 (Oe n) :=cq (au SY (au ad1 (au kU (au (J4 n) aB)))) Tryz.func203 Og n (by kernel_rfl) rfl fun _=>by kernel_rfl
def Oi (n:Nat):Sig xx:=⟨[.d (.st SI.Plan),.d (.sl ak)],[.fresh ah],fun a=>rU n a.1 a.2.1,none⟩
def Oj:Hn SI:=(.s .z (.s .z (.s .z (.s (.s .z (.b (.l ⟨[(5,(.o 1640)),(16,(.v ah))],[(1640,.l ah)],[1,14,15],[],1641,[(5,ah)]⟩ 0 ⟨[(5,(.o 1640))],[(1640,.l ah)],[],[],1641,[]⟩ .z))) .z))))
theorem Ol (n:Nat):aH 159 (Oi n) :=cq (au (oG n) (au (RD n) (au (Oh n) aB))) Tryz.func159 Oj n (by kernel_rfl) rfl fun _=>by kernel_rfl
def YJ (n:Nat):Sig xx:=⟨[.d (.st SI.Plan),.d (.sl ak)],[.fresh .str],fun a=>Fx n a.1 a.2.1,none⟩
def YK:Hn SI:=(.s .z (.s .z (.s .z (.s (.s .z (.b (.l ⟨[(6,(.v ah)),(17,(.v ah))],[],[2,5,15,16],[1000,1256],1640,[]⟩ 0 ⟨[(6,(.v ah))],[],[2,5],[1000,1256],1640,[]⟩ (.s .z (.s .z (.s (.j ⟨[(6,(.v ah))],[],[2,5,15,16,17],[1000,1256],1704,[]⟩ (.b (.s .z (.s (.j ⟨[(44,(.v .bool))],[],[2,5,6,7,15,16,17],[1000,1256],2024,[]⟩ .z) .z)))) .z)))))) (.s .z (.s (.s .z (.b (.l ⟨[(9,(.o 1896)),(49,(.v ah))],[(1896,.l .str)],[2,6,47,48],[1000,1256],1897,[(9,.str)]⟩ 2 ⟨[(9,(.o 1896))],[(1896,.l .str)],[],[],1897,[]⟩ (.s .z (.s .z (.s (.j ⟨[(9,(.o 1961))],[(1961,.l .str)],[2,6,47,48,49],[1000,1256],1962,[]⟩ (.b (.s .z (.s (.j ⟨[(68,(.v .bool))],[],[2,6,9,10,47,48,49],[1000,1256,1896],2281,[]⟩ .z) .z)))) .z)))))) .z))))))
theorem YL (n:Nat):aH 109 (YJ n) :=cq (au (Ol n) aB) Tryz.func109 YK n (by kernel_rfl) rfl fun _=>by kernel_rfl
def J7 (n:Nat):Sig xx:=⟨[.d (.sl .str),.d .str],[.d ah],fun a=>uw n a.1 a.2.1,none⟩
def J8:Hn SI:=(.s .z (.s (.s .z (.b (.lx ⟨[(8,(.v ah))],[],[0,1,7],[],1256,[]⟩ 0 ⟨[],[],[],[],1256,[]⟩ .z))) .z))
theorem J9 (n:Nat):aH 134 (J7 n) :=cq aB Tryz.func134 J8 n (by kernel_rfl) rfl fun _=>by kernel_rfl
def EO (n:Nat):Sig xx:=⟨[.d (.sl .str),.d .str],[.d .bool],fun a=>j5 n a.1 a.2.1,none⟩
theorem EP (n:Nat):aH 83 (EO n) :=cq (au (J9 n) aB) Tryz.func83 .z n (by kernel_rfl) rfl fun _=>by kernel_rfl
def H8 (n:Nat):Sig xx:=⟨[.d .str,.ref (.sl .str)],[.d .bool],fun a=>gY n a.1 a.2.1,none⟩
theorem H9 (n:Nat):aH 179 (H8 n) :=cq (au (EP n) aB) Tryz.func179 .z n (by kernel_rfl) rfl fun _=>by kernel_rfl
def Di (n:Nat):Sig xx:=⟨[.d (.sl .str),.clo [.str] .bool],[.d ah],fun a=>mX n a.1 a.2.1,none⟩
def Dj:Hn SI:=(.s .z (.s (.s .z (.b (.lx ⟨[(8,(.v ah))],[],[0,1,7],[],1256,[]⟩ 0 ⟨[],[],[],[],1256,[]⟩ .z))) .z))
theorem Dk (n:Nat):aH 221 (Di n) :=cq aB Tryz.func221 Dj n (by kernel_rfl) rfl fun _=>by kernel_rfl
def zF (n:Nat):Sig xx:=⟨[.d (.sl .str),.clo [.str] .bool],[.d .bool],fun a=>dM n a.1 a.2.1,none⟩
theorem zG (n:Nat):aH 180 (zF n) :=cq (au (Dk n) aB) Tryz.func180 .z n (by kernel_rfl) rfl fun _=>by kernel_rfl
def Om (n:Nat):Sig xx:=⟨[.d (.st SI.Rule),.d (.sl .str)],[.d .bool],fun a=>nI n a.1 a.2.1,none⟩
theorem Oo (n:Nat):aH 135 (Om n) :=cq (au (zG n) (au (H9 n) aB)) Tryz.func135 .z n (by kernel_rfl) rfl fun _=>by kernel_rfl
def RF (n:Nat):Sig xx:=⟨[.d (.st SI.Plan),.d (.sl .str),.d ah],[.fresh ah],fun a=>vv n a.1 a.2.1 a.2.2.1,none⟩
def RG:Hn SI:=(.s .z (.s .z (.s (.s .z (.b (.l ⟨[(7,(.o 1448)),(13,(.v ah))],[(1448,.l ah)],[1,2,11,12],[],1449,[(7,ah)]⟩ 0 ⟨[(7,(.o 1448))],[(1448,.l ah)],[],[],1449,[]⟩ (.s .z (.s .z (.s (.j ⟨[(7,(.o 1513))],[(1513,.l ah)],[1,2,11,12,13],[],1514,[]⟩ (.b (.s .z (.s (.j ⟨[(37,(.v .bool))],[],[1,2,7,8,11,12,13],[1448],1897,[]⟩ .z) .z)))) .z)))))) .z)))
theorem RH (n:Nat):aH 84 (RF n) :=cq (au (Oo n) aB) Tryz.func84 RG n (by kernel_rfl) rfl fun _=>by kernel_rfl
def Mf (n:Nat):Sig xx:=⟨[.d (.st SI.Town),.d ah,.d ah],[.fresh (.st SI.Rule)],fun a=>lI n a.1 a.2.1 a.2.2.1,none⟩
def Mg:Hn SI:=(.s .z (.s .z (.s .z (.s .z (.s (.s .z (.b (.l ⟨[(9,(.o 2664)),(31,(.v ah))],[(2664,.l (.st SI.Rule))],[3,29,30],[1000,2472],2665,[(9,(.st SI.Rule))]⟩ 0 ⟨[(9,(.o 2664))],[(2664,.l (.st SI.Rule))],[],[],2665,[]⟩ .z))) .z)))))
theorem AZ (n:Nat):aH 48 (Mf n) :=cq (au (LU n) (au (YL n) (au (RH n) aB))) Tryz.func48 Mg n (by kernel_rfl) rfl fun _=>by kernel_rfl
def Ia:Sig xx:=⟨[.d (.st SI.Rule)],[.d ah,.d .bool],fun a=>mg a.1,none⟩
def Ib:Hn SI:=(.s .z (.s (.s (.j ⟨[(22,(.v .bool))],[],[1],[1000],1192,[]⟩ .z) .z) (.s .z (.s (.j ⟨[(6,(.v .bool))],[],[4],[1832],2088,[]⟩ .z) .z))))
theorem Ic:aH 49 Ia :=cq aB Tryz.func49 Ib 0 (by kernel_rfl) rfl fun _=>by kernel_rfl
def FR (n:Nat):Sig xx:=⟨[.d (.st SI.Town),.d ah,.d ah],[.d ah],fun a=>fU n a.1 a.2.1 a.2.2.1,none⟩
def FT:Hn SI:=(.s .z (.s .z (.s (.s .z (.b (.l ⟨[(7,(.v ah)),(17,(.v ah))],[],[15,16],[1384],1576,[]⟩ 0 ⟨[(7,(.v ah))],[],[],[],1576,[]⟩ (.s .z (.s .z (.s (.j ⟨[(7,(.v ah))],[],[15,16,17],[1384],1640,[]⟩ .z) .z)))))) .z)))
theorem nu (n:Nat):aH 14 (FR n) :=cq (au (AZ n) (au Ic aB)) Tryz.func14 FT n (by kernel_rfl) rfl fun _=>by kernel_rfl
def aaD (n:Nat):Sig xx:=⟨[.d (.sl ak),.d ah],[.d .bool],fun a=>QX n a.1 a.2.1,none⟩
theorem aaE (n:Nat):aH 57 (aaD n) :=cq (au (oG n) aB) Tryz.func57 .z n (by kernel_rfl) rfl fun _=>by kernel_rfl
noncomputable def RI:Sig xx:=⟨[.d (.sl ak),.d ah],[.fresh (.st SI.slab)],fun a=>Ef a.1 a.2.1,none⟩
noncomputable abbrev tn (n:Int):AV:= .t (.sc (.int .i64 n))
noncomputable abbrev dZ (l:List aK):List (List AV):=aD (l.map Ah)
noncomputable abbrev mQ (k:Nat) (s:aS):List AV:=[tn s.x0,tn s.x1,.own k 0 s.column.length]
noncomputable def dS:Nat->List aS->List (List AV)
 |_,[]=>[]
 |k,s::r=>mQ k s::dS (k+1) r
noncomputable def hsF (pre:List aS):Nat->Option aF:=fun k=>if 2000<=k then (pre[k - 2000]?).map fun s=>⟨2,dZ s.column⟩else none
noncomputable def bY (A:List aj) (d i:Int) (out:AV):List (Nat×AV):=[(1,tn d),(5,out),(10,.t (.sl (A.map iV))),(11,tn (A.length:Int)),(12,tn i)]
noncomputable def Wu (A:List aj) (d i:Int):GSt:=⟨bY A d i .nilsl,[],[]⟩
noncomputable def Oq (A:List aj) (d i:Int) (pre:List aS) (c:aS):GSt:=
 ⟨bY A d i (.own 1000 0 (pre.length+1)),[(1000,some ⟨3,dS 2000 pre++[mQ 1001 c]⟩),(1001,some ⟨2,dZ c.column⟩)],[]⟩
noncomputable def Ot (A:List aj) (d i:Int) (l:List aS):St:=
 match l.getLast? with
 |none=>(Wu A d i).st (fun _=>none)
 |some c=>(Oq A d i l.dropLast c).st (hsF l.dropLast)
noncomputable def cA:Code->Code
 | .seq a _=>a
 | .block _ c=>c
 | .loop c=>c
 | .cond _ a _=>a
 |c=>c
noncomputable def cB:Code->Code
 | .seq _ b=>b
 | .cond _ _ b=>b
 |c=>c
noncomputable def cO:Code->Array Oper
 | .region _ o _=>o
 |_=>#[]
noncomputable abbrev hsC:Code:=Tryz.f58.body.getD .skip
noncomputable abbrev hsB:Code:=cA (cA (cB (cA (cB (cB hsC)))))
noncomputable abbrev hsI:Code:=cA (cA (cB (cB hsB)))
noncomputable def an0:Ann:=⟨.none,[],[],false⟩
noncomputable def bx (r:aj):aF:=⟨4,[[tn r.x0,tn r.y0,tn r.x1,tn r.y1]]⟩
noncomputable def agj (r:aj):Nat->Ann
 | 0=>⟨.trow (iV r),[],[],false⟩
 | 3=>⟨.none,[nid 2],[nid 2],false⟩
 |_=>an0
theorem afh {A:List aj} {d i:Int} {out:AV} {O:List (Nat×Option aF)} {F:Nat->Option aF} {r:aj}:
 xw Tryz.prog (kD tab) (cO (cA hsI)) (agj r) F (List.range (cO (cA hsI)).size) ⟨bY A d i out,O,[]⟩=
  some (⟨(7,.ptr (nid 2) 0 0)::(15,.agg [tn r.x0,tn r.y0,tn r.x1,tn r.y1])::(14,.rptr (iV r) 0)::bY A d i out,(nid 2,some (bx r))::(nid 2,some ⟨4,[[tn 0,tn 0,tn 0,tn 0]]⟩)::O,[(7,none),(15,none),(14,none)]⟩,
   [0<=i∧(A.map iV)[i.toNat]? =some (iV r)]):=by kernel_rfl
noncomputable abbrev fO (A:List aj) (d i:Int) (out:AV):List (Nat×AV):=(7,.ptr 1002 0 0)::bY A d i out
noncomputable abbrev YM (A:List aj) (d i n:Int) (out:AV):List (Nat×AV):=(8,tn n)::fO A d i out
noncomputable abbrev hsO (r:aj) (K:List (List AV)) (c:List aK):List (Nat×Option aF):=[(1000,some ⟨3,K⟩),(1001,some ⟨2,dZ c⟩),(1002,some (bx r))]
noncomputable abbrev hsJ:Code:=cB hsI
theorem afJ {A:List aj} {d i:Int} {O:List (Nat×Option aF)} {F:Nat->Option aF}:
 xw Tryz.prog (kD tab) (cO (cA (cA hsJ))) (fun _=>an0) F (List.range (cO (cA (cA hsJ))).size) ⟨fO A d i .nilsl,O,[]⟩=
  some (⟨(8,tn 0)::(17,tn 0)::(16,.nilsl)::fO A d i .nilsl,O,[(8,none),(17,none),(16,none)]⟩,[]):=by kernel_rfl
theorem agk {A:List aj} {d i:Int} {m:Nat} {O:List (Nat×Option aF)} {F:Nat->Option aF}:
 xw Tryz.prog (kD tab) (cO (cA (cA hsJ))) (fun _=>an0) F (List.range (cO (cA (cA hsJ))).size) ⟨fO A d i (.own 1000 0 m),O,[]⟩=
  some (⟨(8,tn (m:Int))::(17,tn (m:Int))::(16,.own 1000 0 m)::fO A d i (.own 1000 0 m),O,[(8,none),(17,none),(16,none)]⟩,[]):=by kernel_rfl
noncomputable def afi (c:aS):Nat->Ann
 | 6=>⟨.none,[1000],[],false⟩
 | 8=>⟨.row (mQ 1001 c),[1000],[],false⟩
 | 10=>⟨.none,[1002],[],false⟩
 |_=>an0
noncomputable abbrev S9:Code:=cA (cB (cA hsJ))
noncomputable abbrev bo (b:Bool):AV:= .t (.sc (.bool b))
theorem afK {A:List aj} {d i:Int} {O:List (Nat×Option aF)} {F:Nat->Option aF}:
 xw Tryz.prog (kD tab) (cO S9) (fun _=>an0) F (List.range (cO S9).size) ⟨YM A d i 0 .nilsl,O,[]⟩=
  some (⟨(30,bo true)::(29,.undef)::(28,.undef)::(27,.undef)::(26,.undef)::(25,.undef)::(24,.undef)::(23,.undef)::(22,.undef)::(21,.undef)::(20,bo true)::(19,bo true)::(18,tn 0)::YM A d i 0 .nilsl,O,
   [(30,none),(29,some false),(28,some false),(27,some false),(26,some false),(25,some false),(24,some false),(23,some false),(22,some false),(21,some false),(20,none),(19,none),(18,none)]⟩,[true=false->false=true]):=by kernel_rfl
noncomputable abbrev hsW (m:Nat):Int:=i64.wrap ((m:Int) - 1)
theorem agl {A:List aj} {d i:Int} {m:Nat} {r:aj} {c:aS} {K:List (List AV)} {F:Nat->Option aF}:
 xw Tryz.prog (kD tab) (cO S9) (afi c) F (List.range (cO S9).size) ⟨YM A d i ((m+1:Nat):Int) (.own 1000 0 (m+1)),hsO r K c.column,[]⟩=
  some (⟨(30,bo (c.x0 != r.x0))::(29,bo (c.x0 != r.x0))::(28,tn r.x0)::(27,.ptr 1002 0 0)::(26,tn c.x0)::(25,.ptr 1000 (0+(hsW (m+1)).toNat) 0)::(24,.ptr 1000 (0+(hsW (m+1)).toNat) 0)::(23,tn (hsW (m+1)))::(22,tn ((m+1:Nat):Int))::(21,.own 1000 0 (m+1))::(20,bo false)::(19,bo false)::(18,tn ((m+1:Nat):Int))::YM A d i ((m+1:Nat):Int) (.own 1000 0 (m+1)),hsO r K c.column,
   [(30,none),(29,none),(28,none),(27,none),(26,none),(25,none),(24,none),(23,none),(22,none),(21,none),(20,none),(19,none),(18,none)]⟩,[0<=hsW (m+1)∧(hsW (m+1)).toNat < m+1,K[0+(hsW (m+1)).toNat]? =some (mQ 1001 c)]):=by kernel_rfl
theorem agm {c:aS}:ML (cO S9) (afi c)=true:=by kernel_rfl
theorem afL:ML (cO S9) (fun _=>an0)=true:=by kernel_rfl
noncomputable abbrev Ta:Code:=cA (cB (cB (cA hsJ)))
noncomputable def afj (rs:List (List AV)):Nat->Ann
 | 2=>⟨.none,[1002],[],false⟩
 | 4=>⟨.none,[1002],[],false⟩
 | 6=>⟨.row [],[],[],false⟩
 | 7=>⟨.rows rs,[1000,nid 6],[1000],false⟩
 |_=>an0
noncomputable abbrev nP (r:aj):List AV:=[tn r.x0,tn r.x1,.nilsl]
theorem afM {A:List aj} {d i:Int} {r:aj} {F:Nat->Option aF}:
 xw Tryz.prog (kD tab) (cO Ta) (afj [nP r]) F (List.range (cO Ta).size) ⟨fO A d i .nilsl,[(1002,some (bx r))],[]⟩=
  some (⟨(5,.own (nid 7) 0 1)::(38,.own (nid 7) 0 1)::(37,.own (nid 6) 0 1)::(36,.agg (nP r))::(35,tn r.x1)::(34,.ptr 1002 0 2)::(33,tn r.x0)::(32,.ptr 1002 0 0)::(31,.nilsl)::fO A d i .nilsl,
   (nid 7,some ⟨3,[nP r]⟩)::(nid 6,some ⟨3,[nP r]⟩)::[(1002,some (bx r))],
   [(5,none),(38,none),(37,none),(36,none),(35,none),(34,none),(33,none),(32,none),(31,none)]⟩,[True∧1=1∧[nP r]=[nP r]∧1*40<=140737488355328∧1<=maxLen]):=by kernel_rfl
theorem agn {A:List aj} {d i:Int} {m:Nat} {r:aj} {c:List aK} {K:List (List AV)} {F:Nat->Option aF}:
 xw Tryz.prog (kD tab) (cO Ta) (afj (K++[nP r])) F (List.range (cO Ta).size) ⟨fO A d i (.own 1000 0 m),hsO r K c,[]⟩=
  some (⟨(5,.own (nid 7) 0 (K++[nP r]).length)::(38,.own (nid 7) 0 (K++[nP r]).length)::(37,.own (nid 6) 0 1)::(36,.agg (nP r))::(35,tn r.x1)::(34,.ptr 1002 0 2)::(33,tn r.x0)::(32,.ptr 1002 0 0)::(31,.own 1000 0 m)::fO A d i (.own 1000 0 m),
   (nid 7,some ⟨3,K++[nP r]⟩)::(1000,none)::(nid 6,some ⟨3,[nP r]⟩)::hsO r K c,
   [(5,none),(38,none),(37,none),(36,none),(35,none),(34,none),(33,none),(32,none),(31,none)]⟩,[True∧K.length=m∧1=1∧K++[nP r]=K++[nP r]∧(m+1)*40<=140737488355328∧m+1<=maxLen]):=by kernel_rfl
noncomputable abbrev afN:Code:=cA (cB hsJ)
noncomputable def agp:Nat->Ann
 | 1=>⟨.none,[1002],[],false⟩
 | 5=>⟨.none,[1002],[],false⟩
 |_=>an0
noncomputable abbrev zH (d:Int) (r:aj):Int:=i64.wrap (r.y0+d)
noncomputable abbrev zI (d:Int) (r:aj):Int:=i64.wrap (r.y1 - d)
theorem agq {A:List aj} {d i:Int} {m:Nat} {r:aj} {c:List aK} {K:List (List AV)} {F:Nat->Option aF}:
 xw Tryz.prog (kD tab) (cO afN) agp F (List.range (cO afN).size) ⟨fO A d i (.own 1000 0 m),hsO r K c,[]⟩=
  some (⟨(47,bo (decide (zH d r < zI d r)))::(46,tn (zI d r))::(45,tn d)::(44,tn r.y1)::(43,.ptr 1002 0 3)::(42,tn (zH d r))::(41,tn d)::(40,tn r.y0)::(39,.ptr 1002 0 1)::fO A d i (.own 1000 0 m),hsO r K c,
   [(47,none),(46,none),(45,none),(44,none),(43,none),(42,none),(41,none),(40,none),(39,none)]⟩,[]):=by kernel_rfl
noncomputable abbrev hsH:Code:=cA (cB (cB hsJ))
noncomputable abbrev afO:Code:=cA hsH
noncomputable abbrev abh:Code:=cB hsH
noncomputable def agr:Nat->Ann
 | 4=>⟨.none,[1000],[],false⟩
 |_=>an0
noncomputable abbrev hsP (m:Nat):AV:= .ptr 1000 (0+(hsW m).toNat) 0
theorem ags {A:List aj} {d i:Int} {m:Nat} {r:aj} {c:List aK} {K:List (List AV)} {F:Nat->Option aF}:
 xw Tryz.prog (kD tab) (cO afO) agr F (List.range (cO afO).size) ⟨fO A d i (.own 1000 0 m),hsO r K c,[]⟩=
  some (⟨(9,hsP m)::(52,hsP m)::(51,tn (hsW m))::(50,tn (m:Int))::(49,.own 1000 0 m)::(48,.own 1000 0 m)::fO A d i (.own 1000 0 m),hsO r K c,
   [(9,none),(52,none),(51,none),(50,none),(49,none),(48,none)]⟩,[0<=hsW m∧(hsW m).toNat < m]):=by kernel_rfl
noncomputable def ad2 (c:aS) (rs K3:List (List AV)):Nat->Ann
 | 2=>⟨.ext 0,[],[],false⟩
 | 16=>⟨.ext 0,[],[],false⟩
 | 4=>⟨.row (mQ 1001 c),[1000],[],false⟩
 | 6=>⟨.none,[1002],[],false⟩
 | 10=>⟨.none,[1002],[],false⟩
 | 15=>⟨.rows rs,[1001,nid 14],[1001],false⟩
 | 18=>⟨.set (mQ 1001 c) K3,[1000],[1000],false⟩
 |_=>an0
theorem afP {c:aS} {rs K3:List (List AV)}:ML (cO abh) (ad2 c rs K3)=true:=by kernel_rfl
noncomputable abbrev RJ (d:Int) (r:aj):List AV:=[tn (zH d r),tn (zI d r)]
theorem afQ {A:List aj} {d i:Int} {m:Nat} {r:aj} {c:aS} {K K3:List (List AV)} {F:Nat->Option aF}:
 xw Tryz.prog (kD tab) (cO abh) (ad2 c (dZ c.column++[RJ d r]) K3) F (List.range (cO abh).size) ⟨(9,hsP m)::fO A d i (.own 1000 0 m),hsO r K c.column,[]⟩=
  some (⟨(70,.ptr 1000 (0+(hsW m).toNat) 2)::(69,hsP m)::(68,.own (nid 15) 0 (dZ c.column++[RJ d r]).length)::(67,.own (nid 14) 0 1)::(66,.agg (RJ d r))::(65,tn (zI d r))::(64,tn d)::(63,tn r.y1)::(62,.ptr 1002 0 3)::(61,tn (zH d r))::(60,tn d)::(59,tn r.y0)::(58,.ptr 1002 0 1)::(57,.own 1001 0 c.column.length)::(56,.ptr 1000 (0+(hsW m).toNat) 2)::(55,hsP m)::(54,hsP m)::(53,hsP m)::(9,hsP m)::fO A d i (.own 1000 0 m),
   (1000,some ⟨3,K3⟩)::(nid 15,some ⟨2,dZ c.column++[RJ d r]⟩)::(1001,none)::(nid 14,some ⟨2,[RJ d r]⟩)::hsO r K c.column,
   [(70,none),(69,none),(68,none),(67,none),(66,none),(65,none),(64,none),(63,none),(62,none),(61,none),(60,none),(59,none),(58,none),(57,none),(56,none),(55,none),(54,none),(53,none)]⟩,
   [K[0+(hsW m).toNat]? =some (mQ 1001 c),True∧(dZ c.column).length=c.column.length∧1=1∧dZ c.column++[RJ d r]=dZ c.column++[RJ d r]∧(c.column.length+1)*16<=140737488355328∧c.column.length+1<=maxLen,
    K[0+(hsW m).toNat]? =some (mQ 1001 c)∧K3=bP (K.set (0+(hsW m).toNat) (put' (mQ 1001 c) 2 [.own (nid 15) 0 (dZ c.column++[RJ d r]).length]))]):=by kernel_rfl
theorem eH {L' L2:GSt} {F:Nat->Option aF} (hE:∀ p∈L2.env,(lk L'.ok p.1).join=none∧(lk L'.env p.1).getD .undef=p.2)
 (hO:∀ j o',(L2.st F).obj j=some o'->(L'.st F).obj j=some o') (hok:L2.ok=[]) (old:Old (L2.st F)):Gb.Told (L'.st F) (L2.st F):=by
 refine Fq (fun k=>k) (fun k=>k) (fun _=>True) (fun _ _=>rfl) (fun _ _=>rfl) (fun p hp=>?_) (fun j o' hj=>?_) hok old
 ·obtain⟨h1,h2⟩:=hE p hp;exact⟨h1,fun _ _=>trivial,by rw[h2];exact VF _ fun _ _=>rfl⟩
 ·refine⟨j,o',hO j o' hj,trivial,rfl,?_,fun _ _ _ _=>trivial⟩;obtain⟨sz,rows⟩:=o';simp only[su];congr 1
  conv=>lhs;rw[<- List.map_id rows]
  exact map_congr_left fun r _=>(jB r fun _ _=>rfl).symm
theorem gV:∀ (l:List aS) (k:Nat),∀ r∈dS k l,∀ j∈aW r,k<=j∧j < k+l.length
 |[],_,r,hr,_,_=>by cases hr
 |s::l,k,r,hr,j,hj=>by
  simp only[dS,mem_cons]at hr;rcases hr with rfl |hr
  ·simp[aW,refs]at hj;subst hj;simp
  ·have:=gV l (k+1) r hr j hj;simp only[length_cons];omega
theorem lS:∀ (l:List aS) (k:Nat),(dS k l).length=l.length
 |[],_=>rfl
 |_::l,k=>by simp only[dS,length_cons,lS l (k+1)]
theorem RL:∀ (l:List aS) (k:Nat) (c:aS),dS k (l++[c])=dS k l++[mQ (k+l.length) c]
 |[],k,c=>rfl
 |s::l,k,c=>by
  simp only[List.cons_append,dS,RL l (k+1) c,length_cons];rw[show k+1+l.length=k+(l.length+1)by omega]
theorem UN:∀ (l:List aS) (k:Nat),bP (dS k l)=dS k l
 |[],_=>rfl
 |s::l,k=>by
  have:=UN l (k+1);simp only[bP,dS,List.map_cons]at this ⊢;rw[this];rfl
theorem mH (l:List aK):∀ r∈dZ l,∀ j,j∉aW r:=by
 intro r hr j hj;simp only[aD,List.mem_map]at hr;obtain⟨q,⟨s,_,rfl⟩,rfl⟩:=hr;simp[Ah,aW,refs]at hj
theorem A7 {pre:List aS} {k:Nat} {o:aF} (h:hsF pre k=some o):2000<=k∧k < 2000+pre.length∧∃ s,pre[k - 2000]? =some s∧o=⟨2,dZ s.column⟩:=by
 unfold hsF at h;by_cases hk:2000<=k
 ·rw[if_pos hk,Option.map_eq_some_iff]at h;obtain⟨s,h1,h2⟩:=h;have h3:=(List.getElem?_eq_some_iff.1 h1).1;exact⟨hk,by omega,s,h1,h2.symm⟩
 ·rw[if_neg hk]at h;cases h
theorem acw {r:List AV} {x:AV} (hx:x∈r):∀ j∈refs x,j∈aW r:=fun j hj=>by
 induction r with
 |nil=>cases hx
 |cons y ys ih=>
  simp only[aW,mem_append];rcases mem_cons.1 hx with rfl |hx
  ·exact .inl hj
  ·exact .inr (ih hx)
theorem zJ {E:List (Nat×AV)} {O:List (Nat×Option aF)} {ok:List (Nat×Option Bool)} {F:Nat->Option aF} (hE:∀ p∈E,∀ k∈refs p.2,k < 1000000)
 (hO:∀ p∈O,∀ o,p.2=some o->p.1 < 1000000∧∀ r∈o.rows,∀ j∈aW r,j < 1000000) (hF:∀ k o,F k=some o->k < 1000000∧∀ r∈o.rows,∀ j∈aW r,j < 1000000):Old ((⟨E,O,ok⟩:GSt).st F):=by
 refine⟨fun t k hk=>?_,fun k o hk=>?_⟩
 ·simp only[GSt.st]at hk;cases h:lk E t with
  |none=>rw[h]at hk;simp[refs]at hk
  |some x=>rw[h]at hk;exact hE _ (jV h) k hk
 ·have:k < 1000000∧∀ r∈o.rows,∀ j∈aW r,j < 1000000:=by
   simp only[GSt.st]at hk;cases h:lk O k with
   |none=>rw[h]at hk;exact hF k o hk
   |some x=>rw[h]at hk;exact hO _ (jV h) o hk
  exact⟨this.1,fun r hr x hx j hj=>this.2 r hr j (acw hx j hj)⟩
theorem Wv {pre:List aS} (hp:pre.length<=500000):∀ k o,hsF pre k=some o->k < 1000000∧∀ r∈o.rows,∀ j∈aW r,j < 1000000:=by
 intro k o h;obtain⟨h1,h2,s,_,rfl⟩:=A7 h;exact⟨by omega,fun r hr j hj=>(mH _ r hr j hj).elim⟩
theorem kz {A:List aj} {d i:Int} {out:AV} {E:List (Nat×AV)} (hE:∀ p∈E,∀ k∈refs p.2,k < 1000000) (ho:∀ k∈refs out,k < 1000000):∀ p∈E++bY A d i out,∀ k∈refs p.2,k < 1000000:=by
 intro p hp k hk;rcases mem_append.1 hp with hp |hp
 ·exact hE p hp k hk
 ·simp only[bY,mem_cons,List.not_mem_nil,or_false]at hp;rcases hp with rfl |rfl |rfl |rfl |rfl
  ·simp[refs]at hk
  ·exact ho k hk
  ·simp[refs]at hk
  ·simp[refs]at hk
  ·simp[refs]at hk
noncomputable abbrev hsM (E:List (Nat×AV)) (r:aj) (pre:List aS) (c:aS):St:=(⟨E,hsO r (dS 2000 pre++[mQ 1001 c]) c.column,[]⟩:GSt).st (hsF pre)
noncomputable abbrev ji (pre:List aS):AV:= .own 1000 0 (pre.length+1)
theorem Ka {A:List aj} {d i:Int} {E:List (Nat×AV)} {r:aj} {pre:List aS} {c:aS} (hE:∀ p∈E,∀ k∈refs p.2,k < 1000000) (hp:pre.length<=500000):Old (hsM (E++bY A d i (ji pre)) r pre c):=by
 refine zJ (kz hE (by simp[refs])) (fun p hp' o ho=>?_) (Wv hp);simp only[hsO,mem_cons,List.not_mem_nil,or_false]at hp';rcases hp' with rfl |rfl |rfl
 ·injection ho with ho;subst ho;refine⟨by simp,fun q hq j hj=>?_⟩;rcases mem_append.1 hq with hq |hq
  ·have:=gV _ _ q hq j hj;omega
  ·rw[mem_singleton]at hq;subst hq;simp[aW,refs]at hj;omega
 ·injection ho with ho;subst ho;exact⟨by simp,fun q hq j hj=>(mH _ q hq j hj).elim⟩
 ·injection ho with ho;subst ho;refine⟨by simp,fun q hq j hj=>?_⟩;simp only[bx,mem_singleton]at hq;subst hq;simp[aW,refs]at hj
theorem Ww {m:Nat} (h:m<=500000):hsW (m+1)=(m:Int):=by
 have e:((m+1:Nat):Int) - 1=(m:Int):=by omega
 unfold hsW;rw[e];exact lD (by omega)
theorem Mh {A:List aj} {d i:Int} {r:aj} {pre:List aS} {c:aS} (hp:pre.length<=500000):Old (hsM (fO A d i (ji pre)) r pre c):=
 Ka (E:=[(7,.ptr 1002 0 0)]) (fun p hp' k hk=>by
  simp only[mem_singleton]at hp';subst hp';simp[refs]at hk;omega) hp
theorem Wx {pre:List aS} {c:aS} (h:pre.length<=500000):(dS 2000 pre++[mQ 1001 c])[0+(hsW (pre.length+1)).toNat]? =some (mQ 1001 c):=by
 rw[Ww h,Nat.zero_add,Int.toNat_natCast,List.getElem?_append_right (by rw[lS];omega),lS,Nat.sub_self];rfl
noncomputable abbrev Kb (A:List aj) (d i:Int) (pre:List aS) (c:aS):St:=(Oq A d i pre c).st (hsF pre)
theorem oW {A:List aj} {d i:Int} {pre:List aS} {c:aS} (hp:pre.length<=500000):Old (Kb A d i pre c):=by
 refine zJ (kz (E:=[]) (fun p hp'=>by cases hp') (by simp[refs])) (fun p hp' o ho=>?_) (Wv hp);simp only[mem_cons,List.not_mem_nil,or_false]at hp';rcases hp' with rfl |rfl
 ·injection ho with ho;subst ho;refine⟨by simp,fun q hq j hj=>?_⟩;rcases mem_append.1 hq with hq |hq
  ·have:=gV _ _ q hq j hj;omega
  ·rw[mem_singleton]at hq;subst hq;simp[aW,refs]at hj;omega
 ·injection ho with ho;subst ho;exact⟨by simp,fun q hq j hj=>(mH _ q hq j hj).elim⟩
theorem RN {Q:Exit->St->Prop} {A:List aj} {d i:Int} {r:aj} {pre:List aS} {c:aS} (hp:pre.length<=500000) (hc:c.column.length<=500000)
 (hq:Q .normal (Kb A d i pre (if zH d r < zI d r then⟨c.x0,c.x1,c.column++[⟨zH d r,zI d r⟩]⟩else c))):
 Ev Tryz.prog Tryz.f58.ntmps (cB hsJ) Q (hsM (fO A d i (ji pre)) r pre c):=by
 show Ev _ _ (Code.seq (cA (cB hsJ)) (cB (cB hsJ))) Q _;refine gH ?_;refine dH (ops:=cO afN) (σ2:=hsM ((47,bo (decide (zH d r < zI d r)))::fO A d i (ji pre)) r pre c) lF (by kernel_rfl) agq trivial ?_ ?_
 ·refine eH (fun p hp'=>?_) (fun _ _ h=>h) rfl ?_
  ·simp only[fO,bY,mem_cons,List.not_mem_nil,or_false]at hp';rcases hp' with rfl |rfl |rfl |rfl |rfl |rfl |rfl<;>exact⟨rfl,rfl⟩
  ·exact Ka (E:=[(47,bo _),(7,.ptr 1002 0 0)]) (fun p hp' k hk=>by
    simp only[mem_cons,List.not_mem_nil,or_false]at hp';rcases hp' with rfl |rfl
    ·simp[refs]at hk
    ·simp[refs]at hk;omega) hp
 show Ev _ _ (Code.cond (.tmp 47) (cA (cB (cB hsJ))) (cB (cB (cB hsJ)))) Q _;refine Bo (decide (zH d r < zI d r)) (fun _ _=>rfl) rfl ?_;by_cases hlt:zH d r < zI d r
 ·rw[if_pos hlt]at hq;rw[show decide (zH d r < zI d r)=true from decide_eq_true hlt];refine BI (σ2:=hsM (fO A d i (ji pre)) r pre c) ?_ ?_
  ·refine eH (fun p hp'=>?_) (fun _ _ h=>h) rfl (Mh hp);simp only[fO,bY,mem_cons,List.not_mem_nil,or_false]at hp';rcases hp' with rfl |rfl |rfl |rfl |rfl |rfl<;>exact⟨rfl,rfl⟩
  show Ev _ _ (Code.seq (cA hsH) (cB hsH)) Q _;refine gH ?_;refine dH (ops:=cO afO) (σ2:=hsM ((9,hsP (pre.length+1))::fO A d i (ji pre)) r pre c) lF (by kernel_rfl) ags (by rw[Ww hp];exact⟨by omega,by omega⟩) ?_ ?_
  ·refine eH (fun p hp'=>?_) (fun _ _ h=>h) rfl ?_
   ·simp only[fO,bY,mem_cons,List.not_mem_nil,or_false]at hp';rcases hp' with rfl |rfl |rfl |rfl |rfl |rfl |rfl<;>exact⟨rfl,rfl⟩
   ·exact Ka (E:=[(9,hsP (pre.length+1)),(7,.ptr 1002 0 0)]) (fun p hp' k hk=>by
     simp only[mem_cons,List.not_mem_nil,or_false]at hp';rcases hp' with rfl |rfl
     ·simp[refs]at hk;omega
     ·simp[refs]at hk;omega) hp
  have hl:(dZ c.column).length=c.column.length:=by simp[aD]
  have hK3:bP ((dS 2000 pre++[mQ 1001 c]).set (0+(hsW (pre.length+1)).toNat) (put' (mQ 1001 c) 2 [.own (nid 15) 0 (dZ c.column++[RJ d r]).length]))=dS 2000 pre++[[tn c.x0,tn c.x1,.own (nid 15) 0 (c.column.length+1)]]:=by
   rw[Ww hp,Nat.zero_add,Int.toNat_natCast,List.set_append_right _ _ (by rw[lS];omega),lS,Nat.sub_self];have:=UN pre 2000;simp only[bP]at this ⊢;rw[map_append,this,List.length_append,hl];rfl
  refine GN (ops:=cO abh) (L':=_) (obs:=_) lF mixed (by kernel_rfl) afP afQ ⟨Wx hp,⟨trivial,hl,rfl,rfl,by omega,?_⟩,Wx hp,hK3.symm⟩ ?_ hq
  ·have:(500000:Nat) < maxLen:=(by decide);omega
  refine Fq (fun k=>if k=nid 15 then 1001 else k) (fun k=>if k=1001 then nid 15 else k) (fun k=>k≠1001) (fun k hk=>?_) (fun j hj=>by rw[if_neg (by omega)]) (fun p hp'=>?_) (fun j o' hj=>?_) rfl (oW hp)
  ·by_cases e:k=nid 15
   ·rw[if_pos e,if_pos rfl,e]
   ·rw[if_neg e,if_neg hk]
  ·simp only[Oq,bY,mem_cons,List.not_mem_nil,or_false]at hp';rcases hp' with rfl |rfl |rfl |rfl |rfl
   ·exact⟨rfl,fun k hk=>absurd (show k∈([]:List Nat)from hk) (List.not_mem_nil),rfl⟩
   ·exact⟨rfl,fun k hk=>by have:=mem_singleton.1 (show k∈[1000]from hk);omega,rfl⟩
   ·exact⟨rfl,fun k hk=>absurd (show k∈([]:List Nat)from hk) (List.not_mem_nil),rfl⟩
   ·exact⟨rfl,fun k hk=>absurd (show k∈([]:List Nat)from hk) (List.not_mem_nil),rfl⟩
   ·exact⟨rfl,fun k hk=>absurd (show k∈([]:List Nat)from hk) (List.not_mem_nil),rfl⟩
  ·simp only[Oq,GSt.st,lk]at hj;by_cases e0:1000=j
   ·rw[if_pos e0]at hj;injection hj with hj;subst e0 hj;refine⟨1000,_,rfl,by omega,rfl,?_,fun q hq k hk=>?_⟩
    ·simp only[su];have hf:(dS 2000 pre).map (pz fun k=>if k=nid 15 then 1001 else k)=dS 2000 pre:=by
      have:∀ q∈dS 2000 pre,pz (fun k=>if k=nid 15 then 1001 else k) q=q:=fun q hq=>jB q fun k hk=>if_neg (by have:=gV _ _ q hq k hk;simp only[nid];omega)
      conv=>rhs;rw[<- List.map_id (dS 2000 pre)]
      exact map_congr_left this
     rw[map_append,hf];simp only[mQ,List.length_append,length_cons,List.length_nil,Nat.zero_add];rfl
    ·rcases mem_append.1 hq with hq |hq
     ·have:=gV _ _ q hq k hk;omega
     ·rw[mem_singleton]at hq;subst hq;simp[aW,refs,nid]at hk;omega
   ·rw[if_neg e0]at hj;by_cases e1:1001=j
    ·rw[if_pos e1]at hj;injection hj with hj;subst e1 hj;have hsp:dZ (c.column++[⟨zH d r,zI d r⟩])=dZ c.column++[RJ d r]:=(by simp only[aD,map_append];rfl);refine⟨nid 15,⟨2,dZ c.column++[RJ d r]⟩,rfl,by simp[nid],rfl,?_,fun q hq k hk=>?_⟩
     ·simp only[su];rw[<- hsp];congr 1
      conv=>lhs;rw[<- List.map_id (dZ _)]
      exact map_congr_left fun q hq=>(jB q fun k hk=>(mH _ q hq k hk).elim).symm
     ·rw[<- hsp]at hq;exact (mH _ q hq k hk).elim
    ·rw[if_neg e1]at hj;obtain⟨h1,h2,s,h3,rfl⟩:=A7 hj;have hn:j≠nid 15:=(by simp only[nid];omega);have hn':j≠nid 14:=(by simp only[nid];omega);refine⟨j,⟨2,dZ s.column⟩,?_,fun e=>e1 e.symm,if_neg hn,?_,fun q hq k hk=>(mH _ q hq k hk).elim⟩
     ·simp only[GSt.st,lk];rw[if_neg e0,if_neg (Ne.symm hn),if_neg e1,if_neg (Ne.symm hn')];rw[if_neg e0,if_neg e1,if_neg (by omega)];exact hj
     ·simp only[su];congr 1
      conv=>lhs;rw[<- List.map_id (dZ _)]
      exact map_congr_left fun q hq=>(jB q fun k hk=>(mH _ q hq k hk).elim).symm
 ·rw[if_neg hlt]at hq;rw[show decide (zH d r < zI d r)=false from decide_eq_false hlt];refine BI (σ2:=Kb A d i pre c) ?_ (IB hq);refine eH (fun p hp'=>?_) (fun j o' hj=>?_) rfl (oW hp)
  ·simp only[Oq,bY,mem_cons,List.not_mem_nil,or_false]at hp';rcases hp' with rfl |rfl |rfl |rfl |rfl<;>exact⟨rfl,rfl⟩
  ·simp only[hsM,Oq,Kb,GSt.st,lk]at hj ⊢;by_cases e:1002=j
   ·subst e;simp[hsF]at hj
   ·rw[if_neg e];exact hj
theorem ad3 {Q:Exit->St->Prop} {cd:Code} {A:List aj} {d i:Int} {r:aj} {pre:List aS} (hp:pre.length<=500000)
 (hq:Ev Tryz.prog Tryz.f58.ntmps cd Q (hsM (fO A d i (ji pre)) r pre ⟨r.x0,r.x1,[]⟩)):
 Ev Tryz.prog Tryz.f58.ntmps cd Q ((⟨fO A d i (ji pre),[(1000,some ⟨3,dS 2000 pre++[nP r]⟩),(1002,some (bx r))],[]⟩:GSt).st (hsF pre)):=by
 refine abS (σ2:=hsM (fO A d i (ji pre)) r pre ⟨r.x0,r.x1,[]⟩) (K:=1000) (k0:=1001) (sz:=3) (sz0:=2) (R:=dS 2000 pre) (q:=[tn r.x0,tn r.x1]) (by omega) (by omega) (by omega) rfl (fun t=>?_) (fun k o hk=>?_) rfl rfl (fun k=>?_) (fun _=>rfl) hq
 ·intro hk;simp only[GSt.st]at hk;cases h:lk (fO A d i (ji pre)) t with
  |none=>rw[h]at hk;simp[refs]at hk
  |some x=>
   rw[h]at hk;have:=jV h;simp only[fO,bY,mem_cons,List.not_mem_nil,or_false,Prod.mk.injEq]at this;rcases this with ⟨_,rfl⟩ |⟨_,rfl⟩ |⟨_,rfl⟩ |⟨_,rfl⟩ |⟨_,rfl⟩ |⟨_,rfl⟩<;>simp[refs]at hk
 ·simp only[GSt.st,lk]at hk;by_cases e0:1000=k
  ·rw[if_pos e0]at hk;injection hk with hk;subst e0 hk;refine⟨by omega,fun q hq hk=>?_⟩;rcases mem_append.1 hq with hq |hq
   ·have:=gV _ _ q hq _ hk;omega
   ·rw[mem_singleton]at hq;subst hq;simp[aW,refs]at hk
  ·rw[if_neg e0]at hk;by_cases e2:1002=k
   ·rw[if_pos e2]at hk;injection hk with hk;subst e2 hk;refine⟨by omega,fun q hq hk=>?_⟩;simp only[bx,mem_singleton]at hq;subst hq;simp[aW,refs]at hk
   ·rw[if_neg e2]at hk;obtain⟨h1,_,s,_,rfl⟩:=A7 hk;exact⟨by omega,fun q hq hk=>mH _ q hq _ hk⟩
 ·simp only[hsM,GSt.st,lk];by_cases e1:k=1001
  ·subst e1;simp[aD]
  ·rw[if_neg e1];by_cases e0:k=1000
   ·subst e0;rfl
   ·rw[if_neg e0,if_neg (Ne.symm e0),if_neg (Ne.symm e1),if_neg (Ne.symm e0)]
theorem Kc {A:List aj} {d i:Int} {E:List (Nat×AV)} {r:aj} (hE:∀ p∈E,∀ k∈refs p.2,k < 1000000):Old ((⟨E++bY A d i .nilsl,[(1002,some (bx r))],[]⟩:GSt).st fun _=>none):=by
 refine zJ (kz hE (by simp[refs])) (fun p hp' o ho=>?_) (fun k o h=>by cases h);rw[mem_singleton]at hp';subst hp';injection ho with ho;subst ho;refine⟨by simp,fun q hq j hj=>?_⟩;simp only[bx,mem_singleton]at hq;subst hq;simp[aW,refs]at hj
theorem abj {A:List aj} {d i:Int} {r:aj} {pre:List aS} (hp:pre.length<=500000):Old ((⟨fO A d i (ji pre),[(1000,some ⟨3,dS 2000 pre++[nP r]⟩),(1002,some (bx r))],[]⟩:GSt).st (hsF pre)):=by
 refine zJ (kz (E:=[(7,.ptr 1002 0 0)]) (fun p hp' k hk=>by
  rw[mem_singleton]at hp';subst hp';simp[refs]at hk;omega) (by simp[refs])) (fun p hp' o ho=>?_) (Wv hp)
 simp only[mem_cons,List.not_mem_nil,or_false]at hp';rcases hp' with rfl |rfl
 ·injection ho with ho;subst ho;refine⟨by simp,fun q hq j hj=>?_⟩;rcases mem_append.1 hq with hq |hq
  ·have:=gV _ _ q hq j hj;omega
  ·rw[mem_singleton]at hq;subst hq;simp[aW,refs]at hj
 ·injection ho with ho;subst ho;refine⟨by simp,fun q hq j hj=>?_⟩;simp only[bx,mem_singleton]at hq;subst hq;simp[aW,refs]at hj
theorem acy {cd:Code} {Q:Exit->St->Prop} {A:List aj} {d i:Int} {r:aj}
 (hq:Ev Tryz.prog Tryz.f58.ntmps cd Q (hsM (fO A d i (ji [])) r [] ⟨r.x0,r.x1,[]⟩)):
 Ev Tryz.prog Tryz.f58.ntmps (cA hsJ) (Tt (Ev Tryz.prog Tryz.f58.ntmps cd Q) Q) ((⟨fO A d i .nilsl,[(1002,some (bx r))],[]⟩:GSt).st fun _=>none):=by
 show Ev _ _ (Code.seq (cA (cA hsJ)) (Code.seq S9 (cB (cB (cA hsJ))))) _ _;refine gH ?_;refine dH (ops:=cO (cA (cA hsJ))) (σ2:=(⟨YM A d i 0 .nilsl,[(1002,some (bx r))],[]⟩:GSt).st fun _=>none) lF (by kernel_rfl) afJ trivial ?_ ?_
 ·refine eH (fun p hp'=>?_) (fun _ _ h=>h) rfl (Kc (E:=[(8,tn 0),(7,.ptr 1002 0 0)]) fun p hp' k hk=>?_)
  ·simp only[YM,fO,bY,mem_cons,List.not_mem_nil,or_false]at hp';rcases hp' with rfl |rfl |rfl |rfl |rfl |rfl |rfl<;>exact⟨rfl,rfl⟩
  ·simp only[mem_cons,List.not_mem_nil,or_false]at hp';rcases hp' with rfl |rfl
   ·simp[refs]at hk
   ·simp[refs]at hk;omega
 refine gH ?_;refine GN (ops:=cO S9) (σ2:=(⟨(30,bo true)::fO A d i .nilsl,[(1002,some (bx r))],[]⟩:GSt).st fun _=>none) lF mixed (by kernel_rfl) afL afK (fun h=>by cases h) ?_ ?_
 ·refine eH (fun p hp'=>?_) (fun _ _ h=>h) rfl (Kc (E:=[(30,bo true),(7,.ptr 1002 0 0)]) fun p hp' k hk=>?_)
  ·simp only[fO,bY,mem_cons,List.not_mem_nil,or_false]at hp';rcases hp' with rfl |rfl |rfl |rfl |rfl |rfl |rfl<;>exact⟨rfl,rfl⟩
  ·simp only[mem_cons,List.not_mem_nil,or_false]at hp';rcases hp' with rfl |rfl
   ·simp[refs]at hk
   ·simp[refs]at hk;omega
 show Ev _ _ (Code.cond (.tmp 30) Ta (cB (cB (cB (cA hsJ))))) _ _;refine Bo true (fun _ _=>rfl) rfl ?_;refine BI (σ2:=(⟨fO A d i .nilsl,[(1002,some (bx r))],[]⟩:GSt).st fun _=>none) ?_ ?_
 ·refine eH (fun p hp'=>?_) (fun _ _ h=>h) rfl (Kc (E:=[(7,.ptr 1002 0 0)]) fun p hp' k hk=>?_)
  ·simp only[fO,bY,mem_cons,List.not_mem_nil,or_false]at hp';rcases hp' with rfl |rfl |rfl |rfl |rfl |rfl<;>exact⟨rfl,rfl⟩
  ·rw[mem_singleton]at hp';subst hp';simp[refs]at hk;omega
 show Ev _ _ (Code.region _ (cO Ta) false) _ _;refine dH (ops:=cO Ta) (σ2:=(⟨fO A d i (ji []),[(1000,some ⟨3,dS 2000 []++[nP r]⟩),(1002,some (bx r))],[]⟩:GSt).st (hsF [])) lF (by kernel_rfl) afM ⟨trivial,rfl,rfl,by omega,by decide⟩ ?_ (ad3 (by simp) hq);refine Fq (fun k=>if k=nid 7 then 1000 else k) (fun k=>if k=1000 then nid 7 else k) (fun k=>k≠1000) (fun k hk=>?_) (fun j hj=>by rw[if_neg (by omega)]) (fun p hp'=>?_) (fun j o' hj=>?_) rfl (abj (by simp))
 ·by_cases e:k=nid 7
  ·rw[if_pos e,if_pos rfl,e]
  ·rw[if_neg e,if_neg hk]
 ·simp only[fO,bY,mem_cons,List.not_mem_nil,or_false]at hp';rcases hp' with rfl |rfl |rfl |rfl |rfl |rfl
  ·exact⟨rfl,fun k hk=>by have:=mem_singleton.1 (show k∈[1002]from hk);omega,rfl⟩
  ·exact⟨rfl,fun k hk=>absurd (show k∈([]:List Nat)from hk) (List.not_mem_nil),rfl⟩
  ·exact⟨rfl,fun k hk=>by have:=mem_singleton.1 (show k∈[nid 7]from hk);simp only[nid]at this;omega,rfl⟩
  ·exact⟨rfl,fun k hk=>absurd (show k∈([]:List Nat)from hk) (List.not_mem_nil),rfl⟩
  ·exact⟨rfl,fun k hk=>absurd (show k∈([]:List Nat)from hk) (List.not_mem_nil),rfl⟩
  ·exact⟨rfl,fun k hk=>absurd (show k∈([]:List Nat)from hk) (List.not_mem_nil),rfl⟩
 ·simp only[GSt.st,lk]at hj;by_cases e0:1000=j
  ·rw[if_pos e0]at hj;injection hj with hj;subst e0 hj;refine⟨nid 7,⟨3,[nP r]⟩,rfl,by simp[nid],rfl,rfl,fun q hq k hk=>?_⟩;rw[mem_singleton]at hq;subst hq;simp[aW,refs]at hk
  ·rw[if_neg e0]at hj;by_cases e2:1002=j
   ·rw[if_pos e2]at hj;injection hj with hj;subst e2 hj;refine⟨1002,bx r,rfl,by omega,rfl,rfl,fun q hq k hk=>?_⟩;simp only[bx,mem_singleton]at hq;subst hq;simp[aW,refs]at hk
   ·rw[if_neg e2]at hj;obtain⟨h1,h2,_⟩:=A7 hj;simp at h2;omega
end
end Go.Proofs
