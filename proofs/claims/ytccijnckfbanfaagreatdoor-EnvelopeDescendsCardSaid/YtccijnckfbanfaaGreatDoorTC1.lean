/-
  Printed by wip/gen: that functions of the program compute this.
-/
import Derived.Test.YtccijnckfbanfaaGreatDoorS2
open Go.IntKind (i64)
open List (mem_cons mem_append mem_singleton length_cons map_congr_left map_append)
namespace Go.Proofs
open Go.Gb Go.RowKit
noncomputable section
def TL:Sig xx:=⟨[],[.d (.st SI.Town)],fun _=>EG,none⟩
theorem TM:aJ 30 TL :=cq aB Tryz.func30 .z 0 (by kernel_rfl) rfl fun _=>by kernel_rfl
def Oq:Sig xx:=⟨[.d (.sl ak)],[.fresh ak],fun a=>sH a.1,none⟩
theorem Dn:aJ 47 Oq :=cq aB Tryz.func47 .z 0 (by kernel_rfl) rfl fun _=>by kernel_rfl
def R5:Sig xx:=⟨[.d (.sl ah)],[.fresh ah],fun a=>Ci a.1,none⟩
theorem R6:aJ 89 R5 :=cq aB Tryz.func89 .z 0 (by kernel_rfl) rfl fun _=>by kernel_rfl
def abf:Sig xx:=⟨[.d (.st SI.Lot)],[.d (.st SI.Lot)],fun a=>JH a.1,none⟩
theorem abg:aJ 48 abf :=cq (au Dn (au R6 aB)) Tryz.func48 .z 0 (by kernel_rfl) rfl fun _=>by kernel_rfl
def adk (n:Nat):Sig xx:=⟨[.d (.sl (.st SI.Lot)),.d ah],[.d (.st SI.Lot),.d .bool],fun a=>Ck n a.1 a.2.1,none⟩
def adl:Hn SI:=(.s .z (.s (.s .z (.b (.lx ⟨[(10,(.v ah))],[],[1,4,8,9],[1000],1320,[]⟩ 0 ⟨[],[],[4],[1000],1320,[]⟩ .z))) .z))
theorem Me (n:Nat):aJ 19 (adk n) :=cq (au abg aB) Tryz.func19 adl n (by kernel_rfl) rfl fun _=>by kernel_rfl
def adm:Sig xx:=⟨[.d ak],[.d .bool],fun a=>vF a.1,none⟩
theorem Bg:aJ 92 adm :=cq aB Tryz.func92 .z 0 (by kernel_rfl) rfl fun _=>by kernel_rfl
def R7:Sig xx:=⟨[.nil,.d ah],[.fresh ak],fun a=>JI a.1 a.2.1,none⟩
theorem R8:aJ 157 R7 :=cq aB Tryz.func157 .z 0 (by kernel_rfl) rfl fun _=>by kernel_rfl
def Mf (n:Nat):Sig xx:=⟨[.d (.sl (.sl ak))],[.fresh ak],fun a=>wY n a.1,none⟩
def Mg:Hn SI:=(.s .z (.s .z (.s (.s .z (.b (.l ⟨[(3,(.v ah)),(11,(.v ah))],[],[0,9,10],[],1320,[]⟩ 0 ⟨[(3,(.v ah))],[],[0],[],1320,[]⟩ .z))) (.s .z (.s (.s .z (.b (.l ⟨[(6,(.o 1704)),(27,(.v ah))],[(1704,.l ak)],[25,26],[],1705,[]⟩ 2 ⟨[(6,(.o 1704))],[(1704,.l ak)],[],[],1705,[]⟩ .z))) .z)))))
theorem Mh (n:Nat):aJ 128 (Mf n) :=cq (au R8 aB) Tryz.func128 Mg n (by kernel_rfl) rfl fun _=>by kernel_rfl
def Xf:Sig xx:=⟨[.d (.int .u64)],[.d ah],fun a=>bits_Len64 a.1,none⟩
def Xg:Hn SI:=(.s .z (.s (.j ⟨[(0,(.v (.int .u64))),(2,(.v ah))],[],[],[],1064,[]⟩ .z) (.s (.j ⟨[(0,(.v (.int .u64))),(2,(.v ah))],[],[],[],1064,[]⟩ .z) (.s (.j ⟨[(0,(.v (.int .u64))),(2,(.v ah))],[],[],[],1064,[]⟩ .z) .z))))
theorem Xh:aJ 140 Xf :=cq aB Tryz.func140 Xg 0 (by kernel_rfl) rfl fun _=>by kernel_rfl
def abh:Sig xx:=⟨[.d (.int .u64)],[.d ah],fun a=>bits_Len a.1,none⟩
theorem CJ:aJ 105 abh :=cq (au Xh aB) Tryz.func105 .z 0 (by kernel_rfl) rfl fun _=>by kernel_rfl
def Ot:Sig xx:=⟨[.d ah],[.d .bool],fun a=>cmp_isNaN_int a.1,none⟩
theorem Dp:aJ 165 Ot :=cq aB Tryz.func165 .z 0 (by kernel_rfl) rfl fun _=>by kernel_rfl
def R9:Sig xx:=⟨[.d ah,.d ah],[.d .bool],fun a=>cmp_Less_int a.1 a.2.1,none⟩
theorem iF:aJ 136 R9 :=cq (au Dp aB) Tryz.func136 .z 0 (by kernel_rfl) rfl fun _=>by kernel_rfl
def uh (n:Nat):Sig xx:=⟨[.mut ah,.d ah,.d ah],[.mu ah],fun a=>vG n a.1 a.2.1 a.2.2.1,none⟩
def uj:Hn SI:=(.s .z (.b (.l ⟨[(6,(.v ah))],[(0,.l ah)],[0,1,2],[],1192,[]⟩ 0 ⟨[],[(0,.l ah)],[],[],1192,[]⟩ (.s .z (.s (.b (.s .z (.b (.l ⟨[(7,(.v ah))],[(0,.l ah)],[0,1,2,6],[],1512,[]⟩ 2 ⟨[],[(0,.l ah)],[0,1,2,6],[],1512,[]⟩ (.s (.s (.j ⟨[(30,(.v .bool))],[],[0,1,2,6,7],[0],1512,[]⟩ .z) .z) .z))))) .z)))))
theorem ul (n:Nat):aJ 130 (uh n) :=cq (au iF aB) Tryz.func130 uj n (by kernel_rfl) rfl fun _=>by kernel_rfl
def zL (n:Nat):Sig xx:=⟨[.mut ah,.d ah,.d ah,.d ah],[.mu ah],fun a=>Cm n a.1 a.2.1 a.2.2.1 a.2.2.2.1,none⟩
def zM:Hn SI:=(.s .z (.b (.lx ⟨[(8,(.v ah))],[(0,.l ah)],[0,2,3],[],1128,[]⟩ 0 ⟨[],[(0,.l ah)],[],[],1128,[]⟩ (.b (.s .z (.s .z (.s (.j ⟨[(9,(.v ah))],[],[0,2,3,8],[0],1576,[]⟩ (.s (.j ⟨[(36,(.v .bool))],[],[0,2,3,8,9],[0],1576,[]⟩ .z) .z)) .z)))))))
theorem zN (n:Nat):aJ 160 (zL n) :=cq (au iF aB) Tryz.func160 zM n (by kernel_rfl) rfl fun _=>by kernel_rfl
def zO (n:Nat):Sig xx:=⟨[.mut ah,.d ah,.d ah],[.mu ah],fun a=>Cn n a.1 a.2.1 a.2.2.1,none⟩
def zP:Hn SI:=(.s .z (.s .z (.s .z (.s (.s .z (.b (.l ⟨[(9,(.v ah))],[(0,.l ah)],[0,6,7,8],[],1704,[]⟩ 0 ⟨[],[(0,.l ah)],[0,6,7,8],[],1704,[]⟩ .z))) (.s .z (.b (.l ⟨[(10,(.v ah))],[(0,.l ah)],[0,6,7],[],1896,[]⟩ 2 ⟨[],[(0,.l ah)],[],[],1896,[]⟩ .z)))))))
theorem zQ (n:Nat):aJ 131 (zO n) :=cq (au (zN n) aB) Tryz.func131 zP n (by kernel_rfl) rfl fun _=>by kernel_rfl
def Gg:Sig xx:=⟨[.d ah],[.d (.int .u64)],fun a=>aN a.1,none⟩
theorem nK:aJ 161 Gg :=cq (au CJ aB) Tryz.func161 .z 0 (by kernel_rfl) rfl fun _=>by kernel_rfl
def Il:Sig xx:=⟨[.mref (.int .u64)],[.d (.int .u64),.mr (.int .u64)],fun a=>aQ a.1,none⟩
theorem oQ:aJ 162 Il :=cq aB Tryz.func162 .z 0 (by kernel_rfl) rfl fun _=>by kernel_rfl
def um (n:Nat):Sig xx:=⟨[.mut ah,.d ah,.d ah],[.mu ah],fun a=>vH n a.1 a.2.1 a.2.2.1,none⟩
def uo:Hn SI:=(.s .z (.s .z (.s (.s .z (.s .z (.s .z (.b (.l ⟨[(9,(.v ah))],[(0,.l ah),(1512,.c 1 [[(.v (.int .u64))]])],[0,1,6,7,8],[],2280,[]⟩ 0 ⟨[],[(0,.l ah)],[],[],2280,[]⟩ (.s .z (.s (.b (.s .z (.s (.j ⟨[(10,(.v ah))],[],[0,1,6,7,8,9],[0,1512],3176,[]⟩ .z) .z))) .z))))))) .z)))
theorem uq (n:Nat):aJ 132 (um n) :=cq (au nK (au oQ aB)) Tryz.func132 uo n (by kernel_rfl) rfl fun _=>by kernel_rfl
def CK:Sig xx:=⟨[.d (.sl ah),.d ah,.d ah,.mref ah],[.d ah,.d ah,.mr ah],fun a=>EH a.1 a.2.1 a.2.2.1 a.2.2.2.1,none⟩
theorem CO:aJ 180 CK :=cq (au iF aB) Tryz.func180 .z 0 (by kernel_rfl) rfl fun _=>by kernel_rfl
def CP:Sig xx:=⟨[.d (.sl ah),.d ah,.d ah,.d ah,.mref ah],[.d ah,.mr ah],fun a=>EI a.1 a.2.1 a.2.2.1 a.2.2.2.1 a.2.2.2.2.1,none⟩
theorem qC:aJ 164 CP :=cq (au CO aB) Tryz.func164 .z 0 (by kernel_rfl) rfl fun _=>by kernel_rfl
def rF:Sig xx:=⟨[.d (.sl ah),.d ah,.mref ah],[.d ah,.mr ah],fun a=>uK a.1 a.2.1 a.2.2.1,none⟩
theorem rG:aJ 163 rF :=cq (au qC aB) Tryz.func163 .z 0 (by kernel_rfl) rfl fun _=>by kernel_rfl
def vW:Sig xx:=⟨[.d (.sl ah),.d ah,.d ah],[.d ah,.d ah],fun a=>xQ a.1 a.2.1 a.2.2.1,none⟩
def vX:Hn SI:=(.s .z (.s .z (.s .z (.s .z (.s .z (.s .z (.s (.j ⟨[(11,(.v ah))],[(1384,.c 1 [[(.v ah)]])],[9],[],2600,[]⟩ (.s .z (.s (.s (.j ⟨[(10,(.v ah)),(11,(.v ah)),(12,(.v ah))],[(1384,.c 1 [[(.v ah)]])],[0,9],[],2728,[]⟩ .z) .z) .z))) .z)))))))
theorem vY:aJ 133 vW :=cq (au rG (au qC aB)) Tryz.func133 vX 0 (by kernel_rfl) rfl fun _=>by kernel_rfl
def uR (n:Nat):Sig xx:=⟨[.mut ah,.d ah,.d ah],[.mu ah],fun a=>wZ n a.1 a.2.1 a.2.2.1,none⟩
def uS:Hn SI:=(.s .z (.s .z (.b (.l ⟨[(6,(.v ah)),(7,(.v ah))],[(0,.l ah)],[0],[],1320,[]⟩ 0 ⟨[],[(0,.l ah)],[],[],1320,[]⟩ .z))))
theorem uT (n:Nat):aJ 134 (uR n) :=cq aB Tryz.func134 uS n (by kernel_rfl) rfl fun _=>by kernel_rfl
def nL (n:Nat):Sig xx:=⟨[.mut ah,.d ah,.d ah],[.d .bool,.mu ah],fun a=>oL n a.1 a.2.1 a.2.2.1,none⟩
def nM:Hn SI:=(.s .z (.s .z (.s (.s .z (.b (.lx ⟨[(7,(.v ah)),(8,(.v ah))],[(0,.l ah)],[0,1,2],[],1320,[]⟩ 0 ⟨[],[(0,.l ah)],[],[],1320,[]⟩ (.s .z (.s (.jx ⟨[(7,(.v ah))],[(0,.l ah)],[0,1,2,8],[],1448,[]⟩ (.b (.s (.b (.l ⟨[(7,(.v ah))],[],[0,1,2,8],[0],1448,[]⟩ 2 ⟨[(7,(.v ah))],[],[0,1,2,8],[0],1448,[]⟩ (.s (.s (.j ⟨[(32,(.v .bool))],[],[0,1,2,7,8],[0],1448,[]⟩ .z) .z) .z))) (.s .z (.s .z (.s .z (.s (.j ⟨[],[(0,.l ah)],[0,1,2,7,8],[],3048,[]⟩ (.s .z (.s (.s .z (.b (.l ⟨[(9,(.v ah))],[(0,.l ah)],[0,1,2,7,8],[],3496,[]⟩ 4 ⟨[],[(0,.l ah)],[0,1,2,7,8],[],3496,[]⟩ .z))) .z))) (.s .z (.s (.s .z (.b (.l ⟨[(10,(.v ah))],[(0,.l ah)],[0,1,2,7,8],[],3496,[]⟩ 6 ⟨[],[(0,.l ah)],[0,1,2,7,8],[],3496,[]⟩ .z))) .z))))))))) .z))))) .z)))
theorem nN (n:Nat):aJ 135 (nL n) :=cq (au iF aB) Tryz.func135 nM n (by kernel_rfl) rfl fun _=>by kernel_rfl
def rH (n:Nat):Sig xx:=⟨[.mut ah,.d ah,.d ah,.d ah],[.d ah,.mu ah],fun a=>uL n a.1 a.2.1 a.2.2.1 a.2.2.2.1,none⟩
def rJ:Hn SI:=(.s .z (.s .z (.s .z (.s (.b (.l ⟨[(9,(.v ah)),(10,(.v ah))],[(0,.l ah)],[0,1],[],2472,[]⟩ 0 ⟨[(9,(.v ah))],[(0,.l ah)],[],[],2472,[]⟩ (.b (.s (.b (.l ⟨[(9,(.v ah))],[],[0,1,10],[0],2472,[]⟩ 2 ⟨[(9,(.v ah))],[],[0,1,10],[0],2472,[]⟩ (.s (.s (.j ⟨[(43,(.v .bool))],[],[0,1,9,10],[0],2472,[]⟩ .z) .z) .z))) (.s (.b (.l ⟨[(10,(.v ah))],[],[0,1,9],[0],2472,[]⟩ 4 ⟨[(10,(.v ah))],[],[0,1,9],[0],2472,[]⟩ (.s (.s (.j ⟨[(59,(.v .bool))],[],[0,1,9,10],[0],2472,[]⟩ .z) .z) .z))) .z))))) .z))))
theorem rM (n:Nat):aJ 137 (rH n) :=cq (au iF aB) Tryz.func137 rJ n (by kernel_rfl) rfl fun _=>by kernel_rfl
def xS (n:Nat):Sig xx:=⟨[.mut ah,.d ah,.d ah,.d ah],[.d ah,.d .bool,.mu ah],fun a=>AJ n a.1 a.2.1 a.2.2.1 a.2.2.2.1,none⟩
def xU:Hn SI:=(.s .z (.s .z (.s .z (.s (.b (.l ⟨[(10,(.v ah))],[],[0,1,11],[0],2536,[]⟩ 0 ⟨[(10,(.v ah))],[],[0,1,11],[0],2536,[]⟩ (.s (.s (.j ⟨[(43,(.v .bool))],[],[0,1,10,11],[0],2536,[]⟩ .z) .z) .z))) (.s (.b (.l ⟨[(11,(.v ah))],[],[0,1,10],[0],2536,[]⟩ 2 ⟨[(11,(.v ah))],[],[0,1,10],[0],2536,[]⟩ (.s (.s (.j ⟨[(60,(.v .bool))],[],[0,1,10,11],[0],2536,[]⟩ .z) .z) .z))) (.s .z (.s .z (.s .z (.s .z (.s (.b (.l ⟨[(10,(.v ah)),(11,(.v ah))],[(0,.l ah)],[0,1],[],4136,[]⟩ 4 ⟨[(11,(.v ah))],[(0,.l ah)],[0,1],[],4136,[]⟩ (.b (.s (.b (.l ⟨[(10,(.v ah))],[],[0,1,11],[0],4136,[]⟩ 6 ⟨[(10,(.v ah))],[],[0,1,11],[0],4136,[]⟩ (.s (.s (.j ⟨[(112,(.v .bool))],[],[0,1,10,11],[0],4136,[]⟩ .z) .z) .z))) (.s (.b (.l ⟨[(11,(.v ah))],[],[0,1,10],[0],4136,[]⟩ 8 ⟨[(11,(.v ah))],[],[0,1,10],[0],4136,[]⟩ (.s (.s (.j ⟨[(129,(.v .bool))],[],[0,1,10,11],[0],4136,[]⟩ .z) .z) .z))) .z))))) .z))))))))))
theorem xV (n:Nat):aJ 138 (xS n) :=cq (au iF aB) Tryz.func138 xU n (by kernel_rfl) rfl fun _=>by kernel_rfl
def Bh:Hn SI:=(.s .z (.s .z (.b (.lx ⟨[(1,(.v ah)),(2,(.v ah)),(3,(.v ah)),(8,(.v .bool)),(9,(.v .bool))],[(0,.l ah)],[0],[],1128,[]⟩ 999999 ⟨[],[],[],[],1128,[]⟩ (.b (.s .z (.s .z (.s .z (.s (.j ⟨[(3,(.v ah))],[(0,.l ah)],[0,1,2,8,9,10],[],1640,[]⟩ .z) (.s .z (.s (.j ⟨[(11,(.v ah)),(12,(.v ah))],[(0,.l ah)],[0,1,2,3,8,9,10],[],2216,[]⟩ .z) (.s (.jx ⟨[],[(0,.l ah)],[0,1,2,3,8,9,10,11],[],2216,[]⟩ (.s (.j ⟨[(68,(.v .bool))],[],[0,1,2,3,8,9,10,11],[0],2216,[]⟩ .z) .z)) (.s (.s (.j ⟨[(87,(.v .bool))],[],[0,1,2,3,8,9,10,11],[0],2216,[]⟩ .z) .z) .z)))))))))))))
theorem zR (n:Nat) (rc:((List Int))->(Int)->(Int)->(Int)->Option (List Int)) (hr:aJ 104 (jB rc)):aJ 104 (jB (jM n rc)) :=cq (au (ul n) (au (zQ n) (au (uq n) (au vY (au (uT n) (au (nN n) (au iF (au (rM n) (au (xV n) (au hr aB)))))))))) Tryz.func104 Bh n (by kernel_rfl) rfl fun _=>by kernel_rfl
theorem om (n:Nat):∀ m,aJ 104 (jB (d9 n m))
 | 0=>cok (o9 Tryz.func104 (by kernel_rfl:Tryz.f104.body=some (Tryz.f104.body.getD .skip)) (by kernel_rfl)) (fun _ _ h=>(by cases h)) rfl
 |m+1=>zR n _ (om n m)
def Bj (n:Nat):Sig xx:=⟨[.mut ah,.d ah,.d ah,.d ah],[.mu ah],fun a=>lu n a.1 a.2.1 a.2.2.1 a.2.2.2.1,none⟩
theorem Bl (n:Nat):aJ 104 (Bj n):=om n n
def TN (n:Nat):Sig xx:=⟨[.mut ah],[.mu ah],fun a=>iX n a.1,none⟩
theorem oo (n:Nat):aJ 65 (TN n) :=cq (au CJ (au (Bl n) aB)) Tryz.func65 .z n (by kernel_rfl) rfl fun _=>by kernel_rfl
def Mi (n:Nat):Sig xx:=⟨[.mut ah],[.whole 0,.mu ah],fun a=>iB n a.1,none⟩
def Mj:Hn SI:=(.s .z (.s .z (.s (.s .z (.b (.lx ⟨[(3,(.v ah))],[],[0],[0],1320,[]⟩ 0 ⟨[],[],[0],[0],1320,[]⟩ (.s .z (.s (.b (.s .z (.s (.s .z (.s (.s .z (.b (.l ⟨[(3,(.v ah)),(5,(.v ah))],[(0,.l ah)],[0,4],[],2536,[]⟩ 2 ⟨[(3,(.v ah))],[(0,.l ah)],[0],[],2536,[]⟩ (.s .z (.s (.j ⟨[(3,(.v ah))],[(0,.l ah)],[0,4,5],[],2792,[]⟩ .z) .z))))) .z)) .z))) .z))))) .z)))
theorem jZ (n:Nat):aJ 66 (Mi n) :=cq aB Tryz.func66 Mj n (by kernel_rfl) rfl fun _=>by kernel_rfl
def rO (n:Nat):Sig xx:=⟨[.mut (.st SI.span),.d ah,.d ah,.clo [(.st SI.span),(.st SI.span)] ah],[.mu (.st SI.span)],fun a=>uM n a.1 a.2.1 a.2.2.1 a.2.2.2.1,none⟩
def rP:Hn SI:=(.s .z (.b (.l ⟨[(8,(.v ah))],[(0,.l (.st SI.span))],[0,1,2,3],[],1192,[]⟩ 0 ⟨[],[(0,.l (.st SI.span))],[],[],1192,[]⟩ (.s .z (.s (.b (.s .z (.b (.l ⟨[(9,(.v ah))],[(0,.l (.st SI.span))],[0,1,2,3,8],[],1512,[]⟩ 2 ⟨[],[(0,.l (.st SI.span))],[0,1,2,3,8],[],1512,[]⟩ (.s (.s (.j ⟨[(34,(.v .bool))],[],[0,1,2,3,8,9],[0],1512,[]⟩ .z) .z) .z))))) .z)))))
theorem rQ (n:Nat):aJ 195 (rO n) :=cq aB Tryz.func195 rP n (by kernel_rfl) rfl fun _=>by kernel_rfl
def xW (n:Nat):Sig xx:=⟨[.mut (.st SI.span),.d ah,.d ah,.d ah,.clo [(.st SI.span),(.st SI.span)] ah],[.mu (.st SI.span)],fun a=>AL n a.1 a.2.1 a.2.2.1 a.2.2.2.1 a.2.2.2.2.1,none⟩
def xX:Hn SI:=(.s .z (.b (.lx ⟨[(10,(.v ah))],[(0,.l (.st SI.span))],[0,2,3,4],[],1128,[]⟩ 0 ⟨[],[(0,.l (.st SI.span))],[],[],1128,[]⟩ (.b (.s .z (.s .z (.s (.j ⟨[(11,(.v ah))],[],[0,2,3,4,10],[0],1576,[]⟩ (.s (.j ⟨[(40,(.v .bool))],[],[0,2,3,4,10,11],[0],1576,[]⟩ .z) .z)) .z)))))))
theorem xY (n:Nat):aJ 212 (xW n) :=cq aB Tryz.func212 xX n (by kernel_rfl) rfl fun _=>by kernel_rfl
def xZ (n:Nat):Sig xx:=⟨[.mut (.st SI.span),.d ah,.d ah,.clo [(.st SI.span),(.st SI.span)] ah],[.mu (.st SI.span)],fun a=>AO n a.1 a.2.1 a.2.2.1 a.2.2.2.1,none⟩
def yc:Hn SI:=(.s .z (.s .z (.s .z (.s (.s .z (.b (.l ⟨[(11,(.v ah))],[(0,.l (.st SI.span))],[0,3,8,9,10],[],1704,[]⟩ 0 ⟨[],[(0,.l (.st SI.span))],[0,3,8,9,10],[],1704,[]⟩ .z))) (.s .z (.b (.l ⟨[(12,(.v ah))],[(0,.l (.st SI.span))],[0,3,8,9],[],1896,[]⟩ 2 ⟨[],[(0,.l (.st SI.span))],[],[],1896,[]⟩ .z)))))))
theorem yg (n:Nat):aJ 196 (xZ n) :=cq (au (xY n) aB) Tryz.func196 yc n (by kernel_rfl) rfl fun _=>by kernel_rfl
def rR (n:Nat):Sig xx:=⟨[.mut (.st SI.span),.d ah,.d ah,.clo [(.st SI.span),(.st SI.span)] ah],[.mu (.st SI.span)],fun a=>uN n a.1 a.2.1 a.2.2.1 a.2.2.2.1,none⟩
def rT:Hn SI:=(.s .z (.s .z (.s (.s .z (.s .z (.s .z (.b (.l ⟨[(11,(.v ah))],[(0,.l (.st SI.span)),(1512,.c 1 [[(.v (.int .u64))]])],[0,1,8,9,10],[],2280,[]⟩ 0 ⟨[],[(0,.l (.st SI.span))],[],[],2280,[]⟩ (.s .z (.s (.b (.s .z (.s (.j ⟨[(12,(.v ah))],[],[0,1,8,9,10,11],[0,1512],3176,[]⟩ .z) .z))) .z))))))) .z)))
theorem rU (n:Nat):aJ 197 (rR n) :=cq (au nK (au oQ aB)) Tryz.func197 rT n (by kernel_rfl) rfl fun _=>by kernel_rfl
def Bn:Sig xx:=⟨[.d (.sl (.st SI.span)),.d ah,.d ah,.mref ah,.clo [(.st SI.span),(.st SI.span)] ah],[.d ah,.d ah,.mr ah],fun a=>Dt a.1 a.2.1 a.2.2.1 a.2.2.2.1 a.2.2.2.2.1,none⟩
theorem Bo:aJ 216 Bn :=cq aB Tryz.func216 .z 0 (by kernel_rfl) rfl fun _=>by kernel_rfl
def Bp:Sig xx:=⟨[.d (.sl (.st SI.span)),.d ah,.d ah,.d ah,.mref ah,.clo [(.st SI.span),(.st SI.span)] ah],[.d ah,.mr ah],fun a=>Du a.1 a.2.1 a.2.2.1 a.2.2.2.1 a.2.2.2.2.1 a.2.2.2.2.2.1,none⟩
theorem pG:aJ 214 Bp :=cq (au Bo aB) Tryz.func214 .z 0 (by kernel_rfl) rfl fun _=>by kernel_rfl
def qF:Sig xx:=⟨[.d (.sl (.st SI.span)),.d ah,.mref ah,.clo [(.st SI.span),(.st SI.span)] ah],[.d ah,.mr ah],fun a=>tK a.1 a.2.1 a.2.2.1 a.2.2.2.1,none⟩
theorem qG:aJ 213 qF :=cq (au pG aB) Tryz.func213 .z 0 (by kernel_rfl) rfl fun _=>by kernel_rfl
def uU:Sig xx:=⟨[.d (.sl (.st SI.span)),.d ah,.d ah,.clo [(.st SI.span),(.st SI.span)] ah],[.d ah,.d ah],fun a=>w9 a.1 a.2.1 a.2.2.1 a.2.2.2.1,none⟩
def uV:Hn SI:=(.s .z (.s .z (.s .z (.s .z (.s .z (.s .z (.s (.j ⟨[(13,(.v ah))],[(1384,.c 1 [[(.v ah)]])],[11],[],2600,[]⟩ (.s .z (.s (.s (.j ⟨[(12,(.v ah)),(13,(.v ah)),(14,(.v ah))],[(1384,.c 1 [[(.v ah)]])],[0,3,11],[],2728,[]⟩ .z) .z) .z))) .z)))))))
theorem uW:aJ 198 uU :=cq (au qG (au pG aB)) Tryz.func198 uV 0 (by kernel_rfl) rfl fun _=>by kernel_rfl
def uw (n:Nat):Sig xx:=⟨[.mut (.st SI.span),.d ah,.d ah,.clo [(.st SI.span),(.st SI.span)] ah],[.mu (.st SI.span)],fun a=>vI n a.1 a.2.1 a.2.2.1 a.2.2.2.1,none⟩
def uy:Hn SI:=(.s .z (.s .z (.b (.l ⟨[(8,(.v ah)),(9,(.v ah))],[(0,.l (.st SI.span))],[0],[],1320,[]⟩ 0 ⟨[],[(0,.l (.st SI.span))],[],[],1320,[]⟩ .z))))
theorem uz (n:Nat):aJ 199 (uw n) :=cq aB Tryz.func199 uy n (by kernel_rfl) rfl fun _=>by kernel_rfl
def mW (n:Nat):Sig xx:=⟨[.mut (.st SI.span),.d ah,.d ah,.clo [(.st SI.span),(.st SI.span)] ah],[.d .bool,.mu (.st SI.span)],fun a=>nT n a.1 a.2.1 a.2.2.1 a.2.2.2.1,none⟩
def mX:Hn SI:=(.s .z (.s .z (.s (.s .z (.b (.lx ⟨[(9,(.v ah)),(10,(.v ah))],[(0,.l (.st SI.span))],[0,1,2,3],[],1320,[]⟩ 0 ⟨[],[(0,.l (.st SI.span))],[],[],1320,[]⟩ (.s .z (.s (.jx ⟨[(9,(.v ah))],[(0,.l (.st SI.span))],[0,1,2,3,10],[],1448,[]⟩ (.b (.s (.b (.l ⟨[(9,(.v ah))],[],[0,1,2,3,10],[0],1448,[]⟩ 2 ⟨[(9,(.v ah))],[],[0,1,2,3,10],[0],1448,[]⟩ (.s (.s (.j ⟨[(36,(.v .bool))],[],[0,1,2,3,9,10],[0],1448,[]⟩ .z) .z) .z))) (.s .z (.s .z (.s .z (.s (.j ⟨[],[(0,.l (.st SI.span))],[0,1,2,3,9,10],[],3048,[]⟩ (.s .z (.s (.s .z (.b (.l ⟨[(11,(.v ah))],[(0,.l (.st SI.span))],[0,1,2,3,9,10],[],3496,[]⟩ 4 ⟨[],[(0,.l (.st SI.span))],[0,1,2,3,9,10],[],3496,[]⟩ .z))) .z))) (.s .z (.s (.s .z (.b (.l ⟨[(12,(.v ah))],[(0,.l (.st SI.span))],[0,1,2,3,9,10],[],3496,[]⟩ 6 ⟨[],[(0,.l (.st SI.span))],[0,1,2,3,9,10],[],3496,[]⟩ .z))) .z))))))))) .z))))) .z)))
theorem mY (n:Nat):aJ 200 (mW n) :=cq aB Tryz.func200 mX n (by kernel_rfl) rfl fun _=>by kernel_rfl
def qH (n:Nat):Sig xx:=⟨[.mut (.st SI.span),.d ah,.d ah,.d ah,.clo [(.st SI.span),(.st SI.span)] ah],[.d ah,.mu (.st SI.span)],fun a=>tL n a.1 a.2.1 a.2.2.1 a.2.2.2.1 a.2.2.2.2.1,none⟩
def qI:Hn SI:=(.s .z (.s .z (.s .z (.s (.b (.l ⟨[(11,(.v ah)),(12,(.v ah))],[(0,.l (.st SI.span))],[0,1,4],[],2472,[]⟩ 0 ⟨[(11,(.v ah))],[(0,.l (.st SI.span))],[],[],2472,[]⟩ (.b (.s (.b (.l ⟨[(11,(.v ah))],[],[0,1,4,12],[0],2472,[]⟩ 2 ⟨[(11,(.v ah))],[],[0,1,4,12],[0],2472,[]⟩ (.s (.s (.j ⟨[(47,(.v .bool))],[],[0,1,4,11,12],[0],2472,[]⟩ .z) .z) .z))) (.s (.b (.l ⟨[(12,(.v ah))],[],[0,1,4,11],[0],2472,[]⟩ 4 ⟨[(12,(.v ah))],[],[0,1,4,11],[0],2472,[]⟩ (.s (.s (.j ⟨[(65,(.v .bool))],[],[0,1,4,11,12],[0],2472,[]⟩ .z) .z) .z))) .z))))) .z))))
theorem qJ (n:Nat):aJ 201 (qH n) :=cq aB Tryz.func201 qI n (by kernel_rfl) rfl fun _=>by kernel_rfl
def xH (n:Nat):Sig xx:=⟨[.mut (.st SI.span),.d ah,.d ah,.d ah,.clo [(.st SI.span),(.st SI.span)] ah],[.d ah,.d .bool,.mu (.st SI.span)],fun a=>zA n a.1 a.2.1 a.2.2.1 a.2.2.2.1 a.2.2.2.2.1,none⟩
def xI:Hn SI:=(.s .z (.s .z (.s .z (.s (.b (.l ⟨[(12,(.v ah))],[],[0,1,4,13],[0],2536,[]⟩ 0 ⟨[(12,(.v ah))],[],[0,1,4,13],[0],2536,[]⟩ (.s (.s (.j ⟨[(47,(.v .bool))],[],[0,1,4,12,13],[0],2536,[]⟩ .z) .z) .z))) (.s (.b (.l ⟨[(13,(.v ah))],[],[0,1,4,12],[0],2536,[]⟩ 2 ⟨[(13,(.v ah))],[],[0,1,4,12],[0],2536,[]⟩ (.s (.s (.j ⟨[(66,(.v .bool))],[],[0,1,4,12,13],[0],2536,[]⟩ .z) .z) .z))) (.s .z (.s .z (.s .z (.s .z (.s (.b (.l ⟨[(12,(.v ah)),(13,(.v ah))],[(0,.l (.st SI.span))],[0,1,4],[],4136,[]⟩ 4 ⟨[(13,(.v ah))],[(0,.l (.st SI.span))],[0,1],[],4136,[]⟩ (.b (.s (.b (.l ⟨[(12,(.v ah))],[],[0,1,4,13],[0],4136,[]⟩ 6 ⟨[(12,(.v ah))],[],[0,1,4,13],[0],4136,[]⟩ (.s (.s (.j ⟨[(120,(.v .bool))],[],[0,1,4,12,13],[0],4136,[]⟩ .z) .z) .z))) (.s (.b (.l ⟨[(13,(.v ah))],[],[0,1,4,12],[0],4136,[]⟩ 8 ⟨[(13,(.v ah))],[],[0,1,4,12],[0],4136,[]⟩ (.s (.s (.j ⟨[(139,(.v .bool))],[],[0,1,4,12,13],[0],4136,[]⟩ .z) .z) .z))) .z))))) .z))))))))))
theorem xJ (n:Nat):aJ 202 (xH n) :=cq aB Tryz.func202 xI n (by kernel_rfl) rfl fun _=>by kernel_rfl
def zT:Hn SI:=(.s .z (.s .z (.b (.lx ⟨[(1,(.v ah)),(2,(.v ah)),(3,(.v ah)),(10,(.v .bool)),(11,(.v .bool))],[(0,.l (.st SI.span))],[0,4],[],1128,[]⟩ 999999 ⟨[],[],[],[],1128,[]⟩ (.b (.s .z (.s .z (.s .z (.s (.j ⟨[(3,(.v ah))],[(0,.l (.st SI.span))],[0,1,2,4,10,11,12],[],1640,[]⟩ .z) (.s .z (.s (.j ⟨[(13,(.v ah)),(14,(.v ah))],[(0,.l (.st SI.span))],[0,1,2,3,4,10,11,12],[],2280,[]⟩ .z) (.s (.jx ⟨[],[(0,.l (.st SI.span))],[0,1,2,3,4,10,11,12,13],[],2280,[]⟩ (.s (.j ⟨[(75,(.v .bool))],[],[0,1,2,3,4,10,11,12,13],[0],2280,[]⟩ .z) .z)) (.s (.s (.j ⟨[(97,(.v .bool))],[],[0,1,2,3,4,10,11,12,13],[0],2280,[]⟩ .z) .z) .z)))))))))))))
theorem yh (n:Nat) (rc:((List ax))->(Int)->(Int)->(Int)->((ax×ax×Unit)->Option Int)->Option (List ax)) (hr:aJ 179 (iI rc)):aJ 179 (iI (fH n rc)) :=cq (au (rQ n) (au (yg n) (au (rU n) (au uW (au (uz n) (au (mY n) (au (qJ n) (au (xJ n) (au hr aB))))))))) Tryz.func179 zT n (by kernel_rfl) rfl fun _=>by kernel_rfl
theorem ny (n:Nat):∀ m,aJ 179 (iI (bZ n m))
 | 0=>cok (o9 Tryz.func179 (by kernel_rfl:Tryz.f179.body=some (Tryz.f179.body.getD .skip)) (by kernel_rfl)) (fun _ _ h=>(by cases h)) rfl
 |m+1=>yh n _ (ny n m)
def zV (n:Nat):Sig xx:=⟨[.mut (.st SI.span),.d ah,.d ah,.d ah,.clo [(.st SI.span),(.st SI.span)] ah],[.mu (.st SI.span)],fun a=>kE n a.1 a.2.1 a.2.2.1 a.2.2.2.1 a.2.2.2.2.1,none⟩
theorem zW (n:Nat):aJ 179 (zV n):=ny n n
def Im (n:Nat):Sig xx:=⟨[.mut (.st SI.span),.clo [(.st SI.span),(.st SI.span)] ah],[.mu (.st SI.span)],fun a=>mF n a.1 a.2.1,none⟩
theorem Io (n:Nat):aJ 158 (Im n) :=cq (au CJ (au (zW n) aB)) Tryz.func158 .z n (by kernel_rfl) rfl fun _=>by kernel_rfl
def Kk:Sig xx:=⟨[.d ah,.d ah],[.d ah],fun a=>cmp_Compare_int a.1 a.2.1,none⟩
theorem lJ:aJ 143 Kk :=cq (au Dp aB) Tryz.func143 .z 0 (by kernel_rfl) rfl fun _=>by kernel_rfl
def Sb:Sig xx:=⟨[.d (.st SI.span),.d (.st SI.span)],[.d ah],fun a=>vJ a.1 a.2.1,none⟩
theorem Sc:aJ 159 Sb :=cq (au lJ aB) Tryz.func159 .z 0 (by kernel_rfl) rfl fun _=>by kernel_rfl
def Zm (n:Nat):Sig xx:=⟨[.d (.sl ak),.d ah],[.fresh (.st SI.span)],fun a=>FV n a.1 a.2.1,none⟩
def Zn:Hn SI:=(.s .z (.s .z (.s (.s .z (.b (.l ⟨[(5,(.o 1320)),(14,(.v ah))],[(1320,.l (.st SI.span))],[1,12,13],[],1321,[(5,(.st SI.span))]⟩ 0 ⟨[(5,(.o 1320))],[(1320,.l (.st SI.span))],[],[],1321,[]⟩ (.s .z (.s .z (.s (.j ⟨[(5,(.o 1385))],[(1385,.l (.st SI.span))],[1,12,13,14],[],1386,[]⟩ (.b (.s .z (.s (.j ⟨[(27,(.v .bool))],[],[1,5,7,12,13,14],[1320,1513],1641,[]⟩ .z) .z)))) .z)))))) (.s .z (.s .z (.s (.s .z (.b (.l ⟨[(8,(.o 1705)),(41,(.v ah))],[(1705,.l (.st SI.span))],[39,40],[1320],1706,[(8,(.st SI.span))]⟩ 2 ⟨[(8,(.o 1705))],[(1705,.l (.st SI.span))],[],[],1706,[]⟩ (.s .z (.s .z (.s (.j ⟨[(8,(.o 1770))],[(1770,.l (.st SI.span))],[39,40,41],[1320],1771,[]⟩ (.b (.s .z (.s .z (.s (.j ⟨[(59,(.v .bool))],[],[8,10,11,39,40,41],[1320,1705,1898],2218,[]⟩ .z) .z))))) .z)))))) .z))))))
theorem Zo (n:Nat):aJ 129 (Zm n) :=cq (au (Io n) (au Sc aB)) Tryz.func129 Zn n (by kernel_rfl) rfl fun _=>by kernel_rfl
def Zp (n:Nat):Sig xx:=⟨[.d (.sl (.sl ak))],[.fresh (.st SI.strip)],fun a=>kY n a.1,none⟩
def Zq:Hn SI:=(.s .z (.s .z (.s .z (.s (.s .z (.b (.l ⟨[(4,(.o 1512)),(13,(.v ah))],[(1512,.l ah)],[3,11,12],[1128],1513,[(4,ah)]⟩ 0 ⟨[(4,(.o 1512))],[(1512,.l ah)],[3],[1128],1513,[]⟩ .z))) (.s .z (.s .z (.s .z (.s (.s .z (.b (.l ⟨[(7,(.o 1961)),(8,(.v ah))],[(1961,.l (.st SI.strip))],[3,4],[1128,1512],1962,[(7,(.st SI.strip))]⟩ 2 ⟨[(7,(.o 1961))],[(1961,.l (.st SI.strip))],[],[],1962,[]⟩ .z))) .z))))))))
theorem NU (n:Nat):aJ 103 (Zp n) :=cq (au (Mh n) (au (oo n) (au (jZ n) (au (Zo n) aB)))) Tryz.func103 Zq n (by kernel_rfl) rfl fun _=>by kernel_rfl
def Ou (n:Nat):Sig xx:=⟨[.d (.sl (.st SI.span)),.d (.sl (.st SI.span))],[.d .bool],fun a=>sI n a.1 a.2.1,none⟩
def Ov:Hn SI:=(.s .z (.s .z (.s (.s .z (.b (.lx ⟨[(13,(.v ah))],[],[0,1,12],[],1576,[]⟩ 0 ⟨[],[],[],[],1576,[]⟩ .z))) .z)))
theorem Ow (n:Nat):aJ 127 (Ou n) :=cq aB Tryz.func127 Ov n (by kernel_rfl) rfl fun _=>by kernel_rfl
def abj (n:Nat):Sig xx:=⟨[.d (.sl (.st SI.strip))],[.fresh ak],fun a=>EJ n a.1,none⟩
def abk:Hn SI:=(.s .z (.s .z (.s (.s .z (.b (.l ⟨[(3,(.o 1192)),(4,(.v ah))],[(1192,.l ak)],[0],[],1193,[(3,ak)]⟩ 0 ⟨[(3,(.o 1192))],[(1192,.l ak)],[],[],1193,[]⟩ (.s .z (.b (.s .z (.s (.b (.l ⟨[(5,(.v ah))],[],[0,3,4],[1192],1641,[]⟩ 2 ⟨[(5,(.v ah))],[],[0,3,4],[1192],1641,[]⟩ (.s (.s (.j ⟨[(30,(.v .bool))],[],[0,3,4,5],[1192],1641,[]⟩ .z) .z) .z))) (.s (.s .z (.b (.l ⟨[(3,(.o 2089)),(39,(.v ah))],[(2089,.l ak)],[0,4,5,37,38],[],2090,[]⟩ 4 ⟨[(3,(.o 2089))],[(2089,.l ak)],[0,5],[],2090,[]⟩ .z))) .z)))))))) .z)))
theorem Sd (n:Nat):aJ 102 (abj n) :=cq (au (Ow n) aB) Tryz.func102 abk n (by kernel_rfl) rfl fun _=>by kernel_rfl
def Xi:Sig xx:=⟨[.d (.sl ak)],[.d (.sl ak),.d ah],fun a=>xg a.1,none⟩
theorem Kl:aJ 101 Xi :=cq aB Tryz.func101 .z 0 (by kernel_rfl) rfl fun _=>by kernel_rfl
def afG (n:Nat):Sig xx:=⟨[.d (.sl ak)],[.d (.sl ak),.d ah],fun a=>ab2 n a.1,none⟩
def afH:Hn SI:=(.s .z (.s (.s .z (.b (.lx ⟨[(8,(.v ah))],[],[0,6,7],[],1320,[]⟩ 0 ⟨[],[],[0],[],1320,[]⟩ .z))) .z))
theorem afI (n:Nat):aJ 62 (afG n) :=cq (au Bg (au (NU n) (au (Sd n) (au Kl aB)))) Tryz.func62 afH n (by kernel_rfl) rfl fun _=>by kernel_rfl
def Ox (n:Nat):Sig xx:=⟨[.d (.sl ak),.d (.sl ak)],[.d .bool],fun a=>kZ n a.1 a.2.1,none⟩
def Oy:Hn SI:=(.s .z (.s .z (.s (.s .z (.b (.lx ⟨[(13,(.v ah))],[],[0,1,12],[],1576,[]⟩ 0 ⟨[],[],[],[],1576,[]⟩ .z))) .z)))
theorem Dq (n:Nat):aJ 46 (Ox n) :=cq aB Tryz.func46 Oy n (by kernel_rfl) rfl fun _=>by kernel_rfl
def abl (n:Nat):Sig xx:=⟨[.d (.sl ak)],[.d .bool],fun a=>lW n a.1,none⟩
theorem rV (n:Nat):aJ 31 (abl n) :=cq (au (afI n) (au (Dq n) aB)) Tryz.func31 .z n (by kernel_rfl) rfl fun _=>by kernel_rfl
def Mk (n:Nat):Sig xx:=⟨[.d (.sl (.st SI.Point))],[.fresh (.st SI.side)],fun a=>lX n a.1,none⟩
def Ml:Hn SI:=(.s .z (.s .z (.s (.s .z (.b (.l ⟨[(10,(.v ah))],[(1192,.l (.st SI.side))],[0,3,9],[],1512,[]⟩ 0 ⟨[],[(1192,.l (.st SI.side))],[3],[],1512,[]⟩ .z))) .z)))
theorem Bq (n:Nat):aJ 190 (Mk n) :=cq aB Tryz.func190 Ml n (by kernel_rfl) rfl fun _=>by kernel_rfl
def Mq:Sig xx:=⟨[.d (.st SI.Point)],[.d .bool],fun a=>qf a.1,none⟩
theorem Mr:aJ 206 Mq :=cq aB Tryz.func206 .z 0 (by kernel_rfl) rfl fun _=>by kernel_rfl
def CQ:Sig xx:=⟨[.d (.st SI.side)],[.d .bool],fun a=>eu a.1,none⟩
theorem qD:aJ 191 CQ :=cq aB Tryz.func191 .z 0 (by kernel_rfl) rfl fun _=>by kernel_rfl
def Xj (n:Nat):Sig xx:=⟨[.d (.sl ah)],[.d ah],fun a=>oM n a.1,none⟩
def Xk:Hn SI:=(.s .z (.s .z (.s (.s .z (.b (.lx ⟨[(8,(.v ah))],[],[3,6,7],[],1320,[]⟩ 0 ⟨[],[],[3],[],1320,[]⟩ .z))) .z)))
theorem Km (n:Nat):aJ 170 (Xj n) :=cq aB Tryz.func170 Xk n (by kernel_rfl) rfl fun _=>by kernel_rfl
def Kn (n:Nat):Sig xx:=⟨[.d (.st SI.Point),.d (.st SI.Point)],[.d ah],fun a=>oz n a.1 a.2.1,none⟩
theorem Ko (n:Nat):aJ 207 (Kn n) :=cq (au lJ (au (Km n) aB)) Tryz.func207 .z n (by kernel_rfl) rfl fun _=>by kernel_rfl
def CR:Sig xx:=⟨[.d (.st SI.side),.d (.st SI.side)],[.d .bool],fun a=>iY a.1 a.2.1,none⟩
theorem CU:aJ 208 CR :=cq aB Tryz.func208 .z 0 (by kernel_rfl) rfl fun _=>by kernel_rfl
def Oz (n:Nat):Sig xx:=⟨[.d (.sl (.st SI.Point))],[.d .bool],fun a=>sK n a.1,none⟩
def OA:Hn SI:=(.s .z (.s (.s (.j ⟨[(16,(.v .bool))],[],[0],[],1064,[]⟩ .z) .z) (.s .z (.s (.s .z (.b (.lx ⟨[(21,(.v ah))],[],[0,3,19,20],[1128],1448,[]⟩ 0 ⟨[],[],[3],[1128],1448,[]⟩ (.s .z (.s .z (.s (.b (.s .z (.s .z (.s (.s (.j ⟨[(61,(.v .bool))],[],[0,3,4,19,20,21],[1128],2536,[]⟩ .z) .z) (.s (.j ⟨[(74,(.v .bool))],[],[0,3,19,20,21],[1128],2536,[]⟩ .z) .z))))) .z)))))) (.s (.s .z (.b (.lx ⟨[(78,(.v ah))],[],[3,77],[1128],1640,[]⟩ 2 ⟨[],[],[3],[1128],1640,[]⟩ (.s .z (.s .z (.s (.b (.s .z (.s .z (.b (.lx ⟨[(8,(.v ah))],[],[3,7,77,78],[1128],2024,[]⟩ 4 ⟨[],[],[3,77,78],[1128],2024,[]⟩ (.s .z (.s (.b (.s (.j ⟨[(106,(.v .bool))],[],[3,7,8,77,78],[1128],2280,[]⟩ .z) .z)) .z))))))) .z)))))) .z)))))
theorem OC (n:Nat):aJ 189 (Oz n) :=cq (au (Bq n) (au Mr (au qD (au (Ko n) (au CU aB))))) Tryz.func189 OA n (by kernel_rfl) rfl fun _=>by kernel_rfl
def Ms (n:Nat):Sig xx:=⟨[.d (.sl (.st SI.Point))],[.fresh ak,.d ah],fun a=>qg n a.1,none⟩
def Mt:Hn SI:=(.s .z (.s .z (.s .z (.s (.s .z (.b (.l ⟨[(4,(.o 1576)),(19,(.v ah))],[(1576,.l ah)],[0,17,18],[],1577,[(4,ah)]⟩ 0 ⟨[(4,(.o 1576))],[(1576,.l ah)],[0],[],1577,[]⟩ .z))) (.s .z (.s .z (.s .z (.s .z (.s (.s .z (.b (.l ⟨[(8,(.o 2409)),(38,(.v ah))],[(2409,.l ak)],[4,7,37],[1576,1961],2410,[(8,ak)]⟩ 2 ⟨[(8,(.o 2409))],[(2409,.l ak)],[],[],2410,[]⟩ (.s .z (.s .z (.s (.b (.s .z (.s .z (.s (.s .z (.b (.l ⟨[(10,(.o 2858)),(43,(.v ah))],[(2858,.l ah)],[4,7,8,9,37,38,41,42],[1576,1961,2409],2859,[(10,ah)]⟩ 4 ⟨[(10,(.o 2858))],[(2858,.l ah)],[4,7,8,9,37,38],[1576,1961,2409],2859,[]⟩ (.s .z (.s .z (.s (.j ⟨[(10,(.o 2923))],[(2923,.l ah)],[4,7,8,9,37,38,41,42,43],[1576,1961,2409],2924,[]⟩ (.b (.s .z (.s (.j ⟨[(77,(.v .bool))],[],[4,7,8,9,10,12,37,38,41,42,43],[1576,1961,2409,2858,3051],3179,[]⟩ .z) .z)))) .z)))))) (.s .z (.s .z (.b (.l ⟨[(8,(.o 3051)),(13,(.v ah))],[(3051,.l ak)],[4,7,9,10,37,38],[1576,1961,2858],3052,[]⟩ 6 ⟨[(8,(.o 3051))],[(3051,.l ak)],[4,7,37,38],[1576,1961],3052,[]⟩ .z)))))))) .z)))))) .z)))))))))
theorem Mv (n:Nat):aJ 171 (Ms n) :=cq (au (OC n) (au (oo n) (au (jZ n) (au (Bq n) (au qD aB))))) Tryz.func171 Mt n (by kernel_rfl) rfl fun _=>by kernel_rfl
def Sg (n:Nat):Sig xx:=⟨[.d (.st SI.Zone)],[.fresh ak],fun a=>vK n a.1,none⟩
theorem Si (n:Nat):aJ 149 (Sg n) :=cq (au (Mv n) aB) Tryz.func149 .z n (by kernel_rfl) rfl fun _=>by kernel_rfl
def Zr:Sig xx:=⟨[.d ak],[.d ak,.d .bool],fun a=>AP a.1,none⟩
theorem NV:aJ 93 Zr :=cq (au Bg aB) Tryz.func93 .z 0 (by kernel_rfl) rfl fun _=>by kernel_rfl
def TP:Sig xx:=⟨[.d ak,.d ak],[.d ak,.d .bool],fun a=>yQ a.1 a.2.1,none⟩
def TQ:Hn SI:=(.s .z (.s (.s (.j ⟨[(13,(.v .bool))],[],[2,3,4],[1000,1064,1128],1256,[]⟩ .z) .z) .z))
theorem TS:aJ 169 TP :=cq (au Bg (au NV aB)) Tryz.func169 TQ 0 (by kernel_rfl) rfl fun _=>by kernel_rfl
def aeM:Sig xx:=⟨[.d ak],[.d ah],fun a=>WR a.1,none⟩
theorem aeN:aJ 51 aeM :=cq (au NV aB) Tryz.func51 .z 0 (by kernel_rfl) rfl fun _=>by kernel_rfl
def OD (n:Nat):Sig xx:=⟨[.d (.sl ak),.d (.sl ak)],[.d ah,.d (.st SI.Point)],fun a=>sM n a.1 a.2.1,none⟩
def OE:Hn SI:=(.s .z (.s .z (.s (.s .z (.b (.l ⟨[(6,(.v ah)),(18,(.v ah))],[(1192,.c 2 [[(.v ah),(.v ah)]])],[1,5,7,16,17],[1064],1576,[]⟩ 0 ⟨[(6,(.v ah))],[(1192,.c 2 [[(.v ah),(.v ah)]])],[5,7],[1064],1576,[]⟩ (.s .z (.s .z (.s (.b (.s .z (.s .z (.b (.l ⟨[(6,(.v ah)),(24,(.v ah))],[(1192,.c 2 [[(.v ah),(.v ah)]])],[1,5,7,9,16,17,18,22,23],[1064,1768],2088,[]⟩ 2 ⟨[(6,(.v ah))],[(1192,.c 2 [[(.v ah),(.v ah)]])],[1,5,7,16,17,18],[1064],2088,[]⟩ (.s .z (.s .z (.s (.j ⟨[(6,(.v ah))],[(1192,.c 2 [[(.v ah),(.v ah)]])],[1,5,7,9,16,17,18,22,23,24],[1064,1768],2152,[]⟩ .z) .z)))))))) .z)))))) .z)))
theorem OG (n:Nat):aJ 148 (OD n) :=cq (au TS (au aeN (au lJ (au (Km n) aB)))) Tryz.func148 OE n (by kernel_rfl) rfl fun _=>by kernel_rfl
def OH (n:Nat):Sig xx:=⟨[.d (.st SI.Plan),.d (.sl ak)],[.fresh ah],fun a=>sN n a.1 a.2.1,none⟩
def OI:Hn SI:=(.s .z (.s .z (.s .z (.s (.s .z (.b (.l ⟨[(5,(.o 1640)),(16,(.v ah))],[(1640,.l ah)],[1,14,15],[],1641,[(5,ah)]⟩ 0 ⟨[(5,(.o 1640))],[(1640,.l ah)],[],[],1641,[]⟩ .z))) .z))))
theorem OJ (n:Nat):aJ 118 (OH n) :=cq (au (rV n) (au (Si n) (au (OG n) aB))) Tryz.func118 OI n (by kernel_rfl) rfl fun _=>by kernel_rfl
def Zt (n:Nat):Sig xx:=⟨[.d (.st SI.Plan),.d (.sl ak)],[.fresh .str],fun a=>FW n a.1 a.2.1,none⟩
def Zu:Hn SI:=(.s .z (.s .z (.s .z (.s (.s .z (.b (.l ⟨[(6,(.v ah)),(17,(.v ah))],[],[2,5,15,16],[1000,1256],1640,[]⟩ 0 ⟨[(6,(.v ah))],[],[2,5],[1000,1256],1640,[]⟩ (.s .z (.s .z (.s (.j ⟨[(6,(.v ah))],[],[2,5,15,16,17],[1000,1256],1704,[]⟩ (.b (.s .z (.s (.j ⟨[(44,(.v .bool))],[],[2,5,6,7,15,16,17],[1000,1256],2024,[]⟩ .z) .z)))) .z)))))) (.s .z (.s (.s .z (.b (.l ⟨[(9,(.o 1896)),(49,(.v ah))],[(1896,.l .str)],[2,6,47,48],[1000,1256],1897,[(9,.str)]⟩ 2 ⟨[(9,(.o 1896))],[(1896,.l .str)],[],[],1897,[]⟩ (.s .z (.s .z (.s (.j ⟨[(9,(.o 1961))],[(1961,.l .str)],[2,6,47,48,49],[1000,1256],1962,[]⟩ (.b (.s .z (.s (.j ⟨[(68,(.v .bool))],[],[2,6,9,10,47,48,49],[1000,1256,1896],2281,[]⟩ .z) .z)))) .z)))))) .z))))))
theorem Zv (n:Nat):aJ 85 (Zt n) :=cq (au (OJ n) aB) Tryz.func85 Zu n (by kernel_rfl) rfl fun _=>by kernel_rfl
def Kq (n:Nat):Sig xx:=⟨[.d (.sl .str),.d .str],[.d ah],fun a=>uO n a.1 a.2.1,none⟩
def Kr:Hn SI:=(.s .z (.s (.s .z (.b (.lx ⟨[(8,(.v ah))],[],[0,1,7],[],1256,[]⟩ 0 ⟨[],[],[],[],1256,[]⟩ .z))) .z))
theorem Kt (n:Nat):aJ 167 (Kq n) :=cq aB Tryz.func167 Kr n (by kernel_rfl) rfl fun _=>by kernel_rfl
def Fs (n:Nat):Sig xx:=⟨[.d (.sl .str),.d .str],[.d .bool],fun a=>kF n a.1 a.2.1,none⟩
theorem Fu (n:Nat):aJ 146 (Fs n) :=cq (au (Kt n) aB) Tryz.func146 .z n (by kernel_rfl) rfl fun _=>by kernel_rfl
def Ip (n:Nat):Sig xx:=⟨[.d .str,.ref (.sl .str)],[.d .bool],fun a=>gY n a.1 a.2.1,none⟩
theorem Iq (n:Nat):aJ 145 (Ip n) :=cq (au (Fu n) aB) Tryz.func145 .z n (by kernel_rfl) rfl fun _=>by kernel_rfl
def DU (n:Nat):Sig xx:=⟨[.d (.sl .str),.clo [.str] .bool],[.d ah],fun a=>nI n a.1 a.2.1,none⟩
def DW:Hn SI:=(.s .z (.s (.s .z (.b (.lx ⟨[(8,(.v ah))],[],[0,1,7],[],1256,[]⟩ 0 ⟨[],[],[],[],1256,[]⟩ .z))) .z))
theorem DX (n:Nat):aJ 168 (DU n) :=cq aB Tryz.func168 DW n (by kernel_rfl) rfl fun _=>by kernel_rfl
def zX (n:Nat):Sig xx:=⟨[.d (.sl .str),.clo [.str] .bool],[.d .bool],fun a=>dR n a.1 a.2.1,none⟩
theorem zY (n:Nat):aJ 147 (zX n) :=cq (au (DX n) aB) Tryz.func147 .z n (by kernel_rfl) rfl fun _=>by kernel_rfl
def OL (n:Nat):Sig xx:=⟨[.d (.st SI.Rule),.d (.sl .str)],[.d .bool],fun a=>nU n a.1 a.2.1,none⟩
theorem OM (n:Nat):aJ 117 (OL n) :=cq (au (zY n) (au (Iq n) aB)) Tryz.func117 .z n (by kernel_rfl) rfl fun _=>by kernel_rfl
def Sj (n:Nat):Sig xx:=⟨[.d (.st SI.Plan),.d (.sl .str),.d ah],[.fresh ah],fun a=>vM n a.1 a.2.1 a.2.2.1,none⟩
def Sk:Hn SI:=(.s .z (.s .z (.s (.s .z (.b (.l ⟨[(7,(.o 1448)),(13,(.v ah))],[(1448,.l ah)],[1,2,11,12],[],1449,[(7,ah)]⟩ 0 ⟨[(7,(.o 1448))],[(1448,.l ah)],[],[],1449,[]⟩ (.s .z (.s .z (.s (.j ⟨[(7,(.o 1513))],[(1513,.l ah)],[1,2,11,12,13],[],1514,[]⟩ (.b (.s .z (.s (.j ⟨[(37,(.v .bool))],[],[1,2,7,8,11,12,13],[1448],1897,[]⟩ .z) .z)))) .z)))))) .z)))
theorem Sl (n:Nat):aJ 84 (Sj n) :=cq (au (OM n) aB) Tryz.func84 Sk n (by kernel_rfl) rfl fun _=>by kernel_rfl
def Mw (n:Nat):Sig xx:=⟨[.d (.st SI.Town),.d ah,.d ah],[.fresh (.st SI.Rule)],fun a=>lY n a.1 a.2.1 a.2.2.1,none⟩
def Mx:Hn SI:=(.s .z (.s .z (.s .z (.s .z (.s (.s .z (.b (.l ⟨[(9,(.o 2664)),(31,(.v ah))],[(2664,.l (.st SI.Rule))],[3,29,30],[1000,2472],2665,[(9,(.st SI.Rule))]⟩ 0 ⟨[(9,(.o 2664))],[(2664,.l (.st SI.Rule))],[],[],2665,[]⟩ .z))) .z)))))
theorem Br (n:Nat):aJ 40 (Mw n) :=cq (au (Me n) (au (Zv n) (au (Sl n) aB))) Tryz.func40 Mx n (by kernel_rfl) rfl fun _=>by kernel_rfl
def Ir:Sig xx:=⟨[.d (.st SI.Rule)],[.d ah,.d .bool],fun a=>mO a.1,none⟩
def Iu:Hn SI:=(.s .z (.s (.s (.j ⟨[(22,(.v .bool))],[],[1],[1000],1192,[]⟩ .z) .z) (.s .z (.s (.j ⟨[(6,(.v .bool))],[],[4],[1832],2088,[]⟩ .z) .z))))
theorem Iw:aJ 41 Ir :=cq aB Tryz.func41 Iu 0 (by kernel_rfl) rfl fun _=>by kernel_rfl
def Gh (n:Nat):Sig xx:=⟨[.d (.st SI.Town),.d ah,.d ah],[.d ah],fun a=>jd n a.1 a.2.1 a.2.2.1,none⟩
def Gi:Hn SI:=(.s .z (.s .z (.s (.s .z (.b (.l ⟨[(7,(.v ah)),(17,(.v ah))],[],[15,16],[1384],1576,[]⟩ 0 ⟨[(7,(.v ah))],[],[],[],1576,[]⟩ (.s .z (.s .z (.s (.j ⟨[(7,(.v ah))],[],[15,16,17],[1384],1640,[]⟩ .z) .z)))))) .z)))
theorem vo (n:Nat):aJ 12 (Gh n) :=cq (au (Br n) (au Iw aB)) Tryz.func12 Gi n (by kernel_rfl) rfl fun _=>by kernel_rfl
def abm (n:Nat):Sig xx:=⟨[.d (.sl ak),.d ah],[.d .bool],fun a=>Rn n a.1 a.2.1,none⟩
theorem abn (n:Nat):aJ 63 (abm n) :=cq (au (rV n) aB) Tryz.func63 .z n (by kernel_rfl) rfl fun _=>by kernel_rfl
noncomputable def Sm:Sig xx:=⟨[.d (.sl ak),.d ah],[.fresh (.st SI.slab)],fun a=>EK a.1 a.2.1,none⟩
noncomputable abbrev tn (n:Int):AV:= .t (.sc (.int .i64 n))
noncomputable abbrev eF (l:List aM):List (List AV):=aG (l.map AB)
noncomputable abbrev nC (k:Nat) (s:aX):List AV:=[tn s.x0,tn s.x1,.own k 0 s.column.length]
noncomputable def dY:Nat->List aX->List (List AV)
 |_,[]=>[]
 |k,s::r=>nC k s::dY (k+1) r
noncomputable def hsF (pre:List aX):Nat->Option aH:=fun k=>if 2000<=k then (pre[k - 2000]?).map fun s=>⟨2,eF s.column⟩else none
noncomputable def cK (A:List aj) (d i:Int) (out:AV):List (Nat×AV):=[(1,tn d),(5,out),(10,.t (.sl (A.map iW))),(11,tn (A.length:Int)),(12,tn i)]
noncomputable def Xl (A:List aj) (d i:Int):GSt:=⟨cK A d i .nilsl,[],[]⟩
noncomputable def OO (A:List aj) (d i:Int) (pre:List aX) (c:aX):GSt:=
 ⟨cK A d i (.own 1000 0 (pre.length+1)),[(1000,some ⟨3,dY 2000 pre++[nC 1001 c]⟩),(1001,some ⟨2,eF c.column⟩)],[]⟩
noncomputable def OQ (A:List aj) (d i:Int) (l:List aX):St:=
 match l.getLast? with
 |none=>(Xl A d i).st (fun _=>none)
 |some c=>(OO A d i l.dropLast c).st (hsF l.dropLast)
noncomputable def cA:Code->Code
 | .seq a _=>a
 | .block _ c=>c
 | .loop c=>c
 | .cond _ a _=>a
 |c=>c
noncomputable def cB:Code->Code
 | .seq _ b=>b
 | .cond _ _ b=>b
 |c=>c
noncomputable def cO:Code->Array Oper
 | .region _ o _=>o
 |_=>#[]
noncomputable abbrev hsC:Code:=Tryz.f64.body.getD .skip
noncomputable abbrev hsB:Code:=cA (cA (cB (cA (cB (cB hsC)))))
noncomputable abbrev hsI:Code:=cA (cA (cB (cB hsB)))
noncomputable def an0:Ann:=⟨.none,[],[],false⟩
noncomputable def bx (r:aj):aH:=⟨4,[[tn r.x0,tn r.y0,tn r.x1,tn r.y1]]⟩
noncomputable def ag2 (r:aj):Nat->Ann
 | 0=>⟨.trow (iW r),[],[],false⟩
 | 3=>⟨.none,[nid 2],[nid 2],false⟩
 |_=>an0
theorem af0 {A:List aj} {d i:Int} {out:AV} {O:List (Nat×Option aH)} {F:Nat->Option aH} {r:aj}:
 xP Tryz.prog (kN tab) (cO (cA hsI)) (ag2 r) F (List.range (cO (cA hsI)).size) ⟨cK A d i out,O,[]⟩=
  some (⟨(7,.ptr (nid 2) 0 0)::(15,.agg [tn r.x0,tn r.y0,tn r.x1,tn r.y1])::(14,.rptr (iW r) 0)::cK A d i out,(nid 2,some (bx r))::(nid 2,some ⟨4,[[tn 0,tn 0,tn 0,tn 0]]⟩)::O,[(7,none),(15,none),(14,none)]⟩,
   [0<=i∧(A.map iW)[i.toNat]? =some (iW r)]):=by kernel_rfl
noncomputable abbrev fT (A:List aj) (d i:Int) (out:AV):List (Nat×AV):=(7,.ptr 1002 0 0)::cK A d i out
noncomputable abbrev Zw (A:List aj) (d i n:Int) (out:AV):List (Nat×AV):=(8,tn n)::fT A d i out
noncomputable abbrev hsO (r:aj) (K:List (List AV)) (c:List aM):List (Nat×Option aH):=[(1000,some ⟨3,K⟩),(1001,some ⟨2,eF c⟩),(1002,some (bx r))]
noncomputable abbrev hsJ:Code:=cB hsI
theorem agv {A:List aj} {d i:Int} {O:List (Nat×Option aH)} {F:Nat->Option aH}:
 xP Tryz.prog (kN tab) (cO (cA (cA hsJ))) (fun _=>an0) F (List.range (cO (cA (cA hsJ))).size) ⟨fT A d i .nilsl,O,[]⟩=
  some (⟨(8,tn 0)::(17,tn 0)::(16,.nilsl)::fT A d i .nilsl,O,[(8,none),(17,none),(16,none)]⟩,[]):=by kernel_rfl
theorem ag3 {A:List aj} {d i:Int} {m:Nat} {O:List (Nat×Option aH)} {F:Nat->Option aH}:
 xP Tryz.prog (kN tab) (cO (cA (cA hsJ))) (fun _=>an0) F (List.range (cO (cA (cA hsJ))).size) ⟨fT A d i (.own 1000 0 m),O,[]⟩=
  some (⟨(8,tn (m:Int))::(17,tn (m:Int))::(16,.own 1000 0 m)::fT A d i (.own 1000 0 m),O,[(8,none),(17,none),(16,none)]⟩,[]):=by kernel_rfl
noncomputable def af2 (c:aX):Nat->Ann
 | 6=>⟨.none,[1000],[],false⟩
 | 8=>⟨.row (nC 1001 c),[1000],[],false⟩
 | 10=>⟨.none,[1002],[],false⟩
 |_=>an0
noncomputable abbrev TU:Code:=cA (cB (cA hsJ))
noncomputable abbrev bo (b:Bool):AV:= .t (.sc (.bool b))
theorem agw {A:List aj} {d i:Int} {O:List (Nat×Option aH)} {F:Nat->Option aH}:
 xP Tryz.prog (kN tab) (cO TU) (fun _=>an0) F (List.range (cO TU).size) ⟨Zw A d i 0 .nilsl,O,[]⟩=
  some (⟨(30,bo true)::(29,.undef)::(28,.undef)::(27,.undef)::(26,.undef)::(25,.undef)::(24,.undef)::(23,.undef)::(22,.undef)::(21,.undef)::(20,bo true)::(19,bo true)::(18,tn 0)::Zw A d i 0 .nilsl,O,
   [(30,none),(29,some false),(28,some false),(27,some false),(26,some false),(25,some false),(24,some false),(23,some false),(22,some false),(21,some false),(20,none),(19,none),(18,none)]⟩,[true=false->false=true]):=by kernel_rfl
noncomputable abbrev hsW (m:Nat):Int:=i64.wrap ((m:Int) - 1)
theorem ag4 {A:List aj} {d i:Int} {m:Nat} {r:aj} {c:aX} {K:List (List AV)} {F:Nat->Option aH}:
 xP Tryz.prog (kN tab) (cO TU) (af2 c) F (List.range (cO TU).size) ⟨Zw A d i ((m+1:Nat):Int) (.own 1000 0 (m+1)),hsO r K c.column,[]⟩=
  some (⟨(30,bo (c.x0 != r.x0))::(29,bo (c.x0 != r.x0))::(28,tn r.x0)::(27,.ptr 1002 0 0)::(26,tn c.x0)::(25,.ptr 1000 (0+(hsW (m+1)).toNat) 0)::(24,.ptr 1000 (0+(hsW (m+1)).toNat) 0)::(23,tn (hsW (m+1)))::(22,tn ((m+1:Nat):Int))::(21,.own 1000 0 (m+1))::(20,bo false)::(19,bo false)::(18,tn ((m+1:Nat):Int))::Zw A d i ((m+1:Nat):Int) (.own 1000 0 (m+1)),hsO r K c.column,
   [(30,none),(29,none),(28,none),(27,none),(26,none),(25,none),(24,none),(23,none),(22,none),(21,none),(20,none),(19,none),(18,none)]⟩,[0<=hsW (m+1)∧(hsW (m+1)).toNat < m+1,K[0+(hsW (m+1)).toNat]? =some (nC 1001 c)]):=by kernel_rfl
theorem ag5 {c:aX}:M7 (cO TU) (af2 c)=true:=by kernel_rfl
theorem agx:M7 (cO TU) (fun _=>an0)=true:=by kernel_rfl
noncomputable abbrev TW:Code:=cA (cB (cB (cA hsJ)))
noncomputable def af3 (rs:List (List AV)):Nat->Ann
 | 2=>⟨.none,[1002],[],false⟩
 | 4=>⟨.none,[1002],[],false⟩
 | 6=>⟨.row [],[],[],false⟩
 | 7=>⟨.rows rs,[1000,nid 6],[1000],false⟩
 |_=>an0
noncomputable abbrev oq (r:aj):List AV:=[tn r.x0,tn r.x1,.nilsl]
theorem agy {A:List aj} {d i:Int} {r:aj} {F:Nat->Option aH}:
 xP Tryz.prog (kN tab) (cO TW) (af3 [oq r]) F (List.range (cO TW).size) ⟨fT A d i .nilsl,[(1002,some (bx r))],[]⟩=
  some (⟨(5,.own (nid 7) 0 1)::(38,.own (nid 7) 0 1)::(37,.own (nid 6) 0 1)::(36,.agg (oq r))::(35,tn r.x1)::(34,.ptr 1002 0 2)::(33,tn r.x0)::(32,.ptr 1002 0 0)::(31,.nilsl)::fT A d i .nilsl,
   (nid 7,some ⟨3,[oq r]⟩)::(nid 6,some ⟨3,[oq r]⟩)::[(1002,some (bx r))],
   [(5,none),(38,none),(37,none),(36,none),(35,none),(34,none),(33,none),(32,none),(31,none)]⟩,[True∧1=1∧[oq r]=[oq r]∧1*40<=140737488355328∧1<=maxLen]):=by kernel_rfl
theorem ag6 {A:List aj} {d i:Int} {m:Nat} {r:aj} {c:List aM} {K:List (List AV)} {F:Nat->Option aH}:
 xP Tryz.prog (kN tab) (cO TW) (af3 (K++[oq r])) F (List.range (cO TW).size) ⟨fT A d i (.own 1000 0 m),hsO r K c,[]⟩=
  some (⟨(5,.own (nid 7) 0 (K++[oq r]).length)::(38,.own (nid 7) 0 (K++[oq r]).length)::(37,.own (nid 6) 0 1)::(36,.agg (oq r))::(35,tn r.x1)::(34,.ptr 1002 0 2)::(33,tn r.x0)::(32,.ptr 1002 0 0)::(31,.own 1000 0 m)::fT A d i (.own 1000 0 m),
   (nid 7,some ⟨3,K++[oq r]⟩)::(1000,none)::(nid 6,some ⟨3,[oq r]⟩)::hsO r K c,
   [(5,none),(38,none),(37,none),(36,none),(35,none),(34,none),(33,none),(32,none),(31,none)]⟩,[True∧K.length=m∧1=1∧K++[oq r]=K++[oq r]∧(m+1)*40<=140737488355328∧m+1<=maxLen]):=by kernel_rfl
noncomputable abbrev agz:Code:=cA (cB hsJ)
noncomputable def ag7:Nat->Ann
 | 1=>⟨.none,[1002],[],false⟩
 | 5=>⟨.none,[1002],[],false⟩
 |_=>an0
noncomputable abbrev zZ (d:Int) (r:aj):Int:=i64.wrap (r.y0+d)
noncomputable abbrev z8 (d:Int) (r:aj):Int:=i64.wrap (r.y1 - d)
theorem ag8 {A:List aj} {d i:Int} {m:Nat} {r:aj} {c:List aM} {K:List (List AV)} {F:Nat->Option aH}:
 xP Tryz.prog (kN tab) (cO agz) ag7 F (List.range (cO agz).size) ⟨fT A d i (.own 1000 0 m),hsO r K c,[]⟩=
  some (⟨(47,bo (decide (zZ d r < z8 d r)))::(46,tn (z8 d r))::(45,tn d)::(44,tn r.y1)::(43,.ptr 1002 0 3)::(42,tn (zZ d r))::(41,tn d)::(40,tn r.y0)::(39,.ptr 1002 0 1)::fT A d i (.own 1000 0 m),hsO r K c,
   [(47,none),(46,none),(45,none),(44,none),(43,none),(42,none),(41,none),(40,none),(39,none)]⟩,[]):=by kernel_rfl
noncomputable abbrev hsH:Code:=cA (cB (cB hsJ))
noncomputable abbrev agA:Code:=cA hsH
noncomputable abbrev ab5:Code:=cB hsH
noncomputable def ag9:Nat->Ann
 | 4=>⟨.none,[1000],[],false⟩
 |_=>an0
noncomputable abbrev hsP (m:Nat):AV:= .ptr 1000 (0+(hsW m).toNat) 0
theorem aha {A:List aj} {d i:Int} {m:Nat} {r:aj} {c:List aM} {K:List (List AV)} {F:Nat->Option aH}:
 xP Tryz.prog (kN tab) (cO agA) ag9 F (List.range (cO agA).size) ⟨fT A d i (.own 1000 0 m),hsO r K c,[]⟩=
  some (⟨(9,hsP m)::(52,hsP m)::(51,tn (hsW m))::(50,tn (m:Int))::(49,.own 1000 0 m)::(48,.own 1000 0 m)::fT A d i (.own 1000 0 m),hsO r K c,
   [(9,none),(52,none),(51,none),(50,none),(49,none),(48,none)]⟩,[0<=hsW m∧(hsW m).toNat < m]):=by kernel_rfl
noncomputable def aeO (c:aX) (rs K3:List (List AV)):Nat->Ann
 | 2=>⟨.ext 0,[],[],false⟩
 | 16=>⟨.ext 0,[],[],false⟩
 | 4=>⟨.row (nC 1001 c),[1000],[],false⟩
 | 6=>⟨.none,[1002],[],false⟩
 | 10=>⟨.none,[1002],[],false⟩
 | 15=>⟨.rows rs,[1001,nid 14],[1001],false⟩
 | 18=>⟨.set (nC 1001 c) K3,[1000],[1000],false⟩
 |_=>an0
theorem agB {c:aX} {rs K3:List (List AV)}:M7 (cO ab5) (aeO c rs K3)=true:=by kernel_rfl
noncomputable abbrev Sn (d:Int) (r:aj):List AV:=[tn (zZ d r),tn (z8 d r)]
theorem agC {A:List aj} {d i:Int} {m:Nat} {r:aj} {c:aX} {K K3:List (List AV)} {F:Nat->Option aH}:
 xP Tryz.prog (kN tab) (cO ab5) (aeO c (eF c.column++[Sn d r]) K3) F (List.range (cO ab5).size) ⟨(9,hsP m)::fT A d i (.own 1000 0 m),hsO r K c.column,[]⟩=
  some (⟨(70,.ptr 1000 (0+(hsW m).toNat) 2)::(69,hsP m)::(68,.own (nid 15) 0 (eF c.column++[Sn d r]).length)::(67,.own (nid 14) 0 1)::(66,.agg (Sn d r))::(65,tn (z8 d r))::(64,tn d)::(63,tn r.y1)::(62,.ptr 1002 0 3)::(61,tn (zZ d r))::(60,tn d)::(59,tn r.y0)::(58,.ptr 1002 0 1)::(57,.own 1001 0 c.column.length)::(56,.ptr 1000 (0+(hsW m).toNat) 2)::(55,hsP m)::(54,hsP m)::(53,hsP m)::(9,hsP m)::fT A d i (.own 1000 0 m),
   (1000,some ⟨3,K3⟩)::(nid 15,some ⟨2,eF c.column++[Sn d r]⟩)::(1001,none)::(nid 14,some ⟨2,[Sn d r]⟩)::hsO r K c.column,
   [(70,none),(69,none),(68,none),(67,none),(66,none),(65,none),(64,none),(63,none),(62,none),(61,none),(60,none),(59,none),(58,none),(57,none),(56,none),(55,none),(54,none),(53,none)]⟩,
   [K[0+(hsW m).toNat]? =some (nC 1001 c),True∧(eF c.column).length=c.column.length∧1=1∧eF c.column++[Sn d r]=eF c.column++[Sn d r]∧(c.column.length+1)*16<=140737488355328∧c.column.length+1<=maxLen,
    K[0+(hsW m).toNat]? =some (nC 1001 c)∧K3=bR (K.set (0+(hsW m).toNat) (put' (nC 1001 c) 2 [.own (nid 15) 0 (eF c.column++[Sn d r]).length]))]):=by kernel_rfl
theorem eT {L' L2:GSt} {F:Nat->Option aH} (hE:∀ p∈L2.env,(lk L'.ok p.1).join=none∧(lk L'.env p.1).getD .undef=p.2)
 (hO:∀ j o',(L2.st F).obj j=some o'->(L'.st F).obj j=some o') (hok:L2.ok=[]) (old:Old (L2.st F)):Gb.Told (L'.st F) (L2.st F):=by
 refine FR (fun k=>k) (fun k=>k) (fun _=>True) (fun _ _=>rfl) (fun _ _=>rfl) (fun p hp=>?_) (fun j o' hj=>?_) hok old
 ·obtain⟨h1,h2⟩:=hE p hp;exact⟨h1,fun _ _=>trivial,by rw[h2];exact WA _ fun _ _=>rfl⟩
 ·refine⟨j,o',hO j o' hj,trivial,rfl,?_,fun _ _ _ _=>trivial⟩;obtain⟨sz,rows⟩:=o';simp only[sV];congr 1
  conv=>lhs;rw[<- List.map_id rows]
  exact map_congr_left fun r _=>(jJ r fun _ _=>rfl).symm
theorem gU:∀ (l:List aX) (k:Nat),∀ r∈dY k l,∀ j∈aY r,k<=j∧j < k+l.length
 |[],_,r,hr,_,_=>by cases hr
 |s::l,k,r,hr,j,hj=>by
  simp only[dY,mem_cons]at hr;rcases hr with rfl |hr
  ·simp[aY,refs]at hj;subst hj;simp
  ·have:=gU l (k+1) r hr j hj;simp only[length_cons];omega
theorem l9:∀ (l:List aX) (k:Nat),(dY k l).length=l.length
 |[],_=>rfl
 |_::l,k=>by simp only[dY,length_cons,l9 l (k+1)]
theorem Sq:∀ (l:List aX) (k:Nat) (c:aX),dY k (l++[c])=dY k l++[nC (k+l.length) c]
 |[],k,c=>rfl
 |s::l,k,c=>by
  simp only[List.cons_append,dY,Sq l (k+1) c,length_cons];rw[show k+1+l.length=k+(l.length+1)by omega]
theorem Vy:∀ (l:List aX) (k:Nat),bR (dY k l)=dY k l
 |[],_=>rfl
 |s::l,k=>by
  have:=Vy l (k+1);simp only[bR,dY,List.map_cons]at this ⊢;rw[this];rfl
theorem mZ (l:List aM):∀ r∈eF l,∀ j,j∉aY r:=by
 intro r hr j hj;simp only[aG,List.mem_map]at hr;obtain⟨q,⟨s,_,rfl⟩,rfl⟩:=hr;simp[AB,aY,refs]at hj
theorem Bt {pre:List aX} {k:Nat} {o:aH} (h:hsF pre k=some o):2000<=k∧k < 2000+pre.length∧∃ s,pre[k - 2000]? =some s∧o=⟨2,eF s.column⟩:=by
 unfold hsF at h;by_cases hk:2000<=k
 ·rw[if_pos hk,Option.map_eq_some_iff]at h;obtain⟨s,h1,h2⟩:=h;have h3:=(List.getElem?_eq_some_iff.1 h1).1;exact⟨hk,by omega,s,h1,h2.symm⟩
 ·rw[if_neg hk]at h;cases h
theorem adn {r:List AV} {x:AV} (hx:x∈r):∀ j∈refs x,j∈aY r:=fun j hj=>by
 induction r with
 |nil=>cases hx
 |cons y ys ih=>
  simp only[aY,mem_append];rcases mem_cons.1 hx with rfl |hx
  ·exact .inl hj
  ·exact .inr (ih hx)
theorem Aa {E:List (Nat×AV)} {O:List (Nat×Option aH)} {ok:List (Nat×Option Bool)} {F:Nat->Option aH} (hE:∀ p∈E,∀ k∈refs p.2,k < 1000000)
 (hO:∀ p∈O,∀ o,p.2=some o->p.1 < 1000000∧∀ r∈o.rows,∀ j∈aY r,j < 1000000) (hF:∀ k o,F k=some o->k < 1000000∧∀ r∈o.rows,∀ j∈aY r,j < 1000000):Old ((⟨E,O,ok⟩:GSt).st F):=by
 refine⟨fun t k hk=>?_,fun k o hk=>?_⟩
 ·simp only[GSt.st]at hk;cases h:lk E t with
  |none=>rw[h]at hk;simp[refs]at hk
  |some x=>rw[h]at hk;exact hE _ (ko h) k hk
 ·have:k < 1000000∧∀ r∈o.rows,∀ j∈aY r,j < 1000000:=by
   simp only[GSt.st]at hk;cases h:lk O k with
   |none=>rw[h]at hk;exact hF k o hk
   |some x=>rw[h]at hk;exact hO _ (ko h) o hk
  exact⟨this.1,fun r hr x hx j hj=>this.2 r hr j (adn hx j hj)⟩
theorem Xm {pre:List aX} (hp:pre.length<=500000):∀ k o,hsF pre k=some o->k < 1000000∧∀ r∈o.rows,∀ j∈aY r,j < 1000000:=by
 intro k o h;obtain⟨h1,h2,s,_,rfl⟩:=Bt h;exact⟨by omega,fun r hr j hj=>(mZ _ r hr j hj).elim⟩
theorem kL {A:List aj} {d i:Int} {out:AV} {E:List (Nat×AV)} (hE:∀ p∈E,∀ k∈refs p.2,k < 1000000) (ho:∀ k∈refs out,k < 1000000):∀ p∈E++cK A d i out,∀ k∈refs p.2,k < 1000000:=by
 intro p hp k hk;rcases mem_append.1 hp with hp |hp
 ·exact hE p hp k hk
 ·simp only[cK,mem_cons,List.not_mem_nil,or_false]at hp;rcases hp with rfl |rfl |rfl |rfl |rfl
  ·simp[refs]at hk
  ·exact ho k hk
  ·simp[refs]at hk
  ·simp[refs]at hk
  ·simp[refs]at hk
noncomputable abbrev hsM (E:List (Nat×AV)) (r:aj) (pre:List aX) (c:aX):St:=(⟨E,hsO r (dY 2000 pre++[nC 1001 c]) c.column,[]⟩:GSt).st (hsF pre)
noncomputable abbrev jo (pre:List aX):AV:= .own 1000 0 (pre.length+1)
theorem Ku {A:List aj} {d i:Int} {E:List (Nat×AV)} {r:aj} {pre:List aX} {c:aX} (hE:∀ p∈E,∀ k∈refs p.2,k < 1000000) (hp:pre.length<=500000):Old (hsM (E++cK A d i (jo pre)) r pre c):=by
 refine Aa (kL hE (by simp[refs])) (fun p hp' o ho=>?_) (Xm hp);simp only[hsO,mem_cons,List.not_mem_nil,or_false]at hp';rcases hp' with rfl |rfl |rfl
 ·injection ho with ho;subst ho;refine⟨by simp,fun q hq j hj=>?_⟩;rcases mem_append.1 hq with hq |hq
  ·have:=gU _ _ q hq j hj;omega
  ·rw[mem_singleton]at hq;subst hq;simp[aY,refs]at hj;omega
 ·injection ho with ho;subst ho;exact⟨by simp,fun q hq j hj=>(mZ _ q hq j hj).elim⟩
 ·injection ho with ho;subst ho;refine⟨by simp,fun q hq j hj=>?_⟩;simp only[bx,mem_singleton]at hq;subst hq;simp[aY,refs]at hj
theorem Xn {m:Nat} (h:m<=500000):hsW (m+1)=(m:Int):=by
 have e:((m+1:Nat):Int) - 1=(m:Int):=by omega
 unfold hsW;rw[e];exact kR (by omega)
theorem MB {A:List aj} {d i:Int} {r:aj} {pre:List aX} {c:aX} (hp:pre.length<=500000):Old (hsM (fT A d i (jo pre)) r pre c):=
 Ku (E:=[(7,.ptr 1002 0 0)]) (fun p hp' k hk=>by
  simp only[mem_singleton]at hp';subst hp';simp[refs]at hk;omega) hp
theorem Xo {pre:List aX} {c:aX} (h:pre.length<=500000):(dY 2000 pre++[nC 1001 c])[0+(hsW (pre.length+1)).toNat]? =some (nC 1001 c):=by
 rw[Xn h,Nat.zero_add,Int.toNat_natCast,List.getElem?_append_right (by rw[l9];omega),l9,Nat.sub_self];rfl
noncomputable abbrev NW (A:List aj) (d i:Int) (pre:List aX) (c:aX):St:=(OO A d i pre c).st (hsF pre)
theorem pI {A:List aj} {d i:Int} {pre:List aX} {c:aX} (hp:pre.length<=500000):Old (NW A d i pre c):=by
 refine Aa (kL (E:=[]) (fun p hp'=>by cases hp') (by simp[refs])) (fun p hp' o ho=>?_) (Xm hp);simp only[mem_cons,List.not_mem_nil,or_false]at hp';rcases hp' with rfl |rfl
 ·injection ho with ho;subst ho;refine⟨by simp,fun q hq j hj=>?_⟩;rcases mem_append.1 hq with hq |hq
  ·have:=gU _ _ q hq j hj;omega
  ·rw[mem_singleton]at hq;subst hq;simp[aY,refs]at hj;omega
 ·injection ho with ho;subst ho;exact⟨by simp,fun q hq j hj=>(mZ _ q hq j hj).elim⟩
theorem Sr {Q:Exit->St->Prop} {A:List aj} {d i:Int} {r:aj} {pre:List aX} {c:aX} (hp:pre.length<=500000) (hc:c.column.length<=500000)
 (hq:Q .normal (NW A d i pre (if zZ d r < z8 d r then⟨c.x0,c.x1,c.column++[⟨zZ d r,z8 d r⟩]⟩else c))):
 Ev Tryz.prog Tryz.f64.ntmps (cB hsJ) Q (hsM (fT A d i (jo pre)) r pre c):=by
 show Ev _ _ (Code.seq (cA (cB hsJ)) (cB (cB hsJ))) Q _;refine gH ?_;refine dL (ops:=cO agz) (σ2:=hsM ((47,bo (decide (zZ d r < z8 d r)))::fT A d i (jo pre)) r pre c) lV (by kernel_rfl) ag8 trivial ?_ ?_
 ·refine eT (fun p hp'=>?_) (fun _ _ h=>h) rfl ?_
  ·simp only[fT,cK,mem_cons,List.not_mem_nil,or_false]at hp';rcases hp' with rfl |rfl |rfl |rfl |rfl |rfl |rfl<;>exact⟨rfl,rfl⟩
  ·exact Ku (E:=[(47,bo _),(7,.ptr 1002 0 0)]) (fun p hp' k hk=>by
    simp only[mem_cons,List.not_mem_nil,or_false]at hp';rcases hp' with rfl |rfl
    ·simp[refs]at hk
    ·simp[refs]at hk;omega) hp
 show Ev _ _ (Code.cond (.tmp 47) (cA (cB (cB hsJ))) (cB (cB (cB hsJ)))) Q _;refine BK (decide (zZ d r < z8 d r)) (fun _ _=>rfl) rfl ?_;by_cases hlt:zZ d r < z8 d r
 ·rw[if_pos hlt]at hq;rw[show decide (zZ d r < z8 d r)=true from decide_eq_true hlt];refine Cc (σ2:=hsM (fT A d i (jo pre)) r pre c) ?_ ?_
  ·refine eT (fun p hp'=>?_) (fun _ _ h=>h) rfl (MB hp);simp only[fT,cK,mem_cons,List.not_mem_nil,or_false]at hp';rcases hp' with rfl |rfl |rfl |rfl |rfl |rfl<;>exact⟨rfl,rfl⟩
  show Ev _ _ (Code.seq (cA hsH) (cB hsH)) Q _;refine gH ?_;refine dL (ops:=cO agA) (σ2:=hsM ((9,hsP (pre.length+1))::fT A d i (jo pre)) r pre c) lV (by kernel_rfl) aha (by rw[Xn hp];exact⟨by omega,by omega⟩) ?_ ?_
  ·refine eT (fun p hp'=>?_) (fun _ _ h=>h) rfl ?_
   ·simp only[fT,cK,mem_cons,List.not_mem_nil,or_false]at hp';rcases hp' with rfl |rfl |rfl |rfl |rfl |rfl |rfl<;>exact⟨rfl,rfl⟩
   ·exact Ku (E:=[(9,hsP (pre.length+1)),(7,.ptr 1002 0 0)]) (fun p hp' k hk=>by
     simp only[mem_cons,List.not_mem_nil,or_false]at hp';rcases hp' with rfl |rfl
     ·simp[refs]at hk;omega
     ·simp[refs]at hk;omega) hp
  have hl:(eF c.column).length=c.column.length:=by simp[aG]
  have hK3:bR ((dY 2000 pre++[nC 1001 c]).set (0+(hsW (pre.length+1)).toNat) (put' (nC 1001 c) 2 [.own (nid 15) 0 (eF c.column++[Sn d r]).length]))=dY 2000 pre++[[tn c.x0,tn c.x1,.own (nid 15) 0 (c.column.length+1)]]:=by
   rw[Xn hp,Nat.zero_add,Int.toNat_natCast,List.set_append_right _ _ (by rw[l9];omega),l9,Nat.sub_self];have:=Vy pre 2000;simp only[bR]at this ⊢;rw[map_append,this,List.length_append,hl];rfl
  refine Hf (ops:=cO ab5) (L':=_) (obs:=_) lV mixed (by kernel_rfl) agB agC ⟨Xo hp,⟨trivial,hl,rfl,rfl,by omega,?_⟩,Xo hp,hK3.symm⟩ ?_ hq
  ·have:(500000:Nat) < maxLen:=(by decide);omega
  refine FR (fun k=>if k=nid 15 then 1001 else k) (fun k=>if k=1001 then nid 15 else k) (fun k=>k≠1001) (fun k hk=>?_) (fun j hj=>by rw[if_neg (by omega)]) (fun p hp'=>?_) (fun j o' hj=>?_) rfl (pI hp)
  ·by_cases e:k=nid 15
   ·rw[if_pos e,if_pos rfl,e]
   ·rw[if_neg e,if_neg hk]
  ·simp only[OO,cK,mem_cons,List.not_mem_nil,or_false]at hp';rcases hp' with rfl |rfl |rfl |rfl |rfl
   ·exact⟨rfl,fun k hk=>absurd (show k∈([]:List Nat)from hk) (List.not_mem_nil),rfl⟩
   ·exact⟨rfl,fun k hk=>by have:=mem_singleton.1 (show k∈[1000]from hk);omega,rfl⟩
   ·exact⟨rfl,fun k hk=>absurd (show k∈([]:List Nat)from hk) (List.not_mem_nil),rfl⟩
   ·exact⟨rfl,fun k hk=>absurd (show k∈([]:List Nat)from hk) (List.not_mem_nil),rfl⟩
   ·exact⟨rfl,fun k hk=>absurd (show k∈([]:List Nat)from hk) (List.not_mem_nil),rfl⟩
  ·simp only[OO,GSt.st,lk]at hj;by_cases e0:1000=j
   ·rw[if_pos e0]at hj;injection hj with hj;subst e0 hj;refine⟨1000,_,rfl,by omega,rfl,?_,fun q hq k hk=>?_⟩
    ·simp only[sV];have hf:(dY 2000 pre).map (pR fun k=>if k=nid 15 then 1001 else k)=dY 2000 pre:=by
      have:∀ q∈dY 2000 pre,pR (fun k=>if k=nid 15 then 1001 else k) q=q:=fun q hq=>jJ q fun k hk=>if_neg (by have:=gU _ _ q hq k hk;simp only[nid];omega)
      conv=>rhs;rw[<- List.map_id (dY 2000 pre)]
      exact map_congr_left this
     rw[map_append,hf];simp only[nC,List.length_append,length_cons,List.length_nil,Nat.zero_add];rfl
    ·rcases mem_append.1 hq with hq |hq
     ·have:=gU _ _ q hq k hk;omega
     ·rw[mem_singleton]at hq;subst hq;simp[aY,refs,nid]at hk;omega
   ·rw[if_neg e0]at hj;by_cases e1:1001=j
    ·rw[if_pos e1]at hj;injection hj with hj;subst e1 hj;have hsp:eF (c.column++[⟨zZ d r,z8 d r⟩])=eF c.column++[Sn d r]:=(by simp only[aG,map_append];rfl);refine⟨nid 15,⟨2,eF c.column++[Sn d r]⟩,rfl,by simp[nid],rfl,?_,fun q hq k hk=>?_⟩
     ·simp only[sV];rw[<- hsp];congr 1
      conv=>lhs;rw[<- List.map_id (eF _)]
      exact map_congr_left fun q hq=>(jJ q fun k hk=>(mZ _ q hq k hk).elim).symm
     ·rw[<- hsp]at hq;exact (mZ _ q hq k hk).elim
    ·rw[if_neg e1]at hj;obtain⟨h1,h2,s,h3,rfl⟩:=Bt hj;have hn:j≠nid 15:=(by simp only[nid];omega);have hn':j≠nid 14:=(by simp only[nid];omega);refine⟨j,⟨2,eF s.column⟩,?_,fun e=>e1 e.symm,if_neg hn,?_,fun q hq k hk=>(mZ _ q hq k hk).elim⟩
     ·simp only[GSt.st,lk];rw[if_neg e0,if_neg (Ne.symm hn),if_neg e1,if_neg (Ne.symm hn')];rw[if_neg e0,if_neg e1,if_neg (by omega)];exact hj
     ·simp only[sV];congr 1
      conv=>lhs;rw[<- List.map_id (eF _)]
      exact map_congr_left fun q hq=>(jJ q fun k hk=>(mZ _ q hq k hk).elim).symm
 ·rw[if_neg hlt]at hq;rw[show decide (zZ d r < z8 d r)=false from decide_eq_false hlt];refine Cc (σ2:=NW A d i pre c) ?_ (IZ hq);refine eT (fun p hp'=>?_) (fun j o' hj=>?_) rfl (pI hp)
  ·simp only[OO,cK,mem_cons,List.not_mem_nil,or_false]at hp';rcases hp' with rfl |rfl |rfl |rfl |rfl<;>exact⟨rfl,rfl⟩
  ·simp only[OO,GSt.st,lk]at hj ⊢;by_cases e:1002=j
   ·subst e;simp[hsF]at hj
   ·rw[if_neg e];exact hj
theorem aeP {Q:Exit->St->Prop} {cd:Code} {A:List aj} {d i:Int} {r:aj} {pre:List aX} (_hp:pre.length<=500000)
 (hq:Ev Tryz.prog Tryz.f64.ntmps cd Q (hsM (fT A d i (jo pre)) r pre ⟨r.x0,r.x1,[]⟩)):
 Ev Tryz.prog Tryz.f64.ntmps cd Q ((⟨fT A d i (jo pre),[(1000,some ⟨3,dY 2000 pre++[oq r]⟩),(1002,some (bx r))],[]⟩:GSt).st (hsF pre)):=by
 refine acL (σ2:=hsM (fT A d i (jo pre)) r pre ⟨r.x0,r.x1,[]⟩) (K:=1000) (k0:=1001) (sz:=3) (sz0:=2) (R:=dY 2000 pre) (q:=[tn r.x0,tn r.x1]) (by omega) (by omega) (by omega) rfl (fun t=>?_) (fun k o hk=>?_) rfl rfl (fun k=>?_) (fun _=>rfl) hq
 ·intro hk;simp only[GSt.st]at hk;cases h:lk (fT A d i (jo pre)) t with
  |none=>rw[h]at hk;simp[refs]at hk
  |some x=>
   rw[h]at hk;have:=ko h;simp only[fT,cK,mem_cons,List.not_mem_nil,or_false,Prod.mk.injEq]at this;rcases this with ⟨_,rfl⟩ |⟨_,rfl⟩ |⟨_,rfl⟩ |⟨_,rfl⟩ |⟨_,rfl⟩ |⟨_,rfl⟩<;>simp[refs]at hk
 ·simp only[GSt.st,lk]at hk;by_cases e0:1000=k
  ·rw[if_pos e0]at hk;injection hk with hk;subst e0 hk;refine⟨by omega,fun q hq hk=>?_⟩;rcases mem_append.1 hq with hq |hq
   ·have:=gU _ _ q hq _ hk;omega
   ·rw[mem_singleton]at hq;subst hq;simp[aY,refs]at hk
  ·rw[if_neg e0]at hk;by_cases e2:1002=k
   ·rw[if_pos e2]at hk;injection hk with hk;subst e2 hk;refine⟨by omega,fun q hq hk=>?_⟩;simp only[bx,mem_singleton]at hq;subst hq;simp[aY,refs]at hk
   ·rw[if_neg e2]at hk;obtain⟨h1,_,s,_,rfl⟩:=Bt hk;exact⟨by omega,fun q hq hk=>mZ _ q hq _ hk⟩
 ·simp only[hsM,GSt.st,lk];by_cases e1:k=1001
  ·subst e1;simp[aG]
  ·rw[if_neg e1];by_cases e0:k=1000
   ·subst e0;rfl
   ·rw[if_neg e0,if_neg (Ne.symm e0),if_neg (Ne.symm e1),if_neg (Ne.symm e0)]
theorem Kv {A:List aj} {d i:Int} {E:List (Nat×AV)} {r:aj} (hE:∀ p∈E,∀ k∈refs p.2,k < 1000000):Old ((⟨E++cK A d i .nilsl,[(1002,some (bx r))],[]⟩:GSt).st fun _=>none):=by
 refine Aa (kL hE (by simp[refs])) (fun p hp' o ho=>?_) (fun k o h=>by cases h);rw[mem_singleton]at hp';subst hp';injection ho with ho;subst ho;refine⟨by simp,fun q hq j hj=>?_⟩;simp only[bx,mem_singleton]at hq;subst hq;simp[aY,refs]at hj
theorem ab6 {A:List aj} {d i:Int} {r:aj} {pre:List aX} (hp:pre.length<=500000):Old ((⟨fT A d i (jo pre),[(1000,some ⟨3,dY 2000 pre++[oq r]⟩),(1002,some (bx r))],[]⟩:GSt).st (hsF pre)):=by
 refine Aa (kL (E:=[(7,.ptr 1002 0 0)]) (fun p hp' k hk=>by
  rw[mem_singleton]at hp';subst hp';simp[refs]at hk;omega) (by simp[refs])) (fun p hp' o ho=>?_) (Xm hp)
 simp only[mem_cons,List.not_mem_nil,or_false]at hp';rcases hp' with rfl |rfl
 ·injection ho with ho;subst ho;refine⟨by simp,fun q hq j hj=>?_⟩;rcases mem_append.1 hq with hq |hq
  ·have:=gU _ _ q hq j hj;omega
  ·rw[mem_singleton]at hq;subst hq;simp[aY,refs]at hj
 ·injection ho with ho;subst ho;refine⟨by simp,fun q hq j hj=>?_⟩;simp only[bx,mem_singleton]at hq;subst hq;simp[aY,refs]at hj
theorem ado {cd:Code} {Q:Exit->St->Prop} {A:List aj} {d i:Int} {r:aj}
 (hq:Ev Tryz.prog Tryz.f64.ntmps cd Q (hsM (fT A d i (jo [])) r [] ⟨r.x0,r.x1,[]⟩)):
 Ev Tryz.prog Tryz.f64.ntmps (cA hsJ) (Uo (Ev Tryz.prog Tryz.f64.ntmps cd Q) Q) ((⟨fT A d i .nilsl,[(1002,some (bx r))],[]⟩:GSt).st fun _=>none):=by
 show Ev _ _ (Code.seq (cA (cA hsJ)) (Code.seq TU (cB (cB (cA hsJ))))) _ _;refine gH ?_;refine dL (ops:=cO (cA (cA hsJ))) (σ2:=(⟨Zw A d i 0 .nilsl,[(1002,some (bx r))],[]⟩:GSt).st fun _=>none) lV (by kernel_rfl) agv trivial ?_ ?_
 ·refine eT (fun p hp'=>?_) (fun _ _ h=>h) rfl (Kv (E:=[(8,tn 0),(7,.ptr 1002 0 0)]) fun p hp' k hk=>?_)
  ·simp only[Zw,fT,cK,mem_cons,List.not_mem_nil,or_false]at hp';rcases hp' with rfl |rfl |rfl |rfl |rfl |rfl |rfl<;>exact⟨rfl,rfl⟩
  ·simp only[mem_cons,List.not_mem_nil,or_false]at hp';rcases hp' with rfl |rfl
   ·simp[refs]at hk
   ·simp[refs]at hk;omega
 refine gH ?_;refine Hf (ops:=cO TU) (σ2:=(⟨(30,bo true)::fT A d i .nilsl,[(1002,some (bx r))],[]⟩:GSt).st fun _=>none) lV mixed (by kernel_rfl) agx agw (fun h=>by cases h) ?_ ?_
 ·refine eT (fun p hp'=>?_) (fun _ _ h=>h) rfl (Kv (E:=[(30,bo true),(7,.ptr 1002 0 0)]) fun p hp' k hk=>?_)
  ·simp only[fT,cK,mem_cons,List.not_mem_nil,or_false]at hp';rcases hp' with rfl |rfl |rfl |rfl |rfl |rfl |rfl<;>exact⟨rfl,rfl⟩
  ·simp only[mem_cons,List.not_mem_nil,or_false]at hp';rcases hp' with rfl |rfl
   ·simp[refs]at hk
   ·simp[refs]at hk;omega
 show Ev _ _ (Code.cond (.tmp 30) TW (cB (cB (cB (cA hsJ))))) _ _;refine BK true (fun _ _=>rfl) rfl ?_;refine Cc (σ2:=(⟨fT A d i .nilsl,[(1002,some (bx r))],[]⟩:GSt).st fun _=>none) ?_ ?_
 ·refine eT (fun p hp'=>?_) (fun _ _ h=>h) rfl (Kv (E:=[(7,.ptr 1002 0 0)]) fun p hp' k hk=>?_)
  ·simp only[fT,cK,mem_cons,List.not_mem_nil,or_false]at hp';rcases hp' with rfl |rfl |rfl |rfl |rfl |rfl<;>exact⟨rfl,rfl⟩
  ·rw[mem_singleton]at hp';subst hp';simp[refs]at hk;omega
 show Ev _ _ (Code.region _ (cO TW) false) _ _;refine dL (ops:=cO TW) (σ2:=(⟨fT A d i (jo []),[(1000,some ⟨3,dY 2000 []++[oq r]⟩),(1002,some (bx r))],[]⟩:GSt).st (hsF [])) lV (by kernel_rfl) agy ⟨trivial,rfl,rfl,by omega,by decide⟩ ?_ (aeP (by simp) hq);refine FR (fun k=>if k=nid 7 then 1000 else k) (fun k=>if k=1000 then nid 7 else k) (fun k=>k≠1000) (fun k hk=>?_) (fun j hj=>by rw[if_neg (by omega)]) (fun p hp'=>?_) (fun j o' hj=>?_) rfl (ab6 (by simp))
 ·by_cases e:k=nid 7
  ·rw[if_pos e,if_pos rfl,e]
  ·rw[if_neg e,if_neg hk]
 ·simp only[fT,cK,mem_cons,List.not_mem_nil,or_false]at hp';rcases hp' with rfl |rfl |rfl |rfl |rfl |rfl
  ·exact⟨rfl,fun k hk=>by have:=mem_singleton.1 (show k∈[1002]from hk);omega,rfl⟩
  ·exact⟨rfl,fun k hk=>absurd (show k∈([]:List Nat)from hk) (List.not_mem_nil),rfl⟩
  ·exact⟨rfl,fun k hk=>by have:=mem_singleton.1 (show k∈[nid 7]from hk);simp only[nid]at this;omega,rfl⟩
  ·exact⟨rfl,fun k hk=>absurd (show k∈([]:List Nat)from hk) (List.not_mem_nil),rfl⟩
  ·exact⟨rfl,fun k hk=>absurd (show k∈([]:List Nat)from hk) (List.not_mem_nil),rfl⟩
  ·exact⟨rfl,fun k hk=>absurd (show k∈([]:List Nat)from hk) (List.not_mem_nil),rfl⟩
 ·simp only[GSt.st,lk]at hj;by_cases e0:1000=j
  ·rw[if_pos e0]at hj;injection hj with hj;subst e0 hj;refine⟨nid 7,⟨3,[oq r]⟩,rfl,by simp[nid],rfl,rfl,fun q hq k hk=>?_⟩;rw[mem_singleton]at hq;subst hq;simp[aY,refs]at hk
  ·rw[if_neg e0]at hj;by_cases e2:1002=j
   ·rw[if_pos e2]at hj;injection hj with hj;subst e2 hj;refine⟨1002,bx r,rfl,by omega,rfl,rfl,fun q hq k hk=>?_⟩;simp only[bx,mem_singleton]at hq;subst hq;simp[aY,refs]at hk
   ·rw[if_neg e2]at hj;obtain⟨h1,h2,_⟩:=Bt hj;simp at h2;omega
end
end Go.Proofs
