/-
  Printed by wip/gen: that functions of the program compute this.
-/
import Derived.Test.YtbploijhogfmnaaGreatS2
open List (map_cons)
namespace Go.Proofs
open Go.Gb Go.RowKit
noncomputable section
def Zg:Sig xx:=⟨[.d ah,.d ah],[.fresh aA],fun a=>J5 a.1 a.2.1,none⟩
theorem Zh:aG 30 Zg :=cq ax Tryz.func30 .z 0 (by kernel_rfl) rfl fun _=>by kernel_rfl
def RF:Sig xx:=⟨[],[.d (.st SI.Town)],fun _=>DZ,none⟩
theorem RG:aG 14 RF :=cq (aj Zh ax) Tryz.func14 .z 0 (by kernel_rfl) rfl fun _=>by kernel_rfl
def aa1:Sig xx:=⟨[.d ah,.d ah,.d ah],[.d (.st SI.Drawing)],fun a=>MH a.1 a.2.1 a.2.2.1,none⟩
theorem aa2:aG 15 aa1 :=cq ax Tryz.func15 .z 0 (by kernel_rfl) rfl fun _=>by kernel_rfl
def Bv (n:Nat):Sig xx:=⟨[.d (.sl (.st SI.Table)),.clo [(.st SI.Table)] .bool],[.d ah],fun a=>jc n a.1 a.2.1,none⟩
def Bw:Hn SI:=(.s .z (.s (.s .z (.b (.lx ⟨[(8,(.v ah))],[],[0,1,7],[],1256,[]⟩ 0 ⟨[],[],[],[],1256,[]⟩ .z))) .z))
theorem pY (n:Nat):aG 57 (Bv n) :=cq ax Tryz.func57 Bw n (by kernel_rfl) rfl fun _=>by kernel_rfl
def Uz:Sig xx:=⟨[.d (.st SI.Table)],[.d .bool],fun a=>PO a.1,none⟩
theorem UA:aG 58 Uz :=cq ax Tryz.func58 .z 0 (by kernel_rfl) rfl fun _=>by kernel_rfl
def UB:Sig xx:=⟨[.d (.st SI.Entry),.ref .str],[.d .bool],fun a=>PS a.1 a.2.1,none⟩
theorem UC:aG 60 UB :=cq ax Tryz.func60 .z 0 (by kernel_rfl) rfl fun _=>by kernel_rfl
def Bz (n:Nat):Sig xx:=⟨[.d (.sl (.st SI.Entry)),.clo [(.st SI.Entry)] .bool],[.d ah],fun a=>jd n a.1 a.2.1,none⟩
def BA:Hn SI:=(.s .z (.s (.s .z (.b (.lx ⟨[(8,(.v ah))],[],[0,1,7],[],1256,[]⟩ 0 ⟨[],[],[],[],1256,[]⟩ .z))) .z))
theorem p8 (n:Nat):aG 59 (Bz n) :=cq ax Tryz.func59 BA n (by kernel_rfl) rfl fun _=>by kernel_rfl
def aa3 (n:Nat):Sig xx:=⟨[.d (.st SI.Plan),.d .str],[.d ah],fun a=>Hl n a.1 a.2.1,none⟩
theorem UD (n:Nat):aG 29 (aa3 n) :=cq (aj (pY n) (aj UA (aj (p8 n) (aj UC ax)))) Tryz.func29 .z n (by kernel_rfl) rfl fun _=>by kernel_rfl
def Om (n:Nat):Sig xx:=⟨[.d (.st SI.Plan),.d (.st SI.Drawing)],[.d ah],fun a=>dw n a.1 a.2.1,none⟩
def Oo:Hn SI:=(.s .z (.s .z (.s .z (.s (.s .z (.b (.l ⟨[(6,(.v ah)),(15,(.v ah))],[],[2,5,13,14],[1000,1256],1704,[]⟩ 0 ⟨[(6,(.v ah))],[],[],[],1704,[]⟩ (.s .z (.s .z (.s (.b (.s .z (.s .z (.b (.l ⟨[(6,(.v ah)),(22,(.v ah))],[],[2,5,13,14,15,20,21],[1000,1256],2280,[]⟩ 2 ⟨[(6,(.v ah))],[],[2,5,13,14,15],[1000,1256],2280,[]⟩ (.s .z (.s .z (.s (.j ⟨[(6,(.v ah))],[],[2,5,13,14,15,20,21,22],[1000,1256],2344,[]⟩ (.b (.s .z (.s (.j ⟨[(33,(.v .bool))],[],[2,5,6,10,13,14,15,20,21,22],[1000,1256,2472],2600,[]⟩ .z) .z)))) .z)))))))) .z)))))) .z))))
theorem vG (n:Nat):aG 12 (Om n) :=cq (aj (UD n) ax) Tryz.func12 Oo n (by kernel_rfl) rfl fun _=>by kernel_rfl
def Zi (n:Nat):Sig xx:=⟨[.d (.st SI.Plan)],[.d ah],fun a=>yI n a.1,none⟩
theorem Qe (n:Nat):aG 13 (Zi n) :=cq (aj (UD n) ax) Tryz.func13 .z n (by kernel_rfl) rfl fun _=>by kernel_rfl
def JC:Sig xx:=⟨[.d (.sl aA)],[.fresh aA],fun a=>oI a.1,none⟩
theorem zH:aG 42 JC :=cq ax Tryz.func42 .z 0 (by kernel_rfl) rfl fun _=>by kernel_rfl
def M7:Sig xx:=⟨[.d (.sl ah)],[.fresh ah],fun a=>yJ a.1,none⟩
theorem M8:aG 43 M7 :=cq ax Tryz.func43 .z 0 (by kernel_rfl) rfl fun _=>by kernel_rfl
def WB:Sig xx:=⟨[.d (.st SI.Lot)],[.d (.st SI.Lot)],fun a=>FD a.1,none⟩
theorem WC:aG 23 WB :=cq (aj zH (aj M8 ax)) Tryz.func23 .z 0 (by kernel_rfl) rfl fun _=>by kernel_rfl
def Zj (n:Nat):Sig xx:=⟨[.d (.sl (.st SI.Lot)),.d ah],[.d (.st SI.Lot),.d .bool],fun a=>mQ n a.1 a.2.1,none⟩
def Zk:Hn SI:=(.s .z (.s (.s .z (.b (.lx ⟨[(10,(.v ah))],[],[1,4,8,9],[1000],1320,[]⟩ 0 ⟨[],[],[4],[1000],1320,[]⟩ .z))) .z))
theorem Cn (n:Nat):aG 8 (Zj n) :=cq (aj WC ax) Tryz.func8 Zk n (by kernel_rfl) rfl fun _=>by kernel_rfl
def Zl:Sig xx:=⟨[.d aA],[.d .bool],fun a=>uQ a.1,none⟩
theorem H7:aG 46 Zl :=cq ax Tryz.func46 .z 0 (by kernel_rfl) rfl fun _=>by kernel_rfl
def M9:Sig xx:=⟨[.nil,.d ah],[.fresh aA],fun a=>FE a.1 a.2.1,none⟩
theorem Na:aG 110 M9 :=cq ax Tryz.func110 .z 0 (by kernel_rfl) rfl fun _=>by kernel_rfl
def H8 (n:Nat):Sig xx:=⟨[.d (.sl (.sl aA))],[.fresh aA],fun a=>sM n a.1,none⟩
def H9:Hn SI:=(.s .z (.s .z (.s (.s .z (.b (.l ⟨[(3,(.v ah)),(11,(.v ah))],[],[0,9,10],[],1320,[]⟩ 0 ⟨[(3,(.v ah))],[],[0],[],1320,[]⟩ .z))) (.s .z (.s (.s .z (.b (.l ⟨[(6,(.o 1704)),(27,(.v ah))],[(1704,.l aA)],[25,26],[],1705,[]⟩ 2 ⟨[(6,(.o 1704))],[(1704,.l aA)],[],[],1705,[]⟩ .z))) .z)))))
theorem Ia (n:Nat):aG 97 (H8 n) :=cq (aj Na ax) Tryz.func97 H9 n (by kernel_rfl) rfl fun _=>by kernel_rfl
def RH:Sig xx:=⟨[.d (.int .u64)],[.d ah],fun a=>bits_Len64 a.1,none⟩
def RI:Hn SI:=(.s .z (.s (.j ⟨[(0,(.v (.int .u64))),(2,(.v ah))],[],[],[],1064,[]⟩ .z) (.s (.j ⟨[(0,(.v (.int .u64))),(2,(.v ah))],[],[],[],1064,[]⟩ .z) (.s (.j ⟨[(0,(.v (.int .u64))),(2,(.v ah))],[],[],[],1064,[]⟩ .z) .z))))
theorem RJ:aG 91 RH :=cq ax Tryz.func91 RI 0 (by kernel_rfl) rfl fun _=>by kernel_rfl
def WE:Sig xx:=⟨[.d (.int .u64)],[.d ah],fun a=>bits_Len a.1,none⟩
theorem Ee:aG 62 WE :=cq (aj RJ ax) Tryz.func62 .z 0 (by kernel_rfl) rfl fun _=>by kernel_rfl
def JD:Sig xx:=⟨[.d ah],[.d .bool],fun a=>cmp_isNaN_int a.1,none⟩
theorem zI:aG 104 JD :=cq ax Tryz.func104 .z 0 (by kernel_rfl) rfl fun _=>by kernel_rfl
def Nb:Sig xx:=⟨[.d ah,.d ah],[.d .bool],fun a=>cmp_Less_int a.1 a.2.1,none⟩
theorem fM:aG 87 Nb :=cq (aj zI ax) Tryz.func87 .z 0 (by kernel_rfl) rfl fun _=>by kernel_rfl
def p9 (n:Nat):Sig xx:=⟨[.mut ah,.d ah,.d ah],[.mu ah],fun a=>qX n a.1 a.2.1 a.2.2.1,none⟩
def qa:Hn SI:=(.s .z (.b (.l ⟨[(6,(.v ah))],[(0,.l ah)],[0,1,2],[],1192,[]⟩ 0 ⟨[],[(0,.l ah)],[],[],1192,[]⟩ (.s .z (.s (.b (.s .z (.b (.l ⟨[(7,(.v ah))],[(0,.l ah)],[0,1,2,6],[],1512,[]⟩ 2 ⟨[],[(0,.l ah)],[0,1,2,6],[],1512,[]⟩ (.s (.s (.j ⟨[(30,(.v .bool))],[],[0,1,2,6,7],[0],1512,[]⟩ .z) .z) .z))))) .z)))))
theorem qb (n:Nat):aG 81 (p9 n) :=cq (aj fM ax) Tryz.func81 qa n (by kernel_rfl) rfl fun _=>by kernel_rfl
def vH (n:Nat):Sig xx:=⟨[.mut ah,.d ah,.d ah,.d ah],[.mu ah],fun a=>yL n a.1 a.2.1 a.2.2.1 a.2.2.2.1,none⟩
def vI:Hn SI:=(.s .z (.b (.lx ⟨[(8,(.v ah))],[(0,.l ah)],[0,2,3],[],1128,[]⟩ 0 ⟨[],[(0,.l ah)],[],[],1128,[]⟩ (.b (.s .z (.s .z (.s (.j ⟨[(9,(.v ah))],[],[0,2,3,8],[0],1576,[]⟩ (.s (.j ⟨[(36,(.v .bool))],[],[0,2,3,8,9],[0],1576,[]⟩ .z) .z)) .z)))))))
theorem vJ (n:Nat):aG 99 (vH n) :=cq (aj fM ax) Tryz.func99 vI n (by kernel_rfl) rfl fun _=>by kernel_rfl
def vK (n:Nat):Sig xx:=⟨[.mut ah,.d ah,.d ah],[.mu ah],fun a=>yM n a.1 a.2.1 a.2.2.1,none⟩
def vL:Hn SI:=(.s .z (.s .z (.s .z (.s (.s .z (.b (.l ⟨[(9,(.v ah))],[(0,.l ah)],[0,6,7,8],[],1704,[]⟩ 0 ⟨[],[(0,.l ah)],[0,6,7,8],[],1704,[]⟩ .z))) (.s .z (.b (.l ⟨[(10,(.v ah))],[(0,.l ah)],[0,6,7],[],1896,[]⟩ 2 ⟨[],[(0,.l ah)],[],[],1896,[]⟩ .z)))))))
theorem vM (n:Nat):aG 82 (vK n) :=cq (aj (vJ n) ax) Tryz.func82 vL n (by kernel_rfl) rfl fun _=>by kernel_rfl
def Cz:Sig xx:=⟨[.d ah],[.d (.int .u64)],fun a=>aM a.1,none⟩
theorem qN:aG 100 Cz :=cq (aj Ee ax) Tryz.func100 .z 0 (by kernel_rfl) rfl fun _=>by kernel_rfl
def Ef:Sig xx:=⟨[.mref (.int .u64)],[.d (.int .u64),.mr (.int .u64)],fun a=>aP a.1,none⟩
theorem tu:aG 101 Ef :=cq ax Tryz.func101 .z 0 (by kernel_rfl) rfl fun _=>by kernel_rfl
def qc (n:Nat):Sig xx:=⟨[.mut ah,.d ah,.d ah],[.mu ah],fun a=>qY n a.1 a.2.1 a.2.2.1,none⟩
def qd:Hn SI:=(.s .z (.s .z (.s (.s .z (.s .z (.s .z (.b (.l ⟨[(9,(.v ah))],[(0,.l ah),(1512,.c 1 [[(.v (.int .u64))]])],[0,1,6,7,8],[],2280,[]⟩ 0 ⟨[],[(0,.l ah)],[],[],2280,[]⟩ (.s .z (.s (.b (.s .z (.s (.j ⟨[(10,(.v ah))],[],[0,1,6,7,8,9],[0,1512],3176,[]⟩ .z) .z))) .z))))))) .z)))
theorem qf (n:Nat):aG 83 (qc n) :=cq (aj qN (aj tu ax)) Tryz.func83 qd n (by kernel_rfl) rfl fun _=>by kernel_rfl
def zb:Sig xx:=⟨[.d (.sl ah),.d ah,.d ah,.mref ah],[.d ah,.d ah,.mr ah],fun a=>A7 a.1 a.2.1 a.2.2.1 a.2.2.2.1,none⟩
theorem ze:aG 114 zb :=cq (aj fM ax) Tryz.func114 .z 0 (by kernel_rfl) rfl fun _=>by kernel_rfl
def zf:Sig xx:=⟨[.d (.sl ah),.d ah,.d ah,.d ah,.mref ah],[.d ah,.mr ah],fun a=>A8 a.1 a.2.1 a.2.2.1 a.2.2.2.1 a.2.2.2.2.1,none⟩
theorem nu:aG 103 zf :=cq (aj ze ax) Tryz.func103 .z 0 (by kernel_rfl) rfl fun _=>by kernel_rfl
def nZ:Sig xx:=⟨[.d (.sl ah),.d ah,.mref ah],[.d ah,.mr ah],fun a=>qm a.1 a.2.1 a.2.2.1,none⟩
theorem og:aG 102 nZ :=cq (aj nu ax) Tryz.func102 .z 0 (by kernel_rfl) rfl fun _=>by kernel_rfl
def rD:Sig xx:=⟨[.d (.sl ah),.d ah,.d ah],[.d ah,.d ah],fun a=>tY a.1 a.2.1 a.2.2.1,none⟩
def rE:Hn SI:=(.s .z (.s .z (.s .z (.s .z (.s .z (.s .z (.s (.j ⟨[(11,(.v ah))],[(1384,.c 1 [[(.v ah)]])],[9],[],2600,[]⟩ (.s .z (.s (.s (.j ⟨[(10,(.v ah)),(11,(.v ah)),(12,(.v ah))],[(1384,.c 1 [[(.v ah)]])],[0,9],[],2728,[]⟩ .z) .z) .z))) .z)))))))
theorem rF:aG 84 rD :=cq (aj og (aj nu ax)) Tryz.func84 rE 0 (by kernel_rfl) rfl fun _=>by kernel_rfl
def qF (n:Nat):Sig xx:=⟨[.mut ah,.d ah,.d ah],[.mu ah],fun a=>sN n a.1 a.2.1 a.2.2.1,none⟩
def qG:Hn SI:=(.s .z (.s .z (.b (.l ⟨[(6,(.v ah)),(7,(.v ah))],[(0,.l ah)],[0],[],1320,[]⟩ 0 ⟨[],[(0,.l ah)],[],[],1320,[]⟩ .z))))
theorem qH (n:Nat):aG 85 (qF n) :=cq ax Tryz.func85 qG n (by kernel_rfl) rfl fun _=>by kernel_rfl
def kN (n:Nat):Sig xx:=⟨[.mut ah,.d ah,.d ah],[.d .bool,.mu ah],fun a=>lN n a.1 a.2.1 a.2.2.1,none⟩
def kP:Hn SI:=(.s .z (.s .z (.s (.s .z (.b (.lx ⟨[(7,(.v ah)),(8,(.v ah))],[(0,.l ah)],[0,1,2],[],1320,[]⟩ 0 ⟨[],[(0,.l ah)],[],[],1320,[]⟩ (.s .z (.s (.jx ⟨[(7,(.v ah))],[(0,.l ah)],[0,1,2,8],[],1448,[]⟩ (.b (.s (.b (.l ⟨[(7,(.v ah))],[],[0,1,2,8],[0],1448,[]⟩ 2 ⟨[(7,(.v ah))],[],[0,1,2,8],[0],1448,[]⟩ (.s (.s (.j ⟨[(32,(.v .bool))],[],[0,1,2,7,8],[0],1448,[]⟩ .z) .z) .z))) (.s .z (.s .z (.s .z (.s (.j ⟨[],[(0,.l ah)],[0,1,2,7,8],[],3048,[]⟩ (.s .z (.s (.s .z (.b (.l ⟨[(9,(.v ah))],[(0,.l ah)],[0,1,2,7,8],[],3496,[]⟩ 4 ⟨[],[(0,.l ah)],[0,1,2,7,8],[],3496,[]⟩ .z))) .z))) (.s .z (.s (.s .z (.b (.l ⟨[(10,(.v ah))],[(0,.l ah)],[0,1,2,7,8],[],3496,[]⟩ 6 ⟨[],[(0,.l ah)],[0,1,2,7,8],[],3496,[]⟩ .z))) .z))))))))) .z))))) .z)))
theorem kQ (n:Nat):aG 86 (kN n) :=cq (aj fM ax) Tryz.func86 kP n (by kernel_rfl) rfl fun _=>by kernel_rfl
def oh (n:Nat):Sig xx:=⟨[.mut ah,.d ah,.d ah,.d ah],[.d ah,.mu ah],fun a=>qo n a.1 a.2.1 a.2.2.1 a.2.2.2.1,none⟩
def om:Hn SI:=(.s .z (.s .z (.s .z (.s (.b (.l ⟨[(9,(.v ah)),(10,(.v ah))],[(0,.l ah)],[0,1],[],2472,[]⟩ 0 ⟨[(9,(.v ah))],[(0,.l ah)],[],[],2472,[]⟩ (.b (.s (.b (.l ⟨[(9,(.v ah))],[],[0,1,10],[0],2472,[]⟩ 2 ⟨[(9,(.v ah))],[],[0,1,10],[0],2472,[]⟩ (.s (.s (.j ⟨[(43,(.v .bool))],[],[0,1,9,10],[0],2472,[]⟩ .z) .z) .z))) (.s (.b (.l ⟨[(10,(.v ah))],[],[0,1,9],[0],2472,[]⟩ 4 ⟨[(10,(.v ah))],[],[0,1,9],[0],2472,[]⟩ (.s (.s (.j ⟨[(59,(.v .bool))],[],[0,1,9,10],[0],2472,[]⟩ .z) .z) .z))) .z))))) .z))))
theorem oo (n:Nat):aG 88 (oh n) :=cq (aj fM ax) Tryz.func88 om n (by kernel_rfl) rfl fun _=>by kernel_rfl
def tZ (n:Nat):Sig xx:=⟨[.mut ah,.d ah,.d ah,.d ah],[.d ah,.d .bool,.mu ah],fun a=>wT n a.1 a.2.1 a.2.2.1 a.2.2.2.1,none⟩
def uf:Hn SI:=(.s .z (.s .z (.s .z (.s (.b (.l ⟨[(10,(.v ah))],[],[0,1,11],[0],2536,[]⟩ 0 ⟨[(10,(.v ah))],[],[0,1,11],[0],2536,[]⟩ (.s (.s (.j ⟨[(43,(.v .bool))],[],[0,1,10,11],[0],2536,[]⟩ .z) .z) .z))) (.s (.b (.l ⟨[(11,(.v ah))],[],[0,1,10],[0],2536,[]⟩ 2 ⟨[(11,(.v ah))],[],[0,1,10],[0],2536,[]⟩ (.s (.s (.j ⟨[(60,(.v .bool))],[],[0,1,10,11],[0],2536,[]⟩ .z) .z) .z))) (.s .z (.s .z (.s .z (.s .z (.s (.b (.l ⟨[(10,(.v ah)),(11,(.v ah))],[(0,.l ah)],[0,1],[],4136,[]⟩ 4 ⟨[(11,(.v ah))],[(0,.l ah)],[0,1],[],4136,[]⟩ (.b (.s (.b (.l ⟨[(10,(.v ah))],[],[0,1,11],[0],4136,[]⟩ 6 ⟨[(10,(.v ah))],[],[0,1,11],[0],4136,[]⟩ (.s (.s (.j ⟨[(112,(.v .bool))],[],[0,1,10,11],[0],4136,[]⟩ .z) .z) .z))) (.s (.b (.l ⟨[(11,(.v ah))],[],[0,1,10],[0],4136,[]⟩ 8 ⟨[(11,(.v ah))],[],[0,1,10],[0],4136,[]⟩ (.s (.s (.j ⟨[(129,(.v .bool))],[],[0,1,10,11],[0],4136,[]⟩ .z) .z) .z))) .z))))) .z))))))))))
theorem ug (n:Nat):aG 89 (tZ n) :=cq (aj fM ax) Tryz.func89 uf n (by kernel_rfl) rfl fun _=>by kernel_rfl
def xw:Hn SI:=(.s .z (.s .z (.b (.lx ⟨[(1,(.v ah)),(2,(.v ah)),(3,(.v ah)),(8,(.v .bool)),(9,(.v .bool))],[(0,.l ah)],[0],[],1128,[]⟩ 999999 ⟨[],[],[],[],1128,[]⟩ (.b (.s .z (.s .z (.s .z (.s (.j ⟨[(3,(.v ah))],[(0,.l ah)],[0,1,2,8,9,10],[],1640,[]⟩ .z) (.s .z (.s (.j ⟨[(11,(.v ah)),(12,(.v ah))],[(0,.l ah)],[0,1,2,3,8,9,10],[],2216,[]⟩ .z) (.s (.jx ⟨[],[(0,.l ah)],[0,1,2,3,8,9,10,11],[],2216,[]⟩ (.s (.j ⟨[(68,(.v .bool))],[],[0,1,2,3,8,9,10,11],[0],2216,[]⟩ .z) .z)) (.s (.s (.j ⟨[(87,(.v .bool))],[],[0,1,2,3,8,9,10,11],[0],2216,[]⟩ .z) .z) .z)))))))))))))
theorem vN (n:Nat) (rc:((List Int))->(Int)->(Int)->(Int)->Option (List Int)) (hr:aG 61 (iB rc)):aG 61 (iB (iO n rc)) :=cq (aj (qb n) (aj (vM n) (aj (qf n) (aj rF (aj (qH n) (aj (kQ n) (aj fM (aj (oo n) (aj (ug n) (aj hr ax)))))))))) Tryz.func61 xw n (by kernel_rfl) rfl fun _=>by kernel_rfl
theorem lg (n:Nat):∀ m,aG 61 (iB (dx n m))
 | 0=>cok (lX Tryz.func61 (by kernel_rfl:Tryz.f61.body=some (Tryz.f61.body.getD .skip)) (by kernel_rfl)) (fun _ _ h=>(by cases h)) rfl
 |m+1=>vN n _ (lg n m)
def xA (n:Nat):Sig xx:=⟨[.mut ah,.d ah,.d ah,.d ah],[.mu ah],fun a=>jH n a.1 a.2.1 a.2.2.1 a.2.2.2.1,none⟩
theorem xB (n:Nat):aG 61 (xA n):=lg n n
def Oq (n:Nat):Sig xx:=⟨[.mut ah],[.mu ah],fun a=>l5 n a.1,none⟩
theorem vO (n:Nat):aG 31 (Oq n) :=cq (aj Ee (aj (xB n) ax)) Tryz.func31 .z n (by kernel_rfl) rfl fun _=>by kernel_rfl
def Ib (n:Nat):Sig xx:=⟨[.mut ah],[.whole 0,.mu ah],fun a=>jT n a.1,none⟩
def Ic:Hn SI:=(.s .z (.s .z (.s (.s .z (.b (.lx ⟨[(3,(.v ah))],[],[0],[0],1320,[]⟩ 0 ⟨[],[],[0],[0],1320,[]⟩ (.s .z (.s (.b (.s .z (.s (.s .z (.s (.s .z (.b (.l ⟨[(3,(.v ah)),(5,(.v ah))],[(0,.l ah)],[0,4],[],2536,[]⟩ 2 ⟨[(3,(.v ah))],[(0,.l ah)],[0],[],2536,[]⟩ (.s .z (.s (.j ⟨[(3,(.v ah))],[(0,.l ah)],[0,4,5],[],2792,[]⟩ .z) .z))))) .z)) .z))) .z))))) .z)))
theorem oq (n:Nat):aG 32 (Ib n) :=cq ax Tryz.func32 Ic n (by kernel_rfl) rfl fun _=>by kernel_rfl
def ou (n:Nat):Sig xx:=⟨[.mut (.st SI.span),.d ah,.d ah,.clo [(.st SI.span),(.st SI.span)] ah],[.mu (.st SI.span)],fun a=>qp n a.1 a.2.1 a.2.2.1 a.2.2.2.1,none⟩
def ow:Hn SI:=(.s .z (.b (.l ⟨[(8,(.v ah))],[(0,.l (.st SI.span))],[0,1,2,3],[],1192,[]⟩ 0 ⟨[],[(0,.l (.st SI.span))],[],[],1192,[]⟩ (.s .z (.s (.b (.s .z (.b (.l ⟨[(9,(.v ah))],[(0,.l (.st SI.span))],[0,1,2,3,8],[],1512,[]⟩ 2 ⟨[],[(0,.l (.st SI.span))],[0,1,2,3,8],[],1512,[]⟩ (.s (.s (.j ⟨[(34,(.v .bool))],[],[0,1,2,3,8,9],[0],1512,[]⟩ .z) .z) .z))))) .z)))))
theorem oC (n:Nat):aG 125 (ou n) :=cq ax Tryz.func125 ow n (by kernel_rfl) rfl fun _=>by kernel_rfl
def uh (n:Nat):Sig xx:=⟨[.mut (.st SI.span),.d ah,.d ah,.d ah,.clo [(.st SI.span),(.st SI.span)] ah],[.mu (.st SI.span)],fun a=>wU n a.1 a.2.1 a.2.2.1 a.2.2.2.1 a.2.2.2.2.1,none⟩
def uj:Hn SI:=(.s .z (.b (.lx ⟨[(10,(.v ah))],[(0,.l (.st SI.span))],[0,2,3,4],[],1128,[]⟩ 0 ⟨[],[(0,.l (.st SI.span))],[],[],1128,[]⟩ (.b (.s .z (.s .z (.s (.j ⟨[(11,(.v ah))],[],[0,2,3,4,10],[0],1576,[]⟩ (.s (.j ⟨[(40,(.v .bool))],[],[0,2,3,4,10,11],[0],1576,[]⟩ .z) .z)) .z)))))))
theorem ul (n:Nat):aG 144 (uh n) :=cq ax Tryz.func144 uj n (by kernel_rfl) rfl fun _=>by kernel_rfl
def um (n:Nat):Sig xx:=⟨[.mut (.st SI.span),.d ah,.d ah,.clo [(.st SI.span),(.st SI.span)] ah],[.mu (.st SI.span)],fun a=>wV n a.1 a.2.1 a.2.2.1 a.2.2.2.1,none⟩
def uo:Hn SI:=(.s .z (.s .z (.s .z (.s (.s .z (.b (.l ⟨[(11,(.v ah))],[(0,.l (.st SI.span))],[0,3,8,9,10],[],1704,[]⟩ 0 ⟨[],[(0,.l (.st SI.span))],[0,3,8,9,10],[],1704,[]⟩ .z))) (.s .z (.b (.l ⟨[(12,(.v ah))],[(0,.l (.st SI.span))],[0,3,8,9],[],1896,[]⟩ 2 ⟨[],[(0,.l (.st SI.span))],[],[],1896,[]⟩ .z)))))))
theorem uq (n:Nat):aG 126 (um n) :=cq (aj (ul n) ax) Tryz.func126 uo n (by kernel_rfl) rfl fun _=>by kernel_rfl
def oD (n:Nat):Sig xx:=⟨[.mut (.st SI.span),.d ah,.d ah,.clo [(.st SI.span),(.st SI.span)] ah],[.mu (.st SI.span)],fun a=>qw n a.1 a.2.1 a.2.2.1 a.2.2.2.1,none⟩
def oF:Hn SI:=(.s .z (.s .z (.s (.s .z (.s .z (.s .z (.b (.l ⟨[(11,(.v ah))],[(0,.l (.st SI.span)),(1512,.c 1 [[(.v (.int .u64))]])],[0,1,8,9,10],[],2280,[]⟩ 0 ⟨[],[(0,.l (.st SI.span))],[],[],2280,[]⟩ (.s .z (.s (.b (.s .z (.s (.j ⟨[(12,(.v ah))],[],[0,1,8,9,10,11],[0,1512],3176,[]⟩ .z) .z))) .z))))))) .z)))
theorem oG (n:Nat):aG 127 (oD n) :=cq (aj qN (aj tu ax)) Tryz.func127 oF n (by kernel_rfl) rfl fun _=>by kernel_rfl
def xC:Sig xx:=⟨[.d (.sl (.st SI.span)),.d ah,.d ah,.mref ah,.clo [(.st SI.span),(.st SI.span)] ah],[.d ah,.d ah,.mr ah],fun a=>zM a.1 a.2.1 a.2.2.1 a.2.2.2.1 a.2.2.2.2.1,none⟩
theorem xD:aG 150 xC :=cq ax Tryz.func150 .z 0 (by kernel_rfl) rfl fun _=>by kernel_rfl
def xE:Sig xx:=⟨[.d (.sl (.st SI.span)),.d ah,.d ah,.d ah,.mref ah,.clo [(.st SI.span),(.st SI.span)] ah],[.d ah,.mr ah],fun a=>zN a.1 a.2.1 a.2.2.1 a.2.2.2.1 a.2.2.2.2.1 a.2.2.2.2.2.1,none⟩
theorem l9:aG 146 xE :=cq (aj xD ax) Tryz.func146 .z 0 (by kernel_rfl) rfl fun _=>by kernel_rfl
def nE:Sig xx:=⟨[.d (.sl (.st SI.span)),.d ah,.mref ah,.clo [(.st SI.span),(.st SI.span)] ah],[.d ah,.mr ah],fun a=>pI a.1 a.2.1 a.2.2.1 a.2.2.2.1,none⟩
theorem nG:aG 145 nE :=cq (aj l9 ax) Tryz.func145 .z 0 (by kernel_rfl) rfl fun _=>by kernel_rfl
def qI:Sig xx:=⟨[.d (.sl (.st SI.span)),.d ah,.d ah,.clo [(.st SI.span),(.st SI.span)] ah],[.d ah,.d ah],fun a=>sO a.1 a.2.1 a.2.2.1 a.2.2.2.1,none⟩
def qJ:Hn SI:=(.s .z (.s .z (.s .z (.s .z (.s .z (.s .z (.s (.j ⟨[(13,(.v ah))],[(1384,.c 1 [[(.v ah)]])],[11],[],2600,[]⟩ (.s .z (.s (.s (.j ⟨[(12,(.v ah)),(13,(.v ah)),(14,(.v ah))],[(1384,.c 1 [[(.v ah)]])],[0,3,11],[],2728,[]⟩ .z) .z) .z))) .z)))))))
theorem qK:aG 128 qI :=cq (aj nG (aj l9 ax)) Tryz.func128 qJ 0 (by kernel_rfl) rfl fun _=>by kernel_rfl
def qg (n:Nat):Sig xx:=⟨[.mut (.st SI.span),.d ah,.d ah,.clo [(.st SI.span),(.st SI.span)] ah],[.mu (.st SI.span)],fun a=>qZ n a.1 a.2.1 a.2.2.1 a.2.2.2.1,none⟩
def qh:Hn SI:=(.s .z (.s .z (.b (.l ⟨[(8,(.v ah)),(9,(.v ah))],[(0,.l (.st SI.span))],[0],[],1320,[]⟩ 0 ⟨[],[(0,.l (.st SI.span))],[],[],1320,[]⟩ .z))))
theorem qi (n:Nat):aG 129 (qg n) :=cq ax Tryz.func129 qh n (by kernel_rfl) rfl fun _=>by kernel_rfl
def kC (n:Nat):Sig xx:=⟨[.mut (.st SI.span),.d ah,.d ah,.clo [(.st SI.span),(.st SI.span)] ah],[.d .bool,.mu (.st SI.span)],fun a=>kW n a.1 a.2.1 a.2.2.1 a.2.2.2.1,none⟩
def kD:Hn SI:=(.s .z (.s .z (.s (.s .z (.b (.lx ⟨[(9,(.v ah)),(10,(.v ah))],[(0,.l (.st SI.span))],[0,1,2,3],[],1320,[]⟩ 0 ⟨[],[(0,.l (.st SI.span))],[],[],1320,[]⟩ (.s .z (.s (.jx ⟨[(9,(.v ah))],[(0,.l (.st SI.span))],[0,1,2,3,10],[],1448,[]⟩ (.b (.s (.b (.l ⟨[(9,(.v ah))],[],[0,1,2,3,10],[0],1448,[]⟩ 2 ⟨[(9,(.v ah))],[],[0,1,2,3,10],[0],1448,[]⟩ (.s (.s (.j ⟨[(36,(.v .bool))],[],[0,1,2,3,9,10],[0],1448,[]⟩ .z) .z) .z))) (.s .z (.s .z (.s .z (.s (.j ⟨[],[(0,.l (.st SI.span))],[0,1,2,3,9,10],[],3048,[]⟩ (.s .z (.s (.s .z (.b (.l ⟨[(11,(.v ah))],[(0,.l (.st SI.span))],[0,1,2,3,9,10],[],3496,[]⟩ 4 ⟨[],[(0,.l (.st SI.span))],[0,1,2,3,9,10],[],3496,[]⟩ .z))) .z))) (.s .z (.s (.s .z (.b (.l ⟨[(12,(.v ah))],[(0,.l (.st SI.span))],[0,1,2,3,9,10],[],3496,[]⟩ 6 ⟨[],[(0,.l (.st SI.span))],[0,1,2,3,9,10],[],3496,[]⟩ .z))) .z))))))))) .z))))) .z)))
theorem kE (n:Nat):aG 130 (kC n) :=cq ax Tryz.func130 kD n (by kernel_rfl) rfl fun _=>by kernel_rfl
def nH (n:Nat):Sig xx:=⟨[.mut (.st SI.span),.d ah,.d ah,.d ah,.clo [(.st SI.span),(.st SI.span)] ah],[.d ah,.mu (.st SI.span)],fun a=>pJ n a.1 a.2.1 a.2.2.1 a.2.2.2.1 a.2.2.2.2.1,none⟩
def nI:Hn SI:=(.s .z (.s .z (.s .z (.s (.b (.l ⟨[(11,(.v ah)),(12,(.v ah))],[(0,.l (.st SI.span))],[0,1,4],[],2472,[]⟩ 0 ⟨[(11,(.v ah))],[(0,.l (.st SI.span))],[],[],2472,[]⟩ (.b (.s (.b (.l ⟨[(11,(.v ah))],[],[0,1,4,12],[0],2472,[]⟩ 2 ⟨[(11,(.v ah))],[],[0,1,4,12],[0],2472,[]⟩ (.s (.s (.j ⟨[(47,(.v .bool))],[],[0,1,4,11,12],[0],2472,[]⟩ .z) .z) .z))) (.s (.b (.l ⟨[(12,(.v ah))],[],[0,1,4,11],[0],2472,[]⟩ 4 ⟨[(12,(.v ah))],[],[0,1,4,11],[0],2472,[]⟩ (.s (.s (.j ⟨[(65,(.v .bool))],[],[0,1,4,11,12],[0],2472,[]⟩ .z) .z) .z))) .z))))) .z))))
theorem nJ (n:Nat):aG 131 (nH n) :=cq ax Tryz.func131 nI n (by kernel_rfl) rfl fun _=>by kernel_rfl
def tC (n:Nat):Sig xx:=⟨[.mut (.st SI.span),.d ah,.d ah,.d ah,.clo [(.st SI.span),(.st SI.span)] ah],[.d ah,.d .bool,.mu (.st SI.span)],fun a=>vD n a.1 a.2.1 a.2.2.1 a.2.2.2.1 a.2.2.2.2.1,none⟩
def tF:Hn SI:=(.s .z (.s .z (.s .z (.s (.b (.l ⟨[(12,(.v ah))],[],[0,1,4,13],[0],2536,[]⟩ 0 ⟨[(12,(.v ah))],[],[0,1,4,13],[0],2536,[]⟩ (.s (.s (.j ⟨[(47,(.v .bool))],[],[0,1,4,12,13],[0],2536,[]⟩ .z) .z) .z))) (.s (.b (.l ⟨[(13,(.v ah))],[],[0,1,4,12],[0],2536,[]⟩ 2 ⟨[(13,(.v ah))],[],[0,1,4,12],[0],2536,[]⟩ (.s (.s (.j ⟨[(66,(.v .bool))],[],[0,1,4,12,13],[0],2536,[]⟩ .z) .z) .z))) (.s .z (.s .z (.s .z (.s .z (.s (.b (.l ⟨[(12,(.v ah)),(13,(.v ah))],[(0,.l (.st SI.span))],[0,1,4],[],4136,[]⟩ 4 ⟨[(13,(.v ah))],[(0,.l (.st SI.span))],[0,1],[],4136,[]⟩ (.b (.s (.b (.l ⟨[(12,(.v ah))],[],[0,1,4,13],[0],4136,[]⟩ 6 ⟨[(12,(.v ah))],[],[0,1,4,13],[0],4136,[]⟩ (.s (.s (.j ⟨[(120,(.v .bool))],[],[0,1,4,12,13],[0],4136,[]⟩ .z) .z) .z))) (.s (.b (.l ⟨[(13,(.v ah))],[],[0,1,4,12],[0],4136,[]⟩ 8 ⟨[(13,(.v ah))],[],[0,1,4,12],[0],4136,[]⟩ (.s (.s (.j ⟨[(139,(.v .bool))],[],[0,1,4,12,13],[0],4136,[]⟩ .z) .z) .z))) .z))))) .z))))))))))
theorem tH (n:Nat):aG 132 (tC n) :=cq ax Tryz.func132 tF n (by kernel_rfl) rfl fun _=>by kernel_rfl
def vP:Hn SI:=(.s .z (.s .z (.b (.lx ⟨[(1,(.v ah)),(2,(.v ah)),(3,(.v ah)),(10,(.v .bool)),(11,(.v .bool))],[(0,.l (.st SI.span))],[0,4],[],1128,[]⟩ 999999 ⟨[],[],[],[],1128,[]⟩ (.b (.s .z (.s .z (.s .z (.s (.j ⟨[(3,(.v ah))],[(0,.l (.st SI.span))],[0,1,2,4,10,11,12],[],1640,[]⟩ .z) (.s .z (.s (.j ⟨[(13,(.v ah)),(14,(.v ah))],[(0,.l (.st SI.span))],[0,1,2,3,4,10,11,12],[],2280,[]⟩ .z) (.s (.jx ⟨[],[(0,.l (.st SI.span))],[0,1,2,3,4,10,11,12,13],[],2280,[]⟩ (.s (.j ⟨[(75,(.v .bool))],[],[0,1,2,3,4,10,11,12,13],[0],2280,[]⟩ .z) .z)) (.s (.s (.j ⟨[(97,(.v .bool))],[],[0,1,2,3,4,10,11,12,13],[0],2280,[]⟩ .z) .z) .z)))))))))))))
theorem uw (n:Nat) (rc:((List aB))->(Int)->(Int)->(Int)->((aB×aB×Unit)->Option Int)->Option (List aB)) (hr:aG 121 (fV rc)):aG 121 (fV (dW n rc)) :=cq (aj (oC n) (aj (uq n) (aj (oG n) (aj qK (aj (qi n) (aj (kE n) (aj (nJ n) (aj (tH n) (aj hr ax))))))))) Tryz.func121 vP n (by kernel_rfl) rfl fun _=>by kernel_rfl
theorem kH (n:Nat):∀ m,aG 121 (fV (bE n m))
 | 0=>cok (lX Tryz.func121 (by kernel_rfl:Tryz.f121.body=some (Tryz.f121.body.getD .skip)) (by kernel_rfl)) (fun _ _ h=>(by cases h)) rfl
 |m+1=>uw n _ (kH n m)
def vQ (n:Nat):Sig xx:=⟨[.mut (.st SI.span),.d ah,.d ah,.d ah,.clo [(.st SI.span),(.st SI.span)] ah],[.mu (.st SI.span)],fun a=>je n a.1 a.2.1 a.2.2.1 a.2.2.2.1 a.2.2.2.2.1,none⟩
theorem vR (n:Nat):aG 121 (vQ n):=kH n n
def Eg (n:Nat):Sig xx:=⟨[.mut (.st SI.span),.clo [(.st SI.span),(.st SI.span)] ah],[.mu (.st SI.span)],fun a=>kg n a.1 a.2.1,none⟩
theorem Eh (n:Nat):aG 111 (Eg n) :=cq (aj Ee (aj (vR n) ax)) Tryz.func111 .z n (by kernel_rfl) rfl fun _=>by kernel_rfl
def F4:Sig xx:=⟨[.d ah,.d ah],[.d ah],fun a=>cmp_Compare_int a.1 a.2.1,none⟩
theorem F5:aG 113 F4 :=cq (aj zI ax) Tryz.func113 .z 0 (by kernel_rfl) rfl fun _=>by kernel_rfl
def Nc:Sig xx:=⟨[.d (.st SI.span),.d (.st SI.span)],[.d ah],fun a=>q8 a.1 a.2.1,none⟩
theorem Nf:aG 112 Nc :=cq (aj F5 ax) Tryz.func112 .z 0 (by kernel_rfl) rfl fun _=>by kernel_rfl
def UE (n:Nat):Sig xx:=⟨[.d (.sl aA),.d ah],[.fresh (.st SI.span)],fun a=>Cg n a.1 a.2.1,none⟩
def UF:Hn SI:=(.s .z (.s .z (.s (.s .z (.b (.l ⟨[(5,(.o 1320)),(14,(.v ah))],[(1320,.l (.st SI.span))],[1,12,13],[],1321,[(5,(.st SI.span))]⟩ 0 ⟨[(5,(.o 1320))],[(1320,.l (.st SI.span))],[],[],1321,[]⟩ (.s .z (.s .z (.s (.j ⟨[(5,(.o 1385))],[(1385,.l (.st SI.span))],[1,12,13,14],[],1386,[]⟩ (.b (.s .z (.s (.j ⟨[(27,(.v .bool))],[],[1,5,7,12,13,14],[1320,1513],1641,[]⟩ .z) .z)))) .z)))))) (.s .z (.s .z (.s (.s .z (.b (.l ⟨[(8,(.o 1705)),(41,(.v ah))],[(1705,.l (.st SI.span))],[39,40],[1320],1706,[(8,(.st SI.span))]⟩ 2 ⟨[(8,(.o 1705))],[(1705,.l (.st SI.span))],[],[],1706,[]⟩ (.s .z (.s .z (.s (.j ⟨[(8,(.o 1770))],[(1770,.l (.st SI.span))],[39,40,41],[1320],1771,[]⟩ (.b (.s .z (.s .z (.s (.j ⟨[(59,(.v .bool))],[],[8,10,11,39,40,41],[1320,1705,1898],2218,[]⟩ .z) .z))))) .z)))))) .z))))))
theorem UG (n:Nat):aG 98 (UE n) :=cq (aj (Eh n) (aj Nf ax)) Tryz.func98 UF n (by kernel_rfl) rfl fun _=>by kernel_rfl
def UH (n:Nat):Sig xx:=⟨[.d (.sl (.sl aA))],[.fresh (.st SI.strip)],fun a=>rQ n a.1,none⟩
def UI:Hn SI:=(.s .z (.s .z (.s .z (.s (.s .z (.b (.l ⟨[(4,(.o 1512)),(13,(.v ah))],[(1512,.l ah)],[3,11,12],[1128],1513,[(4,ah)]⟩ 0 ⟨[(4,(.o 1512))],[(1512,.l ah)],[3],[1128],1513,[]⟩ .z))) (.s .z (.s .z (.s .z (.s (.s .z (.b (.l ⟨[(7,(.o 1961)),(8,(.v ah))],[(1961,.l (.st SI.strip))],[3,4],[1128,1512],1962,[(7,(.st SI.strip))]⟩ 2 ⟨[(7,(.o 1961))],[(1961,.l (.st SI.strip))],[],[],1962,[]⟩ .z))) .z))))))))
theorem Jd (n:Nat):aG 76 (UH n) :=cq (aj (Ia n) (aj (vO n) (aj (oq n) (aj (UG n) ax)))) Tryz.func76 UI n (by kernel_rfl) rfl fun _=>by kernel_rfl
def JE (n:Nat):Sig xx:=⟨[.d (.sl (.st SI.span)),.d (.sl (.st SI.span))],[.d .bool],fun a=>oJ n a.1 a.2.1,none⟩
def JF:Hn SI:=(.s .z (.s .z (.s (.s .z (.b (.lx ⟨[(13,(.v ah))],[],[0,1,12],[],1576,[]⟩ 0 ⟨[],[],[],[],1576,[]⟩ .z))) .z)))
theorem JG (n:Nat):aG 96 (JE n) :=cq ax Tryz.func96 JF n (by kernel_rfl) rfl fun _=>by kernel_rfl
def WG (n:Nat):Sig xx:=⟨[.d (.sl (.st SI.strip))],[.fresh aA],fun a=>wW n a.1,none⟩
def WH:Hn SI:=(.s .z (.s .z (.s (.s .z (.b (.l ⟨[(3,(.o 1192)),(4,(.v ah))],[(1192,.l aA)],[0],[],1193,[(3,aA)]⟩ 0 ⟨[(3,(.o 1192))],[(1192,.l aA)],[],[],1193,[]⟩ (.s .z (.b (.s .z (.s (.b (.l ⟨[(5,(.v ah))],[],[0,3,4],[1192],1641,[]⟩ 2 ⟨[(5,(.v ah))],[],[0,3,4],[1192],1641,[]⟩ (.s (.s (.j ⟨[(30,(.v .bool))],[],[0,3,4,5],[1192],1641,[]⟩ .z) .z) .z))) (.s (.s .z (.b (.l ⟨[(3,(.o 2089)),(39,(.v ah))],[(2089,.l aA)],[0,4,5,37,38],[],2090,[]⟩ 4 ⟨[(3,(.o 2089))],[(2089,.l aA)],[0,5],[],2090,[]⟩ .z))) .z)))))))) .z)))
theorem Ng (n:Nat):aG 75 (WG n) :=cq (aj (JG n) ax) Tryz.func75 WH n (by kernel_rfl) rfl fun _=>by kernel_rfl
def RL:Sig xx:=⟨[.d (.sl aA)],[.d (.sl aA),.d ah],fun a=>D5 a.1,none⟩
theorem RN:aG 74 RL :=cq ax Tryz.func74 .z 0 (by kernel_rfl) rfl fun _=>by kernel_rfl
def abW (n:Nat):Sig xx:=⟨[.d (.sl aA)],[.d (.sl aA),.d ah],fun a=>XO n a.1,none⟩
def abX:Hn SI:=(.s .z (.s (.s .z (.b (.lx ⟨[(8,(.v ah))],[],[0,6,7],[],1320,[]⟩ 0 ⟨[],[],[0],[],1320,[]⟩ .z))) .z))
theorem abY (n:Nat):aG 44 (abW n) :=cq (aj H7 (aj (Jd n) (aj (Ng n) (aj RN ax)))) Tryz.func44 abX n (by kernel_rfl) rfl fun _=>by kernel_rfl
def JH (n:Nat):Sig xx:=⟨[.d (.sl aA),.d (.sl aA)],[.d .bool],fun a=>kX n a.1 a.2.1,none⟩
def JI:Hn SI:=(.s .z (.s .z (.s (.s .z (.b (.lx ⟨[(13,(.v ah))],[],[0,1,12],[],1576,[]⟩ 0 ⟨[],[],[],[],1576,[]⟩ .z))) .z)))
theorem JJ (n:Nat):aG 45 (JH n) :=cq ax Tryz.func45 JI n (by kernel_rfl) rfl fun _=>by kernel_rfl
def WI (n:Nat):Sig xx:=⟨[.d (.sl aA)],[.d .bool],fun a=>wX n a.1,none⟩
theorem Nh (n:Nat):aG 25 (WI n) :=cq (aj (abY n) (aj (JJ n) ax)) Tryz.func25 .z n (by kernel_rfl) rfl fun _=>by kernel_rfl
def aa4:Sig xx:=⟨[.d aA,.d aA],[.d ah,.d ah],fun a=>Rs a.1 a.2.1,none⟩
theorem UJ:aG 47 aa4 :=cq ax Tryz.func47 .z 0 (by kernel_rfl) rfl fun _=>by kernel_rfl
def abZ:Sig xx:=⟨[.d aA,.d aA],[.d ah],fun a=>XP a.1 a.2.1,none⟩
def ab0:Hn SI:=(.s .z (.s (.s (.j ⟨[(14,(.v .bool))],[],[2,3],[1000,1064],1192,[]⟩ .z) .z) .z))
theorem ab1:aG 26 abZ :=cq (aj H7 (aj UJ ax)) Tryz.func26 ab0 0 (by kernel_rfl) rfl fun _=>by kernel_rfl
def aa5 (n:Nat):Sig xx:=⟨[.d (.sl aA),.d (.sl aA)],[.d ah,.d .bool],fun a=>Hr n a.1 a.2.1,none⟩
def aa6:Hn SI:=(.s .z (.s (.s (.j ⟨[(28,(.v .bool))],[],[0,1],[],1128,[]⟩ .z) .z) (.s .z (.s (.s .z (.b (.l ⟨[(6,(.v ah)),(31,(.v ah))],[],[1,29,30],[],1384,[]⟩ 0 ⟨[(6,(.v ah))],[],[],[],1384,[]⟩ (.s .z (.s .z (.s (.b (.s .z (.s .z (.b (.l ⟨[(6,(.v ah)),(37,(.v ah))],[],[1,8,29,30,31,35,36],[1576],1896,[]⟩ 2 ⟨[(6,(.v ah))],[],[1,29,30,31],[],1896,[]⟩ .z))))) .z)))))) .z))))
theorem UK (n:Nat):aG 10 (aa5 n) :=cq (aj (Nh n) (aj ab1 ax)) Tryz.func10 aa6 n (by kernel_rfl) rfl fun _=>by kernel_rfl
def Zm (n:Nat):Sig xx:=⟨[.d (.sl (.st SI.Lot)),.d ah,.d ah],[.fresh ah],fun a=>FM n a.1 a.2.1 a.2.2.1,none⟩
def Zn:Hn SI:=(.s .z (.s .z (.s .z (.s .z (.s (.s .z (.b (.l ⟨[(9,(.o 2024)),(27,(.v ah))],[(2024,.l (.sl aA))],[0,1,2,7,25,26],[1448],2025,[(9,(.sl aA))]⟩ 0 ⟨[(9,(.o 2024))],[(2024,.l (.sl aA))],[0,1,2,7],[1448],2025,[]⟩ .z))) (.s .z (.s (.s .z (.b (.l ⟨[(12,(.o 2281)),(39,(.v ah))],[(2281,.l ah)],[0,1,2,7,37,38],[1448,2024],2282,[(12,ah)]⟩ 2 ⟨[(12,(.o 2281))],[(2281,.l ah)],[],[],2282,[]⟩ (.s .z (.s .z (.s (.j ⟨[(12,(.o 2346))],[(2346,.l ah)],[0,1,2,7,37,38,39],[1448,2024],2347,[]⟩ (.b (.s .z (.s .z (.s (.j ⟨[(65,(.v .bool))],[],[0,1,2,7,12,13,37,38,39],[1448,2024,2281],3242,[]⟩ .z) .z))))) .z)))))) .z)))))))
theorem Zo (n:Nat):aG 24 (Zm n) :=cq (aj (Cn n) (aj (UK n) (aj (vO n) (aj (oq n) ax)))) Tryz.func24 Zn n (by kernel_rfl) rfl fun _=>by kernel_rfl
def Zp (n:Nat):Sig xx:=⟨[.d (.st SI.Town),.d (.st SI.Drawing)],[.fresh ah],fun a=>uR n a.1 a.2.1,none⟩
theorem Ie (n:Nat):aG 9 (Zp n) :=cq (aj (vG n) (aj (Zo n) ax)) Tryz.func9 .z n (by kernel_rfl) rfl fun _=>by kernel_rfl
def UL (n:Nat):Sig xx:=⟨[.d (.st SI.Town),.d (.st SI.Drawing)],[.fresh ah],fun a=>ko n a.1 a.2.1,none⟩
def UM:Hn SI:=(.s .z (.s .z (.s (.s .z (.b (.l ⟨[(5,(.o 1576)),(14,(.v ah))],[(1576,.l ah)],[2,12,13],[1000,1384],1577,[(5,ah)]⟩ 0 ⟨[(5,(.o 1576))],[(1576,.l ah)],[],[],1577,[]⟩ .z))) .z)))
theorem BB (n:Nat):aG 17 (UL n) :=cq (aj (Ie n) (aj (Cn n) (aj (vO n) (aj (oq n) ax)))) Tryz.func17 UM n (by kernel_rfl) rfl fun _=>by kernel_rfl
def WJ (n:Nat):Sig xx:=⟨[.d (.sl ah),.d (.sl ah)],[.d .bool],fun a=>jU n a.1 a.2.1,none⟩
def WK:Hn SI:=(.s .z (.s .z (.s (.s .z (.b (.lx ⟨[(5,(.v ah))],[],[0,1],[],1448,[]⟩ 0 ⟨[],[],[],[],1448,[]⟩ .z))) .z)))
theorem WL (n:Nat):aG 16 (WJ n) :=cq ax Tryz.func16 WK n (by kernel_rfl) rfl fun _=>by kernel_rfl
def Ni (n:Nat):Sig xx:=⟨[.d (.sl ah),.d ah],[.d ah],fun a=>yN n a.1 a.2.1,none⟩
def Nj:Hn SI:=(.s .z (.s (.s .z (.b (.lx ⟨[(8,(.v ah))],[],[0,1,7],[],1256,[]⟩ 0 ⟨[],[],[],[],1256,[]⟩ .z))) .z))
theorem Nk (n:Nat):aG 64 (Ni n) :=cq ax Tryz.func64 Nj n (by kernel_rfl) rfl fun _=>by kernel_rfl
def F6 (n:Nat):Sig xx:=⟨[.d (.sl ah),.d ah],[.d .bool],fun a=>gB n a.1 a.2.1,none⟩
theorem ny (n:Nat):aG 35 (F6 n) :=cq (aj (Nk n) ax) Tryz.func35 .z n (by kernel_rfl) rfl fun _=>by kernel_rfl
def Ot (n:Nat):Sig xx:=⟨[.d ah,.ref (.sl ah)],[.d .bool],fun a=>uS n a.1 a.2.1,none⟩
theorem Ou (n:Nat):aG 34 (Ot n) :=cq (aj (ny n) ax) Tryz.func34 .z n (by kernel_rfl) rfl fun _=>by kernel_rfl
def Ei (n:Nat):Sig xx:=⟨[.d (.sl ah),.clo [ah] .bool],[.d ah],fun a=>kr n a.1 a.2.1,none⟩
def Ej:Hn SI:=(.s .z (.s (.s .z (.b (.lx ⟨[(8,(.v ah))],[],[0,1,7],[],1256,[]⟩ 0 ⟨[],[],[],[],1256,[]⟩ .z))) .z))
theorem tJ (n:Nat):aG 63 (Ei n) :=cq ax Tryz.func63 Ej n (by kernel_rfl) rfl fun _=>by kernel_rfl
def CB (n:Nat):Sig xx:=⟨[.mut ah,.clo [ah] .bool],[.whole 0,.mu ah],fun a=>mY n a.1 a.2.1,none⟩
def CF:Hn SI:=(.s .z (.s .z (.s .z (.s (.s .z (.b (.l ⟨[(5,(.v ah)),(6,(.v ah))],[(0,.l ah)],[0,1],[],1640,[]⟩ 0 ⟨[(5,(.v ah))],[(0,.l ah)],[0],[],1640,[]⟩ (.s .z (.s (.j ⟨[(5,(.v ah))],[(0,.l ah)],[0,1,6],[],1896,[]⟩ .z) .z))))) .z))))
theorem CG (n:Nat):aG 33 (CB n) :=cq (aj (tJ n) ax) Tryz.func33 CF n (by kernel_rfl) rfl fun _=>by kernel_rfl
def WM (n:Nat):Sig xx:=⟨[.d (.st SI.Town),.d (.st SI.Drawing),.d (.st SI.Drawing)],[.fresh ah],fun a=>Ba n a.1 a.2.1 a.2.2.1,none⟩
def WN:Hn SI:=(.s .z (.s (.f [4]) .z))
theorem WO (n:Nat):aG 18 (WM n) :=cq (aj (BB n) (aj (CG n) (aj (Ou n) ax))) Tryz.func18 WN n (by kernel_rfl) rfl fun _=>by kernel_rfl
def aa7 (n:Nat):Sig xx:=⟨[.d (.st SI.Town),.d (.st SI.Drawing),.d ah],[.d .bool],fun a=>D6 n a.1 a.2.1 a.2.2.1,none⟩
theorem aa8 (n:Nat):aG 19 (aa7 n) :=cq (aj (Cn n) (aj (BB n) (aj (ny n) ax))) Tryz.func19 .z n (by kernel_rfl) rfl fun _=>by kernel_rfl
def UN (n:Nat):Sig xx:=⟨[],[.d .bool],fun _=>Ch n,none⟩
def UO:Hn SI:=(.s .z (.s .z (.s .z (.s .z (.s (.j ⟨[(4,(.v .bool))],[],[1,2,3],[1128,1320,1512],1640,[]⟩ .z) (.s (.j ⟨[(5,(.v .bool))],[],[1,2,3,4],[1128,1320,1512],1640,[]⟩ .z) .z))))))
theorem UQ (n:Nat):aG 4 (UN n) :=cq (aj RG (aj aa2 (aj (vG n) (aj (Qe n) (aj (BB n) (aj (WL n) (aj (Ie n) (aj (WO n) (aj (aa8 n) ax))))))))) Tryz.func4 UO n (by kernel_rfl) rfl fun _=>by kernel_rfl
def Zq (n:Nat):Sig xx:=⟨[.d (.st SI.Town),.d (.st SI.Drawing)],[.d .bool],fun a=>FN n a.1 a.2.1,none⟩
def Zr:Hn SI:=(.s .z (.s (.s .z (.b (.lx ⟨[(5,(.v ah))],[],[2,3],[1000,1064],1256,[]⟩ 0 ⟨[],[],[2,3],[1000,1064],1256,[]⟩ (.s (.s (.j ⟨[(16,(.v .bool))],[],[2,3,5],[1000,1064],1256,[]⟩ .z) .z) (.s (.b (.s (.j ⟨[(36,(.v .bool))],[],[2,3,5],[1000,1064],1256,[]⟩ .z) .z)) .z))))) (.s (.s .z (.b (.lx ⟨[(6,(.v ah))],[],[2,3],[1000,1064],1320,[]⟩ 2 ⟨[],[],[2,3],[1000,1064],1320,[]⟩ (.s (.s (.j ⟨[(46,(.v .bool))],[],[2,3,6],[1000,1064],1320,[]⟩ .z) .z) .z)))) (.s (.s .z (.b (.lx ⟨[(7,(.v ah))],[],[2,3],[1000,1064],1384,[]⟩ 4 ⟨[],[],[2,3],[1000,1064],1384,[]⟩ (.s (.s (.j ⟨[(66,(.v .bool))],[],[2,3,7],[1000,1064],1384,[]⟩ .z) .z) .z)))) .z))))
theorem Zt (n:Nat):aG 5 (Zq n) :=cq ax Tryz.func5 Zr n (by kernel_rfl) rfl fun _=>by kernel_rfl
def WQ:Sig xx:=⟨[.d ah],[.d .str],fun a=>FO a.1,none⟩
theorem WR:aG 6 WQ :=cq ax Tryz.func6 .z 0 (by kernel_rfl) rfl fun _=>by kernel_rfl
def WS:Sig xx:=⟨[.d ah],[.d ah,.d .bool],fun a=>sS a.1,none⟩
def WT:Hn SI:=(.s .z (.s (.s .z (.b (.s (.j ⟨[(5,(.v .bool))],[],[0,4],[],1192,[]⟩ .z) (.s .z (.s (.j ⟨[(10,(.v .bool))],[],[0,4],[],1192,[]⟩ .z) .z))))) .z))
theorem WU:aG 65 WS :=cq ax Tryz.func65 WT 0 (by kernel_rfl) rfl fun _=>by kernel_rfl
def UR:Hn SI:=(.s .z (.s .z (.s (.s (.j ⟨[(28,(.v .bool))],[],[1,2],[1000],1640,[]⟩ .z) .z) (.s .z (.s (.s .z (.b (.l ⟨[(7,(.v ah)),(32,(.v ah))],[],[1,30,31],[],1960,[]⟩ 0 ⟨[(7,(.v ah))],[],[],[],1960,[]⟩ .z))) .z)))))
theorem RO (n:Nat) (rc:(aW)->(Int)->Option Int) (hr:aG 36 (yR rc)):aG 36 (yR (uT n rc)) :=cq (aj WU (aj hr ax)) Tryz.func36 UR n (by kernel_rfl) rfl fun _=>by kernel_rfl
theorem F7 (n:Nat):∀ m,aG 36 (yR (l7 n m))
 | 0=>cok (lX Tryz.func36 (by kernel_rfl:Tryz.f36.body=some (Tryz.f36.body.getD .skip)) (by kernel_rfl)) (fun _ _ h=>(by cases h)) rfl
 |m+1=>RO n _ (F7 n m)
def UU (n:Nat):Sig xx:=⟨[.d (.st SI.Expr),.d ah],[.d ah],fun a=>Ht n a.1 a.2.1,none⟩
theorem UW (n:Nat):aG 36 (UU n):=F7 n n
def WV (n:Nat):Sig xx:=⟨[.d (.st SI.Expr)],[.d .bool],fun a=>w9 n a.1,none⟩
theorem Nl (n:Nat):aG 20 (WV n) :=cq (aj (UW n) ax) Tryz.func20 .z n (by kernel_rfl) rfl fun _=>by kernel_rfl
def F8:Sig xx:=⟨[],[.fresh .str],fun _=>qz,none⟩
theorem F9:aG 66 F8 :=cq ax Tryz.func66 .z 0 (by kernel_rfl) rfl fun _=>by kernel_rfl
mutual
theorem ab2:∀ g:aW,(toE g).wt<=4000000->ERow (toE g) (lC g)
 |⟨op,n,s,key,args⟩,h=>by
  simp only[toE,ET.wt]at h;have:=ET.len_wt (Bb args);simp only[toE,lC,ERow];exact⟨n,key,_,rfl,by unfold maxLen;omega,by omega,Nn args (by omega)⟩
theorem Nn:∀ l:List aW,ET.wtL (Bb l)<=4000000->ERows (Bb l) (mM l)
 |[],_=>by simp only[Bb,mM,ERows]
 |x::xs,h=>by
  simp only[Bb,ET.wtL]at h;simp only[Bb,mM,ERows];exact⟨_,_,rfl,ab2 x (by omega),Nn xs (by omega)⟩
end
def Ga:Sig xx:=⟨[],[.d .bool],fun _=>none,some ⟨[(.v (.sl (.st SI.Def)))],[],[(.p 1000)],[(1000,.c 2 [[(.v (.sl (.st SI.Def))),(.v (.sl (.sl ah)))]])],fun v=>gD v⟩⟩
theorem UX:∀ l:List iM,wtD (l.map toD)<=4000000->DRows (l.map toD) (l.map DY)
 |[],_=>by simp only[List.map_nil,DRows]
 |x::xs,h=>by
  simp only[map_cons,wtD,List.foldr_cons,toD,ET.wt]at h;have:=ET.len_wt (Bb x.body_args);simp only[map_cons,DRows];refine⟨_,_,rfl,⟨_,_,_,_,_,rfl,by simp only[toD];unfold maxLen;omega,?_⟩,UX xs (by simp only[wtD];omega)⟩;simp only[toD,ERow];exact⟨_,_,_,rfl,by unfold maxLen;omega,by omega,by rw[<- qW];exact Nn _ (by omega)⟩
theorem Gc:aG 67 Ga:=by
 have hcall:eO Tryz.prog 67:=⟨_,Tryz.func67,by kernel_rfl,by kernel_rfl⟩;refine acJ hcall ?_;intro v r hr;have h':gD v=some r:=hr;unfold gD at h';cases hb:Nat.ble (wtD (List.map toD v)) 4000000 with
 |false=>rw[hb]at h';cases h'
 |true=>
  rw[hb]at h';have h'':some (v,jG (List.map toD v))=some r:=h';injection h'' with e;subst e;have hw:=Nat.le_of_ble_eq_true hb;have hlen:=J2 (List.map toD v);have hn:∀ d∈List.map toD v,d.2.names.length<=4000000:=fun d hd=>by have h1:=J3 hd;have h2:=ET.names_wt d.2;omega
  exact Rj (TL:=58) (TG:=158) (TI:=3) hcall (UX v hw) fun sv w hS=>abI (List.map toD v) (by omega) (fun d hd=>Nat.le_trans (hn d hd) (by omega))
   (fun d hd v0 v1 v2 v3 v4 w hE=>callsIn_wide.1 (aaF 0 d.2 v0 v1 v2 v3 v4 w hE (Nat.le_trans (hn d hd) (by omega)))) sv w hS
def JK:Sig xx:=⟨[.d (.sl ah),.d ah],[.fresh ah],fun a=>kY a.1 a.2.1,none⟩
theorem JL:aG 119 JK:=by
 have hcall:eO Tryz.prog 119:=⟨_,Tryz.func119,by kernel_rfl,by kernel_rfl⟩;refine cok hcall (fun a r h=>?_) rfl;obtain⟨l,c,⟨⟩⟩:=a;have h':kY l c=some r:=h
 match l,h' with
 |[x],h'=>
  simp only[kY]at h';cases hb:(decide (0<=c)&&decide (c<=1000000000000))with
  |false=>rw[hb]at h';cases h'
  |true=>
   rw[hb]at h';have h'':some (List.replicate c.toNat x)=some r:=h';injection h'' with e;subst e;simp only[Bool.and_eq_true,decide_eq_true_eq]at hb;obtain⟨h1,h2⟩:=hb;obtain⟨k,hk⟩:=Int.eq_ofNat_of_zero_le h1;subst hk;exact V5 (E:=3) (c:=k) hcall fun a cap w hx=>YX x k (Int.ofNat_le.1 (by simpa using h2)) a cap w hx
def vS (n:Nat):Sig xx:=⟨[.ref (.st SI.graph),.d ah],[.fresh ah],fun a=>eZ n a.1 a.2.1,none⟩
def vT:Hn SI:=(.s .z (.s .z (.s .z (.s .z (.s (.b (.l ⟨[(6,(.od 2024))],[(1448,.l ah),(2024,.l ah)],[0,5],[],2025,[]⟩ 0 ⟨[],[(1448,.l ah)],[5],[],2024,[]⟩ (.s .z (.b (.s .z (.s .z (.s .z (.b (.l ⟨[(6,(.od 3049)),(35,(.v ah))],[(1448,.l ah),(3049,.l ah)],[0,5,7,33,34],[],3050,[]⟩ 2 ⟨[(6,(.od 3049))],[(1448,.l ah),(3049,.l ah)],[0,5],[],3050,[]⟩ (.s .z (.s .z (.s (.j ⟨[(6,(.od 3114))],[(1448,.l ah),(3114,.l ah)],[0,5,7,33,34,35],[],3115,[]⟩ (.b (.s .z (.s (.j ⟨[(49,(.v .bool))],[],[0,5,6,7,8,33,34,35],[1448,3049],3434,[]⟩ .z) .z)))) .z)))))))))))) .z)))))
theorem vU (n:Nat):aG 108 (vS n) :=cq (aj JL (aj (ny n) ax)) Tryz.func108 vT n (by kernel_rfl) rfl fun _=>by kernel_rfl
def El:Sig xx:=⟨[.d .str],[.d .bool],fun a=>cmp_isNaN_string a.1,none⟩
theorem Em:aG 120 El :=cq ax Tryz.func120 .z 0 (by kernel_rfl) rfl fun _=>by kernel_rfl
def BD:Sig xx:=⟨[.d .str,.d .str],[.d ah],fun a=>jf a.1 a.2.1,none⟩
theorem BF:aG 109 BD :=cq (aj Em ax) Tryz.func109 .z 0 (by kernel_rfl) rfl fun _=>by kernel_rfl
def CJ (n:Nat):Sig xx:=⟨[.d (.sl .str),.d (.sl .str)],[.d ah],fun a=>gW n a.1 a.2.1,none⟩
def CK:Hn SI:=(.s .z (.s (.s .z (.b (.lx ⟨[(11,(.v ah))],[],[0,1,9,10],[],1256,[]⟩ 0 ⟨[],[],[0,1],[],1256,[]⟩ .z))) .z))
theorem CO (n:Nat):aG 94 (CJ n) :=cq (aj BF ax) Tryz.func94 CK n (by kernel_rfl) rfl fun _=>by kernel_rfl
def zO (n:Nat):Sig xx:=⟨[.d (.sl ah),.clo [ah] .bool],[.d .bool],fun a=>iE n a.1 a.2.1,none⟩
theorem zP (n:Nat):aG 51 (zO n) :=cq (aj (tJ n) ax) Tryz.func51 .z n (by kernel_rfl) rfl fun _=>by kernel_rfl
def tK:GSig xx:=⟨[(.v ah),(.p 0)],[(0,.c 1 [[(.o 1)]]),(1,.l .bool)],[(.v .bool)],[(0,.c 1 [[(.o 1)]]),(1,.l .bool)],fun v=>iC v.1 v.2⟩
def tL:Sig xx:=⟨[],[.d .bool],fun _=>none,some (tK)⟩
theorem tN:aG 95 tL :=cqG ax Tryz.func95 .z 0 (by kernel_rfl) fun _=>by kernel_rfl
def zQ (n:Nat):GSig xx:=⟨[(.v (.sl ah)),(.f 95 [] [(.p 0)])],[(0,.c 1 [[(.o 1)]]),(1,.l .bool)],[(.v ah)],[(0,.c 1 [[(.o 1)]]),(1,.l .bool)],fun v=>iF n v.1 v.2⟩
def zR (n:Nat):Sig xx:=⟨[],[.d .bool],fun _=>none,some (zQ n)⟩
def zT:Hn SI:=(.s .z (.s (.s .z (.b (.lx ⟨[(8,(.v ah))],[(0,.c 1 [[(.o 1)]]),(1,.l .bool)],[0,1,7],[],1256,[]⟩ 0 ⟨[],[(0,.c 1 [[(.o 1)]]),(1,.l .bool)],[],[],1256,[]⟩ .z))) .z))
theorem zV (n:Nat):aG 63 (zR n) :=cqG (aj tN ax) Tryz.func63 zT n (by kernel_rfl) fun _=>by kernel_rfl
def vV (n:Nat):GSig xx:=⟨[(.v (.sl ah)),(.f 95 [] [(.p 0)])],[(0,.c 1 [[(.o 1)]]),(1,.l .bool)],[(.v .bool)],[(0,.c 1 [[(.o 1)]]),(1,.l .bool)],fun v=>dJ n v.1 v.2⟩
def vW (n:Nat):Sig xx:=⟨[],[.d .bool],fun _=>none,some (vV n)⟩
theorem vX (n:Nat):aG 51 (vW n) :=cqG (aj (zV n) ax) Tryz.func51 .z n (by kernel_rfl) fun _=>by kernel_rfl
def BG (n:Nat):Sig xx:=⟨[.ref (.st SI.graph)],[.fresh ah],fun a=>jg n a.1,none⟩
def BH:Hn SI:=(.s .z (.s .z (.s .z (.s (.s .z (.b (.l ⟨[(4,(.o 2024)),(20,(.v ah))],[(1448,.c 1 [[(.o 1384)]]),(2024,.l ah),(1384,.l .bool)],[0,3,19],[],2025,[(4,ah)]⟩ 0 ⟨[(4,(.o 2024))],[(2024,.l ah)],[],[],2025,[]⟩ (.s .z (.s .z (.s (.b (.s .z (.s (.s .z (.b (.l ⟨[(5,(.v ah)),(27,(.v ah))],[(1448,.c 1 [[(.o 1384)]]),(1384,.l .bool)],[0,3,4,19,20,25,26],[2024],2537,[]⟩ 2 ⟨[(5,(.v ah))],[(1448,.c 1 [[(.o 1384)]]),(1384,.l .bool)],[0,3,4,19,20],[2024],2537,[]⟩ (.s .z (.s .z (.s (.j ⟨[(5,(.v ah))],[(1448,.c 1 [[(.o 1384)]]),(1384,.l .bool)],[0,3,4,19,20,25,26,27],[2024],2601,[]⟩ (.b (.s .z (.s .z (.s (.j ⟨[(66,(.v .bool))],[],[0,3,4,5,6,19,20,25,26,27],[1384,1448,2024],3177,[]⟩ .z) .z))))) .z)))))) .z))) .z)))))) .z))))
theorem BJ (n:Nat):aG 69 (BG n) :=cq (aj (vX n) ax) Tryz.func69 BH n (by kernel_rfl) rfl fun _=>by kernel_rfl
def vY (n:Nat):GSig xx:=⟨[(.p 0),(.v ah)],[(0,.c 2 [[(.v (.sl (.st SI.Def))),(.v (.sl (.sl ah)))]])],[(.oz 1000)],[(0,.c 2 [[(.v (.sl (.st SI.Def))),(.v (.sl (.sl ah)))]]),(1000,.l .str)],fun v=>fq n v.1 v.2.1 v.2.2⟩
def vZ (n:Nat):Sig xx:=⟨[],[.d .bool],fun _=>none,some (vY n)⟩
def wh:Hn SI:=(.s .z (.s .z (.s .z (.s .z (.b (.lx ⟨[(6,(.o 1512)),(7,(.v ah))],[(1512,.l .str)],[0,1,5],[0,1192],1513,[(6,.str)]⟩ 999999 ⟨[],[],[],[],1512,[]⟩ (.b (.s .z (.s .z (.s (.s .z (.b (.l ⟨[(8,(.v ah)),(34,(.v ah))],[],[0,1,5,6,32,33],[0,1192,2153],2921,[]⟩ 2 ⟨[(8,(.v ah))],[],[0,1,5,6],[0,1192,2153],2921,[]⟩ (.s .z (.s .z (.s (.j ⟨[(8,(.v ah))],[],[0,1,5,6,32,33,34],[0,1192,2153],2985,[]⟩ (.b (.s .z (.s (.j ⟨[(57,(.v .bool))],[],[0,1,5,6,8,10,32,33,34],[0,1192,2153],3177,[]⟩ .z) .z)))) .z)))))) .z))))))))))
theorem wm (n:Nat):aG 93 (vZ n) :=cqG (aj (vU n) ax) Tryz.func93 wh n (by kernel_rfl) fun _=>by kernel_rfl
def tO (n:Nat):GSig xx:=⟨[(.p 0)],[(0,.c 2 [[(.v (.sl (.st SI.Def))),(.v (.sl (.sl ah)))]])],[(.oz 1000)],[(0,.c 2 [[(.v (.sl (.st SI.Def))),(.v (.sl (.sl ah)))]]),(1000,.l .str)],fun v=>dX n v.1 v.2⟩
def tQ (n:Nat):Sig xx:=⟨[],[.d .bool],fun _=>none,some (tO n)⟩
def tT:Hn SI:=(.s .z (.s .z (.s (.s .z (.b (.l ⟨[(3,(.oz 1512)),(11,(.v ah))],[(0,.c 2 [[(.v (.sl (.st SI.Def))),(.v (.sl (.sl ah)))]]),(1512,.l .str)],[0,10],[],1513,[(1099511627779,.str)]⟩ 0 ⟨[(3,(.oz 1512))],[(0,.c 2 [[(.v (.sl (.st SI.Def))),(.v (.sl (.sl ah)))]]),(1512,.l .str)],[],[],1513,[]⟩ (.s .z (.s .z (.s (.j ⟨[(3,(.oz 1577))],[(0,.c 2 [[(.v (.sl (.st SI.Def))),(.v (.sl (.sl ah)))]]),(1577,.l .str)],[0,10,11],[],1578,[]⟩ (.b (.s .z (.s .z (.s (.s (.j ⟨[(18,(.v .bool))],[],[0,3,5,10,11],[0,1512,1833],1961,[]⟩ .z) .z) (.s (.j ⟨[(40,(.v .bool))],[],[0,3,5,10,11],[0,1512,1833],1961,[]⟩ .z) .z)))))) .z)))))) .z)))
theorem tV (n:Nat):aG 68 (tQ n) :=cqG (aj (wm n) (aj (CO n) ax)) Tryz.func68 tT n (by kernel_rfl) fun _=>by kernel_rfl
def Np (n:Nat):Sig xx:=⟨[.d (.st SI.Plan)],[.fresh ah,.d (.sl .str),.d ah],fun a=>rf n a.1,none⟩
def Nq:Hn SI:=(.s .z (.s .z (.s (.s .z (.b (.l ⟨[(15,(.v ah))],[(1256,.m .str .bool)],[1,5,13,14],[1000,1384],1576,[]⟩ 0 ⟨[],[(1256,.m .str .bool)],[1,5],[1000],1576,[]⟩ .z))) (.s (.s .z (.b (.lx ⟨[(25,(.v ah))],[(1256,.m .str .bool)],[1,5,23,24],[1000],1832,[]⟩ 2 ⟨[],[],[1],[1000],1832,[]⟩ .z))) (.s .z (.s (.s .z (.s (.j ⟨[(43,(.v .bool))],[],[10,11],[1960,2152],2280,[]⟩ .z) .z)) .z))))))
theorem Ns (n:Nat):aG 37 (Np n) :=cq (aj F9 (aj Gc (aj (tV n) (aj (BJ n) ax)))) Tryz.func37 Nq n (by kernel_rfl) rfl fun _=>by kernel_rfl
def CP:Sig xx:=⟨[.d (.st SI.Table),.ref (.st SI.Expr)],[.d .bool],fun a=>uU a.1 a.2.1,none⟩
theorem CQ:aG 70 CP :=cq ax Tryz.func70 .z 0 (by kernel_rfl) rfl fun _=>by kernel_rfl
def CR:Sig xx:=⟨[.d (.st SI.Entry),.ref (.st SI.Expr)],[.d .bool],fun a=>uV a.1 a.2.1,none⟩
theorem CU:aG 71 CR :=cq ax Tryz.func71 .z 0 (by kernel_rfl) rfl fun _=>by kernel_rfl
def Gd (n:Nat):Sig xx:=⟨[.d (.sl .str),.d .str],[.d ah],fun a=>qC n a.1 a.2.1,none⟩
def Gf:Hn SI:=(.s .z (.s (.s .z (.b (.lx ⟨[(8,(.v ah))],[],[0,1,7],[],1256,[]⟩ 0 ⟨[],[],[],[],1256,[]⟩ .z))) .z))
theorem Gg (n:Nat):aG 72 (Gd n) :=cq ax Tryz.func72 Gf n (by kernel_rfl) rfl fun _=>by kernel_rfl
def BK (n:Nat):Sig xx:=⟨[.d (.sl .str),.d .str],[.d .bool],fun a=>ji n a.1 a.2.1,none⟩
theorem BL (n:Nat):aG 40 (BK n) :=cq (aj (Gg n) ax) Tryz.func40 .z n (by kernel_rfl) rfl fun _=>by kernel_rfl
def aa9:Sig xx:=⟨[.d .bool],[.d ah],fun a=>sU a.1,none⟩
theorem UY:aG 39 aa9 :=cq ax Tryz.func39 .z 0 (by kernel_rfl) rfl fun _=>by kernel_rfl
def Ov:Sig xx:=⟨[.d ah,.d ah],[.d ah],fun a=>pO a.1 a.2.1,none⟩
def Ow:Hn SI:=(.s .z (.s .z (.s .z (.s (.j ⟨[(5,(.v ah))],[],[],[],1448,[]⟩ (.s .z (.s (.j ⟨[(23,(.v .bool))],[],[5],[],1704,[]⟩ .z) .z))) .z))))
theorem Ox:aG 73 Ov :=cq ax Tryz.func73 Ow 0 (by kernel_rfl) rfl fun _=>by kernel_rfl
def UZ:Sig xx:=⟨[.d ah,.d ah,.d ah],[.d ah],fun a=>Ci a.1 a.2.1 a.2.2.1,none⟩
theorem U0:aG 41 UZ :=cq (aj Ox (aj UY ax)) Tryz.func41 .z 0 (by kernel_rfl) rfl fun _=>by kernel_rfl
def CV (n:Nat):GSig xx:=⟨[(.a [(.v (.sl (.st SI.Def))),(.v (.sl (.st SI.Table))),(.v (.sl (.st SI.Zone))),(.v (.sl (.st SI.Rule))),(.v (.sl (.st SI.Cap))),(.v (.sl (.st SI.View))),(.v (.sl (.st SI.Point3))),(.v ah),(.mp 0),(.v (.sl .str))]),(.v (.st SI.Expr))],[(0,.m .str ah)],[(.v ah)],[(0,.m .str ah)],fun v=>jI n v.1 v.2.1 v.2.2.1 v.2.2.2.1 v.2.2.2.2.1 v.2.2.2.2.2.1 v.2.2.2.2.2.2.1 v.2.2.2.2.2.2.2.1 v.2.2.2.2.2.2.2.2.1 v.2.2.2.2.2.2.2.2.2.1 v.2.2.2.2.2.2.2.2.2.2⟩
def CW (n:Nat):Sig xx:=⟨[],[.d .bool],fun _=>none,some (CV n)⟩
theorem CX (n:Nat):aG 38 (CW n) :=cqG (aj (pY n) (aj CQ (aj (p8 n) (aj CU ax)))) Tryz.func38 .z n (by kernel_rfl) fun _=>by kernel_rfl
def zW:Hn SI:=(.s .z (.s .z (.s (.s .z (.b (.l ⟨[(5,(.o 1512)),(11,(.v ah))],[(0,.m .str ah),(1512,.l ah)],[2,3,9,10],[1000,1064],1513,[(5,ah)]⟩ 0 ⟨[(5,(.o 1512))],[(0,.m .str ah),(1512,.l ah)],[2,3],[1000,1064],1513,[]⟩ (.s .z (.s .z (.s (.j ⟨[(5,(.o 1577))],[(0,.m .str ah),(1577,.l ah)],[2,3,9,10,11],[1000,1064],1578,[]⟩ (.b (.s .z (.s (.s (.j ⟨[(31,(.v .bool))],[],[2,3,5,7,9,10,11],[0,1000,1064,1512,1769],1961,[]⟩ .z) .z) .z)))) .z)))))) .z)))
theorem zh (n:Nat) (rc:((List iM))->((List bB))->((List pE))->((List pF))->((List AZ))->((List pG))->((List fP))->(Int)->((List ByteArray))->(aW)->((List (ByteArray×Int)))->Option (Int×(List (ByteArray×Int)))) (hr:aG 22 (fw rc)):aG 22 (fw (cB n rc)) :=cqG (aj hr (aj (CX n) (aj (BL n) (aj UY (aj U0 ax))))) Tryz.func22 zW n (by kernel_rfl) fun _=>by kernel_rfl
theorem nC (n:Nat):∀ m,aG 22 (fw (aR n m))
 | 0=>acJ (lX Tryz.func22 (by kernel_rfl:Tryz.f22.body=some (Tryz.f22.body.getD .skip)) (by kernel_rfl)) (fun _ _ h=>(by cases h))
 |m+1=>zh n _ (nC n m)
def zX (n:Nat):Sig xx:=fw (aR n n)
theorem nM (n:Nat):aG 22 (zX n):=nC n n
def JM (n:Nat):GSig xx:=⟨[(.v (.st SI.Plan)),(.v (.sl (.st SI.Entry))),(.v (.sl .str))],[],[(.a [(.v (.sl (.st SI.Def))),(.v (.sl (.st SI.Table))),(.v (.sl (.st SI.Zone))),(.v (.sl (.st SI.Rule))),(.v (.sl (.st SI.Cap))),(.v (.sl (.st SI.View))),(.v (.sl (.st SI.Point3))),(.v ah),(.mp 1000),(.v (.sl .str))]),(.o 1001)],[(1000,.m .str ah),(1001,.l ah)],fun v=>oK n v.1 v.2.1 v.2.2⟩
def JN (n:Nat):Sig xx:=⟨[],[.d .bool],fun _=>none,some (JM n)⟩
def JO:Hn SI:=(.s .z (.s .z (.s .z (.s (.s .z (.b (.l ⟨[(26,(.v ah))],[(1256,.m .str ah),(1576,.m .str .bool)],[3,6,8,9,24,25],[1000,1064,1448],1896,[]⟩ 0 ⟨[],[(1256,.m .str ah),(1576,.m .str .bool)],[3,6,8,9],[1000,1064,1448],1896,[]⟩ (.s .z (.s .z (.s (.j ⟨[],[(1256,.m .str ah),(1576,.m .str .bool)],[3,6,8,9,24,25,26],[1000,1064,1448],1960,[]⟩ .z) .z)))))) (.s .z (.s .z (.s .z (.s (.s .z (.b (.l ⟨[(61,(.v ah))],[(1256,.m .str ah),(2088,.l ah)],[3,6,8,9,12,59,60],[1000,1064,1448,1576,2280],3112,[]⟩ 2 ⟨[],[(1256,.m .str ah),(2088,.l ah)],[6,8,12],[1064,1448],3112,[]⟩ (.s .z (.s .z (.s (.j ⟨[],[(1256,.m .str ah),(2088,.l ah)],[3,6,8,9,12,59,60,61],[1000,1064,1448,1576,2280],3176,[]⟩ (.b (.s .z (.s .z (.s (.j ⟨[],[(1256,.m .str ah),(2088,.l ah)],[3,6,8,9,12,17,18,59,60,61],[1000,1064,1448,1576,2280,3688],3816,[]⟩ .z) .z))))) .z)))))) .z))))))))
theorem JP (n:Nat):aG 21 (JN n) :=cqG (aj (Ns n) (aj (Nl n) (aj (nM n) ax))) Tryz.func21 JO n (by kernel_rfl) fun _=>by kernel_rfl
def Zu (n:Nat):Sig xx:=⟨[.d (.st SI.Plan),.d (.sl (.st SI.Entry)),.d (.sl .str),.d (.st SI.Expr)],[.d ah],fun a=>yT n a.1 a.2.1 a.2.2.1 a.2.2.2.1,none⟩
theorem Zv (n:Nat):aG 7 (Zu n) :=cq (aj (Nl n) (aj (JP n) (aj (nM n) ax))) Tryz.func7 .z n (by kernel_rfl) rfl fun _=>by kernel_rfl
def U1:Sig xx:=⟨[.d ah],[.d .bool],fun a=>xg a.1,none⟩
theorem Je:aG 48 U1 :=cq ax Tryz.func48 .z 0 (by kernel_rfl) rfl fun _=>by kernel_rfl
def WW:Sig xx:=⟨[.d ah],[.d .bool],fun a=>FP a.1,none⟩
theorem WX:aG 49 WW :=cq ax Tryz.func49 .z 0 (by kernel_rfl) rfl fun _=>by kernel_rfl
def Nt (n:Nat):Sig xx:=⟨[.d (.sl ah)],[.d .bool],fun a=>rq n a.1,none⟩
def Nu:Hn SI:=(.s .z (.s (.s .z (.b (.lx ⟨[(3,(.v ah))],[],[0],[],1128,[]⟩ 0 ⟨[],[],[],[],1128,[]⟩ .z))) .z))
theorem Nv (n:Nat):aG 50 (Nt n) :=cq ax Tryz.func50 Nu n (by kernel_rfl) rfl fun _=>by kernel_rfl
def Oy:Sig xx:=⟨[.d ah],[.d .bool],fun a=>uW a.1,none⟩
theorem Oz:aG 52 Oy :=cq (aj Je ax) Tryz.func52 .z 0 (by kernel_rfl) rfl fun _=>by kernel_rfl
def Zw:Sig xx:=⟨[.d aA,.d aA],[.d .bool],fun a=>J6 a.1 a.2.1,none⟩
def Zx:Hn SI:=(.s .z (.s (.s (.j ⟨[(14,(.v .bool))],[],[2,3],[1000,1064],1192,[]⟩ .z) .z) .z))
theorem Zy:aG 79 Zw :=cq (aj H7 (aj UJ ax)) Tryz.func79 Zx 0 (by kernel_rfl) rfl fun _=>by kernel_rfl
def CY (n:Nat):Sig xx:=⟨[.d (.sl aA),.clo [aA] .bool],[.d ah],fun a=>mZ n a.1 a.2.1,none⟩
def CZ:Hn SI:=(.s .z (.s (.s .z (.b (.lx ⟨[(8,(.v ah))],[],[0,1,7],[],1256,[]⟩ 0 ⟨[],[],[],[],1256,[]⟩ .z))) .z))
theorem C8 (n:Nat):aG 80 (CY n) :=cq ax Tryz.func80 CZ n (by kernel_rfl) rfl fun _=>by kernel_rfl
def Ig:GSig xx:=⟨[(.v aA),(.p 0),(.p 1)],[(0,.c 1 [[(.o 2)]]),(1,.c 1 [[(.v ah)]]),(2,.l aA)],[(.v .bool)],[(0,.c 1 [[(.o 1000)]]),(1,.c 1 [[(.v ah)]]),(1000,.l aA)],fun v=>jV v.1 v.2.1 v.2.2⟩
def Ih:Sig xx:=⟨[],[.d .bool],fun _=>none,some (Ig)⟩
theorem xG:aG 78 Ih :=cqG (aj Zy ax) Tryz.func78 .z 0 (by kernel_rfl) fun _=>by kernel_rfl
def zi (n:Nat):GSig xx:=⟨[(.v (.sl aA)),(.f 78 [] [(.p 0),(.p 1)])],[(0,.c 1 [[(.o 2)]]),(1,.c 1 [[(.v ah)]]),(2,.l aA)],[(.v ah)],[(0,.c 1 [[(.o 1000)]]),(1,.c 1 [[(.v ah)]]),(1000,.l aA)],fun v=>gX n v.1 v.2.1 v.2.2⟩
def zk (n:Nat):Sig xx:=⟨[],[.d .bool],fun _=>none,some (zi n)⟩
def zl:Hn SI:=(.s .z (.s (.s .z (.b (.lx ⟨[(8,(.v ah))],[(0,.c 1 [[(.o 1256)]]),(1,.c 1 [[(.v ah)]]),(1256,.l aA)],[0,1,7],[],1257,[]⟩ 0 ⟨[],[(0,.c 1 [[(.o 1256)]]),(1,.c 1 [[(.v ah)]]),(1256,.l aA)],[],[],1257,[]⟩ .z))) .z))
theorem zm (n:Nat):aG 80 (zk n) :=cqG (aj xG ax) Tryz.func80 zl n (by kernel_rfl) fun _=>by kernel_rfl
def xH (n:Nat):GSig xx:=⟨[(.od 0),(.f 78 [] [(.p 1),(.p 2)])],[(0,.l aA),(1,.c 1 [[(.o 3)]]),(2,.c 1 [[(.v ah)]]),(3,.l aA)],[(.od 0)],[(0,.l aA),(1,.c 1 [[(.o 1000)]]),(2,.c 1 [[(.v ah)]]),(1000,.l aA)],fun v=>fT n v.1 v.2.1 v.2.2.1 v.2.2.2⟩
def xI (n:Nat):Sig xx:=⟨[],[.d .bool],fun _=>none,some (xH n)⟩
def xJ:Hn SI:=(.s .z (.s .z (.s .z (.s (.s .z (.b (.l ⟨[(5,(.v ah)),(6,(.v ah))],[(0,.l aA),(1,.c 1 [[(.o 1640)]]),(2,.c 1 [[(.v ah)]]),(1640,.l aA)],[0,1],[],1641,[]⟩ 0 ⟨[(5,(.v ah))],[(0,.l aA),(1,.c 1 [[(.o 1640)]]),(2,.c 1 [[(.v ah)]]),(1640,.l aA)],[0],[],1641,[]⟩ (.s .z (.s (.j ⟨[(5,(.v ah))],[(0,.l aA),(1,.c 1 [[(.o 1897)]]),(2,.c 1 [[(.v ah)]]),(1897,.l aA)],[0,1,6],[],1898,[]⟩ .z) .z))))) .z))))
theorem xK (n:Nat):aG 77 (xI n) :=cqG (aj (zm n) (aj xG ax)) Tryz.func77 xJ n (by kernel_rfl) fun _=>by kernel_rfl
def WY (n:Nat):Sig xx:=⟨[.d (.sl aA)],[.fresh (.sl aA)],fun a=>FQ n a.1,none⟩
def WZ:Hn SI:=(.s .z (.s .z (.s .z (.s .z (.s (.b (.l ⟨[(3,(.od 1320)),(4,(.o 1512))],[(1320,.l aA),(1512,.l (.sl aA))],[],[],1513,[(4,(.sl aA))]⟩ 0 ⟨[(4,(.o 1512))],[(1512,.l (.sl aA))],[],[],1513,[]⟩ (.s .z (.b (.s .z (.s .z (.s (.s .z (.b (.l ⟨[(3,(.od 1320)),(6,(.p 2409))],[(1320,.l aA),(1961,.c 1 [[(.o 2410)]]),(2409,.c 1 [[(.v ah)]]),(2410,.l aA)],[4,5],[1512],2411,[]⟩ 2 ⟨[(3,(.od 1320))],[(1320,.l aA),(1961,.c 1 [[(.o 2409)]]),(2409,.l aA)],[4,5],[1512],2410,[]⟩ .z))) .z))))))) .z)))))
theorem W9 (n:Nat):aG 53 (WY n) :=cq (aj (Nh n) (aj zH (aj (xK n) (aj (Jd n) (aj (Ng n) ax))))) Tryz.func53 WZ n (by kernel_rfl) rfl fun _=>by kernel_rfl
def Xa (n:Nat):Sig xx:=⟨[.d (.st SI.Lot)],[.d .bool],fun a=>Bd n a.1,none⟩
theorem Xb (n:Nat):aG 27 (Xa n) :=cq (aj Je (aj WX (aj (Nv n) (aj (zP n) (aj Oz (aj (W9 n) ax)))))) Tryz.func27 .z n (by kernel_rfl) rfl fun _=>by kernel_rfl
def JQ:Sig xx:=⟨[.d aA,.ref aA],[.d .bool],fun a=>oL a.1 a.2.1,none⟩
theorem JS:aG 56 JQ :=cq ax Tryz.func56 .z 0 (by kernel_rfl) rfl fun _=>by kernel_rfl
def zn (n:Nat):Sig xx:=⟨[.d (.sl aA),.clo [aA] .bool],[.d .bool],fun a=>dZ n a.1 a.2.1,none⟩
theorem nD (n:Nat):aG 54 (zn n) :=cq (aj (C8 n) ax) Tryz.func54 .z n (by kernel_rfl) rfl fun _=>by kernel_rfl
def RP (n:Nat):Sig xx:=⟨[.d aA,.ref (.sl aA)],[.d .bool],fun a=>yU n a.1 a.2.1,none⟩
theorem RQ (n:Nat):aG 55 (RP n) :=cq (aj (nD n) (aj JS ax)) Tryz.func55 .z n (by kernel_rfl) rfl fun _=>by kernel_rfl
def Zz (n:Nat):Sig xx:=⟨[.d (.sl aA),.d (.sl aA)],[.d .bool],fun a=>J7 n a.1 a.2.1,none⟩
theorem ZA (n:Nat):aG 28 (Zz n) :=cq (aj (nD n) (aj (RQ n) ax)) Tryz.func28 .z n (by kernel_rfl) rfl fun _=>by kernel_rfl
def Xc (n:Nat):Sig xx:=⟨[.d (.sl (.st SI.Lot))],[.d .bool],fun a=>FR n a.1,none⟩
def Xd:Hn SI:=(.s .z (.s .z (.s .z (.s (.s .z (.b (.lx ⟨[(19,(.v ah))],[(1256,.m ah .bool),(1320,.m ah .bool)],[0,3,4,17,18],[],1704,[]⟩ 0 ⟨[],[(1256,.m ah .bool),(1320,.m ah .bool)],[0,3,4],[],1704,[]⟩ (.s .z (.s .z (.s (.b (.s .z (.s (.s (.j ⟨[(41,(.v .bool))],[],[0,3,4,6,17,18,19],[1256,1320,1960],2152,[]⟩ .z) .z) (.s .z (.s .z (.b (.l ⟨[(48,(.v ah))],[(1320,.m ah .bool)],[0,3,4,17,18,19,46,47],[1256],2664,[]⟩ 2 ⟨[],[(1320,.m ah .bool)],[0,3,4,17,18,19],[1256],2664,[]⟩ .z))))))) .z)))))) (.s (.rg ⟨[],[],[0,3,57],[1256],1704,[]⟩ .z) (.s (.s .z (.b (.lx ⟨[(67,(.v ah))],[],[0,66],[],1896,[]⟩ 6 ⟨[],[],[],[],1896,[]⟩ (.s .z (.s .z (.s (.b (.s .z (.s .z (.b (.lx ⟨[(71,(.v ah))],[],[0,10,66,67,70],[],2216,[]⟩ 8 ⟨[],[],[0,66,67],[],2216,[]⟩ .z))))) .z)))))) .z))))))
theorem Xe (n:Nat):aG 11 (Xc n) :=cq (aj (Xb n) (aj (ZA n) ax)) Tryz.func11 Xd n (by kernel_rfl) rfl fun _=>by kernel_rfl
def Gh (n:Nat):Sig xx:=⟨[.d (.st SI.Town),.d (.st SI.Drawing)],[.d .bool],fun a=>lF n a.1 a.2.1,none⟩
def Gi:Hn SI:=(.s .z (.s .z (.s .z (.s .z (.s (.s .z (.b (.l ⟨[(6,(.v ah)),(7,(.v ah))],[],[2,3,5],[1000,1064],1704,[]⟩ 0 ⟨[(6,(.v ah))],[],[2,3,5],[1000,1064],1704,[]⟩ (.s .z (.s (.b (.s .z (.b (.l ⟨[(6,(.v ah)),(8,(.v ah))],[],[2,3,5,7],[1000,1064],2088,[]⟩ 2 ⟨[(6,(.v ah))],[],[2,3,5,7],[1000,1064],2088,[]⟩ (.s .z (.s (.j ⟨[(6,(.v ah))],[],[2,3,5,7,8],[1000,1064],2664,[]⟩ .z) .z)))))) .z))))) (.s .z (.s .z (.s .z (.s .z (.s (.f [3]) (.s (.s .z (.b (.lx ⟨[(15,(.v ah))],[],[2,3,5,6,10,11,12,14],[1000,1064,2088,2920],3432,[]⟩ 4 ⟨[],[],[2,3,5,6,10,11],[1000,1064,2088],3432,[]⟩ (.s .z (.s (.b (.s .z (.s .z (.s (.j ⟨[(119,(.v .bool))],[],[2,3,5,6,10,11,12,14,15],[1000,1064,2088,2920],5160,[]⟩ .z) .z)))) .z))))) .z)))))))))))
theorem Gj (n:Nat):aG 3 (Gh n) :=cq (aj (UQ n) (aj (Zt n) (aj WR (aj (Zv n) (aj (Cn n) (aj (Ie n) (aj (UK n) (aj (Xe n) (aj (vG n) (aj (Qe n) ax)))))))))) Tryz.func3 Gi n (by kernel_rfl) rfl fun _=>by kernel_rfl
end
end Go.Proofs
