/-
  Printed by wip/gen: that functions of the program compute this.
-/
import Derived.Test.YtbdekfpclohfnaaGreatS3
namespace Go.Proofs
open Go.Gb Go.RowKit
noncomputable section
def abS:Sig xx:=⟨[],[.d bR],fun _=>LC,none⟩
theorem abT:aD 23 abS :=cq ax Tryz.func23 .z 0 (by kernel_rfl) rfl fun _=>by kernel_rfl
def Ty (n:Nat):Sig xx:=⟨[.d bR],[.d .bool],fun a=>qD n a.1,none⟩
def Tz:Hn SI:=(.s .z (.s (.s (.j ⟨[(18,(.v .bool))],[],[1],[1000],1128,[]⟩ .z) .z) (.s (.s .z (.b (.lx ⟨[(22,(.v ah))],[],[1,20,21],[1000],1384,[]⟩ 0 ⟨[],[],[],[],1384,[]⟩ (.s .z (.s .z (.s (.b (.s .z (.s (.j ⟨[(41,(.v .bool))],[],[1,20,21,22],[1000],1704,[]⟩ .z) .z))) .z)))))) .z)))
theorem H8 (n:Nat):aD 95 (Ty n) :=cq ax Tryz.func95 Tz n (by kernel_rfl) rfl fun _=>by kernel_rfl
def TA (n:Nat):Sig xx:=⟨[.d bR],[.d (.st SI.A144_bool)],fun a=>qE n a.1,none⟩
def TB:Hn SI:=(.s .z (.s .z (.s (.s .z (.b (.l ⟨[(9,(.v ah))],[(1128,.l .bool)],[2,3,7,8],[1064],1448,[]⟩ 0 ⟨[],[(1128,.l .bool)],[2,3],[1064],1448,[]⟩ .z))) .z)))
theorem H9 (n:Nat):aD 97 (TA n) :=cq ax Tryz.func97 TB n (by kernel_rfl) rfl fun _=>by kernel_rfl
def TD (n:Nat):Sig xx:=⟨[.d (.st SI.A144_bool)],[.d (.st SI.A144_bool)],fun a=>qF n a.1,none⟩
def TF:Hn SI:=(.s .z (.s (.s .z (.b (.l ⟨[(3,(.p 1320))],[(1000,.l .bool),(1320,.l .bool)],[1,2],[1064],1321,[]⟩ 0 ⟨[],[(1000,.l .bool)],[1,2],[1064],1320,[]⟩ (.s .z (.s (.b (.s .z (.s .z (.b (.l ⟨[(12,(.v ah))],[(1000,.l .bool)],[1,2,3],[1064,1320],1705,[]⟩ 2 ⟨[],[(1000,.l .bool)],[1,2,3],[1064,1320],1705,[]⟩ (.s .z (.s .z (.s (.b (.s .z (.s .z (.b (.l ⟨[(15,(.v ah))],[(1000,.l .bool)],[1,2,3,4,12],[1064,1320],1961,[]⟩ 4 ⟨[],[(1000,.l .bool)],[1,2,3,12],[1064,1320],1961,[]⟩ (.s .z (.s .z (.s (.b (.s .z (.s .z (.b (.l ⟨[(18,(.v ah))],[(1000,.l .bool)],[1,2,3,4,5,12,15],[1064,1320],2217,[]⟩ 6 ⟨[],[(1000,.l .bool)],[1,2,3,4,12,15],[1064,1320],2217,[]⟩ (.s .z (.s .z (.s (.j ⟨[],[(1000,.l .bool)],[1,2,3,4,5,12,15,18],[1064,1320],2281,[]⟩ .z) .z)))))))) .z)))))))) .z)))))))) .z))))) .z))
theorem TG (n:Nat):aD 96 (TD n) :=cq ax Tryz.func96 TF n (by kernel_rfl) rfl fun _=>by kernel_rfl
def PG (n:Nat):Sig xx:=⟨[.d bR],[.d (.st SI.A144_bool),.d .bool],fun a=>kX n a.1,none⟩
def PI:Hn SI:=(.s .z (.s .z (.s .z (.s (.s .z (.b (.lx ⟨[(14,(.v ah))],[],[1,2,4],[1000,1064,1576],1768,[]⟩ 0 ⟨[],[],[1,2,4],[1000,1064,1576],1768,[]⟩ .z))) (.s (.s .z (.b (.l ⟨[(26,(.v ah))],[(1576,.l .bool)],[2,4,25],[1064],1960,[]⟩ 2 ⟨[],[(1576,.l .bool)],[2,4],[1064],1960,[]⟩ .z))) .z)))))
theorem vR (n:Nat):aD 52 (PG n) :=cq (aj (H8 n) (aj (H9 n) (aj (TG n) ax))) Tryz.func52 PI n (by kernel_rfl) rfl fun _=>by kernel_rfl
def TH (n:Nat):Sig xx:=⟨[.d (.sl bR)],[.d .bool],fun a=>mX n a.1,none⟩
def TI:Hn SI:=(.s .z (.s (.s .z (.b (.lx ⟨[(9,(.v ah))],[],[0,7,8],[],1256,[]⟩ 0 ⟨[],[],[0],[],1256,[]⟩ .z))) .z))
theorem yS (n:Nat):aD 19 (TH n) :=cq (aj (vR n) ax) Tryz.func19 TI n (by kernel_rfl) rfl fun _=>by kernel_rfl
def PK:Sig xx:=⟨[.d (.sl ak)],[.fresh ak],fun a=>Bt a.1,none⟩
theorem PL:aD 102 PK :=cq ax Tryz.func102 .z 0 (by kernel_rfl) rfl fun _=>by kernel_rfl
def TJ:Sig xx:=⟨[.d (.sl ah)],[.fresh ah],fun a=>kG a.1,none⟩
theorem qY:aD 47 TJ :=cq ax Tryz.func47 .z 0 (by kernel_rfl) rfl fun _=>by kernel_rfl
def abU:Sig xx:=⟨[.d (.st SI.Lot)],[.d (.st SI.Lot)],fun a=>LD a.1,none⟩
theorem abV:aD 62 abU :=cq (aj PL (aj qY ax)) Tryz.func62 .z 0 (by kernel_rfl) rfl fun _=>by kernel_rfl
def ad5 (n:Nat):Sig xx:=⟨[.d (.sl (.st SI.Lot)),.d ah],[.d (.st SI.Lot),.d .bool],fun a=>IA n a.1 a.2.1,none⟩
def ad6:Hn SI:=(.s .z (.s (.s .z (.b (.lx ⟨[(10,(.v ah))],[],[1,4,8,9],[1000],1320,[]⟩ 0 ⟨[],[],[4],[1000],1320,[]⟩ .z))) .z))
theorem Ws (n:Nat):aD 27 (ad5 n) :=cq (aj abV ax) Tryz.func27 ad6 n (by kernel_rfl) rfl fun _=>by kernel_rfl
def X7:Sig xx:=⟨[.d (.int .u64)],[.d ah],fun a=>bits_Len64 a.1,none⟩
def X8:Hn SI:=(.s .z (.s (.j ⟨[(0,(.v (.int .u64))),(2,(.v ah))],[],[],[],1064,[]⟩ .z) (.s (.j ⟨[(0,(.v (.int .u64))),(2,(.v ah))],[],[],[],1064,[]⟩ .z) (.s (.j ⟨[(0,(.v (.int .u64))),(2,(.v ah))],[],[],[],1064,[]⟩ .z) .z))))
theorem X9:aD 142 X7 :=cq ax Tryz.func142 X8 0 (by kernel_rfl) rfl fun _=>by kernel_rfl
def abW:Sig xx:=⟨[.d (.int .u64)],[.d ah],fun a=>bits_Len a.1,none⟩
theorem yT:aD 105 abW :=cq (aj X9 ax) Tryz.func105 .z 0 (by kernel_rfl) rfl fun _=>by kernel_rfl
def Kb:Sig xx:=⟨[.d .str],[.d .bool],fun a=>cmp_isNaN_string a.1,none⟩
theorem Kc:aD 185 Kb :=cq ax Tryz.func185 .z 0 (by kernel_rfl) rfl fun _=>by kernel_rfl
def Me:Sig xx:=⟨[.d .str,.d .str],[.d .bool],fun a=>cmp_Less_string a.1 a.2.1,none⟩
theorem fD:aD 138 Me :=cq (aj Kc ax) Tryz.func138 .z 0 (by kernel_rfl) rfl fun _=>by kernel_rfl
def qZ (n:Nat):Sig xx:=⟨[.mut .str,.d ah,.d ah],[.mu .str],fun a=>sQ n a.1 a.2.1 a.2.2.1,none⟩
def q8:Hn SI:=(.s .z (.b (.l ⟨[(6,(.v ah))],[(0,.l .str)],[0,1,2],[],1192,[]⟩ 0 ⟨[],[(0,.l .str)],[],[],1192,[]⟩ (.s .z (.s (.b (.s .z (.b (.l ⟨[(7,(.v ah))],[(0,.l .str)],[0,1,2,6],[],1512,[]⟩ 2 ⟨[],[(0,.l .str)],[0,1,2,6],[],1512,[]⟩ (.s (.s (.j ⟨[(30,(.v .bool))],[],[0,1,2,6,7],[0],1512,[]⟩ .z) .z) .z))))) .z)))))
theorem q9 (n:Nat):aD 132 (qZ n) :=cq (aj fD ax) Tryz.func132 q8 n (by kernel_rfl) rfl fun _=>by kernel_rfl
def wW (n:Nat):Sig xx:=⟨[.mut .str,.d ah,.d ah,.d ah],[.mu .str],fun a=>zq n a.1 a.2.1 a.2.2.1 a.2.2.2.1,none⟩
def wX:Hn SI:=(.s .z (.b (.lx ⟨[(8,(.v ah))],[(0,.l .str)],[0,2,3],[],1128,[]⟩ 0 ⟨[],[(0,.l .str)],[],[],1128,[]⟩ (.b (.s .z (.s .z (.s (.j ⟨[(9,(.v ah))],[],[0,2,3,8],[0],1576,[]⟩ (.s (.j ⟨[(36,(.v .bool))],[],[0,2,3,8,9],[0],1576,[]⟩ .z) .z)) .z)))))))
theorem wY (n:Nat):aD 180 (wW n) :=cq (aj fD ax) Tryz.func180 wX n (by kernel_rfl) rfl fun _=>by kernel_rfl
def wZ (n:Nat):Sig xx:=⟨[.mut .str,.d ah,.d ah],[.mu .str],fun a=>zu n a.1 a.2.1 a.2.2.1,none⟩
def xg:Hn SI:=(.s .z (.s .z (.s .z (.s (.s .z (.b (.l ⟨[(9,(.v ah))],[(0,.l .str)],[0,6,7,8],[],1704,[]⟩ 0 ⟨[],[(0,.l .str)],[0,6,7,8],[],1704,[]⟩ .z))) (.s .z (.b (.l ⟨[(10,(.v ah))],[(0,.l .str)],[0,6,7],[],1896,[]⟩ 2 ⟨[],[(0,.l .str)],[],[],1896,[]⟩ .z)))))))
theorem xh (n:Nat):aD 133 (wZ n) :=cq (aj (wY n) ax) Tryz.func133 xg n (by kernel_rfl) rfl fun _=>by kernel_rfl
def I8:Sig xx:=⟨[.d ah],[.d (.int .u64)],fun a=>aK a.1,none⟩
theorem jT:aD 181 I8 :=cq (aj yT ax) Tryz.func181 .z 0 (by kernel_rfl) rfl fun _=>by kernel_rfl
def Ke:Sig xx:=⟨[.mref (.int .u64)],[.d (.int .u64),.mr (.int .u64)],fun a=>aL a.1,none⟩
theorem kN:aD 182 Ke :=cq ax Tryz.func182 .z 0 (by kernel_rfl) rfl fun _=>by kernel_rfl
def rf (n:Nat):Sig xx:=⟨[.mut .str,.d ah,.d ah],[.mu .str],fun a=>sS n a.1 a.2.1 a.2.2.1,none⟩
def rq:Hn SI:=(.s .z (.s .z (.s (.s .z (.s .z (.s .z (.b (.l ⟨[(9,(.v ah))],[(0,.l .str),(1512,.c 1 [[(.v (.int .u64))]])],[0,1,6,7,8],[],2280,[]⟩ 0 ⟨[],[(0,.l .str)],[],[],2280,[]⟩ (.s .z (.s (.b (.s .z (.s (.j ⟨[(10,(.v ah))],[],[0,1,6,7,8,9],[0,1512],3176,[]⟩ .z) .z))) .z))))))) .z)))
theorem ru (n:Nat):aD 134 (rf n) :=cq (aj jT (aj kN ax)) Tryz.func134 rq n (by kernel_rfl) rfl fun _=>by kernel_rfl
def zx:Sig xx:=⟨[.d (.sl .str),.d ah,.d ah,.mref ah],[.d ah,.d ah,.mr ah],fun a=>CK a.1 a.2.1 a.2.2.1 a.2.2.2.1,none⟩
theorem zy:aD 201 zx :=cq (aj fD ax) Tryz.func201 .z 0 (by kernel_rfl) rfl fun _=>by kernel_rfl
def zA:Sig xx:=⟨[.d (.sl .str),.d ah,.d ah,.d ah,.mref ah],[.d ah,.mr ah],fun a=>CO a.1 a.2.1 a.2.2.1 a.2.2.2.1 a.2.2.2.2.1,none⟩
theorem nQ:aD 184 zA :=cq (aj zy ax) Tryz.func184 .z 0 (by kernel_rfl) rfl fun _=>by kernel_rfl
def qi:Sig xx:=⟨[.d (.sl .str),.d ah,.mref ah],[.d ah,.mr ah],fun a=>rD a.1 a.2.1 a.2.2.1,none⟩
theorem qj:aD 183 qi :=cq (aj nQ ax) Tryz.func183 .z 0 (by kernel_rfl) rfl fun _=>by kernel_rfl
def sW:Sig xx:=⟨[.d (.sl .str),.d ah,.d ah],[.d ah,.d ah],fun a=>vH a.1 a.2.1 a.2.2.1,none⟩
def sZ:Hn SI:=(.s .z (.s .z (.s .z (.s .z (.s .z (.s .z (.s (.j ⟨[(11,(.v ah))],[(1384,.c 1 [[(.v ah)]])],[9],[],2600,[]⟩ (.s .z (.s (.s (.j ⟨[(10,(.v ah)),(11,(.v ah)),(12,(.v ah))],[(1384,.c 1 [[(.v ah)]])],[0,9],[],2728,[]⟩ .z) .z) .z))) .z)))))))
theorem tq:aD 135 sW :=cq (aj qj (aj nQ ax)) Tryz.func135 sZ 0 (by kernel_rfl) rfl fun _=>by kernel_rfl
def rF (n:Nat):Sig xx:=⟨[.mut .str,.d ah,.d ah],[.mu .str],fun a=>uO n a.1 a.2.1 a.2.2.1,none⟩
def rG:Hn SI:=(.s .z (.s .z (.b (.l ⟨[(6,(.v ah)),(7,(.v ah))],[(0,.l .str)],[0],[],1320,[]⟩ 0 ⟨[],[(0,.l .str)],[],[],1320,[]⟩ .z))))
theorem rH (n:Nat):aD 136 (rF n) :=cq ax Tryz.func136 rG n (by kernel_rfl) rfl fun _=>by kernel_rfl
def lW (n:Nat):Sig xx:=⟨[.mut .str,.d ah,.d ah],[.d .bool,.mu .str],fun a=>mY n a.1 a.2.1 a.2.2.1,none⟩
def lX:Hn SI:=(.s .z (.s .z (.s (.s .z (.b (.lx ⟨[(7,(.v ah)),(8,(.v ah))],[(0,.l .str)],[0,1,2],[],1320,[]⟩ 0 ⟨[],[(0,.l .str)],[],[],1320,[]⟩ (.s .z (.s (.jx ⟨[(7,(.v ah))],[(0,.l .str)],[0,1,2,8],[],1448,[]⟩ (.b (.s (.b (.l ⟨[(7,(.v ah))],[],[0,1,2,8],[0],1448,[]⟩ 2 ⟨[(7,(.v ah))],[],[0,1,2,8],[0],1448,[]⟩ (.s (.s (.j ⟨[(32,(.v .bool))],[],[0,1,2,7,8],[0],1448,[]⟩ .z) .z) .z))) (.s .z (.s .z (.s .z (.s (.j ⟨[],[(0,.l .str)],[0,1,2,7,8],[],3048,[]⟩ (.s .z (.s (.s .z (.b (.l ⟨[(9,(.v ah))],[(0,.l .str)],[0,1,2,7,8],[],3496,[]⟩ 4 ⟨[],[(0,.l .str)],[0,1,2,7,8],[],3496,[]⟩ .z))) .z))) (.s .z (.s (.s .z (.b (.l ⟨[(10,(.v ah))],[(0,.l .str)],[0,1,2,7,8],[],3496,[]⟩ 6 ⟨[],[(0,.l .str)],[0,1,2,7,8],[],3496,[]⟩ .z))) .z))))))))) .z))))) .z)))
theorem lY (n:Nat):aD 137 (lW n) :=cq (aj fD ax) Tryz.func137 lX n (by kernel_rfl) rfl fun _=>by kernel_rfl
def ql (n:Nat):Sig xx:=⟨[.mut .str,.d ah,.d ah,.d ah],[.d ah,.mu .str],fun a=>rE n a.1 a.2.1 a.2.2.1 a.2.2.2.1,none⟩
def qm:Hn SI:=(.s .z (.s .z (.s .z (.s (.b (.l ⟨[(9,(.v ah)),(10,(.v ah))],[(0,.l .str)],[0,1],[],2472,[]⟩ 0 ⟨[(9,(.v ah))],[(0,.l .str)],[],[],2472,[]⟩ (.b (.s (.b (.l ⟨[(9,(.v ah))],[],[0,1,10],[0],2472,[]⟩ 2 ⟨[(9,(.v ah))],[],[0,1,10],[0],2472,[]⟩ (.s (.s (.j ⟨[(43,(.v .bool))],[],[0,1,9,10],[0],2472,[]⟩ .z) .z) .z))) (.s (.b (.l ⟨[(10,(.v ah))],[],[0,1,9],[0],2472,[]⟩ 4 ⟨[(10,(.v ah))],[],[0,1,9],[0],2472,[]⟩ (.s (.s (.j ⟨[(59,(.v .bool))],[],[0,1,9,10],[0],2472,[]⟩ .z) .z) .z))) .z))))) .z))))
theorem qo (n:Nat):aD 139 (ql n) :=cq (aj fD ax) Tryz.func139 qm n (by kernel_rfl) rfl fun _=>by kernel_rfl
def vS (n:Nat):Sig xx:=⟨[.mut .str,.d ah,.d ah,.d ah],[.d ah,.d .bool,.mu .str],fun a=>yC n a.1 a.2.1 a.2.2.1 a.2.2.2.1,none⟩
def vT:Hn SI:=(.s .z (.s .z (.s .z (.s (.b (.l ⟨[(10,(.v ah))],[],[0,1,11],[0],2536,[]⟩ 0 ⟨[(10,(.v ah))],[],[0,1,11],[0],2536,[]⟩ (.s (.s (.j ⟨[(43,(.v .bool))],[],[0,1,10,11],[0],2536,[]⟩ .z) .z) .z))) (.s (.b (.l ⟨[(11,(.v ah))],[],[0,1,10],[0],2536,[]⟩ 2 ⟨[(11,(.v ah))],[],[0,1,10],[0],2536,[]⟩ (.s (.s (.j ⟨[(60,(.v .bool))],[],[0,1,10,11],[0],2536,[]⟩ .z) .z) .z))) (.s .z (.s .z (.s .z (.s .z (.s (.b (.l ⟨[(10,(.v ah)),(11,(.v ah))],[(0,.l .str)],[0,1],[],4136,[]⟩ 4 ⟨[(11,(.v ah))],[(0,.l .str)],[0,1],[],4136,[]⟩ (.b (.s (.b (.l ⟨[(10,(.v ah))],[],[0,1,11],[0],4136,[]⟩ 6 ⟨[(10,(.v ah))],[],[0,1,11],[0],4136,[]⟩ (.s (.s (.j ⟨[(112,(.v .bool))],[],[0,1,10,11],[0],4136,[]⟩ .z) .z) .z))) (.s (.b (.l ⟨[(11,(.v ah))],[],[0,1,10],[0],4136,[]⟩ 8 ⟨[(11,(.v ah))],[],[0,1,10],[0],4136,[]⟩ (.s (.s (.j ⟨[(129,(.v .bool))],[],[0,1,10,11],[0],4136,[]⟩ .z) .z) .z))) .z))))) .z))))))))))
theorem vU (n:Nat):aD 140 (vS n) :=cq (aj fD ax) Tryz.func140 vT n (by kernel_rfl) rfl fun _=>by kernel_rfl
def yU:Hn SI:=(.s .z (.s .z (.b (.lx ⟨[(1,(.v ah)),(2,(.v ah)),(3,(.v ah)),(8,(.v .bool)),(9,(.v .bool))],[(0,.l .str)],[0],[],1128,[]⟩ 999999 ⟨[],[],[],[],1128,[]⟩ (.b (.s .z (.s .z (.s .z (.s (.j ⟨[(3,(.v ah))],[(0,.l .str)],[0,1,2,8,9,10],[],1640,[]⟩ .z) (.s .z (.s (.j ⟨[(11,(.v ah)),(12,(.v ah))],[(0,.l .str)],[0,1,2,3,8,9,10],[],2216,[]⟩ .z) (.s (.jx ⟨[],[(0,.l .str)],[0,1,2,3,8,9,10,11],[],2216,[]⟩ (.s (.j ⟨[(68,(.v .bool))],[],[0,1,2,3,8,9,10,11],[0],2216,[]⟩ .z) .z)) (.s (.s (.j ⟨[(87,(.v .bool))],[],[0,1,2,3,8,9,10,11],[0],2216,[]⟩ .z) .z) .z)))))))))))))
theorem xk (n:Nat) (rc:((List ByteArray))->(Int)->(Int)->(Int)->Option (List ByteArray)) (hr:aD 104 (iq rc)):aD 104 (iq (iR n rc)) :=cq (aj (q9 n) (aj (xh n) (aj (ru n) (aj tq (aj (rH n) (aj (lY n) (aj fD (aj (qo n) (aj (vU n) (aj hr ax)))))))))) Tryz.func104 yU n (by kernel_rfl) rfl fun _=>by kernel_rfl
theorem lT (n:Nat):∀ m,aD 104 (iq (dN n m))
 | 0=>cok (jZ Tryz.func104 (by kernel_rfl:Tryz.f104.body=some (Tryz.f104.body.getD .skip)) (by kernel_rfl)) (fun _ _ h=>(by cases h)) rfl
 |m+1=>xk n _ (lT n m)
def yV (n:Nat):Sig xx:=⟨[.mut .str,.d ah,.d ah,.d ah],[.mu .str],fun a=>jI n a.1 a.2.1 a.2.2.1 a.2.2.2.1,none⟩
theorem yX (n:Nat):aD 104 (yV n):=lT n n
def NV (n:Nat):Sig xx:=⟨[.mut .str],[.mu .str],fun a=>qG n a.1,none⟩
theorem NW (n:Nat):aD 64 (NV n) :=cq (aj yT (aj (yX n) ax)) Tryz.func64 .z n (by kernel_rfl) rfl fun _=>by kernel_rfl
def I9 (n:Nat):Sig xx:=⟨[.mut .str],[.whole 0,.mu .str],fun a=>lD n a.1,none⟩
def Ja:Hn SI:=(.s .z (.s .z (.s (.s .z (.b (.lx ⟨[(3,(.v ah))],[],[0],[0],1320,[]⟩ 0 ⟨[],[],[0],[0],1320,[]⟩ (.s .z (.s (.b (.s .z (.s (.s .z (.s (.s .z (.b (.l ⟨[(3,(.v ah)),(5,(.v ah))],[(0,.l .str)],[0,4],[],2536,[]⟩ 2 ⟨[(3,(.v ah))],[(0,.l .str)],[0],[],2536,[]⟩ (.s .z (.s (.j ⟨[(3,(.v ah))],[(0,.l .str)],[0,4,5],[],2792,[]⟩ .z) .z))))) .z)) .z))) .z))))) .z)))
theorem Jb (n:Nat):aD 29 (I9 n) :=cq ax Tryz.func29 Ja n (by kernel_rfl) rfl fun _=>by kernel_rfl
def FK:GSig xx:=⟨[(.v (.sl .str))],[],[(.f 65 [] [(.p 1000)])],[(1000,.c 1 [[(.v (.sl .str))]])],fun v=>nX v⟩
def FL:Sig xx:=⟨[],[.d .bool],fun _=>none,some (FK)⟩
theorem FM:aD 31 FL :=cqG ax Tryz.func31 .z 0 (by kernel_rfl) fun _=>by kernel_rfl
def ahJ:Sig xx:=⟨[],[.d .bool],fun _=>none,some (ah2 .str 65)⟩
theorem ahK:aD 103 ahJ:=ah1 (jZ Tryz.func103 (by kernel_rfl:Tryz.f103.body=some (Tryz.f103.body.getD .skip)) (by kernel_rfl)) (aeY (fun _=>rfl) (fun _=>trivial) (jZ Tryz.func103 (by kernel_rfl:Tryz.f103.body=some (Tryz.f103.body.getD .skip)) (by kernel_rfl)) sqsA_calls)
def EM:GSig xx:=⟨[(.f 65 [] [(.p 0)])],[(0,.c 1 [[(.v (.sl .str))]])],[(.o 1000)],[(0,.c 1 [[(.v (.sl .str))]]),(1000,.l .str)],fun v=>mh v⟩
def EN:Sig xx:=⟨[],[.d .bool],fun _=>none,some (EM)⟩
theorem EO:aD 63 EN :=cqG (aj ahK ax) Tryz.func63 .z 0 (by kernel_rfl) fun _=>by kernel_rfl
def FN (n:Nat):GSig xx:=⟨[(.f 65 [] [(.p 0)])],[(0,.c 1 [[(.v (.sl .str))]])],[(.o 1000)],[(0,.c 1 [[(.v (.sl .str))]]),(1000,.l .str)],fun v=>nY n v⟩
def FO (n:Nat):Sig xx:=⟨[],[.d .bool],fun _=>none,some (FN n)⟩
theorem FP (n:Nat):aD 30 (FO n) :=cqG (aj EO (aj (NW n) ax)) Tryz.func30 .z n (by kernel_rfl) fun _=>by kernel_rfl
def FQ (n:Nat):Sig xx:=⟨[.ref (.sl .str)],[.d ah],fun a=>jO n a.1,none⟩
theorem FR (n:Nat):aD 28 (FQ n) :=cq (aj FM (aj (FP n) (aj (Jb n) ax))) Tryz.func28 .z n (by kernel_rfl) rfl fun _=>by kernel_rfl
def ad7:Sig xx:=⟨[.d ak],[.d .bool],fun a=>qH a.1,none⟩
theorem xM:aD 145 ad7 :=cq ax Tryz.func145 .z 0 (by kernel_rfl) rfl fun _=>by kernel_rfl
def TK:Sig xx:=⟨[.nil,.d ah],[.fresh ak],fun a=>LF a.1 a.2.1,none⟩
theorem TL:aD 217 TK :=cq ax Tryz.func217 .z 0 (by kernel_rfl) rfl fun _=>by kernel_rfl
def NY (n:Nat):Sig xx:=⟨[.d (.sl (.sl ak))],[.fresh ak],fun a=>yD n a.1,none⟩
def NZ:Hn SI:=(.s .z (.s .z (.s (.s .z (.b (.l ⟨[(3,(.v ah)),(11,(.v ah))],[],[0,9,10],[],1320,[]⟩ 0 ⟨[(3,(.v ah))],[],[0],[],1320,[]⟩ .z))) (.s .z (.s (.s .z (.b (.l ⟨[(6,(.o 1704)),(27,(.v ah))],[(1704,.l ak)],[25,26],[],1705,[]⟩ 2 ⟨[(6,(.o 1704))],[(1704,.l ak)],[],[],1705,[]⟩ .z))) .z)))))
theorem N8 (n:Nat):aD 203 (NY n) :=cq (aj TL ax) Tryz.func203 NZ n (by kernel_rfl) rfl fun _=>by kernel_rfl
def PN:Sig xx:=⟨[.d ah],[.d .bool],fun a=>cmp_isNaN_int a.1,none⟩
theorem Fz:aD 191 PN :=cq ax Tryz.func191 .z 0 (by kernel_rfl) rfl fun _=>by kernel_rfl
def TM:Sig xx:=⟨[.d ah,.d ah],[.d .bool],fun a=>cmp_Less_int a.1 a.2.1,none⟩
theorem iX:aD 166 TM :=cq (aj Fz ax) Tryz.func166 .z 0 (by kernel_rfl) rfl fun _=>by kernel_rfl
def u7 (n:Nat):Sig xx:=⟨[.mut ah,.d ah,.d ah],[.mu ah],fun a=>wN n a.1 a.2.1 a.2.2.1,none⟩
def ve:Hn SI:=(.s .z (.b (.l ⟨[(6,(.v ah))],[(0,.l ah)],[0,1,2],[],1192,[]⟩ 0 ⟨[],[(0,.l ah)],[],[],1192,[]⟩ (.s .z (.s (.b (.s .z (.b (.l ⟨[(7,(.v ah))],[(0,.l ah)],[0,1,2,6],[],1512,[]⟩ 2 ⟨[],[(0,.l ah)],[0,1,2,6],[],1512,[]⟩ (.s (.s (.j ⟨[(30,(.v .bool))],[],[0,1,2,6,7],[0],1512,[]⟩ .z) .z) .z))))) .z)))))
theorem vg (n:Nat):aD 160 (u7 n) :=cq (aj iX ax) Tryz.func160 ve n (by kernel_rfl) rfl fun _=>by kernel_rfl
def BD (n:Nat):Sig xx:=⟨[.mut ah,.d ah,.d ah,.d ah],[.mu ah],fun a=>Ey n a.1 a.2.1 a.2.2.1 a.2.2.2.1,none⟩
def BF:Hn SI:=(.s .z (.b (.lx ⟨[(8,(.v ah))],[(0,.l ah)],[0,2,3],[],1128,[]⟩ 0 ⟨[],[(0,.l ah)],[],[],1128,[]⟩ (.b (.s .z (.s .z (.s (.j ⟨[(9,(.v ah))],[],[0,2,3,8],[0],1576,[]⟩ (.s (.j ⟨[(36,(.v .bool))],[],[0,2,3,8,9],[0],1576,[]⟩ .z) .z)) .z)))))))
theorem BG (n:Nat):aD 195 (BD n) :=cq (aj iX ax) Tryz.func195 BF n (by kernel_rfl) rfl fun _=>by kernel_rfl
def BH (n:Nat):Sig xx:=⟨[.mut ah,.d ah,.d ah],[.mu ah],fun a=>Ez n a.1 a.2.1 a.2.2.1,none⟩
def BI:Hn SI:=(.s .z (.s .z (.s .z (.s (.s .z (.b (.l ⟨[(9,(.v ah))],[(0,.l ah)],[0,6,7,8],[],1704,[]⟩ 0 ⟨[],[(0,.l ah)],[0,6,7,8],[],1704,[]⟩ .z))) (.s .z (.b (.l ⟨[(10,(.v ah))],[(0,.l ah)],[0,6,7],[],1896,[]⟩ 2 ⟨[],[(0,.l ah)],[],[],1896,[]⟩ .z)))))))
theorem BJ (n:Nat):aD 161 (BH n) :=cq (aj (BG n) ax) Tryz.func161 BI n (by kernel_rfl) rfl fun _=>by kernel_rfl
def vk (n:Nat):Sig xx:=⟨[.mut ah,.d ah,.d ah],[.mu ah],fun a=>wO n a.1 a.2.1 a.2.2.1,none⟩
def vo:Hn SI:=(.s .z (.s .z (.s (.s .z (.s .z (.s .z (.b (.l ⟨[(9,(.v ah))],[(0,.l ah),(1512,.c 1 [[(.v (.int .u64))]])],[0,1,6,7,8],[],2280,[]⟩ 0 ⟨[],[(0,.l ah)],[],[],2280,[]⟩ (.s .z (.s (.b (.s .z (.s (.j ⟨[(10,(.v ah))],[],[0,1,6,7,8,9],[0,1512],3176,[]⟩ .z) .z))) .z))))))) .z)))
theorem vv (n:Nat):aD 162 (vk n) :=cq (aj jT (aj kN ax)) Tryz.func162 vo n (by kernel_rfl) rfl fun _=>by kernel_rfl
def EP:Sig xx:=⟨[.d (.sl ah),.d ah,.d ah,.mref ah],[.d ah,.d ah,.mr ah],fun a=>Hl a.1 a.2.1 a.2.2.1 a.2.2.2.1,none⟩
theorem EQ:aD 216 EP :=cq (aj iX ax) Tryz.func216 .z 0 (by kernel_rfl) rfl fun _=>by kernel_rfl
def ER:Sig xx:=⟨[.d (.sl ah),.d ah,.d ah,.d ah,.mref ah],[.d ah,.mr ah],fun a=>Ho a.1 a.2.1 a.2.2.1 a.2.2.2.1 a.2.2.2.2.1,none⟩
theorem rz:aD 197 ER :=cq (aj EQ ax) Tryz.func197 .z 0 (by kernel_rfl) rfl fun _=>by kernel_rfl
def tu:Sig xx:=⟨[.d (.sl ah),.d ah,.mref ah],[.d ah,.mr ah],fun a=>vI a.1 a.2.1 a.2.2.1,none⟩
theorem tC:aD 196 tu :=cq (aj rz ax) Tryz.func196 .z 0 (by kernel_rfl) rfl fun _=>by kernel_rfl
def xq:Sig xx:=⟨[.d (.sl ah),.d ah,.d ah],[.d ah,.d ah],fun a=>zw a.1 a.2.1 a.2.2.1,none⟩
def xu:Hn SI:=(.s .z (.s .z (.s .z (.s .z (.s .z (.s .z (.s (.j ⟨[(11,(.v ah))],[(1384,.c 1 [[(.v ah)]])],[9],[],2600,[]⟩ (.s .z (.s (.s (.j ⟨[(10,(.v ah)),(11,(.v ah)),(12,(.v ah))],[(1384,.c 1 [[(.v ah)]])],[0,9],[],2728,[]⟩ .z) .z) .z))) .z)))))))
theorem xw:aD 163 xq :=cq (aj tC (aj rz ax)) Tryz.func163 xu 0 (by kernel_rfl) rfl fun _=>by kernel_rfl
def vV (n:Nat):Sig xx:=⟨[.mut ah,.d ah,.d ah],[.mu ah],fun a=>yE n a.1 a.2.1 a.2.2.1,none⟩
def vW:Hn SI:=(.s .z (.s .z (.b (.l ⟨[(6,(.v ah)),(7,(.v ah))],[(0,.l ah)],[0],[],1320,[]⟩ 0 ⟨[],[(0,.l ah)],[],[],1320,[]⟩ .z))))
theorem vX (n:Nat):aD 164 (vV n) :=cq ax Tryz.func164 vW n (by kernel_rfl) rfl fun _=>by kernel_rfl
def oo (n:Nat):Sig xx:=⟨[.mut ah,.d ah,.d ah],[.d .bool,.mu ah],fun a=>pQ n a.1 a.2.1 a.2.2.1,none⟩
def oq:Hn SI:=(.s .z (.s .z (.s (.s .z (.b (.lx ⟨[(7,(.v ah)),(8,(.v ah))],[(0,.l ah)],[0,1,2],[],1320,[]⟩ 0 ⟨[],[(0,.l ah)],[],[],1320,[]⟩ (.s .z (.s (.jx ⟨[(7,(.v ah))],[(0,.l ah)],[0,1,2,8],[],1448,[]⟩ (.b (.s (.b (.l ⟨[(7,(.v ah))],[],[0,1,2,8],[0],1448,[]⟩ 2 ⟨[(7,(.v ah))],[],[0,1,2,8],[0],1448,[]⟩ (.s (.s (.j ⟨[(32,(.v .bool))],[],[0,1,2,7,8],[0],1448,[]⟩ .z) .z) .z))) (.s .z (.s .z (.s .z (.s (.j ⟨[],[(0,.l ah)],[0,1,2,7,8],[],3048,[]⟩ (.s .z (.s (.s .z (.b (.l ⟨[(9,(.v ah))],[(0,.l ah)],[0,1,2,7,8],[],3496,[]⟩ 4 ⟨[],[(0,.l ah)],[0,1,2,7,8],[],3496,[]⟩ .z))) .z))) (.s .z (.s (.s .z (.b (.l ⟨[(10,(.v ah))],[(0,.l ah)],[0,1,2,7,8],[],3496,[]⟩ 6 ⟨[],[(0,.l ah)],[0,1,2,7,8],[],3496,[]⟩ .z))) .z))))))))) .z))))) .z)))
theorem ou (n:Nat):aD 165 (oo n) :=cq (aj iX ax) Tryz.func165 oq n (by kernel_rfl) rfl fun _=>by kernel_rfl
def tF (n:Nat):Sig xx:=⟨[.mut ah,.d ah,.d ah,.d ah],[.d ah,.mu ah],fun a=>vJ n a.1 a.2.1 a.2.2.1 a.2.2.2.1,none⟩
def tH:Hn SI:=(.s .z (.s .z (.s .z (.s (.b (.l ⟨[(9,(.v ah)),(10,(.v ah))],[(0,.l ah)],[0,1],[],2472,[]⟩ 0 ⟨[(9,(.v ah))],[(0,.l ah)],[],[],2472,[]⟩ (.b (.s (.b (.l ⟨[(9,(.v ah))],[],[0,1,10],[0],2472,[]⟩ 2 ⟨[(9,(.v ah))],[],[0,1,10],[0],2472,[]⟩ (.s (.s (.j ⟨[(43,(.v .bool))],[],[0,1,9,10],[0],2472,[]⟩ .z) .z) .z))) (.s (.b (.l ⟨[(10,(.v ah))],[],[0,1,9],[0],2472,[]⟩ 4 ⟨[(10,(.v ah))],[],[0,1,9],[0],2472,[]⟩ (.s (.s (.j ⟨[(59,(.v .bool))],[],[0,1,9,10],[0],2472,[]⟩ .z) .z) .z))) .z))))) .z))))
theorem tJ (n:Nat):aD 167 (tF n) :=cq (aj iX ax) Tryz.func167 tH n (by kernel_rfl) rfl fun _=>by kernel_rfl
def zB (n:Nat):Sig xx:=⟨[.mut ah,.d ah,.d ah,.d ah],[.d ah,.d .bool,.mu ah],fun a=>CP n a.1 a.2.1 a.2.2.1 a.2.2.2.1,none⟩
def zC:Hn SI:=(.s .z (.s .z (.s .z (.s (.b (.l ⟨[(10,(.v ah))],[],[0,1,11],[0],2536,[]⟩ 0 ⟨[(10,(.v ah))],[],[0,1,11],[0],2536,[]⟩ (.s (.s (.j ⟨[(43,(.v .bool))],[],[0,1,10,11],[0],2536,[]⟩ .z) .z) .z))) (.s (.b (.l ⟨[(11,(.v ah))],[],[0,1,10],[0],2536,[]⟩ 2 ⟨[(11,(.v ah))],[],[0,1,10],[0],2536,[]⟩ (.s (.s (.j ⟨[(60,(.v .bool))],[],[0,1,10,11],[0],2536,[]⟩ .z) .z) .z))) (.s .z (.s .z (.s .z (.s .z (.s (.b (.l ⟨[(10,(.v ah)),(11,(.v ah))],[(0,.l ah)],[0,1],[],4136,[]⟩ 4 ⟨[(11,(.v ah))],[(0,.l ah)],[0,1],[],4136,[]⟩ (.b (.s (.b (.l ⟨[(10,(.v ah))],[],[0,1,11],[0],4136,[]⟩ 6 ⟨[(10,(.v ah))],[],[0,1,11],[0],4136,[]⟩ (.s (.s (.j ⟨[(112,(.v .bool))],[],[0,1,10,11],[0],4136,[]⟩ .z) .z) .z))) (.s (.b (.l ⟨[(11,(.v ah))],[],[0,1,10],[0],4136,[]⟩ 8 ⟨[(11,(.v ah))],[],[0,1,10],[0],4136,[]⟩ (.s (.s (.j ⟨[(129,(.v .bool))],[],[0,1,10,11],[0],4136,[]⟩ .z) .z) .z))) .z))))) .z))))))))))
theorem zF (n:Nat):aD 168 (zB n) :=cq (aj iX ax) Tryz.func168 zC n (by kernel_rfl) rfl fun _=>by kernel_rfl
def Dh:Hn SI:=(.s .z (.s .z (.b (.lx ⟨[(1,(.v ah)),(2,(.v ah)),(3,(.v ah)),(8,(.v .bool)),(9,(.v .bool))],[(0,.l ah)],[0],[],1128,[]⟩ 999999 ⟨[],[],[],[],1128,[]⟩ (.b (.s .z (.s .z (.s .z (.s (.j ⟨[(3,(.v ah))],[(0,.l ah)],[0,1,2,8,9,10],[],1640,[]⟩ .z) (.s .z (.s (.j ⟨[(11,(.v ah)),(12,(.v ah))],[(0,.l ah)],[0,1,2,3,8,9,10],[],2216,[]⟩ .z) (.s (.jx ⟨[],[(0,.l ah)],[0,1,2,3,8,9,10,11],[],2216,[]⟩ (.s (.j ⟨[(68,(.v .bool))],[],[0,1,2,3,8,9,10,11],[0],2216,[]⟩ .z) .z)) (.s (.s (.j ⟨[(87,(.v .bool))],[],[0,1,2,3,8,9,10,11],[0],2216,[]⟩ .z) .z) .z)))))))))))))
theorem BK (n:Nat) (rc:((List Int))->(Int)->(Int)->(Int)->Option (List Int)) (hr:aD 118 (jJ rc)):aD 118 (jJ (jW n rc)) :=cq (aj (vg n) (aj (BJ n) (aj (vv n) (aj xw (aj (vX n) (aj (ou n) (aj iX (aj (tJ n) (aj (zF n) (aj hr ax)))))))))) Tryz.func118 Dh n (by kernel_rfl) rfl fun _=>by kernel_rfl
theorem oN (n:Nat):∀ m,aD 118 (jJ (eu n m))
 | 0=>cok (jZ Tryz.func118 (by kernel_rfl:Tryz.f118.body=some (Tryz.f118.body.getD .skip)) (by kernel_rfl)) (fun _ _ h=>(by cases h)) rfl
 |m+1=>BK n _ (oN n m)
def Di (n:Nat):Sig xx:=⟨[.mut ah,.d ah,.d ah,.d ah],[.mu ah],fun a=>lm n a.1 a.2.1 a.2.2.1 a.2.2.2.1,none⟩
theorem Dj (n:Nat):aD 118 (Di n):=oN n n
def UQ (n:Nat):Sig xx:=⟨[.mut ah],[.mu ah],fun a=>p9 n a.1,none⟩
theorem BL (n:Nat):aD 68 (UQ n) :=cq (aj yT (aj (Dj n) ax)) Tryz.func68 .z n (by kernel_rfl) rfl fun _=>by kernel_rfl
def N9 (n:Nat):Sig xx:=⟨[.mut ah],[.whole 0,.mu ah],fun a=>qI n a.1,none⟩
def Oa:Hn SI:=(.s .z (.s .z (.s (.s .z (.b (.lx ⟨[(3,(.v ah))],[],[0],[0],1320,[]⟩ 0 ⟨[],[],[0],[0],1320,[]⟩ (.s .z (.s (.b (.s .z (.s (.s .z (.s (.s .z (.b (.l ⟨[(3,(.v ah)),(5,(.v ah))],[(0,.l ah)],[0,4],[],2536,[]⟩ 2 ⟨[(3,(.v ah))],[(0,.l ah)],[0],[],2536,[]⟩ (.s .z (.s (.j ⟨[(3,(.v ah))],[(0,.l ah)],[0,4,5],[],2792,[]⟩ .z) .z))))) .z)) .z))) .z))))) .z)))
theorem Dk (n:Nat):aD 69 (N9 n) :=cq ax Tryz.func69 Oa n (by kernel_rfl) rfl fun _=>by kernel_rfl
def tK (n:Nat):Sig xx:=⟨[.mut (.st SI.span),.d ah,.d ah,.clo [(.st SI.span),(.st SI.span)] ah],[.mu (.st SI.span)],fun a=>vK n a.1 a.2.1 a.2.2.1 a.2.2.2.1,none⟩
def tL:Hn SI:=(.s .z (.b (.l ⟨[(8,(.v ah))],[(0,.l (.st SI.span))],[0,1,2,3],[],1192,[]⟩ 0 ⟨[],[(0,.l (.st SI.span))],[],[],1192,[]⟩ (.s .z (.s (.b (.s .z (.b (.l ⟨[(9,(.v ah))],[(0,.l (.st SI.span))],[0,1,2,3,8],[],1512,[]⟩ 2 ⟨[],[(0,.l (.st SI.span))],[0,1,2,3,8],[],1512,[]⟩ (.s (.s (.j ⟨[(34,(.v .bool))],[],[0,1,2,3,8,9],[0],1512,[]⟩ .z) .z) .z))))) .z)))))
theorem tN (n:Nat):aD 225 (tK n) :=cq ax Tryz.func225 tL n (by kernel_rfl) rfl fun _=>by kernel_rfl
def zG (n:Nat):Sig xx:=⟨[.mut (.st SI.span),.d ah,.d ah,.d ah,.clo [(.st SI.span),(.st SI.span)] ah],[.mu (.st SI.span)],fun a=>CQ n a.1 a.2.1 a.2.2.1 a.2.2.2.1 a.2.2.2.2.1,none⟩
def zH:Hn SI:=(.s .z (.b (.lx ⟨[(10,(.v ah))],[(0,.l (.st SI.span))],[0,2,3,4],[],1128,[]⟩ 0 ⟨[],[(0,.l (.st SI.span))],[],[],1128,[]⟩ (.b (.s .z (.s .z (.s (.j ⟨[(11,(.v ah))],[],[0,2,3,4,10],[0],1576,[]⟩ (.s (.j ⟨[(40,(.v .bool))],[],[0,2,3,4,10,11],[0],1576,[]⟩ .z) .z)) .z)))))))
theorem zI (n:Nat):aD 233 (zG n) :=cq ax Tryz.func233 zH n (by kernel_rfl) rfl fun _=>by kernel_rfl
def zJ (n:Nat):Sig xx:=⟨[.mut (.st SI.span),.d ah,.d ah,.clo [(.st SI.span),(.st SI.span)] ah],[.mu (.st SI.span)],fun a=>CR n a.1 a.2.1 a.2.2.1 a.2.2.2.1,none⟩
def zK:Hn SI:=(.s .z (.s .z (.s .z (.s (.s .z (.b (.l ⟨[(11,(.v ah))],[(0,.l (.st SI.span))],[0,3,8,9,10],[],1704,[]⟩ 0 ⟨[],[(0,.l (.st SI.span))],[0,3,8,9,10],[],1704,[]⟩ .z))) (.s .z (.b (.l ⟨[(12,(.v ah))],[(0,.l (.st SI.span))],[0,3,8,9],[],1896,[]⟩ 2 ⟨[],[(0,.l (.st SI.span))],[],[],1896,[]⟩ .z)))))))
theorem zL (n:Nat):aD 226 (zJ n) :=cq (aj (zI n) ax) Tryz.func226 zK n (by kernel_rfl) rfl fun _=>by kernel_rfl
def tO (n:Nat):Sig xx:=⟨[.mut (.st SI.span),.d ah,.d ah,.clo [(.st SI.span),(.st SI.span)] ah],[.mu (.st SI.span)],fun a=>vL n a.1 a.2.1 a.2.2.1 a.2.2.2.1,none⟩
def tQ:Hn SI:=(.s .z (.s .z (.s (.s .z (.s .z (.s .z (.b (.l ⟨[(11,(.v ah))],[(0,.l (.st SI.span)),(1512,.c 1 [[(.v (.int .u64))]])],[0,1,8,9,10],[],2280,[]⟩ 0 ⟨[],[(0,.l (.st SI.span))],[],[],2280,[]⟩ (.s .z (.s (.b (.s .z (.s (.j ⟨[(12,(.v ah))],[],[0,1,8,9,10,11],[0,1512],3176,[]⟩ .z) .z))) .z))))))) .z)))
theorem tT (n:Nat):aD 227 (tO n) :=cq (aj jT (aj kN ax)) Tryz.func227 tQ n (by kernel_rfl) rfl fun _=>by kernel_rfl
def Dl:Sig xx:=⟨[.d (.sl (.st SI.span)),.d ah,.d ah,.mref ah,.clo [(.st SI.span),(.st SI.span)] ah],[.d ah,.d ah,.mr ah],fun a=>FC a.1 a.2.1 a.2.2.1 a.2.2.2.1 a.2.2.2.2.1,none⟩
theorem Dm:aD 236 Dl :=cq ax Tryz.func236 .z 0 (by kernel_rfl) rfl fun _=>by kernel_rfl
def Dn:Sig xx:=⟨[.d (.sl (.st SI.span)),.d ah,.d ah,.d ah,.mref ah,.clo [(.st SI.span),(.st SI.span)] ah],[.d ah,.mr ah],fun a=>FD a.1 a.2.1 a.2.2.1 a.2.2.2.1 a.2.2.2.2.1 a.2.2.2.2.2.1,none⟩
theorem qc:aD 235 Dn :=cq (aj Dm ax) Tryz.func235 .z 0 (by kernel_rfl) rfl fun _=>by kernel_rfl
def rJ:Sig xx:=⟨[.d (.sl (.st SI.span)),.d ah,.mref ah,.clo [(.st SI.span),(.st SI.span)] ah],[.d ah,.mr ah],fun a=>uP a.1 a.2.1 a.2.2.1 a.2.2.2.1,none⟩
theorem rM:aD 234 rJ :=cq (aj qc ax) Tryz.func234 .z 0 (by kernel_rfl) rfl fun _=>by kernel_rfl
def vY:Sig xx:=⟨[.d (.sl (.st SI.span)),.d ah,.d ah,.clo [(.st SI.span),(.st SI.span)] ah],[.d ah,.d ah],fun a=>yF a.1 a.2.1 a.2.2.1 a.2.2.2.1,none⟩
def vZ:Hn SI:=(.s .z (.s .z (.s .z (.s .z (.s .z (.s .z (.s (.j ⟨[(13,(.v ah))],[(1384,.c 1 [[(.v ah)]])],[11],[],2600,[]⟩ (.s .z (.s (.s (.j ⟨[(12,(.v ah)),(13,(.v ah)),(14,(.v ah))],[(1384,.c 1 [[(.v ah)]])],[0,3,11],[],2728,[]⟩ .z) .z) .z))) .z)))))))
theorem wh:aD 228 vY :=cq (aj rM (aj qc ax)) Tryz.func228 vZ 0 (by kernel_rfl) rfl fun _=>by kernel_rfl
def vw (n:Nat):Sig xx:=⟨[.mut (.st SI.span),.d ah,.d ah,.clo [(.st SI.span),(.st SI.span)] ah],[.mu (.st SI.span)],fun a=>wP n a.1 a.2.1 a.2.2.1 a.2.2.2.1,none⟩
def vz:Hn SI:=(.s .z (.s .z (.b (.l ⟨[(8,(.v ah)),(9,(.v ah))],[(0,.l (.st SI.span))],[0],[],1320,[]⟩ 0 ⟨[],[(0,.l (.st SI.span))],[],[],1320,[]⟩ .z))))
theorem vB (n:Nat):aD 229 (vw n) :=cq ax Tryz.func229 vz n (by kernel_rfl) rfl fun _=>by kernel_rfl
def nJ (n:Nat):Sig xx:=⟨[.mut (.st SI.span),.d ah,.d ah,.clo [(.st SI.span),(.st SI.span)] ah],[.d .bool,.mu (.st SI.span)],fun a=>oJ n a.1 a.2.1 a.2.2.1 a.2.2.2.1,none⟩
def nK:Hn SI:=(.s .z (.s .z (.s (.s .z (.b (.lx ⟨[(9,(.v ah)),(10,(.v ah))],[(0,.l (.st SI.span))],[0,1,2,3],[],1320,[]⟩ 0 ⟨[],[(0,.l (.st SI.span))],[],[],1320,[]⟩ (.s .z (.s (.jx ⟨[(9,(.v ah))],[(0,.l (.st SI.span))],[0,1,2,3,10],[],1448,[]⟩ (.b (.s (.b (.l ⟨[(9,(.v ah))],[],[0,1,2,3,10],[0],1448,[]⟩ 2 ⟨[(9,(.v ah))],[],[0,1,2,3,10],[0],1448,[]⟩ (.s (.s (.j ⟨[(36,(.v .bool))],[],[0,1,2,3,9,10],[0],1448,[]⟩ .z) .z) .z))) (.s .z (.s .z (.s .z (.s (.j ⟨[],[(0,.l (.st SI.span))],[0,1,2,3,9,10],[],3048,[]⟩ (.s .z (.s (.s .z (.b (.l ⟨[(11,(.v ah))],[(0,.l (.st SI.span))],[0,1,2,3,9,10],[],3496,[]⟩ 4 ⟨[],[(0,.l (.st SI.span))],[0,1,2,3,9,10],[],3496,[]⟩ .z))) .z))) (.s .z (.s (.s .z (.b (.l ⟨[(12,(.v ah))],[(0,.l (.st SI.span))],[0,1,2,3,9,10],[],3496,[]⟩ 6 ⟨[],[(0,.l (.st SI.span))],[0,1,2,3,9,10],[],3496,[]⟩ .z))) .z))))))))) .z))))) .z)))
theorem nL (n:Nat):aD 230 (nJ n) :=cq ax Tryz.func230 nK n (by kernel_rfl) rfl fun _=>by kernel_rfl
def rO (n:Nat):Sig xx:=⟨[.mut (.st SI.span),.d ah,.d ah,.d ah,.clo [(.st SI.span),(.st SI.span)] ah],[.d ah,.mu (.st SI.span)],fun a=>uQ n a.1 a.2.1 a.2.2.1 a.2.2.2.1 a.2.2.2.2.1,none⟩
def rP:Hn SI:=(.s .z (.s .z (.s .z (.s (.b (.l ⟨[(11,(.v ah)),(12,(.v ah))],[(0,.l (.st SI.span))],[0,1,4],[],2472,[]⟩ 0 ⟨[(11,(.v ah))],[(0,.l (.st SI.span))],[],[],2472,[]⟩ (.b (.s (.b (.l ⟨[(11,(.v ah))],[],[0,1,4,12],[0],2472,[]⟩ 2 ⟨[(11,(.v ah))],[],[0,1,4,12],[0],2472,[]⟩ (.s (.s (.j ⟨[(47,(.v .bool))],[],[0,1,4,11,12],[0],2472,[]⟩ .z) .z) .z))) (.s (.b (.l ⟨[(12,(.v ah))],[],[0,1,4,11],[0],2472,[]⟩ 4 ⟨[(12,(.v ah))],[],[0,1,4,11],[0],2472,[]⟩ (.s (.s (.j ⟨[(65,(.v .bool))],[],[0,1,4,11,12],[0],2472,[]⟩ .z) .z) .z))) .z))))) .z))))
theorem rQ (n:Nat):aD 231 (rO n) :=cq ax Tryz.func231 rP n (by kernel_rfl) rfl fun _=>by kernel_rfl
def yY (n:Nat):Sig xx:=⟨[.mut (.st SI.span),.d ah,.d ah,.d ah,.clo [(.st SI.span),(.st SI.span)] ah],[.d ah,.d .bool,.mu (.st SI.span)],fun a=>Bu n a.1 a.2.1 a.2.2.1 a.2.2.2.1 a.2.2.2.2.1,none⟩
def yZ:Hn SI:=(.s .z (.s .z (.s .z (.s (.b (.l ⟨[(12,(.v ah))],[],[0,1,4,13],[0],2536,[]⟩ 0 ⟨[(12,(.v ah))],[],[0,1,4,13],[0],2536,[]⟩ (.s (.s (.j ⟨[(47,(.v .bool))],[],[0,1,4,12,13],[0],2536,[]⟩ .z) .z) .z))) (.s (.b (.l ⟨[(13,(.v ah))],[],[0,1,4,12],[0],2536,[]⟩ 2 ⟨[(13,(.v ah))],[],[0,1,4,12],[0],2536,[]⟩ (.s (.s (.j ⟨[(66,(.v .bool))],[],[0,1,4,12,13],[0],2536,[]⟩ .z) .z) .z))) (.s .z (.s .z (.s .z (.s .z (.s (.b (.l ⟨[(12,(.v ah)),(13,(.v ah))],[(0,.l (.st SI.span))],[0,1,4],[],4136,[]⟩ 4 ⟨[(13,(.v ah))],[(0,.l (.st SI.span))],[0,1],[],4136,[]⟩ (.b (.s (.b (.l ⟨[(12,(.v ah))],[],[0,1,4,13],[0],4136,[]⟩ 6 ⟨[(12,(.v ah))],[],[0,1,4,13],[0],4136,[]⟩ (.s (.s (.j ⟨[(120,(.v .bool))],[],[0,1,4,12,13],[0],4136,[]⟩ .z) .z) .z))) (.s (.b (.l ⟨[(13,(.v ah))],[],[0,1,4,12],[0],4136,[]⟩ 8 ⟨[(13,(.v ah))],[],[0,1,4,12],[0],4136,[]⟩ (.s (.s (.j ⟨[(139,(.v .bool))],[],[0,1,4,12,13],[0],4136,[]⟩ .z) .z) .z))) .z))))) .z))))))))))
theorem y5 (n:Nat):aD 232 (yY n) :=cq ax Tryz.func232 yZ n (by kernel_rfl) rfl fun _=>by kernel_rfl
def BM:Hn SI:=(.s .z (.s .z (.b (.lx ⟨[(1,(.v ah)),(2,(.v ah)),(3,(.v ah)),(10,(.v .bool)),(11,(.v .bool))],[(0,.l (.st SI.span))],[0,4],[],1128,[]⟩ 999999 ⟨[],[],[],[],1128,[]⟩ (.b (.s .z (.s .z (.s .z (.s (.j ⟨[(3,(.v ah))],[(0,.l (.st SI.span))],[0,1,2,4,10,11,12],[],1640,[]⟩ .z) (.s .z (.s (.j ⟨[(13,(.v ah)),(14,(.v ah))],[(0,.l (.st SI.span))],[0,1,2,3,4,10,11,12],[],2280,[]⟩ .z) (.s (.jx ⟨[],[(0,.l (.st SI.span))],[0,1,2,3,4,10,11,12,13],[],2280,[]⟩ (.s (.j ⟨[(75,(.v .bool))],[],[0,1,2,3,4,10,11,12,13],[0],2280,[]⟩ .z) .z)) (.s (.s (.j ⟨[(97,(.v .bool))],[],[0,1,2,3,4,10,11,12,13],[0],2280,[]⟩ .z) .z) .z)))))))))))))
theorem zM (n:Nat) (rc:((List aG))->(Int)->(Int)->(Int)->((aG×aG×Unit)->Option Int)->Option (List aG)) (hr:aD 223 (jc rc)):aD 223 (jc (gy n rc)) :=cq (aj (tN n) (aj (zL n) (aj (tT n) (aj wh (aj (vB n) (aj (nL n) (aj (rQ n) (aj (y5 n) (aj hr ax))))))))) Tryz.func223 BM n (by kernel_rfl) rfl fun _=>by kernel_rfl
theorem nR (n:Nat):∀ m,aD 223 (jc (cK n m))
 | 0=>cok (jZ Tryz.func223 (by kernel_rfl:Tryz.f223.body=some (Tryz.f223.body.getD .skip)) (by kernel_rfl)) (fun _ _ h=>(by cases h)) rfl
 |m+1=>zM n _ (nR n m)
def BN (n:Nat):Sig xx:=⟨[.mut (.st SI.span),.d ah,.d ah,.d ah,.clo [(.st SI.span),(.st SI.span)] ah],[.mu (.st SI.span)],fun a=>kH n a.1 a.2.1 a.2.2.1 a.2.2.2.1 a.2.2.2.2.1,none⟩
theorem BO (n:Nat):aD 223 (BN n):=nR n n
def Kg (n:Nat):Sig xx:=⟨[.mut (.st SI.span),.clo [(.st SI.span),(.st SI.span)] ah],[.mu (.st SI.span)],fun a=>mZ n a.1 a.2.1,none⟩
theorem Kh (n:Nat):aD 218 (Kg n) :=cq (aj yT (aj (BO n) ax)) Tryz.func218 .z n (by kernel_rfl) rfl fun _=>by kernel_rfl
def Mf:Sig xx:=⟨[.d ah,.d ah],[.d ah],fun a=>cmp_Compare_int a.1 a.2.1,none⟩
theorem A9:aD 149 Mf :=cq (aj Fz ax) Tryz.func149 .z 0 (by kernel_rfl) rfl fun _=>by kernel_rfl
def TN:Sig xx:=⟨[.d (.st SI.span),.d (.st SI.span)],[.d ah],fun a=>wQ a.1 a.2.1,none⟩
theorem TP:aD 219 TN :=cq (aj A9 ax) Tryz.func219 .z 0 (by kernel_rfl) rfl fun _=>by kernel_rfl
def Z4 (n:Nat):Sig xx:=⟨[.d (.sl ak),.d ah],[.fresh (.st SI.span)],fun a=>IB n a.1 a.2.1,none⟩
def Z5:Hn SI:=(.s .z (.s .z (.s (.s .z (.b (.l ⟨[(5,(.o 1320)),(14,(.v ah))],[(1320,.l (.st SI.span))],[1,12,13],[],1321,[(5,(.st SI.span))]⟩ 0 ⟨[(5,(.o 1320))],[(1320,.l (.st SI.span))],[],[],1321,[]⟩ (.s .z (.s .z (.s (.j ⟨[(5,(.o 1385))],[(1385,.l (.st SI.span))],[1,12,13,14],[],1386,[]⟩ (.b (.s .z (.s (.j ⟨[(27,(.v .bool))],[],[1,5,7,12,13,14],[1320,1513],1641,[]⟩ .z) .z)))) .z)))))) (.s .z (.s .z (.s (.s .z (.b (.l ⟨[(8,(.o 1705)),(41,(.v ah))],[(1705,.l (.st SI.span))],[39,40],[1320],1706,[(8,(.st SI.span))]⟩ 2 ⟨[(8,(.o 1705))],[(1705,.l (.st SI.span))],[],[],1706,[]⟩ (.s .z (.s .z (.s (.j ⟨[(8,(.o 1770))],[(1770,.l (.st SI.span))],[39,40,41],[1320],1771,[]⟩ (.b (.s .z (.s .z (.s (.j ⟨[(59,(.v .bool))],[],[8,10,11,39,40,41],[1320,1705,1898],2218,[]⟩ .z) .z))))) .z)))))) .z))))))
theorem Z6 (n:Nat):aD 204 (Z4 n) :=cq (aj (Kh n) (aj TP ax)) Tryz.func204 Z5 n (by kernel_rfl) rfl fun _=>by kernel_rfl
def Z7 (n:Nat):Sig xx:=⟨[.d (.sl (.sl ak))],[.fresh (.st SI.strip)],fun a=>IC n a.1,none⟩
def Z8:Hn SI:=(.s .z (.s .z (.s .z (.s (.s .z (.b (.l ⟨[(4,(.o 1512)),(13,(.v ah))],[(1512,.l ah)],[3,11,12],[1128],1513,[(4,ah)]⟩ 0 ⟨[(4,(.o 1512))],[(1512,.l ah)],[3],[1128],1513,[]⟩ .z))) (.s .z (.s .z (.s .z (.s (.s .z (.b (.l ⟨[(7,(.o 1961)),(8,(.v ah))],[(1961,.l (.st SI.strip))],[3,4],[1128,1512],1962,[(7,(.st SI.strip))]⟩ 2 ⟨[(7,(.o 1961))],[(1961,.l (.st SI.strip))],[],[],1962,[]⟩ .z))) .z))))))))
theorem Z9 (n:Nat):aD 188 (Z7 n) :=cq (aj (N8 n) (aj (BL n) (aj (Dk n) (aj (Z6 n) ax)))) Tryz.func188 Z8 n (by kernel_rfl) rfl fun _=>by kernel_rfl
def PO (n:Nat):Sig xx:=⟨[.d (.sl (.st SI.span)),.d (.sl (.st SI.span))],[.d .bool],fun a=>um n a.1 a.2.1,none⟩
def PS:Hn SI:=(.s .z (.s .z (.s (.s .z (.b (.lx ⟨[(13,(.v ah))],[],[0,1,12],[],1576,[]⟩ 0 ⟨[],[],[],[],1576,[]⟩ .z))) .z)))
theorem PU (n:Nat):aD 202 (PO n) :=cq ax Tryz.func202 PS n (by kernel_rfl) rfl fun _=>by kernel_rfl
def abX (n:Nat):Sig xx:=⟨[.d (.sl (.st SI.strip))],[.fresh ak],fun a=>LP n a.1,none⟩
def abY:Hn SI:=(.s .z (.s .z (.s (.s .z (.b (.l ⟨[(3,(.o 1192)),(4,(.v ah))],[(1192,.l ak)],[0],[],1193,[(3,ak)]⟩ 0 ⟨[(3,(.o 1192))],[(1192,.l ak)],[],[],1193,[]⟩ (.s .z (.b (.s .z (.s (.b (.l ⟨[(5,(.v ah))],[],[0,3,4],[1192],1641,[]⟩ 2 ⟨[(5,(.v ah))],[],[0,3,4],[1192],1641,[]⟩ (.s (.s (.j ⟨[(30,(.v .bool))],[],[0,3,4,5],[1192],1641,[]⟩ .z) .z) .z))) (.s (.s .z (.b (.l ⟨[(3,(.o 2089)),(39,(.v ah))],[(2089,.l ak)],[0,4,5,37,38],[],2090,[]⟩ 4 ⟨[(3,(.o 2089))],[(2089,.l ak)],[0,5],[],2090,[]⟩ .z))) .z)))))))) .z)))
theorem abZ (n:Nat):aD 187 (abX n) :=cq (aj (PU n) ax) Tryz.func187 abY n (by kernel_rfl) rfl fun _=>by kernel_rfl
def Ya:Sig xx:=⟨[.d (.sl ak)],[.d (.sl ak),.d ah],fun a=>JY a.1,none⟩
theorem Yb:aD 186 Ya :=cq ax Tryz.func186 .z 0 (by kernel_rfl) rfl fun _=>by kernel_rfl
def agK (n:Nat):Sig xx:=⟨[.d (.sl ak)],[.d (.sl ak),.d ah],fun a=>acE n a.1,none⟩
def agL:Hn SI:=(.s .z (.s (.s .z (.b (.lx ⟨[(8,(.v ah))],[],[0,6,7],[],1320,[]⟩ 0 ⟨[],[],[0],[],1320,[]⟩ .z))) .z))
theorem agM (n:Nat):aD 143 (agK n) :=cq (aj xM (aj (Z9 n) (aj (abZ n) (aj Yb ax)))) Tryz.func143 agL n (by kernel_rfl) rfl fun _=>by kernel_rfl
def PV (n:Nat):Sig xx:=⟨[.d (.sl ak),.d (.sl ak)],[.d .bool],fun a=>oK n a.1 a.2.1,none⟩
def PW:Hn SI:=(.s .z (.s .z (.s (.s .z (.b (.lx ⟨[(13,(.v ah))],[],[0,1,12],[],1576,[]⟩ 0 ⟨[],[],[],[],1576,[]⟩ .z))) .z)))
theorem PX (n:Nat):aD 144 (PV n) :=cq ax Tryz.func144 PW n (by kernel_rfl) rfl fun _=>by kernel_rfl
def ab0 (n:Nat):Sig xx:=⟨[.d (.sl ak)],[.d .bool],fun a=>yG n a.1,none⟩
theorem Ki (n:Nat):aD 106 (ab0 n) :=cq (aj (agM n) (aj (PX n) ax)) Tryz.func106 .z n (by kernel_rfl) rfl fun _=>by kernel_rfl
def Mg (n:Nat):Sig xx:=⟨[.d (.st SI.Drawing),.d ah,.d ah],[.fresh aH],fun a=>pq n a.1 a.2.1 a.2.2.1,none⟩
def Mh:Hn SI:=(.s .z (.s .z (.s (.s .z (.b (.l ⟨[(7,(.o 1448)),(13,(.v ah))],[(1448,.l aH)],[1,2,11,12],[],1449,[(7,aH)]⟩ 0 ⟨[(7,(.o 1448))],[(1448,.l aH)],[],[],1449,[]⟩ (.s .z (.s .z (.s (.j ⟨[(7,(.o 1513))],[(1513,.l aH)],[1,2,11,12,13],[],1514,[]⟩ (.b (.s .z (.s (.j ⟨[(25,(.v .bool))],[],[1,2,7,9,11,12,13],[1448,1705],1897,[]⟩ .z) .z)))) .z)))))) .z)))
theorem Mi (n:Nat):aD 107 (Mg n) :=cq ax Tryz.func107 Mh n (by kernel_rfl) rfl fun _=>by kernel_rfl
def FT:Sig xx:=⟨[.d aH],[.d .bool],fun a=>fE a.1,none⟩
def FU:Hn SI:=(.s .z (.s .z (.s (.s (.j ⟨[(26,(.v .bool))],[],[1],[1000],1384,[]⟩ .z) .z) (.s (.s (.j ⟨[(34,(.v .bool))],[],[1],[1000],1384,[]⟩ .z) .z) .z))))
theorem lu:aD 108 FT :=cq (aj xM ax) Tryz.func108 FU 0 (by kernel_rfl) rfl fun _=>by kernel_rfl
def aac:Sig xx:=⟨[.d ak],[.d ak,.d .bool],fun a=>xK a.1,none⟩
theorem Ph:aD 205 aac :=cq (aj xM ax) Tryz.func205 .z 0 (by kernel_rfl) rfl fun _=>by kernel_rfl
def afL:Sig xx:=⟨[.d ak],[.d ah],fun a=>EA a.1,none⟩
theorem TQ:aD 189 afL :=cq (aj Ph ax) Tryz.func189 .z 0 (by kernel_rfl) rfl fun _=>by kernel_rfl
def ad8 (n:Nat):Sig xx:=⟨[.d (.sl ak)],[.d ah],fun a=>Qv n a.1,none⟩
def ad9:Hn SI:=(.s .z (.s .z (.s .z (.s (.s .z (.b (.l ⟨[(3,(.v ah)),(11,(.v ah))],[],[9,10],[],1512,[]⟩ 0 ⟨[(3,(.v ah))],[],[],[],1512,[]⟩ .z))) .z))))
theorem aea (n:Nat):aD 146 (ad8 n) :=cq (aj (Ki n) (aj TQ ax)) Tryz.func146 ad9 n (by kernel_rfl) rfl fun _=>by kernel_rfl
def tV (n:Nat):Sig xx:=⟨[.mut ak,.d ah,.d ah,.clo [ak,ak] ah],[.mu ak],fun a=>vM n a.1 a.2.1 a.2.2.1 a.2.2.2.1,none⟩
def tX:Hn SI:=(.s .z (.b (.l ⟨[(8,(.v ah))],[(0,.l ak)],[0,1,2,3],[],1192,[]⟩ 0 ⟨[],[(0,.l ak)],[],[],1192,[]⟩ (.s .z (.s (.b (.s .z (.b (.l ⟨[(9,(.v ah))],[(0,.l ak)],[0,1,2,3,8],[],1512,[]⟩ 2 ⟨[],[(0,.l ak)],[0,1,2,3,8],[],1512,[]⟩ (.s (.s (.j ⟨[(34,(.v .bool))],[],[0,1,2,3,8,9],[0],1512,[]⟩ .z) .z) .z))))) .z)))))
theorem tY (n:Nat):aD 206 (tV n) :=cq ax Tryz.func206 tX n (by kernel_rfl) rfl fun _=>by kernel_rfl
def zN (n:Nat):Sig xx:=⟨[.mut ak,.d ah,.d ah,.d ah,.clo [ak,ak] ah],[.mu ak],fun a=>CU n a.1 a.2.1 a.2.2.1 a.2.2.2.1 a.2.2.2.2.1,none⟩
def zO:Hn SI:=(.s .z (.b (.lx ⟨[(10,(.v ah))],[(0,.l ak)],[0,2,3,4],[],1128,[]⟩ 0 ⟨[],[(0,.l ak)],[],[],1128,[]⟩ (.b (.s .z (.s .z (.s (.j ⟨[(11,(.v ah))],[],[0,2,3,4,10],[0],1576,[]⟩ (.s (.j ⟨[(40,(.v .bool))],[],[0,2,3,4,10,11],[0],1576,[]⟩ .z) .z)) .z)))))))
theorem zP (n:Nat):aD 220 (zN n) :=cq ax Tryz.func220 zO n (by kernel_rfl) rfl fun _=>by kernel_rfl
def zQ (n:Nat):Sig xx:=⟨[.mut ak,.d ah,.d ah,.clo [ak,ak] ah],[.mu ak],fun a=>CV n a.1 a.2.1 a.2.2.1 a.2.2.2.1,none⟩
def zR:Hn SI:=(.s .z (.s .z (.s .z (.s (.s .z (.b (.l ⟨[(11,(.v ah))],[(0,.l ak)],[0,3,8,9,10],[],1704,[]⟩ 0 ⟨[],[(0,.l ak)],[0,3,8,9,10],[],1704,[]⟩ .z))) (.s .z (.b (.l ⟨[(12,(.v ah))],[(0,.l ak)],[0,3,8,9],[],1896,[]⟩ 2 ⟨[],[(0,.l ak)],[],[],1896,[]⟩ .z)))))))
theorem zT (n:Nat):aD 207 (zQ n) :=cq (aj (zP n) ax) Tryz.func207 zR n (by kernel_rfl) rfl fun _=>by kernel_rfl
def tZ (n:Nat):Sig xx:=⟨[.mut ak,.d ah,.d ah,.clo [ak,ak] ah],[.mu ak],fun a=>vN n a.1 a.2.1 a.2.2.1 a.2.2.2.1,none⟩
def uf:Hn SI:=(.s .z (.s .z (.s (.s .z (.s .z (.s .z (.b (.l ⟨[(11,(.v ah))],[(0,.l ak),(1512,.c 1 [[(.v (.int .u64))]])],[0,1,8,9,10],[],2280,[]⟩ 0 ⟨[],[(0,.l ak)],[],[],2280,[]⟩ (.s .z (.s (.b (.s .z (.s (.j ⟨[(12,(.v ah))],[],[0,1,8,9,10,11],[0,1512],3176,[]⟩ .z) .z))) .z))))))) .z)))
theorem ug (n:Nat):aD 208 (tZ n) :=cq (aj jT (aj kN ax)) Tryz.func208 uf n (by kernel_rfl) rfl fun _=>by kernel_rfl
def Dp:Sig xx:=⟨[.d (.sl ak),.d ah,.d ah,.mref ah,.clo [ak,ak] ah],[.d ah,.d ah,.mr ah],fun a=>FE a.1 a.2.1 a.2.2.1 a.2.2.2.1 a.2.2.2.2.1,none⟩
theorem Dq:aD 224 Dp :=cq ax Tryz.func224 .z 0 (by kernel_rfl) rfl fun _=>by kernel_rfl
def Dr:Sig xx:=⟨[.d (.sl ak),.d ah,.d ah,.d ah,.mref ah,.clo [ak,ak] ah],[.d ah,.mr ah],fun a=>FH a.1 a.2.1 a.2.2.1 a.2.2.2.1 a.2.2.2.2.1 a.2.2.2.2.2.1,none⟩
theorem qd:aD 222 Dr :=cq (aj Dq ax) Tryz.func222 .z 0 (by kernel_rfl) rfl fun _=>by kernel_rfl
def rR:Sig xx:=⟨[.d (.sl ak),.d ah,.mref ah,.clo [ak,ak] ah],[.d ah,.mr ah],fun a=>uT a.1 a.2.1 a.2.2.1 a.2.2.2.1,none⟩
theorem rT:aD 221 rR :=cq (aj qd ax) Tryz.func221 .z 0 (by kernel_rfl) rfl fun _=>by kernel_rfl
def wm:Sig xx:=⟨[.d (.sl ak),.d ah,.d ah,.clo [ak,ak] ah],[.d ah,.d ah],fun a=>yH a.1 a.2.1 a.2.2.1 a.2.2.2.1,none⟩
def wo:Hn SI:=(.s .z (.s .z (.s .z (.s .z (.s .z (.s .z (.s (.j ⟨[(13,(.v ah))],[(1384,.c 1 [[(.v ah)]])],[11],[],2600,[]⟩ (.s .z (.s (.s (.j ⟨[(12,(.v ah)),(13,(.v ah)),(14,(.v ah))],[(1384,.c 1 [[(.v ah)]])],[0,3,11],[],2728,[]⟩ .z) .z) .z))) .z)))))))
theorem wu:aD 209 wm :=cq (aj rT (aj qd ax)) Tryz.func209 wo 0 (by kernel_rfl) rfl fun _=>by kernel_rfl
def vC (n:Nat):Sig xx:=⟨[.mut ak,.d ah,.d ah,.clo [ak,ak] ah],[.mu ak],fun a=>wR n a.1 a.2.1 a.2.2.1 a.2.2.2.1,none⟩
def vD:Hn SI:=(.s .z (.s .z (.b (.l ⟨[(8,(.v ah)),(9,(.v ah))],[(0,.l ak)],[0],[],1320,[]⟩ 0 ⟨[],[(0,.l ak)],[],[],1320,[]⟩ .z))))
theorem vE (n:Nat):aD 210 (vC n) :=cq ax Tryz.func210 vD n (by kernel_rfl) rfl fun _=>by kernel_rfl
def nM (n:Nat):Sig xx:=⟨[.mut ak,.d ah,.d ah,.clo [ak,ak] ah],[.d .bool,.mu ak],fun a=>oL n a.1 a.2.1 a.2.2.1 a.2.2.2.1,none⟩
def nN:Hn SI:=(.s .z (.s .z (.s (.s .z (.b (.lx ⟨[(9,(.v ah)),(10,(.v ah))],[(0,.l ak)],[0,1,2,3],[],1320,[]⟩ 0 ⟨[],[(0,.l ak)],[],[],1320,[]⟩ (.s .z (.s (.jx ⟨[(9,(.v ah))],[(0,.l ak)],[0,1,2,3,10],[],1448,[]⟩ (.b (.s (.b (.l ⟨[(9,(.v ah))],[],[0,1,2,3,10],[0],1448,[]⟩ 2 ⟨[(9,(.v ah))],[],[0,1,2,3,10],[0],1448,[]⟩ (.s (.s (.j ⟨[(36,(.v .bool))],[],[0,1,2,3,9,10],[0],1448,[]⟩ .z) .z) .z))) (.s .z (.s .z (.s .z (.s (.j ⟨[],[(0,.l ak)],[0,1,2,3,9,10],[],3048,[]⟩ (.s .z (.s (.s .z (.b (.l ⟨[(11,(.v ah))],[(0,.l ak)],[0,1,2,3,9,10],[],3496,[]⟩ 4 ⟨[],[(0,.l ak)],[0,1,2,3,9,10],[],3496,[]⟩ .z))) .z))) (.s .z (.s (.s .z (.b (.l ⟨[(12,(.v ah))],[(0,.l ak)],[0,1,2,3,9,10],[],3496,[]⟩ 6 ⟨[],[(0,.l ak)],[0,1,2,3,9,10],[],3496,[]⟩ .z))) .z))))))))) .z))))) .z)))
theorem nO (n:Nat):aD 211 (nM n) :=cq ax Tryz.func211 nN n (by kernel_rfl) rfl fun _=>by kernel_rfl
def rU (n:Nat):Sig xx:=⟨[.mut ak,.d ah,.d ah,.d ah,.clo [ak,ak] ah],[.d ah,.mu ak],fun a=>uU n a.1 a.2.1 a.2.2.1 a.2.2.2.1 a.2.2.2.2.1,none⟩
def rV:Hn SI:=(.s .z (.s .z (.s .z (.s (.b (.l ⟨[(11,(.v ah)),(12,(.v ah))],[(0,.l ak)],[0,1,4],[],2472,[]⟩ 0 ⟨[(11,(.v ah))],[(0,.l ak)],[],[],2472,[]⟩ (.b (.s (.b (.l ⟨[(11,(.v ah))],[],[0,1,4,12],[0],2472,[]⟩ 2 ⟨[(11,(.v ah))],[],[0,1,4,12],[0],2472,[]⟩ (.s (.s (.j ⟨[(47,(.v .bool))],[],[0,1,4,11,12],[0],2472,[]⟩ .z) .z) .z))) (.s (.b (.l ⟨[(12,(.v ah))],[],[0,1,4,11],[0],2472,[]⟩ 4 ⟨[(12,(.v ah))],[],[0,1,4,11],[0],2472,[]⟩ (.s (.s (.j ⟨[(65,(.v .bool))],[],[0,1,4,11,12],[0],2472,[]⟩ .z) .z) .z))) .z))))) .z))))
theorem rW (n:Nat):aD 212 (rU n) :=cq ax Tryz.func212 rV n (by kernel_rfl) rfl fun _=>by kernel_rfl
def y7 (n:Nat):Sig xx:=⟨[.mut ak,.d ah,.d ah,.d ah,.clo [ak,ak] ah],[.d ah,.d .bool,.mu ak],fun a=>Bv n a.1 a.2.1 a.2.2.1 a.2.2.2.1 a.2.2.2.2.1,none⟩
def y8:Hn SI:=(.s .z (.s .z (.s .z (.s (.b (.l ⟨[(12,(.v ah))],[],[0,1,4,13],[0],2536,[]⟩ 0 ⟨[(12,(.v ah))],[],[0,1,4,13],[0],2536,[]⟩ (.s (.s (.j ⟨[(47,(.v .bool))],[],[0,1,4,12,13],[0],2536,[]⟩ .z) .z) .z))) (.s (.b (.l ⟨[(13,(.v ah))],[],[0,1,4,12],[0],2536,[]⟩ 2 ⟨[(13,(.v ah))],[],[0,1,4,12],[0],2536,[]⟩ (.s (.s (.j ⟨[(66,(.v .bool))],[],[0,1,4,12,13],[0],2536,[]⟩ .z) .z) .z))) (.s .z (.s .z (.s .z (.s .z (.s (.b (.l ⟨[(12,(.v ah)),(13,(.v ah))],[(0,.l ak)],[0,1,4],[],4136,[]⟩ 4 ⟨[(13,(.v ah))],[(0,.l ak)],[0,1],[],4136,[]⟩ (.b (.s (.b (.l ⟨[(12,(.v ah))],[],[0,1,4,13],[0],4136,[]⟩ 6 ⟨[(12,(.v ah))],[],[0,1,4,13],[0],4136,[]⟩ (.s (.s (.j ⟨[(120,(.v .bool))],[],[0,1,4,12,13],[0],4136,[]⟩ .z) .z) .z))) (.s (.b (.l ⟨[(13,(.v ah))],[],[0,1,4,12],[0],4136,[]⟩ 8 ⟨[(13,(.v ah))],[],[0,1,4,12],[0],4136,[]⟩ (.s (.s (.j ⟨[(139,(.v .bool))],[],[0,1,4,12,13],[0],4136,[]⟩ .z) .z) .z))) .z))))) .z))))))))))
theorem y9 (n:Nat):aD 213 (y7 n) :=cq ax Tryz.func213 y8 n (by kernel_rfl) rfl fun _=>by kernel_rfl
def BP:Hn SI:=(.s .z (.s .z (.b (.lx ⟨[(1,(.v ah)),(2,(.v ah)),(3,(.v ah)),(10,(.v .bool)),(11,(.v .bool))],[(0,.l ak)],[0,4],[],1128,[]⟩ 999999 ⟨[],[],[],[],1128,[]⟩ (.b (.s .z (.s .z (.s .z (.s (.j ⟨[(3,(.v ah))],[(0,.l ak)],[0,1,2,4,10,11,12],[],1640,[]⟩ .z) (.s .z (.s (.j ⟨[(13,(.v ah)),(14,(.v ah))],[(0,.l ak)],[0,1,2,3,4,10,11,12],[],2280,[]⟩ .z) (.s (.jx ⟨[],[(0,.l ak)],[0,1,2,3,4,10,11,12,13],[],2280,[]⟩ (.s (.j ⟨[(75,(.v .bool))],[],[0,1,2,3,4,10,11,12,13],[0],2280,[]⟩ .z) .z)) (.s (.s (.j ⟨[(97,(.v .bool))],[],[0,1,2,3,4,10,11,12,13],[0],2280,[]⟩ .z) .z) .z)))))))))))))
theorem zV (n:Nat) (rc:((List au))->(Int)->(Int)->(Int)->((au×au×Unit)->Option Int)->Option (List au)) (hr:aD 190 (jd rc)):aD 190 (jd (gB n rc)) :=cq (aj (tY n) (aj (zT n) (aj (ug n) (aj wu (aj (vE n) (aj (nO n) (aj (rW n) (aj (y9 n) (aj hr ax))))))))) Tryz.func190 BP n (by kernel_rfl) rfl fun _=>by kernel_rfl
theorem nS (n:Nat):∀ m,aD 190 (jd (cO n m))
 | 0=>cok (jZ Tryz.func190 (by kernel_rfl:Tryz.f190.body=some (Tryz.f190.body.getD .skip)) (by kernel_rfl)) (fun _ _ h=>(by cases h)) rfl
 |m+1=>zV n _ (nS n m)
def BQ (n:Nat):Sig xx:=⟨[.mut ak,.d ah,.d ah,.d ah,.clo [ak,ak] ah],[.mu ak],fun a=>kJ n a.1 a.2.1 a.2.2.1 a.2.2.2.1 a.2.2.2.2.1,none⟩
theorem BR (n:Nat):aD 190 (BQ n):=nS n n
def Kj (n:Nat):Sig xx:=⟨[.mut ak,.clo [ak,ak] ah],[.mu ak],fun a=>ng n a.1 a.2.1,none⟩
theorem Kk (n:Nat):aD 147 (Kj n) :=cq (aj yT (aj (BR n) ax)) Tryz.func147 .z n (by kernel_rfl) rfl fun _=>by kernel_rfl
def Dt:Sig xx:=⟨[.d ak,.d ak],[.d ah],fun a=>fO a.1 a.2.1,none⟩
theorem Du:aD 148 Dt :=cq (aj A9 ax) Tryz.func148 .z 0 (by kernel_rfl) rfl fun _=>by kernel_rfl
def Mj:Sig xx:=⟨[.d aH],[.d ah],fun a=>jg a.1,none⟩
def Mk:Hn SI:=(.s .z (.s (.s (.j ⟨[(9,(.v .bool))],[],[1],[1000],1128,[]⟩ .z) .z) .z))
theorem Ba:aD 153 Mj :=cq (aj lu ax) Tryz.func153 Mk 0 (by kernel_rfl) rfl fun _=>by kernel_rfl
def PY:Sig xx:=⟨[.d aH],[.d ah],fun a=>kY a.1,none⟩
theorem FB:aD 151 PY :=cq (aj lu (aj TQ (aj Ba ax))) Tryz.func151 .z 0 (by kernel_rfl) rfl fun _=>by kernel_rfl
def BS:Sig xx:=⟨[.d aH],[.d ah],fun a=>kK a.1,none⟩
theorem BU:aD 154 BS :=cq ax Tryz.func154 .z 0 (by kernel_rfl) rfl fun _=>by kernel_rfl
def Dv:Sig xx:=⟨[.d aH],[.d ah],fun a=>lq a.1,none⟩
theorem Dw:aD 155 Dv :=cq ax Tryz.func155 .z 0 (by kernel_rfl) rfl fun _=>by kernel_rfl
def PZ:Sig xx:=⟨[.d ak,.d ah],[.d ak,.d .bool],fun a=>Bw a.1 a.2.1,none⟩
theorem P5:aD 192 PZ :=cq (aj xM ax) Tryz.func192 .z 0 (by kernel_rfl) rfl fun _=>by kernel_rfl
def UR:Sig xx:=⟨[.d ak,.d ak],[.d ak,.d .bool],fun a=>AO a.1 a.2.1,none⟩
def UU:Hn SI:=(.s .z (.s (.s (.j ⟨[(13,(.v .bool))],[],[2,3,4],[1000,1064,1128],1256,[]⟩ .z) .z) .z))
theorem UW:aD 193 UR :=cq (aj xM (aj Ph ax)) Tryz.func193 UU 0 (by kernel_rfl) rfl fun _=>by kernel_rfl
def Ob:Sig xx:=⟨[.d (.st SI.Entry),.ref (.st SI.A6_str),.ref ah],[.d .bool],fun a=>iT a.1 a.2.1 a.2.2.1,none⟩
theorem Oc:aD 215 Ob :=cq ax Tryz.func215 .z 0 (by kernel_rfl) rfl fun _=>by kernel_rfl
def Ia (n:Nat):Sig xx:=⟨[.d (.sl (.st SI.Entry)),.clo [(.st SI.Entry)] .bool],[.d ah],fun a=>pR n a.1 a.2.1,none⟩
def Ib:Hn SI:=(.s .z (.s (.s .z (.b (.lx ⟨[(8,(.v ah))],[],[0,1,7],[],1256,[]⟩ 0 ⟨[],[],[],[],1256,[]⟩ .z))) .z))
theorem Ic (n:Nat):aD 214 (Ia n) :=cq ax Tryz.func214 Ib n (by kernel_rfl) rfl fun _=>by kernel_rfl
def UX (n:Nat):Sig xx:=⟨[.d (.st SI.Plan),.d ah],[.d ah],fun a=>AP n a.1 a.2.1,none⟩
def UY:Hn SI:=(.s .z (.s .z (.s (.s .z (.b (.lx ⟨[(14,(.v ah))],[],[3,5,12,13],[1064,1256],1640,[]⟩ 0 ⟨[],[],[],[],1640,[]⟩ (.s .z (.s .z (.s (.b (.s .z (.s .z (.s .z (.s (.j ⟨[(8,(.v ah))],[],[],[],2344,[]⟩ .z) .z))))) .z)))))) .z)))
theorem UZ (n:Nat):aD 194 (UX n) :=cq (aj (Ic n) (aj Oc ax)) Tryz.func194 UY n (by kernel_rfl) rfl fun _=>by kernel_rfl
def Ml (n:Nat):Sig xx:=⟨[.d (.st SI.Plan),.d aH],[.d ah],fun a=>kR n a.1 a.2.1,none⟩
def Mq:Hn SI:=(.s .z (.s .z (.s (.s (.j ⟨[(20,(.v .bool))],[],[5,6],[],1704,[]⟩ .z) .z) .z)))
theorem Mr (n:Nat):aD 158 (Ml n) :=cq (aj (UZ n) (aj FB ax)) Tryz.func158 Mq n (by kernel_rfl) rfl fun _=>by kernel_rfl
def FV (n:Nat):GSig xx:=⟨[(.p 0)],[(0,.c 10 [[(.v (.sl aX)),(.v (.sl aP)),(.v (.sl aR)),(.v (.sl aO)),(.v (.sl aY)),(.v (.sl aS)),(.v (.sl aM)),(.v ah),(.v (.sl ak)),(.o 1)]]),(1,.l aH)],[(.v ah)],[(0,.c 10 [[(.v (.sl aX)),(.v (.sl aP)),(.v (.sl aR)),(.v (.sl aO)),(.v (.sl aY)),(.v (.sl aS)),(.v (.sl aM)),(.v ah),(.v (.sl ak)),(.o 1)]]),(1,.l aH)],fun v=>jP n v.1 v.2.1 v.2.2.1 v.2.2.2.1 v.2.2.2.2.1 v.2.2.2.2.2.1 v.2.2.2.2.2.2.1 v.2.2.2.2.2.2.2.1 v.2.2.2.2.2.2.2.2.1 v.2.2.2.2.2.2.2.2.2⟩
def FW (n:Nat):Sig xx:=⟨[],[.d .bool],fun _=>none,some (FV n)⟩
theorem FX (n:Nat):aD 109 (FW n) :=cqG (aj (aea n) ax) Tryz.func109 .z n (by kernel_rfl) fun _=>by kernel_rfl
def Dx (n:Nat):GSig xx:=⟨[(.p 0)],[(0,.c 10 [[(.v (.sl aX)),(.v (.sl aP)),(.v (.sl aR)),(.v (.sl aO)),(.v (.sl aY)),(.v (.sl aS)),(.v (.sl aM)),(.v ah),(.v (.sl ak)),(.o 1)]]),(1,.l aH)],[(.v ah)],[(0,.c 10 [[(.v (.sl aX)),(.v (.sl aP)),(.v (.sl aR)),(.v (.sl aO)),(.v (.sl aY)),(.v (.sl aS)),(.v (.sl aM)),(.v ah),(.v (.sl ak)),(.o 1)]]),(1,.l aH)],fun v=>fP n v.1 v.2.1 v.2.2.1 v.2.2.2.1 v.2.2.2.2.1 v.2.2.2.2.2.1 v.2.2.2.2.2.2.1 v.2.2.2.2.2.2.2.1 v.2.2.2.2.2.2.2.2.1 v.2.2.2.2.2.2.2.2.2⟩
end
end Go.Proofs
