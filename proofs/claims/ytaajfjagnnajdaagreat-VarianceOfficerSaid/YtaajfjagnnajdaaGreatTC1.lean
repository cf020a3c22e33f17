/-
  Printed by wip/gen: that functions of the program compute this.
-/
import Derived.Test.YtaajfjagnnajdaaGreatS3
namespace Go.Proofs
open Go.Gb Go.RowKit
noncomputable section
def aaQ:Sig xx:=⟨[],[.d dN],fun _=>KM,none⟩
theorem aaR:aF 28 aaQ :=cq ax Tryz.func28 .z 0 (by kernel_rfl) rfl fun _=>by kernel_rfl
def R7 (n:Nat):Sig xx:=⟨[.d dN],[.d .bool],fun a=>p8 n a.1,none⟩
def R8:Hn SI:=(.s .z (.s (.s (.j ⟨[(18,(.v .bool))],[],[1],[1000],1128,[]⟩ .z) .z) (.s (.s .z (.b (.lx ⟨[(22,(.v ah))],[],[1,20,21],[1000],1384,[]⟩ 0 ⟨[],[],[],[],1384,[]⟩ (.s .z (.s .z (.s (.b (.s .z (.s (.j ⟨[(41,(.v .bool))],[],[1,20,21,22],[1000],1704,[]⟩ .z) .z))) .z)))))) .z)))
theorem GQ (n:Nat):aF 103 (R7 n) :=cq ax Tryz.func103 R8 n (by kernel_rfl) rfl fun _=>by kernel_rfl
def R9 (n:Nat):Sig xx:=⟨[.d dN],[.d (.st SI.A144_bool)],fun a=>p9 n a.1,none⟩
def Sb:Hn SI:=(.s .z (.s .z (.s (.s .z (.b (.l ⟨[(9,(.v ah))],[(1128,.l .bool)],[2,3,7,8],[1064],1448,[]⟩ 0 ⟨[],[(1128,.l .bool)],[2,3],[1064],1448,[]⟩ .z))) .z)))
theorem GR (n:Nat):aF 105 (R9 n) :=cq ax Tryz.func105 Sb n (by kernel_rfl) rfl fun _=>by kernel_rfl
def Sc (n:Nat):Sig xx:=⟨[.d (.st SI.A144_bool)],[.d (.st SI.A144_bool)],fun a=>qa n a.1,none⟩
def Sd:Hn SI:=(.s .z (.s (.s .z (.b (.l ⟨[(3,(.p 1320))],[(1000,.l .bool),(1320,.l .bool)],[1,2],[1064],1321,[]⟩ 0 ⟨[],[(1000,.l .bool)],[1,2],[1064],1320,[]⟩ (.s .z (.s (.b (.s .z (.s .z (.b (.l ⟨[(12,(.v ah))],[(1000,.l .bool)],[1,2,3],[1064,1320],1705,[]⟩ 2 ⟨[],[(1000,.l .bool)],[1,2,3],[1064,1320],1705,[]⟩ (.s .z (.s .z (.s (.b (.s .z (.s .z (.b (.l ⟨[(15,(.v ah))],[(1000,.l .bool)],[1,2,3,4,12],[1064,1320],1961,[]⟩ 4 ⟨[],[(1000,.l .bool)],[1,2,3,12],[1064,1320],1961,[]⟩ (.s .z (.s .z (.s (.b (.s .z (.s .z (.b (.l ⟨[(18,(.v ah))],[(1000,.l .bool)],[1,2,3,4,5,12,15],[1064,1320],2217,[]⟩ 6 ⟨[],[(1000,.l .bool)],[1,2,3,4,12,15],[1064,1320],2217,[]⟩ (.s .z (.s .z (.s (.j ⟨[],[(1000,.l .bool)],[1,2,3,4,5,12,15,18],[1064,1320],2281,[]⟩ .z) .z)))))))) .z)))))))) .z)))))))) .z))))) .z))
theorem Sg (n:Nat):aF 104 (Sc n) :=cq ax Tryz.func104 Sd n (by kernel_rfl) rfl fun _=>by kernel_rfl
def OC (n:Nat):Sig xx:=⟨[.d dN],[.d (.st SI.A144_bool),.d .bool],fun a=>nU n a.1,none⟩
def OD:Hn SI:=(.s .z (.s .z (.s .z (.s (.s .z (.b (.lx ⟨[(14,(.v ah))],[],[1,2,4],[1000,1064,1576],1768,[]⟩ 0 ⟨[],[],[1,2,4],[1000,1064,1576],1768,[]⟩ .z))) (.s (.s .z (.b (.l ⟨[(26,(.v ah))],[(1576,.l .bool)],[2,4,25],[1064],1960,[]⟩ 2 ⟨[],[(1576,.l .bool)],[2,4],[1064],1960,[]⟩ .z))) .z)))))
theorem EM (n:Nat):aF 61 (OC n) :=cq (aj (GQ n) (aj (GR n) (aj (Sg n) ax))) Tryz.func61 OD n (by kernel_rfl) rfl fun _=>by kernel_rfl
def Si (n:Nat):Sig xx:=⟨[.d (.sl dN)],[.d .bool],fun a=>vR n a.1,none⟩
def Sj:Hn SI:=(.s .z (.s (.s .z (.b (.lx ⟨[(9,(.v ah))],[],[0,7,8],[],1256,[]⟩ 0 ⟨[],[],[0],[],1256,[]⟩ .z))) .z))
theorem Sk (n:Nat):aF 24 (Si n) :=cq (aj (EM n) ax) Tryz.func24 Sj n (by kernel_rfl) rfl fun _=>by kernel_rfl
def OE:Sig xx:=⟨[.d (.sl ak)],[.fresh ak],fun a=>Aw a.1,none⟩
theorem OG:aF 98 OE :=cq ax Tryz.func98 .z 0 (by kernel_rfl) rfl fun _=>by kernel_rfl
def Sl:Sig xx:=⟨[.d (.sl ah)],[.fresh ah],fun a=>ku a.1,none⟩
theorem qC:aF 49 Sl :=cq ax Tryz.func49 .z 0 (by kernel_rfl) rfl fun _=>by kernel_rfl
def aaS:Sig xx:=⟨[.d (.st SI.Lot)],[.d (.st SI.Lot)],fun a=>KN a.1,none⟩
theorem aaT:aF 57 aaS :=cq (aj OG (aj qC ax)) Tryz.func57 .z 0 (by kernel_rfl) rfl fun _=>by kernel_rfl
def acU (n:Nat):Sig xx:=⟨[.d (.sl (.st SI.Lot)),.d ah],[.d (.st SI.Lot),.d .bool],fun a=>Hu n a.1 a.2.1,none⟩
def acV:Hn SI:=(.s .z (.s (.s .z (.b (.lx ⟨[(10,(.v ah))],[],[1,4,8,9],[1000],1320,[]⟩ 0 ⟨[],[],[4],[1000],1320,[]⟩ .z))) .z))
theorem Vl (n:Nat):aF 21 (acU n) :=cq (aj aaT ax) Tryz.func21 acV n (by kernel_rfl) rfl fun _=>by kernel_rfl
def W9:Sig xx:=⟨[.d (.int .u64)],[.d ah],fun a=>bits_Len64 a.1,none⟩
def Xa:Hn SI:=(.s .z (.s (.j ⟨[(0,(.v (.int .u64))),(2,(.v ah))],[],[],[],1064,[]⟩ .z) (.s (.j ⟨[(0,(.v (.int .u64))),(2,(.v ah))],[],[],[],1064,[]⟩ .z) (.s (.j ⟨[(0,(.v (.int .u64))),(2,(.v ah))],[],[],[],1064,[]⟩ .z) .z))))
theorem Xb:aF 148 W9 :=cq ax Tryz.func148 Xa 0 (by kernel_rfl) rfl fun _=>by kernel_rfl
def aaU:Sig xx:=⟨[.d (.int .u64)],[.d ah],fun a=>bits_Len a.1,none⟩
theorem xY:aF 102 aaU :=cq (aj Xb ax) Tryz.func102 .z 0 (by kernel_rfl) rfl fun _=>by kernel_rfl
def Ju:Sig xx:=⟨[.d .str],[.d .bool],fun a=>cmp_isNaN_string a.1,none⟩
theorem Jv:aF 194 Ju :=cq ax Tryz.func194 .z 0 (by kernel_rfl) rfl fun _=>by kernel_rfl
def K7:Sig xx:=⟨[.d .str,.d .str],[.d .bool],fun a=>cmp_Less_string a.1 a.2.1,none⟩
theorem fw:aF 155 K7 :=cq (aj Jv ax) Tryz.func155 .z 0 (by kernel_rfl) rfl fun _=>by kernel_rfl
def qD (n:Nat):Sig xx:=⟨[.mut .str,.d ah,.d ah],[.mu .str],fun a=>rT n a.1 a.2.1 a.2.2.1,none⟩
def qE:Hn SI:=(.s .z (.b (.l ⟨[(6,(.v ah))],[(0,.l .str)],[0,1,2],[],1192,[]⟩ 0 ⟨[],[(0,.l .str)],[],[],1192,[]⟩ (.s .z (.s (.b (.s .z (.b (.l ⟨[(7,(.v ah))],[(0,.l .str)],[0,1,2,6],[],1512,[]⟩ 2 ⟨[],[(0,.l .str)],[0,1,2,6],[],1512,[]⟩ (.s (.s (.j ⟨[(30,(.v .bool))],[],[0,1,2,6,7],[0],1512,[]⟩ .z) .z) .z))))) .z)))))
theorem qF (n:Nat):aF 149 (qD n) :=cq (aj fw ax) Tryz.func149 qE n (by kernel_rfl) rfl fun _=>by kernel_rfl
def wh (n:Nat):Sig xx:=⟨[.mut .str,.d ah,.d ah,.d ah],[.mu .str],fun a=>yN n a.1 a.2.1 a.2.2.1 a.2.2.2.1,none⟩
def wm:Hn SI:=(.s .z (.b (.lx ⟨[(8,(.v ah))],[(0,.l .str)],[0,2,3],[],1128,[]⟩ 0 ⟨[],[(0,.l .str)],[],[],1128,[]⟩ (.b (.s .z (.s .z (.s (.j ⟨[(9,(.v ah))],[],[0,2,3,8],[0],1576,[]⟩ (.s (.j ⟨[(36,(.v .bool))],[],[0,2,3,8,9],[0],1576,[]⟩ .z) .z)) .z)))))))
theorem wo (n:Nat):aF 191 (wh n) :=cq (aj fw ax) Tryz.func191 wm n (by kernel_rfl) rfl fun _=>by kernel_rfl
def wu (n:Nat):Sig xx:=⟨[.mut .str,.d ah,.d ah],[.mu .str],fun a=>yO n a.1 a.2.1 a.2.2.1,none⟩
def wz:Hn SI:=(.s .z (.s .z (.s .z (.s (.s .z (.b (.l ⟨[(9,(.v ah))],[(0,.l .str)],[0,6,7,8],[],1704,[]⟩ 0 ⟨[],[(0,.l .str)],[0,6,7,8],[],1704,[]⟩ .z))) (.s .z (.b (.l ⟨[(10,(.v ah))],[(0,.l .str)],[0,6,7],[],1896,[]⟩ 2 ⟨[],[(0,.l .str)],[],[],1896,[]⟩ .z)))))))
theorem wB (n:Nat):aF 150 (wu n) :=cq (aj (wo n) ax) Tryz.func150 wz n (by kernel_rfl) rfl fun _=>by kernel_rfl
def Ij:Sig xx:=⟨[.d ah],[.d (.int .u64)],fun a=>aK a.1,none⟩
theorem jM:aF 186 Ij :=cq (aj xY ax) Tryz.func186 .z 0 (by kernel_rfl) rfl fun _=>by kernel_rfl
def Jw:Sig xx:=⟨[.mref (.int .u64)],[.d (.int .u64),.mr (.int .u64)],fun a=>aL a.1,none⟩
theorem kG:aF 187 Jw :=cq ax Tryz.func187 .z 0 (by kernel_rfl) rfl fun _=>by kernel_rfl
def qG (n:Nat):Sig xx:=⟨[.mut .str,.d ah,.d ah],[.mu .str],fun a=>rU n a.1 a.2.1 a.2.2.1,none⟩
def qH:Hn SI:=(.s .z (.s .z (.s (.s .z (.s .z (.s .z (.b (.l ⟨[(9,(.v ah))],[(0,.l .str),(1512,.c 1 [[(.v (.int .u64))]])],[0,1,6,7,8],[],2280,[]⟩ 0 ⟨[],[(0,.l .str)],[],[],2280,[]⟩ (.s .z (.s (.b (.s .z (.s (.j ⟨[(10,(.v ah))],[],[0,1,6,7,8,9],[0,1512],3176,[]⟩ .z) .z))) .z))))))) .z)))
theorem qI (n:Nat):aF 151 (qG n) :=cq (aj jM (aj kG ax)) Tryz.func151 qH n (by kernel_rfl) rfl fun _=>by kernel_rfl
def yQ:Sig xx:=⟨[.d (.sl .str),.d ah,.d ah,.mref ah],[.d ah,.d ah,.mr ah],fun a=>BU a.1 a.2.1 a.2.2.1 a.2.2.2.1,none⟩
theorem yR:aF 207 yQ :=cq (aj fw ax) Tryz.func207 .z 0 (by kernel_rfl) rfl fun _=>by kernel_rfl
def yS:Sig xx:=⟨[.d (.sl .str),.d ah,.d ah,.d ah,.mref ah],[.d ah,.mr ah],fun a=>BV a.1 a.2.1 a.2.2.1 a.2.2.2.1 a.2.2.2.2.1,none⟩
theorem mY:aF 193 yS :=cq (aj yR ax) Tryz.func193 .z 0 (by kernel_rfl) rfl fun _=>by kernel_rfl
def pJ:Sig xx:=⟨[.d (.sl .str),.d ah,.mref ah],[.d ah,.mr ah],fun a=>qL a.1 a.2.1 a.2.2.1,none⟩
theorem pK:aF 192 pJ :=cq (aj mY ax) Tryz.func192 .z 0 (by kernel_rfl) rfl fun _=>by kernel_rfl
def rW:Sig xx:=⟨[.d (.sl .str),.d ah,.d ah],[.d ah,.d ah],fun a=>uS a.1 a.2.1 a.2.2.1,none⟩
def rX:Hn SI:=(.s .z (.s .z (.s .z (.s .z (.s .z (.s .z (.s (.j ⟨[(11,(.v ah))],[(1384,.c 1 [[(.v ah)]])],[9],[],2600,[]⟩ (.s .z (.s (.s (.j ⟨[(10,(.v ah)),(11,(.v ah)),(12,(.v ah))],[(1384,.c 1 [[(.v ah)]])],[0,9],[],2728,[]⟩ .z) .z) .z))) .z)))))))
theorem rY:aF 152 rW :=cq (aj pK (aj mY ax)) Tryz.func152 rX 0 (by kernel_rfl) rfl fun _=>by kernel_rfl
def qN (n:Nat):Sig xx:=⟨[.mut .str,.d ah,.d ah],[.mu .str],fun a=>tZ n a.1 a.2.1 a.2.2.1,none⟩
def qO:Hn SI:=(.s .z (.s .z (.b (.l ⟨[(6,(.v ah)),(7,(.v ah))],[(0,.l .str)],[0],[],1320,[]⟩ 0 ⟨[],[(0,.l .str)],[],[],1320,[]⟩ .z))))
theorem qP (n:Nat):aF 153 (qN n) :=cq ax Tryz.func153 qO n (by kernel_rfl) rfl fun _=>by kernel_rfl
def lD (n:Nat):Sig xx:=⟨[.mut .str,.d ah,.d ah],[.d .bool,.mu .str],fun a=>mg n a.1 a.2.1 a.2.2.1,none⟩
def lF:Hn SI:=(.s .z (.s .z (.s (.s .z (.b (.lx ⟨[(7,(.v ah)),(8,(.v ah))],[(0,.l .str)],[0,1,2],[],1320,[]⟩ 0 ⟨[],[(0,.l .str)],[],[],1320,[]⟩ (.s .z (.s (.jx ⟨[(7,(.v ah))],[(0,.l .str)],[0,1,2,8],[],1448,[]⟩ (.b (.s (.b (.l ⟨[(7,(.v ah))],[],[0,1,2,8],[0],1448,[]⟩ 2 ⟨[(7,(.v ah))],[],[0,1,2,8],[0],1448,[]⟩ (.s (.s (.j ⟨[(32,(.v .bool))],[],[0,1,2,7,8],[0],1448,[]⟩ .z) .z) .z))) (.s .z (.s .z (.s .z (.s (.j ⟨[],[(0,.l .str)],[0,1,2,7,8],[],3048,[]⟩ (.s .z (.s (.s .z (.b (.l ⟨[(9,(.v ah))],[(0,.l .str)],[0,1,2,7,8],[],3496,[]⟩ 4 ⟨[],[(0,.l .str)],[0,1,2,7,8],[],3496,[]⟩ .z))) .z))) (.s .z (.s (.s .z (.b (.l ⟨[(10,(.v ah))],[(0,.l .str)],[0,1,2,7,8],[],3496,[]⟩ 6 ⟨[],[(0,.l .str)],[0,1,2,7,8],[],3496,[]⟩ .z))) .z))))))))) .z))))) .z)))
theorem lG (n:Nat):aF 154 (lD n) :=cq (aj fw ax) Tryz.func154 lF n (by kernel_rfl) rfl fun _=>by kernel_rfl
def pM (n:Nat):Sig xx:=⟨[.mut .str,.d ah,.d ah,.d ah],[.d ah,.mu .str],fun a=>qM n a.1 a.2.1 a.2.2.1 a.2.2.2.1,none⟩
def pO:Hn SI:=(.s .z (.s .z (.s .z (.s (.b (.l ⟨[(9,(.v ah)),(10,(.v ah))],[(0,.l .str)],[0,1],[],2472,[]⟩ 0 ⟨[(9,(.v ah))],[(0,.l .str)],[],[],2472,[]⟩ (.b (.s (.b (.l ⟨[(9,(.v ah))],[],[0,1,10],[0],2472,[]⟩ 2 ⟨[(9,(.v ah))],[],[0,1,10],[0],2472,[]⟩ (.s (.s (.j ⟨[(43,(.v .bool))],[],[0,1,9,10],[0],2472,[]⟩ .z) .z) .z))) (.s (.b (.l ⟨[(10,(.v ah))],[],[0,1,9],[0],2472,[]⟩ 4 ⟨[(10,(.v ah))],[],[0,1,9],[0],2472,[]⟩ (.s (.s (.j ⟨[(59,(.v .bool))],[],[0,1,9,10],[0],2472,[]⟩ .z) .z) .z))) .z))))) .z))))
theorem pQ (n:Nat):aF 156 (pM n) :=cq (aj fw ax) Tryz.func156 pO n (by kernel_rfl) rfl fun _=>by kernel_rfl
def u7 (n:Nat):Sig xx:=⟨[.mut .str,.d ah,.d ah,.d ah],[.d ah,.d .bool,.mu .str],fun a=>xI n a.1 a.2.1 a.2.2.1 a.2.2.2.1,none⟩
def ve:Hn SI:=(.s .z (.s .z (.s .z (.s (.b (.l ⟨[(10,(.v ah))],[],[0,1,11],[0],2536,[]⟩ 0 ⟨[(10,(.v ah))],[],[0,1,11],[0],2536,[]⟩ (.s (.s (.j ⟨[(43,(.v .bool))],[],[0,1,10,11],[0],2536,[]⟩ .z) .z) .z))) (.s (.b (.l ⟨[(11,(.v ah))],[],[0,1,10],[0],2536,[]⟩ 2 ⟨[(11,(.v ah))],[],[0,1,10],[0],2536,[]⟩ (.s (.s (.j ⟨[(60,(.v .bool))],[],[0,1,10,11],[0],2536,[]⟩ .z) .z) .z))) (.s .z (.s .z (.s .z (.s .z (.s (.b (.l ⟨[(10,(.v ah)),(11,(.v ah))],[(0,.l .str)],[0,1],[],4136,[]⟩ 4 ⟨[(11,(.v ah))],[(0,.l .str)],[0,1],[],4136,[]⟩ (.b (.s (.b (.l ⟨[(10,(.v ah))],[],[0,1,11],[0],4136,[]⟩ 6 ⟨[(10,(.v ah))],[],[0,1,11],[0],4136,[]⟩ (.s (.s (.j ⟨[(112,(.v .bool))],[],[0,1,10,11],[0],4136,[]⟩ .z) .z) .z))) (.s (.b (.l ⟨[(11,(.v ah))],[],[0,1,10],[0],4136,[]⟩ 8 ⟨[(11,(.v ah))],[],[0,1,10],[0],4136,[]⟩ (.s (.s (.j ⟨[(129,(.v .bool))],[],[0,1,10,11],[0],4136,[]⟩ .z) .z) .z))) .z))))) .z))))))))))
theorem vg (n:Nat):aF 157 (u7 n) :=cq (aj fw ax) Tryz.func157 ve n (by kernel_rfl) rfl fun _=>by kernel_rfl
def xZ:Hn SI:=(.s .z (.s .z (.b (.lx ⟨[(1,(.v ah)),(2,(.v ah)),(3,(.v ah)),(8,(.v .bool)),(9,(.v .bool))],[(0,.l .str)],[0],[],1128,[]⟩ 999999 ⟨[],[],[],[],1128,[]⟩ (.b (.s .z (.s .z (.s .z (.s (.j ⟨[(3,(.v ah))],[(0,.l .str)],[0,1,2,8,9,10],[],1640,[]⟩ .z) (.s .z (.s (.j ⟨[(11,(.v ah)),(12,(.v ah))],[(0,.l .str)],[0,1,2,3,8,9,10],[],2216,[]⟩ .z) (.s (.jx ⟨[],[(0,.l .str)],[0,1,2,3,8,9,10,11],[],2216,[]⟩ (.s (.j ⟨[(68,(.v .bool))],[],[0,1,2,3,8,9,10,11],[0],2216,[]⟩ .z) .z)) (.s (.s (.j ⟨[(87,(.v .bool))],[],[0,1,2,3,8,9,10,11],[0],2216,[]⟩ .z) .z) .z)))))))))))))
theorem wC (n:Nat) (rc:((List ByteArray))->(Int)->(Int)->(Int)->Option (List ByteArray)) (hr:aF 110 (gV rc)):aF 110 (gV (iJ n rc)) :=cq (aj (qF n) (aj (wB n) (aj (qI n) (aj rY (aj (qP n) (aj (lG n) (aj fw (aj (pQ n) (aj (vg n) (aj hr ax)))))))))) Tryz.func110 xZ n (by kernel_rfl) rfl fun _=>by kernel_rfl
theorem lC (n:Nat):∀ m,aF 110 (gV (dG n m))
 | 0=>cok (jT Tryz.func110 (by kernel_rfl:Tryz.f110.body=some (Tryz.f110.body.getD .skip)) (by kernel_rfl)) (fun _ _ h=>(by cases h)) rfl
 |m+1=>wC n _ (lC n m)
def yc (n:Nat):Sig xx:=⟨[.mut .str,.d ah,.d ah,.d ah],[.mu .str],fun a=>jB n a.1 a.2.1 a.2.2.1 a.2.2.2.1,none⟩
theorem yg (n:Nat):aF 110 (yc n):=lC n n
def M0 (n:Nat):Sig xx:=⟨[.mut .str],[.mu .str],fun a=>qb n a.1,none⟩
theorem M4 (n:Nat):aF 71 (M0 n) :=cq (aj xY (aj (yg n) ax)) Tryz.func71 .z n (by kernel_rfl) rfl fun _=>by kernel_rfl
def Ik (n:Nat):Sig xx:=⟨[.mut .str],[.whole 0,.mu .str],fun a=>kZ n a.1,none⟩
def Il:Hn SI:=(.s .z (.s .z (.s (.s .z (.b (.lx ⟨[(3,(.v ah))],[],[0],[0],1320,[]⟩ 0 ⟨[],[],[0],[0],1320,[]⟩ (.s .z (.s (.b (.s .z (.s (.s .z (.s (.s .z (.b (.l ⟨[(3,(.v ah)),(5,(.v ah))],[(0,.l .str)],[0,4],[],2536,[]⟩ 2 ⟨[(3,(.v ah))],[(0,.l .str)],[0],[],2536,[]⟩ (.s .z (.s (.j ⟨[(3,(.v ah))],[(0,.l .str)],[0,4,5],[],2792,[]⟩ .z) .z))))) .z)) .z))) .z))))) .z)))
theorem Im (n:Nat):aF 33 (Ik n) :=cq ax Tryz.func33 Il n (by kernel_rfl) rfl fun _=>by kernel_rfl
def EW:GSig xx:=⟨[(.v (.sl .str))],[],[(.f 72 [] [(.p 1000)])],[(1000,.c 1 [[(.v (.sl .str))]])],fun v=>ny v⟩
def EX:Sig xx:=⟨[],[.d .bool],fun _=>none,some (EW)⟩
theorem EY:aF 35 EX :=cqG ax Tryz.func35 .z 0 (by kernel_rfl) fun _=>by kernel_rfl
def agy:Sig xx:=⟨[],[.d .bool],fun _=>none,some (agR .str 72)⟩
theorem agz:aF 109 agy:=agQ (jT Tryz.func109 (by kernel_rfl:Tryz.f109.body=some (Tryz.f109.body.getD .skip)) (by kernel_rfl)) (adN (fun _=>rfl) (fun _=>trivial) (jT Tryz.func109 (by kernel_rfl:Tryz.f109.body=some (Tryz.f109.body.getD .skip)) (by kernel_rfl)) sqsA_calls)
def Ee:GSig xx:=⟨[(.f 72 [] [(.p 0)])],[(0,.c 1 [[(.v (.sl .str))]])],[(.o 1000)],[(0,.c 1 [[(.v (.sl .str))]]),(1000,.l .str)],fun v=>lS v⟩
def Ef:Sig xx:=⟨[],[.d .bool],fun _=>none,some (Ee)⟩
theorem Eg:aF 70 Ef :=cqG (aj agz ax) Tryz.func70 .z 0 (by kernel_rfl) fun _=>by kernel_rfl
def EZ (n:Nat):GSig xx:=⟨[(.f 72 [] [(.p 0)])],[(0,.c 1 [[(.v (.sl .str))]])],[(.o 1000)],[(0,.c 1 [[(.v (.sl .str))]]),(1000,.l .str)],fun v=>nC n v⟩
def E8 (n:Nat):Sig xx:=⟨[],[.d .bool],fun _=>none,some (EZ n)⟩
theorem E9 (n:Nat):aF 34 (E8 n) :=cqG (aj Eg (aj (M4 n) ax)) Tryz.func34 .z n (by kernel_rfl) fun _=>by kernel_rfl
def Fa (n:Nat):Sig xx:=⟨[.ref (.sl .str)],[.d ah],fun a=>jG n a.1,none⟩
theorem Fb (n:Nat):aF 32 (Fa n) :=cq (aj EY (aj (E9 n) (aj (Im n) ax))) Tryz.func32 .z n (by kernel_rfl) rfl fun _=>by kernel_rfl
def acW:Sig xx:=⟨[.d ak],[.d .bool],fun a=>qc a.1,none⟩
theorem wR:aF 136 acW :=cq ax Tryz.func136 .z 0 (by kernel_rfl) rfl fun _=>by kernel_rfl
def Sm:Sig xx:=⟨[.nil,.d ah],[.fresh ak],fun a=>KO a.1 a.2.1,none⟩
theorem Sn:aF 219 Sm :=cq ax Tryz.func219 .z 0 (by kernel_rfl) rfl fun _=>by kernel_rfl
def M5 (n:Nat):Sig xx:=⟨[.d (.sl (.sl ak))],[.fresh ak],fun a=>xJ n a.1,none⟩
def M6:Hn SI:=(.s .z (.s .z (.s (.s .z (.b (.l ⟨[(3,(.v ah)),(11,(.v ah))],[],[0,9,10],[],1320,[]⟩ 0 ⟨[(3,(.v ah))],[],[0],[],1320,[]⟩ .z))) (.s .z (.s (.s .z (.b (.l ⟨[(6,(.o 1704)),(27,(.v ah))],[(1704,.l ak)],[25,26],[],1705,[]⟩ 2 ⟨[(6,(.o 1704))],[(1704,.l ak)],[],[],1705,[]⟩ .z))) .z)))))
theorem M7 (n:Nat):aF 204 (M5 n) :=cq (aj Sn ax) Tryz.func204 M6 n (by kernel_rfl) rfl fun _=>by kernel_rfl
def OH:Sig xx:=⟨[.d ah],[.d .bool],fun a=>cmp_isNaN_int a.1,none⟩
theorem EN:aF 190 OH :=cq ax Tryz.func190 .z 0 (by kernel_rfl) rfl fun _=>by kernel_rfl
def Sq:Sig xx:=⟨[.d ah,.d ah],[.d .bool],fun a=>cmp_Less_int a.1 a.2.1,none⟩
theorem iO:aF 144 Sq :=cq (aj EN ax) Tryz.func144 .z 0 (by kernel_rfl) rfl fun _=>by kernel_rfl
def uD (n:Nat):Sig xx:=⟨[.mut ah,.d ah,.d ah],[.mu ah],fun a=>vS n a.1 a.2.1 a.2.2.1,none⟩
def uE:Hn SI:=(.s .z (.b (.l ⟨[(6,(.v ah))],[(0,.l ah)],[0,1,2],[],1192,[]⟩ 0 ⟨[],[(0,.l ah)],[],[],1192,[]⟩ (.s .z (.s (.b (.s .z (.b (.l ⟨[(7,(.v ah))],[(0,.l ah)],[0,1,2,6],[],1512,[]⟩ 2 ⟨[],[(0,.l ah)],[0,1,2,6],[],1512,[]⟩ (.s (.s (.j ⟨[(30,(.v .bool))],[],[0,1,2,6,7],[0],1512,[]⟩ .z) .z) .z))))) .z)))))
theorem uF (n:Nat):aF 138 (uD n) :=cq (aj iO ax) Tryz.func138 uE n (by kernel_rfl) rfl fun _=>by kernel_rfl
def AO (n:Nat):Sig xx:=⟨[.mut ah,.d ah,.d ah,.d ah],[.mu ah],fun a=>DT n a.1 a.2.1 a.2.2.1 a.2.2.2.1,none⟩
def AP:Hn SI:=(.s .z (.b (.lx ⟨[(8,(.v ah))],[(0,.l ah)],[0,2,3],[],1128,[]⟩ 0 ⟨[],[(0,.l ah)],[],[],1128,[]⟩ (.b (.s .z (.s .z (.s (.j ⟨[(9,(.v ah))],[],[0,2,3,8],[0],1576,[]⟩ (.s (.j ⟨[(36,(.v .bool))],[],[0,2,3,8,9],[0],1576,[]⟩ .z) .z)) .z)))))))
theorem AQ (n:Nat):aF 185 (AO n) :=cq (aj iO ax) Tryz.func185 AP n (by kernel_rfl) rfl fun _=>by kernel_rfl
def AR (n:Nat):Sig xx:=⟨[.mut ah,.d ah,.d ah],[.mu ah],fun a=>DU n a.1 a.2.1 a.2.2.1,none⟩
def AU:Hn SI:=(.s .z (.s .z (.s .z (.s (.s .z (.b (.l ⟨[(9,(.v ah))],[(0,.l ah)],[0,6,7,8],[],1704,[]⟩ 0 ⟨[],[(0,.l ah)],[0,6,7,8],[],1704,[]⟩ .z))) (.s .z (.b (.l ⟨[(10,(.v ah))],[(0,.l ah)],[0,6,7],[],1896,[]⟩ 2 ⟨[],[(0,.l ah)],[],[],1896,[]⟩ .z)))))))
theorem AX (n:Nat):aF 139 (AR n) :=cq (aj (AQ n) ax) Tryz.func139 AU n (by kernel_rfl) rfl fun _=>by kernel_rfl
def uG (n:Nat):Sig xx:=⟨[.mut ah,.d ah,.d ah],[.mu ah],fun a=>vT n a.1 a.2.1 a.2.2.1,none⟩
def uH:Hn SI:=(.s .z (.s .z (.s (.s .z (.s .z (.s .z (.b (.l ⟨[(9,(.v ah))],[(0,.l ah),(1512,.c 1 [[(.v (.int .u64))]])],[0,1,6,7,8],[],2280,[]⟩ 0 ⟨[],[(0,.l ah)],[],[],2280,[]⟩ (.s .z (.s (.b (.s .z (.s (.j ⟨[(10,(.v ah))],[],[0,1,6,7,8,9],[0,1512],3176,[]⟩ .z) .z))) .z))))))) .z)))
theorem uI (n:Nat):aF 140 (uG n) :=cq (aj jM (aj kG ax)) Tryz.func140 uH n (by kernel_rfl) rfl fun _=>by kernel_rfl
def Eh:Sig xx:=⟨[.d (.sl ah),.d ah,.d ah,.mref ah],[.d ah,.d ah,.mr ah],fun a=>Gx a.1 a.2.1 a.2.2.1 a.2.2.2.1,none⟩
theorem Ei:aF 206 Eh :=cq (aj iO ax) Tryz.func206 .z 0 (by kernel_rfl) rfl fun _=>by kernel_rfl
def Ej:Sig xx:=⟨[.d (.sl ah),.d ah,.d ah,.d ah,.mref ah],[.d ah,.mr ah],fun a=>Gy a.1 a.2.1 a.2.2.1 a.2.2.2.1 a.2.2.2.2.1,none⟩
theorem qJ:aF 189 Ej :=cq (aj Ei ax) Tryz.func189 .z 0 (by kernel_rfl) rfl fun _=>by kernel_rfl
def rZ:Sig xx:=⟨[.d (.sl ah),.d ah,.mref ah],[.d ah,.mr ah],fun a=>uT a.1 a.2.1 a.2.2.1,none⟩
theorem sj:aF 188 rZ :=cq (aj qJ ax) Tryz.func188 .z 0 (by kernel_rfl) rfl fun _=>by kernel_rfl
def wD:Sig xx:=⟨[.d (.sl ah),.d ah,.d ah],[.d ah,.d ah],fun a=>yP a.1 a.2.1 a.2.2.1,none⟩
def wE:Hn SI:=(.s .z (.s .z (.s .z (.s .z (.s .z (.s .z (.s (.j ⟨[(11,(.v ah))],[(1384,.c 1 [[(.v ah)]])],[9],[],2600,[]⟩ (.s .z (.s (.s (.j ⟨[(10,(.v ah)),(11,(.v ah)),(12,(.v ah))],[(1384,.c 1 [[(.v ah)]])],[0,9],[],2728,[]⟩ .z) .z) .z))) .z)))))))
theorem wF:aF 141 wD :=cq (aj sj (aj qJ ax)) Tryz.func141 wE 0 (by kernel_rfl) rfl fun _=>by kernel_rfl
def vk (n:Nat):Sig xx:=⟨[.mut ah,.d ah,.d ah],[.mu ah],fun a=>xK n a.1 a.2.1 a.2.2.1,none⟩
def vo:Hn SI:=(.s .z (.s .z (.b (.l ⟨[(6,(.v ah)),(7,(.v ah))],[(0,.l ah)],[0],[],1320,[]⟩ 0 ⟨[],[(0,.l ah)],[],[],1320,[]⟩ .z))))
theorem vv (n:Nat):aF 142 (vk n) :=cq ax Tryz.func142 vo n (by kernel_rfl) rfl fun _=>by kernel_rfl
def nJ (n:Nat):Sig xx:=⟨[.mut ah,.d ah,.d ah],[.d .bool,.mu ah],fun a=>oO n a.1 a.2.1 a.2.2.1,none⟩
def nK:Hn SI:=(.s .z (.s .z (.s (.s .z (.b (.lx ⟨[(7,(.v ah)),(8,(.v ah))],[(0,.l ah)],[0,1,2],[],1320,[]⟩ 0 ⟨[],[(0,.l ah)],[],[],1320,[]⟩ (.s .z (.s (.jx ⟨[(7,(.v ah))],[(0,.l ah)],[0,1,2,8],[],1448,[]⟩ (.b (.s (.b (.l ⟨[(7,(.v ah))],[],[0,1,2,8],[0],1448,[]⟩ 2 ⟨[(7,(.v ah))],[],[0,1,2,8],[0],1448,[]⟩ (.s (.s (.j ⟨[(32,(.v .bool))],[],[0,1,2,7,8],[0],1448,[]⟩ .z) .z) .z))) (.s .z (.s .z (.s .z (.s (.j ⟨[],[(0,.l ah)],[0,1,2,7,8],[],3048,[]⟩ (.s .z (.s (.s .z (.b (.l ⟨[(9,(.v ah))],[(0,.l ah)],[0,1,2,7,8],[],3496,[]⟩ 4 ⟨[],[(0,.l ah)],[0,1,2,7,8],[],3496,[]⟩ .z))) .z))) (.s .z (.s (.s .z (.b (.l ⟨[(10,(.v ah))],[(0,.l ah)],[0,1,2,7,8],[],3496,[]⟩ 6 ⟨[],[(0,.l ah)],[0,1,2,7,8],[],3496,[]⟩ .z))) .z))))))))) .z))))) .z)))
theorem nL (n:Nat):aF 143 (nJ n) :=cq (aj iO ax) Tryz.func143 nK n (by kernel_rfl) rfl fun _=>by kernel_rfl
def su (n:Nat):Sig xx:=⟨[.mut ah,.d ah,.d ah,.d ah],[.d ah,.mu ah],fun a=>uU n a.1 a.2.1 a.2.2.1 a.2.2.2.1,none⟩
def sw:Hn SI:=(.s .z (.s .z (.s .z (.s (.b (.l ⟨[(9,(.v ah)),(10,(.v ah))],[(0,.l ah)],[0,1],[],2472,[]⟩ 0 ⟨[(9,(.v ah))],[(0,.l ah)],[],[],2472,[]⟩ (.b (.s (.b (.l ⟨[(9,(.v ah))],[],[0,1,10],[0],2472,[]⟩ 2 ⟨[(9,(.v ah))],[],[0,1,10],[0],2472,[]⟩ (.s (.s (.j ⟨[(43,(.v .bool))],[],[0,1,9,10],[0],2472,[]⟩ .z) .z) .z))) (.s (.b (.l ⟨[(10,(.v ah))],[],[0,1,9],[0],2472,[]⟩ 4 ⟨[(10,(.v ah))],[],[0,1,9],[0],2472,[]⟩ (.s (.s (.j ⟨[(59,(.v .bool))],[],[0,1,9,10],[0],2472,[]⟩ .z) .z) .z))) .z))))) .z))))
theorem sD (n:Nat):aF 145 (su n) :=cq (aj iO ax) Tryz.func145 sw n (by kernel_rfl) rfl fun _=>by kernel_rfl
def yT (n:Nat):Sig xx:=⟨[.mut ah,.d ah,.d ah,.d ah],[.d ah,.d .bool,.mu ah],fun a=>BX n a.1 a.2.1 a.2.2.1 a.2.2.2.1,none⟩
def yU:Hn SI:=(.s .z (.s .z (.s .z (.s (.b (.l ⟨[(10,(.v ah))],[],[0,1,11],[0],2536,[]⟩ 0 ⟨[(10,(.v ah))],[],[0,1,11],[0],2536,[]⟩ (.s (.s (.j ⟨[(43,(.v .bool))],[],[0,1,10,11],[0],2536,[]⟩ .z) .z) .z))) (.s (.b (.l ⟨[(11,(.v ah))],[],[0,1,10],[0],2536,[]⟩ 2 ⟨[(11,(.v ah))],[],[0,1,10],[0],2536,[]⟩ (.s (.s (.j ⟨[(60,(.v .bool))],[],[0,1,10,11],[0],2536,[]⟩ .z) .z) .z))) (.s .z (.s .z (.s .z (.s .z (.s (.b (.l ⟨[(10,(.v ah)),(11,(.v ah))],[(0,.l ah)],[0,1],[],4136,[]⟩ 4 ⟨[(11,(.v ah))],[(0,.l ah)],[0,1],[],4136,[]⟩ (.b (.s (.b (.l ⟨[(10,(.v ah))],[],[0,1,11],[0],4136,[]⟩ 6 ⟨[(10,(.v ah))],[],[0,1,11],[0],4136,[]⟩ (.s (.s (.j ⟨[(112,(.v .bool))],[],[0,1,10,11],[0],4136,[]⟩ .z) .z) .z))) (.s (.b (.l ⟨[(11,(.v ah))],[],[0,1,10],[0],4136,[]⟩ 8 ⟨[(11,(.v ah))],[],[0,1,10],[0],4136,[]⟩ (.s (.s (.j ⟨[(129,(.v .bool))],[],[0,1,10,11],[0],4136,[]⟩ .z) .z) .z))) .z))))) .z))))))))))
theorem yV (n:Nat):aF 146 (yT n) :=cq (aj iO ax) Tryz.func146 yU n (by kernel_rfl) rfl fun _=>by kernel_rfl
def Cs:Hn SI:=(.s .z (.s .z (.b (.lx ⟨[(1,(.v ah)),(2,(.v ah)),(3,(.v ah)),(8,(.v .bool)),(9,(.v .bool))],[(0,.l ah)],[0],[],1128,[]⟩ 999999 ⟨[],[],[],[],1128,[]⟩ (.b (.s .z (.s .z (.s .z (.s (.j ⟨[(3,(.v ah))],[(0,.l ah)],[0,1,2,8,9,10],[],1640,[]⟩ .z) (.s .z (.s (.j ⟨[(11,(.v ah)),(12,(.v ah))],[(0,.l ah)],[0,1,2,3,8,9,10],[],2216,[]⟩ .z) (.s (.jx ⟨[],[(0,.l ah)],[0,1,2,3,8,9,10,11],[],2216,[]⟩ (.s (.j ⟨[(68,(.v .bool))],[],[0,1,2,3,8,9,10,11],[0],2216,[]⟩ .z) .z)) (.s (.s (.j ⟨[(87,(.v .bool))],[],[0,1,2,3,8,9,10,11],[0],2216,[]⟩ .z) .z) .z)))))))))))))
theorem AY (n:Nat) (rc:((List Int))->(Int)->(Int)->(Int)->Option (List Int)) (hr:aF 101 (jC rc)):aF 101 (jC (jP n rc)) :=cq (aj (uF n) (aj (AX n) (aj (uI n) (aj wF (aj (vv n) (aj (nL n) (aj iO (aj (sD n) (aj (yV n) (aj hr ax)))))))))) Tryz.func101 Cs n (by kernel_rfl) rfl fun _=>by kernel_rfl
theorem og (n:Nat):∀ m,aF 101 (jC (dX n m))
 | 0=>cok (jT Tryz.func101 (by kernel_rfl:Tryz.f101.body=some (Tryz.f101.body.getD .skip)) (by kernel_rfl)) (fun _ _ h=>(by cases h)) rfl
 |m+1=>AY n _ (og n m)
def Ct (n:Nat):Sig xx:=⟨[.mut ah,.d ah,.d ah,.d ah],[.mu ah],fun a=>kV n a.1 a.2.1 a.2.2.1 a.2.2.2.1,none⟩
theorem Cu (n:Nat):aF 101 (Ct n):=og n n
def TK (n:Nat):Sig xx:=⟨[.mut ah],[.mu ah],fun a=>o9 n a.1,none⟩
theorem AZ (n:Nat):aF 59 (TK n) :=cq (aj xY (aj (Cu n) ax)) Tryz.func59 .z n (by kernel_rfl) rfl fun _=>by kernel_rfl
def M8 (n:Nat):Sig xx:=⟨[.mut ah],[.whole 0,.mu ah],fun a=>qd n a.1,none⟩
def M9:Hn SI:=(.s .z (.s .z (.s (.s .z (.b (.lx ⟨[(3,(.v ah))],[],[0],[0],1320,[]⟩ 0 ⟨[],[],[0],[0],1320,[]⟩ (.s .z (.s (.b (.s .z (.s (.s .z (.s (.s .z (.b (.l ⟨[(3,(.v ah)),(5,(.v ah))],[(0,.l ah)],[0,4],[],2536,[]⟩ 2 ⟨[(3,(.v ah))],[(0,.l ah)],[0],[],2536,[]⟩ (.s .z (.s (.j ⟨[(3,(.v ah))],[(0,.l ah)],[0,4,5],[],2792,[]⟩ .z) .z))))) .z)) .z))) .z))))) .z)))
theorem Cv (n:Nat):aF 60 (M8 n) :=cq ax Tryz.func60 M9 n (by kernel_rfl) rfl fun _=>by kernel_rfl
def sF (n:Nat):Sig xx:=⟨[.mut (.st SI.span),.d ah,.d ah,.clo [(.st SI.span),(.st SI.span)] ah],[.mu (.st SI.span)],fun a=>uV n a.1 a.2.1 a.2.2.1 a.2.2.2.1,none⟩
def sG:Hn SI:=(.s .z (.b (.l ⟨[(8,(.v ah))],[(0,.l (.st SI.span))],[0,1,2,3],[],1192,[]⟩ 0 ⟨[],[(0,.l (.st SI.span))],[],[],1192,[]⟩ (.s .z (.s (.b (.s .z (.b (.l ⟨[(9,(.v ah))],[(0,.l (.st SI.span))],[0,1,2,3,8],[],1512,[]⟩ 2 ⟨[],[(0,.l (.st SI.span))],[0,1,2,3,8],[],1512,[]⟩ (.s (.s (.j ⟨[(34,(.v .bool))],[],[0,1,2,3,8,9],[0],1512,[]⟩ .z) .z) .z))))) .z)))))
theorem sH (n:Nat):aF 227 (sF n) :=cq ax Tryz.func227 sG n (by kernel_rfl) rfl fun _=>by kernel_rfl
def yX (n:Nat):Sig xx:=⟨[.mut (.st SI.span),.d ah,.d ah,.d ah,.clo [(.st SI.span),(.st SI.span)] ah],[.mu (.st SI.span)],fun a=>BZ n a.1 a.2.1 a.2.2.1 a.2.2.2.1 a.2.2.2.2.1,none⟩
def yY:Hn SI:=(.s .z (.b (.lx ⟨[(10,(.v ah))],[(0,.l (.st SI.span))],[0,2,3,4],[],1128,[]⟩ 0 ⟨[],[(0,.l (.st SI.span))],[],[],1128,[]⟩ (.b (.s .z (.s .z (.s (.j ⟨[(11,(.v ah))],[],[0,2,3,4,10],[0],1576,[]⟩ (.s (.j ⟨[(40,(.v .bool))],[],[0,2,3,4,10,11],[0],1576,[]⟩ .z) .z)) .z)))))))
theorem yZ (n:Nat):aF 235 (yX n) :=cq ax Tryz.func235 yY n (by kernel_rfl) rfl fun _=>by kernel_rfl
def y5 (n:Nat):Sig xx:=⟨[.mut (.st SI.span),.d ah,.d ah,.clo [(.st SI.span),(.st SI.span)] ah],[.mu (.st SI.span)],fun a=>Ca n a.1 a.2.1 a.2.2.1 a.2.2.2.1,none⟩
def y7:Hn SI:=(.s .z (.s .z (.s .z (.s (.s .z (.b (.l ⟨[(11,(.v ah))],[(0,.l (.st SI.span))],[0,3,8,9,10],[],1704,[]⟩ 0 ⟨[],[(0,.l (.st SI.span))],[0,3,8,9,10],[],1704,[]⟩ .z))) (.s .z (.b (.l ⟨[(12,(.v ah))],[(0,.l (.st SI.span))],[0,3,8,9],[],1896,[]⟩ 2 ⟨[],[(0,.l (.st SI.span))],[],[],1896,[]⟩ .z)))))))
theorem y8 (n:Nat):aF 228 (y5 n) :=cq (aj (yZ n) ax) Tryz.func228 y7 n (by kernel_rfl) rfl fun _=>by kernel_rfl
def sI (n:Nat):Sig xx:=⟨[.mut (.st SI.span),.d ah,.d ah,.clo [(.st SI.span),(.st SI.span)] ah],[.mu (.st SI.span)],fun a=>uW n a.1 a.2.1 a.2.2.1 a.2.2.2.1,none⟩
def sJ:Hn SI:=(.s .z (.s .z (.s (.s .z (.s .z (.s .z (.b (.l ⟨[(11,(.v ah))],[(0,.l (.st SI.span)),(1512,.c 1 [[(.v (.int .u64))]])],[0,1,8,9,10],[],2280,[]⟩ 0 ⟨[],[(0,.l (.st SI.span))],[],[],2280,[]⟩ (.s .z (.s (.b (.s .z (.s (.j ⟨[(12,(.v ah))],[],[0,1,8,9,10,11],[0,1512],3176,[]⟩ .z) .z))) .z))))))) .z)))
theorem sK (n:Nat):aF 229 (sI n) :=cq (aj jM (aj kG ax)) Tryz.func229 sJ n (by kernel_rfl) rfl fun _=>by kernel_rfl
def Cw:Sig xx:=⟨[.d (.sl (.st SI.span)),.d ah,.d ah,.mref ah,.clo [(.st SI.span),(.st SI.span)] ah],[.d ah,.d ah,.mr ah],fun a=>EP a.1 a.2.1 a.2.2.1 a.2.2.2.1 a.2.2.2.2.1,none⟩
theorem Cx:aF 238 Cw :=cq ax Tryz.func238 .z 0 (by kernel_rfl) rfl fun _=>by kernel_rfl
def Cy:Sig xx:=⟨[.d (.sl (.st SI.span)),.d ah,.d ah,.d ah,.mref ah,.clo [(.st SI.span),(.st SI.span)] ah],[.d ah,.mr ah],fun a=>EQ a.1 a.2.1 a.2.2.1 a.2.2.2.1 a.2.2.2.2.1 a.2.2.2.2.2.1,none⟩
theorem pz:aF 237 Cy :=cq (aj Cx ax) Tryz.func237 .z 0 (by kernel_rfl) rfl fun _=>by kernel_rfl
def qQ:Sig xx:=⟨[.d (.sl (.st SI.span)),.d ah,.mref ah,.clo [(.st SI.span),(.st SI.span)] ah],[.d ah,.mr ah],fun a=>uf a.1 a.2.1 a.2.2.1 a.2.2.2.1,none⟩
theorem qR:aF 236 qQ :=cq (aj pz ax) Tryz.func236 .z 0 (by kernel_rfl) rfl fun _=>by kernel_rfl
def vw:Sig xx:=⟨[.d (.sl (.st SI.span)),.d ah,.d ah,.clo [(.st SI.span),(.st SI.span)] ah],[.d ah,.d ah],fun a=>xL a.1 a.2.1 a.2.2.1 a.2.2.2.1,none⟩
def vz:Hn SI:=(.s .z (.s .z (.s .z (.s .z (.s .z (.s .z (.s (.j ⟨[(13,(.v ah))],[(1384,.c 1 [[(.v ah)]])],[11],[],2600,[]⟩ (.s .z (.s (.s (.j ⟨[(12,(.v ah)),(13,(.v ah)),(14,(.v ah))],[(1384,.c 1 [[(.v ah)]])],[0,3,11],[],2728,[]⟩ .z) .z) .z))) .z)))))))
theorem vB:aF 230 vw :=cq (aj qR (aj pz ax)) Tryz.func230 vz 0 (by kernel_rfl) rfl fun _=>by kernel_rfl
def uJ (n:Nat):Sig xx:=⟨[.mut (.st SI.span),.d ah,.d ah,.clo [(.st SI.span),(.st SI.span)] ah],[.mu (.st SI.span)],fun a=>vU n a.1 a.2.1 a.2.2.1 a.2.2.2.1,none⟩
def uK:Hn SI:=(.s .z (.s .z (.b (.l ⟨[(8,(.v ah)),(9,(.v ah))],[(0,.l (.st SI.span))],[0],[],1320,[]⟩ 0 ⟨[],[(0,.l (.st SI.span))],[],[],1320,[]⟩ .z))))
theorem uL (n:Nat):aF 231 (uJ n) :=cq ax Tryz.func231 uK n (by kernel_rfl) rfl fun _=>by kernel_rfl
def mM (n:Nat):Sig xx:=⟨[.mut (.st SI.span),.d ah,.d ah,.clo [(.st SI.span),(.st SI.span)] ah],[.d .bool,.mu (.st SI.span)],fun a=>nV n a.1 a.2.1 a.2.2.1 a.2.2.2.1,none⟩
def mO:Hn SI:=(.s .z (.s .z (.s (.s .z (.b (.lx ⟨[(9,(.v ah)),(10,(.v ah))],[(0,.l (.st SI.span))],[0,1,2,3],[],1320,[]⟩ 0 ⟨[],[(0,.l (.st SI.span))],[],[],1320,[]⟩ (.s .z (.s (.jx ⟨[(9,(.v ah))],[(0,.l (.st SI.span))],[0,1,2,3,10],[],1448,[]⟩ (.b (.s (.b (.l ⟨[(9,(.v ah))],[],[0,1,2,3,10],[0],1448,[]⟩ 2 ⟨[(9,(.v ah))],[],[0,1,2,3,10],[0],1448,[]⟩ (.s (.s (.j ⟨[(36,(.v .bool))],[],[0,1,2,3,9,10],[0],1448,[]⟩ .z) .z) .z))) (.s .z (.s .z (.s .z (.s (.j ⟨[],[(0,.l (.st SI.span))],[0,1,2,3,9,10],[],3048,[]⟩ (.s .z (.s (.s .z (.b (.l ⟨[(11,(.v ah))],[(0,.l (.st SI.span))],[0,1,2,3,9,10],[],3496,[]⟩ 4 ⟨[],[(0,.l (.st SI.span))],[0,1,2,3,9,10],[],3496,[]⟩ .z))) .z))) (.s .z (.s (.s .z (.b (.l ⟨[(12,(.v ah))],[(0,.l (.st SI.span))],[0,1,2,3,9,10],[],3496,[]⟩ 6 ⟨[],[(0,.l (.st SI.span))],[0,1,2,3,9,10],[],3496,[]⟩ .z))) .z))))))))) .z))))) .z)))
theorem mQ (n:Nat):aF 232 (mM n) :=cq ax Tryz.func232 mO n (by kernel_rfl) rfl fun _=>by kernel_rfl
def qU (n:Nat):Sig xx:=⟨[.mut (.st SI.span),.d ah,.d ah,.d ah,.clo [(.st SI.span),(.st SI.span)] ah],[.d ah,.mu (.st SI.span)],fun a=>ug n a.1 a.2.1 a.2.2.1 a.2.2.2.1 a.2.2.2.2.1,none⟩
def qV:Hn SI:=(.s .z (.s .z (.s .z (.s (.b (.l ⟨[(11,(.v ah)),(12,(.v ah))],[(0,.l (.st SI.span))],[0,1,4],[],2472,[]⟩ 0 ⟨[(11,(.v ah))],[(0,.l (.st SI.span))],[],[],2472,[]⟩ (.b (.s (.b (.l ⟨[(11,(.v ah))],[],[0,1,4,12],[0],2472,[]⟩ 2 ⟨[(11,(.v ah))],[],[0,1,4,12],[0],2472,[]⟩ (.s (.s (.j ⟨[(47,(.v .bool))],[],[0,1,4,11,12],[0],2472,[]⟩ .z) .z) .z))) (.s (.b (.l ⟨[(12,(.v ah))],[],[0,1,4,11],[0],2472,[]⟩ 4 ⟨[(12,(.v ah))],[],[0,1,4,11],[0],2472,[]⟩ (.s (.s (.j ⟨[(65,(.v .bool))],[],[0,1,4,11,12],[0],2472,[]⟩ .z) .z) .z))) .z))))) .z))))
theorem qW (n:Nat):aF 233 (qU n) :=cq ax Tryz.func233 qV n (by kernel_rfl) rfl fun _=>by kernel_rfl
def yh (n:Nat):Sig xx:=⟨[.mut (.st SI.span),.d ah,.d ah,.d ah,.clo [(.st SI.span),(.st SI.span)] ah],[.d ah,.d .bool,.mu (.st SI.span)],fun a=>Ay n a.1 a.2.1 a.2.2.1 a.2.2.2.1 a.2.2.2.2.1,none⟩
def yj:Hn SI:=(.s .z (.s .z (.s .z (.s (.b (.l ⟨[(12,(.v ah))],[],[0,1,4,13],[0],2536,[]⟩ 0 ⟨[(12,(.v ah))],[],[0,1,4,13],[0],2536,[]⟩ (.s (.s (.j ⟨[(47,(.v .bool))],[],[0,1,4,12,13],[0],2536,[]⟩ .z) .z) .z))) (.s (.b (.l ⟨[(13,(.v ah))],[],[0,1,4,12],[0],2536,[]⟩ 2 ⟨[(13,(.v ah))],[],[0,1,4,12],[0],2536,[]⟩ (.s (.s (.j ⟨[(66,(.v .bool))],[],[0,1,4,12,13],[0],2536,[]⟩ .z) .z) .z))) (.s .z (.s .z (.s .z (.s .z (.s (.b (.l ⟨[(12,(.v ah)),(13,(.v ah))],[(0,.l (.st SI.span))],[0,1,4],[],4136,[]⟩ 4 ⟨[(13,(.v ah))],[(0,.l (.st SI.span))],[0,1],[],4136,[]⟩ (.b (.s (.b (.l ⟨[(12,(.v ah))],[],[0,1,4,13],[0],4136,[]⟩ 6 ⟨[(12,(.v ah))],[],[0,1,4,13],[0],4136,[]⟩ (.s (.s (.j ⟨[(120,(.v .bool))],[],[0,1,4,12,13],[0],4136,[]⟩ .z) .z) .z))) (.s (.b (.l ⟨[(13,(.v ah))],[],[0,1,4,12],[0],4136,[]⟩ 8 ⟨[(13,(.v ah))],[],[0,1,4,12],[0],4136,[]⟩ (.s (.s (.j ⟨[(139,(.v .bool))],[],[0,1,4,12,13],[0],4136,[]⟩ .z) .z) .z))) .z))))) .z))))))))))
theorem yu (n:Nat):aF 234 (yh n) :=cq ax Tryz.func234 yj n (by kernel_rfl) rfl fun _=>by kernel_rfl
def A7:Hn SI:=(.s .z (.s .z (.b (.lx ⟨[(1,(.v ah)),(2,(.v ah)),(3,(.v ah)),(10,(.v .bool)),(11,(.v .bool))],[(0,.l (.st SI.span))],[0,4],[],1128,[]⟩ 999999 ⟨[],[],[],[],1128,[]⟩ (.b (.s .z (.s .z (.s .z (.s (.j ⟨[(3,(.v ah))],[(0,.l (.st SI.span))],[0,1,2,4,10,11,12],[],1640,[]⟩ .z) (.s .z (.s (.j ⟨[(13,(.v ah)),(14,(.v ah))],[(0,.l (.st SI.span))],[0,1,2,3,4,10,11,12],[],2280,[]⟩ .z) (.s (.jx ⟨[],[(0,.l (.st SI.span))],[0,1,2,3,4,10,11,12,13],[],2280,[]⟩ (.s (.j ⟨[(75,(.v .bool))],[],[0,1,2,3,4,10,11,12,13],[0],2280,[]⟩ .z) .z)) (.s (.s (.j ⟨[(97,(.v .bool))],[],[0,1,2,3,4,10,11,12,13],[0],2280,[]⟩ .z) .z) .z)))))))))))))
theorem y9 (n:Nat) (rc:((List aD))->(Int)->(Int)->(Int)->((aD×aD×Unit)->Option Int)->Option (List aD)) (hr:aF 225 (iU rc)):aF 225 (iU (fV n rc)) :=cq (aj (sH n) (aj (y8 n) (aj (sK n) (aj vB (aj (uL n) (aj (mQ n) (aj (qW n) (aj (yu n) (aj hr ax))))))))) Tryz.func225 A7 n (by kernel_rfl) rfl fun _=>by kernel_rfl
theorem mZ (n:Nat):∀ m,aF 225 (iU (bY n m))
 | 0=>cok (jT Tryz.func225 (by kernel_rfl:Tryz.f225.body=some (Tryz.f225.body.getD .skip)) (by kernel_rfl)) (fun _ _ h=>(by cases h)) rfl
 |m+1=>y9 n _ (mZ n m)
def A8 (n:Nat):Sig xx:=⟨[.mut (.st SI.span),.d ah,.d ah,.d ah,.clo [(.st SI.span),(.st SI.span)] ah],[.mu (.st SI.span)],fun a=>kz n a.1 a.2.1 a.2.2.1 a.2.2.2.1 a.2.2.2.2.1,none⟩
theorem A9 (n:Nat):aF 225 (A8 n):=mZ n n
def Jy (n:Nat):Sig xx:=⟨[.mut (.st SI.span),.clo [(.st SI.span),(.st SI.span)] ah],[.mu (.st SI.span)],fun a=>mh n a.1 a.2.1,none⟩
theorem Jz (n:Nat):aF 220 (Jy n) :=cq (aj xY (aj (A9 n) ax)) Tryz.func220 .z n (by kernel_rfl) rfl fun _=>by kernel_rfl
def K8:Sig xx:=⟨[.d ah,.d ah],[.d ah],fun a=>cmp_Compare_int a.1 a.2.1,none⟩
theorem Ad:aF 161 K8 :=cq (aj EN ax) Tryz.func161 .z 0 (by kernel_rfl) rfl fun _=>by kernel_rfl
def Sr:Sig xx:=⟨[.d (.st SI.span),.d (.st SI.span)],[.d ah],fun a=>vV a.1 a.2.1,none⟩
theorem Sv:aF 221 Sr :=cq (aj Ad ax) Tryz.func221 .z 0 (by kernel_rfl) rfl fun _=>by kernel_rfl
def Y4 (n:Nat):Sig xx:=⟨[.d (.sl ak),.d ah],[.fresh (.st SI.span)],fun a=>Hw n a.1 a.2.1,none⟩
def Y5:Hn SI:=(.s .z (.s .z (.s (.s .z (.b (.l ⟨[(5,(.o 1320)),(14,(.v ah))],[(1320,.l (.st SI.span))],[1,12,13],[],1321,[(5,(.st SI.span))]⟩ 0 ⟨[(5,(.o 1320))],[(1320,.l (.st SI.span))],[],[],1321,[]⟩ (.s .z (.s .z (.s (.j ⟨[(5,(.o 1385))],[(1385,.l (.st SI.span))],[1,12,13,14],[],1386,[]⟩ (.b (.s .z (.s (.j ⟨[(27,(.v .bool))],[],[1,5,7,12,13,14],[1320,1513],1641,[]⟩ .z) .z)))) .z)))))) (.s .z (.s .z (.s (.s .z (.b (.l ⟨[(8,(.o 1705)),(41,(.v ah))],[(1705,.l (.st SI.span))],[39,40],[1320],1706,[(8,(.st SI.span))]⟩ 2 ⟨[(8,(.o 1705))],[(1705,.l (.st SI.span))],[],[],1706,[]⟩ (.s .z (.s .z (.s (.j ⟨[(8,(.o 1770))],[(1770,.l (.st SI.span))],[39,40,41],[1320],1771,[]⟩ (.b (.s .z (.s .z (.s (.j ⟨[(59,(.v .bool))],[],[8,10,11,39,40,41],[1320,1705,1898],2218,[]⟩ .z) .z))))) .z)))))) .z))))))
theorem Y6 (n:Nat):aF 205 (Y4 n) :=cq (aj (Jz n) (aj Sv ax)) Tryz.func205 Y5 n (by kernel_rfl) rfl fun _=>by kernel_rfl
def Y7 (n:Nat):Sig xx:=⟨[.d (.sl (.sl ak))],[.fresh (.st SI.strip)],fun a=>Hy n a.1,none⟩
def Y8:Hn SI:=(.s .z (.s .z (.s .z (.s (.s .z (.b (.l ⟨[(4,(.o 1512)),(13,(.v ah))],[(1512,.l ah)],[3,11,12],[1128],1513,[(4,ah)]⟩ 0 ⟨[(4,(.o 1512))],[(1512,.l ah)],[3],[1128],1513,[]⟩ .z))) (.s .z (.s .z (.s .z (.s (.s .z (.b (.l ⟨[(7,(.o 1961)),(8,(.v ah))],[(1961,.l (.st SI.strip))],[3,4],[1128,1512],1962,[(7,(.st SI.strip))]⟩ 2 ⟨[(7,(.o 1961))],[(1961,.l (.st SI.strip))],[],[],1962,[]⟩ .z))) .z))))))))
theorem Y9 (n:Nat):aF 184 (Y7 n) :=cq (aj (M7 n) (aj (AZ n) (aj (Cv n) (aj (Y6 n) ax)))) Tryz.func184 Y8 n (by kernel_rfl) rfl fun _=>by kernel_rfl
def OI (n:Nat):Sig xx:=⟨[.d (.sl (.st SI.span)),.d (.sl (.st SI.span))],[.d .bool],fun a=>sZ n a.1 a.2.1,none⟩
def OJ:Hn SI:=(.s .z (.s .z (.s (.s .z (.b (.lx ⟨[(13,(.v ah))],[],[0,1,12],[],1576,[]⟩ 0 ⟨[],[],[],[],1576,[]⟩ .z))) .z)))
theorem OL (n:Nat):aF 203 (OI n) :=cq ax Tryz.func203 OJ n (by kernel_rfl) rfl fun _=>by kernel_rfl
def aaV (n:Nat):Sig xx:=⟨[.d (.sl (.st SI.strip))],[.fresh ak],fun a=>KT n a.1,none⟩
def aaW:Hn SI:=(.s .z (.s .z (.s (.s .z (.b (.l ⟨[(3,(.o 1192)),(4,(.v ah))],[(1192,.l ak)],[0],[],1193,[(3,ak)]⟩ 0 ⟨[(3,(.o 1192))],[(1192,.l ak)],[],[],1193,[]⟩ (.s .z (.b (.s .z (.s (.b (.l ⟨[(5,(.v ah))],[],[0,3,4],[1192],1641,[]⟩ 2 ⟨[(5,(.v ah))],[],[0,3,4],[1192],1641,[]⟩ (.s (.s (.j ⟨[(30,(.v .bool))],[],[0,3,4,5],[1192],1641,[]⟩ .z) .z) .z))) (.s (.s .z (.b (.l ⟨[(3,(.o 2089)),(39,(.v ah))],[(2089,.l ak)],[0,4,5,37,38],[],2090,[]⟩ 4 ⟨[(3,(.o 2089))],[(2089,.l ak)],[0,5],[],2090,[]⟩ .z))) .z)))))))) .z)))
theorem aaX (n:Nat):aF 183 (aaV n) :=cq (aj (OL n) ax) Tryz.func183 aaW n (by kernel_rfl) rfl fun _=>by kernel_rfl
def Xc:Sig xx:=⟨[.d (.sl ak)],[.d (.sl ak),.d ah],fun a=>Jl a.1,none⟩
theorem Xd:aF 182 Xc :=cq ax Tryz.func182 .z 0 (by kernel_rfl) rfl fun _=>by kernel_rfl
def aft (n:Nat):Sig xx:=⟨[.d (.sl ak)],[.d (.sl ak),.d ah],fun a=>abt n a.1,none⟩
def afu:Hn SI:=(.s .z (.s (.s .z (.b (.lx ⟨[(8,(.v ah))],[],[0,6,7],[],1320,[]⟩ 0 ⟨[],[],[0],[],1320,[]⟩ .z))) .z))
theorem afv (n:Nat):aF 134 (aft n) :=cq (aj wR (aj (Y9 n) (aj (aaX n) (aj Xd ax)))) Tryz.func134 afu n (by kernel_rfl) rfl fun _=>by kernel_rfl
def OM (n:Nat):Sig xx:=⟨[.d (.sl ak),.d (.sl ak)],[.d .bool],fun a=>nW n a.1 a.2.1,none⟩
def OO:Hn SI:=(.s .z (.s .z (.s (.s .z (.b (.lx ⟨[(13,(.v ah))],[],[0,1,12],[],1576,[]⟩ 0 ⟨[],[],[],[],1576,[]⟩ .z))) .z)))
theorem OQ (n:Nat):aF 135 (OM n) :=cq ax Tryz.func135 OO n (by kernel_rfl) rfl fun _=>by kernel_rfl
def aaY (n:Nat):Sig xx:=⟨[.d (.sl ak)],[.d .bool],fun a=>xM n a.1,none⟩
theorem JA (n:Nat):aF 99 (aaY n) :=cq (aj (afv n) (aj (OQ n) ax)) Tryz.func99 .z n (by kernel_rfl) rfl fun _=>by kernel_rfl
def K9 (n:Nat):Sig xx:=⟨[.d (.st SI.Drawing),.d ah,.d ah],[.fresh aG],fun a=>oF n a.1 a.2.1 a.2.2.1,none⟩
def La:Hn SI:=(.s .z (.s .z (.s (.s .z (.b (.l ⟨[(7,(.o 1448)),(13,(.v ah))],[(1448,.l aG)],[1,2,11,12],[],1449,[(7,aG)]⟩ 0 ⟨[(7,(.o 1448))],[(1448,.l aG)],[],[],1449,[]⟩ (.s .z (.s .z (.s (.j ⟨[(7,(.o 1513))],[(1513,.l aG)],[1,2,11,12,13],[],1514,[]⟩ (.b (.s .z (.s (.j ⟨[(25,(.v .bool))],[],[1,2,7,9,11,12,13],[1448,1705],1897,[]⟩ .z) .z)))) .z)))))) .z)))
theorem Lb (n:Nat):aF 111 (K9 n) :=cq ax Tryz.func111 La n (by kernel_rfl) rfl fun _=>by kernel_rfl
def Fe:Sig xx:=⟨[.d aG],[.d .bool],fun a=>fA a.1,none⟩
def Ff:Hn SI:=(.s .z (.s .z (.s (.s (.j ⟨[(26,(.v .bool))],[],[1],[1000],1384,[]⟩ .z) .z) (.s (.s (.j ⟨[(34,(.v .bool))],[],[1],[1000],1384,[]⟩ .z) .z) .z))))
theorem kX:aF 112 Fe :=cq (aj wR ax) Tryz.func112 Ff 0 (by kernel_rfl) rfl fun _=>by kernel_rfl
def Za:Sig xx:=⟨[.d ak],[.d ak,.d .bool],fun a=>wO a.1,none⟩
theorem Oe:aF 208 Za :=cq (aj wR ax) Tryz.func208 .z 0 (by kernel_rfl) rfl fun _=>by kernel_rfl
def aeC:Sig xx:=⟨[.d ak],[.d ah],fun a=>DW a.1,none⟩
theorem Sw:aF 195 aeC :=cq (aj Oe ax) Tryz.func195 .z 0 (by kernel_rfl) rfl fun _=>by kernel_rfl
def acX (n:Nat):Sig xx:=⟨[.d (.sl ak)],[.d ah],fun a=>Po n a.1,none⟩
def acY:Hn SI:=(.s .z (.s .z (.s .z (.s (.s .z (.b (.l ⟨[(3,(.v ah)),(11,(.v ah))],[],[9,10],[],1512,[]⟩ 0 ⟨[(3,(.v ah))],[],[],[],1512,[]⟩ .z))) .z))))
theorem acZ (n:Nat):aF 158 (acX n) :=cq (aj (JA n) (aj Sw ax)) Tryz.func158 acY n (by kernel_rfl) rfl fun _=>by kernel_rfl
def sM (n:Nat):Sig xx:=⟨[.mut ak,.d ah,.d ah,.clo [ak,ak] ah],[.mu ak],fun a=>uX n a.1 a.2.1 a.2.2.1 a.2.2.2.1,none⟩
def sN:Hn SI:=(.s .z (.b (.l ⟨[(8,(.v ah))],[(0,.l ak)],[0,1,2,3],[],1192,[]⟩ 0 ⟨[],[(0,.l ak)],[],[],1192,[]⟩ (.s .z (.s (.b (.s .z (.b (.l ⟨[(9,(.v ah))],[(0,.l ak)],[0,1,2,3,8],[],1512,[]⟩ 2 ⟨[],[(0,.l ak)],[0,1,2,3,8],[],1512,[]⟩ (.s (.s (.j ⟨[(34,(.v .bool))],[],[0,1,2,3,8,9],[0],1512,[]⟩ .z) .z) .z))))) .z)))))
theorem sO (n:Nat):aF 209 (sM n) :=cq ax Tryz.func209 sN n (by kernel_rfl) rfl fun _=>by kernel_rfl
def za (n:Nat):Sig xx:=⟨[.mut ak,.d ah,.d ah,.d ah,.clo [ak,ak] ah],[.mu ak],fun a=>Cb n a.1 a.2.1 a.2.2.1 a.2.2.2.1 a.2.2.2.2.1,none⟩
def zb:Hn SI:=(.s .z (.b (.lx ⟨[(10,(.v ah))],[(0,.l ak)],[0,2,3,4],[],1128,[]⟩ 0 ⟨[],[(0,.l ak)],[],[],1128,[]⟩ (.b (.s .z (.s .z (.s (.j ⟨[(11,(.v ah))],[],[0,2,3,4,10],[0],1576,[]⟩ (.s (.j ⟨[(40,(.v .bool))],[],[0,2,3,4,10,11],[0],1576,[]⟩ .z) .z)) .z)))))))
theorem ze (n:Nat):aF 222 (za n) :=cq ax Tryz.func222 zb n (by kernel_rfl) rfl fun _=>by kernel_rfl
def zf (n:Nat):Sig xx:=⟨[.mut ak,.d ah,.d ah,.clo [ak,ak] ah],[.mu ak],fun a=>Cc n a.1 a.2.1 a.2.2.1 a.2.2.2.1,none⟩
def zh:Hn SI:=(.s .z (.s .z (.s .z (.s (.s .z (.b (.l ⟨[(11,(.v ah))],[(0,.l ak)],[0,3,8,9,10],[],1704,[]⟩ 0 ⟨[],[(0,.l ak)],[0,3,8,9,10],[],1704,[]⟩ .z))) (.s .z (.b (.l ⟨[(12,(.v ah))],[(0,.l ak)],[0,3,8,9],[],1896,[]⟩ 2 ⟨[],[(0,.l ak)],[],[],1896,[]⟩ .z)))))))
theorem zi (n:Nat):aF 210 (zf n) :=cq (aj (ze n) ax) Tryz.func210 zh n (by kernel_rfl) rfl fun _=>by kernel_rfl
def sP (n:Nat):Sig xx:=⟨[.mut ak,.d ah,.d ah,.clo [ak,ak] ah],[.mu ak],fun a=>uY n a.1 a.2.1 a.2.2.1 a.2.2.2.1,none⟩
def sQ:Hn SI:=(.s .z (.s .z (.s (.s .z (.s .z (.s .z (.b (.l ⟨[(11,(.v ah))],[(0,.l ak),(1512,.c 1 [[(.v (.int .u64))]])],[0,1,8,9,10],[],2280,[]⟩ 0 ⟨[],[(0,.l ak)],[],[],2280,[]⟩ (.s .z (.s (.b (.s .z (.s (.j ⟨[(12,(.v ah))],[],[0,1,8,9,10,11],[0,1512],3176,[]⟩ .z) .z))) .z))))))) .z)))
theorem sS (n:Nat):aF 211 (sP n) :=cq (aj jM (aj kG ax)) Tryz.func211 sQ n (by kernel_rfl) rfl fun _=>by kernel_rfl
def Cz:Sig xx:=⟨[.d (.sl ak),.d ah,.d ah,.mref ah,.clo [ak,ak] ah],[.d ah,.d ah,.mr ah],fun a=>ER a.1 a.2.1 a.2.2.1 a.2.2.2.1 a.2.2.2.2.1,none⟩
theorem CB:aF 226 Cz :=cq ax Tryz.func226 .z 0 (by kernel_rfl) rfl fun _=>by kernel_rfl
def CF:Sig xx:=⟨[.d (.sl ak),.d ah,.d ah,.d ah,.mref ah,.clo [ak,ak] ah],[.d ah,.mr ah],fun a=>ES a.1 a.2.1 a.2.2.1 a.2.2.2.1 a.2.2.2.2.1 a.2.2.2.2.2.1,none⟩
theorem pE:aF 224 CF :=cq (aj CB ax) Tryz.func224 .z 0 (by kernel_rfl) rfl fun _=>by kernel_rfl
def qX:Sig xx:=⟨[.d (.sl ak),.d ah,.mref ah,.clo [ak,ak] ah],[.d ah,.mr ah],fun a=>ul a.1 a.2.1 a.2.2.1 a.2.2.2.1,none⟩
theorem qY:aF 223 qX :=cq (aj pE ax) Tryz.func223 .z 0 (by kernel_rfl) rfl fun _=>by kernel_rfl
def vC:Sig xx:=⟨[.d (.sl ak),.d ah,.d ah,.clo [ak,ak] ah],[.d ah,.d ah],fun a=>xN a.1 a.2.1 a.2.2.1 a.2.2.2.1,none⟩
def vD:Hn SI:=(.s .z (.s .z (.s .z (.s .z (.s .z (.s .z (.s (.j ⟨[(13,(.v ah))],[(1384,.c 1 [[(.v ah)]])],[11],[],2600,[]⟩ (.s .z (.s (.s (.j ⟨[(12,(.v ah)),(13,(.v ah)),(14,(.v ah))],[(1384,.c 1 [[(.v ah)]])],[0,3,11],[],2728,[]⟩ .z) .z) .z))) .z)))))))
theorem vE:aF 212 vC :=cq (aj qY (aj pE ax)) Tryz.func212 vD 0 (by kernel_rfl) rfl fun _=>by kernel_rfl
def uM (n:Nat):Sig xx:=⟨[.mut ak,.d ah,.d ah,.clo [ak,ak] ah],[.mu ak],fun a=>vW n a.1 a.2.1 a.2.2.1 a.2.2.2.1,none⟩
def uN:Hn SI:=(.s .z (.s .z (.b (.l ⟨[(8,(.v ah)),(9,(.v ah))],[(0,.l ak)],[0],[],1320,[]⟩ 0 ⟨[],[(0,.l ak)],[],[],1320,[]⟩ .z))))
theorem uO (n:Nat):aF 213 (uM n) :=cq ax Tryz.func213 uN n (by kernel_rfl) rfl fun _=>by kernel_rfl
def mR (n:Nat):Sig xx:=⟨[.mut ak,.d ah,.d ah,.clo [ak,ak] ah],[.d .bool,.mu ak],fun a=>nX n a.1 a.2.1 a.2.2.1 a.2.2.2.1,none⟩
def mU:Hn SI:=(.s .z (.s .z (.s (.s .z (.b (.lx ⟨[(9,(.v ah)),(10,(.v ah))],[(0,.l ak)],[0,1,2,3],[],1320,[]⟩ 0 ⟨[],[(0,.l ak)],[],[],1320,[]⟩ (.s .z (.s (.jx ⟨[(9,(.v ah))],[(0,.l ak)],[0,1,2,3,10],[],1448,[]⟩ (.b (.s (.b (.l ⟨[(9,(.v ah))],[],[0,1,2,3,10],[0],1448,[]⟩ 2 ⟨[(9,(.v ah))],[],[0,1,2,3,10],[0],1448,[]⟩ (.s (.s (.j ⟨[(36,(.v .bool))],[],[0,1,2,3,9,10],[0],1448,[]⟩ .z) .z) .z))) (.s .z (.s .z (.s .z (.s (.j ⟨[],[(0,.l ak)],[0,1,2,3,9,10],[],3048,[]⟩ (.s .z (.s (.s .z (.b (.l ⟨[(11,(.v ah))],[(0,.l ak)],[0,1,2,3,9,10],[],3496,[]⟩ 4 ⟨[],[(0,.l ak)],[0,1,2,3,9,10],[],3496,[]⟩ .z))) .z))) (.s .z (.s (.s .z (.b (.l ⟨[(12,(.v ah))],[(0,.l ak)],[0,1,2,3,9,10],[],3496,[]⟩ 6 ⟨[],[(0,.l ak)],[0,1,2,3,9,10],[],3496,[]⟩ .z))) .z))))))))) .z))))) .z)))
theorem mV (n:Nat):aF 214 (mR n) :=cq ax Tryz.func214 mU n (by kernel_rfl) rfl fun _=>by kernel_rfl
def qZ (n:Nat):Sig xx:=⟨[.mut ak,.d ah,.d ah,.d ah,.clo [ak,ak] ah],[.d ah,.mu ak],fun a=>um n a.1 a.2.1 a.2.2.1 a.2.2.2.1 a.2.2.2.2.1,none⟩
def q8:Hn SI:=(.s .z (.s .z (.s .z (.s (.b (.l ⟨[(11,(.v ah)),(12,(.v ah))],[(0,.l ak)],[0,1,4],[],2472,[]⟩ 0 ⟨[(11,(.v ah))],[(0,.l ak)],[],[],2472,[]⟩ (.b (.s (.b (.l ⟨[(11,(.v ah))],[],[0,1,4,12],[0],2472,[]⟩ 2 ⟨[(11,(.v ah))],[],[0,1,4,12],[0],2472,[]⟩ (.s (.s (.j ⟨[(47,(.v .bool))],[],[0,1,4,11,12],[0],2472,[]⟩ .z) .z) .z))) (.s (.b (.l ⟨[(12,(.v ah))],[],[0,1,4,11],[0],2472,[]⟩ 4 ⟨[(12,(.v ah))],[],[0,1,4,11],[0],2472,[]⟩ (.s (.s (.j ⟨[(65,(.v .bool))],[],[0,1,4,11,12],[0],2472,[]⟩ .z) .z) .z))) .z))))) .z))))
theorem q9 (n:Nat):aF 215 (qZ n) :=cq ax Tryz.func215 q8 n (by kernel_rfl) rfl fun _=>by kernel_rfl
def yw (n:Nat):Sig xx:=⟨[.mut ak,.d ah,.d ah,.d ah,.clo [ak,ak] ah],[.d ah,.d .bool,.mu ak],fun a=>Az n a.1 a.2.1 a.2.2.1 a.2.2.2.1 a.2.2.2.2.1,none⟩
def yx:Hn SI:=(.s .z (.s .z (.s .z (.s (.b (.l ⟨[(12,(.v ah))],[],[0,1,4,13],[0],2536,[]⟩ 0 ⟨[(12,(.v ah))],[],[0,1,4,13],[0],2536,[]⟩ (.s (.s (.j ⟨[(47,(.v .bool))],[],[0,1,4,12,13],[0],2536,[]⟩ .z) .z) .z))) (.s (.b (.l ⟨[(13,(.v ah))],[],[0,1,4,12],[0],2536,[]⟩ 2 ⟨[(13,(.v ah))],[],[0,1,4,12],[0],2536,[]⟩ (.s (.s (.j ⟨[(66,(.v .bool))],[],[0,1,4,12,13],[0],2536,[]⟩ .z) .z) .z))) (.s .z (.s .z (.s .z (.s .z (.s (.b (.l ⟨[(12,(.v ah)),(13,(.v ah))],[(0,.l ak)],[0,1,4],[],4136,[]⟩ 4 ⟨[(13,(.v ah))],[(0,.l ak)],[0,1],[],4136,[]⟩ (.b (.s (.b (.l ⟨[(12,(.v ah))],[],[0,1,4,13],[0],4136,[]⟩ 6 ⟨[(12,(.v ah))],[],[0,1,4,13],[0],4136,[]⟩ (.s (.s (.j ⟨[(120,(.v .bool))],[],[0,1,4,12,13],[0],4136,[]⟩ .z) .z) .z))) (.s (.b (.l ⟨[(13,(.v ah))],[],[0,1,4,12],[0],4136,[]⟩ 8 ⟨[(13,(.v ah))],[],[0,1,4,12],[0],4136,[]⟩ (.s (.s (.j ⟨[(139,(.v .bool))],[],[0,1,4,12,13],[0],4136,[]⟩ .z) .z) .z))) .z))))) .z))))))))))
theorem yA (n:Nat):aF 216 (yw n) :=cq ax Tryz.func216 yx n (by kernel_rfl) rfl fun _=>by kernel_rfl
def Ba:Hn SI:=(.s .z (.s .z (.b (.lx ⟨[(1,(.v ah)),(2,(.v ah)),(3,(.v ah)),(10,(.v .bool)),(11,(.v .bool))],[(0,.l ak)],[0,4],[],1128,[]⟩ 999999 ⟨[],[],[],[],1128,[]⟩ (.b (.s .z (.s .z (.s .z (.s (.j ⟨[(3,(.v ah))],[(0,.l ak)],[0,1,2,4,10,11,12],[],1640,[]⟩ .z) (.s .z (.s (.j ⟨[(13,(.v ah)),(14,(.v ah))],[(0,.l ak)],[0,1,2,3,4,10,11,12],[],2280,[]⟩ .z) (.s (.jx ⟨[],[(0,.l ak)],[0,1,2,3,4,10,11,12,13],[],2280,[]⟩ (.s (.j ⟨[(75,(.v .bool))],[],[0,1,2,3,4,10,11,12,13],[0],2280,[]⟩ .z) .z)) (.s (.s (.j ⟨[(97,(.v .bool))],[],[0,1,2,3,4,10,11,12,13],[0],2280,[]⟩ .z) .z) .z)))))))))))))
theorem zk (n:Nat) (rc:((List au))->(Int)->(Int)->(Int)->((au×au×Unit)->Option Int)->Option (List au)) (hr:aF 196 (iV rc)):aF 196 (iV (fZ n rc)) :=cq (aj (sO n) (aj (zi n) (aj (sS n) (aj vE (aj (uO n) (aj (mV n) (aj (q9 n) (aj (yA n) (aj hr ax))))))))) Tryz.func196 Ba n (by kernel_rfl) rfl fun _=>by kernel_rfl
theorem ng (n:Nat):∀ m,aF 196 (iV (bZ n m))
 | 0=>cok (jT Tryz.func196 (by kernel_rfl:Tryz.f196.body=some (Tryz.f196.body.getD .skip)) (by kernel_rfl)) (fun _ _ h=>(by cases h)) rfl
 |m+1=>zk n _ (ng n m)
def Bb (n:Nat):Sig xx:=⟨[.mut ak,.d ah,.d ah,.d ah,.clo [ak,ak] ah],[.mu ak],fun a=>kD n a.1 a.2.1 a.2.2.1 a.2.2.2.1 a.2.2.2.2.1,none⟩
theorem Bc (n:Nat):aF 196 (Bb n):=ng n n
def JB (n:Nat):Sig xx:=⟨[.mut ak,.clo [ak,ak] ah],[.mu ak],fun a=>mq n a.1 a.2.1,none⟩
theorem JC (n:Nat):aF 159 (JB n) :=cq (aj xY (aj (Bc n) ax)) Tryz.func159 .z n (by kernel_rfl) rfl fun _=>by kernel_rfl
def CG:Sig xx:=⟨[.d ak,.d ak],[.d ah],fun a=>fI a.1 a.2.1,none⟩
theorem CJ:aF 160 CG :=cq (aj Ad ax) Tryz.func160 .z 0 (by kernel_rfl) rfl fun _=>by kernel_rfl
def Lc:Sig xx:=⟨[.d aG],[.d ah],fun a=>iY a.1,none⟩
def Ld:Hn SI:=(.s .z (.s (.s (.j ⟨[(9,(.v .bool))],[],[1],[1000],1128,[]⟩ .z) .z) .z))
theorem Ae:aF 165 Lc :=cq (aj kX ax) Tryz.func165 Ld 0 (by kernel_rfl) rfl fun _=>by kernel_rfl
def OT:Sig xx:=⟨[.d aG],[.d ah],fun a=>kS a.1,none⟩
theorem EO:aF 163 OT :=cq (aj kX (aj Sw (aj Ae ax))) Tryz.func163 .z 0 (by kernel_rfl) rfl fun _=>by kernel_rfl
def Bd:Sig xx:=⟨[.d aG],[.d ah],fun a=>kE a.1,none⟩
theorem Be:aF 166 Bd :=cq ax Tryz.func166 .z 0 (by kernel_rfl) rfl fun _=>by kernel_rfl
def CK:Sig xx:=⟨[.d aG],[.d ah],fun a=>kW a.1,none⟩
theorem CO:aF 167 CK :=cq ax Tryz.func167 .z 0 (by kernel_rfl) rfl fun _=>by kernel_rfl
def OU:Sig xx:=⟨[.d ak,.d ah],[.d ak,.d .bool],fun a=>AA a.1 a.2.1,none⟩
theorem OV:aF 197 OU :=cq (aj wR ax) Tryz.func197 .z 0 (by kernel_rfl) rfl fun _=>by kernel_rfl
def TL:Sig xx:=⟨[.d ak,.d ak],[.d ak,.d .bool],fun a=>zZ a.1 a.2.1,none⟩
def TM:Hn SI:=(.s .z (.s (.s (.j ⟨[(13,(.v .bool))],[],[2,3,4],[1000,1064,1128],1256,[]⟩ .z) .z) .z))
theorem TN:aF 198 TL :=cq (aj wR (aj Oe ax)) Tryz.func198 TM 0 (by kernel_rfl) rfl fun _=>by kernel_rfl
def Na:Sig xx:=⟨[.d (.st SI.Entry),.ref (.st SI.A6_str),.ref ah],[.d .bool],fun a=>iK a.1 a.2.1 a.2.2.1,none⟩
theorem Nb:aF 218 Na :=cq ax Tryz.func218 .z 0 (by kernel_rfl) rfl fun _=>by kernel_rfl
def GU (n:Nat):Sig xx:=⟨[.d (.sl (.st SI.Entry)),.clo [(.st SI.Entry)] .bool],[.d ah],fun a=>oP n a.1 a.2.1,none⟩
def GV:Hn SI:=(.s .z (.s (.s .z (.b (.lx ⟨[(8,(.v ah))],[],[0,1,7],[],1256,[]⟩ 0 ⟨[],[],[],[],1256,[]⟩ .z))) .z))
theorem GX (n:Nat):aF 217 (GU n) :=cq ax Tryz.func217 GV n (by kernel_rfl) rfl fun _=>by kernel_rfl
def TP (n:Nat):Sig xx:=⟨[.d (.st SI.Plan),.d ah],[.d ah],fun a=>z8 n a.1 a.2.1,none⟩
def TQ:Hn SI:=(.s .z (.s .z (.s (.s .z (.b (.lx ⟨[(14,(.v ah))],[],[3,5,12,13],[1064,1256],1640,[]⟩ 0 ⟨[],[],[],[],1640,[]⟩ (.s .z (.s .z (.s (.b (.s .z (.s .z (.s .z (.s (.j ⟨[(8,(.v ah))],[],[],[],2344,[]⟩ .z) .z))))) .z)))))) .z)))
theorem TS (n:Nat):aF 199 (TP n) :=cq (aj (GX n) (aj Nb ax)) Tryz.func199 TQ n (by kernel_rfl) rfl fun _=>by kernel_rfl
def Le (n:Nat):Sig xx:=⟨[.d (.st SI.Plan),.d aG],[.d ah],fun a=>kJ n a.1 a.2.1,none⟩
def Lf:Hn SI:=(.s .z (.s .z (.s (.s (.j ⟨[(20,(.v .bool))],[],[5,6],[],1704,[]⟩ .z) .z) .z)))
theorem Lg (n:Nat):aF 170 (Le n) :=cq (aj (TS n) (aj EO ax)) Tryz.func170 Lf n (by kernel_rfl) rfl fun _=>by kernel_rfl
def Fg (n:Nat):GSig xx:=⟨[(.p 0)],[(0,.c 10 [[(.v (.sl aW)),(.v (.sl aO)),(.v (.sl aQ)),(.v (.sl aN)),(.v (.sl aX)),(.v (.sl aR)),(.v (.sl aM)),(.v ah),(.v (.sl ak)),(.o 1)]]),(1,.l aG)],[(.v ah)],[(0,.c 10 [[(.v (.sl aW)),(.v (.sl aO)),(.v (.sl aQ)),(.v (.sl aN)),(.v (.sl aX)),(.v (.sl aR)),(.v (.sl aM)),(.v ah),(.v (.sl ak)),(.o 1)]]),(1,.l aG)],fun v=>jH n v.1 v.2.1 v.2.2.1 v.2.2.2.1 v.2.2.2.2.1 v.2.2.2.2.2.1 v.2.2.2.2.2.2.1 v.2.2.2.2.2.2.2.1 v.2.2.2.2.2.2.2.2.1 v.2.2.2.2.2.2.2.2.2⟩
def Fh (n:Nat):Sig xx:=⟨[],[.d .bool],fun _=>none,some (Fg n)⟩
theorem Fj (n:Nat):aF 113 (Fh n) :=cqG (aj (acZ n) ax) Tryz.func113 .z n (by kernel_rfl) fun _=>by kernel_rfl
def CP (n:Nat):GSig xx:=⟨[(.p 0)],[(0,.c 10 [[(.v (.sl aW)),(.v (.sl aO)),(.v (.sl aQ)),(.v (.sl aN)),(.v (.sl aX)),(.v (.sl aR)),(.v (.sl aM)),(.v ah),(.v (.sl ak)),(.o 1)]]),(1,.l aG)],[(.v ah)],[(0,.c 10 [[(.v (.sl aW)),(.v (.sl aO)),(.v (.sl aQ)),(.v (.sl aN)),(.v (.sl aX)),(.v (.sl aR)),(.v (.sl aM)),(.v ah),(.v (.sl ak)),(.o 1)]]),(1,.l aG)],fun v=>fJ n v.1 v.2.1 v.2.2.1 v.2.2.2.1 v.2.2.2.2.1 v.2.2.2.2.2.1 v.2.2.2.2.2.2.1 v.2.2.2.2.2.2.2.1 v.2.2.2.2.2.2.2.2.1 v.2.2.2.2.2.2.2.2.2⟩
end
end Go.Proofs
