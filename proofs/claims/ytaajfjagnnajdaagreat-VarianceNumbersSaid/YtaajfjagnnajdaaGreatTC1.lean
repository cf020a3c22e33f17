/-
  Printed by wip/gen: that functions of the program compute this.
-/
import Derived.Test.YtaajfjagnnajdaaGreatS3
namespace Go.Proofs
open Go.Gb Go.RowKit
noncomputable section
def abd:Sig xx:=⟨[],[.d (.st SI.Order)],fun _=>KW,none⟩
theorem abe:aD 28 abd :=cq ax Tryz.func28 .z 0 (by kernel_rfl) rfl fun _=>by kernel_rfl
def SG (n:Nat):Sig xx:=⟨[.d (.st SI.Order)],[.d .bool],fun a=>qd n a.1,none⟩
def SH:Hn SI:=(.s .z (.s (.s (.j ⟨[(18,(.v .bool))],[],[1],[1000],1128,[]⟩ .z) .z) (.s (.s .z (.b (.lx ⟨[(22,(.v ah))],[],[1,20,21],[1000],1384,[]⟩ 0 ⟨[],[],[],[],1384,[]⟩ (.s .z (.s .z (.s (.b (.s .z (.s (.j ⟨[(41,(.v .bool))],[],[1,20,21,22],[1000],1704,[]⟩ .z) .z))) .z)))))) .z)))
theorem GY (n:Nat):aD 103 (SG n) :=cq ax Tryz.func103 SH n (by kernel_rfl) rfl fun _=>by kernel_rfl
def SK (n:Nat):Sig xx:=⟨[.d (.st SI.Order)],[.d (.st SI.A144_bool)],fun a=>qf n a.1,none⟩
def SL:Hn SI:=(.s .z (.s .z (.s (.s .z (.b (.l ⟨[(9,(.v ah))],[(1128,.l .bool)],[2,3,7,8],[1064],1448,[]⟩ 0 ⟨[],[(1128,.l .bool)],[2,3],[1064],1448,[]⟩ .z))) .z)))
theorem GZ (n:Nat):aD 105 (SK n) :=cq ax Tryz.func105 SL n (by kernel_rfl) rfl fun _=>by kernel_rfl
def SQ (n:Nat):Sig xx:=⟨[.d (.st SI.A144_bool)],[.d (.st SI.A144_bool)],fun a=>qg n a.1,none⟩
def SS:Hn SI:=(.s .z (.s (.s .z (.b (.l ⟨[(3,(.p 1320))],[(1000,.l .bool),(1320,.l .bool)],[1,2],[1064],1321,[]⟩ 0 ⟨[],[(1000,.l .bool)],[1,2],[1064],1320,[]⟩ (.s .z (.s (.b (.s .z (.s .z (.b (.l ⟨[(12,(.v ah))],[(1000,.l .bool)],[1,2,3],[1064,1320],1705,[]⟩ 2 ⟨[],[(1000,.l .bool)],[1,2,3],[1064,1320],1705,[]⟩ (.s .z (.s .z (.s (.b (.s .z (.s .z (.b (.l ⟨[(15,(.v ah))],[(1000,.l .bool)],[1,2,3,4,12],[1064,1320],1961,[]⟩ 4 ⟨[],[(1000,.l .bool)],[1,2,3,12],[1064,1320],1961,[]⟩ (.s .z (.s .z (.s (.b (.s .z (.s .z (.b (.l ⟨[(18,(.v ah))],[(1000,.l .bool)],[1,2,3,4,5,12,15],[1064,1320],2217,[]⟩ 6 ⟨[],[(1000,.l .bool)],[1,2,3,4,12,15],[1064,1320],2217,[]⟩ (.s .z (.s .z (.s (.j ⟨[],[(1000,.l .bool)],[1,2,3,4,5,12,15,18],[1064,1320],2281,[]⟩ .z) .z)))))))) .z)))))))) .z)))))))) .z))))) .z))
theorem SV (n:Nat):aD 104 (SQ n) :=cq ax Tryz.func104 SS n (by kernel_rfl) rfl fun _=>by kernel_rfl
def OW (n:Nat):Sig xx:=⟨[.d (.st SI.Order)],[.d (.st SI.A144_bool),.d .bool],fun a=>og n a.1,none⟩
def OX:Hn SI:=(.s .z (.s .z (.s .z (.s (.s .z (.b (.lx ⟨[(14,(.v ah))],[],[1,2,4],[1000,1064,1576],1768,[]⟩ 0 ⟨[],[],[1,2,4],[1000,1064,1576],1768,[]⟩ .z))) (.s (.s .z (.b (.l ⟨[(26,(.v ah))],[(1576,.l .bool)],[2,4,25],[1064],1960,[]⟩ 2 ⟨[],[(1576,.l .bool)],[2,4],[1064],1960,[]⟩ .z))) .z)))))
theorem EL (n:Nat):aD 61 (OW n) :=cq (aj (GY n) (aj (GZ n) (aj (SV n) ax))) Tryz.func61 OX n (by kernel_rfl) rfl fun _=>by kernel_rfl
def SY (n:Nat):Sig xx:=⟨[.d (.sl (.st SI.Order))],[.d .bool],fun a=>vX n a.1,none⟩
def S9:Hn SI:=(.s .z (.s (.s .z (.b (.lx ⟨[(9,(.v ah))],[],[0,7,8],[],1256,[]⟩ 0 ⟨[],[],[0],[],1256,[]⟩ .z))) .z))
theorem Ta (n:Nat):aD 24 (SY n) :=cq (aj (EL n) ax) Tryz.func24 S9 n (by kernel_rfl) rfl fun _=>by kernel_rfl
def OY:Sig xx:=⟨[.d (.sl ak)],[.fresh ak],fun a=>Ay a.1,none⟩
theorem OZ:aD 98 OY :=cq ax Tryz.func98 .z 0 (by kernel_rfl) rfl fun _=>by kernel_rfl
def Td:Sig xx:=⟨[.d (.sl ah)],[.fresh ah],fun a=>kE a.1,none⟩
theorem qH:aD 49 Td :=cq ax Tryz.func49 .z 0 (by kernel_rfl) rfl fun _=>by kernel_rfl
def abf:Sig xx:=⟨[.d (.st SI.Lot)],[.d (.st SI.Lot)],fun a=>KX a.1,none⟩
theorem abg:aD 57 abf :=cq (aj OZ (aj qH ax)) Tryz.func57 .z 0 (by kernel_rfl) rfl fun _=>by kernel_rfl
def adk (n:Nat):Sig xx:=⟨[.d (.sl (.st SI.Lot)),.d ah],[.d (.st SI.Lot),.d .bool],fun a=>DT n a.1 a.2.1,none⟩
def adl:Hn SI:=(.s .z (.s (.s .z (.b (.lx ⟨[(10,(.v ah))],[],[1,4,8,9],[1000],1320,[]⟩ 0 ⟨[],[],[4],[1000],1320,[]⟩ .z))) .z))
theorem Nl (n:Nat):aD 21 (adk n) :=cq (aj abg ax) Tryz.func21 adl n (by kernel_rfl) rfl fun _=>by kernel_rfl
def Xu:Sig xx:=⟨[.d (.int .u64)],[.d ah],fun a=>bits_Len64 a.1,none⟩
def Xv:Hn SI:=(.s .z (.s (.j ⟨[(0,(.v (.int .u64))),(2,(.v ah))],[],[],[],1064,[]⟩ .z) (.s (.j ⟨[(0,(.v (.int .u64))),(2,(.v ah))],[],[],[],1064,[]⟩ .z) (.s (.j ⟨[(0,(.v (.int .u64))),(2,(.v ah))],[],[],[],1064,[]⟩ .z) .z))))
theorem Xw:aD 148 Xu :=cq ax Tryz.func148 Xv 0 (by kernel_rfl) rfl fun _=>by kernel_rfl
def abh:Sig xx:=⟨[.d (.int .u64)],[.d ah],fun a=>bits_Len a.1,none⟩
theorem yc:aD 102 abh :=cq (aj Xw ax) Tryz.func102 .z 0 (by kernel_rfl) rfl fun _=>by kernel_rfl
def JH:Sig xx:=⟨[.d .str],[.d .bool],fun a=>cmp_isNaN_string a.1,none⟩
theorem JI:aD 194 JH :=cq ax Tryz.func194 .z 0 (by kernel_rfl) rfl fun _=>by kernel_rfl
def Lj:Sig xx:=⟨[.d .str,.d .str],[.d .bool],fun a=>cmp_Less_string a.1 a.2.1,none⟩
theorem fA:aD 155 Lj :=cq (aj JI ax) Tryz.func155 .z 0 (by kernel_rfl) rfl fun _=>by kernel_rfl
def qI (n:Nat):Sig xx:=⟨[.mut .str,.d ah,.d ah],[.mu .str],fun a=>rY n a.1 a.2.1 a.2.2.1,none⟩
def qJ:Hn SI:=(.s .z (.b (.l ⟨[(6,(.v ah))],[(0,.l .str)],[0,1,2],[],1192,[]⟩ 0 ⟨[],[(0,.l .str)],[],[],1192,[]⟩ (.s .z (.s (.b (.s .z (.b (.l ⟨[(7,(.v ah))],[(0,.l .str)],[0,1,2,6],[],1512,[]⟩ 2 ⟨[],[(0,.l .str)],[0,1,2,6],[],1512,[]⟩ (.s (.s (.j ⟨[(30,(.v .bool))],[],[0,1,2,6,7],[0],1512,[]⟩ .z) .z) .z))))) .z)))))
theorem qK (n:Nat):aD 149 (qI n) :=cq (aj fA ax) Tryz.func149 qJ n (by kernel_rfl) rfl fun _=>by kernel_rfl
def wB (n:Nat):Sig xx:=⟨[.mut .str,.d ah,.d ah,.d ah],[.mu .str],fun a=>yP n a.1 a.2.1 a.2.2.1 a.2.2.2.1,none⟩
def wC:Hn SI:=(.s .z (.b (.lx ⟨[(8,(.v ah))],[(0,.l .str)],[0,2,3],[],1128,[]⟩ 0 ⟨[],[(0,.l .str)],[],[],1128,[]⟩ (.b (.s .z (.s .z (.s (.j ⟨[(9,(.v ah))],[],[0,2,3,8],[0],1576,[]⟩ (.s (.j ⟨[(36,(.v .bool))],[],[0,2,3,8,9],[0],1576,[]⟩ .z) .z)) .z)))))))
theorem wD (n:Nat):aD 191 (wB n) :=cq (aj fA ax) Tryz.func191 wC n (by kernel_rfl) rfl fun _=>by kernel_rfl
def wE (n:Nat):Sig xx:=⟨[.mut .str,.d ah,.d ah],[.mu .str],fun a=>yQ n a.1 a.2.1 a.2.2.1,none⟩
def wF:Hn SI:=(.s .z (.s .z (.s .z (.s (.s .z (.b (.l ⟨[(9,(.v ah))],[(0,.l .str)],[0,6,7,8],[],1704,[]⟩ 0 ⟨[],[(0,.l .str)],[0,6,7,8],[],1704,[]⟩ .z))) (.s .z (.b (.l ⟨[(10,(.v ah))],[(0,.l .str)],[0,6,7],[],1896,[]⟩ 2 ⟨[],[(0,.l .str)],[],[],1896,[]⟩ .z)))))))
theorem wG (n:Nat):aD 150 (wE n) :=cq (aj (wD n) ax) Tryz.func150 wF n (by kernel_rfl) rfl fun _=>by kernel_rfl
def Iq:Sig xx:=⟨[.d ah],[.d (.int .u64)],fun a=>aJ a.1,none⟩
theorem jR:aD 186 Iq :=cq (aj yc ax) Tryz.func186 .z 0 (by kernel_rfl) rfl fun _=>by kernel_rfl
def JJ:Sig xx:=⟨[.mref (.int .u64)],[.d (.int .u64),.mr (.int .u64)],fun a=>aK a.1,none⟩
theorem kL:aD 187 JJ :=cq ax Tryz.func187 .z 0 (by kernel_rfl) rfl fun _=>by kernel_rfl
def qL (n:Nat):Sig xx:=⟨[.mut .str,.d ah,.d ah],[.mu .str],fun a=>rZ n a.1 a.2.1 a.2.2.1,none⟩
def qM:Hn SI:=(.s .z (.s .z (.s (.s .z (.s .z (.s .z (.b (.l ⟨[(9,(.v ah))],[(0,.l .str),(1512,.c 1 [[(.v (.int .u64))]])],[0,1,6,7,8],[],2280,[]⟩ 0 ⟨[],[(0,.l .str)],[],[],2280,[]⟩ (.s .z (.s (.b (.s .z (.s (.j ⟨[(10,(.v ah))],[],[0,1,6,7,8,9],[0,1512],3176,[]⟩ .z) .z))) .z))))))) .z)))
theorem qN (n:Nat):aD 151 (qL n) :=cq (aj jR (aj kL ax)) Tryz.func151 qM n (by kernel_rfl) rfl fun _=>by kernel_rfl
def yS:Sig xx:=⟨[.d (.sl .str),.d ah,.d ah,.mref ah],[.d ah,.d ah,.mr ah],fun a=>BV a.1 a.2.1 a.2.2.1 a.2.2.2.1,none⟩
theorem yT:aD 207 yS :=cq (aj fA ax) Tryz.func207 .z 0 (by kernel_rfl) rfl fun _=>by kernel_rfl
def yU:Sig xx:=⟨[.d (.sl .str),.d ah,.d ah,.d ah,.mref ah],[.d ah,.mr ah],fun a=>BX a.1 a.2.1 a.2.2.1 a.2.2.2.1 a.2.2.2.2.1,none⟩
theorem ny:aD 193 yU :=cq (aj yT ax) Tryz.func193 .z 0 (by kernel_rfl) rfl fun _=>by kernel_rfl
def pR:Sig xx:=⟨[.d (.sl .str),.d ah,.mref ah],[.d ah,.mr ah],fun a=>qQ a.1 a.2.1 a.2.2.1,none⟩
theorem pU:aD 192 pR :=cq (aj ny ax) Tryz.func192 .z 0 (by kernel_rfl) rfl fun _=>by kernel_rfl
def su:Sig xx:=⟨[.d (.sl .str),.d ah,.d ah],[.d ah,.d ah],fun a=>uZ a.1 a.2.1 a.2.2.1,none⟩
def sw:Hn SI:=(.s .z (.s .z (.s .z (.s .z (.s .z (.s .z (.s (.j ⟨[(11,(.v ah))],[(1384,.c 1 [[(.v ah)]])],[9],[],2600,[]⟩ (.s .z (.s (.s (.j ⟨[(10,(.v ah)),(11,(.v ah)),(12,(.v ah))],[(1384,.c 1 [[(.v ah)]])],[0,9],[],2728,[]⟩ .z) .z) .z))) .z)))))))
theorem sD:aD 152 su :=cq (aj pU (aj ny ax)) Tryz.func152 sw 0 (by kernel_rfl) rfl fun _=>by kernel_rfl
def qU (n:Nat):Sig xx:=⟨[.mut .str,.d ah,.d ah],[.mu .str],fun a=>um n a.1 a.2.1 a.2.2.1,none⟩
def qV:Hn SI:=(.s .z (.s .z (.b (.l ⟨[(6,(.v ah)),(7,(.v ah))],[(0,.l .str)],[0],[],1320,[]⟩ 0 ⟨[],[(0,.l .str)],[],[],1320,[]⟩ .z))))
theorem qW (n:Nat):aD 153 (qU n) :=cq ax Tryz.func153 qV n (by kernel_rfl) rfl fun _=>by kernel_rfl
def lJ (n:Nat):Sig xx:=⟨[.mut .str,.d ah,.d ah],[.d .bool,.mu .str],fun a=>mG n a.1 a.2.1 a.2.2.1,none⟩
def lK:Hn SI:=(.s .z (.s .z (.s (.s .z (.b (.lx ⟨[(7,(.v ah)),(8,(.v ah))],[(0,.l .str)],[0,1,2],[],1320,[]⟩ 0 ⟨[],[(0,.l .str)],[],[],1320,[]⟩ (.s .z (.s (.jx ⟨[(7,(.v ah))],[(0,.l .str)],[0,1,2,8],[],1448,[]⟩ (.b (.s (.b (.l ⟨[(7,(.v ah))],[],[0,1,2,8],[0],1448,[]⟩ 2 ⟨[(7,(.v ah))],[],[0,1,2,8],[0],1448,[]⟩ (.s (.s (.j ⟨[(32,(.v .bool))],[],[0,1,2,7,8],[0],1448,[]⟩ .z) .z) .z))) (.s .z (.s .z (.s .z (.s (.j ⟨[],[(0,.l .str)],[0,1,2,7,8],[],3048,[]⟩ (.s .z (.s (.s .z (.b (.l ⟨[(9,(.v ah))],[(0,.l .str)],[0,1,2,7,8],[],3496,[]⟩ 4 ⟨[],[(0,.l .str)],[0,1,2,7,8],[],3496,[]⟩ .z))) .z))) (.s .z (.s (.s .z (.b (.l ⟨[(10,(.v ah))],[(0,.l .str)],[0,1,2,7,8],[],3496,[]⟩ 6 ⟨[],[(0,.l .str)],[0,1,2,7,8],[],3496,[]⟩ .z))) .z))))))))) .z))))) .z)))
theorem lM (n:Nat):aD 154 (lJ n) :=cq (aj fA ax) Tryz.func154 lK n (by kernel_rfl) rfl fun _=>by kernel_rfl
def pV (n:Nat):Sig xx:=⟨[.mut .str,.d ah,.d ah,.d ah],[.d ah,.mu .str],fun a=>qR n a.1 a.2.1 a.2.2.1 a.2.2.2.1,none⟩
def pW:Hn SI:=(.s .z (.s .z (.s .z (.s (.b (.l ⟨[(9,(.v ah)),(10,(.v ah))],[(0,.l .str)],[0,1],[],2472,[]⟩ 0 ⟨[(9,(.v ah))],[(0,.l .str)],[],[],2472,[]⟩ (.b (.s (.b (.l ⟨[(9,(.v ah))],[],[0,1,10],[0],2472,[]⟩ 2 ⟨[(9,(.v ah))],[],[0,1,10],[0],2472,[]⟩ (.s (.s (.j ⟨[(43,(.v .bool))],[],[0,1,9,10],[0],2472,[]⟩ .z) .z) .z))) (.s (.b (.l ⟨[(10,(.v ah))],[],[0,1,9],[0],2472,[]⟩ 4 ⟨[(10,(.v ah))],[],[0,1,9],[0],2472,[]⟩ (.s (.s (.j ⟨[(59,(.v .bool))],[],[0,1,9,10],[0],2472,[]⟩ .z) .z) .z))) .z))))) .z))))
theorem pX (n:Nat):aD 156 (pV n) :=cq (aj fA ax) Tryz.func156 pW n (by kernel_rfl) rfl fun _=>by kernel_rfl
def vz (n:Nat):Sig xx:=⟨[.mut .str,.d ah,.d ah,.d ah],[.d ah,.d .bool,.mu .str],fun a=>xL n a.1 a.2.1 a.2.2.1 a.2.2.2.1,none⟩
def vB:Hn SI:=(.s .z (.s .z (.s .z (.s (.b (.l ⟨[(10,(.v ah))],[],[0,1,11],[0],2536,[]⟩ 0 ⟨[(10,(.v ah))],[],[0,1,11],[0],2536,[]⟩ (.s (.s (.j ⟨[(43,(.v .bool))],[],[0,1,10,11],[0],2536,[]⟩ .z) .z) .z))) (.s (.b (.l ⟨[(11,(.v ah))],[],[0,1,10],[0],2536,[]⟩ 2 ⟨[(11,(.v ah))],[],[0,1,10],[0],2536,[]⟩ (.s (.s (.j ⟨[(60,(.v .bool))],[],[0,1,10,11],[0],2536,[]⟩ .z) .z) .z))) (.s .z (.s .z (.s .z (.s .z (.s (.b (.l ⟨[(10,(.v ah)),(11,(.v ah))],[(0,.l .str)],[0,1],[],4136,[]⟩ 4 ⟨[(11,(.v ah))],[(0,.l .str)],[0,1],[],4136,[]⟩ (.b (.s (.b (.l ⟨[(10,(.v ah))],[],[0,1,11],[0],4136,[]⟩ 6 ⟨[(10,(.v ah))],[],[0,1,11],[0],4136,[]⟩ (.s (.s (.j ⟨[(112,(.v .bool))],[],[0,1,10,11],[0],4136,[]⟩ .z) .z) .z))) (.s (.b (.l ⟨[(11,(.v ah))],[],[0,1,10],[0],4136,[]⟩ 8 ⟨[(11,(.v ah))],[],[0,1,10],[0],4136,[]⟩ (.s (.s (.j ⟨[(129,(.v .bool))],[],[0,1,10,11],[0],4136,[]⟩ .z) .z) .z))) .z))))) .z))))))))))
theorem vC (n:Nat):aD 157 (vz n) :=cq (aj fA ax) Tryz.func157 vB n (by kernel_rfl) rfl fun _=>by kernel_rfl
def yg:Hn SI:=(.s .z (.s .z (.b (.lx ⟨[(1,(.v ah)),(2,(.v ah)),(3,(.v ah)),(8,(.v .bool)),(9,(.v .bool))],[(0,.l .str)],[0],[],1128,[]⟩ 999999 ⟨[],[],[],[],1128,[]⟩ (.b (.s .z (.s .z (.s .z (.s (.j ⟨[(3,(.v ah))],[(0,.l .str)],[0,1,2,8,9,10],[],1640,[]⟩ .z) (.s .z (.s (.j ⟨[(11,(.v ah)),(12,(.v ah))],[(0,.l .str)],[0,1,2,3,8,9,10],[],2216,[]⟩ .z) (.s (.jx ⟨[],[(0,.l .str)],[0,1,2,3,8,9,10,11],[],2216,[]⟩ (.s (.j ⟨[(68,(.v .bool))],[],[0,1,2,3,8,9,10,11],[0],2216,[]⟩ .z) .z)) (.s (.s (.j ⟨[(87,(.v .bool))],[],[0,1,2,3,8,9,10,11],[0],2216,[]⟩ .z) .z) .z)))))))))))))
theorem wH (n:Nat) (rc:((List ByteArray))->(Int)->(Int)->(Int)->Option (List ByteArray)) (hr:aD 110 (gY rc)):aD 110 (gY (iP n rc)) :=cq (aj (qK n) (aj (wG n) (aj (qN n) (aj sD (aj (qW n) (aj (lM n) (aj fA (aj (pX n) (aj (vC n) (aj hr ax)))))))))) Tryz.func110 yg n (by kernel_rfl) rfl fun _=>by kernel_rfl
theorem lI (n:Nat):∀ m,aD 110 (gY (dH n m))
 | 0=>cok (jW Tryz.func110 (by kernel_rfl:Tryz.f110.body=some (Tryz.f110.body.getD .skip)) (by kernel_rfl)) (fun _ _ h=>(by cases h)) rfl
 |m+1=>wH n _ (lI n m)
def yh (n:Nat):Sig xx:=⟨[.mut .str,.d ah,.d ah,.d ah],[.mu .str],fun a=>jG n a.1 a.2.1 a.2.2.1 a.2.2.2.1,none⟩
theorem yj (n:Nat):aD 110 (yh n):=lI n n
def Nn (n:Nat):Sig xx:=⟨[.mut .str],[.mu .str],fun a=>qh n a.1,none⟩
theorem Np (n:Nat):aD 71 (Nn n) :=cq (aj yc (aj (yj n) ax)) Tryz.func71 .z n (by kernel_rfl) rfl fun _=>by kernel_rfl
def Ir (n:Nat):Sig xx:=⟨[.mut .str],[.whole 0,.mu .str],fun a=>lC n a.1,none⟩
def Iu:Hn SI:=(.s .z (.s .z (.s (.s .z (.b (.lx ⟨[(3,(.v ah))],[],[0],[0],1320,[]⟩ 0 ⟨[],[],[0],[0],1320,[]⟩ (.s .z (.s (.b (.s .z (.s (.s .z (.s (.s .z (.b (.l ⟨[(3,(.v ah)),(5,(.v ah))],[(0,.l .str)],[0,4],[],2536,[]⟩ 2 ⟨[(3,(.v ah))],[(0,.l .str)],[0],[],2536,[]⟩ (.s .z (.s (.j ⟨[(3,(.v ah))],[(0,.l .str)],[0,4,5],[],2792,[]⟩ .z) .z))))) .z)) .z))) .z))))) .z)))
theorem Iw (n:Nat):aD 33 (Ir n) :=cq ax Tryz.func33 Iu n (by kernel_rfl) rfl fun _=>by kernel_rfl
def EW:GSig xx:=⟨[(.v (.sl .str))],[],[(.f 72 [] [(.p 1000)])],[(1000,.c 1 [[(.v (.sl .str))]])],fun v=>nI v⟩
def EX:Sig xx:=⟨[],[.d .bool],fun _=>none,some (EW)⟩
theorem EY:aD 35 EX :=cqG ax Tryz.func35 .z 0 (by kernel_rfl) fun _=>by kernel_rfl
def ag3:Sig xx:=⟨[],[.d .bool],fun _=>none,some (ahm .str 72)⟩
theorem ag4:aD 109 ag3:=ahl (jW Tryz.func109 (by kernel_rfl:Tryz.f109.body=some (Tryz.f109.body.getD .skip)) (by kernel_rfl)) (aej (fun _=>rfl) (fun _=>trivial) (jW Tryz.func109 (by kernel_rfl:Tryz.f109.body=some (Tryz.f109.body.getD .skip)) (by kernel_rfl)) sqsA_calls)
def Ed:GSig xx:=⟨[(.f 72 [] [(.p 0)])],[(0,.c 1 [[(.v (.sl .str))]])],[(.o 1000)],[(0,.c 1 [[(.v (.sl .str))]]),(1000,.l .str)],fun v=>lY v⟩
def Ee:Sig xx:=⟨[],[.d .bool],fun _=>none,some (Ed)⟩
theorem Ef:aD 70 Ee :=cqG (aj ag4 ax) Tryz.func70 .z 0 (by kernel_rfl) fun _=>by kernel_rfl
def EZ (n:Nat):GSig xx:=⟨[(.f 72 [] [(.p 0)])],[(0,.c 1 [[(.v (.sl .str))]])],[(.o 1000)],[(0,.c 1 [[(.v (.sl .str))]]),(1000,.l .str)],fun v=>nJ n v⟩
def E8 (n:Nat):Sig xx:=⟨[],[.d .bool],fun _=>none,some (EZ n)⟩
theorem E9 (n:Nat):aD 34 (E8 n) :=cqG (aj Ef (aj (Np n) ax)) Tryz.func34 .z n (by kernel_rfl) fun _=>by kernel_rfl
def Fa (n:Nat):Sig xx:=⟨[.ref (.sl .str)],[.d ah],fun a=>jL n a.1,none⟩
theorem Fb (n:Nat):aD 32 (Fa n) :=cq (aj EY (aj (E9 n) (aj (Iw n) ax))) Tryz.func32 .z n (by kernel_rfl) rfl fun _=>by kernel_rfl
def adm:Sig xx:=⟨[.d ak],[.d .bool],fun a=>qi a.1,none⟩
theorem wV:aD 136 adm :=cq ax Tryz.func136 .z 0 (by kernel_rfl) rfl fun _=>by kernel_rfl
def Te:Sig xx:=⟨[.nil,.d ah],[.fresh ak],fun a=>KY a.1 a.2.1,none⟩
theorem Tf:aD 219 Te :=cq ax Tryz.func219 .z 0 (by kernel_rfl) rfl fun _=>by kernel_rfl
def Nq (n:Nat):Sig xx:=⟨[.d (.sl (.sl ak))],[.fresh ak],fun a=>xM n a.1,none⟩
def Nr:Hn SI:=(.s .z (.s .z (.s (.s .z (.b (.l ⟨[(3,(.v ah)),(11,(.v ah))],[],[0,9,10],[],1320,[]⟩ 0 ⟨[(3,(.v ah))],[],[0],[],1320,[]⟩ .z))) (.s .z (.s (.s .z (.b (.l ⟨[(6,(.o 1704)),(27,(.v ah))],[(1704,.l ak)],[25,26],[],1705,[]⟩ 2 ⟨[(6,(.o 1704))],[(1704,.l ak)],[],[],1705,[]⟩ .z))) .z)))))
theorem Ns (n:Nat):aD 204 (Nq n) :=cq (aj Tf ax) Tryz.func204 Nr n (by kernel_rfl) rfl fun _=>by kernel_rfl
def O1:Sig xx:=⟨[.d ah],[.d .bool],fun a=>cmp_isNaN_int a.1,none⟩
theorem EM:aD 190 O1 :=cq ax Tryz.func190 .z 0 (by kernel_rfl) rfl fun _=>by kernel_rfl
def Tg:Sig xx:=⟨[.d ah,.d ah],[.d .bool],fun a=>cmp_Less_int a.1 a.2.1,none⟩
theorem iV:aD 144 Tg :=cq (aj EM ax) Tryz.func144 .z 0 (by kernel_rfl) rfl fun _=>by kernel_rfl
def uJ (n:Nat):Sig xx:=⟨[.mut ah,.d ah,.d ah],[.mu ah],fun a=>vY n a.1 a.2.1 a.2.2.1,none⟩
def uK:Hn SI:=(.s .z (.b (.l ⟨[(6,(.v ah))],[(0,.l ah)],[0,1,2],[],1192,[]⟩ 0 ⟨[],[(0,.l ah)],[],[],1192,[]⟩ (.s .z (.s (.b (.s .z (.b (.l ⟨[(7,(.v ah))],[(0,.l ah)],[0,1,2,6],[],1512,[]⟩ 2 ⟨[],[(0,.l ah)],[0,1,2,6],[],1512,[]⟩ (.s (.s (.j ⟨[(30,(.v .bool))],[],[0,1,2,6,7],[0],1512,[]⟩ .z) .z) .z))))) .z)))))
theorem uL (n:Nat):aD 138 (uJ n) :=cq (aj iV ax) Tryz.func138 uK n (by kernel_rfl) rfl fun _=>by kernel_rfl
def AP (n:Nat):Sig xx:=⟨[.mut ah,.d ah,.d ah,.d ah],[.mu ah],fun a=>DU n a.1 a.2.1 a.2.2.1 a.2.2.2.1,none⟩
def AQ:Hn SI:=(.s .z (.b (.lx ⟨[(8,(.v ah))],[(0,.l ah)],[0,2,3],[],1128,[]⟩ 0 ⟨[],[(0,.l ah)],[],[],1128,[]⟩ (.b (.s .z (.s .z (.s (.j ⟨[(9,(.v ah))],[],[0,2,3,8],[0],1576,[]⟩ (.s (.j ⟨[(36,(.v .bool))],[],[0,2,3,8,9],[0],1576,[]⟩ .z) .z)) .z)))))))
theorem AR (n:Nat):aD 185 (AP n) :=cq (aj iV ax) Tryz.func185 AQ n (by kernel_rfl) rfl fun _=>by kernel_rfl
def AU (n:Nat):Sig xx:=⟨[.mut ah,.d ah,.d ah],[.mu ah],fun a=>DW n a.1 a.2.1 a.2.2.1,none⟩
def AX:Hn SI:=(.s .z (.s .z (.s .z (.s (.s .z (.b (.l ⟨[(9,(.v ah))],[(0,.l ah)],[0,6,7,8],[],1704,[]⟩ 0 ⟨[],[(0,.l ah)],[0,6,7,8],[],1704,[]⟩ .z))) (.s .z (.b (.l ⟨[(10,(.v ah))],[(0,.l ah)],[0,6,7],[],1896,[]⟩ 2 ⟨[],[(0,.l ah)],[],[],1896,[]⟩ .z)))))))
theorem AY (n:Nat):aD 139 (AU n) :=cq (aj (AR n) ax) Tryz.func139 AX n (by kernel_rfl) rfl fun _=>by kernel_rfl
def uM (n:Nat):Sig xx:=⟨[.mut ah,.d ah,.d ah],[.mu ah],fun a=>vZ n a.1 a.2.1 a.2.2.1,none⟩
def uN:Hn SI:=(.s .z (.s .z (.s (.s .z (.s .z (.s .z (.b (.l ⟨[(9,(.v ah))],[(0,.l ah),(1512,.c 1 [[(.v (.int .u64))]])],[0,1,6,7,8],[],2280,[]⟩ 0 ⟨[],[(0,.l ah)],[],[],2280,[]⟩ (.s .z (.s (.b (.s .z (.s (.j ⟨[(10,(.v ah))],[],[0,1,6,7,8,9],[0,1512],3176,[]⟩ .z) .z))) .z))))))) .z)))
theorem uO (n:Nat):aD 140 (uM n) :=cq (aj jR (aj kL ax)) Tryz.func140 uN n (by kernel_rfl) rfl fun _=>by kernel_rfl
def Eg:Sig xx:=⟨[.d (.sl ah),.d ah,.d ah,.mref ah],[.d ah,.d ah,.mr ah],fun a=>GA a.1 a.2.1 a.2.2.1 a.2.2.2.1,none⟩
theorem Eh:aD 206 Eg :=cq (aj iV ax) Tryz.func206 .z 0 (by kernel_rfl) rfl fun _=>by kernel_rfl
def Ei:Sig xx:=⟨[.d (.sl ah),.d ah,.d ah,.d ah,.mref ah],[.d ah,.mr ah],fun a=>GD a.1 a.2.1 a.2.2.1 a.2.2.2.1 a.2.2.2.2.1,none⟩
theorem qO:aD 189 Ei :=cq (aj Eh ax) Tryz.func189 .z 0 (by kernel_rfl) rfl fun _=>by kernel_rfl
def sF:Sig xx:=⟨[.d (.sl ah),.d ah,.mref ah],[.d ah,.mr ah],fun a=>u6 a.1 a.2.1 a.2.2.1,none⟩
theorem sG:aD 188 sF :=cq (aj qO ax) Tryz.func188 .z 0 (by kernel_rfl) rfl fun _=>by kernel_rfl
def wI:Sig xx:=⟨[.d (.sl ah),.d ah,.d ah],[.d ah,.d ah],fun a=>yR a.1 a.2.1 a.2.2.1,none⟩
def wJ:Hn SI:=(.s .z (.s .z (.s .z (.s .z (.s .z (.s .z (.s (.j ⟨[(11,(.v ah))],[(1384,.c 1 [[(.v ah)]])],[9],[],2600,[]⟩ (.s .z (.s (.s (.j ⟨[(10,(.v ah)),(11,(.v ah)),(12,(.v ah))],[(1384,.c 1 [[(.v ah)]])],[0,9],[],2728,[]⟩ .z) .z) .z))) .z)))))))
theorem wK:aD 141 wI :=cq (aj sG (aj qO ax)) Tryz.func141 wJ 0 (by kernel_rfl) rfl fun _=>by kernel_rfl
def vD (n:Nat):Sig xx:=⟨[.mut ah,.d ah,.d ah],[.mu ah],fun a=>xN n a.1 a.2.1 a.2.2.1,none⟩
def vE:Hn SI:=(.s .z (.s .z (.b (.l ⟨[(6,(.v ah)),(7,(.v ah))],[(0,.l ah)],[0],[],1320,[]⟩ 0 ⟨[],[(0,.l ah)],[],[],1320,[]⟩ .z))))
theorem vF (n:Nat):aD 142 (vD n) :=cq ax Tryz.func142 vE n (by kernel_rfl) rfl fun _=>by kernel_rfl
def nP (n:Nat):Sig xx:=⟨[.mut ah,.d ah,.d ah],[.d .bool,.mu ah],fun a=>oZ n a.1 a.2.1 a.2.2.1,none⟩
def nQ:Hn SI:=(.s .z (.s .z (.s (.s .z (.b (.lx ⟨[(7,(.v ah)),(8,(.v ah))],[(0,.l ah)],[0,1,2],[],1320,[]⟩ 0 ⟨[],[(0,.l ah)],[],[],1320,[]⟩ (.s .z (.s (.jx ⟨[(7,(.v ah))],[(0,.l ah)],[0,1,2,8],[],1448,[]⟩ (.b (.s (.b (.l ⟨[(7,(.v ah))],[],[0,1,2,8],[0],1448,[]⟩ 2 ⟨[(7,(.v ah))],[],[0,1,2,8],[0],1448,[]⟩ (.s (.s (.j ⟨[(32,(.v .bool))],[],[0,1,2,7,8],[0],1448,[]⟩ .z) .z) .z))) (.s .z (.s .z (.s .z (.s (.j ⟨[],[(0,.l ah)],[0,1,2,7,8],[],3048,[]⟩ (.s .z (.s (.s .z (.b (.l ⟨[(9,(.v ah))],[(0,.l ah)],[0,1,2,7,8],[],3496,[]⟩ 4 ⟨[],[(0,.l ah)],[0,1,2,7,8],[],3496,[]⟩ .z))) .z))) (.s .z (.s (.s .z (.b (.l ⟨[(10,(.v ah))],[(0,.l ah)],[0,1,2,7,8],[],3496,[]⟩ 6 ⟨[],[(0,.l ah)],[0,1,2,7,8],[],3496,[]⟩ .z))) .z))))))))) .z))))) .z)))
theorem nR (n:Nat):aD 143 (nP n) :=cq (aj iV ax) Tryz.func143 nQ n (by kernel_rfl) rfl fun _=>by kernel_rfl
def sH (n:Nat):Sig xx:=⟨[.mut ah,.d ah,.d ah,.d ah],[.d ah,.mu ah],fun a=>u7 n a.1 a.2.1 a.2.2.1 a.2.2.2.1,none⟩
def sI:Hn SI:=(.s .z (.s .z (.s .z (.s (.b (.l ⟨[(9,(.v ah)),(10,(.v ah))],[(0,.l ah)],[0,1],[],2472,[]⟩ 0 ⟨[(9,(.v ah))],[(0,.l ah)],[],[],2472,[]⟩ (.b (.s (.b (.l ⟨[(9,(.v ah))],[],[0,1,10],[0],2472,[]⟩ 2 ⟨[(9,(.v ah))],[],[0,1,10],[0],2472,[]⟩ (.s (.s (.j ⟨[(43,(.v .bool))],[],[0,1,9,10],[0],2472,[]⟩ .z) .z) .z))) (.s (.b (.l ⟨[(10,(.v ah))],[],[0,1,9],[0],2472,[]⟩ 4 ⟨[(10,(.v ah))],[],[0,1,9],[0],2472,[]⟩ (.s (.s (.j ⟨[(59,(.v .bool))],[],[0,1,9,10],[0],2472,[]⟩ .z) .z) .z))) .z))))) .z))))
theorem sJ (n:Nat):aD 145 (sH n) :=cq (aj iV ax) Tryz.func145 sI n (by kernel_rfl) rfl fun _=>by kernel_rfl
def yV (n:Nat):Sig xx:=⟨[.mut ah,.d ah,.d ah,.d ah],[.d ah,.d .bool,.mu ah],fun a=>BZ n a.1 a.2.1 a.2.2.1 a.2.2.2.1,none⟩
def yX:Hn SI:=(.s .z (.s .z (.s .z (.s (.b (.l ⟨[(10,(.v ah))],[],[0,1,11],[0],2536,[]⟩ 0 ⟨[(10,(.v ah))],[],[0,1,11],[0],2536,[]⟩ (.s (.s (.j ⟨[(43,(.v .bool))],[],[0,1,10,11],[0],2536,[]⟩ .z) .z) .z))) (.s (.b (.l ⟨[(11,(.v ah))],[],[0,1,10],[0],2536,[]⟩ 2 ⟨[(11,(.v ah))],[],[0,1,10],[0],2536,[]⟩ (.s (.s (.j ⟨[(60,(.v .bool))],[],[0,1,10,11],[0],2536,[]⟩ .z) .z) .z))) (.s .z (.s .z (.s .z (.s .z (.s (.b (.l ⟨[(10,(.v ah)),(11,(.v ah))],[(0,.l ah)],[0,1],[],4136,[]⟩ 4 ⟨[(11,(.v ah))],[(0,.l ah)],[0,1],[],4136,[]⟩ (.b (.s (.b (.l ⟨[(10,(.v ah))],[],[0,1,11],[0],4136,[]⟩ 6 ⟨[(10,(.v ah))],[],[0,1,11],[0],4136,[]⟩ (.s (.s (.j ⟨[(112,(.v .bool))],[],[0,1,10,11],[0],4136,[]⟩ .z) .z) .z))) (.s (.b (.l ⟨[(11,(.v ah))],[],[0,1,10],[0],4136,[]⟩ 8 ⟨[(11,(.v ah))],[],[0,1,10],[0],4136,[]⟩ (.s (.s (.j ⟨[(129,(.v .bool))],[],[0,1,10,11],[0],4136,[]⟩ .z) .z) .z))) .z))))) .z))))))))))
theorem yY (n:Nat):aD 146 (yV n) :=cq (aj iV ax) Tryz.func146 yX n (by kernel_rfl) rfl fun _=>by kernel_rfl
def Cs:Hn SI:=(.s .z (.s .z (.b (.lx ⟨[(1,(.v ah)),(2,(.v ah)),(3,(.v ah)),(8,(.v .bool)),(9,(.v .bool))],[(0,.l ah)],[0],[],1128,[]⟩ 999999 ⟨[],[],[],[],1128,[]⟩ (.b (.s .z (.s .z (.s .z (.s (.j ⟨[(3,(.v ah))],[(0,.l ah)],[0,1,2,8,9,10],[],1640,[]⟩ .z) (.s .z (.s (.j ⟨[(11,(.v ah)),(12,(.v ah))],[(0,.l ah)],[0,1,2,3,8,9,10],[],2216,[]⟩ .z) (.s (.jx ⟨[],[(0,.l ah)],[0,1,2,3,8,9,10,11],[],2216,[]⟩ (.s (.j ⟨[(68,(.v .bool))],[],[0,1,2,3,8,9,10,11],[0],2216,[]⟩ .z) .z)) (.s (.s (.j ⟨[(87,(.v .bool))],[],[0,1,2,3,8,9,10,11],[0],2216,[]⟩ .z) .z) .z)))))))))))))
theorem AZ (n:Nat) (rc:((List Int))->(Int)->(Int)->(Int)->Option (List Int)) (hr:aD 101 (jH rc)):aD 101 (jH (jT n rc)) :=cq (aj (uL n) (aj (AY n) (aj (uO n) (aj wK (aj (vF n) (aj (nR n) (aj iV (aj (sJ n) (aj (yY n) (aj hr ax)))))))))) Tryz.func101 Cs n (by kernel_rfl) rfl fun _=>by kernel_rfl
theorem oz (n:Nat):∀ m,aD 101 (jH (dU n m))
 | 0=>cok (jW Tryz.func101 (by kernel_rfl:Tryz.f101.body=some (Tryz.f101.body.getD .skip)) (by kernel_rfl)) (fun _ _ h=>(by cases h)) rfl
 |m+1=>AZ n _ (oz n m)
def Ct (n:Nat):Sig xx:=⟨[.mut ah,.d ah,.d ah,.d ah],[.mu ah],fun a=>lg n a.1 a.2.1 a.2.2.1 a.2.2.2.1,none⟩
theorem Cu (n:Nat):aD 101 (Ct n):=oz n n
def Uk (n:Nat):Sig xx:=⟨[.mut ah],[.mu ah],fun a=>pF n a.1,none⟩
theorem A7 (n:Nat):aD 59 (Uk n) :=cq (aj yc (aj (Cu n) ax)) Tryz.func59 .z n (by kernel_rfl) rfl fun _=>by kernel_rfl
def Nt (n:Nat):Sig xx:=⟨[.mut ah],[.whole 0,.mu ah],fun a=>qj n a.1,none⟩
def Nu:Hn SI:=(.s .z (.s .z (.s (.s .z (.b (.lx ⟨[(3,(.v ah))],[],[0],[0],1320,[]⟩ 0 ⟨[],[],[0],[0],1320,[]⟩ (.s .z (.s (.b (.s .z (.s (.s .z (.s (.s .z (.b (.l ⟨[(3,(.v ah)),(5,(.v ah))],[(0,.l ah)],[0,4],[],2536,[]⟩ 2 ⟨[(3,(.v ah))],[(0,.l ah)],[0],[],2536,[]⟩ (.s .z (.s (.j ⟨[(3,(.v ah))],[(0,.l ah)],[0,4,5],[],2792,[]⟩ .z) .z))))) .z)) .z))) .z))))) .z)))
theorem Cv (n:Nat):aD 60 (Nt n) :=cq ax Tryz.func60 Nu n (by kernel_rfl) rfl fun _=>by kernel_rfl
def sK (n:Nat):Sig xx:=⟨[.mut (.st SI.span),.d ah,.d ah,.clo [(.st SI.span),(.st SI.span)] ah],[.mu (.st SI.span)],fun a=>ve n a.1 a.2.1 a.2.2.1 a.2.2.2.1,none⟩
def sM:Hn SI:=(.s .z (.b (.l ⟨[(8,(.v ah))],[(0,.l (.st SI.span))],[0,1,2,3],[],1192,[]⟩ 0 ⟨[],[(0,.l (.st SI.span))],[],[],1192,[]⟩ (.s .z (.s (.b (.s .z (.b (.l ⟨[(9,(.v ah))],[(0,.l (.st SI.span))],[0,1,2,3,8],[],1512,[]⟩ 2 ⟨[],[(0,.l (.st SI.span))],[0,1,2,3,8],[],1512,[]⟩ (.s (.s (.j ⟨[(34,(.v .bool))],[],[0,1,2,3,8,9],[0],1512,[]⟩ .z) .z) .z))))) .z)))))
theorem sN (n:Nat):aD 227 (sK n) :=cq ax Tryz.func227 sM n (by kernel_rfl) rfl fun _=>by kernel_rfl
def yZ (n:Nat):Sig xx:=⟨[.mut (.st SI.span),.d ah,.d ah,.d ah,.clo [(.st SI.span),(.st SI.span)] ah],[.mu (.st SI.span)],fun a=>Ca n a.1 a.2.1 a.2.2.1 a.2.2.2.1 a.2.2.2.2.1,none⟩
def y5:Hn SI:=(.s .z (.b (.lx ⟨[(10,(.v ah))],[(0,.l (.st SI.span))],[0,2,3,4],[],1128,[]⟩ 0 ⟨[],[(0,.l (.st SI.span))],[],[],1128,[]⟩ (.b (.s .z (.s .z (.s (.j ⟨[(11,(.v ah))],[],[0,2,3,4,10],[0],1576,[]⟩ (.s (.j ⟨[(40,(.v .bool))],[],[0,2,3,4,10,11],[0],1576,[]⟩ .z) .z)) .z)))))))
theorem y7 (n:Nat):aD 235 (yZ n) :=cq ax Tryz.func235 y5 n (by kernel_rfl) rfl fun _=>by kernel_rfl
def y8 (n:Nat):Sig xx:=⟨[.mut (.st SI.span),.d ah,.d ah,.clo [(.st SI.span),(.st SI.span)] ah],[.mu (.st SI.span)],fun a=>Cb n a.1 a.2.1 a.2.2.1 a.2.2.2.1,none⟩
def y9:Hn SI:=(.s .z (.s .z (.s .z (.s (.s .z (.b (.l ⟨[(11,(.v ah))],[(0,.l (.st SI.span))],[0,3,8,9,10],[],1704,[]⟩ 0 ⟨[],[(0,.l (.st SI.span))],[0,3,8,9,10],[],1704,[]⟩ .z))) (.s .z (.b (.l ⟨[(12,(.v ah))],[(0,.l (.st SI.span))],[0,3,8,9],[],1896,[]⟩ 2 ⟨[],[(0,.l (.st SI.span))],[],[],1896,[]⟩ .z)))))))
theorem za (n:Nat):aD 228 (y8 n) :=cq (aj (y7 n) ax) Tryz.func228 y9 n (by kernel_rfl) rfl fun _=>by kernel_rfl
def sO (n:Nat):Sig xx:=⟨[.mut (.st SI.span),.d ah,.d ah,.clo [(.st SI.span),(.st SI.span)] ah],[.mu (.st SI.span)],fun a=>vg n a.1 a.2.1 a.2.2.1 a.2.2.2.1,none⟩
def sP:Hn SI:=(.s .z (.s .z (.s (.s .z (.s .z (.s .z (.b (.l ⟨[(11,(.v ah))],[(0,.l (.st SI.span)),(1512,.c 1 [[(.v (.int .u64))]])],[0,1,8,9,10],[],2280,[]⟩ 0 ⟨[],[(0,.l (.st SI.span))],[],[],2280,[]⟩ (.s .z (.s (.b (.s .z (.s (.j ⟨[(12,(.v ah))],[],[0,1,8,9,10,11],[0,1512],3176,[]⟩ .z) .z))) .z))))))) .z)))
theorem sQ (n:Nat):aD 229 (sO n) :=cq (aj jR (aj kL ax)) Tryz.func229 sP n (by kernel_rfl) rfl fun _=>by kernel_rfl
def Cw:Sig xx:=⟨[.d (.sl (.st SI.span)),.d ah,.d ah,.mref ah,.clo [(.st SI.span),(.st SI.span)] ah],[.d ah,.d ah,.mr ah],fun a=>EO a.1 a.2.1 a.2.2.1 a.2.2.2.1 a.2.2.2.2.1,none⟩
theorem Cx:aD 238 Cw :=cq ax Tryz.func238 .z 0 (by kernel_rfl) rfl fun _=>by kernel_rfl
def Cy:Sig xx:=⟨[.d (.sl (.st SI.span)),.d ah,.d ah,.d ah,.mref ah,.clo [(.st SI.span),(.st SI.span)] ah],[.d ah,.mr ah],fun a=>EP a.1 a.2.1 a.2.2.1 a.2.2.2.1 a.2.2.2.2.1 a.2.2.2.2.2.1,none⟩
theorem pJ:aD 237 Cy :=cq (aj Cx ax) Tryz.func237 .z 0 (by kernel_rfl) rfl fun _=>by kernel_rfl
def qX:Sig xx:=⟨[.d (.sl (.st SI.span)),.d ah,.mref ah,.clo [(.st SI.span),(.st SI.span)] ah],[.d ah,.mr ah],fun a=>uo a.1 a.2.1 a.2.2.1 a.2.2.2.1,none⟩
theorem qY:aD 236 qX :=cq (aj pJ ax) Tryz.func236 .z 0 (by kernel_rfl) rfl fun _=>by kernel_rfl
def vG:Sig xx:=⟨[.d (.sl (.st SI.span)),.d ah,.d ah,.clo [(.st SI.span),(.st SI.span)] ah],[.d ah,.d ah],fun a=>xO a.1 a.2.1 a.2.2.1 a.2.2.2.1,none⟩
def vH:Hn SI:=(.s .z (.s .z (.s .z (.s .z (.s .z (.s .z (.s (.j ⟨[(13,(.v ah))],[(1384,.c 1 [[(.v ah)]])],[11],[],2600,[]⟩ (.s .z (.s (.s (.j ⟨[(12,(.v ah)),(13,(.v ah)),(14,(.v ah))],[(1384,.c 1 [[(.v ah)]])],[0,3,11],[],2728,[]⟩ .z) .z) .z))) .z)))))))
theorem vI:aD 230 vG :=cq (aj qY (aj pJ ax)) Tryz.func230 vH 0 (by kernel_rfl) rfl fun _=>by kernel_rfl
def uP (n:Nat):Sig xx:=⟨[.mut (.st SI.span),.d ah,.d ah,.clo [(.st SI.span),(.st SI.span)] ah],[.mu (.st SI.span)],fun a=>wh n a.1 a.2.1 a.2.2.1 a.2.2.2.1,none⟩
def uQ:Hn SI:=(.s .z (.s .z (.b (.l ⟨[(8,(.v ah)),(9,(.v ah))],[(0,.l (.st SI.span))],[0],[],1320,[]⟩ 0 ⟨[],[(0,.l (.st SI.span))],[],[],1320,[]⟩ .z))))
theorem uR (n:Nat):aD 231 (uP n) :=cq ax Tryz.func231 uQ n (by kernel_rfl) rfl fun _=>by kernel_rfl
def mX (n:Nat):Sig xx:=⟨[.mut (.st SI.span),.d ah,.d ah,.clo [(.st SI.span),(.st SI.span)] ah],[.d .bool,.mu (.st SI.span)],fun a=>oh n a.1 a.2.1 a.2.2.1 a.2.2.2.1,none⟩
def mY:Hn SI:=(.s .z (.s .z (.s (.s .z (.b (.lx ⟨[(9,(.v ah)),(10,(.v ah))],[(0,.l (.st SI.span))],[0,1,2,3],[],1320,[]⟩ 0 ⟨[],[(0,.l (.st SI.span))],[],[],1320,[]⟩ (.s .z (.s (.jx ⟨[(9,(.v ah))],[(0,.l (.st SI.span))],[0,1,2,3,10],[],1448,[]⟩ (.b (.s (.b (.l ⟨[(9,(.v ah))],[],[0,1,2,3,10],[0],1448,[]⟩ 2 ⟨[(9,(.v ah))],[],[0,1,2,3,10],[0],1448,[]⟩ (.s (.s (.j ⟨[(36,(.v .bool))],[],[0,1,2,3,9,10],[0],1448,[]⟩ .z) .z) .z))) (.s .z (.s .z (.s .z (.s (.j ⟨[],[(0,.l (.st SI.span))],[0,1,2,3,9,10],[],3048,[]⟩ (.s .z (.s (.s .z (.b (.l ⟨[(11,(.v ah))],[(0,.l (.st SI.span))],[0,1,2,3,9,10],[],3496,[]⟩ 4 ⟨[],[(0,.l (.st SI.span))],[0,1,2,3,9,10],[],3496,[]⟩ .z))) .z))) (.s .z (.s (.s .z (.b (.l ⟨[(12,(.v ah))],[(0,.l (.st SI.span))],[0,1,2,3,9,10],[],3496,[]⟩ 6 ⟨[],[(0,.l (.st SI.span))],[0,1,2,3,9,10],[],3496,[]⟩ .z))) .z))))))))) .z))))) .z)))
theorem mZ (n:Nat):aD 232 (mX n) :=cq ax Tryz.func232 mY n (by kernel_rfl) rfl fun _=>by kernel_rfl
def qZ (n:Nat):Sig xx:=⟨[.mut (.st SI.span),.d ah,.d ah,.d ah,.clo [(.st SI.span),(.st SI.span)] ah],[.d ah,.mu (.st SI.span)],fun a=>uq n a.1 a.2.1 a.2.2.1 a.2.2.2.1 a.2.2.2.2.1,none⟩
def q8:Hn SI:=(.s .z (.s .z (.s .z (.s (.b (.l ⟨[(11,(.v ah)),(12,(.v ah))],[(0,.l (.st SI.span))],[0,1,4],[],2472,[]⟩ 0 ⟨[(11,(.v ah))],[(0,.l (.st SI.span))],[],[],2472,[]⟩ (.b (.s (.b (.l ⟨[(11,(.v ah))],[],[0,1,4,12],[0],2472,[]⟩ 2 ⟨[(11,(.v ah))],[],[0,1,4,12],[0],2472,[]⟩ (.s (.s (.j ⟨[(47,(.v .bool))],[],[0,1,4,11,12],[0],2472,[]⟩ .z) .z) .z))) (.s (.b (.l ⟨[(12,(.v ah))],[],[0,1,4,11],[0],2472,[]⟩ 4 ⟨[(12,(.v ah))],[],[0,1,4,11],[0],2472,[]⟩ (.s (.s (.j ⟨[(65,(.v .bool))],[],[0,1,4,11,12],[0],2472,[]⟩ .z) .z) .z))) .z))))) .z))))
theorem q9 (n:Nat):aD 233 (qZ n) :=cq ax Tryz.func233 q8 n (by kernel_rfl) rfl fun _=>by kernel_rfl
def yu (n:Nat):Sig xx:=⟨[.mut (.st SI.span),.d ah,.d ah,.d ah,.clo [(.st SI.span),(.st SI.span)] ah],[.d ah,.d .bool,.mu (.st SI.span)],fun a=>Az n a.1 a.2.1 a.2.2.1 a.2.2.2.1 a.2.2.2.2.1,none⟩
def yw:Hn SI:=(.s .z (.s .z (.s .z (.s (.b (.l ⟨[(12,(.v ah))],[],[0,1,4,13],[0],2536,[]⟩ 0 ⟨[(12,(.v ah))],[],[0,1,4,13],[0],2536,[]⟩ (.s (.s (.j ⟨[(47,(.v .bool))],[],[0,1,4,12,13],[0],2536,[]⟩ .z) .z) .z))) (.s (.b (.l ⟨[(13,(.v ah))],[],[0,1,4,12],[0],2536,[]⟩ 2 ⟨[(13,(.v ah))],[],[0,1,4,12],[0],2536,[]⟩ (.s (.s (.j ⟨[(66,(.v .bool))],[],[0,1,4,12,13],[0],2536,[]⟩ .z) .z) .z))) (.s .z (.s .z (.s .z (.s .z (.s (.b (.l ⟨[(12,(.v ah)),(13,(.v ah))],[(0,.l (.st SI.span))],[0,1,4],[],4136,[]⟩ 4 ⟨[(13,(.v ah))],[(0,.l (.st SI.span))],[0,1],[],4136,[]⟩ (.b (.s (.b (.l ⟨[(12,(.v ah))],[],[0,1,4,13],[0],4136,[]⟩ 6 ⟨[(12,(.v ah))],[],[0,1,4,13],[0],4136,[]⟩ (.s (.s (.j ⟨[(120,(.v .bool))],[],[0,1,4,12,13],[0],4136,[]⟩ .z) .z) .z))) (.s (.b (.l ⟨[(13,(.v ah))],[],[0,1,4,12],[0],4136,[]⟩ 8 ⟨[(13,(.v ah))],[],[0,1,4,12],[0],4136,[]⟩ (.s (.s (.j ⟨[(139,(.v .bool))],[],[0,1,4,12,13],[0],4136,[]⟩ .z) .z) .z))) .z))))) .z))))))))))
theorem yx (n:Nat):aD 234 (yu n) :=cq ax Tryz.func234 yw n (by kernel_rfl) rfl fun _=>by kernel_rfl
def A8:Hn SI:=(.s .z (.s .z (.b (.lx ⟨[(1,(.v ah)),(2,(.v ah)),(3,(.v ah)),(10,(.v .bool)),(11,(.v .bool))],[(0,.l (.st SI.span))],[0,4],[],1128,[]⟩ 999999 ⟨[],[],[],[],1128,[]⟩ (.b (.s .z (.s .z (.s .z (.s (.j ⟨[(3,(.v ah))],[(0,.l (.st SI.span))],[0,1,2,4,10,11,12],[],1640,[]⟩ .z) (.s .z (.s (.j ⟨[(13,(.v ah)),(14,(.v ah))],[(0,.l (.st SI.span))],[0,1,2,3,4,10,11,12],[],2280,[]⟩ .z) (.s (.jx ⟨[],[(0,.l (.st SI.span))],[0,1,2,3,4,10,11,12,13],[],2280,[]⟩ (.s (.j ⟨[(75,(.v .bool))],[],[0,1,2,3,4,10,11,12,13],[0],2280,[]⟩ .z) .z)) (.s (.s (.j ⟨[(97,(.v .bool))],[],[0,1,2,3,4,10,11,12,13],[0],2280,[]⟩ .z) .z) .z)))))))))))))
theorem zb (n:Nat) (rc:((List aF))->(Int)->(Int)->(Int)->((aF×aF×Unit)->Option Int)->Option (List aF)) (hr:aD 225 (iZ rc)):aD 225 (iZ (fZ n rc)) :=cq (aj (sN n) (aj (za n) (aj (sQ n) (aj vI (aj (uR n) (aj (mZ n) (aj (q9 n) (aj (yx n) (aj hr ax))))))))) Tryz.func225 A8 n (by kernel_rfl) rfl fun _=>by kernel_rfl
theorem nC (n:Nat):∀ m,aD 225 (iZ (bZ n m))
 | 0=>cok (jW Tryz.func225 (by kernel_rfl:Tryz.f225.body=some (Tryz.f225.body.getD .skip)) (by kernel_rfl)) (fun _ _ h=>(by cases h)) rfl
 |m+1=>zb n _ (nC n m)
def A9 (n:Nat):Sig xx:=⟨[.mut (.st SI.span),.d ah,.d ah,.d ah,.clo [(.st SI.span),(.st SI.span)] ah],[.mu (.st SI.span)],fun a=>kF n a.1 a.2.1 a.2.2.1 a.2.2.2.1 a.2.2.2.2.1,none⟩
theorem Ba (n:Nat):aD 225 (A9 n):=nC n n
def JK (n:Nat):Sig xx:=⟨[.mut (.st SI.span),.clo [(.st SI.span),(.st SI.span)] ah],[.mu (.st SI.span)],fun a=>mH n a.1 a.2.1,none⟩
theorem JL (n:Nat):aD 220 (JK n) :=cq (aj yc (aj (Ba n) ax)) Tryz.func220 .z n (by kernel_rfl) rfl fun _=>by kernel_rfl
def Ll:Sig xx:=⟨[.d ah,.d ah],[.d ah],fun a=>cmp_Compare_int a.1 a.2.1,none⟩
theorem Af:aD 161 Ll :=cq (aj EM ax) Tryz.func161 .z 0 (by kernel_rfl) rfl fun _=>by kernel_rfl
def Ti:Sig xx:=⟨[.d (.st SI.span),.d (.st SI.span)],[.d ah],fun a=>wm a.1 a.2.1,none⟩
theorem Tj:aD 221 Ti :=cq (aj Af ax) Tryz.func221 .z 0 (by kernel_rfl) rfl fun _=>by kernel_rfl
def Zm (n:Nat):Sig xx:=⟨[.d (.sl ak),.d ah],[.fresh (.st SI.span)],fun a=>HZ n a.1 a.2.1,none⟩
def Zn:Hn SI:=(.s .z (.s .z (.s (.s .z (.b (.l ⟨[(5,(.o 1320)),(14,(.v ah))],[(1320,.l (.st SI.span))],[1,12,13],[],1321,[(5,(.st SI.span))]⟩ 0 ⟨[(5,(.o 1320))],[(1320,.l (.st SI.span))],[],[],1321,[]⟩ (.s .z (.s .z (.s (.j ⟨[(5,(.o 1385))],[(1385,.l (.st SI.span))],[1,12,13,14],[],1386,[]⟩ (.b (.s .z (.s (.j ⟨[(27,(.v .bool))],[],[1,5,7,12,13,14],[1320,1513],1641,[]⟩ .z) .z)))) .z)))))) (.s .z (.s .z (.s (.s .z (.b (.l ⟨[(8,(.o 1705)),(41,(.v ah))],[(1705,.l (.st SI.span))],[39,40],[1320],1706,[(8,(.st SI.span))]⟩ 2 ⟨[(8,(.o 1705))],[(1705,.l (.st SI.span))],[],[],1706,[]⟩ (.s .z (.s .z (.s (.j ⟨[(8,(.o 1770))],[(1770,.l (.st SI.span))],[39,40,41],[1320],1771,[]⟩ (.b (.s .z (.s .z (.s (.j ⟨[(59,(.v .bool))],[],[8,10,11,39,40,41],[1320,1705,1898],2218,[]⟩ .z) .z))))) .z)))))) .z))))))
theorem Zo (n:Nat):aD 205 (Zm n) :=cq (aj (JL n) (aj Tj ax)) Tryz.func205 Zn n (by kernel_rfl) rfl fun _=>by kernel_rfl
def Zp (n:Nat):Sig xx:=⟨[.d (.sl (.sl ak))],[.fresh (.st SI.strip)],fun a=>H6 n a.1,none⟩
def Zq:Hn SI:=(.s .z (.s .z (.s .z (.s (.s .z (.b (.l ⟨[(4,(.o 1512)),(13,(.v ah))],[(1512,.l ah)],[3,11,12],[1128],1513,[(4,ah)]⟩ 0 ⟨[(4,(.o 1512))],[(1512,.l ah)],[3],[1128],1513,[]⟩ .z))) (.s .z (.s .z (.s .z (.s (.s .z (.b (.l ⟨[(7,(.o 1961)),(8,(.v ah))],[(1961,.l (.st SI.strip))],[3,4],[1128,1512],1962,[(7,(.st SI.strip))]⟩ 2 ⟨[(7,(.o 1961))],[(1961,.l (.st SI.strip))],[],[],1962,[]⟩ .z))) .z))))))))
theorem Zr (n:Nat):aD 184 (Zp n) :=cq (aj (Ns n) (aj (A7 n) (aj (Cv n) (aj (Zo n) ax)))) Tryz.func184 Zq n (by kernel_rfl) rfl fun _=>by kernel_rfl
def O3 (n:Nat):Sig xx:=⟨[.d (.sl (.st SI.span)),.d (.sl (.st SI.span))],[.d .bool],fun a=>tH n a.1 a.2.1,none⟩
def O4:Hn SI:=(.s .z (.s .z (.s (.s .z (.b (.lx ⟨[(13,(.v ah))],[],[0,1,12],[],1576,[]⟩ 0 ⟨[],[],[],[],1576,[]⟩ .z))) .z)))
theorem O5 (n:Nat):aD 203 (O3 n) :=cq ax Tryz.func203 O4 n (by kernel_rfl) rfl fun _=>by kernel_rfl
def abj (n:Nat):Sig xx:=⟨[.d (.sl (.st SI.strip))],[.fresh ak],fun a=>K6 n a.1,none⟩
def abk:Hn SI:=(.s .z (.s .z (.s (.s .z (.b (.l ⟨[(3,(.o 1192)),(4,(.v ah))],[(1192,.l ak)],[0],[],1193,[(3,ak)]⟩ 0 ⟨[(3,(.o 1192))],[(1192,.l ak)],[],[],1193,[]⟩ (.s .z (.b (.s .z (.s (.b (.l ⟨[(5,(.v ah))],[],[0,3,4],[1192],1641,[]⟩ 2 ⟨[(5,(.v ah))],[],[0,3,4],[1192],1641,[]⟩ (.s (.s (.j ⟨[(30,(.v .bool))],[],[0,3,4,5],[1192],1641,[]⟩ .z) .z) .z))) (.s (.s .z (.b (.l ⟨[(3,(.o 2089)),(39,(.v ah))],[(2089,.l ak)],[0,4,5,37,38],[],2090,[]⟩ 4 ⟨[(3,(.o 2089))],[(2089,.l ak)],[0,5],[],2090,[]⟩ .z))) .z)))))))) .z)))
theorem abl (n:Nat):aD 183 (abj n) :=cq (aj (O5 n) ax) Tryz.func183 abk n (by kernel_rfl) rfl fun _=>by kernel_rfl
def Xx:Sig xx:=⟨[.d (.sl ak)],[.d (.sl ak),.d ah],fun a=>Jt a.1,none⟩
theorem Xy:aD 182 Xx :=cq ax Tryz.func182 .z 0 (by kernel_rfl) rfl fun _=>by kernel_rfl
def af0 (n:Nat):Sig xx:=⟨[.d (.sl ak)],[.d (.sl ak),.d ah],fun a=>abO n a.1,none⟩
def af2:Hn SI:=(.s .z (.s (.s .z (.b (.lx ⟨[(8,(.v ah))],[],[0,6,7],[],1320,[]⟩ 0 ⟨[],[],[0],[],1320,[]⟩ .z))) .z))
theorem af3 (n:Nat):aD 134 (af0 n) :=cq (aj wV (aj (Zr n) (aj (abl n) (aj Xy ax)))) Tryz.func134 af2 n (by kernel_rfl) rfl fun _=>by kernel_rfl
def O6 (n:Nat):Sig xx:=⟨[.d (.sl ak),.d (.sl ak)],[.d .bool],fun a=>om n a.1 a.2.1,none⟩
def O7:Hn SI:=(.s .z (.s .z (.s (.s .z (.b (.lx ⟨[(13,(.v ah))],[],[0,1,12],[],1576,[]⟩ 0 ⟨[],[],[],[],1576,[]⟩ .z))) .z)))
theorem O8 (n:Nat):aD 135 (O6 n) :=cq ax Tryz.func135 O7 n (by kernel_rfl) rfl fun _=>by kernel_rfl
def abm (n:Nat):Sig xx:=⟨[.d (.sl ak)],[.d .bool],fun a=>xP n a.1,none⟩
theorem JM (n:Nat):aD 99 (abm n) :=cq (aj (af3 n) (aj (O8 n) ax)) Tryz.func99 .z n (by kernel_rfl) rfl fun _=>by kernel_rfl
def Lm (n:Nat):Sig xx:=⟨[.d (.st SI.Drawing),.d ah,.d ah],[.fresh aG],fun a=>oM n a.1 a.2.1 a.2.2.1,none⟩
def Lp:Hn SI:=(.s .z (.s .z (.s (.s .z (.b (.l ⟨[(7,(.o 1448)),(13,(.v ah))],[(1448,.l aG)],[1,2,11,12],[],1449,[(7,aG)]⟩ 0 ⟨[(7,(.o 1448))],[(1448,.l aG)],[],[],1449,[]⟩ (.s .z (.s .z (.s (.j ⟨[(7,(.o 1513))],[(1513,.l aG)],[1,2,11,12,13],[],1514,[]⟩ (.b (.s .z (.s (.j ⟨[(25,(.v .bool))],[],[1,2,7,9,11,12,13],[1448,1705],1897,[]⟩ .z) .z)))) .z)))))) .z)))
theorem Lr (n:Nat):aD 111 (Lm n) :=cq ax Tryz.func111 Lp n (by kernel_rfl) rfl fun _=>by kernel_rfl
def Fe:Sig xx:=⟨[.d aG],[.d .bool],fun a=>fB a.1,none⟩
def Ff:Hn SI:=(.s .z (.s .z (.s (.s (.j ⟨[(26,(.v .bool))],[],[1],[1000],1384,[]⟩ .z) .z) (.s (.s (.j ⟨[(34,(.v .bool))],[],[1],[1000],1384,[]⟩ .z) .z) .z))))
theorem lq:aD 112 Fe :=cq (aj wV ax) Tryz.func112 Ff 0 (by kernel_rfl) rfl fun _=>by kernel_rfl
def Zt:Sig xx:=⟨[.d ak],[.d ak,.d .bool],fun a=>wT a.1,none⟩
theorem OA:aD 208 Zt :=cq (aj wV ax) Tryz.func208 .z 0 (by kernel_rfl) rfl fun _=>by kernel_rfl
def ae5:Sig xx:=⟨[.d ak],[.d ah],fun a=>DX a.1,none⟩
theorem Tk:aD 195 ae5 :=cq (aj OA ax) Tryz.func195 .z 0 (by kernel_rfl) rfl fun _=>by kernel_rfl
def adn (n:Nat):Sig xx:=⟨[.d (.sl ak)],[.d ah],fun a=>PL n a.1,none⟩
def ado:Hn SI:=(.s .z (.s .z (.s .z (.s (.s .z (.b (.l ⟨[(3,(.v ah)),(11,(.v ah))],[],[9,10],[],1512,[]⟩ 0 ⟨[(3,(.v ah))],[],[],[],1512,[]⟩ .z))) .z))))
theorem adp (n:Nat):aD 158 (adn n) :=cq (aj (JM n) (aj Tk ax)) Tryz.func158 ado n (by kernel_rfl) rfl fun _=>by kernel_rfl
def sS (n:Nat):Sig xx:=⟨[.mut ak,.d ah,.d ah,.clo [ak,ak] ah],[.mu ak],fun a=>vk n a.1 a.2.1 a.2.2.1 a.2.2.2.1,none⟩
def sU:Hn SI:=(.s .z (.b (.l ⟨[(8,(.v ah))],[(0,.l ak)],[0,1,2,3],[],1192,[]⟩ 0 ⟨[],[(0,.l ak)],[],[],1192,[]⟩ (.s .z (.s (.b (.s .z (.b (.l ⟨[(9,(.v ah))],[(0,.l ak)],[0,1,2,3,8],[],1512,[]⟩ 2 ⟨[],[(0,.l ak)],[0,1,2,3,8],[],1512,[]⟩ (.s (.s (.j ⟨[(34,(.v .bool))],[],[0,1,2,3,8,9],[0],1512,[]⟩ .z) .z) .z))))) .z)))))
theorem sV (n:Nat):aD 209 (sS n) :=cq ax Tryz.func209 sU n (by kernel_rfl) rfl fun _=>by kernel_rfl
def ze (n:Nat):Sig xx:=⟨[.mut ak,.d ah,.d ah,.d ah,.clo [ak,ak] ah],[.mu ak],fun a=>Cc n a.1 a.2.1 a.2.2.1 a.2.2.2.1 a.2.2.2.2.1,none⟩
def zf:Hn SI:=(.s .z (.b (.lx ⟨[(10,(.v ah))],[(0,.l ak)],[0,2,3,4],[],1128,[]⟩ 0 ⟨[],[(0,.l ak)],[],[],1128,[]⟩ (.b (.s .z (.s .z (.s (.j ⟨[(11,(.v ah))],[],[0,2,3,4,10],[0],1576,[]⟩ (.s (.j ⟨[(40,(.v .bool))],[],[0,2,3,4,10,11],[0],1576,[]⟩ .z) .z)) .z)))))))
theorem zh (n:Nat):aD 222 (ze n) :=cq ax Tryz.func222 zf n (by kernel_rfl) rfl fun _=>by kernel_rfl
def zi (n:Nat):Sig xx:=⟨[.mut ak,.d ah,.d ah,.clo [ak,ak] ah],[.mu ak],fun a=>Ce n a.1 a.2.1 a.2.2.1 a.2.2.2.1,none⟩
def zk:Hn SI:=(.s .z (.s .z (.s .z (.s (.s .z (.b (.l ⟨[(11,(.v ah))],[(0,.l ak)],[0,3,8,9,10],[],1704,[]⟩ 0 ⟨[],[(0,.l ak)],[0,3,8,9,10],[],1704,[]⟩ .z))) (.s .z (.b (.l ⟨[(12,(.v ah))],[(0,.l ak)],[0,3,8,9],[],1896,[]⟩ 2 ⟨[],[(0,.l ak)],[],[],1896,[]⟩ .z)))))))
theorem zl (n:Nat):aD 210 (zi n) :=cq (aj (zh n) ax) Tryz.func210 zk n (by kernel_rfl) rfl fun _=>by kernel_rfl
def sW (n:Nat):Sig xx:=⟨[.mut ak,.d ah,.d ah,.clo [ak,ak] ah],[.mu ak],fun a=>vo n a.1 a.2.1 a.2.2.1 a.2.2.2.1,none⟩
def sZ:Hn SI:=(.s .z (.s .z (.s (.s .z (.s .z (.s .z (.b (.l ⟨[(11,(.v ah))],[(0,.l ak),(1512,.c 1 [[(.v (.int .u64))]])],[0,1,8,9,10],[],2280,[]⟩ 0 ⟨[],[(0,.l ak)],[],[],2280,[]⟩ (.s .z (.s (.b (.s .z (.s (.j ⟨[(12,(.v ah))],[],[0,1,8,9,10,11],[0,1512],3176,[]⟩ .z) .z))) .z))))))) .z)))
theorem tq (n:Nat):aD 211 (sW n) :=cq (aj jR (aj kL ax)) Tryz.func211 sZ n (by kernel_rfl) rfl fun _=>by kernel_rfl
def Cz:Sig xx:=⟨[.d (.sl ak),.d ah,.d ah,.mref ah,.clo [ak,ak] ah],[.d ah,.d ah,.mr ah],fun a=>EQ a.1 a.2.1 a.2.2.1 a.2.2.2.1 a.2.2.2.2.1,none⟩
theorem CB:aD 226 Cz :=cq ax Tryz.func226 .z 0 (by kernel_rfl) rfl fun _=>by kernel_rfl
def CF:Sig xx:=⟨[.d (.sl ak),.d ah,.d ah,.d ah,.mref ah,.clo [ak,ak] ah],[.d ah,.mr ah],fun a=>ER a.1 a.2.1 a.2.2.1 a.2.2.2.1 a.2.2.2.2.1 a.2.2.2.2.2.1,none⟩
theorem pK:aD 224 CF :=cq (aj CB ax) Tryz.func224 .z 0 (by kernel_rfl) rfl fun _=>by kernel_rfl
def rf:Sig xx:=⟨[.d (.sl ak),.d ah,.mref ah,.clo [ak,ak] ah],[.d ah,.mr ah],fun a=>uz a.1 a.2.1 a.2.2.1 a.2.2.2.1,none⟩
theorem rq:aD 223 rf :=cq (aj pK ax) Tryz.func223 .z 0 (by kernel_rfl) rfl fun _=>by kernel_rfl
def vJ:Sig xx:=⟨[.d (.sl ak),.d ah,.d ah,.clo [ak,ak] ah],[.d ah,.d ah],fun a=>xQ a.1 a.2.1 a.2.2.1 a.2.2.2.1,none⟩
def vK:Hn SI:=(.s .z (.s .z (.s .z (.s .z (.s .z (.s .z (.s (.j ⟨[(13,(.v ah))],[(1384,.c 1 [[(.v ah)]])],[11],[],2600,[]⟩ (.s .z (.s (.s (.j ⟨[(12,(.v ah)),(13,(.v ah)),(14,(.v ah))],[(1384,.c 1 [[(.v ah)]])],[0,3,11],[],2728,[]⟩ .z) .z) .z))) .z)))))))
theorem vL:aD 212 vJ :=cq (aj rq (aj pK ax)) Tryz.func212 vK 0 (by kernel_rfl) rfl fun _=>by kernel_rfl
def uS (n:Nat):Sig xx:=⟨[.mut ak,.d ah,.d ah,.clo [ak,ak] ah],[.mu ak],fun a=>wo n a.1 a.2.1 a.2.2.1 a.2.2.2.1,none⟩
def uT:Hn SI:=(.s .z (.s .z (.b (.l ⟨[(8,(.v ah)),(9,(.v ah))],[(0,.l ak)],[0],[],1320,[]⟩ 0 ⟨[],[(0,.l ak)],[],[],1320,[]⟩ .z))))
theorem uU (n:Nat):aD 213 (uS n) :=cq ax Tryz.func213 uT n (by kernel_rfl) rfl fun _=>by kernel_rfl
def ng (n:Nat):Sig xx:=⟨[.mut ak,.d ah,.d ah,.clo [ak,ak] ah],[.d .bool,.mu ak],fun a=>oo n a.1 a.2.1 a.2.2.1 a.2.2.2.1,none⟩
def ni:Hn SI:=(.s .z (.s .z (.s (.s .z (.b (.lx ⟨[(9,(.v ah)),(10,(.v ah))],[(0,.l ak)],[0,1,2,3],[],1320,[]⟩ 0 ⟨[],[(0,.l ak)],[],[],1320,[]⟩ (.s .z (.s (.jx ⟨[(9,(.v ah))],[(0,.l ak)],[0,1,2,3,10],[],1448,[]⟩ (.b (.s (.b (.l ⟨[(9,(.v ah))],[],[0,1,2,3,10],[0],1448,[]⟩ 2 ⟨[(9,(.v ah))],[],[0,1,2,3,10],[0],1448,[]⟩ (.s (.s (.j ⟨[(36,(.v .bool))],[],[0,1,2,3,9,10],[0],1448,[]⟩ .z) .z) .z))) (.s .z (.s .z (.s .z (.s (.j ⟨[],[(0,.l ak)],[0,1,2,3,9,10],[],3048,[]⟩ (.s .z (.s (.s .z (.b (.l ⟨[(11,(.v ah))],[(0,.l ak)],[0,1,2,3,9,10],[],3496,[]⟩ 4 ⟨[],[(0,.l ak)],[0,1,2,3,9,10],[],3496,[]⟩ .z))) .z))) (.s .z (.s (.s .z (.b (.l ⟨[(12,(.v ah))],[(0,.l ak)],[0,1,2,3,9,10],[],3496,[]⟩ 6 ⟨[],[(0,.l ak)],[0,1,2,3,9,10],[],3496,[]⟩ .z))) .z))))))))) .z))))) .z)))
theorem nk (n:Nat):aD 214 (ng n) :=cq ax Tryz.func214 ni n (by kernel_rfl) rfl fun _=>by kernel_rfl
def ru (n:Nat):Sig xx:=⟨[.mut ak,.d ah,.d ah,.d ah,.clo [ak,ak] ah],[.d ah,.mu ak],fun a=>uD n a.1 a.2.1 a.2.2.1 a.2.2.2.1 a.2.2.2.2.1,none⟩
def rz:Hn SI:=(.s .z (.s .z (.s .z (.s (.b (.l ⟨[(11,(.v ah)),(12,(.v ah))],[(0,.l ak)],[0,1,4],[],2472,[]⟩ 0 ⟨[(11,(.v ah))],[(0,.l ak)],[],[],2472,[]⟩ (.b (.s (.b (.l ⟨[(11,(.v ah))],[],[0,1,4,12],[0],2472,[]⟩ 2 ⟨[(11,(.v ah))],[],[0,1,4,12],[0],2472,[]⟩ (.s (.s (.j ⟨[(47,(.v .bool))],[],[0,1,4,11,12],[0],2472,[]⟩ .z) .z) .z))) (.s (.b (.l ⟨[(12,(.v ah))],[],[0,1,4,11],[0],2472,[]⟩ 4 ⟨[(12,(.v ah))],[],[0,1,4,11],[0],2472,[]⟩ (.s (.s (.j ⟨[(65,(.v .bool))],[],[0,1,4,11,12],[0],2472,[]⟩ .z) .z) .z))) .z))))) .z))))
theorem rC (n:Nat):aD 215 (ru n) :=cq ax Tryz.func215 rz n (by kernel_rfl) rfl fun _=>by kernel_rfl
def yA (n:Nat):Sig xx:=⟨[.mut ak,.d ah,.d ah,.d ah,.clo [ak,ak] ah],[.d ah,.d .bool,.mu ak],fun a=>AA n a.1 a.2.1 a.2.2.1 a.2.2.2.1 a.2.2.2.2.1,none⟩
def yB:Hn SI:=(.s .z (.s .z (.s .z (.s (.b (.l ⟨[(12,(.v ah))],[],[0,1,4,13],[0],2536,[]⟩ 0 ⟨[(12,(.v ah))],[],[0,1,4,13],[0],2536,[]⟩ (.s (.s (.j ⟨[(47,(.v .bool))],[],[0,1,4,12,13],[0],2536,[]⟩ .z) .z) .z))) (.s (.b (.l ⟨[(13,(.v ah))],[],[0,1,4,12],[0],2536,[]⟩ 2 ⟨[(13,(.v ah))],[],[0,1,4,12],[0],2536,[]⟩ (.s (.s (.j ⟨[(66,(.v .bool))],[],[0,1,4,12,13],[0],2536,[]⟩ .z) .z) .z))) (.s .z (.s .z (.s .z (.s .z (.s (.b (.l ⟨[(12,(.v ah)),(13,(.v ah))],[(0,.l ak)],[0,1,4],[],4136,[]⟩ 4 ⟨[(13,(.v ah))],[(0,.l ak)],[0,1],[],4136,[]⟩ (.b (.s (.b (.l ⟨[(12,(.v ah))],[],[0,1,4,13],[0],4136,[]⟩ 6 ⟨[(12,(.v ah))],[],[0,1,4,13],[0],4136,[]⟩ (.s (.s (.j ⟨[(120,(.v .bool))],[],[0,1,4,12,13],[0],4136,[]⟩ .z) .z) .z))) (.s (.b (.l ⟨[(13,(.v ah))],[],[0,1,4,12],[0],4136,[]⟩ 8 ⟨[(13,(.v ah))],[],[0,1,4,12],[0],4136,[]⟩ (.s (.s (.j ⟨[(139,(.v .bool))],[],[0,1,4,12,13],[0],4136,[]⟩ .z) .z) .z))) .z))))) .z))))))))))
theorem yC (n:Nat):aD 216 (yA n) :=cq ax Tryz.func216 yB n (by kernel_rfl) rfl fun _=>by kernel_rfl
def Bb:Hn SI:=(.s .z (.s .z (.b (.lx ⟨[(1,(.v ah)),(2,(.v ah)),(3,(.v ah)),(10,(.v .bool)),(11,(.v .bool))],[(0,.l ak)],[0,4],[],1128,[]⟩ 999999 ⟨[],[],[],[],1128,[]⟩ (.b (.s .z (.s .z (.s .z (.s (.j ⟨[(3,(.v ah))],[(0,.l ak)],[0,1,2,4,10,11,12],[],1640,[]⟩ .z) (.s .z (.s (.j ⟨[(13,(.v ah)),(14,(.v ah))],[(0,.l ak)],[0,1,2,3,4,10,11,12],[],2280,[]⟩ .z) (.s (.jx ⟨[],[(0,.l ak)],[0,1,2,3,4,10,11,12,13],[],2280,[]⟩ (.s (.j ⟨[(75,(.v .bool))],[],[0,1,2,3,4,10,11,12,13],[0],2280,[]⟩ .z) .z)) (.s (.s (.j ⟨[(97,(.v .bool))],[],[0,1,2,3,4,10,11,12,13],[0],2280,[]⟩ .z) .z) .z)))))))))))))
theorem zm (n:Nat) (rc:((List au))->(Int)->(Int)->(Int)->((au×au×Unit)->Option Int)->Option (List au)) (hr:aD 196 (ja rc)):aD 196 (ja (gm n rc)) :=cq (aj (sV n) (aj (zl n) (aj (tq n) (aj vL (aj (uU n) (aj (nk n) (aj (rC n) (aj (yC n) (aj hr ax))))))))) Tryz.func196 Bb n (by kernel_rfl) rfl fun _=>by kernel_rfl
theorem nD (n:Nat):∀ m,aD 196 (ja (cu n m))
 | 0=>cok (jW Tryz.func196 (by kernel_rfl:Tryz.f196.body=some (Tryz.f196.body.getD .skip)) (by kernel_rfl)) (fun _ _ h=>(by cases h)) rfl
 |m+1=>zm n _ (nD n m)
def Bc (n:Nat):Sig xx:=⟨[.mut ak,.d ah,.d ah,.d ah,.clo [ak,ak] ah],[.mu ak],fun a=>kH n a.1 a.2.1 a.2.2.1 a.2.2.2.1 a.2.2.2.2.1,none⟩
theorem Bd (n:Nat):aD 196 (Bc n):=nD n n
def JN (n:Nat):Sig xx:=⟨[.mut ak,.clo [ak,ak] ah],[.mu ak],fun a=>mI n a.1 a.2.1,none⟩
theorem JO (n:Nat):aD 159 (JN n) :=cq (aj yc (aj (Bd n) ax)) Tryz.func159 .z n (by kernel_rfl) rfl fun _=>by kernel_rfl
def CG:Sig xx:=⟨[.d ak,.d ak],[.d ah],fun a=>fH a.1 a.2.1,none⟩
theorem CJ:aD 160 CG :=cq (aj Af ax) Tryz.func160 .z 0 (by kernel_rfl) rfl fun _=>by kernel_rfl
def Ls:Sig xx:=⟨[.d aG],[.d ah],fun a=>jd a.1,none⟩
def Lu:Hn SI:=(.s .z (.s (.s (.j ⟨[(9,(.v .bool))],[],[1],[1000],1128,[]⟩ .z) .z) .z))
theorem Ag:aD 165 Ls :=cq (aj lq ax) Tryz.func165 Lu 0 (by kernel_rfl) rfl fun _=>by kernel_rfl
def O9:Sig xx:=⟨[.d aG],[.d ah],fun a=>kX a.1,none⟩
theorem EN:aD 163 O9 :=cq (aj lq (aj Tk (aj Ag ax))) Tryz.func163 .z 0 (by kernel_rfl) rfl fun _=>by kernel_rfl
def Be:Sig xx:=⟨[.d aG],[.d ah],fun a=>kI a.1,none⟩
theorem Bf:aD 166 Be :=cq ax Tryz.func166 .z 0 (by kernel_rfl) rfl fun _=>by kernel_rfl
def CK:Sig xx:=⟨[.d aG],[.d ah],fun a=>lm a.1,none⟩
theorem CO:aD 167 CK :=cq ax Tryz.func167 .z 0 (by kernel_rfl) rfl fun _=>by kernel_rfl
def Pb:Sig xx:=⟨[.d ak,.d ah],[.d ak,.d .bool],fun a=>AB a.1 a.2.1,none⟩
theorem Pd:aD 197 Pb :=cq (aj wV ax) Tryz.func197 .z 0 (by kernel_rfl) rfl fun _=>by kernel_rfl
def Ul:Sig xx:=⟨[.d ak,.d ak],[.d ak,.d .bool],fun a=>Aa a.1 a.2.1,none⟩
def Um:Hn SI:=(.s .z (.s (.s (.j ⟨[(13,(.v .bool))],[],[2,3,4],[1000,1064,1128],1256,[]⟩ .z) .z) .z))
theorem Un:aD 198 Ul :=cq (aj wV (aj OA ax)) Tryz.func198 Um 0 (by kernel_rfl) rfl fun _=>by kernel_rfl
def Nv:Sig xx:=⟨[.d (.st SI.Entry),.ref (.st SI.A6_str),.ref ah],[.d .bool],fun a=>iQ a.1 a.2.1 a.2.2.1,none⟩
theorem Nw:aD 218 Nv :=cq ax Tryz.func218 .z 0 (by kernel_rfl) rfl fun _=>by kernel_rfl
def G5 (n:Nat):Sig xx:=⟨[.d (.sl (.st SI.Entry)),.clo [(.st SI.Entry)] .bool],[.d ah],fun a=>o8 n a.1 a.2.1,none⟩
def G6:Hn SI:=(.s .z (.s (.s .z (.b (.lx ⟨[(8,(.v ah))],[],[0,1,7],[],1256,[]⟩ 0 ⟨[],[],[],[],1256,[]⟩ .z))) .z))
theorem G7 (n:Nat):aD 217 (G5 n) :=cq ax Tryz.func217 G6 n (by kernel_rfl) rfl fun _=>by kernel_rfl
def Uo (n:Nat):Sig xx:=⟨[.d (.st SI.Plan),.d ah],[.d ah],fun a=>Ab n a.1 a.2.1,none⟩
def Uq:Hn SI:=(.s .z (.s .z (.s (.s .z (.b (.lx ⟨[(14,(.v ah))],[],[3,5,12,13],[1064,1256],1640,[]⟩ 0 ⟨[],[],[],[],1640,[]⟩ (.s .z (.s .z (.s (.b (.s .z (.s .z (.s .z (.s (.j ⟨[(8,(.v ah))],[],[],[],2344,[]⟩ .z) .z))))) .z)))))) .z)))
theorem Ur (n:Nat):aD 199 (Uo n) :=cq (aj (G7 n) (aj Nw ax)) Tryz.func199 Uq n (by kernel_rfl) rfl fun _=>by kernel_rfl
def Lv (n:Nat):Sig xx:=⟨[.d (.st SI.Plan),.d aG],[.d ah],fun a=>kP n a.1 a.2.1,none⟩
def Lx:Hn SI:=(.s .z (.s .z (.s (.s (.j ⟨[(20,(.v .bool))],[],[5,6],[],1704,[]⟩ .z) .z) .z)))
theorem LA (n:Nat):aD 170 (Lv n) :=cq (aj (Ur n) (aj EN ax)) Tryz.func170 Lx n (by kernel_rfl) rfl fun _=>by kernel_rfl
def Fg (n:Nat):GSig xx:=⟨[(.p 0)],[(0,.c 10 [[(.v (.sl aV)),(.v (.sl aO)),(.v (.sl aR)),(.v (.sl aN)),(.v (.sl aW)),(.v (.sl aS)),(.v (.sl aM)),(.v ah),(.v (.sl ak)),(.o 1)]]),(1,.l aG)],[(.v ah)],[(0,.c 10 [[(.v (.sl aV)),(.v (.sl aO)),(.v (.sl aR)),(.v (.sl aN)),(.v (.sl aW)),(.v (.sl aS)),(.v (.sl aM)),(.v ah),(.v (.sl ak)),(.o 1)]]),(1,.l aG)],fun v=>jM n v.1 v.2.1 v.2.2.1 v.2.2.2.1 v.2.2.2.2.1 v.2.2.2.2.2.1 v.2.2.2.2.2.2.1 v.2.2.2.2.2.2.2.1 v.2.2.2.2.2.2.2.2.1 v.2.2.2.2.2.2.2.2.2⟩
def Fh (n:Nat):Sig xx:=⟨[],[.d .bool],fun _=>none,some (Fg n)⟩
theorem Fj (n:Nat):aD 113 (Fh n) :=cqG (aj (adp n) ax) Tryz.func113 .z n (by kernel_rfl) fun _=>by kernel_rfl
def CP (n:Nat):GSig xx:=⟨[(.p 0)],[(0,.c 10 [[(.v (.sl aV)),(.v (.sl aO)),(.v (.sl aR)),(.v (.sl aN)),(.v (.sl aW)),(.v (.sl aS)),(.v (.sl aM)),(.v ah),(.v (.sl ak)),(.o 1)]]),(1,.l aG)],[(.v ah)],[(0,.c 10 [[(.v (.sl aV)),(.v (.sl aO)),(.v (.sl aR)),(.v (.sl aN)),(.v (.sl aW)),(.v (.sl aS)),(.v (.sl aM)),(.v ah),(.v (.sl ak)),(.o 1)]]),(1,.l aG)],fun v=>fI n v.1 v.2.1 v.2.2.1 v.2.2.2.1 v.2.2.2.2.1 v.2.2.2.2.2.1 v.2.2.2.2.2.2.1 v.2.2.2.2.2.2.2.1 v.2.2.2.2.2.2.2.2.1 v.2.2.2.2.2.2.2.2.2⟩
end
end Go.Proofs
