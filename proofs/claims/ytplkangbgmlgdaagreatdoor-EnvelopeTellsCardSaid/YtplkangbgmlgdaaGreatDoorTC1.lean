/-
  Printed by wip/gen: that functions of the program compute this.
-/
import Derived.Test.YtplkangbgmlgdaaGreatDoorS3
open Go.IntKind (i64)
open List (map_congr_left map_append)
namespace Go.Proofs
open Go.Gb Go.RowKit
noncomputable section
def WE:Sig xx:=⟨[],[.d (.st SI.Town)],fun _=>G8,none⟩
theorem WG:aS 17 WE :=cq aH Tryz.func17 .z 0
def Ry:Sig xx:=⟨[.d (.sl ay)],[.fresh ay],fun a=>vR a.1,none⟩
theorem FR:aS 37 Ry :=cq aH Tryz.func37 .z 0
def Vn:Sig xx:=⟨[.d (.sl af)],[.fresh af],fun a=>EL a.1,none⟩
theorem Vo:aS 67 Vn :=cq aH Tryz.func67 .z 0
def aff:Sig xx:=⟨[.d (.st SI.Lot)],[.d (.st SI.Lot)],fun a=>Ms a.1,none⟩
theorem afg:aS 38 aff :=cq (aB FR (aB Vo aH)) Tryz.func38 .z 0
def ahy (n:Nat):Sig xx:=⟨[.d (.sl (.st SI.Lot)),.d af],[.d (.st SI.Lot),.d .bool],fun a=>Je n a.1 a.2.1,none⟩
def ahz:Hn SI:=(.s .z (.s (.s .z (.b (.lx ⟨[(10,(.v af))],[],[1,4,8,9],[1000],1320,[]⟩ 0 ⟨[],[],[4],[1000],1320,[]⟩ .z))) .z))
theorem YC (n:Nat):aS 19 (ahy n) :=cq (aB afg aH) Tryz.func19 ahz n
def ahA:Sig xx:=⟨[.d ay],[.d .bool],fun a=>yD a.1,none⟩
theorem DY:aS 68 ahA :=cq aH Tryz.func68 .z 0
def Vp:Sig xx:=⟨[.nil,.d af],[.fresh ay],fun a=>Mt a.1 a.2.1,none⟩
theorem Vq:aS 121 Vp :=cq aH Tryz.func121 .z 0
def PI (n:Nat):Sig xx:=⟨[.d (.sl (.sl ay))],[.fresh ay],fun a=>zK n a.1,none⟩
def PK:Hn SI:=(.s .z (.s .z (.s (.s .z (.b (.l ⟨[(3,(.v af)),(11,(.v af))],[],[0,9,10],[],1320,[]⟩ 0 ⟨[(3,(.v af))],[],[0],[],1320,[]⟩ .z))) (.s .z (.s (.s .z (.b (.l ⟨[(6,(.o 1704)),(27,(.v af))],[(1704,.l ay)],[25,26],[],1705,[]⟩ 2 ⟨[(6,(.o 1704))],[(1704,.l ay)],[],[],1705,[]⟩ .z))) .z)))))
theorem PL (n:Nat):aS 92 (PI n) :=cq (aB Vq aH) Tryz.func92 PK n
def aag:Sig xx:=⟨[.d (.int .u64)],[.d af],fun a=>bits_Len64 a.1,none⟩
def aah:Hn SI:=(.s .z (.s (.j ⟨[(0,(.v (.int .u64))),(2,(.v af))],[],[],[],1064,[]⟩ .z) (.s (.j ⟨[(0,(.v (.int .u64))),(2,(.v af))],[],[],[],1064,[]⟩ .z) (.s (.j ⟨[(0,(.v (.int .u64))),(2,(.v af))],[],[],[],1064,[]⟩ .z) .z))))
theorem aai:aS 104 aag :=cq aH Tryz.func104 aah 0
def afh:Sig xx:=⟨[.d (.int .u64)],[.d af],fun a=>bits_Len a.1,none⟩
theorem Fx:aS 73 afh :=cq (aB aai aH) Tryz.func73 .z 0
def Rz:Sig xx:=⟨[.d af],[.d .bool],fun a=>cmp_isNaN_int a.1,none⟩
theorem FT:aS 129 Rz :=cq aH Tryz.func129 .z 0
def Vr:Sig xx:=⟨[.d af,.d af],[.d .bool],fun a=>cmp_Less_int a.1 a.2.1,none⟩
theorem jP:aS 100 Vr :=cq (aB FT aH) Tryz.func100 .z 0
def wX (n:Nat):Sig xx:=⟨[.mut af,.d af,.d af],[.mu af],fun a=>yE n a.1 a.2.1 a.2.2.1,none⟩
def wY:Hn SI:=(.s .z (.b (.l ⟨[(6,(.v af))],[(0,.l af)],[0,1,2],[],1192,[]⟩ 0 ⟨[],[(0,.l af)],[],[],1192,[]⟩ (.s .z (.s (.b (.s .z (.b (.l ⟨[(7,(.v af))],[(0,.l af)],[0,1,2,6],[],1512,[]⟩ 2 ⟨[],[(0,.l af)],[0,1,2,6],[],1512,[]⟩ (.s (.s (.j ⟨[(30,(.v .bool))],[],[0,1,2,6,7],[0],1512,[]⟩ .z) .z) .z))))) .z)))))
theorem wZ (n:Nat):aS 94 (wX n) :=cq (aB jP aH) Tryz.func94 wY n
def Cm (n:Nat):Sig xx:=⟨[.mut af,.d af,.d af,.d af],[.mu af],fun a=>EN n a.1 a.2.1 a.2.2.1 a.2.2.2.1,none⟩
def Cn:Hn SI:=(.s .z (.b (.lx ⟨[(8,(.v af))],[(0,.l af)],[0,2,3],[],1128,[]⟩ 0 ⟨[],[(0,.l af)],[],[],1128,[]⟩ (.b (.s .z (.s .z (.s (.j ⟨[(9,(.v af))],[],[0,2,3,8],[0],1576,[]⟩ (.s (.j ⟨[(36,(.v .bool))],[],[0,2,3,8,9],[0],1576,[]⟩ .z) .z)) .z)))))))
theorem Co (n:Nat):aS 124 (Cm n) :=cq (aB jP aH) Tryz.func124 Cn n
def Cq (n:Nat):Sig xx:=⟨[.mut af,.d af,.d af],[.mu af],fun a=>EO n a.1 a.2.1 a.2.2.1,none⟩
def Cr:Hn SI:=(.s .z (.s .z (.s .z (.s (.s .z (.b (.l ⟨[(9,(.v af))],[(0,.l af)],[0,6,7,8],[],1704,[]⟩ 0 ⟨[],[(0,.l af)],[0,6,7,8],[],1704,[]⟩ .z))) (.s .z (.b (.l ⟨[(10,(.v af))],[(0,.l af)],[0,6,7],[],1896,[]⟩ 2 ⟨[],[(0,.l af)],[],[],1896,[]⟩ .z)))))))
theorem Cs (n:Nat):aS 95 (Cq n) :=cq (aB (Co n) aH) Tryz.func95 Cr n
def JM:Sig xx:=⟨[.d af],[.d (.int .u64)],fun a=>bO a.1,none⟩
theorem qj:aS 125 JM :=cq (aB Fx aH) Tryz.func125 .z 0
def K7:Sig xx:=⟨[.mref (.int .u64)],[.d (.int .u64),.mr (.int .u64)],fun a=>bT a.1,none⟩
theorem rJ:aS 126 K7 :=cq aH Tryz.func126 .z 0
def w9 (n:Nat):Sig xx:=⟨[.mut af,.d af,.d af],[.mu af],fun a=>yF n a.1 a.2.1 a.2.2.1,none⟩
def xg:Hn SI:=(.s .z (.s .z (.s (.s .z (.s .z (.s .z (.b (.l ⟨[(9,(.v af))],[(0,.l af),(1512,.c 1 [[(.v (.int .u64))]])],[0,1,6,7,8],[],2280,[]⟩ 0 ⟨[],[(0,.l af)],[],[],2280,[]⟩ (.s .z (.s (.b (.s .z (.s (.j ⟨[(10,(.v af))],[],[0,1,6,7,8,9],[0,1512],3176,[]⟩ .z) .z))) .z))))))) .z)))
theorem xh (n:Nat):aS 96 (w9 n) :=cq (aB qj (aB rJ aH)) Tryz.func96 xg n
def Fy:Sig xx:=⟨[.d (.sl af),.d af,.d af,.mref af],[.d af,.d af,.mr af],fun a=>G9 a.1 a.2.1 a.2.2.1 a.2.2.2.1,none⟩
theorem Fz:aS 143 Fy :=cq (aB jP aH) Tryz.func143 .z 0
def FB:Sig xx:=⟨[.d (.sl af),.d af,.d af,.d af,.mref af],[.d af,.mr af],fun a=>He a.1 a.2.1 a.2.2.1 a.2.2.2.1 a.2.2.2.2.1,none⟩
theorem uD:aS 128 FB :=cq (aB Fz aH) Tryz.func128 .z 0
def vv:Sig xx:=⟨[.d (.sl af),.d af,.mref af],[.d af,.mr af],fun a=>xI a.1 a.2.1 a.2.2.1,none⟩
theorem vw:aS 127 vv :=cq (aB uD aH) Tryz.func127 .z 0
def yY:Sig xx:=⟨[.d (.sl af),.d af,.d af],[.d af,.d af],fun a=>Aq a.1 a.2.1 a.2.2.1,none⟩
def yZ:Hn SI:=(.s .z (.s .z (.s .z (.s .z (.s .z (.s .z (.s (.j ⟨[(11,(.v af))],[(1384,.c 1 [[(.v af)]])],[9],[],2600,[]⟩ (.s .z (.s (.s (.j ⟨[(10,(.v af)),(11,(.v af)),(12,(.v af))],[(1384,.c 1 [[(.v af)]])],[0,9],[],2728,[]⟩ .z) .z) .z))) .z)))))))
theorem y5:aS 97 yY :=cq (aB vw (aB uD aH)) Tryz.func97 yZ 0
def xS (n:Nat):Sig xx:=⟨[.mut af,.d af,.d af],[.mu af],fun a=>zL n a.1 a.2.1 a.2.2.1,none⟩
def xU:Hn SI:=(.s .z (.s .z (.b (.l ⟨[(6,(.v af)),(7,(.v af))],[(0,.l af)],[0],[],1320,[]⟩ 0 ⟨[],[(0,.l af)],[],[],1320,[]⟩ .z))))
theorem xV (n:Nat):aS 98 (xS n) :=cq aH Tryz.func98 xU n
def ql (n:Nat):Sig xx:=⟨[.mut af,.d af,.d af],[.d .bool,.mu af],fun a=>rD n a.1 a.2.1 a.2.2.1,none⟩
def qm:Hn SI:=(.s .z (.s .z (.s (.s .z (.b (.lx ⟨[(7,(.v af)),(8,(.v af))],[(0,.l af)],[0,1,2],[],1320,[]⟩ 0 ⟨[],[(0,.l af)],[],[],1320,[]⟩ (.s .z (.s (.jx ⟨[(7,(.v af))],[(0,.l af)],[0,1,2,8],[],1448,[]⟩ (.b (.s (.b (.l ⟨[(7,(.v af))],[],[0,1,2,8],[0],1448,[]⟩ 2 ⟨[(7,(.v af))],[],[0,1,2,8],[0],1448,[]⟩ (.s (.s (.j ⟨[(32,(.v .bool))],[],[0,1,2,7,8],[0],1448,[]⟩ .z) .z) .z))) (.s .z (.s .z (.s .z (.s (.j ⟨[],[(0,.l af)],[0,1,2,7,8],[],3048,[]⟩ (.s .z (.s (.s .z (.b (.l ⟨[(9,(.v af))],[(0,.l af)],[0,1,2,7,8],[],3496,[]⟩ 4 ⟨[],[(0,.l af)],[0,1,2,7,8],[],3496,[]⟩ .z))) .z))) (.s .z (.s (.s .z (.b (.l ⟨[(10,(.v af))],[(0,.l af)],[0,1,2,7,8],[],3496,[]⟩ 6 ⟨[],[(0,.l af)],[0,1,2,7,8],[],3496,[]⟩ .z))) .z))))))))) .z))))) .z)))
theorem qo (n:Nat):aS 99 (ql n) :=cq (aB jP aH) Tryz.func99 qm n
def vz (n:Nat):Sig xx:=⟨[.mut af,.d af,.d af,.d af],[.d af,.mu af],fun a=>xJ n a.1 a.2.1 a.2.2.1 a.2.2.2.1,none⟩
def vB:Hn SI:=(.s .z (.s .z (.s .z (.s (.b (.l ⟨[(9,(.v af)),(10,(.v af))],[(0,.l af)],[0,1],[],2472,[]⟩ 0 ⟨[(9,(.v af))],[(0,.l af)],[],[],2472,[]⟩ (.b (.s (.b (.l ⟨[(9,(.v af))],[],[0,1,10],[0],2472,[]⟩ 2 ⟨[(9,(.v af))],[],[0,1,10],[0],2472,[]⟩ (.s (.s (.j ⟨[(43,(.v .bool))],[],[0,1,9,10],[0],2472,[]⟩ .z) .z) .z))) (.s (.b (.l ⟨[(10,(.v af))],[],[0,1,9],[0],2472,[]⟩ 4 ⟨[(10,(.v af))],[],[0,1,9],[0],2472,[]⟩ (.s (.s (.j ⟨[(59,(.v .bool))],[],[0,1,9,10],[0],2472,[]⟩ .z) .z) .z))) .z))))) .z))))
theorem vC (n:Nat):aS 101 (vz n) :=cq (aB jP aH) Tryz.func101 vB n
def Au (n:Nat):Sig xx:=⟨[.mut af,.d af,.d af,.d af],[.d af,.d .bool,.mu af],fun a=>Di n a.1 a.2.1 a.2.2.1 a.2.2.2.1,none⟩
def Av:Hn SI:=(.s .z (.s .z (.s .z (.s (.b (.l ⟨[(10,(.v af))],[],[0,1,11],[0],2536,[]⟩ 0 ⟨[(10,(.v af))],[],[0,1,11],[0],2536,[]⟩ (.s (.s (.j ⟨[(43,(.v .bool))],[],[0,1,10,11],[0],2536,[]⟩ .z) .z) .z))) (.s (.b (.l ⟨[(11,(.v af))],[],[0,1,10],[0],2536,[]⟩ 2 ⟨[(11,(.v af))],[],[0,1,10],[0],2536,[]⟩ (.s (.s (.j ⟨[(60,(.v .bool))],[],[0,1,10,11],[0],2536,[]⟩ .z) .z) .z))) (.s .z (.s .z (.s .z (.s .z (.s (.b (.l ⟨[(10,(.v af)),(11,(.v af))],[(0,.l af)],[0,1],[],4136,[]⟩ 4 ⟨[(11,(.v af))],[(0,.l af)],[0,1],[],4136,[]⟩ (.b (.s (.b (.l ⟨[(10,(.v af))],[],[0,1,11],[0],4136,[]⟩ 6 ⟨[(10,(.v af))],[],[0,1,11],[0],4136,[]⟩ (.s (.s (.j ⟨[(112,(.v .bool))],[],[0,1,10,11],[0],4136,[]⟩ .z) .z) .z))) (.s (.b (.l ⟨[(11,(.v af))],[],[0,1,10],[0],4136,[]⟩ 8 ⟨[(11,(.v af))],[],[0,1,10],[0],4136,[]⟩ (.s (.s (.j ⟨[(129,(.v .bool))],[],[0,1,10,11],[0],4136,[]⟩ .z) .z) .z))) .z))))) .z))))))))))
theorem Aw (n:Nat):aS 102 (Au n) :=cq (aB jP aH) Tryz.func102 Av n
def DZ:Hn SI:=(.s .z (.s .z (.b (.lx ⟨[(1,(.v af)),(2,(.v af)),(3,(.v af)),(8,(.v .bool)),(9,(.v .bool))],[(0,.l af)],[0],[],1128,[]⟩ 999999 ⟨[],[],[],[],1128,[]⟩ (.b (.s .z (.s .z (.s .z (.s (.j ⟨[(3,(.v af))],[(0,.l af)],[0,1,2,8,9,10],[],1640,[]⟩ .z) (.s .z (.s (.j ⟨[(11,(.v af)),(12,(.v af))],[(0,.l af)],[0,1,2,3,8,9,10],[],2216,[]⟩ .z) (.s (.jx ⟨[],[(0,.l af)],[0,1,2,3,8,9,10,11],[],2216,[]⟩ (.s (.j ⟨[(68,(.v .bool))],[],[0,1,2,3,8,9,10,11],[0],2216,[]⟩ .z) .z)) (.s (.s (.j ⟨[(87,(.v .bool))],[],[0,1,2,3,8,9,10,11],[0],2216,[]⟩ .z) .z) .z)))))))))))))
theorem Ct (n:Nat) (rc:((List Int))->(Int)->(Int)->(Int)->Option (List Int)) (hr:aS 72 (kQ rc)):aS 72 (kQ (lu n rc)) :=cq (aB (wZ n) (aB (Cs n) (aB (xh n) (aB y5 (aB (xV n) (aB (qo n) (aB jP (aB (vC n) (aB (Aw n) (aB hr aH)))))))))) Tryz.func72 DZ n
theorem qV (n:Nat):∀ m,aS 72 (kQ (gU n m))
 | 0=>cok (wK Tryz.func72 (by kernel_rfl:Tryz.f72.body=some (Tryz.f72.body.getD .skip)) (by kernel_rfl)) (fun _ _ h=>(by cases h)) rfl
 |m+1=>Ct n _ (qV n m)
def D5 (n:Nat):Sig xx:=⟨[.mut af,.d af,.d af,.d af],[.mu af],fun a=>nP n a.1 a.2.1 a.2.2.1 a.2.2.2.1,none⟩
theorem D6 (n:Nat):aS 72 (D5 n):=qV n n
def WH (n:Nat):Sig xx:=⟨[.mut af],[.mu af],fun a=>l9 n a.1,none⟩
theorem wE (n:Nat):aS 42 (WH n) :=cq (aB Fx (aB (D6 n) aH)) Tryz.func42 .z n
def PN (n:Nat):Sig xx:=⟨[.mut af],[.whole 0,.mu af],fun a=>lD n a.1,none⟩
def PO:Hn SI:=(.s .z (.s .z (.s (.s .z (.b (.lx ⟨[(3,(.v af))],[],[0],[0],1320,[]⟩ 0 ⟨[],[],[0],[0],1320,[]⟩ (.s .z (.s (.b (.s .z (.s (.s .z (.s (.s .z (.b (.l ⟨[(3,(.v af)),(5,(.v af))],[(0,.l af)],[0,4],[],2536,[]⟩ 2 ⟨[(3,(.v af))],[(0,.l af)],[0],[],2536,[]⟩ (.s .z (.s (.j ⟨[(3,(.v af))],[(0,.l af)],[0,4,5],[],2792,[]⟩ .z) .z))))) .z)) .z))) .z))))) .z)))
theorem pM (n:Nat):aS 43 (PN n) :=cq aH Tryz.func43 PO n
def vD (n:Nat):Sig xx:=⟨[.mut (.st SI.span),.d af,.d af,.clo [(.st SI.span),(.st SI.span)] af],[.mu (.st SI.span)],fun a=>xK n a.1 a.2.1 a.2.2.1 a.2.2.2.1,none⟩
def vE:Hn SI:=(.s .z (.b (.l ⟨[(8,(.v af))],[(0,.l (.st SI.span))],[0,1,2,3],[],1192,[]⟩ 0 ⟨[],[(0,.l (.st SI.span))],[],[],1192,[]⟩ (.s .z (.s (.b (.s .z (.b (.l ⟨[(9,(.v af))],[(0,.l (.st SI.span))],[0,1,2,3,8],[],1512,[]⟩ 2 ⟨[],[(0,.l (.st SI.span))],[0,1,2,3,8],[],1512,[]⟩ (.s (.s (.j ⟨[(34,(.v .bool))],[],[0,1,2,3,8,9],[0],1512,[]⟩ .z) .z) .z))))) .z)))))
theorem vF (n:Nat):aS 159 (vD n) :=cq aH Tryz.func159 vE n
def Ay (n:Nat):Sig xx:=⟨[.mut (.st SI.span),.d af,.d af,.d af,.clo [(.st SI.span),(.st SI.span)] af],[.mu (.st SI.span)],fun a=>Dj n a.1 a.2.1 a.2.2.1 a.2.2.2.1 a.2.2.2.2.1,none⟩
def Az:Hn SI:=(.s .z (.b (.lx ⟨[(10,(.v af))],[(0,.l (.st SI.span))],[0,2,3,4],[],1128,[]⟩ 0 ⟨[],[(0,.l (.st SI.span))],[],[],1128,[]⟩ (.b (.s .z (.s .z (.s (.j ⟨[(11,(.v af))],[],[0,2,3,4,10],[0],1576,[]⟩ (.s (.j ⟨[(40,(.v .bool))],[],[0,2,3,4,10,11],[0],1576,[]⟩ .z) .z)) .z)))))))
theorem AA (n:Nat):aS 176 (Ay n) :=cq aH Tryz.func176 Az n
def AB (n:Nat):Sig xx:=⟨[.mut (.st SI.span),.d af,.d af,.clo [(.st SI.span),(.st SI.span)] af],[.mu (.st SI.span)],fun a=>Dk n a.1 a.2.1 a.2.2.1 a.2.2.2.1,none⟩
def AJ:Hn SI:=(.s .z (.s .z (.s .z (.s (.s .z (.b (.l ⟨[(11,(.v af))],[(0,.l (.st SI.span))],[0,3,8,9,10],[],1704,[]⟩ 0 ⟨[],[(0,.l (.st SI.span))],[0,3,8,9,10],[],1704,[]⟩ .z))) (.s .z (.b (.l ⟨[(12,(.v af))],[(0,.l (.st SI.span))],[0,3,8,9],[],1896,[]⟩ 2 ⟨[],[(0,.l (.st SI.span))],[],[],1896,[]⟩ .z)))))))
theorem AL (n:Nat):aS 160 (AB n) :=cq (aB (AA n) aH) Tryz.func160 AJ n
def vG (n:Nat):Sig xx:=⟨[.mut (.st SI.span),.d af,.d af,.clo [(.st SI.span),(.st SI.span)] af],[.mu (.st SI.span)],fun a=>xL n a.1 a.2.1 a.2.2.1 a.2.2.2.1,none⟩
def vH:Hn SI:=(.s .z (.s .z (.s (.s .z (.s .z (.s .z (.b (.l ⟨[(11,(.v af))],[(0,.l (.st SI.span)),(1512,.c 1 [[(.v (.int .u64))]])],[0,1,8,9,10],[],2280,[]⟩ 0 ⟨[],[(0,.l (.st SI.span))],[],[],2280,[]⟩ (.s .z (.s (.b (.s .z (.s (.j ⟨[(12,(.v af))],[],[0,1,8,9,10,11],[0,1512],3176,[]⟩ .z) .z))) .z))))))) .z)))
theorem vI (n:Nat):aS 161 (vG n) :=cq (aB qj (aB rJ aH)) Tryz.func161 vH n
def D7:Sig xx:=⟨[.d (.sl (.st SI.span)),.d af,.d af,.mref af,.clo [(.st SI.span),(.st SI.span)] af],[.d af,.d af,.mr af],fun a=>FX a.1 a.2.1 a.2.2.1 a.2.2.2.1 a.2.2.2.2.1,none⟩
theorem D8:aS 180 D7 :=cq aH Tryz.func180 .z 0
def D9:Sig xx:=⟨[.d (.sl (.st SI.span)),.d af,.d af,.d af,.mref af,.clo [(.st SI.span),(.st SI.span)] af],[.d af,.mr af],fun a=>FY a.1 a.2.1 a.2.2.1 a.2.2.2.1 a.2.2.2.2.1 a.2.2.2.2.2.1,none⟩
theorem rY:aS 178 D9 :=cq (aB D8 aH) Tryz.func178 .z 0
def uI:Sig xx:=⟨[.d (.sl (.st SI.span)),.d af,.mref af,.clo [(.st SI.span),(.st SI.span)] af],[.d af,.mr af],fun a=>wN a.1 a.2.1 a.2.2.1 a.2.2.2.1,none⟩
theorem uJ:aS 177 uI :=cq (aB rY aH) Tryz.func177 .z 0
def xW:Sig xx:=⟨[.d (.sl (.st SI.span)),.d af,.d af,.clo [(.st SI.span),(.st SI.span)] af],[.d af,.d af],fun a=>zM a.1 a.2.1 a.2.2.1 a.2.2.2.1,none⟩
def xX:Hn SI:=(.s .z (.s .z (.s .z (.s .z (.s .z (.s .z (.s (.j ⟨[(13,(.v af))],[(1384,.c 1 [[(.v af)]])],[11],[],2600,[]⟩ (.s .z (.s (.s (.j ⟨[(12,(.v af)),(13,(.v af)),(14,(.v af))],[(1384,.c 1 [[(.v af)]])],[0,3,11],[],2728,[]⟩ .z) .z) .z))) .z)))))))
theorem xY:aS 162 xW :=cq (aB uJ (aB rY aH)) Tryz.func162 xX 0
def xk (n:Nat):Sig xx:=⟨[.mut (.st SI.span),.d af,.d af,.clo [(.st SI.span),(.st SI.span)] af],[.mu (.st SI.span)],fun a=>yG n a.1 a.2.1 a.2.2.1 a.2.2.2.1,none⟩
def xq:Hn SI:=(.s .z (.s .z (.b (.l ⟨[(8,(.v af)),(9,(.v af))],[(0,.l (.st SI.span))],[0],[],1320,[]⟩ 0 ⟨[],[(0,.l (.st SI.span))],[],[],1320,[]⟩ .z))))
theorem xu (n:Nat):aS 163 (xk n) :=cq aH Tryz.func163 xq n
def pO (n:Nat):Sig xx:=⟨[.mut (.st SI.span),.d af,.d af,.clo [(.st SI.span),(.st SI.span)] af],[.d .bool,.mu (.st SI.span)],fun a=>qB n a.1 a.2.1 a.2.2.1 a.2.2.2.1,none⟩
def pQ:Hn SI:=(.s .z (.s .z (.s (.s .z (.b (.lx ⟨[(9,(.v af)),(10,(.v af))],[(0,.l (.st SI.span))],[0,1,2,3],[],1320,[]⟩ 0 ⟨[],[(0,.l (.st SI.span))],[],[],1320,[]⟩ (.s .z (.s (.jx ⟨[(9,(.v af))],[(0,.l (.st SI.span))],[0,1,2,3,10],[],1448,[]⟩ (.b (.s (.b (.l ⟨[(9,(.v af))],[],[0,1,2,3,10],[0],1448,[]⟩ 2 ⟨[(9,(.v af))],[],[0,1,2,3,10],[0],1448,[]⟩ (.s (.s (.j ⟨[(36,(.v .bool))],[],[0,1,2,3,9,10],[0],1448,[]⟩ .z) .z) .z))) (.s .z (.s .z (.s .z (.s (.j ⟨[],[(0,.l (.st SI.span))],[0,1,2,3,9,10],[],3048,[]⟩ (.s .z (.s (.s .z (.b (.l ⟨[(11,(.v af))],[(0,.l (.st SI.span))],[0,1,2,3,9,10],[],3496,[]⟩ 4 ⟨[],[(0,.l (.st SI.span))],[0,1,2,3,9,10],[],3496,[]⟩ .z))) .z))) (.s .z (.s (.s .z (.b (.l ⟨[(12,(.v af))],[(0,.l (.st SI.span))],[0,1,2,3,9,10],[],3496,[]⟩ 6 ⟨[],[(0,.l (.st SI.span))],[0,1,2,3,9,10],[],3496,[]⟩ .z))) .z))))))))) .z))))) .z)))
theorem pR (n:Nat):aS 164 (pO n) :=cq aH Tryz.func164 pQ n
def uK (n:Nat):Sig xx:=⟨[.mut (.st SI.span),.d af,.d af,.d af,.clo [(.st SI.span),(.st SI.span)] af],[.d af,.mu (.st SI.span)],fun a=>wO n a.1 a.2.1 a.2.2.1 a.2.2.2.1 a.2.2.2.2.1,none⟩
def uL:Hn SI:=(.s .z (.s .z (.s .z (.s (.b (.l ⟨[(11,(.v af)),(12,(.v af))],[(0,.l (.st SI.span))],[0,1,4],[],2472,[]⟩ 0 ⟨[(11,(.v af))],[(0,.l (.st SI.span))],[],[],2472,[]⟩ (.b (.s (.b (.l ⟨[(11,(.v af))],[],[0,1,4,12],[0],2472,[]⟩ 2 ⟨[(11,(.v af))],[],[0,1,4,12],[0],2472,[]⟩ (.s (.s (.j ⟨[(47,(.v .bool))],[],[0,1,4,11,12],[0],2472,[]⟩ .z) .z) .z))) (.s (.b (.l ⟨[(12,(.v af))],[],[0,1,4,11],[0],2472,[]⟩ 4 ⟨[(12,(.v af))],[],[0,1,4,11],[0],2472,[]⟩ (.s (.s (.j ⟨[(65,(.v .bool))],[],[0,1,4,11,12],[0],2472,[]⟩ .z) .z) .z))) .z))))) .z))))
theorem uM (n:Nat):aS 165 (uK n) :=cq aH Tryz.func165 uL n
def Ad (n:Nat):Sig xx:=⟨[.mut (.st SI.span),.d af,.d af,.d af,.clo [(.st SI.span),(.st SI.span)] af],[.d af,.d .bool,.mu (.st SI.span)],fun a=>Ce n a.1 a.2.1 a.2.2.1 a.2.2.2.1 a.2.2.2.2.1,none⟩
def Ae:Hn SI:=(.s .z (.s .z (.s .z (.s (.b (.l ⟨[(12,(.v af))],[],[0,1,4,13],[0],2536,[]⟩ 0 ⟨[(12,(.v af))],[],[0,1,4,13],[0],2536,[]⟩ (.s (.s (.j ⟨[(47,(.v .bool))],[],[0,1,4,12,13],[0],2536,[]⟩ .z) .z) .z))) (.s (.b (.l ⟨[(13,(.v af))],[],[0,1,4,12],[0],2536,[]⟩ 2 ⟨[(13,(.v af))],[],[0,1,4,12],[0],2536,[]⟩ (.s (.s (.j ⟨[(66,(.v .bool))],[],[0,1,4,12,13],[0],2536,[]⟩ .z) .z) .z))) (.s .z (.s .z (.s .z (.s .z (.s (.b (.l ⟨[(12,(.v af)),(13,(.v af))],[(0,.l (.st SI.span))],[0,1,4],[],4136,[]⟩ 4 ⟨[(13,(.v af))],[(0,.l (.st SI.span))],[0,1],[],4136,[]⟩ (.b (.s (.b (.l ⟨[(12,(.v af))],[],[0,1,4,13],[0],4136,[]⟩ 6 ⟨[(12,(.v af))],[],[0,1,4,13],[0],4136,[]⟩ (.s (.s (.j ⟨[(120,(.v .bool))],[],[0,1,4,12,13],[0],4136,[]⟩ .z) .z) .z))) (.s (.b (.l ⟨[(13,(.v af))],[],[0,1,4,12],[0],4136,[]⟩ 8 ⟨[(13,(.v af))],[],[0,1,4,12],[0],4136,[]⟩ (.s (.s (.j ⟨[(139,(.v .bool))],[],[0,1,4,12,13],[0],4136,[]⟩ .z) .z) .z))) .z))))) .z))))))))))
theorem Af (n:Nat):aS 166 (Ad n) :=cq aH Tryz.func166 Ae n
def Cu:Hn SI:=(.s .z (.s .z (.b (.lx ⟨[(1,(.v af)),(2,(.v af)),(3,(.v af)),(10,(.v .bool)),(11,(.v .bool))],[(0,.l (.st SI.span))],[0,4],[],1128,[]⟩ 999999 ⟨[],[],[],[],1128,[]⟩ (.b (.s .z (.s .z (.s .z (.s (.j ⟨[(3,(.v af))],[(0,.l (.st SI.span))],[0,1,2,4,10,11,12],[],1640,[]⟩ .z) (.s .z (.s (.j ⟨[(13,(.v af)),(14,(.v af))],[(0,.l (.st SI.span))],[0,1,2,3,4,10,11,12],[],2280,[]⟩ .z) (.s (.jx ⟨[],[(0,.l (.st SI.span))],[0,1,2,3,4,10,11,12,13],[],2280,[]⟩ (.s (.j ⟨[(75,(.v .bool))],[],[0,1,2,3,4,10,11,12,13],[0],2280,[]⟩ .z) .z)) (.s (.s (.j ⟨[(97,(.v .bool))],[],[0,1,2,3,4,10,11,12,13],[0],2280,[]⟩ .z) .z) .z)))))))))))))
theorem AO (n:Nat) (rc:((List aL))->(Int)->(Int)->(Int)->((aL×aL×Unit)->Option Int)->Option (List aL)) (hr:aS 142 (jU rc)):aS 142 (jU (iU n rc)) :=cq (aB (vF n) (aB (AL n) (aB (vI n) (aB xY (aB (xu n) (aB (pR n) (aB (uM n) (aB (Af n) (aB hr aH))))))))) Tryz.func142 Cu n
theorem p9 (n:Nat):∀ m,aS 142 (jU (eH n m))
 | 0=>cok (wK Tryz.func142 (by kernel_rfl:Tryz.f142.body=some (Tryz.f142.body.getD .skip)) (by kernel_rfl)) (fun _ _ h=>(by cases h)) rfl
 |m+1=>AO n _ (p9 n m)
def Cv (n:Nat):Sig xx:=⟨[.mut (.st SI.span),.d af,.d af,.d af,.clo [(.st SI.span),(.st SI.span)] af],[.mu (.st SI.span)],fun a=>mJ n a.1 a.2.1 a.2.2.1 a.2.2.2.1 a.2.2.2.2.1,none⟩
theorem Cw (n:Nat):aS 142 (Cv n):=p9 n n
def K8 (n:Nat):Sig xx:=⟨[.mut (.st SI.span),.clo [(.st SI.span),(.st SI.span)] af],[.mu (.st SI.span)],fun a=>oW n a.1 a.2.1,none⟩
theorem K9 (n:Nat):aS 122 (K8 n) :=cq (aB Fx (aB (Cw n) aH)) Tryz.func122 .z n
def ND:Sig xx:=⟨[.d af,.d af],[.d af],fun a=>cmp_Compare_int a.1 a.2.1,none⟩
theorem og:aS 111 ND :=cq (aB FT aH) Tryz.func111 .z 0
def Vs:Sig xx:=⟨[.d (.st SI.span),.d (.st SI.span)],[.d af],fun a=>yH a.1 a.2.1,none⟩
theorem Vt:aS 123 Vs :=cq (aB og aH) Tryz.func123 .z 0
def acP (n:Nat):Sig xx:=⟨[.d (.sl ay),.d af],[.fresh (.st SI.span)],fun a=>Jf n a.1 a.2.1,none⟩
def acQ:Hn SI:=(.s .z (.s .z (.s (.s .z (.b (.l ⟨[(5,(.o 1320)),(14,(.v af))],[(1320,.l (.st SI.span))],[1,12,13],[],1321,[(5,(.st SI.span))]⟩ 0 ⟨[(5,(.o 1320))],[(1320,.l (.st SI.span))],[],[],1321,[]⟩ (.s .z (.s .z (.s (.j ⟨[(5,(.o 1385))],[(1385,.l (.st SI.span))],[1,12,13,14],[],1386,[]⟩ (.b (.s .z (.s (.j ⟨[(27,(.v .bool))],[],[1,5,7,12,13,14],[1320,1513],1641,[]⟩ .z) .z)))) .z)))))) (.s .z (.s .z (.s (.s .z (.b (.l ⟨[(8,(.o 1705)),(41,(.v af))],[(1705,.l (.st SI.span))],[39,40],[1320],1706,[(8,(.st SI.span))]⟩ 2 ⟨[(8,(.o 1705))],[(1705,.l (.st SI.span))],[],[],1706,[]⟩ (.s .z (.s .z (.s (.j ⟨[(8,(.o 1770))],[(1770,.l (.st SI.span))],[39,40,41],[1320],1771,[]⟩ (.b (.s .z (.s .z (.s (.j ⟨[(59,(.v .bool))],[],[8,10,11,39,40,41],[1320,1705,1898],2218,[]⟩ .z) .z))))) .z)))))) .z))))))
theorem acR (n:Nat):aS 93 (acP n) :=cq (aB (K9 n) (aB Vt aH)) Tryz.func93 acQ n
def acS (n:Nat):Sig xx:=⟨[.d (.sl (.sl ay))],[.fresh (.st SI.strip)],fun a=>Jg n a.1,none⟩
def acT:Hn SI:=(.s .z (.s .z (.s .z (.s (.s .z (.b (.l ⟨[(4,(.o 1512)),(13,(.v af))],[(1512,.l af)],[3,11,12],[1128],1513,[(4,af)]⟩ 0 ⟨[(4,(.o 1512))],[(1512,.l af)],[3],[1128],1513,[]⟩ .z))) (.s .z (.s .z (.s .z (.s (.s .z (.b (.l ⟨[(7,(.o 1961)),(8,(.v af))],[(1961,.l (.st SI.strip))],[3,4],[1128,1512],1962,[(7,(.st SI.strip))]⟩ 2 ⟨[(7,(.o 1961))],[(1961,.l (.st SI.strip))],[],[],1962,[]⟩ .z))) .z))))))))
theorem acU (n:Nat):aS 71 (acS n) :=cq (aB (PL n) (aB (wE n) (aB (pM n) (aB (acR n) aH)))) Tryz.func71 acT n
def RA (n:Nat):Sig xx:=⟨[.d (.sl (.st SI.span)),.d (.sl (.st SI.span))],[.d .bool],fun a=>vS n a.1 a.2.1,none⟩
def RB:Hn SI:=(.s .z (.s .z (.s (.s .z (.b (.lx ⟨[(13,(.v af))],[],[0,1,12],[],1576,[]⟩ 0 ⟨[],[],[],[],1576,[]⟩ .z))) .z)))
theorem RD (n:Nat):aS 91 (RA n) :=cq aH Tryz.func91 RB n
def afi (n:Nat):Sig xx:=⟨[.d (.sl (.st SI.strip))],[.fresh ay],fun a=>MC n a.1,none⟩
def afj:Hn SI:=(.s .z (.s .z (.s (.s .z (.b (.l ⟨[(3,(.o 1192)),(4,(.v af))],[(1192,.l ay)],[0],[],1193,[(3,ay)]⟩ 0 ⟨[(3,(.o 1192))],[(1192,.l ay)],[],[],1193,[]⟩ (.s .z (.b (.s .z (.s (.b (.l ⟨[(5,(.v af))],[],[0,3,4],[1192],1641,[]⟩ 2 ⟨[(5,(.v af))],[],[0,3,4],[1192],1641,[]⟩ (.s (.s (.j ⟨[(30,(.v .bool))],[],[0,3,4,5],[1192],1641,[]⟩ .z) .z) .z))) (.s (.s .z (.b (.l ⟨[(3,(.o 2089)),(39,(.v af))],[(2089,.l ay)],[0,4,5,37,38],[],2090,[]⟩ 4 ⟨[(3,(.o 2089))],[(2089,.l ay)],[0,5],[],2090,[]⟩ .z))) .z)))))))) .z)))
theorem afk (n:Nat):aS 70 (afi n) :=cq (aB (RD n) aH) Tryz.func70 afj n
def aaj:Sig xx:=⟨[.d (.sl ay)],[.d (.sl ay),.d af],fun a=>KD a.1,none⟩
theorem aak:aS 69 aaj :=cq aH Tryz.func69 .z 0
def ajW (n:Nat):Sig xx:=⟨[.d (.sl ay)],[.d (.sl ay),.d af],fun a=>agt n a.1,none⟩
def ajX:Hn SI:=(.s .z (.s (.s .z (.b (.lx ⟨[(8,(.v af))],[],[0,6,7],[],1320,[]⟩ 0 ⟨[],[],[0],[],1320,[]⟩ .z))) .z))
theorem ajY (n:Nat):aS 39 (ajW n) :=cq (aB DY (aB (acU n) (aB (afk n) (aB aak aH)))) Tryz.func39 ajX n
def RF (n:Nat):Sig xx:=⟨[.d (.sl ay),.d (.sl ay)],[.d .bool],fun a=>nG n a.1 a.2.1,none⟩
def RG:Hn SI:=(.s .z (.s .z (.s (.s .z (.b (.lx ⟨[(13,(.v af))],[],[0,1,12],[],1576,[]⟩ 0 ⟨[],[],[],[],1576,[]⟩ .z))) .z)))
theorem FU (n:Nat):aS 36 (RF n) :=cq aH Tryz.func36 RG n
def afl (n:Nat):Sig xx:=⟨[.d (.sl ay)],[.d .bool],fun a=>sV n a.1,none⟩
theorem Ag (n:Nat):aS 20 (afl n) :=cq (aB (ajY n) (aB (FU n) aH)) Tryz.func20 .z n
def PS (n:Nat):Sig xx:=⟨[.d (.sl fC)],[.fresh (.st SI.side)],fun a=>oH n a.1,none⟩
def PU:Hn SI:=(.s .z (.s .z (.s (.s .z (.b (.l ⟨[(10,(.v af))],[(1192,.l (.st SI.side))],[0,3,9],[],1512,[]⟩ 0 ⟨[],[(1192,.l (.st SI.side))],[3],[],1512,[]⟩ .z))) .z)))
theorem Ea (n:Nat):aS 154 (PS n) :=cq aH Tryz.func154 PU n
def PV:Sig xx:=⟨[.d fC],[.d .bool],fun a=>sW a.1,none⟩
theorem PW:aS 170 PV :=cq aH Tryz.func170 .z 0
def FC:Sig xx:=⟨[.d (.st SI.side)],[.d .bool],fun a=>gV a.1,none⟩
theorem uE:aS 155 FC :=cq aH Tryz.func155 .z 0
def aal (n:Nat):Sig xx:=⟨[.d (.sl af)],[.d af],fun a=>rE n a.1,none⟩
def aam:Hn SI:=(.s .z (.s .z (.s (.s .z (.b (.lx ⟨[(8,(.v af))],[],[3,6,7],[],1320,[]⟩ 0 ⟨[],[],[3],[],1320,[]⟩ .z))) .z)))
theorem NE (n:Nat):aS 136 (aal n) :=cq aH Tryz.func136 aam n
def NF (n:Nat):Sig xx:=⟨[.d fC,.d fC],[.d af],fun a=>qY n a.1 a.2.1,none⟩
theorem NG (n:Nat):aS 171 (NF n) :=cq (aB og (aB (NE n) aH)) Tryz.func171 .z n
def FD:Sig xx:=⟨[.d (.st SI.side),.d (.st SI.side)],[.d .bool],fun a=>ko a.1 a.2.1,none⟩
theorem FE:aS 172 FD :=cq aH Tryz.func172 .z 0
def RH (n:Nat):Sig xx:=⟨[.d (.sl fC)],[.d .bool],fun a=>vU n a.1,none⟩
def RI:Hn SI:=(.s .z (.s (.s (.j ⟨[(16,(.v .bool))],[],[0],[],1064,[]⟩ .z) .z) (.s .z (.s (.s .z (.b (.lx ⟨[(21,(.v af))],[],[0,3,19,20],[1128],1448,[]⟩ 0 ⟨[],[],[3],[1128],1448,[]⟩ (.s .z (.s .z (.s (.b (.s .z (.s .z (.s (.s (.j ⟨[(61,(.v .bool))],[],[0,3,4,19,20,21],[1128],2536,[]⟩ .z) .z) (.s (.j ⟨[(74,(.v .bool))],[],[0,3,19,20,21],[1128],2536,[]⟩ .z) .z))))) .z)))))) (.s (.s .z (.b (.lx ⟨[(78,(.v af))],[],[3,77],[1128],1640,[]⟩ 2 ⟨[],[],[3],[1128],1640,[]⟩ (.s .z (.s .z (.s (.b (.s .z (.s .z (.b (.lx ⟨[(8,(.v af))],[],[3,7,77,78],[1128],2024,[]⟩ 4 ⟨[],[],[3,77,78],[1128],2024,[]⟩ (.s .z (.s (.b (.s (.j ⟨[(106,(.v .bool))],[],[3,7,8,77,78],[1128],2280,[]⟩ .z) .z)) .z))))))) .z)))))) .z)))))
theorem RJ (n:Nat):aS 153 (RH n) :=cq (aB (Ea n) (aB PW (aB uE (aB (NG n) (aB FE aH))))) Tryz.func153 RI n
def PX (n:Nat):Sig xx:=⟨[.d (.sl fC)],[.fresh ay,.d af],fun a=>sZ n a.1,none⟩
def PY:Hn SI:=(.s .z (.s .z (.s .z (.s (.s .z (.b (.l ⟨[(4,(.o 1576)),(19,(.v af))],[(1576,.l af)],[0,17,18],[],1577,[(4,af)]⟩ 0 ⟨[(4,(.o 1576))],[(1576,.l af)],[0],[],1577,[]⟩ .z))) (.s .z (.s .z (.s .z (.s .z (.s (.s .z (.b (.l ⟨[(8,(.o 2409)),(38,(.v af))],[(2409,.l ay)],[4,7,37],[1576,1961],2410,[(8,ay)]⟩ 2 ⟨[(8,(.o 2409))],[(2409,.l ay)],[],[],2410,[]⟩ (.s .z (.s .z (.s (.b (.s .z (.s .z (.s (.s .z (.b (.l ⟨[(10,(.o 2858)),(43,(.v af))],[(2858,.l af)],[4,7,8,9,37,38,41,42],[1576,1961,2409],2859,[(10,af)]⟩ 4 ⟨[(10,(.o 2858))],[(2858,.l af)],[4,7,8,9,37,38],[1576,1961,2409],2859,[]⟩ (.s .z (.s .z (.s (.j ⟨[(10,(.o 2923))],[(2923,.l af)],[4,7,8,9,37,38,41,42,43],[1576,1961,2409],2924,[]⟩ (.b (.s .z (.s (.j ⟨[(77,(.v .bool))],[],[4,7,8,9,10,12,37,38,41,42,43],[1576,1961,2409,2858,3051],3179,[]⟩ .z) .z)))) .z)))))) (.s .z (.s .z (.b (.l ⟨[(8,(.o 3051)),(13,(.v af))],[(3051,.l ay)],[4,7,9,10,37,38],[1576,1961,2858],3052,[]⟩ 6 ⟨[(8,(.o 3051))],[(3051,.l ay)],[4,7,37,38],[1576,1961],3052,[]⟩ .z)))))))) .z)))))) .z)))))))))
theorem PZ (n:Nat):aS 137 (PX n) :=cq (aB (RJ n) (aB (wE n) (aB (pM n) (aB (Ea n) (aB uE aH))))) Tryz.func137 PY n
def Vu (n:Nat):Sig xx:=⟨[.d (.st SI.Zone)],[.fresh ay],fun a=>yI n a.1,none⟩
theorem Vv (n:Nat):aS 117 (Vu n) :=cq (aB (PZ n) aH) Tryz.func117 .z n
def acV:Sig xx:=⟨[.d ay],[.d ay,.d .bool],fun a=>Dl a.1,none⟩
theorem Q7:aS 152 acV :=cq (aB DY aH) Tryz.func152 .z 0
def WI:Sig xx:=⟨[.d ay,.d ay],[.d ay,.d .bool],fun a=>Bl a.1 a.2.1,none⟩
def WJ:Hn SI:=(.s .z (.s (.s (.j ⟨[(13,(.v .bool))],[],[2,3,4],[1000,1064,1128],1256,[]⟩ .z) .z) .z))
theorem WK:aS 134 WI :=cq (aB DY (aB Q7 aH)) Tryz.func134 WJ 0
def aiZ:Sig xx:=⟨[.d ay],[.d af],fun a=>ZE a.1,none⟩
theorem ai0:aS 135 aiZ :=cq (aB Q7 aH) Tryz.func135 .z 0
def RL (n:Nat):Sig xx:=⟨[.d (.sl ay),.d (.sl ay)],[.d af,.d fC],fun a=>vV n a.1 a.2.1,none⟩
def RN:Hn SI:=(.s .z (.s .z (.s (.s .z (.b (.l ⟨[(6,(.v af)),(18,(.v af))],[(1192,.c 2 [[(.v af),(.v af)]])],[1,5,7,16,17],[1064],1576,[]⟩ 0 ⟨[(6,(.v af))],[(1192,.c 2 [[(.v af),(.v af)]])],[5,7],[1064],1576,[]⟩ (.s .z (.s .z (.s (.b (.s .z (.s .z (.b (.l ⟨[(6,(.v af)),(24,(.v af))],[(1192,.c 2 [[(.v af),(.v af)]])],[1,5,7,9,16,17,18,22,23],[1064,1768],2088,[]⟩ 2 ⟨[(6,(.v af))],[(1192,.c 2 [[(.v af),(.v af)]])],[1,5,7,16,17,18],[1064],2088,[]⟩ (.s .z (.s .z (.s (.j ⟨[(6,(.v af))],[(1192,.c 2 [[(.v af),(.v af)]])],[1,5,7,9,16,17,18,22,23,24],[1064,1768],2152,[]⟩ .z) .z)))))))) .z)))))) .z)))
theorem RO (n:Nat):aS 116 (RL n) :=cq (aB WK (aB ai0 (aB og (aB (NE n) aH)))) Tryz.func116 RN n
def RP (n:Nat):Sig xx:=⟨[.d (.st SI.Plan),.d (.sl ay)],[.fresh af],fun a=>vW n a.1 a.2.1,none⟩
def RQ:Hn SI:=(.s .z (.s .z (.s .z (.s (.s .z (.b (.l ⟨[(5,(.o 1640)),(16,(.v af))],[(1640,.l af)],[1,14,15],[],1641,[(5,af)]⟩ 0 ⟨[(5,(.o 1640))],[(1640,.l af)],[],[],1641,[]⟩ .z))) .z))))
theorem RS (n:Nat):aS 88 (RP n) :=cq (aB (Ag n) (aB (Vv n) (aB (RO n) aH))) Tryz.func88 RQ n
def acW (n:Nat):Sig xx:=⟨[.d (.st SI.Plan),.d (.sl ay)],[.fresh .str],fun a=>Jh n a.1 a.2.1,none⟩
def acX:Hn SI:=(.s .z (.s .z (.s .z (.s (.s .z (.b (.l ⟨[(6,(.v af)),(17,(.v af))],[],[2,5,15,16],[1000,1256],1640,[]⟩ 0 ⟨[(6,(.v af))],[],[2,5],[1000,1256],1640,[]⟩ (.s .z (.s .z (.s (.j ⟨[(6,(.v af))],[],[2,5,15,16,17],[1000,1256],1704,[]⟩ (.b (.s .z (.s (.j ⟨[(44,(.v .bool))],[],[2,5,6,7,15,16,17],[1000,1256],2024,[]⟩ .z) .z)))) .z)))))) (.s .z (.s (.s .z (.b (.l ⟨[(9,(.o 1896)),(49,(.v af))],[(1896,.l .str)],[2,6,47,48],[1000,1256],1897,[(9,.str)]⟩ 2 ⟨[(9,(.o 1896))],[(1896,.l .str)],[],[],1897,[]⟩ (.s .z (.s .z (.s (.j ⟨[(9,(.o 1961))],[(1961,.l .str)],[2,6,47,48,49],[1000,1256],1962,[]⟩ (.b (.s .z (.s (.j ⟨[(68,(.v .bool))],[],[2,6,9,10,47,48,49],[1000,1256,1896],2281,[]⟩ .z) .z)))) .z)))))) .z))))))
theorem acY (n:Nat):aS 63 (acW n) :=cq (aB (RS n) aH) Tryz.func63 acX n
def NH (n:Nat):Sig xx:=⟨[.d (.sl .str),.d .str],[.d af],fun a=>xM n a.1 a.2.1,none⟩
def NI:Hn SI:=(.s .z (.s (.s .z (.b (.lx ⟨[(8,(.v af))],[],[0,1,7],[],1256,[]⟩ 0 ⟨[],[],[],[],1256,[]⟩ .z))) .z))
theorem NJ (n:Nat):aS 132 (NH n) :=cq aH Tryz.func132 NI n
def IB (n:Nat):Sig xx:=⟨[.d (.sl .str),.d .str],[.d .bool],fun a=>mK n a.1 a.2.1,none⟩
theorem IC (n:Nat):aS 114 (IB n) :=cq (aB (NJ n) aH) Tryz.func114 .z n
def La (n:Nat):Sig xx:=⟨[.d .str,.ref (.sl .str)],[.d .bool],fun a=>jE n a.1 a.2.1,none⟩
theorem Lb (n:Nat):aS 113 (La n) :=cq (aB (IC n) aH) Tryz.func113 .z n
def Gg (n:Nat):Sig xx:=⟨[.d (.sl .str),.clo [.str] .bool],[.d af],fun a=>qh n a.1 a.2.1,none⟩
def Gh:Hn SI:=(.s .z (.s (.s .z (.b (.lx ⟨[(8,(.v af))],[],[0,1,7],[],1256,[]⟩ 0 ⟨[],[],[],[],1256,[]⟩ .z))) .z))
theorem Gi (n:Nat):aS 133 (Gg n) :=cq aH Tryz.func133 Gh n
def Cx (n:Nat):Sig xx:=⟨[.d (.sl .str),.clo [.str] .bool],[.d .bool],fun a=>fU n a.1 a.2.1,none⟩
theorem Cy (n:Nat):aS 115 (Cx n) :=cq (aB (Gi n) aH) Tryz.func115 .z n
def RU (n:Nat):Sig xx:=⟨[.d (.st SI.Rule),.d (.sl .str)],[.d .bool],fun a=>qC n a.1 a.2.1,none⟩
theorem RX (n:Nat):aS 87 (RU n) :=cq (aB (Cy n) (aB (Lb n) aH)) Tryz.func87 .z n
def Vw (n:Nat):Sig xx:=⟨[.d (.st SI.Plan),.d (.sl .str),.d af],[.fresh af],fun a=>yK n a.1 a.2.1 a.2.2.1,none⟩
def Vx:Hn SI:=(.s .z (.s .z (.s (.s .z (.b (.l ⟨[(7,(.o 1448)),(13,(.v af))],[(1448,.l af)],[1,2,11,12],[],1449,[(7,af)]⟩ 0 ⟨[(7,(.o 1448))],[(1448,.l af)],[],[],1449,[]⟩ (.s .z (.s .z (.s (.j ⟨[(7,(.o 1513))],[(1513,.l af)],[1,2,11,12,13],[],1514,[]⟩ (.b (.s .z (.s (.j ⟨[(37,(.v .bool))],[],[1,2,7,8,11,12,13],[1448],1897,[]⟩ .z) .z)))) .z)))))) .z)))
theorem Vy (n:Nat):aS 62 (Vw n) :=cq (aB (RX n) aH) Tryz.func62 Vx n
def P5 (n:Nat):Sig xx:=⟨[.d (.st SI.Town),.d af,.d af],[.fresh (.st SI.Rule)],fun a=>oI n a.1 a.2.1 a.2.2.1,none⟩
def P6:Hn SI:=(.s .z (.s .z (.s .z (.s .z (.s (.s .z (.b (.l ⟨[(9,(.o 2664)),(31,(.v af))],[(2664,.l (.st SI.Rule))],[3,29,30],[1000,2472],2665,[(9,(.st SI.Rule))]⟩ 0 ⟨[(9,(.o 2664))],[(2664,.l (.st SI.Rule))],[],[],2665,[]⟩ .z))) .z)))))
theorem Eb (n:Nat):aS 30 (P5 n) :=cq (aB (YC n) (aB (acY n) (aB (Vy n) aH))) Tryz.func30 P6 n
def Lc:Sig xx:=⟨[.d (.st SI.Rule)],[.d af,.d .bool],fun a=>pu a.1,none⟩
def Ld:Hn SI:=(.s .z (.s (.s (.j ⟨[(22,(.v .bool))],[],[1],[1000],1192,[]⟩ .z) .z) (.s .z (.s (.j ⟨[(6,(.v .bool))],[],[4],[1832],2088,[]⟩ .z) .z))))
theorem Le:aS 31 Lc :=cq aH Tryz.func31 Ld 0
def JN (n:Nat):Sig xx:=⟨[.d (.st SI.Town),.d af,.d af],[.d af],fun a=>je n a.1 a.2.1 a.2.2.1,none⟩
def JO:Hn SI:=(.s .z (.s .z (.s (.s .z (.b (.l ⟨[(7,(.v af)),(17,(.v af))],[],[15,16],[1384],1576,[]⟩ 0 ⟨[(7,(.v af))],[],[],[],1576,[]⟩ (.s .z (.s .z (.s (.j ⟨[(7,(.v af))],[],[15,16,17],[1384],1640,[]⟩ .z) .z)))))) .z)))
theorem qp (n:Nat):aS 10 (JN n) :=cq (aB (Eb n) (aB Le aH)) Tryz.func10 JO n
def afm (n:Nat):Sig xx:=⟨[.d (.sl ay),.d af],[.d .bool],fun a=>UA n a.1 a.2.1,none⟩
theorem afn (n:Nat):aS 40 (afm n) :=cq (aB (Ag n) aH) Tryz.func40 .z n
noncomputable def Vz:Sig xx:=⟨[.d (.sl ay),.d af],[.fresh (.st SI.slab)],fun a=>Hf a.1 a.2.1,none⟩
noncomputable abbrev tn (n:Int):AV:= .t (.sc (.int .i64 n))
noncomputable abbrev gY (l:List bK):List (List AV):=aW (l.map Dh)
noncomputable abbrev qb (k:Nat) (s:bZ):List AV:=[tn s.x0,tn s.x1,.own k 0 s.column.length]
noncomputable def gM:Nat->List bZ->List (List AV)
 |_,[]=>[]
 |k,s::r=>qb k s::gM (k+1) r
noncomputable def hsF (pre:List bZ):Nat->Option bA:=fun k=>if 2000<=k then (pre[k - 2000]?).map fun s=>⟨2,gY s.column⟩else none
noncomputable def eT (A:List aj) (d i:Int) (out:AV):List (Nat×AV):=[(1,tn d),(5,out),(10,.t (.sl (A.map kg))),(11,tn (A.length:Int)),(12,tn i)]
noncomputable def aan (A:List aj) (d i:Int):GSt:=⟨eT A d i .nilsl,[],[]⟩
noncomputable def RY (A:List aj) (d i:Int) (pre:List bZ) (c:bZ):GSt:=
 ⟨eT A d i (.own 1000 0 (pre.length+1)),[(1000,some ⟨3,gM 2000 pre++[qb 1001 c]⟩),(1001,some ⟨2,gY c.column⟩)],[]⟩
noncomputable def RZ (A:List aj) (d i:Int) (l:List bZ):St:=
 match l.getLast? with
 |none=>(aan A d i).st (fun _=>none)
 |some c=>(RY A d i l.dropLast c).st (hsF l.dropLast)
noncomputable def cA:Code->Code
 | .seq a _=>a
 | .block _ c=>c
 | .loop c=>c
 | .cond _ a _=>a
 |c=>c
noncomputable def cB:Code->Code
 | .seq _ b=>b
 | .cond _ _ b=>b
 |c=>c
noncomputable def cO:Code->Array Oper
 | .region _ o _=>o
 |_=>#[]
noncomputable abbrev hsC:Code:=Tryz.f41.body.getD .skip
noncomputable abbrev hsB:Code:=cA (cA (cB (cA (cB (cB hsC)))))
noncomputable abbrev hsI:Code:=cA (cA (cB (cB hsB)))
noncomputable def an0:Ann:=⟨.none,[],[],false⟩
noncomputable def bx (r:aj):bA:=⟨4,[[tn r.x0,tn r.y0,tn r.x1,tn r.y1]]⟩
noncomputable def ald (r:aj):Nat->Ann
 | 0=>⟨.trow (kg r),[],[],false⟩
 | 3=>⟨.none,[nid 2],[nid 2],false⟩
 |_=>an0
theorem aj9 {A:List aj} {d i:Int} {out:AV} {O:List (Nat×Option bA)} {F:Nat->Option bA} {r:aj}:
 Ap Tryz.prog (oz tab) (cO (cA hsI)) (ald r) F (List.range (cO (cA hsI)).size) ⟨eT A d i out,O,[]⟩=
  some (⟨(7,.ptr (nid 2) 0 0)::(15,.agg [tn r.x0,tn r.y0,tn r.x1,tn r.y1])::(14,.rptr (kg r) 0)::eT A d i out,(nid 2,some (bx r))::(nid 2,some ⟨4,[[tn 0,tn 0,tn 0,tn 0]]⟩)::O,[(7,none),(15,none),(14,none)]⟩,
   [0<=i∧(A.map kg)[i.toNat]? =some (kg r)]):=by kernel_rfl
noncomputable abbrev iY (A:List aj) (d i:Int) (out:AV):List (Nat×AV):=(7,.ptr 1002 0 0)::eT A d i out
noncomputable abbrev acZ (A:List aj) (d i n:Int) (out:AV):List (Nat×AV):=(8,tn n)::iY A d i out
noncomputable abbrev hsO (r:aj) (K:List (List AV)) (c:List bK):List (Nat×Option bA):=[(1000,some ⟨3,K⟩),(1001,some ⟨2,gY c⟩),(1002,some (bx r))]
noncomputable abbrev hsJ:Code:=cB hsI
theorem akE {A:List aj} {d i:Int} {O:List (Nat×Option bA)} {F:Nat->Option bA}:
 Ap Tryz.prog (oz tab) (cO (cA (cA hsJ))) (fun _=>an0) F (List.range (cO (cA (cA hsJ))).size) ⟨iY A d i .nilsl,O,[]⟩=
  some (⟨(8,tn 0)::(17,tn 0)::(16,.nilsl)::iY A d i .nilsl,O,[(8,none),(17,none),(16,none)]⟩,[]):=by kernel_rfl
theorem ale {A:List aj} {d i:Int} {m:Nat} {O:List (Nat×Option bA)} {F:Nat->Option bA}:
 Ap Tryz.prog (oz tab) (cO (cA (cA hsJ))) (fun _=>an0) F (List.range (cO (cA (cA hsJ))).size) ⟨iY A d i (.own 1000 0 m),O,[]⟩=
  some (⟨(8,tn (m:Int))::(17,tn (m:Int))::(16,.own 1000 0 m)::iY A d i (.own 1000 0 m),O,[(8,none),(17,none),(16,none)]⟩,[]):=by kernel_rfl
noncomputable def akb (c:bZ):Nat->Ann
 | 6=>⟨.none,[1000],[],false⟩
 | 8=>⟨.row (qb 1001 c),[1000],[],false⟩
 | 10=>⟨.none,[1002],[],false⟩
 |_=>an0
noncomputable abbrev WL:Code:=cA (cB (cA hsJ))
noncomputable abbrev bo (b:Bool):AV:= .t (.sc (.bool b))
theorem akF {A:List aj} {d i:Int} {O:List (Nat×Option bA)} {F:Nat->Option bA}:
 Ap Tryz.prog (oz tab) (cO WL) (fun _=>an0) F (List.range (cO WL).size) ⟨acZ A d i 0 .nilsl,O,[]⟩=
  some (⟨(30,bo true)::(29,.undef)::(28,.undef)::(27,.undef)::(26,.undef)::(25,.undef)::(24,.undef)::(23,.undef)::(22,.undef)::(21,.undef)::(20,bo true)::(19,bo true)::(18,tn 0)::acZ A d i 0 .nilsl,O,
   [(30,none),(29,some false),(28,some false),(27,some false),(26,some false),(25,some false),(24,some false),(23,some false),(22,some false),(21,some false),(20,none),(19,none),(18,none)]⟩,[true=false->false=true]):=by kernel_rfl
noncomputable abbrev hsW (m:Nat):Int:=i64.wrap ((m:Int) - 1)
theorem alf {A:List aj} {d i:Int} {m:Nat} {r:aj} {c:bZ} {K:List (List AV)} {F:Nat->Option bA}:
 Ap Tryz.prog (oz tab) (cO WL) (akb c) F (List.range (cO WL).size) ⟨acZ A d i ((m+1:Nat):Int) (.own 1000 0 (m+1)),hsO r K c.column,[]⟩=
  some (⟨(30,bo (c.x0 != r.x0))::(29,bo (c.x0 != r.x0))::(28,tn r.x0)::(27,.ptr 1002 0 0)::(26,tn c.x0)::(25,.ptr 1000 (0+(hsW (m+1)).toNat) 0)::(24,.ptr 1000 (0+(hsW (m+1)).toNat) 0)::(23,tn (hsW (m+1)))::(22,tn ((m+1:Nat):Int))::(21,.own 1000 0 (m+1))::(20,bo false)::(19,bo false)::(18,tn ((m+1:Nat):Int))::acZ A d i ((m+1:Nat):Int) (.own 1000 0 (m+1)),hsO r K c.column,
   [(30,none),(29,none),(28,none),(27,none),(26,none),(25,none),(24,none),(23,none),(22,none),(21,none),(20,none),(19,none),(18,none)]⟩,[0<=hsW (m+1)∧(hsW (m+1)).toNat < m+1,K[0+(hsW (m+1)).toNat]? =some (qb 1001 c)]):=by kernel_rfl
theorem alg {c:bZ}:Qp (cO WL) (akb c)=true:=by kernel_rfl
theorem akG:Qp (cO WL) (fun _=>an0)=true:=by kernel_rfl
noncomputable abbrev WM:Code:=cA (cB (cB (cA hsJ)))
noncomputable def akc (rs:List (List AV)):Nat->Ann
 | 2=>⟨.none,[1002],[],false⟩
 | 4=>⟨.none,[1002],[],false⟩
 | 6=>⟨.row [],[],[],false⟩
 | 7=>⟨.rows rs,[1000,nid 6],[1000],false⟩
 |_=>an0
noncomputable abbrev qW (r:aj):List AV:=[tn r.x0,tn r.x1,.nilsl]
theorem akH {A:List aj} {d i:Int} {r:aj} {F:Nat->Option bA}:
 Ap Tryz.prog (oz tab) (cO WM) (akc [qW r]) F (List.range (cO WM).size) ⟨iY A d i .nilsl,[(1002,some (bx r))],[]⟩=
  some (⟨(5,.own (nid 7) 0 1)::(38,.own (nid 7) 0 1)::(37,.own (nid 6) 0 1)::(36,.agg (qW r))::(35,tn r.x1)::(34,.ptr 1002 0 2)::(33,tn r.x0)::(32,.ptr 1002 0 0)::(31,.nilsl)::iY A d i .nilsl,
   (nid 7,some ⟨3,[qW r]⟩)::(nid 6,some ⟨3,[qW r]⟩)::[(1002,some (bx r))],
   [(5,none),(38,none),(37,none),(36,none),(35,none),(34,none),(33,none),(32,none),(31,none)]⟩,[True∧1=1∧[qW r]=[qW r]∧1*40<=140737488355328∧1<=maxLen]):=by kernel_rfl
theorem alh {A:List aj} {d i:Int} {m:Nat} {r:aj} {c:List bK} {K:List (List AV)} {F:Nat->Option bA}:
 Ap Tryz.prog (oz tab) (cO WM) (akc (K++[qW r])) F (List.range (cO WM).size) ⟨iY A d i (.own 1000 0 m),hsO r K c,[]⟩=
  some (⟨(5,.own (nid 7) 0 (K++[qW r]).length)::(38,.own (nid 7) 0 (K++[qW r]).length)::(37,.own (nid 6) 0 1)::(36,.agg (qW r))::(35,tn r.x1)::(34,.ptr 1002 0 2)::(33,tn r.x0)::(32,.ptr 1002 0 0)::(31,.own 1000 0 m)::iY A d i (.own 1000 0 m),
   (nid 7,some ⟨3,K++[qW r]⟩)::(1000,none)::(nid 6,some ⟨3,[qW r]⟩)::hsO r K c,
   [(5,none),(38,none),(37,none),(36,none),(35,none),(34,none),(33,none),(32,none),(31,none)]⟩,[True∧K.length=m∧1=1∧K++[qW r]=K++[qW r]∧(m+1)*40<=140737488355328∧m+1<=maxLen]):=by kernel_rfl
noncomputable abbrev akI:Code:=cA (cB hsJ)
noncomputable def ali:Nat->Ann
 | 1=>⟨.none,[1002],[],false⟩
 | 5=>⟨.none,[1002],[],false⟩
 |_=>an0
noncomputable abbrev Cz (d:Int) (r:aj):Int:=i64.wrap (r.y0+d)
noncomputable abbrev CB (d:Int) (r:aj):Int:=i64.wrap (r.y1 - d)
theorem alj {A:List aj} {d i:Int} {m:Nat} {r:aj} {c:List bK} {K:List (List AV)} {F:Nat->Option bA}:
 Ap Tryz.prog (oz tab) (cO akI) ali F (List.range (cO akI).size) ⟨iY A d i (.own 1000 0 m),hsO r K c,[]⟩=
  some (⟨(47,bo (decide (Cz d r < CB d r)))::(46,tn (CB d r))::(45,tn d)::(44,tn r.y1)::(43,.ptr 1002 0 3)::(42,tn (Cz d r))::(41,tn d)::(40,tn r.y0)::(39,.ptr 1002 0 1)::iY A d i (.own 1000 0 m),hsO r K c,
   [(47,none),(46,none),(45,none),(44,none),(43,none),(42,none),(41,none),(40,none),(39,none)]⟩,[]):=by kernel_rfl
noncomputable abbrev hsH:Code:=cA (cB (cB hsJ))
noncomputable abbrev akJ:Code:=cA hsH
noncomputable abbrev agD:Code:=cB hsH
noncomputable def alk:Nat->Ann
 | 4=>⟨.none,[1000],[],false⟩
 |_=>an0
noncomputable abbrev hsP (m:Nat):AV:= .ptr 1000 (0+(hsW m).toNat) 0
theorem alm {A:List aj} {d i:Int} {m:Nat} {r:aj} {c:List bK} {K:List (List AV)} {F:Nat->Option bA}:
 Ap Tryz.prog (oz tab) (cO akJ) alk F (List.range (cO akJ).size) ⟨iY A d i (.own 1000 0 m),hsO r K c,[]⟩=
  some (⟨(9,hsP m)::(52,hsP m)::(51,tn (hsW m))::(50,tn (m:Int))::(49,.own 1000 0 m)::(48,.own 1000 0 m)::iY A d i (.own 1000 0 m),hsO r K c,
   [(9,none),(52,none),(51,none),(50,none),(49,none),(48,none)]⟩,[0<=hsW m∧(hsW m).toNat < m]):=by kernel_rfl
noncomputable def ai1 (c:bZ) (rs K3:List (List AV)):Nat->Ann
 | 2=>⟨.ext 0,[],[],false⟩
 | 16=>⟨.ext 0,[],[],false⟩
 | 4=>⟨.row (qb 1001 c),[1000],[],false⟩
 | 6=>⟨.none,[1002],[],false⟩
 | 10=>⟨.none,[1002],[],false⟩
 | 15=>⟨.rows rs,[1001,nid 14],[1001],false⟩
 | 18=>⟨.set (qb 1001 c) K3,[1000],[1000],false⟩
 |_=>an0
theorem akK {c:bZ} {rs K3:List (List AV)}:Qp (cO agD) (ai1 c rs K3)=true:=by kernel_rfl
noncomputable abbrev VA (d:Int) (r:aj):List AV:=[tn (Cz d r),tn (CB d r)]
theorem akL {A:List aj} {d i:Int} {m:Nat} {r:aj} {c:bZ} {K K3:List (List AV)} {F:Nat->Option bA}:
 Ap Tryz.prog (oz tab) (cO agD) (ai1 c (gY c.column++[VA d r]) K3) F (List.range (cO agD).size) ⟨(9,hsP m)::iY A d i (.own 1000 0 m),hsO r K c.column,[]⟩=
  some (⟨(70,.ptr 1000 (0+(hsW m).toNat) 2)::(69,hsP m)::(68,.own (nid 15) 0 (gY c.column++[VA d r]).length)::(67,.own (nid 14) 0 1)::(66,.agg (VA d r))::(65,tn (CB d r))::(64,tn d)::(63,tn r.y1)::(62,.ptr 1002 0 3)::(61,tn (Cz d r))::(60,tn d)::(59,tn r.y0)::(58,.ptr 1002 0 1)::(57,.own 1001 0 c.column.length)::(56,.ptr 1000 (0+(hsW m).toNat) 2)::(55,hsP m)::(54,hsP m)::(53,hsP m)::(9,hsP m)::iY A d i (.own 1000 0 m),
   (1000,some ⟨3,K3⟩)::(nid 15,some ⟨2,gY c.column++[VA d r]⟩)::(1001,none)::(nid 14,some ⟨2,[VA d r]⟩)::hsO r K c.column,
   [(70,none),(69,none),(68,none),(67,none),(66,none),(65,none),(64,none),(63,none),(62,none),(61,none),(60,none),(59,none),(58,none),(57,none),(56,none),(55,none),(54,none),(53,none)]⟩,
   [K[0+(hsW m).toNat]? =some (qb 1001 c),True∧(gY c.column).length=c.column.length∧1=1∧gY c.column++[VA d r]=gY c.column++[VA d r]∧(c.column.length+1)*16<=140737488355328∧c.column.length+1<=maxLen,
    K[0+(hsW m).toNat]? =some (qb 1001 c)∧K3=eU (K.set (0+(hsW m).toNat) (put' (qb 1001 c) 2 [.own (nid 15) 0 (gY c.column++[VA d r]).length]))]):=by kernel_rfl
theorem iw {L' L2:GSt} {F:Nat->Option bA} (hE:∀ p∈L2.env,(lk L'.ok p.1).join=none∧(lk L'.env p.1).getD .undef=p.2)
 (hO:∀ j o',(L2.st F).obj j=some o'->(L'.st F).obj j=some o') (hok:L2.ok=[]) (old:Old (L2.st F)):Gb.Told (L'.st F) (L2.st F):=by
 refine Jb (fun k=>k) (fun k=>k) (fun _=>True) (fun _ _=>rfl) (fun _ _=>rfl) (fun p hp=>?_) (fun j o' hj=>?_) hok old
 ·obtain⟨h1,h2⟩:=hE p hp;exact⟨h1,fun _ _=>trivial,by rw[h2];exact Zl _ fun _ _=>rfl⟩
 ·refine⟨j,o',hO j o' hj,trivial,rfl,?_,fun _ _ _ _=>trivial⟩;obtain⟨sz,rows⟩:=o';simp only[Lv];congr 1
  conv=>lhs;rw[<- List.map_id rows]
  exact map_congr_left fun r _=>(kY r fun _ _=>rfl).symm
theorem jC:∀ (l:List bZ) (k:Nat),∀ r∈gM k l,∀ j∈dG r,k<=j∧j < k+l.length
 |[],_,r,hr,_,_=>by cases hr
 |s::l,k,r,hr,j,hj=>by
  simp only[gM,aI]at hr;rcases hr with rfl |hr
  ·simp[dG,refs]at hj;subst hj;simp
  ·have:=jC l (k+1) r hr j hj;simp only[bH];omega
theorem oP:∀ (l:List bZ) (k:Nat),(gM k l).length=l.length
 |[],_=>rfl
 |_::l,k=>by simp only[gM,bH,oP l (k+1)]
theorem VB:∀ (l:List bZ) (k:Nat) (c:bZ),gM k (l++[c])=gM k l++[qb (k+l.length) c]
 |[],k,c=>rfl
 |s::l,k,c=>by
  simp only[List.cons_append,gM,VB l (k+1) c,bH];rw[show k+1+l.length=k+(l.length+1)by omega]
theorem YD:∀ (l:List bZ) (k:Nat),eU (gM k l)=gM k l
 |[],_=>rfl
 |s::l,k=>by
  have:=YD l (k+1);simp only[eU,gM,bf]at this ⊢;rw[this];rfl
theorem pU (l:List bK):∀ r∈gY l,∀ j,j∉dG r:=by
 intro r hr j hj;simp only[aW,List.mem_map]at hr;obtain⟨q,⟨s,_,rfl⟩,rfl⟩:=hr;simp[Dh,dG,refs]at hj
theorem Ec {pre:List bZ} {k:Nat} {o:bA} (h:hsF pre k=some o):2000<=k∧k < 2000+pre.length∧∃ s,pre[k - 2000]? =some s∧o=⟨2,gY s.column⟩:=by
 unfold hsF at h;by_cases hk:2000<=k
 ·rw[aJ hk,fB]at h;obtain⟨s,h1,h2⟩:=h;have h3:=(gH.1 h1).1;exact⟨hk,by omega,s,h1,h2.symm⟩
 ·rw[aD hk]at h;cases h
theorem ahB {r:List AV} {x:AV} (hx:x∈r):∀ j∈refs x,j∈dG r:=fun j hj=>by
 induction r with
 |nil=>cases hx
 |cons y ys ih=>
  simp only[dG,aX];rcases aI.1 hx with rfl |hx
  ·exact .inl hj
  ·exact .inr (ih hx)
theorem CF {E:List (Nat×AV)} {O:List (Nat×Option bA)} {ok:List (Nat×Option Bool)} {F:Nat->Option bA} (hE:∀ p∈E,∀ k∈refs p.2,k < 1000000)
 (hO:∀ p∈O,∀ o,p.2=some o->p.1 < 1000000∧∀ r∈o.rows,∀ j∈dG r,j < 1000000) (hF:∀ k o,F k=some o->k < 1000000∧∀ r∈o.rows,∀ j∈dG r,j < 1000000):Old ((⟨E,O,ok⟩:GSt).st F):=by
 refine⟨fun t k hk=>?_,fun k o hk=>?_⟩
 ·simp only[GSt.st]at hk;cases h:lk E t with
  |none=>rw[h]at hk;simp[refs]at hk
  |some x=>rw[h]at hk;exact hE _ (mE h) k hk
 ·have:k < 1000000∧∀ r∈o.rows,∀ j∈dG r,j < 1000000:=by
   simp only[GSt.st]at hk;cases h:lk O k with
   |none=>rw[h]at hk;exact hF k o hk
   |some x=>rw[h]at hk;exact hO _ (mE h) o hk
  exact⟨this.1,fun r hr x hx j hj=>this.2 r hr j (ahB hx j hj)⟩
theorem aao {pre:List bZ} (hp:pre.length<=500000):∀ k o,hsF pre k=some o->k < 1000000∧∀ r∈o.rows,∀ j∈dG r,j < 1000000:=by
 intro k o h;obtain⟨h1,h2,s,_,rfl⟩:=Ec h;exact⟨by omega,fun r hr j hj=>(pU _ r hr j hj).elim⟩
theorem ng {A:List aj} {d i:Int} {out:AV} {E:List (Nat×AV)} (hE:∀ p∈E,∀ k∈refs p.2,k < 1000000) (ho:∀ k∈refs out,k < 1000000):∀ p∈E++eT A d i out,∀ k∈refs p.2,k < 1000000:=by
 intro p hp k hk;rcases aX.1 hp with hp |hp
 ·exact hE p hp k hk
 ·simp only[eT,aI,aP,or_false]at hp;rcases hp with rfl |rfl |rfl |rfl |rfl
  ·simp[refs]at hk
  ·exact ho k hk
  ·simp[refs]at hk
  ·simp[refs]at hk
  ·simp[refs]at hk
noncomputable abbrev hsM (E:List (Nat×AV)) (r:aj) (pre:List bZ) (c:bZ):St:=(⟨E,hsO r (gM 2000 pre++[qb 1001 c]) c.column,[]⟩:GSt).st (hsF pre)
noncomputable abbrev kJ (pre:List bZ):AV:= .own 1000 0 (pre.length+1)
theorem NK {A:List aj} {d i:Int} {E:List (Nat×AV)} {r:aj} {pre:List bZ} {c:bZ} (hE:∀ p∈E,∀ k∈refs p.2,k < 1000000) (hp:pre.length<=500000):Old (hsM (E++eT A d i (kJ pre)) r pre c):=by
 refine CF (ng hE (by simp[refs])) (fun p hp' o ho=>?_) (aao hp);simp only[hsO,aI,aP,or_false]at hp';rcases hp' with rfl |rfl |rfl
 ·injection ho with ho;subst ho;refine⟨by simp,fun q hq j hj=>?_⟩;rcases aX.1 hq with hq |hq
  ·have:=jC _ _ q hq j hj;omega
  ·rw[aO]at hq;subst hq;simp[dG,refs]at hj;omega
 ·injection ho with ho;subst ho;exact⟨by simp,fun q hq j hj=>(pU _ q hq j hj).elim⟩
 ·injection ho with ho;subst ho;refine⟨by simp,fun q hq j hj=>?_⟩;simp only[bx,aO]at hq;subst hq;simp[dG,refs]at hj
theorem aap {m:Nat} (h:m<=500000):hsW (m+1)=(m:Int):=by
 have e:((m+1:Nat):Int) - 1=(m:Int):=by omega
 unfold hsW;rw[e];exact oG (by omega)
theorem P7 {A:List aj} {d i:Int} {r:aj} {pre:List bZ} {c:bZ} (hp:pre.length<=500000):Old (hsM (iY A d i (kJ pre)) r pre c):=
 NK (E:=[(7,.ptr 1002 0 0)]) (fun p hp' k hk=>by
  simp only[aO]at hp';subst hp';simp[refs]at hk;omega) hp
theorem aaq {pre:List bZ} {c:bZ} (h:pre.length<=500000):(gM 2000 pre++[qb 1001 c])[0+(hsW (pre.length+1)).toNat]? =some (qb 1001 c):=by
 rw[aap h,Nat.zero_add,Int.toNat_natCast,eZ (by rw[oP];omega),oP,Nat.sub_self];rfl
noncomputable abbrev Q8 (A:List aj) (d i:Int) (pre:List bZ) (c:bZ):St:=(RY A d i pre c).st (hsF pre)
theorem rZ {A:List aj} {d i:Int} {pre:List bZ} {c:bZ} (hp:pre.length<=500000):Old (Q8 A d i pre c):=by
 refine CF (ng (E:=[]) (fun p hp'=>by cases hp') (by simp[refs])) (fun p hp' o ho=>?_) (aao hp);simp only[aI,aP,or_false]at hp';rcases hp' with rfl |rfl
 ·injection ho with ho;subst ho;refine⟨by simp,fun q hq j hj=>?_⟩;rcases aX.1 hq with hq |hq
  ·have:=jC _ _ q hq j hj;omega
  ·rw[aO]at hq;subst hq;simp[dG,refs]at hj;omega
 ·injection ho with ho;subst ho;exact⟨by simp,fun q hq j hj=>(pU _ q hq j hj).elim⟩
theorem VD {Q:Exit->St->Prop} {A:List aj} {d i:Int} {r:aj} {pre:List bZ} {c:bZ} (hp:pre.length<=500000) (hc:c.column.length<=500000)
 (hq:Q .normal (Q8 A d i pre (if Cz d r < CB d r then⟨c.x0,c.x1,c.column++[⟨Cz d r,CB d r⟩]⟩else c))):
 Ev Tryz.prog Tryz.f41.ntmps (cB hsJ) Q (hsM (iY A d i (kJ pre)) r pre c):=by
 show Ev _ _ (Code.seq (cA (cB hsJ)) (cB (cB hsJ))) Q _;refine jq ?_;refine fK (ops:=cO akI) (σ2:=hsM ((47,bo (decide (Cz d r < CB d r)))::iY A d i (kJ pre)) r pre c) pY (by kernel_rfl) alj trivial ?_ ?_
 ·refine iw (fun p hp'=>?_) (fun _ _ h=>h) rfl ?_
  ·simp only[iY,eT,aI,aP,or_false]at hp';rcases hp' with rfl |rfl |rfl |rfl |rfl |rfl |rfl<;>exact⟨rfl,rfl⟩
  ·exact NK (E:=[(47,bo _),(7,.ptr 1002 0 0)]) (fun p hp' k hk=>by
    simp only[aI,aP,or_false]at hp';rcases hp' with rfl |rfl
    ·simp[refs]at hk
    ·simp[refs]at hk;omega) hp
 show Ev _ _ (Code.cond (.tmp 47) (cA (cB (cB hsJ))) (cB (cB (cB hsJ)))) Q _;refine Es (decide (Cz d r < CB d r)) (fun _ _=>rfl) rfl ?_;by_cases hlt:Cz d r < CB d r
 ·rw[aJ hlt]at hq;rw[show decide (Cz d r < CB d r)=true from decide_eq_true hlt];refine EH (σ2:=hsM (iY A d i (kJ pre)) r pre c) ?_ ?_
  ·refine iw (fun p hp'=>?_) (fun _ _ h=>h) rfl (P7 hp);simp only[iY,eT,aI,aP,or_false]at hp';rcases hp' with rfl |rfl |rfl |rfl |rfl |rfl<;>exact⟨rfl,rfl⟩
  show Ev _ _ (Code.seq (cA hsH) (cB hsH)) Q _;refine jq ?_;refine fK (ops:=cO akJ) (σ2:=hsM ((9,hsP (pre.length+1))::iY A d i (kJ pre)) r pre c) pY (by kernel_rfl) alm (by rw[aap hp];exact⟨by omega,by omega⟩) ?_ ?_
  ·refine iw (fun p hp'=>?_) (fun _ _ h=>h) rfl ?_
   ·simp only[iY,eT,aI,aP,or_false]at hp';rcases hp' with rfl |rfl |rfl |rfl |rfl |rfl |rfl<;>exact⟨rfl,rfl⟩
   ·exact NK (E:=[(9,hsP (pre.length+1)),(7,.ptr 1002 0 0)]) (fun p hp' k hk=>by
     simp only[aI,aP,or_false]at hp';rcases hp' with rfl |rfl
     ·simp[refs]at hk;omega
     ·simp[refs]at hk;omega) hp
  have hl:(gY c.column).length=c.column.length:=by simp[aW]
  have hK3:eU ((gM 2000 pre++[qb 1001 c]).set (0+(hsW (pre.length+1)).toNat) (put' (qb 1001 c) 2 [.own (nid 15) 0 (gY c.column++[VA d r]).length]))=gM 2000 pre++[[tn c.x0,tn c.x1,.own (nid 15) 0 (c.column.length+1)]]:=by
   rw[aap hp,Nat.zero_add,Int.toNat_natCast,List.set_append_right _ _ (by rw[oP];omega),oP,Nat.sub_self];have:=YD pre 2000;simp only[eU]at this ⊢;rw[map_append,this,aZ,hl];rfl
  refine Kv (ops:=cO agD) (L':=_) (obs:=_) pY mixed (by kernel_rfl) akK akL ⟨aaq hp,⟨trivial,hl,rfl,rfl,by omega,?_⟩,aaq hp,hK3.symm⟩ ?_ hq
  ·have:(500000:Nat) < maxLen:=(by decide);omega
  refine Jb (fun k=>if k=nid 15 then 1001 else k) (fun k=>if k=1001 then nid 15 else k) (fun k=>k≠1001) (fun k hk=>?_) (fun j hj=>by rw[aD (by omega)]) (fun p hp'=>?_) (fun j o' hj=>?_) rfl (rZ hp)
  ·by_cases e:k=nid 15
   ·rw[aJ e,aJ rfl,e]
   ·rw[aD e,aD hk]
  ·simp only[RY,eT,aI,aP,or_false]at hp';rcases hp' with rfl |rfl |rfl |rfl |rfl
   ·exact⟨rfl,fun k hk=>absurd (show k∈([]:List Nat)from hk) (aP),rfl⟩
   ·exact⟨rfl,fun k hk=>by have:=aO.1 (show k∈[1000]from hk);omega,rfl⟩
   ·exact⟨rfl,fun k hk=>absurd (show k∈([]:List Nat)from hk) (aP),rfl⟩
   ·exact⟨rfl,fun k hk=>absurd (show k∈([]:List Nat)from hk) (aP),rfl⟩
   ·exact⟨rfl,fun k hk=>absurd (show k∈([]:List Nat)from hk) (aP),rfl⟩
  ·simp only[RY,GSt.st,lk]at hj;by_cases e0:1000=j
   ·rw[aJ e0]at hj;injection hj with hj;subst e0 hj;refine⟨1000,_,rfl,by omega,rfl,?_,fun q hq k hk=>?_⟩
    ·simp only[Lv];have hf:(gM 2000 pre).map (uG fun k=>if k=nid 15 then 1001 else k)=gM 2000 pre:=by
      have:∀ q∈gM 2000 pre,uG (fun k=>if k=nid 15 then 1001 else k) q=q:=fun q hq=>kY q fun k hk=>aD (by have:=jC _ _ q hq k hk;simp only[nid];omega)
      conv=>rhs;rw[<- List.map_id (gM 2000 pre)]
      exact map_congr_left this
     rw[map_append,hf];simp only[qb,aZ,bH,List.length_nil,Nat.zero_add];rfl
    ·rcases aX.1 hq with hq |hq
     ·have:=jC _ _ q hq k hk;omega
     ·rw[aO]at hq;subst hq;simp[dG,refs,nid]at hk;omega
   ·rw[aD e0]at hj;by_cases e1:1001=j
    ·rw[aJ e1]at hj;injection hj with hj;subst e1 hj;have hsp:gY (c.column++[⟨Cz d r,CB d r⟩])=gY c.column++[VA d r]:=(by simp only[aW,map_append];rfl);refine⟨nid 15,⟨2,gY c.column++[VA d r]⟩,rfl,by simp[nid],rfl,?_,fun q hq k hk=>?_⟩
     ·simp only[Lv];rw[<- hsp];congr 1
      conv=>lhs;rw[<- List.map_id (gY _)]
      exact map_congr_left fun q hq=>(kY q fun k hk=>(pU _ q hq k hk).elim).symm
     ·rw[<- hsp]at hq;exact (pU _ q hq k hk).elim
    ·rw[aD e1]at hj;obtain⟨h1,h2,s,h3,rfl⟩:=Ec hj;have hn:j≠nid 15:=(by simp only[nid];omega);have hn':j≠nid 14:=(by simp only[nid];omega);refine⟨j,⟨2,gY s.column⟩,?_,fun e=>e1 e.symm,aD hn,?_,fun q hq k hk=>(pU _ q hq k hk).elim⟩
     ·simp only[GSt.st,lk];rw[aD e0,aD (Ne.symm hn),aD e1,aD (Ne.symm hn')];rw[aD e0,aD e1,aD (by omega)];exact hj
     ·simp only[Lv];congr 1
      conv=>lhs;rw[<- List.map_id (gY _)]
      exact map_congr_left fun q hq=>(kY q fun k hk=>(pU _ q hq k hk).elim).symm
 ·rw[aD hlt]at hq;rw[show decide (Cz d r < CB d r)=false from decide_eq_false hlt];refine EH (σ2:=Q8 A d i pre c) ?_ (LB hq);refine iw (fun p hp'=>?_) (fun j o' hj=>?_) rfl (rZ hp)
  ·simp only[RY,eT,aI,aP,or_false]at hp';rcases hp' with rfl |rfl |rfl |rfl |rfl<;>exact⟨rfl,rfl⟩
  ·simp only[RY,GSt.st,lk]at hj ⊢;by_cases e:1002=j
   ·subst e;simp[hsF]at hj
   ·rw[aD e];exact hj
theorem ai2 {Q:Exit->St->Prop} {cd:Code} {A:List aj} {d i:Int} {r:aj} {pre:List bZ} (_hp:pre.length<=500000)
 (hq:Ev Tryz.prog Tryz.f41.ntmps cd Q (hsM (iY A d i (kJ pre)) r pre ⟨r.x0,r.x1,[]⟩)):
 Ev Tryz.prog Tryz.f41.ntmps cd Q ((⟨iY A d i (kJ pre),[(1000,some ⟨3,gM 2000 pre++[qW r]⟩),(1002,some (bx r))],[]⟩:GSt).st (hsF pre)):=by
 refine ag2 (σ2:=hsM (iY A d i (kJ pre)) r pre ⟨r.x0,r.x1,[]⟩) (K:=1000) (k0:=1001) (sz:=3) (sz0:=2) (R:=gM 2000 pre) (q:=[tn r.x0,tn r.x1]) (by omega) (by omega) (by omega) rfl (fun t=>?_) (fun k o hk=>?_) rfl rfl (fun k=>?_) (fun _=>rfl) hq
 ·intro hk;simp only[GSt.st]at hk;cases h:lk (iY A d i (kJ pre)) t with
  |none=>rw[h]at hk;simp[refs]at hk
  |some x=>
   rw[h]at hk;have:=mE h;simp only[iY,eT,aI,aP,or_false,Prod.mk.injEq]at this;rcases this with ⟨_,rfl⟩ |⟨_,rfl⟩ |⟨_,rfl⟩ |⟨_,rfl⟩ |⟨_,rfl⟩ |⟨_,rfl⟩<;>simp[refs]at hk
 ·simp only[GSt.st,lk]at hk;by_cases e0:1000=k
  ·rw[aJ e0]at hk;injection hk with hk;subst e0 hk;refine⟨by omega,fun q hq hk=>?_⟩;rcases aX.1 hq with hq |hq
   ·have:=jC _ _ q hq _ hk;omega
   ·rw[aO]at hq;subst hq;simp[dG,refs]at hk
  ·rw[aD e0]at hk;by_cases e2:1002=k
   ·rw[aJ e2]at hk;injection hk with hk;subst e2 hk;refine⟨by omega,fun q hq hk=>?_⟩;simp only[bx,aO]at hq;subst hq;simp[dG,refs]at hk
   ·rw[aD e2]at hk;obtain⟨h1,_,s,_,rfl⟩:=Ec hk;exact⟨by omega,fun q hq hk=>pU _ q hq _ hk⟩
 ·simp only[hsM,GSt.st,lk];by_cases e1:k=1001
  ·subst e1;simp[aW]
  ·rw[aD e1];by_cases e0:k=1000
   ·subst e0;rfl
   ·rw[aD e0,aD (Ne.symm e0),aD (Ne.symm e1),aD (Ne.symm e0)]
theorem NN {A:List aj} {d i:Int} {E:List (Nat×AV)} {r:aj} (hE:∀ p∈E,∀ k∈refs p.2,k < 1000000):Old ((⟨E++eT A d i .nilsl,[(1002,some (bx r))],[]⟩:GSt).st fun _=>none):=by
 refine CF (ng hE (by simp[refs])) (fun p hp' o ho=>?_) (fun k o h=>by cases h);rw[aO]at hp';subst hp';injection ho with ho;subst ho;refine⟨by simp,fun q hq j hj=>?_⟩;simp only[bx,aO]at hq;subst hq;simp[dG,refs]at hj
theorem agE {A:List aj} {d i:Int} {r:aj} {pre:List bZ} (hp:pre.length<=500000):Old ((⟨iY A d i (kJ pre),[(1000,some ⟨3,gM 2000 pre++[qW r]⟩),(1002,some (bx r))],[]⟩:GSt).st (hsF pre)):=by
 refine CF (ng (E:=[(7,.ptr 1002 0 0)]) (fun p hp' k hk=>by
  rw[aO]at hp';subst hp';simp[refs]at hk;omega) (by simp[refs])) (fun p hp' o ho=>?_) (aao hp)
 simp only[aI,aP,or_false]at hp';rcases hp' with rfl |rfl
 ·injection ho with ho;subst ho;refine⟨by simp,fun q hq j hj=>?_⟩;rcases aX.1 hq with hq |hq
  ·have:=jC _ _ q hq j hj;omega
  ·rw[aO]at hq;subst hq;simp[dG,refs]at hj
 ·injection ho with ho;subst ho;refine⟨by simp,fun q hq j hj=>?_⟩;simp only[bx,aO]at hq;subst hq;simp[dG,refs]at hj
theorem ahC {cd:Code} {Q:Exit->St->Prop} {A:List aj} {d i:Int} {r:aj}
 (hq:Ev Tryz.prog Tryz.f41.ntmps cd Q (hsM (iY A d i (kJ [])) r [] ⟨r.x0,r.x1,[]⟩)):
 Ev Tryz.prog Tryz.f41.ntmps (cA hsJ) (Xm (Ev Tryz.prog Tryz.f41.ntmps cd Q) Q) ((⟨iY A d i .nilsl,[(1002,some (bx r))],[]⟩:GSt).st fun _=>none):=by
 show Ev _ _ (Code.seq (cA (cA hsJ)) (Code.seq WL (cB (cB (cA hsJ))))) _ _;refine jq ?_;refine fK (ops:=cO (cA (cA hsJ))) (σ2:=(⟨acZ A d i 0 .nilsl,[(1002,some (bx r))],[]⟩:GSt).st fun _=>none) pY (by kernel_rfl) akE trivial ?_ ?_
 ·refine iw (fun p hp'=>?_) (fun _ _ h=>h) rfl (NN (E:=[(8,tn 0),(7,.ptr 1002 0 0)]) fun p hp' k hk=>?_)
  ·simp only[acZ,iY,eT,aI,aP,or_false]at hp';rcases hp' with rfl |rfl |rfl |rfl |rfl |rfl |rfl<;>exact⟨rfl,rfl⟩
  ·simp only[aI,aP,or_false]at hp';rcases hp' with rfl |rfl
   ·simp[refs]at hk
   ·simp[refs]at hk;omega
 refine jq ?_;refine Kv (ops:=cO WL) (σ2:=(⟨(30,bo true)::iY A d i .nilsl,[(1002,some (bx r))],[]⟩:GSt).st fun _=>none) pY mixed (by kernel_rfl) akG akF (fun h=>by cases h) ?_ ?_
 ·refine iw (fun p hp'=>?_) (fun _ _ h=>h) rfl (NN (E:=[(30,bo true),(7,.ptr 1002 0 0)]) fun p hp' k hk=>?_)
  ·simp only[iY,eT,aI,aP,or_false]at hp';rcases hp' with rfl |rfl |rfl |rfl |rfl |rfl |rfl<;>exact⟨rfl,rfl⟩
  ·simp only[aI,aP,or_false]at hp';rcases hp' with rfl |rfl
   ·simp[refs]at hk
   ·simp[refs]at hk;omega
 show Ev _ _ (Code.cond (.tmp 30) WM (cB (cB (cB (cA hsJ))))) _ _;refine Es true (fun _ _=>rfl) rfl ?_;refine EH (σ2:=(⟨iY A d i .nilsl,[(1002,some (bx r))],[]⟩:GSt).st fun _=>none) ?_ ?_
 ·refine iw (fun p hp'=>?_) (fun _ _ h=>h) rfl (NN (E:=[(7,.ptr 1002 0 0)]) fun p hp' k hk=>?_)
  ·simp only[iY,eT,aI,aP,or_false]at hp';rcases hp' with rfl |rfl |rfl |rfl |rfl |rfl<;>exact⟨rfl,rfl⟩
  ·rw[aO]at hp';subst hp';simp[refs]at hk;omega
 show Ev _ _ (Code.region _ (cO WM) false) _ _;refine fK (ops:=cO WM) (σ2:=(⟨iY A d i (kJ []),[(1000,some ⟨3,gM 2000 []++[qW r]⟩),(1002,some (bx r))],[]⟩:GSt).st (hsF [])) pY (by kernel_rfl) akH ⟨trivial,rfl,rfl,by omega,by decide⟩ ?_ (ai2 (by simp) hq);refine Jb (fun k=>if k=nid 7 then 1000 else k) (fun k=>if k=1000 then nid 7 else k) (fun k=>k≠1000) (fun k hk=>?_) (fun j hj=>by rw[aD (by omega)]) (fun p hp'=>?_) (fun j o' hj=>?_) rfl (agE (by simp))
 ·by_cases e:k=nid 7
  ·rw[aJ e,aJ rfl,e]
  ·rw[aD e,aD hk]
 ·simp only[iY,eT,aI,aP,or_false]at hp';rcases hp' with rfl |rfl |rfl |rfl |rfl |rfl
  ·exact⟨rfl,fun k hk=>by have:=aO.1 (show k∈[1002]from hk);omega,rfl⟩
  ·exact⟨rfl,fun k hk=>absurd (show k∈([]:List Nat)from hk) (aP),rfl⟩
  ·exact⟨rfl,fun k hk=>by have:=aO.1 (show k∈[nid 7]from hk);simp only[nid]at this;omega,rfl⟩
  ·exact⟨rfl,fun k hk=>absurd (show k∈([]:List Nat)from hk) (aP),rfl⟩
  ·exact⟨rfl,fun k hk=>absurd (show k∈([]:List Nat)from hk) (aP),rfl⟩
  ·exact⟨rfl,fun k hk=>absurd (show k∈([]:List Nat)from hk) (aP),rfl⟩
 ·simp only[GSt.st,lk]at hj;by_cases e0:1000=j
  ·rw[aJ e0]at hj;injection hj with hj;subst e0 hj;refine⟨nid 7,⟨3,[qW r]⟩,rfl,by simp[nid],rfl,rfl,fun q hq k hk=>?_⟩;rw[aO]at hq;subst hq;simp[dG,refs]at hk
  ·rw[aD e0]at hj;by_cases e2:1002=j
   ·rw[aJ e2]at hj;injection hj with hj;subst e2 hj;refine⟨1002,bx r,rfl,by omega,rfl,rfl,fun q hq k hk=>?_⟩;simp only[bx,aO]at hq;subst hq;simp[dG,refs]at hk
   ·rw[aD e2]at hj;obtain⟨h1,h2,_⟩:=Ec hj;simp at h2;omega
end
end Go.Proofs
