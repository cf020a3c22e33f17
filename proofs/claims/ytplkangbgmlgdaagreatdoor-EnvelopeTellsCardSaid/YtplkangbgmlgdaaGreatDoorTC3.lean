/-
  Printed by wip/gen: that functions of the program compute this.
-/
import Derived.Test.YtplkangbgmlgdaaGreatDoorTC2
namespace Go.Proofs
open Go.Gb Go.RowKit
noncomputable section
def afK:Sig xx:=⟨[.d af,.d af],[.d .bool],fun a=>Hl a.1 a.2.1,none⟩
theorem afL:aS 112 afK :=cq aH Tryz.func112 .z 0
def ads:Sig xx:=⟨[.d ay],[.d .bool],fun a=>nL a.1,none⟩
theorem BP:aS 83 ads :=cq (aB afL aH) Tryz.func83 .z 0
def Sc:Sig xx:=⟨[.d ay,.d ay],[.d ay,.d .bool],fun a=>vY a.1 a.2.1,none⟩
def Sd:Hn SI:=(.s .z (.s .z (.s (.s (.j ⟨[(40,(.v .bool))],[],[4,6],[1128,2600],2728,[]⟩ .z) .z) .z)))
theorem Sg:aS 139 Sc :=cq (aB BP aH) Tryz.func139 Sd 0
def afM:Sig xx:=⟨[.d ay],[.d af],fun a=>MN a.1,none⟩
theorem afN:aS 140 afM :=cq (aB BP aH) Tryz.func140 .z 0
def aaI (n:Nat):Sig xx:=⟨[.d (.sl ay),.d (.sl ay)],[.d af],fun a=>EU n a.1 a.2.1,none⟩
def aaJ:Hn SI:=(.s .z (.s .z (.s (.s .z (.b (.l ⟨[(5,(.v af)),(6,(.v af))],[],[0,1],[],1192,[]⟩ 0 ⟨[(5,(.v af))],[],[],[],1192,[]⟩ (.s .z (.s (.b (.s .z (.b (.l ⟨[(5,(.v af)),(7,(.v af))],[],[0,1,6],[],1512,[]⟩ 2 ⟨[(5,(.v af))],[],[0,1,6],[],1512,[]⟩ (.s .z (.s (.j ⟨[(5,(.v af))],[],[0,1,6,7],[],1768,[]⟩ .z) .z)))))) .z))))) .z)))
theorem aaK (n:Nat):aS 119 (aaI n) :=cq (aB Sg (aB afN aH)) Tryz.func119 aaJ n
def aaL (n:Nat):Sig xx:=⟨[.d (.st SI.Plan),.d (.sl ay)],[.fresh af],fun a=>EW n a.1 a.2.1,none⟩
def aaM:Hn SI:=(.s .z (.s .z (.s .z (.s (.s .z (.b (.l ⟨[(5,(.o 1448)),(6,(.v af))],[(1448,.l af)],[1,2],[1000],1449,[(5,af)]⟩ 0 ⟨[(5,(.o 1448))],[(1448,.l af)],[],[],1449,[]⟩ .z))) .z))))
theorem aaN (n:Nat):aS 90 (aaL n) :=cq (aB (xC n) (aB (adr n) (aB (aaK n) aH))) Tryz.func90 aaM n
def aje (n:Nat):Sig xx:=⟨[.d (.st SI.Plan),.d (.sl ay)],[.fresh .str],fun a=>ZG n a.1 a.2.1,none⟩
def ajf:Hn SI:=(.s .z (.s .z (.s .z (.s (.s .z (.b (.l ⟨[(6,(.v af)),(7,(.v af))],[],[2,5],[1000,1256],1512,[]⟩ 0 ⟨[(6,(.v af))],[],[2,5],[1000,1256],1512,[]⟩ (.s .z (.s (.j ⟨[(6,(.v af))],[],[2,5,7],[1000,1256],1768,[]⟩ .z) .z))))) (.s .z (.s .z (.s (.s .z (.b (.l ⟨[(8,(.o 1704)),(9,(.v .bool)),(10,(.v af))],[(1704,.l .str)],[2,5,6],[1000,1256],1705,[(8,.str)]⟩ 2 ⟨[(8,(.o 1704))],[(1704,.l .str)],[],[],1705,[]⟩ (.s .z (.s (.j ⟨[(8,(.o 1961)),(9,(.v .bool))],[(1961,.l .str)],[2,5,6,10],[1000,1256],1962,[]⟩ (.b (.s .z (.s .z (.s (.j ⟨[(68,(.v .bool))],[],[2,5,6,8,9,10],[1000,1256,1704],2665,[]⟩ .z) .z))))) .z))))) .z)))))))
theorem ajg (n:Nat):aS 65 (aje n) :=cq (aB (aaN n) aH) Tryz.func65 ajf n
def ahH (n:Nat):Sig xx:=⟨[.d (.sl .str),.d .str],[.d .bool],fun a=>Sy n a.1 a.2.1,none⟩
def ahI:Hn SI:=(.s .z (.s (.s .z (.b (.lx ⟨[(5,(.v af))],[],[0,1],[],1128,[]⟩ 0 ⟨[],[],[],[],1128,[]⟩ .z))) .z))
theorem ahJ (n:Nat):aS 138 (ahH n) :=cq aH Tryz.func138 ahI n
def adt (n:Nat):Sig xx:=⟨[.d (.sl .str),.d (.sl .str)],[.d .bool],fun a=>zf n a.1 a.2.1,none⟩
def adu:Hn SI:=(.s .z (.s (.s .z (.b (.lx ⟨[(5,(.v af))],[],[0,1],[],1128,[]⟩ 0 ⟨[],[],[],[],1128,[]⟩ .z))) .z))
theorem adv (n:Nat):aS 118 (adt n) :=cq (aB (ahJ n) aH) Tryz.func118 adu n
def WY (n:Nat):Sig xx:=⟨[.d (.st SI.Rule),.d (.sl .str),.d af],[.d .bool],fun a=>Bw n a.1 a.2.1 a.2.2.1,none⟩
def WZ:Hn SI:=(.s .z (.s (.s (.j ⟨[(21,(.v .bool))],[],[1,3],[1000],1128,[]⟩ .z) .z) .z))
theorem W9 (n:Nat):aS 89 (WY n) :=cq (aB (adv n) aH) Tryz.func89 WZ n
def adw (n:Nat):Sig xx:=⟨[.d (.st SI.Plan),.d (.sl .str),.d af],[.fresh af],fun a=>Js n a.1 a.2.1 a.2.2.1,none⟩
def adx:Hn SI:=(.s .z (.s .z (.s (.s .z (.b (.l ⟨[(7,(.o 1256)),(8,(.v af))],[(1256,.l af)],[1,2,3],[1000],1257,[(7,af)]⟩ 0 ⟨[(7,(.o 1256))],[(1256,.l af)],[],[],1257,[]⟩ (.s .z (.s (.j ⟨[(7,(.o 1577))],[(1577,.l af)],[1,2,3,8],[1000],1578,[]⟩ .z) .z))))) .z)))
theorem ady (n:Nat):aS 64 (adw n) :=cq (aB (W9 n) aH) Tryz.func64 adx n
def adz (n:Nat):Sig xx:=⟨[.d (.st SI.Town),.d (.st SI.Lot),.d af],[.fresh (.st SI.Rule)],fun a=>Dr n a.1 a.2.1 a.2.2.1,none⟩
def adA:Hn SI:=(.s .z (.s .z (.s .z (.s (.s .z (.b (.l ⟨[(8,(.o 1960)),(9,(.v af))],[(1960,.l (.st SI.Rule))],[3,7],[1000,1704],1961,[(8,(.st SI.Rule))]⟩ 0 ⟨[(8,(.o 1960))],[(1960,.l (.st SI.Rule))],[],[],1961,[]⟩ .z))) .z))))
theorem Ra (n:Nat):aS 32 (adz n) :=cq (aB (ajg n) (aB (ady n) aH)) Tryz.func32 adA n
def Xa:Sig xx:=⟨[.d (.st SI.Rule)],[.d .bool],fun a=>Bz a.1,none⟩
def Xc:Hn SI:=(.s .z (.s (.s (.j ⟨[(20,(.v .bool))],[],[1],[1000],1128,[]⟩ .z) .z) .z))
theorem Xd:aS 33 Xa :=cq aH Tryz.func33 Xc 0
def VY (n:Nat):Sig xx:=⟨[.d (.st SI.Town),.d af,.d af],[.d af],fun a=>tV n a.1 a.2.1 a.2.2.1,none⟩
def VZ:Hn SI:=(.s .z (.s .z (.s .z (.s .z (.s .z (.s (.s .z (.b (.l ⟨[(10,(.v af)),(11,(.v af))],[],[9],[2088],2344,[]⟩ 0 ⟨[(10,(.v af))],[],[],[],2344,[]⟩ (.s .z (.s (.j ⟨[(10,(.v af))],[],[9,11],[2088],2600,[]⟩ .z) .z))))) .z))))))
theorem IW (n:Nat):aS 11 (VY n) :=cq (aB (Lj n) (aB (Ra n) (aB Xd aH))) Tryz.func11 VZ n
def adB (n:Nat):Sig xx:=⟨[.d (.sl ay),.d af],[.d .bool],fun a=>OT n a.1 a.2.1,none⟩
theorem adC (n:Nat):aS 53 (adB n) :=cq (aB (xC n) aH) Tryz.func53 .z n
def aaO (n:Nat):Sig xx:=⟨[.d (.sl ay)],[.d ay,.d .bool],fun a=>u6 n a.1,none⟩
def aaP:Hn SI:=(.s .z (.s (.s (.j ⟨[(13,(.v .bool))],[],[0,2],[1000],1128,[]⟩ .z) .z) (.s .z (.s (.s .z (.b (.l ⟨[(5,(.v af))],[(1320,.c 4 [[(.v af),(.v af),(.v af),(.v af)]])],[0,2,4],[1000],1512,[]⟩ 0 ⟨[],[(1320,.c 4 [[(.v af),(.v af),(.v af),(.v af)]])],[2,4],[1000],1512,[]⟩ .z))) .z))))
theorem NV (n:Nat):aS 27 (aaO n) :=cq (aB (xC n) aH) Tryz.func27 aaP n
def aaQ:Sig xx:=⟨[.d ay,.d af],[.d ay,.d .bool],fun a=>EY a.1 a.2.1,none⟩
def aaR:Hn SI:=(.s .z (.s (.s (.j ⟨[(17,(.v .bool))],[],[1,2,4],[1000,1064],1192,[]⟩ .z) .z) .z))
theorem aaS:aS 54 aaQ :=cq (aB BP aH) Tryz.func54 aaR 0
def afO:Sig xx:=⟨[.d ay,.d af],[.d ay,.d .bool],fun a=>MO a.1 a.2.1,none⟩
def afP:Hn SI:=(.s .z (.s (.s (.j ⟨[(13,(.v .bool))],[],[1,2,4],[1000,1064],1192,[]⟩ .z) .z) .z))
theorem afQ:aS 55 afO :=cq (aB BP aH) Tryz.func55 afP 0
def aaT (n:Nat):Sig xx:=⟨[.d (.sl ay),.d af],[.fresh ay,.d af],fun a=>EZ n a.1 a.2.1,none⟩
def aaU:Hn SI:=(.s .z (.s .z (.s .z (.s .z (.s .z (.s .z (.s .z (.s (.s .z (.b (.l ⟨[(11,(.v af))],[(2920,.l ay)],[1,8,10],[2408],3112,[]⟩ 0 ⟨[],[(2920,.l ay)],[8,10],[2408],3112,[]⟩ .z))) .z))))))))
theorem aaV (n:Nat):aS 26 (aaT n) :=cq (aB (adC n) (aB (NV n) (aB aaS (aB (Ll n) (aB afQ aH))))) Tryz.func26 aaU n
def aaW (n:Nat):Sig xx:=⟨[.d (.st SI.Town),.d af,.d af],[.fresh dO],fun a=>u7 n a.1 a.2.1 a.2.2.1,none⟩
def aaX:Hn SI:=(.s .z (.s .z (.s .z (.s .z (.s .z (.s (.s .z (.b (.l ⟨[(10,(.o 2344)),(11,(.v af))],[(2344,.l dO)],[9],[2088],2345,[(10,dO)]⟩ 0 ⟨[(10,(.o 2344))],[(2344,.l dO)],[],[],2345,[]⟩ (.s .z (.s (.j ⟨[(10,(.o 2601))],[(2601,.l dO)],[9,11],[2088],2602,[]⟩ .z) .z))))) .z))))))
theorem NW (n:Nat):aS 13 (aaW n) :=cq (aB (Lj n) (aB (Ra n) aH)) Tryz.func13 aaX n
def adD:Sig xx:=⟨[.d dO],[.d .bool],fun a=>Jt a.1,none⟩
theorem adE:aS 84 adD :=cq aH Tryz.func84 .z 0
def adF (n:Nat):Sig xx:=⟨[.d ay,.d (.sl dO)],[.d .bool],fun a=>Ju n a.1 a.2.1,none⟩
def adG:Hn SI:=(.s .z (.s (.s .z (.b (.lx ⟨[(5,(.v af))],[],[1,2],[1000],1192,[]⟩ 0 ⟨[],[],[2],[1000],1192,[]⟩ .z))) .z))
theorem adH (n:Nat):aS 56 (adF n) :=cq (aB adE (aB FW aH)) Tryz.func56 adG n
def afR:Sig xx:=⟨[.d af,.d af],[.d af],fun a=>MP a.1 a.2.1,none⟩
theorem afS:aS 85 afR :=cq aH Tryz.func85 .z 0
def afT (n:Nat):Sig xx:=⟨[.d ay,.d (.sl dO),.d af],[.fresh ay],fun a=>UB n a.1 a.2.1 a.2.2.1,none⟩
def afU:Hn SI:=(.s .z (.s .z (.s (.s .z (.b (.lx ⟨[(8,(.v af))],[(1192,.c 4 [[(.v af),(.v af),(.v af),(.v af)]])],[1,2,3,7],[1000],1384,[]⟩ 0 ⟨[],[(1192,.c 4 [[(.v af),(.v af),(.v af),(.v af)]])],[7],[],1384,[]⟩ (.s .z (.s (.jx ⟨[],[(1192,.c 4 [[(.v af),(.v af),(.v af),(.v af)]])],[1,2,3,7,8],[1000],1640,[]⟩ .z) .z))))) (.s (.s (.j ⟨[(90,(.v .bool))],[],[7],[1192],1384,[]⟩ .z) .z) .z))))
theorem afV (n:Nat):aS 57 (afT n) :=cq (aB afS aH) Tryz.func57 afU n
def afW (n:Nat):Sig xx:=⟨[.d ay,.d (.sl dO),.d af],[.fresh ay,.d af],fun a=>Dt n a.1 a.2.1 a.2.2.1,none⟩
def afX:Hn SI:=(.s .z (.s .z (.s (.s (.j ⟨[(17,(.v .bool))],[],[1,2,3],[1000],1448,[]⟩ .z) .z) .z)))
theorem afY (n:Nat):aS 28 (afW n) :=cq (aB (adH n) (aB (afV n) aH)) Tryz.func28 afX n
def adI (n:Nat):Sig xx:=⟨[.d (.st SI.Town),.d af,.d af,.d af],[.fresh (.sl ay),.d af],fun a=>Jv n a.1 a.2.1 a.2.2.1 a.2.2.2.1,none⟩
def adJ:Hn SI:=(.s .z (.s .z (.s .z (.s (.s (.j ⟨[(45,(.v .bool))],[],[1,2,3,4,10],[1000,1640],1960,[]⟩ .z) .z) (.s .z (.s .z (.s (.jx ⟨[(13,(.o 2344))],[(2344,.l ay)],[1,2,3,4,10],[1000,1640],2345,[(13,ay)]⟩ .z) (.s .z (.s .z (.s .z (.s (.s .z (.b (.lx ⟨[(19,(.o 3369)),(20,(.v af))],[(3369,.l (.sl ay))],[1,3,4,13,16,17],[1000,2344,2537,3049],3370,[(19,(.sl ay))]⟩ 0 ⟨[(19,(.o 3369))],[(3369,.l (.sl ay))],[],[],3370,[]⟩ (.s .z (.s (.b (.s .z (.s .z (.s (.j ⟨[(22,(.o 3882))],[(3882,.l ay)],[1,3,4,13,16,17,19,20,21],[1000,2344,2537,3049,3369],3883,[(22,ay)]⟩ .z) (.s .z (.s (.s .z (.b (.l ⟨[(22,(.o 4203)),(23,(.v af))],[(4203,.l ay)],[1,3,4,13,16,17,19,20,21],[1000,2344,2537,3049,3369],4204,[]⟩ 2 ⟨[(22,(.o 4203))],[(4203,.l ay)],[1,3,4,13,16,17,19,20],[1000,2344,2537,3049,3369],4204,[]⟩ (.s .z (.s (.j ⟨[(22,(.o 4524))],[(4524,.l ay)],[1,3,4,13,16,17,19,20,21,23],[1000,2344,2537,3049,3369],4525,[]⟩ (.b (.s .z (.s (.j ⟨[(120,(.v .bool))],[],[1,3,4,13,16,17,19,20,21,22,23,24],[1000,2344,2537,3049,3369,4203,4844],4972,[]⟩ .z) .z)))) .z))))) .z)))))) .z))))) .z)))))))))))
theorem adK (n:Nat):aS 8 (adI n) :=cq (aB (Lj n) (aB (xC n) (aB (IW n) (aB (aaV n) (aB (NW n) (aB (NV n) (aB (afY n) (aB (Ll n) aH)))))))) Tryz.func8 adJ n
def Si (n:Nat):Sig xx:=⟨[.d (.sl (.sl ay)),.d (.sl (.sl ay))],[.d .bool],fun a=>wB n a.1 a.2.1,none⟩
def Sj:Hn SI:=(.s .z (.s .z (.s (.s .z (.b (.lx ⟨[(5,(.v af))],[],[0,1],[],1448,[]⟩ 0 ⟨[],[],[],[],1448,[]⟩ .z))) .z)))
theorem Sk (n:Nat):aS 9 (Si n) :=cq (aB (Al n) aH) Tryz.func9 Sj n
def adL (n:Nat):Sig xx:=⟨[.d (.sl (.sl ay))],[.fresh (.st SI.Slab),.d af],fun a=>Du n a.1,none⟩
def adM:Hn SI:=(.s .z (.s .z (.s (.s .z (.b (.lx ⟨[(4,(.v af))],[],[0],[],1384,[]⟩ 0 ⟨[],[],[0],[],1384,[]⟩ .z))) (.s .z (.s (.s .z (.b (.l ⟨[(5,(.o 1512)),(6,(.v af))],[(1512,.l (.st SI.Slab))],[0],[],1513,[(5,(.st SI.Slab))]⟩ 2 ⟨[(5,(.o 1512))],[(1512,.l (.st SI.Slab))],[],[],1513,[]⟩ (.s .z (.s (.j ⟨[(5,(.o 1769))],[(1769,.l (.st SI.Slab))],[0,6],[],1770,[]⟩ (.b (.s .z (.s .z (.s (.s (.j ⟨[(55,(.v .bool))],[],[0,5,6,7],[1512],2345,[]⟩ .z) .z) .z))))) .z))))) .z)))))
theorem adN (n:Nat):aS 15 (adL n) :=cq (aB (xC n) (aB (Al n) aH)) Tryz.func15 adM n
def afZ (n:Nat):Sig xx:=⟨[.d (.sl (.st SI.Slab)),.d (.sl (.st SI.Slab))],[.d .bool],fun a=>Ho n a.1 a.2.1,none⟩
def af0:Hn SI:=(.s .z (.s .z (.s (.s .z (.b (.lx ⟨[(5,(.v af))],[],[0,1],[],1448,[]⟩ 0 ⟨[],[],[],[],1448,[]⟩ (.s .z (.s (.b (.s (.j ⟨[(54,(.v .bool))],[],[0,1,5],[],1704,[]⟩ .z) .z)) .z))))) .z)))
theorem af2 (n:Nat):aS 16 (afZ n) :=cq (aB (Al n) aH) Tryz.func16 af0 n
def JR (n:Nat):Sig xx:=⟨[.d (.st SI.Town),.d af,.d af,.d af,.d (.sl (.sl ay))],[.d .bool],fun a=>nU n a.1 a.2.1 a.2.2.1 a.2.2.2.1 a.2.2.2.2.1,none⟩
def JS:Hn SI:=(.s .z (.s .z (.s (.s (.j ⟨[(35,(.v .bool))],[],[1,2,3,4,5,11],[1000],1256,[]⟩ .z) .z) (.s .z (.s (.f [8]) (.s (.s (.j ⟨[(72,(.v .bool))],[],[1,2,4,5,11,14],[1000],2536,[]⟩ .z) .z) (.s .z (.s .z (.s .z (.s (.s .z (.b (.lx ⟨[(18,(.v af))],[],[4,11,14,16,17],[2728,3048],3560,[]⟩ 0 ⟨[],[],[4,11,14],[],3560,[]⟩ .z))) .z))))))))))
theorem JU (n:Nat):aS 3 (JR n) :=cq (aB (adh n) (aB (ahG n) (aB (VX n) (aB (Ei n) (aB (adK n) (aB (Sk n) (aB (qp n) (aB (IW n) (aB (uF n) (aB (NW n) (aB (Em n) (aB (adN n) (aB (af2 n) aH))))))))))))) Tryz.func3 JS n
end
end Go.Proofs
