import Derived.Test.YtoiaceohobeemaaGreatTBase
open Go.IntKind (i64)
namespace Go.Proofs
open Go.Gb Go.RowKit
noncomputable section
variable (n:Nat)
def Wr(a0:Int):Option bL:=
 some (bL.mk 0 a0 (⟨#[]⟩) (⟨#[]⟩) ([]))
def DI(a0:List ay):Option (List ay):=
 (bif a0.isEmpty then(both (some ([]:(List ay))) (ck (bR ([]:List ay).length 0 a0.length a0.length 32)<|j6 (([]:List ay)++a0) λr1=>ck (bk (sub r1 0 r1.length).length r1.length)<|some (sub r1 0 r1.length)))else ck (bR ([]:List ay).length 0 a0.length a0.length 32)<|j6 (([]:List ay)++a0) λr2=>ck (bk (sub r2 0 r2.length).length r2.length)<|some (sub r2 0 r2.length))
def G7(a0:List Int):Option (List Int):=
 (bif a0.isEmpty then(both (some ([]:(List Int))) (ck (bR ([]:List Int).length 0 a0.length a0.length 8)<|j6 (([]:List Int)++a0) λr1=>ck (bk (sub r1 0 r1.length).length r1.length)<|some (sub r1 0 r1.length)))else ck (bR ([]:List Int).length 0 a0.length a0.length 8)<|j6 (([]:List Int)++a0) λr2=>ck (bk (sub r2 0 r2.length).length r2.length)<|some (sub r2 0 r2.length))
def Px(a0:gK):Option gK:=
 (DI a0.area).bind λr1=>(G7 a0.from_).bind λr2=>ck (bk (sub r1 0 r1.length).length r1.length)<|ck (bk (sub r2 0 r2.length).length r2.length)<|some (gK.mk a0.id a0.owner (sub r1 0 r1.length) (sub r2 0 r2.length))
def G8(a0:List gK)(a1:Int):Stp Int (Unit⊕(gK×Bool))
 |v1=>(bif decide (v1<(a0.length:Int))then(bo a0 v1).bind λx1=>(bif (x1.id==(a1:Int))then(Px x1).bind λr1=>(some (r1,true)).map λa=> .inr (.inr a)else some (.inl (i64.wrap (v1+1))))else some (.inr (.inl ())))
def Py(a0:List gK)(a1:Int):Option (gK×Bool):=
 dw (iter (G8 a0 a1) n (0:Int)) λ()=>some ((gK.mk 0 0 ([]) ([])),false)
def nY(a0:aV)(a1:Int)(a2:Int):Stp (Int×(List aF)) (List aF)
 |(v1,v2)=>(bif decide (v1<(a0.phases.length:Int))then((bo a0.phases v1).bind λx1=>((bif decide (v1>=(a1:Int))then some (decide (v1<(a2:Int)))else some false)).bind λv3=>(bif v3 then ck (bR v2.length v2.length x1.cx.length x1.cx.length 72)<|j6 (v2++x1.cx) λr1=>ck (bk r1.length r1.length)<|some r1 else ck (bk v2.length v2.length)<|some v2):Option ((List aF))).bind λv4=>ck (bk v4.length v4.length)<|some (.inl ((i64.wrap (v1+1)),v4))else ck (bk v2.length v2.length)<|some (.inr v2))
def oG(a0:aV)(a1:Int)(a2:Int):Option (List aF):=
 ck (bk 0 ([]:List aF).length)<|(iter (nY a0 a1 a2) n ((0:Int),([]:List aF))).bind λw1=>ck (bk (sub w1 0 w1.length).length w1.length)<|some (sub w1 0 w1.length)
def xK(a0:aV):Option (List aF):=
 (oG n a0 0 (a0.phases.length:Int)).bind λr1=>ck (bk (sub r1 0 r1.length).length r1.length)<|some (sub r1 0 r1.length)
def pu(a0:ay):Option Bool:=
 (bif decide (0<=(a0.x0:Int))then(bif decide (a0.x0<(a0.x1:Int))then(bif decide (a0.x1<=1048576)then(bif decide (0<=(a0.y0:Int))then(bif decide (a0.y0<(a0.y1:Int))then some (decide (a0.y1<=1048576))else some false)else some false)else some false)else some false)else some false)
def gq(a0:aF):Option Bool:=
 ((pu (ay.mk a0.bx a0.cd a0.bu a0.ca)).bind λr1=>(bif (!r1)then some true else(bif decide (a0.ek<0)then some true else(bif decide (a0.ek>=(a0.dC:Int))then some true else some (decide (a0.dC>4096)))))).bind λv1=>(bif v1 then some false else((bif (a0.use !=0)then some (a0.units !=0)else some false)).bind λv2=>(bif v2 then some false else(bif decide (a0.use>=0)then(bif decide (a0.use<6)then(bif decide (a0.units>=0)then some (decide (a0.units<=1048576))else some false)else some false)else some false)))
def Ag(a0:ay):Option (ay×Bool):=
 (pu a0).bind λr1=>(bif r1 then some (a0,true)else some ((ay.mk 0 0 0 0),false))
def tQ(a0:ay)(a1:ay):Option (ay×Bool):=
 ((pu a0).bind λr1=>(bif (!r1)then some true else(pu a1).bind λr2=>some (!r2))).bind λv1=>(bif v1 then some ((ay.mk 0 0 0 0),false)else(Ag (ay.mk (max a0.x0 a1.x0) (max a0.y0 a1.y0) (min a0.x1 a1.x1) (min a0.y1 a1.y1))).bind λr3=>some (r3.1,r3.2))
def zu(a0:B4)(a1:B4):Option Bool:=
 (tQ (ay.mk a0.ov a0.oe a0.ot a0.oc) (ay.mk a1.ov a1.oe a1.ot a1.oc)).bind λr1=>(bif r1.2 then(bif decide (a0.z0<(a1.z1:Int))then some (decide (a1.z0<(a0.z1:Int)))else some false)else some false)
def rZ(a0:aF)(a1:aF):Option Bool:=
 (zu (B4.mk a1.bx a1.cd a1.bu a1.ca a1.ek a1.dC) (B4.mk a0.bx a0.cd a0.bu a0.ca a0.ek a0.dC)).bind λr1=>some r1
def G9(a0:List aF)(a1:(aF×Unit)->Option Bool):Stp Int (Unit⊕Int)
 |v1=>(bif decide (v1<(a0.length:Int))then(bo a0 v1).bind λx1=>(a1 (x1,())).bind λr1=>(bif r1 then(some v1).map λa=> .inr (.inr a)else some (.inl (i64.wrap (v1+1))))else some (.inr (.inl ())))
def qR(a0:List aF)(a1:(aF×Unit)->Option Bool):Option Int:=
 dw (iter (G9 a0 a1) n (0:Int)) λ()=>some ((-1):Int)
def fT(a0:List aF)(a1:(aF×Unit)->Option Bool):Option Bool:=
 (qR n a0 a1).bind λr1=>some (decide (r1>=0))
def He(a0:Int):Option Bool:=
 (bif decide (a0>=97)then some (decide (a0<=122))else some false)
def CO(a0:ByteArray)(a1:(Int×Unit)->Option Bool):Stp Int Int
 |v1=>((bif decide (v1<(a0.size:Int))then(J9 a0 v1).bind λx1=>(a1 (x1,())).bind λr1=>some r1 else some false)).bind λv2=>(bif v2 then some (.inl (i64.wrap (v1+1)))else some (.inr v1))
def Pz(a0:ByteArray)(a1:(Int×Unit)->Option Bool):Option Int:=
 (iter (CO a0 a1) n (0:Int)).bind λw1=>some w1
def RG(a0:Int):Option Bool:=
 (bif decide (a0>=48)then some (decide (a0<=57))else some false)
def CP(a0:Int):Option Bool:=
 (He a0).bind λr1=>(bif r1 then some true else(RG a0).bind λr2=>some r2)
def PD(a0:ByteArray):Option Bool:=
 ((bif (ByteArray.toList a0==ByteArray.toList (⟨#[]⟩))then some true else(J9 a0 0).bind λx1=>(He x1).bind λr1=>(bif (!r1)then some true else some (decide ((a0.size:Int)>20))))).bind λv1=>(bif v1 then some false else(Pz n a0 (λ (y1:Int×Unit)=>CP y1.1)).bind λr2=>some (r2==(a0.size:Int)))
def strings_Contains(a0 a1:ByteArray):Option Bool:=ck (Nat.ble a0.size 4000000)<|some (Lib.contains a0.data.toList a1.data.toList)
def xL(a0:ByteArray):Option Bool:=
 (PD n a0).bind λr1=>(bif r1 then ck (WQ (⟨#[32]⟩) a0)<|ck (WQ ((⟨#[32]⟩)++a0) (⟨#[32]⟩))<|(strings_Contains (⟨#[32,97,110,100,32,97,112,97,114,116,32,98,97,115,101,32,99,97,112,32,100,101,102,105,110,101,32,101,108,115,101,32,101,120,99,101,112,116,32,102,114,111,109,32,103,114,97,99,101,32,104,111,117,114,115,32,105,102,32,105,110,32,108,101,97,115,116,32,110,111,116,32,111,114,32,111,118,101,114,108,97,121,32,112,108,97,110,101,32,114,117,108,101,32,115,108,111,112,101,32,115,117,110,32,116,97,98,108,101,32,116,104,101,110,32,117,110,116,105,108,32,117,115,101,115,32,118,97,114,121,32,118,105,101,119,32,122,111,110,101,32]⟩) (((⟨#[32]⟩)++a0)++(⟨#[32]⟩))).bind λr2=>some (!r2)else some false)
def lD(r1:List aF):Stp Int (Unit⊕Bool)
 |v2=>(bif decide (v2<(r1.length:Int))then ck (b9 v2 r1.length)<|(bo r1 ((0:Nat)+v2:Int)).bind λx1=>((gq x1).bind λr2=>(bif (!r2)then some true else ck (yF 0 v2 r1.length)<|ck (bk (sub r1 0 ((v2:Int).toNat)).length ((v2:Int).toNat))<|(fT n (sub r1 0 ((v2:Int).toNat)) (λ (y1:aF×Unit)=>rZ y1.1 x1)).bind λr3=>some r3)).bind λv3=>(bif v3 then(some false).map λa=> .inr (.inr a)else some (.inl (i64.wrap (v2+1))))else some (.inr (.inl ())))
def lF(x2:iJ):Stp (Int×(List (ByteArray×Bool))) (Unit⊕(Int⊕(Unit⊕Bool)))
 |(v5,v6)=>(bif decide (v5<(x2.gives.length:Int))then(bo x2.gives v5).bind λx3=>((bif ((qI d6 x3.name v6).getD false)then some true else(xL n x3.name).bind λr4=>(bif (!r4)then some true else(bif decide (x3.n<0)then some true else some (decide (x3.n>1073741824)))))).bind λv7=>(bif v7 then((some false).map λa=> .inr (.inr a)).map λa=> .inr (.inr a)else some (.inl ((i64.wrap (v5+1)),(Nq d6 x3.name true v6))))else some (.inr (.inl ())))
def lG(a0:aV):Stp Int (Unit⊕Bool)
 |v4=>(bif decide (v4<(a0.phases.length:Int))then(bo a0.phases v4).bind λx2=>dw (iter (lF n x2) n ((0:Int),([]:(List (ByteArray×Bool))))) λ()=>(bif decide ((x2.gives.length:Int)>30)then(some false).map λa=> .inr (.inr a)else some (.inl (i64.wrap (v4+1))))else some (.inr (.inl ())))
def zw(a0:aV):Option Bool:=
 (xK n a0).bind λr1=>((bif decide (a0.lot<0)then some true else(bif decide (a0.lot>1073741824)then some true else(bif decide ((a0.phases.length:Int)<1)then some true else(bif decide ((a0.phases.length:Int)>8)then some true else(bif decide ((r1.length:Int)<1)then some true else some (decide ((r1.length:Int)>40)))))))).bind λv1=>(bif v1 then some false else dw (iter (lD n r1) n (0:Int)) λ()=>dw (iter (lG n a0) n (0:Int)) λ()=>some true)
def PE(a0:Unit)(a1:Int):Option (List ay):=
 (bif decide (a1<0)then none else(bif (decide ((i64.wrap (a1 -(i64.wrap (0 -0))))>0))then ck (BH (i64.wrap (a1 -(i64.wrap (0 -0)))) 32)<|ck (yF 0 0 ((i64.wrap (a1 -(i64.wrap (0 -0)))).toNat))<|ck (bk (sub (List.replicate (i64.wrap (a1 -(i64.wrap (0 -0)))).toNat (ay.mk 0 0 0 0)) 0 0).length 0)<|some (sub (List.replicate (i64.wrap (a1 -(i64.wrap (0 -0)))).toNat (ay.mk 0 0 0 0)) 0 0)else some ([]:(List ay))))
def PG(a0:List (List ay)):Stp (Int×Int) Int
 |(v1,v2)=>(bif decide (v2<(a0.length:Int))then(bo a0 v2).bind λx1=>(bif decide ((i64.wrap (v1+(x1.length:Int)))<0)then none else some (.inl ((i64.wrap (v1+(x1.length:Int))),(i64.wrap (v2+1)))))else some (.inr v1))
def PI(a0:List (List ay)):Stp (Int×(List ay)) (List ay)
 |(v3,v4)=>(bif decide (v3<(a0.length:Int))then(bo a0 v3).bind λx2=>ck (bR v4.length v4.length x2.length x2.length 32)<|j6 (v4++x2) λr2=>ck (bk r2.length r2.length)<|some (.inl ((i64.wrap (v3+1)),r2))else ck (bk v4.length v4.length)<|some (.inr v4))
def AO(a0:List (List ay)):Option (List ay):=
 (iter (PG a0) n ((0:Int),(0:Int))).bind λw1=>(PE () w1).bind λr1=>ck (bk r1.length r1.length)<|(iter (PI a0) n ((0:Int),r1)).bind λw2=>ck (bk (sub w2 0 w2.length).length w2.length)<|some (sub w2 0 w2.length)
def bits_Len64(a0:Int):Option Int:=
 ((bif decide (a0>=4294967296)then ck (decide (0<=32)&&decide (32<=IntKind.u64.bits))<|some ((a0/2 ^ (32:Int).toNat),(32:Int))else some (a0,(0:Int))):Option (Int×Int)).bind λ(v1,v2)=>((bif decide (v1>=65536)then ck (decide (0<=16)&&decide (16<=IntKind.u64.bits))<|some ((v1/2 ^ (16:Int).toNat),(i64.wrap (v2+16)))else some (v1,v2)):Option (Int×Int)).bind λ(v3,v4)=>((bif decide (v3>=256)then ck (decide (0<=8)&&decide (8<=IntKind.u64.bits))<|some ((v3/2 ^ (8:Int).toNat),(i64.wrap (v4+8)))else some (v3,v4)):Option (Int×Int)).bind λ(v5,v6)=>(J9 (⟨#[0,1,2,2,3,3,3,3,4,4,4,4,4,4,4,4,5,5,5,5,5,5,5,5,5,5,5,5,5,5,5,5,6,6,6,6,6,6,6,6,6,6,6,6,6,6,6,6,6,6,6,6,6,6,6,6,6,6,6,6,6,6,6,6,7,7,7,7,7,7,7,7,7,7,7,7,7,7,7,7,7,7,7,7,7,7,7,7,7,7,7,7,7,7,7,7,7,7,7,7,7,7,7,7,7,7,7,7,7,7,7,7,7,7,7,7,7,7,7,7,7,7,7,7,7,7,7,7,8,8,8,8,8,8,8,8,8,8,8,8,8,8,8,8,8,8,8,8,8,8,8,8,8,8,8,8,8,8,8,8,8,8,8,8,8,8,8,8,8,8,8,8,8,8,8,8,8,8,8,8,8,8,8,8,8,8,8,8,8,8,8,8,8,8,8,8,8,8,8,8,8,8,8,8,8,8,8,8,8,8,8,8,8,8,8,8,8,8,8,8,8,8,8,8,8,8,8,8,8,8,8,8,8,8,8,8,8,8,8,8,8,8,8,8,8,8,8,8,8,8,8,8,8,8,8,8]⟩) (IntKind.u8.wrap v5)).bind λx1=>some (i64.wrap (v6+(i64.wrap x1)))
def bits_Len(a0:Int):Option Int:=
 (bits_Len64 a0).bind λr1=>some r1
def cmp_isNaN_int(a0:Int):Option Bool:=
 some (a0 !=(a0:Int))
def cmp_Less_int(a0:Int)(a1:Int):Option Bool:=
 (cmp_isNaN_int a0).bind λr1=>(bif r1 then(cmp_isNaN_int a1).bind λr2=>(bif (!r2)then some true else some (decide (a0<(a1:Int))))else some (decide (a0<(a1:Int))))
def zx(a0:List Int)(a1:Int)(a2:Int):Option (List Int):=
 nJ cmp_Less_int (λ r=>r) n a0 a1 a2
def Hf(a0:List Int)(a1:Int)(a2:Int)(a3:Int):Option (List Int):=
 tN cmp_Less_int (λ r=>r) n a0 a1 a2 a3
def Hg(a0:List Int)(a1:Int)(a2:Int):Option (List Int):=
 Ae cmp_Less_int (λ r=>r) n a0 a1 a2
def bA(a0:Int):Option Int:=
 (bits_Len (IntKind.u64.wrap a0)).bind λr1=>ck (decide (0<=r1)&&decide (r1<=IntKind.u64.bits))<|some (IntKind.u64.wrap (1*2 ^ (r1:Int).toNat))
def bI(a0:Int):Option (Int×Int):=
 ck (decide (0<=13)&&decide (13<=IntKind.u64.bits))<|ck (decide (0<=7)&&decide (7<=IntKind.u64.bits))<|ck (decide (0<=17)&&decide (17<=IntKind.u64.bits))<|some ((bits .xor .u64 (bits .xor .u64 (bits .xor .u64 a0 (IntKind.u64.wrap (a0*2 ^ (13:Int).toNat))) ((bits .xor .u64 a0 (IntKind.u64.wrap (a0*2 ^ (13:Int).toNat)))/2 ^ (7:Int).toNat)) (IntKind.u64.wrap ((bits .xor .u64 (bits .xor .u64 a0 (IntKind.u64.wrap (a0*2 ^ (13:Int).toNat))) ((bits .xor .u64 a0 (IntKind.u64.wrap (a0*2 ^ (13:Int).toNat)))/2 ^ (7:Int).toNat))*2 ^ (17:Int).toNat))),(bits .xor .u64 (bits .xor .u64 (bits .xor .u64 a0 (IntKind.u64.wrap (a0*2 ^ (13:Int).toNat))) ((bits .xor .u64 a0 (IntKind.u64.wrap (a0*2 ^ (13:Int).toNat)))/2 ^ (7:Int).toNat)) (IntKind.u64.wrap ((bits .xor .u64 (bits .xor .u64 a0 (IntKind.u64.wrap (a0*2 ^ (13:Int).toNat))) ((bits .xor .u64 a0 (IntKind.u64.wrap (a0*2 ^ (13:Int).toNat)))/2 ^ (7:Int).toNat))*2 ^ (17:Int).toNat))))
def zy(a0:List Int)(a1:Int)(a2:Int):Option (List Int):=
 kI bA bI n a0 a1 a2
def KC(a0:List Int)(a1:Int)(a2:Int)(a3:Int):Option (Int×Int×Int):=
 CK cmp_Less_int (λ r=>r) a0 a1 a2 a3
def KD(a0:List Int)(a1:Int)(a2:Int)(a3:Int)(a4:Int):Option (Int×Int):=
 zq cmp_Less_int (λ r=>r) a0 a1 a2 a3 a4
def yJ(a0:List Int)(a1:Int)(a2:Int):Option (Int×Int):=
 eT cmp_Less_int (λ r=>r) a0 a1 a2
def BK(a0:List Int)(a1:Int)(a2:Int):Option (Int×Int):=
 qg cmp_Less_int (λ r=>r) a0 a1 a2
def AP(a0:List Int)(a1:Int)(a2:Int):Option (List Int):=
 mO n a0 a1 a2
def sP(a0:List Int)(a1:Int)(a2:Int):Option (Bool×(List Int)):=
 fE cmp_Less_int (λ r=>r) n a0 a1 a2
def yK(a0:List Int)(a1:Int)(a2:Int)(a3:Int):Option (Int×(List Int)):=
 jC cmp_Less_int (λ r=>r) n a0 a1 a2 a3
def Fy(a0:List Int)(a1:Int)(a2:Int)(a3:Int):Option (Int×Bool×(List Int)):=
 sN cmp_Less_int (λ r=>r) n a0 a1 a2 a3
def nK(rc:((List Int))->(Int)->(Int)->(Int)->Option (List Int))(a0:List Int)(a1:Int)(a2:Int)(a3:Int):Option (List Int):=
 kJ cmp_Less_int (λ r=>r) bA bI n rc a0 a1 a2 a3
def mV(rc:((List Int))->(Int)->(Int)->(Int)->Option (List Int)):bz xx:=⟨[.mut (.int .i64),.d (.int .i64),.d (.int .i64),.d (.int .i64)],[.mu (.int .i64)],λa=>rc a.1 a.2.1 a.2.2.1 a.2.2.2.1,none⟩
def gT(n:Nat):Nat->((List Int))->(Int)->(Int)->(Int)->Option (List Int)
 | 0=>λ_ _ _ _=>none
 |m+1=>nK n (gT n m)
def o7(a0:List Int)(a1:Int)(a2:Int)(a3:Int):Option (List Int):=gT n n a0 a1 a2 a3
def nQ(a0:List Int):Option (List Int):=
 (bits_Len (IntKind.u64.wrap (a0.length:Int))).bind λr1=>ck (bk a0.length a0.length)<|(o7 n a0 0 (a0.length:Int) r1).bind λr2=>some r2
def PK(a0:List Int)(v1:Int):Stp (Int×Int×(List Int)) (Int×(List Int))
 |(v2,v3,v4)=>(bif (decide (v3<((((a0.length -(v1:Int).toNat):Nat):Int):Int)))then(ck (b9 v3 (a0.length -(v1:Int).toNat))<|(bo v4 (((0+(v1:Int).toNat):Nat)+v3:Int)).bind λx3=>ck (b9 (i64.wrap (v3 -1)) (a0.length -(v1:Int).toNat))<|(bo v4 (((0+(v1:Int).toNat):Nat)+(i64.wrap (v3 -1)):Int)).bind λx4=>(bif (x3 !=(x4:Int))then ck (b9 v3 (a0.length -(v1:Int).toNat))<|(bo v4 (((0+(v1:Int).toNat):Nat)+v3:Int)).bind λx5=>ck (b9 v2 a0.length)<|(bo v4 ((0:Nat)+v2:Int)).bind λx6=>some ((i64.wrap (v2+1)),(v4.set ((0:Nat)+v2:Int).toNat x5))else some (v2,v4)):Option (Int×(List Int))).bind λ(v5,v6)=>some (.inl (v5,(i64.wrap (v3+1)),v6))else some (.inr (v2,v4)))
def PL(a0:List Int):Stp Int (Unit⊕(Unit×(List Int)))
 |v1=>(bif decide (v1<(a0.length:Int))then ck (b9 v1 a0.length)<|(bo a0 ((0:Nat)+v1:Int)).bind λx1=>ck (b9 (i64.wrap (v1 -1)) a0.length)<|(bo a0 ((0:Nat)+(i64.wrap (v1 -1)):Int)).bind λx2=>(bif (x1==(x2:Int))then ck (yF v1 (a0.length:Int) a0.length)<|(iter (PK a0 v1) n (v1,(1:Int),a0)).bind λ(w1,w2)=>ck (yF w1 (a0.length:Int) a0.length)<|ck (yF 0 w1 a0.length)<|(ck (bk ((w1:Int).toNat) ((w1:Int).toNat))<|ck (bk (sub (w2.take (0+(w1:Int).toNat)) 0 ((w1:Int).toNat)).length ((w1:Int).toNat))<|some ((),(sub (w2.take (0+(w1:Int).toNat)) 0 ((w1:Int).toNat)))).map λa=> .inr (.inr a)else some (.inl (i64.wrap (v1+1))))else some (.inr (.inl ())))
def pU(a0:List Int):Option (Unit×(List Int)):=
 (bif decide ((a0.length:Int)<2)then ck (bk a0.length a0.length)<|ck (bk (sub a0 0 a0.length).length a0.length)<|some ((),(sub a0 0 a0.length))else dw (iter (PL n a0) n (1:Int)) λ()=>ck (bk a0.length a0.length)<|ck (bk (sub a0 0 a0.length).length a0.length)<|some ((),(sub a0 0 a0.length)))
def yL(a0:List aD)(a1:Int)(a2:Int)(a3:(aD×aD×Unit)->Option Int):Option (List aD):=
 nJ (λ x y=>a3 (x,y,())) (λ r=>decide (r<0)) n a0 a1 a2
def Fz(a0:List aD)(a1:Int)(a2:Int)(a3:Int)(a4:(aD×aD×Unit)->Option Int):Option (List aD):=
 tN (λ x y=>a4 (x,y,())) (λ r=>decide (r<0)) n a0 a1 a2 a3
def FB(a0:List aD)(a1:Int)(a2:Int)(a3:(aD×aD×Unit)->Option Int):Option (List aD):=
 Ae (λ x y=>a3 (x,y,())) (λ r=>decide (r<0)) n a0 a1 a2
def yM(a0:List aD)(a1:Int)(a2:Int)(a3:(aD×aD×Unit)->Option Int):Option (List aD):=
 kI bA bI n a0 a1 a2
def IX(a0:List aD)(a1:Int)(a2:Int)(a3:Int)(a4:(aD×aD×Unit)->Option Int):Option (Int×Int×Int):=
 CK (λ x y=>a4 (x,y,())) (λ r=>decide (r<0)) a0 a1 a2 a3
def IY(a0:List aD)(a1:Int)(a2:Int)(a3:Int)(a4:Int)(a5:(aD×aD×Unit)->Option Int):Option (Int×Int):=
 zq (λ x y=>a5 (x,y,())) (λ r=>decide (r<0)) a0 a1 a2 a3 a4
def xM(a0:List aD)(a1:Int)(a2:Int)(a3:(aD×aD×Unit)->Option Int):Option (Int×Int):=
 eT (λ x y=>a3 (x,y,())) (λ r=>decide (r<0)) a0 a1 a2
def AQ(a0:List aD)(a1:Int)(a2:Int)(a3:(aD×aD×Unit)->Option Int):Option (Int×Int):=
 qg (λ x y=>a3 (x,y,())) (λ r=>decide (r<0)) a0 a1 a2
def zA(a0:List aD)(a1:Int)(a2:Int)(a3:(aD×aD×Unit)->Option Int):Option (List aD):=
 mO n a0 a1 a2
def rG(a0:List aD)(a1:Int)(a2:Int)(a3:(aD×aD×Unit)->Option Int):Option (Bool×(List aD)):=
 fE (λ x y=>a3 (x,y,())) (λ r=>decide (r<0)) n a0 a1 a2
def xN(a0:List aD)(a1:Int)(a2:Int)(a3:Int)(a4:(aD×aD×Unit)->Option Int):Option (Int×(List aD)):=
 jC (λ x y=>a4 (x,y,())) (λ r=>decide (r<0)) n a0 a1 a2 a3
def DJ(a0:List aD)(a1:Int)(a2:Int)(a3:Int)(a4:(aD×aD×Unit)->Option Int):Option (Int×Bool×(List aD)):=
 sN (λ x y=>a4 (x,y,())) (λ r=>decide (r<0)) n a0 a1 a2 a3
def jb(rc:((List aD))->(Int)->(Int)->(Int)->((aD×aD×Unit)->Option Int)->Option (List aD))(a0:List aD)(a1:Int)(a2:Int)(a3:Int)(a4:(aD×aD×Unit)->Option Int):Option (List aD):=
 kJ (λ x y=>a4 (x,y,())) (λ r=>decide (r<0)) bA bI n (λ l a b d=>rc l a b d a4) a0 a1 a2 a3
def kZ(rc:((List aD))->(Int)->(Int)->(Int)->((aD×aD×Unit)->Option Int)->Option (List aD)):bz xx:=⟨[.mut (.st SI.span),.d (.int .i64),.d (.int .i64),.d (.int .i64),.cT [(.st SI.span),(.st SI.span)] (.int .i64)],[.mu (.st SI.span)],λa=>rc a.1 a.2.1 a.2.2.1 a.2.2.2.1 a.2.2.2.2.1,none⟩
def eD(n:Nat):Nat->((List aD))->(Int)->(Int)->(Int)->((aD×aD×Unit)->Option Int)->Option (List aD)
 | 0=>λ_ _ _ _ _=>none
 |m+1=>jb n (eD n m)
def nZ(a0:List aD)(a1:Int)(a2:Int)(a3:Int)(a4:(aD×aD×Unit)->Option Int):Option (List aD):=eD n n a0 a1 a2 a3 a4
def qh(a0:List aD)(a1:(aD×aD×Unit)->Option Int):Option (List aD):=
 (bits_Len (IntKind.u64.wrap (a0.length:Int))).bind λr1=>ck (bk a0.length a0.length)<|(nZ n a0 0 (a0.length:Int) r1 a1).bind λr2=>some r2
def cmp_Compare_int(a0:Int)(a1:Int):Option Int:=
 (cmp_isNaN_int a0).bind λr1=>(cmp_isNaN_int a1).bind λr2=>(bif r1 then(bif r2 then some (0:Int)else some ((-1):Int))else(bif r2 then some (1:Int)else(bif decide (a0<(a1:Int))then some ((-1):Int)else(bif decide (a0>(a1:Int))then some (1:Int)else some (0:Int)))))
def zB(a0:aD)(a1:aD):Option Int:=
 (cmp_Compare_int a0.from_ a1.from_).bind λr1=>some r1
def uH(a0:List ay)(a1:Int):Stp (Int×(List aD)) (List aD)
 |(v1,v2)=>(bif decide (v1<(a0.length:Int))then((bo a0 v1).bind λx1=>((bif decide (x1.x0<=(a1:Int))then some (decide (a1<(x1.x1:Int)))else some false)).bind λv3=>(bif v3 then ck (bR v2.length v2.length (sub ([(aD.mk x1.y0 x1.y1)]:List aD) 0 1).length 1 16)<|j6 (v2++(sub ([(aD.mk x1.y0 x1.y1)]:List aD) 0 1)) λr1=>ck (bk r1.length r1.length)<|some r1 else ck (bk v2.length v2.length)<|some v2):Option ((List aD))).bind λv4=>ck (bk v4.length v4.length)<|some (.inl ((i64.wrap (v1+1)),v4))else ck (bk v2.length v2.length)<|some (.inr v2))
def uI(w1:List aD)(r2:List aD):Stp (Int×(List aD)) (List aD)
 |(v5,v6)=>(bif decide (v5<(w1.length:Int))then(ck (b9 v5 w1.length)<|(bo r2 ((0:Nat)+v5:Int)).bind λx2=>((bif decide ((v6.length:Int)>0)then ck (b9 (i64.wrap ((v6.length:Int) -1)) v6.length)<|(bo v6 ((0:Nat)+(i64.wrap ((v6.length:Int) -1)):Int)).bind λx3=>some (decide (x2.from_<=(x3.to:Int)))else some false)).bind λv7=>(bif v7 then ck (b9 (i64.wrap ((v6.length:Int) -1)) v6.length)<|(bo v6 ((0:Nat)+(i64.wrap ((v6.length:Int) -1)):Int)).bind λx4=>ck (b9 (i64.wrap ((v6.length:Int) -1)) v6.length)<|(bo v6 ((0:Nat)+(i64.wrap ((v6.length:Int) -1)):Int)).bind λx5=>ck (bk v6.length (v6.set ((0:Nat)+(i64.wrap ((v6.length:Int) -1)):Int).toNat (aD.mk x5.from_ (max x4.to x2.to))).length)<|some (v6.set ((0:Nat)+(i64.wrap ((v6.length:Int) -1)):Int).toNat (aD.mk x5.from_ (max x4.to x2.to)))else ck (bR v6.length v6.length (sub ([x2]:List aD) 0 1).length 1 16)<|j6 (v6++(sub ([x2]:List aD) 0 1)) λr3=>ck (bk r3.length r3.length)<|some r3):Option ((List aD))).bind λv8=>ck (bk v8.length v8.length)<|some (.inl ((i64.wrap (v5+1)),v8))else ck (bk v6.length v6.length)<|some (.inr v6))
def LW(a0:List ay)(a1:Int):Option (List aD):=
 ck (bk 0 ([]:List aD).length)<|(iter (uH a0 a1) n ((0:Int),([]:List aD))).bind λw1=>ck (bk w1.length w1.length)<|(qh n w1 (λ (y1:aD×aD×Unit)=>zB y1.1 y1.2.1)).bind λr2=>ck (bk 0 ([]:List aD).length)<|(iter (uI w1 r2) n ((0:Int),([]:List aD))).bind λw2=>ck (bk (sub w2 0 w2.length).length w2.length)<|some (sub w2 0 w2.length)
def uJ(r1:List ay):Stp (Int×(List Int)) (List Int)
 |(v1,v2)=>(bif decide (v1<(r1.length:Int))then ck (b9 v1 r1.length)<|(bo r1 ((0:Nat)+v1:Int)).bind λx1=>ck (bR v2.length v2.length (sub ([x1.x0,x1.x1]:List Int) 0 2).length 2 8)<|j6 (v2++(sub ([x1.x0,x1.x1]:List Int) 0 2)) λr2=>ck (bk r2.length r2.length)<|some (.inl ((i64.wrap (v1+1)),r2))else ck (bk v2.length v2.length)<|some (.inr v2))
def uK(r1:List ay)(r4:Unit×(List Int)):Stp (Int×(List bQ)) (List bQ)
 |(v3,v4)=>(bif decide (v3<(r4.2.length:Int))then ck (b9 (i64.wrap (v3 -1)) r4.2.length)<|(bo r4.2 ((0:Nat)+(i64.wrap (v3 -1)):Int)).bind λx2=>ck (b9 v3 r4.2.length)<|(bo r4.2 ((0:Nat)+v3:Int)).bind λx3=>ck (b9 (i64.wrap (v3 -1)) r4.2.length)<|(bo r4.2 ((0:Nat)+(i64.wrap (v3 -1)):Int)).bind λx4=>ck (bk (sub r1 0 r1.length).length r1.length)<|(LW n (sub r1 0 r1.length) x4).bind λr5=>ck (bk (sub r5 0 r5.length).length r5.length)<|ck (bR v4.length v4.length (sub ([(bQ.mk x2 x3 (sub r5 0 r5.length))]:List bQ) 0 1).length 1 40)<|j6 (v4++(sub ([(bQ.mk x2 x3 (sub r5 0 r5.length))]:List bQ) 0 1)) λr6=>ck (bk r6.length r6.length)<|some (.inl ((i64.wrap (v3+1)),r6))else ck (bk v4.length v4.length)<|some (.inr v4))
def oP(a0:List (List ay)):Option (List bQ):=
 (AO n a0).bind λr1=>ck (bk 0 ([]:List Int).length)<|(iter (uJ r1) n ((0:Int),([]:List Int))).bind λw1=>ck (bk w1.length w1.length)<|(nQ n w1).bind λr3=>ck (bk w1.length r3.length)<|(pU n r3).bind λr4=>ck (bk 0 ([]:List bQ).length)<|(iter (uK n r1 r4) n ((1:Int),([]:List bQ))).bind λw2=>ck (bk (sub w2 0 w2.length).length w2.length)<|some (sub w2 0 w2.length)
def RH(a0:List aD)(a1:List aD):Stp Int (Unit⊕Bool)
 |v1=>(bif decide (v1<(a0.length:Int))then(bo a0 v1).bind λx1=>(bo a1 v1).bind λx2=>(bif (!((x1.from_==(x2.from_:Int))&&((x1.to==(x2.to:Int))&&true)))then(some false).map λa=> .inr (.inr a)else some (.inl (i64.wrap (v1+1))))else some (.inr (.inl ())))
def wT(a0:List aD)(a1:List aD):Option Bool:=
 (bif ((a0.length:Int) !=(a1.length:Int))then some false else dw (iter (RH a0 a1) n (0:Int)) λ()=>some true)
def tT(a0:List bQ)(v1:Int):Stp Int Int
 |v3=>((bif decide (v3<(a0.length:Int))then(bo a0 v3).bind λx1=>(bo a0 v1).bind λx2=>(wT n x1.column x2.column).bind λr1=>some r1 else some false)).bind λv4=>(bif v4 then some (.inl (i64.wrap (v3+1)))else some (.inr v3))
def xO(a0:List bQ)(v1:Int)(w1:Int)(x3:bQ):Stp (Int×(List ay)) (List ay)
 |(v5,v6)=>(bif decide (v5<(x3.column.length:Int))then(bo x3.column v5).bind λx4=>(bo a0 v1).bind λx5=>(bo a0 (i64.wrap (w1 -1))).bind λx6=>ck (bR v6.length v6.length (sub ([(ay.mk x5.x0 x4.from_ x6.x1 x4.to)]:List ay) 0 1).length 1 32)<|j6 (v6++(sub ([(ay.mk x5.x0 x4.from_ x6.x1 x4.to)]:List ay) 0 1)) λr2=>ck (bk r2.length r2.length)<|some (.inl ((i64.wrap (v5+1)),r2))else ck (bk v6.length v6.length)<|some (.inr v6))
def xP(a0:List bQ):Stp (Int×(List ay)) (List ay)
 |(v1,v2)=>(bif decide (v1<(a0.length:Int))then(iter (tT n a0 v1) n (i64.wrap (v1+1))).bind λw1=>(bo a0 v1).bind λx3=>ck (bk v2.length v2.length)<|(iter (xO a0 v1 w1 x3) n ((0:Int),v2)).bind λw2=>ck (bk w2.length w2.length)<|some (.inl (w1,w2))else ck (bk v2.length v2.length)<|some (.inr v2))
def KE(a0:List bQ):Option (List ay):=
 ck (bk 0 ([]:List ay).length)<|(iter (xP n a0) n ((0:Int),([]:List ay))).bind λw3=>ck (bk (sub w3 0 w3.length).length w3.length)<|some (sub w3 0 w3.length)
def AR(a0:List ay):Option ((List ay)×Int):=
 (bif decide ((a0.length:Int)>200)then some (([]:(List ay)),(6:Int))else some (a0,(0:Int)))
def PN(a0:List ay):Stp Int (Unit⊕((List ay)×Int))
 |v1=>(bif decide (v1<(a0.length:Int))then(bo a0 v1).bind λx1=>(pu x1).bind λr1=>(bif (!r1)then(some (([]:(List ay)),(1:Int))).map λa=> .inr (.inr a)else some (.inl (i64.wrap (v1+1))))else some (.inr (.inl ())))
def Lq(a0:List ay):Option ((List ay)×Int):=
 dw (iter (PN a0) n (0:Int)) λ()=>(bif decide ((a0.length:Int)>400)then some (([]:(List ay)),(6:Int))else ck (bk (sub ([a0]:List (List ay)) 0 1).length 1)<|(oP n (sub ([a0]:List (List ay)) 0 1)).bind λr2=>ck (bk (sub r2 0 r2.length).length r2.length)<|(KE n (sub r2 0 r2.length)).bind λr3=>ck (bk (sub r3 0 r3.length).length r3.length)<|(AR (sub r3 0 r3.length)).bind λr4=>some (r4.1,r4.2))
def RI(a0:List ay)(a1:List ay):Stp Int (Unit⊕Bool)
 |v1=>(bif decide (v1<(a0.length:Int))then(bo a0 v1).bind λx1=>(bo a1 v1).bind λx2=>(bif (!((x1.x0==(x2.x0:Int))&&((x1.y0==(x2.y0:Int))&&((x1.x1==(x2.x1:Int))&&((x1.y1==(x2.y1:Int))&&true)))))then(some false).map λa=> .inr (.inr a)else some (.inl (i64.wrap (v1+1))))else some (.inr (.inl ())))
def oQ(a0:List ay)(a1:List ay):Option Bool:=
 (bif ((a0.length:Int) !=(a1.length:Int))then some false else dw (iter (RI a0 a1) n (0:Int)) λ()=>some true)
def oH(a0:List ay):Option Bool:=
 (Lq n a0).bind λr1=>(bif (r1.2==0)then(oQ n r1.1 a0).bind λr2=>some r2 else some false)
def lZ(a0:List bQ)(a1:Int)(a2:(bQ×Int×Unit)->Option Int):Stp (Int×Int) Int
 |(v1,v2)=>(bif decide (v1<(v2:Int))then ck (decide (0<=1)&&decide (1<=IntKind.u64.bits))<|(bo a0 (i64.wrap ((IntKind.u64.wrap (i64.wrap (v1+v2)))/2 ^ (1:Int).toNat))).bind λx1=>(a2 (x1,a1,())).bind λr1=>(bif decide (r1<0)then some (.inl ((i64.wrap ((i64.wrap ((IntKind.u64.wrap (i64.wrap (v1+v2)))/2 ^ (1:Int).toNat))+1)),v2))else some (.inl (v1,(i64.wrap ((IntKind.u64.wrap (i64.wrap (v1+v2)))/2 ^ (1:Int).toNat)))))else some (.inr v1))
def jh(a0:List bQ)(a1:Int)(a2:(bQ×Int×Unit)->Option Int):Option (Int×Bool):=
 (iter (lZ a0 a1 a2) n ((0:Int),(a0.length:Int))).bind λw1=>(bif decide (w1<(a0.length:Int))then(bo a0 w1).bind λx2=>(a2 (x2,a1,())).bind λr2=>some (w1,(r2==0))else some (w1,false))
def xQ(a0:bQ)(a1:Int):Option Int:=
 (bif decide (a0.x1<=(a1:Int))then some ((-1):Int)else some (1:Int))
def Ya(a0:List bQ)(a1:Int):Option (List aD):=
 (jh n a0 a1 (λ (y1:bQ×Int×Unit)=>xQ y1.1 y1.2.1)).bind λr1=>((bif decide (r1.1<(a0.length:Int))then(bo a0 r1.1).bind λx1=>some (decide (x1.x0<=(a1:Int)))else some false)).bind λv1=>(bif v1 then(bo a0 r1.1).bind λx2=>some x2.column else some ([]:(List aD)))
def PO(a0:Unit)(a1:Int):Option (List aD):=
 (bif decide (a1<0)then none else(bif (decide ((i64.wrap (a1 -(i64.wrap (0 -0))))>0))then ck (BH (i64.wrap (a1 -(i64.wrap (0 -0)))) 16)<|ck (yF 0 0 ((i64.wrap (a1 -(i64.wrap (0 -0)))).toNat))<|ck (bk (sub (List.replicate (i64.wrap (a1 -(i64.wrap (0 -0)))).toNat (aD.mk 0 0)) 0 0).length 0)<|some (sub (List.replicate (i64.wrap (a1 -(i64.wrap (0 -0)))).toNat (aD.mk 0 0)) 0 0)else some ([]:(List aD))))
def PS(a0:List (List aD)):Stp (Int×Int) Int
 |(v1,v2)=>(bif decide (v2<(a0.length:Int))then(bo a0 v2).bind λx1=>(bif decide ((i64.wrap (v1+(x1.length:Int)))<0)then none else some (.inl ((i64.wrap (v1+(x1.length:Int))),(i64.wrap (v2+1)))))else some (.inr v1))
def PU(a0:List (List aD)):Stp (Int×(List aD)) (List aD)
 |(v3,v4)=>(bif decide (v3<(a0.length:Int))then(bo a0 v3).bind λx2=>ck (bR v4.length v4.length x2.length x2.length 16)<|j6 (v4++x2) λr2=>ck (bk r2.length r2.length)<|some (.inl ((i64.wrap (v3+1)),r2))else ck (bk v4.length v4.length)<|some (.inr v4))
def AU(a0:List (List aD)):Option (List aD):=
 (iter (PS a0) n ((0:Int),(0:Int))).bind λw1=>(PO () w1).bind λr1=>ck (bk r1.length r1.length)<|(iter (PU a0) n ((0:Int),r1)).bind λw2=>ck (bk (sub w2 0 w2.length).length w2.length)<|some (sub w2 0 w2.length)
def nk(a0:List aD)(a1:Int)(a2:(aD×Int×Unit)->Option Int):Stp (Int×Int) Int
 |(v1,v2)=>(bif decide (v1<(v2:Int))then ck (decide (0<=1)&&decide (1<=IntKind.u64.bits))<|(bo a0 (i64.wrap ((IntKind.u64.wrap (i64.wrap (v1+v2)))/2 ^ (1:Int).toNat))).bind λx1=>(a2 (x1,a1,())).bind λr1=>(bif decide (r1<0)then some (.inl ((i64.wrap ((i64.wrap ((IntKind.u64.wrap (i64.wrap (v1+v2)))/2 ^ (1:Int).toNat))+1)),v2))else some (.inl (v1,(i64.wrap ((IntKind.u64.wrap (i64.wrap (v1+v2)))/2 ^ (1:Int).toNat)))))else some (.inr v1))
def jD(a0:List aD)(a1:Int)(a2:(aD×Int×Unit)->Option Int):Option (Int×Bool):=
 (iter (nk a0 a1 a2) n ((0:Int),(a0.length:Int))).bind λw1=>(bif decide (w1<(a0.length:Int))then(bo a0 w1).bind λx2=>(a2 (x2,a1,())).bind λr2=>some (w1,(r2==0))else some (w1,false))
def l5(a0:aD)(a1:Int):Option Int:=
 (bif decide (a0.to<=(a1:Int))then some ((-1):Int)else some (1:Int))
def FC(a0:List aD)(a1:Int):Option Bool:=
 (jD n a0 a1 (λ (y1:aD×Int×Unit)=>l5 y1.1 y1.2.1)).bind λr1=>(bif decide (r1.1<(a0.length:Int))then(bo a0 r1.1).bind λx1=>some (decide (x1.from_<=(a1:Int)))else some false)
def xR(r1:List aD):Stp (Int×(List Int)) (List Int)
 |(v1,v2)=>(bif decide (v1<(r1.length:Int))then ck (b9 v1 r1.length)<|(bo r1 ((0:Nat)+v1:Int)).bind λx1=>ck (bR v2.length v2.length (sub ([x1.from_,x1.to]:List Int) 0 2).length 2 8)<|j6 (v2++(sub ([x1.from_,x1.to]:List Int) 0 2)) λr2=>ck (bk r2.length r2.length)<|some (.inl ((i64.wrap (v1+1)),r2))else ck (bk v2.length v2.length)<|some (.inr v2))
def xS(a0:List aD)(a1:List aD)(a2:(Bool×Bool×Unit)->Option Bool)(r4:Unit×(List Int)):Stp (Int×(List aD)) (List aD)
 |(v3,v4)=>(bif decide (v3<(r4.2.length:Int))then(ck (b9 (i64.wrap (v3 -1)) r4.2.length)<|(bo r4.2 ((0:Nat)+(i64.wrap (v3 -1)):Int)).bind λx2=>(FC n a0 x2).bind λr5=>(FC n a1 x2).bind λr6=>(a2 (r5,r6,())).bind λr7=>(bif (!r7)then ck (bk v4.length v4.length)<|some v4 else((bif decide ((v4.length:Int)>0)then ck (b9 (i64.wrap ((v4.length:Int) -1)) v4.length)<|(bo v4 ((0:Nat)+(i64.wrap ((v4.length:Int) -1)):Int)).bind λx3=>some (x3.to==(x2:Int))else some false)).bind λv5=>(bif v5 then ck (b9 v3 r4.2.length)<|(bo r4.2 ((0:Nat)+v3:Int)).bind λx4=>ck (b9 (i64.wrap ((v4.length:Int) -1)) v4.length)<|(bo v4 ((0:Nat)+(i64.wrap ((v4.length:Int) -1)):Int)).bind λx5=>ck (bk v4.length (v4.set ((0:Nat)+(i64.wrap ((v4.length:Int) -1)):Int).toNat (aD.mk x5.from_ x4)).length)<|some (v4.set ((0:Nat)+(i64.wrap ((v4.length:Int) -1)):Int).toNat (aD.mk x5.from_ x4))else ck (b9 v3 r4.2.length)<|(bo r4.2 ((0:Nat)+v3:Int)).bind λx6=>ck (bR v4.length v4.length (sub ([(aD.mk x2 x6)]:List aD) 0 1).length 1 16)<|j6 (v4++(sub ([(aD.mk x2 x6)]:List aD) 0 1)) λr8=>ck (bk r8.length r8.length)<|some r8)):Option ((List aD))).bind λv6=>ck (bk v6.length v6.length)<|some (.inl ((i64.wrap (v3+1)),v6))else ck (bk v4.length v4.length)<|some (.inr v4))
def KF(a0:List aD)(a1:List aD)(a2:(Bool×Bool×Unit)->Option Bool):Option (List aD):=
 ck (bk (sub ([a0,a1]:List (List aD)) 0 2).length 2)<|(AU n (sub ([a0,a1]:List (List aD)) 0 2)).bind λr1=>ck (bk 0 ([]:List Int).length)<|(iter (xR r1) n ((0:Int),([]:List Int))).bind λw1=>ck (bk w1.length w1.length)<|(nQ n w1).bind λr3=>ck (bk w1.length r3.length)<|(pU n r3).bind λr4=>ck (bk 0 ([]:List aD).length)<|(iter (xS n a0 a1 a2 r4) n ((1:Int),([]:List aD))).bind λw2=>ck (bk (sub w2 0 w2.length).length w2.length)<|some (sub w2 0 w2.length)
def rH(a2:(Bool×Bool×Unit)->Option Bool)(r3:List bQ)(r4:List bQ)(r5:List bQ):Stp (Int×(List bQ)) (List bQ)
 |(v2,v3)=>(bif decide (v2<(r5.length:Int))then ck (b9 v2 r5.length)<|(bo v3 ((0:Nat)+v2:Int)).bind λx1=>(Ya n (sub r3 0 r3.length) x1.x0).bind λr6=>(Ya n (sub r4 0 r4.length) x1.x0).bind λr7=>(KF n r6 r7 a2).bind λr8=>ck (b9 v2 r5.length)<|ck (bk (sub r8 0 r8.length).length r8.length)<|(bo v3 ((0:Nat)+v2:Int)).bind λx2=>some (.inl ((i64.wrap (v2+1)),(v3.set ((0:Nat)+v2:Int).toNat (bQ.mk x2.x0 x2.x1 (sub r8 0 r8.length)))))else some (.inr v3))
def Hl(a0:List ay)(a1:List ay)(a2:(Bool×Bool×Unit)->Option Bool):Option ((List ay)×Int):=
 ((oH n a0).bind λr1=>(bif (!r1)then some true else(oH n a1).bind λr2=>some (!r2))).bind λv1=>(bif v1 then some (([]:(List ay)),(1:Int))else ck (bk (sub ([a0]:List (List ay)) 0 1).length 1)<|(oP n (sub ([a0]:List (List ay)) 0 1)).bind λr3=>ck (bk (sub ([a1]:List (List ay)) 0 1).length 1)<|(oP n (sub ([a1]:List (List ay)) 0 1)).bind λr4=>ck (bk (sub r3 0 r3.length).length r3.length)<|ck (bk (sub r4 0 r4.length).length r4.length)<|ck (bk (sub ([a0,a1]:List (List ay)) 0 2).length 2)<|(oP n (sub ([a0,a1]:List (List ay)) 0 2)).bind λr5=>(iter (rH n a2 r3 r4 r5) n ((0:Int),r5)).bind λw1=>ck (bk (sub w1 0 r5.length).length r5.length)<|(KE n (sub w1 0 r5.length)).bind λr9=>ck (bk (sub r9 0 r9.length).length r9.length)<|(AR (sub r9 0 r9.length)).bind λtx=>some (tx.1,tx.2))
def zC(a0:Bool)(a1:Bool):Option Bool:=
 (bif a0 then some a1 else some false)
def LX(a0:List ay)(a1:List ay):Option ((List ay)×Int):=
 (Hl n a0 a1 (λ (y1:Bool×Bool×Unit)=>zC y1.1 y1.2.1)).bind λr1=>some (r1.1,r1.2)
def AX(a0:ay):Option Int:=
 (Ag a0).bind λr1=>some (i64.wrap ((i64.wrap (r1.1.x1 -r1.1.x0))*(i64.wrap (r1.1.y1 -r1.1.y0))))
def Ho(a0:List ay):Stp (Int×Int) Int
 |(v1,v2)=>(bif decide (v2<(a0.length:Int))then(bo a0 v2).bind λx1=>(AX x1).bind λr2=>some (.inl ((i64.wrap (v1+r2)),(i64.wrap (v2+1))))else some (.inr v1))
def PV(a0:List ay):Option Int:=
 (oH n a0).bind λr1=>(bif (!r1)then some (0:Int)else(iter (Ho a0) n ((0:Int),(0:Int))).bind λw1=>some w1)
def vX(a0:iw)(a1:bP):Option Bool:=
 some (ByteArray.toList a0.name==ByteArray.toList a1.name)
def Ml(a0:List iw)(a1:(iw×Unit)->Option Bool):Stp Int (Unit⊕Int)
 |v1=>(bif decide (v1<(a0.length:Int))then(bo a0 v1).bind λx1=>(a1 (x1,())).bind λr1=>(bif r1 then(some v1).map λa=> .inr (.inr a)else some (.inl (i64.wrap (v1+1))))else some (.inr (.inl ())))
def vY(a0:List iw)(a1:(iw×Unit)->Option Bool):Option Int:=
 dw (iter (Ml a0 a1) n (0:Int)) λ()=>some ((-1):Int)
def ny(a0:List iw)(a1:(iw×Unit)->Option Bool):Option Bool:=
 (vY n a0 a1).bind λr1=>some (decide (r1>=0))
def kr(a1:gK)(r3:List aF):Stp Int (Unit⊕Bool)
 |v2=>(bif decide (v2<(r3.length:Int))then ck (b9 v2 r3.length)<|(bo r3 ((0:Nat)+v2:Int)).bind λx1=>ck (bk (sub ([(ay.mk x1.bx x1.cd x1.bu x1.ca)]:List ay) 0 1).length 1)<|(LX n a1.area (sub ([(ay.mk x1.bx x1.cd x1.bu x1.ca)]:List ay) 0 1)).bind λr4=>((bif (r4.2 !=0)then some true else(PV n r4.1).bind λr5=>(AX (ay.mk x1.bx x1.cd x1.bu x1.ca)).bind λr6=>some (decide (r5<(r6:Int))))).bind λv3=>(bif v3 then(some false).map λa=> .inr (.inr a)else some (.inl (i64.wrap (v2+1))))else some (.inr (.inl ())))
def ku(a0:cO)(x2:iJ):Stp Int (Unit⊕(Int⊕(Unit⊕Bool)))
 |v5=>(bif decide (v5<(x2.gives.length:Int))then(bo x2.gives v5).bind λx3=>(ny n a0.caps (λ (y1:iw×Unit)=>vX y1.1 x3)).bind λr7=>(bif (!r7)then((some false).map λa=> .inr (.inr a)).map λa=> .inr (.inr a)else some (.inl (i64.wrap (v5+1))))else some (.inr (.inl ())))
def kz(a0:cO)(a2:aV):Stp Int (Unit⊕Bool)
 |v4=>(bif decide (v4<(a2.phases.length:Int))then(bo a2.phases v4).bind λx2=>dw (iter (ku n a0 x2) n (0:Int)) λ()=>some (.inl (i64.wrap (v4+1)))else some (.inr (.inl ())))
def oU(a0:cO)(a1:gK)(a2:aV):Option Bool:=
 ((zw n a2).bind λr1=>(bif (!r1)then some true else(bif (a1.id !=(a2.lot:Int))then some true else(oH n a1.area).bind λr2=>some (!r2)))).bind λv1=>(bif v1 then some false else(xK n a2).bind λr3=>dw (iter (kr n a1 r3) n (0:Int)) λ()=>dw (iter (kz n a0 a2) n (0:Int)) λ()=>some true)
def pz(a0:aV):Stp (Int×(List aF)) (List aF)
 |(v1,v2)=>(bif decide (v1<(a0.phases.length:Int))then(bo a0.phases v1).bind λx1=>ck (bR v2.length v2.length x1.cx.length x1.cx.length 72)<|j6 (v2++x1.cx) λr1=>ck (bk r1.length r1.length)<|some (.inl ((i64.wrap (v1+1)),r1))else ck (bk v2.length v2.length)<|some (.inr v2))
def uL(a0:aV):Option (List aF):=
 ck (bk 0 ([]:List aF).length)<|(iter (pz a0) n ((0:Int),([]:List aF))).bind λw1=>ck (bk (sub w1 0 w1.length).length w1.length)<|some (sub w1 0 w1.length)
def pE(a0:List dJ):Stp (Int×(List jG)) (List jG)
 |(v1,v2)=>(bif decide (v1<(a0.length:Int))then(bo a0 v1).bind λx1=>ck ((a0.length:Int) !=0)<|(bo a0 (Int.tmod (i64.wrap (v1+1)) (a0.length:Int))).bind λx2=>ck (b9 v1 ((a0.length:Int).toNat))<|(bo v2 ((0:Nat)+v1:Int)).bind λx3=>some (.inl ((i64.wrap (v1+1)),(v2.set ((0:Nat)+v1:Int).toNat (jG.mk x1.x x1.y x2.x x2.y))))else some (.inr v2))
def pV(a0:List dJ):Option (List jG):=
 ck (decide ((a0.length:Int)<=(a0.length:Int))&&(decide (0<=(a0.length:Int))&&BH (a0.length:Int) 32))<|(iter (pE a0) n ((0:Int),(List.replicate (a0.length:Int).toNat (jG.mk 0 0 0 0)))).bind λw1=>ck (bk (sub w1 0 ((a0.length:Int).toNat)).length ((a0.length:Int).toNat))<|some (sub w1 0 ((a0.length:Int).toNat))
def uM(a0:dJ):Option Bool:=
 (bif decide (0<=(a0.x:Int))then(bif decide (a0.x<=1048576)then(bif decide (0<=(a0.y:Int))then some (decide (a0.y<=1048576))else some false)else some false)else some false)
def gU(a0:jG):Option Bool:=
 some (a0.lE==(a0.me:Int))
def wU(a0:List Int):Stp Int (Unit⊕Int)
 |v1=>(bif decide (v1<(a0.length:Int))then(bo a0 v1).bind λx1=>(bif (x1 !=0)then(some x1).map λa=> .inr (.inr a)else some (.inl (i64.wrap (v1+1))))else some (.inr (.inl ())))
def sQ(a0:List Int):Option Int:=
 dw (iter (wU a0) n (0:Int)) λ()=>some (0:Int)
def sj(a0:dJ)(a1:dJ):Option Int:=
 (cmp_Compare_int a0.x a1.x).bind λr1=>(cmp_Compare_int a0.y a1.y).bind λr2=>ck (bk (sub ([r1,r2]:List Int) 0 2).length 2)<|(sQ n (sub ([r1,r2]:List Int) 0 2)).bind λr3=>some r3
def l6(a0:jG)(a1:jG):Option Bool:=
 (bif decide ((max (min a0.lE a0.me) (min a1.lE a1.me))<=((min (max a0.lE a0.me) (max a1.lE a1.me)):Int))then some (decide ((max (min a0.pp a0.tp) (min a1.pp a1.tp))<=((min (max a0.pp a0.tp) (max a1.pp a1.tp)):Int)))else some false)
def qi(a0:List dJ)(r1:List jG):Stp Int (Unit⊕Bool)
 |v2=>(bif decide (v2<(r1.length:Int))then ck (b9 v2 r1.length)<|(bo r1 ((0:Nat)+v2:Int)).bind λx1=>ck ((r1.length:Int) !=0)<|ck (b9 (Int.tmod (i64.wrap (v2+1)) (r1.length:Int)) r1.length)<|(bo r1 ((0:Nat)+(Int.tmod (i64.wrap (v2+1)) (r1.length:Int)):Int)).bind λx2=>((uM (dJ.mk x1.lE x1.pp)).bind λr2=>(bif (!r2)then some true else(bif ((x1.lE==(x1.me:Int))==(x1.pp==(x1.tp:Int)))then some true else(gU x1).bind λr3=>(gU x2).bind λr4=>some (r3==r4)))).bind λv3=>(bif v3 then(some false).map λa=> .inr (.inr a)else((bif decide (v2>0)then(bo a0 0).bind λx3=>(bo a0 v2).bind λx4=>(sj n x3 x4).bind λr5=>some (decide (r5>=0))else some false)).bind λv4=>(bif v4 then(some false).map λa=> .inr (.inr a)else some (.inl (i64.wrap (v2+1)))))else some (.inr (.inl ())))
def iY(r1:List jG)(v5:Int):Stp Int (Unit⊕(Int⊕(Unit⊕Bool)))
 |v6=>(bif decide (v6<(r1.length:Int))then((bif (decide ((i64.wrap ((i64.wrap (v5+(r1.length:Int))) -v6))>1))then ck (b9 v5 r1.length)<|(bo r1 ((0:Nat)+v5:Int)).bind λx5=>ck (b9 v6 r1.length)<|(bo r1 ((0:Nat)+v6:Int)).bind λx6=>(l6 x5 x6).bind λr6=>some r6 else some false)).bind λv7=>(bif v7 then((some false).map λa=> .inr (.inr a)).map λa=> .inr (.inr a)else some (.inl (i64.wrap (v6+1))))else some (.inr (.inl ())))
def qj(r1:List jG):Stp Int (Unit⊕Bool)
 |v5=>(bif decide (v5<(r1.length:Int))then dw (iter (iY r1 v5) n (i64.wrap (v5+2))) λ()=>some (.inl (i64.wrap (v5+1)))else some (.inr (.inl ())))
def wV(a0:List dJ):Option Bool:=
 ((bif decide ((a0.length:Int)<4)then some true else some (decide ((a0.length:Int)>60)))).bind λv1=>(bif v1 then some false else(pV n a0).bind λr1=>dw (iter (qi n a0 r1) n (0:Int)) λ()=>dw (iter (qj n r1) n (0:Int)) λ()=>ck (b9 0 r1.length)<|(bo r1 ((0:Nat)+0:Int)).bind λx7=>(gU x7).bind λr7=>some (!r7))
def l7(a0:List dJ):Stp (Int×(List Int)) (List Int)
 |(v1,v2)=>(bif decide (v1<(a0.length:Int))then(bo a0 v1).bind λx1=>ck (bR v2.length v2.length (sub ([x1.x]:List Int) 0 1).length 1 8)<|j6 (v2++(sub ([x1.x]:List Int) 0 1)) λr2=>ck (bk r2.length r2.length)<|some (.inl ((i64.wrap (v1+1)),r2))else ck (bk v2.length v2.length)<|some (.inr v2))
def l8(r4:Unit×(List Int))(r5:List jG)(v3:Int):Stp (Int×(List Int)) (List Int)
 |(v5,v6)=>(bif decide (v5<(r5.length:Int))then(ck (b9 v5 r5.length)<|(bo r5 ((0:Nat)+v5:Int)).bind λx2=>((gU x2).bind λr6=>(bif (!r6)then ck (b9 v3 r4.2.length)<|(bo r4.2 ((0:Nat)+v3:Int)).bind λx3=>(bif decide ((min x2.lE x2.me)<=(x3:Int))then ck (b9 v3 r4.2.length)<|(bo r4.2 ((0:Nat)+v3:Int)).bind λx4=>some (decide (x4<((max x2.lE x2.me):Int)))else some false)else some false)).bind λv7=>(bif v7 then ck (bR v6.length v6.length (sub ([x2.pp]:List Int) 0 1).length 1 8)<|j6 (v6++(sub ([x2.pp]:List Int) 0 1)) λr7=>ck (bk r7.length r7.length)<|some r7 else ck (bk v6.length v6.length)<|some v6):Option ((List Int))).bind λv8=>ck (bk v8.length v8.length)<|some (.inl ((i64.wrap (v5+1)),v8))else ck (bk v6.length v6.length)<|some (.inr v6))
def jr(r4:Unit×(List Int))(v3:Int)(w2:List Int)(r8:List Int):Stp (Int×(List ay)) (List ay)
 |(v9,v10)=>(bif decide ((i64.wrap (v9+1))<(w2.length:Int))then ck (b9 v3 r4.2.length)<|(bo r4.2 ((0:Nat)+v3:Int)).bind λx5=>ck (b9 v9 w2.length)<|(bo r8 ((0:Nat)+v9:Int)).bind λx6=>ck (b9 (i64.wrap (v3+1)) r4.2.length)<|(bo r4.2 ((0:Nat)+(i64.wrap (v3+1)):Int)).bind λx7=>ck (b9 (i64.wrap (v9+1)) w2.length)<|(bo r8 ((0:Nat)+(i64.wrap (v9+1)):Int)).bind λx8=>ck (bR v10.length v10.length (sub ([(ay.mk x5 x6 x7 x8)]:List ay) 0 1).length 1 32)<|j6 (v10++(sub ([(ay.mk x5 x6 x7 x8)]:List ay) 0 1)) λr9=>ck (bk r9.length r9.length)<|some (.inl ((i64.wrap (v9+2)),r9))else ck (bk v10.length v10.length)<|some (.inr v10))
def l9(r4:Unit×(List Int))(r5:List jG):Stp (Int×(List ay)) (List ay)
 |(v3,v4)=>(bif (decide (v3<((i64.wrap ((r4.2.length:Int) -1)):Int)))then ck (bk 0 ([]:List Int).length)<|(iter (l8 r4 r5 v3) n ((0:Int),([]:List Int))).bind λw2=>ck (bk w2.length w2.length)<|(nQ n w2).bind λr8=>ck (bk v4.length v4.length)<|(iter (jr r4 v3 w2 r8) n ((0:Int),v4)).bind λw3=>ck (bk w3.length w3.length)<|some (.inl ((i64.wrap (v3+1)),w3))else ck (bk v4.length v4.length)<|some (.inr v4))
def uN(a0:List dJ):Option ((List ay)×Int):=
 (wV n a0).bind λr1=>(bif (!r1)then some (([]:(List ay)),(10:Int))else ck (bk 0 ([]:List Int).length)<|(iter (l7 a0) n ((0:Int),([]:List Int))).bind λw1=>ck (bk w1.length w1.length)<|(nQ n w1).bind λr3=>ck (bk w1.length r3.length)<|(pU n r3).bind λr4=>(pV n a0).bind λr5=>ck (bk 0 ([]:List ay).length)<|(iter (l9 n r4 r5) n ((0:Int),([]:List ay))).bind λw4=>(bif decide ((w4.length:Int)>200)then some (([]:(List ay)),(6:Int))else ck (bk (sub w4 0 w4.length).length w4.length)<|some ((sub w4 0 w4.length),(0:Int))))
def zF(a0:dY):Option (List ay):=
 (uN n a0.corners).bind λr1=>(bif (r1.2 !=0)then some ([]:(List ay))else ck (bk (sub r1.1 0 r1.1.length).length r1.1.length)<|some (sub r1.1 0 r1.1.length))
def ql(a1:List ay)(x1:ay):Stp (Int×Int×Int×Int) (Int×Int×Int)
 |(v5,v6,v7,v8)=>(bif decide (v6<(a1.length:Int))then((bo a1 v6).bind λx2=>(tQ x1 x2).bind λr1=>(bif (!r1.2)then some (v5,v7,v8)else(AX r1.1).bind λr2=>(cmp_Compare_int r1.1.x0 v7).bind λr3=>(cmp_Compare_int r1.1.y0 v8).bind λr4=>ck (bk (sub ([r3,r4]:List Int) 0 2).length 2)<|(sQ n (sub ([r3,r4]:List Int) 0 2)).bind λr5=>(bif decide (r5<0)then some ((i64.wrap (v5+r2)),r1.1.x0,r1.1.y0)else some ((i64.wrap (v5+r2)),v7,v8))):Option (Int×Int×Int)).bind λ(v9,v10,v11)=>some (.inl (v9,(i64.wrap (v6+1)),v10,v11))else some (.inr (v5,v7,v8)))
def qm(a0:List ay)(a1:List ay):Stp (Int×Int×Int×Int) (Int×Int×Int)
 |(v1,v2,v3,v4)=>(bif decide (v2<(a0.length:Int))then(bo a0 v2).bind λx1=>(iter (ql n a1 x1) n (v1,(0:Int),v3,v4)).bind λ(w1,w2,w3)=>some (.inl (w1,(i64.wrap (v2+1)),w2,w3))else some (.inr (v1,v3,v4)))
def wW(a0:List ay)(a1:List ay):Option (Int×dJ):=
 (iter (qm n a0 a1) n ((0:Int),(0:Int),(1048576:Int),(0:Int))).bind λ(w4,w5,w6)=>some (w4,(dJ.mk w5 w6))
def qo(a0:cO)(a1:List ay):Stp (Int×(List Int)) (List Int)
 |(v1,v2)=>(bif decide (v1<(a0.zones.length:Int))then(bo a0.zones v1).bind λx1=>(zF n x1).bind λr2=>ck (bk (sub r2 0 r2.length).length r2.length)<|(wW n a1 (sub r2 0 r2.length)).bind λr3=>ck (bR v2.length v2.length (sub ([r3.1]:List Int) 0 1).length 1 8)<|j6 (v2++(sub ([r3.1]:List Int) 0 1)) λr4=>ck (bk r4.length r4.length)<|some (.inl ((i64.wrap (v1+1)),r4))else ck (bk v2.length v2.length)<|some (.inr v2))
def wX(a0:cO)(a1:List ay):Option (List Int):=
 (oH n a1).bind λr1=>(bif (!r1)then some ([]:(List Int))else ck (bk 0 ([]:List Int).length)<|(iter (qo n a0 a1) n ((0:Int),([]:List Int))).bind λw1=>ck (bk (sub w1 0 w1.length).length w1.length)<|some (sub w1 0 w1.length))
def qp(a0:cO)(r1:List Int):Stp (Int×Int) Int
 |(v1,v2)=>(bif decide (v2<(r1.length:Int))then(ck (b9 v2 r1.length)<|(bo r1 ((0:Nat)+v2:Int)).bind λx1=>((bo a0.zones v2).bind λx2=>(bif (!x2.overlay)then(bif decide (x1>0)then(bif decide (v1<0)then some true else ck (b9 v1 r1.length)<|(bo r1 ((0:Nat)+v1:Int)).bind λx3=>some (decide (x1>(x3:Int))))else some false)else some false)).bind λv3=>(bif v3 then some v2 else some v1):Option Int).bind λv4=>some (.inl (v4,(i64.wrap (v2+1))))else some (.inr v1))
def zG(a0:cO)(r1:List Int)(w1:Int):Stp (Int×(List ByteArray)) (List ByteArray)
 |(v5,v6)=>(bif decide (v5<(r1.length:Int))then(ck (b9 v5 r1.length)<|(bo r1 ((0:Nat)+v5:Int)).bind λx4=>((bif (v5==(w1:Int))then some true else(bo a0.zones v5).bind λx5=>(bif x5.overlay then some (decide (x4>0))else some false))).bind λv7=>(bif v7 then(bo a0.zones v5).bind λx6=>ck (bR v6.length v6.length (sub ([x6.name]:List ByteArray) 0 1).length 1 16)<|j6 (v6++(sub ([x6.name]:List ByteArray) 0 1)) λr2=>ck (bk r2.length r2.length)<|some r2 else ck (bk v6.length v6.length)<|some v6):Option ((List ByteArray))).bind λv8=>ck (bk v8.length v8.length)<|some (.inl ((i64.wrap (v5+1)),v8))else ck (bk v6.length v6.length)<|some (.inr v6))
def FD(a0:cO)(a1:List ay):Option (List ByteArray):=
 (wX n a0 a1).bind λr1=>(iter (qp a0 r1) n (((-1):Int),(0:Int))).bind λw1=>ck (bk 0 ([]:List ByteArray).length)<|(iter (zG a0 r1 w1) n ((0:Int),([]:List ByteArray))).bind λw2=>ck (bk (sub w2 0 w2.length).length w2.length)<|some (sub w2 0 w2.length)
def xU(a0:dh)(a1:aV):Option (mU×Int):=
 (Py n a0.land a1.lot).bind λr1=>(bif (!r1.2)then some ((mU.mk ([]) ([]) ([]) ([]) ([]) ([]) ([]) 0 ([]) ([]) ([]) ([]) ([]) 0 0 ([]) ([]) 0 ([]) ([]) ([])),(4:Int))else(oU n (cO.mk a0.cm a0.b7 a0.b8 a0.az a0.co a0.ci a0.cz a0.cj) r1.1 a1).bind λr2=>(bif (!r2)then some ((mU.mk ([]) ([]) ([]) ([]) ([]) ([]) ([]) 0 ([]) ([]) ([]) ([]) ([]) 0 0 ([]) ([]) 0 ([]) ([]) ([])),(1:Int))else(uL n a1).bind λr3=>(FD n (cO.mk a0.cm a0.b7 a0.b8 a0.az a0.co a0.ci a0.cz a0.cj) r1.1.area).bind λr4=>ck (bk (sub r3 0 r3.length).length r3.length)<|ck (bk (sub r4 0 r4.length).length r4.length)<|some ((mU.mk a0.cm a0.b7 a0.b8 a0.az a0.co a0.ci a0.cz a0.cj a0.land a0.cp a0.windows a0.built a0.base r1.1.id r1.1.owner r1.1.area r1.1.from_ a1.lot a1.phases (sub r3 0 r3.length) (sub r4 0 r4.length)),(0:Int))))
def og(a0:List ByteArray)(a1:ByteArray):Stp Int (Unit⊕Int)
 |v1=>(bif decide (v1<(a0.length:Int))then(bo a0 v1).bind λx1=>(bif (ByteArray.toList a1==ByteArray.toList x1)then(some v1).map λa=> .inr (.inr a)else some (.inl (i64.wrap (v1+1))))else some (.inr (.inl ())))
def sw(a0:List ByteArray)(a1:ByteArray):Option Int:=
 dw (iter (og a0 a1) n (0:Int)) λ()=>some ((-1):Int)
def fM(a0:List ByteArray)(a1:ByteArray):Option Bool:=
 (sw n a0 a1).bind λr1=>some (decide (r1>=0))
def kC(a0:ByteArray)(a1:List ByteArray):Option Bool:=
 (fM n a1 a0).bind λr1=>some r1
def Hq(a0:List ByteArray)(a1:(ByteArray×Unit)->Option Bool):Stp Int (Unit⊕Int)
 |v1=>(bif decide (v1<(a0.length:Int))then(bo a0 v1).bind λx1=>(a1 (x1,())).bind λr1=>(bif r1 then(some v1).map λa=> .inr (.inr a)else some (.inl (i64.wrap (v1+1))))else some (.inr (.inl ())))
def qU(a0:List ByteArray)(a1:(ByteArray×Unit)->Option Bool):Option Int:=
 dw (iter (Hq a0 a1) n (0:Int)) λ()=>some ((-1):Int)
def fU(a0:List ByteArray)(a1:(ByteArray×Unit)->Option Bool):Option Bool:=
 (qU n a0 a1).bind λr1=>some (decide (r1>=0))
def rJ(a0:aM)(a1:List ByteArray):Option Bool:=
 (bif ((a0.zones.length:Int)==0)then(fU n a0.except (λ (y1:ByteArray×Unit)=>kC n y1.1 a1)).bind λr1=>some (!r1)else(fU n a0.zones (λ (y2:ByteArray×Unit)=>kC n y2.1 a1)).bind λr2=>(bif r2 then(fU n a0.except (λ (y3:ByteArray×Unit)=>kC n y3.1 a1)).bind λr3=>some (!r3)else some false))
def sD(a0:cO)(a1:List ByteArray)(a2:Int):Stp (Int×(List Int)) (List Int)
 |(v1,v2)=>(bif decide (v1<(a0.rules.length:Int))then((bo a0.rules v1).bind λx1=>((bif decide (x1.from_<=(a2:Int))then(bif (x1.j0==0)then(rJ n x1 a1).bind λr1=>some r1 else(bif decide (a2<(x1.j0:Int))then(rJ n x1 a1).bind λr2=>some r2 else some false))else some false)).bind λv3=>(bif v3 then ck (bR v2.length v2.length (sub ([v1]:List Int) 0 1).length 1 8)<|j6 (v2++(sub ([v1]:List Int) 0 1)) λr3=>ck (bk r3.length r3.length)<|some r3 else ck (bk v2.length v2.length)<|some v2):Option ((List Int))).bind λv4=>ck (bk v4.length v4.length)<|some (.inl ((i64.wrap (v1+1)),v4))else ck (bk v2.length v2.length)<|some (.inr v2))
def uO(a0:cO)(a1:List ByteArray)(a2:Int):Option (List Int):=
 ck (bk 0 ([]:List Int).length)<|(iter (sD n a0 a1 a2) n ((0:Int),([]:List Int))).bind λw1=>ck (bk (sub w1 0 w1.length).length w1.length)<|some (sub w1 0 w1.length)
def yN(a0:List ay)(a1:Int)(a2:Int)(a3:(ay×ay×Unit)->Option Int):Option (List ay):=
 nJ (λ x y=>a3 (x,y,())) (λ r=>decide (r<0)) n a0 a1 a2
def FE(a0:List ay)(a1:Int)(a2:Int)(a3:Int)(a4:(ay×ay×Unit)->Option Int):Option (List ay):=
 tN (λ x y=>a4 (x,y,())) (λ r=>decide (r<0)) n a0 a1 a2 a3
def FH(a0:List ay)(a1:Int)(a2:Int)(a3:(ay×ay×Unit)->Option Int):Option (List ay):=
 Ae (λ x y=>a3 (x,y,())) (λ r=>decide (r<0)) n a0 a1 a2
def yO(a0:List ay)(a1:Int)(a2:Int)(a3:(ay×ay×Unit)->Option Int):Option (List ay):=
 kI bA bI n a0 a1 a2
def IZ(a0:List ay)(a1:Int)(a2:Int)(a3:Int)(a4:(ay×ay×Unit)->Option Int):Option (Int×Int×Int):=
 CK (λ x y=>a4 (x,y,())) (λ r=>decide (r<0)) a0 a1 a2 a3
def I4(a0:List ay)(a1:Int)(a2:Int)(a3:Int)(a4:Int)(a5:(ay×ay×Unit)->Option Int):Option (Int×Int):=
 zq (λ x y=>a5 (x,y,())) (λ r=>decide (r<0)) a0 a1 a2 a3 a4
def xV(a0:List ay)(a1:Int)(a2:Int)(a3:(ay×ay×Unit)->Option Int):Option (Int×Int):=
 eT (λ x y=>a3 (x,y,())) (λ r=>decide (r<0)) a0 a1 a2
def AY(a0:List ay)(a1:Int)(a2:Int)(a3:(ay×ay×Unit)->Option Int):Option (Int×Int):=
 qg (λ x y=>a3 (x,y,())) (λ r=>decide (r<0)) a0 a1 a2
def zH(a0:List ay)(a1:Int)(a2:Int)(a3:(ay×ay×Unit)->Option Int):Option (List ay):=
 mO n a0 a1 a2
def rM(a0:List ay)(a1:Int)(a2:Int)(a3:(ay×ay×Unit)->Option Int):Option (Bool×(List ay)):=
 fE (λ x y=>a3 (x,y,())) (λ r=>decide (r<0)) n a0 a1 a2
def xW(a0:List ay)(a1:Int)(a2:Int)(a3:Int)(a4:(ay×ay×Unit)->Option Int):Option (Int×(List ay)):=
 jC (λ x y=>a4 (x,y,())) (λ r=>decide (r<0)) n a0 a1 a2 a3
def DK(a0:List ay)(a1:Int)(a2:Int)(a3:Int)(a4:(ay×ay×Unit)->Option Int):Option (Int×Bool×(List ay)):=
 sN (λ x y=>a4 (x,y,())) (λ r=>decide (r<0)) n a0 a1 a2 a3
def jc(rc:((List ay))->(Int)->(Int)->(Int)->((ay×ay×Unit)->Option Int)->Option (List ay))(a0:List ay)(a1:Int)(a2:Int)(a3:Int)(a4:(ay×ay×Unit)->Option Int):Option (List ay):=
 kJ (λ x y=>a4 (x,y,())) (λ r=>decide (r<0)) bA bI n (λ l a b d=>rc l a b d a4) a0 a1 a2 a3
def lg(rc:((List ay))->(Int)->(Int)->(Int)->((ay×ay×Unit)->Option Int)->Option (List ay)):bz xx:=⟨[.mut (.st SI.km),.d (.int .i64),.d (.int .i64),.d (.int .i64),.cT [(.st SI.km),(.st SI.km)] (.int .i64)],[.mu (.st SI.km)],λa=>rc a.1 a.2.1 a.2.2.1 a.2.2.2.1 a.2.2.2.2.1,none⟩
def eF(n:Nat):Nat->((List ay))->(Int)->(Int)->(Int)->((ay×ay×Unit)->Option Int)->Option (List ay)
 | 0=>λ_ _ _ _ _=>none
 |m+1=>jc n (eF n m)
def oh(a0:List ay)(a1:Int)(a2:Int)(a3:Int)(a4:(ay×ay×Unit)->Option Int):Option (List ay):=eF n n a0 a1 a2 a3 a4
def qw(a0:List ay)(a1:(ay×ay×Unit)->Option Int):Option (List ay):=
 (bits_Len (IntKind.u64.wrap (a0.length:Int))).bind λr1=>ck (bk a0.length a0.length)<|(oh n a0 0 (a0.length:Int) r1 a1).bind λr2=>some r2
def iP(a0:ay)(a1:ay):Option Int:=
 (cmp_Compare_int a0.y0 a1.y0).bind λr1=>some r1
def lH(a0:aF):Option Int:=
 ((bif a0.extra then some true else(gq a0).bind λr1=>some (!r1))).bind λv1=>(bif v1 then some (0:Int)else ck (3 !=0)<|some (i64.wrap (Int.tdiv (i64.wrap ((i64.wrap ((i64.wrap (a0.dC -a0.ek))+3)) -1)) 3)))
def oV(a0:aF):Option Int:=
 (gq a0).bind λr1=>(bif (!r1)then some (0:Int)else(AX (ay.mk a0.bx a0.cd a0.bu a0.ca)).bind λr2=>(lH a0).bind λr3=>some (i64.wrap (r2*r3)))
def om(a0:aF):Option Int:=
 some a0.dC
def o8(a0:aF):Option Int:=
 some a0.units
def DL(a0:ay)(a1:Int):Option (ay×Bool):=
 (pu (ay.mk (i64.wrap (a0.x0 -a1)) (i64.wrap (a0.y0 -a1)) (i64.wrap (a0.x1+a1)) (i64.wrap (a0.y1+a1)))).bind λr1=>some ((ay.mk (i64.wrap (a0.x0 -a1)) (i64.wrap (a0.y0 -a1)) (i64.wrap (a0.x1+a1)) (i64.wrap (a0.y1+a1))),r1)
def kK(a0:bP)(a1:LV)(a2:Int):Option Bool:=
 ck (b9 a2 6)<|(bo ([a1.a0,a1.a1,a1.a2,a1.a3,a1.a4,a1.a5]:List ByteArray) a2).bind λx1=>some (ByteArray.toList a0.name==ByteArray.toList x1)
def I5(a0:List bP)(a1:(bP×Unit)->Option Bool):Stp Int (Unit⊕Int)
 |v1=>(bif decide (v1<(a0.length:Int))then(bo a0 v1).bind λx1=>(a1 (x1,())).bind λr1=>(bif r1 then(some v1).map λa=> .inr (.inr a)else some (.inl (i64.wrap (v1+1))))else some (.inr (.inl ())))
def kL(a0:List bP)(a1:(bP×Unit)->Option Bool):Option Int:=
 dw (iter (I5 a0 a1) n (0:Int)) λ()=>some ((-1):Int)
def kM(a0:cO)(a1:Int):Stp Int (Unit⊕Int)
 |v1=>(bif decide (v1<(a0.tables.length:Int))then(bo a0.tables v1).bind λx1=>(bif (!(ByteArray.toList x1.name==ByteArray.toList (⟨#[116,114,97,102,102,105,99]⟩)))then some (.inl (i64.wrap (v1+1)))else((kL n x1.rows (λ (y1:bP×Unit)=>kK y1.1 (LV.mk (⟨#[104,111,109,101]⟩) (⟨#[115,104,111,112]⟩) (⟨#[119,111,114,107]⟩) (⟨#[112,97,114,107]⟩) (⟨#[112,108,97,110,116]⟩) (⟨#[104,97,108,108]⟩)) a1)).bind λr1=>(bif decide (r1>=0)then(bo x1.rows r1).bind λx2=>some x2.n else some x1.rm):Option Int).bind λv2=>(some (max (0:Int) (min v2 (1048576:Int)))).map λa=> .inr (.inr a))else some (.inr (.inl ())))
def CQ(a0:cO)(a1:Int):Option Int:=
 dw (iter (kM n a0 a1) n (0:Int)) λ()=>some (0:Int)
def lI(a0:cO)(a1:aF):Option Int:=
 (CQ n a0 a1.use).bind λr1=>(oV a1).bind λr2=>((bif decide (r1>0)then ck (r1 !=0)<|some (decide (r2>((i64.wrap (Int.tdiv 109951162777600 r1)):Int)))else some false)).bind λv1=>(bif v1 then some (1099511627776:Int)else ck (100 !=0)<|some (i64.wrap (Int.tdiv (i64.wrap ((i64.wrap ((i64.wrap (r1*r2))+100)) -1)) 100)))
def nC(a0:List fK)(a1:List bZ)(a2:List dY)(a3:List aM)(a4:List iw)(a5:List fI)(a6:List bX)(a7:Int)(a8:List ay)(a9:List aF):Option (Int×gY):=
 (PV n a8).bind λr1=>ck (bk a9.length a9.length)<|some (r1,a0,a1,a2,a3,a4,a5,a6,a7,a8,a9)
def gF(a9:List aF):Stp (Int×(List ay)×(List Int)) ((List ay)×(List Int))
 |(v1,v2,v3)=>(bif decide (v1<(a9.length:Int))then ck (b9 v1 a9.length)<|(bo a9 ((0:Nat)+v1:Int)).bind λx1=>ck (b9 v1 ((a9.length:Int).toNat))<|(bo v2 ((0:Nat)+v1:Int)).bind λx2=>ck (b9 v1 ((a9.length:Int).toNat))<|(bo (v2.set ((0:Nat)+v1:Int).toNat (ay.mk x1.bx x1.cd x1.bu x1.ca)) ((0:Nat)+v1:Int)).bind λx3=>ck (b9 v1 ((a9.length:Int).toNat))<|(bo (v2.set ((0:Nat)+v1:Int).toNat (ay.mk x1.bx x1.cd x1.bu x1.ca)) ((0:Nat)+v1:Int)).bind λx4=>ck (bR v3.length v3.length (sub ([x3.x0,x4.x1]:List Int) 0 2).length 2 8)<|j6 (v3++(sub ([x3.x0,x4.x1]:List Int) 0 2)) λr1=>ck (bk r1.length r1.length)<|some (.inl ((i64.wrap (v1+1)),(v2.set ((0:Nat)+v1:Int).toNat (ay.mk x1.bx x1.cd x1.bu x1.ca)),r1))else ck (bk v3.length v3.length)<|some (.inr (v2,v3)))
end
end Go.Proofs
