import Derived.Test.YtnagaonenljjiaaGreatTBase
open Go.IntKind (i64)
namespace Go.Proofs
open Go.Gb Go.RowKit
noncomputable section
variable (n:Nat)
def Wc(a0:Int):Option bK:=
 some (bK.mk 0 a0 (⟨#[]⟩) (⟨#[]⟩) ([]))
def Du(a0:List ay):Option (List ay):=
 (bif a0.isEmpty then(both (some ([]:(List ay))) (ck (cu ([]:List ay).length 0 a0.length a0.length 32)<|lI (([]:List ay)++a0) λr1=>ck (bk (sub r1 0 r1.length).length r1.length)<|some (sub r1 0 r1.length)))else ck (cu ([]:List ay).length 0 a0.length a0.length 32)<|lI (([]:List ay)++a0) λr2=>ck (bk (sub r2 0 r2.length).length r2.length)<|some (sub r2 0 r2.length))
def GN(a0:List Int):Option (List Int):=
 (bif a0.isEmpty then(both (some ([]:(List Int))) (ck (cu ([]:List Int).length 0 a0.length a0.length 8)<|lI (([]:List Int)++a0) λr1=>ck (bk (sub r1 0 r1.length).length r1.length)<|some (sub r1 0 r1.length)))else ck (cu ([]:List Int).length 0 a0.length a0.length 8)<|lI (([]:List Int)++a0) λr2=>ck (bk (sub r2 0 r2.length).length r2.length)<|some (sub r2 0 r2.length))
def O8(a0:gY):Option gY:=
 (Du a0.area).bind λr1=>(GN a0.from_).bind λr2=>ck (bk (sub r1 0 r1.length).length r1.length)<|ck (bk (sub r2 0 r2.length).length r2.length)<|some (gY.mk a0.id a0.owner (sub r1 0 r1.length) (sub r2 0 r2.length))
def GQ(a0:List gY)(a1:Int):Stp Int (Unit⊕(gY×Bool))
 |v1=>(bif decide (v1<(a0.length:Int))then(bo a0 v1).bind λx1=>(bif (x1.id==(a1:Int))then(O8 x1).bind λr1=>(some (r1,true)).map λa=> .inr (.inr a)else some (.inl (i64.wrap (v1+1))))else some (.inr (.inl ())))
def O9(a0:List gY)(a1:Int):Option (gY×Bool):=
 dm (iter (GQ a0 a1) n (0:Int)) λ()=>some ((gY.mk 0 0 ([]) ([])),false)
def nQ(a0:bf)(a1:Int)(a2:Int):Stp (Int×(List aF)) (List aF)
 |(v1,v2)=>(bif decide (v1<(a0.phases.length:Int))then((bo a0.phases v1).bind λx1=>((bif decide (v1>=(a1:Int))then some (decide (v1<(a2:Int)))else some false)).bind λv3=>(bif v3 then ck (cu v2.length v2.length x1.cm.length x1.cm.length 72)<|lI (v2++x1.cm) λr1=>ck (bk r1.length r1.length)<|some r1 else ck (bk v2.length v2.length)<|some v2):Option ((List aF))).bind λv4=>ck (bk v4.length v4.length)<|some (.inl ((i64.wrap (v1+1)),v4))else ck (bk v2.length v2.length)<|some (.inr v2))
def oo(a0:bf)(a1:Int)(a2:Int):Option (List aF):=
 ck (bk 0 ([]:List aF).length)<|(iter (nQ a0 a1 a2) n ((0:Int),([]:List aF))).bind λw1=>ck (bk (sub w1 0 w1.length).length w1.length)<|some (sub w1 0 w1.length)
def xA(a0:bf):Option (List aF):=
 (oo n a0 0 (a0.phases.length:Int)).bind λr1=>ck (bk (sub r1 0 r1.length).length r1.length)<|some (sub r1 0 r1.length)
def oW(a0:ay):Option Bool:=
 (bif decide (0<=(a0.x0:Int))then(bif decide (a0.x0<(a0.x1:Int))then(bif decide (a0.x1<=1048576)then(bif decide (0<=(a0.y0:Int))then(bif decide (a0.y0<(a0.y1:Int))then some (decide (a0.y1<=1048576))else some false)else some false)else some false)else some false)else some false)
def gm(a0:aF):Option Bool:=
 ((oW (ay.mk a0.bx a0.b9 a0.bu a0.b8)).bind λr1=>(bif (!r1)then some true else(bif decide (a0.er<0)then some true else(bif decide (a0.er>=(a0.d5:Int))then some true else some (decide (a0.d5>4096)))))).bind λv1=>(bif v1 then some false else((bif (a0.use !=0)then some (a0.units !=0)else some false)).bind λv2=>(bif v2 then some false else(bif decide (a0.use>=0)then(bif decide (a0.use<6)then(bif decide (a0.units>=0)then some (decide (a0.units<=1048576))else some false)else some false)else some false)))
def zX(a0:ay):Option (ay×Bool):=
 (oW a0).bind λr1=>(bif r1 then some (a0,true)else some ((ay.mk 0 0 0 0),false))
def tC(a0:ay)(a1:ay):Option (ay×Bool):=
 ((oW a0).bind λr1=>(bif (!r1)then some true else(oW a1).bind λr2=>some (!r2))).bind λv1=>(bif v1 then some ((ay.mk 0 0 0 0),false)else(zX (ay.mk (max a0.x0 a1.x0) (max a0.y0 a1.y0) (min a0.x1 a1.x1) (min a0.y1 a1.y1))).bind λr3=>some (r3.1,r3.2))
def ze(a0:By)(a1:By):Option Bool:=
 (tC (ay.mk a0.ot a0.oc a0.oe a0.oa) (ay.mk a1.ot a1.oc a1.oe a1.oa)).bind λr1=>(bif r1.2 then(bif decide (a0.z0<(a1.z1:Int))then some (decide (a1.z0<(a0.z1:Int)))else some false)else some false)
def rR(a0:aF)(a1:aF):Option Bool:=
 (ze (By.mk a1.bx a1.b9 a1.bu a1.b8 a1.er a1.d5) (By.mk a0.bx a0.b9 a0.bu a0.b8 a0.er a0.d5)).bind λr1=>some r1
def GR(a0:List aF)(a1:(aF×Unit)->Option Bool):Stp Int (Unit⊕Int)
 |v1=>(bif decide (v1<(a0.length:Int))then(bo a0 v1).bind λx1=>(a1 (x1,())).bind λr1=>(bif r1 then(some v1).map λa=> .inr (.inr a)else some (.inl (i64.wrap (v1+1))))else some (.inr (.inl ())))
def qJ(a0:List aF)(a1:(aF×Unit)->Option Bool):Option Int:=
 dm (iter (GR a0 a1) n (0:Int)) λ()=>some ((-1):Int)
def fP(a0:List aF)(a1:(aF×Unit)->Option Bool):Option Bool:=
 (qJ n a0 a1).bind λr1=>some (decide (r1>=0))
def GU(a0:Int):Option Bool:=
 (bif decide (a0>=97)then some (decide (a0<=122))else some false)
def Cy(a0:ByteArray)(a1:(Int×Unit)->Option Bool):Stp Int Int
 |v1=>((bif decide (v1<(a0.size:Int))then(JV a0 v1).bind λx1=>(a1 (x1,())).bind λr1=>some r1 else some false)).bind λv2=>(bif v2 then some (.inl (i64.wrap (v1+1)))else some (.inr v1))
def Pb(a0:ByteArray)(a1:(Int×Unit)->Option Bool):Option Int:=
 (iter (Cy a0 a1) n (0:Int)).bind λw1=>some w1
def Rj(a0:Int):Option Bool:=
 (bif decide (a0>=48)then some (decide (a0<=57))else some false)
def Cz(a0:Int):Option Bool:=
 (GU a0).bind λr1=>(bif r1 then some true else(Rj a0).bind λr2=>some r2)
def Pd(a0:ByteArray):Option Bool:=
 ((bif (ByteArray.toList a0==ByteArray.toList (⟨#[]⟩))then some true else(JV a0 0).bind λx1=>(GU x1).bind λr1=>(bif (!r1)then some true else some (decide ((a0.size:Int)>20))))).bind λv1=>(bif v1 then some false else(Pb n a0 (λ (y1:Int×Unit)=>Cz y1.1)).bind λr2=>some (r2==(a0.size:Int)))
def strings_Contains(a0 a1:ByteArray):Option Bool:=ck (Nat.ble a0.size 4000000)<|some (Lib.contains a0.data.toList a1.data.toList)
def xB(a0:ByteArray):Option Bool:=
 (Pd n a0).bind λr1=>(bif r1 then ck (Wq (⟨#[32]⟩) a0)<|ck (Wq ((⟨#[32]⟩)++a0) (⟨#[32]⟩))<|(strings_Contains (⟨#[32,97,110,100,32,97,112,97,114,116,32,98,97,115,101,32,99,97,112,32,100,101,102,105,110,101,32,101,108,115,101,32,101,120,99,101,112,116,32,102,114,111,109,32,103,114,97,99,101,32,104,111,117,114,115,32,105,102,32,105,110,32,108,101,97,115,116,32,110,111,116,32,111,114,32,111,118,101,114,108,97,121,32,112,108,97,110,101,32,114,117,108,101,32,115,108,111,112,101,32,115,117,110,32,116,97,98,108,101,32,116,104,101,110,32,117,110,116,105,108,32,117,115,101,115,32,118,97,114,121,32,118,105,101,119,32,122,111,110,101,32]⟩) (((⟨#[32]⟩)++a0)++(⟨#[32]⟩))).bind λr2=>some (!r2)else some false)
def kY(r1:List aF):Stp Int (Unit⊕Bool)
 |v2=>(bif decide (v2<(r1.length:Int))then ck (b7 v2 r1.length)<|(bo r1 ((0:Nat)+v2:Int)).bind λx1=>((gm x1).bind λr2=>(bif (!r2)then some true else ck (Ad 0 v2 r1.length)<|ck (bk (sub r1 0 ((v2:Int).toNat)).length ((v2:Int).toNat))<|(fP n (sub r1 0 ((v2:Int).toNat)) (λ (y1:aF×Unit)=>rR y1.1 x1)).bind λr3=>some r3)).bind λv3=>(bif v3 then(some false).map λa=> .inr (.inr a)else some (.inl (i64.wrap (v2+1))))else some (.inr (.inl ())))
def kZ(x2:iG):Stp (Int×(List (ByteArray×Bool))) (Unit⊕(Int⊕(Unit⊕Bool)))
 |(v5,v6)=>(bif decide (v5<(x2.gives.length:Int))then(bo x2.gives v5).bind λx3=>((bif ((qz jt x3.name v6).getD false)then some true else(xB n x3.name).bind λr4=>(bif (!r4)then some true else(bif decide (x3.n<0)then some true else some (decide (x3.n>1073741824)))))).bind λv7=>(bif v7 then((some false).map λa=> .inr (.inr a)).map λa=> .inr (.inr a)else some (.inl ((i64.wrap (v5+1)),(M6 jt x3.name true v6))))else some (.inr (.inl ())))
def lg(a0:bf):Stp Int (Unit⊕Bool)
 |v4=>(bif decide (v4<(a0.phases.length:Int))then(bo a0.phases v4).bind λx2=>dm (iter (kZ n x2) n ((0:Int),([]:(List (ByteArray×Bool))))) λ()=>(bif decide ((x2.gives.length:Int)>30)then(some false).map λa=> .inr (.inr a)else some (.inl (i64.wrap (v4+1))))else some (.inr (.inl ())))
def zf(a0:bf):Option Bool:=
 (xA n a0).bind λr1=>((bif decide (a0.lot<0)then some true else(bif decide (a0.lot>1073741824)then some true else(bif decide ((a0.phases.length:Int)<1)then some true else(bif decide ((a0.phases.length:Int)>8)then some true else(bif decide ((r1.length:Int)<1)then some true else some (decide ((r1.length:Int)>40)))))))).bind λv1=>(bif v1 then some false else dm (iter (kY n r1) n (0:Int)) λ()=>dm (iter (lg n a0) n (0:Int)) λ()=>some true)
def Pe(a0:Unit)(a1:Int):Option (List ay):=
 (bif decide (a1<0)then none else(bif (decide ((i64.wrap (a1 -(i64.wrap (0 -0))))>0))then ck (Bu (i64.wrap (a1 -(i64.wrap (0 -0)))) 32)<|ck (Ad 0 0 ((i64.wrap (a1 -(i64.wrap (0 -0)))).toNat))<|ck (bk (sub (List.replicate (i64.wrap (a1 -(i64.wrap (0 -0)))).toNat (ay.mk 0 0 0 0)) 0 0).length 0)<|some (sub (List.replicate (i64.wrap (a1 -(i64.wrap (0 -0)))).toNat (ay.mk 0 0 0 0)) 0 0)else some ([]:(List ay))))
def Pf(a0:List (List ay)):Stp (Int×Int) Int
 |(v1,v2)=>(bif decide (v2<(a0.length:Int))then(bo a0 v2).bind λx1=>(bif decide ((i64.wrap (v1+(x1.length:Int)))<0)then none else some (.inl ((i64.wrap (v1+(x1.length:Int))),(i64.wrap (v2+1)))))else some (.inr v1))
def Pg(a0:List (List ay)):Stp (Int×(List ay)) (List ay)
 |(v3,v4)=>(bif decide (v3<(a0.length:Int))then(bo a0 v3).bind λx2=>ck (cu v4.length v4.length x2.length x2.length 32)<|lI (v4++x2) λr2=>ck (bk r2.length r2.length)<|some (.inl ((i64.wrap (v3+1)),r2))else ck (bk v4.length v4.length)<|some (.inr v4))
def Au(a0:List (List ay)):Option (List ay):=
 (iter (Pf a0) n ((0:Int),(0:Int))).bind λw1=>(Pe () w1).bind λr1=>ck (bk r1.length r1.length)<|(iter (Pg a0) n ((0:Int),r1)).bind λw2=>ck (bk (sub w2 0 w2.length).length w2.length)<|some (sub w2 0 w2.length)
def bits_Len64(a0:Int):Option Int:=
 ((bif decide (a0>=4294967296)then ck (decide (0<=32)&&decide (32<=IntKind.u64.bits))<|some ((a0/2 ^ (32:Int).toNat),(32:Int))else some (a0,(0:Int))):Option (Int×Int)).bind λ(v1,v2)=>((bif decide (v1>=65536)then ck (decide (0<=16)&&decide (16<=IntKind.u64.bits))<|some ((v1/2 ^ (16:Int).toNat),(i64.wrap (v2+16)))else some (v1,v2)):Option (Int×Int)).bind λ(v3,v4)=>((bif decide (v3>=256)then ck (decide (0<=8)&&decide (8<=IntKind.u64.bits))<|some ((v3/2 ^ (8:Int).toNat),(i64.wrap (v4+8)))else some (v3,v4)):Option (Int×Int)).bind λ(v5,v6)=>(JV (⟨#[0,1,2,2,3,3,3,3,4,4,4,4,4,4,4,4,5,5,5,5,5,5,5,5,5,5,5,5,5,5,5,5,6,6,6,6,6,6,6,6,6,6,6,6,6,6,6,6,6,6,6,6,6,6,6,6,6,6,6,6,6,6,6,6,7,7,7,7,7,7,7,7,7,7,7,7,7,7,7,7,7,7,7,7,7,7,7,7,7,7,7,7,7,7,7,7,7,7,7,7,7,7,7,7,7,7,7,7,7,7,7,7,7,7,7,7,7,7,7,7,7,7,7,7,7,7,7,7,8,8,8,8,8,8,8,8,8,8,8,8,8,8,8,8,8,8,8,8,8,8,8,8,8,8,8,8,8,8,8,8,8,8,8,8,8,8,8,8,8,8,8,8,8,8,8,8,8,8,8,8,8,8,8,8,8,8,8,8,8,8,8,8,8,8,8,8,8,8,8,8,8,8,8,8,8,8,8,8,8,8,8,8,8,8,8,8,8,8,8,8,8,8,8,8,8,8,8,8,8,8,8,8,8,8,8,8,8,8,8,8,8,8,8,8,8,8,8,8,8,8,8,8,8,8,8,8]⟩) (IntKind.u8.wrap v5)).bind λx1=>some (i64.wrap (v6+(i64.wrap x1)))
def bits_Len(a0:Int):Option Int:=
 (bits_Len64 a0).bind λr1=>some r1
def cmp_isNaN_int(a0:Int):Option Bool:=
 some (a0 !=(a0:Int))
def cmp_Less_int(a0:Int)(a1:Int):Option Bool:=
 (cmp_isNaN_int a0).bind λr1=>(bif r1 then(cmp_isNaN_int a1).bind λr2=>(bif (!r2)then some true else some (decide (a0<(a1:Int))))else some (decide (a0<(a1:Int))))
def zh(a0:List Int)(a1:Int)(a2:Int):Option (List Int):=
 ni cmp_Less_int (λ r=>r) n a0 a1 a2
def GV(a0:List Int)(a1:Int)(a2:Int)(a3:Int):Option (List Int):=
 tq cmp_Less_int (λ r=>r) n a0 a1 a2 a3
def GX(a0:List Int)(a1:Int)(a2:Int):Option (List Int):=
 zV cmp_Less_int (λ r=>r) n a0 a1 a2
def bA(a0:Int):Option Int:=
 (bits_Len (IntKind.u64.wrap a0)).bind λr1=>ck (decide (0<=r1)&&decide (r1<=IntKind.u64.bits))<|some (IntKind.u64.wrap (1*2 ^ (r1:Int).toNat))
def bH(a0:Int):Option (Int×Int):=
 ck (decide (0<=13)&&decide (13<=IntKind.u64.bits))<|ck (decide (0<=7)&&decide (7<=IntKind.u64.bits))<|ck (decide (0<=17)&&decide (17<=IntKind.u64.bits))<|some ((bits .xor .u64 (bits .xor .u64 (bits .xor .u64 a0 (IntKind.u64.wrap (a0*2 ^ (13:Int).toNat))) ((bits .xor .u64 a0 (IntKind.u64.wrap (a0*2 ^ (13:Int).toNat)))/2 ^ (7:Int).toNat)) (IntKind.u64.wrap ((bits .xor .u64 (bits .xor .u64 a0 (IntKind.u64.wrap (a0*2 ^ (13:Int).toNat))) ((bits .xor .u64 a0 (IntKind.u64.wrap (a0*2 ^ (13:Int).toNat)))/2 ^ (7:Int).toNat))*2 ^ (17:Int).toNat))),(bits .xor .u64 (bits .xor .u64 (bits .xor .u64 a0 (IntKind.u64.wrap (a0*2 ^ (13:Int).toNat))) ((bits .xor .u64 a0 (IntKind.u64.wrap (a0*2 ^ (13:Int).toNat)))/2 ^ (7:Int).toNat)) (IntKind.u64.wrap ((bits .xor .u64 (bits .xor .u64 a0 (IntKind.u64.wrap (a0*2 ^ (13:Int).toNat))) ((bits .xor .u64 a0 (IntKind.u64.wrap (a0*2 ^ (13:Int).toNat)))/2 ^ (7:Int).toNat))*2 ^ (17:Int).toNat))))
def zi(a0:List Int)(a1:Int)(a2:Int):Option (List Int):=
 kz bA bH n a0 a1 a2
def Km(a0:List Int)(a1:Int)(a2:Int)(a3:Int):Option (Int×Int×Int):=
 Cx cmp_Less_int (λ r=>r) a0 a1 a2 a3
def Kn(a0:List Int)(a1:Int)(a2:Int)(a3:Int)(a4:Int):Option (Int×Int):=
 za cmp_Less_int (λ r=>r) a0 a1 a2 a3 a4
def yx(a0:List Int)(a1:Int)(a2:Int):Option (Int×Int):=
 eH cmp_Less_int (λ r=>r) a0 a1 a2
def Bw(a0:List Int)(a1:Int)(a2:Int):Option (Int×Int):=
 pY cmp_Less_int (λ r=>r) a0 a1 a2
def Av(a0:List Int)(a1:Int)(a2:Int):Option (List Int):=
 mF n a0 a1 a2
def sH(a0:List Int)(a1:Int)(a2:Int):Option (Bool×(List Int)):=
 fC cmp_Less_int (λ r=>r) n a0 a1 a2
def yA(a0:List Int)(a1:Int)(a2:Int)(a3:Int):Option (Int×(List Int)):=
 jw cmp_Less_int (λ r=>r) n a0 a1 a2 a3
def Fh(a0:List Int)(a1:Int)(a2:Int)(a3:Int):Option (Int×Bool×(List Int)):=
 sF cmp_Less_int (λ r=>r) n a0 a1 a2 a3
def nk(rc:((List Int))->(Int)->(Int)->(Int)->Option (List Int))(a0:List Int)(a1:Int)(a2:Int)(a3:Int):Option (List Int):=
 kC cmp_Less_int (λ r=>r) bA bH n rc a0 a1 a2 a3
def mJ(rc:((List Int))->(Int)->(Int)->(Int)->Option (List Int)):bz xx:=⟨[.mut (.int .i64),.d (.int .i64),.d (.int .i64),.d (.int .i64)],[.mu (.int .i64)],λa=>rc a.1 a.2.1 a.2.2.1 a.2.2.2.1,none⟩
def gK(n:Nat):Nat->((List Int))->(Int)->(Int)->(Int)->Option (List Int)
 | 0=>λ_ _ _ _=>none
 |m+1=>nk n (gK n m)
def oQ(a0:List Int)(a1:Int)(a2:Int)(a3:Int):Option (List Int):=gK n n a0 a1 a2 a3
def nI(a0:List Int):Option (List Int):=
 (bits_Len (IntKind.u64.wrap (a0.length:Int))).bind λr1=>ck (bk a0.length a0.length)<|(oQ n a0 0 (a0.length:Int) r1).bind λr2=>some r2
def Ph(a0:List Int)(v1:Int):Stp (Int×Int×(List Int)) (Int×(List Int))
 |(v2,v3,v4)=>(bif (decide (v3<((((a0.length -(v1:Int).toNat):Nat):Int):Int)))then(ck (b7 v3 (a0.length -(v1:Int).toNat))<|(bo v4 (((0+(v1:Int).toNat):Nat)+v3:Int)).bind λx3=>ck (b7 (i64.wrap (v3 -1)) (a0.length -(v1:Int).toNat))<|(bo v4 (((0+(v1:Int).toNat):Nat)+(i64.wrap (v3 -1)):Int)).bind λx4=>(bif (x3 !=(x4:Int))then ck (b7 v3 (a0.length -(v1:Int).toNat))<|(bo v4 (((0+(v1:Int).toNat):Nat)+v3:Int)).bind λx5=>ck (b7 v2 a0.length)<|(bo v4 ((0:Nat)+v2:Int)).bind λx6=>some ((i64.wrap (v2+1)),(v4.set ((0:Nat)+v2:Int).toNat x5))else some (v2,v4)):Option (Int×(List Int))).bind λ(v5,v6)=>some (.inl (v5,(i64.wrap (v3+1)),v6))else some (.inr (v2,v4)))
def Pj(a0:List Int):Stp Int (Unit⊕(Unit×(List Int)))
 |v1=>(bif decide (v1<(a0.length:Int))then ck (b7 v1 a0.length)<|(bo a0 ((0:Nat)+v1:Int)).bind λx1=>ck (b7 (i64.wrap (v1 -1)) a0.length)<|(bo a0 ((0:Nat)+(i64.wrap (v1 -1)):Int)).bind λx2=>(bif (x1==(x2:Int))then ck (Ad v1 (a0.length:Int) a0.length)<|(iter (Ph a0 v1) n (v1,(1:Int),a0)).bind λ(w1,w2)=>ck (Ad w1 (a0.length:Int) a0.length)<|ck (Ad 0 w1 a0.length)<|(ck (bk ((w1:Int).toNat) ((w1:Int).toNat))<|ck (bk (sub (w2.take (0+(w1:Int).toNat)) 0 ((w1:Int).toNat)).length ((w1:Int).toNat))<|some ((),(sub (w2.take (0+(w1:Int).toNat)) 0 ((w1:Int).toNat)))).map λa=> .inr (.inr a)else some (.inl (i64.wrap (v1+1))))else some (.inr (.inl ())))
def pI(a0:List Int):Option (Unit×(List Int)):=
 (bif decide ((a0.length:Int)<2)then ck (bk a0.length a0.length)<|ck (bk (sub a0 0 a0.length).length a0.length)<|some ((),(sub a0 0 a0.length))else dm (iter (Pj n a0) n (1:Int)) λ()=>ck (bk a0.length a0.length)<|ck (bk (sub a0 0 a0.length).length a0.length)<|some ((),(sub a0 0 a0.length)))
def yB(a0:List aD)(a1:Int)(a2:Int)(a3:(aD×aD×Unit)->Option Int):Option (List aD):=
 ni (λ x y=>a3 (x,y,())) (λ r=>decide (r<0)) n a0 a1 a2
def Fj(a0:List aD)(a1:Int)(a2:Int)(a3:Int)(a4:(aD×aD×Unit)->Option Int):Option (List aD):=
 tq (λ x y=>a4 (x,y,())) (λ r=>decide (r<0)) n a0 a1 a2 a3
def Fp(a0:List aD)(a1:Int)(a2:Int)(a3:(aD×aD×Unit)->Option Int):Option (List aD):=
 zV (λ x y=>a3 (x,y,())) (λ r=>decide (r<0)) n a0 a1 a2
def yC(a0:List aD)(a1:Int)(a2:Int)(a3:(aD×aD×Unit)->Option Int):Option (List aD):=
 kz bA bH n a0 a1 a2
def IB(a0:List aD)(a1:Int)(a2:Int)(a3:Int)(a4:(aD×aD×Unit)->Option Int):Option (Int×Int×Int):=
 Cx (λ x y=>a4 (x,y,())) (λ r=>decide (r<0)) a0 a1 a2 a3
def IC(a0:List aD)(a1:Int)(a2:Int)(a3:Int)(a4:Int)(a5:(aD×aD×Unit)->Option Int):Option (Int×Int):=
 za (λ x y=>a5 (x,y,())) (λ r=>decide (r<0)) a0 a1 a2 a3 a4
def xC(a0:List aD)(a1:Int)(a2:Int)(a3:(aD×aD×Unit)->Option Int):Option (Int×Int):=
 eH (λ x y=>a3 (x,y,())) (λ r=>decide (r<0)) a0 a1 a2
def Aw(a0:List aD)(a1:Int)(a2:Int)(a3:(aD×aD×Unit)->Option Int):Option (Int×Int):=
 pY (λ x y=>a3 (x,y,())) (λ r=>decide (r<0)) a0 a1 a2
def zk(a0:List aD)(a1:Int)(a2:Int)(a3:(aD×aD×Unit)->Option Int):Option (List aD):=
 mF n a0 a1 a2
def rf(a0:List aD)(a1:Int)(a2:Int)(a3:(aD×aD×Unit)->Option Int):Option (Bool×(List aD)):=
 fC (λ x y=>a3 (x,y,())) (λ r=>decide (r<0)) n a0 a1 a2
def xD(a0:List aD)(a1:Int)(a2:Int)(a3:Int)(a4:(aD×aD×Unit)->Option Int):Option (Int×(List aD)):=
 jw (λ x y=>a4 (x,y,())) (λ r=>decide (r<0)) n a0 a1 a2 a3
def Dv(a0:List aD)(a1:Int)(a2:Int)(a3:Int)(a4:(aD×aD×Unit)->Option Int):Option (Int×Bool×(List aD)):=
 sF (λ x y=>a4 (x,y,())) (λ r=>decide (r<0)) n a0 a1 a2 a3
def iX(rc:((List aD))->(Int)->(Int)->(Int)->((aD×aD×Unit)->Option Int)->Option (List aD))(a0:List aD)(a1:Int)(a2:Int)(a3:Int)(a4:(aD×aD×Unit)->Option Int):Option (List aD):=
 kC (λ x y=>a4 (x,y,())) (λ r=>decide (r<0)) bA bH n (λ l a b d=>rc l a b d a4) a0 a1 a2 a3
def kT(rc:((List aD))->(Int)->(Int)->(Int)->((aD×aD×Unit)->Option Int)->Option (List aD)):bz xx:=⟨[.mut (.st SI.span),.d (.int .i64),.d (.int .i64),.d (.int .i64),.cV [(.st SI.span),(.st SI.span)] (.int .i64)],[.mu (.st SI.span)],λa=>rc a.1 a.2.1 a.2.2.1 a.2.2.2.1 a.2.2.2.2.1,none⟩
def dZ(n:Nat):Nat->((List aD))->(Int)->(Int)->(Int)->((aD×aD×Unit)->Option Int)->Option (List aD)
 | 0=>λ_ _ _ _ _=>none
 |m+1=>iX n (dZ n m)
def nR(a0:List aD)(a1:Int)(a2:Int)(a3:Int)(a4:(aD×aD×Unit)->Option Int):Option (List aD):=dZ n n a0 a1 a2 a3 a4
def p8(a0:List aD)(a1:(aD×aD×Unit)->Option Int):Option (List aD):=
 (bits_Len (IntKind.u64.wrap (a0.length:Int))).bind λr1=>ck (bk a0.length a0.length)<|(nR n a0 0 (a0.length:Int) r1 a1).bind λr2=>some r2
def cmp_Compare_int(a0:Int)(a1:Int):Option Int:=
 (cmp_isNaN_int a0).bind λr1=>(cmp_isNaN_int a1).bind λr2=>(bif r1 then(bif r2 then some (0:Int)else some ((-1):Int))else(bif r2 then some (1:Int)else(bif decide (a0<(a1:Int))then some ((-1):Int)else(bif decide (a0>(a1:Int))then some (1:Int)else some (0:Int)))))
def zl(a0:aD)(a1:aD):Option Int:=
 (cmp_Compare_int a0.from_ a1.from_).bind λr1=>some r1
def uq(a0:List ay)(a1:Int):Stp (Int×(List aD)) (List aD)
 |(v1,v2)=>(bif decide (v1<(a0.length:Int))then((bo a0 v1).bind λx1=>((bif decide (x1.x0<=(a1:Int))then some (decide (a1<(x1.x1:Int)))else some false)).bind λv3=>(bif v3 then ck (cu v2.length v2.length (sub ([(aD.mk x1.y0 x1.y1)]:List aD) 0 1).length 1 16)<|lI (v2++(sub ([(aD.mk x1.y0 x1.y1)]:List aD) 0 1)) λr1=>ck (bk r1.length r1.length)<|some r1 else ck (bk v2.length v2.length)<|some v2):Option ((List aD))).bind λv4=>ck (bk v4.length v4.length)<|some (.inl ((i64.wrap (v1+1)),v4))else ck (bk v2.length v2.length)<|some (.inr v2))
def uw(w1:List aD)(r2:List aD):Stp (Int×(List aD)) (List aD)
 |(v5,v6)=>(bif decide (v5<(w1.length:Int))then(ck (b7 v5 w1.length)<|(bo r2 ((0:Nat)+v5:Int)).bind λx2=>((bif decide ((v6.length:Int)>0)then ck (b7 (i64.wrap ((v6.length:Int) -1)) v6.length)<|(bo v6 ((0:Nat)+(i64.wrap ((v6.length:Int) -1)):Int)).bind λx3=>some (decide (x2.from_<=(x3.to:Int)))else some false)).bind λv7=>(bif v7 then ck (b7 (i64.wrap ((v6.length:Int) -1)) v6.length)<|(bo v6 ((0:Nat)+(i64.wrap ((v6.length:Int) -1)):Int)).bind λx4=>ck (b7 (i64.wrap ((v6.length:Int) -1)) v6.length)<|(bo v6 ((0:Nat)+(i64.wrap ((v6.length:Int) -1)):Int)).bind λx5=>ck (bk v6.length (v6.set ((0:Nat)+(i64.wrap ((v6.length:Int) -1)):Int).toNat (aD.mk x5.from_ (max x4.to x2.to))).length)<|some (v6.set ((0:Nat)+(i64.wrap ((v6.length:Int) -1)):Int).toNat (aD.mk x5.from_ (max x4.to x2.to)))else ck (cu v6.length v6.length (sub ([x2]:List aD) 0 1).length 1 16)<|lI (v6++(sub ([x2]:List aD) 0 1)) λr3=>ck (bk r3.length r3.length)<|some r3):Option ((List aD))).bind λv8=>ck (bk v8.length v8.length)<|some (.inl ((i64.wrap (v5+1)),v8))else ck (bk v6.length v6.length)<|some (.inr v6))
def Lx(a0:List ay)(a1:Int):Option (List aD):=
 ck (bk 0 ([]:List aD).length)<|(iter (uq a0 a1) n ((0:Int),([]:List aD))).bind λw1=>ck (bk w1.length w1.length)<|(p8 n w1 (λ (y1:aD×aD×Unit)=>zl y1.1 y1.2.1)).bind λr2=>ck (bk 0 ([]:List aD).length)<|(iter (uw w1 r2) n ((0:Int),([]:List aD))).bind λw2=>ck (bk (sub w2 0 w2.length).length w2.length)<|some (sub w2 0 w2.length)
def uy(r1:List ay):Stp (Int×(List Int)) (List Int)
 |(v1,v2)=>(bif decide (v1<(r1.length:Int))then ck (b7 v1 r1.length)<|(bo r1 ((0:Nat)+v1:Int)).bind λx1=>ck (cu v2.length v2.length (sub ([x1.x0,x1.x1]:List Int) 0 2).length 2 8)<|lI (v2++(sub ([x1.x0,x1.x1]:List Int) 0 2)) λr2=>ck (bk r2.length r2.length)<|some (.inl ((i64.wrap (v1+1)),r2))else ck (bk v2.length v2.length)<|some (.inr v2))
def uz(r1:List ay)(r4:Unit×(List Int)):Stp (Int×(List bQ)) (List bQ)
 |(v3,v4)=>(bif decide (v3<(r4.2.length:Int))then ck (b7 (i64.wrap (v3 -1)) r4.2.length)<|(bo r4.2 ((0:Nat)+(i64.wrap (v3 -1)):Int)).bind λx2=>ck (b7 v3 r4.2.length)<|(bo r4.2 ((0:Nat)+v3:Int)).bind λx3=>ck (b7 (i64.wrap (v3 -1)) r4.2.length)<|(bo r4.2 ((0:Nat)+(i64.wrap (v3 -1)):Int)).bind λx4=>ck (bk (sub r1 0 r1.length).length r1.length)<|(Lx n (sub r1 0 r1.length) x4).bind λr5=>ck (bk (sub r5 0 r5.length).length r5.length)<|ck (cu v4.length v4.length (sub ([(bQ.mk x2 x3 (sub r5 0 r5.length))]:List bQ) 0 1).length 1 40)<|lI (v4++(sub ([(bQ.mk x2 x3 (sub r5 0 r5.length))]:List bQ) 0 1)) λr6=>ck (bk r6.length r6.length)<|some (.inl ((i64.wrap (v3+1)),r6))else ck (bk v4.length v4.length)<|some (.inr v4))
def oK(a0:List (List ay)):Option (List bQ):=
 (Au n a0).bind λr1=>ck (bk 0 ([]:List Int).length)<|(iter (uy r1) n ((0:Int),([]:List Int))).bind λw1=>ck (bk w1.length w1.length)<|(nI n w1).bind λr3=>ck (bk w1.length r3.length)<|(pI n r3).bind λr4=>ck (bk 0 ([]:List bQ).length)<|(iter (uz n r1 r4) n ((1:Int),([]:List bQ))).bind λw2=>ck (bk (sub w2 0 w2.length).length w2.length)<|some (sub w2 0 w2.length)
def Rk(a0:List aD)(a1:List aD):Stp Int (Unit⊕Bool)
 |v1=>(bif decide (v1<(a0.length:Int))then(bo a0 v1).bind λx1=>(bo a1 v1).bind λx2=>(bif (!((x1.from_==(x2.from_:Int))&&((x1.to==(x2.to:Int))&&true)))then(some false).map λa=> .inr (.inr a)else some (.inl (i64.wrap (v1+1))))else some (.inr (.inl ())))
def wK(a0:List aD)(a1:List aD):Option Bool:=
 (bif ((a0.length:Int) !=(a1.length:Int))then some false else dm (iter (Rk a0 a1) n (0:Int)) λ()=>some true)
def tF(a0:List bQ)(v1:Int):Stp Int Int
 |v3=>((bif decide (v3<(a0.length:Int))then(bo a0 v3).bind λx1=>(bo a0 v1).bind λx2=>(wK n x1.column x2.column).bind λr1=>some r1 else some false)).bind λv4=>(bif v4 then some (.inl (i64.wrap (v3+1)))else some (.inr v3))
def xE(a0:List bQ)(v1:Int)(w1:Int)(x3:bQ):Stp (Int×(List ay)) (List ay)
 |(v5,v6)=>(bif decide (v5<(x3.column.length:Int))then(bo x3.column v5).bind λx4=>(bo a0 v1).bind λx5=>(bo a0 (i64.wrap (w1 -1))).bind λx6=>ck (cu v6.length v6.length (sub ([(ay.mk x5.x0 x4.from_ x6.x1 x4.to)]:List ay) 0 1).length 1 32)<|lI (v6++(sub ([(ay.mk x5.x0 x4.from_ x6.x1 x4.to)]:List ay) 0 1)) λr2=>ck (bk r2.length r2.length)<|some (.inl ((i64.wrap (v5+1)),r2))else ck (bk v6.length v6.length)<|some (.inr v6))
def xG(a0:List bQ):Stp (Int×(List ay)) (List ay)
 |(v1,v2)=>(bif decide (v1<(a0.length:Int))then(iter (tF n a0 v1) n (i64.wrap (v1+1))).bind λw1=>(bo a0 v1).bind λx3=>ck (bk v2.length v2.length)<|(iter (xE a0 v1 w1 x3) n ((0:Int),v2)).bind λw2=>ck (bk w2.length w2.length)<|some (.inl (w1,w2))else ck (bk v2.length v2.length)<|some (.inr v2))
def Ko(a0:List bQ):Option (List ay):=
 ck (bk 0 ([]:List ay).length)<|(iter (xG n a0) n ((0:Int),([]:List ay))).bind λw3=>ck (bk (sub w3 0 w3.length).length w3.length)<|some (sub w3 0 w3.length)
def Ay(a0:List ay):Option ((List ay)×Int):=
 (bif decide ((a0.length:Int)>200)then some (([]:(List ay)),(6:Int))else some (a0,(0:Int)))
def Pk(a0:List ay):Stp Int (Unit⊕((List ay)×Int))
 |v1=>(bif decide (v1<(a0.length:Int))then(bo a0 v1).bind λx1=>(oW x1).bind λr1=>(bif (!r1)then(some (([]:(List ay)),(1:Int))).map λa=> .inr (.inr a)else some (.inl (i64.wrap (v1+1))))else some (.inr (.inl ())))
def Lw(a0:List ay):Option ((List ay)×Int):=
 dm (iter (Pk a0) n (0:Int)) λ()=>(bif decide ((a0.length:Int)>400)then some (([]:(List ay)),(6:Int))else ck (bk (sub ([a0]:List (List ay)) 0 1).length 1)<|(oK n (sub ([a0]:List (List ay)) 0 1)).bind λr2=>ck (bk (sub r2 0 r2.length).length r2.length)<|(Ko n (sub r2 0 r2.length)).bind λr3=>ck (bk (sub r3 0 r3.length).length r3.length)<|(Ay (sub r3 0 r3.length)).bind λr4=>some (r4.1,r4.2))
def Rl(a0:List ay)(a1:List ay):Stp Int (Unit⊕Bool)
 |v1=>(bif decide (v1<(a0.length:Int))then(bo a0 v1).bind λx1=>(bo a1 v1).bind λx2=>(bif (!((x1.x0==(x2.x0:Int))&&((x1.y0==(x2.y0:Int))&&((x1.x1==(x2.x1:Int))&&((x1.y1==(x2.y1:Int))&&true)))))then(some false).map λa=> .inr (.inr a)else some (.inl (i64.wrap (v1+1))))else some (.inr (.inl ())))
def oL(a0:List ay)(a1:List ay):Option Bool:=
 (bif ((a0.length:Int) !=(a1.length:Int))then some false else dm (iter (Rl a0 a1) n (0:Int)) λ()=>some true)
def oq(a0:List ay):Option Bool:=
 (Lw n a0).bind λr1=>(bif (r1.2==0)then(oL n r1.1 a0).bind λr2=>some r2 else some false)
def lV(a0:List bQ)(a1:Int)(a2:(bQ×Int×Unit)->Option Int):Stp (Int×Int) Int
 |(v1,v2)=>(bif decide (v1<(v2:Int))then ck (decide (0<=1)&&decide (1<=IntKind.u64.bits))<|(bo a0 (i64.wrap ((IntKind.u64.wrap (i64.wrap (v1+v2)))/2 ^ (1:Int).toNat))).bind λx1=>(a2 (x1,a1,())).bind λr1=>(bif decide (r1<0)then some (.inl ((i64.wrap ((i64.wrap ((IntKind.u64.wrap (i64.wrap (v1+v2)))/2 ^ (1:Int).toNat))+1)),v2))else some (.inl (v1,(i64.wrap ((IntKind.u64.wrap (i64.wrap (v1+v2)))/2 ^ (1:Int).toNat)))))else some (.inr v1))
def jd(a0:List bQ)(a1:Int)(a2:(bQ×Int×Unit)->Option Int):Option (Int×Bool):=
 (iter (lV a0 a1 a2) n ((0:Int),(a0.length:Int))).bind λw1=>(bif decide (w1<(a0.length:Int))then(bo a0 w1).bind λx2=>(a2 (x2,a1,())).bind λr2=>some (w1,(r2==0))else some (w1,false))
def xH(a0:bQ)(a1:Int):Option Int:=
 (bif decide (a0.x1<=(a1:Int))then some ((-1):Int)else some (1:Int))
def XG(a0:List bQ)(a1:Int):Option (List aD):=
 (jd n a0 a1 (λ (y1:bQ×Int×Unit)=>xH y1.1 y1.2.1)).bind λr1=>((bif decide (r1.1<(a0.length:Int))then(bo a0 r1.1).bind λx1=>some (decide (x1.x0<=(a1:Int)))else some false)).bind λv1=>(bif v1 then(bo a0 r1.1).bind λx2=>some x2.column else some ([]:(List aD)))
def Pm(a0:Unit)(a1:Int):Option (List aD):=
 (bif decide (a1<0)then none else(bif (decide ((i64.wrap (a1 -(i64.wrap (0 -0))))>0))then ck (Bu (i64.wrap (a1 -(i64.wrap (0 -0)))) 16)<|ck (Ad 0 0 ((i64.wrap (a1 -(i64.wrap (0 -0)))).toNat))<|ck (bk (sub (List.replicate (i64.wrap (a1 -(i64.wrap (0 -0)))).toNat (aD.mk 0 0)) 0 0).length 0)<|some (sub (List.replicate (i64.wrap (a1 -(i64.wrap (0 -0)))).toNat (aD.mk 0 0)) 0 0)else some ([]:(List aD))))
def Pn(a0:List (List aD)):Stp (Int×Int) Int
 |(v1,v2)=>(bif decide (v2<(a0.length:Int))then(bo a0 v2).bind λx1=>(bif decide ((i64.wrap (v1+(x1.length:Int)))<0)then none else some (.inl ((i64.wrap (v1+(x1.length:Int))),(i64.wrap (v2+1)))))else some (.inr v1))
def Po(a0:List (List aD)):Stp (Int×(List aD)) (List aD)
 |(v3,v4)=>(bif decide (v3<(a0.length:Int))then(bo a0 v3).bind λx2=>ck (cu v4.length v4.length x2.length x2.length 16)<|lI (v4++x2) λr2=>ck (bk r2.length r2.length)<|some (.inl ((i64.wrap (v3+1)),r2))else ck (bk v4.length v4.length)<|some (.inr v4))
def Az(a0:List (List aD)):Option (List aD):=
 (iter (Pn a0) n ((0:Int),(0:Int))).bind λw1=>(Pm () w1).bind λr1=>ck (bk r1.length r1.length)<|(iter (Po a0) n ((0:Int),r1)).bind λw2=>ck (bk (sub w2 0 w2.length).length w2.length)<|some (sub w2 0 w2.length)
def mR(a0:List aD)(a1:Int)(a2:(aD×Int×Unit)->Option Int):Stp (Int×Int) Int
 |(v1,v2)=>(bif decide (v1<(v2:Int))then ck (decide (0<=1)&&decide (1<=IntKind.u64.bits))<|(bo a0 (i64.wrap ((IntKind.u64.wrap (i64.wrap (v1+v2)))/2 ^ (1:Int).toNat))).bind λx1=>(a2 (x1,a1,())).bind λr1=>(bif decide (r1<0)then some (.inl ((i64.wrap ((i64.wrap ((IntKind.u64.wrap (i64.wrap (v1+v2)))/2 ^ (1:Int).toNat))+1)),v2))else some (.inl (v1,(i64.wrap ((IntKind.u64.wrap (i64.wrap (v1+v2)))/2 ^ (1:Int).toNat)))))else some (.inr v1))
def jy(a0:List aD)(a1:Int)(a2:(aD×Int×Unit)->Option Int):Option (Int×Bool):=
 (iter (mR a0 a1 a2) n ((0:Int),(a0.length:Int))).bind λw1=>(bif decide (w1<(a0.length:Int))then(bo a0 w1).bind λx2=>(a2 (x2,a1,())).bind λr2=>some (w1,(r2==0))else some (w1,false))
def lW(a0:aD)(a1:Int):Option Int:=
 (bif decide (a0.to<=(a1:Int))then some ((-1):Int)else some (1:Int))
def Fq(a0:List aD)(a1:Int):Option Bool:=
 (jy n a0 a1 (λ (y1:aD×Int×Unit)=>lW y1.1 y1.2.1)).bind λr1=>(bif decide (r1.1<(a0.length:Int))then(bo a0 r1.1).bind λx1=>some (decide (x1.from_<=(a1:Int)))else some false)
def xI(r1:List aD):Stp (Int×(List Int)) (List Int)
 |(v1,v2)=>(bif decide (v1<(r1.length:Int))then ck (b7 v1 r1.length)<|(bo r1 ((0:Nat)+v1:Int)).bind λx1=>ck (cu v2.length v2.length (sub ([x1.from_,x1.to]:List Int) 0 2).length 2 8)<|lI (v2++(sub ([x1.from_,x1.to]:List Int) 0 2)) λr2=>ck (bk r2.length r2.length)<|some (.inl ((i64.wrap (v1+1)),r2))else ck (bk v2.length v2.length)<|some (.inr v2))
def xJ(a0:List aD)(a1:List aD)(a2:(Bool×Bool×Unit)->Option Bool)(r4:Unit×(List Int)):Stp (Int×(List aD)) (List aD)
 |(v3,v4)=>(bif decide (v3<(r4.2.length:Int))then(ck (b7 (i64.wrap (v3 -1)) r4.2.length)<|(bo r4.2 ((0:Nat)+(i64.wrap (v3 -1)):Int)).bind λx2=>(Fq n a0 x2).bind λr5=>(Fq n a1 x2).bind λr6=>(a2 (r5,r6,())).bind λr7=>(bif (!r7)then ck (bk v4.length v4.length)<|some v4 else((bif decide ((v4.length:Int)>0)then ck (b7 (i64.wrap ((v4.length:Int) -1)) v4.length)<|(bo v4 ((0:Nat)+(i64.wrap ((v4.length:Int) -1)):Int)).bind λx3=>some (x3.to==(x2:Int))else some false)).bind λv5=>(bif v5 then ck (b7 v3 r4.2.length)<|(bo r4.2 ((0:Nat)+v3:Int)).bind λx4=>ck (b7 (i64.wrap ((v4.length:Int) -1)) v4.length)<|(bo v4 ((0:Nat)+(i64.wrap ((v4.length:Int) -1)):Int)).bind λx5=>ck (bk v4.length (v4.set ((0:Nat)+(i64.wrap ((v4.length:Int) -1)):Int).toNat (aD.mk x5.from_ x4)).length)<|some (v4.set ((0:Nat)+(i64.wrap ((v4.length:Int) -1)):Int).toNat (aD.mk x5.from_ x4))else ck (b7 v3 r4.2.length)<|(bo r4.2 ((0:Nat)+v3:Int)).bind λx6=>ck (cu v4.length v4.length (sub ([(aD.mk x2 x6)]:List aD) 0 1).length 1 16)<|lI (v4++(sub ([(aD.mk x2 x6)]:List aD) 0 1)) λr8=>ck (bk r8.length r8.length)<|some r8)):Option ((List aD))).bind λv6=>ck (bk v6.length v6.length)<|some (.inl ((i64.wrap (v3+1)),v6))else ck (bk v4.length v4.length)<|some (.inr v4))
def Kq(a0:List aD)(a1:List aD)(a2:(Bool×Bool×Unit)->Option Bool):Option (List aD):=
 ck (bk (sub ([a0,a1]:List (List aD)) 0 2).length 2)<|(Az n (sub ([a0,a1]:List (List aD)) 0 2)).bind λr1=>ck (bk 0 ([]:List Int).length)<|(iter (xI r1) n ((0:Int),([]:List Int))).bind λw1=>ck (bk w1.length w1.length)<|(nI n w1).bind λr3=>ck (bk w1.length r3.length)<|(pI n r3).bind λr4=>ck (bk 0 ([]:List aD).length)<|(iter (xJ n a0 a1 a2 r4) n ((1:Int),([]:List aD))).bind λw2=>ck (bk (sub w2 0 w2.length).length w2.length)<|some (sub w2 0 w2.length)
def rq(a2:(Bool×Bool×Unit)->Option Bool)(r3:List bQ)(r4:List bQ)(r5:List bQ):Stp (Int×(List bQ)) (List bQ)
 |(v2,v3)=>(bif decide (v2<(r5.length:Int))then ck (b7 v2 r5.length)<|(bo v3 ((0:Nat)+v2:Int)).bind λx1=>(XG n (sub r3 0 r3.length) x1.x0).bind λr6=>(XG n (sub r4 0 r4.length) x1.x0).bind λr7=>(Kq n r6 r7 a2).bind λr8=>ck (b7 v2 r5.length)<|ck (bk (sub r8 0 r8.length).length r8.length)<|(bo v3 ((0:Nat)+v2:Int)).bind λx2=>some (.inl ((i64.wrap (v2+1)),(v3.set ((0:Nat)+v2:Int).toNat (bQ.mk x2.x0 x2.x1 (sub r8 0 r8.length)))))else some (.inr v3))
def GY(a0:List ay)(a1:List ay)(a2:(Bool×Bool×Unit)->Option Bool):Option ((List ay)×Int):=
 ((oq n a0).bind λr1=>(bif (!r1)then some true else(oq n a1).bind λr2=>some (!r2))).bind λv1=>(bif v1 then some (([]:(List ay)),(1:Int))else ck (bk (sub ([a0]:List (List ay)) 0 1).length 1)<|(oK n (sub ([a0]:List (List ay)) 0 1)).bind λr3=>ck (bk (sub ([a1]:List (List ay)) 0 1).length 1)<|(oK n (sub ([a1]:List (List ay)) 0 1)).bind λr4=>ck (bk (sub r3 0 r3.length).length r3.length)<|ck (bk (sub r4 0 r4.length).length r4.length)<|ck (bk (sub ([a0,a1]:List (List ay)) 0 2).length 2)<|(oK n (sub ([a0,a1]:List (List ay)) 0 2)).bind λr5=>(iter (rq n a2 r3 r4 r5) n ((0:Int),r5)).bind λw1=>ck (bk (sub w1 0 r5.length).length r5.length)<|(Ko n (sub w1 0 r5.length)).bind λr9=>ck (bk (sub r9 0 r9.length).length r9.length)<|(Ay (sub r9 0 r9.length)).bind λud=>some (ud.1,ud.2))
def zm(a0:Bool)(a1:Bool):Option Bool:=
 (bif a0 then some a1 else some false)
def LA(a0:List ay)(a1:List ay):Option ((List ay)×Int):=
 (GY n a0 a1 (λ (y1:Bool×Bool×Unit)=>zm y1.1 y1.2.1)).bind λr1=>some (r1.1,r1.2)
def AA(a0:ay):Option Int:=
 (zX a0).bind λr1=>some (i64.wrap ((i64.wrap (r1.1.x1 -r1.1.x0))*(i64.wrap (r1.1.y1 -r1.1.y0))))
def GZ(a0:List ay):Stp (Int×Int) Int
 |(v1,v2)=>(bif decide (v2<(a0.length:Int))then(bo a0 v2).bind λx1=>(AA x1).bind λr2=>some (.inl ((i64.wrap (v1+r2)),(i64.wrap (v2+1))))else some (.inr v1))
def Pp(a0:List ay):Option Int:=
 (oq n a0).bind λr1=>(bif (!r1)then some (0:Int)else(iter (GZ a0) n ((0:Int),(0:Int))).bind λw1=>some w1)
def vO(a0:ic)(a1:bP):Option Bool:=
 some (ByteArray.toList a0.name==ByteArray.toList a1.name)
def LZ(a0:List ic)(a1:(ic×Unit)->Option Bool):Stp Int (Unit⊕Int)
 |v1=>(bif decide (v1<(a0.length:Int))then(bo a0 v1).bind λx1=>(a1 (x1,())).bind λr1=>(bif r1 then(some v1).map λa=> .inr (.inr a)else some (.inl (i64.wrap (v1+1))))else some (.inr (.inl ())))
def vP(a0:List ic)(a1:(ic×Unit)->Option Bool):Option Int:=
 dm (iter (LZ a0 a1) n (0:Int)) λ()=>some ((-1):Int)
def mV(a0:List ic)(a1:(ic×Unit)->Option Bool):Option Bool:=
 (vP n a0 a1).bind λr1=>some (decide (r1>=0))
def j3(a1:gY)(r3:List aF):Stp Int (Unit⊕Bool)
 |v2=>(bif decide (v2<(r3.length:Int))then ck (b7 v2 r3.length)<|(bo r3 ((0:Nat)+v2:Int)).bind λx1=>ck (bk (sub ([(ay.mk x1.bx x1.b9 x1.bu x1.b8)]:List ay) 0 1).length 1)<|(LA n a1.area (sub ([(ay.mk x1.bx x1.b9 x1.bu x1.b8)]:List ay) 0 1)).bind λr4=>((bif (r4.2 !=0)then some true else(Pp n r4.1).bind λr5=>(AA (ay.mk x1.bx x1.b9 x1.bu x1.b8)).bind λr6=>some (decide (r5<(r6:Int))))).bind λv3=>(bif v3 then(some false).map λa=> .inr (.inr a)else some (.inl (i64.wrap (v2+1))))else some (.inr (.inl ())))
def j4(a0:cK)(x2:iG):Stp Int (Unit⊕(Int⊕(Unit⊕Bool)))
 |v5=>(bif decide (v5<(x2.gives.length:Int))then(bo x2.gives v5).bind λx3=>(mV n a0.caps (λ (y1:ic×Unit)=>vO y1.1 x3)).bind λr7=>(bif (!r7)then((some false).map λa=> .inr (.inr a)).map λa=> .inr (.inr a)else some (.inl (i64.wrap (v5+1))))else some (.inr (.inl ())))
def j5(a0:cK)(a2:bf):Stp Int (Unit⊕Bool)
 |v4=>(bif decide (v4<(a2.phases.length:Int))then(bo a2.phases v4).bind λx2=>dm (iter (j4 n a0 x2) n (0:Int)) λ()=>some (.inl (i64.wrap (v4+1)))else some (.inr (.inl ())))
def oM(a0:cK)(a1:gY)(a2:bf):Option Bool:=
 ((zf n a2).bind λr1=>(bif (!r1)then some true else(bif (a1.id !=(a2.lot:Int))then some true else(oq n a1.area).bind λr2=>some (!r2)))).bind λv1=>(bif v1 then some false else(xA n a2).bind λr3=>dm (iter (j3 n a1 r3) n (0:Int)) λ()=>dm (iter (j5 n a0 a2) n (0:Int)) λ()=>some true)
def oZ(a0:bf):Stp (Int×(List aF)) (List aF)
 |(v1,v2)=>(bif decide (v1<(a0.phases.length:Int))then(bo a0.phases v1).bind λx1=>ck (cu v2.length v2.length x1.cm.length x1.cm.length 72)<|lI (v2++x1.cm) λr1=>ck (bk r1.length r1.length)<|some (.inl ((i64.wrap (v1+1)),r1))else ck (bk v2.length v2.length)<|some (.inr v2))
def uD(a0:bf):Option (List aF):=
 ck (bk 0 ([]:List aF).length)<|(iter (oZ a0) n ((0:Int),([]:List aF))).bind λw1=>ck (bk (sub w1 0 w1.length).length w1.length)<|some (sub w1 0 w1.length)
def o6(a0:List dH):Stp (Int×(List jB)) (List jB)
 |(v1,v2)=>(bif decide (v1<(a0.length:Int))then(bo a0 v1).bind λx1=>ck ((a0.length:Int) !=0)<|(bo a0 (Int.tmod (i64.wrap (v1+1)) (a0.length:Int))).bind λx2=>ck (b7 v1 ((a0.length:Int).toNat))<|(bo v2 ((0:Nat)+v1:Int)).bind λx3=>some (.inl ((i64.wrap (v1+1)),(v2.set ((0:Nat)+v1:Int).toNat (jB.mk x1.x x1.y x2.x x2.y))))else some (.inr v2))
def pJ(a0:List dH):Option (List jB):=
 ck (decide ((a0.length:Int)<=(a0.length:Int))&&(decide (0<=(a0.length:Int))&&Bu (a0.length:Int) 32))<|(iter (o6 a0) n ((0:Int),(List.replicate (a0.length:Int).toNat (jB.mk 0 0 0 0)))).bind λw1=>ck (bk (sub w1 0 ((a0.length:Int).toNat)).length ((a0.length:Int).toNat))<|some (sub w1 0 ((a0.length:Int).toNat))
def uE(a0:dH):Option Bool:=
 (bif decide (0<=(a0.x:Int))then(bif decide (a0.x<=1048576)then(bif decide (0<=(a0.y:Int))then some (decide (a0.y<=1048576))else some false)else some false)else some false)
def gM(a0:jB):Option Bool:=
 some (a0.lz==(a0.ma:Int))
def wL(a0:List Int):Stp Int (Unit⊕Int)
 |v1=>(bif decide (v1<(a0.length:Int))then(bo a0 v1).bind λx1=>(bif (x1 !=0)then(some x1).map λa=> .inr (.inr a)else some (.inl (i64.wrap (v1+1))))else some (.inr (.inl ())))
def sI(a0:List Int):Option Int:=
 dm (iter (wL a0) n (0:Int)) λ()=>some (0:Int)
def rT(a0:dH)(a1:dH):Option Int:=
 (cmp_Compare_int a0.x a1.x).bind λr1=>(cmp_Compare_int a0.y a1.y).bind λr2=>ck (bk (sub ([r1,r2]:List Int) 0 2).length 2)<|(sI n (sub ([r1,r2]:List Int) 0 2)).bind λr3=>some r3
def lX(a0:jB)(a1:jB):Option Bool:=
 (bif decide ((max (min a0.lz a0.ma) (min a1.lz a1.ma))<=((min (max a0.lz a0.ma) (max a1.lz a1.ma)):Int))then some (decide ((max (min a0.pn a0.tm) (min a1.pn a1.tm))<=((min (max a0.pn a0.tm) (max a1.pn a1.tm)):Int)))else some false)
def p9(a0:List dH)(r1:List jB):Stp Int (Unit⊕Bool)
 |v2=>(bif decide (v2<(r1.length:Int))then ck (b7 v2 r1.length)<|(bo r1 ((0:Nat)+v2:Int)).bind λx1=>ck ((r1.length:Int) !=0)<|ck (b7 (Int.tmod (i64.wrap (v2+1)) (r1.length:Int)) r1.length)<|(bo r1 ((0:Nat)+(Int.tmod (i64.wrap (v2+1)) (r1.length:Int)):Int)).bind λx2=>((uE (dH.mk x1.lz x1.pn)).bind λr2=>(bif (!r2)then some true else(bif ((x1.lz==(x1.ma:Int))==(x1.pn==(x1.tm:Int)))then some true else(gM x1).bind λr3=>(gM x2).bind λr4=>some (r3==r4)))).bind λv3=>(bif v3 then(some false).map λa=> .inr (.inr a)else((bif decide (v2>0)then(bo a0 0).bind λx3=>(bo a0 v2).bind λx4=>(rT n x3 x4).bind λr5=>some (decide (r5>=0))else some false)).bind λv4=>(bif v4 then(some false).map λa=> .inr (.inr a)else some (.inl (i64.wrap (v2+1)))))else some (.inr (.inl ())))
def iV(r1:List jB)(v5:Int):Stp Int (Unit⊕(Int⊕(Unit⊕Bool)))
 |v6=>(bif decide (v6<(r1.length:Int))then((bif (decide ((i64.wrap ((i64.wrap (v5+(r1.length:Int))) -v6))>1))then ck (b7 v5 r1.length)<|(bo r1 ((0:Nat)+v5:Int)).bind λx5=>ck (b7 v6 r1.length)<|(bo r1 ((0:Nat)+v6:Int)).bind λx6=>(lX x5 x6).bind λr6=>some r6 else some false)).bind λv7=>(bif v7 then((some false).map λa=> .inr (.inr a)).map λa=> .inr (.inr a)else some (.inl (i64.wrap (v6+1))))else some (.inr (.inl ())))
def qa(r1:List jB):Stp Int (Unit⊕Bool)
 |v5=>(bif decide (v5<(r1.length:Int))then dm (iter (iV r1 v5) n (i64.wrap (v5+2))) λ()=>some (.inl (i64.wrap (v5+1)))else some (.inr (.inl ())))
def wM(a0:List dH):Option Bool:=
 ((bif decide ((a0.length:Int)<4)then some true else some (decide ((a0.length:Int)>60)))).bind λv1=>(bif v1 then some false else(pJ n a0).bind λr1=>dm (iter (p9 n a0 r1) n (0:Int)) λ()=>dm (iter (qa n r1) n (0:Int)) λ()=>ck (b7 0 r1.length)<|(bo r1 ((0:Nat)+0:Int)).bind λx7=>(gM x7).bind λr7=>some (!r7))
def lY(a0:List dH):Stp (Int×(List Int)) (List Int)
 |(v1,v2)=>(bif decide (v1<(a0.length:Int))then(bo a0 v1).bind λx1=>ck (cu v2.length v2.length (sub ([x1.x]:List Int) 0 1).length 1 8)<|lI (v2++(sub ([x1.x]:List Int) 0 1)) λr2=>ck (bk r2.length r2.length)<|some (.inl ((i64.wrap (v1+1)),r2))else ck (bk v2.length v2.length)<|some (.inr v2))
def lZ(r4:Unit×(List Int))(r5:List jB)(v3:Int):Stp (Int×(List Int)) (List Int)
 |(v5,v6)=>(bif decide (v5<(r5.length:Int))then(ck (b7 v5 r5.length)<|(bo r5 ((0:Nat)+v5:Int)).bind λx2=>((gM x2).bind λr6=>(bif (!r6)then ck (b7 v3 r4.2.length)<|(bo r4.2 ((0:Nat)+v3:Int)).bind λx3=>(bif decide ((min x2.lz x2.ma)<=(x3:Int))then ck (b7 v3 r4.2.length)<|(bo r4.2 ((0:Nat)+v3:Int)).bind λx4=>some (decide (x4<((max x2.lz x2.ma):Int)))else some false)else some false)).bind λv7=>(bif v7 then ck (cu v6.length v6.length (sub ([x2.pn]:List Int) 0 1).length 1 8)<|lI (v6++(sub ([x2.pn]:List Int) 0 1)) λr7=>ck (bk r7.length r7.length)<|some r7 else ck (bk v6.length v6.length)<|some v6):Option ((List Int))).bind λv8=>ck (bk v8.length v8.length)<|some (.inl ((i64.wrap (v5+1)),v8))else ck (bk v6.length v6.length)<|some (.inr v6))
def jl(r4:Unit×(List Int))(v3:Int)(w2:List Int)(r8:List Int):Stp (Int×(List ay)) (List ay)
 |(v9,v10)=>(bif decide ((i64.wrap (v9+1))<(w2.length:Int))then ck (b7 v3 r4.2.length)<|(bo r4.2 ((0:Nat)+v3:Int)).bind λx5=>ck (b7 v9 w2.length)<|(bo r8 ((0:Nat)+v9:Int)).bind λx6=>ck (b7 (i64.wrap (v3+1)) r4.2.length)<|(bo r4.2 ((0:Nat)+(i64.wrap (v3+1)):Int)).bind λx7=>ck (b7 (i64.wrap (v9+1)) w2.length)<|(bo r8 ((0:Nat)+(i64.wrap (v9+1)):Int)).bind λx8=>ck (cu v10.length v10.length (sub ([(ay.mk x5 x6 x7 x8)]:List ay) 0 1).length 1 32)<|lI (v10++(sub ([(ay.mk x5 x6 x7 x8)]:List ay) 0 1)) λr9=>ck (bk r9.length r9.length)<|some (.inl ((i64.wrap (v9+2)),r9))else ck (bk v10.length v10.length)<|some (.inr v10))
def l5(r4:Unit×(List Int))(r5:List jB):Stp (Int×(List ay)) (List ay)
 |(v3,v4)=>(bif (decide (v3<((i64.wrap ((r4.2.length:Int) -1)):Int)))then ck (bk 0 ([]:List Int).length)<|(iter (lZ r4 r5 v3) n ((0:Int),([]:List Int))).bind λw2=>ck (bk w2.length w2.length)<|(nI n w2).bind λr8=>ck (bk v4.length v4.length)<|(iter (jl r4 v3 w2 r8) n ((0:Int),v4)).bind λw3=>ck (bk w3.length w3.length)<|some (.inl ((i64.wrap (v3+1)),w3))else ck (bk v4.length v4.length)<|some (.inr v4))
def uF(a0:List dH):Option ((List ay)×Int):=
 (wM n a0).bind λr1=>(bif (!r1)then some (([]:(List ay)),(10:Int))else ck (bk 0 ([]:List Int).length)<|(iter (lY a0) n ((0:Int),([]:List Int))).bind λw1=>ck (bk w1.length w1.length)<|(nI n w1).bind λr3=>ck (bk w1.length r3.length)<|(pI n r3).bind λr4=>(pJ n a0).bind λr5=>ck (bk 0 ([]:List ay).length)<|(iter (l5 n r4 r5) n ((0:Int),([]:List ay))).bind λw4=>(bif decide ((w4.length:Int)>200)then some (([]:(List ay)),(6:Int))else ck (bk (sub w4 0 w4.length).length w4.length)<|some ((sub w4 0 w4.length),(0:Int))))
def zn(a0:dW):Option (List ay):=
 (uF n a0.corners).bind λr1=>(bif (r1.2 !=0)then some ([]:(List ay))else ck (bk (sub r1.1 0 r1.1.length).length r1.1.length)<|some (sub r1.1 0 r1.1.length))
def qb(a1:List ay)(x1:ay):Stp (Int×Int×Int×Int) (Int×Int×Int)
 |(v5,v6,v7,v8)=>(bif decide (v6<(a1.length:Int))then((bo a1 v6).bind λx2=>(tC x1 x2).bind λr1=>(bif (!r1.2)then some (v5,v7,v8)else(AA r1.1).bind λr2=>(cmp_Compare_int r1.1.x0 v7).bind λr3=>(cmp_Compare_int r1.1.y0 v8).bind λr4=>ck (bk (sub ([r3,r4]:List Int) 0 2).length 2)<|(sI n (sub ([r3,r4]:List Int) 0 2)).bind λr5=>(bif decide (r5<0)then some ((i64.wrap (v5+r2)),r1.1.x0,r1.1.y0)else some ((i64.wrap (v5+r2)),v7,v8))):Option (Int×Int×Int)).bind λ(v9,v10,v11)=>some (.inl (v9,(i64.wrap (v6+1)),v10,v11))else some (.inr (v5,v7,v8)))
def qc(a0:List ay)(a1:List ay):Stp (Int×Int×Int×Int) (Int×Int×Int)
 |(v1,v2,v3,v4)=>(bif decide (v2<(a0.length:Int))then(bo a0 v2).bind λx1=>(iter (qb n a1 x1) n (v1,(0:Int),v3,v4)).bind λ(w1,w2,w3)=>some (.inl (w1,(i64.wrap (v2+1)),w2,w3))else some (.inr (v1,v3,v4)))
def wN(a0:List ay)(a1:List ay):Option (Int×dH):=
 (iter (qc n a0 a1) n ((0:Int),(0:Int),(1048576:Int),(0:Int))).bind λ(w4,w5,w6)=>some (w4,(dH.mk w5 w6))
def qd(a0:cK)(a1:List ay):Stp (Int×(List Int)) (List Int)
 |(v1,v2)=>(bif decide (v1<(a0.zones.length:Int))then(bo a0.zones v1).bind λx1=>(zn n x1).bind λr2=>ck (bk (sub r2 0 r2.length).length r2.length)<|(wN n a1 (sub r2 0 r2.length)).bind λr3=>ck (cu v2.length v2.length (sub ([r3.1]:List Int) 0 1).length 1 8)<|lI (v2++(sub ([r3.1]:List Int) 0 1)) λr4=>ck (bk r4.length r4.length)<|some (.inl ((i64.wrap (v1+1)),r4))else ck (bk v2.length v2.length)<|some (.inr v2))
def wO(a0:cK)(a1:List ay):Option (List Int):=
 (oq n a1).bind λr1=>(bif (!r1)then some ([]:(List Int))else ck (bk 0 ([]:List Int).length)<|(iter (qd n a0 a1) n ((0:Int),([]:List Int))).bind λw1=>ck (bk (sub w1 0 w1.length).length w1.length)<|some (sub w1 0 w1.length))
def qf(a0:cK)(r1:List Int):Stp (Int×Int) Int
 |(v1,v2)=>(bif decide (v2<(r1.length:Int))then(ck (b7 v2 r1.length)<|(bo r1 ((0:Nat)+v2:Int)).bind λx1=>((bo a0.zones v2).bind λx2=>(bif (!x2.overlay)then(bif decide (x1>0)then(bif decide (v1<0)then some true else ck (b7 v1 r1.length)<|(bo r1 ((0:Nat)+v1:Int)).bind λx3=>some (decide (x1>(x3:Int))))else some false)else some false)).bind λv3=>(bif v3 then some v2 else some v1):Option Int).bind λv4=>some (.inl (v4,(i64.wrap (v2+1))))else some (.inr v1))
def zo(a0:cK)(r1:List Int)(w1:Int):Stp (Int×(List ByteArray)) (List ByteArray)
 |(v5,v6)=>(bif decide (v5<(r1.length:Int))then(ck (b7 v5 r1.length)<|(bo r1 ((0:Nat)+v5:Int)).bind λx4=>((bif (v5==(w1:Int))then some true else(bo a0.zones v5).bind λx5=>(bif x5.overlay then some (decide (x4>0))else some false))).bind λv7=>(bif v7 then(bo a0.zones v5).bind λx6=>ck (cu v6.length v6.length (sub ([x6.name]:List ByteArray) 0 1).length 1 16)<|lI (v6++(sub ([x6.name]:List ByteArray) 0 1)) λr2=>ck (bk r2.length r2.length)<|some r2 else ck (bk v6.length v6.length)<|some v6):Option ((List ByteArray))).bind λv8=>ck (bk v8.length v8.length)<|some (.inl ((i64.wrap (v5+1)),v8))else ck (bk v6.length v6.length)<|some (.inr v6))
def Fs(a0:cK)(a1:List ay):Option (List ByteArray):=
 (wO n a0 a1).bind λr1=>(iter (qf a0 r1) n (((-1):Int),(0:Int))).bind λw1=>ck (bk 0 ([]:List ByteArray).length)<|(iter (zo a0 r1 w1) n ((0:Int),([]:List ByteArray))).bind λw2=>ck (bk (sub w2 0 w2.length).length w2.length)<|some (sub w2 0 w2.length)
def xK(a0:fE)(a1:bf):Option (mI×Int):=
 (O9 n a0.land a1.lot).bind λr1=>(bif (!r1.2)then some ((mI.mk ([]) ([]) ([]) ([]) ([]) ([]) ([]) 0 ([]) ([]) ([]) ([]) ([]) 0 0 ([]) ([]) 0 ([]) ([]) ([])),(4:Int))else(oM n (cK.mk a0.ct a0.cj a0.cd a0.az a0.cD a0.cw a0.cQ a0.cx) r1.1 a1).bind λr2=>(bif (!r2)then some ((mI.mk ([]) ([]) ([]) ([]) ([]) ([]) ([]) 0 ([]) ([]) ([]) ([]) ([]) 0 0 ([]) ([]) 0 ([]) ([]) ([])),(1:Int))else(uD n a1).bind λr3=>(Fs n (cK.mk a0.ct a0.cj a0.cd a0.az a0.cD a0.cw a0.cQ a0.cx) r1.1.area).bind λr4=>ck (bk (sub r3 0 r3.length).length r3.length)<|ck (bk (sub r4 0 r4.length).length r4.length)<|some ((mI.mk a0.ct a0.cj a0.cd a0.az a0.cD a0.cw a0.cQ a0.cx a0.land a0.co a0.windows a0.built a0.base r1.1.id r1.1.owner r1.1.area r1.1.from_ a1.lot a1.phases (sub r3 0 r3.length) (sub r4 0 r4.length)),(0:Int))))
def nS(a0:List ByteArray)(a1:ByteArray):Stp Int (Unit⊕Int)
 |v1=>(bif decide (v1<(a0.length:Int))then(bo a0 v1).bind λx1=>(bif (ByteArray.toList a1==ByteArray.toList x1)then(some v1).map λa=> .inr (.inr a)else some (.inl (i64.wrap (v1+1))))else some (.inr (.inl ())))
def rU(a0:List ByteArray)(a1:ByteArray):Option Int:=
 dm (iter (nS a0 a1) n (0:Int)) λ()=>some ((-1):Int)
def fK(a0:List ByteArray)(a1:ByteArray):Option Bool:=
 (rU n a0 a1).bind λr1=>some (decide (r1>=0))
def j6(a0:ByteArray)(a1:List ByteArray):Option Bool:=
 (fK n a1 a0).bind λr1=>some r1
def G5(a0:List ByteArray)(a1:(ByteArray×Unit)->Option Bool):Stp Int (Unit⊕Int)
 |v1=>(bif decide (v1<(a0.length:Int))then(bo a0 v1).bind λx1=>(a1 (x1,())).bind λr1=>(bif r1 then(some v1).map λa=> .inr (.inr a)else some (.inl (i64.wrap (v1+1))))else some (.inr (.inl ())))
def qK(a0:List ByteArray)(a1:(ByteArray×Unit)->Option Bool):Option Int:=
 dm (iter (G5 a0 a1) n (0:Int)) λ()=>some ((-1):Int)
def fQ(a0:List ByteArray)(a1:(ByteArray×Unit)->Option Bool):Option Bool:=
 (qK n a0 a1).bind λr1=>some (decide (r1>=0))
def ru(a0:aQ)(a1:List ByteArray):Option Bool:=
 (bif ((a0.zones.length:Int)==0)then(fQ n a0.except (λ (y1:ByteArray×Unit)=>j6 n y1.1 a1)).bind λr1=>some (!r1)else(fQ n a0.zones (λ (y2:ByteArray×Unit)=>j6 n y2.1 a1)).bind λr2=>(bif r2 then(fQ n a0.except (λ (y3:ByteArray×Unit)=>j6 n y3.1 a1)).bind λr3=>some (!r3)else some false))
def rV(a0:cK)(a1:List ByteArray)(a2:Int):Stp (Int×(List Int)) (List Int)
 |(v1,v2)=>(bif decide (v1<(a0.rules.length:Int))then((bo a0.rules v1).bind λx1=>((bif decide (x1.from_<=(a2:Int))then(bif (x1.cC==0)then(ru n x1 a1).bind λr1=>some r1 else(bif decide (a2<(x1.cC:Int))then(ru n x1 a1).bind λr2=>some r2 else some false))else some false)).bind λv3=>(bif v3 then ck (cu v2.length v2.length (sub ([v1]:List Int) 0 1).length 1 8)<|lI (v2++(sub ([v1]:List Int) 0 1)) λr3=>ck (bk r3.length r3.length)<|some r3 else ck (bk v2.length v2.length)<|some v2):Option ((List Int))).bind λv4=>ck (bk v4.length v4.length)<|some (.inl ((i64.wrap (v1+1)),v4))else ck (bk v2.length v2.length)<|some (.inr v2))
def uG(a0:cK)(a1:List ByteArray)(a2:Int):Option (List Int):=
 ck (bk 0 ([]:List Int).length)<|(iter (rV n a0 a1 a2) n ((0:Int),([]:List Int))).bind λw1=>ck (bk (sub w1 0 w1.length).length w1.length)<|some (sub w1 0 w1.length)
def yD(a0:List ay)(a1:Int)(a2:Int)(a3:(ay×ay×Unit)->Option Int):Option (List ay):=
 ni (λ x y=>a3 (x,y,())) (λ r=>decide (r<0)) n a0 a1 a2
def Fu(a0:List ay)(a1:Int)(a2:Int)(a3:Int)(a4:(ay×ay×Unit)->Option Int):Option (List ay):=
 tq (λ x y=>a4 (x,y,())) (λ r=>decide (r<0)) n a0 a1 a2 a3
def Fv(a0:List ay)(a1:Int)(a2:Int)(a3:(ay×ay×Unit)->Option Int):Option (List ay):=
 zV (λ x y=>a3 (x,y,())) (λ r=>decide (r<0)) n a0 a1 a2
def yE(a0:List ay)(a1:Int)(a2:Int)(a3:(ay×ay×Unit)->Option Int):Option (List ay):=
 kz bA bH n a0 a1 a2
def IE(a0:List ay)(a1:Int)(a2:Int)(a3:Int)(a4:(ay×ay×Unit)->Option Int):Option (Int×Int×Int):=
 Cx (λ x y=>a4 (x,y,())) (λ r=>decide (r<0)) a0 a1 a2 a3
def IG(a0:List ay)(a1:Int)(a2:Int)(a3:Int)(a4:Int)(a5:(ay×ay×Unit)->Option Int):Option (Int×Int):=
 za (λ x y=>a5 (x,y,())) (λ r=>decide (r<0)) a0 a1 a2 a3 a4
def xL(a0:List ay)(a1:Int)(a2:Int)(a3:(ay×ay×Unit)->Option Int):Option (Int×Int):=
 eH (λ x y=>a3 (x,y,())) (λ r=>decide (r<0)) a0 a1 a2
def AB(a0:List ay)(a1:Int)(a2:Int)(a3:(ay×ay×Unit)->Option Int):Option (Int×Int):=
 pY (λ x y=>a3 (x,y,())) (λ r=>decide (r<0)) a0 a1 a2
def zq(a0:List ay)(a1:Int)(a2:Int)(a3:(ay×ay×Unit)->Option Int):Option (List ay):=
 mF n a0 a1 a2
def rz(a0:List ay)(a1:Int)(a2:Int)(a3:(ay×ay×Unit)->Option Int):Option (Bool×(List ay)):=
 fC (λ x y=>a3 (x,y,())) (λ r=>decide (r<0)) n a0 a1 a2
def xM(a0:List ay)(a1:Int)(a2:Int)(a3:Int)(a4:(ay×ay×Unit)->Option Int):Option (Int×(List ay)):=
 jw (λ x y=>a4 (x,y,())) (λ r=>decide (r<0)) n a0 a1 a2 a3
def Dw(a0:List ay)(a1:Int)(a2:Int)(a3:Int)(a4:(ay×ay×Unit)->Option Int):Option (Int×Bool×(List ay)):=
 sF (λ x y=>a4 (x,y,())) (λ r=>decide (r<0)) n a0 a1 a2 a3
def iY(rc:((List ay))->(Int)->(Int)->(Int)->((ay×ay×Unit)->Option Int)->Option (List ay))(a0:List ay)(a1:Int)(a2:Int)(a3:Int)(a4:(ay×ay×Unit)->Option Int):Option (List ay):=
 kC (λ x y=>a4 (x,y,())) (λ r=>decide (r<0)) bA bH n (λ l a b d=>rc l a b d a4) a0 a1 a2 a3
def kU(rc:((List ay))->(Int)->(Int)->(Int)->((ay×ay×Unit)->Option Int)->Option (List ay)):bz xx:=⟨[.mut (.st SI.km),.d (.int .i64),.d (.int .i64),.d (.int .i64),.cV [(.st SI.km),(.st SI.km)] (.int .i64)],[.mu (.st SI.km)],λa=>rc a.1 a.2.1 a.2.2.1 a.2.2.2.1 a.2.2.2.2.1,none⟩
def d9(n:Nat):Nat->((List ay))->(Int)->(Int)->(Int)->((ay×ay×Unit)->Option Int)->Option (List ay)
 | 0=>λ_ _ _ _ _=>none
 |m+1=>iY n (d9 n m)
def nT(a0:List ay)(a1:Int)(a2:Int)(a3:Int)(a4:(ay×ay×Unit)->Option Int):Option (List ay):=d9 n n a0 a1 a2 a3 a4
def qg(a0:List ay)(a1:(ay×ay×Unit)->Option Int):Option (List ay):=
 (bits_Len (IntKind.u64.wrap (a0.length:Int))).bind λr1=>ck (bk a0.length a0.length)<|(nT n a0 0 (a0.length:Int) r1 a1).bind λr2=>some r2
def iM(a0:ay)(a1:ay):Option Int:=
 (cmp_Compare_int a0.y0 a1.y0).bind λr1=>some r1
def lq(a0:aF):Option Int:=
 ((bif a0.extra then some true else(gm a0).bind λr1=>some (!r1))).bind λv1=>(bif v1 then some (0:Int)else ck (3 !=0)<|some (i64.wrap (Int.tdiv (i64.wrap ((i64.wrap ((i64.wrap (a0.d5 -a0.er))+3)) -1)) 3)))
def oN(a0:aF):Option Int:=
 (gm a0).bind λr1=>(bif (!r1)then some (0:Int)else(AA (ay.mk a0.bx a0.b9 a0.bu a0.b8)).bind λr2=>(lq a0).bind λr3=>some (i64.wrap (r2*r3)))
def nU(a0:aF):Option Int:=
 some a0.d5
def oU(a0:aF):Option Int:=
 some a0.units
def Dx(a0:ay)(a1:Int):Option (ay×Bool):=
 (oW (ay.mk (i64.wrap (a0.x0 -a1)) (i64.wrap (a0.y0 -a1)) (i64.wrap (a0.x1+a1)) (i64.wrap (a0.y1+a1)))).bind λr1=>some ((ay.mk (i64.wrap (a0.x0 -a1)) (i64.wrap (a0.y0 -a1)) (i64.wrap (a0.x1+a1)) (i64.wrap (a0.y1+a1))),r1)
def kD(a0:bP)(a1:Lv)(a2:Int):Option Bool:=
 ck (b7 a2 6)<|(bo ([a1.a0,a1.a1,a1.a2,a1.a3,a1.a4,a1.a5]:List ByteArray) a2).bind λx1=>some (ByteArray.toList a0.name==ByteArray.toList x1)
def II(a0:List bP)(a1:(bP×Unit)->Option Bool):Stp Int (Unit⊕Int)
 |v1=>(bif decide (v1<(a0.length:Int))then(bo a0 v1).bind λx1=>(a1 (x1,())).bind λr1=>(bif r1 then(some v1).map λa=> .inr (.inr a)else some (.inl (i64.wrap (v1+1))))else some (.inr (.inl ())))
def kE(a0:List bP)(a1:(bP×Unit)->Option Bool):Option Int:=
 dm (iter (II a0 a1) n (0:Int)) λ()=>some ((-1):Int)
def kF(a0:cK)(a1:Int):Stp Int (Unit⊕Int)
 |v1=>(bif decide (v1<(a0.tables.length:Int))then(bo a0.tables v1).bind λx1=>(bif (!(ByteArray.toList x1.name==ByteArray.toList (⟨#[116,114,97,102,102,105,99]⟩)))then some (.inl (i64.wrap (v1+1)))else((kE n x1.rows (λ (y1:bP×Unit)=>kD y1.1 (Lv.mk (⟨#[104,111,109,101]⟩) (⟨#[115,104,111,112]⟩) (⟨#[119,111,114,107]⟩) (⟨#[112,97,114,107]⟩) (⟨#[112,108,97,110,116]⟩) (⟨#[104,97,108,108]⟩)) a1)).bind λr1=>(bif decide (r1>=0)then(bo x1.rows r1).bind λx2=>some x2.n else some x1.rj):Option Int).bind λv2=>(some (max (0:Int) (min v2 (1048576:Int)))).map λa=> .inr (.inr a))else some (.inr (.inl ())))
def CB(a0:cK)(a1:Int):Option Int:=
 dm (iter (kF n a0 a1) n (0:Int)) λ()=>some (0:Int)
def lu(a0:cK)(a1:aF):Option Int:=
 (CB n a0 a1.use).bind λr1=>(oN a1).bind λr2=>((bif decide (r1>0)then ck (r1 !=0)<|some (decide (r2>((i64.wrap (Int.tdiv 109951162777600 r1)):Int)))else some false)).bind λv1=>(bif v1 then some (1099511627776:Int)else ck (100 !=0)<|some (i64.wrap (Int.tdiv (i64.wrap ((i64.wrap ((i64.wrap (r1*r2))+100)) -1)) 100)))
def mW(a0:List fJ)(a1:List bW)(a2:List dW)(a3:List aQ)(a4:List ic)(a5:List fG)(a6:List bU)(a7:Int)(a8:List ay)(a9:List aF):Option (Int×gU):=
 (Pp n a8).bind λr1=>ck (bk a9.length a9.length)<|some (r1,a0,a1,a2,a3,a4,a5,a6,a7,a8,a9)
def gD(a9:List aF):Stp (Int×(List ay)×(List Int)) ((List ay)×(List Int))
 |(v1,v2,v3)=>(bif decide (v1<(a9.length:Int))then ck (b7 v1 a9.length)<|(bo a9 ((0:Nat)+v1:Int)).bind λx1=>ck (b7 v1 ((a9.length:Int).toNat))<|(bo v2 ((0:Nat)+v1:Int)).bind λx2=>ck (b7 v1 ((a9.length:Int).toNat))<|(bo (v2.set ((0:Nat)+v1:Int).toNat (ay.mk x1.bx x1.b9 x1.bu x1.b8)) ((0:Nat)+v1:Int)).bind λx3=>ck (b7 v1 ((a9.length:Int).toNat))<|(bo (v2.set ((0:Nat)+v1:Int).toNat (ay.mk x1.bx x1.b9 x1.bu x1.b8)) ((0:Nat)+v1:Int)).bind λx4=>ck (cu v3.length v3.length (sub ([x3.x0,x4.x1]:List Int) 0 2).length 2 8)<|lI (v3++(sub ([x3.x0,x4.x1]:List Int) 0 2)) λr1=>ck (bk r1.length r1.length)<|some (.inl ((i64.wrap (v1+1)),(v2.set ((0:Nat)+v1:Int).toNat (ay.mk x1.bx x1.b9 x1.bu x1.b8)),r1))else ck (bk v3.length v3.length)<|some (.inr (v2,v3)))
end
end Go.Proofs
