import Derived.Test.YtbdekfpclohfnaaGreatTBase
open Go.IntKind (i64)
namespace Go.Proofs
open Go.Gb Go.RowKit
noncomputable section
variable (n:Nat)
def QL:Option aU:=
 ck (bb (sub ([(ny.mk 0 1),(ny.mk 1 2)]:List ny) 0 2).length 2)<|some (aU.mk 3 (sub ([(ny.mk 0 1),(ny.mk 1 2)]:List ny) 0 2))
def sj(a0:aU):Stp Int (Unit⊕Bool)
 |v2=>(bif decide (v2<(a0.pairs.length:Int))then(bh a0.pairs v2).bind λx1=>((bif decide ((min x1.a0 x1.a1)<0)then some true else some (decide ((max x1.a0 x1.a1)>=(a0.values:Int))))).bind λv3=>(bif v3 then(some false).map λa=> .inr (.inr a)else some (.inl (i64.wrap (v2+1))))else some (.inr (.inl ())))
def uJ(a0:aU):Option Bool:=
 ((bif decide (a0.values<1)then some true else(bif decide (a0.values>12)then some true else some (decide ((a0.pairs.length:Int)>144))))).bind λv1=>(bif v1 then some false else dM (iter (sj a0) n (0:Int)) λ()=>some true)
def su(a0:aU):Stp (Int×(List Bool)) (List Bool)
 |(v1,v2)=>(bif decide (v1<(a0.pairs.length:Int))then(bh a0.pairs v1).bind λx1=>ck (br x1.a0 12)<|ck (br x1.a1 12)<|ck (decide ((0:Int)<=x1.a1)&&ja ((0+(x1.a0:Int).toNat*12)+(x1.a1:Int).toNat) 1 v2.length)<|some (.inl ((i64.wrap (v1+1)),(List.set v2 ((0+(x1.a0:Int).toNat*12)+(x1.a1:Int).toNat) true)))else some (.inr v2))
def uK(a0:aU):Option dP:=
 (iter (su a0) n ((0:Int),(List.replicate 144 false))).bind λw1=>(dK (sub w1 0 144)).bind λx2=>ck (bb x2.l.length 144&&ja 0 x2.l.length (List.replicate 144 false).length)<|(dK (sub (mY (List.replicate 144 false) 0 x2.l) 0 144)).bind λz1=>some z1
def sw(v2:List Bool)(x3:dP)(v3:Int)(v5:Int):Stp (Int×(List Bool)) (List Bool)
 |(v7,v8)=>(bif decide (v7<12)then(ck (br v3 12)<|ck (br v7 12)<|(nt v8 (0+(v3:Int).toNat*12) v7).bind λx4=>(bif x4 then ck (br v3 12)<|ck (br v7 12)<|ck (decide ((0:Int)<=v7)&&ja ((0+(v3:Int).toNat*12)+(v7:Int).toNat) 1 v8.length)<|some (List.set v8 ((0+(v3:Int).toNat*12)+(v7:Int).toNat) true)else ck (br v3 12)<|ck (br v5 12)<|(nt (mY v2 0 x3.l) (0+(v3:Int).toNat*12) v5).bind λx5=>(bif x5 then ck (br v5 12)<|ck (br v7 12)<|(nt (mY v2 0 x3.l) (0+(v5:Int).toNat*12) v7).bind λx6=>ck (br v3 12)<|ck (br v7 12)<|ck (decide ((0:Int)<=v7)&&ja ((0+(v3:Int).toNat*12)+(v7:Int).toNat) 1 v8.length)<|some (List.set v8 ((0+(v3:Int).toNat*12)+(v7:Int).toNat) x6)else ck (br v3 12)<|ck (br v7 12)<|ck (decide ((0:Int)<=v7)&&ja ((0+(v3:Int).toNat*12)+(v7:Int).toNat) 1 v8.length)<|some (List.set v8 ((0+(v3:Int).toNat*12)+(v7:Int).toNat) false))):Option ((List Bool))).bind λv9=>some (.inl ((i64.wrap (v7+1)),v9))else some (.inr v8))
def sD(v2:List Bool)(x3:dP)(v3:Int):Stp (Int×(List Bool)) (List Bool)
 |(v5,v6)=>(bif decide (v5<12)then(iter (sw v2 x3 v3 v5) n ((0:Int),v6)).bind λw1=>some (.inl ((i64.wrap (v5+1)),w1))else some (.inr v6))
def sF(v2:List Bool)(x3:dP):Stp (Int×(List Bool)) (List Bool)
 |(v3,v4)=>(bif decide (v3<12)then(iter (sD n v2 x3 v3) n ((0:Int),v4)).bind λw2=>some (.inl ((i64.wrap (v3+1)),w2))else some (.inr v4))
def zn:Stp ((List Bool)×(List Bool)) (List Bool)
 |(v1,v2)=>(dK (sub v2 0 144)).bind λx1=>(dK (sub v1 0 144)).bind λx2=>(bif (!(tD x1.l x2.l))then(dK (sub v1 0 144)).bind λx3=>ck (bb x3.l.length 144&&ja 0 x3.l.length v2.length)<|(iter (sF n v2 x3) n ((0:Int),v1)).bind λw3=>(dK (sub (mY v2 0 x3.l) 0 144)).bind λx7=>ck (bb x7.l.length 144&&ja 0 x7.l.length (List.replicate 144 false).length)<|some (.inl (w3,(mY (List.replicate 144 false) 0 x7.l)))else some (.inr v1))
def uL(a0:dP):Option dP:=
 ck (bb (List.replicate 144 false).length 144&&ja 0 (List.replicate 144 false).length (List.replicate 144 false).length)<|(iter (zn n) n (a0.l,(mY (List.replicate 144 false) 0 (List.replicate 144 false)))).bind λw4=>(dK (sub w4 0 144)).bind λx8=>ck (bb x8.l.length 144&&ja 0 x8.l.length (List.replicate 144 false).length)<|(dK (sub (mY (List.replicate 144 false) 0 x8.l) 0 144)).bind λz1=>some z1
def pX(r3:dP):Stp Int (Unit⊕(dP×Bool))
 |v1=>(bif decide (v1<12)then ck (br v1 12)<|ck (br v1 12)<|(nt (mY (List.replicate 144 false) 0 r3.l) (0+(v1:Int).toNat*12) v1).bind λx1=>(bif x1 then ck (bb (List.replicate 144 false).length 144&&ja 0 (List.replicate 144 false).length (List.replicate 144 false).length)<|((dK (sub (mY (List.replicate 144 false) 0 (List.replicate 144 false)) 0 144)).bind λz2=>some (z2,false)).map λa=> .inr (.inr a)else some (.inl (i64.wrap (v1+1))))else some (.inr (.inl ())))
def pY(a0:aU):Stp (Int×(List Bool)) (List Bool)
 |(v2,v3)=>(bif decide (v2<(a0.values:Int))then ck (br v2 12)<|ck (br v2 12)<|ck (decide ((0:Int)<=v2)&&ja ((0+(v2:Int).toNat*12)+(v2:Int).toNat) 1 v3.length)<|some (.inl ((i64.wrap (v2+1)),(List.set v3 ((0+(v2:Int).toNat*12)+(v2:Int).toNat) true)))else some (.inr v3))
def rD(a0:aU):Option (dP×Bool):=
 (uJ n a0).bind λr1=>(bif (!r1)then ck (bb (List.replicate 144 false).length 144&&ja 0 (List.replicate 144 false).length (List.replicate 144 false).length)<|(dK (sub (mY (List.replicate 144 false) 0 (List.replicate 144 false)) 0 144)).bind λz1=>some (z1,false)else(uK n a0).bind λr2=>(uL n r2).bind λr3=>ck (bb r3.l.length 144&&ja 0 r3.l.length (List.replicate 144 false).length)<|dM (iter (pX r3) n (0:Int)) λ()=>(iter (pY a0) n ((0:Int),(mY (List.replicate 144 false) 0 r3.l))).bind λw1=>(dK (sub w1 0 144)).bind λx2=>ck (bb x2.l.length 144&&ja 0 x2.l.length (List.replicate 144 false).length)<|(dK (sub (mY (List.replicate 144 false) 0 x2.l) 0 144)).bind λz3=>some (z3,true))
def sG(a0:List aU):Stp Int (Unit⊕Bool)
 |v1=>(bif decide (v1<(a0.length:Int))then(bh a0 v1).bind λx1=>(rD n x1).bind λr1=>ck (bb r1.1.l.length 144&&ja 0 r1.1.l.length (List.replicate 144 false).length)<|(bif (!r1.2)then(some false).map λa=> .inr (.inr a)else some (.inl (i64.wrap (v1+1))))else some (.inr (.inl ())))
def Ae(a0:List aU):Option Bool:=
 dM (iter (sG n a0) n (0:Int)) λ()=>some (decide ((a0.length:Int)<=12))
def Fa(a0:List ay):Option (List ay):=
 (bif a0.isEmpty then(both (some ([]:(List ay))) (ck (bD ([]:List ay).length 0 a0.length a0.length 32)<|fK (([]:List ay)++a0) λr1=>ck (bb (sub r1 0 r1.length).length r1.length)<|some (sub r1 0 r1.length)))else ck (bD ([]:List ay).length 0 a0.length a0.length 32)<|fK (([]:List ay)++a0) λr2=>ck (bb (sub r2 0 r2.length).length r2.length)<|some (sub r2 0 r2.length))
def nC(a0:List Int):Option (List Int):=
 (bif a0.isEmpty then(both (some ([]:(List Int))) (ck (bD ([]:List Int).length 0 a0.length a0.length 8)<|fK (([]:List Int)++a0) λr1=>ck (bb (sub r1 0 r1.length).length r1.length)<|some (sub r1 0 r1.length)))else ck (bD ([]:List Int).length 0 a0.length a0.length 8)<|fK (([]:List Int)++a0) λr2=>ck (bb (sub r2 0 r2.length).length r2.length)<|some (sub r2 0 r2.length))
def QM(a0:fU):Option fU:=
 (Fa a0.area).bind λr1=>(nC a0.from_).bind λr2=>ck (bb (sub r1 0 r1.length).length r1.length)<|ck (bb (sub r2 0 r2.length).length r2.length)<|some (fU.mk a0.id a0.owner (sub r1 0 r1.length) (sub r2 0 r2.length))
def IK(a0:List fU)(a1:Int):Stp Int (Unit⊕(fU×Bool))
 |v1=>(bif decide (v1<(a0.length:Int))then(bh a0 v1).bind λx1=>(bif (x1.id==(a1:Int))then(QM x1).bind λr1=>(some (r1,true)).map λa=> .inr (.inr a)else some (.inl (i64.wrap (v1+1))))else some (.inr (.inl ())))
def MW(a0:List fU)(a1:Int):Option (fU×Bool):=
 dM (iter (IK a0 a1) n (0:Int)) λ()=>some ((fU.mk 0 0 ([]) ([])),false)
def bits_Len64(a0:Int):Option Int:=
 ((bif decide (a0>=4294967296)then ck (decide (0<=32)&&decide (32<=IntKind.u64.bits))<|some ((a0/2 ^ (32:Int).toNat),(32:Int))else some (a0,(0:Int))):Option (Int×Int)).bind λ(v1,v2)=>((bif decide (v1>=65536)then ck (decide (0<=16)&&decide (16<=IntKind.u64.bits))<|some ((v1/2 ^ (16:Int).toNat),(i64.wrap (v2+16)))else some (v1,v2)):Option (Int×Int)).bind λ(v3,v4)=>((bif decide (v3>=256)then ck (decide (0<=8)&&decide (8<=IntKind.u64.bits))<|some ((v3/2 ^ (8:Int).toNat),(i64.wrap (v4+8)))else some (v3,v4)):Option (Int×Int)).bind λ(v5,v6)=>(A6 (⟨#[0,1,2,2,3,3,3,3,4,4,4,4,4,4,4,4,5,5,5,5,5,5,5,5,5,5,5,5,5,5,5,5,6,6,6,6,6,6,6,6,6,6,6,6,6,6,6,6,6,6,6,6,6,6,6,6,6,6,6,6,6,6,6,6,7,7,7,7,7,7,7,7,7,7,7,7,7,7,7,7,7,7,7,7,7,7,7,7,7,7,7,7,7,7,7,7,7,7,7,7,7,7,7,7,7,7,7,7,7,7,7,7,7,7,7,7,7,7,7,7,7,7,7,7,7,7,7,7,8,8,8,8,8,8,8,8,8,8,8,8,8,8,8,8,8,8,8,8,8,8,8,8,8,8,8,8,8,8,8,8,8,8,8,8,8,8,8,8,8,8,8,8,8,8,8,8,8,8,8,8,8,8,8,8,8,8,8,8,8,8,8,8,8,8,8,8,8,8,8,8,8,8,8,8,8,8,8,8,8,8,8,8,8,8,8,8,8,8,8,8,8,8,8,8,8,8,8,8,8,8,8,8,8,8,8,8,8,8,8,8,8,8,8,8,8,8,8,8,8,8,8,8,8,8,8,8]⟩) (IntKind.u8.wrap v5)).bind λx1=>some (i64.wrap (v6+(i64.wrap x1)))
def bits_Len(a0:Int):Option Int:=
 (bits_Len64 a0).bind λr1=>some r1
def cmp_isNaN_string(a0:ByteArray):Option Bool:=
 some (!(ByteArray.toList a0==ByteArray.toList a0))
def cmp_Less_string(a0:ByteArray)(a1:ByteArray):Option Bool:=
 (cmp_isNaN_string a0).bind λr1=>(bif r1 then(cmp_isNaN_string a1).bind λr2=>(bif (!r2)then some true else some (D8 a0 a1))else some (D8 a0 a1))
def wQ(a0:List ByteArray)(a1:Int)(a2:Int):Option (List ByteArray):=
 kg cmp_Less_string (λ r=>r) n a0 a1 a2
def CV(a0:List ByteArray)(a1:Int)(a2:Int)(a3:Int):Option (List ByteArray):=
 pW cmp_Less_string (λ r=>r) n a0 a1 a2 a3
def CW(a0:List ByteArray)(a1:Int)(a2:Int):Option (List ByteArray):=
 wO cmp_Less_string (λ r=>r) n a0 a1 a2
def aY(a0:Int):Option Int:=
 (bits_Len (IntKind.u64.wrap a0)).bind λr1=>ck (decide (0<=r1)&&decide (r1<=IntKind.u64.bits))<|some (IntKind.u64.wrap (1*2 ^ (r1:Int).toNat))
def bg(a0:Int):Option (Int×Int):=
 ck (decide (0<=13)&&decide (13<=IntKind.u64.bits))<|ck (decide (0<=7)&&decide (7<=IntKind.u64.bits))<|ck (decide (0<=17)&&decide (17<=IntKind.u64.bits))<|some ((bits .xor .u64 (bits .xor .u64 (bits .xor .u64 a0 (IntKind.u64.wrap (a0*2 ^ (13:Int).toNat))) ((bits .xor .u64 a0 (IntKind.u64.wrap (a0*2 ^ (13:Int).toNat)))/2 ^ (7:Int).toNat)) (IntKind.u64.wrap ((bits .xor .u64 (bits .xor .u64 a0 (IntKind.u64.wrap (a0*2 ^ (13:Int).toNat))) ((bits .xor .u64 a0 (IntKind.u64.wrap (a0*2 ^ (13:Int).toNat)))/2 ^ (7:Int).toNat))*2 ^ (17:Int).toNat))),(bits .xor .u64 (bits .xor .u64 (bits .xor .u64 a0 (IntKind.u64.wrap (a0*2 ^ (13:Int).toNat))) ((bits .xor .u64 a0 (IntKind.u64.wrap (a0*2 ^ (13:Int).toNat)))/2 ^ (7:Int).toNat)) (IntKind.u64.wrap ((bits .xor .u64 (bits .xor .u64 a0 (IntKind.u64.wrap (a0*2 ^ (13:Int).toNat))) ((bits .xor .u64 a0 (IntKind.u64.wrap (a0*2 ^ (13:Int).toNat)))/2 ^ (7:Int).toNat))*2 ^ (17:Int).toNat))))
def wR(a0:List ByteArray)(a1:Int)(a2:Int):Option (List ByteArray):=
 jo aY bg n a0 a1 a2
def Gm(a0:List ByteArray)(a1:Int)(a2:Int)(a3:Int):Option (Int×Int×Int):=
 Ad cmp_Less_string (λ r=>r) a0 a1 a2 a3
def Gn(a0:List ByteArray)(a1:Int)(a2:Int)(a3:Int)(a4:Int):Option (Int×Int):=
 xO cmp_Less_string (λ r=>r) a0 a1 a2 a3 a4
def vP(a0:List ByteArray)(a1:Int)(a2:Int):Option (Int×Int):=
 d9 cmp_Less_string (λ r=>r) a0 a1 a2
def zo(a0:List ByteArray)(a1:Int)(a2:Int):Option (Int×Int):=
 ni cmp_Less_string (λ r=>r) a0 a1 a2
def yE(a0:List ByteArray)(a1:Int)(a2:Int):Option (List ByteArray):=
 jU n a0 a1 a2
def p8(a0:List ByteArray)(a1:Int)(a2:Int):Option (Bool×(List ByteArray)):=
 fw cmp_Less_string (λ r=>r) n a0 a1 a2
def vQ(a0:List ByteArray)(a1:Int)(a2:Int)(a3:Int):Option (Int×(List ByteArray)):=
 iP cmp_Less_string (λ r=>r) n a0 a1 a2 a3
def BG(a0:List ByteArray)(a1:Int)(a2:Int)(a3:Int):Option (Int×Bool×(List ByteArray)):=
 o8 cmp_Less_string (λ r=>r) n a0 a1 a2 a3
def ko(rc:((List ByteArray))->(Int)->(Int)->(Int)->Option (List ByteArray))(a0:List ByteArray)(a1:Int)(a2:Int)(a3:Int):Option (List ByteArray):=
 jc cmp_Less_string (λ r=>r) aY bg n rc a0 a1 a2 a3
def jL(rc:((List ByteArray))->(Int)->(Int)->(Int)->Option (List ByteArray)):bt xx:=⟨[.mut .str,.d (.int .i64),.d (.int .i64),.d (.int .i64)],[.mu .str],λa=>rc a.1 a.2.1 a.2.2.1 a.2.2.2.1,none⟩
def fM(n:Nat):Nat->((List ByteArray))->(Int)->(Int)->(Int)->Option (List ByteArray)
 | 0=>λ_ _ _ _=>none
 |m+1=>ko n (fM n m)
def lX(a0:List ByteArray)(a1:Int)(a2:Int)(a3:Int):Option (List ByteArray):=fM n n a0 a1 a2 a3
def uM(a0:List ByteArray):Option (List ByteArray):=
 (bits_Len (IntKind.u64.wrap (a0.length:Int))).bind λr1=>ck (bb a0.length a0.length)<|(lX n a0 0 (a0.length:Int) r1).bind λr2=>some r2
def LC(a0:List ByteArray)(v1:Int):Stp (Int×Int×(List ByteArray)) (Int×(List ByteArray))
 |(v2,v3,v4)=>(bif (decide (v3<((((a0.length -(v1:Int).toNat):Nat):Int):Int)))then(ck (br v3 (a0.length -(v1:Int).toNat))<|(bh v4 (((0+(v1:Int).toNat):Nat)+v3:Int)).bind λx3=>ck (br (i64.wrap (v3 -1)) (a0.length -(v1:Int).toNat))<|(bh v4 (((0+(v1:Int).toNat):Nat)+(i64.wrap (v3 -1)):Int)).bind λx4=>(bif (!(ByteArray.toList x3==ByteArray.toList x4))then ck (br v3 (a0.length -(v1:Int).toNat))<|(bh v4 (((0+(v1:Int).toNat):Nat)+v3:Int)).bind λx5=>ck (br v2 a0.length)<|(bh v4 ((0:Nat)+v2:Int)).bind λx6=>some ((i64.wrap (v2+1)),(v4.set ((0:Nat)+v2:Int).toNat x5))else some (v2,v4)):Option (Int×(List ByteArray))).bind λ(v5,v6)=>some (.inl (v5,(i64.wrap (v3+1)),v6))else some (.inr (v2,v4)))
def LD(a0:List ByteArray):Stp Int (Unit⊕(Unit×(List ByteArray)))
 |v1=>(bif decide (v1<(a0.length:Int))then ck (br v1 a0.length)<|(bh a0 ((0:Nat)+v1:Int)).bind λx1=>ck (br (i64.wrap (v1 -1)) a0.length)<|(bh a0 ((0:Nat)+(i64.wrap (v1 -1)):Int)).bind λx2=>(bif (ByteArray.toList x1==ByteArray.toList x2)then ck (q8 v1 (a0.length:Int) a0.length)<|(iter (LC a0 v1) n (v1,(1:Int),a0)).bind λ(w1,w2)=>ck (q8 w1 (a0.length:Int) a0.length)<|ck (q8 0 w1 a0.length)<|(ck (bb ((w1:Int).toNat) ((w1:Int).toNat))<|ck (bb (sub (w2.take (0+(w1:Int).toNat)) 0 ((w1:Int).toNat)).length ((w1:Int).toNat))<|some ((),(sub (w2.take (0+(w1:Int).toNat)) 0 ((w1:Int).toNat)))).map λa=> .inr (.inr a)else some (.inl (i64.wrap (v1+1))))else some (.inr (.inl ())))
def oH(a0:List ByteArray):Option (Unit×(List ByteArray)):=
 (bif decide ((a0.length:Int)<2)then ck (bb a0.length a0.length)<|ck (bb (sub a0 0 a0.length).length a0.length)<|some ((),(sub a0 0 a0.length))else dM (iter (LD n a0) n (1:Int)) λ()=>ck (bb a0.length a0.length)<|ck (bb (sub a0 0 a0.length).length a0.length)<|some ((),(sub a0 0 a0.length)))
def qK(a0:List ByteArray):Option (List ByteArray):=
 some a0
def o9(a0:List ByteArray):Option ((List ByteArray)×(List ByteArray)):=
 (AG a0).bind λr1=>ck (bb r1.2.length r1.2.length)<|some (r1.1,r1.2)
def qL(a0:List ByteArray):Option ((List ByteArray)×(List ByteArray)):=
 (o9 a0).bind λr1=>ck (bb r1.2.length r1.2.length)<|(uM n r1.2).bind λr2=>ck (bb r1.2.length r2.length)<|some (r1.1,r2)
def l9(a0:List ByteArray):Option Int:=
 (qK a0).bind λr1=>(qL n r1).bind λr2=>ck (bb r2.2.length r2.2.length)<|(oH n r2.2).bind λr3=>some (r3.2.length:Int)
def uN(a0:ay):Option Bool:=
 (bif decide (0<=(a0.x0:Int))then(bif decide (a0.x0<(a0.x1:Int))then(bif decide (a0.x1<=1048576)then(bif decide (0<=(a0.y0:Int))then(bif decide (a0.y0<(a0.y1:Int))then some (decide (a0.y1<=1048576))else some false)else some false)else some false)else some false)else some false)
def QN(a0:Unit)(a1:Int):Option (List ay):=
 (bif decide (a1<0)then none else(bif (decide ((i64.wrap (a1 -(i64.wrap (0 -0))))>0))then ck (J9 (i64.wrap (a1 -(i64.wrap (0 -0)))) 32)<|ck (q8 0 0 ((i64.wrap (a1 -(i64.wrap (0 -0)))).toNat))<|ck (bb (sub (List.replicate (i64.wrap (a1 -(i64.wrap (0 -0)))).toNat (ay.mk 0 0 0 0)) 0 0).length 0)<|some (sub (List.replicate (i64.wrap (a1 -(i64.wrap (0 -0)))).toNat (ay.mk 0 0 0 0)) 0 0)else some ([]:(List ay))))
def QO(a0:List (List ay)):Stp (Int×Int) Int
 |(v1,v2)=>(bif decide (v2<(a0.length:Int))then(bh a0 v2).bind λx1=>(bif decide ((i64.wrap (v1+(x1.length:Int)))<0)then none else some (.inl ((i64.wrap (v1+(x1.length:Int))),(i64.wrap (v2+1)))))else some (.inr v1))
def QR(a0:List (List ay)):Stp (Int×(List ay)) (List ay)
 |(v3,v4)=>(bif decide (v3<(a0.length:Int))then(bh a0 v3).bind λx2=>ck (bD v4.length v4.length x2.length x2.length 32)<|fK (v4++x2) λr2=>ck (bb r2.length r2.length)<|some (.inl ((i64.wrap (v3+1)),r2))else ck (bb v4.length v4.length)<|some (.inr v4))
def BH(a0:List (List ay)):Option (List ay):=
 (iter (QO a0) n ((0:Int),(0:Int))).bind λw1=>(QN () w1).bind λr1=>ck (bb r1.length r1.length)<|(iter (QR a0) n ((0:Int),r1)).bind λw2=>ck (bb (sub w2 0 w2.length).length w2.length)<|some (sub w2 0 w2.length)
def cmp_isNaN_int(a0:Int):Option Bool:=
 some (a0 !=(a0:Int))
def cmp_Less_int(a0:Int)(a1:Int):Option Bool:=
 (cmp_isNaN_int a0).bind λr1=>(bif r1 then(cmp_isNaN_int a1).bind λr2=>(bif (!r2)then some true else some (decide (a0<(a1:Int))))else some (decide (a0<(a1:Int))))
def Af(a0:List Int)(a1:Int)(a2:Int):Option (List Int):=
 kg cmp_Less_int (λ r=>r) n a0 a1 a2
def IL(a0:List Int)(a1:Int)(a2:Int)(a3:Int):Option (List Int):=
 pW cmp_Less_int (λ r=>r) n a0 a1 a2 a3
def IQ(a0:List Int)(a1:Int)(a2:Int):Option (List Int):=
 wO cmp_Less_int (λ r=>r) n a0 a1 a2
def Ag(a0:List Int)(a1:Int)(a2:Int):Option (List Int):=
 jo aY bg n a0 a1 a2
def LF(a0:List Int)(a1:Int)(a2:Int)(a3:Int):Option (Int×Int×Int):=
 Ad cmp_Less_int (λ r=>r) a0 a1 a2 a3
def LG(a0:List Int)(a1:Int)(a2:Int)(a3:Int)(a4:Int):Option (Int×Int):=
 xO cmp_Less_int (λ r=>r) a0 a1 a2 a3 a4
def zq(a0:List Int)(a1:Int)(a2:Int):Option (Int×Int):=
 d9 cmp_Less_int (λ r=>r) a0 a1 a2
def CX(a0:List Int)(a1:Int)(a2:Int):Option (Int×Int):=
 ni cmp_Less_int (λ r=>r) a0 a1 a2
def BI(a0:List Int)(a1:Int)(a2:Int):Option (List Int):=
 jU n a0 a1 a2
def sV(a0:List Int)(a1:Int)(a2:Int):Option (Bool×(List Int)):=
 fw cmp_Less_int (λ r=>r) n a0 a1 a2
def zu(a0:List Int)(a1:Int)(a2:Int)(a3:Int):Option (Int×(List Int)):=
 iP cmp_Less_int (λ r=>r) n a0 a1 a2 a3
def Gp(a0:List Int)(a1:Int)(a2:Int)(a3:Int):Option (Int×Bool×(List Int)):=
 o8 cmp_Less_int (λ r=>r) n a0 a1 a2 a3
def mI(rc:((List Int))->(Int)->(Int)->(Int)->Option (List Int))(a0:List Int)(a1:Int)(a2:Int)(a3:Int):Option (List Int):=
 jc cmp_Less_int (λ r=>r) aY bg n rc a0 a1 a2 a3
def lY(rc:((List Int))->(Int)->(Int)->(Int)->Option (List Int)):bt xx:=⟨[.mut (.int .i64),.d (.int .i64),.d (.int .i64),.d (.int .i64)],[.mu (.int .i64)],λa=>rc a.1 a.2.1 a.2.2.1 a.2.2.2.1,none⟩
def gV(n:Nat):Nat->((List Int))->(Int)->(Int)->(Int)->Option (List Int)
 | 0=>λ_ _ _ _=>none
 |m+1=>mI n (gV n m)
def oD(a0:List Int)(a1:Int)(a2:Int)(a3:Int):Option (List Int):=gV n n a0 a1 a2 a3
def tV(a0:List Int):Option (List Int):=
 (bits_Len (IntKind.u64.wrap (a0.length:Int))).bind λr1=>ck (bb a0.length a0.length)<|(oD n a0 0 (a0.length:Int) r1).bind λr2=>some r2
def QS(a0:List Int)(v1:Int):Stp (Int×Int×(List Int)) (Int×(List Int))
 |(v2,v3,v4)=>(bif (decide (v3<((((a0.length -(v1:Int).toNat):Nat):Int):Int)))then(ck (br v3 (a0.length -(v1:Int).toNat))<|(bh v4 (((0+(v1:Int).toNat):Nat)+v3:Int)).bind λx3=>ck (br (i64.wrap (v3 -1)) (a0.length -(v1:Int).toNat))<|(bh v4 (((0+(v1:Int).toNat):Nat)+(i64.wrap (v3 -1)):Int)).bind λx4=>(bif (x3 !=(x4:Int))then ck (br v3 (a0.length -(v1:Int).toNat))<|(bh v4 (((0+(v1:Int).toNat):Nat)+v3:Int)).bind λx5=>ck (br v2 a0.length)<|(bh v4 ((0:Nat)+v2:Int)).bind λx6=>some ((i64.wrap (v2+1)),(v4.set ((0:Nat)+v2:Int).toNat x5))else some (v2,v4)):Option (Int×(List Int))).bind λ(v5,v6)=>some (.inl (v5,(i64.wrap (v3+1)),v6))else some (.inr (v2,v4)))
def QT(a0:List Int):Stp Int (Unit⊕(Unit×(List Int)))
 |v1=>(bif decide (v1<(a0.length:Int))then ck (br v1 a0.length)<|(bh a0 ((0:Nat)+v1:Int)).bind λx1=>ck (br (i64.wrap (v1 -1)) a0.length)<|(bh a0 ((0:Nat)+(i64.wrap (v1 -1)):Int)).bind λx2=>(bif (x1==(x2:Int))then ck (q8 v1 (a0.length:Int) a0.length)<|(iter (QS a0 v1) n (v1,(1:Int),a0)).bind λ(w1,w2)=>ck (q8 w1 (a0.length:Int) a0.length)<|ck (q8 0 w1 a0.length)<|(ck (bb ((w1:Int).toNat) ((w1:Int).toNat))<|ck (bb (sub (w2.take (0+(w1:Int).toNat)) 0 ((w1:Int).toNat)).length ((w1:Int).toNat))<|some ((),(sub (w2.take (0+(w1:Int).toNat)) 0 ((w1:Int).toNat)))).map λa=> .inr (.inr a)else some (.inl (i64.wrap (v1+1))))else some (.inr (.inl ())))
def uO(a0:List Int):Option (Unit×(List Int)):=
 (bif decide ((a0.length:Int)<2)then ck (bb a0.length a0.length)<|ck (bb (sub a0 0 a0.length).length a0.length)<|some ((),(sub a0 0 a0.length))else dM (iter (QT n a0) n (1:Int)) λ()=>ck (bb a0.length a0.length)<|ck (bb (sub a0 0 a0.length).length a0.length)<|some ((),(sub a0 0 a0.length)))
def zw(a0:List aJ)(a1:Int)(a2:Int)(a3:(aJ×aJ×Unit)->Option Int):Option (List aJ):=
 kg (λ x y=>a3 (x,y,())) (λ r=>decide (r<0)) n a0 a1 a2
def Gq(a0:List aJ)(a1:Int)(a2:Int)(a3:Int)(a4:(aJ×aJ×Unit)->Option Int):Option (List aJ):=
 pW (λ x y=>a4 (x,y,())) (λ r=>decide (r<0)) n a0 a1 a2 a3
def Gr(a0:List aJ)(a1:Int)(a2:Int)(a3:(aJ×aJ×Unit)->Option Int):Option (List aJ):=
 wO (λ x y=>a3 (x,y,())) (λ r=>decide (r<0)) n a0 a1 a2
def zx(a0:List aJ)(a1:Int)(a2:Int)(a3:(aJ×aJ×Unit)->Option Int):Option (List aJ):=
 jo aY bg n a0 a1 a2
def Ka(a0:List aJ)(a1:Int)(a2:Int)(a3:Int)(a4:(aJ×aJ×Unit)->Option Int):Option (Int×Int×Int):=
 Ad (λ x y=>a4 (x,y,())) (λ r=>decide (r<0)) a0 a1 a2 a3
def Kb(a0:List aJ)(a1:Int)(a2:Int)(a3:Int)(a4:Int)(a5:(aJ×aJ×Unit)->Option Int):Option (Int×Int):=
 xO (λ x y=>a5 (x,y,())) (λ r=>decide (r<0)) a0 a1 a2 a3 a4
def yF(a0:List aJ)(a1:Int)(a2:Int)(a3:(aJ×aJ×Unit)->Option Int):Option (Int×Int):=
 d9 (λ x y=>a3 (x,y,())) (λ r=>decide (r<0)) a0 a1 a2
def BJ(a0:List aJ)(a1:Int)(a2:Int)(a3:(aJ×aJ×Unit)->Option Int):Option (Int×Int):=
 ni (λ x y=>a3 (x,y,())) (λ r=>decide (r<0)) a0 a1 a2
def Ah(a0:List aJ)(a1:Int)(a2:Int)(a3:(aJ×aJ×Unit)->Option Int):Option (List aJ):=
 jU n a0 a1 a2
def rE(a0:List aJ)(a1:Int)(a2:Int)(a3:(aJ×aJ×Unit)->Option Int):Option (Bool×(List aJ)):=
 fw (λ x y=>a3 (x,y,())) (λ r=>decide (r<0)) n a0 a1 a2
def yG(a0:List aJ)(a1:Int)(a2:Int)(a3:Int)(a4:(aJ×aJ×Unit)->Option Int):Option (Int×(List aJ)):=
 iP (λ x y=>a4 (x,y,())) (λ r=>decide (r<0)) n a0 a1 a2 a3
def Fb(a0:List aJ)(a1:Int)(a2:Int)(a3:Int)(a4:(aJ×aJ×Unit)->Option Int):Option (Int×Bool×(List aJ)):=
 o8 (λ x y=>a4 (x,y,())) (λ r=>decide (r<0)) n a0 a1 a2 a3
def jg(rc:((List aJ))->(Int)->(Int)->(Int)->((aJ×aJ×Unit)->Option Int)->Option (List aJ))(a0:List aJ)(a1:Int)(a2:Int)(a3:Int)(a4:(aJ×aJ×Unit)->Option Int):Option (List aJ):=
 jc (λ x y=>a4 (x,y,())) (λ r=>decide (r<0)) aY bg n (λ l a b d=>rc l a b d a4) a0 a1 a2 a3
def kL(rc:((List aJ))->(Int)->(Int)->(Int)->((aJ×aJ×Unit)->Option Int)->Option (List aJ)):bt xx:=⟨[.mut (.st SI.span),.d (.int .i64),.d (.int .i64),.d (.int .i64),.c6 [(.st SI.span),(.st SI.span)] (.int .i64)],[.mu (.st SI.span)],λa=>rc a.1 a.2.1 a.2.2.1 a.2.2.2.1 a.2.2.2.2.1,none⟩
def eT(n:Nat):Nat->((List aJ))->(Int)->(Int)->(Int)->((aJ×aJ×Unit)->Option Int)->Option (List aJ)
 | 0=>λ_ _ _ _ _=>none
 |m+1=>jg n (eT n m)
def nD(a0:List aJ)(a1:Int)(a2:Int)(a3:Int)(a4:(aJ×aJ×Unit)->Option Int):Option (List aJ):=eT n n a0 a1 a2 a3 a4
def p9(a0:List aJ)(a1:(aJ×aJ×Unit)->Option Int):Option (List aJ):=
 (bits_Len (IntKind.u64.wrap (a0.length:Int))).bind λr1=>ck (bb a0.length a0.length)<|(nD n a0 0 (a0.length:Int) r1 a1).bind λr2=>some r2
def cmp_Compare_int(a0:Int)(a1:Int):Option Int:=
 (cmp_isNaN_int a0).bind λr1=>(cmp_isNaN_int a1).bind λr2=>(bif r1 then(bif r2 then some (0:Int)else some ((-1):Int))else(bif r2 then some (1:Int)else(bif decide (a0<(a1:Int))then some ((-1):Int)else(bif decide (a0>(a1:Int))then some (1:Int)else some (0:Int)))))
def Ai(a0:aJ)(a1:aJ):Option Int:=
 (cmp_Compare_int a0.from_ a1.from_).bind λr1=>some r1
def uP(a0:List ay)(a1:Int):Stp (Int×(List aJ)) (List aJ)
 |(v1,v2)=>(bif decide (v1<(a0.length:Int))then((bh a0 v1).bind λx1=>((bif decide (x1.x0<=(a1:Int))then some (decide (a1<(x1.x1:Int)))else some false)).bind λv3=>(bif v3 then ck (bD v2.length v2.length (sub ([(aJ.mk x1.y0 x1.y1)]:List aJ) 0 1).length 1 16)<|fK (v2++(sub ([(aJ.mk x1.y0 x1.y1)]:List aJ) 0 1)) λr1=>ck (bb r1.length r1.length)<|some r1 else ck (bb v2.length v2.length)<|some v2):Option ((List aJ))).bind λv4=>ck (bb v4.length v4.length)<|some (.inl ((i64.wrap (v1+1)),v4))else ck (bb v2.length v2.length)<|some (.inr v2))
def uQ(w1:List aJ)(r2:List aJ):Stp (Int×(List aJ)) (List aJ)
 |(v5,v6)=>(bif decide (v5<(w1.length:Int))then(ck (br v5 w1.length)<|(bh r2 ((0:Nat)+v5:Int)).bind λx2=>((bif decide ((v6.length:Int)>0)then ck (br (i64.wrap ((v6.length:Int) -1)) v6.length)<|(bh v6 ((0:Nat)+(i64.wrap ((v6.length:Int) -1)):Int)).bind λx3=>some (decide (x2.from_<=(x3.to:Int)))else some false)).bind λv7=>(bif v7 then ck (br (i64.wrap ((v6.length:Int) -1)) v6.length)<|(bh v6 ((0:Nat)+(i64.wrap ((v6.length:Int) -1)):Int)).bind λx4=>ck (br (i64.wrap ((v6.length:Int) -1)) v6.length)<|(bh v6 ((0:Nat)+(i64.wrap ((v6.length:Int) -1)):Int)).bind λx5=>ck (bb v6.length (v6.set ((0:Nat)+(i64.wrap ((v6.length:Int) -1)):Int).toNat (aJ.mk x5.from_ (max x4.to x2.to))).length)<|some (v6.set ((0:Nat)+(i64.wrap ((v6.length:Int) -1)):Int).toNat (aJ.mk x5.from_ (max x4.to x2.to)))else ck (bD v6.length v6.length (sub ([x2]:List aJ) 0 1).length 1 16)<|fK (v6++(sub ([x2]:List aJ) 0 1)) λr3=>ck (bb r3.length r3.length)<|some r3):Option ((List aJ))).bind λv8=>ck (bb v8.length v8.length)<|some (.inl ((i64.wrap (v5+1)),v8))else ck (bb v6.length v6.length)<|some (.inr v6))
def MX(a0:List ay)(a1:Int):Option (List aJ):=
 ck (bb 0 ([]:List aJ).length)<|(iter (uP a0 a1) n ((0:Int),([]:List aJ))).bind λw1=>ck (bb w1.length w1.length)<|(p9 n w1 (λ (y1:aJ×aJ×Unit)=>Ai y1.1 y1.2.1)).bind λr2=>ck (bb 0 ([]:List aJ).length)<|(iter (uQ w1 r2) n ((0:Int),([]:List aJ))).bind λw2=>ck (bb (sub w2 0 w2.length).length w2.length)<|some (sub w2 0 w2.length)
def uR(r1:List ay):Stp (Int×(List Int)) (List Int)
 |(v1,v2)=>(bif decide (v1<(r1.length:Int))then ck (br v1 r1.length)<|(bh r1 ((0:Nat)+v1:Int)).bind λx1=>ck (bD v2.length v2.length (sub ([x1.x0,x1.x1]:List Int) 0 2).length 2 8)<|fK (v2++(sub ([x1.x0,x1.x1]:List Int) 0 2)) λr2=>ck (bb r2.length r2.length)<|some (.inl ((i64.wrap (v1+1)),r2))else ck (bb v2.length v2.length)<|some (.inr v2))
def uS(r1:List ay)(r4:Unit×(List Int)):Stp (Int×(List bF)) (List bF)
 |(v3,v4)=>(bif decide (v3<(r4.2.length:Int))then ck (br (i64.wrap (v3 -1)) r4.2.length)<|(bh r4.2 ((0:Nat)+(i64.wrap (v3 -1)):Int)).bind λx2=>ck (br v3 r4.2.length)<|(bh r4.2 ((0:Nat)+v3:Int)).bind λx3=>ck (br (i64.wrap (v3 -1)) r4.2.length)<|(bh r4.2 ((0:Nat)+(i64.wrap (v3 -1)):Int)).bind λx4=>ck (bb (sub r1 0 r1.length).length r1.length)<|(MX n (sub r1 0 r1.length) x4).bind λr5=>ck (bb (sub r5 0 r5.length).length r5.length)<|ck (bD v4.length v4.length (sub ([(bF.mk x2 x3 (sub r5 0 r5.length))]:List bF) 0 1).length 1 40)<|fK (v4++(sub ([(bF.mk x2 x3 (sub r5 0 r5.length))]:List bF) 0 1)) λr6=>ck (bb r6.length r6.length)<|some (.inl ((i64.wrap (v3+1)),r6))else ck (bb v4.length v4.length)<|some (.inr v4))
def MZ(a0:List (List ay)):Option (List bF):=
 (BH n a0).bind λr1=>ck (bb 0 ([]:List Int).length)<|(iter (uR r1) n ((0:Int),([]:List Int))).bind λw1=>ck (bb w1.length w1.length)<|(tV n w1).bind λr3=>ck (bb w1.length r3.length)<|(uO n r3).bind λr4=>ck (bb 0 ([]:List bF).length)<|(iter (uS n r1 r4) n ((1:Int),([]:List bF))).bind λw2=>ck (bb (sub w2 0 w2.length).length w2.length)<|some (sub w2 0 w2.length)
def Tz(a0:List aJ)(a1:List aJ):Stp Int (Unit⊕Bool)
 |v1=>(bif decide (v1<(a0.length:Int))then(bh a0 v1).bind λx1=>(bh a1 v1).bind λx2=>(bif (!((x1.from_==(x2.from_:Int))&&((x1.to==(x2.to:Int))&&true)))then(some false).map λa=> .inr (.inr a)else some (.inl (i64.wrap (v1+1))))else some (.inr (.inl ())))
def xP(a0:List aJ)(a1:List aJ):Option Bool:=
 (bif ((a0.length:Int) !=(a1.length:Int))then some false else dM (iter (Tz a0 a1) n (0:Int)) λ()=>some true)
def tX(a0:List bF)(v1:Int):Stp Int Int
 |v3=>((bif decide (v3<(a0.length:Int))then(bh a0 v3).bind λx1=>(bh a0 v1).bind λx2=>(xP n x1.column x2.column).bind λr1=>some r1 else some false)).bind λv4=>(bif v4 then some (.inl (i64.wrap (v3+1)))else some (.inr v3))
def yH(a0:List bF)(v1:Int)(w1:Int)(x3:bF):Stp (Int×(List ay)) (List ay)
 |(v5,v6)=>(bif decide (v5<(x3.column.length:Int))then(bh x3.column v5).bind λx4=>(bh a0 v1).bind λx5=>(bh a0 (i64.wrap (w1 -1))).bind λx6=>ck (bD v6.length v6.length (sub ([(ay.mk x5.x0 x4.from_ x6.x1 x4.to)]:List ay) 0 1).length 1 32)<|fK (v6++(sub ([(ay.mk x5.x0 x4.from_ x6.x1 x4.to)]:List ay) 0 1)) λr2=>ck (bb r2.length r2.length)<|some (.inl ((i64.wrap (v5+1)),r2))else ck (bb v6.length v6.length)<|some (.inr v6))
def yI(a0:List bF):Stp (Int×(List ay)) (List ay)
 |(v1,v2)=>(bif decide (v1<(a0.length:Int))then(iter (tX n a0 v1) n (i64.wrap (v1+1))).bind λw1=>(bh a0 v1).bind λx3=>ck (bb v2.length v2.length)<|(iter (yH a0 v1 w1 x3) n ((0:Int),v2)).bind λw2=>ck (bb w2.length w2.length)<|some (.inl (w1,w2))else ck (bb v2.length v2.length)<|some (.inr v2))
def QU(a0:List bF):Option (List ay):=
 ck (bb 0 ([]:List ay).length)<|(iter (yI n a0) n ((0:Int),([]:List ay))).bind λw3=>ck (bb (sub w3 0 w3.length).length w3.length)<|some (sub w3 0 w3.length)
def O3(a0:List ay):Option ((List ay)×Int):=
 (bif decide ((a0.length:Int)>200)then some (([]:(List ay)),(6:Int))else some (a0,(0:Int)))
def QV(a0:List ay):Stp Int (Unit⊕((List ay)×Int))
 |v1=>(bif decide (v1<(a0.length:Int))then(bh a0 v1).bind λx1=>(uN x1).bind λr1=>(bif (!r1)then(some (([]:(List ay)),(1:Int))).map λa=> .inr (.inr a)else some (.inl (i64.wrap (v1+1))))else some (.inr (.inl ())))
def Hm(a0:List ay):Option ((List ay)×Int):=
 dM (iter (QV a0) n (0:Int)) λ()=>(bif decide ((a0.length:Int)>400)then some (([]:(List ay)),(6:Int))else ck (bb (sub ([a0]:List (List ay)) 0 1).length 1)<|(MZ n (sub ([a0]:List (List ay)) 0 1)).bind λr2=>ck (bb (sub r2 0 r2.length).length r2.length)<|(QU n (sub r2 0 r2.length)).bind λr3=>ck (bb (sub r3 0 r3.length).length r3.length)<|(O3 (sub r3 0 r3.length)).bind λr4=>some (r4.1,r4.2))
def TA(a0:List ay)(a1:List ay):Stp Int (Unit⊕Bool)
 |v1=>(bif decide (v1<(a0.length:Int))then(bh a0 v1).bind λx1=>(bh a1 v1).bind λx2=>(bif (!((x1.x0==(x2.x0:Int))&&((x1.y0==(x2.y0:Int))&&((x1.x1==(x2.x1:Int))&&((x1.y1==(x2.y1:Int))&&true)))))then(some false).map λa=> .inr (.inr a)else some (.inl (i64.wrap (v1+1))))else some (.inr (.inl ())))
def rF(a0:List ay)(a1:List ay):Option Bool:=
 (bif ((a0.length:Int) !=(a1.length:Int))then some false else dM (iter (TA a0 a1) n (0:Int)) λ()=>some true)
def BK(a0:List ay):Option Bool:=
 (Hm n a0).bind λr1=>(bif (r1.2==0)then(rF n r1.1 a0).bind λr2=>some r2 else some false)
def nE(a0:bi)(a1:Int)(a2:Int):Stp (Int×(List aQ)) (List aQ)
 |(v1,v2)=>(bif decide (v1<(a0.phases.length:Int))then((bh a0.phases v1).bind λx1=>((bif decide (v1>=(a1:Int))then some (decide (v1<(a2:Int)))else some false)).bind λv3=>(bif v3 then ck (bD v2.length v2.length x1.cp.length x1.cp.length 72)<|fK (v2++x1.cp) λr1=>ck (bb r1.length r1.length)<|some r1 else ck (bb v2.length v2.length)<|some v2):Option ((List aQ))).bind λv4=>ck (bb v4.length v4.length)<|some (.inl ((i64.wrap (v1+1)),v4))else ck (bb v2.length v2.length)<|some (.inr v2))
def sH(a0:bi)(a1:Int)(a2:Int):Option (List aQ):=
 ck (bb 0 ([]:List aQ).length)<|(iter (nE a0 a1 a2) n ((0:Int),([]:List aQ))).bind λw1=>ck (bb (sub w1 0 w1.length).length w1.length)<|some (sub w1 0 w1.length)
def iL(a0:aQ):Option Bool:=
 ((uN (ay.mk a0.bz a0.cg a0.bx a0.cf)).bind λr1=>(bif (!r1)then some true else(bif decide (a0.dy<0)then some true else(bif decide (a0.dy>=(a0.dg:Int))then some true else some (decide (a0.dg>4096)))))).bind λv1=>(bif v1 then some false else((bif (a0.use !=0)then some (a0.units !=0)else some false)).bind λv2=>(bif v2 then some false else(bif decide (a0.use>=0)then(bif decide (a0.use<6)then(bif decide (a0.units>=0)then some (decide (a0.units<=1048576))else some false)else some false)else some false)))
def A8(a0:ay):Option (ay×Bool):=
 (uN a0).bind λr1=>(bif r1 then some (a0,true)else some ((ay.mk 0 0 0 0),false))
def IU(a0:ay):Option Int:=
 (A8 a0).bind λr1=>some (i64.wrap ((i64.wrap (r1.1.x1 -r1.1.x0))*(i64.wrap (r1.1.y1 -r1.1.y0))))
def IV(a0:List ay):Stp (Int×Int) Int
 |(v1,v2)=>(bif decide (v2<(a0.length:Int))then(bh a0 v2).bind λx1=>(IU x1).bind λr2=>some (.inl ((i64.wrap (v1+r2)),(i64.wrap (v2+1))))else some (.inr v1))
def WH(a0:List ay):Option Int:=
 (BK n a0).bind λr1=>(bif (!r1)then some (0:Int)else(iter (IV a0) n ((0:Int),(0:Int))).bind λw1=>some w1)
def zy(a0:List ay)(a1:Int)(a2:Int)(a3:(ay×ay×Unit)->Option Int):Option (List ay):=
 kg (λ x y=>a3 (x,y,())) (λ r=>decide (r<0)) n a0 a1 a2
def Gs(a0:List ay)(a1:Int)(a2:Int)(a3:Int)(a4:(ay×ay×Unit)->Option Int):Option (List ay):=
 pW (λ x y=>a4 (x,y,())) (λ r=>decide (r<0)) n a0 a1 a2 a3
def Gt(a0:List ay)(a1:Int)(a2:Int)(a3:(ay×ay×Unit)->Option Int):Option (List ay):=
 wO (λ x y=>a3 (x,y,())) (λ r=>decide (r<0)) n a0 a1 a2
def zA(a0:List ay)(a1:Int)(a2:Int)(a3:(ay×ay×Unit)->Option Int):Option (List ay):=
 jo aY bg n a0 a1 a2
def Kc(a0:List ay)(a1:Int)(a2:Int)(a3:Int)(a4:(ay×ay×Unit)->Option Int):Option (Int×Int×Int):=
 Ad (λ x y=>a4 (x,y,())) (λ r=>decide (r<0)) a0 a1 a2 a3
def Ke(a0:List ay)(a1:Int)(a2:Int)(a3:Int)(a4:Int)(a5:(ay×ay×Unit)->Option Int):Option (Int×Int):=
 xO (λ x y=>a5 (x,y,())) (λ r=>decide (r<0)) a0 a1 a2 a3 a4
def yJ(a0:List ay)(a1:Int)(a2:Int)(a3:(ay×ay×Unit)->Option Int):Option (Int×Int):=
 d9 (λ x y=>a3 (x,y,())) (λ r=>decide (r<0)) a0 a1 a2
def BL(a0:List ay)(a1:Int)(a2:Int)(a3:(ay×ay×Unit)->Option Int):Option (Int×Int):=
 ni (λ x y=>a3 (x,y,())) (λ r=>decide (r<0)) a0 a1 a2
def Aj(a0:List ay)(a1:Int)(a2:Int)(a3:(ay×ay×Unit)->Option Int):Option (List ay):=
 jU n a0 a1 a2
def rG(a0:List ay)(a1:Int)(a2:Int)(a3:(ay×ay×Unit)->Option Int):Option (Bool×(List ay)):=
 fw (λ x y=>a3 (x,y,())) (λ r=>decide (r<0)) n a0 a1 a2
def yK(a0:List ay)(a1:Int)(a2:Int)(a3:Int)(a4:(ay×ay×Unit)->Option Int):Option (Int×(List ay)):=
 iP (λ x y=>a4 (x,y,())) (λ r=>decide (r<0)) n a0 a1 a2 a3
def Fe(a0:List ay)(a1:Int)(a2:Int)(a3:Int)(a4:(ay×ay×Unit)->Option Int):Option (Int×Bool×(List ay)):=
 o8 (λ x y=>a4 (x,y,())) (λ r=>decide (r<0)) n a0 a1 a2 a3
def jh(rc:((List ay))->(Int)->(Int)->(Int)->((ay×ay×Unit)->Option Int)->Option (List ay))(a0:List ay)(a1:Int)(a2:Int)(a3:Int)(a4:(ay×ay×Unit)->Option Int):Option (List ay):=
 jc (λ x y=>a4 (x,y,())) (λ r=>decide (r<0)) aY bg n (λ l a b d=>rc l a b d a4) a0 a1 a2 a3
def kM(rc:((List ay))->(Int)->(Int)->(Int)->((ay×ay×Unit)->Option Int)->Option (List ay)):bt xx:=⟨[.mut (.st SI.ir),.d (.int .i64),.d (.int .i64),.d (.int .i64),.c6 [(.st SI.ir),(.st SI.ir)] (.int .i64)],[.mu (.st SI.ir)],λa=>rc a.1 a.2.1 a.2.2.1 a.2.2.2.1 a.2.2.2.2.1,none⟩
def eU(n:Nat):Nat->((List ay))->(Int)->(Int)->(Int)->((ay×ay×Unit)->Option Int)->Option (List ay)
 | 0=>λ_ _ _ _ _=>none
 |m+1=>jh n (eU n m)
def nG(a0:List ay)(a1:Int)(a2:Int)(a3:Int)(a4:(ay×ay×Unit)->Option Int):Option (List ay):=eU n n a0 a1 a2 a3 a4
def qa(a0:List ay)(a1:(ay×ay×Unit)->Option Int):Option (List ay):=
 (bits_Len (IntKind.u64.wrap (a0.length:Int))).bind λr1=>ck (bb a0.length a0.length)<|(nG n a0 0 (a0.length:Int) r1 a1).bind λr2=>some r2
def iV(a0:ay)(a1:ay):Option Int:=
 (cmp_Compare_int a0.y0 a1.y0).bind λr1=>some r1
def kS(a0:aQ):Option Int:=
 ((bif a0.extra then some true else(iL a0).bind λr1=>some (!r1))).bind λv1=>(bif v1 then some (0:Int)else ck (3 !=0)<|some (i64.wrap (Int.tdiv (i64.wrap ((i64.wrap ((i64.wrap (a0.dg -a0.dy))+3)) -1)) 3)))
def oo(a0:aQ):Option Int:=
 (iL a0).bind λr1=>(bif (!r1)then some (0:Int)else(IU (ay.mk a0.bz a0.cg a0.bx a0.cf)).bind λr2=>(kS a0).bind λr3=>some (i64.wrap (r2*r3)))
def nH(a0:aQ):Option Int:=
 some a0.dg
def oF(a0:aQ):Option Int:=
 some a0.units
def Ff(a0:ay)(a1:Int):Option (ay×Bool):=
 (uN (ay.mk (i64.wrap (a0.x0 -a1)) (i64.wrap (a0.y0 -a1)) (i64.wrap (a0.x1+a1)) (i64.wrap (a0.y1+a1)))).bind λr1=>some ((ay.mk (i64.wrap (a0.x0 -a1)) (i64.wrap (a0.y0 -a1)) (i64.wrap (a0.x1+a1)) (i64.wrap (a0.y1+a1))),r1)
def Eg(a0:ay)(a1:ay):Option (ay×Bool):=
 ((uN a0).bind λr1=>(bif (!r1)then some true else(uN a1).bind λr2=>some (!r2))).bind λv1=>(bif v1 then some ((ay.mk 0 0 0 0),false)else(A8 (ay.mk (max a0.x0 a1.x0) (max a0.y0 a1.y0) (min a0.x1 a1.x1) (min a0.y1 a1.y1))).bind λr3=>some (r3.1,r3.2))
def kr(a0:bQ)(a1:MU)(a2:Int):Option Bool:=
 ck (br a2 6)<|(bh ([a1.a0,a1.a1,a1.a2,a1.a3,a1.a4,a1.a5]:List ByteArray) a2).bind λx1=>some (ByteArray.toList a0.name==ByteArray.toList x1)
def Kg(a0:List bQ)(a1:(bQ×Unit)->Option Bool):Stp Int (Unit⊕Int)
 |v1=>(bif decide (v1<(a0.length:Int))then(bh a0 v1).bind λx1=>(a1 (x1,())).bind λr1=>(bif r1 then(some v1).map λa=> .inr (.inr a)else some (.inl (i64.wrap (v1+1))))else some (.inr (.inl ())))
def sW(a0:List bQ)(a1:(bQ×Unit)->Option Bool):Option Int:=
 dM (iter (Kg a0 a1) n (0:Int)) λ()=>some ((-1):Int)
def ku(a0:gQ)(a1:Int):Stp Int (Unit⊕Int)
 |v1=>(bif decide (v1<(a0.tables.length:Int))then(bh a0.tables v1).bind λx1=>(bif (!(ByteArray.toList x1.name==ByteArray.toList (⟨#[116,114,97,102,102,105,99]⟩)))then some (.inl (i64.wrap (v1+1)))else((sW n x1.rows (λ (y1:bQ×Unit)=>kr y1.1 (MU.mk (⟨#[104,111,109,101]⟩) (⟨#[115,104,111,112]⟩) (⟨#[119,111,114,107]⟩) (⟨#[112,97,114,107]⟩) (⟨#[112,108,97,110,116]⟩) (⟨#[104,97,108,108]⟩)) a1)).bind λr1=>(bif decide (r1>=0)then(bh x1.rows r1).bind λx2=>some x2.n else some x1.pC):Option Int).bind λv2=>(some (max (0:Int) (min v2 (1048576:Int)))).map λa=> .inr (.inr a))else some (.inr (.inl ())))
def Eh(a0:gQ)(a1:Int):Option Int:=
 dM (iter (ku n a0 a1) n (0:Int)) λ()=>some (0:Int)
def nS(a0:gQ)(a1:aQ):Option Int:=
 (Eh n a0 a1.use).bind λr1=>(oo a1).bind λr2=>((bif decide (r1>0)then ck (r1 !=0)<|some (decide (r2>((i64.wrap (Int.tdiv 109951162777600 r1)):Int)))else some false)).bind λv1=>(bif v1 then some (1099511627776:Int)else ck (100 !=0)<|some (i64.wrap (Int.tdiv (i64.wrap ((i64.wrap ((i64.wrap (r1*r2))+100)) -1)) 100)))
def mg(a0:List qI)(a1:List fH)(a2:List jG)(a3:List dL)(a4:List qJ)(a5:List jH)(a6:List eZ)(a7:Int)(a8:List ay)(a9:List aQ):Option (Int×gZ):=
 (WH n a8).bind λr1=>ck (bb a9.length a9.length)<|some (r1,a0,a1,a2,a3,a4,a5,a6,a7,a8,a9)
def gm(a9:List aQ):Stp (Int×(List ay)×(List Int)) ((List ay)×(List Int))
 |(v1,v2,v3)=>(bif decide (v1<(a9.length:Int))then ck (br v1 a9.length)<|(bh a9 ((0:Nat)+v1:Int)).bind λx1=>ck (br v1 ((a9.length:Int).toNat))<|(bh v2 ((0:Nat)+v1:Int)).bind λx2=>ck (br v1 ((a9.length:Int).toNat))<|(bh (v2.set ((0:Nat)+v1:Int).toNat (ay.mk x1.bz x1.cg x1.bx x1.cf)) ((0:Nat)+v1:Int)).bind λx3=>ck (br v1 ((a9.length:Int).toNat))<|(bh (v2.set ((0:Nat)+v1:Int).toNat (ay.mk x1.bz x1.cg x1.bx x1.cf)) ((0:Nat)+v1:Int)).bind λx4=>ck (bD v3.length v3.length (sub ([x3.x0,x4.x1]:List Int) 0 2).length 2 8)<|fK (v3++(sub ([x3.x0,x4.x1]:List Int) 0 2)) λr1=>ck (bb r1.length r1.length)<|some (.inl ((i64.wrap (v1+1)),(v2.set ((0:Nat)+v1:Int).toNat (ay.mk x1.bz x1.cg x1.bx x1.cf)),r1))else ck (bb v3.length v3.length)<|some (.inr (v2,v3)))
def ji(a9:List aQ)(w2:List Int)(r2:List ay)(r3:List Int)(v5:Int):Stp (Int×Int×Int) Int
 |(v6,v7,v8)=>(bif (decide (v8<((((a9.length:Int).toNat:Nat):Int):Int)))then(ck (br v8 ((a9.length:Int).toNat))<|(bh r2 ((0:Nat)+v8:Int)).bind λx5=>(ck (br v5 w2.length)<|(bh r3 ((0:Nat)+v5:Int)).bind λx6=>(bif decide (x5.x0<=(x6:Int))then ck (br v5 w2.length)<|(bh r3 ((0:Nat)+v5:Int)).bind λx7=>(bif decide (x7<(x5.x1:Int))then some (decide (x5.y1>(v7:Int)))else some false)else some false)).bind λv9=>(bif v9 then ck (br (i64.wrap (v5+1)) w2.length)<|(bh r3 ((0:Nat)+(i64.wrap (v5+1)):Int)).bind λx8=>ck (br v5 w2.length)<|(bh r3 ((0:Nat)+v5:Int)).bind λx9=>some ((i64.wrap (v6+(i64.wrap ((i64.wrap (x8 -x9))*(i64.wrap (x5.y1 -(max v7 x5.y0))))))),x5.y1)else some (v6,v7)):Option (Int×Int)).bind λ(v10,v11)=>some (.inl (v10,v11,(i64.wrap (v8+1))))else some (.inr v6))
def jk(a9:List aQ)(w2:List Int)(r2:List ay)(r3:List Int):Stp (Int×Int) Int
 |(v4,v5)=>(bif (decide (v5<((max (0:Int) (i64.wrap ((w2.length:Int) -1))):Int)))then(iter (ji a9 w2 r2 r3 v5) n (v4,(0:Int),(0:Int))).bind λw3=>some (.inl (w3,(i64.wrap (v5+1))))else some (.inr v4))
def iW(a0:List qI)(a1:List fH)(a2:List jG)(a3:List dL)(a4:List qJ)(a5:List jH)(a6:List eZ)(a7:Int)(a8:List ay)(a9:List aQ):Option (Int×gZ):=
 ck (decide ((a9.length:Int)<=(a9.length:Int))&&(decide (0<=(a9.length:Int))&&J9 (a9.length:Int) 32))<|ck (bb 0 ([]:List Int).length)<|(iter (gm a9) n ((0:Int),(List.replicate (a9.length:Int).toNat (ay.mk 0 0 0 0)),([]:List Int))).bind λ(w1,w2)=>ck (bb ((a9.length:Int).toNat) w1.length)<|(qa n w1 (λ (y1:ay×ay×Unit)=>iV y1.1 y1.2.1)).bind λr2=>ck (bb w2.length w2.length)<|(tV n w2).bind λr3=>(iter (jk n a9 w2 r2 r3) n ((0:Int),(0:Int))).bind λw4=>ck (bb a9.length a9.length)<|some (w4,a0,a1,a2,a3,a4,a5,a6,a7,a8,a9)
def jM(a9:List aQ):Stp (Int×Int) Int
 |(v1,v2)=>(bif decide (v2<(a9.length:Int))then ck (br v2 a9.length)<|(bh a9 ((0:Nat)+v2:Int)).bind λx1=>(oo x1).bind λr1=>some (.inl ((i64.wrap (v1+r1)),(i64.wrap (v2+1))))else some (.inr v1))
def qM(a0:List qI)(a1:List fH)(a2:List jG)(a3:List dL)(a4:List qJ)(a5:List jH)(a6:List eZ)(a7:Int)(a8:List ay)(a9:List aQ):Option (Int×gZ):=
 (iter (jM a9) n ((0:Int),(0:Int))).bind λw1=>ck (bb a9.length a9.length)<|some (w1,a0,a1,a2,a3,a4,a5,a6,a7,a8,a9)
def kH(a0:List qI)(a1:List fH)(a2:List jG)(a3:List dL)(a4:List qJ)(a5:List jH)(a6:List eZ)(a7:Int)(a8:List ay)(a9:List aQ):Option (Int×gZ):=
 ck (bb a9.length a9.length)<|(qM n a0 a1 a2 a3 a4 a5 a6 a7 a8 a9).bind λr1=>ck (bb r1.2.2.2.2.2.2.2.2.2.2.length r1.2.2.2.2.2.2.2.2.2.2.length)<|some (r1.1,r1.2.1,r1.2.2.1,r1.2.2.2.1,r1.2.2.2.2.1,r1.2.2.2.2.2.1,r1.2.2.2.2.2.2.1,r1.2.2.2.2.2.2.2.1,r1.2.2.2.2.2.2.2.2.1,r1.2.2.2.2.2.2.2.2.2.1,r1.2.2.2.2.2.2.2.2.2.2)
def ic(a9:List aQ):Stp (Int×Int) Int
 |(v1,v2)=>(bif decide (v2<(a9.length:Int))then ck (br v2 a9.length)<|(bh a9 ((0:Nat)+v2:Int)).bind λx1=>(kS x1).bind λr1=>some (.inl ((max v1 r1),(i64.wrap (v2+1))))else some (.inr v1))
def lZ(a0:List qI)(a1:List fH)(a2:List jG)(a3:List dL)(a4:List qJ)(a5:List jH)(a6:List eZ)(a7:Int)(a8:List ay)(a9:List aQ):Option (Int×gZ):=
 (iter (ic a9) n ((0:Int),(0:Int))).bind λw1=>ck (bb a9.length a9.length)<|some (w1,a0,a1,a2,a3,a4,a5,a6,a7,a8,a9)
def jN(a0:List qI)(a1:List fH)(a2:List jG)(a3:List dL)(a4:List qJ)(a5:List jH)(a6:List eZ)(a7:Int)(a8:List ay)(a9:List aQ):Option (Int×gZ):=
 ck (bb a9.length a9.length)<|(lZ n a0 a1 a2 a3 a4 a5 a6 a7 a8 a9).bind λr1=>ck (bb r1.2.2.2.2.2.2.2.2.2.2.length r1.2.2.2.2.2.2.2.2.2.2.length)<|some (r1.1,r1.2.1,r1.2.2.1,r1.2.2.2.1,r1.2.2.2.2.1,r1.2.2.2.2.2.1,r1.2.2.2.2.2.2.1,r1.2.2.2.2.2.2.2.1,r1.2.2.2.2.2.2.2.2.1,r1.2.2.2.2.2.2.2.2.2.1,r1.2.2.2.2.2.2.2.2.2.2)
def ig(a9:List aQ):Stp (Int×Int) Int
 |(v1,v2)=>(bif decide (v2<(a9.length:Int))then ck (br v2 a9.length)<|(bh a9 ((0:Nat)+v2:Int)).bind λx1=>(nH x1).bind λr1=>some (.inl ((max v1 r1),(i64.wrap (v2+1))))else some (.inr v1))
def l5(a0:List qI)(a1:List fH)(a2:List jG)(a3:List dL)(a4:List qJ)(a5:List jH)(a6:List eZ)(a7:Int)(a8:List ay)(a9:List aQ):Option (Int×gZ):=
 (iter (ig a9) n ((0:Int),(0:Int))).bind λw1=>ck (bb a9.length a9.length)<|some (w1,a0,a1,a2,a3,a4,a5,a6,a7,a8,a9)
def jO(a0:List qI)(a1:List fH)(a2:List jG)(a3:List dL)(a4:List qJ)(a5:List jH)(a6:List eZ)(a7:Int)(a8:List ay)(a9:List aQ):Option (Int×gZ):=
 ck (bb a9.length a9.length)<|(l5 n a0 a1 a2 a3 a4 a5 a6 a7 a8 a9).bind λr1=>ck (bb r1.2.2.2.2.2.2.2.2.2.2.length r1.2.2.2.2.2.2.2.2.2.2.length)<|some (r1.1,r1.2.1,r1.2.2.1,r1.2.2.2.1,r1.2.2.2.2.1,r1.2.2.2.2.2.1,r1.2.2.2.2.2.2.1,r1.2.2.2.2.2.2.2.1,r1.2.2.2.2.2.2.2.2.1,r1.2.2.2.2.2.2.2.2.2.1,r1.2.2.2.2.2.2.2.2.2.2)
def jP(a9:List aQ):Stp (Int×Int) Int
 |(v1,v2)=>(bif decide (v2<(a9.length:Int))then ck (br v2 a9.length)<|(bh a9 ((0:Nat)+v2:Int)).bind λx1=>(oF x1).bind λr1=>some (.inl ((i64.wrap (v1+r1)),(i64.wrap (v2+1))))else some (.inr v1))
def qN(a0:List qI)(a1:List fH)(a2:List jG)(a3:List dL)(a4:List qJ)(a5:List jH)(a6:List eZ)(a7:Int)(a8:List ay)(a9:List aQ):Option (Int×gZ):=
 (iter (jP a9) n ((0:Int),(0:Int))).bind λw1=>ck (bb a9.length a9.length)<|some (w1,a0,a1,a2,a3,a4,a5,a6,a7,a8,a9)
def kI(a0:List qI)(a1:List fH)(a2:List jG)(a3:List dL)(a4:List qJ)(a5:List jH)(a6:List eZ)(a7:Int)(a8:List ay)(a9:List aQ):Option (Int×gZ):=
 ck (bb a9.length a9.length)<|(qN n a0 a1 a2 a3 a4 a5 a6 a7 a8 a9).bind λr1=>ck (bb r1.2.2.2.2.2.2.2.2.2.2.length r1.2.2.2.2.2.2.2.2.2.2.length)<|some (r1.1,r1.2.1,r1.2.2.1,r1.2.2.2.1,r1.2.2.2.2.1,r1.2.2.2.2.2.1,r1.2.2.2.2.2.2.1,r1.2.2.2.2.2.2.2.1,r1.2.2.2.2.2.2.2.2.1,r1.2.2.2.2.2.2.2.2.2.1,r1.2.2.2.2.2.2.2.2.2.2)
def iU(gR:List ay)(r1:ay×Bool):Stp (Int×Int) Int
 |(v1,v2)=>(bif decide (v2<(gR.length:Int))then((bh gR v2).bind λx1=>(Eg r1.1 x1).bind λr2=>(bif r2.2 then(IU r2.1).bind λr3=>some (i64.wrap (v1+r3))else some v1):Option Int).bind λv3=>some (.inl (v3,(i64.wrap (v2+1))))else some (.inr v1))
def jQ(a0:ay)(a1:Int)(a2:List qI)(a3:List fH)(a4:List jG)(a5:List dL)(a6:List qJ)(a7:List jH)(a8:List eZ)(a9:Int)(gR:List ay)(pn:List aQ):Option (Bool×gZ):=
 (Ff a0 a1).bind λr1=>(bif (!r1.2)then ck (bb pn.length pn.length)<|some (false,a2,a3,a4,a5,a6,a7,a8,a9,gR,pn)else(iter (iU gR r1) n ((0:Int),(0:Int))).bind λw1=>(IU r1.1).bind λr4=>ck (bb pn.length pn.length)<|some ((w1==(r4:Int)),a2,a3,a4,a5,a6,a7,a8,a9,gR,pn))
def fC(x1:aQ):Stp (Int×Int×gZ) (Int×gZ)
 |(v13,v14,v15,v16,v17,v18,v19,v20,v21,v22,v23,v24)=>(bif decide (v13<(v14:Int))then ck (2 !=0)<|ck (bb v24.length v24.length)<|(jQ n (ay.mk x1.bz x1.cg x1.bx x1.cf) (i64.wrap (Int.tdiv (i64.wrap ((i64.wrap (v13+v14))+1)) 2)) v15 v16 v17 v18 v19 v20 v21 v22 v23 v24).bind λr1=>(bif r1.1 then ck (bb r1.2.2.2.2.2.2.2.2.2.2.length r1.2.2.2.2.2.2.2.2.2.2.length)<|some (.inl ((i64.wrap (Int.tdiv (i64.wrap ((i64.wrap (v13+v14))+1)) 2)),v14,r1.2.1,r1.2.2.1,r1.2.2.2.1,r1.2.2.2.2.1,r1.2.2.2.2.2.1,r1.2.2.2.2.2.2.1,r1.2.2.2.2.2.2.2.1,r1.2.2.2.2.2.2.2.2.1,r1.2.2.2.2.2.2.2.2.2.1,r1.2.2.2.2.2.2.2.2.2.2))else ck (bb r1.2.2.2.2.2.2.2.2.2.2.length r1.2.2.2.2.2.2.2.2.2.2.length)<|some (.inl (v13,(i64.wrap ((i64.wrap (Int.tdiv (i64.wrap ((i64.wrap (v13+v14))+1)) 2)) -1)),r1.2.1,r1.2.2.1,r1.2.2.2.1,r1.2.2.2.2.1,r1.2.2.2.2.2.1,r1.2.2.2.2.2.2.1,r1.2.2.2.2.2.2.2.1,r1.2.2.2.2.2.2.2.2.1,r1.2.2.2.2.2.2.2.2.2.1,r1.2.2.2.2.2.2.2.2.2.2)))else ck (bb v24.length v24.length)<|some (.inr (v13,v15,v16,v17,v18,v19,v20,v21,v22,v23,v24)))
def iD(a9:List aQ):Stp (Int×Int×gZ) (Int×gZ)
 |(v1,v2,v3,v4,v5,v6,v7,v8,v9,v10,v11,v12)=>(bif decide (v2<(a9.length:Int))then ck (br v2 a9.length)<|(bh v12 ((0:Nat)+v2:Int)).bind λx1=>ck (bb v12.length v12.length)<|(iter (fC n x1) n ((0:Int),v1,v3,v4,v5,v6,v7,v8,v9,v10,v11,v12)).bind λ(w1,w2,w3,w4,w5,w6,w7,w8,w9,vf,vd)=>ck (bb vd.length vd.length)<|some (.inl (w1,(i64.wrap (v2+1)),w2,w3,w4,w5,w6,w7,w8,w9,vf,vd))else ck (bb v12.length v12.length)<|some (.inr (v1,v3,v4,v5,v6,v7,v8,v9,v10,v11,v12)))
def jw(a0:List qI)(a1:List fH)(a2:List jG)(a3:List dL)(a4:List qJ)(a5:List jH)(a6:List eZ)(a7:Int)(a8:List ay)(a9:List aQ):Option (Int×gZ):=
 ck (bb a9.length a9.length)<|(iter (iD n a9) n ((1048576:Int),(0:Int),a0,a1,a2,a3,a4,a5,a6,a7,a8,a9)).bind λ(w12,w13,w14,w15,w16,w17,w18,w19,w20,w21,If)=>ck (bb If.length If.length)<|some (w12,w13,w14,w15,w16,w17,w18,w19,w20,w21,If)
def kz(a0:aQ)(a1:List qI)(a2:List fH)(a3:List jG)(a4:List dL)(a5:List qJ)(a6:List jH)(a7:List eZ)(a8:Int)(a9:List ay)(gR:List aQ):Option (Int×gZ):=
 (nS n (gQ.mk a1 a2 a3 a4 a5 a6 a7 a8) a0).bind λr1=>ck (bb gR.length gR.length)<|some (r1,a1,a2,a3,a4,a5,a6,a7,a8,a9,gR)
def jR(a9:List aQ):Stp (Int×Int×gZ) (Int×gZ)
 |(v1,v2,v3,v4,v5,v6,v7,v8,v9,v10,v11,v12)=>(bif decide (v2<(a9.length:Int))then ck (br v2 a9.length)<|(bh v12 ((0:Nat)+v2:Int)).bind λx1=>ck (bb v12.length v12.length)<|(kz n x1 v3 v4 v5 v6 v7 v8 v9 v10 v11 v12).bind λr1=>ck (bb r1.2.2.2.2.2.2.2.2.2.2.length r1.2.2.2.2.2.2.2.2.2.2.length)<|some (.inl ((i64.wrap (v1+r1.1)),(i64.wrap (v2+1)),r1.2.1,r1.2.2.1,r1.2.2.2.1,r1.2.2.2.2.1,r1.2.2.2.2.2.1,r1.2.2.2.2.2.2.1,r1.2.2.2.2.2.2.2.1,r1.2.2.2.2.2.2.2.2.1,r1.2.2.2.2.2.2.2.2.2.1,r1.2.2.2.2.2.2.2.2.2.2))else ck (bb v12.length v12.length)<|some (.inr (v1,v3,v4,v5,v6,v7,v8,v9,v10,v11,v12)))
def qO(a0:List qI)(a1:List fH)(a2:List jG)(a3:List dL)(a4:List qJ)(a5:List jH)(a6:List eZ)(a7:Int)(a8:List ay)(a9:List aQ):Option (Int×gZ):=
 ck (bb a9.length a9.length)<|(iter (jR n a9) n ((0:Int),(0:Int),a0,a1,a2,a3,a4,a5,a6,a7,a8,a9)).bind λ(w1,w2,w3,w4,w5,w6,w7,w8,w9,vf,vd)=>ck (bb vd.length vd.length)<|some (w1,w2,w3,w4,w5,w6,w7,w8,w9,vf,vd)
def jy(a0:List qI)(a1:List fH)(a2:List jG)(a3:List dL)(a4:List qJ)(a5:List jH)(a6:List eZ)(a7:Int)(a8:List ay)(a9:List aQ):Option (Int×gZ):=
 ck (bb a9.length a9.length)<|(qO n a0 a1 a2 a3 a4 a5 a6 a7 a8 a9).bind λr1=>ck (bb r1.2.2.2.2.2.2.2.2.2.2.length r1.2.2.2.2.2.2.2.2.2.2.length)<|some (r1.1,r1.2.1,r1.2.2.1,r1.2.2.2.1,r1.2.2.2.2.1,r1.2.2.2.2.2.1,r1.2.2.2.2.2.2.1,r1.2.2.2.2.2.2.2.1,r1.2.2.2.2.2.2.2.2.1,r1.2.2.2.2.2.2.2.2.2.1,r1.2.2.2.2.2.2.2.2.2.2)
def rH(r2:List aQ):Stp (Int×gZ) (gZ)
 |(v10,v11,v12,v13,v14,v15,v16,v17,v18,v19,v20)=>(bif decide (v10<(r2.length:Int))then(ck (br v10 r2.length)<|(bh r2 ((0:Nat)+v10:Int)).bind λx1=>((bif decide (v10<40)then(iL x1).bind λr3=>some r3 else some false)).bind λv21=>(bif v21 then ck (bD v20.length v20.length (sub ([x1]:List aQ) 0 1).length 1 72)<|fK (v20++(sub ([x1]:List aQ) 0 1)) λr4=>ck (bb r4.length r4.length)<|some (v11,v12,v13,v14,v15,v16,v17,v18,v19,r4)else ck (bb v20.length v20.length)<|some (v11,v12,v13,v14,v15,v16,v17,v18,v19,v20)):Option (gZ)).bind λ(v22,v23,v24,v25,v26,v27,v28,v29,v30,v31)=>ck (bb v31.length v31.length)<|some (.inl ((i64.wrap (v10+1)),v22,v23,v24,v25,v26,v27,v28,v29,v30,v31))else ck (bb v20.length v20.length)<|some (.inr (v11,v12,v13,v14,v15,v16,v17,v18,v19,v20)))
def IW(a0:gQ)(a1:fU)(a2:bi):Option (List bQ):=
 ((BK n a1.area).bind λr1=>(bif r1 then some (a0.defs,a0.tables,a0.zones,a0.rules,a0.caps,a0.views,a0.ot,a0.hours,a1.area)else some (a0.defs,a0.tables,a0.zones,a0.rules,a0.caps,a0.views,a0.ot,a0.hours,([]:(List ay)))):Option ((List qI)×(List fH)×(List jG)×(List dL)×(List qJ)×(List jH)×(List eZ)×Int×(List ay))).bind λ(v1,v2,v3,v4,v5,v6,v7,v8,v9)=>(sH n a2 0 (a2.phases.length:Int)).bind λr2=>ck (bb 0 ([]:List aQ).length)<|(iter (rH r2) n ((0:Int),v1,v2,v3,v4,v5,v6,v7,v8,v9,([]:List aQ))).bind λ(w1,w2,w3,w4,w5,w6,w7,w8,w9,vf)=>ck (bb vf.length vf.length)<|(mg n w1 w2 w3 w4 w5 w6 w7 w8 w9 vf).bind λr5=>ck (bD 0 0 (sub ([(bQ.mk (⟨#[97,114,101,97]⟩) r5.1)]:List bQ) 0 1).length 1 24)<|fK ((sub ([(bQ.mk (⟨#[97,114,101,97]⟩) r5.1)]:List bQ) 0 1)) λr6=>ck (bb r5.2.2.2.2.2.2.2.2.2.2.length r5.2.2.2.2.2.2.2.2.2.2.length)<|(iW n r5.2.1 r5.2.2.1 r5.2.2.2.1 r5.2.2.2.2.1 r5.2.2.2.2.2.1 r5.2.2.2.2.2.2.1 r5.2.2.2.2.2.2.2.1 r5.2.2.2.2.2.2.2.2.1 r5.2.2.2.2.2.2.2.2.2.1 r5.2.2.2.2.2.2.2.2.2.2).bind λr7=>ck (bD r6.length r6.length (sub ([(bQ.mk (⟨#[99,111,118,101,114]⟩) r7.1)]:List bQ) 0 1).length 1 24)<|fK (r6++(sub ([(bQ.mk (⟨#[99,111,118,101,114]⟩) r7.1)]:List bQ) 0 1)) λr8=>ck (bb r7.2.2.2.2.2.2.2.2.2.2.length r7.2.2.2.2.2.2.2.2.2.2.length)<|(kH n r7.2.1 r7.2.2.1 r7.2.2.2.1 r7.2.2.2.2.1 r7.2.2.2.2.2.1 r7.2.2.2.2.2.2.1 r7.2.2.2.2.2.2.2.1 r7.2.2.2.2.2.2.2.2.1 r7.2.2.2.2.2.2.2.2.2.1 r7.2.2.2.2.2.2.2.2.2.2).bind λr9=>ck (bD r8.length r8.length (sub ([(bQ.mk (⟨#[102,108,111,111,114]⟩) r9.1)]:List bQ) 0 1).length 1 24)<|fK (r8++(sub ([(bQ.mk (⟨#[102,108,111,111,114]⟩) r9.1)]:List bQ) 0 1)) λrh=>ck (bb r9.2.2.2.2.2.2.2.2.2.2.length r9.2.2.2.2.2.2.2.2.2.2.length)<|(jN n r9.2.1 r9.2.2.1 r9.2.2.2.1 r9.2.2.2.2.1 r9.2.2.2.2.2.1 r9.2.2.2.2.2.2.1 r9.2.2.2.2.2.2.2.1 r9.2.2.2.2.2.2.2.2.1 r9.2.2.2.2.2.2.2.2.2.1 r9.2.2.2.2.2.2.2.2.2.2).bind λmy=>ck (bD rh.length rh.length (sub ([(bQ.mk (⟨#[102,108,111,111,114,115]⟩) my.1)]:List bQ) 0 1).length 1 24)<|fK (rh++(sub ([(bQ.mk (⟨#[102,108,111,111,114,115]⟩) my.1)]:List bQ) 0 1)) λrb=>ck (bb my.2.2.2.2.2.2.2.2.2.2.length my.2.2.2.2.2.2.2.2.2.2.length)<|(jO n my.2.1 my.2.2.1 my.2.2.2.1 my.2.2.2.2.1 my.2.2.2.2.2.1 my.2.2.2.2.2.2.1 my.2.2.2.2.2.2.2.1 my.2.2.2.2.2.2.2.2.1 my.2.2.2.2.2.2.2.2.2.1 my.2.2.2.2.2.2.2.2.2.2).bind λmc=>ck (bD rb.length rb.length (sub ([(bQ.mk (⟨#[104,101,105,103,104,116]⟩) mc.1)]:List bQ) 0 1).length 1 24)<|fK (rb++(sub ([(bQ.mk (⟨#[104,101,105,103,104,116]⟩) mc.1)]:List bQ) 0 1)) λra=>ck (bb mc.2.2.2.2.2.2.2.2.2.2.length mc.2.2.2.2.2.2.2.2.2.2.length)<|(kI n mc.2.1 mc.2.2.1 mc.2.2.2.1 mc.2.2.2.2.1 mc.2.2.2.2.2.1 mc.2.2.2.2.2.2.1 mc.2.2.2.2.2.2.2.1 mc.2.2.2.2.2.2.2.2.1 mc.2.2.2.2.2.2.2.2.2.1 mc.2.2.2.2.2.2.2.2.2.2).bind λmb=>ck (bD ra.length ra.length (sub ([(bQ.mk (⟨#[104,111,109,101,115]⟩) mb.1)]:List bQ) 0 1).length 1 24)<|fK (ra++(sub ([(bQ.mk (⟨#[104,111,109,101,115]⟩) mb.1)]:List bQ) 0 1)) λr16=>ck (bb mb.2.2.2.2.2.2.2.2.2.2.length mb.2.2.2.2.2.2.2.2.2.2.length)<|(iW n mb.2.1 mb.2.2.1 mb.2.2.2.1 mb.2.2.2.2.1 mb.2.2.2.2.2.1 mb.2.2.2.2.2.2.1 mb.2.2.2.2.2.2.2.1 mb.2.2.2.2.2.2.2.2.1 mb.2.2.2.2.2.2.2.2.2.1 mb.2.2.2.2.2.2.2.2.2.2).bind λoT=>ck (bD r16.length r16.length (sub ([(bQ.mk (⟨#[114,117,110,111,102,102]⟩) oT.1)]:List bQ) 0 1).length 1 24)<|fK (r16++(sub ([(bQ.mk (⟨#[114,117,110,111,102,102]⟩) oT.1)]:List bQ) 0 1)) λIF=>ck (bb oT.2.2.2.2.2.2.2.2.2.2.length oT.2.2.2.2.2.2.2.2.2.2.length)<|(jw n oT.2.1 oT.2.2.1 oT.2.2.2.1 oT.2.2.2.2.1 oT.2.2.2.2.2.1 oT.2.2.2.2.2.2.1 oT.2.2.2.2.2.2.2.1 oT.2.2.2.2.2.2.2.2.1 oT.2.2.2.2.2.2.2.2.2.1 oT.2.2.2.2.2.2.2.2.2.2).bind λpx=>ck (bD IF.length IF.length (sub ([(bQ.mk (⟨#[115,101,116,98,97,99,107]⟩) px.1)]:List bQ) 0 1).length 1 24)<|fK (IF++(sub ([(bQ.mk (⟨#[115,101,116,98,97,99,107]⟩) px.1)]:List bQ) 0 1)) λID=>ck (bb px.2.2.2.2.2.2.2.2.2.2.length px.2.2.2.2.2.2.2.2.2.2.length)<|(jy n px.2.1 px.2.2.1 px.2.2.2.1 px.2.2.2.2.1 px.2.2.2.2.2.1 px.2.2.2.2.2.2.1 px.2.2.2.2.2.2.2.1 px.2.2.2.2.2.2.2.2.1 px.2.2.2.2.2.2.2.2.2.1 px.2.2.2.2.2.2.2.2.2.2).bind λSo=>ck (bD ID.length ID.length (sub ([(bQ.mk (⟨#[116,114,97,102,102,105,99]⟩) So.1)]:List bQ) 0 1).length 1 24)<|fK (ID++(sub ([(bQ.mk (⟨#[116,114,97,102,102,105,99]⟩) So.1)]:List bQ) 0 1)) λB7=>ck (bb (sub B7 0 B7.length).length B7.length)<|some (sub B7 0 B7.length)
end
end Go.Proofs
