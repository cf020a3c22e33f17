import Derived.Test.YtakagljmnddfdaaGreatTBase
open Go.IntKind (i64)
namespace Go.Proofs
open Go.Gb Go.RowKit
noncomputable section
variable (n:Nat)
def O7:J bL:=
 ck (be (sub ([(nY.mk 0 1),(nY.mk 1 2)]:U nY) 0 2).length 2)<|some (bL.mk 3 (sub ([(nY.mk 0 1),(nY.mk 1 2)]:U nY) 0 2))
def sP(a0:bL):Stp Int (Unit⊕Bool)
 |v2=>(bif decide (v2<(a0.pairs.length:Int))then(br a0.pairs v2).bind λx1=>((bif decide ((min x1.a0 x1.a1)<0)then some true else some (decide ((max x1.a0 x1.a1)>=(a0.values:Int))))).bind λv3=>(bif v3 then(some false).map λa=> .inr (.inr a)else some (.inl (i64.wrap (v2+1))))else some (.inr (.inl ())))
def uP(a0:bL):J Bool:=
 ((bif decide (a0.values<1)then some true else(bif decide (a0.values>12)then some true else some (decide ((a0.pairs.length:Int)>144))))).bind λv1=>(bif v1 then some false else dm (iter (sP a0) n (0:Int)) λ()=>some true)
def sQ(a0:bL):Stp (Int×(List Bool)) (List Bool)
 |(v1,v2)=>(bif decide (v1<(a0.pairs.length:Int))then(br a0.pairs v1).bind λx1=>ck (co x1.a0 12)<|ck (co x1.a1 12)<|ck (decide ((0:Int)<=x1.a1)&&kZ ((0+(x1.a0:Int).toNat*12)+(x1.a1:Int).toNat) 1 v2.length)<|some (.inl ((i64.wrap (v1+1)),(List.set v2 ((0+(x1.a0:Int).toNat*12)+(x1.a1:Int).toNat) true)))else some (.inr v2))
def uQ(a0:bL):J dO:=
 (iter (sQ a0) n ((0:Int),(List.replicate 144 false))).bind λw1=>(dG (sub w1 0 144)).bind λx2=>ck (be x2.l.length 144&&kZ 0 x2.l.length (List.replicate 144 false).length)<|(dG (sub (el (List.replicate 144 false) 0 x2.l) 0 144)).bind λz1=>some z1
def sS(v2:U Bool)(x3:dO)(v3:Int)(v5:Int):Stp (Int×(List Bool)) (List Bool)
 |(v7,v8)=>(bif decide (v7<12)then(ck (co v3 12)<|ck (co v7 12)<|(sy v8 (0+(v3:Int).toNat*12) v7).bind λx4=>(bif x4 then ck (co v3 12)<|ck (co v7 12)<|ck (decide ((0:Int)<=v7)&&kZ ((0+(v3:Int).toNat*12)+(v7:Int).toNat) 1 v8.length)<|some (List.set v8 ((0+(v3:Int).toNat*12)+(v7:Int).toNat) true)else ck (co v3 12)<|ck (co v5 12)<|(sy (el v2 0 x3.l) (0+(v3:Int).toNat*12) v5).bind λx5=>(bif x5 then ck (co v5 12)<|ck (co v7 12)<|(sy (el v2 0 x3.l) (0+(v5:Int).toNat*12) v7).bind λx6=>ck (co v3 12)<|ck (co v7 12)<|ck (decide ((0:Int)<=v7)&&kZ ((0+(v3:Int).toNat*12)+(v7:Int).toNat) 1 v8.length)<|some (List.set v8 ((0+(v3:Int).toNat*12)+(v7:Int).toNat) x6)else ck (co v3 12)<|ck (co v7 12)<|ck (decide ((0:Int)<=v7)&&kZ ((0+(v3:Int).toNat*12)+(v7:Int).toNat) 1 v8.length)<|some (List.set v8 ((0+(v3:Int).toNat*12)+(v7:Int).toNat) false))):J ((List Bool))).bind λv9=>some (.inl ((i64.wrap (v7+1)),v9))else some (.inr v8))
def sU(v2:U Bool)(x3:dO)(v3:Int):Stp (Int×(List Bool)) (List Bool)
 |(v5,v6)=>(bif decide (v5<12)then(iter (sS v2 x3 v3 v5) n ((0:Int),v6)).bind λw1=>some (.inl ((i64.wrap (v5+1)),w1))else some (.inr v6))
def sV(v2:U Bool)(x3:dO):Stp (Int×(List Bool)) (List Bool)
 |(v3,v4)=>(bif decide (v3<12)then(iter (sU n v2 x3 v3) n ((0:Int),v4)).bind λw2=>some (.inl ((i64.wrap (v3+1)),w2))else some (.inr v4))
def xX:Stp ((List Bool)×(List Bool)) (List Bool)
 |(v1,v2)=>(dG (sub v2 0 144)).bind λx1=>(dG (sub v1 0 144)).bind λx2=>(bif (!(yq x1.l x2.l))then(dG (sub v1 0 144)).bind λx3=>ck (be x3.l.length 144&&kZ 0 x3.l.length v2.length)<|(iter (sV n v2 x3) n ((0:Int),v1)).bind λw3=>(dG (sub (el v2 0 x3.l) 0 144)).bind λx7=>ck (be x7.l.length 144&&kZ 0 x7.l.length (List.replicate 144 false).length)<|some (.inl (w3,(el (List.replicate 144 false) 0 x7.l)))else some (.inr v1))
def uR(a0:dO):J dO:=
 ck (be (List.replicate 144 false).length 144&&kZ 0 (List.replicate 144 false).length (List.replicate 144 false).length)<|(iter (xX n) n (a0.l,(el (List.replicate 144 false) 0 (List.replicate 144 false)))).bind λw4=>(dG (sub w4 0 144)).bind λx8=>ck (be x8.l.length 144&&kZ 0 x8.l.length (List.replicate 144 false).length)<|(dG (sub (el (List.replicate 144 false) 0 x8.l) 0 144)).bind λz1=>some z1
def qI(r3:dO):Stp Int (Unit⊕(dO×Bool))
 |v1=>(bif decide (v1<12)then ck (co v1 12)<|ck (co v1 12)<|(sy (el (List.replicate 144 false) 0 r3.l) (0+(v1:Int).toNat*12) v1).bind λx1=>(bif x1 then ck (be (List.replicate 144 false).length 144&&kZ 0 (List.replicate 144 false).length (List.replicate 144 false).length)<|((dG (sub (el (List.replicate 144 false) 0 (List.replicate 144 false)) 0 144)).bind λz2=>some (z2,false)).map λa=> .inr (.inr a)else some (.inl (i64.wrap (v1+1))))else some (.inr (.inl ())))
def qJ(a0:bL):Stp (Int×(List Bool)) (List Bool)
 |(v2,v3)=>(bif decide (v2<(a0.values:Int))then ck (co v2 12)<|ck (co v2 12)<|ck (decide ((0:Int)<=v2)&&kZ ((0+(v2:Int).toNat*12)+(v2:Int).toNat) 1 v3.length)<|some (.inl ((i64.wrap (v2+1)),(List.set v3 ((0+(v2:Int).toNat*12)+(v2:Int).toNat) true)))else some (.inr v3))
def rW(a0:bL):J (dO×Bool):=
 (uP n a0).bind λr1=>(bif (!r1)then ck (be (List.replicate 144 false).length 144&&kZ 0 (List.replicate 144 false).length (List.replicate 144 false).length)<|(dG (sub (el (List.replicate 144 false) 0 (List.replicate 144 false)) 0 144)).bind λz1=>some (z1,false)else(uQ n a0).bind λr2=>(uR n r2).bind λr3=>ck (be r3.l.length 144&&kZ 0 r3.l.length (List.replicate 144 false).length)<|dm (iter (qI r3) n (0:Int)) λ()=>(iter (qJ a0) n ((0:Int),(el (List.replicate 144 false) 0 r3.l))).bind λw1=>(dG (sub w1 0 144)).bind λx2=>ck (be x2.l.length 144&&kZ 0 x2.l.length (List.replicate 144 false).length)<|(dG (sub (el (List.replicate 144 false) 0 x2.l) 0 144)).bind λz3=>some (z3,true))
def sW(a0:U bL):Stp Int (Unit⊕Bool)
 |v1=>(bif decide (v1<(a0.length:Int))then(br a0 v1).bind λx1=>(rW n x1).bind λr1=>ck (be r1.1.l.length 144&&kZ 0 r1.1.l.length (List.replicate 144 false).length)<|(bif (!r1.2)then(some false).map λa=> .inr (.inr a)else some (.inl (i64.wrap (v1+1))))else some (.inr (.inl ())))
def uS(a0:U bL):J Bool:=
 dm (iter (sW n a0) n (0:Int)) λ()=>some (decide ((a0.length:Int)<=12))
def Cn(a0:U ax):J (List ax):=
 (bif a0.isEmpty then(both (some ([]:(List ax))) (ck (bP ([]:U ax).length 0 a0.length a0.length 32)<|iC (([]:U ax)++a0) λr1=>ck (be (sub r1 0 r1.length).length r1.length)<|some (sub r1 0 r1.length)))else ck (bP ([]:U ax).length 0 a0.length a0.length 32)<|iC (([]:U ax)++a0) λr2=>ck (be (sub r2 0 r2.length).length r2.length)<|some (sub r2 0 r2.length))
def nZ(a0:U Int):J (List Int):=
 (bif a0.isEmpty then(both (some ([]:(List Int))) (ck (bP ([]:U Int).length 0 a0.length a0.length 8)<|iC (([]:U Int)++a0) λr1=>ck (be (sub r1 0 r1.length).length r1.length)<|some (sub r1 0 r1.length)))else ck (bP ([]:U Int).length 0 a0.length a0.length 8)<|iC (([]:U Int)++a0) λr2=>ck (be (sub r2 0 r2.length).length r2.length)<|some (sub r2 0 r2.length))
def O8(a0:gI):J gI:=
 (Cn a0.area).bind λr1=>(nZ a0.from_).bind λr2=>ck (be (sub r1 0 r1.length).length r1.length)<|ck (be (sub r2 0 r2.length).length r2.length)<|some (gI.mk a0.id a0.owner (sub r1 0 r1.length) (sub r2 0 r2.length))
def Fz(a0:U gI)(a1:Int):Stp Int (Unit⊕(gI×Bool))
 |v1=>(bif decide (v1<(a0.length:Int))then(br a0 v1).bind λx1=>(bif (x1.id==(a1:Int))then(O8 x1).bind λr1=>(some (r1,true)).map λa=> .inr (.inr a)else some (.inl (i64.wrap (v1+1))))else some (.inr (.inl ())))
def Bw(a0:U gI)(a1:Int):J (gI×Bool):=
 dm (iter (Fz a0 a1) n (0:Int)) λ()=>some ((gI.mk 0 0 ([]) ([])),false)
def uT(_:Nat)(a0:U ByteArray):J (List ByteArray):=PB a0
def Jv(a0:U ByteArray)(v1:Int):Stp (Int×Int×(List ByteArray)) (Int×(List ByteArray))
 |(v2,v3,v4)=>(bif (decide (v3<((((a0.length -(v1:Int).toNat):Nat):Int):Int)))then(ck (co v3 (a0.length -(v1:Int).toNat))<|(br v4 (((0+(v1:Int).toNat):Nat)+v3:Int)).bind λx3=>ck (co (i64.wrap (v3 -1)) (a0.length -(v1:Int).toNat))<|(br v4 (((0+(v1:Int).toNat):Nat)+(i64.wrap (v3 -1)):Int)).bind λx4=>(bif (!(ByteArray.toList x3==ByteArray.toList x4))then ck (co v3 (a0.length -(v1:Int).toNat))<|(br v4 (((0+(v1:Int).toNat):Nat)+v3:Int)).bind λx5=>ck (co v2 a0.length)<|(br v4 ((0:Nat)+v2:Int)).bind λx6=>some ((i64.wrap (v2+1)),(v4.set ((0:Nat)+v2:Int).toNat x5))else some (v2,v4)):J (Int×(List ByteArray))).bind λ(v5,v6)=>some (.inl (v5,(i64.wrap (v3+1)),v6))else some (.inr (v2,v4)))
def Jw(a0:U ByteArray):Stp Int (Unit⊕(Unit×(List ByteArray)))
 |v1=>(bif decide (v1<(a0.length:Int))then ck (co v1 a0.length)<|(br a0 ((0:Nat)+v1:Int)).bind λx1=>ck (co (i64.wrap (v1 -1)) a0.length)<|(br a0 ((0:Nat)+(i64.wrap (v1 -1)):Int)).bind λx2=>(bif (ByteArray.toList x1==ByteArray.toList x2)then ck (vQ v1 (a0.length:Int) a0.length)<|(iter (Jv a0 v1) n (v1,(1:Int),a0)).bind λ(w1,w2)=>ck (vQ w1 (a0.length:Int) a0.length)<|ck (vQ 0 w1 a0.length)<|(ck (be ((w1:Int).toNat) ((w1:Int).toNat))<|ck (be (sub (w2.take (0+(w1:Int).toNat)) 0 ((w1:Int).toNat)).length ((w1:Int).toNat))<|some ((),(sub (w2.take (0+(w1:Int).toNat)) 0 ((w1:Int).toNat)))).map λa=> .inr (.inr a)else some (.inl (i64.wrap (v1+1))))else some (.inr (.inl ())))
def pU(a0:U ByteArray):J (Unit×(List ByteArray)):=
 (bif decide ((a0.length:Int)<2)then ck (be a0.length a0.length)<|ck (be (sub a0 0 a0.length).length a0.length)<|some ((),(sub a0 0 a0.length))else dm (iter (Jw n a0) n (1:Int)) λ()=>ck (be a0.length a0.length)<|ck (be (sub a0 0 a0.length).length a0.length)<|some ((),(sub a0 0 a0.length)))
def rC(a0:U ByteArray):J (List ByteArray):=
 some a0
def qm(a0:U ByteArray):J ((List ByteArray)×(List ByteArray)):=
 (FF a0).bind λr1=>ck (be r1.2.length r1.2.length)<|some (r1.1,r1.2)
def rD(a0:U ByteArray):J ((List ByteArray)×(List ByteArray)):=
 (qm a0).bind λr1=>ck (be r1.2.length r1.2.length)<|(uT n r1.2).bind λr2=>ck (be r1.2.length r2.length)<|some (r1.1,r2)
def nk(a0:U ByteArray):J Int:=
 (rC a0).bind λr1=>(rD n r1).bind λr2=>ck (be r2.2.length r2.2.length)<|(pU n r2.2).bind λr3=>some (r3.2.length:Int)
def pV(a0:ax):J Bool:=
 (bif decide (0<=(a0.x0:Int))then(bif decide (a0.x0<(a0.x1:Int))then(bif decide (a0.x1<=1048576)then(bif decide (0<=(a0.y0:Int))then(bif decide (a0.y0<(a0.y1:Int))then some (decide (a0.y1<=1048576))else some false)else some false)else some false)else some false)else some false)
def O9(a0:Unit)(a1:Int):J (List ax):=
 (bif decide (a1<0)then none else(bif (decide ((i64.wrap (a1 -(i64.wrap (0 -0))))>0))then ck (xw (i64.wrap (a1 -(i64.wrap (0 -0)))) 32)<|ck (vQ 0 0 ((i64.wrap (a1 -(i64.wrap (0 -0)))).toNat))<|ck (be (sub (List.replicate (i64.wrap (a1 -(i64.wrap (0 -0)))).toNat (ax.mk 0 0 0 0)) 0 0).length 0)<|some (sub (List.replicate (i64.wrap (a1 -(i64.wrap (0 -0)))).toNat (ax.mk 0 0 0 0)) 0 0)else some ([]:(List ax))))
def Pb(a0:U (List ax)):Stp (Int×Int) Int
 |(v1,v2)=>(bif decide (v2<(a0.length:Int))then(br a0 v2).bind λx1=>(bif decide ((i64.wrap (v1+(x1.length:Int)))<0)then none else some (.inl ((i64.wrap (v1+(x1.length:Int))),(i64.wrap (v2+1)))))else some (.inr v1))
def Pd(a0:U (List ax)):Stp (Int×(List ax)) (List ax)
 |(v3,v4)=>(bif decide (v3<(a0.length:Int))then(br a0 v3).bind λx2=>ck (bP v4.length v4.length x2.length x2.length 32)<|iC (v4++x2) λr2=>ck (be r2.length r2.length)<|some (.inl ((i64.wrap (v3+1)),r2))else ck (be v4.length v4.length)<|some (.inr v4))
def zN(a0:U (List ax)):J (List ax):=
 (iter (Pb a0) n ((0:Int),(0:Int))).bind λw1=>(O9 () w1).bind λr1=>ck (be r1.length r1.length)<|(iter (Pd a0) n ((0:Int),r1)).bind λw2=>ck (be (sub w2 0 w2.length).length w2.length)<|some (sub w2 0 w2.length)
def nR(_:Nat)(a0:U Int):J (List Int):=LS a0
def Pe(a0:U Int)(v1:Int):Stp (Int×Int×(List Int)) (Int×(List Int))
 |(v2,v3,v4)=>(bif (decide (v3<((((a0.length -(v1:Int).toNat):Nat):Int):Int)))then(ck (co v3 (a0.length -(v1:Int).toNat))<|(br v4 (((0+(v1:Int).toNat):Nat)+v3:Int)).bind λx3=>ck (co (i64.wrap (v3 -1)) (a0.length -(v1:Int).toNat))<|(br v4 (((0+(v1:Int).toNat):Nat)+(i64.wrap (v3 -1)):Int)).bind λx4=>(bif (x3 !=(x4:Int))then ck (co v3 (a0.length -(v1:Int).toNat))<|(br v4 (((0+(v1:Int).toNat):Nat)+v3:Int)).bind λx5=>ck (co v2 a0.length)<|(br v4 ((0:Nat)+v2:Int)).bind λx6=>some ((i64.wrap (v2+1)),(v4.set ((0:Nat)+v2:Int).toNat x5))else some (v2,v4)):J (Int×(List Int))).bind λ(v5,v6)=>some (.inl (v5,(i64.wrap (v3+1)),v6))else some (.inr (v2,v4)))
def Pf(a0:U Int):Stp Int (Unit⊕(Unit×(List Int)))
 |v1=>(bif decide (v1<(a0.length:Int))then ck (co v1 a0.length)<|(br a0 ((0:Nat)+v1:Int)).bind λx1=>ck (co (i64.wrap (v1 -1)) a0.length)<|(br a0 ((0:Nat)+(i64.wrap (v1 -1)):Int)).bind λx2=>(bif (x1==(x2:Int))then ck (vQ v1 (a0.length:Int) a0.length)<|(iter (Pe a0 v1) n (v1,(1:Int),a0)).bind λ(w1,w2)=>ck (vQ w1 (a0.length:Int) a0.length)<|ck (vQ 0 w1 a0.length)<|(ck (be ((w1:Int).toNat) ((w1:Int).toNat))<|ck (be (sub (w2.take (0+(w1:Int).toNat)) 0 ((w1:Int).toNat)).length ((w1:Int).toNat))<|some ((),(sub (w2.take (0+(w1:Int).toNat)) 0 ((w1:Int).toNat)))).map λa=> .inr (.inr a)else some (.inl (i64.wrap (v1+1))))else some (.inr (.inl ())))
def nL(a0:U Int):J (Unit×(List Int)):=
 (bif decide ((a0.length:Int)<2)then ck (be a0.length a0.length)<|ck (be (sub a0 0 a0.length).length a0.length)<|some ((),(sub a0 0 a0.length))else dm (iter (Pf n a0) n (1:Int)) λ()=>ck (be a0.length a0.length)<|ck (be (sub a0 0 a0.length).length a0.length)<|some ((),(sub a0 0 a0.length)))
def wE(_:Nat)(a0:U aN)(a1:(aN×aN×Unit)->J Int):J (List aN):=G1 a0 a1
def cmp_isNaN_int(a0:Int):J Bool:=
 some (a0 !=(a0:Int))
def cmp_Compare_int(a0:Int)(a1:Int):J Int:=
 (cmp_isNaN_int a0).bind λr1=>(cmp_isNaN_int a1).bind λr2=>(bif r1 then(bif r2 then some (0:Int)else some ((-1):Int))else(bif r2 then some (1:Int)else(bif decide (a0<(a1:Int))then some ((-1):Int)else(bif decide (a0>(a1:Int))then some (1:Int)else some (0:Int)))))
def yI(a0:aN)(a1:aN):J Int:=
 (cmp_Compare_int a0.from_ a1.from_).bind λr1=>some r1
def uU(a0:U ax)(a1:Int):Stp (Int×(List aN)) (List aN)
 |(v1,v2)=>(bif decide (v1<(a0.length:Int))then((br a0 v1).bind λx1=>((bif decide (x1.x0<=(a1:Int))then some (decide (a1<(x1.x1:Int)))else some false)).bind λv3=>(bif v3 then ck (bP v2.length v2.length (sub ([(aN.mk x1.y0 x1.y1)]:U aN) 0 1).length 1 16)<|iC (v2++(sub ([(aN.mk x1.y0 x1.y1)]:U aN) 0 1)) λr1=>ck (be r1.length r1.length)<|some r1 else ck (be v2.length v2.length)<|some v2):J ((List aN))).bind λv4=>ck (be v4.length v4.length)<|some (.inl ((i64.wrap (v1+1)),v4))else ck (be v2.length v2.length)<|some (.inr v2))
def uV(w1:U aN)(r2:U aN):Stp (Int×(List aN)) (List aN)
 |(v5,v6)=>(bif decide (v5<(w1.length:Int))then(ck (co v5 w1.length)<|(br r2 ((0:Nat)+v5:Int)).bind λx2=>((bif decide ((v6.length:Int)>0)then ck (co (i64.wrap ((v6.length:Int) -1)) v6.length)<|(br v6 ((0:Nat)+(i64.wrap ((v6.length:Int) -1)):Int)).bind λx3=>some (decide (x2.from_<=(x3.to:Int)))else some false)).bind λv7=>(bif v7 then ck (co (i64.wrap ((v6.length:Int) -1)) v6.length)<|(br v6 ((0:Nat)+(i64.wrap ((v6.length:Int) -1)):Int)).bind λx4=>ck (co (i64.wrap ((v6.length:Int) -1)) v6.length)<|(br v6 ((0:Nat)+(i64.wrap ((v6.length:Int) -1)):Int)).bind λx5=>ck (be v6.length (v6.set ((0:Nat)+(i64.wrap ((v6.length:Int) -1)):Int).toNat (aN.mk x5.from_ (max x4.to x2.to))).length)<|some (v6.set ((0:Nat)+(i64.wrap ((v6.length:Int) -1)):Int).toNat (aN.mk x5.from_ (max x4.to x2.to)))else ck (bP v6.length v6.length (sub ([x2]:U aN) 0 1).length 1 16)<|iC (v6++(sub ([x2]:U aN) 0 1)) λr3=>ck (be r3.length r3.length)<|some r3):J ((List aN))).bind λv8=>ck (be v8.length v8.length)<|some (.inl ((i64.wrap (v5+1)),v8))else ck (be v6.length v6.length)<|some (.inr v6))
def KS(a0:U ax)(a1:Int):J (List aN):=
 ck (be 0 ([]:U aN).length)<|(iter (uU a0 a1) n ((0:Int),([]:U aN))).bind λw1=>ck (be w1.length w1.length)<|(wE n w1 (λ (y1:aN×aN×Unit)=>yI y1.1 y1.2.1)).bind λr2=>ck (be 0 ([]:U aN).length)<|(iter (uV w1 r2) n ((0:Int),([]:U aN))).bind λw2=>ck (be (sub w2 0 w2.length).length w2.length)<|some (sub w2 0 w2.length)
def uW(r1:U ax):Stp (Int×(List Int)) (List Int)
 |(v1,v2)=>(bif decide (v1<(r1.length:Int))then ck (co v1 r1.length)<|(br r1 ((0:Nat)+v1:Int)).bind λx1=>ck (bP v2.length v2.length (sub ([x1.x0,x1.x1]:U Int) 0 2).length 2 8)<|iC (v2++(sub ([x1.x0,x1.x1]:U Int) 0 2)) λr2=>ck (be r2.length r2.length)<|some (.inl ((i64.wrap (v1+1)),r2))else ck (be v2.length v2.length)<|some (.inr v2))
def uX(r1:U ax)(r4:Unit×(List Int)):Stp (Int×(List bR)) (List bR)
 |(v3,v4)=>(bif decide (v3<(r4.2.length:Int))then ck (co (i64.wrap (v3 -1)) r4.2.length)<|(br r4.2 ((0:Nat)+(i64.wrap (v3 -1)):Int)).bind λx2=>ck (co v3 r4.2.length)<|(br r4.2 ((0:Nat)+v3:Int)).bind λx3=>ck (co (i64.wrap (v3 -1)) r4.2.length)<|(br r4.2 ((0:Nat)+(i64.wrap (v3 -1)):Int)).bind λx4=>ck (be (sub r1 0 r1.length).length r1.length)<|(KS n (sub r1 0 r1.length) x4).bind λr5=>ck (be (sub r5 0 r5.length).length r5.length)<|ck (bP v4.length v4.length (sub ([(bR.mk x2 x3 (sub r5 0 r5.length))]:U bR) 0 1).length 1 40)<|iC (v4++(sub ([(bR.mk x2 x3 (sub r5 0 r5.length))]:U bR) 0 1)) λr6=>ck (be r6.length r6.length)<|some (.inl ((i64.wrap (v3+1)),r6))else ck (be v4.length v4.length)<|some (.inr v4))
def pG(a0:U (List ax)):J (List bR):=
 (zN n a0).bind λr1=>ck (be 0 ([]:U Int).length)<|(iter (uW r1) n ((0:Int),([]:U Int))).bind λw1=>ck (be w1.length w1.length)<|(nR n w1).bind λr3=>ck (be w1.length r3.length)<|(nL n r3).bind λr4=>ck (be 0 ([]:U bR).length)<|(iter (uX n r1 r4) n ((1:Int),([]:U bR))).bind λw2=>ck (be (sub w2 0 w2.length).length w2.length)<|some (sub w2 0 w2.length)
def RA(a0:U aN)(a1:U aN):Stp Int (Unit⊕Bool)
 |v1=>(bif decide (v1<(a0.length:Int))then(br a0 v1).bind λx1=>(br a1 v1).bind λx2=>(bif (!((x1.from_==(x2.from_:Int))&&((x1.to==(x2.to:Int))&&true)))then(some false).map λa=> .inr (.inr a)else some (.inl (i64.wrap (v1+1))))else some (.inr (.inl ())))
def wO(a0:U aN)(a1:U aN):J Bool:=
 (bif ((a0.length:Int) !=(a1.length:Int))then some false else dm (iter (RA a0 a1) n (0:Int)) λ()=>some true)
def uo(a0:U bR)(v1:Int):Stp Int Int
 |v3=>((bif decide (v3<(a0.length:Int))then(br a0 v3).bind λx1=>(br a0 v1).bind λx2=>(wO n x1.column x2.column).bind λr1=>some r1 else some false)).bind λv4=>(bif v4 then some (.inl (i64.wrap (v3+1)))else some (.inr v3))
def xH(a0:U bR)(v1:Int)(w1:Int)(x3:bR):Stp (Int×(List ax)) (List ax)
 |(v5,v6)=>(bif decide (v5<(x3.column.length:Int))then(br x3.column v5).bind λx4=>(br a0 v1).bind λx5=>(br a0 (i64.wrap (w1 -1))).bind λx6=>ck (bP v6.length v6.length (sub ([(ax.mk x5.x0 x4.from_ x6.x1 x4.to)]:U ax) 0 1).length 1 32)<|iC (v6++(sub ([(ax.mk x5.x0 x4.from_ x6.x1 x4.to)]:U ax) 0 1)) λr2=>ck (be r2.length r2.length)<|some (.inl ((i64.wrap (v5+1)),r2))else ck (be v6.length v6.length)<|some (.inr v6))
def xI(a0:U bR):Stp (Int×(List ax)) (List ax)
 |(v1,v2)=>(bif decide (v1<(a0.length:Int))then(iter (uo n a0 v1) n (i64.wrap (v1+1))).bind λw1=>(br a0 v1).bind λx3=>ck (be v2.length v2.length)<|(iter (xH a0 v1 w1 x3) n ((0:Int),v2)).bind λw2=>ck (be w2.length w2.length)<|some (.inl (w1,w2))else ck (be v2.length v2.length)<|some (.inr v2))
def Jy(a0:U bR):J (List ax):=
 ck (be 0 ([]:U ax).length)<|(iter (xI n a0) n ((0:Int),([]:U ax))).bind λw3=>ck (be (sub w3 0 w3.length).length w3.length)<|some (sub w3 0 w3.length)
def zO(a0:U ax):J ((List ax)×Int):=
 (bif decide ((a0.length:Int)>200)then some (([]:(List ax)),(6:Int))else some (a0,(0:Int)))
def Pg(a0:U ax):Stp Int (Unit⊕((List ax)×Int))
 |v1=>(bif decide (v1<(a0.length:Int))then(br a0 v1).bind λx1=>(pV x1).bind λr1=>(bif (!r1)then(some (([]:(List ax)),(1:Int))).map λa=> .inr (.inr a)else some (.inl (i64.wrap (v1+1))))else some (.inr (.inl ())))
def Ok(a0:U ax):J ((List ax)×Int):=
 dm (iter (Pg a0) n (0:Int)) λ()=>(bif decide ((a0.length:Int)>400)then some (([]:(List ax)),(6:Int))else ck (be (sub ([a0]:U (List ax)) 0 1).length 1)<|(pG n (sub ([a0]:U (List ax)) 0 1)).bind λr2=>ck (be (sub r2 0 r2.length).length r2.length)<|(Jy n (sub r2 0 r2.length)).bind λr3=>ck (be (sub r3 0 r3.length).length r3.length)<|(zO (sub r3 0 r3.length)).bind λr4=>some (r4.1,r4.2))
def RB(a0:U ax)(a1:U ax):Stp Int (Unit⊕Bool)
 |v1=>(bif decide (v1<(a0.length:Int))then(br a0 v1).bind λx1=>(br a1 v1).bind λx2=>(bif (!((x1.x0==(x2.x0:Int))&&((x1.y0==(x2.y0:Int))&&((x1.x1==(x2.x1:Int))&&((x1.y1==(x2.y1:Int))&&true)))))then(some false).map λa=> .inr (.inr a)else some (.inl (i64.wrap (v1+1))))else some (.inr (.inl ())))
def pI(a0:U ax)(a1:U ax):J Bool:=
 (bif ((a0.length:Int) !=(a1.length:Int))then some false else dm (iter (RB a0 a1) n (0:Int)) λ()=>some true)
def l5(a0:U ax):J Bool:=
 (Ok n a0).bind λr1=>(bif (r1.2==0)then(pI n r1.1 a0).bind λr2=>some r2 else some false)
def og(a0:aQ)(a1:Int)(a2:Int):Stp (Int×(List aH)) (List aH)
 |(v1,v2)=>(bif decide (v1<(a0.phases.length:Int))then((br a0.phases v1).bind λx1=>((bif decide (v1>=(a1:Int))then some (decide (v1<(a2:Int)))else some false)).bind λv3=>(bif v3 then ck (bP v2.length v2.length x1.cj.length x1.cj.length 72)<|iC (v2++x1.cj) λr1=>ck (be r1.length r1.length)<|some r1 else ck (be v2.length v2.length)<|some v2):J ((List aH))).bind λv4=>ck (be v4.length v4.length)<|some (.inl ((i64.wrap (v1+1)),v4))else ck (be v2.length v2.length)<|some (.inr v2))
def oU(a0:aQ)(a1:Int)(a2:Int):J (List aH):=
 ck (be 0 ([]:U aH).length)<|(iter (og a0 a1 a2) n ((0:Int),([]:U aH))).bind λw1=>ck (be (sub w1 0 w1.length).length w1.length)<|some (sub w1 0 w1.length)
def gu(a0:aH):J Bool:=
 ((pV (ax.mk a0.bx a0.ca a0.bu a0.b9)).bind λr1=>(bif (!r1)then some true else(bif decide (a0.eh<0)then some true else(bif decide (a0.eh>=(a0.d6:Int))then some true else some (decide (a0.d6>4096)))))).bind λv1=>(bif v1 then some false else((bif (a0.use !=0)then some (a0.units !=0)else some false)).bind λv2=>(bif v2 then some false else(bif decide (a0.use>=0)then(bif decide (a0.use<6)then(bif decide (a0.units>=0)then some (decide (a0.units<=1048576))else some false)else some false)else some false)))
def zi(a0:ax):J (ax×Bool):=
 (pV a0).bind λr1=>(bif r1 then some (a0,true)else some ((ax.mk 0 0 0 0),false))
def zP(a0:ax):J Int:=
 (zi a0).bind λr1=>some (i64.wrap ((i64.wrap (r1.1.x1 -r1.1.x0))*(i64.wrap (r1.1.y1 -r1.1.y0))))
def FB(a0:U ax):Stp (Int×Int) Int
 |(v1,v2)=>(bif decide (v2<(a0.length:Int))then(br a0 v2).bind λx1=>(zP x1).bind λr2=>some (.inl ((i64.wrap (v1+r2)),(i64.wrap (v2+1))))else some (.inr v1))
def Ph(a0:U ax):J Int:=
 (l5 n a0).bind λr1=>(bif (!r1)then some (0:Int)else(iter (FB a0) n ((0:Int),(0:Int))).bind λw1=>some w1)
def wF(_:Nat)(a0:U ax)(a1:(ax×ax×Unit)->J Int):J (List ax):=G1 a0 a1
def iV(a0:ax)(a1:ax):J Int:=
 (cmp_Compare_int a0.y0 a1.y0).bind λr1=>some r1
def lD(a0:aH):J Int:=
 ((bif a0.extra then some true else(gu a0).bind λr1=>some (!r1))).bind λv1=>(bif v1 then some (0:Int)else ck (3 !=0)<|some (i64.wrap (Int.tdiv (i64.wrap ((i64.wrap ((i64.wrap (a0.d6 -a0.eh))+3)) -1)) 3)))
def pJ(a0:aH):J Int:=
 (gu a0).bind λr1=>(bif (!r1)then some (0:Int)else(zP (ax.mk a0.bx a0.ca a0.bu a0.b9)).bind λr2=>(lD a0).bind λr3=>some (i64.wrap (r2*r3)))
def oh(a0:aH):J Int:=
 some a0.d6
def pR(a0:aH):J Int:=
 some a0.units
def Co(a0:ax)(a1:Int):J (ax×Bool):=
 (pV (ax.mk (i64.wrap (a0.x0 -a1)) (i64.wrap (a0.y0 -a1)) (i64.wrap (a0.x1+a1)) (i64.wrap (a0.y1+a1)))).bind λr1=>some ((ax.mk (i64.wrap (a0.x0 -a1)) (i64.wrap (a0.y0 -a1)) (i64.wrap (a0.x1+a1)) (i64.wrap (a0.y1+a1))),r1)
def uq(a0:ax)(a1:ax):J (ax×Bool):=
 ((pV a0).bind λr1=>(bif (!r1)then some true else(pV a1).bind λr2=>some (!r2))).bind λv1=>(bif v1 then some ((ax.mk 0 0 0 0),false)else(zi (ax.mk (max a0.x0 a1.x0) (max a0.y0 a1.y0) (min a0.x1 a1.x1) (min a0.y1 a1.y1))).bind λr3=>some (r3.1,r3.2))
def kN(a0:bQ)(a1:KR)(a2:Int):J Bool:=
 ck (co a2 6)<|(br ([a1.a0,a1.a1,a1.a2,a1.a3,a1.a4,a1.a5]:U ByteArray) a2).bind λx1=>some (ByteArray.toList a0.name==ByteArray.toList x1)
def GI(a0:U bQ)(a1:(bQ×Unit)->J Bool):Stp Int (Unit⊕Int)
 |v1=>(bif decide (v1<(a0.length:Int))then(br a0 v1).bind λx1=>(a1 (x1,())).bind λr1=>(bif r1 then(some v1).map λa=> .inr (.inr a)else some (.inl (i64.wrap (v1+1))))else some (.inr (.inl ())))
def kP(a0:U bQ)(a1:(bQ×Unit)->J Bool):J Int:=
 dm (iter (GI a0 a1) n (0:Int)) λ()=>some ((-1):Int)
def kQ(a0:cK)(a1:Int):Stp Int (Unit⊕Int)
 |v1=>(bif decide (v1<(a0.tables.length:Int))then(br a0.tables v1).bind λx1=>(bif (!(ByteArray.toList x1.name==ByteArray.toList (⟨#[116,114,97,102,102,105,99]⟩)))then some (.inl (i64.wrap (v1+1)))else((kP n x1.rows (λ (y1:bQ×Unit)=>kN y1.1 (KR.mk (⟨#[104,111,109,101]⟩) (⟨#[115,104,111,112]⟩) (⟨#[119,111,114,107]⟩) (⟨#[112,97,114,107]⟩) (⟨#[112,108,97,110,116]⟩) (⟨#[104,97,108,108]⟩)) a1)).bind λr1=>(bif decide (r1>=0)then(br x1.rows r1).bind λx2=>some x2.n else some x1.sk):J Int).bind λv2=>(some (max (0:Int) (min v2 (1048576:Int)))).map λa=> .inr (.inr a))else some (.inr (.inl ())))
def Bz(a0:cK)(a1:Int):J Int:=
 dm (iter (kQ n a0 a1) n (0:Int)) λ()=>some (0:Int)
def lF(a0:cK)(a1:aH):J Int:=
 (Bz n a0 a1.use).bind λr1=>(pJ a1).bind λr2=>((bif decide (r1>0)then ck (r1 !=0)<|some (decide (r2>((i64.wrap (Int.tdiv 109951162777600 r1)):Int)))else some false)).bind λv1=>(bif v1 then some (1099511627776:Int)else ck (100 !=0)<|some (i64.wrap (Int.tdiv (i64.wrap ((i64.wrap ((i64.wrap (r1*r2))+100)) -1)) 100)))
def nu(a0:U fG)(a1:U bT)(a2:U dV)(a3:U bC)(a4:U gJ)(a5:U fA)(a6:U bS)(a7:Int)(a8:U ax)(a9:U aH):J (Int×ic):=
 (Ph n a8).bind λr1=>ck (be a9.length a9.length)<|some (r1,a0,a1,a2,a3,a4,a5,a6,a7,a8,a9)
def gH(a9:U aH):Stp (Int×(List ax)×(List Int)) ((List ax)×(List Int))
 |(v1,v2,v3)=>(bif decide (v1<(a9.length:Int))then ck (co v1 a9.length)<|(br a9 ((0:Nat)+v1:Int)).bind λx1=>ck (co v1 ((a9.length:Int).toNat))<|(br v2 ((0:Nat)+v1:Int)).bind λx2=>ck (co v1 ((a9.length:Int).toNat))<|(br (v2.set ((0:Nat)+v1:Int).toNat (ax.mk x1.bx x1.ca x1.bu x1.b9)) ((0:Nat)+v1:Int)).bind λx3=>ck (co v1 ((a9.length:Int).toNat))<|(br (v2.set ((0:Nat)+v1:Int).toNat (ax.mk x1.bx x1.ca x1.bu x1.b9)) ((0:Nat)+v1:Int)).bind λx4=>ck (bP v3.length v3.length (sub ([x3.x0,x4.x1]:U Int) 0 2).length 2 8)<|iC (v3++(sub ([x3.x0,x4.x1]:U Int) 0 2)) λr1=>ck (be r1.length r1.length)<|some (.inl ((i64.wrap (v1+1)),(v2.set ((0:Nat)+v1:Int).toNat (ax.mk x1.bx x1.ca x1.bu x1.b9)),r1))else ck (be v3.length v3.length)<|some (.inr (v2,v3)))
def jg(a9:U aH)(w2:U Int)(r2:U ax)(r3:U Int)(v5:Int):Stp (Int×Int×Int) Int
 |(v6,v7,v8)=>(bif (decide (v8<((((a9.length:Int).toNat:Nat):Int):Int)))then(ck (co v8 ((a9.length:Int).toNat))<|(br r2 ((0:Nat)+v8:Int)).bind λx5=>(ck (co v5 w2.length)<|(br r3 ((0:Nat)+v5:Int)).bind λx6=>(bif decide (x5.x0<=(x6:Int))then ck (co v5 w2.length)<|(br r3 ((0:Nat)+v5:Int)).bind λx7=>(bif decide (x7<(x5.x1:Int))then some (decide (x5.y1>(v7:Int)))else some false)else some false)).bind λv9=>(bif v9 then ck (co (i64.wrap (v5+1)) w2.length)<|(br r3 ((0:Nat)+(i64.wrap (v5+1)):Int)).bind λx8=>ck (co v5 w2.length)<|(br r3 ((0:Nat)+v5:Int)).bind λx9=>some ((i64.wrap (v6+(i64.wrap ((i64.wrap (x8 -x9))*(i64.wrap (x5.y1 -(max v7 x5.y0))))))),x5.y1)else some (v6,v7)):J (Int×Int)).bind λ(v10,v11)=>some (.inl (v10,v11,(i64.wrap (v8+1))))else some (.inr v6))
def jh(a9:U aH)(w2:U Int)(r2:U ax)(r3:U Int):Stp (Int×Int) Int
 |(v4,v5)=>(bif (decide (v5<((max (0:Int) (i64.wrap ((w2.length:Int) -1))):Int)))then(iter (jg a9 w2 r2 r3 v5) n (v4,(0:Int),(0:Int))).bind λw3=>some (.inl (w3,(i64.wrap (v5+1))))else some (.inr v4))
def iW(a0:U fG)(a1:U bT)(a2:U dV)(a3:U bC)(a4:U gJ)(a5:U fA)(a6:U bS)(a7:Int)(a8:U ax)(a9:U aH):J (Int×ic):=
 ck (decide ((a9.length:Int)<=(a9.length:Int))&&(decide (0<=(a9.length:Int))&&xw (a9.length:Int) 32))<|ck (be 0 ([]:U Int).length)<|(iter (gH a9) n ((0:Int),(List.replicate (a9.length:Int).toNat (ax.mk 0 0 0 0)),([]:U Int))).bind λ(w1,w2)=>ck (be ((a9.length:Int).toNat) w1.length)<|(wF n w1 (λ (y1:ax×ax×Unit)=>iV y1.1 y1.2.1)).bind λr2=>ck (be w2.length w2.length)<|(nR n w2).bind λr3=>(iter (jh n a9 w2 r2 r3) n ((0:Int),(0:Int))).bind λw4=>ck (be a9.length a9.length)<|some (w4,a0,a1,a2,a3,a4,a5,a6,a7,a8,a9)
def jS(a9:U aH):Stp (Int×Int) Int
 |(v1,v2)=>(bif decide (v2<(a9.length:Int))then ck (co v2 a9.length)<|(br a9 ((0:Nat)+v2:Int)).bind λx1=>(pJ x1).bind λr1=>some (.inl ((i64.wrap (v1+r1)),(i64.wrap (v2+1))))else some (.inr v1))
def rE(a0:U fG)(a1:U bT)(a2:U dV)(a3:U bC)(a4:U gJ)(a5:U fA)(a6:U bS)(a7:Int)(a8:U ax)(a9:U aH):J (Int×ic):=
 (iter (jS a9) n ((0:Int),(0:Int))).bind λw1=>ck (be a9.length a9.length)<|some (w1,a0,a1,a2,a3,a4,a5,a6,a7,a8,a9)
def kU(a0:U fG)(a1:U bT)(a2:U dV)(a3:U bC)(a4:U gJ)(a5:U fA)(a6:U bS)(a7:Int)(a8:U ax)(a9:U aH):J (Int×ic):=
 ck (be a9.length a9.length)<|(rE n a0 a1 a2 a3 a4 a5 a6 a7 a8 a9).bind λr1=>ck (be r1.2.2.2.2.2.2.2.2.2.2.length r1.2.2.2.2.2.2.2.2.2.2.length)<|some (r1.1,r1.2.1,r1.2.2.1,r1.2.2.2.1,r1.2.2.2.2.1,r1.2.2.2.2.2.1,r1.2.2.2.2.2.2.1,r1.2.2.2.2.2.2.2.1,r1.2.2.2.2.2.2.2.2.1,r1.2.2.2.2.2.2.2.2.2.1,r1.2.2.2.2.2.2.2.2.2.2)
def ig(a9:U aH):Stp (Int×Int) Int
 |(v1,v2)=>(bif decide (v2<(a9.length:Int))then ck (co v2 a9.length)<|(br a9 ((0:Nat)+v2:Int)).bind λx1=>(lD x1).bind λr1=>some (.inl ((max v1 r1),(i64.wrap (v2+1))))else some (.inr v1))
def mV(a0:U fG)(a1:U bT)(a2:U dV)(a3:U bC)(a4:U gJ)(a5:U fA)(a6:U bS)(a7:Int)(a8:U ax)(a9:U aH):J (Int×ic):=
 (iter (ig a9) n ((0:Int),(0:Int))).bind λw1=>ck (be a9.length a9.length)<|some (w1,a0,a1,a2,a3,a4,a5,a6,a7,a8,a9)
def jT(a0:U fG)(a1:U bT)(a2:U dV)(a3:U bC)(a4:U gJ)(a5:U fA)(a6:U bS)(a7:Int)(a8:U ax)(a9:U aH):J (Int×ic):=
 ck (be a9.length a9.length)<|(mV n a0 a1 a2 a3 a4 a5 a6 a7 a8 a9).bind λr1=>ck (be r1.2.2.2.2.2.2.2.2.2.2.length r1.2.2.2.2.2.2.2.2.2.2.length)<|some (r1.1,r1.2.1,r1.2.2.1,r1.2.2.2.1,r1.2.2.2.2.1,r1.2.2.2.2.2.1,r1.2.2.2.2.2.2.1,r1.2.2.2.2.2.2.2.1,r1.2.2.2.2.2.2.2.2.1,r1.2.2.2.2.2.2.2.2.2.1,r1.2.2.2.2.2.2.2.2.2.2)
def iq(a9:U aH):Stp (Int×Int) Int
 |(v1,v2)=>(bif decide (v2<(a9.length:Int))then ck (co v2 a9.length)<|(br a9 ((0:Nat)+v2:Int)).bind λx1=>(oh x1).bind λr1=>some (.inl ((max v1 r1),(i64.wrap (v2+1))))else some (.inr v1))
def mW(a0:U fG)(a1:U bT)(a2:U dV)(a3:U bC)(a4:U gJ)(a5:U fA)(a6:U bS)(a7:Int)(a8:U ax)(a9:U aH):J (Int×ic):=
 (iter (iq a9) n ((0:Int),(0:Int))).bind λw1=>ck (be a9.length a9.length)<|some (w1,a0,a1,a2,a3,a4,a5,a6,a7,a8,a9)
def jU(a0:U fG)(a1:U bT)(a2:U dV)(a3:U bC)(a4:U gJ)(a5:U fA)(a6:U bS)(a7:Int)(a8:U ax)(a9:U aH):J (Int×ic):=
 ck (be a9.length a9.length)<|(mW n a0 a1 a2 a3 a4 a5 a6 a7 a8 a9).bind λr1=>ck (be r1.2.2.2.2.2.2.2.2.2.2.length r1.2.2.2.2.2.2.2.2.2.2.length)<|some (r1.1,r1.2.1,r1.2.2.1,r1.2.2.2.1,r1.2.2.2.2.1,r1.2.2.2.2.2.1,r1.2.2.2.2.2.2.1,r1.2.2.2.2.2.2.2.1,r1.2.2.2.2.2.2.2.2.1,r1.2.2.2.2.2.2.2.2.2.1,r1.2.2.2.2.2.2.2.2.2.2)
def jV(a9:U aH):Stp (Int×Int) Int
 |(v1,v2)=>(bif decide (v2<(a9.length:Int))then ck (co v2 a9.length)<|(br a9 ((0:Nat)+v2:Int)).bind λx1=>(pR x1).bind λr1=>some (.inl ((i64.wrap (v1+r1)),(i64.wrap (v2+1))))else some (.inr v1))
def rF(a0:U fG)(a1:U bT)(a2:U dV)(a3:U bC)(a4:U gJ)(a5:U fA)(a6:U bS)(a7:Int)(a8:U ax)(a9:U aH):J (Int×ic):=
 (iter (jV a9) n ((0:Int),(0:Int))).bind λw1=>ck (be a9.length a9.length)<|some (w1,a0,a1,a2,a3,a4,a5,a6,a7,a8,a9)
def kV(a0:U fG)(a1:U bT)(a2:U dV)(a3:U bC)(a4:U gJ)(a5:U fA)(a6:U bS)(a7:Int)(a8:U ax)(a9:U aH):J (Int×ic):=
 ck (be a9.length a9.length)<|(rF n a0 a1 a2 a3 a4 a5 a6 a7 a8 a9).bind λr1=>ck (be r1.2.2.2.2.2.2.2.2.2.2.length r1.2.2.2.2.2.2.2.2.2.2.length)<|some (r1.1,r1.2.1,r1.2.2.1,r1.2.2.2.1,r1.2.2.2.2.1,r1.2.2.2.2.2.1,r1.2.2.2.2.2.2.1,r1.2.2.2.2.2.2.2.1,r1.2.2.2.2.2.2.2.2.1,r1.2.2.2.2.2.2.2.2.2.1,r1.2.2.2.2.2.2.2.2.2.2)
def iT(i8:U ax)(r1:ax×Bool):Stp (Int×Int) Int
 |(v1,v2)=>(bif decide (v2<(i8.length:Int))then((br i8 v2).bind λx1=>(uq r1.1 x1).bind λr2=>(bif r2.2 then(zP r2.1).bind λr3=>some (i64.wrap (v1+r3))else some v1):J Int).bind λv3=>some (.inl (v3,(i64.wrap (v2+1))))else some (.inr v1))
def jW(a0:ax)(a1:Int)(a2:U fG)(a3:U bT)(a4:U dV)(a5:U bC)(a6:U gJ)(a7:U fA)(a8:U bS)(a9:Int)(i8:U ax)(tc:U aH):J (Bool×ic):=
 (Co a0 a1).bind λr1=>(bif (!r1.2)then ck (be tc.length tc.length)<|some (false,a2,a3,a4,a5,a6,a7,a8,a9,i8,tc)else(iter (iT i8 r1) n ((0:Int),(0:Int))).bind λw1=>(zP r1.1).bind λr4=>ck (be tc.length tc.length)<|some ((w1==(r4:Int)),a2,a3,a4,a5,a6,a7,a8,a9,i8,tc))
def eY(x1:aH):Stp (Int×Int×ic) (Int×ic)
 |(v13,v14,v15,v16,v17,v18,v19,v20,v21,v22,v23,v24)=>(bif decide (v13<(v14:Int))then ck (2 !=0)<|ck (be v24.length v24.length)<|(jW n (ax.mk x1.bx x1.ca x1.bu x1.b9) (i64.wrap (Int.tdiv (i64.wrap ((i64.wrap (v13+v14))+1)) 2)) v15 v16 v17 v18 v19 v20 v21 v22 v23 v24).bind λr1=>(bif r1.1 then ck (be r1.2.2.2.2.2.2.2.2.2.2.length r1.2.2.2.2.2.2.2.2.2.2.length)<|some (.inl ((i64.wrap (Int.tdiv (i64.wrap ((i64.wrap (v13+v14))+1)) 2)),v14,r1.2.1,r1.2.2.1,r1.2.2.2.1,r1.2.2.2.2.1,r1.2.2.2.2.2.1,r1.2.2.2.2.2.2.1,r1.2.2.2.2.2.2.2.1,r1.2.2.2.2.2.2.2.2.1,r1.2.2.2.2.2.2.2.2.2.1,r1.2.2.2.2.2.2.2.2.2.2))else ck (be r1.2.2.2.2.2.2.2.2.2.2.length r1.2.2.2.2.2.2.2.2.2.2.length)<|some (.inl (v13,(i64.wrap ((i64.wrap (Int.tdiv (i64.wrap ((i64.wrap (v13+v14))+1)) 2)) -1)),r1.2.1,r1.2.2.1,r1.2.2.2.1,r1.2.2.2.2.1,r1.2.2.2.2.2.1,r1.2.2.2.2.2.2.1,r1.2.2.2.2.2.2.2.1,r1.2.2.2.2.2.2.2.2.1,r1.2.2.2.2.2.2.2.2.2.1,r1.2.2.2.2.2.2.2.2.2.2)))else ck (be v24.length v24.length)<|some (.inr (v13,v15,v16,v17,v18,v19,v20,v21,v22,v23,v24)))
def iF(a9:U aH):Stp (Int×Int×ic) (Int×ic)
 |(v1,v2,v3,v4,v5,v6,v7,v8,v9,v10,v11,v12)=>(bif decide (v2<(a9.length:Int))then ck (co v2 a9.length)<|(br v12 ((0:Nat)+v2:Int)).bind λx1=>ck (be v12.length v12.length)<|(iter (eY n x1) n ((0:Int),v1,v3,v4,v5,v6,v7,v8,v9,v10,v11,v12)).bind λ(w1,w2,w3,w4,w5,w6,w7,w8,w9,AS,AN)=>ck (be AN.length AN.length)<|some (.inl (w1,(i64.wrap (v2+1)),w2,w3,w4,w5,w6,w7,w8,w9,AS,AN))else ck (be v12.length v12.length)<|some (.inr (v1,v3,v4,v5,v6,v7,v8,v9,v10,v11,v12)))
def jC(a0:U fG)(a1:U bT)(a2:U dV)(a3:U bC)(a4:U gJ)(a5:U fA)(a6:U bS)(a7:Int)(a8:U ax)(a9:U aH):J (Int×ic):=
 ck (be a9.length a9.length)<|(iter (iF n a9) n ((1048576:Int),(0:Int),a0,a1,a2,a3,a4,a5,a6,a7,a8,a9)).bind λ(w12,w13,w14,w15,w16,w17,w18,w19,w20,w21,Q3)=>ck (be Q3.length Q3.length)<|some (w12,w13,w14,w15,w16,w17,w18,w19,w20,w21,Q3)
def kR(a0:aH)(a1:U fG)(a2:U bT)(a3:U dV)(a4:U bC)(a5:U gJ)(a6:U fA)(a7:U bS)(a8:Int)(a9:U ax)(i8:U aH):J (Int×ic):=
 (lF n (cK.mk a1 a2 a3 a4 a5 a6 a7 a8) a0).bind λr1=>ck (be i8.length i8.length)<|some (r1,a1,a2,a3,a4,a5,a6,a7,a8,a9,i8)
def jX(a9:U aH):Stp (Int×Int×ic) (Int×ic)
 |(v1,v2,v3,v4,v5,v6,v7,v8,v9,v10,v11,v12)=>(bif decide (v2<(a9.length:Int))then ck (co v2 a9.length)<|(br v12 ((0:Nat)+v2:Int)).bind λx1=>ck (be v12.length v12.length)<|(kR n x1 v3 v4 v5 v6 v7 v8 v9 v10 v11 v12).bind λr1=>ck (be r1.2.2.2.2.2.2.2.2.2.2.length r1.2.2.2.2.2.2.2.2.2.2.length)<|some (.inl ((i64.wrap (v1+r1.1)),(i64.wrap (v2+1)),r1.2.1,r1.2.2.1,r1.2.2.2.1,r1.2.2.2.2.1,r1.2.2.2.2.2.1,r1.2.2.2.2.2.2.1,r1.2.2.2.2.2.2.2.1,r1.2.2.2.2.2.2.2.2.1,r1.2.2.2.2.2.2.2.2.2.1,r1.2.2.2.2.2.2.2.2.2.2))else ck (be v12.length v12.length)<|some (.inr (v1,v3,v4,v5,v6,v7,v8,v9,v10,v11,v12)))
def rG(a0:U fG)(a1:U bT)(a2:U dV)(a3:U bC)(a4:U gJ)(a5:U fA)(a6:U bS)(a7:Int)(a8:U ax)(a9:U aH):J (Int×ic):=
 ck (be a9.length a9.length)<|(iter (jX n a9) n ((0:Int),(0:Int),a0,a1,a2,a3,a4,a5,a6,a7,a8,a9)).bind λ(w1,w2,w3,w4,w5,w6,w7,w8,w9,AS,AN)=>ck (be AN.length AN.length)<|some (w1,w2,w3,w4,w5,w6,w7,w8,w9,AS,AN)
def jD(a0:U fG)(a1:U bT)(a2:U dV)(a3:U bC)(a4:U gJ)(a5:U fA)(a6:U bS)(a7:Int)(a8:U ax)(a9:U aH):J (Int×ic):=
 ck (be a9.length a9.length)<|(rG n a0 a1 a2 a3 a4 a5 a6 a7 a8 a9).bind λr1=>ck (be r1.2.2.2.2.2.2.2.2.2.2.length r1.2.2.2.2.2.2.2.2.2.2.length)<|some (r1.1,r1.2.1,r1.2.2.1,r1.2.2.2.1,r1.2.2.2.2.1,r1.2.2.2.2.2.1,r1.2.2.2.2.2.2.1,r1.2.2.2.2.2.2.2.1,r1.2.2.2.2.2.2.2.2.1,r1.2.2.2.2.2.2.2.2.2.1,r1.2.2.2.2.2.2.2.2.2.2)
def rX(r2:U aH):Stp (Int×ic) (ic)
 |(v10,v11,v12,v13,v14,v15,v16,v17,v18,v19,v20)=>(bif decide (v10<(r2.length:Int))then(ck (co v10 r2.length)<|(br r2 ((0:Nat)+v10:Int)).bind λx1=>((bif decide (v10<40)then(gu x1).bind λr3=>some r3 else some false)).bind λv21=>(bif v21 then ck (bP v20.length v20.length (sub ([x1]:U aH) 0 1).length 1 72)<|iC (v20++(sub ([x1]:U aH) 0 1)) λr4=>ck (be r4.length r4.length)<|some (v11,v12,v13,v14,v15,v16,v17,v18,v19,r4)else ck (be v20.length v20.length)<|some (v11,v12,v13,v14,v15,v16,v17,v18,v19,v20)):J (ic)).bind λ(v22,v23,v24,v25,v26,v27,v28,v29,v30,v31)=>ck (be v31.length v31.length)<|some (.inl ((i64.wrap (v10+1)),v22,v23,v24,v25,v26,v27,v28,v29,v30,v31))else ck (be v20.length v20.length)<|some (.inr (v11,v12,v13,v14,v15,v16,v17,v18,v19,v20)))
def om(a0:cK)(a1:gI)(a2:aQ):J (List bQ):=
 ((l5 n a1.area).bind λr1=>(bif r1 then some (a0.defs,a0.tables,a0.zones,a0.rules,a0.caps,a0.views,a0.uv,a0.hours,a1.area)else some (a0.defs,a0.tables,a0.zones,a0.rules,a0.caps,a0.views,a0.uv,a0.hours,([]:(List ax)))):J ((List fG)×(List bT)×(List dV)×(List bC)×(List gJ)×(List fA)×(List bS)×Int×(List ax))).bind λ(v1,v2,v3,v4,v5,v6,v7,v8,v9)=>(oU n a2 0 (a2.phases.length:Int)).bind λr2=>ck (be 0 ([]:U aH).length)<|(iter (rX r2) n ((0:Int),v1,v2,v3,v4,v5,v6,v7,v8,v9,([]:U aH))).bind λ(w1,w2,w3,w4,w5,w6,w7,w8,w9,AS)=>ck (be AS.length AS.length)<|(nu n w1 w2 w3 w4 w5 w6 w7 w8 w9 AS).bind λr5=>ck (bP 0 0 (sub ([(bQ.mk (⟨#[97,114,101,97]⟩) r5.1)]:U bQ) 0 1).length 1 24)<|iC ((sub ([(bQ.mk (⟨#[97,114,101,97]⟩) r5.1)]:U bQ) 0 1)) λr6=>ck (be r5.2.2.2.2.2.2.2.2.2.2.length r5.2.2.2.2.2.2.2.2.2.2.length)<|(iW n r5.2.1 r5.2.2.1 r5.2.2.2.1 r5.2.2.2.2.1 r5.2.2.2.2.2.1 r5.2.2.2.2.2.2.1 r5.2.2.2.2.2.2.2.1 r5.2.2.2.2.2.2.2.2.1 r5.2.2.2.2.2.2.2.2.2.1 r5.2.2.2.2.2.2.2.2.2.2).bind λr7=>ck (bP r6.length r6.length (sub ([(bQ.mk (⟨#[99,111,118,101,114]⟩) r7.1)]:U bQ) 0 1).length 1 24)<|iC (r6++(sub ([(bQ.mk (⟨#[99,111,118,101,114]⟩) r7.1)]:U bQ) 0 1)) λr8=>ck (be r7.2.2.2.2.2.2.2.2.2.2.length r7.2.2.2.2.2.2.2.2.2.2.length)<|(kU n r7.2.1 r7.2.2.1 r7.2.2.2.1 r7.2.2.2.2.1 r7.2.2.2.2.2.1 r7.2.2.2.2.2.2.1 r7.2.2.2.2.2.2.2.1 r7.2.2.2.2.2.2.2.2.1 r7.2.2.2.2.2.2.2.2.2.1 r7.2.2.2.2.2.2.2.2.2.2).bind λr9=>ck (bP r8.length r8.length (sub ([(bQ.mk (⟨#[102,108,111,111,114]⟩) r9.1)]:U bQ) 0 1).length 1 24)<|iC (r8++(sub ([(bQ.mk (⟨#[102,108,111,111,114]⟩) r9.1)]:U bQ) 0 1)) λoy=>ck (be r9.2.2.2.2.2.2.2.2.2.2.length r9.2.2.2.2.2.2.2.2.2.2.length)<|(jT n r9.2.1 r9.2.2.1 r9.2.2.2.1 r9.2.2.2.2.1 r9.2.2.2.2.2.1 r9.2.2.2.2.2.2.1 r9.2.2.2.2.2.2.2.1 r9.2.2.2.2.2.2.2.2.1 r9.2.2.2.2.2.2.2.2.2.1 r9.2.2.2.2.2.2.2.2.2.2).bind λsn=>ck (bP oy.length oy.length (sub ([(bQ.mk (⟨#[102,108,111,111,114,115]⟩) sn.1)]:U bQ) 0 1).length 1 24)<|iC (oy++(sub ([(bQ.mk (⟨#[102,108,111,111,114,115]⟩) sn.1)]:U bQ) 0 1)) λRM=>ck (be sn.2.2.2.2.2.2.2.2.2.2.length sn.2.2.2.2.2.2.2.2.2.2.length)<|(jU n sn.2.1 sn.2.2.1 sn.2.2.2.1 sn.2.2.2.2.1 sn.2.2.2.2.2.1 sn.2.2.2.2.2.2.1 sn.2.2.2.2.2.2.2.1 sn.2.2.2.2.2.2.2.2.1 sn.2.2.2.2.2.2.2.2.2.1 sn.2.2.2.2.2.2.2.2.2.2).bind λtw=>ck (bP RM.length RM.length (sub ([(bQ.mk (⟨#[104,101,105,103,104,116]⟩) tw.1)]:U bQ) 0 1).length 1 24)<|iC (RM++(sub ([(bQ.mk (⟨#[104,101,105,103,104,116]⟩) tw.1)]:U bQ) 0 1)) λRK=>ck (be tw.2.2.2.2.2.2.2.2.2.2.length tw.2.2.2.2.2.2.2.2.2.2.length)<|(kV n tw.2.1 tw.2.2.1 tw.2.2.2.1 tw.2.2.2.2.1 tw.2.2.2.2.2.1 tw.2.2.2.2.2.2.1 tw.2.2.2.2.2.2.2.1 tw.2.2.2.2.2.2.2.2.1 tw.2.2.2.2.2.2.2.2.2.1 tw.2.2.2.2.2.2.2.2.2.2).bind λtt=>ck (bP RK.length RK.length (sub ([(bQ.mk (⟨#[104,111,109,101,115]⟩) tt.1)]:U bQ) 0 1).length 1 24)<|iC (RK++(sub ([(bQ.mk (⟨#[104,111,109,101,115]⟩) tt.1)]:U bQ) 0 1)) λr16=>ck (be tt.2.2.2.2.2.2.2.2.2.2.length tt.2.2.2.2.2.2.2.2.2.2.length)<|(iW n tt.2.1 tt.2.2.1 tt.2.2.2.1 tt.2.2.2.2.1 tt.2.2.2.2.2.1 tt.2.2.2.2.2.2.1 tt.2.2.2.2.2.2.2.1 tt.2.2.2.2.2.2.2.2.1 tt.2.2.2.2.2.2.2.2.2.1 tt.2.2.2.2.2.2.2.2.2.2).bind λtm=>ck (bP r16.length r16.length (sub ([(bQ.mk (⟨#[114,117,110,111,102,102]⟩) tm.1)]:U bQ) 0 1).length 1 24)<|iC (r16++(sub ([(bQ.mk (⟨#[114,117,110,111,102,102]⟩) tm.1)]:U bQ) 0 1)) λRE=>ck (be tm.2.2.2.2.2.2.2.2.2.2.length tm.2.2.2.2.2.2.2.2.2.2.length)<|(jC n tm.2.1 tm.2.2.1 tm.2.2.2.1 tm.2.2.2.2.1 tm.2.2.2.2.2.1 tm.2.2.2.2.2.2.1 tm.2.2.2.2.2.2.2.1 tm.2.2.2.2.2.2.2.2.1 tm.2.2.2.2.2.2.2.2.2.1 tm.2.2.2.2.2.2.2.2.2.2).bind λtj=>ck (bP RE.length RE.length (sub ([(bQ.mk (⟨#[115,101,116,98,97,99,107]⟩) tj.1)]:U bQ) 0 1).length 1 24)<|iC (RE++(sub ([(bQ.mk (⟨#[115,101,116,98,97,99,107]⟩) tj.1)]:U bQ) 0 1)) λRr=>ck (be tj.2.2.2.2.2.2.2.2.2.2.length tj.2.2.2.2.2.2.2.2.2.2.length)<|(jD n tj.2.1 tj.2.2.1 tj.2.2.2.1 tj.2.2.2.2.1 tj.2.2.2.2.2.1 tj.2.2.2.2.2.2.1 tj.2.2.2.2.2.2.2.1 tj.2.2.2.2.2.2.2.2.1 tj.2.2.2.2.2.2.2.2.2.1 tj.2.2.2.2.2.2.2.2.2.2).bind λr21=>ck (bP Rr.length Rr.length (sub ([(bQ.mk (⟨#[116,114,97,102,102,105,99]⟩) r21.1)]:U bQ) 0 1).length 1 24)<|iC (Rr++(sub ([(bQ.mk (⟨#[116,114,97,102,102,105,99]⟩) r21.1)]:U bQ) 0 1)) λHm=>ck (be (sub Hm 0 Hm.length).length Hm.length)<|some (sub Hm 0 Hm.length)
def Le(n:Nat)(r1:U bQ):Stp Int (Unit⊕Int)
 |v1=>(bif decide (v1<(r1.length:Int))then ck (co v1 r1.length)<|(br r1 ((0:Nat)+v1:Int)).bind λx1=>(bif (ByteArray.toList x1.name==ByteArray.toList (⟨#[115,101,116,98,97,99,107]⟩))then(some x1.n).map λa=> .inr (.inr a)else some (.inl (i64.wrap (v1+1))))else some (.inr (.inl ())))
def qK(a0:dK)(a1:gI)(a2:aQ):J Int:=
 (om n (cK.mk a0.cd a0.bk a0.b7 a0.aE a0.cw a0.cp a0.cJ a0.ct) a1 a2).bind λr1=>dm (iter (Le n r1) n (0:Int)) λ()=>some (0:Int)
def ny(a0:dK)(a1:gI)(a2:aQ):J Int:=
 (qK n a0 a1 a2).bind λr1=>some r1
def anA(a0:ax)(a1:ax):J (Int×Int):=
 some ((i64.wrap ((max a0.x0 a1.x0) -(min a0.x1 a1.x1))),(i64.wrap ((max a0.y0 a1.y0) -(min a0.y1 a1.y1))))
def LR(a0:ax)(a1:ax):J Int:=
 ((pV a0).bind λr1=>(bif (!r1)then some true else(pV a1).bind λr2=>some (!r2))).bind λv1=>(bif v1 then some ((-1):Int)else(anA a0 a1).bind λr3=>some (max (max (0:Int) r3.1) r3.2))
def Ea(a1:U ax)(x1:ax):Stp (Int×Int) Int
 |(v4,v5)=>(bif decide (v5<(a1.length:Int))then(br a1 v5).bind λx2=>(LR x1 x2).bind λr3=>some (.inl ((min v4 r3),(i64.wrap (v5+1))))else some (.inr v4))
def Eb(a0:U ax)(a1:U ax):Stp (Int×Int) Int
 |(v2,v3)=>(bif decide (v3<(a0.length:Int))then(br a0 v3).bind λx1=>(iter (Ea a1 x1) n (v2,(0:Int))).bind λw1=>some (.inl (w1,(i64.wrap (v3+1))))else some (.inr v2))
def YJ(a0:U ax)(a1:U ax):J (Int×Bool):=
 ((bif ((a0.length:Int)==0)then some true else(bif ((a1.length:Int)==0)then some true else(l5 n a0).bind λr1=>(bif (!r1)then some true else(l5 n a1).bind λr2=>some (!r2))))).bind λv1=>(bif v1 then some ((0:Int),false)else(iter (Eb n a0 a1) n ((1048576:Int),(0:Int))).bind λw2=>some (w2,true))
def zQ(a0:U gI):Stp (Int×(List (List ax))) (List (List ax))
 |(v1,v2)=>(bif decide (v1<(a0.length:Int))then(br a0 v1).bind λx1=>ck (bP v2.length v2.length (sub ([x1.area]:U (List ax)) 0 1).length 1 24)<|iC (v2++(sub ([x1.area]:U (List ax)) 0 1)) λr2=>ck (be r2.length r2.length)<|some (.inl ((i64.wrap (v1+1)),r2))else ck (be v2.length v2.length)<|some (.inr v2))
def zR(a0:U gI)(a1:Int)(a2:Int)(r1:gI×Bool)(w1:U (List ax)):Stp (Int×(List Int)) (List Int)
 |(v3,v4)=>(bif decide (v3<(w1.length:Int))then(ck (co v3 w1.length)<|(br w1 ((0:Nat)+v3:Int)).bind λx2=>(YJ n r1.1.area x2).bind λr3=>((bif r3.2 then(bif decide (r3.1<=(a2:Int))then(br a0 v3).bind λx3=>some (x3.id !=(a1:Int))else some false)else some false)).bind λv5=>(bif v5 then(br a0 v3).bind λx4=>ck (bP v4.length v4.length (sub ([x4.id]:U Int) 0 1).length 1 8)<|iC (v4++(sub ([x4.id]:U Int) 0 1)) λr4=>ck (be r4.length r4.length)<|some r4 else ck (be v4.length v4.length)<|some v4):J ((List Int))).bind λv6=>ck (be v6.length v6.length)<|some (.inl ((i64.wrap (v3+1)),v6))else ck (be v4.length v4.length)<|some (.inr v4))
def Wt(a0:U gI)(a1:Int)(a2:Int):J (List Int):=
 (Bw n a0 a1).bind λr1=>(bif (!r1.2)then some ([]:(List Int))else ck (be 0 ([]:U (List ax)).length)<|(iter (zQ a0) n ((0:Int),([]:U (List ax)))).bind λw1=>ck (be 0 ([]:U Int).length)<|(iter (zR n a0 a1 a2 r1 w1) n ((0:Int),([]:U Int))).bind λw2=>ck (be w2.length w2.length)<|(nR n w2).bind λr5=>ck (be w2.length r5.length)<|(nL n r5).bind λr6=>ck (be (sub r6.2 0 r6.2.length).length r6.2.length)<|some (sub r6.2 0 r6.2.length))
def nC(a0:dK)(a1:aQ):J Int:=
 (Wt n a0.land a1.lot 10).bind λr1=>some (r1.length:Int)
def rH(a0:gI):J Int:=
 some (a0.area.length:Int)
def qL(a0:dK)(a1:aQ)(a2:U ByteArray):J (List Int):=
 (Bw n a0.land a1.lot).bind λr1=>ck (decide (4<=4)&&(decide (0<=4)&&xw 4 8))<|(nk n a2).bind λr2=>ck (co 0 ((4:Int).toNat))<|(br (List.replicate (4:Int).toNat (0:Int)) ((0:Nat)+0:Int)).bind λx1=>(ny n a0 r1.1 a1).bind λr3=>ck (co 1 ((4:Int).toNat))<|(br ((List.replicate (4:Int).toNat (0:Int)).set ((0:Nat)+0:Int).toNat r2) ((0:Nat)+1:Int)).bind λx2=>(nC n a0 a1).bind λr4=>ck (co 2 ((4:Int).toNat))<|(br (((List.replicate (4:Int).toNat (0:Int)).set ((0:Nat)+0:Int).toNat r2).set ((0:Nat)+1:Int).toNat r3) ((0:Nat)+2:Int)).bind λx3=>(rH r1.1).bind λr5=>ck (co 3 ((4:Int).toNat))<|(br ((((List.replicate (4:Int).toNat (0:Int)).set ((0:Nat)+0:Int).toNat r2).set ((0:Nat)+1:Int).toNat r3).set ((0:Nat)+2:Int).toNat r4) ((0:Nat)+3:Int)).bind λx4=>ck (be (sub (((((List.replicate (4:Int).toNat (0:Int)).set ((0:Nat)+0:Int).toNat r2).set ((0:Nat)+1:Int).toNat r3).set ((0:Nat)+2:Int).toNat r4).set ((0:Nat)+3:Int).toNat r5) 0 ((4:Int).toNat)).length ((4:Int).toNat))<|some (sub (((((List.replicate (4:Int).toNat (0:Int)).set ((0:Nat)+0:Int).toNat r2).set ((0:Nat)+1:Int).toNat r3).set ((0:Nat)+2:Int).toNat r4).set ((0:Nat)+3:Int).toNat r5) 0 ((4:Int).toNat))
def oo(a1:U bL)(r2:U Int):Stp (Int×(List Int)) (List Int)
 |(v1,v2)=>(bif decide (v1<(a1.length:Int))then(br a1 v1).bind λx1=>ck (4 !=0)<|ck (co (Int.tmod v1 4) r2.length)<|(br r2 ((0:Nat)+(Int.tmod v1 4):Int)).bind λx2=>(ck (2 !=0)<|(bif ((Int.tmod v1 2)==0)then some (i64.wrap ((i64.wrap (x1.values -1)) -(min x2 (i64.wrap (x1.values -1)))))else some (min x2 (i64.wrap (x1.values -1)))):J Int).bind λv3=>ck (co v1 ((a1.length:Int).toNat))<|(br v2 ((0:Nat)+v1:Int)).bind λx3=>some (.inl ((i64.wrap (v1+1)),(v2.set ((0:Nat)+v1:Int).toNat v3)))else some (.inr v2))
def iQ(a0:dK)(a1:U bL)(a2:aQ)(a3:U ByteArray):J (List Int):=
 (uS n a1).bind λr1=>(bif (!r1)then some ([]:(List Int))else(qL n a0 a2 a3).bind λr2=>ck (decide ((a1.length:Int)<=(a1.length:Int))&&(decide (0<=(a1.length:Int))&&xw (a1.length:Int) 8))<|(iter (oo a1 r2) n ((0:Int),(List.replicate (a1.length:Int).toNat (0:Int)))).bind λw1=>ck (be (sub w1 0 ((a1.length:Int).toNat)).length ((a1.length:Int).toNat))<|some (sub w1 0 ((a1.length:Int).toNat)))
def YK:Stp (Int×(List Int)) (List Int)
 |(v1,v2)=>(bif decide (v1<12)then ck (co v1 12)<|ck (decide ((0:Int)<=v1)&&kZ (0+(v1:Int).toNat) 1 v2.length)<|some (.inl ((i64.wrap (v1+1)),(List.set v2 (0+(v1:Int).toNat) (13:Int))))else some (.inr v2))
def YL(a0:dO)(a1:Int)(v5:Int):Stp (Int×(List Int)) (List Int)
 |(v7,v8)=>(bif decide (v7<12)then((ck (co v5 12)<|ck (co v7 12)<|(sy a0.l (0+(v5:Int).toNat*12) v7).bind λx1=>(bif x1 then some (v5 !=(a1:Int))else some false)).bind λv9=>(bif v9 then ck (co v5 12)<|(sy v8 0 v5).bind λx2=>ck (co v7 12)<|(sy v8 0 v7).bind λx3=>ck (co v5 12)<|ck (decide ((0:Int)<=v5)&&kZ (0+(v5:Int).toNat) 1 v8.length)<|some (List.set v8 (0+(v5:Int).toNat) (min x2 (i64.wrap (x3+1))))else some v8):J ((List Int))).bind λv10=>some (.inl ((i64.wrap (v7+1)),v10))else some (.inr v8))
def YM(a0:dO)(a1:Int):Stp (Int×(List Int)) (List Int)
 |(v5,v6)=>(bif decide (v5<12)then(iter (YL a0 a1 v5) n (a1,v6)).bind λw2=>some (.inl ((i64.wrap (v5+1)),w2))else some (.inr v6))
def YN(a0:dO)(a1:Int):Stp (Int×(List Int)) (List Int)
 |(v3,v4)=>(bif decide (v3<12)then(iter (YM n a0 a1) n (a1,v4)).bind λw3=>some (.inl ((i64.wrap (v3+1)),w3))else some (.inr v4))
def Jz(a0:dO)(a1:Int):J zM:=
 (iter (YK) n ((0:Int),(List.replicate 12 (0:Int)))).bind λw1=>ck (co a1 12)<|ck (decide ((0:Int)<=a1)&&kZ (0+(a1:Int).toNat) 1 w1.length)<|(iter (YN n a0 a1) n ((0:Int),(List.set w1 (0+(a1:Int).toNat) (0:Int)))).bind λw4=>(D9 (sub w4 0 12)).bind λx4=>ck (be x4.l.length 12&&kZ 0 x4.l.length (List.replicate 12 (0:Int)).length)<|(D9 (sub (el (List.replicate 12 (0:Int)) 0 x4.l) 0 12)).bind λz1=>some z1
def RD(a0:dO)(v3:Int)(r1:zM):Stp (Int×Int×Int) (Int×Int)
 |(v4,v5,v6)=>(bif decide (v6<12)then((ck (co v3 12)<|ck (co v6 12)<|(sy a0.l (0+(v3:Int).toNat*12) v6).bind λx2=>(bif x2 then ck (co v6 12)<|(sy (el (List.replicate 12 (0:Int)) 0 r1.l) 0 v6).bind λx3=>some (decide ((i64.wrap (x3+1))<(v4:Int)))else some false)).bind λv7=>(bif v7 then ck (co v6 12)<|(sy (el (List.replicate 12 (0:Int)) 0 r1.l) 0 v6).bind λx4=>some ((i64.wrap (x4+1)),v3)else some (v4,v5)):J (Int×Int)).bind λ(v8,v9)=>some (.inl (v8,v9,(i64.wrap (v6+1))))else some (.inr (v4,v5)))
def RF(a0:dO):Stp (Int×Int×Int) (Int×Int)
 |(v1,v2,v3)=>(bif decide (v3<12)then(dG (sub a0.l 0 144)).bind λx1=>(Jz n x1 v3).bind λr1=>ck (be r1.l.length 12&&kZ 0 r1.l.length (List.replicate 12 (0:Int)).length)<|(iter (RD a0 v3 r1) n (v1,v2,v3)).bind λ(w1,w2)=>some (.inl (w1,w2,(i64.wrap (v3+1))))else some (.inr (v1,v2)))
def RG(a0:dO)(w3:Int)(r2:zM):Stp (Int×(List Int)) (List Int)
 |(v11,v12)=>(ck (co (i64.wrap ((v12.length:Int) -1)) v12.length)<|(br v12 ((0:Nat)+(i64.wrap ((v12.length:Int) -1)):Int)).bind λx6=>ck (co x6 12)<|ck (co v11 12)<|(sy a0.l (0+(x6:Int).toNat*12) v11).bind λx7=>(bif x7 then ck (co v11 12)<|(sy (el (List.replicate 12 (0:Int)) 0 r2.l) 0 v11).bind λx8=>some (x8==((i64.wrap (w3 -(v12.length:Int))):Int))else some false)).bind λv13=>(bif v13 then ck (bP v12.length v12.length (sub ([v11]:U Int) 0 1).length 1 8)<|iC (v12++(sub ([v11]:U Int) 0 1)) λr3=>ck (be r3.length r3.length)<|some (.inr r3)else ck (be v12.length v12.length)<|some (.inl ((i64.wrap (v11+1)),v12)))
def RH(a0:dO)(w3:Int)(w4:Int)(r2:zM):Stp (List Int) (List Int)
 |v10=>(bif decide ((v10.length:Int)<(w3:Int))then ck (be v10.length v10.length)<|(iter (RG a0 w3 r2) n (w4,v10)).bind λw5=>ck (be w5.length w5.length)<|some (.inl w5)else ck (be v10.length v10.length)<|some (.inr v10))
def Mv(a0:dO):J (List Int):=
 (iter (RF n a0) n ((13:Int),(0:Int),(0:Int))).bind λ(w3,w4)=>(bif (w3==13)then some ([]:(List Int))else(dG (sub a0.l 0 144)).bind λx5=>(Jz n x5 w4).bind λr2=>ck (be r2.l.length 12&&kZ 0 r2.l.length (List.replicate 12 (0:Int)).length)<|ck (be 1 ([w4]:U Int).length)<|(iter (RH n a0 w3 w4 r2) n ([w4]:U Int)).bind λw6=>ck (be (sub w6 0 w6.length).length w6.length)<|some (sub w6 0 w6.length))
def Cq(a0:U Bool):J (List Bool):=
 (bif a0.isEmpty then(both (some ([]:(List Bool))) (ck (bP ([]:U Bool).length 0 a0.length a0.length 1)<|iC (([]:U Bool)++a0) λr1=>ck (be (sub r1 0 r1.length).length r1.length)<|some (sub r1 0 r1.length)))else ck (bP ([]:U Bool).length 0 a0.length a0.length 1)<|iC (([]:U Bool)++a0) λr2=>ck (be (sub r2 0 r2.length).length r2.length)<|some (sub r2 0 r2.length))
def pW(a0:bL)(r1:dO×Bool):Stp (Int×(List (List Bool))) (List (List Bool))
 |(v1,v2)=>(bif decide (v1<(a0.values:Int))then ck (co v1 12)<|ck (vQ 0 a0.values 12&&kZ (0+(v1:Int).toNat*12) 12 (el (List.replicate 144 false) 0 r1.1.l).length)<|ck (be (sub (el (List.replicate 144 false) 0 r1.1.l) (0+(v1:Int).toNat*12) ((a0.values:Int).toNat)).length ((a0.values:Int).toNat))<|(Cq (sub (el (List.replicate 144 false) 0 r1.1.l) (0+(v1:Int).toNat*12) ((a0.values:Int).toNat))).bind λr5=>ck (be (sub r5 0 r5.length).length r5.length)<|ck (bP v2.length v2.length (sub ([(sub r5 0 r5.length)]:U (List Bool)) 0 1).length 1 24)<|iC (v2++(sub ([(sub r5 0 r5.length)]:U (List Bool)) 0 1)) λr6=>ck (be r6.length r6.length)<|some (.inl ((i64.wrap (v1+1)),r6))else ck (be v2.length v2.length)<|some (.inr v2))
def uY(a0:bL):J ((List (List Bool))×(List Int)×Int):=
 (rW n a0).bind λr1=>ck (be r1.1.l.length 144&&kZ 0 r1.1.l.length (List.replicate 144 false).length)<|(uP n a0).bind λr2=>(bif (!r2)then some (([]:(List (List Bool))),([]:(List Int)),(1:Int))else(bif (!r1.2)then(uQ n a0).bind λr3=>(Mv n r3).bind λr4=>ck (be (sub r4 0 r4.length).length r4.length)<|some (([]:(List (List Bool))),(sub r4 0 r4.length),(16:Int))else ck (be 0 ([]:U (List Bool)).length)<|(iter (pW a0 r1) n ((0:Int),([]:U (List Bool)))).bind λw1=>ck (be (sub w1 0 w1.length).length w1.length)<|some ((sub w1 0 w1.length),([]:(List Int)),(0:Int))))
def pX(a0:U bL):Stp (Int×(List (List (List Bool)))) ((List (List (List Bool)))⊕((List (List (List Bool)))×Bool))
 |(v1,v2)=>(bif decide (v1<(a0.length:Int))then(br a0 v1).bind λx1=>(uY n x1).bind λr1=>(bif (r1.2.2 !=0)then(some (([]:(List (List (List Bool)))),false)).map λa=> .inr (.inr a)else ck (be (sub r1.1 0 r1.1.length).length r1.1.length)<|ck (bP v2.length v2.length (sub ([(sub r1.1 0 r1.1.length)]:U (List (List Bool))) 0 1).length 1 24)<|iC (v2++(sub ([(sub r1.1 0 r1.1.length)]:U (List (List Bool))) 0 1)) λr2=>ck (be r2.length r2.length)<|some (.inl ((i64.wrap (v1+1)),r2)))else ck (be v2.length v2.length)<|some (.inr (.inl v2)))
def uZ(a0:U bL):J ((List (List (List Bool)))×Bool):=
 (bif decide ((a0.length:Int)>12)then some (([]:(List (List (List Bool)))),false)else ck (be 0 ([]:U (List (List Bool))).length)<|dm (iter (pX n a0) n ((0:Int),([]:U (List (List Bool))))) λw1=>ck (be (sub w1 0 w1.length).length w1.length)<|some ((sub w1 0 w1.length),true))
def gK(a0:(List (List (List Bool))))(a1:U Int):Stp Int (Unit⊕Bool)
 |v1=>(bif decide (v1<(a1.length:Int))then(br a1 v1).bind λx1=>((bif decide (x1<0)then some true else(br a0 v1).bind λx2=>some (decide (x1>=(x2.length:Int))))).bind λv2=>(bif v2 then(some false).map λa=> .inr (.inr a)else some (.inl (i64.wrap (v1+1))))else some (.inr (.inl ())))
def eD(a0:(List (List (List Bool))))(a1:U Int):J Bool:=
 (bif ((a1.length:Int) !=(a0.length:Int))then some false else dm (iter (gK a0 a1) n (0:Int)) λ()=>some true)
def gP(a1:U aV)(r1:(List (List (List Bool)))×Bool):Stp (Int×(List (Int×Bool))) (Unit⊕((List (List (List Bool)))×Bool))
 |(v1,v2)=>(bif decide (v1<(a1.length:Int))then(br a1 v1).bind λx1=>((bif (!r1.2)then some true else(bif ((fI pT x1.id v2).getD false)then some true else ck (be (sub r1.1 0 r1.1.length).length r1.1.length)<|(eD n (sub r1.1 0 r1.1.length) x1.values).bind λr2=>some (!r2)))).bind λv3=>(bif v3 then(some (([]:(List (List (List Bool)))),false)).map λa=> .inr (.inr a)else some (.inl ((i64.wrap (v1+1)),(qg pT x1.id true v2))))else some (.inr (.inl ())))
def oV(a0:U bL)(a1:U aV):J ((List (List (List Bool)))×Bool):=
 (uZ n a0).bind λr1=>dm (iter (gP n a1 r1) n ((0:Int),([]:(List (Int×Bool))))) λ()=>(bif r1.2 then ck (be (sub r1.1 0 r1.1.length).length r1.1.length)<|some ((sub r1.1 0 r1.1.length),(decide ((a1.length:Int)<=2000)))else ck (be (sub r1.1 0 r1.1.length).length r1.1.length)<|some ((sub r1.1 0 r1.1.length),false))
def iG(a0:(List (List (List Bool))))(a1:U Int)(a2:U Int):Stp (Int×(List Int)) (List Int)
 |(v1,v2)=>(bif decide (v1<(a0.length:Int))then((br a0 v1).bind λx1=>(br a1 v1).bind λx2=>(br x1 x2).bind λx3=>(br a2 v1).bind λx4=>(br x3 x4).bind λx5=>(bif (!x5)then ck (bP v2.length v2.length (sub ([v1]:U Int) 0 1).length 1 8)<|iC (v2++(sub ([v1]:U Int) 0 1)) λr1=>ck (be r1.length r1.length)<|some r1 else ck (be v2.length v2.length)<|some v2):J ((List Int))).bind λv3=>ck (be v3.length v3.length)<|some (.inl ((i64.wrap (v1+1)),v3))else ck (be v2.length v2.length)<|some (.inr v2))
def gU(a0:(List (List (List Bool))))(a1:U Int)(a2:U Int):J (List Int):=
 ck (be 0 ([]:U Int).length)<|(iter (iG a0 a1 a2) n ((0:Int),([]:U Int))).bind λw1=>ck (be (sub w1 0 w1.length).length w1.length)<|some (sub w1 0 w1.length)
def iH(a0:(List (List (List Bool))))(a1:aV)(a2:U Int):J (List Int):=
 (bif a1.grant then(gU n a0 a1.values a2).bind λr1=>ck (be (sub r1 0 r1.length).length r1.length)<|some (sub r1 0 r1.length)else(gU n a0 a2 a1.values).bind λr2=>ck (be (sub r2 0 r2.length).length r2.length)<|some (sub r2 0 r2.length))
def iJ(a0:(List (List (List Bool))))(a1:U aV)(a2:U Int):Stp (Int×(List (Bool×Bool))×(List Int)) ((List (Bool×Bool))×(List Int))
 |(v1,v2,v3)=>(bif decide (v1<(a1.length:Int))then((br a1 v1).bind λx1=>(iH n a0 x1 a2).bind λr1=>(bif ((r1.length:Int)==0)then ck (bP v3.length v3.length (sub ([v1]:U Int) 0 1).length 1 8)<|iC (v3++(sub ([v1]:U Int) 0 1)) λr2=>ck (be r2.length r2.length)<|some ((qg pC x1.grant true v2),r2)else ck (be v3.length v3.length)<|some (v2,v3)):J ((List (Bool×Bool))×(List Int))).bind λ(v4,v5)=>ck (be v5.length v5.length)<|some (.inl ((i64.wrap (v1+1)),v4,v5))else ck (be v3.length v3.length)<|some (.inr (v2,v3)))
def jE(a0:(List (List (List Bool))))(a1:U aV)(a2:U Int):J (Int×(List Int)):=
 ck (be 0 ([]:U Int).length)<|(iter (iJ n a0 a1 a2) n ((0:Int),([]:(List (Bool×Bool))),([]:U Int))).bind λ(w1,w2)=>((bif ((fI pC true w1).getD false)then some ((fI pC false w1).getD false)else some false)).bind λv6=>(bif v6 then ck (be (sub w2 0 w2.length).length w2.length)<|some ((3:Int),(sub w2 0 w2.length))else(bif ((fI pC true w1).getD false)then ck (be (sub w2 0 w2.length).length w2.length)<|some ((1:Int),(sub w2 0 w2.length))else(bif ((fI pC false w1).getD false)then ck (be (sub w2 0 w2.length).length w2.length)<|some ((2:Int),(sub w2 0 w2.length))else some ((0:Int),([]:(List Int))))))
def qM(a0:U bL)(a1:U aV)(a2:U Int):J (Int×(List Int)×Int):=
 (oV n a0 a1).bind λr1=>((bif (!r1.2)then some true else ck (be (sub r1.1 0 r1.1.length).length r1.1.length)<|(eD n (sub r1.1 0 r1.1.length) a2).bind λr2=>some (!r2))).bind λv1=>(bif v1 then some ((0:Int),([]:(List Int)),(1:Int))else ck (be (sub r1.1 0 r1.1.length).length r1.1.length)<|(jE n (sub r1.1 0 r1.1.length) a1 a2).bind λr3=>ck (be (sub r3.2 0 r3.2.length).length r3.2.length)<|some (r3.1,(sub r3.2 0 r3.2.length),(0:Int)))
def Cr(a0:U aV):J (List aV):=
 (bif a0.isEmpty then(both (some ([]:(List aV))) (ck (bP ([]:U aV).length 0 a0.length a0.length 40)<|iC (([]:U aV)++a0) λr1=>ck (be (sub r1 0 r1.length).length r1.length)<|some (sub r1 0 r1.length)))else ck (bP ([]:U aV).length 0 a0.length a0.length 40)<|iC (([]:U aV)++a0) λr2=>ck (be (sub r2 0 r2.length).length r2.length)<|some (sub r2 0 r2.length))
def pY(r1:U aV):Stp (Int×(List aV)) (List aV)
 |(v1,v2)=>(bif decide (v1<(r1.length:Int))then ck (co v1 r1.length)<|(br v2 ((0:Nat)+v1:Int)).bind λx1=>(nZ x1.values).bind λr2=>ck (co v1 r1.length)<|ck (be (sub r2 0 r2.length).length r2.length)<|(br v2 ((0:Nat)+v1:Int)).bind λx2=>some (.inl ((i64.wrap (v1+1)),(v2.set ((0:Nat)+v1:Int).toNat (aV.mk x2.id (sub r2 0 r2.length) x2.grant))))else some (.inr v2))
def nM(a0:U aV):J (List aV):=
 (Cr a0).bind λr1=>(iter (pY r1) n ((0:Int),r1)).bind λw1=>ck (be (sub w1 0 r1.length).length r1.length)<|some (sub w1 0 r1.length)
def Ec(a0:aV)(a1:aV):J Bool:=
 some (a0.id==(a1.id:Int))
def JA(a0:U aV)(a1:(aV×Unit)->J Bool):Stp Int (Unit⊕Int)
 |v1=>(bif decide (v1<(a0.length:Int))then(br a0 v1).bind λx1=>(a1 (x1,())).bind λr1=>(bif r1 then(some v1).map λa=> .inr (.inr a)else some (.inl (i64.wrap (v1+1))))else some (.inr (.inl ())))
def u6(a0:U aV)(a1:(aV×Unit)->J Bool):J Int:=
 dm (iter (JA a0 a1) n (0:Int)) λ()=>some ((-1):Int)
def l6(a0:U aV)(a1:(aV×Unit)->J Bool):J Bool:=
 (u6 n a0 a1).bind λr1=>some (decide (r1>=0))
def oW(a0:aV):J aV:=
 (nZ a0.values).bind λr1=>ck (be (sub r1 0 r1.length).length r1.length)<|some (aV.mk a0.id (sub r1 0 r1.length) a0.grant)
def qN(a1:U aV)(a2:aV)(r1:(List (List (List Bool)))×Bool):Stp (Int×(List aV)) ((List aV)⊕((List aV)×Int))
 |(v2,v3)=>(bif decide (v2<(a1.length:Int))then(br a1 v2).bind λx1=>((bif (!(x1.grant==a2.grant))then ck (be (sub r1.1 0 r1.1.length).length r1.1.length)<|(iH n (sub r1.1 0 r1.1.length) x1 a2.values).bind λr4=>some ((r4.length:Int)==0)else some false)).bind λv4=>(bif v4 then(some (([]:(List aV)),(25:Int))).map λa=> .inr (.inr a)else(oW x1).bind λr5=>ck (bP v3.length v3.length (sub ([r5]:U aV) 0 1).length 1 40)<|iC (v3++(sub ([r5]:U aV) 0 1)) λr6=>ck (be r6.length r6.length)<|some (.inl ((i64.wrap (v2+1)),r6)))else ck (be v3.length v3.length)<|some (.inr (.inl v3)))
def wP(a0:U bL)(a1:U aV)(a2:aV):J ((List aV)×Int):=
 (oV n a0 a1).bind λr1=>((bif (!r1.2)then some true else ck (be (sub r1.1 0 r1.1.length).length r1.1.length)<|(eD n (sub r1.1 0 r1.1.length) a2.values).bind λr2=>some (!r2))).bind λv1=>(bif v1 then some (([]:(List aV)),(1:Int))else(l6 n a1 (λ (y1:aV×Unit)=>Ec y1.1 a2)).bind λr3=>(bif r3 then some (([]:(List aV)),(5:Int))else(bif decide ((a1.length:Int)>=2000)then some (([]:(List aV)),(6:Int))else ck (be 0 ([]:U aV).length)<|dm (iter (qN n a1 a2 r1) n ((0:Int),([]:U aV))) λw1=>(oW a2).bind λr7=>ck (bP w1.length w1.length (sub ([r7]:U aV) 0 1).length 1 40)<|iC (w1++(sub ([r7]:U aV) 0 1)) λr8=>ck (be (sub r8 0 r8.length).length r8.length)<|some ((sub r8 0 r8.length),(0:Int)))))
def gL(a0:U bL)(a1:U aV)(a2:Int)(a3:U Int)(a4:Bool):J (Bool×(List aV)×Int):=
 (qM n a0 a1 a3).bind λr1=>(bif (r1.2.2 !=0)then(nM n a1).bind λr2=>ck (be (sub r2 0 r2.length).length r2.length)<|some (false,(sub r2 0 r2.length),(1:Int))else(bif (r1.1==3)then(nM n a1).bind λr3=>ck (be (sub r3 0 r3.length).length r3.length)<|some (false,(sub r3 0 r3.length),(25:Int))else((bif (r1.1==1)then some true else(bif (r1.1==2)then some false else some a4))).bind λv1=>(nZ a3).bind λr4=>ck (be (sub r4 0 r4.length).length r4.length)<|(wP n a0 a1 (aV.mk a2 (sub r4 0 r4.length) v1)).bind λr5=>(bif (r5.2 !=0)then(nM n a1).bind λr6=>ck (be (sub r6 0 r6.length).length r6.length)<|some (false,(sub r6 0 r6.length),r5.2)else ck (be (sub r5.1 0 r5.1.length).length r5.1.length)<|some (v1,(sub r5.1 0 r5.1.length),(0:Int)))))
def UN(a0:U Int)(a1:U Int):Stp Int (Unit⊕Bool)
 |v1=>(bif decide (v1<(a0.length:Int))then(br a0 v1).bind λx1=>(br a1 v1).bind λx2=>(bif (x1 !=(x2:Int))then(some false).map λa=> .inr (.inr a)else some (.inl (i64.wrap (v1+1))))else some (.inr (.inl ())))
def FC(a0:U Int)(a1:U Int):J Bool:=
 (bif ((a0.length:Int) !=(a1.length:Int))then some false else dm (iter (UN a0 a1) n (0:Int)) λ()=>some true)
def oZ(a0:bC)(a1:ByteArray):J Bool:=
 some (ByteArray.toList a0.name==ByteArray.toList a1)
def JB(a0:U bC)(a1:(bC×Unit)->J Bool):Stp Int (Unit⊕Int)
 |v1=>(bif decide (v1<(a0.length:Int))then(br a0 v1).bind λx1=>(a1 (x1,())).bind λr1=>(bif r1 then(some v1).map λa=> .inr (.inr a)else some (.inl (i64.wrap (v1+1))))else some (.inr (.inl ())))
def u7(a0:U bC)(a1:(bC×Unit)->J Bool):J Int:=
 dm (iter (JB a0 a1) n (0:Int)) λ()=>some ((-1):Int)
def l7(a0:U bC)(a1:(bC×Unit)->J Bool):J Bool:=
 (u7 n a0 a1).bind λr1=>some (decide (r1>=0))
def oq(a0:bC)(a1:ByteArray):J (Bool×ByteArray):=
 (oZ a0 a1).bind λr1=>(bif r1 then some ((!a0.vary),a1)else some (false,a1))
def jF(a0:U bC):Stp (Int×ByteArray) (ByteArray⊕(Int×ByteArray))
 |(v1,v2)=>(bif decide (v1<(a0.length:Int))then(br a0 v1).bind λx1=>(oq x1 v2).bind λr1=>(bif r1.1 then(some (v1,r1.2)).map λa=> .inr (.inr a)else some (.inl ((i64.wrap (v1+1)),r1.2)))else some (.inr (.inl v2)))
def qo(a0:U bC)(a1:ByteArray):J (Int×ByteArray):=
 dm (iter (jF a0) n ((0:Int),a1)) λw1=>some (((-1):Int),w1)
def jG(a0:U bC)(a1:ByteArray):J (Bool×ByteArray):=
 (qo n a0 a1).bind λr1=>some ((decide (r1.1>=0)),r1.2)
def sZ(a0:cK)(a1:U ByteArray):Stp Int (Unit⊕Bool)
 |v1=>(bif decide (v1<(a1.length:Int))then(br a1 v1).bind λx1=>((l7 n a0.rules (λ (y1:bC×Unit)=>oZ y1.1 x1)).bind λr1=>(bif (!r1)then some true else(jG n a0.rules x1).bind λr2=>some r2.1)).bind λv2=>(bif v2 then(some false).map λa=> .inr (.inr a)else some (.inl (i64.wrap (v1+1))))else some (.inr (.inl ())))
def ow(a0:cK)(a1:U ByteArray):J Bool:=
 dm (iter (sZ n a0 a1) n (0:Int)) λ()=>some (decide ((a1.length:Int)>0))
def KT:J Bool:=
 (O7).bind λr1=>(O7).bind λr2=>ck (be (sub ([r1,r2]:U bL) 0 2).length 2)<|ck (be (sub ([(aH.mk 5 5 7 7 0 3 2 0 false)]:U aH) 0 1).length 1)<|ck (be (sub ([(ax.mk 0 0 20 20)]:U ax) 0 1).length 1)<|ck (be (sub ([(gI.mk 1 0 (sub ([(ax.mk 0 0 20 20)]:U ax) 0 1) ([]))]:U gI) 0 1).length 1)<|ck (be (sub ([(qj.mk (sub ([(aH.mk 5 5 7 7 0 3 2 0 false)]:U aH) 0 1) ([]))]:U qj) 0 1).length 1)<|ck (be (sub ([⟨#[97]⟩,⟨#[98]⟩]:U ByteArray) 0 2).length 2)<|(iQ n (dK.mk ([]) ([]) ([]) ([]) ([]) ([]) ([]) 0 (sub ([(gI.mk 1 0 (sub ([(ax.mk 0 0 20 20)]:U ax) 0 1) ([]))]:U gI) 0 1) ([]) ([]) ([]) ([])) (sub ([r1,r2]:U bL) 0 2) (aQ.mk 1 (sub ([(qj.mk (sub ([(aH.mk 5 5 7 7 0 3 2 0 false)]:U aH) 0 1) ([]))]:U qj) 0 1)) (sub ([⟨#[97]⟩,⟨#[98]⟩]:U ByteArray) 0 2)).bind λr3=>ck (be (sub ([1,1]:U Int) 0 2).length 2)<|(gL n (sub ([r1,r2]:U bL) 0 2) ([]) 1 (sub ([1,1]:U Int) 0 2) true).bind λr4=>ck (be (sub r4.2.1 0 r4.2.1.length).length r4.2.1.length)<|ck (be (sub ([1,2]:U Int) 0 2).length 2)<|(gL n (sub ([r1,r2]:U bL) 0 2) (sub r4.2.1 0 r4.2.1.length) 2 (sub ([1,2]:U Int) 0 2) false).bind λr5=>ck (be (sub r5.2.1 0 r5.2.1.length).length r5.2.1.length)<|ck (be (sub ([0,1]:U Int) 0 2).length 2)<|(gL n (sub ([r1,r2]:U bL) 0 2) (sub r5.2.1 0 r5.2.1.length) 3 (sub ([0,1]:U Int) 0 2) false).bind λr6=>ck (be (sub r6.2.1 0 r6.2.1.length).length r6.2.1.length)<|ck (be (sub ([0,2]:U Int) 0 2).length 2)<|(gL n (sub ([r1,r2]:U bL) 0 2) (sub r6.2.1 0 r6.2.1.length) 3 (sub ([0,2]:U Int) 0 2) false).bind λr7=>((bif (r4.2.2==0)then(bif (r5.2.2==0)then(bif (r6.2.2==0)then(bif (r7.2.2==5)then(bif r4.1 then(bif r5.1 then some (!r6.1)else some false)else some false)else some false)else some false)else some false)else some false)).bind λv1=>(bif v1 then(bif (((sub r4.2.1 0 r4.2.1.length).length:Int)==1)then(bif (((sub r5.2.1 0 r5.2.1.length).length:Int)==2)then(bif (((sub r6.2.1 0 r6.2.1.length).length:Int)==3)then(bif ((r7.2.1.length:Int)==3)then ck (be (sub r3 0 r3.length).length r3.length)<|ck (be (sub ([0,2]:U Int) 0 2).length 2)<|(FC n (sub r3 0 r3.length) (sub ([0,2]:U Int) 0 2)).bind λr8=>(bif r8 then ck (be (sub ([(bC.mk (⟨#[97]⟩) ([]) ([]) 0 0 0 true 0 0 0 (⟨#[]⟩) (⟨#[]⟩) ([]) 0 0 0 0 0 0 0),(bC.mk (⟨#[98]⟩) ([]) ([]) 0 0 0 false 0 0 0 (⟨#[]⟩) (⟨#[]⟩) ([]) 0 0 0 0 0 0 0)]:U bC) 0 2).length 2)<|ck (be (sub ([⟨#[97]⟩]:U ByteArray) 0 1).length 1)<|(ow n (cK.mk ([]) ([]) ([]) (sub ([(bC.mk (⟨#[97]⟩) ([]) ([]) 0 0 0 true 0 0 0 (⟨#[]⟩) (⟨#[]⟩) ([]) 0 0 0 0 0 0 0),(bC.mk (⟨#[98]⟩) ([]) ([]) 0 0 0 false 0 0 0 (⟨#[]⟩) (⟨#[]⟩) ([]) 0 0 0 0 0 0 0)]:U bC) 0 2) ([]) ([]) ([]) 0) (sub ([⟨#[97]⟩]:U ByteArray) 0 1)).bind λr9=>(bif r9 then ck (be (sub ([(bC.mk (⟨#[97]⟩) ([]) ([]) 0 0 0 true 0 0 0 (⟨#[]⟩) (⟨#[]⟩) ([]) 0 0 0 0 0 0 0),(bC.mk (⟨#[98]⟩) ([]) ([]) 0 0 0 false 0 0 0 (⟨#[]⟩) (⟨#[]⟩) ([]) 0 0 0 0 0 0 0)]:U bC) 0 2).length 2)<|ck (be (sub ([⟨#[97]⟩,⟨#[98]⟩]:U ByteArray) 0 2).length 2)<|(ow n (cK.mk ([]) ([]) ([]) (sub ([(bC.mk (⟨#[97]⟩) ([]) ([]) 0 0 0 true 0 0 0 (⟨#[]⟩) (⟨#[]⟩) ([]) 0 0 0 0 0 0 0),(bC.mk (⟨#[98]⟩) ([]) ([]) 0 0 0 false 0 0 0 (⟨#[]⟩) (⟨#[]⟩) ([]) 0 0 0 0 0 0 0)]:U bC) 0 2) ([]) ([]) ([]) 0) (sub ([⟨#[97]⟩,⟨#[98]⟩]:U ByteArray) 0 2)).bind λoy=>some (!oy)else some false)else some false)else some false)else some false)else some false)else some false)else some false)
def M0(a0:dK):Stp Int (Unit⊕Bool)
 |v2=>(bif decide (v2<(a0.aE.length:Int))then((br a0.aE v2).bind λx1=>(bif decide ((x1.zones.length:Int)>5)then some true else(br a0.aE v2).bind λx2=>some (decide ((x2.except.length:Int)>5)))).bind λv3=>(bif v3 then(some false).map λa=> .inr (.inr a)else some (.inl (i64.wrap (v2+1))))else some (.inr (.inl ())))
def M4(a0:dK):Stp Int (Unit⊕Bool)
 |v4=>(bif decide (v4<(a0.land.length:Int))then(br a0.land v4).bind λx3=>(bif decide ((x3.area.length:Int)>10)then(some false).map λa=> .inr (.inr a)else some (.inl (i64.wrap (v4+1))))else some (.inr (.inl ())))
def M5(a0:dK):Stp Int (Unit⊕Bool)
 |v5=>(bif decide (v5<(a0.cg.length:Int))then(br a0.cg v5).bind λx4=>(bif decide ((x4.area.length:Int)>10)then(some false).map λa=> .inr (.inr a)else some (.inl (i64.wrap (v5+1))))else some (.inr (.inl ())))
def Wu(a0:dK):J Bool:=
 ((bif decide ((a0.aE.length:Int)>10)then some true else(bif decide ((a0.b7.length:Int)>6)then some true else(bif decide ((a0.cd.length:Int)>20)then some true else(bif decide ((a0.bk.length:Int)>20)then some true else(bif decide ((a0.land.length:Int)>5)then some true else(bif decide ((a0.cg.length:Int)>5)then some true else some (decide ((a0.built.length:Int)>6))))))))).bind λv1=>(bif v1 then some false else dm (iter (M0 a0) n (0:Int)) λ()=>dm (iter (M4 a0) n (0:Int)) λ()=>dm (iter (M5 a0) n (0:Int)) λ()=>some true)
def oC(a0:U aQ)(v1:Int):Stp Int (Unit⊕(Int⊕(Unit⊕Bool)))
 |v2=>(br a0 v1).bind λx1=>(bif decide (v2<(x1.phases.length:Int))then((br a0 v1).bind λx2=>(br x2.phases v2).bind λx3=>(bif decide ((x3.cj.length:Int)>12)then some true else(br a0 v1).bind λx4=>(br x4.phases v2).bind λx5=>some (decide ((x5.gives.length:Int)>6)))).bind λv3=>(bif v3 then((some false).map λa=> .inr (.inr a)).map λa=> .inr (.inr a)else some (.inl (i64.wrap (v2+1))))else some (.inr (.inl ())))
def kS(a0:U aQ):Stp Int (Unit⊕Bool)
 |v1=>(bif decide (v1<(a0.length:Int))then dm (iter (oC a0 v1) n (0:Int)) λ()=>(br a0 v1).bind λx6=>(bif decide ((x6.phases.length:Int)>9)then(some false).map λa=> .inr (.inr a)else some (.inl (i64.wrap (v1+1))))else some (.inr (.inl ())))
def o6(a0:U aQ):J Bool:=
 dm (iter (kS n a0) n (0:Int)) λ()=>some (decide ((a0.length:Int)<=9))
def YO(a2:U N0):Stp Int (Unit⊕Bool)
 |v1=>(bif decide (v1<(a2.length:Int))then(br a2 v1).bind λx1=>(o6 n x1.gR).bind λr1=>(bif (!r1)then(some false).map λa=> .inr (.inr a)else some (.inl (i64.wrap (v1+1))))else some (.inr (.inl ())))
def Wv(a0:cK)(a1:Ju)(a2:U N0):J Bool:=
 dm (iter (YO n a2) n (0:Int)) λ()=>(bif decide ((a0.rules.length:Int)<=20)then(bif decide ((a2.length:Int)<=14)then(o6 n a1.gR).bind λr2=>some r2 else some false)else some false)
def Ww(a0:dK)(a1:aQ)(a2:U ByteArray):J Bool:=
 (Wu n a0).bind λr1=>(bif r1 then ck (be (sub ([a1]:U aQ) 0 1).length 1)<|(Wv n (cK.mk ([]) ([]) ([]) ([]) ([]) ([]) ([]) 0) (Ju.mk 0 0 0 0 0 (sub ([a1]:U aQ) 0 1) 0 0) ([])).bind λr2=>(bif r2 then some (decide ((a2.length:Int)<=20))else some false)else some false)
def tq(a0:U bL):Stp Int (Unit⊕Bool)
 |v1=>(bif decide (v1<(a0.length:Int))then(br a0 v1).bind λx1=>(bif decide ((x1.pairs.length:Int)>20)then(some false).map λa=> .inr (.inr a)else some (.inl (i64.wrap (v1+1))))else some (.inr (.inl ())))
def tu(a1:U aV):Stp Int (Unit⊕Bool)
 |v2=>(bif decide (v2<(a1.length:Int))then(br a1 v2).bind λx2=>(bif decide ((x2.values.length:Int)>8)then(some false).map λa=> .inr (.inr a)else some (.inl (i64.wrap (v2+1))))else some (.inr (.inl ())))
def yJ(a0:U bL)(a1:U aV):J Bool:=
 dm (iter (tq a0) n (0:Int)) λ()=>dm (iter (tu a1) n (0:Int)) λ()=>(bif decide ((a0.length:Int)<=5)then some (decide ((a1.length:Int)<=14))else some false)
def xJ(a0:aQ):J (List aH):=
 (oU n a0 0 (a0.phases.length:Int)).bind λr1=>ck (be (sub r1 0 r1.length).length r1.length)<|some (sub r1 0 r1.length)
def yK(a0:DM)(a1:DM):J Bool:=
 (uq (ax.mk a0.oe a0.oa a0.oc a0.nF) (ax.mk a1.oe a1.oa a1.oc a1.nF)).bind λr1=>(bif r1.2 then(bif decide (a0.z0<(a1.z1:Int))then some (decide (a1.z0<(a0.z1:Int)))else some false)else some false)
def tC(a0:aH)(a1:aH):J Bool:=
 (yK (DM.mk a1.bx a1.ca a1.bu a1.b9 a1.eh a1.d6) (DM.mk a0.bx a0.ca a0.bu a0.b9 a0.eh a0.d6)).bind λr1=>some r1
def FD(a0:U aH)(a1:(aH×Unit)->J Bool):Stp Int (Unit⊕Int)
 |v1=>(bif decide (v1<(a0.length:Int))then(br a0 v1).bind λx1=>(a1 (x1,())).bind λr1=>(bif r1 then(some v1).map λa=> .inr (.inr a)else some (.inl (i64.wrap (v1+1))))else some (.inr (.inl ())))
def rJ(a0:U aH)(a1:(aH×Unit)->J Bool):J Int:=
 dm (iter (FD a0 a1) n (0:Int)) λ()=>some ((-1):Int)
def fU(a0:U aH)(a1:(aH×Unit)->J Bool):J Bool:=
 (rJ n a0 a1).bind λr1=>some (decide (r1>=0))
def FE(a0:Int):J Bool:=
 (bif decide (a0>=97)then some (decide (a0<=122))else some false)
def BA(a0:ByteArray)(a1:(Int×Unit)->J Bool):Stp Int Int
 |v1=>((bif decide (v1<(a0.size:Int))then(TY a0 v1).bind λx1=>(a1 (x1,())).bind λr1=>some r1 else some false)).bind λv2=>(bif v2 then some (.inl (i64.wrap (v1+1)))else some (.inr v1))
def Pj(a0:ByteArray)(a1:(Int×Unit)->J Bool):J Int:=
 (iter (BA a0 a1) n (0:Int)).bind λw1=>some w1
def RI(a0:Int):J Bool:=
 (bif decide (a0>=48)then some (decide (a0<=57))else some false)
def BB(a0:Int):J Bool:=
 (FE a0).bind λr1=>(bif r1 then some true else(RI a0).bind λr2=>some r2)
def Pk(a0:ByteArray):J Bool:=
 ((bif (ByteArray.toList a0==ByteArray.toList (⟨#[]⟩))then some true else(TY a0 0).bind λx1=>(FE x1).bind λr1=>(bif (!r1)then some true else some (decide ((a0.size:Int)>20))))).bind λv1=>(bif v1 then some false else(Pj n a0 (λ (y1:Int×Unit)=>BB y1.1)).bind λr2=>some (r2==(a0.size:Int)))
def strings_Contains(a0 a1:ByteArray):J Bool:=ck (Nat.ble a0.size 4000000)<|some (Lib.contains a0.data.toList a1.data.toList)
def xK(a0:ByteArray):J Bool:=
 (Pk n a0).bind λr1=>(bif r1 then ck (XD (⟨#[32]⟩) a0)<|ck (XD ((⟨#[32]⟩)++a0) (⟨#[32]⟩))<|(strings_Contains (⟨#[32,97,110,100,32,97,112,97,114,116,32,98,97,115,101,32,99,97,112,32,100,101,102,105,110,101,32,101,108,115,101,32,101,120,99,101,112,116,32,102,114,111,109,32,103,114,97,99,101,32,104,111,117,114,115,32,105,102,32,105,110,32,108,101,97,115,116,32,110,111,116,32,111,114,32,111,118,101,114,108,97,121,32,112,108,97,110,101,32,114,117,108,101,32,115,108,111,112,101,32,115,117,110,32,116,97,98,108,101,32,116,104,101,110,32,117,110,116,105,108,32,117,115,101,115,32,118,97,114,121,32,118,105,101,119,32,122,111,110,101,32]⟩) (((⟨#[32]⟩)++a0)++(⟨#[32]⟩))).bind λr2=>some (!r2)else some false)
def lG(r1:U aH):Stp Int (Unit⊕Bool)
 |v2=>(bif decide (v2<(r1.length:Int))then ck (co v2 r1.length)<|(br r1 ((0:Nat)+v2:Int)).bind λx1=>((gu x1).bind λr2=>(bif (!r2)then some true else ck (vQ 0 v2 r1.length)<|ck (be (sub r1 0 ((v2:Int).toNat)).length ((v2:Int).toNat))<|(fU n (sub r1 0 ((v2:Int).toNat)) (λ (y1:aH×Unit)=>tC y1.1 x1)).bind λr3=>some r3)).bind λv3=>(bif v3 then(some false).map λa=> .inr (.inr a)else some (.inl (i64.wrap (v2+1))))else some (.inr (.inl ())))
def lH(x2:qj):Stp (Int×(List (ByteArray×Bool))) (Unit⊕(Int⊕(Unit⊕Bool)))
 |(v5,v6)=>(bif decide (v5<(x2.gives.length:Int))then(br x2.gives v5).bind λx3=>((bif ((fI lf x3.name v6).getD false)then some true else(xK n x3.name).bind λr4=>(bif (!r4)then some true else(bif decide (x3.n<0)then some true else some (decide (x3.n>1073741824)))))).bind λv7=>(bif v7 then((some false).map λa=> .inr (.inr a)).map λa=> .inr (.inr a)else some (.inl ((i64.wrap (v5+1)),(qg lf x3.name true v6))))else some (.inr (.inl ())))
def lI(a0:aQ):Stp Int (Unit⊕Bool)
 |v4=>(bif decide (v4<(a0.phases.length:Int))then(br a0.phases v4).bind λx2=>dm (iter (lH n x2) n ((0:Int),([]:(List (ByteArray×Bool))))) λ()=>(bif decide ((x2.gives.length:Int)>30)then(some false).map λa=> .inr (.inr a)else some (.inl (i64.wrap (v4+1))))else some (.inr (.inl ())))
def yL(a0:aQ):J Bool:=
 (xJ n a0).bind λr1=>((bif decide (a0.lot<0)then some true else(bif decide (a0.lot>1073741824)then some true else(bif decide ((a0.phases.length:Int)<1)then some true else(bif decide ((a0.phases.length:Int)>8)then some true else(bif decide ((r1.length:Int)<1)then some true else some (decide ((r1.length:Int)>40)))))))).bind λv1=>(bif v1 then some false else dm (iter (lG n r1) n (0:Int)) λ()=>dm (iter (lI n a0) n (0:Int)) λ()=>some true)
def l8(a0:U bR)(a1:Int)(a2:(bR×Int×Unit)->J Int):Stp (Int×Int) Int
 |(v1,v2)=>(bif decide (v1<(v2:Int))then ck (decide (0<=1)&&decide (1<=IntKind.u64.bits))<|(br a0 (i64.wrap ((IntKind.u64.wrap (i64.wrap (v1+v2)))/2 ^ (1:Int).toNat))).bind λx1=>(a2 (x1,a1,())).bind λr1=>(bif decide (r1<0)then some (.inl ((i64.wrap ((i64.wrap ((IntKind.u64.wrap (i64.wrap (v1+v2)))/2 ^ (1:Int).toNat))+1)),v2))else some (.inl (v1,(i64.wrap ((IntKind.u64.wrap (i64.wrap (v1+v2)))/2 ^ (1:Int).toNat)))))else some (.inr v1))
def jk(a0:U bR)(a1:Int)(a2:(bR×Int×Unit)->J Int):J (Int×Bool):=
 (iter (l8 a0 a1 a2) n ((0:Int),(a0.length:Int))).bind λw1=>(bif decide (w1<(a0.length:Int))then(br a0 w1).bind λx2=>(a2 (x2,a1,())).bind λr2=>some (w1,(r2==0))else some (w1,false))
def xL(a0:bR)(a1:Int):J Int:=
 (bif decide (a0.x1<=(a1:Int))then some ((-1):Int)else some (1:Int))
def YP(a0:U bR)(a1:Int):J (List aN):=
 (jk n a0 a1 (λ (y1:bR×Int×Unit)=>xL y1.1 y1.2.1)).bind λr1=>((bif decide (r1.1<(a0.length:Int))then(br a0 r1.1).bind λx1=>some (decide (x1.x0<=(a1:Int)))else some false)).bind λv1=>(bif v1 then(br a0 r1.1).bind λx2=>some x2.column else some ([]:(List aN)))
def Pm(a0:Unit)(a1:Int):J (List aN):=
 (bif decide (a1<0)then none else(bif (decide ((i64.wrap (a1 -(i64.wrap (0 -0))))>0))then ck (xw (i64.wrap (a1 -(i64.wrap (0 -0)))) 16)<|ck (vQ 0 0 ((i64.wrap (a1 -(i64.wrap (0 -0)))).toNat))<|ck (be (sub (List.replicate (i64.wrap (a1 -(i64.wrap (0 -0)))).toNat (aN.mk 0 0)) 0 0).length 0)<|some (sub (List.replicate (i64.wrap (a1 -(i64.wrap (0 -0)))).toNat (aN.mk 0 0)) 0 0)else some ([]:(List aN))))
def Pn(a0:U (List aN)):Stp (Int×Int) Int
 |(v1,v2)=>(bif decide (v2<(a0.length:Int))then(br a0 v2).bind λx1=>(bif decide ((i64.wrap (v1+(x1.length:Int)))<0)then none else some (.inl ((i64.wrap (v1+(x1.length:Int))),(i64.wrap (v2+1)))))else some (.inr v1))
def Po(a0:U (List aN)):Stp (Int×(List aN)) (List aN)
 |(v3,v4)=>(bif decide (v3<(a0.length:Int))then(br a0 v3).bind λx2=>ck (bP v4.length v4.length x2.length x2.length 16)<|iC (v4++x2) λr2=>ck (be r2.length r2.length)<|some (.inl ((i64.wrap (v3+1)),r2))else ck (be v4.length v4.length)<|some (.inr v4))
def zS(a0:U (List aN)):J (List aN):=
 (iter (Pn a0) n ((0:Int),(0:Int))).bind λw1=>(Pm () w1).bind λr1=>ck (be r1.length r1.length)<|(iter (Po a0) n ((0:Int),r1)).bind λw2=>ck (be (sub w2 0 w2.length).length w2.length)<|some (sub w2 0 w2.length)
def ng(a0:U aN)(a1:Int)(a2:(aN×Int×Unit)->J Int):Stp (Int×Int) Int
 |(v1,v2)=>(bif decide (v1<(v2:Int))then ck (decide (0<=1)&&decide (1<=IntKind.u64.bits))<|(br a0 (i64.wrap ((IntKind.u64.wrap (i64.wrap (v1+v2)))/2 ^ (1:Int).toNat))).bind λx1=>(a2 (x1,a1,())).bind λr1=>(bif decide (r1<0)then some (.inl ((i64.wrap ((i64.wrap ((IntKind.u64.wrap (i64.wrap (v1+v2)))/2 ^ (1:Int).toNat))+1)),v2))else some (.inl (v1,(i64.wrap ((IntKind.u64.wrap (i64.wrap (v1+v2)))/2 ^ (1:Int).toNat)))))else some (.inr v1))
def jJ(a0:U aN)(a1:Int)(a2:(aN×Int×Unit)->J Int):J (Int×Bool):=
 (iter (ng a0 a1 a2) n ((0:Int),(a0.length:Int))).bind λw1=>(bif decide (w1<(a0.length:Int))then(br a0 w1).bind λx2=>(a2 (x2,a1,())).bind λr2=>some (w1,(r2==0))else some (w1,false))
def l9(a0:aN)(a1:Int):J Int:=
 (bif decide (a0.to<=(a1:Int))then some ((-1):Int)else some (1:Int))
def Ed(a0:U aN)(a1:Int):J Bool:=
 (jJ n a0 a1 (λ (y1:aN×Int×Unit)=>l9 y1.1 y1.2.1)).bind λr1=>(bif decide (r1.1<(a0.length:Int))then(br a0 r1.1).bind λx1=>some (decide (x1.from_<=(a1:Int)))else some false)
def xM(r1:U aN):Stp (Int×(List Int)) (List Int)
 |(v1,v2)=>(bif decide (v1<(r1.length:Int))then ck (co v1 r1.length)<|(br r1 ((0:Nat)+v1:Int)).bind λx1=>ck (bP v2.length v2.length (sub ([x1.from_,x1.to]:U Int) 0 2).length 2 8)<|iC (v2++(sub ([x1.from_,x1.to]:U Int) 0 2)) λr2=>ck (be r2.length r2.length)<|some (.inl ((i64.wrap (v1+1)),r2))else ck (be v2.length v2.length)<|some (.inr v2))
def xN(a0:U aN)(a1:U aN)(a2:(Bool×Bool×Unit)->J Bool)(r4:Unit×(List Int)):Stp (Int×(List aN)) (List aN)
 |(v3,v4)=>(bif decide (v3<(r4.2.length:Int))then(ck (co (i64.wrap (v3 -1)) r4.2.length)<|(br r4.2 ((0:Nat)+(i64.wrap (v3 -1)):Int)).bind λx2=>(Ed n a0 x2).bind λr5=>(Ed n a1 x2).bind λr6=>(a2 (r5,r6,())).bind λr7=>(bif (!r7)then ck (be v4.length v4.length)<|some v4 else((bif decide ((v4.length:Int)>0)then ck (co (i64.wrap ((v4.length:Int) -1)) v4.length)<|(br v4 ((0:Nat)+(i64.wrap ((v4.length:Int) -1)):Int)).bind λx3=>some (x3.to==(x2:Int))else some false)).bind λv5=>(bif v5 then ck (co v3 r4.2.length)<|(br r4.2 ((0:Nat)+v3:Int)).bind λx4=>ck (co (i64.wrap ((v4.length:Int) -1)) v4.length)<|(br v4 ((0:Nat)+(i64.wrap ((v4.length:Int) -1)):Int)).bind λx5=>ck (be v4.length (v4.set ((0:Nat)+(i64.wrap ((v4.length:Int) -1)):Int).toNat (aN.mk x5.from_ x4)).length)<|some (v4.set ((0:Nat)+(i64.wrap ((v4.length:Int) -1)):Int).toNat (aN.mk x5.from_ x4))else ck (co v3 r4.2.length)<|(br r4.2 ((0:Nat)+v3:Int)).bind λx6=>ck (bP v4.length v4.length (sub ([(aN.mk x2 x6)]:U aN) 0 1).length 1 16)<|iC (v4++(sub ([(aN.mk x2 x6)]:U aN) 0 1)) λr8=>ck (be r8.length r8.length)<|some r8)):J ((List aN))).bind λv6=>ck (be v6.length v6.length)<|some (.inl ((i64.wrap (v3+1)),v6))else ck (be v4.length v4.length)<|some (.inr v4))
def JC(a0:U aN)(a1:U aN)(a2:(Bool×Bool×Unit)->J Bool):J (List aN):=
 ck (be (sub ([a0,a1]:U (List aN)) 0 2).length 2)<|(zS n (sub ([a0,a1]:U (List aN)) 0 2)).bind λr1=>ck (be 0 ([]:U Int).length)<|(iter (xM r1) n ((0:Int),([]:U Int))).bind λw1=>ck (be w1.length w1.length)<|(nR n w1).bind λr3=>ck (be w1.length r3.length)<|(nL n r3).bind λr4=>ck (be 0 ([]:U aN).length)<|(iter (xN n a0 a1 a2 r4) n ((1:Int),([]:U aN))).bind λw2=>ck (be (sub w2 0 w2.length).length w2.length)<|some (sub w2 0 w2.length)
def rY(a2:(Bool×Bool×Unit)->J Bool)(r3:U bR)(r4:U bR)(r5:U bR):Stp (Int×(List bR)) (List bR)
 |(v2,v3)=>(bif decide (v2<(r5.length:Int))then ck (co v2 r5.length)<|(br v3 ((0:Nat)+v2:Int)).bind λx1=>(YP n (sub r3 0 r3.length) x1.x0).bind λr6=>(YP n (sub r4 0 r4.length) x1.x0).bind λr7=>(JC n r6 r7 a2).bind λr8=>ck (co v2 r5.length)<|ck (be (sub r8 0 r8.length).length r8.length)<|(br v3 ((0:Nat)+v2:Int)).bind λx2=>some (.inl ((i64.wrap (v2+1)),(v3.set ((0:Nat)+v2:Int).toNat (bR.mk x2.x0 x2.x1 (sub r8 0 r8.length)))))else some (.inr v3))
def FH(a0:U ax)(a1:U ax)(a2:(Bool×Bool×Unit)->J Bool):J ((List ax)×Int):=
 ((l5 n a0).bind λr1=>(bif (!r1)then some true else(l5 n a1).bind λr2=>some (!r2))).bind λv1=>(bif v1 then some (([]:(List ax)),(1:Int))else ck (be (sub ([a0]:U (List ax)) 0 1).length 1)<|(pG n (sub ([a0]:U (List ax)) 0 1)).bind λr3=>ck (be (sub ([a1]:U (List ax)) 0 1).length 1)<|(pG n (sub ([a1]:U (List ax)) 0 1)).bind λr4=>ck (be (sub r3 0 r3.length).length r3.length)<|ck (be (sub r4 0 r4.length).length r4.length)<|ck (be (sub ([a0,a1]:U (List ax)) 0 2).length 2)<|(pG n (sub ([a0,a1]:U (List ax)) 0 2)).bind λr5=>(iter (rY n a2 r3 r4 r5) n ((0:Int),r5)).bind λw1=>ck (be (sub w1 0 r5.length).length r5.length)<|(Jy n (sub w1 0 r5.length)).bind λr9=>ck (be (sub r9 0 r9.length).length r9.length)<|(zO (sub r9 0 r9.length)).bind λoy=>some (oy.1,oy.2))
def yM(a0:Bool)(a1:Bool):J Bool:=
 (bif a0 then some a1 else some false)
def KU(a0:U ax)(a1:U ax):J ((List ax)×Int):=
 (FH n a0 a1 (λ (y1:Bool×Bool×Unit)=>yM y1.1 y1.2.1)).bind λr1=>some (r1.1,r1.2)
def wG(a0:gJ)(a1:bQ):J Bool:=
 some (ByteArray.toList a0.name==ByteArray.toList a1.name)
def Lf(a0:U gJ)(a1:(gJ×Unit)->J Bool):Stp Int (Unit⊕Int)
 |v1=>(bif decide (v1<(a0.length:Int))then(br a0 v1).bind λx1=>(a1 (x1,())).bind λr1=>(bif r1 then(some v1).map λa=> .inr (.inr a)else some (.inl (i64.wrap (v1+1))))else some (.inr (.inl ())))
def wH(a0:U gJ)(a1:(gJ×Unit)->J Bool):J Int:=
 dm (iter (Lf a0 a1) n (0:Int)) λ()=>some ((-1):Int)
def nD(a0:U gJ)(a1:(gJ×Unit)->J Bool):J Bool:=
 (wH n a0 a1).bind λr1=>some (decide (r1>=0))
def kF(a1:gI)(r3:U aH):Stp Int (Unit⊕Bool)
 |v2=>(bif decide (v2<(r3.length:Int))then ck (co v2 r3.length)<|(br r3 ((0:Nat)+v2:Int)).bind λx1=>ck (be (sub ([(ax.mk x1.bx x1.ca x1.bu x1.b9)]:U ax) 0 1).length 1)<|(KU n a1.area (sub ([(ax.mk x1.bx x1.ca x1.bu x1.b9)]:U ax) 0 1)).bind λr4=>((bif (r4.2 !=0)then some true else(Ph n r4.1).bind λr5=>(zP (ax.mk x1.bx x1.ca x1.bu x1.b9)).bind λr6=>some (decide (r5<(r6:Int))))).bind λv3=>(bif v3 then(some false).map λa=> .inr (.inr a)else some (.inl (i64.wrap (v2+1))))else some (.inr (.inl ())))
def kG(a0:cK)(x2:qj):Stp Int (Unit⊕(Int⊕(Unit⊕Bool)))
 |v5=>(bif decide (v5<(x2.gives.length:Int))then(br x2.gives v5).bind λx3=>(nD n a0.caps (λ (y1:gJ×Unit)=>wG y1.1 x3)).bind λr7=>(bif (!r7)then((some false).map λa=> .inr (.inr a)).map λa=> .inr (.inr a)else some (.inl (i64.wrap (v5+1))))else some (.inr (.inl ())))
def kH(a0:cK)(a2:aQ):Stp Int (Unit⊕Bool)
 |v4=>(bif decide (v4<(a2.phases.length:Int))then(br a2.phases v4).bind λx2=>dm (iter (kG n a0 x2) n (0:Int)) λ()=>some (.inl (i64.wrap (v4+1)))else some (.inr (.inl ())))
def pK(a0:cK)(a1:gI)(a2:aQ):J Bool:=
 ((yL n a2).bind λr1=>(bif (!r1)then some true else(bif (a1.id !=(a2.lot:Int))then some true else(l5 n a1.area).bind λr2=>some (!r2)))).bind λv1=>(bif v1 then some false else(xJ n a2).bind λr3=>dm (iter (kF n a1 r3) n (0:Int)) λ()=>dm (iter (kH n a0 a2) n (0:Int)) λ()=>some true)
def p8(a0:aQ):Stp (Int×(List aH)) (List aH)
 |(v1,v2)=>(bif decide (v1<(a0.phases.length:Int))then(br a0.phases v1).bind λx1=>ck (bP v2.length v2.length x1.cj.length x1.cj.length 72)<|iC (v2++x1.cj) λr1=>ck (be r1.length r1.length)<|some (.inl ((i64.wrap (v1+1)),r1))else ck (be v2.length v2.length)<|some (.inr v2))
def ve(a0:aQ):J (List aH):=
 ck (be 0 ([]:U aH).length)<|(iter (p8 a0) n ((0:Int),([]:U aH))).bind λw1=>ck (be (sub w1 0 w1.length).length w1.length)<|some (sub w1 0 w1.length)
def p9(a0:U dP):Stp (Int×(List jN)) (List jN)
 |(v1,v2)=>(bif decide (v1<(a0.length:Int))then(br a0 v1).bind λx1=>ck ((a0.length:Int) !=0)<|(br a0 (Int.tmod (i64.wrap (v1+1)) (a0.length:Int))).bind λx2=>ck (co v1 ((a0.length:Int).toNat))<|(br v2 ((0:Nat)+v1:Int)).bind λx3=>some (.inl ((i64.wrap (v1+1)),(v2.set ((0:Nat)+v1:Int).toNat (jN.mk x1.x x1.y x2.x x2.y))))else some (.inr v2))
def qp(a0:U dP):J (List jN):=
 ck (decide ((a0.length:Int)<=(a0.length:Int))&&(decide (0<=(a0.length:Int))&&xw (a0.length:Int) 32))<|(iter (p9 a0) n ((0:Int),(List.replicate (a0.length:Int).toNat (jN.mk 0 0 0 0)))).bind λw1=>ck (be (sub w1 0 ((a0.length:Int).toNat)).length ((a0.length:Int).toNat))<|some (sub w1 0 ((a0.length:Int).toNat))
def vg(a0:dP):J Bool:=
 (bif decide (0<=(a0.x:Int))then(bif decide (a0.x<=1048576)then(bif decide (0<=(a0.y:Int))then some (decide (a0.y<=1048576))else some false)else some false)else some false)
def gV(a0:jN):J Bool:=
 some (a0.lj==(a0.lP:Int))
def wQ(a0:U Int):Stp Int (Unit⊕Int)
 |v1=>(bif decide (v1<(a0.length:Int))then(br a0 v1).bind λx1=>(bif (x1 !=0)then(some x1).map λa=> .inr (.inr a)else some (.inl (i64.wrap (v1+1))))else some (.inr (.inl ())))
def tT(a0:U Int):J Int:=
 dm (iter (wQ a0) n (0:Int)) λ()=>some (0:Int)
def tF(a0:dP)(a1:dP):J Int:=
 (cmp_Compare_int a0.x a1.x).bind λr1=>(cmp_Compare_int a0.y a1.y).bind λr2=>ck (be (sub ([r1,r2]:U Int) 0 2).length 2)<|(tT n (sub ([r1,r2]:U Int) 0 2)).bind λr3=>some r3
def mh(a0:jN)(a1:jN):J Bool:=
 (bif decide ((max (min a0.lj a0.lP) (min a1.lj a1.lP))<=((min (max a0.lj a0.lP) (max a1.lj a1.lP)):Int))then some (decide ((max (min a0.pp a0.t8) (min a1.pp a1.t8))<=((min (max a0.pp a0.t8) (max a1.pp a1.t8)):Int)))else some false)
def qO(a0:U dP)(r1:U jN):Stp Int (Unit⊕Bool)
 |v2=>(bif decide (v2<(r1.length:Int))then ck (co v2 r1.length)<|(br r1 ((0:Nat)+v2:Int)).bind λx1=>ck ((r1.length:Int) !=0)<|ck (co (Int.tmod (i64.wrap (v2+1)) (r1.length:Int)) r1.length)<|(br r1 ((0:Nat)+(Int.tmod (i64.wrap (v2+1)) (r1.length:Int)):Int)).bind λx2=>((vg (dP.mk x1.lj x1.pp)).bind λr2=>(bif (!r2)then some true else(bif ((x1.lj==(x1.lP:Int))==(x1.pp==(x1.t8:Int)))then some true else(gV x1).bind λr3=>(gV x2).bind λr4=>some (r3==r4)))).bind λv3=>(bif v3 then(some false).map λa=> .inr (.inr a)else((bif decide (v2>0)then(br a0 0).bind λx3=>(br a0 v2).bind λx4=>(tF n x3 x4).bind λr5=>some (decide (r5>=0))else some false)).bind λv4=>(bif v4 then(some false).map λa=> .inr (.inr a)else some (.inl (i64.wrap (v2+1)))))else some (.inr (.inl ())))
def jd(r1:U jN)(v5:Int):Stp Int (Unit⊕(Int⊕(Unit⊕Bool)))
 |v6=>(bif decide (v6<(r1.length:Int))then((bif (decide ((i64.wrap ((i64.wrap (v5+(r1.length:Int))) -v6))>1))then ck (co v5 r1.length)<|(br r1 ((0:Nat)+v5:Int)).bind λx5=>ck (co v6 r1.length)<|(br r1 ((0:Nat)+v6:Int)).bind λx6=>(mh x5 x6).bind λr6=>some r6 else some false)).bind λv7=>(bif v7 then((some false).map λa=> .inr (.inr a)).map λa=> .inr (.inr a)else some (.inl (i64.wrap (v6+1))))else some (.inr (.inl ())))
def qP(r1:U jN):Stp Int (Unit⊕Bool)
 |v5=>(bif decide (v5<(r1.length:Int))then dm (iter (jd r1 v5) n (i64.wrap (v5+2))) λ()=>some (.inl (i64.wrap (v5+1)))else some (.inr (.inl ())))
def wR(a0:U dP):J Bool:=
 ((bif decide ((a0.length:Int)<4)then some true else some (decide ((a0.length:Int)>60)))).bind λv1=>(bif v1 then some false else(qp n a0).bind λr1=>dm (iter (qO n a0 r1) n (0:Int)) λ()=>dm (iter (qP n r1) n (0:Int)) λ()=>ck (co 0 r1.length)<|(br r1 ((0:Nat)+0:Int)).bind λx7=>(gV x7).bind λr7=>some (!r7))
def mq(a0:U dP):Stp (Int×(List Int)) (List Int)
 |(v1,v2)=>(bif decide (v1<(a0.length:Int))then(br a0 v1).bind λx1=>ck (bP v2.length v2.length (sub ([x1.x]:U Int) 0 1).length 1 8)<|iC (v2++(sub ([x1.x]:U Int) 0 1)) λr2=>ck (be r2.length r2.length)<|some (.inl ((i64.wrap (v1+1)),r2))else ck (be v2.length v2.length)<|some (.inr v2))
def mD(r4:Unit×(List Int))(r5:U jN)(v3:Int):Stp (Int×(List Int)) (List Int)
 |(v5,v6)=>(bif decide (v5<(r5.length:Int))then(ck (co v5 r5.length)<|(br r5 ((0:Nat)+v5:Int)).bind λx2=>((gV x2).bind λr6=>(bif (!r6)then ck (co v3 r4.2.length)<|(br r4.2 ((0:Nat)+v3:Int)).bind λx3=>(bif decide ((min x2.lj x2.lP)<=(x3:Int))then ck (co v3 r4.2.length)<|(br r4.2 ((0:Nat)+v3:Int)).bind λx4=>some (decide (x4<((max x2.lj x2.lP):Int)))else some false)else some false)).bind λv7=>(bif v7 then ck (bP v6.length v6.length (sub ([x2.pp]:U Int) 0 1).length 1 8)<|iC (v6++(sub ([x2.pp]:U Int) 0 1)) λr7=>ck (be r7.length r7.length)<|some r7 else ck (be v6.length v6.length)<|some v6):J ((List Int))).bind λv8=>ck (be v8.length v8.length)<|some (.inl ((i64.wrap (v5+1)),v8))else ck (be v6.length v6.length)<|some (.inr v6))
def jH(r4:Unit×(List Int))(v3:Int)(w2:U Int)(r8:U Int):Stp (Int×(List ax)) (List ax)
 |(v9,v10)=>(bif decide ((i64.wrap (v9+1))<(w2.length:Int))then ck (co v3 r4.2.length)<|(br r4.2 ((0:Nat)+v3:Int)).bind λx5=>ck (co v9 w2.length)<|(br r8 ((0:Nat)+v9:Int)).bind λx6=>ck (co (i64.wrap (v3+1)) r4.2.length)<|(br r4.2 ((0:Nat)+(i64.wrap (v3+1)):Int)).bind λx7=>ck (co (i64.wrap (v9+1)) w2.length)<|(br r8 ((0:Nat)+(i64.wrap (v9+1)):Int)).bind λx8=>ck (bP v10.length v10.length (sub ([(ax.mk x5 x6 x7 x8)]:U ax) 0 1).length 1 32)<|iC (v10++(sub ([(ax.mk x5 x6 x7 x8)]:U ax) 0 1)) λr9=>ck (be r9.length r9.length)<|some (.inl ((i64.wrap (v9+2)),r9))else ck (be v10.length v10.length)<|some (.inr v10))
def mE(r4:Unit×(List Int))(r5:U jN):Stp (Int×(List ax)) (List ax)
 |(v3,v4)=>(bif (decide (v3<((i64.wrap ((r4.2.length:Int) -1)):Int)))then ck (be 0 ([]:U Int).length)<|(iter (mD r4 r5 v3) n ((0:Int),([]:U Int))).bind λw2=>ck (be w2.length w2.length)<|(nR n w2).bind λr8=>ck (be v4.length v4.length)<|(iter (jH r4 v3 w2 r8) n ((0:Int),v4)).bind λw3=>ck (be w3.length w3.length)<|some (.inl ((i64.wrap (v3+1)),w3))else ck (be v4.length v4.length)<|some (.inr v4))
def vk(a0:U dP):J ((List ax)×Int):=
 (wR n a0).bind λr1=>(bif (!r1)then some (([]:(List ax)),(10:Int))else ck (be 0 ([]:U Int).length)<|(iter (mq a0) n ((0:Int),([]:U Int))).bind λw1=>ck (be w1.length w1.length)<|(nR n w1).bind λr3=>ck (be w1.length r3.length)<|(nL n r3).bind λr4=>(qp n a0).bind λr5=>ck (be 0 ([]:U ax).length)<|(iter (mE n r4 r5) n ((0:Int),([]:U ax))).bind λw4=>(bif decide ((w4.length:Int)>200)then some (([]:(List ax)),(6:Int))else ck (be (sub w4 0 w4.length).length w4.length)<|some ((sub w4 0 w4.length),(0:Int))))
def yN(a0:dV):J (List ax):=
 (vk n a0.corners).bind λr1=>(bif (r1.2 !=0)then some ([]:(List ax))else ck (be (sub r1.1 0 r1.1.length).length r1.1.length)<|some (sub r1.1 0 r1.1.length))
def qQ(a1:U ax)(x1:ax):Stp (Int×Int×Int×Int) (Int×Int×Int)
 |(v5,v6,v7,v8)=>(bif decide (v6<(a1.length:Int))then((br a1 v6).bind λx2=>(uq x1 x2).bind λr1=>(bif (!r1.2)then some (v5,v7,v8)else(zP r1.1).bind λr2=>(cmp_Compare_int r1.1.x0 v7).bind λr3=>(cmp_Compare_int r1.1.y0 v8).bind λr4=>ck (be (sub ([r3,r4]:U Int) 0 2).length 2)<|(tT n (sub ([r3,r4]:U Int) 0 2)).bind λr5=>(bif decide (r5<0)then some ((i64.wrap (v5+r2)),r1.1.x0,r1.1.y0)else some ((i64.wrap (v5+r2)),v7,v8))):J (Int×Int×Int)).bind λ(v9,v10,v11)=>some (.inl (v9,(i64.wrap (v6+1)),v10,v11))else some (.inr (v5,v7,v8)))
def qR(a0:U ax)(a1:U ax):Stp (Int×Int×Int×Int) (Int×Int×Int)
 |(v1,v2,v3,v4)=>(bif decide (v2<(a0.length:Int))then(br a0 v2).bind λx1=>(iter (qQ n a1 x1) n (v1,(0:Int),v3,v4)).bind λ(w1,w2,w3)=>some (.inl (w1,(i64.wrap (v2+1)),w2,w3))else some (.inr (v1,v3,v4)))
def wS(a0:U ax)(a1:U ax):J (Int×dP):=
 (iter (qR n a0 a1) n ((0:Int),(0:Int),(1048576:Int),(0:Int))).bind λ(w4,w5,w6)=>some (w4,(dP.mk w5 w6))
def qU(a0:cK)(a1:U ax):Stp (Int×(List Int)) (List Int)
 |(v1,v2)=>(bif decide (v1<(a0.zones.length:Int))then(br a0.zones v1).bind λx1=>(yN n x1).bind λr2=>ck (be (sub r2 0 r2.length).length r2.length)<|(wS n a1 (sub r2 0 r2.length)).bind λr3=>ck (bP v2.length v2.length (sub ([r3.1]:U Int) 0 1).length 1 8)<|iC (v2++(sub ([r3.1]:U Int) 0 1)) λr4=>ck (be r4.length r4.length)<|some (.inl ((i64.wrap (v1+1)),r4))else ck (be v2.length v2.length)<|some (.inr v2))
def wT(a0:cK)(a1:U ax):J (List Int):=
 (l5 n a1).bind λr1=>(bif (!r1)then some ([]:(List Int))else ck (be 0 ([]:U Int).length)<|(iter (qU n a0 a1) n ((0:Int),([]:U Int))).bind λw1=>ck (be (sub w1 0 w1.length).length w1.length)<|some (sub w1 0 w1.length))
def qV(a0:cK)(r1:U Int):Stp (Int×Int) Int
 |(v1,v2)=>(bif decide (v2<(r1.length:Int))then(ck (co v2 r1.length)<|(br r1 ((0:Nat)+v2:Int)).bind λx1=>((br a0.zones v2).bind λx2=>(bif (!x2.overlay)then(bif decide (x1>0)then(bif decide (v1<0)then some true else ck (co v1 r1.length)<|(br r1 ((0:Nat)+v1:Int)).bind λx3=>some (decide (x1>(x3:Int))))else some false)else some false)).bind λv3=>(bif v3 then some v2 else some v1):J Int).bind λv4=>some (.inl (v4,(i64.wrap (v2+1))))else some (.inr v1))
def yO(a0:cK)(r1:U Int)(w1:Int):Stp (Int×(List ByteArray)) (List ByteArray)
 |(v5,v6)=>(bif decide (v5<(r1.length:Int))then(ck (co v5 r1.length)<|(br r1 ((0:Nat)+v5:Int)).bind λx4=>((bif (v5==(w1:Int))then some true else(br a0.zones v5).bind λx5=>(bif x5.overlay then some (decide (x4>0))else some false))).bind λv7=>(bif v7 then(br a0.zones v5).bind λx6=>ck (bP v6.length v6.length (sub ([x6.name]:U ByteArray) 0 1).length 1 16)<|iC (v6++(sub ([x6.name]:U ByteArray) 0 1)) λr2=>ck (be r2.length r2.length)<|some r2 else ck (be v6.length v6.length)<|some v6):J ((List ByteArray))).bind λv8=>ck (be v8.length v8.length)<|some (.inl ((i64.wrap (v5+1)),v8))else ck (be v6.length v6.length)<|some (.inr v6))
def Ee(a0:cK)(a1:U ax):J (List ByteArray):=
 (wT n a0 a1).bind λr1=>(iter (qV a0 r1) n (((-1):Int),(0:Int))).bind λw1=>ck (be 0 ([]:U ByteArray).length)<|(iter (yO a0 r1 w1) n ((0:Int),([]:U ByteArray))).bind λw2=>ck (be (sub w2 0 w2.length).length w2.length)<|some (sub w2 0 w2.length)
def BD(a0:dK)(a1:aQ):J (mU×Int):=
 (Bw n a0.land a1.lot).bind λr1=>(bif (!r1.2)then some ((mU.mk ([]) ([]) ([]) ([]) ([]) ([]) ([]) 0 ([]) ([]) ([]) ([]) ([]) 0 0 ([]) ([]) 0 ([]) ([]) ([])),(4:Int))else(pK n (cK.mk a0.cd a0.bk a0.b7 a0.aE a0.cw a0.cp a0.cJ a0.ct) r1.1 a1).bind λr2=>(bif (!r2)then some ((mU.mk ([]) ([]) ([]) ([]) ([]) ([]) ([]) 0 ([]) ([]) ([]) ([]) ([]) 0 0 ([]) ([]) 0 ([]) ([]) ([])),(1:Int))else(ve n a1).bind λr3=>(Ee n (cK.mk a0.cd a0.bk a0.b7 a0.aE a0.cw a0.cp a0.cJ a0.ct) r1.1.area).bind λr4=>ck (be (sub r3 0 r3.length).length r3.length)<|ck (be (sub r4 0 r4.length).length r4.length)<|some ((mU.mk a0.cd a0.bk a0.b7 a0.aE a0.cw a0.cp a0.cJ a0.ct a0.land a0.cg a0.windows a0.built a0.base r1.1.id r1.1.owner r1.1.area r1.1.from_ a1.lot a1.phases (sub r3 0 r3.length) (sub r4 0 r4.length)),(0:Int))))
def oD(a0:U ByteArray)(a1:ByteArray):Stp Int (Unit⊕Int)
 |v1=>(bif decide (v1<(a0.length:Int))then(br a0 v1).bind λx1=>(bif (ByteArray.toList a1==ByteArray.toList x1)then(some v1).map λa=> .inr (.inr a)else some (.inl (i64.wrap (v1+1))))else some (.inr (.inl ())))
def tH(a0:U ByteArray)(a1:ByteArray):J Int:=
 dm (iter (oD a0 a1) n (0:Int)) λ()=>some ((-1):Int)
def fP(a0:U ByteArray)(a1:ByteArray):J Bool:=
 (tH n a0 a1).bind λr1=>some (decide (r1>=0))
def kI(a0:ByteArray)(a1:U ByteArray):J Bool:=
 (fP n a1 a0).bind λr1=>some r1
def FI(a0:U ByteArray)(a1:(ByteArray×Unit)->J Bool):Stp Int (Unit⊕Int)
 |v1=>(bif decide (v1<(a0.length:Int))then(br a0 v1).bind λx1=>(a1 (x1,())).bind λr1=>(bif r1 then(some v1).map λa=> .inr (.inr a)else some (.inl (i64.wrap (v1+1))))else some (.inr (.inl ())))
def rM(a0:U ByteArray)(a1:(ByteArray×Unit)->J Bool):J Int:=
 dm (iter (FI a0 a1) n (0:Int)) λ()=>some ((-1):Int)
def fV(a0:U ByteArray)(a1:(ByteArray×Unit)->J Bool):J Bool:=
 (rM n a0 a1).bind λr1=>some (decide (r1>=0))
def rZ(a0:bC)(a1:U ByteArray):J Bool:=
 (bif ((a0.zones.length:Int)==0)then(fV n a0.except (λ (y1:ByteArray×Unit)=>kI n y1.1 a1)).bind λr1=>some (!r1)else(fV n a0.zones (λ (y2:ByteArray×Unit)=>kI n y2.1 a1)).bind λr2=>(bif r2 then(fV n a0.except (λ (y3:ByteArray×Unit)=>kI n y3.1 a1)).bind λr3=>some (!r3)else some false))
def tJ(a0:cK)(a1:U ByteArray)(a2:Int):Stp (Int×(List Int)) (List Int)
 |(v1,v2)=>(bif decide (v1<(a0.rules.length:Int))then((br a0.rules v1).bind λx1=>((bif decide (x1.from_<=(a2:Int))then(bif (x1.jj==0)then(rZ n x1 a1).bind λr1=>some r1 else(bif decide (a2<(x1.jj:Int))then(rZ n x1 a1).bind λr2=>some r2 else some false))else some false)).bind λv3=>(bif v3 then ck (bP v2.length v2.length (sub ([v1]:U Int) 0 1).length 1 8)<|iC (v2++(sub ([v1]:U Int) 0 1)) λr3=>ck (be r3.length r3.length)<|some r3 else ck (be v2.length v2.length)<|some v2):J ((List Int))).bind λv4=>ck (be v4.length v4.length)<|some (.inl ((i64.wrap (v1+1)),v4))else ck (be v2.length v2.length)<|some (.inr v2))
def vo(a0:cK)(a1:U ByteArray)(a2:Int):J (List Int):=
 ck (be 0 ([]:U Int).length)<|(iter (tJ n a0 a1 a2) n ((0:Int),([]:U Int))).bind λw1=>ck (be (sub w1 0 w1.length).length w1.length)<|some (sub w1 0 w1.length)
def zT(a0:Int):J (Int×Bool):=
 ((bif (a0==0)then some (a0==0)else(bif (a0==1)then some (a0==1)else(bif (a0==2)then some (a0==2)else some (a0==3))))).bind λv1=>(bif v1 then some ((0:Int),true)else((bif (a0==9)then some (a0==9)else some (a0==15))).bind λv2=>(bif v2 then some ((1:Int),true)else(bif (a0==16)then some ((3:Int),true)else(bif decide (a0>=0)then some ((2:Int),(decide (a0<17)))else some ((2:Int),false)))))
def yP(n:Nat)(rc:(dW)->(Int)->J Int)(a0:dW)(a1:Int):Stp (Int×Int) Int
 |(v2,v3)=>(bif decide (v3<(a0.args.length:Int))then(br a0.args v3).bind λx1=>(rc (dW.mk x1.op x1.n x1.s x1.key x1.args) (i64.wrap (a1+1))).bind λr2=>some (.inl ((max v2 r2),(i64.wrap (v3+1))))else some (.inr v2))
def BF(rc:(dW)->(Int)->J Int)(a0:dW)(a1:Int):J Int:=
 (zT a0.op).bind λr1=>((bif (!r1.2)then some true else(bif (r1.1 !=(a0.args.length:Int))then some true else some (decide (a1>=12))))).bind λv1=>(bif v1 then some (13:Int)else(iter (yP n rc a0 a1) n ((0:Int),(0:Int))).bind λw1=>some (i64.wrap (w1+1)))
def FJ(rc:(dW)->(Int)->J Int):bz xx:=⟨[.d (.st SI.Expr),.d (.int .i64)],[.d (.int .i64)],λa=>rc a.1 a.2.1,none⟩
def uw(n:Nat):Nat->(dW)->(Int)->J Int
 | 0=>λ_ _=>none
 |m+1=>BF n (uw n m)
def RJ(a0:dW)(a1:Int):J Int:=uw n n a0 a1
def JD(a0:dW):J Bool:=
 (RJ n (dW.mk a0.op a0.n a0.s a0.key a0.args) 0).bind λr1=>some (decide (r1<=12))
def xY:J (List ByteArray):=
 ck (be (sub ([⟨#[97,114,101,97]⟩,⟨#[99,111,118,101,114]⟩,⟨#[102,108,111,111,114]⟩,⟨#[102,108,111,111,114,115]⟩,⟨#[104,101,105,103,104,116]⟩,⟨#[104,111,109,101,115]⟩,⟨#[114,117,110,111,102,102]⟩,⟨#[115,101,116,98,97,99,107]⟩,⟨#[116,114,97,102,102,105,99]⟩]:U ByteArray) 0 9).length 9)<|some (sub ([⟨#[97,114,101,97]⟩,⟨#[99,111,118,101,114]⟩,⟨#[102,108,111,111,114]⟩,⟨#[102,108,111,111,114,115]⟩,⟨#[104,101,105,103,104,116]⟩,⟨#[104,111,109,101,115]⟩,⟨#[114,117,110,111,102,102]⟩,⟨#[115,101,116,98,97,99,107]⟩,⟨#[116,114,97,102,102,105,99]⟩]:U ByteArray) 0 9)
mutual
def toE:dW->ET
 |⟨op,_,s,_,args⟩=> .mk op s (JE args)
def JE:List dW->List ET
 |[]=>[]
 |x::xs=>toE x::JE xs
end
def toD(d:fG):ByteArray×ET:=(d.name,.mk d.kh d.mj (JE d.eQ))
def lJ(a0:U fG):J ((List fG)×(List (List Int))):=ck (Nat.ble (rm (a0.map toD)) 4000000)<|some (a0,pQ (a0.map toD))
def sj(a0:U Int)(a1:Int):J (List Int):=match a0 with
 |[x]=>ck (decide (0<=a1)&&decide (a1<=1000000000000))<|some (List.replicate a1.toNat x)
 |_=>none
def UO(a0:U Int)(a1:Int):Stp Int (Unit⊕Int)
 |v1=>(bif decide (v1<(a0.length:Int))then(br a0 v1).bind λx1=>(bif (a1==(x1:Int))then(some v1).map λa=> .inr (.inr a)else some (.inl (i64.wrap (v1+1))))else some (.inr (.inl ())))
def FK(a0:U Int)(a1:Int):J Int:=
 dm (iter (UO a0 a1) n (0:Int)) λ()=>some ((-1):Int)
def tK(a0:U Int)(a1:Int):J Bool:=
 (FK n a0 a1).bind λr1=>some (decide (r1>=0))
def gm(a0:ql)(r1:U Int)(x2:Int):Stp (Int×Int×(List Int)×(List Int)) (Int×(List Int)×(List Int))
 |(v4,v5,v6,v7)=>(bif decide (v5<(a0.uses.length:Int))then((br a0.uses v5).bind λx3=>(ck (co v5 r1.length)<|(br v6 ((0:Nat)+v5:Int)).bind λx4=>(bif decide (x4<0)then(tK n x3 x2).bind λr2=>some r2 else some false)).bind λv8=>(bif v8 then ck (co x2 r1.length)<|(br v6 ((0:Nat)+x2:Int)).bind λx5=>ck (co v5 r1.length)<|(br v6 ((0:Nat)+v5:Int)).bind λx6=>ck (bP (XG ((v4:Int).toNat) v7).length (v7.length -(v4:Int).toNat) (sub ([v5]:U Int) 0 1).length 1 8)<|iC ((XG ((v4:Int).toNat) v7)++(sub ([v5]:U Int) 0 1)) λr3=>ck (be (0+r3.length) r3.length)<|some ((0:Int),(v6.set ((0:Nat)+v5:Int).toNat (i64.wrap (x5+1))),r3)else ck (be (((v4:Int).toNat)+(v7.length -(v4:Int).toNat)) v7.length)<|some ((((v4:Int).toNat:Nat):Int),v6,v7)):J (Int×(List Int)×(List Int))).bind λ(v9,v10,v11)=>ck (be (((v9:Int).toNat)+(v11.length -(v9:Int).toNat)) v11.length)<|some (.inl ((((v9:Int).toNat:Nat):Int),(i64.wrap (v5+1)),v10,v11))else ck (be (((v4:Int).toNat)+(v7.length -(v4:Int).toNat)) v7.length)<|some (.inr ((((v4:Int).toNat:Nat):Int),v6,v7)))
def eF(a0:ql)(r1:U Int):Stp (Int×(List Int)×(List Int)) (List Int)
 |(v1,v2,v3)=>(bif (decide ((((v3.length -(v1:Int).toNat):Nat):Int)>0))then ck (co 0 (v3.length -(v1:Int).toNat))<|(br v3 (((v1:Int).toNat:Nat)+0:Int)).bind λx2=>ck (vQ 1 (((v3.length -(v1:Int).toNat):Nat):Int) (v3.length -(v1:Int).toNat))<|ck (be (((v1:Int).toNat+1)+((v3.length -(v1:Int).toNat) -1)) v3.length)<|(iter (gm n a0 r1 x2) n (((((v1:Int).toNat+1):Nat):Int),(0:Int),v2,v3)).bind λ(w1,w2,w3)=>ck (be (((w1:Int).toNat)+(w3.length -(w1:Int).toNat)) w3.length)<|some (.inl ((((w1:Int).toNat:Nat):Int),w2,w3))else some (.inr v2))
def jY(a0:ql)(a1:Int):J (List Int):=
 ck (be (sub ([(-1)]:U Int) 0 1).length 1)<|(sj (sub ([(-1)]:U Int) 0 1) (a0.defs.length:Int)).bind λr1=>ck (co a1 r1.length)<|(br r1 ((0:Nat)+a1:Int)).bind λx1=>ck (be (0+1) ([a1]:U Int).length)<|(iter (eF n a0 r1) n ((0:Int),(r1.set ((0:Nat)+a1:Int).toNat 0),([a1]:U Int))).bind λw4=>ck (be (sub w4 0 r1.length).length r1.length)<|some (sub w4 0 r1.length)
def cmp_isNaN_string(a0:ByteArray):J Bool:=
 some (!(ByteArray.toList a0==ByteArray.toList a0))
def oF(a0:ByteArray)(a1:ByteArray):J Int:=
 (cmp_isNaN_string a0).bind λr1=>(cmp_isNaN_string a1).bind λr2=>(bif r1 then(bif r2 then some (0:Int)else some ((-1):Int))else(bif r2 then some (1:Int)else(bif (yw a0 a1)then some ((-1):Int)else(bif (!(yw a0 a1 || ByteArray.toList a0==ByteArray.toList a1))then some (1:Int)else some (0:Int)))))
def mF(a0:U ByteArray)(a1:U ByteArray):Stp Int (Unit⊕Int)
 |v1=>(bif decide (v1<(a0.length:Int))then(br a0 v1).bind λx1=>(bif decide (v1>=(a1.length:Int))then(some (1:Int)).map λa=> .inr (.inr a)else(br a1 v1).bind λx2=>(oF x1 x2).bind λr1=>(bif (r1 !=0)then(some r1).map λa=> .inr (.inr a)else some (.inl (i64.wrap (v1+1)))))else some (.inr (.inl ())))
def mG(a0:U ByteArray)(a1:U ByteArray):J Int:=
 dm (iter (mF a0 a1) n (0:Int)) λ()=>(bif decide ((a0.length:Int)<(a1.length:Int))then some ((-1):Int)else some (0:Int))
def mX(a0:Int)(a1:U Bool):J (Bool×(List Bool)):=
 ck (co a0 a1.length)<|(br a1 ((0:Nat)+a0:Int)).bind λx1=>ck (be a1.length a1.length)<|some ((!x1),a1)
def jZ(a0:U Int):Stp (Int×(List Bool)) ((List Bool)⊕(Int×(List Bool)))
 |(v1,v2)=>(bif decide (v1<(a0.length:Int))then(br a0 v1).bind λx1=>ck (be v2.length v2.length)<|(mX x1 v2).bind λr1=>(bif r1.1 then(ck (be r1.2.length r1.2.length)<|some (v1,r1.2)).map λa=> .inr (.inr a)else ck (be r1.2.length r1.2.length)<|some (.inl ((i64.wrap (v1+1)),r1.2)))else ck (be v2.length v2.length)<|some (.inr (.inl v2)))
def nE(a0:U Int)(a1:U Bool):J (Int×(List Bool)):=
 ck (be a1.length a1.length)<|dm (iter (jZ a0) n ((0:Int),a1)) λw1=>ck (be w1.length w1.length)<|some (((-1):Int),w1)
def iK(a0:U Int)(a1:U Bool):J (Bool×(List Bool)):=
 ck (be a1.length a1.length)<|(nE n a0 a1).bind λr1=>ck (be r1.2.length r1.2.length)<|some ((decide (r1.1>=0)),r1.2)
def iX(a0:ql):Stp (Int×Int×(List Bool)) (Int×(List Bool))
 |(v4,v5,v6)=>(bif decide (v5<(a0.uses.length:Int))then((br a0.uses v5).bind λx1=>ck (be v6.length v6.length)<|(iK n x1 v6).bind λr1=>(ck (co v5 r1.2.length)<|(br r1.2 ((0:Nat)+v5:Int)).bind λx2=>(bif (!x2)then(bif (!r1.1)then(bif decide (v4<0)then some true else(br a0.defs v5).bind λx3=>(br a0.defs v4).bind λx4=>some (yw x3.name x4.name))else some false)else some false)).bind λv7=>(bif v7 then ck (be r1.2.length r1.2.length)<|some (v5,r1.2)else ck (be r1.2.length r1.2.length)<|some (v4,r1.2)):J (Int×(List Bool))).bind λ(v8,v9)=>ck (be v9.length v9.length)<|some (.inl (v8,(i64.wrap (v5+1)),v9))else ck (be v6.length v6.length)<|some (.inr (v4,v6)))
def kW(a0:ql):Stp (Int×(List Int)×(List Bool)) (List Int)
 |(v1,v2,v3)=>(bif decide (v1<(a0.defs.length:Int))then ck (be v3.length v3.length)<|(iter (iX n a0) n (((-1):Int),(0:Int),v3)).bind λ(w1,w2)=>ck (co w1 w2.length)<|(br w2 ((0:Nat)+w1:Int)).bind λx5=>ck (bP v2.length v2.length (sub ([w1]:U Int) 0 1).length 1 8)<|iC (v2++(sub ([w1]:U Int) 0 1)) λr2=>ck (be r2.length r2.length)<|ck (be w2.length (w2.set ((0:Nat)+w1:Int).toNat true).length)<|some (.inl ((i64.wrap (v1+1)),r2,(w2.set ((0:Nat)+w1:Int).toNat true)))else ck (be v2.length v2.length)<|some (.inr v2))
def oG(a0:ql):J (List Int):=
 ck (decide ((a0.defs.length:Int)<=(a0.defs.length:Int))&&(decide (0<=(a0.defs.length:Int))&&xw (a0.defs.length:Int) 1))<|ck (be 0 ([]:U Int).length)<|ck (be ((a0.defs.length:Int).toNat) (List.replicate (a0.defs.length:Int).toNat false).length)<|(iter (kW n a0) n ((0:Int),([]:U Int),(List.replicate (a0.defs.length:Int).toNat false))).bind λw3=>ck (be (sub w3 0 w3.length).length w3.length)<|some (sub w3 0 w3.length)
def iU(r1:U Int)(x2:U Int):Stp (Int×Int) Int
 |(v3,v4)=>(bif decide (v4<(x2.length:Int))then((br x2 v4).bind λx3=>(ck (co x3 r1.length)<|(br r1 ((0:Nat)+x3:Int)).bind λx4=>(bif decide (x4>=0)then(bif decide (v3<0)then some true else ck (co x3 r1.length)<|(br r1 ((0:Nat)+x3:Int)).bind λx5=>ck (co v3 r1.length)<|(br r1 ((0:Nat)+v3:Int)).bind λx6=>some (decide (x5<(x6:Int))))else some false)).bind λv5=>(bif v5 then some x3 else some v3):J Int).bind λv6=>some (.inl (v6,(i64.wrap (v4+1))))else some (.inr v3))
def lq(a0:Int)(a1:U fG)(a2:U (List Int))(r1:U Int):Stp (Int×(List ByteArray)) (Unit⊕((List fG)×(List (List Int))×(List ByteArray)))
 |(v1,v2)=>(br a1 v1).bind λx1=>ck (bP v2.length v2.length (sub ([x1.name]:U ByteArray) 0 1).length 1 16)<|iC (v2++(sub ([x1.name]:U ByteArray) 0 1)) λr2=>(br a2 v1).bind λx2=>(iter (iU r1 x2) n (((-1):Int),(0:Int))).bind λw1=>(bif decide (w1<0)then(ck (be 0 ([]:U ByteArray).length)<|some (a1,a2,([]:U ByteArray))).map λa=> .inr (.inr a)else(bif (w1==(a0:Int))then(ck (!(r2.length==0)&&be r2.length r2.length)<|some (a1,a2,r2)).map λa=> .inr (.inr a)else ck (be r2.length r2.length)<|some (.inl (w1,r2))))
def j3(a0:Int)(a1:U fG)(a2:U (List Int)):J ((List fG)×(List (List Int))×(List ByteArray)):=
 (jY n (ql.mk a1 a2) a0).bind λr1=>ck (be 0 ([]:U ByteArray).length)<|dm (iter (lq n a0 a1 a2 r1) n (a0,([]:U ByteArray))) λ()=>none
def iw(a0:U fG):Stp (Int×(List fG)×(List (List Int))×(List ByteArray)) ((List fG)×(List (List Int))×(List ByteArray))
 |(v1,v2,v3,v4)=>(bif decide (v1<(a0.length:Int))then((j3 n v1 v2 v3).bind λr1=>((bif r1.2.2.length==0 then some true else some false)).bind λv5=>(bif v5 then ck (be v4.length v4.length)<|some (r1.1,r1.2.1,v4)else((bif v4.length==0 then some true else(bif decide ((r1.2.2.length:Int)<(v4.length:Int))then some true else(bif ((r1.2.2.length:Int)==(v4.length:Int))then ck (be (sub r1.2.2 0 r1.2.2.length).length r1.2.2.length)<|ck (be (sub v4 0 v4.length).length v4.length)<|(mG n (sub r1.2.2 0 r1.2.2.length) (sub v4 0 v4.length)).bind λr2=>some (decide (r2<0))else some false)))).bind λv6=>(bif v6 then ck (be r1.2.2.length r1.2.2.length)<|some (r1.1,r1.2.1,r1.2.2)else ck (be v4.length v4.length)<|some (r1.1,r1.2.1,v4))):J ((List fG)×(List (List Int))×(List ByteArray))).bind λ(v7,v8,v9)=>ck (be v9.length v9.length)<|some (.inl ((i64.wrap (v1+1)),v7,v8,v9))else ck (be v4.length v4.length)<|some (.inr (v2,v3,v4)))
def ji(a0:U fG)(a1:U (List Int)):J ((List fG)×(List (List Int))×(List ByteArray)):=
 ck (be 0 ([]:U ByteArray).length)<|(iter (iw n a0) n ((0:Int),a0,a1,([]:U ByteArray))).bind λ(w1,w2,w3)=>ck (be w3.length w3.length)<|some (w1,w2,w3)
def o7(r1:U ByteArray):Stp (Int×(List (ByteArray×Bool))) (List (ByteArray×Bool))
 |(v1,v2)=>(bif decide (v1<(r1.length:Int))then ck (co v1 r1.length)<|(br r1 ((0:Nat)+v1:Int)).bind λx1=>some (.inl ((i64.wrap (v1+1)),(qg lf x1 true v2)))else some (.inr v2))
def lK(a0:cK):Stp (Int×(List (ByteArray×Bool))) (Unit⊕((List Int)×(List ByteArray)×Int))
 |(v3,v4)=>(bif decide (v3<(a0.defs.length:Int))then(br a0.defs v3).bind λx2=>(bif ((fI lf x2.name v4).getD false)then(some (([]:(List Int)),([]:(List ByteArray)),(5:Int))).map λa=> .inr (.inr a)else some (.inl ((i64.wrap (v3+1)),(qg lf x2.name true v4))))else some (.inr (.inl ())))
def oH(a0:cK):J ((List Int)×(List ByteArray)×Int):=
 (xY).bind λr1=>(iter (o7 r1) n ((0:Int),([]:(List (ByteArray×Bool))))).bind λw1=>dm (iter (lK a0) n ((0:Int),w1)) λ()=>(lJ a0.defs).bind λr2=>(ji n r2.1 r2.2).bind λr3=>((bif r3.2.2.length==0 then some false else some true)).bind λv5=>(bif v5 then ck (be (sub r3.2.2 0 r3.2.2.length).length r3.2.2.length)<|some (([]:(List Int)),(sub r3.2.2 0 r3.2.2.length),(16:Int))else(oG n (ql.mk r3.1 r3.2.1)).bind λr4=>ck (be (sub r4 0 r4.length).length r4.length)<|some ((sub r4 0 r4.length),([]:(List ByteArray)),(0:Int)))
def BG(a0:bT)(a1:dW):J Bool:=
 some (ByteArray.toList a0.name==ByteArray.toList a1.s)
def GJ(a0:U bT)(a1:(bT×Unit)->J Bool):Stp Int (Unit⊕Int)
 |v1=>(bif decide (v1<(a0.length:Int))then(br a0 v1).bind λx1=>(a1 (x1,())).bind λr1=>(bif r1 then(some v1).map λa=> .inr (.inr a)else some (.inl (i64.wrap (v1+1))))else some (.inr (.inl ())))
def tV(a0:U bT)(a1:(bT×Unit)->J Bool):J Int:=
 dm (iter (GJ a0 a1) n (0:Int)) λ()=>some ((-1):Int)
def BH(a0:bQ)(a1:dW):J Bool:=
 some (ByteArray.toList a0.name==ByteArray.toList a1.key)
def zU(a0:Bool):J Int:=
 (bif a0 then some (1:Int)else some (0:Int))
def xO(a0:Int)(a1:Int):J Int:=
 (bif (a1==0)then some (0:Int)else ck (a1 !=0)<|(ck (a1 !=0)<|((bif ((Int.tmod a0 a1) !=0)then some (!((decide ((Int.tmod a0 a1)<0))==(decide (a1<0))))else some false)).bind λv1=>(bif v1 then some (i64.wrap ((i64.wrap (Int.tdiv a0 a1)) -1))else some (i64.wrap (Int.tdiv a0 a1))):J Int).bind λv2=>some v2)
def KV(a0:Int)(a1:Int)(a2:Int):J Int:=
 (bif (a0==4)then some (i64.wrap (a1+a2))else(bif (a0==5)then some (i64.wrap (a1 -a2))else(bif (a0==6)then some (i64.wrap (a1*a2))else(bif (a0==7)then(xO a1 a2).bind λr1=>some r1 else(bif (a0==8)then(bif (a2==0)then some (0:Int)else(xO a1 a2).bind λr2=>some (i64.wrap (a1 -(i64.wrap (r2*a2)))))else(bif (a0==10)then(zU (a1==(a2:Int))).bind λr3=>some r3 else(bif (a0==11)then(zU (decide (a1<(a2:Int)))).bind λr4=>some r4 else(bif (a0==12)then(zU (decide (a1<=(a2:Int)))).bind λr5=>some r5 else(bif (a0==13)then(bif (a1 !=0)then(zU (a2 !=0)).bind λr6=>some r6 else(zU false).bind λr7=>some r7)else(bif (a1 !=0)then(zU true).bind λr8=>some r8 else(zU (a2 !=0)).bind λr9=>some r9))))))))))
def jI(a0:U fG)(a1:U bT)(a2:U dV)(a3:U bC)(a4:U gJ)(a5:U fA)(a6:U bS)(a7:Int)(a8:U ByteArray)(a9:dW)(i8:U (ByteArray×Int)):J (Int×(List (ByteArray×Int))):=
 (tV n a1 (λ (y1:bT×Unit)=>BG y1.1 (dW.mk a9.op a9.n a9.s a9.key a9.args))).bind λr1=>(bif decide (r1<0)then some ((0:Int),i8)else(br a1 r1).bind λx1=>(kP n x1.rows (λ (y2:bQ×Unit)=>BH y2.1 (dW.mk a9.op a9.n a9.s a9.key a9.args))).bind λr2=>(bif decide (r2>=0)then(br x1.rows r2).bind λx2=>some (x2.n,i8)else some (x1.sk,i8)))
def fw(n:Nat)(rc:((List fG))->((List bT))->((List dV))->((List bC))->((List gJ))->((List fA))->((List bS))->(Int)->((List ByteArray))->(dW)->((List (ByteArray×Int)))->J (Int×(List (ByteArray×Int))))(a0:U fG)(a1:U bT)(a2:U dV)(a3:U bC)(a4:U gJ)(a5:U fA)(a6:U bS)(a7:Int)(a8:U ByteArray)(a9:dW):Stp (Int×(List (ByteArray×Int))×(List Int)) ((List (ByteArray×Int))×(List Int))
 |(v1,v2,v3)=>(bif decide (v1<(a9.args.length:Int))then((br a9.args v1).bind λx1=>((bif (a9.op==16)then(bif decide (v1>0)then ck (co 0 v3.length)<|(br v3 ((0:Nat)+0:Int)).bind λx2=>some (!((x2 !=0)==(v1==1)))else some false)else some false)).bind λv4=>(bif v4 then ck (bP v3.length v3.length (sub ([0]:U Int) 0 1).length 1 8)<|iC (v3++(sub ([0]:U Int) 0 1)) λr1=>ck (be r1.length r1.length)<|some (v2,r1)else(rc a0 a1 a2 a3 a4 a5 a6 a7 a8 (dW.mk x1.op x1.n x1.s x1.key x1.args) v2).bind λr2=>ck (bP v3.length v3.length (sub ([r2.1]:U Int) 0 1).length 1 8)<|iC (v3++(sub ([r2.1]:U Int) 0 1)) λr3=>ck (be r3.length r3.length)<|some (r2.2,r3)):J ((List (ByteArray×Int))×(List Int))).bind λ(v5,v6)=>ck (be v6.length v6.length)<|some (.inl ((i64.wrap (v1+1)),v5,v6))else ck (be v3.length v3.length)<|some (.inr (v2,v3)))
def fH(rc:((List fG))->((List bT))->((List dV))->((List bC))->((List gJ))->((List fA))->((List bS))->(Int)->((List ByteArray))->(dW)->((List (ByteArray×Int)))->J (Int×(List (ByteArray×Int))))(a0:U fG)(a1:U bT)(a2:U dV)(a3:U bC)(a4:U gJ)(a5:U fA)(a6:U bS)(a7:Int)(a8:U ByteArray)(a9:dW)(i8:U (ByteArray×Int)):J (Int×(List (ByteArray×Int))):=
 ck (be 0 ([]:U Int).length)<|(iter (fw n rc a0 a1 a2 a3 a4 a5 a6 a7 a8 a9) n ((0:Int),i8,([]:U Int))).bind λ(w1,w2)=>(bif (a9.op==0)then some (a9.n,w1)else(bif (a9.op==1)then some (((fI lf a9.s w1).getD 0),w1)else(bif (a9.op==2)then(jI n a0 a1 a2 a3 a4 a5 a6 a7 a8 (dW.mk a9.op a9.n a9.s a9.key a9.args) w1).bind λr4=>some (r4.1,r4.2)else(bif (a9.op==3)then(fP n a8 a9.s).bind λr5=>(zU r5).bind λr6=>some (r6,w1)else(bif (a9.op==9)then ck (co 0 w2.length)<|(br w2 ((0:Nat)+0:Int)).bind λx3=>some ((i64.wrap (0 -x3)),w1)else(bif (a9.op==15)then ck (co 0 w2.length)<|(br w2 ((0:Nat)+0:Int)).bind λx4=>(zU (x4==0)).bind λr7=>some (r7,w1)else(bif (a9.op==16)then ck (co 0 w2.length)<|(br w2 ((0:Nat)+0:Int)).bind λx5=>(bif (x5 !=0)then ck (co 1 w2.length)<|(br w2 ((0:Nat)+1:Int)).bind λx6=>some (x6,w1)else ck (co 2 w2.length)<|(br w2 ((0:Nat)+2:Int)).bind λx7=>some (x7,w1))else ck (co 0 w2.length)<|(br w2 ((0:Nat)+0:Int)).bind λx8=>ck (co 1 w2.length)<|(br w2 ((0:Nat)+1:Int)).bind λx9=>(KV a9.op x8 x9).bind λr8=>some (r8,w1))))))))
def FL(rc:((List fG))->((List bT))->((List dV))->((List bC))->((List gJ))->((List fA))->((List bS))->(Int)->((List ByteArray))->(dW)->((List (ByteArray×Int)))->J (Int×(List (ByteArray×Int)))):cH xx:=⟨[(.a [(.v (.sl (.st SI.Def))),(.v (.sl (.st SI.Table))),(.v (.sl (.st SI.Zone))),(.v (.sl (.st SI.Rule))),(.v (.sl (.st SI.Cap))),(.v (.sl (.st SI.View))),(.v (.sl (.st SI.gh))),(.v (.int .i64)),(.mp 0),(.v (.sl .str))]),(.v (.st SI.Expr))],[(0,.m .str (.int .i64))],[(.v (.int .i64))],[(0,.m .str (.int .i64))],λv=>rc (v.1) (v.2.1) (v.2.2.1) (v.2.2.2.1) (v.2.2.2.2.1) (v.2.2.2.2.2.1) (v.2.2.2.2.2.2.1) (v.2.2.2.2.2.2.2.1) (v.2.2.2.2.2.2.2.2.1) (v.2.2.2.2.2.2.2.2.2.1) (v.2.2.2.2.2.2.2.2.2.2)⟩
def j4(rc:((List fG))->((List bT))->((List dV))->((List bC))->((List gJ))->((List fA))->((List bS))->(Int)->((List ByteArray))->(dW)->((List (ByteArray×Int)))->J (Int×(List (ByteArray×Int)))):bz xx:=⟨[],[.d .bool],λ_=>none,some (FL rc)⟩
def bW(n:Nat):Nat->((List fG))->((List bT))->((List dV))->((List bC))->((List gJ))->((List fA))->((List bS))->(Int)->((List ByteArray))->(dW)->((List (ByteArray×Int)))->J (Int×(List (ByteArray×Int)))
 | 0=>λ_ _ _ _ _ _ _ _ _ _ _=>none
 |m+1=>fH n (bW n m)
def gB(a0:U fG)(a1:U bT)(a2:U dV)(a3:U bC)(a4:U gJ)(a5:U fA)(a6:U bS)(a7:Int)(a8:U ByteArray)(a9:dW)(i8:U (ByteArray×Int)):J (Int×(List (ByteArray×Int))):=bW n n a0 a1 a2 a3 a4 a5 a6 a7 a8 a9 i8
def kJ(n:Nat)(a1:U bQ):Stp (Int×(List (ByteArray×Int))×(List (ByteArray×Bool))) ((List (ByteArray×Int))×(List (ByteArray×Bool)))
 |(v1,v2,v3)=>(bif decide (v1<(a1.length:Int))then((br a1 v1).bind λx1=>(bif (!((fI lf x1.name v3).getD false))then some ((qg lf x1.name x1.n v2),(qg lf x1.name true v3))else some (v2,v3)):J ((List (ByteArray×Int))×(List (ByteArray×Bool)))).bind λ(v4,v5)=>some (.inl ((i64.wrap (v1+1)),v4,v5))else some (.inr (v2,v3)))
def gW(a0:cK)(a2:U ByteArray)(w2:U (ByteArray×Bool))(r1:(List Int)×(List ByteArray)×Int):Stp (Int×(List (ByteArray×Int))×(List Int)) ((List (ByteArray×Int))×(List Int))
 |(v6,v7,v8)=>(bif decide (v6<(r1.1.length:Int))then(ck (co v6 r1.1.length)<|(br r1.1 ((0:Nat)+v6:Int)).bind λx2=>(br a0.defs x2).bind λx3=>((JD n (dW.mk x3.kh x3.pf x3.mj x3.j0 x3.eQ)).bind λr2=>(bif r2 then(gB n a0.defs a0.tables a0.zones a0.rules a0.caps a0.views a0.uv a0.hours a2 (dW.mk x3.kh x3.pf x3.mj x3.j0 x3.eQ) v7).bind λr3=>ck (co x2 ((a0.defs.length:Int).toNat))<|(br v8 ((0:Nat)+x2:Int)).bind λx4=>some (r3.2,(v8.set ((0:Nat)+x2:Int).toNat r3.1))else some (v7,v8)):J ((List (ByteArray×Int))×(List Int))).bind λ(v9,v10)=>(bif (!((fI lf x3.name w2).getD false))then ck (co x2 ((a0.defs.length:Int).toNat))<|(br v10 ((0:Nat)+x2:Int)).bind λx5=>some ((qg lf x3.name x5 v9),v10)else some (v9,v10)):J ((List (ByteArray×Int))×(List Int))).bind λ(v11,v12)=>some (.inl ((i64.wrap (v6+1)),v11,v12))else some (.inr (v7,v8)))
def mY(a0:cK)(a1:U bQ)(a2:U ByteArray):J ((List fG)×(List bT)×(List dV)×(List bC)×(List gJ)×(List fA)×(List bS)×Int×(List ByteArray)×(List (ByteArray×Int))×(List Int)):=
 (iter (kJ n a1) n ((0:Int),([]:(List (ByteArray×Int))),([]:(List (ByteArray×Bool))))).bind λ(w1,w2)=>ck (decide ((a0.defs.length:Int)<=(a0.defs.length:Int))&&(decide (0<=(a0.defs.length:Int))&&xw (a0.defs.length:Int) 8))<|(oH n a0).bind λr1=>(bif (r1.2.2 !=0)then ck (be ((a0.defs.length:Int).toNat) (List.replicate (a0.defs.length:Int).toNat (0:Int)).length)<|some (a0.defs,a0.tables,a0.zones,a0.rules,a0.caps,a0.views,a0.uv,a0.hours,a2,w1,(List.replicate (a0.defs.length:Int).toNat (0:Int)))else(iter (gW n a0 a2 w2 r1) n ((0:Int),w1,(List.replicate (a0.defs.length:Int).toNat (0:Int)))).bind λ(w3,w4)=>ck (be ((a0.defs.length:Int).toNat) w4.length)<|some (a0.defs,a0.tables,a0.zones,a0.rules,a0.caps,a0.views,a0.uv,a0.hours,a2,w3,w4))
def BJ(a0:cK)(a1:U bQ)(a2:U ByteArray)(a3:dW):J Int:=
 (JD n (dW.mk a3.op a3.n a3.s a3.key a3.args)).bind λr1=>(bif (!r1)then some (0:Int)else(mY n a0 a1 a2).bind λr2=>(gB n r2.1 r2.2.1 r2.2.2.1 r2.2.2.2.1 r2.2.2.2.2.1 r2.2.2.2.2.2.1 r2.2.2.2.2.2.2.1 r2.2.2.2.2.2.2.2.1 r2.2.2.2.2.2.2.2.2.1 (dW.mk a3.op a3.n a3.s a3.key a3.args) r2.2.2.2.2.2.2.2.2.2.1).bind λr3=>some r3.1)
def BK(a0:U ax):Stp (Bool×Int×Int×Int×Int×Int) (Bool×Int×Int×Int×Int)
 |(v1,v2,v3,v4,v5,v6)=>(bif decide (v2<(a0.length:Int))then((br a0 v2).bind λx1=>(pV x1).bind λr1=>(bif (!r1)then some (v1,v3,v4,v5,v6)else(bif (!v1)then some (true,x1.x0,x1.y0,x1.x1,x1.y1)else some (v1,(min v3 x1.x0),(min v4 x1.y0),(max v5 x1.x1),(max v6 x1.y1)))):J (Bool×Int×Int×Int×Int)).bind λ(v7,v8,v9,v10,v11)=>some (.inl (v7,(i64.wrap (v2+1)),v8,v9,v10,v11))else some (.inr (v1,v3,v4,v5,v6)))
def Pp(a0:U ax):J (ax×Bool):=
 (iter (BK a0) n (false,(0:Int),(0:Int),(0:Int),(0:Int),(0:Int))).bind λ(w1,w2,w3,w4,w5)=>some ((ax.mk w2 w3 w4 w5),w1)
def KW(a0:U ax):J (ax×Bool):=
 ((bif ((a0.length:Int)==0)then some true else(l5 n a0).bind λr1=>some (!r1))).bind λv1=>(bif v1 then some ((ax.mk 0 0 0 0),false)else(Pp n a0).bind λr2=>some (r2.1,r2.2))
def yQ(a0:aH):J (List fK):=
 ck (be (sub ([(ax.mk a0.bx a0.ca a0.bu a0.b9)]:U ax) 0 1).length 1)<|ck (be (sub ([(fK.mk a0.eh a0.d6 (sub ([(ax.mk a0.bx a0.ca a0.bu a0.b9)]:U ax) 0 1))]:U fK) 0 1).length 1)<|some (sub ([(fK.mk a0.eh a0.d6 (sub ([(ax.mk a0.bx a0.ca a0.bu a0.b9)]:U ax) 0 1))]:U fK) 0 1)
def GK(a0:U d9)(a1:(d9×Unit)->J Bool):Stp Int (Unit⊕Int)
 |v1=>(bif decide (v1<(a0.length:Int))then(br a0 v1).bind λx1=>(a1 (x1,())).bind λr1=>(bif r1 then(some v1).map λa=> .inr (.inr a)else some (.inl (i64.wrap (v1+1))))else some (.inr (.inl ())))
def tX(a0:U d9)(a1:(d9×Unit)->J Bool):J Int:=
 dm (iter (GK a0 a1) n (0:Int)) λ()=>some ((-1):Int)
def kX(a0:U d9)(a1:(d9×Unit)->J Bool):J Bool:=
 (tX n a0 a1).bind λr1=>some (decide (r1>=0))
def oI(a0:Int)(a1:Int)(a2:Int):J Bool:=
 (bif decide (a1<=(a0:Int))then some (decide (a0<=(a2:Int)))else some false)
def BL(a0:d9):J Bool:=
 (oI a0.side 0 3).bind λr1=>(bif r1 then(oI a0.base 0 4096).bind λr2=>(bif r2 then(oI a0.num 0 4096).bind λr3=>(bif r3 then(oI a0.den 1 4096).bind λr4=>some r4 else some false)else some false)else some false)
def vv(a0:d9):J Bool:=
 (BL a0).bind λr1=>some (!r1)
def BM(a0:ax)(a1:U d9):J Bool:=
 (pV a0).bind λr1=>(bif r1 then(kX n a1 (λ (y1:d9×Unit)=>vv y1.1)).bind λr2=>some (!r2)else some false)
def Wx(a0:U ax)(a1:U ax):J Bool:=
 (pI n a0 a1).bind λr1=>some r1
def BN(a0:U fK):Stp Int (Unit⊕Bool)
 |v1=>(bif decide (v1<(a0.length:Int))then dm ((br a0 v1).bind λx1=>((bif decide (x1.z0<0)then some true else(bif decide (x1.z0>=(x1.z1:Int))then some true else(bif decide (x1.z1>4096)then some true else(bif ((x1.area.length:Int)==0)then some true else(l5 n x1.area).bind λr1=>some (!r1)))))).bind λv2=>(bif v2 then((some false).map λa=> .inr (.inr a)).map .inr else(bif (v1==0)then some (.inl ())else(br a0 (i64.wrap (v1 -1))).bind λx2=>((bif decide (x2.z1>(x1.z0:Int))then some true else(bif (x2.z1==(x1.z0:Int))then(Wx n x2.area x1.area).bind λr2=>some r2 else some false))).bind λv3=>(bif v3 then((some false).map λa=> .inr (.inr a)).map .inr else some (.inl ())))):J ((Unit)⊕_)) λ()=>some (.inl (i64.wrap (v1+1)))else some (.inr (.inl ())))
def JF(a0:U fK):J Bool:=
 (bif decide ((a0.length:Int)>80)then some false else dm (iter (BN n a0) n (0:Int)) λ()=>some true)
def xZ(a0:ax)(a1:Int)(a2:Int):J O6:=
 some (O6.mk (i64.wrap (a1 -a0.x0)) (i64.wrap ((i64.wrap (a0.x1 -1)) -a1)) (i64.wrap (a2 -a0.y0)) (i64.wrap ((i64.wrap (a0.y1 -1)) -a2)))
def vw(a0:Int)(a1:Int):J Int:=
 ck (a1 !=0)<|(ck (a1 !=0)<|(bif decide ((Int.tmod a0 a1)<0)then some (i64.wrap ((i64.wrap (Int.tdiv a0 a1)) -1))else some (i64.wrap (Int.tdiv a0 a1))):J Int).bind λv1=>some v1
def yR(a0:ax)(a1:U d9)(a2:Int)(a3:Int)(r1:O6):Stp (Int×Int) Int
 |(v1,v2)=>(bif decide (v2<(a1.length:Int))then(br a1 v2).bind λx1=>ck (co x1.side 4)<|(br ([r1.a0,r1.a1,r1.a2,r1.a3]:U Int) x1.side).bind λx2=>(vw (i64.wrap (x1.num*x2)) x1.den).bind λr2=>some (.inl ((min v1 (i64.wrap (x1.base+r2))),(i64.wrap (v2+1))))else some (.inr v1))
def KX(a0:ax)(a1:U d9)(a2:Int)(a3:Int):J Int:=
 (xZ a0 a2 a3).bind λr1=>(iter (yR a0 a1 a2 a3 r1) n ((4096:Int),(0:Int))).bind λw1=>some w1
def o8(a0:ax)(a1:U d9)(x1:ax)(x2:Int):Stp (Int×Int) Int
 |(v5,v6)=>(bif decide (v6<2)then ck (co v6 2)<|(br ([x1.y0,(i64.wrap (x1.y1 -1))]:U Int) ((0:Nat)+v6:Int)).bind λx3=>(KX n a0 a1 x2 x3).bind λr1=>some (.inl ((min v5 r1),(i64.wrap (v6+1))))else some (.inr v5))
def o9(a0:ax)(a1:U d9)(x1:ax):Stp (Int×Int) Int
 |(v3,v4)=>(bif decide (v4<2)then ck (co v4 2)<|(br ([x1.x0,(i64.wrap (x1.x1 -1))]:U Int) ((0:Nat)+v4:Int)).bind λx2=>(iter (o8 n a0 a1 x1 x2) n (v3,(0:Int))).bind λw1=>some (.inl (w1,(i64.wrap (v4+1))))else some (.inr v3))
def tL(a0:ax)(a1:U d9)(a2:U ax):Stp (Int×Int) Int
 |(v1,v2)=>(bif decide (v2<(a2.length:Int))then(br a2 v2).bind λx1=>(iter (o9 n a0 a1 x1) n (v1,(0:Int))).bind λw2=>some (.inl (w2,(i64.wrap (v2+1))))else some (.inr v1))
def yS(a0:ax)(a1:U d9)(a2:U ax):J Int:=
 (iter (tL n a0 a1 a2) n ((4096:Int),(0:Int))).bind λw3=>some w3
def tN(a0:fK)(a1:ax)(a2:U d9):J Bool:=
 (yS n a1 a2 a0.area).bind λr1=>some (decide (r1<(a0.z1:Int)))
def mH(a0:U fK)(a1:(fK×Unit)->J Bool):Stp Int (Unit⊕Int)
 |v1=>(bif decide (v1<(a0.length:Int))then(br a0 v1).bind λx1=>(a1 (x1,())).bind λr1=>(bif r1 then(some v1).map λa=> .inr (.inr a)else some (.inl (i64.wrap (v1+1))))else some (.inr (.inl ())))
def vz(a0:U fK)(a1:(fK×Unit)->J Bool):J Int:=
 dm (iter (mH a0 a1) n (0:Int)) λ()=>some ((-1):Int)
def jl(a0:U fK)(a1:(fK×Unit)->J Bool):J Bool:=
 (vz n a0 a1).bind λr1=>some (decide (r1>=0))
def yT(a0:ax)(a1:U d9)(a2:U fK):J Bool:=
 ((BM n a0 a1).bind λr1=>(bif (!r1)then some true else(JF n a2).bind λr2=>some (!r2))).bind λv1=>(bif v1 then some false else(jl n a2 (λ (y1:fK×Unit)=>tN n y1.1 a0 a1)).bind λr3=>some (!r3))
def j5(a0:aH)(a1:ax)(a2:bC):J Bool:=
 (yQ a0).bind λr1=>ck (be (sub ([(d9.mk a2.gC a2.gE a2.ix a2.iz)]:U d9) 0 1).length 1)<|ck (be (sub r1 0 r1.length).length r1.length)<|(yT n a1 (sub ([(d9.mk a2.gC a2.gE a2.ix a2.iz)]:U d9) 0 1) (sub r1 0 r1.length)).bind λr2=>some (!r2)
def gX(a0:mU)(a1:(aH×Unit)->J Bool):J Bool:=
 (fU n a0.cj a1).bind λr1=>some r1
def j6(a0:aH)(a1:bC):J Bool:=
 ck (decide (0<=a0.use)&&decide (a0.use<=i64.bits))<|some ((bits .and .i64 a1.uses (i64.wrap (1*2 ^ (a0.use:Int).toNat)))==0)
def dZ(a0:jR)(a1:mU)(a2:aH)(a3:bC):J Bool:=
 ((bif (a0.lot==(a1.dt:Int))then some true else(pV (ax.mk a0.eb a0.d8 a0.ea a0.d7)).bind λr1=>(bif (!r1)then some true else(bif decide (a0.eM<0)then some true else some (decide (a0.eM>=6)))))).bind λv1=>(bif v1 then some false else((bif (a2.use==(a3.uses:Int))then(bif (a0.eM==(a3.other:Int))then some true else(bif (a2.use==(a3.other:Int))then some (a0.eM==(a3.uses:Int))else some false))else(bif (a2.use==(a3.other:Int))then some (a0.eM==(a3.uses:Int))else some false))).bind λv2=>(bif v2 then(LR (ax.mk a2.bx a2.ca a2.bu a2.b9) (ax.mk a0.eb a0.d8 a0.ea a0.d7)).bind λr2=>some (decide (r2<(a3.n:Int)))else some false))
def FM(a0:U jR)(a1:(jR×Unit)->J Bool):Stp Int (Unit⊕Int)
 |v1=>(bif decide (v1<(a0.length:Int))then(br a0 v1).bind λx1=>(a1 (x1,())).bind λr1=>(bif r1 then(some v1).map λa=> .inr (.inr a)else some (.inl (i64.wrap (v1+1))))else some (.inr (.inl ())))
def rO(a0:U jR)(a1:(jR×Unit)->J Bool):J Int:=
 dm (iter (FM a0 a1) n (0:Int)) λ()=>some ((-1):Int)
def kg(a0:U jR)(a1:(jR×Unit)->J Bool):J Bool:=
 (rO n a0 a1).bind λr1=>some (decide (r1>=0))
def tY(a0:mU)(a1:bC)(a2:aH):J Bool:=
 (kg n a0.ft (λ (y1:jR×Unit)=>dZ y1.1 a0 a2 a1)).bind λr1=>some r1
def ko(a0:aH)(a1:mU)(a2:bC):J Bool:=
 (tY n a1 a2 a0).bind λr1=>some r1
def nG(a0:mU)(a1:bC):J Bool:=
 (bif (a1.kind==0)then(om n (cK.mk a0.eV a0.en a0.eE a0.eJ a0.eW a0.eI a0.fS a0.eK) (gI.mk a0.s7 a0.mf a0.ju a0.oR) (aQ.mk a0.dt a0.gS)).bind λr1=>ck (be (sub r1 0 r1.length).length r1.length)<|(BJ n (cK.mk a0.eV a0.en a0.eE a0.eJ a0.eW a0.eI a0.fS a0.eK) (sub r1 0 r1.length) a0.zones (dW.mk a1.nj a1.qk a1.qe a1.lz a1.iv)).bind λr2=>some (r2==0)else(bif (a1.kind==1)then(KW n a0.ju).bind λr3=>(gX n a0 (λ (y1:aH×Unit)=>j5 n y1.1 r3.1 a1)).bind λr4=>some r4 else(bif (a1.kind==2)then(gX n a0 (λ (y2:aH×Unit)=>j6 y2.1 a1)).bind λr5=>some r5 else(bif (a1.kind==3)then(gX n a0 (λ (y3:aH×Unit)=>ko n y3.1 a0 a1)).bind λr6=>some r6 else some false))))
def wU(a0:ax)(a1:ax):J Bool:=
 (bif decide ((max a1.x0 a0.x0)<((min a1.x1 a0.x1):Int))then some (decide ((max a1.y0 a0.y0)<((min a1.y1 a0.y1):Int)))else some false)
def JG(a0:U ax)(a1:(ax×Unit)->J Bool):Stp Int (Unit⊕Int)
 |v1=>(bif decide (v1<(a0.length:Int))then(br a0 v1).bind λx1=>(a1 (x1,())).bind λr1=>(bif r1 then(some v1).map λa=> .inr (.inr a)else some (.inl (i64.wrap (v1+1))))else some (.inr (.inl ())))
def vB(a0:U ax)(a1:(ax×Unit)->J Bool):J Int:=
 dm (iter (JG a0 a1) n (0:Int)) λ()=>some ((-1):Int)
def jm(a0:U ax)(a1:(ax×Unit)->J Bool):J Bool:=
 (vB n a0 a1).bind λr1=>some (decide (r1>=0))
def FN(a0:ax)(a1:U ax):J Bool:=
 (jm n a1 (λ (y1:ax×Unit)=>wU y1.1 a0)).bind λr1=>some r1
def Wy(a0:U ax)(a1:U ax):J Bool:=
 (jm n a0 (λ (y1:ax×Unit)=>FN n y1.1 a1)).bind λr1=>some r1
def sw(a0:fK)(a1:nK):J Bool:=
 (bif decide (a0.z1>(a1.top:Int))then(Wy n a0.area a1.area).bind λr1=>some r1 else some false)
def wV(a0:U nK)(a1:Int)(a2:U fK):Stp Int (Unit⊕Bool)
 |v1=>(bif decide (v1<(a0.length:Int))then dm ((br a0 v1).bind λx1=>((bif (x1.lot !=(a1:Int))then some true else(l5 n x1.area).bind λr2=>some (!r2))).bind λv2=>(bif v2 then some (.inl ())else(jl n a2 (λ (y1:fK×Unit)=>sw n y1.1 x1)).bind λr3=>(bif r3 then((some false).map λa=> .inr (.inr a)).map .inr else some (.inl ()))):J ((Unit)⊕_)) λ()=>some (.inl (i64.wrap (v1+1)))else some (.inr (.inl ())))
def FO(a0:U nK)(a1:Int)(a2:U fK):J Bool:=
 (JF n a2).bind λr1=>(bif (!r1)then some false else dm (iter (wV n a0 a1 a2) n (0:Int)) λ()=>some true)
def nN(a0:aH)(a1:dK)(a2:aQ):J Bool:=
 (yQ a0).bind λr1=>ck (be (sub r1 0 r1.length).length r1.length)<|(FO n a1.cg a2.lot (sub r1 0 r1.length)).bind λr2=>some (!r2)
def jO(a0:ByteArray)(a1:Bool)(a2:U ByteArray):J (List ByteArray):=
 ((bif a1 then ck (be (sub a2 0 a2.length).length a2.length)<|(fP n (sub a2 0 a2.length) a0).bind λr1=>some (!r1)else some false)).bind λv1=>(bif v1 then ck (bP a2.length a2.length (sub ([a0]:U ByteArray) 0 1).length 1 16)<|iC (a2++(sub ([a0]:U ByteArray) 0 1)) λr2=>ck (be r2.length r2.length)<|some r2 else ck (be a2.length a2.length)<|some a2)
def nO(a0:dK)(r1:mU×Int)(r2:U Int):Stp (Int×(List ByteArray)) (List ByteArray)
 |(v1,v2)=>(bif decide (v1<(r2.length:Int))then ck (co v1 r2.length)<|(br r2 ((0:Nat)+v1:Int)).bind λx1=>(br a0.aE x1).bind λx2=>(br a0.aE x1).bind λx3=>(nG n r1.1 x3).bind λr3=>ck (be v2.length v2.length)<|(jO n x2.name r3 v2).bind λr4=>ck (be r4.length r4.length)<|some (.inl ((i64.wrap (v1+1)),r4))else ck (be v2.length v2.length)<|some (.inr v2))
def wW(a0:dK)(a1:aQ)(a2:Int):J ((List ByteArray)×Int):=
 (BD n a0 a1).bind λr1=>(bif (r1.2 !=0)then some (([]:(List ByteArray)),r1.2)else(vo n (cK.mk a0.cd a0.bk a0.b7 a0.aE a0.cw a0.cp a0.cJ a0.ct) r1.1.zones a2).bind λr2=>ck (be 0 ([]:U ByteArray).length)<|(iter (nO n a0 r1 r2) n ((0:Int),([]:U ByteArray))).bind λw1=>(gX n r1.1 (λ (y1:aH×Unit)=>nN n y1.1 a0 a1)).bind λr5=>ck (be w1.length w1.length)<|(jO n (⟨#[101,97,115,101,109,101,110,116]⟩) r5 w1).bind λr6=>ck (be (sub r6 0 r6.length).length r6.length)<|some ((sub r6 0 r6.length),(0:Int)))
def iY(a4:U bL)(r4:U Int)(r8:U Int):Stp Int (Unit⊕Bool)
 |v3=>(bif decide (v3<(((sub r4 0 r4.length).length:Int):Int))then((br (sub r4 0 r4.length) v3).bind λx1=>(bif decide (x1<0)then some true else(br (sub r4 0 r4.length) v3).bind λx2=>(br a4 v3).bind λx3=>(bif decide (x2>=(x3.values:Int))then some true else ck (co v3 r8.length)<|(br r8 ((0:Nat)+v3:Int)).bind λx4=>(br (sub r4 0 r4.length) v3).bind λx5=>(bif decide (x4>(x5:Int))then some true else ck (co v3 r8.length)<|(br r8 ((0:Nat)+v3:Int)).bind λx6=>(br (sub r4 0 r4.length) v3).bind λx7=>(bif decide (x6<(x7:Int))then ck (4 !=0)<|(bif ((Int.tmod v3 4) !=0)then some true else ck (co v3 r8.length)<|(br r8 ((0:Nat)+v3:Int)).bind λx8=>(br (sub r4 0 r4.length) v3).bind λx9=>some (decide (x8<((i64.wrap (x9 -1)):Int))))else ck (co v3 r8.length)<|(br r8 ((0:Nat)+v3:Int)).bind λx10=>(br (sub r4 0 r4.length) v3).bind λx11=>some (decide (x10<((i64.wrap (x11 -1)):Int)))))))).bind λv4=>(bif v4 then(some false).map λa=> .inr (.inr a)else some (.inl (i64.wrap (v3+1))))else some (.inr (.inl ())))
def iZ(a0:dK)(oy:(List ByteArray)×Int)(v6:Int):Stp (Bool×Bool×Int) (Bool×Bool)
 |(v7,v8,v9)=>(bif decide (v9<(a0.aE.length:Int))then((br a0.aE v9).bind λx12=>ck (co v6 oy.1.length)<|(br oy.1 ((0:Nat)+v6:Int)).bind λx13=>(bif (ByteArray.toList x12.name==ByteArray.toList x13)then(bif v7 then(br a0.aE v9).bind λx14=>some (x14.vary,true)else some (false,true))else some (v7,v8)):J (Bool×Bool)).bind λ(v10,v11)=>some (.inl (v10,v11,(i64.wrap (v9+1))))else some (.inr (v7,v8)))
def ja(a0:dK)(oy:(List ByteArray)×Int):Stp (Bool×Int) Bool
 |(v5,v6)=>(bif decide (v6<(oy.1.length:Int))then((iter (iZ a0 oy v6) n (v5,false,(0:Int))).bind λ(w1,w2)=>(bif w1 then some w2 else some false)).bind λv12=>some (.inl (v12,(i64.wrap (v6+1))))else some (.inr v5))
def oJ(a0:dK)(a1:aQ)(a2:U ByteArray)(a3:ByteArray)(a4:U bL)(a5:Int):J Bool:=
 (KT n).bind λr1=>((Ww n a0 a1 a2).bind λr2=>(bif (!r2)then some true else(yJ n a4 ([])).bind λr3=>some (!r3))).bind λv1=>(bif v1 then some r1 else(iQ n a0 a4 a1 a2).bind λr4=>ck (be (sub r4 0 r4.length).length r4.length)<|(uS n a4).bind λr5=>(bif (!r5)then(bif r1 then some (((sub r4 0 r4.length).length:Int)==0)else some false)else ck (bP ([]:U ByteArray).length 0 a2.length a2.length 16)<|iC (([]:U ByteArray)++a2) λr6=>ck (bP r6.length r6.length (sub ([a3]:U ByteArray) 0 1).length 1 16)<|iC (r6++(sub ([a3]:U ByteArray) 0 1)) λr7=>ck (be (sub r7 0 r7.length).length r7.length)<|(iQ n a0 a4 a1 (sub r7 0 r7.length)).bind λr8=>(gL n a4 ([]) 1 (sub r4 0 r4.length) true).bind λr9=>((bif (((sub r4 0 r4.length).length:Int) !=(a4.length:Int))then some true else(bif ((r8.length:Int) !=(((sub r4 0 r4.length).length:Int):Int))then some true else(bif (r9.2.2 !=0)then some true else some ((r9.2.1.length:Int) !=1))))).bind λv2=>(bif v2 then some false else dm (iter (iY a4 r4 r8) n (0:Int)) λ()=>(wW n a0 a1 a5).bind λoy=>(iter (ja n a0 oy) n ((decide ((oy.1.length:Int)>0)),(0:Int))).bind λw3=>(bif r1 then ck (be (sub oy.1 0 oy.1.length).length oy.1.length)<|(ow n (cK.mk a0.cd a0.bk a0.b7 a0.aE a0.cw a0.cp a0.cJ a0.ct) (sub oy.1 0 oy.1.length)).bind λsn=>(bif (sn==w3)then(bif (oy.2==0)then some true else some (!w3))else some false)else some false))))
end
end Go.Proofs
