import Derived.Test.YtbdekfpclohfnaaGreatTD1
open Go.IntKind (i64)
namespace Go.Proofs
open Go.Gb Go.RowKit
noncomputable section
variable (n:Nat)
def Nq(n:Nat)(r1:List bQ):Stp Int (Unit⊕Int)
 |v1=>(bif decide (v1<(r1.length:Int))then ck (br v1 r1.length)<|(bh r1 ((0:Nat)+v1:Int)).bind λx1=>(bif (ByteArray.toList x1.name==ByteArray.toList (⟨#[115,101,116,98,97,99,107]⟩))then(some x1.n).map λa=> .inr (.inr a)else some (.inl (i64.wrap (v1+1))))else some (.inr (.inl ())))
def qb(a0:gU)(a1:fU)(a2:bi):Option Int:=
 (IW n (gQ.mk a0.cy a0.bu a0.b9 a0.bp a0.c9 a0.cT a0.dt a0.cU) a1 a2).bind λr1=>dM (iter (Nq n r1) n (0:Int)) λ()=>some (0:Int)
def mh(a0:gU)(a1:fU)(a2:bi):Option Int:=
 (qb n a0 a1 a2).bind λr1=>some r1
def V0(a0:ay)(a1:ay):Option (Int×Int):=
 some ((i64.wrap ((max a0.x0 a1.x0) -(min a0.x1 a1.x1))),(i64.wrap ((max a0.y0 a1.y0) -(min a0.y1 a1.y1))))
def Hk(a0:ay)(a1:ay):Option Int:=
 ((uN a0).bind λr1=>(bif (!r1)then some true else(uN a1).bind λr2=>some (!r2))).bind λv1=>(bif v1 then some ((-1):Int)else(V0 a0 a1).bind λr3=>some (max (max (0:Int) r3.1) r3.2))
def Gu(a1:List ay)(x1:ay):Stp (Int×Int) Int
 |(v4,v5)=>(bif decide (v5<(a1.length:Int))then(bh a1 v5).bind λx2=>(Hk x1 x2).bind λr3=>some (.inl ((min v4 r3),(i64.wrap (v5+1))))else some (.inr v4))
def Gv(a0:List ay)(a1:List ay):Stp (Int×Int) Int
 |(v2,v3)=>(bif decide (v3<(a0.length:Int))then(bh a0 v3).bind λx1=>(iter (Gu a1 x1) n (v2,(0:Int))).bind λw1=>some (.inl (w1,(i64.wrap (v3+1))))else some (.inr v2))
def YN(a0:List ay)(a1:List ay):Option (Int×Bool):=
 ((bif ((a0.length:Int)==0)then some true else(bif ((a1.length:Int)==0)then some true else(BK n a0).bind λr1=>(bif (!r1)then some true else(BK n a1).bind λr2=>some (!r2))))).bind λv1=>(bif v1 then some ((0:Int),false)else(iter (Gv n a0 a1) n ((1048576:Int),(0:Int))).bind λw2=>some (w2,true))
def BM(a0:List fU):Stp (Int×(List (List ay))) (List (List ay))
 |(v1,v2)=>(bif decide (v1<(a0.length:Int))then(bh a0 v1).bind λx1=>ck (bD v2.length v2.length (sub ([x1.area]:List (List ay)) 0 1).length 1 24)<|fK (v2++(sub ([x1.area]:List (List ay)) 0 1)) λr2=>ck (bb r2.length r2.length)<|some (.inl ((i64.wrap (v1+1)),r2))else ck (bb v2.length v2.length)<|some (.inr v2))
def BN(a0:List fU)(a1:Int)(a2:Int)(r1:fU×Bool)(w1:List (List ay)):Stp (Int×(List Int)) (List Int)
 |(v3,v4)=>(bif decide (v3<(w1.length:Int))then(ck (br v3 w1.length)<|(bh w1 ((0:Nat)+v3:Int)).bind λx2=>(YN n r1.1.area x2).bind λr3=>((bif r3.2 then(bif decide (r3.1<=(a2:Int))then(bh a0 v3).bind λx3=>some (x3.id !=(a1:Int))else some false)else some false)).bind λv5=>(bif v5 then(bh a0 v3).bind λx4=>ck (bD v4.length v4.length (sub ([x4.id]:List Int) 0 1).length 1 8)<|fK (v4++(sub ([x4.id]:List Int) 0 1)) λr4=>ck (bb r4.length r4.length)<|some r4 else ck (bb v4.length v4.length)<|some v4):Option ((List Int))).bind λv6=>ck (bb v6.length v6.length)<|some (.inl ((i64.wrap (v3+1)),v6))else ck (bb v4.length v4.length)<|some (.inr v4))
def WI(a0:List fU)(a1:Int)(a2:Int):Option (List Int):=
 (MW n a0 a1).bind λr1=>(bif (!r1.2)then some ([]:(List Int))else ck (bb 0 ([]:List (List ay)).length)<|(iter (BM a0) n ((0:Int),([]:List (List ay)))).bind λw1=>ck (bb 0 ([]:List Int).length)<|(iter (BN n a0 a1 a2 r1 w1) n ((0:Int),([]:List Int))).bind λw2=>ck (bb w2.length w2.length)<|(tV n w2).bind λr5=>ck (bb w2.length r5.length)<|(uO n r5).bind λr6=>ck (bb (sub r6.2 0 r6.2.length).length r6.2.length)<|some (sub r6.2 0 r6.2.length))
def mq(a0:gU)(a1:bi):Option Int:=
 (WI n a0.land a1.lot 10).bind λr1=>some (r1.length:Int)
def qP(a0:fU):Option Int:=
 some (a0.area.length:Int)
def mJ(a0:gU)(a1:bi)(a2:List ByteArray):Option (List Int):=
 (MW n a0.land a1.lot).bind λr1=>ck (decide (4<=4)&&(decide (0<=4)&&J9 4 8))<|(l9 n a2).bind λr2=>ck (br 0 ((4:Int).toNat))<|(bh (List.replicate (4:Int).toNat 0) ((0:Nat)+0:Int)).bind λx1=>(mh n a0 r1.1 a1).bind λr3=>ck (br 1 ((4:Int).toNat))<|(bh ((List.replicate (4:Int).toNat 0).set ((0:Nat)+0:Int).toNat r2) ((0:Nat)+1:Int)).bind λx2=>(mq n a0 a1).bind λr4=>ck (br 2 ((4:Int).toNat))<|(bh (((List.replicate (4:Int).toNat 0).set ((0:Nat)+0:Int).toNat r2).set ((0:Nat)+1:Int).toNat r3) ((0:Nat)+2:Int)).bind λx3=>(qP r1.1).bind λr5=>ck (br 3 ((4:Int).toNat))<|(bh ((((List.replicate (4:Int).toNat 0).set ((0:Nat)+0:Int).toNat r2).set ((0:Nat)+1:Int).toNat r3).set ((0:Nat)+2:Int).toNat r4) ((0:Nat)+3:Int)).bind λx4=>ck (bb (sub (((((List.replicate (4:Int).toNat 0).set ((0:Nat)+0:Int).toNat r2).set ((0:Nat)+1:Int).toNat r3).set ((0:Nat)+2:Int).toNat r4).set ((0:Nat)+3:Int).toNat r5) 0 ((4:Int).toNat)).length ((4:Int).toNat))<|some (sub (((((List.replicate (4:Int).toNat 0).set ((0:Nat)+0:Int).toNat r2).set ((0:Nat)+1:Int).toNat r3).set ((0:Nat)+2:Int).toNat r4).set ((0:Nat)+3:Int).toNat r5) 0 ((4:Int).toNat))
def nI(a1:List aU)(r2:List Int):Stp (Int×(List Int)) (List Int)
 |(v1,v2)=>(bif decide (v1<(a1.length:Int))then(bh a1 v1).bind λx1=>ck (4 !=0)<|ck (br (Int.tmod v1 4) r2.length)<|(bh r2 ((0:Nat)+(Int.tmod v1 4):Int)).bind λx2=>(ck (2 !=0)<|(bif ((Int.tmod v1 2)==0)then some (i64.wrap ((i64.wrap (x1.values -1)) -(min x2 (i64.wrap (x1.values -1)))))else some (min x2 (i64.wrap (x1.values -1)))):Option Int).bind λv3=>ck (br v1 ((a1.length:Int).toNat))<|(bh v2 ((0:Nat)+v1:Int)).bind λx3=>some (.inl ((i64.wrap (v1+1)),(v2.set ((0:Nat)+v1:Int).toNat v3)))else some (.inr v2))
def jE(a0:gU)(a1:List aU)(a2:bi)(a3:List ByteArray):Option (List Int):=
 (Ae n a1).bind λr1=>(bif (!r1)then some ([]:(List Int))else(mJ n a0 a2 a3).bind λr2=>ck (decide ((a1.length:Int)<=(a1.length:Int))&&(decide (0<=(a1.length:Int))&&J9 (a1.length:Int) 8))<|(iter (nI a1 r2) n ((0:Int),(List.replicate (a1.length:Int).toNat 0))).bind λw1=>ck (bb (sub w1 0 ((a1.length:Int).toNat)).length ((a1.length:Int).toNat))<|some (sub w1 0 ((a1.length:Int).toNat)))
def uT:Stp (Int×(List Int)) (List Int)
 |(v1,v2)=>(bif decide (v1<12)then ck (br v1 12)<|ck (decide ((0:Int)<=v1)&&ja (0+(v1:Int).toNat) 1 v2.length)<|some (.inl ((i64.wrap (v1+1)),(List.set v2 (0+(v1:Int).toNat) (13:Int))))else some (.inr v2))
def uU(a0:dP)(a1:Int)(v5:Int):Stp (Int×(List Int)) (List Int)
 |(v7,v8)=>(bif decide (v7<12)then((ck (br v5 12)<|ck (br v7 12)<|(nt a0.l (0+(v5:Int).toNat*12) v7).bind λx1=>(bif x1 then some (v5 !=(a1:Int))else some false)).bind λv9=>(bif v9 then ck (br v5 12)<|(nt v8 0 v5).bind λx2=>ck (br v7 12)<|(nt v8 0 v7).bind λx3=>ck (br v5 12)<|ck (decide ((0:Int)<=v5)&&ja (0+(v5:Int).toNat) 1 v8.length)<|some (List.set v8 (0+(v5:Int).toNat) (min x2 (i64.wrap (x3+1))))else some v8):Option ((List Int))).bind λv10=>some (.inl ((i64.wrap (v7+1)),v10))else some (.inr v8))
def uV(a0:dP)(a1:Int):Stp (Int×(List Int)) (List Int)
 |(v5,v6)=>(bif decide (v5<12)then(iter (uU a0 a1 v5) n (a1,v6)).bind λw2=>some (.inl ((i64.wrap (v5+1)),w2))else some (.inr v6))
def uW(a0:dP)(a1:Int):Stp (Int×(List Int)) (List Int)
 |(v3,v4)=>(bif decide (v3<12)then(iter (uV n a0 a1) n (a1,v4)).bind λw3=>some (.inl ((i64.wrap (v3+1)),w3))else some (.inr v4))
def yL(a0:dP)(a1:Int):Option yD:=
 (iter (uT) n ((0:Int),(List.replicate 12 (0:Int)))).bind λw1=>ck (br a1 12)<|ck (decide ((0:Int)<=a1)&&ja (0+(a1:Int).toNat) 1 w1.length)<|(iter (uW n a0 a1) n ((0:Int),(List.set w1 (0+(a1:Int).toNat) (0:Int)))).bind λw4=>(wP (sub w4 0 12)).bind λx4=>ck (bb x4.l.length 12&&ja 0 x4.l.length (List.replicate 12 (0:Int)).length)<|(wP (sub (mY (List.replicate 12 (0:Int)) 0 x4.l) 0 12)).bind λz1=>some z1
def qc(a0:dP)(v3:Int)(r1:yD):Stp (Int×Int×Int) (Int×Int)
 |(v4,v5,v6)=>(bif decide (v6<12)then((ck (br v3 12)<|ck (br v6 12)<|(nt a0.l (0+(v3:Int).toNat*12) v6).bind λx2=>(bif x2 then ck (br v6 12)<|(nt (mY (List.replicate 12 (0:Int)) 0 r1.l) 0 v6).bind λx3=>some (decide ((i64.wrap (x3+1))<(v4:Int)))else some false)).bind λv7=>(bif v7 then ck (br v6 12)<|(nt (mY (List.replicate 12 (0:Int)) 0 r1.l) 0 v6).bind λx4=>some ((i64.wrap (x4+1)),v3)else some (v4,v5)):Option (Int×Int)).bind λ(v8,v9)=>some (.inl (v8,v9,(i64.wrap (v6+1))))else some (.inr (v4,v5)))
def qd(a0:dP):Stp (Int×Int×Int) (Int×Int)
 |(v1,v2,v3)=>(bif decide (v3<12)then(dK (sub a0.l 0 144)).bind λx1=>(yL n x1 v3).bind λr1=>ck (bb r1.l.length 12&&ja 0 r1.l.length (List.replicate 12 (0:Int)).length)<|(iter (qc a0 v3 r1) n (v1,v2,v3)).bind λ(w1,w2)=>some (.inl (w1,w2,(i64.wrap (v3+1))))else some (.inr (v1,v2)))
def qf(a0:dP)(w3:Int)(r2:yD):Stp (Int×(List Int)) (List Int)
 |(v11,v12)=>(ck (br (i64.wrap ((v12.length:Int) -1)) v12.length)<|(bh v12 ((0:Nat)+(i64.wrap ((v12.length:Int) -1)):Int)).bind λx6=>ck (br x6 12)<|ck (br v11 12)<|(nt a0.l (0+(x6:Int).toNat*12) v11).bind λx7=>(bif x7 then ck (br v11 12)<|(nt (mY (List.replicate 12 (0:Int)) 0 r2.l) 0 v11).bind λx8=>some (x8==((i64.wrap (w3 -(v12.length:Int))):Int))else some false)).bind λv13=>(bif v13 then ck (bD v12.length v12.length (sub ([v11]:List Int) 0 1).length 1 8)<|fK (v12++(sub ([v11]:List Int) 0 1)) λr3=>ck (bb r3.length r3.length)<|some (.inr r3)else ck (bb v12.length v12.length)<|some (.inl ((i64.wrap (v11+1)),v12)))
def qg(a0:dP)(w3:Int)(w4:Int)(r2:yD):Stp (List Int) (List Int)
 |v10=>(bif decide ((v10.length:Int)<(w3:Int))then ck (bb v10.length v10.length)<|(iter (qf a0 w3 r2) n (w4,v10)).bind λw5=>ck (bb w5.length w5.length)<|some (.inl w5)else ck (bb v10.length v10.length)<|some (.inr v10))
def xQ(a0:dP):Option (List Int):=
 (iter (qd n a0) n ((13:Int),(0:Int),(0:Int))).bind λ(w3,w4)=>(bif (w3==13)then some ([]:(List Int))else(dK (sub a0.l 0 144)).bind λx5=>(yL n x5 w4).bind λr2=>ck (bb r2.l.length 12&&ja 0 r2.l.length (List.replicate 12 (0:Int)).length)<|ck (bb 1 ([w4]:List Int).length)<|(iter (qg n a0 w3 w4 r2) n ([w4]:List Int)).bind λw6=>ck (bb (sub w6 0 w6.length).length w6.length)<|some (sub w6 0 w6.length))
def Fg(a0:List Bool):Option (List Bool):=
 (bif a0.isEmpty then(both (some ([]:(List Bool))) (ck (bD ([]:List Bool).length 0 a0.length a0.length 1)<|fK (([]:List Bool)++a0) λr1=>ck (bb (sub r1 0 r1.length).length r1.length)<|some (sub r1 0 r1.length)))else ck (bD ([]:List Bool).length 0 a0.length a0.length 1)<|fK (([]:List Bool)++a0) λr2=>ck (bb (sub r2 0 r2.length).length r2.length)<|some (sub r2 0 r2.length))
def oI(a0:aU)(r1:dP×Bool):Stp (Int×(List (List Bool))) (List (List Bool))
 |(v1,v2)=>(bif decide (v1<(a0.values:Int))then ck (br v1 12)<|ck (q8 0 a0.values 12&&ja (0+(v1:Int).toNat*12) 12 (mY (List.replicate 144 false) 0 r1.1.l).length)<|ck (bb (sub (mY (List.replicate 144 false) 0 r1.1.l) (0+(v1:Int).toNat*12) ((a0.values:Int).toNat)).length ((a0.values:Int).toNat))<|(Fg (sub (mY (List.replicate 144 false) 0 r1.1.l) (0+(v1:Int).toNat*12) ((a0.values:Int).toNat))).bind λr5=>ck (bb (sub r5 0 r5.length).length r5.length)<|ck (bD v2.length v2.length (sub ([(sub r5 0 r5.length)]:List (List Bool)) 0 1).length 1 24)<|fK (v2++(sub ([(sub r5 0 r5.length)]:List (List Bool)) 0 1)) λr6=>ck (bb r6.length r6.length)<|some (.inl ((i64.wrap (v1+1)),r6))else ck (bb v2.length v2.length)<|some (.inr v2))
def uX(a0:aU):Option ((List (List Bool))×(List Int)×Int):=
 (rD n a0).bind λr1=>ck (bb r1.1.l.length 144&&ja 0 r1.1.l.length (List.replicate 144 false).length)<|(uJ n a0).bind λr2=>(bif (!r2)then some (([]:(List (List Bool))),([]:(List Int)),(1:Int))else(bif (!r1.2)then(uK n a0).bind λr3=>(xQ n r3).bind λr4=>ck (bb (sub r4 0 r4.length).length r4.length)<|some (([]:(List (List Bool))),(sub r4 0 r4.length),(16:Int))else ck (bb 0 ([]:List (List Bool)).length)<|(iter (oI a0 r1) n ((0:Int),([]:List (List Bool)))).bind λw1=>ck (bb (sub w1 0 w1.length).length w1.length)<|some ((sub w1 0 w1.length),([]:(List Int)),(0:Int))))
def oJ(a0:List aU):Stp (Int×(List (List (List Bool)))) ((List (List (List Bool)))⊕((List (List (List Bool)))×Bool))
 |(v1,v2)=>(bif decide (v1<(a0.length:Int))then(bh a0 v1).bind λx1=>(uX n x1).bind λr1=>(bif (r1.2.2 !=0)then(some (([]:(List (List (List Bool)))),false)).map λa=> .inr (.inr a)else ck (bb (sub r1.1 0 r1.1.length).length r1.1.length)<|ck (bD v2.length v2.length (sub ([(sub r1.1 0 r1.1.length)]:List (List (List Bool))) 0 1).length 1 24)<|fK (v2++(sub ([(sub r1.1 0 r1.1.length)]:List (List (List Bool))) 0 1)) λr2=>ck (bb r2.length r2.length)<|some (.inl ((i64.wrap (v1+1)),r2)))else ck (bb v2.length v2.length)<|some (.inr (.inl v2)))
def uY(a0:List aU):Option ((List (List (List Bool)))×Bool):=
 (bif decide ((a0.length:Int)>12)then some (([]:(List (List (List Bool)))),false)else ck (bb 0 ([]:List (List (List Bool))).length)<|dM (iter (oJ n a0) n ((0:Int),([]:List (List (List Bool))))) λw1=>ck (bb (sub w1 0 w1.length).length w1.length)<|some ((sub w1 0 w1.length),true))
def gD(a0:(List (List (List Bool))))(a1:List Int):Stp Int (Unit⊕Bool)
 |v1=>(bif decide (v1<(a1.length:Int))then(bh a1 v1).bind λx1=>((bif decide (x1<0)then some true else(bh a0 v1).bind λx2=>some (decide (x1>=(x2.length:Int))))).bind λv2=>(bif v2 then(some false).map λa=> .inr (.inr a)else some (.inl (i64.wrap (v1+1))))else some (.inr (.inl ())))
def dY(a0:(List (List (List Bool))))(a1:List Int):Option Bool:=
 (bif ((a1.length:Int) !=(a0.length:Int))then some false else dM (iter (gD a0 a1) n (0:Int)) λ()=>some true)
def gH(a1:List aH)(r1:(List (List (List Bool)))×Bool):Stp (Int×(List (Int×Bool))) (Unit⊕((List (List (List Bool)))×Bool))
 |(v1,v2)=>(bif decide (v1<(a1.length:Int))then(bh a1 v1).bind λx1=>((bif (!r1.2)then some true else(bif ((iA mB x1.id v2).getD false)then some true else ck (bb (sub r1.1 0 r1.1.length).length r1.1.length)<|(dY n (sub r1.1 0 r1.1.length) x1.values).bind λr2=>some (!r2)))).bind λv3=>(bif v3 then(some (([]:(List (List (List Bool)))),false)).map λa=> .inr (.inr a)else some (.inl ((i64.wrap (v1+1)),(vO mB x1.id true v2))))else some (.inr (.inl ())))
def nT(a0:List aU)(a1:List aH):Option ((List (List (List Bool)))×Bool):=
 (uY n a0).bind λr1=>dM (iter (gH n a1 r1) n ((0:Int),([]:(List (Int×Bool))))) λ()=>(bif r1.2 then ck (bb (sub r1.1 0 r1.1.length).length r1.1.length)<|some ((sub r1.1 0 r1.1.length),(decide ((a1.length:Int)<=2000)))else ck (bb (sub r1.1 0 r1.1.length).length r1.1.length)<|some ((sub r1.1 0 r1.1.length),false))
def iE(a0:(List (List (List Bool))))(a1:List Int)(a2:List Int):Stp (Int×(List Int)) (List Int)
 |(v1,v2)=>(bif decide (v1<(a0.length:Int))then((bh a0 v1).bind λx1=>(bh a1 v1).bind λx2=>(bh x1 x2).bind λx3=>(bh a2 v1).bind λx4=>(bh x3 x4).bind λx5=>(bif (!x5)then ck (bD v2.length v2.length (sub ([v1]:List Int) 0 1).length 1 8)<|fK (v2++(sub ([v1]:List Int) 0 1)) λr1=>ck (bb r1.length r1.length)<|some r1 else ck (bb v2.length v2.length)<|some v2):Option ((List Int))).bind λv3=>ck (bb v3.length v3.length)<|some (.inl ((i64.wrap (v1+1)),v3))else ck (bb v2.length v2.length)<|some (.inr v2))
def gW(a0:(List (List (List Bool))))(a1:List Int)(a2:List Int):Option (List Int):=
 ck (bb 0 ([]:List Int).length)<|(iter (iE a0 a1 a2) n ((0:Int),([]:List Int))).bind λw1=>ck (bb (sub w1 0 w1.length).length w1.length)<|some (sub w1 0 w1.length)
def iF(a0:(List (List (List Bool))))(a1:aH)(a2:List Int):Option (List Int):=
 (bif a1.grant then(gW n a0 a1.values a2).bind λr1=>ck (bb (sub r1 0 r1.length).length r1.length)<|some (sub r1 0 r1.length)else(gW n a0 a2 a1.values).bind λr2=>ck (bb (sub r2 0 r2.length).length r2.length)<|some (sub r2 0 r2.length))
def iG(a0:(List (List (List Bool))))(a1:List aH)(a2:List Int):Stp (Int×(List (Bool×Bool))×(List Int)) ((List (Bool×Bool))×(List Int))
 |(v1,v2,v3)=>(bif decide (v1<(a1.length:Int))then((bh a1 v1).bind λx1=>(iF n a0 x1 a2).bind λr1=>(bif ((r1.length:Int)==0)then ck (bD v3.length v3.length (sub ([v1]:List Int) 0 1).length 1 8)<|fK (v3++(sub ([v1]:List Int) 0 1)) λr2=>ck (bb r2.length r2.length)<|some ((vO mm x1.grant true v2),r2)else ck (bb v3.length v3.length)<|some (v2,v3)):Option ((List (Bool×Bool))×(List Int))).bind λ(v4,v5)=>ck (bb v5.length v5.length)<|some (.inl ((i64.wrap (v1+1)),v4,v5))else ck (bb v3.length v3.length)<|some (.inr (v2,v3)))
def jA(a0:(List (List (List Bool))))(a1:List aH)(a2:List Int):Option (Int×(List Int)):=
 ck (bb 0 ([]:List Int).length)<|(iter (iG n a0 a1 a2) n ((0:Int),([]:(List (Bool×Bool))),([]:List Int))).bind λ(w1,w2)=>((bif ((iA mm true w1).getD false)then some ((iA mm false w1).getD false)else some false)).bind λv6=>(bif v6 then ck (bb (sub w2 0 w2.length).length w2.length)<|some ((3:Int),(sub w2 0 w2.length))else(bif ((iA mm true w1).getD false)then ck (bb (sub w2 0 w2.length).length w2.length)<|some ((1:Int),(sub w2 0 w2.length))else(bif ((iA mm false w1).getD false)then ck (bb (sub w2 0 w2.length).length w2.length)<|some ((2:Int),(sub w2 0 w2.length))else some ((0:Int),([]:(List Int))))))
def qh(a0:List aU)(a1:List aH)(a2:List Int):Option (Int×(List Int)×Int):=
 (nT n a0 a1).bind λr1=>((bif (!r1.2)then some true else ck (bb (sub r1.1 0 r1.1.length).length r1.1.length)<|(dY n (sub r1.1 0 r1.1.length) a2).bind λr2=>some (!r2))).bind λv1=>(bif v1 then some ((0:Int),([]:(List Int)),(1:Int))else ck (bb (sub r1.1 0 r1.1.length).length r1.1.length)<|(jA n (sub r1.1 0 r1.1.length) a1 a2).bind λr3=>ck (bb (sub r3.2 0 r3.2.length).length r3.2.length)<|some (r3.1,(sub r3.2 0 r3.2.length),(0:Int)))
def Fh(a0:List aH):Option (List aH):=
 (bif a0.isEmpty then(both (some ([]:(List aH))) (ck (bD ([]:List aH).length 0 a0.length a0.length 40)<|fK (([]:List aH)++a0) λr1=>ck (bb (sub r1 0 r1.length).length r1.length)<|some (sub r1 0 r1.length)))else ck (bD ([]:List aH).length 0 a0.length a0.length 40)<|fK (([]:List aH)++a0) λr2=>ck (bb (sub r2 0 r2.length).length r2.length)<|some (sub r2 0 r2.length))
def oK(r1:List aH):Stp (Int×(List aH)) (List aH)
 |(v1,v2)=>(bif decide (v1<(r1.length:Int))then ck (br v1 r1.length)<|(bh v2 ((0:Nat)+v1:Int)).bind λx1=>(nC x1.values).bind λr2=>ck (br v1 r1.length)<|ck (bb (sub r2 0 r2.length).length r2.length)<|(bh v2 ((0:Nat)+v1:Int)).bind λx2=>some (.inl ((i64.wrap (v1+1)),(v2.set ((0:Nat)+v1:Int).toNat (aH.mk x2.id (sub r2 0 r2.length) x2.grant))))else some (.inr v2))
def mK(a0:List aH):Option (List aH):=
 (Fh a0).bind λr1=>(iter (oK r1) n ((0:Int),r1)).bind λw1=>ck (bb (sub w1 0 r1.length).length r1.length)<|some (sub w1 0 r1.length)
def Gw(a0:aH)(a1:aH):Option Bool:=
 some (a0.id==(a1.id:Int))
def LJ(a0:List aH)(a1:(aH×Unit)->Option Bool):Stp Int (Unit⊕Int)
 |v1=>(bif decide (v1<(a0.length:Int))then(bh a0 v1).bind λx1=>(a1 (x1,())).bind λr1=>(bif r1 then(some v1).map λa=> .inr (.inr a)else some (.inl (i64.wrap (v1+1))))else some (.inr (.inl ())))
def uZ(a0:List aH)(a1:(aH×Unit)->Option Bool):Option Int:=
 dM (iter (LJ a0 a1) n (0:Int)) λ()=>some ((-1):Int)
def lu(a0:List aH)(a1:(aH×Unit)->Option Bool):Option Bool:=
 (uZ n a0 a1).bind λr1=>some (decide (r1>=0))
def nU(a0:aH):Option aH:=
 (nC a0.values).bind λr1=>ck (bb (sub r1 0 r1.length).length r1.length)<|some (aH.mk a0.id (sub r1 0 r1.length) a0.grant)
def qi(a1:List aH)(a2:aH)(r1:(List (List (List Bool)))×Bool):Stp (Int×(List aH)) ((List aH)⊕((List aH)×Int))
 |(v2,v3)=>(bif decide (v2<(a1.length:Int))then(bh a1 v2).bind λx1=>((bif (!(x1.grant==a2.grant))then ck (bb (sub r1.1 0 r1.1.length).length r1.1.length)<|(iF n (sub r1.1 0 r1.1.length) x1 a2.values).bind λr4=>some ((r4.length:Int)==0)else some false)).bind λv4=>(bif v4 then(some (([]:(List aH)),(25:Int))).map λa=> .inr (.inr a)else(nU x1).bind λr5=>ck (bD v3.length v3.length (sub ([r5]:List aH) 0 1).length 1 40)<|fK (v3++(sub ([r5]:List aH) 0 1)) λr6=>ck (bb r6.length r6.length)<|some (.inl ((i64.wrap (v2+1)),r6)))else ck (bb v3.length v3.length)<|some (.inr (.inl v3)))
def xR(a0:List aU)(a1:List aH)(a2:aH):Option ((List aH)×Int):=
 (nT n a0 a1).bind λr1=>((bif (!r1.2)then some true else ck (bb (sub r1.1 0 r1.1.length).length r1.1.length)<|(dY n (sub r1.1 0 r1.1.length) a2.values).bind λr2=>some (!r2))).bind λv1=>(bif v1 then some (([]:(List aH)),(1:Int))else(lu n a1 (λ (y1:aH×Unit)=>Gw y1.1 a2)).bind λr3=>(bif r3 then some (([]:(List aH)),(5:Int))else(bif decide ((a1.length:Int)>=2000)then some (([]:(List aH)),(6:Int))else ck (bb 0 ([]:List aH).length)<|dM (iter (qi n a1 a2 r1) n ((0:Int),([]:List aH))) λw1=>(nU a2).bind λr7=>ck (bD w1.length w1.length (sub ([r7]:List aH) 0 1).length 1 40)<|fK (w1++(sub ([r7]:List aH) 0 1)) λr8=>ck (bb (sub r8 0 r8.length).length r8.length)<|some ((sub r8 0 r8.length),(0:Int)))))
def gG(a0:List aU)(a1:List aH)(a2:Int)(a3:List Int)(a4:Bool):Option (Bool×(List aH)×Int):=
 (qh n a0 a1 a3).bind λr1=>(bif (r1.2.2 !=0)then(mK n a1).bind λr2=>ck (bb (sub r2 0 r2.length).length r2.length)<|some (false,(sub r2 0 r2.length),(1:Int))else(bif (r1.1==3)then(mK n a1).bind λr3=>ck (bb (sub r3 0 r3.length).length r3.length)<|some (false,(sub r3 0 r3.length),(25:Int))else((bif (r1.1==1)then some true else(bif (r1.1==2)then some false else some a4))).bind λv1=>(nC a3).bind λr4=>ck (bb (sub r4 0 r4.length).length r4.length)<|(xR n a0 a1 (aH.mk a2 (sub r4 0 r4.length) v1)).bind λr5=>(bif (r5.2 !=0)then(mK n a1).bind λr6=>ck (bb (sub r6 0 r6.length).length r6.length)<|some (false,(sub r6 0 r6.length),r5.2)else ck (bb (sub r5.1 0 r5.1.length).length r5.1.length)<|some (v1,(sub r5.1 0 r5.1.length),(0:Int)))))
def sI(a0:List Int)(a1:List Int):Stp Int (Unit⊕Bool)
 |v1=>(bif decide (v1<(a0.length:Int))then(bh a0 v1).bind λx1=>(bh a1 v1).bind λx2=>(bif (x1 !=(x2:Int))then(some false).map λa=> .inr (.inr a)else some (.inl (i64.wrap (v1+1))))else some (.inr (.inl ())))
def nJ(a0:List Int)(a1:List Int):Option Bool:=
 (bif ((a0.length:Int) !=(a1.length:Int))then some false else dM (iter (sI a0 a1) n (0:Int)) λ()=>some true)
def nV(a0:dL)(a1:ByteArray):Option Bool:=
 some (ByteArray.toList a0.name==ByteArray.toList a1)
def LK(a0:List dL)(a1:(dL×Unit)->Option Bool):Stp Int (Unit⊕Int)
 |v1=>(bif decide (v1<(a0.length:Int))then(bh a0 v1).bind λx1=>(a1 (x1,())).bind λr1=>(bif r1 then(some v1).map λa=> .inr (.inr a)else some (.inl (i64.wrap (v1+1))))else some (.inr (.inl ())))
def u6(a0:List dL)(a1:(dL×Unit)->Option Bool):Option Int:=
 dM (iter (LK a0 a1) n (0:Int)) λ()=>some ((-1):Int)
def lC(a0:List dL)(a1:(dL×Unit)->Option Bool):Option Bool:=
 (u6 n a0 a1).bind λr1=>some (decide (r1>=0))
def nK(a0:dL)(a1:ByteArray):Option (Bool×ByteArray):=
 (nV a0 a1).bind λr1=>(bif r1 then some ((!a0.vary),a1)else some (false,a1))
def jB(a0:List dL):Stp (Int×ByteArray) (ByteArray⊕(Int×ByteArray))
 |(v1,v2)=>(bif decide (v1<(a0.length:Int))then(bh a0 v1).bind λx1=>(nK x1 v2).bind λr1=>(bif r1.1 then(some (v1,r1.2)).map λa=> .inr (.inr a)else some (.inl ((i64.wrap (v1+1)),r1.2)))else some (.inr (.inl v2)))
def pq(a0:List dL)(a1:ByteArray):Option (Int×ByteArray):=
 dM (iter (jB a0) n ((0:Int),a1)) λw1=>some (((-1):Int),w1)
def jC(a0:List dL)(a1:ByteArray):Option (Bool×ByteArray):=
 (pq n a0 a1).bind λr1=>some ((decide (r1.1>=0)),r1.2)
def sJ(a0:gQ)(a1:List ByteArray):Stp Int (Unit⊕Bool)
 |v1=>(bif decide (v1<(a1.length:Int))then(bh a1 v1).bind λx1=>((lC n a0.rules (λ (y1:dL×Unit)=>nV y1.1 x1)).bind λr1=>(bif (!r1)then some true else(jC n a0.rules x1).bind λr2=>some r2.1)).bind λv2=>(bif v2 then(some false).map λa=> .inr (.inr a)else some (.inl (i64.wrap (v1+1))))else some (.inr (.inl ())))
def nL(a0:gQ)(a1:List ByteArray):Option Bool:=
 dM (iter (sJ n a0 a1) n (0:Int)) λ()=>some (decide ((a1.length:Int)>0))
def M0:Option Bool:=
 (QL).bind λr1=>(QL).bind λr2=>ck (bb (sub ([r1,r2]:List aU) 0 2).length 2)<|ck (bb (sub ([(aQ.mk 5 5 7 7 0 3 2 0 false)]:List aQ) 0 1).length 1)<|ck (bb (sub ([(ay.mk 0 0 20 20)]:List ay) 0 1).length 1)<|ck (bb (sub ([(fU.mk 1 0 (sub ([(ay.mk 0 0 20 20)]:List ay) 0 1) ([]))]:List fU) 0 1).length 1)<|ck (bb (sub ([(zm.mk (sub ([(aQ.mk 5 5 7 7 0 3 2 0 false)]:List aQ) 0 1) ([]))]:List zm) 0 1).length 1)<|ck (bb (sub ([⟨#[97]⟩,⟨#[98]⟩]:List ByteArray) 0 2).length 2)<|(jE n (gU.mk ([]) ([]) ([]) ([]) ([]) ([]) ([]) 0 (sub ([(fU.mk 1 0 (sub ([(ay.mk 0 0 20 20)]:List ay) 0 1) ([]))]:List fU) 0 1) ([]) ([]) ([]) ([])) (sub ([r1,r2]:List aU) 0 2) (bi.mk 1 (sub ([(zm.mk (sub ([(aQ.mk 5 5 7 7 0 3 2 0 false)]:List aQ) 0 1) ([]))]:List zm) 0 1)) (sub ([⟨#[97]⟩,⟨#[98]⟩]:List ByteArray) 0 2)).bind λr3=>ck (bb (sub ([1,1]:List Int) 0 2).length 2)<|(gG n (sub ([r1,r2]:List aU) 0 2) ([]) 1 (sub ([1,1]:List Int) 0 2) true).bind λr4=>ck (bb (sub r4.2.1 0 r4.2.1.length).length r4.2.1.length)<|ck (bb (sub ([1,2]:List Int) 0 2).length 2)<|(gG n (sub ([r1,r2]:List aU) 0 2) (sub r4.2.1 0 r4.2.1.length) 2 (sub ([1,2]:List Int) 0 2) false).bind λr5=>ck (bb (sub r5.2.1 0 r5.2.1.length).length r5.2.1.length)<|ck (bb (sub ([0,1]:List Int) 0 2).length 2)<|(gG n (sub ([r1,r2]:List aU) 0 2) (sub r5.2.1 0 r5.2.1.length) 3 (sub ([0,1]:List Int) 0 2) false).bind λr6=>ck (bb (sub r6.2.1 0 r6.2.1.length).length r6.2.1.length)<|ck (bb (sub ([0,2]:List Int) 0 2).length 2)<|(gG n (sub ([r1,r2]:List aU) 0 2) (sub r6.2.1 0 r6.2.1.length) 3 (sub ([0,2]:List Int) 0 2) false).bind λr7=>((bif (r4.2.2==0)then(bif (r5.2.2==0)then(bif (r6.2.2==0)then(bif (r7.2.2==5)then(bif r4.1 then(bif r5.1 then some (!r6.1)else some false)else some false)else some false)else some false)else some false)else some false)).bind λv1=>(bif v1 then(bif (((sub r4.2.1 0 r4.2.1.length).length:Int)==1)then(bif (((sub r5.2.1 0 r5.2.1.length).length:Int)==2)then(bif (((sub r6.2.1 0 r6.2.1.length).length:Int)==3)then(bif ((r7.2.1.length:Int)==3)then ck (bb (sub r3 0 r3.length).length r3.length)<|ck (bb (sub ([0,2]:List Int) 0 2).length 2)<|(nJ n (sub r3 0 r3.length) (sub ([0,2]:List Int) 0 2)).bind λr8=>(bif r8 then ck (bb (sub ([(dL.mk (⟨#[97]⟩) ([]) ([]) 0 0 0 true 0 0 0 (⟨#[]⟩) (⟨#[]⟩) ([]) 0 0 0 0 0 0 0),(dL.mk (⟨#[98]⟩) ([]) ([]) 0 0 0 false 0 0 0 (⟨#[]⟩) (⟨#[]⟩) ([]) 0 0 0 0 0 0 0)]:List dL) 0 2).length 2)<|ck (bb (sub ([⟨#[97]⟩]:List ByteArray) 0 1).length 1)<|(nL n (gQ.mk ([]) ([]) ([]) (sub ([(dL.mk (⟨#[97]⟩) ([]) ([]) 0 0 0 true 0 0 0 (⟨#[]⟩) (⟨#[]⟩) ([]) 0 0 0 0 0 0 0),(dL.mk (⟨#[98]⟩) ([]) ([]) 0 0 0 false 0 0 0 (⟨#[]⟩) (⟨#[]⟩) ([]) 0 0 0 0 0 0 0)]:List dL) 0 2) ([]) ([]) ([]) 0) (sub ([⟨#[97]⟩]:List ByteArray) 0 1)).bind λr9=>(bif r9 then ck (bb (sub ([(dL.mk (⟨#[97]⟩) ([]) ([]) 0 0 0 true 0 0 0 (⟨#[]⟩) (⟨#[]⟩) ([]) 0 0 0 0 0 0 0),(dL.mk (⟨#[98]⟩) ([]) ([]) 0 0 0 false 0 0 0 (⟨#[]⟩) (⟨#[]⟩) ([]) 0 0 0 0 0 0 0)]:List dL) 0 2).length 2)<|ck (bb (sub ([⟨#[97]⟩,⟨#[98]⟩]:List ByteArray) 0 2).length 2)<|(nL n (gQ.mk ([]) ([]) ([]) (sub ([(dL.mk (⟨#[97]⟩) ([]) ([]) 0 0 0 true 0 0 0 (⟨#[]⟩) (⟨#[]⟩) ([]) 0 0 0 0 0 0 0),(dL.mk (⟨#[98]⟩) ([]) ([]) 0 0 0 false 0 0 0 (⟨#[]⟩) (⟨#[]⟩) ([]) 0 0 0 0 0 0 0)]:List dL) 0 2) ([]) ([]) ([]) 0) (sub ([⟨#[97]⟩,⟨#[98]⟩]:List ByteArray) 0 2)).bind λrh=>some (!rh)else some false)else some false)else some false)else some false)else some false)else some false)else some false)
def O4(a0:gU):Stp Int (Unit⊕Bool)
 |v2=>(bif decide (v2<(a0.bp.length:Int))then((bh a0.bp v2).bind λx1=>(bif decide ((x1.zones.length:Int)>5)then some true else(bh a0.bp v2).bind λx2=>some (decide ((x2.except.length:Int)>5)))).bind λv3=>(bif v3 then(some false).map λa=> .inr (.inr a)else some (.inl (i64.wrap (v2+1))))else some (.inr (.inl ())))
def O5(a0:gU):Stp Int (Unit⊕Bool)
 |v4=>(bif decide (v4<(a0.land.length:Int))then(bh a0.land v4).bind λx3=>(bif decide ((x3.area.length:Int)>10)then(some false).map λa=> .inr (.inr a)else some (.inl (i64.wrap (v4+1))))else some (.inr (.inl ())))
def O6(a0:gU):Stp Int (Unit⊕Bool)
 |v5=>(bif decide (v5<(a0.cz.length:Int))then(bh a0.cz v5).bind λx4=>(bif decide ((x4.area.length:Int)>10)then(some false).map λa=> .inr (.inr a)else some (.inl (i64.wrap (v5+1))))else some (.inr (.inl ())))
def WJ(a0:gU):Option Bool:=
 ((bif decide ((a0.bp.length:Int)>10)then some true else(bif decide ((a0.b9.length:Int)>6)then some true else(bif decide ((a0.cy.length:Int)>20)then some true else(bif decide ((a0.bu.length:Int)>20)then some true else(bif decide ((a0.land.length:Int)>5)then some true else(bif decide ((a0.cz.length:Int)>5)then some true else some (decide ((a0.built.length:Int)>6))))))))).bind λv1=>(bif v1 then some false else dM (iter (O4 a0) n (0:Int)) λ()=>dM (iter (O5 a0) n (0:Int)) λ()=>dM (iter (O6 a0) n (0:Int)) λ()=>some true)
def nM(a0:List bi)(v1:Int):Stp Int (Unit⊕(Int⊕(Unit⊕Bool)))
 |v2=>(bh a0 v1).bind λx1=>(bif decide (v2<(x1.phases.length:Int))then((bh a0 v1).bind λx2=>(bh x2.phases v2).bind λx3=>(bif decide ((x3.cp.length:Int)>12)then some true else(bh a0 v1).bind λx4=>(bh x4.phases v2).bind λx5=>some (decide ((x5.gives.length:Int)>6)))).bind λv3=>(bif v3 then((some false).map λa=> .inr (.inr a)).map λa=> .inr (.inr a)else some (.inl (i64.wrap (v2+1))))else some (.inr (.inl ())))
def kC(a0:List bi):Stp Int (Unit⊕Bool)
 |v1=>(bif decide (v1<(a0.length:Int))then dM (iter (nM a0 v1) n (0:Int)) λ()=>(bh a0 v1).bind λx6=>(bif decide ((x6.phases.length:Int)>9)then(some false).map λa=> .inr (.inr a)else some (.inl (i64.wrap (v1+1))))else some (.inr (.inl ())))
def nW(a0:List bi):Option Bool:=
 dM (iter (kC n a0) n (0:Int)) λ()=>some (decide ((a0.length:Int)<=9))
def YO(a2:List Hh):Stp Int (Unit⊕Bool)
 |v1=>(bif decide (v1<(a2.length:Int))then(bh a2 v1).bind λx1=>(nW n x1.fy).bind λr1=>(bif (!r1)then(some false).map λa=> .inr (.inr a)else some (.inl (i64.wrap (v1+1))))else some (.inr (.inl ())))
def WK(a0:gQ)(a1:LB)(a2:List Hh):Option Bool:=
 dM (iter (YO n a2) n (0:Int)) λ()=>(bif decide ((a0.rules.length:Int)<=20)then(bif decide ((a2.length:Int)<=14)then(nW n a1.fy).bind λr2=>some r2 else some false)else some false)
def WL(a0:gU)(a1:bi)(a2:List ByteArray):Option Bool:=
 (WJ n a0).bind λr1=>(bif r1 then ck (bb (sub ([a1]:List bi) 0 1).length 1)<|(WK n (gQ.mk ([]) ([]) ([]) ([]) ([]) ([]) ([]) 0) (LB.mk 0 0 0 0 0 (sub ([a1]:List bi) 0 1) 0 0) ([])).bind λr2=>(bif r2 then some (decide ((a2.length:Int)<=20))else some false)else some false)
def sK(a0:List aU):Stp Int (Unit⊕Bool)
 |v1=>(bif decide (v1<(a0.length:Int))then(bh a0 v1).bind λx1=>(bif decide ((x1.pairs.length:Int)>20)then(some false).map λa=> .inr (.inr a)else some (.inl (i64.wrap (v1+1))))else some (.inr (.inl ())))
def sM(a1:List aH):Stp Int (Unit⊕Bool)
 |v2=>(bif decide (v2<(a1.length:Int))then(bh a1 v2).bind λx2=>(bif decide ((x2.values.length:Int)>8)then(some false).map λa=> .inr (.inr a)else some (.inl (i64.wrap (v2+1))))else some (.inr (.inl ())))
def Ak(a0:List aU)(a1:List aH):Option Bool:=
 dM (iter (sK a0) n (0:Int)) λ()=>dM (iter (sM a1) n (0:Int)) λ()=>(bif decide ((a0.length:Int)<=5)then some (decide ((a1.length:Int)<=14))else some false)
def Al(a0:aU):Stp Int (Unit⊕Bool)
 |v2=>(bif decide (v2<(a0.pairs.length:Int))then(bh a0.pairs v2).bind λx1=>(bh a0.pairs v2).bind λx2=>((bif decide (x1.a0<0)then some true else(bif decide (x1.a0>=(a0.values:Int))then some true else(bif decide (x2.a1<0)then some true else some (decide (x2.a1>=(a0.values:Int))))))).bind λv3=>(bif v3 then(some false).map λa=> .inr (.inr a)else some (.inl (i64.wrap (v2+1))))else some (.inr (.inl ())))
def Gx(a0:aU):Option Bool:=
 ((bif decide (a0.values<1)then some true else(bif decide (a0.values>12)then some true else some (decide ((a0.pairs.length:Int)>144))))).bind λv1=>(bif v1 then some false else dM (iter (Al a0) n (0:Int)) λ()=>some true)
def IX(a0:aU)(a1:Int)(a2:Int):Stp Int (Unit⊕Bool)
 |v1=>(bif decide (v1<(a0.pairs.length:Int))then((bh a0.pairs v1).bind λx1=>(bif (x1.a0==(a1:Int))then(bh a0.pairs v1).bind λx2=>some (x2.a1==(a2:Int))else some false)).bind λv2=>(bif v2 then(some true).map λa=> .inr (.inr a)else some (.inl (i64.wrap (v1+1))))else some (.inr (.inl ())))
def QW(a0:aU)(a1:Int)(a2:Int):Option Bool:=
 dM (iter (IX a0 a1 a2) n (0:Int)) λ()=>some false
def pu(a0:aU)(a2:Int)(v1:Int)(v3:List Int)(v4:Int):Stp (Int×(List Bool)×(List Int)) (((List Bool)×(List Int))⊕((Int×(List Bool)×(List Int))⊕(((List Bool)×(List Int))⊕((Int×(List Bool)×(List Int))⊕(Unit⊕Int)))))
 |(v7,v8,v9)=>(bif decide (v7<(a0.values:Int))then dM (ck (br v4 v3.length)<|(bh v3 ((0:Nat)+v4:Int)).bind λx1=>(QW n a0 x1 v7).bind λr1=>(bif (!r1)then ck (bb v9.length v9.length)<|some (.inl (v8,v9))else(bif (v7==(a2:Int))then((((some v1).map λa=> .inr (.inr a)).map λa=> .inr (.inr a)).map λa=> .inr (.inr a)).map .inr else ck (br v7 ((a0.values:Int).toNat))<|(bh v8 ((0:Nat)+v7:Int)).bind λx2=>(bif (!x2)then ck (br v7 ((a0.values:Int).toNat))<|(bh v8 ((0:Nat)+v7:Int)).bind λx3=>ck (bD v9.length v9.length (sub ([v7]:List Int) 0 1).length 1 8)<|fK (v9++(sub ([v7]:List Int) 0 1)) λr2=>ck (bb r2.length r2.length)<|some (.inl ((v8.set ((0:Nat)+v7:Int).toNat true),r2))else ck (bb v9.length v9.length)<|some (.inl (v8,v9))))):Option (((List Bool)×(List Int))⊕_)) λ(v10,v11)=>ck (bb v11.length v11.length)<|some (.inl ((i64.wrap (v7+1)),v10,v11))else ck (bb v9.length v9.length)<|some (.inr (.inl (v8,v9))))
def wS(a0:aU)(a2:Int)(a3:Int)(v1:Int)(v3:List Int):Stp (Int×(List Bool)×(List Int)) (((List Bool)×(List Int))⊕((Int×(List Bool)×(List Int))⊕(Unit⊕Int)))
 |(v4,v5,v6)=>(bif decide (v4<(v3.length:Int))then ck (bb v6.length v6.length)<|dM (iter (pu n a0 a2 v1 v3 v4) n (a3,v5,v6)) λ(w1,w2)=>ck (bb w2.length w2.length)<|some (.inl ((i64.wrap (v4+1)),w1,w2))else ck (bb v6.length v6.length)<|some (.inr (.inl (v5,v6))))
def wT(a0:aU)(a2:Int)(a3:Int):Stp (Int×(List Bool)×(List Int)) (Unit⊕Int)
 |(v1,v2,v3)=>(bif decide (v1<=(a0.values:Int))then ck (bb 0 ([]:List Int).length)<|dM (iter (wS n a0 a2 a3 v1 v3) n ((0:Int),v2,([]:List Int))) λ(w3,w4)=>ck (bb w4.length w4.length)<|some (.inl ((i64.wrap (v1+1)),w3,w4))else some (.inr (.inl ())))
def IY(a0:aU)(a1:Int)(a2:Int)(a3:Int):Option Int:=
 ck (decide (a0.values<=a0.values)&&(decide (0<=a0.values)&&J9 a0.values 1))<|ck (bb 1 ([a1]:List Int).length)<|dM (iter (wT n a0 a2 a3) n ((1:Int),(List.replicate (a0.values:Int).toNat false),([a1]:List Int))) λ()=>some (0:Int)
def rJ(a0:aU):Stp (Int×Int×Int) (Int×Int)
 |(v1,v2,v3)=>(bif decide (v3<(a0.values:Int))then((IY n a0 v3 v3 v3).bind λr1=>((bif decide (r1>0)then(bif (v1==0)then some true else some (decide (r1<(v1:Int))))else some false)).bind λv4=>(bif v4 then some (r1,v3)else some (v1,v2)):Option (Int×Int)).bind λ(v5,v6)=>some (.inl (v5,v6,(i64.wrap (v3+1))))else some (.inr (v1,v2)))
def oq(a0:aU)(w1:Int)(w2:Int)(x1:Int):Stp (Int×(List Int)) (List Int)
 |(v8,v9)=>(bif decide (v8<(a0.values:Int))then((QW n a0 x1 v8).bind λr2=>(bif r2 then(IY n a0 v8 w2 w2).bind λr3=>some (r3==((i64.wrap (w1 -(v9.length:Int))):Int))else some false)).bind λv10=>(bif v10 then ck (bD v9.length v9.length (sub ([v8]:List Int) 0 1).length 1 8)<|fK (v9++(sub ([v8]:List Int) 0 1)) λr4=>ck (bb r4.length r4.length)<|some (.inr r4)else ck (bb v9.length v9.length)<|some (.inl ((i64.wrap (v8+1)),v9)))else ck (bb v9.length v9.length)<|some (.inr v9))
def rM(a0:aU)(w1:Int)(w2:Int):Stp (List Int) (List Int)
 |v7=>(bif decide ((v7.length:Int)<(w1:Int))then ck (br (i64.wrap ((v7.length:Int) -1)) v7.length)<|(bh v7 ((0:Nat)+(i64.wrap ((v7.length:Int) -1)):Int)).bind λx1=>ck (bb v7.length v7.length)<|(iter (oq n a0 w1 w2 x1) n ((i64.wrap (w2+1)),v7)).bind λw3=>ck (bb w3.length w3.length)<|some (.inl w3)else ck (bb v7.length v7.length)<|some (.inr v7))
def BO(a0:aU):Option (List Int):=
 (iter (rJ n a0) n ((0:Int),(0:Int),(0:Int))).bind λ(w1,w2)=>(bif (w1==0)then some ([]:(List Int))else ck (bb 1 ([w2]:List Int).length)<|(iter (rM n a0 w1 w2) n ([w2]:List Int)).bind λw4=>ck (bb (sub w4 0 w4.length).length w4.length)<|some (sub w4 0 w4.length))
def Am(a0:List aU):Stp Int (Unit⊕Bool)
 |v1=>(bif decide (v1<(a0.length:Int))then((bh a0 v1).bind λx1=>(Gx n x1).bind λr1=>(bif (!r1)then some true else(bh a0 v1).bind λx2=>(BO n x2).bind λr2=>some (decide ((r2.length:Int)>0)))).bind λv2=>(bif v2 then(some false).map λa=> .inr (.inr a)else some (.inl (i64.wrap (v1+1))))else some (.inr (.inl ())))
def Gy(a0:List aU):Option Bool:=
 dM (iter (Am n a0) n (0:Int)) λ()=>some (decide ((a0.length:Int)<=12))
def IZ(a0:List ByteArray)(a1:ByteArray):Stp Int (Unit⊕Bool)
 |v1=>(bif decide (v1<(a0.length:Int))then(bh a0 v1).bind λx1=>(bif (ByteArray.toList x1==ByteArray.toList a1)then(some true).map λa=> .inr (.inr a)else some (.inl (i64.wrap (v1+1))))else some (.inr (.inl ())))
def WM(a0:List ByteArray)(a1:ByteArray):Option Bool:=
 dM (iter (IZ a0 a1) n (0:Int)) λ()=>some false
def QX(a0:fU):Option fU:=
 ck (bD ([]:List ay).length 0 a0.area.length a0.area.length 32)<|fK (([]:List ay)++a0.area) λr1=>ck (bD ([]:List Int).length 0 a0.from_.length a0.from_.length 8)<|fK (([]:List Int)++a0.from_) λr2=>ck (bb (sub r1 0 r1.length).length r1.length)<|ck (bb (sub r2 0 r2.length).length r2.length)<|some (fU.mk a0.id a0.owner (sub r1 0 r1.length) (sub r2 0 r2.length))
def Ei(a0:List fU)(a1:Int):Stp Int (Unit⊕(fU×Bool))
 |v1=>(bif decide (v1<(a0.length:Int))then(bh a0 v1).bind λx1=>(bif (x1.id==(a1:Int))then(bh a0 v1).bind λx2=>(QX x2).bind λr1=>(some (r1,true)).map λa=> .inr (.inr a)else some (.inl (i64.wrap (v1+1))))else some (.inr (.inl ())))
def LM(a0:List fU)(a1:Int):Option (fU×Bool):=
 dM (iter (Ei a0 a1) n (0:Int)) λ()=>some ((fU.mk 0 0 ([]) ([])),false)
def u7(a0:bi)(a1:Int)(a2:Int):Stp (Int×(List aQ)) (List aQ)
 |(v1,v2)=>(bif decide (v1<(a0.phases.length:Int))then(((bif decide (a1<=(v1:Int))then some (decide (v1<(a2:Int)))else some false)).bind λv3=>(bif v3 then(bh a0.phases v1).bind λx1=>ck (bD v2.length v2.length x1.cp.length x1.cp.length 72)<|fK (v2++x1.cp) λr1=>ck (bb r1.length r1.length)<|some r1 else ck (bb v2.length v2.length)<|some v2):Option ((List aQ))).bind λv4=>ck (bb v4.length v4.length)<|some (.inl ((i64.wrap (v1+1)),v4))else ck (bb v2.length v2.length)<|some (.inr v2))
def Ej(a0:bi)(a1:Int)(a2:Int):Option (List aQ):=
 ck (bb 0 ([]:List aQ).length)<|(iter (u7 a0 a1 a2) n ((0:Int),([]:List aQ))).bind λw1=>ck (bb (sub w1 0 w1.length).length w1.length)<|some (sub w1 0 w1.length)
def rO(a0:ay):Option Bool:=
 (bif decide (a0.x0>=0)then(bif decide (a0.x0<(a0.x1:Int))then(bif decide (a0.x1<=1048576)then(bif decide (a0.y0>=0)then(bif decide (a0.y0<(a0.y1:Int))then some (decide (a0.y1<=1048576))else some false)else some false)else some false)else some false)else some false)
def I4(a0:Hd):Option Bool:=
 (rO (ay.mk a0.nf a0.nc a0.nd a0.nb)).bind λr1=>(bif r1 then(bif decide (a0.z0>=0)then(bif decide (a0.z0<(a0.z1:Int))then some (decide (a0.z1<=4096))else some false)else some false)else some false)
def I5(a0:Int)(a1:Int)(a2:Int):Option Bool:=
 (bif decide (a0>=(a1:Int))then some (decide (a0<=(a2:Int)))else some false)
def kT(a0:aQ):Option Bool:=
 (I4 (Hd.mk a0.bz a0.cg a0.bx a0.cf a0.dy a0.dg)).bind λr1=>(bif r1 then(I5 a0.use 0 5).bind λr2=>(bif r2 then(I5 a0.units 0 1048576).bind λr3=>(bif r3 then(bif (a0.units==0)then some true else some (a0.use==0))else some false)else some false)else some false)
def ve(r1:List aQ):Stp (Int×(List aQ)) (List aQ)
 |(v1,v2)=>((bif decide (v1<(r1.length:Int))then some (decide (v1<40))else some false)).bind λv3=>(bif v3 then(ck (br v1 r1.length)<|(bh r1 ((0:Nat)+v1:Int)).bind λx1=>(kT x1).bind λr2=>(bif r2 then ck (br v1 r1.length)<|(bh r1 ((0:Nat)+v1:Int)).bind λx2=>ck (bD v2.length v2.length (sub ([x2]:List aQ) 0 1).length 1 72)<|fK (v2++(sub ([x2]:List aQ) 0 1)) λr3=>ck (bb r3.length r3.length)<|some r3 else ck (bb v2.length v2.length)<|some v2):Option ((List aQ))).bind λv4=>ck (bb v4.length v4.length)<|some (.inl ((i64.wrap (v1+1)),v4))else ck (bb v2.length v2.length)<|some (.inr v2))
def El(a0:bi):Option (List aQ):=
 (Ej n a0 0 (a0.phases.length:Int)).bind λr1=>ck (bb 0 ([]:List aQ).length)<|(iter (ve r1) n ((0:Int),([]:List aQ))).bind λw1=>ck (bb (sub w1 0 w1.length).length w1.length)<|some (sub w1 0 w1.length)
def M4(a0:ay):Option Int:=
 some (i64.wrap ((i64.wrap (a0.x1 -a0.x0))*(i64.wrap (a0.y1 -a0.y0))))
def yM(a0:aQ):Option Int:=
 ((bif a0.extra then some true else(kT a0).bind λr1=>some (!r1))).bind λv1=>(bif v1 then some (0:Int)else ck (3 !=0)<|some (i64.wrap (Int.tdiv (i64.wrap ((i64.wrap (a0.dg -a0.dy))+2)) 3)))
def Gz(a0:aQ):Option Int:=
 (kT a0).bind λr1=>(bif (!r1)then some (0:Int)else(M4 (ay.mk a0.bz a0.cg a0.bx a0.cf)).bind λr2=>(yM a0).bind λr3=>some (i64.wrap (r2*r3)))
def WN(a0:Int):Option ByteArray:=
 ck (br a0 6)<|(bh ([⟨#[104,111,109,101]⟩,⟨#[115,104,111,112]⟩,⟨#[119,111,114,107]⟩,⟨#[112,97,114,107]⟩,⟨#[112,108,97,110,116]⟩,⟨#[104,97,108,108]⟩]:List ByteArray) ((0:Nat)+a0:Int)).bind λx1=>some x1
def BP(n:Nat)(a1:Int)(x2:fH):Stp Int (Unit⊕(Int⊕(Unit⊕Int)))
 |v2=>(bif decide (v2<(x2.rows.length:Int))then(bh x2.rows v2).bind λx3=>(WN a1).bind λr1=>(bif (ByteArray.toList x3.name==ByteArray.toList r1)then(bh x2.rows v2).bind λx4=>((some (max (0:Int) (min x4.n (1048576:Int)))).map λa=> .inr (.inr a)).map λa=> .inr (.inr a)else some (.inl (i64.wrap (v2+1))))else some (.inr (.inl ())))
def BQ(a0:gQ)(a1:Int):Stp Int (Unit⊕Int)
 |v1=>(bif decide (v1<(a0.tables.length:Int))then(bh a0.tables v1).bind λx1=>(bif (!(ByteArray.toList x1.name==ByteArray.toList (⟨#[116,114,97,102,102,105,99]⟩)))then some (.inl (i64.wrap (v1+1)))else(bh a0.tables v1).bind λx2=>dM (iter (BP n a1 x2) n (0:Int)) λ()=>(some (max (0:Int) (min x2.pC (1048576:Int)))).map λa=> .inr (.inr a))else some (.inr (.inl ())))
def WO(a0:gQ)(a1:Int):Option Int:=
 dM (iter (BQ n a0 a1) n (0:Int)) λ()=>some (0:Int)
def Em(a0:gQ)(a1:aQ):Option Int:=
 (WO n a0 a1.use).bind λr1=>(Gz a1).bind λr2=>((bif (r1==0)then some true else some (r2==0))).bind λv1=>(bif v1 then some (0:Int)else ck (r1 !=0)<|(bif decide (r2>((i64.wrap (Int.tdiv 109951162777600 r1)):Int))then some (1099511627776:Int)else ck (100 !=0)<|some (i64.wrap (Int.tdiv (i64.wrap ((i64.wrap (r1*r2))+99)) 100))))
def ou(a0:List Int)(v1:Int)(v2:List Int):Stp Int Int
 |v3=>((bif decide (v3>0)then ck (br (i64.wrap (v3 -1)) v2.length)<|(bh v2 ((0:Nat)+(i64.wrap (v3 -1)):Int)).bind λx1=>(bh a0 v1).bind λx2=>some (decide (x1>(x2:Int)))else some false)).bind λv4=>(bif v4 then some (.inl (i64.wrap (v3 -1)))else some (.inr v3))
def ow(w1:Int)(r1:List Int):Stp (Int×(List Int)) (List Int)
 |(v6,v7)=>(bif decide (v6>(w1:Int))then ck (br (i64.wrap (v6 -1)) r1.length)<|(bh v7 ((0:Nat)+(i64.wrap (v6 -1)):Int)).bind λx5=>ck (br v6 r1.length)<|(bh v7 ((0:Nat)+v6:Int)).bind λx6=>some (.inl ((i64.wrap (v6 -1)),(v7.set ((0:Nat)+v6:Int).toNat x5)))else some (.inr v7))
def rP(a0:List Int):Stp (Int×(List Int)) (List Int)
 |(v1,v2)=>(bif decide (v1<(a0.length:Int))then((iter (ou a0 v1 v2) n (v2.length:Int)).bind λw1=>((bif decide (w1>0)then ck (br (i64.wrap (w1 -1)) v2.length)<|(bh v2 ((0:Nat)+(i64.wrap (w1 -1)):Int)).bind λx3=>(bh a0 v1).bind λx4=>some (x3==(x4:Int))else some false)).bind λv5=>(bif v5 then ck (bb v2.length v2.length)<|some v2 else ck (bD v2.length v2.length (sub ([0]:List Int) 0 1).length 1 8)<|fK (v2++(sub ([0]:List Int) 0 1)) λr1=>(iter (ow w1 r1) n ((i64.wrap ((r1.length:Int) -1)),r1)).bind λw2=>(bh a0 v1).bind λx7=>ck (br w1 r1.length)<|(bh w2 ((0:Nat)+w1:Int)).bind λx8=>ck (bb r1.length (w2.set ((0:Nat)+w1:Int).toNat x7).length)<|some (w2.set ((0:Nat)+w1:Int).toNat x7)):Option ((List Int))).bind λv8=>ck (bb v8.length v8.length)<|some (.inl ((i64.wrap (v1+1)),v8))else ck (bb v2.length v2.length)<|some (.inr v2))
def I6(a0:List Int):Option (List Int):=
 ck (bb 0 ([]:List Int).length)<|(iter (rP n a0) n ((0:Int),([]:List Int))).bind λw3=>ck (bb (sub w3 0 w3.length).length w3.length)<|some (sub w3 0 w3.length)
def vg(a0:List ay):Stp (Int×(List Int)) (List Int)
 |(v1,v2)=>(bif decide (v1<(a0.length:Int))then(bh a0 v1).bind λx1=>(bh a0 v1).bind λx2=>ck (bD v2.length v2.length (sub ([x1.x0,x2.x1]:List Int) 0 2).length 2 8)<|fK (v2++(sub ([x1.x0,x2.x1]:List Int) 0 2)) λr1=>ck (bb r1.length r1.length)<|some (.inl ((i64.wrap (v1+1)),r1))else ck (bb v2.length v2.length)<|some (.inr v2))
def vk(a1:List ay):Stp (Int×(List Int)) (List Int)
 |(v3,v4)=>(bif decide (v3<(a1.length:Int))then(bh a1 v3).bind λx3=>(bh a1 v3).bind λx4=>ck (bD v4.length v4.length (sub ([x3.x0,x4.x1]:List Int) 0 2).length 2 8)<|fK (v4++(sub ([x3.x0,x4.x1]:List Int) 0 2)) λr2=>ck (bb r2.length r2.length)<|some (.inl ((i64.wrap (v3+1)),r2))else ck (bb v4.length v4.length)<|some (.inr v4))
def M5(a0:List ay)(a1:List ay):Option (List Int):=
 ck (bb 0 ([]:List Int).length)<|(iter (vg a0) n ((0:Int),([]:List Int))).bind λw1=>ck (bb w1.length w1.length)<|(iter (vk a1) n ((0:Int),w1)).bind λw2=>ck (bb (sub w2 0 w2.length).length w2.length)<|(I6 n (sub w2 0 w2.length)).bind λr3=>ck (bb (sub r3 0 r3.length).length r3.length)<|some (sub r3 0 r3.length)
def l6(a0:List ay)(v1:Int)(r1:List Int)(r2:List Int):Stp (Int×(List Int)×(List Int)) (Int×(List Int)×(List Int))
 |(v5,v6,v7)=>((bif decide (v5>0)then ck (br (i64.wrap (v5 -1)) r1.length)<|(bh v6 ((0:Nat)+(i64.wrap (v5 -1)):Int)).bind λx3=>(bh a0 v1).bind λx4=>some (decide (x3>(x4.y0:Int)))else some false)).bind λv8=>(bif v8 then ck (br (i64.wrap (v5 -1)) r1.length)<|(bh v6 ((0:Nat)+(i64.wrap (v5 -1)):Int)).bind λx5=>ck (br v5 r1.length)<|(bh v6 ((0:Nat)+v5:Int)).bind λx6=>ck (br (i64.wrap (v5 -1)) r2.length)<|(bh v7 ((0:Nat)+(i64.wrap (v5 -1)):Int)).bind λx7=>ck (br v5 r2.length)<|(bh v7 ((0:Nat)+v5:Int)).bind λx8=>some (.inl ((i64.wrap (v5 -1)),(v6.set ((0:Nat)+v5:Int).toNat x5),(v7.set ((0:Nat)+v5:Int).toNat x7)))else some (.inr (v5,v6,v7)))
def rQ(a0:List ay)(a1:Int):Stp (Int×(List Int)×(List Int)) ((List Int)×(List Int))
 |(v1,v2,v3)=>(bif decide (v1<(a0.length:Int))then(((bh a0 v1).bind λx1=>(bif decide (x1.x0>(a1:Int))then some true else(bh a0 v1).bind λx2=>some (decide (x2.x1<=(a1:Int))))).bind λv4=>(bif v4 then ck (bb v2.length v2.length)<|ck (bb v3.length v3.length)<|some (v2,v3)else ck (bD v2.length v2.length (sub ([0]:List Int) 0 1).length 1 8)<|fK (v2++(sub ([0]:List Int) 0 1)) λr1=>ck (bD v3.length v3.length (sub ([0]:List Int) 0 1).length 1 8)<|fK (v3++(sub ([0]:List Int) 0 1)) λr2=>(iter (l6 a0 v1 r1 r2) n ((v2.length:Int),r1,r2)).bind λ(w1,w2,w3)=>(bh a0 v1).bind λx9=>ck (br w1 r1.length)<|(bh w2 ((0:Nat)+w1:Int)).bind λx10=>(bh a0 v1).bind λB0=>ck (br w1 r2.length)<|(bh w3 ((0:Nat)+w1:Int)).bind λH5=>ck (bb r1.length (w2.set ((0:Nat)+w1:Int).toNat x9.y0).length)<|ck (bb r2.length (w3.set ((0:Nat)+w1:Int).toNat B0.y1).length)<|some ((w2.set ((0:Nat)+w1:Int).toNat x9.y0),(w3.set ((0:Nat)+w1:Int).toNat B0.y1))):Option ((List Int)×(List Int))).bind λ(v9,v10)=>ck (bb v9.length v9.length)<|ck (bb v10.length v10.length)<|some (.inl ((i64.wrap (v1+1)),v9,v10))else ck (bb v2.length v2.length)<|ck (bb v3.length v3.length)<|some (.inr (v2,v3)))
def rR(w4:List Int)(w5:List Int):Stp (Int×(List Int)) (List Int)
 |(v11,v12)=>(bif decide (v11<(w4.length:Int))then(((bif decide ((v12.length:Int)>0)then ck (br v11 w4.length)<|(bh w4 ((0:Nat)+v11:Int)).bind λzr=>ck (br (i64.wrap ((v12.length:Int) -1)) v12.length)<|(bh v12 ((0:Nat)+(i64.wrap ((v12.length:Int) -1)):Int)).bind λBY=>some (decide (zr<=(BY:Int)))else some false)).bind λv13=>(bif v13 then ck (br (i64.wrap ((v12.length:Int) -1)) v12.length)<|(bh v12 ((0:Nat)+(i64.wrap ((v12.length:Int) -1)):Int)).bind λzp=>ck (br v11 w5.length)<|(bh w5 ((0:Nat)+v11:Int)).bind λBW=>ck (br (i64.wrap ((v12.length:Int) -1)) v12.length)<|(bh v12 ((0:Nat)+(i64.wrap ((v12.length:Int) -1)):Int)).bind λH4=>ck (bb v12.length (v12.set ((0:Nat)+(i64.wrap ((v12.length:Int) -1)):Int).toNat (max zp BW)).length)<|some (v12.set ((0:Nat)+(i64.wrap ((v12.length:Int) -1)):Int).toNat (max zp BW))else ck (br v11 w4.length)<|(bh w4 ((0:Nat)+v11:Int)).bind λx18=>ck (br v11 w5.length)<|(bh w5 ((0:Nat)+v11:Int)).bind λGE=>ck (bD v12.length v12.length (sub ([x18,GE]:List Int) 0 2).length 2 8)<|fK (v12++(sub ([x18,GE]:List Int) 0 2)) λr3=>ck (bb r3.length r3.length)<|some r3):Option ((List Int))).bind λv14=>ck (bb v14.length v14.length)<|some (.inl ((i64.wrap (v11+1)),v14))else ck (bb v12.length v12.length)<|some (.inr v12))
def sZ(a0:List ay)(a1:Int):Option (List Int):=
 ck (bb 0 ([]:List Int).length)<|ck (bb 0 ([]:List Int).length)<|(iter (rQ n a0 a1) n ((0:Int),([]:List Int),([]:List Int))).bind λ(w4,w5)=>ck (bb 0 ([]:List Int).length)<|(iter (rR w4 w5) n ((0:Int),([]:List Int))).bind λw6=>ck (bb (sub w6 0 w6.length).length w6.length)<|some (sub w6 0 w6.length)
def kD(a0:List Int)(a1:List Int)(a2:Int):Stp (Int×Int×Bool×(List Int)) (List Int)
 |(v1,v2,v3,v4)=>((bif decide (v1<(a0.length:Int))then some true else some (decide (v2<(a1.length:Int))))).bind λv5=>(bif v5 then(((bif decide (v1<(a0.length:Int))then(bif decide (v2>=(a1.length:Int))then some true else(bh a0 v1).bind λx1=>(bh a1 (min v2 (i64.wrap ((a1.length:Int) -1)))).bind λx2=>some (decide (x1<=(x2:Int))))else some false)).bind λv6=>(bif v6 then(bh a0 v1).bind λx3=>some x3 else(bh a1 v2).bind λx4=>some x4):Option Int).bind λv7=>(((bif decide (v1<(a0.length:Int))then(bh a0 v1).bind λx5=>some (x5==(v7:Int))else some false)).bind λv8=>(bif v8 then some (i64.wrap (v1+1))else some v1):Option Int).bind λv9=>(((bif decide (v2<(a1.length:Int))then(bh a1 v2).bind λx6=>some (x6==(v7:Int))else some false)).bind λv10=>(bif v10 then some (i64.wrap (v2+1))else some v2):Option Int).bind λv11=>ck (2 !=0)<|ck (2 !=0)<|((bif ((Int.tmod v9 2)==1)then some true else some ((Int.tmod v11 2)==1))).bind λv12=>((bif (a2==1)then(bif ((Int.tmod v9 2)==1)then some ((Int.tmod v11 2)==1)else some false)else some v12)).bind λv13=>((bif (a2==2)then(bif ((Int.tmod v9 2)==1)then some (!((Int.tmod v11 2)==1))else some false)else some v13)).bind λv14=>((bif (!(v14==v3))then ck (bD v4.length v4.length (sub ([v7]:List Int) 0 1).length 1 8)<|fK (v4++(sub ([v7]:List Int) 0 1)) λr1=>ck (bb r1.length r1.length)<|some r1 else ck (bb v4.length v4.length)<|some v4):Option ((List Int))).bind λv15=>ck (bb v15.length v15.length)<|some (.inl (v9,v11,v14,v15))else ck (bb v4.length v4.length)<|some (.inr v4))
def En(a0:List Int)(a1:List Int)(a2:Int):Option (List Int):=
 ck (bb 0 ([]:List Int).length)<|(iter (kD a0 a1 a2) n ((0:Int),(0:Int),false,([]:List Int))).bind λw1=>ck (bb (sub w1 0 w1.length).length w1.length)<|some (sub w1 0 w1.length)
def tY(a0:List Int)(a1:List Int):Stp Int (Unit⊕Bool)
 |v1=>(bif decide (v1<(a0.length:Int))then(bh a0 v1).bind λx1=>(bh a1 v1).bind λx2=>(bif (x1 !=(x2:Int))then(some false).map λa=> .inr (.inr a)else some (.inl (i64.wrap (v1+1))))else some (.inr (.inl ())))
def LP(a0:List Int)(a1:List Int):Option Bool:=
 (bif ((a0.length:Int) !=(a1.length:Int))then some false else dM (iter (tY a0 a1) n (0:Int)) λ()=>some true)
def yN(r1:List Int)(v2:Int)(v3:List ay):Stp (Int×(List ay)) (List ay)
 |(v6,v7)=>(bif decide (v6<(v3.length:Int))then ck (br (i64.wrap (v2+1)) r1.length)<|(bh r1 ((0:Nat)+(i64.wrap (v2+1)):Int)).bind λx3=>ck (br v6 v3.length)<|(bh v7 ((0:Nat)+v6:Int)).bind λx4=>some (.inl ((i64.wrap (v6+1)),(v7.set ((0:Nat)+v6:Int).toNat (ay.mk x4.x0 x4.y0 x3 x4.y1))))else some (.inr v7))
def yO(r1:List Int)(v2:Int)(r4:List Int):Stp (Int×(List ay)) (List ay)
 |(v8,v9)=>(bif decide ((i64.wrap (v8+1))<(r4.length:Int))then ck (br v2 r1.length)<|(bh r1 ((0:Nat)+v2:Int)).bind λx5=>ck (br v8 r4.length)<|(bh r4 ((0:Nat)+v8:Int)).bind λx6=>ck (br (i64.wrap (v2+1)) r1.length)<|(bh r1 ((0:Nat)+(i64.wrap (v2+1)):Int)).bind λx7=>ck (br (i64.wrap (v8+1)) r4.length)<|(bh r4 ((0:Nat)+(i64.wrap (v8+1)):Int)).bind λx8=>ck (bD v9.length v9.length (sub ([(ay.mk x5 x6 x7 x8)]:List ay) 0 1).length 1 32)<|fK (v9++(sub ([(ay.mk x5 x6 x7 x8)]:List ay) 0 1)) λr6=>ck (bb r6.length r6.length)<|some (.inl ((i64.wrap (v8+2)),r6))else ck (bb v9.length v9.length)<|some (.inr v9))
def mQ(a0:List ay)(a1:List ay)(a2:Int)(r1:List Int):Stp (Int×Int×(List ay)×(List Int)) (List ay)
 |(v1,v2,v3,v4)=>(bif decide ((i64.wrap (v2+1))<(r1.length:Int))then(ck (br v2 r1.length)<|(bh r1 ((0:Nat)+v2:Int)).bind λx1=>(sZ n a0 x1).bind λr2=>ck (br v2 r1.length)<|(bh r1 ((0:Nat)+v2:Int)).bind λx2=>(sZ n a1 x2).bind λr3=>ck (bb (sub r2 0 r2.length).length r2.length)<|ck (bb (sub r3 0 r3.length).length r3.length)<|(En n (sub r2 0 r2.length) (sub r3 0 r3.length) a2).bind λr4=>((bif decide (v2>0)then(bif decide ((r4.length:Int)>0)then ck (bb (sub r4 0 r4.length).length r4.length)<|ck (bb (sub v4 0 v4.length).length v4.length)<|(LP n (sub r4 0 r4.length) (sub v4 0 v4.length)).bind λr5=>some r5 else some false)else some false)).bind λv5=>(bif v5 then(iter (yN r1 v2 v3) n (v1,v3)).bind λw1=>ck (bb v3.length w1.length)<|ck (bb v4.length v4.length)<|some (v1,w1,v4)else ck (bb v3.length v3.length)<|(iter (yO r1 v2 r4) n ((0:Int),v3)).bind λw2=>ck (bb w2.length w2.length)<|ck (bb r4.length r4.length)<|some ((v3.length:Int),w2,r4)):Option (Int×(List ay)×(List Int))).bind λ(v10,v11,v12)=>ck (bb v11.length v11.length)<|ck (bb v12.length v12.length)<|some (.inl (v10,(i64.wrap (v2+1)),v11,v12))else ck (bb v3.length v3.length)<|some (.inr v3))
def yP(a0:List ay)(a1:List ay)(a2:Int):Option (List ay):=
 (M5 n a0 a1).bind λr1=>ck (bb 0 ([]:List ay).length)<|ck (bb 0 ([]:List Int).length)<|(iter (mQ n a0 a1 a2 r1) n ((0:Int),(0:Int),([]:List ay),([]:List Int))).bind λw3=>ck (bb (sub w3 0 w3.length).length w3.length)<|some (sub w3 0 w3.length)
def M6(a0:List ay):Stp Int (Unit⊕((List ay)×Int))
 |v1=>(bif decide (v1<(a0.length:Int))then(bh a0 v1).bind λx1=>(rO x1).bind λr1=>(bif (!r1)then(some (([]:(List ay)),(1:Int))).map λa=> .inr (.inr a)else some (.inl (i64.wrap (v1+1))))else some (.inr (.inl ())))
def HQ(a0:List ay):Option ((List ay)×Int):=
 dM (iter (M6 a0) n (0:Int)) λ()=>(bif decide ((a0.length:Int)>400)then some (([]:(List ay)),(6:Int))else(yP n a0 ([]) 0).bind λr2=>(bif decide ((r2.length:Int)>200)then some (([]:(List ay)),(6:Int))else ck (bb (sub r2 0 r2.length).length r2.length)<|some ((sub r2 0 r2.length),(0:Int))))
def Eo(a0:List ay)(a1:List ay):Stp Int (Unit⊕Bool)
 |v1=>(bif decide (v1<(a0.length:Int))then(bh a0 v1).bind λx1=>(bh a1 v1).bind λx2=>(bif (!((x1.x0==(x2.x0:Int))&&((x1.y0==(x2.y0:Int))&&((x1.x1==(x2.x1:Int))&&((x1.y1==(x2.y1:Int))&&true)))))then(some false).map λa=> .inr (.inr a)else some (.inl (i64.wrap (v1+1))))else some (.inr (.inl ())))
def QY(a0:List ay)(a1:List ay):Option Bool:=
 (bif ((a0.length:Int) !=(a1.length:Int))then some false else dM (iter (Eo a0 a1) n (0:Int)) λ()=>some true)
def wU(a0:List ay):Option Bool:=
 (HQ n a0).bind λr1=>(bif (r1.2==0)then ck (bb (sub r1.1 0 r1.1.length).length r1.1.length)<|(QY n (sub r1.1 0 r1.1.length) a0).bind λr2=>some r2 else some false)
def vo(a1:ay)(r2:List ay):Stp (Int×Int) Int
 |(v1,v2)=>(bif decide (v2<(r2.length:Int))then ck (br v2 r2.length)<|(bh r2 ((0:Nat)+v2:Int)).bind λx1=>ck (br v2 r2.length)<|(bh r2 ((0:Nat)+v2:Int)).bind λx2=>ck (br v2 r2.length)<|(bh r2 ((0:Nat)+v2:Int)).bind λx3=>ck (br v2 r2.length)<|(bh r2 ((0:Nat)+v2:Int)).bind λx4=>some (.inl ((min v1 (max (max (max (max (0:Int) (i64.wrap (x1.x0 -a1.x1))) (i64.wrap (a1.x0 -x2.x1))) (i64.wrap (x3.y0 -a1.y1))) (i64.wrap (a1.y0 -x4.y1)))),(i64.wrap (v2+1))))else some (.inr v1))
def Ep(a0:List ay)(a1:ay):Option Int:=
 (wU n a0).bind λr1=>(bif (!r1)then some (0:Int)else ck (bb (sub ([(ay.mk 0 0 1048576 1048576)]:List ay) 0 1).length 1)<|(yP n (sub ([(ay.mk 0 0 1048576 1048576)]:List ay) 0 1) a0 2).bind λr2=>(iter (vo a1 r2) n ((min (min (min a1.x0 a1.y0) (i64.wrap (1048576 -a1.x1))) (i64.wrap (1048576 -a1.y1))),(0:Int))).bind λw1=>some w1)
def Er(a0:List ay):Stp (Int×Int) Int
 |(v1,v2)=>(bif decide (v2<(a0.length:Int))then(bh a0 v2).bind λx1=>(bh a0 v2).bind λx2=>(bh a0 v2).bind λx3=>(bh a0 v2).bind λx4=>some (.inl ((i64.wrap (v1+(i64.wrap ((i64.wrap (x1.x1 -x2.x0))*(i64.wrap (x3.y1 -x4.y0)))))),(i64.wrap (v2+1))))else some (.inr v1))
def QZ(a0:List ay):Option Int:=
 (wU n a0).bind λr1=>(bif (!r1)then some (0:Int)else(iter (Er a0) n ((0:Int),(0:Int))).bind λw1=>some w1)
def GA(a0:gQ)(a1:fU)(r1:List aQ):Stp (Int×Int×Int×Int×Int×Int×Int×(List ay)) (Int×Int×Int×Int×Int×Int×(List ay))
 |(v1,v2,v3,v4,v5,v6,v7,v8)=>(bif decide (v7<(r1.length:Int))then ck (br v7 r1.length)<|(bh r1 ((0:Nat)+v7:Int)).bind λx1=>ck (bD v8.length v8.length (sub ([(ay.mk x1.bz x1.cg x1.bx x1.cf)]:List ay) 0 1).length 1 32)<|fK (v8++(sub ([(ay.mk x1.bz x1.cg x1.bx x1.cf)]:List ay) 0 1)) λr2=>ck (br v7 r1.length)<|(bh r1 ((0:Nat)+v7:Int)).bind λx2=>(Gz x2).bind λr3=>ck (br v7 r1.length)<|(bh r1 ((0:Nat)+v7:Int)).bind λx3=>(yM x3).bind λr4=>ck (br v7 r1.length)<|(bh r1 ((0:Nat)+v7:Int)).bind λx4=>ck (br v7 r1.length)<|(bh r1 ((0:Nat)+v7:Int)).bind λx5=>ck (br v7 r1.length)<|(bh r1 ((0:Nat)+v7:Int)).bind λx6=>(Em n a0 x6).bind λr5=>ck (br v7 r1.length)<|(bh r1 ((0:Nat)+v7:Int)).bind λx7=>(Ep n a1.area (ay.mk x7.bz x7.cg x7.bx x7.cf)).bind λr6=>ck (bb r2.length r2.length)<|some (.inl ((i64.wrap (v1+r3)),(max v2 r4),(max v3 x4.dg),(i64.wrap (v4+x5.units)),(i64.wrap (v5+r5)),(min v6 r6),(i64.wrap (v7+1)),r2))else ck (bb v8.length v8.length)<|some (.inr (v1,v2,v3,v4,v5,v6,v8)))
def M7(r7:List ay):Stp (Int×Int) Int
 |(v9,v10)=>(bif decide (v10<(r7.length:Int))then ck (br v10 r7.length)<|(bh r7 ((0:Nat)+v10:Int)).bind λx8=>(M4 x8).bind λr8=>some (.inl ((i64.wrap (v9+r8)),(i64.wrap (v10+1))))else some (.inr v9))
def HP(a0:gQ)(a1:fU)(a2:bi):Option (List bQ):=
 (El n a2).bind λr1=>ck (bb 0 ([]:List ay).length)<|(iter (GA n a0 a1 r1) n ((0:Int),(0:Int),(0:Int),(0:Int),(0:Int),(1048576:Int),(0:Int),([]:List ay))).bind λ(w1,w2,w3,w4,w5,w6,w7)=>ck (bb (sub w7 0 w7.length).length w7.length)<|(yP n (sub w7 0 w7.length) ([]) 0).bind λr7=>(iter (M7 r7) n ((0:Int),(0:Int))).bind λw8=>(QZ n a1.area).bind λr9=>ck (bb (sub ([(bQ.mk (⟨#[97,114,101,97]⟩) r9),(bQ.mk (⟨#[99,111,118,101,114]⟩) w8),(bQ.mk (⟨#[102,108,111,111,114]⟩) w1),(bQ.mk (⟨#[102,108,111,111,114,115]⟩) w2),(bQ.mk (⟨#[104,101,105,103,104,116]⟩) w3),(bQ.mk (⟨#[104,111,109,101,115]⟩) w4),(bQ.mk (⟨#[114,117,110,111,102,102]⟩) w8),(bQ.mk (⟨#[115,101,116,98,97,99,107]⟩) w6),(bQ.mk (⟨#[116,114,97,102,102,105,99]⟩) w5)]:List bQ) 0 9).length 9)<|some (sub ([(bQ.mk (⟨#[97,114,101,97]⟩) r9),(bQ.mk (⟨#[99,111,118,101,114]⟩) w8),(bQ.mk (⟨#[102,108,111,111,114]⟩) w1),(bQ.mk (⟨#[102,108,111,111,114,115]⟩) w2),(bQ.mk (⟨#[104,101,105,103,104,116]⟩) w3),(bQ.mk (⟨#[104,111,109,101,115]⟩) w4),(bQ.mk (⟨#[114,117,110,111,102,102]⟩) w8),(bQ.mk (⟨#[115,101,116,98,97,99,107]⟩) w6),(bQ.mk (⟨#[116,114,97,102,102,105,99]⟩) w5)]:List bQ) 0 9)
def Q0(a0:Int)(a1:Int):Option Bool:=
 (bif decide (a0>=0)then(bif decide (a0<(a1:Int))then some (decide (a1<=1048576))else some false)else some false)
def GD(a0:ay):Option Bool:=
 (Q0 a0.x0 a0.x1).bind λr1=>(bif r1 then(Q0 a0.y0 a0.y1).bind λr2=>some r2 else some false)
def GH(a0:Int)(a1:Int)(a2:Int)(a3:Int):Option Int:=
 (bif decide (a2>=(a1:Int))then some (i64.wrap ((i64.wrap (a2 -a1))+1))else(bif decide (a0>=(a3:Int))then some (i64.wrap ((i64.wrap (a0 -a3))+1))else some (0:Int)))
def WQ(a0:ay)(a1:ay):Option Int:=
 ((GD a0).bind λr1=>(bif (!r1)then some true else(GD a1).bind λr2=>some (!r2))).bind λv1=>(bif v1 then some ((-1):Int)else(GH a0.x0 a0.x1 a1.x0 a1.x1).bind λr3=>(GH a0.y0 a0.y1 a1.y0 a1.y1).bind λr4=>some (max (0:Int) (i64.wrap ((max r3 r4) -1))))
def BR(a0:List ay)(a1:List ay)(v3:Int):Stp (Int×Int) Int
 |(v4,v5)=>(bif decide (v5<(a1.length:Int))then(bh a0 v3).bind λx1=>(bh a1 v5).bind λx2=>(WQ x1 x2).bind λr3=>some (.inl ((min v4 r3),(i64.wrap (v5+1))))else some (.inr v4))
def BS(a0:List ay)(a1:List ay):Stp (Int×Int) Int
 |(v2,v3)=>(bif decide (v3<(a0.length:Int))then(iter (BR a0 a1 v3) n (v2,(0:Int))).bind λw1=>some (.inl (w1,(i64.wrap (v3+1))))else some (.inr v2))
def Q5(a0:List ay)(a1:List ay):Option (Int×Bool):=
 ((bif ((a0.length:Int)==0)then some true else(bif ((a1.length:Int)==0)then some true else(wU n a0).bind λr1=>(bif (!r1)then some true else(wU n a1).bind λr2=>some (!r2))))).bind λv1=>(bif v1 then some ((0:Int),false)else(iter (BS n a0 a1) n ((1048576:Int),(0:Int))).bind λw2=>some (w2,true))
def I7(a0:List Int)(a1:Int):Stp Int (Unit⊕Bool)
 |v1=>(bif decide (v1<(a0.length:Int))then(bh a0 v1).bind λx1=>(bif (x1==(a1:Int))then(some true).map λa=> .inr (.inr a)else some (.inl (i64.wrap (v1+1))))else some (.inr (.inl ())))
def WR(a0:List Int)(a1:Int):Option Bool:=
 dM (iter (I7 a0 a1) n (0:Int)) λ()=>some false
def pz(a0:List Int)(a1:Int):Stp Int Int
 |v1=>((bif decide (v1<(a0.length:Int))then(bh a0 v1).bind λx1=>some (decide (x1<(a1:Int)))else some false)).bind λv2=>(bif v2 then some (.inl (i64.wrap (v1+1)))else some (.inr v1))
def Q6(a0:List Int)(a1:Int):Option (List Int):=
 (WR n a0 a1).bind λr1=>(bif r1 then some a0 else(iter (pz a0 a1) n (0:Int)).bind λw1=>ck (q8 0 w1 a0.length)<|ck (bD 0 0 (sub a0 0 ((w1:Int).toNat)).length ((sub a0 0 ((w1:Int).toNat)).length) 8)<|fK ((sub a0 0 ((w1:Int).toNat))) λr2=>ck (bD r2.length r2.length (sub ([a1]:List Int) 0 1).length 1 8)<|fK (r2++(sub ([a1]:List Int) 0 1)) λr3=>ck (q8 w1 (a0.length:Int) a0.length)<|ck (bD r3.length r3.length (sub a0 ((w1:Int).toNat) (a0.length -(w1:Int).toNat)).length ((sub a0 ((w1:Int).toNat) (a0.length -(w1:Int).toNat)).length) 8)<|fK (r3++(sub a0 ((w1:Int).toNat) (a0.length -(w1:Int).toNat))) λr4=>ck (bb (sub r4 0 r4.length).length r4.length)<|some (sub r4 0 r4.length))
def Es(a0:List fU)(a1:Int)(a2:Int)(r1:fU×Bool):Stp ((List Int)×Int) (List Int)
 |(v1,v2)=>(bif decide (v2<(a0.length:Int))then((bh a0 v2).bind λx1=>(Q5 n r1.1.area x1.area).bind λr2=>((bif r2.2 then(bif decide (r2.1<=(a2:Int))then(bh a0 v2).bind λx2=>some (x2.id !=(a1:Int))else some false)else some false)).bind λv3=>(bif v3 then(bh a0 v2).bind λx3=>(Q6 n v1 x3.id).bind λr3=>some r3 else some v1):Option ((List Int))).bind λv4=>some (.inl (v4,(i64.wrap (v2+1))))else some (.inr v1))
def Q7(a0:List fU)(a1:Int)(a2:Int):Option (List Int):=
 (LM n a0 a1).bind λr1=>(bif (!r1.2)then some ([]:(List Int))else(iter (Es n a0 a1 a2 r1) n (([]:(List Int)),(0:Int))).bind λw1=>some w1)
def pE(a2:List ByteArray):Stp (Int×Int) Int
 |(v1,v2)=>(bif decide (v2<(a2.length:Int))then(ck (q8 0 v2 a2.length)<|(bh a2 v2).bind λx1=>(WM n (sub a2 0 ((v2:Int).toNat)) x1).bind λr1=>(bif (!r1)then some (i64.wrap (v1+1))else some v1):Option Int).bind λv3=>some (.inl (v3,(i64.wrap (v2+1))))else some (.inr v1))
def LQ(n:Nat)(r3:List bQ):Stp (Int×Int) Int
 |(v4,v5)=>(bif decide (v5<(r3.length:Int))then(ck (br v5 r3.length)<|(bh r3 ((0:Nat)+v5:Int)).bind λx2=>(bif (ByteArray.toList x2.name==ByteArray.toList (⟨#[115,101,116,98,97,99,107]⟩))then ck (br v5 r3.length)<|(bh r3 ((0:Nat)+v5:Int)).bind λx3=>some x3.n else some v4):Option Int).bind λv6=>some (.inl (v6,(i64.wrap (v5+1))))else some (.inr v4))
def yQ(a0:gU)(a1:bi)(a2:List ByteArray):Option (List Int):=
 (iter (pE n a2) n ((0:Int),(0:Int))).bind λw1=>(LM n a0.land a1.lot).bind λr2=>(HP n (gQ.mk a0.cy a0.bu a0.b9 a0.bp a0.c9 a0.cT a0.dt a0.cU) r2.1 a1).bind λr3=>(iter (LQ n r3) n ((0:Int),(0:Int))).bind λw2=>(Q7 n a0.land a1.lot 10).bind λr4=>ck (bb (sub ([w1,w2,(r4.length:Int),(r2.1.area.length:Int)]:List Int) 0 4).length 4)<|some (sub ([w1,w2,(r4.length:Int),(r2.1.area.length:Int)]:List Int) 0 4)
def xS(a1:List aU)(r2:List Int):Stp (Int×(List Int)) (List Int)
 |(v1,v2)=>(bif decide (v1<(a1.length:Int))then(bh a1 v1).bind λx1=>ck (4 !=0)<|ck (br (Int.tmod v1 4) r2.length)<|(bh r2 ((0:Nat)+(Int.tmod v1 4):Int)).bind λx2=>(ck (2 !=0)<|(bif ((Int.tmod v1 2)==0)then ck (4 !=0)<|ck (br (Int.tmod v1 4) r2.length)<|(bh r2 ((0:Nat)+(Int.tmod v1 4):Int)).bind λx3=>some (max (0:Int) (i64.wrap ((i64.wrap (x1.values -1)) -x3)))else some (min x2 (i64.wrap (x1.values -1)))):Option Int).bind λv3=>ck (bD v2.length v2.length (sub ([v3]:List Int) 0 1).length 1 8)<|fK (v2++(sub ([v3]:List Int) 0 1)) λr3=>ck (bb r3.length r3.length)<|some (.inl ((i64.wrap (v1+1)),r3))else ck (bb v2.length v2.length)<|some (.inr v2))
def I8(a0:gU)(a1:List aU)(a2:bi)(a3:List ByteArray):Option (List Int):=
 (Gy n a1).bind λr1=>(bif (!r1)then some ([]:(List Int))else(yQ n a0 a2 a3).bind λr2=>ck (bb 0 ([]:List Int).length)<|(iter (xS a1 r2) n ((0:Int),([]:List Int))).bind λw1=>ck (bb (sub w1 0 w1.length).length w1.length)<|some (sub w1 0 w1.length))
end
end Go.Proofs
