import Derived.Test.YtoiaceohobeemaaGreatTD2
open Go.IntKind (i64)
namespace Go.Proofs
open Go.Gb Go.RowKit
noncomputable section
variable (n:Nat)
def C9(rc:(bL)->(Int)->(Int)->Option Int)(a0:bL)(a1:Int)(a2:Int):Option Int:=
 (bif decide (a2<1)then some (i64.wrap (a1+1))else(iter (uT rc a0 a1 a2) n ((1:Int),(0:Int))).bind λw1=>some w1)
def HV(rc:(bL)->(Int)->(Int)->Option Int):bz xx:=⟨[.d (.st SI.Expr),.d (.int .i64),.d (.int .i64)],[.d (.int .i64)],λa=>rc a.1 a.2.1 a.2.2.1,none⟩
def tX(n:Nat):Nat->(bL)->(Int)->(Int)->Option Int
 | 0=>λ_ _ _=>none
 |m+1=>C9 n (tX n m)
def FI(a0:bL)(a1:Int)(a2:Int):Option Int:=tX n n a0 a1 a2
def zO(a0:List aM):Stp Int (Unit⊕Bool)
 |v1=>((bif decide (v1<(a0.length:Int))then some (decide (v1<7))else some false)).bind λv2=>(bif v2 then((bo a0 v1).bind λx1=>(FI n (bL.mk x1.ky x1.mm x1.ml x1.i7 x1.fX) 40 14).bind λr1=>(bif decide (r1>40)then some true else(bo a0 v1).bind λx2=>(bif decide ((x2.zones.length:Int)>6)then some true else(bo a0 v1).bind λx3=>some (decide ((x3.except.length:Int)>6))))).bind λv3=>(bif v3 then(some false).map λa=> .inr (.inr a)else some (.inl (i64.wrap (v1+1))))else some (.inr (.inl ())))
def FJ(a0:List aM):Option Bool:=
 dw (iter (zO n a0) n (0:Int)) λ()=>some (decide ((a0.length:Int)<=6))
def Da(a0:cO):Stp Int (Unit⊕Bool)
 |v1=>((bif decide (v1<(a0.defs.length:Int))then some (decide (v1<6))else some false)).bind λv2=>(bif v2 then(bo a0.defs v1).bind λx1=>(FI n (bL.mk x1.iu x1.lz x1.kf x1.il x1.er) 40 14).bind λr1=>(bif decide (r1>40)then(some false).map λa=> .inr (.inr a)else some (.inl (i64.wrap (v1+1))))else some (.inr (.inl ())))
def Db(a0:cO):Stp Int (Unit⊕Bool)
 |v3=>((bif decide (v3<(a0.tables.length:Int))then some (decide (v3<5))else some false)).bind λv4=>(bif v4 then(bo a0.tables v3).bind λx2=>(bif decide ((x2.rows.length:Int)>8)then(some false).map λa=> .inr (.inr a)else some (.inl (i64.wrap (v3+1))))else some (.inr (.inl ())))
def Dc(a0:cO):Stp Int (Unit⊕Bool)
 |v5=>((bif decide (v5<(a0.zones.length:Int))then some (decide (v5<6))else some false)).bind λv6=>(bif v6 then(bo a0.zones v5).bind λx3=>(bif decide ((x3.corners.length:Int)>12)then(some false).map λa=> .inr (.inr a)else some (.inl (i64.wrap (v5+1))))else some (.inr (.inl ())))
def Df(a0:cO):Stp Int (Unit⊕Bool)
 |v7=>((bif decide (v7<(a0.caps.length:Int))then some (decide (v7<4))else some false)).bind λv8=>(bif v8 then(bo a0.caps v7).bind λx4=>(bif decide ((x4.corners.length:Int)>12)then(some false).map λa=> .inr (.inr a)else some (.inl (i64.wrap (v7+1))))else some (.inr (.inl ())))
def PX(a0:cO):Option Bool:=
 dw (iter (Da n a0) n (0:Int)) λ()=>dw (iter (Db a0) n (0:Int)) λ()=>dw (iter (Dc a0) n (0:Int)) λ()=>dw (iter (Df a0) n (0:Int)) λ()=>(bif decide ((a0.defs.length:Int)<=5)then(bif decide ((a0.tables.length:Int)<=4)then(bif decide ((a0.zones.length:Int)<=5)then(bif decide ((a0.caps.length:Int)<=3)then(FJ n a0.rules).bind λr2=>some r2 else some false)else some false)else some false)else some false)
def HY(a0:dh):Stp Int (Unit⊕Bool)
 |v1=>((bif decide (v1<(a0.land.length:Int))then some (decide (v1<5))else some false)).bind λv2=>(bif v2 then(bo a0.land v1).bind λx1=>(bif decide ((x1.area.length:Int)>6)then(some false).map λa=> .inr (.inr a)else some (.inl (i64.wrap (v1+1))))else some (.inr (.inl ())))
def HZ(a0:dh):Stp Int (Unit⊕Bool)
 |v3=>((bif decide (v3<(a0.cp.length:Int))then some (decide (v3<4))else some false)).bind λv4=>(bif v4 then(bo a0.cp v3).bind λx2=>(bif decide ((x2.area.length:Int)>6)then(some false).map λa=> .inr (.inr a)else some (.inl (i64.wrap (v3+1))))else some (.inr (.inl ())))
def H6(a1:aV):Stp Int (Unit⊕Bool)
 |v5=>((bif decide (v5<(a1.phases.length:Int))then some (decide (v5<4))else some false)).bind λv6=>(bif v6 then((bo a1.phases v5).bind λx3=>(bif decide ((x3.cx.length:Int)>3)then some true else(bo a1.phases v5).bind λx4=>some (decide ((x4.gives.length:Int)>3)))).bind λv7=>(bif v7 then(some false).map λa=> .inr (.inr a)else some (.inl (i64.wrap (v5+1))))else some (.inr (.inl ())))
def VE(a0:dh)(a1:aV):Option Bool:=
 dw (iter (HY a0) n (0:Int)) λ()=>dw (iter (HZ a0) n (0:Int)) λ()=>dw (iter (H6 a1) n (0:Int)) λ()=>(PX n (cO.mk a0.cm a0.b7 a0.b8 a0.az a0.co a0.ci a0.cz a0.cj)).bind λr1=>(bif r1 then(bif decide ((a0.land.length:Int)<=4)then(bif decide ((a0.cp.length:Int)<=3)then(bif decide ((a0.built.length:Int)<=8)then some (decide ((a1.phases.length:Int)<=3))else some false)else some false)else some false)else some false)
def H7(a0:List ByteArray)(a1:ByteArray):Stp Int (Unit⊕Bool)
 |v1=>(bif decide (v1<(a0.length:Int))then(bo a0 v1).bind λx1=>(bif (ByteArray.toList x1==ByteArray.toList a1)then(some true).map λa=> .inr (.inr a)else some (.inl (i64.wrap (v1+1))))else some (.inr (.inl ())))
def L9(a0:List ByteArray)(a1:ByteArray):Option Bool:=
 dw (iter (H7 a0 a1) n (0:Int)) λ()=>some false
def mE(r4:(List ByteArray)×Int)(r7:(List ByteArray)×Int):Stp Int (Unit⊕Bool)
 |v3=>(bif decide (v3<(r4.1.length:Int))then ck (b9 v3 r4.1.length)<|(bo r4.1 ((0:Nat)+v3:Int)).bind λx1=>ck (bk (sub r7.1 0 r7.1.length).length r7.1.length)<|(L9 n (sub r7.1 0 r7.1.length) x1).bind λr9=>(bif (!r9)then(some false).map λa=> .inr (.inr a)else some (.inl (i64.wrap (v3+1))))else some (.inr (.inl ())))
def mF(a0:dh)(r7:(List ByteArray)×Int)(v4:Int):Stp (Bool×Int) Bool
 |(v5,v6)=>(bif decide (v6<(a0.az.length:Int))then((bif v5 then some true else(bo a0.az v6).bind λx2=>ck (b9 v4 r7.1.length)<|(bo r7.1 ((0:Nat)+v4:Int)).bind λx3=>(bif (ByteArray.toList x2.name==ByteArray.toList x3)then(bo a0.az v6).bind λx4=>some (x4.kind==3)else some false))).bind λv7=>some (.inl (v7,(i64.wrap (v6+1))))else some (.inr v5))
def mG(a0:dh)(r4:(List ByteArray)×Int)(r7:(List ByteArray)×Int):Stp Int (Unit⊕Bool)
 |v4=>(bif decide (v4<(r7.1.length:Int))then(iter (mF a0 r7 v4) n (false,(0:Int))).bind λw1=>(ck (b9 v4 r7.1.length)<|(bo r7.1 ((0:Nat)+v4:Int)).bind λx5=>ck (bk (sub r4.1 0 r4.1.length).length r4.1.length)<|(L9 n (sub r4.1 0 r4.1.length) x5).bind λtx=>(bif (!tx)then some (!w1)else some false)).bind λv8=>(bif v8 then(some false).map λa=> .inr (.inr a)else some (.inl (i64.wrap (v4+1))))else some (.inr (.inl ())))
def uU(a0:dh)(a1:aV)(a2:Int)(a3:aM)(a4:bS):Option Bool:=
 (L8 n).bind λr1=>((VE n a0 a1).bind λr2=>(bif (!r2)then some true else ck (bk (sub ([a3]:List aM) 0 1).length 1)<|(FJ n (sub ([a3]:List aM) 0 1)).bind λr3=>some (!r3))).bind λv1=>(bif v1 then some r1 else(fC n a0 a1 a2).bind λr4=>ck (bR ([]:List bS).length 0 a0.built.length a0.built.length 80)<|j6 (([]:List bS)++a0.built) λr5=>ck (bR r5.length r5.length (sub ([a4]:List bS) 0 1).length 1 80)<|j6 (r5++(sub ([a4]:List bS) 0 1)) λr6=>ck (bk (sub r6 0 r6.length).length r6.length)<|(fC n (dh.mk a0.cm a0.b7 a0.b8 a0.az a0.co a0.ci a0.cz a0.cj a0.land a0.cp a0.windows (sub r6 0 r6.length) a0.base) a1 a2).bind λr7=>((bif (r4.2 !=(r7.2:Int))then some true else(bif (a4.lot==(a1.lot:Int))then ck (bk (sub r4.1 0 r4.1.length).length r4.1.length)<|ck (bk (sub r7.1 0 r7.1.length).length r7.1.length)<|(oW n (sub r4.1 0 r4.1.length) (sub r7.1 0 r7.1.length)).bind λr8=>some (!r8)else some false))).bind λv2=>(bif v2 then some false else dw (iter (mE n r4 r7) n (0:Int)) λ()=>dw (iter (mG n a0 r4 r7) n (0:Int)) λ()=>(fC n (dh.mk a0.cm a0.b7 a0.b8 a0.az a0.co a0.ci a0.cz a0.cj a0.land ([]) a0.windows a0.built a0.base) a1 a2).bind λkO=>ck (bR ([]:List aM).length 0 a0.az.length a0.az.length 232)<|j6 (([]:List aM)++a0.az) λym=>ck (bR ym.length ym.length (sub ([a3]:List aM) 0 1).length 1 232)<|j6 (ym++(sub ([a3]:List aM) 0 1)) λpL=>ck (bk (sub pL 0 pL.length).length pL.length)<|(fC n (dh.mk a0.cm a0.b7 a0.b8 (sub pL 0 pL.length) a0.co a0.ci a0.cz a0.cj a0.land ([]) a0.windows a0.built a0.base) a1 a2).bind λtd=>((bif (td.2 !=(r4.2:Int))then some true else(bif decide ((td.1.length:Int)<(kO.1.length:Int))then some true else ck (yF 0 (kO.1.length:Int) td.1.length)<|ck (bk (sub td.1 0 ((kO.1.length:Int).toNat)).length ((kO.1.length:Int).toNat))<|ck (bk (sub kO.1 0 kO.1.length).length kO.1.length)<|(oW n (sub td.1 0 ((kO.1.length:Int).toNat)) (sub kO.1 0 kO.1.length)).bind λro=>some (!ro)))).bind λv9=>(bif v9 then some false else(bif r1 then(bif ((td.1.length:Int)==(kO.1.length:Int))then some true else(bif ((td.1.length:Int)==((i64.wrap ((kO.1.length:Int)+1)):Int))then ck (b9 (kO.1.length:Int) td.1.length)<|(bo td.1 ((0:Nat)+(kO.1.length:Int):Int)).bind λx6=>(bif (ByteArray.toList x6==ByteArray.toList a3.name)then(ng n a0 a1 a3).bind λr16=>some r16 else some false)else some false))else some false))))
end
end Go.Proofs
