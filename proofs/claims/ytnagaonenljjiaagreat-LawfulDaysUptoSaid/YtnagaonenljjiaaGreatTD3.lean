import Derived.Test.YtnagaonenljjiaaGreatTD2
open Go.IntKind (i64)
namespace Go.Proofs
open Go.Gb Go.RowKit
noncomputable section
variable (n:Nat)
def CU(rc:(bK)->(Int)->(Int)->Option Int)(a0:bK)(a1:Int)(a2:Int):Option Int:=
 (bif decide (a2<1)then some (i64.wrap (a1+1))else(iter (uL rc a0 a1 a2) n ((1:Int),(0:Int))).bind λw1=>some w1)
def Hg(rc:(bK)->(Int)->(Int)->Option Int):bz xx:=⟨[.d (.st SI.Expr),.d (.int .i64),.d (.int .i64)],[.d (.int .i64)],λa=>rc a.1 a.2.1 a.2.2.1,none⟩
def tJ(n:Nat):Nat->(bK)->(Int)->(Int)->Option Int
 | 0=>λ_ _ _=>none
 |m+1=>CU n (tJ n m)
def Fw(a0:bK)(a1:Int)(a2:Int):Option Int:=tJ n n a0 a1 a2
def zC(a0:List aQ):Stp Int (Unit⊕Bool)
 |v1=>((bif decide (v1<(a0.length:Int))then some (decide (v1<7))else some false)).bind λv2=>(bif v2 then((bo a0 v1).bind λx1=>(Fw n (bK.mk x1.ky x1.ml x1.mj x1.i6 x1.fW) 40 14).bind λr1=>(bif decide (r1>40)then some true else(bo a0 v1).bind λx2=>(bif decide ((x2.zones.length:Int)>6)then some true else(bo a0 v1).bind λx3=>some (decide ((x3.except.length:Int)>6))))).bind λv3=>(bif v3 then(some false).map λa=> .inr (.inr a)else some (.inl (i64.wrap (v1+1))))else some (.inr (.inl ())))
def LG(a0:List aQ):Option Bool:=
 dm (iter (zC n a0) n (0:Int)) λ()=>some (decide ((a0.length:Int)<=6))
def CV(a0:cK):Stp Int (Unit⊕Bool)
 |v1=>((bif decide (v1<(a0.defs.length:Int))then some (decide (v1<6))else some false)).bind λv2=>(bif v2 then(bo a0.defs v1).bind λx1=>(Fw n (bK.mk x1.ir x1.ly x1.kf x1.il x1.eo) 40 14).bind λr1=>(bif decide (r1>40)then(some false).map λa=> .inr (.inr a)else some (.inl (i64.wrap (v1+1))))else some (.inr (.inl ())))
def CW(a0:cK):Stp Int (Unit⊕Bool)
 |v3=>((bif decide (v3<(a0.tables.length:Int))then some (decide (v3<5))else some false)).bind λv4=>(bif v4 then(bo a0.tables v3).bind λx2=>(bif decide ((x2.rows.length:Int)>8)then(some false).map λa=> .inr (.inr a)else some (.inl (i64.wrap (v3+1))))else some (.inr (.inl ())))
def CX(a0:cK):Stp Int (Unit⊕Bool)
 |v5=>((bif decide (v5<(a0.zones.length:Int))then some (decide (v5<6))else some false)).bind λv6=>(bif v6 then(bo a0.zones v5).bind λx3=>(bif decide ((x3.corners.length:Int)>12)then(some false).map λa=> .inr (.inr a)else some (.inl (i64.wrap (v5+1))))else some (.inr (.inl ())))
def CY(a0:cK):Stp Int (Unit⊕Bool)
 |v7=>((bif decide (v7<(a0.caps.length:Int))then some (decide (v7<4))else some false)).bind λv8=>(bif v8 then(bo a0.caps v7).bind λx4=>(bif decide ((x4.corners.length:Int)>12)then(some false).map λa=> .inr (.inr a)else some (.inl (i64.wrap (v7+1))))else some (.inr (.inl ())))
def Ps(a0:cK):Option Bool:=
 dm (iter (CV n a0) n (0:Int)) λ()=>dm (iter (CW a0) n (0:Int)) λ()=>dm (iter (CX a0) n (0:Int)) λ()=>dm (iter (CY a0) n (0:Int)) λ()=>(bif decide ((a0.defs.length:Int)<=5)then(bif decide ((a0.tables.length:Int)<=4)then(bif decide ((a0.zones.length:Int)<=5)then(bif decide ((a0.caps.length:Int)<=3)then(LG n a0.rules).bind λr2=>some r2 else some false)else some false)else some false)else some false)
def Hl(a0:fE):Stp Int (Unit⊕Bool)
 |v1=>((bif decide (v1<(a0.land.length:Int))then some (decide (v1<5))else some false)).bind λv2=>(bif v2 then(bo a0.land v1).bind λx1=>(bif decide ((x1.area.length:Int)>6)then(some false).map λa=> .inr (.inr a)else some (.inl (i64.wrap (v1+1))))else some (.inr (.inl ())))
def Ho(a0:fE):Stp Int (Unit⊕Bool)
 |v3=>((bif decide (v3<(a0.co.length:Int))then some (decide (v3<4))else some false)).bind λv4=>(bif v4 then(bo a0.co v3).bind λx2=>(bif decide ((x2.area.length:Int)>6)then(some false).map λa=> .inr (.inr a)else some (.inl (i64.wrap (v3+1))))else some (.inr (.inl ())))
def Hq(a1:bf):Stp Int (Unit⊕Bool)
 |v5=>((bif decide (v5<(a1.phases.length:Int))then some (decide (v5<4))else some false)).bind λv6=>(bif v6 then((bo a1.phases v5).bind λx3=>(bif decide ((x3.cm.length:Int)>3)then some true else(bo a1.phases v5).bind λx4=>some (decide ((x4.gives.length:Int)>3)))).bind λv7=>(bif v7 then(some false).map λa=> .inr (.inr a)else some (.inl (i64.wrap (v5+1))))else some (.inr (.inl ())))
def Vh(a0:fE)(a1:bf):Option Bool:=
 dm (iter (Hl a0) n (0:Int)) λ()=>dm (iter (Ho a0) n (0:Int)) λ()=>dm (iter (Hq a1) n (0:Int)) λ()=>(Ps n (cK.mk a0.ct a0.cj a0.cd a0.az a0.cD a0.cw a0.cQ a0.cx)).bind λr1=>(bif r1 then(bif decide ((a0.land.length:Int)<=4)then(bif decide ((a0.co.length:Int)<=3)then(bif decide ((a0.built.length:Int)<=8)then some (decide ((a1.phases.length:Int)<=3))else some false)else some false)else some false)else some false)
def jr(a0:fE)(a2:Int)(a3:Int)(r1:Bool):Stp Int (Unit⊕Bool)
 |v2=>(bif decide (v2<(a0.az.length:Int))then(bo a0.az v2).bind λx1=>((bif decide (x1.from_>(a2:Int))then(bif decide (x1.from_<=(a3:Int))then some true else(bif decide (x1.cC>(a2:Int))then some (decide (x1.cC<=(a3:Int)))else some false))else(bif decide (x1.cC>(a2:Int))then some (decide (x1.cC<=(a3:Int)))else some false))).bind λv3=>(bif v3 then(some r1).map λa=> .inr (.inr a)else some (.inl (i64.wrap (v2+1))))else some (.inr (.inl ())))
def uM(a0:fE)(a1:bf)(a2:Int)(a3:Int):Option Bool:=
 (LF n).bind λr1=>((Vh n a0 a1).bind λr2=>(bif (!r2)then some true else(bif decide (a2<0)then some true else(bif decide (a3<(a2:Int))then some true else some (decide (a3>1073741824)))))).bind λv1=>(bif v1 then some r1 else dm (iter (jr a0 a2 a3 r1) n (0:Int)) λ()=>(jW n a0 a1 a2).bind λr3=>(jW n a0 a1 a3).bind λr4=>(bif r1 then(bif (r3.2==(r4.2:Int))then ck (bk (sub r3.1 0 r3.1.length).length r3.1.length)<|ck (bk (sub r4.1 0 r4.1.length).length r4.1.length)<|(zY n (sub r3.1 0 r3.1.length) (sub r4.1 0 r4.1.length)).bind λr5=>some r5 else some false)else some false))
end
end Go.Proofs
