import Derived.Test.YtdpcmnckfpgejaaGreatTD2
open Go.IntKind (i64)
namespace Go.Proofs
open Go.Gb Go.RowKit
noncomputable section
variable (n:Nat)
def CW(rc:(bK)->(Int)->(Int)->Option Int)(a0:bK)(a1:Int)(a2:Int):Option Int:=
 (bif decide (a2<1)then some (i64.wrap (a1+1))else(iter (uR rc a0 a1 a2) n ((1:Int),(0:Int))).bind λw1=>some w1)
def Hr(rc:(bK)->(Int)->(Int)->Option Int):b9 xx:=⟨[.d (.st SI.Expr),.d (.int .i64),.d (.int .i64)],[.d (.int .i64)],λa=>rc a.1 a.2.1 a.2.2.1,none⟩
def tT(n:Nat):Nat->(bK)->(Int)->(Int)->Option Int
 | 0=>λ_ _ _=>none
 |m+1=>CW n (tT n m)
def Fz(a0:bK)(a1:Int)(a2:Int):Option Int:=tT n n a0 a1 a2
def zH(a0:List aP):Stp Int (Unit⊕Bool)
 |v1=>((bif decide (v1<(a0.length:Int))then some (decide (v1<7))else some false)).bind λv2=>(bif v2 then((bp a0 v1).bind λx1=>(Fz n (bK.mk x1.kA x1.mm x1.ml x1.i7 x1.fW) 40 14).bind λr1=>(bif decide (r1>40)then some true else(bp a0 v1).bind λx2=>(bif decide ((x2.zones.length:Int)>6)then some true else(bp a0 v1).bind λx3=>some (decide ((x3.except.length:Int)>6))))).bind λv3=>(bif v3 then(some false).map λa=> .inr (.inr a)else some (.inl (i64.wrap (v1+1))))else some (.inr (.inl ())))
def LU(a0:List aP):Option Bool:=
 dh (iter (zH n a0) n (0:Int)) λ()=>some (decide ((a0.length:Int)<=6))
def CX(a0:cK):Stp Int (Unit⊕Bool)
 |v1=>((bif decide (v1<(a0.defs.length:Int))then some (decide (v1<6))else some false)).bind λv2=>(bif v2 then(bp a0.defs v1).bind λx1=>(Fz n (bK.mk x1.iu x1.lz x1.kh x1.io x1.er) 40 14).bind λr1=>(bif decide (r1>40)then(some false).map λa=> .inr (.inr a)else some (.inl (i64.wrap (v1+1))))else some (.inr (.inl ())))
def CY(a0:cK):Stp Int (Unit⊕Bool)
 |v3=>((bif decide (v3<(a0.tables.length:Int))then some (decide (v3<5))else some false)).bind λv4=>(bif v4 then(bp a0.tables v3).bind λx2=>(bif decide ((x2.rows.length:Int)>8)then(some false).map λa=> .inr (.inr a)else some (.inl (i64.wrap (v3+1))))else some (.inr (.inl ())))
def CZ(a0:cK):Stp Int (Unit⊕Bool)
 |v5=>((bif decide (v5<(a0.zones.length:Int))then some (decide (v5<6))else some false)).bind λv6=>(bif v6 then(bp a0.zones v5).bind λx3=>(bif decide ((x3.corners.length:Int)>12)then(some false).map λa=> .inr (.inr a)else some (.inl (i64.wrap (v5+1))))else some (.inr (.inl ())))
def C8(a0:cK):Stp Int (Unit⊕Bool)
 |v7=>((bif decide (v7<(a0.caps.length:Int))then some (decide (v7<4))else some false)).bind λv8=>(bif v8 then(bp a0.caps v7).bind λx4=>(bif decide ((x4.corners.length:Int)>12)then(some false).map λa=> .inr (.inr a)else some (.inl (i64.wrap (v7+1))))else some (.inr (.inl ())))
def PI(a0:cK):Option Bool:=
 dh (iter (CX n a0) n (0:Int)) λ()=>dh (iter (CY a0) n (0:Int)) λ()=>dh (iter (CZ a0) n (0:Int)) λ()=>dh (iter (C8 a0) n (0:Int)) λ()=>(bif decide ((a0.defs.length:Int)<=5)then(bif decide ((a0.tables.length:Int)<=4)then(bif decide ((a0.zones.length:Int)<=5)then(bif decide ((a0.caps.length:Int)<=3)then(LU n a0.rules).bind λr2=>some r2 else some false)else some false)else some false)else some false)
def Ht(a0:dG):Stp Int (Unit⊕Bool)
 |v1=>((bif decide (v1<(a0.land.length:Int))then some (decide (v1<5))else some false)).bind λv2=>(bif v2 then(bp a0.land v1).bind λx1=>(bif decide ((x1.area.length:Int)>6)then(some false).map λa=> .inr (.inr a)else some (.inl (i64.wrap (v1+1))))else some (.inr (.inl ())))
def Hu(a0:dG):Stp Int (Unit⊕Bool)
 |v3=>((bif decide (v3<(a0.cy.length:Int))then some (decide (v3<4))else some false)).bind λv4=>(bif v4 then(bp a0.cy v3).bind λx2=>(bif decide ((x2.area.length:Int)>6)then(some false).map λa=> .inr (.inr a)else some (.inl (i64.wrap (v3+1))))else some (.inr (.inl ())))
def Hw(a1:aV):Stp Int (Unit⊕Bool)
 |v5=>((bif decide (v5<(a1.phases.length:Int))then some (decide (v5<4))else some false)).bind λv6=>(bif v6 then((bp a1.phases v5).bind λx3=>(bif decide ((x3.cx.length:Int)>3)then some true else(bp a1.phases v5).bind λx4=>some (decide ((x4.gives.length:Int)>3)))).bind λv7=>(bif v7 then(some false).map λa=> .inr (.inr a)else some (.inl (i64.wrap (v5+1))))else some (.inr (.inl ())))
def Vu(a0:dG)(a1:aV):Option Bool:=
 dh (iter (Ht a0) n (0:Int)) λ()=>dh (iter (Hu a0) n (0:Int)) λ()=>dh (iter (Hw a1) n (0:Int)) λ()=>(PI n (cK.mk a0.cm a0.b7 a0.b8 a0.az a0.cp a0.cd a0.cz a0.cg)).bind λr1=>(bif r1 then(bif decide ((a0.land.length:Int)<=4)then(bif decide ((a0.cy.length:Int)<=3)then(bif decide ((a0.built.length:Int)<=8)then some (decide ((a1.phases.length:Int)<=3))else some false)else some false)else some false)else some false)
def Hy(a0:List ByteArray)(a1:ByteArray):Stp Int (Unit⊕Bool)
 |v1=>(bif decide (v1<(a0.length:Int))then(bp a0 v1).bind λx1=>(bif (ByteArray.toList x1==ByteArray.toList a1)then(some true).map λa=> .inr (.inr a)else some (.inl (i64.wrap (v1+1))))else some (.inr (.inl ())))
def PK(a0:List ByteArray)(a1:ByteArray):Option Bool:=
 dh (iter (Hy a0 a1) n (0:Int)) λ()=>some false
def kK(a0:dG)(a1:aV)(a2:Int)(r3:(List ByteArray)×Int):Stp (Int×(List ByteArray)) ((List ByteArray)⊕Bool)
 |(v1,v2)=>(bif decide (v1<(a0.az.length:Int))then dh ((bp a0.az v1).bind λx1=>ck (bm (sub ([x1]:List aP) 0 1).length 1)<|(iq n (dG.mk a0.cm a0.b7 a0.b8 (sub ([x1]:List aP) 0 1) a0.cp a0.cd a0.cz a0.cg a0.land ([]) a0.windows a0.built a0.base) a1 a2).bind λr4=>((bif (r4.2 !=(r3.2:Int))then some true else(bif decide ((r4.1.length:Int)>1)then some true else(bif ((r4.1.length:Int)==1)then ck (ca 0 r4.1.length)<|(bp r4.1 ((0:Nat)+0:Int)).bind λx2=>(bp a0.az v1).bind λx3=>(bif (!(ByteArray.toList x2==ByteArray.toList x3.name))then some true else(bp a0.az v1).bind λx4=>(mX n (dG.mk a0.cm a0.b7 a0.b8 a0.az a0.cp a0.cd a0.cz a0.cg a0.land ([]) a0.windows a0.built a0.base) a1 x4).bind λr5=>some (!r5))else some false)))).bind λv3=>(bif v3 then((some false).map λa=> .inr (.inr a)).map .inr else((bif ((r4.1.length:Int)==1)then ck (ca 0 r4.1.length)<|(bp r4.1 ((0:Nat)+0:Int)).bind λx5=>ck (bm (sub v2 0 v2.length).length v2.length)<|(PK n (sub v2 0 v2.length) x5).bind λr6=>some (!r6)else some false)).bind λv4=>(bif v4 then ck (ca 0 r4.1.length)<|(bp r4.1 ((0:Nat)+0:Int)).bind λx6=>ck (bW v2.length v2.length (sub ([x6]:List ByteArray) 0 1).length 1 16)<|kX (v2++(sub ([x6]:List ByteArray) 0 1)) λr7=>ck (bm r7.length r7.length)<|some (.inl r7)else ck (bm v2.length v2.length)<|some (.inl v2)))) λ(v5:List ByteArray)=>ck (bm v5.length v5.length)<|some (.inl ((i64.wrap (v1+1)),v5))else ck (bm v2.length v2.length)<|some (.inr (.inl v2)))
def sG(a0:dG)(a1:aV)(a2:Int):Option Bool:=
 (LQ n).bind λr1=>(Vu n a0 a1).bind λr2=>(bif (!r2)then some r1 else(iq n (dG.mk a0.cm a0.b7 a0.b8 a0.az a0.cp a0.cd a0.cz a0.cg a0.land ([]) a0.windows a0.built a0.base) a1 a2).bind λr3=>ck (bm 0 ([]:List ByteArray).length)<|dh (iter (kK n a0 a1 a2 r3) n ((0:Int),([]:List ByteArray))) λw1=>(bif r1 then ck (bm (sub r3.1 0 r3.1.length).length r3.1.length)<|ck (bm (sub w1 0 w1.length).length w1.length)<|(Aa n (sub r3.1 0 r3.1.length) (sub w1 0 w1.length)).bind λr8=>(bif r8 then(oV n (dG.mk a0.cm a0.b7 a0.b8 a0.az a0.cp a0.cd a0.cz a0.cg a0.land ([]) a0.windows a0.built a0.base) a1 a2).bind λr9=>(bif (r3.2==0)then some (r9==((w1.length:Int)==0))else some (r9==false))else some false)else some false))
end
end Go.Proofs
