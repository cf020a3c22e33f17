/-
  Printed by wip/gen: what functions of the program compute.
-/
import Derived.Test.YtfidjjngahhkkaaGreatDoorTD1
open Go.IntKind (i64)
namespace Go.Proofs
open Go.Gb Go.RowKit
noncomputable section
def qE (n:Nat) (a0:(List (List aj))) (a1:((List aj)×Unit)->Option Bool):Option Bool:=
 (wQ n a0 a1).bind fun r1=>some (decide (r1>=(0:Int)))
def yD (n:Nat) (a0:(List aj)):Option Bool:=
 (lG n a0).bind fun r1=>some (!r1)
def JD (n:Nat) (a0:(List (List aj))):(Int×(List uQ))->Option ((Int×(List uQ)) ⊕ (List uQ))
 |(v2,v3)=>(bif (decide (v2 < ((a0.length:Int):Int)))then ((at? a0 v2).bind fun x1=>(bif ((x1.length:Int)==(0:Int))then bif eqL v3.length v3.length then some v3 else none else ((bif (decide (((v3.length:Nat):Int)>(0:Int)))then bif inb (i64.wrap (((v3.length:Nat):Int) - 1)) v3.length then (at? v3 ((0:Nat)+(i64.wrap (((v3.length:Nat):Int) - 1)):Int)).bind fun x2=>(bif (x2.z1==((i64.wrap (3*v2)):Int))then bif inb (i64.wrap (((v3.length:Nat):Int) - 1)) v3.length then (at? v3 ((0:Nat)+(i64.wrap (((v3.length:Nat):Int) - 1)):Int)).bind fun x3=>(kL n x3.area x1).bind fun r2=>some r2 else none else some false)else none else some false):Option (Bool)).bind fun v4=>(bif v4 then bif inb (i64.wrap (((v3.length:Nat):Int) - 1)) v3.length then (at? v3 ((0:Nat)+(i64.wrap (((v3.length:Nat):Int) - 1)):Int)).bind fun x4=>bif inb (i64.wrap (((v3.length:Nat):Int) - 1)) v3.length then (at? v3 ((0:Nat)+(i64.wrap (((v3.length:Nat):Int) - 1)):Int)).bind fun x5=>bif eqL v3.length (v3.set ((0:Nat)+(i64.wrap (((v3.length:Nat):Int) - 1)):Int).toNat (uQ.mk x5.z0 (i64.wrap (x4.z1+3)) x5.area)).length then some (v3.set ((0:Nat)+(i64.wrap (((v3.length:Nat):Int) - 1)):Int).toNat (uQ.mk x5.z0 (i64.wrap (x4.z1+3)) x5.area))else none else none else none else (rO x1).bind fun r3=>bif eqL (sub r3 0 r3.length).length r3.length then bif bI v3.length v3.length (sub ([(uQ.mk (i64.wrap (3*v2)) (i64.wrap (3*(i64.wrap (v2+1)))) (sub r3 0 r3.length))]:List uQ) 0 1).length 1 40 then kV (v3++(sub ([(uQ.mk (i64.wrap (3*v2)) (i64.wrap (3*(i64.wrap (v2+1)))) (sub r3 0 r3.length))]:List uQ) 0 1)) fun r4=>bif eqL r4.length r4.length then some r4 else none else none else none)):Option ((List uQ))).bind fun v5=>bif eqL v5.length v5.length then some (.inl ((i64.wrap (v2+1)),v5))else none else bif eqL v3.length v3.length then some (.inr v3)else none)
def wR (n:Nat) (a0:(List (List aj))):Option ((List uQ)×Int):=
 ((bif (decide ((a0.length:Int)>(12:Int)))then some true else (qE n a0 (fun (y1:(List aj)×Unit)=>yD n y1.1)).bind fun r1=>some r1):Option (Bool)).bind fun v1=>(bif v1 then some (([]:(List uQ)),(1:Int))else bif eqL 0 ([]:List uQ).length then (iter (JD n a0) n ((0:Int),([]:List uQ))).bind fun w1=>bif eqL (sub w1 0 w1.length).length w1.length then some ((sub w1 0 w1.length),(0:Int))else none else none)
def Ap (n:Nat):Option Bool:=
 (Ec).bind fun r1=>(dQ n r1 1 0 3).bind fun r2=>bif eqL (sub r2.1 0 r2.1.length).length r2.1.length then (bif (((sub r2.1 0 r2.1.length).length:Int) != (3:Int))then some false else ((at? (sub r2.1 0 r2.1.length) 0).bind fun x1=>bif eqL (sub ([(aj.mk 2 2 8 6)]:List aj) 0 1).length 1 then (JC n x1 (sub ([(aj.mk 2 2 8 6)]:List aj) 0 1)).bind fun r3=>(bif r3 then (at? (sub r2.1 0 r2.1.length) 1).bind fun x2=>bif eqL (sub ([(aj.mk 3 2 4 6),(aj.mk 4 3 6 6),(aj.mk 6 2 8 6)]:List aj) 0 3).length 3 then (JC n x2 (sub ([(aj.mk 3 2 4 6),(aj.mk 4 3 6 6),(aj.mk 6 2 8 6)]:List aj) 0 3)).bind fun r4=>(bif r4 then (at? (sub r2.1 0 r2.1.length) 2).bind fun x3=>bif eqL (sub ([(aj.mk 6 2 8 6)]:List aj) 0 1).length 1 then (JC n x3 (sub ([(aj.mk 6 2 8 6)]:List aj) 0 1)).bind fun r5=>some r5 else none else some false)else none else some false)else none:Option (Bool)).bind fun v1=>(wR n (sub r2.1 0 r2.1.length)).bind fun r6=>(bif (r2.2==(0:Int))then (bif (r6.2==(0:Int))then (bif v1 then (fU n r1 1 0).bind fun r7=>(bif (r7==(2:Int))then (gB n r1 1 0).bind fun r8=>(bif (((r8.length:Nat):Int)==(1:Int))then some (((r6.1.length:Nat):Int)==(3:Int))else some false)else some false)else some false)else some false)else some false))else none
def G6 (a0:dJ):Int->Option (Int ⊕ (Unit ⊕ Bool))
 |v2=>(bif (decide (v2 < ((a0.plan_rules.length:Int):Int)))then ((at? a0.plan_rules v2).bind fun x1=>(bif (decide ((x1.zones.length:Int)>(5:Int)))then some true else (at? a0.plan_rules v2).bind fun x2=>some (decide ((x2.except.length:Int)>(5:Int)))):Option (Bool)).bind fun v3=>(bif v3 then (some false).map fun a=> .inr (.inr a)else some (.inl (i64.wrap (v2+1))))else some (.inr (.inl ())))
def G7 (a0:dJ):Int->Option (Int ⊕ (Unit ⊕ Bool))
 |v4=>(bif (decide (v4 < ((a0.land.length:Int):Int)))then (at? a0.land v4).bind fun x3=>(bif (decide ((x3.area.length:Int)>(10:Int)))then (some false).map fun a=> .inr (.inr a)else some (.inl (i64.wrap (v4+1))))else some (.inr (.inl ())))
def G8 (a0:dJ):Int->Option (Int ⊕ (Unit ⊕ Bool))
 |v5=>(bif (decide (v5 < ((a0.easements.length:Int):Int)))then (at? a0.easements v5).bind fun x4=>(bif (decide ((x4.area.length:Int)>(10:Int)))then (some false).map fun a=> .inr (.inr a)else some (.inl (i64.wrap (v5+1))))else some (.inr (.inl ())))
def OJ (n:Nat) (a0:dJ):Option Bool:=
 ((bif (decide ((a0.plan_rules.length:Int)>(10:Int)))then some true else (bif (decide ((a0.plan_zones.length:Int)>(6:Int)))then some true else (bif (decide ((a0.plan_defs.length:Int)>(20:Int)))then some true else (bif (decide ((a0.plan_tables.length:Int)>(20:Int)))then some true else (bif (decide ((a0.land.length:Int)>(5:Int)))then some true else (bif (decide ((a0.easements.length:Int)>(5:Int)))then some true else some (decide ((a0.built.length:Int)>(6:Int))))))))):Option (Bool)).bind fun v1=>(bif v1 then some false else dV (iter (G6 a0) n (0:Int)) fun ()=>dV (iter (G7 a0) n (0:Int)) fun ()=>dV (iter (G8 a0) n (0:Int)) fun ()=>some true)
def Ut (a0:aj) (a1:Int) (a2:Int):Option Bool:=
 (qQ a0).bind fun r1=>(bif (decide (a1>=(r1.1.x0:Int)))then (bif (decide (a1 < (r1.1.x1:Int)))then (bif (decide (a2>=(r1.1.y0:Int)))then some (decide (a2 < (r1.1.y1:Int)))else some false)else some false)else some false)
def Fz (a0:aj) (a1:Int) (a2:Int):Option Bool:=
 (Ut a0 a1 a2).bind fun r1=>some r1
def Eg (a0:(List aj)) (a1:(aj×Unit)->Option Bool):Int->Option (Int ⊕ (Unit ⊕ Int))
 |v1=>(bif (decide (v1 < ((a0.length:Int):Int)))then (at? a0 v1).bind fun x1=>(a1 (x1,())).bind fun r1=>(bif r1 then (some v1).map fun a=> .inr (.inr a)else some (.inl (i64.wrap (v1+1))))else some (.inr (.inl ())))
def qd (n:Nat) (a0:(List aj)) (a1:(aj×Unit)->Option Bool):Option Int:=
 dV (iter (Eg a0 a1) n (0:Int)) fun ()=>some ((-1):Int)
def jc (n:Nat) (a0:(List aj)) (a1:(aj×Unit)->Option Bool):Option Bool:=
 (qd n a0 a1).bind fun r1=>some (decide (r1>=(0:Int)))
def G9 (n:Nat) (a0:(List aj)) (a1:Int) (a2:Int):Option Bool:=
 (jc n a0 (fun (y1:aj×Unit)=>Fz y1.1 a1 a2)).bind fun r1=>(bif r1 then (lG n a0).bind fun r2=>some r2 else some false)
def uD (a0:aj) (a1:Int) (a2:Int):Option Jq:=
 some (Jq.mk (i64.wrap (a1 - a0.x0)) (i64.wrap ((i64.wrap (a0.x1 - 1)) - a1)) (i64.wrap (a2 - a0.y0)) (i64.wrap ((i64.wrap (a0.y1 - 1)) - a2)))
def vC (a0:aj) (a1:(List aY)) (a2:Int) (a3:Int) (r1:Jq):(Int×Int)->Option ((Int×Int) ⊕ Int)
 |(v1,v2)=>(bif (decide (v2 < ((a1.length:Int):Int)))then (at? a1 v2).bind fun x1=>bif inb x1.side 4 then (at? ([r1.a0,r1.a1,r1.a2,r1.a3]:List Int) x1.side).bind fun x2=>(lJ (i64.wrap (x1.num*x2)) x1.den).bind fun r2=>some (.inl ((min v1 (i64.wrap (x1.base+r2))),(i64.wrap (v2+1))))else none else some (.inr v1))
def FB (n:Nat) (a0:aj) (a1:(List aY)) (a2:Int) (a3:Int):Option Int:=
 (uD a0 a2 a3).bind fun r1=>(iter (vC a0 a1 a2 a3 r1) n ((4096:Int),(0:Int))).bind fun w1=>some w1
def FC (n:Nat) (a0:aj) (a1:(List aY)) (a2:Int) (a3:Int):Option Int:=
 ((sU n a0 a1).bind fun r1=>(bif (!r1)then some true else (Ut gv0 a2 a3).bind fun r2=>some (!r2)):Option (Bool)).bind fun v1=>(bif v1 then some ((-1):Int)else (FB n a0 a1 a2 a3).bind fun r3=>some (max (0:Int) r3))
def fJ (n:Nat) (a3:Int) (a4:Int) (a5:Int) (r8:aj×Bool) (r9:(List aY)):(Bool×Int)->Option ((Bool×Int) ⊕ Bool)
 |(v4,v5)=>(bif (decide (v5 < (((r9.length:Nat):Int):Int)))then ((bif v4 then bif inb v5 r9.length then (at? r9 ((0:Nat)+v5:Int)).bind fun x1=>(sS x1).bind fun r10=>(bif r10 then bif xq v5 (i64.wrap (v5+1)) r9.length then bif eqL (sub r9 (0+(v5:Int).toNat) (((i64.wrap (v5+1)):Int).toNat - (v5:Int).toNat)).length (((i64.wrap (v5+1)):Int).toNat - (v5:Int).toNat)then (FC n r8.1 (sub r9 (0+(v5:Int).toNat) (((i64.wrap (v5+1)):Int).toNat - (v5:Int).toNat)) a4 a5).bind fun r11=>some (decide (r11>=((i64.wrap (3*(i64.wrap (a3+1)))):Int)))else none else none else some false)else none else some false):Option (Bool)).bind fun v6=>some (.inl (v6,(i64.wrap (v5+1))))else some (.inr v4))
def fK (n:Nat) (a0:dJ) (a1:Int) (a3:Int) (a4:Int) (a5:Int):(Bool×Int)->Option ((Bool×Int) ⊕ Bool)
 |(v7,v8)=>(bif (decide (v8 < ((a0.easements.length:Int):Int)))then ((bif v7 then (at? a0.easements v8).bind fun x2=>(bif (x2.lot != (a1:Int))then some true else (at? a0.easements v8).bind fun x3=>(bif (decide (x3.top>=((i64.wrap (3*(i64.wrap (a3+1)))):Int)))then some true else (at? a0.easements v8).bind fun x4=>(G9 n x4.area a4 a5).bind fun r12=>some (!r12)))else some false):Option (Bool)).bind fun v9=>some (.inl (v9,(i64.wrap (v8+1))))else some (.inr v7))
def kR (n:Nat) (a0:dJ) (a1:Int) (a2:Int) (a3:Int) (a4:Int) (a5:Int):Option Bool:=
 (Ap n).bind fun r1=>((OJ n a0).bind fun r2=>(bif (!r2)then some true else (bif (decide (a3 < (0:Int)))then some true else some (decide (a3>=(12:Int))))):Option (Bool)).bind fun v1=>(bif v1 then some r1 else (dQ n a0 a1 a2 (i64.wrap (a3+1))).bind fun r3=>(BP n a0.land a1).bind fun r4=>(bif (r3.2 != (0:Int))then (bif r1 then (bif (((r3.1.length:Nat):Int)==(0:Int))then some ((r3.2==(4:Int))==(!r4.2))else some false)else some false)else ((bif (((r3.1.length:Nat):Int) != ((i64.wrap (a3+1)):Int))then some true else some (!r4.2)):Option (Bool)).bind fun v2=>(bif v2 then some false else (fU n a0 a1 a2).bind fun r5=>((bif (decide (r5<=(1048576:Int)))then (vR n r4.1.area r5).bind fun r6=>(bif (r6.2==(0:Int))then bif eqL (sub r6.1 0 r6.1.length).length r6.1.length then (G9 n (sub r6.1 0 r6.1.length) a4 a5).bind fun r7=>some r7 else none else some false)else some false):Option (Bool)).bind fun v3=>(vS n r4.1.area).bind fun r8=>(gB n a0 a1 a2).bind fun r9=>(iter (fJ n a3 a4 a5 r8 r9) n (v3,(0:Int))).bind fun w1=>(iter (fK n a0 a1 a3 a4 a5) n (w1,(0:Int))).bind fun w2=>(bif r1 then bif inb a3 r3.1.length then (at? r3.1 ((0:Nat)+a3:Int)).bind fun x5=>(lG n x5).bind fun r13=>(bif r13 then bif inb a3 r3.1.length then (at? r3.1 ((0:Nat)+a3:Int)).bind fun x6=>(G9 n x6 a4 a5).bind fun r14=>some (r14==w2)else none else some false)else none else some false))))
end
end Go.Proofs
