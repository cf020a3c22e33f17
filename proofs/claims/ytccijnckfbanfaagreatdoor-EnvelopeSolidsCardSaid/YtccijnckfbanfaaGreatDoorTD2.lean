/-
  Printed by wip/gen: what functions of the program compute.
-/
import Derived.Test.YtccijnckfbanfaaGreatDoorTD1
open Go.IntKind (i64)
namespace Go.Proofs
open Go.Gb Go.RowKit
noncomputable section
def iJ (n:Nat) (a0:(List (List aj))) (a1:((List aj)×Unit)->Option Bool):Option Bool:=
 (o8 n a0 a1).bind fun r1=>some (decide (r1>=(0:Int)))
def lI (n:Nat) (a0:(List aj)):Option Bool:=
 (kT n a0).bind fun r1=>some (!r1)
def eX (n:Nat) (a0:(List (List aj))):(Int×(List aQ))->Option ((Int×(List aQ)) ⊕ (List aQ))
 |(v2,v3)=>(bif (decide (v2 < ((a0.length:Int):Int)))then ((at? a0 v2).bind fun x1=>(bif ((x1.length:Int)==(0:Int))then bif eqL v3.length v3.length then some v3 else none else ((bif (decide (((v3.length:Nat):Int)>(0:Int)))then bif inb (i64.wrap (((v3.length:Nat):Int) - 1)) v3.length then (at? v3 ((0:Nat)+(i64.wrap (((v3.length:Nat):Int) - 1)):Int)).bind fun x2=>(bif (x2.z1==((i64.wrap (3*v2)):Int))then bif inb (i64.wrap (((v3.length:Nat):Int) - 1)) v3.length then (at? v3 ((0:Nat)+(i64.wrap (((v3.length:Nat):Int) - 1)):Int)).bind fun x3=>(gY n x3.area x1).bind fun r2=>some r2 else none else some false)else none else some false):Option (Bool)).bind fun v4=>(bif v4 then bif inb (i64.wrap (((v3.length:Nat):Int) - 1)) v3.length then (at? v3 ((0:Nat)+(i64.wrap (((v3.length:Nat):Int) - 1)):Int)).bind fun x4=>bif inb (i64.wrap (((v3.length:Nat):Int) - 1)) v3.length then (at? v3 ((0:Nat)+(i64.wrap (((v3.length:Nat):Int) - 1)):Int)).bind fun x5=>bif eqL v3.length (v3.set ((0:Nat)+(i64.wrap (((v3.length:Nat):Int) - 1)):Int).toNat (aQ.mk x5.z0 (i64.wrap (x4.z1+3)) x5.area)).length then some (v3.set ((0:Nat)+(i64.wrap (((v3.length:Nat):Int) - 1)):Int).toNat (aQ.mk x5.z0 (i64.wrap (x4.z1+3)) x5.area))else none else none else none else (nY x1).bind fun r3=>bif eqL (sub r3 0 r3.length).length r3.length then bif bG v3.length v3.length (sub ([(aQ.mk (i64.wrap (3*v2)) (i64.wrap (3*(i64.wrap (v2+1)))) (sub r3 0 r3.length))]:List aQ) 0 1).length 1 40 then lD (v3++(sub ([(aQ.mk (i64.wrap (3*v2)) (i64.wrap (3*(i64.wrap (v2+1)))) (sub r3 0 r3.length))]:List aQ) 0 1)) fun r4=>bif eqL r4.length r4.length then some r4 else none else none else none)):Option ((List aQ))).bind fun v5=>bif eqL v5.length v5.length then some (.inl ((i64.wrap (v2+1)),v5))else none else bif eqL v3.length v3.length then some (.inr v3)else none)
def jT (n:Nat) (a0:(List (List aj))):Option ((List aQ)×Int):=
 ((bif (decide ((a0.length:Int)>(12:Int)))then some true else (iJ n a0 (fun (y1:(List aj)×Unit)=>lI n y1.1)).bind fun r1=>some r1):Option (Bool)).bind fun v1=>(bif v1 then some (([]:(List aQ)),(1:Int))else bif eqL 0 ([]:List aQ).length then (iter (eX n a0) n ((0:Int),([]:List aQ))).bind fun w1=>bif eqL (sub w1 0 w1.length).length w1.length then some ((sub w1 0 w1.length),(0:Int))else none else none)
def Br (n:Nat):Option Bool:=
 (EY).bind fun r1=>(envelope_Rooms n r1 1 0 3).bind fun r2=>bif eqL (sub r2.1 0 r2.1.length).length r2.1.length then (bif (((sub r2.1 0 r2.1.length).length:Int) != (3:Int))then some false else ((at? (sub r2.1 0 r2.1.length) 0).bind fun x1=>bif eqL (sub ([(aj.mk 2 2 8 6)]:List aj) 0 1).length 1 then (xR n x1 (sub ([(aj.mk 2 2 8 6)]:List aj) 0 1)).bind fun r3=>(bif r3 then (at? (sub r2.1 0 r2.1.length) 1).bind fun x2=>bif eqL (sub ([(aj.mk 3 2 4 6),(aj.mk 4 3 6 6),(aj.mk 6 2 8 6)]:List aj) 0 3).length 3 then (xR n x2 (sub ([(aj.mk 3 2 4 6),(aj.mk 4 3 6 6),(aj.mk 6 2 8 6)]:List aj) 0 3)).bind fun r4=>(bif r4 then (at? (sub r2.1 0 r2.1.length) 2).bind fun x3=>bif eqL (sub ([(aj.mk 6 2 8 6)]:List aj) 0 1).length 1 then (xR n x3 (sub ([(aj.mk 6 2 8 6)]:List aj) 0 1)).bind fun r5=>some r5 else none else some false)else none else some false)else none:Option (Bool)).bind fun v1=>(jT n (sub r2.1 0 r2.1.length)).bind fun r6=>(bif (r2.2==(0:Int))then (bif (r6.2==(0:Int))then (bif v1 then (jg n r1 1 0).bind fun r7=>(bif (r7==(2:Int))then (gM n r1 1 0).bind fun r8=>(bif (((r8.length:Nat):Int)==(1:Int))then some (((r6.1.length:Nat):Int)==(3:Int))else some false)else some false)else some false)else some false)else some false))else none
def IV (a0:dR):Int->Option (Int ⊕ (Unit ⊕ Bool))
 |v2=>(bif (decide (v2 < ((a0.plan_rules.length:Int):Int)))then ((at? a0.plan_rules v2).bind fun x1=>(bif (decide ((x1.zones.length:Int)>(5:Int)))then some true else (at? a0.plan_rules v2).bind fun x2=>some (decide ((x2.except.length:Int)>(5:Int)))):Option (Bool)).bind fun v3=>(bif v3 then (some false).map fun a=> .inr (.inr a)else some (.inl (i64.wrap (v2+1))))else some (.inr (.inl ())))
def IW (a0:dR):Int->Option (Int ⊕ (Unit ⊕ Bool))
 |v4=>(bif (decide (v4 < ((a0.land.length:Int):Int)))then (at? a0.land v4).bind fun x3=>(bif (decide ((x3.area.length:Int)>(10:Int)))then (some false).map fun a=> .inr (.inr a)else some (.inl (i64.wrap (v4+1))))else some (.inr (.inl ())))
def IX (a0:dR):Int->Option (Int ⊕ (Unit ⊕ Bool))
 |v5=>(bif (decide (v5 < ((a0.easements.length:Int):Int)))then (at? a0.easements v5).bind fun x4=>(bif (decide ((x4.area.length:Int)>(10:Int)))then (some false).map fun a=> .inr (.inr a)else some (.inl (i64.wrap (v5+1))))else some (.inr (.inl ())))
def Qd (n:Nat) (a0:dR):Option Bool:=
 ((bif (decide ((a0.plan_rules.length:Int)>(10:Int)))then some true else (bif (decide ((a0.plan_zones.length:Int)>(6:Int)))then some true else (bif (decide ((a0.plan_defs.length:Int)>(20:Int)))then some true else (bif (decide ((a0.plan_tables.length:Int)>(20:Int)))then some true else (bif (decide ((a0.land.length:Int)>(5:Int)))then some true else (bif (decide ((a0.easements.length:Int)>(5:Int)))then some true else some (decide ((a0.built.length:Int)>(6:Int))))))))):Option (Bool)).bind fun v1=>(bif v1 then some false else dw (iter (IV a0) n (0:Int)) fun ()=>dw (iter (IW a0) n (0:Int)) fun ()=>dw (iter (IX a0) n (0:Int)) fun ()=>some true)
def CY (a0:(List aj)):(Int×Int)->Option ((Int×Int) ⊕ Int)
 |(v1,v2)=>(bif (decide (v2 < ((a0.length:Int):Int)))then (at? a0 v2).bind fun x1=>(E9 x1).bind fun r2=>some (.inl ((i64.wrap (v1+r2)),(i64.wrap (v2+1))))else some (.inr v1))
def Qe (n:Nat) (a0:(List aj)):Option Int:=
 (kT n a0).bind fun r1=>(bif (!r1)then some (0:Int)else (iter (CY a0) n ((0:Int),(0:Int))).bind fun w1=>some w1)
def Qf (n:Nat) (a0:(List aj)) (a1:(List aj)):Option Bool:=
 (gY n a0 a1).bind fun r1=>some r1
def zm (n:Nat) (a0:(List aQ)):Int->Option (Int ⊕ (Unit ⊕ Bool))
 |v1=>(bif (decide (v1 < ((a0.length:Int):Int)))then dw ((at? a0 v1).bind fun x1=>((bif (decide (x1.z0 < (0:Int)))then some true else (bif (decide (x1.z0>=(x1.z1:Int)))then some true else (bif (decide (x1.z1>(4096:Int)))then some true else (bif ((x1.area.length:Int)==(0:Int))then some true else (kT n x1.area).bind fun r1=>some (!r1))))):Option (Bool)).bind fun v2=>(bif v2 then ((some false).map fun a=> .inr (.inr a)).map .inr else (bif (v1==(0:Int))then some (.inl ())else (at? a0 (i64.wrap (v1 - 1))).bind fun x2=>((bif (decide (x2.z1>(x1.z0:Int)))then some true else (bif (x2.z1==(x1.z0:Int))then (Qf n x2.area x1.area).bind fun r2=>some r2 else some false)):Option (Bool)).bind fun v3=>(bif v3 then ((some false).map fun a=> .inr (.inr a)).map .inr else some (.inl ())))):Option ((Unit) ⊕ _)) fun ()=>some (.inl (i64.wrap (v1+1)))else some (.inr (.inl ())))
def uz (n:Nat) (a0:(List aQ)):Option Bool:=
 (bif (decide ((a0.length:Int)>(80:Int)))then some false else dw (iter (zm n a0) n (0:Int)) fun ()=>some true)
def uD (x1:aQ):(Int×(List ug))->Option ((Int×(List ug)) ⊕ (List ug))
 |(v3,v4)=>(bif (decide (v3 < ((x1.area.length:Int):Int)))then (at? x1.area v3).bind fun x2=>bif bG v4.length v4.length (sub ([(ug.mk x2.x0 x2.y0 x2.x1 x2.y1 x1.z0 x1.z1)]:List ug) 0 1).length 1 48 then lD (v4++(sub ([(ug.mk x2.x0 x2.y0 x2.x1 x2.y1 x1.z0 x1.z1)]:List ug) 0 1)) fun r2=>bif eqL r2.length r2.length then some (.inl ((i64.wrap (v3+1)),r2))else none else none else bif eqL v4.length v4.length then some (.inr v4)else none)
def zn (n:Nat) (a0:(List aQ)):(Int×(List ug))->Option ((Int×(List ug)) ⊕ (List ug))
 |(v1,v2)=>(bif (decide (v1 < ((a0.length:Int):Int)))then (at? a0 v1).bind fun x1=>bif eqL v2.length v2.length then (iter (uD x1) n ((0:Int),v2)).bind fun w1=>bif eqL w1.length w1.length then some (.inl ((i64.wrap (v1+1)),w1))else none else none else bif eqL v2.length v2.length then some (.inr v2)else none)
def KF (n:Nat) (a0:(List aQ)):Option (List ug):=
 (uz n a0).bind fun r1=>(bif (!r1)then some ([]:(List ug))else bif eqL 0 ([]:List ug).length then (iter (zn n a0) n ((0:Int),([]:List ug))).bind fun w2=>bif eqL (sub w2 0 w2.length).length w2.length then some (sub w2 0 w2.length)else none else none)
def wE (r1:(List ug)):(Int×Int)->Option ((Int×Int) ⊕ Int)
 |(v1,v2)=>(bif (decide (v2 < (((r1.length:Nat):Int):Int)))then bif inb v2 r1.length then (at? r1 ((0:Nat)+v2:Int)).bind fun x1=>(E9 (aj.mk x1.base_x0 x1.base_y0 x1.base_x1 x1.base_y1)).bind fun r2=>some (.inl ((i64.wrap (v1+(i64.wrap ((i64.wrap (x1.z1 - x1.z0))*r2)))),(i64.wrap (v2+1))))else none else some (.inr v1))
def Bt (n:Nat) (a0:(List aQ)):Option Int:=
 (KF n a0).bind fun r1=>(iter (wE r1) n ((0:Int),(0:Int))).bind fun w1=>some w1
def sZ (a0:aj) (a1:aj):Option Bool:=
 (bif (decide ((max a1.x0 a0.x0) < ((min a1.x1 a0.x1):Int)))then some (decide ((max a1.y0 a0.y0) < ((min a1.y1 a0.y1):Int)))else some false)
def Fb (a0:(List aj)) (a1:(aj×Unit)->Option Bool):Int->Option (Int ⊕ (Unit ⊕ Int))
 |v1=>(bif (decide (v1 < ((a0.length:Int):Int)))then (at? a0 v1).bind fun x1=>(a1 (x1,())).bind fun r1=>(bif r1 then (some v1).map fun a=> .inr (.inr a)else some (.inl (i64.wrap (v1+1))))else some (.inr (.inl ())))
def qJ (n:Nat) (a0:(List aj)) (a1:(aj×Unit)->Option Bool):Option Int:=
 dw (iter (Fb a0 a1) n (0:Int)) fun ()=>some ((-1):Int)
def fT (n:Nat) (a0:(List aj)) (a1:(aj×Unit)->Option Bool):Option Bool:=
 (qJ n a0 a1).bind fun r1=>some (decide (r1>=(0:Int)))
def CZ (n:Nat) (a0:aj) (a1:(List aj)):Option Bool:=
 (fT n a1 (fun (y1:aj×Unit)=>sZ y1.1 a0)).bind fun r1=>some r1
def Qg (n:Nat) (a0:(List aj)) (a1:(List aj)):Option Bool:=
 (fT n a0 (fun (y1:aj×Unit)=>CZ n y1.1 a1)).bind fun r1=>some r1
def ou (n:Nat) (a0:aQ) (a1:aV):Option Bool:=
 (bif (decide (a0.z1>(a1.top:Int)))then (Qg n a0.area a1.area).bind fun r1=>some r1 else some false)
def ji (a0:(List aQ)) (a1:(aQ×Unit)->Option Bool):Int->Option (Int ⊕ (Unit ⊕ Int))
 |v1=>(bif (decide (v1 < ((a0.length:Int):Int)))then (at? a0 v1).bind fun x1=>(a1 (x1,())).bind fun r1=>(bif r1 then (some v1).map fun a=> .inr (.inr a)else some (.inl (i64.wrap (v1+1))))else some (.inr (.inl ())))
def qK (n:Nat) (a0:(List aQ)) (a1:(aQ×Unit)->Option Bool):Option Int:=
 dw (iter (ji a0 a1) n (0:Int)) fun ()=>some ((-1):Int)
def fU (n:Nat) (a0:(List aQ)) (a1:(aQ×Unit)->Option Bool):Option Bool:=
 (qK n a0 a1).bind fun r1=>some (decide (r1>=(0:Int)))
def tq (n:Nat) (a0:(List aV)) (a1:Int) (a2:(List aQ)):Int->Option (Int ⊕ (Unit ⊕ Bool))
 |v1=>(bif (decide (v1 < ((a0.length:Int):Int)))then dw ((at? a0 v1).bind fun x1=>((bif (x1.lot != (a1:Int))then some true else (kT n x1.area).bind fun r2=>some (!r2)):Option (Bool)).bind fun v2=>(bif v2 then some (.inl ())else (fU n a2 (fun (y1:aQ×Unit)=>ou n y1.1 x1)).bind fun r3=>(bif r3 then ((some false).map fun a=> .inr (.inr a)).map .inr else some (.inl ()))):Option ((Unit) ⊕ _)) fun ()=>some (.inl (i64.wrap (v1+1)))else some (.inr (.inl ())))
def C8 (n:Nat) (a0:(List aV)) (a1:Int) (a2:(List aQ)):Option Bool:=
 (uz n a2).bind fun r1=>(bif (!r1)then some false else dw (iter (tq n a0 a1 a2) n (0:Int)) fun ()=>some true)
def vo (a0:aj) (a1:Int) (a2:Int):Option Kr:=
 some (Kr.mk (i64.wrap (a1 - a0.x0)) (i64.wrap ((i64.wrap (a0.x1 - 1)) - a1)) (i64.wrap (a2 - a0.y0)) (i64.wrap ((i64.wrap (a0.y1 - 1)) - a2)))
def wF (a0:aj) (a1:(List aW)) (a2:Int) (a3:Int) (r1:Kr):(Int×Int)->Option ((Int×Int) ⊕ Int)
 |(v1,v2)=>(bif (decide (v2 < ((a1.length:Int):Int)))then (at? a1 v2).bind fun x1=>bif inb x1.side 4 then (at? ([r1.a0,r1.a1,r1.a2,r1.a3]:List Int) x1.side).bind fun x2=>(lZ (i64.wrap (x1.num*x2)) x1.den).bind fun r2=>some (.inl ((min v1 (i64.wrap (x1.base+r2))),(i64.wrap (v2+1))))else none else some (.inr v1))
def Gx (n:Nat) (a0:aj) (a1:(List aW)) (a2:Int) (a3:Int):Option Int:=
 (vo a0 a2 a3).bind fun r1=>(iter (wF a0 a1 a2 a3 r1) n ((4096:Int),(0:Int))).bind fun w1=>some w1
def kV (n:Nat) (a0:aj) (a1:(List aW)) (x1:aj) (x2:Int):(Int×Int)->Option ((Int×Int) ⊕ Int)
 |(v5,v6)=>(bif (decide (v6 < (((2:Nat):Int):Int)))then bif inb v6 2 then (at? ([x1.y0,(i64.wrap (x1.y1 - 1))]:List Int) ((0:Nat)+v6:Int)).bind fun x3=>(Gx n a0 a1 x2 x3).bind fun r1=>some (.inl ((min v5 r1),(i64.wrap (v6+1))))else none else some (.inr v5))
def kW (n:Nat) (a0:aj) (a1:(List aW)) (x1:aj):(Int×Int)->Option ((Int×Int) ⊕ Int)
 |(v3,v4)=>(bif (decide (v4 < (((2:Nat):Int):Int)))then bif inb v4 2 then (at? ([x1.x0,(i64.wrap (x1.x1 - 1))]:List Int) ((0:Nat)+v4:Int)).bind fun x2=>(iter (kV n a0 a1 x1 x2) n (v3,(0:Int))).bind fun w1=>some (.inl (w1,(i64.wrap (v4+1))))else none else some (.inr v3))
def oK (n:Nat) (a0:aj) (a1:(List aW)) (a2:(List aj)):(Int×Int)->Option ((Int×Int) ⊕ Int)
 |(v1,v2)=>(bif (decide (v2 < ((a2.length:Int):Int)))then (at? a2 v2).bind fun x1=>(iter (kW n a0 a1 x1) n (v1,(0:Int))).bind fun w2=>some (.inl (w2,(i64.wrap (v2+1))))else some (.inr v1))
def wG (n:Nat) (a0:aj) (a1:(List aW)) (a2:(List aj)):Option Int:=
 (iter (oK n a0 a1 a2) n ((4096:Int),(0:Int))).bind fun w3=>some w3
def oL (n:Nat) (a0:aQ) (a1:aj) (a2:(List aW)):Option Bool:=
 (wG n a1 a2 a0.area).bind fun r1=>some (decide (r1 < (a0.z1:Int)))
def qL (n:Nat) (a0:aj) (a1:(List aW)) (a2:(List aQ)):Option Bool:=
 ((uq n a0 a1).bind fun r1=>(bif (!r1)then some true else (uz n a2).bind fun r2=>some (!r2)):Option (Bool)).bind fun v1=>(bif v1 then some false else (fU n a2 (fun (y1:aQ×Unit)=>oL n y1.1 a0 a1)).bind fun r3=>some (!r3))
def KG (a0:(List aQ)) (a1:Int):Int->Option (Int ⊕ (Unit ⊕ (List aj)))
 |v1=>(bif (decide (v1 < ((a0.length:Int):Int)))then (at? a0 v1).bind fun x1=>((bif (decide (x1.z0<=(a1:Int)))then some (decide (a1 < (x1.z1:Int)))else some false):Option (Bool)).bind fun v2=>(bif v2 then (some x1.area).map fun a=> .inr (.inr a)else some (.inl (i64.wrap (v1+1))))else some (.inr (.inl ())))
def ac1 (n:Nat) (a0:(List aQ)) (a1:Int):Option (List aj):=
 dw (iter (KG a0 a1) n (0:Int)) fun ()=>some ([]:(List aj))
def xS (n:Nat) (a0:(List aQ)) (a1:Int):Option (List aj):=
 (uz n a0).bind fun r1=>(bif (!r1)then some ([]:(List aj))else (ac1 n a0 a1).bind fun r2=>(nY r2).bind fun r3=>bif eqL (sub r3 0 r3.length).length r3.length then some (sub r3 0 r3.length)else none)
def fC (n:Nat) (r3:(List (List aj))×Int):(Int×Int)->Option ((Int×Int) ⊕ Int)
 |(v1,v2)=>(bif (decide (v2 < (((sub r3.1 0 r3.1.length).length:Int):Int)))then (at? (sub r3.1 0 r3.1.length) v2).bind fun x1=>(Qe n x1).bind fun r7=>some (.inl ((i64.wrap (v1+(i64.wrap (3*r7)))),(i64.wrap (v2+1))))else some (.inr v1))
def fD (r11:(List aW)):(Bool×Int)->Option ((Bool×Int) ⊕ Bool)
 |(v4,v5)=>(bif (decide (v5 < (((r11.length:Nat):Int):Int)))then ((bif v4 then bif inb v5 r11.length then (at? r11 ((0:Nat)+v5:Int)).bind fun x2=>(uo x2).bind fun r12=>some r12 else none else some false):Option (Bool)).bind fun v6=>some (.inl (v6,(i64.wrap (v5+1))))else some (.inr v4))
def kJ (n:Nat) (a0:dR) (a1:Int) (a2:Int) (a3:Int) (a4:Int):Option Bool:=
 (Br n).bind fun r1=>(Qd n a0).bind fun r2=>(bif (!r2)then some r1 else (envelope_Rooms n a0 a1 a2 a3).bind fun r3=>bif eqL (sub r3.1 0 r3.1.length).length r3.1.length then (bif (r3.2 != (0:Int))then (bif r1 then some (((sub r3.1 0 r3.1.length).length:Int)==(0:Int))else some false)else (jT n (sub r3.1 0 r3.1.length)).bind fun r4=>(CQ n a0.land a1).bind fun r5=>(wX n r5.1.area).bind fun r6=>(iter (fC n r3) n ((0:Int),(0:Int))).bind fun w1=>((bif (((sub r3.1 0 r3.1.length).length:Int) != (a3:Int))then some true else (bif (r4.2 != (0:Int))then some true else bif eqL (sub r4.1 0 r4.1.length).length r4.1.length then (uz n (sub r4.1 0 r4.1.length)).bind fun r8=>(bif (!r8)then some true else bif eqL (sub r4.1 0 r4.1.length).length r4.1.length then (Bt n (sub r4.1 0 r4.1.length)).bind fun r9=>(bif (r9 != (w1:Int))then some true else bif eqL (sub r4.1 0 r4.1.length).length r4.1.length then (C8 n a0.easements a1 (sub r4.1 0 r4.1.length)).bind fun r10=>some (!r10)else none)else none)else none)):Option (Bool)).bind fun v3=>(bif v3 then some false else (gM n a0 a1 a2).bind fun r11=>(iter (fD r11) n (true,(0:Int))).bind fun w2=>((bif r6.2 then (bif w2 then bif eqL (sub r11 0 r11.length).length r11.length then bif eqL (sub r4.1 0 r4.1.length).length r4.1.length then (qL n r6.1 (sub r11 0 r11.length) (sub r4.1 0 r4.1.length)).bind fun r13=>(bif (!r13)then some true else (bif (!w2)then some (decide (w1>(0:Int)))else some false))else none else none else (bif (!w2)then some (decide (w1>(0:Int)))else some false))else (bif (!w2)then some (decide (w1>(0:Int)))else some false)):Option (Bool)).bind fun v7=>(bif v7 then some false else ((bif (decide (a4 < (0:Int)))then some true else some (decide (a4>=((i64.wrap (3*a3)):Int)))):Option (Bool)).bind fun v8=>(bif v8 then (bif r1 then (bif (decide (a4 < (0:Int)))then some true else bif eqL (sub r4.1 0 r4.1.length).length r4.1.length then (xS n (sub r4.1 0 r4.1.length) a4).bind fun r14=>some (((r14.length:Nat):Int)==(0:Int))else none)else some false)else (bif r1 then bif eqL (sub r4.1 0 r4.1.length).length r4.1.length then (xS n (sub r4.1 0 r4.1.length) a4).bind fun r15=>bif 3 != 0 then (at? (sub r3.1 0 r3.1.length) (i64.wrap (Int.tdiv a4 3))).bind fun x3=>bif eqL (sub r15 0 r15.length).length r15.length then (xR n (sub r15 0 r15.length) x3).bind fun r16=>some r16 else none else none else none else some false)))))else none)
end
end Go.Proofs
