/-
  Printed by wip/gen: what functions of the program compute.
-/
import Derived.Test.YtbploijhogfmnaaGreatTD1
open Go.IntKind (i64)
namespace Go.Proofs
open Go.Gb Go.RowKit
noncomputable section
def FQ (n:Nat) (a0:(List ak)):Option (List (List ak)):=
 (wX n a0).bind fun r1=>(bif (!r1)then some ([]:(List (List ak)))else (oI a0).bind fun r2=>bif eqL (0+r2.length) r2.length then bif eqL 0 ([]:List (List ak)).length then (iter (pQ n) n (((0:Nat):Int),r2,([]:List (List ak)))).bind fun w4=>bif eqL (sub w4 0 w4.length).length w4.length then some (sub w4 0 w4.length)else none else none else none)
def Bd (n:Nat) (a0:bM):Option Bool:=
 (xg a0.id).bind fun r1=>(bif r1 then (FP a0.owner).bind fun r2=>(bif r2 then (rq n a0.from_).bind fun r3=>(bif r3 then (iE n a0.from_ (fun (y1:Int×Unit)=>uW y1.1)).bind fun r4=>(bif (!r4)then (FQ n a0.area).bind fun r5=>some (((r5.length:Nat):Int)==(1:Int))else some false)else some false)else some false)else some false)
def oL (a0:ak) (a1:ak):Option Bool:=
 (bif (decide ((max a1.x0 a0.x0) < ((min a1.x1 a0.x1):Int)))then some (decide ((max a1.y0 a0.y0) < ((min a1.y1 a0.y1):Int)))else some false)
def dZ (n:Nat) (a0:(List ak)) (a1:(ak×Unit)->Option Bool):Option Bool:=
 (mZ n a0 a1).bind fun r1=>some (decide (r1>=(0:Int)))
def yU (n:Nat) (a0:ak) (a1:(List ak)):Option Bool:=
 (dZ n a1 (fun (y1:ak×Unit)=>oL y1.1 a0)).bind fun r1=>some r1
def J7 (n:Nat) (a0:(List ak)) (a1:(List ak)):Option Bool:=
 (dZ n a0 (fun (y1:ak×Unit)=>yU n y1.1 a1)).bind fun r1=>some r1
def pR (x1:bM):(Int×(List (Int×Bool)))->Option ((Int×(List (Int×Bool))) ⊕ (List (Int×Bool)))
 |(v5,v6)=>(bif (decide (v5 < ((x1.from_.length:Int):Int)))then (at? x1.from_ v5).bind fun x3=>some (.inl ((i64.wrap (v5+1)),(jq iEq x3 true v6)))else some (.inr v6))
def pU (n:Nat) (a0:(List bM)):(Int×(List (Int×Bool))×(List (Int×Bool)))->Option ((Int×(List (Int×Bool))×(List (Int×Bool))) ⊕ (((List (Int×Bool))×(List (Int×Bool))) ⊕ Bool))
 |(v1,v2,v3)=>(bif (decide (v1 < ((a0.length:Int):Int)))then (at? a0 v1).bind fun x1=>((Bd n x1).bind fun r1=>(bif (!r1)then some true else (bif (decide (v1>(0:Int)))then (at? a0 (i64.wrap (v1 - 1))).bind fun x2=>some (decide (x2.id>=(x1.id:Int)))else some false)):Option (Bool)).bind fun v4=>(bif v4 then (some false).map fun a=> .inr (.inr a)else (iter (pR x1) n ((0:Int),v3)).bind fun w1=>some (.inl ((i64.wrap (v1+1)),(jq iEq x1.id true v2),w1)))else some (.inr (.inl (v2,v3))))
def Be (w2:(List (Int×Bool))):Int->Unit->Option (Unit ⊕ Bool)
 |kx,()=>(bif ((eD iEq kx w2).getD false)then (some false).map .inr else some (.inl ()))
def uX (n:Nat) (a0:(List bM)) (v7:Int):Int->Option (Int ⊕ (Unit ⊕ (Int ⊕ (Unit ⊕ Bool))))
 |v8=>(bif (decide (v8 < (v7:Int)))then (at? a0 v7).bind fun x4=>(at? a0 v8).bind fun x5=>(J7 n x4.area x5.area).bind fun r2=>(bif r2 then ((some false).map fun a=> .inr (.inr a)).map fun a=> .inr (.inr a)else some (.inl (i64.wrap (v8+1))))else some (.inr (.inl ())))
def pV (n:Nat) (a0:(List bM)):Int->Option (Int ⊕ (Unit ⊕ Bool))
 |v7=>(bif (decide (v7 < ((a0.length:Int):Int)))then dm (iter (uX n a0 v7) n (0:Int)) fun ()=>some (.inl (i64.wrap (v7+1)))else some (.inr (.inl ())))
def FR (n:Nat) (a0:(List bM)):Option Bool:=
 (bif (decide ((a0.length:Int)>(20000:Int)))then some false else dm (iter (pU n a0) n ((0:Int),([]:(List (Int×Bool))),([]:(List (Int×Bool))))) fun (w2,w3)=>allEq fun _=>aai (Cb (List.map (fun p=>p.1) w3) fun ks=>Fa (Be w2) ks ()) fun (ww:Unit)=>match ww with |()=>dm (iter (pV n a0) n (0:Int)) fun ()=>some true)
def fJ (n:Nat) (a0:GTown) (a1:aQ) (v2:Int):(Int×Int)->Option ((Int×Int) ⊕ Int)
 |(v3,v4)=>(at? a1.phases v2).bind fun x1=>(bif (decide (v4 < ((x1.volumes.length:Int):Int)))then ((at? a1.phases v2).bind fun x2=>(at? x2.volumes v4).bind fun x3=>(FO x3.use).bind fun r3=>(bif (!(ByteArray.toList r3==ByteArray.toList (⟨#[]⟩)))then (yT n (dn.mk a0.plan_defs a0.plan_tables a0.plan_zones a0.plan_rules a0.plan_caps a0.plan_views a0.plan_sun a0.plan_hours) ([]) ([]) (aW.mk 2 0 (⟨#[110,111,116,105,99,101]⟩) r3 ([]))).bind fun r4=>some (max v3 r4)else some v3):Option (Int)).bind fun v5=>some (.inl (v5,(i64.wrap (v4+1))))else some (.inr v3))
def fK (n:Nat) (a0:GTown) (a1:aQ):(Int×Int)->Option ((Int×Int) ⊕ Int)
 |(v1,v2)=>(bif (decide (v2 < ((a1.phases.length:Int):Int)))then (iter (fJ n a0 a1 v2) n (v1,(0:Int))).bind fun w1=>some (.inl (w1,(i64.wrap (v2+1))))else some (.inr v1))
def jk (n:Nat) (a0:GTown) (r6:bM×Bool) (r7:(List Int)):Int->Option (Int ⊕ (Unit ⊕ Bool))
 |v6=>(bif (decide (v6 < (((sub r7 0 r7.length).length:Int):Int)))then (at? (sub r7 0 r7.length) v6).bind fun x4=>(mQ n a0.land x4).bind fun r8=>(Hr n r6.1.area r8.1.area).bind fun r9=>((bif (!r8.2)then some true else (bif r9.2 then (bif (r9.1 != (0:Int))then (FR n a0.land).bind fun r10=>some r10 else some false)else some false)):Option (Bool)).bind fun v7=>(bif v7 then (some false).map fun a=> .inr (.inr a)else some (.inl (i64.wrap (v6+1))))else some (.inr (.inl ())))
def lF (n:Nat) (a0:GTown) (a1:aQ):Option Bool:=
 (Ch n).bind fun r1=>(FN n a0 a1).bind fun r2=>(bif (!r2)then some r1 else (iter (fK n a0 a1) n ((0:Int),(0:Int))).bind fun w2=>(yT n (dn.mk a0.plan_defs a0.plan_tables a0.plan_zones a0.plan_rules a0.plan_caps a0.plan_views a0.plan_sun a0.plan_hours) ([]) ([]) (aW.mk 2 0 (⟨#[110,111,116,105,99,101]⟩) (⟨#[100,97,121,115]⟩) ([]))).bind fun r5=>(mQ n a0.land a1.lot).bind fun r6=>(uR n (GTown.mk a0.plan_defs ([]) a0.plan_zones a0.plan_rules a0.plan_caps a0.plan_views a0.plan_sun a0.plan_hours a0.land a0.easements a0.windows a0.built a0.base) a1).bind fun r7=>bif eqL (sub r7 0 r7.length).length r7.length then dm (iter (jk n a0 r6 r7) n (0:Int)) fun ()=>(bif r1 then (dw n (dn.mk a0.plan_defs a0.plan_tables a0.plan_zones a0.plan_rules a0.plan_caps a0.plan_views a0.plan_sun a0.plan_hours) a1).bind fun r11=>(bif (r11==(w2:Int))then (yI n (dn.mk a0.plan_defs a0.plan_tables a0.plan_zones a0.plan_rules a0.plan_caps a0.plan_views a0.plan_sun a0.plan_hours)).bind fun r12=>(bif (r12==((max (0:Int) r5):Int))then (dw n (dn.mk a0.plan_defs ([]) a0.plan_zones a0.plan_rules a0.plan_caps a0.plan_views a0.plan_sun a0.plan_hours) a1).bind fun r13=>some (r13==(0:Int))else some false)else some false)else some false)else none)
end
end Go.Proofs
