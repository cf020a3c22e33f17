/-
  Printed by wip/gen: what functions of the program compute.
-/
import Derived.Test.YtbploijhogfmnaaGreatTBase
open Go.IntKind (i64)
namespace Go.Proofs
open Go.Gb Go.RowKit
noncomputable section
def J5 (a0:Int) (a1:Int):Option (List ak):=
 bif eqL (sub ([(ak.mk a0 0 a1 4)]:List ak) 0 1).length 1 then some (sub ([(ak.mk a0 0 a1 4)]:List ak) 0 1)else none
def DZ:Option GTown:=
 (J5 0 4).bind fun r1=>(J5 5 8).bind fun r2=>(J5 12 14).bind fun r3=>bif eqL (sub r1 0 r1.length).length r1.length then bif eqL (sub r2 0 r2.length).length r2.length then bif eqL (sub r3 0 r3.length).length r3.length then bif eqL (sub ([(bL.mk (⟨#[104,111,109,101]⟩) 2),(bL.mk (⟨#[112,108,97,110,116]⟩) 9),(bL.mk (⟨#[100,97,121,115]⟩) 14)]:List bL) 0 3).length 3 then bif eqL (sub ([(bB.mk (⟨#[110,111,116,105,99,101]⟩) (sub ([(bL.mk (⟨#[104,111,109,101]⟩) 2),(bL.mk (⟨#[112,108,97,110,116]⟩) 9),(bL.mk (⟨#[100,97,121,115]⟩) 14)]:List bL) 0 3) 1)]:List bB) 0 1).length 1 then bif eqL (sub ([(bM.mk 1 7 (sub r1 0 r1.length) ([])),(bM.mk 2 7 (sub r2 0 r2.length) ([])),(bM.mk 3 5 (sub r3 0 r3.length) ([]))]:List bM) 0 3).length 3 then some (GTown.mk ([]) (sub ([(bB.mk (⟨#[110,111,116,105,99,101]⟩) (sub ([(bL.mk (⟨#[104,111,109,101]⟩) 2),(bL.mk (⟨#[112,108,97,110,116]⟩) 9),(bL.mk (⟨#[100,97,121,115]⟩) 14)]:List bL) 0 3) 1)]:List bB) 0 1) ([]) ([]) ([]) ([]) ([]) 0 (sub ([(bM.mk 1 7 (sub r1 0 r1.length) ([])),(bM.mk 2 7 (sub r2 0 r2.length) ([])),(bM.mk 3 5 (sub r3 0 r3.length) ([]))]:List bM) 0 3) ([]) ([]) ([]) ([]))else none else none else none else none else none else none
def MH (a0:Int) (a1:Int) (a2:Int):Option aQ:=
 bif eqL (sub ([(eY.mk 0 0 0 0 0 0 a1 0 false)]:List eY) 0 1).length 1 then bif eqL (sub ([(eY.mk 0 0 0 0 0 0 a2 0 false)]:List eY) 0 1).length 1 then bif eqL (sub ([(kM.mk (sub ([(eY.mk 0 0 0 0 0 0 a1 0 false)]:List eY) 0 1) ([])),(kM.mk (sub ([(eY.mk 0 0 0 0 0 0 a2 0 false)]:List eY) 0 1) ([]))]:List kM) 0 2).length 2 then some (aQ.mk a0 (sub ([(kM.mk (sub ([(eY.mk 0 0 0 0 0 0 a1 0 false)]:List eY) 0 1) ([])),(kM.mk (sub ([(eY.mk 0 0 0 0 0 0 a2 0 false)]:List eY) 0 1) ([]))]:List kM) 0 2))else none else none else none
def zK (a0:(List bB)) (a1:(bB×Unit)->Option Bool):Int->Option (Int ⊕ (Unit ⊕ Int))
 |v1=>(bif (decide (v1 < ((a0.length:Int):Int)))then (at? a0 v1).bind fun x1=>(a1 (x1,())).bind fun r1=>(bif r1 then (some v1).map fun a=> .inr (.inr a)else some (.inl (i64.wrap (v1+1))))else some (.inr (.inl ())))
def jc (n:Nat) (a0:(List bB)) (a1:(bB×Unit)->Option Bool):Option Int:=
 dm (iter (zK a0 a1) n (0:Int)) fun ()=>some ((-1):Int)
def PO (a0:bB):Option Bool:=
 some (ByteArray.toList a0.name==ByteArray.toList (⟨#[110,111,116,105,99,101]⟩))
def PS (a0:bL) (a1:ByteArray):Option Bool:=
 some (ByteArray.toList a0.name==ByteArray.toList a1)
def zL (a0:(List bL)) (a1:(bL×Unit)->Option Bool):Int->Option (Int ⊕ (Unit ⊕ Int))
 |v1=>(bif (decide (v1 < ((a0.length:Int):Int)))then (at? a0 v1).bind fun x1=>(a1 (x1,())).bind fun r1=>(bif r1 then (some v1).map fun a=> .inr (.inr a)else some (.inl (i64.wrap (v1+1))))else some (.inr (.inl ())))
def jd (n:Nat) (a0:(List bL)) (a1:(bL×Unit)->Option Bool):Option Int:=
 dm (iter (zL a0 a1) n (0:Int)) fun ()=>some ((-1):Int)
def Hl (n:Nat) (a0:dn) (a1:ByteArray):Option Int:=
 (jc n a0.tables (fun (y1:bB×Unit)=>PO y1.1)).bind fun r1=>(bif (decide (r1 < (0:Int)))then some (0:Int)else (at? a0.tables r1).bind fun x1=>(jd n x1.rows (fun (y2:bL×Unit)=>PS y2.1 a1)).bind fun r2=>(bif (decide (r2 < (0:Int)))then some x1.else_ else (at? x1.rows r2).bind fun x2=>some x2.n))
def jS (n:Nat) (a0:dn) (x1:kM):(Int×Int)->Option ((Int×Int) ⊕ Int)
 |(v3,v4)=>(bif (decide (v4 < ((x1.volumes.length:Int):Int)))then ((at? x1.volumes v4).bind fun x2=>((bif (decide (x2.use>=(0:Int)))then some (decide (x2.use < (6:Int)))else some false):Option (Bool)).bind fun v5=>(bif v5 then bif inb x2.use 6 then (at? ([⟨#[104,111,109,101]⟩,⟨#[115,104,111,112]⟩,⟨#[119,111,114,107]⟩,⟨#[112,97,114,107]⟩,⟨#[112,108,97,110,116]⟩,⟨#[104,97,108,108]⟩]:List ByteArray) x2.use).bind fun x3=>(Hl n a0 x3).bind fun r1=>some (max v3 r1)else none else some v3):Option (Int)).bind fun v6=>some (.inl (v6,(i64.wrap (v4+1))))else some (.inr v3))
def mO (n:Nat) (a0:dn) (a1:aQ):(Int×Int)->Option ((Int×Int) ⊕ Int)
 |(v1,v2)=>(bif (decide (v2 < ((a1.phases.length:Int):Int)))then (at? a1.phases v2).bind fun x1=>(iter (jS n a0 x1) n (v1,(0:Int))).bind fun w1=>some (.inl (w1,(i64.wrap (v2+1))))else some (.inr v1))
def dw (n:Nat) (a0:dn) (a1:aQ):Option Int:=
 (iter (mO n a0 a1) n ((0:Int),(0:Int))).bind fun w2=>some w2
def yI (n:Nat) (a0:dn):Option Int:=
 (Hl n a0 (⟨#[100,97,121,115]⟩)).bind fun r1=>some (max (0:Int) r1)
def oI (a0:(List ak)):Option (List ak):=
 (bif a0.isEmpty then (both (some ([]:(List ak))) (bif bO ([]:List ak).length 0 a0.length a0.length 32 then oO (([]:List ak)++a0) fun r1=>bif eqL (sub r1 0 r1.length).length r1.length then some (sub r1 0 r1.length)else none else none))else bif bO ([]:List ak).length 0 a0.length a0.length 32 then oO (([]:List ak)++a0) fun r2=>bif eqL (sub r2 0 r2.length).length r2.length then some (sub r2 0 r2.length)else none else none)
def yJ (a0:(List Int)):Option (List Int):=
 (bif a0.isEmpty then (both (some ([]:(List Int))) (bif bO ([]:List Int).length 0 a0.length a0.length 8 then oO (([]:List Int)++a0) fun r1=>bif eqL (sub r1 0 r1.length).length r1.length then some (sub r1 0 r1.length)else none else none))else bif bO ([]:List Int).length 0 a0.length a0.length 8 then oO (([]:List Int)++a0) fun r2=>bif eqL (sub r2 0 r2.length).length r2.length then some (sub r2 0 r2.length)else none else none)
def FD (a0:bM):Option bM:=
 (oI a0.area).bind fun r1=>(yJ a0.from_).bind fun r2=>bif eqL (sub r1 0 r1.length).length r1.length then bif eqL (sub r2 0 r2.length).length r2.length then some (bM.mk a0.id a0.owner (sub r1 0 r1.length) (sub r2 0 r2.length))else none else none
def yK (a0:(List bM)) (a1:Int):Int->Option (Int ⊕ (Unit ⊕ (bM×Bool)))
 |v1=>(bif (decide (v1 < ((a0.length:Int):Int)))then (at? a0 v1).bind fun x1=>(bif (x1.id==(a1:Int))then (FD x1).bind fun r1=>(some (r1,true)).map fun a=> .inr (.inr a)else some (.inl (i64.wrap (v1+1))))else some (.inr (.inl ())))
def mQ (n:Nat) (a0:(List bM)) (a1:Int):Option (bM×Bool):=
 dm (iter (yK a0 a1) n (0:Int)) fun ()=>some ((bM.mk 0 0 ([]) ([])),false)
def uQ (a0:ak):Option Bool:=
 (bif (decide (0<=(a0.x0:Int)))then (bif (decide (a0.x0 < (a0.x1:Int)))then (bif (decide (a0.x1<=(1048576:Int)))then (bif (decide (0<=(a0.y0:Int)))then (bif (decide (a0.y0 < (a0.y1:Int)))then some (decide (a0.y1<=(1048576:Int)))else some false)else some false)else some false)else some false)else some false)
def FE (a0:Unit) (a1:Int):Option (List ak):=
 (bif (decide (a1 < (0:Int)))then none else (bif (decide ((i64.wrap (a1 - (i64.wrap (0 - 0))))>(0:Int)))then bif ER (i64.wrap (a1 - (i64.wrap (0 - 0)))) 32 then bif kI 0 0 ((i64.wrap (a1 - (i64.wrap (0 - 0)))).toNat)then bif eqL (sub (List.replicate (i64.wrap (a1 - (i64.wrap (0 - 0)))).toNat (ak.mk 0 0 0 0)) 0 0).length 0 then some (sub (List.replicate (i64.wrap (a1 - (i64.wrap (0 - 0)))).toNat (ak.mk 0 0 0 0)) 0 0)else none else none else none else some ([]:(List ak))))
def FH (a0:(List (List ak))):(Int×Int)->Option ((Int×Int) ⊕ Int)
 |(v1,v2)=>(bif (decide (v2 < ((a0.length:Int):Int)))then (at? a0 v2).bind fun x1=>(bif (decide ((i64.wrap (v1+(x1.length:Int))) < (0:Int)))then none else some (.inl ((i64.wrap (v1+(x1.length:Int))),(i64.wrap (v2+1)))))else some (.inr v1))
def FI (a0:(List (List ak))):(Int×(List ak))->Option ((Int×(List ak)) ⊕ (List ak))
 |(v3,v4)=>(bif (decide (v3 < ((a0.length:Int):Int)))then (at? a0 v3).bind fun x2=>bif bO v4.length v4.length x2.length x2.length 32 then oO (v4++x2) fun r2=>bif eqL r2.length r2.length then some (.inl ((i64.wrap (v3+1)),r2))else none else none else bif eqL v4.length v4.length then some (.inr v4)else none)
def sM (n:Nat) (a0:(List (List ak))):Option (List ak):=
 (iter (FH a0) n ((0:Int),(0:Int))).bind fun w1=>(FE () w1).bind fun r1=>bif eqL r1.length r1.length then (iter (FI a0) n ((0:Int),r1)).bind fun w2=>bif eqL (sub w2 0 w2.length).length w2.length then some (sub w2 0 w2.length)else none else none
def bits_Len64 (a0:Int):Option Int:=
 ((bif (decide (a0>=(4294967296:Int)))then bif (decide (0<=32)&&decide (32<=IntKind.u64.bits))then some ((a0/2 ^ (32:Int).toNat),(32:Int))else none else some (a0,(0:Int))):Option (Int×Int)).bind fun (v1,v2)=>((bif (decide (v1>=(65536:Int)))then bif (decide (0<=16)&&decide (16<=IntKind.u64.bits))then some ((v1/2 ^ (16:Int).toNat),(i64.wrap (v2+16)))else none else some (v1,v2)):Option (Int×Int)).bind fun (v3,v4)=>((bif (decide (v3>=(256:Int)))then bif (decide (0<=8)&&decide (8<=IntKind.u64.bits))then some ((v3/2 ^ (8:Int).toNat),(i64.wrap (v4+8)))else none else some (v3,v4)):Option (Int×Int)).bind fun (v5,v6)=>(O3 (⟨#[0,1,2,2,3,3,3,3,4,4,4,4,4,4,4,4,5,5,5,5,5,5,5,5,5,5,5,5,5,5,5,5,6,6,6,6,6,6,6,6,6,6,6,6,6,6,6,6,6,6,6,6,6,6,6,6,6,6,6,6,6,6,6,6,7,7,7,7,7,7,7,7,7,7,7,7,7,7,7,7,7,7,7,7,7,7,7,7,7,7,7,7,7,7,7,7,7,7,7,7,7,7,7,7,7,7,7,7,7,7,7,7,7,7,7,7,7,7,7,7,7,7,7,7,7,7,7,7,8,8,8,8,8,8,8,8,8,8,8,8,8,8,8,8,8,8,8,8,8,8,8,8,8,8,8,8,8,8,8,8,8,8,8,8,8,8,8,8,8,8,8,8,8,8,8,8,8,8,8,8,8,8,8,8,8,8,8,8,8,8,8,8,8,8,8,8,8,8,8,8,8,8,8,8,8,8,8,8,8,8,8,8,8,8,8,8,8,8,8,8,8,8,8,8,8,8,8,8,8,8,8,8,8,8,8,8,8,8,8,8,8,8,8,8,8,8,8,8,8,8,8,8,8,8,8,8]⟩) (IntKind.u8.wrap v5)).bind fun x1=>some (i64.wrap (v6+(i64.wrap x1)))
def bits_Len (a0:Int):Option Int:=
 (bits_Len64 a0).bind fun r1=>some r1
def cmp_isNaN_int (a0:Int):Option Bool:=
 some (a0 != (a0:Int))
def cmp_Less_int (a0:Int) (a1:Int):Option Bool:=
 (cmp_isNaN_int a0).bind fun r1=>(bif r1 then (cmp_isNaN_int a1).bind fun r2=>(bif (!r2)then some true else some (decide (a0 < (a1:Int))))else some (decide (a0 < (a1:Int))))
def qX (n:Nat) (a0:(List Int)) (a1:Int) (a2:Int):Option (List Int):=
 jP cmp_Less_int (fun r=>r) n a0 a1 a2
def yL (n:Nat) (a0:(List Int)) (a1:Int) (a2:Int) (a3:Int):Option (List Int):=
 nX cmp_Less_int (fun r=>r) n a0 a1 a2 a3
def yM (n:Nat) (a0:(List Int)) (a1:Int) (a2:Int):Option (List Int):=
 wR cmp_Less_int (fun r=>r) n a0 a1 a2
def aM (a0:Int):Option Int:=
 (bits_Len (IntKind.u64.wrap a0)).bind fun r1=>bif (decide (0<=r1)&&decide (r1<=IntKind.u64.bits))then some (IntKind.u64.wrap (1*2 ^ (r1:Int).toNat))else none
def aP (a0:Int):Option (Int×Int):=
 bif (decide (0<=13)&&decide (13<=IntKind.u64.bits))then bif (decide (0<=7)&&decide (7<=IntKind.u64.bits))then bif (decide (0<=17)&&decide (17<=IntKind.u64.bits))then some ((bits .xor .u64 (bits .xor .u64 (bits .xor .u64 a0 (IntKind.u64.wrap (a0*2 ^ (13:Int).toNat))) ((bits .xor .u64 a0 (IntKind.u64.wrap (a0*2 ^ (13:Int).toNat)))/2 ^ (7:Int).toNat)) (IntKind.u64.wrap ((bits .xor .u64 (bits .xor .u64 a0 (IntKind.u64.wrap (a0*2 ^ (13:Int).toNat))) ((bits .xor .u64 a0 (IntKind.u64.wrap (a0*2 ^ (13:Int).toNat)))/2 ^ (7:Int).toNat))*2 ^ (17:Int).toNat))),(bits .xor .u64 (bits .xor .u64 (bits .xor .u64 a0 (IntKind.u64.wrap (a0*2 ^ (13:Int).toNat))) ((bits .xor .u64 a0 (IntKind.u64.wrap (a0*2 ^ (13:Int).toNat)))/2 ^ (7:Int).toNat)) (IntKind.u64.wrap ((bits .xor .u64 (bits .xor .u64 a0 (IntKind.u64.wrap (a0*2 ^ (13:Int).toNat))) ((bits .xor .u64 a0 (IntKind.u64.wrap (a0*2 ^ (13:Int).toNat)))/2 ^ (7:Int).toNat))*2 ^ (17:Int).toNat))))else none else none else none
def qY (n:Nat) (a0:(List Int)) (a1:Int) (a2:Int):Option (List Int):=
 iL aM aP n a0 a1 a2
def A7 (a0:(List Int)) (a1:Int) (a2:Int) (a3:Int):Option (Int×Int×Int):=
 yG cmp_Less_int (fun r=>r) a0 a1 a2 a3
def A8 (a0:(List Int)) (a1:Int) (a2:Int) (a3:Int) (a4:Int):Option (Int×Int):=
 uP cmp_Less_int (fun r=>r) a0 a1 a2 a3 a4
def qm (a0:(List Int)) (a1:Int) (a2:Int):Option (Int×Int):=
 bQ cmp_Less_int (fun r=>r) a0 a1 a2
def tY (a0:(List Int)) (a1:Int) (a2:Int):Option (Int×Int):=
 mK cmp_Less_int (fun r=>r) a0 a1 a2
def sN (n:Nat) (a0:(List Int)) (a1:Int) (a2:Int):Option (List Int):=
 jC n a0 a1 a2
def lN (n:Nat) (a0:(List Int)) (a1:Int) (a2:Int):Option (Bool×(List Int)):=
 cu cmp_Less_int (fun r=>r) n a0 a1 a2
def qo (n:Nat) (a0:(List Int)) (a1:Int) (a2:Int) (a3:Int):Option (Int×(List Int)):=
 gq cmp_Less_int (fun r=>r) n a0 a1 a2 a3
def wT (n:Nat) (a0:(List Int)) (a1:Int) (a2:Int) (a3:Int):Option (Int×Bool×(List Int)):=
 nY cmp_Less_int (fun r=>r) n a0 a1 a2 a3
def iO (n:Nat) (rc:((List Int))->(Int)->(Int)->(Int)->Option (List Int)) (a0:(List Int)) (a1:Int) (a2:Int) (a3:Int):Option (List Int):=
 jQ cmp_Less_int (fun r=>r) aM aP n rc a0 a1 a2 a3
def iB (rc:((List Int))->(Int)->(Int)->(Int)->Option (List Int)):Sig xx:=⟨[.mut (.int .i64),.d (.int .i64),.d (.int .i64),.d (.int .i64)],[.mu (.int .i64)],fun a=>rc a.1 a.2.1 a.2.2.1 a.2.2.2.1,none⟩
def dx (n:Nat):Nat->((List Int))->(Int)->(Int)->(Int)->Option (List Int)
 | 0=>fun _ _ _ _=>none
 |m+1=>iO n (dx n m)
def jH (n:Nat) (a0:(List Int)) (a1:Int) (a2:Int) (a3:Int):Option (List Int):=dx n n a0 a1 a2 a3
def l5 (n:Nat) (a0:(List Int)):Option (List Int):=
 (bits_Len (IntKind.u64.wrap ((a0.length:Nat):Int))).bind fun r1=>bif eqL a0.length a0.length then (jH n a0 0 ((a0.length:Nat):Int) r1).bind fun r2=>some r2 else none
def FJ (a0:(List Int)) (v1:Int):(Int×Int×(List Int))->Option ((Int×Int×(List Int)) ⊕ (Int×(List Int)))
 |(v2,v3,v4)=>(bif (decide (v3 < ((((a0.length - (v1:Int).toNat):Nat):Int):Int)))then (bif inb v3 (a0.length - (v1:Int).toNat)then (at? v4 (((0+(v1:Int).toNat):Nat)+v3:Int)).bind fun x3=>bif inb (i64.wrap (v3 - 1)) (a0.length - (v1:Int).toNat)then (at? v4 (((0+(v1:Int).toNat):Nat)+(i64.wrap (v3 - 1)):Int)).bind fun x4=>(bif (x3 != (x4:Int))then bif inb v3 (a0.length - (v1:Int).toNat)then (at? v4 (((0+(v1:Int).toNat):Nat)+v3:Int)).bind fun x5=>bif inb v2 a0.length then (at? v4 ((0:Nat)+v2:Int)).bind fun x6=>some ((i64.wrap (v2+1)),(v4.set ((0:Nat)+v2:Int).toNat x5))else none else none else some (v2,v4))else none else none:Option (Int×(List Int))).bind fun (v5,v6)=>some (.inl (v5,(i64.wrap (v3+1)),v6))else some (.inr (v2,v4)))
def FK (n:Nat) (a0:(List Int)):Int->Option (Int ⊕ (Unit ⊕ (Unit×(List Int))))
 |v1=>(bif (decide (v1 < (((a0.length:Nat):Int):Int)))then bif inb v1 a0.length then (at? a0 ((0:Nat)+v1:Int)).bind fun x1=>bif inb (i64.wrap (v1 - 1)) a0.length then (at? a0 ((0:Nat)+(i64.wrap (v1 - 1)):Int)).bind fun x2=>(bif (x1==(x2:Int))then bif kI v1 ((a0.length:Nat):Int) a0.length then (iter (FJ a0 v1) n (v1,(1:Int),a0)).bind fun (w1,w2)=>bif kI w1 ((a0.length:Nat):Int) a0.length then bif kI 0 w1 a0.length then (bif eqL ((w1:Int).toNat) ((w1:Int).toNat)then bif eqL (sub (w2.take (0+(w1:Int).toNat)) 0 ((w1:Int).toNat)).length ((w1:Int).toNat)then some ((),(sub (w2.take (0+(w1:Int).toNat)) 0 ((w1:Int).toNat)))else none else none).map fun a=> .inr (.inr a)else none else none else none else some (.inl (i64.wrap (v1+1))))else none else none else some (.inr (.inl ())))
def jT (n:Nat) (a0:(List Int)):Option (Unit×(List Int)):=
 (bif (decide (((a0.length:Nat):Int) < (2:Int)))then bif eqL a0.length a0.length then bif eqL (sub a0 0 a0.length).length a0.length then some ((),(sub a0 0 a0.length))else none else none else dm (iter (FK n a0) n (1:Int)) fun ()=>bif eqL a0.length a0.length then bif eqL (sub a0 0 a0.length).length a0.length then some ((),(sub a0 0 a0.length))else none else none)
def qp (n:Nat) (a0:(List aB)) (a1:Int) (a2:Int) (a3:(aB×aB×Unit)->Option Int):Option (List aB):=
 jP (fun x y=>a3 (x,y,())) (fun r=>decide (r < 0)) n a0 a1 a2
def wU (n:Nat) (a0:(List aB)) (a1:Int) (a2:Int) (a3:Int) (a4:(aB×aB×Unit)->Option Int):Option (List aB):=
 nX (fun x y=>a4 (x,y,())) (fun r=>decide (r < 0)) n a0 a1 a2 a3
def wV (n:Nat) (a0:(List aB)) (a1:Int) (a2:Int) (a3:(aB×aB×Unit)->Option Int):Option (List aB):=
 wR (fun x y=>a3 (x,y,())) (fun r=>decide (r < 0)) n a0 a1 a2
def qw (n:Nat) (a0:(List aB)) (a1:Int) (a2:Int) (a3:(aB×aB×Unit)->Option Int):Option (List aB):=
 iL aM aP n a0 a1 a2
def zM (a0:(List aB)) (a1:Int) (a2:Int) (a3:Int) (a4:(aB×aB×Unit)->Option Int):Option (Int×Int×Int):=
 yG (fun x y=>a4 (x,y,())) (fun r=>decide (r < 0)) a0 a1 a2 a3
def zN (a0:(List aB)) (a1:Int) (a2:Int) (a3:Int) (a4:Int) (a5:(aB×aB×Unit)->Option Int):Option (Int×Int):=
 uP (fun x y=>a5 (x,y,())) (fun r=>decide (r < 0)) a0 a1 a2 a3 a4
def pI (a0:(List aB)) (a1:Int) (a2:Int) (a3:(aB×aB×Unit)->Option Int):Option (Int×Int):=
 bQ (fun x y=>a3 (x,y,())) (fun r=>decide (r < 0)) a0 a1 a2
def sO (a0:(List aB)) (a1:Int) (a2:Int) (a3:(aB×aB×Unit)->Option Int):Option (Int×Int):=
 mK (fun x y=>a3 (x,y,())) (fun r=>decide (r < 0)) a0 a1 a2
def qZ (n:Nat) (a0:(List aB)) (a1:Int) (a2:Int) (a3:(aB×aB×Unit)->Option Int):Option (List aB):=
 jC n a0 a1 a2
def kW (n:Nat) (a0:(List aB)) (a1:Int) (a2:Int) (a3:(aB×aB×Unit)->Option Int):Option (Bool×(List aB)):=
 cu (fun x y=>a3 (x,y,())) (fun r=>decide (r < 0)) n a0 a1 a2
def pJ (n:Nat) (a0:(List aB)) (a1:Int) (a2:Int) (a3:Int) (a4:(aB×aB×Unit)->Option Int):Option (Int×(List aB)):=
 gq (fun x y=>a4 (x,y,())) (fun r=>decide (r < 0)) n a0 a1 a2 a3
def vD (n:Nat) (a0:(List aB)) (a1:Int) (a2:Int) (a3:Int) (a4:(aB×aB×Unit)->Option Int):Option (Int×Bool×(List aB)):=
 nY (fun x y=>a4 (x,y,())) (fun r=>decide (r < 0)) n a0 a1 a2 a3
def dW (n:Nat) (rc:((List aB))->(Int)->(Int)->(Int)->((aB×aB×Unit)->Option Int)->Option (List aB)) (a0:(List aB)) (a1:Int) (a2:Int) (a3:Int) (a4:(aB×aB×Unit)->Option Int):Option (List aB):=
 jQ (fun x y=>a4 (x,y,())) (fun r=>decide (r < 0)) aM aP n (fun l a b d=>rc l a b d a4) a0 a1 a2 a3
def fV (rc:((List aB))->(Int)->(Int)->(Int)->((aB×aB×Unit)->Option Int)->Option (List aB)):Sig xx:=⟨[.mut (.st SI.span),.d (.int .i64),.d (.int .i64),.d (.int .i64),.clo [(.st SI.span),(.st SI.span)] (.int .i64)],[.mu (.st SI.span)],fun a=>rc a.1 a.2.1 a.2.2.1 a.2.2.2.1 a.2.2.2.2.1,none⟩
def bE (n:Nat):Nat->((List aB))->(Int)->(Int)->(Int)->((aB×aB×Unit)->Option Int)->Option (List aB)
 | 0=>fun _ _ _ _ _=>none
 |m+1=>dW n (bE n m)
def je (n:Nat) (a0:(List aB)) (a1:Int) (a2:Int) (a3:Int) (a4:(aB×aB×Unit)->Option Int):Option (List aB):=bE n n a0 a1 a2 a3 a4
def kg (n:Nat) (a0:(List aB)) (a1:(aB×aB×Unit)->Option Int):Option (List aB):=
 (bits_Len (IntKind.u64.wrap ((a0.length:Nat):Int))).bind fun r1=>bif eqL a0.length a0.length then (je n a0 0 ((a0.length:Nat):Int) r1 a1).bind fun r2=>some r2 else none
def cmp_Compare_int (a0:Int) (a1:Int):Option Int:=
 (cmp_isNaN_int a0).bind fun r1=>(cmp_isNaN_int a1).bind fun r2=>(bif r1 then (bif r2 then some (0:Int)else some ((-1):Int))else (bif r2 then some (1:Int)else (bif (decide (a0 < (a1:Int)))then some ((-1):Int)else (bif (decide (a0>(a1:Int)))then some (1:Int)else some (0:Int)))))
def q8 (a0:aB) (a1:aB):Option Int:=
 (cmp_Compare_int a0.from_ a1.from_).bind fun r1=>some r1
def mR (a0:(List ak)) (a1:Int):(Int×(List aB))->Option ((Int×(List aB)) ⊕ (List aB))
 |(v1,v2)=>(bif (decide (v1 < ((a0.length:Int):Int)))then ((at? a0 v1).bind fun x1=>((bif (decide (x1.x0<=(a1:Int)))then some (decide (a1 < (x1.x1:Int)))else some false):Option (Bool)).bind fun v3=>(bif v3 then bif bO v2.length v2.length (sub ([(aB.mk x1.y0 x1.y1)]:List aB) 0 1).length 1 16 then oO (v2++(sub ([(aB.mk x1.y0 x1.y1)]:List aB) 0 1)) fun r1=>bif eqL r1.length r1.length then some r1 else none else none else bif eqL v2.length v2.length then some v2 else none):Option ((List aB))).bind fun v4=>bif eqL v4.length v4.length then some (.inl ((i64.wrap (v1+1)),v4))else none else bif eqL v2.length v2.length then some (.inr v2)else none)
def mU (w1:(List aB)) (r2:(List aB)):(Int×(List aB))->Option ((Int×(List aB)) ⊕ (List aB))
 |(v5,v6)=>(bif (decide (v5 < (((w1.length:Nat):Int):Int)))then (bif inb v5 w1.length then (at? r2 ((0:Nat)+v5:Int)).bind fun x2=>((bif (decide (((v6.length:Nat):Int)>(0:Int)))then bif inb (i64.wrap (((v6.length:Nat):Int) - 1)) v6.length then (at? v6 ((0:Nat)+(i64.wrap (((v6.length:Nat):Int) - 1)):Int)).bind fun x3=>some (decide (x2.from_<=(x3.to:Int)))else none else some false):Option (Bool)).bind fun v7=>(bif v7 then bif inb (i64.wrap (((v6.length:Nat):Int) - 1)) v6.length then (at? v6 ((0:Nat)+(i64.wrap (((v6.length:Nat):Int) - 1)):Int)).bind fun x4=>bif inb (i64.wrap (((v6.length:Nat):Int) - 1)) v6.length then (at? v6 ((0:Nat)+(i64.wrap (((v6.length:Nat):Int) - 1)):Int)).bind fun x5=>bif eqL v6.length (v6.set ((0:Nat)+(i64.wrap (((v6.length:Nat):Int) - 1)):Int).toNat (aB.mk x5.from_ (max x4.to x2.to))).length then some (v6.set ((0:Nat)+(i64.wrap (((v6.length:Nat):Int) - 1)):Int).toNat (aB.mk x5.from_ (max x4.to x2.to)))else none else none else none else bif bO v6.length v6.length (sub ([x2]:List aB) 0 1).length 1 16 then oO (v6++(sub ([x2]:List aB) 0 1)) fun r3=>bif eqL r3.length r3.length then some r3 else none else none)else none:Option ((List aB))).bind fun v8=>bif eqL v8.length v8.length then some (.inl ((i64.wrap (v5+1)),v8))else none else bif eqL v6.length v6.length then some (.inr v6)else none)
def Cg (n:Nat) (a0:(List ak)) (a1:Int):Option (List aB):=
 bif eqL 0 ([]:List aB).length then (iter (mR a0 a1) n ((0:Int),([]:List aB))).bind fun w1=>bif eqL w1.length w1.length then (kg n w1 (fun (y1:aB×aB×Unit)=>q8 y1.1 y1.2.1)).bind fun r2=>bif eqL 0 ([]:List aB).length then (iter (mU w1 r2) n ((0:Int),([]:List aB))).bind fun w2=>bif eqL (sub w2 0 w2.length).length w2.length then some (sub w2 0 w2.length)else none else none else none else none
def mV (r1:(List ak)):(Int×(List Int))->Option ((Int×(List Int)) ⊕ (List Int))
 |(v1,v2)=>(bif (decide (v1 < (((r1.length:Nat):Int):Int)))then bif inb v1 r1.length then (at? r1 ((0:Nat)+v1:Int)).bind fun x1=>bif bO v2.length v2.length (sub ([x1.x0,x1.x1]:List Int) 0 2).length 2 8 then oO (v2++(sub ([x1.x0,x1.x1]:List Int) 0 2)) fun r2=>bif eqL r2.length r2.length then some (.inl ((i64.wrap (v1+1)),r2))else none else none else none else bif eqL v2.length v2.length then some (.inr v2)else none)
def mW (n:Nat) (r1:(List ak)) (r4:Unit×(List Int)):(Int×(List cZ))->Option ((Int×(List cZ)) ⊕ (List cZ))
 |(v3,v4)=>(bif (decide (v3 < (((r4.2.length:Nat):Int):Int)))then bif inb (i64.wrap (v3 - 1)) r4.2.length then (at? r4.2 ((0:Nat)+(i64.wrap (v3 - 1)):Int)).bind fun x2=>bif inb v3 r4.2.length then (at? r4.2 ((0:Nat)+v3:Int)).bind fun x3=>bif inb (i64.wrap (v3 - 1)) r4.2.length then (at? r4.2 ((0:Nat)+(i64.wrap (v3 - 1)):Int)).bind fun x4=>bif eqL (sub r1 0 r1.length).length r1.length then (Cg n (sub r1 0 r1.length) x4).bind fun r5=>bif eqL (sub r5 0 r5.length).length r5.length then bif bO v4.length v4.length (sub ([(cZ.mk x2 x3 (sub r5 0 r5.length))]:List cZ) 0 1).length 1 40 then oO (v4++(sub ([(cZ.mk x2 x3 (sub r5 0 r5.length))]:List cZ) 0 1)) fun r6=>bif eqL r6.length r6.length then some (.inl ((i64.wrap (v3+1)),r6))else none else none else none else none else none else none else none else bif eqL v4.length v4.length then some (.inr v4)else none)
def rQ (n:Nat) (a0:(List (List ak))):Option (List cZ):=
 (sM n a0).bind fun r1=>bif eqL 0 ([]:List Int).length then (iter (mV r1) n ((0:Int),([]:List Int))).bind fun w1=>bif eqL w1.length w1.length then (l5 n w1).bind fun r3=>bif eqL w1.length r3.length then (jT n r3).bind fun r4=>bif eqL 0 ([]:List cZ).length then (iter (mW n r1 r4) n ((1:Int),([]:List cZ))).bind fun w2=>bif eqL (sub w2 0 w2.length).length w2.length then some (sub w2 0 w2.length)else none else none else none else none else none
def Ho (a0:(List aB)) (a1:(List aB)):Int->Option (Int ⊕ (Unit ⊕ Bool))
 |v1=>(bif (decide (v1 < ((a0.length:Int):Int)))then (at? a0 v1).bind fun x1=>(at? a1 v1).bind fun x2=>(bif (!((x1.from_==(x2.from_:Int))&&((x1.to==(x2.to:Int))&&true)))then (some false).map fun a=> .inr (.inr a)else some (.inl (i64.wrap (v1+1))))else some (.inr (.inl ())))
def oJ (n:Nat) (a0:(List aB)) (a1:(List aB)):Option Bool:=
 (bif ((a0.length:Int) != ((a1.length:Int):Int))then some false else dm (iter (Ho a0 a1) n (0:Int)) fun ()=>some true)
def l6 (n:Nat) (a0:(List cZ)) (v1:Int):Int->Option (Int ⊕ Int)
 |v3=>((bif (decide (v3 < ((a0.length:Int):Int)))then (at? a0 v3).bind fun x1=>(at? a0 v1).bind fun x2=>(oJ n x1.column x2.column).bind fun r1=>some r1 else some false):Option (Bool)).bind fun v4=>(bif v4 then some (.inl (i64.wrap (v3+1)))else some (.inr v3))
def pK (a0:(List cZ)) (v1:Int) (w1:Int) (x3:cZ):(Int×(List ak))->Option ((Int×(List ak)) ⊕ (List ak))
 |(v5,v6)=>(bif (decide (v5 < ((x3.column.length:Int):Int)))then (at? x3.column v5).bind fun x4=>(at? a0 v1).bind fun x5=>(at? a0 (i64.wrap (w1 - 1))).bind fun x6=>bif bO v6.length v6.length (sub ([(ak.mk x5.x0 x4.from_ x6.x1 x4.to)]:List ak) 0 1).length 1 32 then oO (v6++(sub ([(ak.mk x5.x0 x4.from_ x6.x1 x4.to)]:List ak) 0 1)) fun r2=>bif eqL r2.length r2.length then some (.inl ((i64.wrap (v5+1)),r2))else none else none else bif eqL v6.length v6.length then some (.inr v6)else none)
def pM (n:Nat) (a0:(List cZ)):(Int×(List ak))->Option ((Int×(List ak)) ⊕ (List ak))
 |(v1,v2)=>(bif (decide (v1 < ((a0.length:Int):Int)))then (iter (l6 n a0 v1) n (i64.wrap (v1+1))).bind fun w1=>(at? a0 v1).bind fun x3=>bif eqL v2.length v2.length then (iter (pK a0 v1 w1 x3) n ((0:Int),v2)).bind fun w2=>bif eqL w2.length w2.length then some (.inl (w1,w2))else none else none else bif eqL v2.length v2.length then some (.inr v2)else none)
def wW (n:Nat) (a0:(List cZ)):Option (List ak):=
 bif eqL 0 ([]:List ak).length then (iter (pM n a0) n ((0:Int),([]:List ak))).bind fun w3=>bif eqL (sub w3 0 w3.length).length w3.length then some (sub w3 0 w3.length)else none else none
def D5 (a0:(List ak)):Option ((List ak)×Int):=
 (bif (decide ((a0.length:Int)>(200:Int)))then some (([]:(List ak)),(6:Int))else some (a0,(0:Int)))
def FL (a0:(List ak)):Int->Option (Int ⊕ (Unit ⊕ ((List ak)×Int)))
 |v1=>(bif (decide (v1 < ((a0.length:Int):Int)))then (at? a0 v1).bind fun x1=>(uQ x1).bind fun r1=>(bif (!r1)then (some (([]:(List ak)),(1:Int))).map fun a=> .inr (.inr a)else some (.inl (i64.wrap (v1+1))))else some (.inr (.inl ())))
def XO (n:Nat) (a0:(List ak)):Option ((List ak)×Int):=
 dm (iter (FL a0) n (0:Int)) fun ()=>(bif (decide ((a0.length:Int)>(400:Int)))then some (([]:(List ak)),(6:Int))else bif eqL (sub ([a0]:List (List ak)) 0 1).length 1 then (rQ n (sub ([a0]:List (List ak)) 0 1)).bind fun r2=>bif eqL (sub r2 0 r2.length).length r2.length then (wW n (sub r2 0 r2.length)).bind fun r3=>bif eqL (sub r3 0 r3.length).length r3.length then (D5 (sub r3 0 r3.length)).bind fun r4=>some (r4.1,r4.2)else none else none else none)
def Hq (a0:(List ak)) (a1:(List ak)):Int->Option (Int ⊕ (Unit ⊕ Bool))
 |v1=>(bif (decide (v1 < ((a0.length:Int):Int)))then (at? a0 v1).bind fun x1=>(at? a1 v1).bind fun x2=>(bif (!((x1.x0==(x2.x0:Int))&&((x1.y0==(x2.y0:Int))&&((x1.x1==(x2.x1:Int))&&((x1.y1==(x2.y1:Int))&&true)))))then (some false).map fun a=> .inr (.inr a)else some (.inl (i64.wrap (v1+1))))else some (.inr (.inl ())))
def kX (n:Nat) (a0:(List ak)) (a1:(List ak)):Option Bool:=
 (bif ((a0.length:Int) != ((a1.length:Int):Int))then some false else dm (iter (Hq a0 a1) n (0:Int)) fun ()=>some true)
def wX (n:Nat) (a0:(List ak)):Option Bool:=
 (XO n a0).bind fun r1=>(bif (r1.2==(0:Int))then (kX n r1.1 a0).bind fun r2=>some r2 else some false)
def Rs (a0:ak) (a1:ak):Option (Int×Int):=
 some ((i64.wrap ((max a0.x0 a1.x0) - (min a0.x1 a1.x1))),(i64.wrap ((max a0.y0 a1.y0) - (min a0.y1 a1.y1))))
def XP (a0:ak) (a1:ak):Option Int:=
 ((uQ a0).bind fun r1=>(bif (!r1)then some true else (uQ a1).bind fun r2=>some (!r2)):Option (Bool)).bind fun v1=>(bif v1 then some ((-1):Int)else (Rs a0 a1).bind fun r3=>some (max (max (0:Int) r3.1) r3.2))
def wY (a1:(List ak)) (x1:ak):(Int×Int)->Option ((Int×Int) ⊕ Int)
 |(v4,v5)=>(bif (decide (v5 < ((a1.length:Int):Int)))then (at? a1 v5).bind fun x2=>(XP x1 x2).bind fun r3=>some (.inl ((min v4 r3),(i64.wrap (v5+1))))else some (.inr v4))
def wZ (n:Nat) (a0:(List ak)) (a1:(List ak)):(Int×Int)->Option ((Int×Int) ⊕ Int)
 |(v2,v3)=>(bif (decide (v3 < ((a0.length:Int):Int)))then (at? a0 v3).bind fun x1=>(iter (wY a1 x1) n (v2,(0:Int))).bind fun w1=>some (.inl (w1,(i64.wrap (v3+1))))else some (.inr v2))
def Hr (n:Nat) (a0:(List ak)) (a1:(List ak)):Option (Int×Bool):=
 ((bif ((a0.length:Int)==(0:Int))then some true else (bif ((a1.length:Int)==(0:Int))then some true else (wX n a0).bind fun r1=>(bif (!r1)then some true else (wX n a1).bind fun r2=>some (!r2)))):Option (Bool)).bind fun v1=>(bif v1 then some ((0:Int),false)else (iter (wZ n a0 a1) n ((1048576:Int),(0:Int))).bind fun w2=>some (w2,true))
def sP (a0:(List bM)):(Int×(List (List ak)))->Option ((Int×(List (List ak))) ⊕ (List (List ak)))
 |(v1,v2)=>(bif (decide (v1 < ((a0.length:Int):Int)))then (at? a0 v1).bind fun x1=>bif bO v2.length v2.length (sub ([x1.area]:List (List ak)) 0 1).length 1 24 then oO (v2++(sub ([x1.area]:List (List ak)) 0 1)) fun r2=>bif eqL r2.length r2.length then some (.inl ((i64.wrap (v1+1)),r2))else none else none else bif eqL v2.length v2.length then some (.inr v2)else none)
def sQ (n:Nat) (a0:(List bM)) (a1:Int) (a2:Int) (r1:bM×Bool) (w1:(List (List ak))):(Int×(List Int))->Option ((Int×(List Int)) ⊕ (List Int))
 |(v3,v4)=>(bif (decide (v3 < (((w1.length:Nat):Int):Int)))then (bif inb v3 w1.length then (at? w1 ((0:Nat)+v3:Int)).bind fun x2=>(Hr n r1.1.area x2).bind fun r3=>((bif r3.2 then (bif (decide (r3.1<=(a2:Int)))then (at? a0 v3).bind fun x3=>some (x3.id != (a1:Int))else some false)else some false):Option (Bool)).bind fun v5=>(bif v5 then (at? a0 v3).bind fun x4=>bif bO v4.length v4.length (sub ([x4.id]:List Int) 0 1).length 1 8 then oO (v4++(sub ([x4.id]:List Int) 0 1)) fun r4=>bif eqL r4.length r4.length then some r4 else none else none else bif eqL v4.length v4.length then some v4 else none)else none:Option ((List Int))).bind fun v6=>bif eqL v6.length v6.length then some (.inl ((i64.wrap (v3+1)),v6))else none else bif eqL v4.length v4.length then some (.inr v4)else none)
def FM (n:Nat) (a0:(List bM)) (a1:Int) (a2:Int):Option (List Int):=
 (mQ n a0 a1).bind fun r1=>(bif (!r1.2)then some ([]:(List Int))else bif eqL 0 ([]:List (List ak)).length then (iter (sP a0) n ((0:Int),([]:List (List ak)))).bind fun w1=>bif eqL 0 ([]:List Int).length then (iter (sQ n a0 a1 a2 r1 w1) n ((0:Int),([]:List Int))).bind fun w2=>bif eqL w2.length w2.length then (l5 n w2).bind fun r5=>bif eqL w2.length r5.length then (jT n r5).bind fun r6=>bif eqL (sub r6.2 0 r6.2.length).length r6.2.length then some (sub r6.2 0 r6.2.length)else none else none else none else none else none)
def uR (n:Nat) (a0:GTown) (a1:aQ):Option (List Int):=
 (dw n (dn.mk a0.plan_defs a0.plan_tables a0.plan_zones a0.plan_rules a0.plan_caps a0.plan_views a0.plan_sun a0.plan_hours) a1).bind fun r1=>(FM n a0.land a1.lot r1).bind fun r2=>bif eqL (sub r2 0 r2.length).length r2.length then some (sub r2 0 r2.length)else none
def mX (n:Nat) (a0:GTown) (r1:(List Int)):(Int×(List Int))->Option ((Int×(List Int)) ⊕ (List Int))
 |(v1,v2)=>(bif (decide (v1 < (((r1.length:Nat):Int):Int)))then bif inb v1 r1.length then (at? r1 ((0:Nat)+v1:Int)).bind fun x1=>(mQ n a0.land x1).bind fun r2=>bif bO v2.length v2.length (sub ([r2.1.owner]:List Int) 0 1).length 1 8 then oO (v2++(sub ([r2.1.owner]:List Int) 0 1)) fun r3=>bif eqL r3.length r3.length then some (.inl ((i64.wrap (v1+1)),r3))else none else none else none else bif eqL v2.length v2.length then some (.inr v2)else none)
def ko (n:Nat) (a0:GTown) (a1:aQ):Option (List Int):=
 (uR n a0 a1).bind fun r1=>bif eqL 0 ([]:List Int).length then (iter (mX n a0 r1) n ((0:Int),([]:List Int))).bind fun w1=>bif eqL w1.length w1.length then (l5 n w1).bind fun r4=>bif eqL w1.length r4.length then (jT n r4).bind fun r5=>bif eqL (sub r5.2 0 r5.2.length).length r5.2.length then some (sub r5.2 0 r5.2.length)else none else none else none else none
def T9 (a0:(List Int)) (a1:(List Int)):Int->Option (Int ⊕ (Unit ⊕ Bool))
 |v1=>(bif (decide (v1 < ((a0.length:Int):Int)))then (at? a0 v1).bind fun x1=>(at? a1 v1).bind fun x2=>(bif (x1 != (x2:Int))then (some false).map fun a=> .inr (.inr a)else some (.inl (i64.wrap (v1+1))))else some (.inr (.inl ())))
def jU (n:Nat) (a0:(List Int)) (a1:(List Int)):Option Bool:=
 (bif ((a0.length:Int) != ((a1.length:Int):Int))then some false else dm (iter (T9 a0 a1) n (0:Int)) fun ()=>some true)
def Jp (a0:(List Int)) (a1:Int):Int->Option (Int ⊕ (Unit ⊕ Int))
 |v1=>(bif (decide (v1 < ((a0.length:Int):Int)))then (at? a0 v1).bind fun x1=>(bif (a1==(x1:Int))then (some v1).map fun a=> .inr (.inr a)else some (.inl (i64.wrap (v1+1))))else some (.inr (.inl ())))
def yN (n:Nat) (a0:(List Int)) (a1:Int):Option Int:=
 dm (iter (Jp a0 a1) n (0:Int)) fun ()=>some ((-1):Int)
def gB (n:Nat) (a0:(List Int)) (a1:Int):Option Bool:=
 (yN n a0 a1).bind fun r1=>some (decide (r1>=(0:Int)))
def uS (n:Nat) (a0:Int) (a1:(List Int)):Option Bool:=
 (gB n a1 a0).bind fun r1=>some r1
def Cw (a0:(List Int)) (a1:(Int×Unit)->Option Bool):Int->Option (Int ⊕ (Unit ⊕ Int))
 |v1=>(bif (decide (v1 < ((a0.length:Int):Int)))then (at? a0 v1).bind fun x1=>(a1 (x1,())).bind fun r1=>(bif r1 then (some v1).map fun a=> .inr (.inr a)else some (.inl (i64.wrap (v1+1))))else some (.inr (.inl ())))
def kr (n:Nat) (a0:(List Int)) (a1:(Int×Unit)->Option Bool):Option Int:=
 dm (iter (Cw a0 a1) n (0:Int)) fun ()=>some ((-1):Int)
def A9 (a0:(List Int)) (a1:(Int×Unit)->Option Bool):(Int×Int×(List Int))->Option ((Int×Int×(List Int)) ⊕ (Int×(List Int)))
 |(v1,v2,v3)=>(bif (decide (v2 < (((a0.length:Nat):Int):Int)))then (bif inb v2 a0.length then (at? v3 ((0:Nat)+v2:Int)).bind fun x1=>(a1 (x1,())).bind fun r2=>(bif (!r2)then bif inb v1 a0.length then (at? v3 ((0:Nat)+v1:Int)).bind fun x2=>some ((i64.wrap (v1+1)),(v3.set ((0:Nat)+v1:Int).toNat x1))else none else some (v1,v3))else none:Option (Int×(List Int))).bind fun (v4,v5)=>some (.inl (v4,(i64.wrap (v2+1)),v5))else some (.inr (v1,v3)))
def mY (n:Nat) (a0:(List Int)) (a1:(Int×Unit)->Option Bool):Option (Unit×(List Int)):=
 bif eqL (sub a0 0 a0.length).length a0.length then (kr n (sub a0 0 a0.length) a1).bind fun r1=>(bif (r1==((-1):Int))then bif eqL a0.length a0.length then bif eqL (sub a0 0 a0.length).length a0.length then some ((),(sub a0 0 a0.length))else none else none else (iter (A9 a0 a1) n (r1,(i64.wrap (r1+1)),a0)).bind fun (w1,w2)=>bif kI w1 ((a0.length:Nat):Int) a0.length then bif kI 0 w1 a0.length then bif eqL ((w1:Int).toNat) ((w1:Int).toNat)then bif eqL (sub (w2.take (0+(w1:Int).toNat)) 0 ((w1:Int).toNat)).length ((w1:Int).toNat)then some ((),(sub (w2.take (0+(w1:Int).toNat)) 0 ((w1:Int).toNat)))else none else none else none else none)else none
def Ba (n:Nat) (a0:GTown) (a1:aQ) (a2:aQ):Option (List Int):=
 (ko n a0 a1).bind fun r1=>bif eqL (sub r1 0 r1.length).length r1.length then (ko n a0 a2).bind fun r2=>bif eqL r2.length r2.length then (mY n r2 (fun (y1:Int×Unit)=>uS n y1.1 (sub r1 0 r1.length))).bind fun r3=>bif eqL (sub r3.2 0 r3.2.length).length r3.2.length then some (sub r3.2 0 r3.2.length)else none else none else none
def D6 (n:Nat) (a0:GTown) (a1:aQ) (a2:Int):Option Bool:=
 (mQ n a0.land a1.lot).bind fun r1=>(ko n a0 a1).bind fun r2=>bif eqL (sub r2 0 r2.length).length r2.length then (gB n (sub r2 0 r2.length) a2).bind fun r3=>(bif r3 then (bif r1.2 then some (r1.1.owner != (a2:Int))else some false)else some false)else none
def Ch (n:Nat):Option Bool:=
 (DZ).bind fun r1=>(MH 1 0 0).bind fun r2=>(MH 1 0 4).bind fun r3=>((dw n (dn.mk r1.plan_defs r1.plan_tables r1.plan_zones r1.plan_rules r1.plan_caps r1.plan_views r1.plan_sun r1.plan_hours) r2).bind fun r4=>(bif (r4==(2:Int))then (dw n (dn.mk r1.plan_defs r1.plan_tables r1.plan_zones r1.plan_rules r1.plan_caps r1.plan_views r1.plan_sun r1.plan_hours) r3).bind fun r5=>(bif (r5==(9:Int))then (MH 1 1 1).bind fun r6=>(dw n (dn.mk r1.plan_defs r1.plan_tables r1.plan_zones r1.plan_rules r1.plan_caps r1.plan_views r1.plan_sun r1.plan_hours) r6).bind fun r7=>(bif (r7==(1:Int))then (yI n (dn.mk r1.plan_defs r1.plan_tables r1.plan_zones r1.plan_rules r1.plan_caps r1.plan_views r1.plan_sun r1.plan_hours)).bind fun r8=>some (r8==(14:Int))else some false)else some false)else some false):Option (Bool)).bind fun v1=>((ko n r1 r2).bind fun r9=>bif eqL (sub r9 0 r9.length).length r9.length then bif eqL (sub ([7]:List Int) 0 1).length 1 then (jU n (sub r9 0 r9.length) (sub ([7]:List Int) 0 1)).bind fun r10=>(bif r10 then (ko n r1 r3).bind fun r11=>bif eqL (sub r11 0 r11.length).length r11.length then bif eqL (sub ([5,7]:List Int) 0 2).length 2 then (jU n (sub r11 0 r11.length) (sub ([5,7]:List Int) 0 2)).bind fun r12=>(bif r12 then (uR n r1 r3).bind fun r13=>bif eqL (sub r13 0 r13.length).length r13.length then bif eqL (sub ([2,3]:List Int) 0 2).length 2 then (jU n (sub r13 0 r13.length) (sub ([2,3]:List Int) 0 2)).bind fun r14=>(bif r14 then (Ba n r1 r2 r3).bind fun r15=>bif eqL (sub r15 0 r15.length).length r15.length then bif eqL (sub ([5]:List Int) 0 1).length 1 then (jU n (sub r15 0 r15.length) (sub ([5]:List Int) 0 1)).bind fun r16=>some r16 else none else none else some false)else none else none else some false)else none else none else some false)else none else none:Option (Bool)).bind fun v2=>(bif v1 then (bif v2 then (D6 n r1 r3 5).bind fun r17=>(bif r17 then (D6 n r1 r3 7).bind fun r18=>(bif (!r18)then (D6 n r1 r2 5).bind fun r19=>some (!r19)else some false)else some false)else some false)else some false)
def yO (a0:GTown):Int->Option (Int ⊕ (Unit ⊕ Bool))
 |v1=>((bif (decide (v1 < ((a0.land.length:Int):Int)))then some (decide (v1 < (9:Int)))else some false):Option (Bool)).bind fun v2=>(bif v2 then ((at? a0.land v1).bind fun x1=>(bif (decide ((x1.area.length:Int)>(6:Int)))then some true else (at? a0.land v1).bind fun x2=>some (decide ((x2.from_.length:Int)>(10:Int)))):Option (Bool)).bind fun v3=>(bif v3 then (some false).map fun a=> .inr (.inr a)else some (.inl (i64.wrap (v1+1))))else some (.inr (.inl ())))
def yP (a0:GTown):Int->Option (Int ⊕ (Unit ⊕ Bool))
 |v4=>((bif (decide (v4 < ((a0.plan_tables.length:Int):Int)))then some (decide (v4 < (5:Int)))else some false):Option (Bool)).bind fun v5=>(bif v5 then (at? a0.plan_tables v4).bind fun x3=>(bif (decide ((x3.rows.length:Int)>(10:Int)))then (some false).map fun a=> .inr (.inr a)else some (.inl (i64.wrap (v4+1))))else some (.inr (.inl ())))
def yQ (a1:aQ):Int->Option (Int ⊕ (Unit ⊕ Bool))
 |v6=>((bif (decide (v6 < ((a1.phases.length:Int):Int)))then some (decide (v6 < (5:Int)))else some false):Option (Bool)).bind fun v7=>(bif v7 then (at? a1.phases v6).bind fun x4=>(bif (decide ((x4.volumes.length:Int)>(4:Int)))then (some false).map fun a=> .inr (.inr a)else some (.inl (i64.wrap (v6+1))))else some (.inr (.inl ())))
def FN (n:Nat) (a0:GTown) (a1:aQ):Option Bool:=
 dm (iter (yO a0) n (0:Int)) fun ()=>dm (iter (yP a0) n (0:Int)) fun ()=>dm (iter (yQ a1) n (0:Int)) fun ()=>(bif (decide ((a0.land.length:Int)<=(8:Int)))then (bif (decide ((a0.plan_tables.length:Int)<=(4:Int)))then some (decide ((a1.phases.length:Int)<=(4:Int)))else some false)else some false)
def FO (a0:Int):Option ByteArray:=
 (bif (a0==(0:Int))then some (⟨#[104,111,109,101]⟩)else (bif (a0==(1:Int))then some (⟨#[115,104,111,112]⟩)else (bif (a0==(2:Int))then some (⟨#[119,111,114,107]⟩)else (bif (a0==(3:Int))then some (⟨#[112,97,114,107]⟩)else (bif (a0==(4:Int))then some (⟨#[112,108,97,110,116]⟩)else (bif (a0==(5:Int))then some (⟨#[104,97,108,108]⟩)else some (⟨#[]⟩)))))))
def sS (a0:Int):Option (Int×Bool):=
 ((bif (a0==(0:Int))then some (a0==(0:Int))else (bif (a0==(1:Int))then some (a0==(1:Int))else (bif (a0==(2:Int))then some (a0==(2:Int))else some (a0==(3:Int))))):Option (Bool)).bind fun v1=>(bif v1 then some ((0:Int),true)else ((bif (a0==(9:Int))then some (a0==(9:Int))else some (a0==(15:Int))):Option (Bool)).bind fun v2=>(bif v2 then some ((1:Int),true)else (bif (a0==(16:Int))then some ((3:Int),true)else (bif (decide (a0>=(0:Int)))then some ((2:Int),(decide (a0 < (17:Int))))else some ((2:Int),false)))))
def q9 (n:Nat) (rc:(aW)->(Int)->Option Int) (a0:aW) (a1:Int):(Int×Int)->Option ((Int×Int) ⊕ Int)
 |(v2,v3)=>(bif (decide (v3 < ((a0.args.length:Int):Int)))then (at? a0.args v3).bind fun x1=>(rc (aW.mk x1.op x1.n x1.s x1.key x1.args) (i64.wrap (a1+1))).bind fun r2=>some (.inl ((max v2 r2),(i64.wrap (v3+1))))else some (.inr v2))
def uT (n:Nat) (rc:(aW)->(Int)->Option Int) (a0:aW) (a1:Int):Option Int:=
 (sS a0.op).bind fun r1=>((bif (!r1.2)then some true else (bif (r1.1 != ((a0.args.length:Int):Int))then some true else some (decide (a1>=(12:Int))))):Option (Bool)).bind fun v1=>(bif v1 then some (13:Int)else (iter (q9 n rc a0 a1) n ((0:Int),(0:Int))).bind fun w1=>some (i64.wrap (w1+1)))
def yR (rc:(aW)->(Int)->Option Int):Sig xx:=⟨[.d (.st SI.Expr),.d (.int .i64)],[.d (.int .i64)],fun a=>rc a.1 a.2.1,none⟩
def l7 (n:Nat):Nat->(aW)->(Int)->Option Int
 | 0=>fun _ _=>none
 |m+1=>uT n (l7 n m)
def Ht (n:Nat) (a0:aW) (a1:Int):Option Int:=l7 n n a0 a1
def w9 (n:Nat) (a0:aW):Option Bool:=
 (Ht n (aW.mk a0.op a0.n a0.s a0.key a0.args) 0).bind fun r1=>some (decide (r1<=(12:Int)))
def qz:Option (List ByteArray):=
 bif eqL (sub ([⟨#[97,114,101,97]⟩,⟨#[99,111,118,101,114]⟩,⟨#[102,108,111,111,114]⟩,⟨#[102,108,111,111,114,115]⟩,⟨#[104,101,105,103,104,116]⟩,⟨#[104,111,109,101,115]⟩,⟨#[114,117,110,111,102,102]⟩,⟨#[115,101,116,98,97,99,107]⟩,⟨#[116,114,97,102,102,105,99]⟩]:List ByteArray) 0 9).length 9 then some (sub ([⟨#[97,114,101,97]⟩,⟨#[99,111,118,101,114]⟩,⟨#[102,108,111,111,114]⟩,⟨#[102,108,111,111,114,115]⟩,⟨#[104,101,105,103,104,116]⟩,⟨#[104,111,109,101,115]⟩,⟨#[114,117,110,111,102,102]⟩,⟨#[115,101,116,98,97,99,107]⟩,⟨#[116,114,97,102,102,105,99]⟩]:List ByteArray) 0 9)else none
mutual
def toE:aW->ET
 |⟨op,_,s,_,args⟩=> .mk op s (Bb args)
def Bb:List aW->List ET
 |[]=>[]
 |x::xs=>toE x::Bb xs
end
def toD (d:iM):ByteArray×ET:=(d.name,.mk d.body_op d.body_s (Bb d.body_args))
def gD (a0:List iM):Option ((List iM)×(List (List Int))):=bif Nat.ble (wtD (a0.map toD)) 4000000 then some (a0,jG (a0.map toD))else none
def kY (a0:List Int) (a1:Int):Option (List Int):=match a0 with
 |[x]=>bif decide (0<=a1)&&decide (a1<=1000000000000)then some (List.replicate a1.toNat x)else none
 |_=>none
def bX (n:Nat) (a0:jR) (r1:(List Int)) (x2:Int):(Int×Int×(List Int)×(List Int))->Option ((Int×Int×(List Int)×(List Int)) ⊕ (Int×(List Int)×(List Int)))
 |(v4,v5,v6,v7)=>(bif (decide (v5 < ((a0.uses.length:Int):Int)))then ((at? a0.uses v5).bind fun x3=>(bif inb v5 r1.length then (at? v6 ((0:Nat)+v5:Int)).bind fun x4=>(bif (decide (x4 < (0:Int)))then (gB n x3 x2).bind fun r2=>some r2 else some false)else none:Option (Bool)).bind fun v8=>(bif v8 then bif inb x2 r1.length then (at? v6 ((0:Nat)+x2:Int)).bind fun x5=>bif inb v5 r1.length then (at? v6 ((0:Nat)+v5:Int)).bind fun x6=>bif bO (K6 ((v4:Int).toNat) v7).length (v7.length - (v4:Int).toNat) (sub ([v5]:List Int) 0 1).length 1 8 then oO ((K6 ((v4:Int).toNat) v7)++(sub ([v5]:List Int) 0 1)) fun r3=>bif eqL (0+r3.length) r3.length then some (((0:Nat):Int),(v6.set ((0:Nat)+v5:Int).toNat (i64.wrap (x5+1))),r3)else none else none else none else none else bif eqL (((v4:Int).toNat)+(v7.length - (v4:Int).toNat)) v7.length then some ((((v4:Int).toNat:Nat):Int),v6,v7)else none):Option (Int×(List Int)×(List Int))).bind fun (v9,v10,v11)=>bif eqL (((v9:Int).toNat)+(v11.length - (v9:Int).toNat)) v11.length then some (.inl ((((v9:Int).toNat:Nat):Int),(i64.wrap (v5+1)),v10,v11))else none else bif eqL (((v4:Int).toNat)+(v7.length - (v4:Int).toNat)) v7.length then some (.inr ((((v4:Int).toNat:Nat):Int),v6,v7))else none)
def bK (n:Nat) (a0:jR) (r1:(List Int)):(Int×(List Int)×(List Int))->Option ((Int×(List Int)×(List Int)) ⊕ (List Int))
 |(v1,v2,v3)=>(bif (decide ((((v3.length - (v1:Int).toNat):Nat):Int)>(0:Int)))then bif inb 0 (v3.length - (v1:Int).toNat)then (at? v3 (((v1:Int).toNat:Nat)+0:Int)).bind fun x2=>bif kI 1 (((v3.length - (v1:Int).toNat):Nat):Int) (v3.length - (v1:Int).toNat)then bif eqL (((v1:Int).toNat+1)+((v3.length - (v1:Int).toNat) - 1)) v3.length then (iter (bX n a0 r1 x2) n (((((v1:Int).toNat+1):Nat):Int),(0:Int),v2,v3)).bind fun (w1,w2,w3)=>bif eqL (((w1:Int).toNat)+(w3.length - (w1:Int).toNat)) w3.length then some (.inl ((((w1:Int).toNat:Nat):Int),w2,w3))else none else none else none else none else some (.inr v2))
def eZ (n:Nat) (a0:jR) (a1:Int):Option (List Int):=
 bif eqL (sub ([(-1)]:List Int) 0 1).length 1 then (kY (sub ([(-1)]:List Int) 0 1) (a0.defs.length:Int)).bind fun r1=>bif inb a1 r1.length then (at? r1 ((0:Nat)+a1:Int)).bind fun x1=>bif eqL (0+1) ([a1]:List Int).length then (iter (bK n a0 r1) n (((0:Nat):Int),(r1.set ((0:Nat)+a1:Int).toNat 0),([a1]:List Int))).bind fun w4=>bif eqL (sub w4 0 r1.length).length r1.length then some (sub w4 0 r1.length)else none else none else none else none
def cmp_isNaN_string (a0:ByteArray):Option Bool:=
 some (!(ByteArray.toList a0==ByteArray.toList a0))
def jf (a0:ByteArray) (a1:ByteArray):Option Int:=
 (cmp_isNaN_string a0).bind fun r1=>(cmp_isNaN_string a1).bind fun r2=>(bif r1 then (bif r2 then some (0:Int)else some ((-1):Int))else (bif r2 then some (1:Int)else (bif (K3 a0 a1)then some ((-1):Int)else (bif (!(K3 a0 a1 || ByteArray.toList a0==ByteArray.toList a1))then some (1:Int)else some (0:Int)))))
def gV (a0:(List ByteArray)) (a1:(List ByteArray)):Int->Option (Int ⊕ (Unit ⊕ Int))
 |v1=>(bif (decide (v1 < ((a0.length:Int):Int)))then (at? a0 v1).bind fun x1=>(bif (decide (v1>=((a1.length:Int):Int)))then (some (1:Int)).map fun a=> .inr (.inr a)else (at? a1 v1).bind fun x2=>(jf x1 x2).bind fun r1=>(bif (r1 != (0:Int))then (some r1).map fun a=> .inr (.inr a)else some (.inl (i64.wrap (v1+1)))))else some (.inr (.inl ())))
def gW (n:Nat) (a0:(List ByteArray)) (a1:(List ByteArray)):Option Int:=
 dm (iter (gV a0 a1) n (0:Int)) fun ()=>(bif (decide ((a0.length:Int) < ((a1.length:Int):Int)))then some ((-1):Int)else some (0:Int))
def iE (n:Nat) (a0:(List Int)) (a1:(Int×Unit)->Option Bool):Option Bool:=
 (kr n a0 a1).bind fun r1=>some (decide (r1>=(0:Int)))
def iC (a0:Int) (a1:(List Bool)):Option (Bool×(List Bool)):=
 bif inb a0 a1.length then (at? a1 ((0:Nat)+a0:Int)).bind fun x1=>bif eqL a1.length a1.length then some ((!x1),a1)else none else none
def fe (a0:(List Int)):(Int×(List Bool))->Option ((Int×(List Bool)) ⊕ ((List Bool) ⊕ (Int×(List Bool))))
 |(v1,v2)=>(bif (decide (v1 < ((a0.length:Int):Int)))then (at? a0 v1).bind fun x1=>bif eqL v2.length v2.length then (iC x1 v2).bind fun r1=>(bif r1.1 then (bif eqL r1.2.length r1.2.length then some (v1,r1.2)else none).map fun a=> .inr (.inr a)else bif eqL r1.2.length r1.2.length then some (.inl ((i64.wrap (v1+1)),r1.2))else none)else none else bif eqL v2.length v2.length then some (.inr (.inl v2))else none)
def iF (n:Nat) (a0:(List Int)) (a1:(List Bool)):Option (Int×(List Bool)):=
 bif eqL a1.length a1.length then dm (iter (fe a0) n ((0:Int),a1)) fun w1=>bif eqL w1.length w1.length then some (((-1):Int),w1)else none else none
def dJ (n:Nat) (a0:(List Int)) (a1:(List Bool)):Option (Bool×(List Bool)):=
 bif eqL a1.length a1.length then (iF n a0 a1).bind fun r1=>bif eqL r1.2.length r1.2.length then some ((decide (r1.1>=(0:Int))),r1.2)else none else none
def dP (n:Nat) (a0:jR):(Int×Int×(List Bool))->Option ((Int×Int×(List Bool)) ⊕ (Int×(List Bool)))
 |(v4,v5,v6)=>(bif (decide (v5 < ((a0.uses.length:Int):Int)))then ((at? a0.uses v5).bind fun x1=>bif eqL v6.length v6.length then (dJ n x1 v6).bind fun r1=>(bif inb v5 r1.2.length then (at? r1.2 ((0:Nat)+v5:Int)).bind fun x2=>(bif (!x2)then (bif (!r1.1)then (bif (decide (v4 < (0:Int)))then some true else (at? a0.defs v5).bind fun x3=>(at? a0.defs v4).bind fun x4=>some (K3 x3.name x4.name))else some false)else some false)else none:Option (Bool)).bind fun v7=>(bif v7 then bif eqL r1.2.length r1.2.length then some (v5,r1.2)else none else bif eqL r1.2.length r1.2.length then some (v4,r1.2)else none)else none:Option (Int×(List Bool))).bind fun (v8,v9)=>bif eqL v9.length v9.length then some (.inl (v8,(i64.wrap (v5+1)),v9))else none else bif eqL v6.length v6.length then some (.inr (v4,v6))else none)
def fQ (n:Nat) (a0:jR):(Int×(List Int)×(List Bool))->Option ((Int×(List Int)×(List Bool)) ⊕ (List Int))
 |(v1,v2,v3)=>(bif (decide (v1 < ((a0.defs.length:Int):Int)))then bif eqL v3.length v3.length then (iter (dP n a0) n (((-1):Int),(0:Int),v3)).bind fun (w1,w2)=>bif inb w1 w2.length then (at? w2 ((0:Nat)+w1:Int)).bind fun x5=>bif bO v2.length v2.length (sub ([w1]:List Int) 0 1).length 1 8 then oO (v2++(sub ([w1]:List Int) 0 1)) fun r2=>bif eqL r2.length r2.length then bif eqL w2.length (w2.set ((0:Nat)+w1:Int).toNat true).length then some (.inl ((i64.wrap (v1+1)),r2,(w2.set ((0:Nat)+w1:Int).toNat true)))else none else none else none else none else none else bif eqL v2.length v2.length then some (.inr v2)else none)
def jg (n:Nat) (a0:jR):Option (List Int):=
 bif (decide ((a0.defs.length:Int)<=(a0.defs.length:Int))&&(decide (0<=(a0.defs.length:Int))&&ER (a0.defs.length:Int) 1))then bif eqL 0 ([]:List Int).length then bif eqL (((a0.defs.length:Int):Int).toNat) (List.replicate ((a0.defs.length:Int):Int).toNat false).length then (iter (fQ n a0) n ((0:Int),([]:List Int),(List.replicate ((a0.defs.length:Int):Int).toNat false))).bind fun w3=>bif eqL (sub w3 0 w3.length).length w3.length then some (sub w3 0 w3.length)else none else none else none else none
def dO (r1:(List Int)) (x2:(List Int)):(Int×Int)->Option ((Int×Int) ⊕ Int)
 |(v3,v4)=>(bif (decide (v4 < ((x2.length:Int):Int)))then ((at? x2 v4).bind fun x3=>(bif inb x3 r1.length then (at? r1 ((0:Nat)+x3:Int)).bind fun x4=>(bif (decide (x4>=(0:Int)))then (bif (decide (v3 < (0:Int)))then some true else bif inb x3 r1.length then (at? r1 ((0:Nat)+x3:Int)).bind fun x5=>bif inb v3 r1.length then (at? r1 ((0:Nat)+v3:Int)).bind fun x6=>some (decide (x5 < (x6:Int)))else none else none)else some false)else none:Option (Bool)).bind fun v5=>(bif v5 then some x3 else some v3):Option (Int)).bind fun v6=>some (.inl (v6,(i64.wrap (v4+1))))else some (.inr v3))
def fZ (n:Nat) (a0:Int) (a1:(List iM)) (a2:(List (List Int))) (r1:(List Int)):(Int×(List ByteArray))->Option ((Int×(List ByteArray)) ⊕ (Unit ⊕ ((List iM)×(List (List Int))×(List ByteArray))))
 |(v1,v2)=>(at? a1 v1).bind fun x1=>bif bO v2.length v2.length (sub ([x1.name]:List ByteArray) 0 1).length 1 16 then oO (v2++(sub ([x1.name]:List ByteArray) 0 1)) fun r2=>(at? a2 v1).bind fun x2=>(iter (dO r1 x2) n (((-1):Int),(0:Int))).bind fun w1=>(bif (decide (w1 < (0:Int)))then (bif eqL 0 ([]:List ByteArray).length then some (a1,a2,([]:List ByteArray))else none).map fun a=> .inr (.inr a)else (bif (w1==(a0:Int))then (bif !(r2.length==0)&&eqL r2.length r2.length then some (a1,a2,r2)else none).map fun a=> .inr (.inr a)else bif eqL r2.length r2.length then some (.inl (w1,r2))else none))else none
def fq (n:Nat) (a0:Int) (a1:(List iM)) (a2:(List (List Int))):Option ((List iM)×(List (List Int))×(List ByteArray)):=
 (eZ n (jR.mk a1 a2) a0).bind fun r1=>bif eqL 0 ([]:List ByteArray).length then dm (iter (fZ n a0 a1 a2 r1) n (a0,([]:List ByteArray))) fun ()=>none else none
def dD (n:Nat) (a0:(List iM)):(Int×(List iM)×(List (List Int))×(List ByteArray))->Option ((Int×(List iM)×(List (List Int))×(List ByteArray)) ⊕ ((List iM)×(List (List Int))×(List ByteArray)))
 |(v1,v2,v3,v4)=>(bif (decide (v1 < ((a0.length:Int):Int)))then ((fq n v1 v2 v3).bind fun r1=>((bif r1.2.2.length==0 then some true else some false):Option (Bool)).bind fun v5=>(bif v5 then bif eqL v4.length v4.length then some (r1.1,r1.2.1,v4)else none else ((bif v4.length==0 then some true else (bif (decide (((r1.2.2.length:Nat):Int) < (((v4.length:Nat):Int):Int)))then some true else (bif (((r1.2.2.length:Nat):Int)==(((v4.length:Nat):Int):Int))then bif eqL (sub r1.2.2 0 r1.2.2.length).length r1.2.2.length then bif eqL (sub v4 0 v4.length).length v4.length then (gW n (sub r1.2.2 0 r1.2.2.length) (sub v4 0 v4.length)).bind fun r2=>some (decide (r2 < (0:Int)))else none else none else some false))):Option (Bool)).bind fun v6=>(bif v6 then bif eqL r1.2.2.length r1.2.2.length then some (r1.1,r1.2.1,r1.2.2)else none else bif eqL v4.length v4.length then some (r1.1,r1.2.1,v4)else none)):Option ((List iM)×(List (List Int))×(List ByteArray))).bind fun (v7,v8,v9)=>bif eqL v9.length v9.length then some (.inl ((i64.wrap (v1+1)),v7,v8,v9))else none else bif eqL v4.length v4.length then some (.inr (v2,v3,v4))else none)
def dX (n:Nat) (a0:(List iM)) (a1:(List (List Int))):Option ((List iM)×(List (List Int))×(List ByteArray)):=
 bif eqL 0 ([]:List ByteArray).length then (iter (dD n a0) n ((0:Int),a0,a1,([]:List ByteArray))).bind fun (w1,w2,w3)=>bif eqL w3.length w3.length then some (w1,w2,w3)else none else none
def jA (r1:(List ByteArray)):(Int×(List (ByteArray×Bool)))->Option ((Int×(List (ByteArray×Bool))) ⊕ (List (ByteArray×Bool)))
 |(v1,v2)=>(bif (decide (v1 < (((r1.length:Nat):Int):Int)))then bif inb v1 r1.length then (at? r1 ((0:Nat)+v1:Int)).bind fun x1=>some (.inl ((i64.wrap (v1+1)),(jq sEq x1 true v2)))else none else some (.inr v2))
def gF (a0:dn):(Int×(List (ByteArray×Bool)))->Option ((Int×(List (ByteArray×Bool))) ⊕ (Unit ⊕ ((List Int)×(List ByteArray)×Int)))
 |(v3,v4)=>(bif (decide (v3 < ((a0.defs.length:Int):Int)))then (at? a0.defs v3).bind fun x2=>(bif ((eD sEq x2.name v4).getD false)then (some (([]:(List Int)),([]:(List ByteArray)),(5:Int))).map fun a=> .inr (.inr a)else some (.inl ((i64.wrap (v3+1)),(jq sEq x2.name true v4))))else some (.inr (.inl ())))
def rf (n:Nat) (a0:dn):Option ((List Int)×(List ByteArray)×Int):=
 (qz).bind fun r1=>(iter (jA r1) n ((0:Int),([]:(List (ByteArray×Bool))))).bind fun w1=>dm (iter (gF a0) n ((0:Int),w1)) fun ()=>(gD a0.defs).bind fun r2=>(dX n r2.1 r2.2).bind fun r3=>((bif r3.2.2.length==0 then some false else some true):Option (Bool)).bind fun v5=>(bif v5 then bif eqL (sub r3.2.2 0 r3.2.2.length).length r3.2.2.length then some (([]:(List Int)),(sub r3.2.2 0 r3.2.2.length),(16:Int))else none else (jg n (jR.mk r3.1 r3.2.1)).bind fun r4=>bif eqL (sub r4 0 r4.length).length r4.length then some ((sub r4 0 r4.length),([]:(List ByteArray)),(0:Int))else none)
def uU (a0:bB) (a1:aW):Option Bool:=
 some (ByteArray.toList a0.name==ByteArray.toList a1.s)
def uV (a0:bL) (a1:aW):Option Bool:=
 some (ByteArray.toList a0.name==ByteArray.toList a1.key)
def jh (a0:(List ByteArray)) (a1:ByteArray):Int->Option (Int ⊕ (Unit ⊕ Int))
 |v1=>(bif (decide (v1 < ((a0.length:Int):Int)))then (at? a0 v1).bind fun x1=>(bif (ByteArray.toList a1==ByteArray.toList x1)then (some v1).map fun a=> .inr (.inr a)else some (.inl (i64.wrap (v1+1))))else some (.inr (.inl ())))
def qC (n:Nat) (a0:(List ByteArray)) (a1:ByteArray):Option Int:=
 dm (iter (jh a0 a1) n (0:Int)) fun ()=>some ((-1):Int)
def ji (n:Nat) (a0:(List ByteArray)) (a1:ByteArray):Option Bool:=
 (qC n a0 a1).bind fun r1=>some (decide (r1>=(0:Int)))
def sU (a0:Bool):Option Int:=
 (bif a0 then some (1:Int)else some (0:Int))
def pO (a0:Int) (a1:Int):Option Int:=
 (bif (a1==(0:Int))then some (0:Int)else bif a1 != 0 then (bif a1 != 0 then ((bif ((Int.tmod a0 a1) != (0:Int))then some (!((decide ((Int.tmod a0 a1) < (0:Int)))==(decide (a1 < (0:Int)))))else some false):Option (Bool)).bind fun v1=>(bif v1 then some (i64.wrap ((i64.wrap (Int.tdiv a0 a1)) - 1))else some (i64.wrap (Int.tdiv a0 a1)))else none:Option (Int)).bind fun v2=>some v2 else none)
def Ci (a0:Int) (a1:Int) (a2:Int):Option Int:=
 (bif (a0==(4:Int))then some (i64.wrap (a1+a2))else (bif (a0==(5:Int))then some (i64.wrap (a1 - a2))else (bif (a0==(6:Int))then some (i64.wrap (a1*a2))else (bif (a0==(7:Int))then (pO a1 a2).bind fun r1=>some r1 else (bif (a0==(8:Int))then (bif (a2==(0:Int))then some (0:Int)else (pO a1 a2).bind fun r2=>some (i64.wrap (a1 - (i64.wrap (r2*a2)))))else (bif (a0==(10:Int))then (sU (a1==(a2:Int))).bind fun r3=>some r3 else (bif (a0==(11:Int))then (sU (decide (a1 < (a2:Int)))).bind fun r4=>some r4 else (bif (a0==(12:Int))then (sU (decide (a1<=(a2:Int)))).bind fun r5=>some r5 else (bif (a0==(13:Int))then (bif (a1 != (0:Int))then (sU (a2 != (0:Int))).bind fun r6=>some r6 else (sU false).bind fun r7=>some r7)else (bif (a1 != (0:Int))then (sU true).bind fun r8=>some r8 else (sU (a2 != (0:Int))).bind fun r9=>some r9))))))))))
def jI (n:Nat) (a0:(List iM)) (a1:(List bB)) (a2:(List pE)) (a3:(List pF)) (a4:(List AZ)) (a5:(List pG)) (a6:(List fP)) (a7:Int) (a8:(List ByteArray)) (a9:aW) (a10:(List (ByteArray×Int))):Option (Int×(List (ByteArray×Int))):=
 (jc n a1 (fun (y1:bB×Unit)=>uU y1.1 (aW.mk a9.op a9.n a9.s a9.key a9.args))).bind fun r1=>(bif (decide (r1 < (0:Int)))then some ((0:Int),a10)else (at? a1 r1).bind fun x1=>(jd n x1.rows (fun (y2:bL×Unit)=>uV y2.1 (aW.mk a9.op a9.n a9.s a9.key a9.args))).bind fun r2=>(bif (decide (r2>=(0:Int)))then (at? x1.rows r2).bind fun x2=>some (x2.n,a10)else some (x1.else_,a10)))
def dK (n:Nat) (rc:((List iM))->((List bB))->((List pE))->((List pF))->((List AZ))->((List pG))->((List fP))->(Int)->((List ByteArray))->(aW)->((List (ByteArray×Int)))->Option (Int×(List (ByteArray×Int)))) (a0:(List iM)) (a1:(List bB)) (a2:(List pE)) (a3:(List pF)) (a4:(List AZ)) (a5:(List pG)) (a6:(List fP)) (a7:Int) (a8:(List ByteArray)) (a9:aW):(Int×(List (ByteArray×Int))×(List Int))->Option ((Int×(List (ByteArray×Int))×(List Int)) ⊕ ((List (ByteArray×Int))×(List Int)))
 |(v1,v2,v3)=>(bif (decide (v1 < ((a9.args.length:Int):Int)))then ((at? a9.args v1).bind fun x1=>((bif (a9.op==(16:Int))then (bif (decide (v1>(0:Int)))then bif inb 0 v3.length then (at? v3 ((0:Nat)+0:Int)).bind fun x2=>some (!((x2 != (0:Int))==(v1==(1:Int))))else none else some false)else some false):Option (Bool)).bind fun v4=>(bif v4 then bif bO v3.length v3.length (sub ([0]:List Int) 0 1).length 1 8 then oO (v3++(sub ([0]:List Int) 0 1)) fun r1=>bif eqL r1.length r1.length then some (v2,r1)else none else none else (rc a0 a1 a2 a3 a4 a5 a6 a7 a8 (aW.mk x1.op x1.n x1.s x1.key x1.args) v2).bind fun r2=>bif bO v3.length v3.length (sub ([r2.1]:List Int) 0 1).length 1 8 then oO (v3++(sub ([r2.1]:List Int) 0 1)) fun r3=>bif eqL r3.length r3.length then some (r2.2,r3)else none else none):Option ((List (ByteArray×Int))×(List Int))).bind fun (v5,v6)=>bif eqL v6.length v6.length then some (.inl ((i64.wrap (v1+1)),v5,v6))else none else bif eqL v3.length v3.length then some (.inr (v2,v3))else none)
def cB (n:Nat) (rc:((List iM))->((List bB))->((List pE))->((List pF))->((List AZ))->((List pG))->((List fP))->(Int)->((List ByteArray))->(aW)->((List (ByteArray×Int)))->Option (Int×(List (ByteArray×Int)))) (a0:(List iM)) (a1:(List bB)) (a2:(List pE)) (a3:(List pF)) (a4:(List AZ)) (a5:(List pG)) (a6:(List fP)) (a7:Int) (a8:(List ByteArray)) (a9:aW) (a10:(List (ByteArray×Int))):Option (Int×(List (ByteArray×Int))):=
 bif eqL 0 ([]:List Int).length then (iter (dK n rc a0 a1 a2 a3 a4 a5 a6 a7 a8 a9) n ((0:Int),a10,([]:List Int))).bind fun (w1,w2)=>(bif (a9.op==(0:Int))then some (a9.n,w1)else (bif (a9.op==(1:Int))then some (((eD sEq a9.s w1).getD 0),w1)else (bif (a9.op==(2:Int))then (jI n a0 a1 a2 a3 a4 a5 a6 a7 a8 (aW.mk a9.op a9.n a9.s a9.key a9.args) w1).bind fun r4=>some (r4.1,r4.2)else (bif (a9.op==(3:Int))then (ji n a8 a9.s).bind fun r5=>(sU r5).bind fun r6=>some (r6,w1)else (bif (a9.op==(9:Int))then bif inb 0 w2.length then (at? w2 ((0:Nat)+0:Int)).bind fun x3=>some ((i64.wrap (0 - x3)),w1)else none else (bif (a9.op==(15:Int))then bif inb 0 w2.length then (at? w2 ((0:Nat)+0:Int)).bind fun x4=>(sU (x4==(0:Int))).bind fun r7=>some (r7,w1)else none else (bif (a9.op==(16:Int))then bif inb 0 w2.length then (at? w2 ((0:Nat)+0:Int)).bind fun x5=>(bif (x5 != (0:Int))then bif inb 1 w2.length then (at? w2 ((0:Nat)+1:Int)).bind fun x6=>some (x6,w1)else none else bif inb 2 w2.length then (at? w2 ((0:Nat)+2:Int)).bind fun x7=>some (x7,w1)else none)else none else bif inb 0 w2.length then (at? w2 ((0:Nat)+0:Int)).bind fun x8=>bif inb 1 w2.length then (at? w2 ((0:Nat)+1:Int)).bind fun x9=>(Ci a9.op x8 x9).bind fun r8=>some (r8,w1)else none else none)))))))else none
def yS (rc:((List iM))->((List bB))->((List pE))->((List pF))->((List AZ))->((List pG))->((List fP))->(Int)->((List ByteArray))->(aW)->((List (ByteArray×Int)))->Option (Int×(List (ByteArray×Int)))):GSig xx:=⟨[(.a [(.v (.sl (.st SI.Def))),(.v (.sl (.st SI.Table))),(.v (.sl (.st SI.Zone))),(.v (.sl (.st SI.Rule))),(.v (.sl (.st SI.Cap))),(.v (.sl (.st SI.View))),(.v (.sl (.st SI.Point3))),(.v (.int .i64)),(.mp 0),(.v (.sl .str))]),(.v (.st SI.Expr))],[(0,.m .str (.int .i64))],[(.v (.int .i64))],[(0,.m .str (.int .i64))],fun v=>rc (v.1) (v.2.1) (v.2.2.1) (v.2.2.2.1) (v.2.2.2.2.1) (v.2.2.2.2.2.1) (v.2.2.2.2.2.2.1) (v.2.2.2.2.2.2.2.1) (v.2.2.2.2.2.2.2.2.1) (v.2.2.2.2.2.2.2.2.2.1) (v.2.2.2.2.2.2.2.2.2.2)⟩
def fw (rc:((List iM))->((List bB))->((List pE))->((List pF))->((List AZ))->((List pG))->((List fP))->(Int)->((List ByteArray))->(aW)->((List (ByteArray×Int)))->Option (Int×(List (ByteArray×Int)))):Sig xx:=⟨[],[.d .bool],fun _=>none,some (yS rc)⟩
def aR (n:Nat):Nat->((List iM))->((List bB))->((List pE))->((List pF))->((List AZ))->((List pG))->((List fP))->(Int)->((List ByteArray))->(aW)->((List (ByteArray×Int)))->Option (Int×(List (ByteArray×Int)))
 | 0=>fun _ _ _ _ _ _ _ _ _ _ _=>none
 |m+1=>cB n (aR n m)
def dL (n:Nat) (a0:(List iM)) (a1:(List bB)) (a2:(List pE)) (a3:(List pF)) (a4:(List AZ)) (a5:(List pG)) (a6:(List fP)) (a7:Int) (a8:(List ByteArray)) (a9:aW) (a10:(List (ByteArray×Int))):Option (Int×(List (ByteArray×Int))):=aR n n a0 a1 a2 a3 a4 a5 a6 a7 a8 a9 a10
def iP (n:Nat) (a1:(List bL)):(Int×(List (ByteArray×Int))×(List (ByteArray×Bool)))->Option ((Int×(List (ByteArray×Int))×(List (ByteArray×Bool))) ⊕ ((List (ByteArray×Int))×(List (ByteArray×Bool))))
 |(v1,v2,v3)=>(bif (decide (v1 < ((a1.length:Int):Int)))then ((at? a1 v1).bind fun x1=>(bif (!((eD sEq x1.name v3).getD false))then some ((jq sEq x1.name x1.n v2),(jq sEq x1.name true v3))else some (v2,v3)):Option ((List (ByteArray×Int))×(List (ByteArray×Bool)))).bind fun (v4,v5)=>some (.inl ((i64.wrap (v1+1)),v4,v5))else some (.inr (v2,v3)))
def ku (n:Nat) (a0:dn) (a2:(List ByteArray)) (w2:(List (ByteArray×Bool))) (r1:(List Int)×(List ByteArray)×Int):(Int×(List (ByteArray×Int))×(List Int))->Option ((Int×(List (ByteArray×Int))×(List Int)) ⊕ ((List (ByteArray×Int))×(List Int)))
 |(v6,v7,v8)=>(bif (decide (v6 < (((r1.1.length:Nat):Int):Int)))then (bif inb v6 r1.1.length then (at? r1.1 ((0:Nat)+v6:Int)).bind fun x2=>(at? a0.defs x2).bind fun x3=>((w9 n (aW.mk x3.body_op x3.body_n x3.body_s x3.body_key x3.body_args)).bind fun r2=>(bif r2 then (dL n a0.defs a0.tables a0.zones a0.rules a0.caps a0.views a0.sun a0.hours a2 (aW.mk x3.body_op x3.body_n x3.body_s x3.body_key x3.body_args) v7).bind fun r3=>bif inb x2 (((a0.defs.length:Int):Int).toNat)then (at? v8 ((0:Nat)+x2:Int)).bind fun x4=>some (r3.2,(v8.set ((0:Nat)+x2:Int).toNat r3.1))else none else some (v7,v8)):Option ((List (ByteArray×Int))×(List Int))).bind fun (v9,v10)=>(bif (!((eD sEq x3.name w2).getD false))then bif inb x2 (((a0.defs.length:Int):Int).toNat)then (at? v10 ((0:Nat)+x2:Int)).bind fun x5=>some ((jq sEq x3.name x5 v9),v10)else none else some (v9,v10))else none:Option ((List (ByteArray×Int))×(List Int))).bind fun (v11,v12)=>some (.inl ((i64.wrap (v6+1)),v11,v12))else some (.inr (v7,v8)))
def oK (n:Nat) (a0:dn) (a1:(List bL)) (a2:(List ByteArray)):Option ((List iM)×(List bB)×(List pE)×(List pF)×(List AZ)×(List pG)×(List fP)×Int×(List ByteArray)×(List (ByteArray×Int))×(List Int)):=
 (iter (iP n a1) n ((0:Int),([]:(List (ByteArray×Int))),([]:(List (ByteArray×Bool))))).bind fun (w1,w2)=>bif (decide ((a0.defs.length:Int)<=(a0.defs.length:Int))&&(decide (0<=(a0.defs.length:Int))&&ER (a0.defs.length:Int) 8))then (rf n a0).bind fun r1=>(bif (r1.2.2 != (0:Int))then bif eqL (((a0.defs.length:Int):Int).toNat) (List.replicate ((a0.defs.length:Int):Int).toNat (0:Int)).length then some (a0.defs,a0.tables,a0.zones,a0.rules,a0.caps,a0.views,a0.sun,a0.hours,a2,w1,(List.replicate ((a0.defs.length:Int):Int).toNat (0:Int)))else none else (iter (ku n a0 a2 w2 r1) n ((0:Int),w1,(List.replicate ((a0.defs.length:Int):Int).toNat (0:Int)))).bind fun (w3,w4)=>bif eqL (((a0.defs.length:Int):Int).toNat) w4.length then some (a0.defs,a0.tables,a0.zones,a0.rules,a0.caps,a0.views,a0.sun,a0.hours,a2,w3,w4)else none)else none
def yT (n:Nat) (a0:dn) (a1:(List bL)) (a2:(List ByteArray)) (a3:aW):Option Int:=
 (w9 n (aW.mk a3.op a3.n a3.s a3.key a3.args)).bind fun r1=>(bif (!r1)then some (0:Int)else (oK n a0 a1 a2).bind fun r2=>(dL n r2.1 r2.2.1 r2.2.2.1 r2.2.2.2.1 r2.2.2.2.2.1 r2.2.2.2.2.2.1 r2.2.2.2.2.2.2.1 r2.2.2.2.2.2.2.2.1 r2.2.2.2.2.2.2.2.2.1 (aW.mk a3.op a3.n a3.s a3.key a3.args) r2.2.2.2.2.2.2.2.2.2.1).bind fun r3=>some r3.1)
def xg (a0:Int):Option Bool:=
 (bif (decide (1<=(a0:Int)))then some (decide (a0<=(1073741824:Int)))else some false)
def FP (a0:Int):Option Bool:=
 (bif (decide (0<=(a0:Int)))then some (decide (a0<=(1073741824:Int)))else some false)
def lD (a0:(List Int)):Int->Option (Int ⊕ (Unit ⊕ Bool))
 |v1=>(bif (decide (v1 < ((a0.length:Int):Int)))then (at? a0 (i64.wrap (v1 - 1))).bind fun x1=>(at? a0 v1).bind fun x2=>(bif (decide (x1>=(x2:Int)))then (some false).map fun a=> .inr (.inr a)else some (.inl (i64.wrap (v1+1))))else some (.inr (.inl ())))
def rq (n:Nat) (a0:(List Int)):Option Bool:=
 dm (iter (lD a0) n (1:Int)) fun ()=>some true
def uW (a0:Int):Option Bool:=
 (xg a0).bind fun r1=>some (!r1)
def J6 (a0:ak) (a1:ak):Option Bool:=
 ((uQ a0).bind fun r1=>(bif (!r1)then some true else (uQ a1).bind fun r2=>some (!r2)):Option (Bool)).bind fun v1=>(bif v1 then some false else (Rs a0 a1).bind fun r3=>(bif (r3.1==(0:Int))then (bif (decide (r3.2 < (0:Int)))then some true else (bif (r3.2==(0:Int))then some (decide (r3.1 < (0:Int)))else some false))else (bif (r3.2==(0:Int))then some (decide (r3.1 < (0:Int)))else some false)))
def Bc (a0:(List ak)) (a1:(ak×Unit)->Option Bool):Int->Option (Int ⊕ (Unit ⊕ Int))
 |v1=>(bif (decide (v1 < ((a0.length:Int):Int)))then (at? a0 v1).bind fun x1=>(a1 (x1,())).bind fun r1=>(bif r1 then (some v1).map fun a=> .inr (.inr a)else some (.inl (i64.wrap (v1+1))))else some (.inr (.inl ())))
def mZ (n:Nat) (a0:(List ak)) (a1:(ak×Unit)->Option Bool):Option Int:=
 dm (iter (Bc a0 a1) n (0:Int)) fun ()=>some ((-1):Int)
def jV (a0:ak) (a1:Int) (a2:(List ak)):Option (Bool×Int×(List ak)):=
 bif inb a1 a2.length then (at? a2 ((0:Nat)+a1:Int)).bind fun x1=>(J6 x1 a0).bind fun r1=>(bif r1 then bif bO a2.length a2.length (sub ([a0]:List ak) 0 1).length 1 32 then oO (a2++(sub ([a0]:List ak) 0 1)) fun r2=>bif eqL r2.length r2.length then some (true,a1,r2)else none else none else bif eqL a2.length a2.length then some (false,a1,a2)else none)else none
def eG (a0:(List ak)):(Int×Int×(List ak))->Option ((Int×Int×(List ak)) ⊕ ((Int×(List ak)) ⊕ (Int×Int×(List ak))))
 |(v1,v2,v3)=>(bif (decide (v1 < ((a0.length:Int):Int)))then (at? a0 v1).bind fun x1=>bif eqL v3.length v3.length then (jV x1 v2 v3).bind fun r1=>(bif r1.1 then (bif eqL r1.2.2.length r1.2.2.length then some (v1,r1.2.1,r1.2.2)else none).map fun a=> .inr (.inr a)else bif eqL r1.2.2.length r1.2.2.length then some (.inl ((i64.wrap (v1+1)),r1.2.1,r1.2.2))else none)else none else bif eqL v3.length v3.length then some (.inr (.inl (v2,v3)))else none)
def gX (n:Nat) (a0:(List ak)) (a1:Int) (a2:(List ak)):Option (Int×Int×(List ak)):=
 bif eqL a2.length a2.length then dm (iter (eG a0) n ((0:Int),a1,a2)) fun (w1,w2)=>bif eqL w2.length w2.length then some (((-1):Int),w1,w2)else none else none
def bF (a0:Int) (a1:(List ak)):(Int×Int×(List ak)×Int×(List ak))->Option ((Int×Int×(List ak)×Int×(List ak)) ⊕ (Int×(List ak)×Int×(List ak)))
 |(v1,v2,v3,v4,v5)=>(bif (decide (v2 < ((((a1.length - (a0:Int).toNat):Nat):Int):Int)))then (bif inb v2 (a1.length - (a0:Int).toNat)then (at? v3 (((a0:Int).toNat:Nat)+v2:Int)).bind fun x1=>bif eqL v5.length v5.length then (jV x1 v4 v5).bind fun r2=>(bif (!r2.1)then bif inb v1 (a1.length - (a0:Int).toNat)then (at? v3 (((a0:Int).toNat:Nat)+v1:Int)).bind fun x2=>bif eqL r2.2.2.length r2.2.2.length then some ((i64.wrap (v1+1)),(v3.set (((a0:Int).toNat:Nat)+v1:Int).toNat x1),r2.2.1,r2.2.2)else none else none else bif eqL r2.2.2.length r2.2.2.length then some (v1,v3,r2.2.1,r2.2.2)else none)else none else none:Option (Int×(List ak)×Int×(List ak))).bind fun (v6,v7,v8,v9)=>bif eqL v9.length v9.length then some (.inl (v6,(i64.wrap (v2+1)),v7,v8,v9))else none else bif eqL v5.length v5.length then some (.inr (v1,v3,v4,v5))else none)
def fT (n:Nat) (a0:Int) (a1:(List ak)) (a2:Int) (a3:(List ak)):Option (Int×(List ak)×Int×(List ak)):=
 bif eqL (sub a1 ((a0:Int).toNat) (a1.length - (a0:Int).toNat)).length (a1.length - (a0:Int).toNat)then bif eqL a3.length a3.length then (gX n (sub a1 ((a0:Int).toNat) (a1.length - (a0:Int).toNat)) a2 a3).bind fun r1=>(bif (r1.1==((-1):Int))then bif eqL (((a0:Int).toNat)+(a1.length - (a0:Int).toNat)) a1.length then bif eqL r1.2.2.length r1.2.2.length then some ((((a0:Int).toNat:Nat):Int),a1,r1.2.1,r1.2.2)else none else none else bif eqL r1.2.2.length r1.2.2.length then (iter (bF a0 a1) n (r1.1,(i64.wrap (r1.1+1)),a1,r1.2.1,r1.2.2)).bind fun (w1,w2,w3,w4)=>bif kI w1 (((a1.length - (a0:Int).toNat):Nat):Int) (a1.length - (a0:Int).toNat)then bif kI 0 w1 (a1.length - (a0:Int).toNat)then bif eqL (((a0:Int).toNat)+((w1:Int).toNat)) (w2.take ((a0:Int).toNat+(w1:Int).toNat)).length then bif eqL w4.length w4.length then some ((((a0:Int).toNat:Nat):Int),(w2.take ((a0:Int).toNat+(w1:Int).toNat)),w3,w4)else none else none else none else none else none)else none else none
def jW (n:Nat):(Int×(List ak)×Int×(List ak))->Option ((Int×(List ak)×Int×(List ak)) ⊕ (Int×(List ak)×(List ak)))
 |(v4,v5,v6,v7)=>(bif (decide (v6 < (((v7.length:Nat):Int):Int)))then bif eqL (((v4:Int).toNat)+(v5.length - (v4:Int).toNat)) v5.length then bif eqL v7.length v7.length then (fT n (((v4:Int).toNat:Nat):Int) v5 v6 v7).bind fun r3=>bif eqL (((r3.1:Int).toNat)+(r3.2.1.length - (r3.1:Int).toNat)) r3.2.1.length then bif eqL r3.2.2.2.length r3.2.2.2.length then some (.inl ((((r3.1:Int).toNat:Nat):Int),r3.2.1,(i64.wrap (r3.2.2.1+1)),r3.2.2.2))else none else none else none else none else bif eqL (((v4:Int).toNat)+(v5.length - (v4:Int).toNat)) v5.length then bif eqL v7.length v7.length then some (.inr ((((v4:Int).toNat:Nat):Int),v5,v7))else none else none)
def pQ (n:Nat):(Int×(List ak)×(List (List ak)))->Option ((Int×(List ak)×(List (List ak))) ⊕ (List (List ak)))
 |(v1,v2,v3)=>(bif (decide ((((v2.length - (v1:Int).toNat):Nat):Int)>(0:Int)))then bif inb 0 (v2.length - (v1:Int).toNat)then (at? v2 (((v1:Int).toNat:Nat)+0:Int)).bind fun x1=>bif kI 1 (((v2.length - (v1:Int).toNat):Nat):Int) (v2.length - (v1:Int).toNat)then bif eqL (((v1:Int).toNat+1)+((v2.length - (v1:Int).toNat) - 1)) v2.length then bif eqL 1 ([x1]:List ak).length then (iter (jW n) n (((((v1:Int).toNat+1):Nat):Int),v2,(0:Int),([x1]:List ak))).bind fun (w1,w2,w3)=>bif eqL (sub w3 0 w3.length).length w3.length then bif eqL (sub ([(sub w3 0 w3.length)]:List (List ak)) 0 1).length 1 then (rQ n (sub ([(sub w3 0 w3.length)]:List (List ak)) 0 1)).bind fun r4=>bif eqL (sub r4 0 r4.length).length r4.length then (wW n (sub r4 0 r4.length)).bind fun r5=>bif eqL (sub r5 0 r5.length).length r5.length then bif bO v3.length v3.length (sub ([(sub r5 0 r5.length)]:List (List ak)) 0 1).length 1 24 then oO (v3++(sub ([(sub r5 0 r5.length)]:List (List ak)) 0 1)) fun r6=>bif eqL (((w1:Int).toNat)+(w2.length - (w1:Int).toNat)) w2.length then bif eqL r6.length r6.length then some (.inl ((((w1:Int).toNat:Nat):Int),w2,r6))else none else none else none else none else none else none else none else none else none else none else none else bif eqL v3.length v3.length then some (.inr v3)else none)
end
end Go.Proofs
