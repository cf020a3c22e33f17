/-
  Printed by wip/gen: what functions of the program compute.
-/
import Derived.Test.YtbdekfpclohfnaaGreatTBase
open Go.IntKind (i64)
namespace Go.Proofs
open Go.Gb Go.RowKit
noncomputable section
def LC:Option aN:=
 bif eqL (sub ([(kF.mk 0 1),(kF.mk 1 2)]:List kF) 0 2).length 2 then some (aN.mk 3 (sub ([(kF.mk 0 1),(kF.mk 1 2)]:List kF) 0 2))else none
def oU (a0:aN):Int->Option (Int ⊕ (Unit ⊕ Bool))
 |v2=>(bif (decide (v2 < ((a0.pairs.length:Int):Int)))then (at? a0.pairs v2).bind fun x1=>((bif (decide ((min x1.a0 x1.a1) < (0:Int)))then some true else some (decide ((max x1.a0 x1.a1)>=(a0.values:Int)))):Option (Bool)).bind fun v3=>(bif v3 then (some false).map fun a=> .inr (.inr a)else some (.inl (i64.wrap (v2+1))))else some (.inr (.inl ())))
def qD (n:Nat) (a0:aN):Option Bool:=
 ((bif (decide (a0.values < (1:Int)))then some true else (bif (decide (a0.values>(12:Int)))then some true else some (decide ((a0.pairs.length:Int)>(144:Int))))):Option (Bool)).bind fun v1=>(bif v1 then some false else dP (iter (oU a0) n (0:Int)) fun ()=>some true)
def oV (a0:aN):(Int×(List Bool))->Option ((Int×(List Bool)) ⊕ (List Bool))
 |(v1,v2)=>(bif (decide (v1 < ((a0.pairs.length:Int):Int)))then (at? a0.pairs v1).bind fun x1=>bif inb x1.a0 12 then bif inb x1.a1 12 then bif decide ((0:Int)<=x1.a1)&&fK ((0+(x1.a0:Int).toNat*12)+(x1.a1:Int).toNat) 1 v2.length then some (.inl ((i64.wrap (v1+1)),(List.set v2 ((0+(x1.a0:Int).toNat*12)+(x1.a1:Int).toNat) true)))else none else none else none else some (.inr v2))
def qE (n:Nat) (a0:aN):Option bJ:=
 (iter (oV a0) n ((0:Int),(List.replicate 144 false))).bind fun w1=>(bE (sub w1 0 144)).bind fun x2=>bif eqL x2.l.length 144&&fK 0 x2.l.length (List.replicate 144 false).length then (bE (sub (jV (List.replicate 144 false) 0 x2.l) 0 144)).bind fun z1=>some z1 else none
def oW (v2:(List Bool)) (x3:bJ) (v3:Int) (v5:Int):(Int×(List Bool))->Option ((Int×(List Bool)) ⊕ (List Bool))
 |(v7,v8)=>(bif (decide (v7 < (12:Int)))then (bif inb v3 12 then bif inb v7 12 then (atO v8 (0+(v3:Int).toNat*12) v7).bind fun x4=>(bif x4 then bif inb v3 12 then bif inb v7 12 then bif decide ((0:Int)<=v7)&&fK ((0+(v3:Int).toNat*12)+(v7:Int).toNat) 1 v8.length then some (List.set v8 ((0+(v3:Int).toNat*12)+(v7:Int).toNat) true)else none else none else none else bif inb v3 12 then bif inb v5 12 then (atO (jV v2 0 x3.l) (0+(v3:Int).toNat*12) v5).bind fun x5=>(bif x5 then bif inb v5 12 then bif inb v7 12 then (atO (jV v2 0 x3.l) (0+(v5:Int).toNat*12) v7).bind fun x6=>bif inb v3 12 then bif inb v7 12 then bif decide ((0:Int)<=v7)&&fK ((0+(v3:Int).toNat*12)+(v7:Int).toNat) 1 v8.length then some (List.set v8 ((0+(v3:Int).toNat*12)+(v7:Int).toNat) x6)else none else none else none else none else none else bif inb v3 12 then bif inb v7 12 then bif decide ((0:Int)<=v7)&&fK ((0+(v3:Int).toNat*12)+(v7:Int).toNat) 1 v8.length then some (List.set v8 ((0+(v3:Int).toNat*12)+(v7:Int).toNat) false)else none else none else none)else none else none)else none else none:Option ((List Bool))).bind fun v9=>some (.inl ((i64.wrap (v7+1)),v9))else some (.inr v8))
def oZ (n:Nat) (v2:(List Bool)) (x3:bJ) (v3:Int):(Int×(List Bool))->Option ((Int×(List Bool)) ⊕ (List Bool))
 |(v5,v6)=>(bif (decide (v5 < (12:Int)))then (iter (oW v2 x3 v3 v5) n ((0:Int),v6)).bind fun w1=>some (.inl ((i64.wrap (v5+1)),w1))else some (.inr v6))
def o8 (n:Nat) (v2:(List Bool)) (x3:bJ):(Int×(List Bool))->Option ((Int×(List Bool)) ⊕ (List Bool))
 |(v3,v4)=>(bif (decide (v3 < (12:Int)))then (iter (oZ n v2 x3 v3) n ((0:Int),v4)).bind fun w2=>some (.inl ((i64.wrap (v3+1)),w2))else some (.inr v4))
def vG (n:Nat):((List Bool)×(List Bool))->Option (((List Bool)×(List Bool)) ⊕ (List Bool))
 |(v1,v2)=>(bE (sub v2 0 144)).bind fun x1=>(bE (sub v1 0 144)).bind fun x2=>(bif (!(Xi x1.l x2.l))then (bE (sub v1 0 144)).bind fun x3=>bif eqL x3.l.length 144&&fK 0 x3.l.length v2.length then (iter (o8 n v2 x3) n ((0:Int),v1)).bind fun w3=>(bE (sub (jV v2 0 x3.l) 0 144)).bind fun x7=>bif eqL x7.l.length 144&&fK 0 x7.l.length (List.replicate 144 false).length then some (.inl (w3,(jV (List.replicate 144 false) 0 x7.l)))else none else none else some (.inr v1))
def qF (n:Nat) (a0:bJ):Option bJ:=
 bif eqL (List.replicate 144 false).length 144&&fK 0 (List.replicate 144 false).length (List.replicate 144 false).length then (iter (vG n) n (a0.l,(jV (List.replicate 144 false) 0 (List.replicate 144 false)))).bind fun w4=>(bE (sub w4 0 144)).bind fun x8=>bif eqL x8.l.length 144&&fK 0 x8.l.length (List.replicate 144 false).length then (bE (sub (jV (List.replicate 144 false) 0 x8.l) 0 144)).bind fun z1=>some z1 else none else none
def mV (r3:bJ):Int->Option (Int ⊕ (Unit ⊕ (bJ×Bool)))
 |v1=>(bif (decide (v1 < (12:Int)))then bif inb v1 12 then bif inb v1 12 then (atO (jV (List.replicate 144 false) 0 r3.l) (0+(v1:Int).toNat*12) v1).bind fun x1=>(bif x1 then bif eqL (List.replicate 144 false).length 144&&fK 0 (List.replicate 144 false).length (List.replicate 144 false).length then ((bE (sub (jV (List.replicate 144 false) 0 (List.replicate 144 false)) 0 144)).bind fun z2=>some (z2,false)).map fun a=> .inr (.inr a)else none else some (.inl (i64.wrap (v1+1))))else none else none else some (.inr (.inl ())))
def mW (a0:aN):(Int×(List Bool))->Option ((Int×(List Bool)) ⊕ (List Bool))
 |(v2,v3)=>(bif (decide (v2 < (a0.values:Int)))then bif inb v2 12 then bif inb v2 12 then bif decide ((0:Int)<=v2)&&fK ((0+(v2:Int).toNat*12)+(v2:Int).toNat) 1 v3.length then some (.inl ((i64.wrap (v2+1)),(List.set v3 ((0+(v2:Int).toNat*12)+(v2:Int).toNat) true)))else none else none else none else some (.inr v3))
def kX (n:Nat) (a0:aN):Option (bJ×Bool):=
 (qD n a0).bind fun r1=>(bif (!r1)then bif eqL (List.replicate 144 false).length 144&&fK 0 (List.replicate 144 false).length (List.replicate 144 false).length then (bE (sub (jV (List.replicate 144 false) 0 (List.replicate 144 false)) 0 144)).bind fun z1=>some (z1,false)else none else (qE n a0).bind fun r2=>(qF n r2).bind fun r3=>bif eqL r3.l.length 144&&fK 0 r3.l.length (List.replicate 144 false).length then dP (iter (mV r3) n (0:Int)) fun ()=>(iter (mW a0) n ((0:Int),(jV (List.replicate 144 false) 0 r3.l))).bind fun w1=>(bE (sub w1 0 144)).bind fun x2=>bif eqL x2.l.length 144&&fK 0 x2.l.length (List.replicate 144 false).length then (bE (sub (jV (List.replicate 144 false) 0 x2.l) 0 144)).bind fun z3=>some (z3,true)else none else none)
def o9 (n:Nat) (a0:(List aN)):Int->Option (Int ⊕ (Unit ⊕ Bool))
 |v1=>(bif (decide (v1 < ((a0.length:Int):Int)))then (at? a0 v1).bind fun x1=>(kX n x1).bind fun r1=>bif eqL r1.1.l.length 144&&fK 0 r1.1.l.length (List.replicate 144 false).length then (bif (!r1.2)then (some false).map fun a=> .inr (.inr a)else some (.inl (i64.wrap (v1+1))))else none else some (.inr (.inl ())))
def mX (n:Nat) (a0:(List aN)):Option Bool:=
 dP (iter (o9 n a0) n (0:Int)) fun ()=>some (decide ((a0.length:Int)<=(12:Int)))
def Bt (a0:(List au)):Option (List au):=
 (bif a0.isEmpty then (both (some ([]:(List au))) (bif bG ([]:List au).length 0 a0.length a0.length 32 then jM (([]:List au)++a0) fun r1=>bif eqL (sub r1 0 r1.length).length r1.length then some (sub r1 0 r1.length)else none else none))else bif bG ([]:List au).length 0 a0.length a0.length 32 then jM (([]:List au)++a0) fun r2=>bif eqL (sub r2 0 r2.length).length r2.length then some (sub r2 0 r2.length)else none else none)
def kG (a0:(List Int)):Option (List Int):=
 (bif a0.isEmpty then (both (some ([]:(List Int))) (bif bG ([]:List Int).length 0 a0.length a0.length 8 then jM (([]:List Int)++a0) fun r1=>bif eqL (sub r1 0 r1.length).length r1.length then some (sub r1 0 r1.length)else none else none))else bif bG ([]:List Int).length 0 a0.length a0.length 8 then jM (([]:List Int)++a0) fun r2=>bif eqL (sub r2 0 r2.length).length r2.length then some (sub r2 0 r2.length)else none else none)
def LD (a0:iQ):Option iQ:=
 (Bt a0.area).bind fun r1=>(kG a0.from_).bind fun r2=>bif eqL (sub r1 0 r1.length).length r1.length then bif eqL (sub r2 0 r2.length).length r2.length then some (iQ.mk a0.id a0.owner (sub r1 0 r1.length) (sub r2 0 r2.length))else none else none
def Ew (a0:(List iQ)) (a1:Int):Int->Option (Int ⊕ (Unit ⊕ (iQ×Bool)))
 |v1=>(bif (decide (v1 < ((a0.length:Int):Int)))then (at? a0 v1).bind fun x1=>(bif (x1.id==(a1:Int))then (LD x1).bind fun r1=>(some (r1,true)).map fun a=> .inr (.inr a)else some (.inl (i64.wrap (v1+1))))else some (.inr (.inl ())))
def IA (n:Nat) (a0:(List iQ)) (a1:Int):Option (iQ×Bool):=
 dP (iter (Ew a0 a1) n (0:Int)) fun ()=>some ((iQ.mk 0 0 ([]) ([])),false)
def bits_Len64 (a0:Int):Option Int:=
 ((bif (decide (a0>=(4294967296:Int)))then bif (decide (0<=32)&&decide (32<=IntKind.u64.bits))then some ((a0/2 ^ (32:Int).toNat),(32:Int))else none else some (a0,(0:Int))):Option (Int×Int)).bind fun (v1,v2)=>((bif (decide (v1>=(65536:Int)))then bif (decide (0<=16)&&decide (16<=IntKind.u64.bits))then some ((v1/2 ^ (16:Int).toNat),(i64.wrap (v2+16)))else none else some (v1,v2)):Option (Int×Int)).bind fun (v3,v4)=>((bif (decide (v3>=(256:Int)))then bif (decide (0<=8)&&decide (8<=IntKind.u64.bits))then some ((v3/2 ^ (8:Int).toNat),(i64.wrap (v4+8)))else none else some (v3,v4)):Option (Int×Int)).bind fun (v5,v6)=>(Vs (⟨#[0,1,2,2,3,3,3,3,4,4,4,4,4,4,4,4,5,5,5,5,5,5,5,5,5,5,5,5,5,5,5,5,6,6,6,6,6,6,6,6,6,6,6,6,6,6,6,6,6,6,6,6,6,6,6,6,6,6,6,6,6,6,6,6,7,7,7,7,7,7,7,7,7,7,7,7,7,7,7,7,7,7,7,7,7,7,7,7,7,7,7,7,7,7,7,7,7,7,7,7,7,7,7,7,7,7,7,7,7,7,7,7,7,7,7,7,7,7,7,7,7,7,7,7,7,7,7,7,8,8,8,8,8,8,8,8,8,8,8,8,8,8,8,8,8,8,8,8,8,8,8,8,8,8,8,8,8,8,8,8,8,8,8,8,8,8,8,8,8,8,8,8,8,8,8,8,8,8,8,8,8,8,8,8,8,8,8,8,8,8,8,8,8,8,8,8,8,8,8,8,8,8,8,8,8,8,8,8,8,8,8,8,8,8,8,8,8,8,8,8,8,8,8,8,8,8,8,8,8,8,8,8,8,8,8,8,8,8,8,8,8,8,8,8,8,8,8,8,8,8,8,8,8,8,8,8]⟩) (IntKind.u8.wrap v5)).bind fun x1=>some (i64.wrap (v6+(i64.wrap x1)))
def bits_Len (a0:Int):Option Int:=
 (bits_Len64 a0).bind fun r1=>some r1
def cmp_isNaN_string (a0:ByteArray):Option Bool:=
 some (!(ByteArray.toList a0==ByteArray.toList a0))
def cmp_Less_string (a0:ByteArray) (a1:ByteArray):Option Bool:=
 (cmp_isNaN_string a0).bind fun r1=>(bif r1 then (cmp_isNaN_string a1).bind fun r2=>(bif (!r2)then some true else some (Au a0 a1))else some (Au a0 a1))
def sQ (n:Nat) (a0:(List ByteArray)) (a1:Int) (a2:Int):Option (List ByteArray):=
 iP cmp_Less_string (fun r=>r) n a0 a1 a2
def zq (n:Nat) (a0:(List ByteArray)) (a1:Int) (a2:Int) (a3:Int):Option (List ByteArray):=
 mU cmp_Less_string (fun r=>r) n a0 a1 a2 a3
def zu (n:Nat) (a0:(List ByteArray)) (a1:Int) (a2:Int):Option (List ByteArray):=
 sO cmp_Less_string (fun r=>r) n a0 a1 a2
def aK (a0:Int):Option Int:=
 (bits_Len (IntKind.u64.wrap a0)).bind fun r1=>bif (decide (0<=r1)&&decide (r1<=IntKind.u64.bits))then some (IntKind.u64.wrap (1*2 ^ (r1:Int).toNat))else none
def aL (a0:Int):Option (Int×Int):=
 bif (decide (0<=13)&&decide (13<=IntKind.u64.bits))then bif (decide (0<=7)&&decide (7<=IntKind.u64.bits))then bif (decide (0<=17)&&decide (17<=IntKind.u64.bits))then some ((bits .xor .u64 (bits .xor .u64 (bits .xor .u64 a0 (IntKind.u64.wrap (a0*2 ^ (13:Int).toNat))) ((bits .xor .u64 a0 (IntKind.u64.wrap (a0*2 ^ (13:Int).toNat)))/2 ^ (7:Int).toNat)) (IntKind.u64.wrap ((bits .xor .u64 (bits .xor .u64 a0 (IntKind.u64.wrap (a0*2 ^ (13:Int).toNat))) ((bits .xor .u64 a0 (IntKind.u64.wrap (a0*2 ^ (13:Int).toNat)))/2 ^ (7:Int).toNat))*2 ^ (17:Int).toNat))),(bits .xor .u64 (bits .xor .u64 (bits .xor .u64 a0 (IntKind.u64.wrap (a0*2 ^ (13:Int).toNat))) ((bits .xor .u64 a0 (IntKind.u64.wrap (a0*2 ^ (13:Int).toNat)))/2 ^ (7:Int).toNat)) (IntKind.u64.wrap ((bits .xor .u64 (bits .xor .u64 a0 (IntKind.u64.wrap (a0*2 ^ (13:Int).toNat))) ((bits .xor .u64 a0 (IntKind.u64.wrap (a0*2 ^ (13:Int).toNat)))/2 ^ (7:Int).toNat))*2 ^ (17:Int).toNat))))else none else none else none
def sS (n:Nat) (a0:(List ByteArray)) (a1:Int) (a2:Int):Option (List ByteArray):=
 gH aK aL n a0 a1 a2
def CK (a0:(List ByteArray)) (a1:Int) (a2:Int) (a3:Int):Option (Int×Int×Int):=
 wM cmp_Less_string (fun r=>r) a0 a1 a2 a3
def CO (a0:(List ByteArray)) (a1:Int) (a2:Int) (a3:Int) (a4:Int):Option (Int×Int):=
 ul cmp_Less_string (fun r=>r) a0 a1 a2 a3 a4
def rD (a0:(List ByteArray)) (a1:Int) (a2:Int):Option (Int×Int):=
 bY cmp_Less_string (fun r=>r) a0 a1 a2
def vH (a0:(List ByteArray)) (a1:Int) (a2:Int):Option (Int×Int):=
 kC cmp_Less_string (fun r=>r) a0 a1 a2
def uO (n:Nat) (a0:(List ByteArray)) (a1:Int) (a2:Int):Option (List ByteArray):=
 iH n a0 a1 a2
def mY (n:Nat) (a0:(List ByteArray)) (a1:Int) (a2:Int):Option (Bool×(List ByteArray)):=
 dh cmp_Less_string (fun r=>r) n a0 a1 a2
def rE (n:Nat) (a0:(List ByteArray)) (a1:Int) (a2:Int) (a3:Int):Option (Int×(List ByteArray)):=
 fH cmp_Less_string (fun r=>r) n a0 a1 a2 a3
def yC (n:Nat) (a0:(List ByteArray)) (a1:Int) (a2:Int) (a3:Int):Option (Int×Bool×(List ByteArray)):=
 mg cmp_Less_string (fun r=>r) n a0 a1 a2 a3
def iR (n:Nat) (rc:((List ByteArray))->(Int)->(Int)->(Int)->Option (List ByteArray)) (a0:(List ByteArray)) (a1:Int) (a2:Int) (a3:Int):Option (List ByteArray):=
 gm cmp_Less_string (fun r=>r) aK aL n rc a0 a1 a2 a3
def iq (rc:((List ByteArray))->(Int)->(Int)->(Int)->Option (List ByteArray)):Sig xx:=⟨[.mut .str,.d (.int .i64),.d (.int .i64),.d (.int .i64)],[.mu .str],fun a=>rc a.1 a.2.1 a.2.2.1 a.2.2.2.1,none⟩
def dN (n:Nat):Nat->((List ByteArray))->(Int)->(Int)->(Int)->Option (List ByteArray)
 | 0=>fun _ _ _ _=>none
 |m+1=>iR n (dN n m)
def jI (n:Nat) (a0:(List ByteArray)) (a1:Int) (a2:Int) (a3:Int):Option (List ByteArray):=dN n n a0 a1 a2 a3
def qG (n:Nat) (a0:(List ByteArray)):Option (List ByteArray):=
 (bits_Len (IntKind.u64.wrap ((a0.length:Nat):Int))).bind fun r1=>bif eqL a0.length a0.length then (jI n a0 0 ((a0.length:Nat):Int) r1).bind fun r2=>some r2 else none
def Hf (a0:(List ByteArray)) (v1:Int):(Int×Int×(List ByteArray))->Option ((Int×Int×(List ByteArray)) ⊕ (Int×(List ByteArray)))
 |(v2,v3,v4)=>(bif (decide (v3 < ((((a0.length - (v1:Int).toNat):Nat):Int):Int)))then (bif inb v3 (a0.length - (v1:Int).toNat)then (at? v4 (((0+(v1:Int).toNat):Nat)+v3:Int)).bind fun x3=>bif inb (i64.wrap (v3 - 1)) (a0.length - (v1:Int).toNat)then (at? v4 (((0+(v1:Int).toNat):Nat)+(i64.wrap (v3 - 1)):Int)).bind fun x4=>(bif (!(ByteArray.toList x3==ByteArray.toList x4))then bif inb v3 (a0.length - (v1:Int).toNat)then (at? v4 (((0+(v1:Int).toNat):Nat)+v3:Int)).bind fun x5=>bif inb v2 a0.length then (at? v4 ((0:Nat)+v2:Int)).bind fun x6=>some ((i64.wrap (v2+1)),(v4.set ((0:Nat)+v2:Int).toNat x5))else none else none else some (v2,v4))else none else none:Option (Int×(List ByteArray))).bind fun (v5,v6)=>some (.inl (v5,(i64.wrap (v3+1)),v6))else some (.inr (v2,v4)))
def Hg (n:Nat) (a0:(List ByteArray)):Int->Option (Int ⊕ (Unit ⊕ (Unit×(List ByteArray))))
 |v1=>(bif (decide (v1 < (((a0.length:Nat):Int):Int)))then bif inb v1 a0.length then (at? a0 ((0:Nat)+v1:Int)).bind fun x1=>bif inb (i64.wrap (v1 - 1)) a0.length then (at? a0 ((0:Nat)+(i64.wrap (v1 - 1)):Int)).bind fun x2=>(bif (ByteArray.toList x1==ByteArray.toList x2)then bif sH v1 ((a0.length:Nat):Int) a0.length then (iter (Hf a0 v1) n (v1,(1:Int),a0)).bind fun (w1,w2)=>bif sH w1 ((a0.length:Nat):Int) a0.length then bif sH 0 w1 a0.length then (bif eqL ((w1:Int).toNat) ((w1:Int).toNat)then bif eqL (sub (w2.take (0+(w1:Int).toNat)) 0 ((w1:Int).toNat)).length ((w1:Int).toNat)then some ((),(sub (w2.take (0+(w1:Int).toNat)) 0 ((w1:Int).toNat)))else none else none).map fun a=> .inr (.inr a)else none else none else none else some (.inl (i64.wrap (v1+1))))else none else none else some (.inr (.inl ())))
def lD (n:Nat) (a0:(List ByteArray)):Option (Unit×(List ByteArray)):=
 (bif (decide (((a0.length:Nat):Int) < (2:Int)))then bif eqL a0.length a0.length then bif eqL (sub a0 0 a0.length).length a0.length then some ((),(sub a0 0 a0.length))else none else none else dP (iter (Hg n a0) n (1:Int)) fun ()=>bif eqL a0.length a0.length then bif eqL (sub a0 0 a0.length).length a0.length then some ((),(sub a0 0 a0.length))else none else none)
def nX (a0:(List ByteArray)):Option (List ByteArray):=
 some a0
def mh (a0:(List ByteArray)):Option ((List ByteArray)×(List ByteArray)):=
 (adz a0).bind fun r1=>bif eqL r1.2.length r1.2.length then some (r1.1,r1.2)else none
def nY (n:Nat) (a0:(List ByteArray)):Option ((List ByteArray)×(List ByteArray)):=
 (mh a0).bind fun r1=>bif eqL r1.2.length r1.2.length then (qG n r1.2).bind fun r2=>bif eqL r1.2.length r2.length then some (r1.1,r2)else none else none
def jO (n:Nat) (a0:(List ByteArray)):Option Int:=
 (nX a0).bind fun r1=>(nY n r1).bind fun r2=>bif eqL r2.2.length r2.2.length then (lD n r2.2).bind fun r3=>some ((r3.2.length:Nat):Int)else none
def qH (a0:au):Option Bool:=
 (bif (decide (0<=(a0.x0:Int)))then (bif (decide (a0.x0 < (a0.x1:Int)))then (bif (decide (a0.x1<=(1048576:Int)))then (bif (decide (0<=(a0.y0:Int)))then (bif (decide (a0.y0 < (a0.y1:Int)))then some (decide (a0.y1<=(1048576:Int)))else some false)else some false)else some false)else some false)else some false)
def LF (a0:Unit) (a1:Int):Option (List au):=
 (bif (decide (a1 < (0:Int)))then none else (bif (decide ((i64.wrap (a1 - (i64.wrap (0 - 0))))>(0:Int)))then bif JH (i64.wrap (a1 - (i64.wrap (0 - 0)))) 32 then bif sH 0 0 ((i64.wrap (a1 - (i64.wrap (0 - 0)))).toNat)then bif eqL (sub (List.replicate (i64.wrap (a1 - (i64.wrap (0 - 0)))).toNat (au.mk 0 0 0 0)) 0 0).length 0 then some (sub (List.replicate (i64.wrap (a1 - (i64.wrap (0 - 0)))).toNat (au.mk 0 0 0 0)) 0 0)else none else none else none else some ([]:(List au))))
def LG (a0:(List (List au))):(Int×Int)->Option ((Int×Int) ⊕ Int)
 |(v1,v2)=>(bif (decide (v2 < ((a0.length:Int):Int)))then (at? a0 v2).bind fun x1=>(bif (decide ((i64.wrap (v1+(x1.length:Int))) < (0:Int)))then none else some (.inl ((i64.wrap (v1+(x1.length:Int))),(i64.wrap (v2+1)))))else some (.inr v1))
def LJ (a0:(List (List au))):(Int×(List au))->Option ((Int×(List au)) ⊕ (List au))
 |(v3,v4)=>(bif (decide (v3 < ((a0.length:Int):Int)))then (at? a0 v3).bind fun x2=>bif bG v4.length v4.length x2.length x2.length 32 then jM (v4++x2) fun r2=>bif eqL r2.length r2.length then some (.inl ((i64.wrap (v3+1)),r2))else none else none else bif eqL v4.length v4.length then some (.inr v4)else none)
def yD (n:Nat) (a0:(List (List au))):Option (List au):=
 (iter (LG a0) n ((0:Int),(0:Int))).bind fun w1=>(LF () w1).bind fun r1=>bif eqL r1.length r1.length then (iter (LJ a0) n ((0:Int),r1)).bind fun w2=>bif eqL (sub w2 0 w2.length).length w2.length then some (sub w2 0 w2.length)else none else none
def cmp_isNaN_int (a0:Int):Option Bool:=
 some (a0 != (a0:Int))
def cmp_Less_int (a0:Int) (a1:Int):Option Bool:=
 (cmp_isNaN_int a0).bind fun r1=>(bif r1 then (cmp_isNaN_int a1).bind fun r2=>(bif (!r2)then some true else some (decide (a0 < (a1:Int))))else some (decide (a0 < (a1:Int))))
def wN (n:Nat) (a0:(List Int)) (a1:Int) (a2:Int):Option (List Int):=
 iP cmp_Less_int (fun r=>r) n a0 a1 a2
def Ey (n:Nat) (a0:(List Int)) (a1:Int) (a2:Int) (a3:Int):Option (List Int):=
 mU cmp_Less_int (fun r=>r) n a0 a1 a2 a3
def Ez (n:Nat) (a0:(List Int)) (a1:Int) (a2:Int):Option (List Int):=
 sO cmp_Less_int (fun r=>r) n a0 a1 a2
def wO (n:Nat) (a0:(List Int)) (a1:Int) (a2:Int):Option (List Int):=
 gH aK aL n a0 a1 a2
def Hl (a0:(List Int)) (a1:Int) (a2:Int) (a3:Int):Option (Int×Int×Int):=
 wM cmp_Less_int (fun r=>r) a0 a1 a2 a3
def Ho (a0:(List Int)) (a1:Int) (a2:Int) (a3:Int) (a4:Int):Option (Int×Int):=
 ul cmp_Less_int (fun r=>r) a0 a1 a2 a3 a4
def vI (a0:(List Int)) (a1:Int) (a2:Int):Option (Int×Int):=
 bY cmp_Less_int (fun r=>r) a0 a1 a2
def zw (a0:(List Int)) (a1:Int) (a2:Int):Option (Int×Int):=
 kC cmp_Less_int (fun r=>r) a0 a1 a2
def yE (n:Nat) (a0:(List Int)) (a1:Int) (a2:Int):Option (List Int):=
 iH n a0 a1 a2
def pQ (n:Nat) (a0:(List Int)) (a1:Int) (a2:Int):Option (Bool×(List Int)):=
 dh cmp_Less_int (fun r=>r) n a0 a1 a2
def vJ (n:Nat) (a0:(List Int)) (a1:Int) (a2:Int) (a3:Int):Option (Int×(List Int)):=
 fH cmp_Less_int (fun r=>r) n a0 a1 a2 a3
def CP (n:Nat) (a0:(List Int)) (a1:Int) (a2:Int) (a3:Int):Option (Int×Bool×(List Int)):=
 mg cmp_Less_int (fun r=>r) n a0 a1 a2 a3
def jW (n:Nat) (rc:((List Int))->(Int)->(Int)->(Int)->Option (List Int)) (a0:(List Int)) (a1:Int) (a2:Int) (a3:Int):Option (List Int):=
 gm cmp_Less_int (fun r=>r) aK aL n rc a0 a1 a2 a3
def jJ (rc:((List Int))->(Int)->(Int)->(Int)->Option (List Int)):Sig xx:=⟨[.mut (.int .i64),.d (.int .i64),.d (.int .i64),.d (.int .i64)],[.mu (.int .i64)],fun a=>rc a.1 a.2.1 a.2.2.1 a.2.2.2.1,none⟩
def eu (n:Nat):Nat->((List Int))->(Int)->(Int)->(Int)->Option (List Int)
 | 0=>fun _ _ _ _=>none
 |m+1=>jW n (eu n m)
def lm (n:Nat) (a0:(List Int)) (a1:Int) (a2:Int) (a3:Int):Option (List Int):=eu n n a0 a1 a2 a3
def p9 (n:Nat) (a0:(List Int)):Option (List Int):=
 (bits_Len (IntKind.u64.wrap ((a0.length:Nat):Int))).bind fun r1=>bif eqL a0.length a0.length then (lm n a0 0 ((a0.length:Nat):Int) r1).bind fun r2=>some r2 else none
def LK (a0:(List Int)) (v1:Int):(Int×Int×(List Int))->Option ((Int×Int×(List Int)) ⊕ (Int×(List Int)))
 |(v2,v3,v4)=>(bif (decide (v3 < ((((a0.length - (v1:Int).toNat):Nat):Int):Int)))then (bif inb v3 (a0.length - (v1:Int).toNat)then (at? v4 (((0+(v1:Int).toNat):Nat)+v3:Int)).bind fun x3=>bif inb (i64.wrap (v3 - 1)) (a0.length - (v1:Int).toNat)then (at? v4 (((0+(v1:Int).toNat):Nat)+(i64.wrap (v3 - 1)):Int)).bind fun x4=>(bif (x3 != (x4:Int))then bif inb v3 (a0.length - (v1:Int).toNat)then (at? v4 (((0+(v1:Int).toNat):Nat)+v3:Int)).bind fun x5=>bif inb v2 a0.length then (at? v4 ((0:Nat)+v2:Int)).bind fun x6=>some ((i64.wrap (v2+1)),(v4.set ((0:Nat)+v2:Int).toNat x5))else none else none else some (v2,v4))else none else none:Option (Int×(List Int))).bind fun (v5,v6)=>some (.inl (v5,(i64.wrap (v3+1)),v6))else some (.inr (v2,v4)))
def LM (n:Nat) (a0:(List Int)):Int->Option (Int ⊕ (Unit ⊕ (Unit×(List Int))))
 |v1=>(bif (decide (v1 < (((a0.length:Nat):Int):Int)))then bif inb v1 a0.length then (at? a0 ((0:Nat)+v1:Int)).bind fun x1=>bif inb (i64.wrap (v1 - 1)) a0.length then (at? a0 ((0:Nat)+(i64.wrap (v1 - 1)):Int)).bind fun x2=>(bif (x1==(x2:Int))then bif sH v1 ((a0.length:Nat):Int) a0.length then (iter (LK a0 v1) n (v1,(1:Int),a0)).bind fun (w1,w2)=>bif sH w1 ((a0.length:Nat):Int) a0.length then bif sH 0 w1 a0.length then (bif eqL ((w1:Int).toNat) ((w1:Int).toNat)then bif eqL (sub (w2.take (0+(w1:Int).toNat)) 0 ((w1:Int).toNat)).length ((w1:Int).toNat)then some ((),(sub (w2.take (0+(w1:Int).toNat)) 0 ((w1:Int).toNat)))else none else none).map fun a=> .inr (.inr a)else none else none else none else some (.inl (i64.wrap (v1+1))))else none else none else some (.inr (.inl ())))
def qI (n:Nat) (a0:(List Int)):Option (Unit×(List Int)):=
 (bif (decide (((a0.length:Nat):Int) < (2:Int)))then bif eqL a0.length a0.length then bif eqL (sub a0 0 a0.length).length a0.length then some ((),(sub a0 0 a0.length))else none else none else dP (iter (LM n a0) n (1:Int)) fun ()=>bif eqL a0.length a0.length then bif eqL (sub a0 0 a0.length).length a0.length then some ((),(sub a0 0 a0.length))else none else none)
def vK (n:Nat) (a0:(List aG)) (a1:Int) (a2:Int) (a3:(aG×aG×Unit)->Option Int):Option (List aG):=
 iP (fun x y=>a3 (x,y,())) (fun r=>decide (r < 0)) n a0 a1 a2
def CQ (n:Nat) (a0:(List aG)) (a1:Int) (a2:Int) (a3:Int) (a4:(aG×aG×Unit)->Option Int):Option (List aG):=
 mU (fun x y=>a4 (x,y,())) (fun r=>decide (r < 0)) n a0 a1 a2 a3
def CR (n:Nat) (a0:(List aG)) (a1:Int) (a2:Int) (a3:(aG×aG×Unit)->Option Int):Option (List aG):=
 sO (fun x y=>a3 (x,y,())) (fun r=>decide (r < 0)) n a0 a1 a2
def vL (n:Nat) (a0:(List aG)) (a1:Int) (a2:Int) (a3:(aG×aG×Unit)->Option Int):Option (List aG):=
 gH aK aL n a0 a1 a2
def FC (a0:(List aG)) (a1:Int) (a2:Int) (a3:Int) (a4:(aG×aG×Unit)->Option Int):Option (Int×Int×Int):=
 wM (fun x y=>a4 (x,y,())) (fun r=>decide (r < 0)) a0 a1 a2 a3
def FD (a0:(List aG)) (a1:Int) (a2:Int) (a3:Int) (a4:Int) (a5:(aG×aG×Unit)->Option Int):Option (Int×Int):=
 ul (fun x y=>a5 (x,y,())) (fun r=>decide (r < 0)) a0 a1 a2 a3 a4
def uP (a0:(List aG)) (a1:Int) (a2:Int) (a3:(aG×aG×Unit)->Option Int):Option (Int×Int):=
 bY (fun x y=>a3 (x,y,())) (fun r=>decide (r < 0)) a0 a1 a2
def yF (a0:(List aG)) (a1:Int) (a2:Int) (a3:(aG×aG×Unit)->Option Int):Option (Int×Int):=
 kC (fun x y=>a3 (x,y,())) (fun r=>decide (r < 0)) a0 a1 a2
def wP (n:Nat) (a0:(List aG)) (a1:Int) (a2:Int) (a3:(aG×aG×Unit)->Option Int):Option (List aG):=
 iH n a0 a1 a2
def oJ (n:Nat) (a0:(List aG)) (a1:Int) (a2:Int) (a3:(aG×aG×Unit)->Option Int):Option (Bool×(List aG)):=
 dh (fun x y=>a3 (x,y,())) (fun r=>decide (r < 0)) n a0 a1 a2
def uQ (n:Nat) (a0:(List aG)) (a1:Int) (a2:Int) (a3:Int) (a4:(aG×aG×Unit)->Option Int):Option (Int×(List aG)):=
 fH (fun x y=>a4 (x,y,())) (fun r=>decide (r < 0)) n a0 a1 a2 a3
def Bu (n:Nat) (a0:(List aG)) (a1:Int) (a2:Int) (a3:Int) (a4:(aG×aG×Unit)->Option Int):Option (Int×Bool×(List aG)):=
 mg (fun x y=>a4 (x,y,())) (fun r=>decide (r < 0)) n a0 a1 a2 a3
def gy (n:Nat) (rc:((List aG))->(Int)->(Int)->(Int)->((aG×aG×Unit)->Option Int)->Option (List aG)) (a0:(List aG)) (a1:Int) (a2:Int) (a3:Int) (a4:(aG×aG×Unit)->Option Int):Option (List aG):=
 gm (fun x y=>a4 (x,y,())) (fun r=>decide (r < 0)) aK aL n (fun l a b d=>rc l a b d a4) a0 a1 a2 a3
def jc (rc:((List aG))->(Int)->(Int)->(Int)->((aG×aG×Unit)->Option Int)->Option (List aG)):Sig xx:=⟨[.mut (.st SI.span),.d (.int .i64),.d (.int .i64),.d (.int .i64),.clo [(.st SI.span),(.st SI.span)] (.int .i64)],[.mu (.st SI.span)],fun a=>rc a.1 a.2.1 a.2.2.1 a.2.2.2.1 a.2.2.2.2.1,none⟩
def cK (n:Nat):Nat->((List aG))->(Int)->(Int)->(Int)->((aG×aG×Unit)->Option Int)->Option (List aG)
 | 0=>fun _ _ _ _ _=>none
 |m+1=>gy n (cK n m)
def kH (n:Nat) (a0:(List aG)) (a1:Int) (a2:Int) (a3:Int) (a4:(aG×aG×Unit)->Option Int):Option (List aG):=cK n n a0 a1 a2 a3 a4
def mZ (n:Nat) (a0:(List aG)) (a1:(aG×aG×Unit)->Option Int):Option (List aG):=
 (bits_Len (IntKind.u64.wrap ((a0.length:Nat):Int))).bind fun r1=>bif eqL a0.length a0.length then (kH n a0 0 ((a0.length:Nat):Int) r1 a1).bind fun r2=>some r2 else none
def cmp_Compare_int (a0:Int) (a1:Int):Option Int:=
 (cmp_isNaN_int a0).bind fun r1=>(cmp_isNaN_int a1).bind fun r2=>(bif r1 then (bif r2 then some (0:Int)else some ((-1):Int))else (bif r2 then some (1:Int)else (bif (decide (a0 < (a1:Int)))then some ((-1):Int)else (bif (decide (a0>(a1:Int)))then some (1:Int)else some (0:Int)))))
def wQ (a0:aG) (a1:aG):Option Int:=
 (cmp_Compare_int a0.from_ a1.from_).bind fun r1=>some r1
def qJ (a0:(List au)) (a1:Int):(Int×(List aG))->Option ((Int×(List aG)) ⊕ (List aG))
 |(v1,v2)=>(bif (decide (v1 < ((a0.length:Int):Int)))then ((at? a0 v1).bind fun x1=>((bif (decide (x1.x0<=(a1:Int)))then some (decide (a1 < (x1.x1:Int)))else some false):Option (Bool)).bind fun v3=>(bif v3 then bif bG v2.length v2.length (sub ([(aG.mk x1.y0 x1.y1)]:List aG) 0 1).length 1 16 then jM (v2++(sub ([(aG.mk x1.y0 x1.y1)]:List aG) 0 1)) fun r1=>bif eqL r1.length r1.length then some r1 else none else none else bif eqL v2.length v2.length then some v2 else none):Option ((List aG))).bind fun v4=>bif eqL v4.length v4.length then some (.inl ((i64.wrap (v1+1)),v4))else none else bif eqL v2.length v2.length then some (.inr v2)else none)
def qK (w1:(List aG)) (r2:(List aG)):(Int×(List aG))->Option ((Int×(List aG)) ⊕ (List aG))
 |(v5,v6)=>(bif (decide (v5 < (((w1.length:Nat):Int):Int)))then (bif inb v5 w1.length then (at? r2 ((0:Nat)+v5:Int)).bind fun x2=>((bif (decide (((v6.length:Nat):Int)>(0:Int)))then bif inb (i64.wrap (((v6.length:Nat):Int) - 1)) v6.length then (at? v6 ((0:Nat)+(i64.wrap (((v6.length:Nat):Int) - 1)):Int)).bind fun x3=>some (decide (x2.from_<=(x3.to:Int)))else none else some false):Option (Bool)).bind fun v7=>(bif v7 then bif inb (i64.wrap (((v6.length:Nat):Int) - 1)) v6.length then (at? v6 ((0:Nat)+(i64.wrap (((v6.length:Nat):Int) - 1)):Int)).bind fun x4=>bif inb (i64.wrap (((v6.length:Nat):Int) - 1)) v6.length then (at? v6 ((0:Nat)+(i64.wrap (((v6.length:Nat):Int) - 1)):Int)).bind fun x5=>bif eqL v6.length (v6.set ((0:Nat)+(i64.wrap (((v6.length:Nat):Int) - 1)):Int).toNat (aG.mk x5.from_ (max x4.to x2.to))).length then some (v6.set ((0:Nat)+(i64.wrap (((v6.length:Nat):Int) - 1)):Int).toNat (aG.mk x5.from_ (max x4.to x2.to)))else none else none else none else bif bG v6.length v6.length (sub ([x2]:List aG) 0 1).length 1 16 then jM (v6++(sub ([x2]:List aG) 0 1)) fun r3=>bif eqL r3.length r3.length then some r3 else none else none)else none:Option ((List aG))).bind fun v8=>bif eqL v8.length v8.length then some (.inl ((i64.wrap (v5+1)),v8))else none else bif eqL v6.length v6.length then some (.inr v6)else none)
def IB (n:Nat) (a0:(List au)) (a1:Int):Option (List aG):=
 bif eqL 0 ([]:List aG).length then (iter (qJ a0 a1) n ((0:Int),([]:List aG))).bind fun w1=>bif eqL w1.length w1.length then (mZ n w1 (fun (y1:aG×aG×Unit)=>wQ y1.1 y1.2.1)).bind fun r2=>bif eqL 0 ([]:List aG).length then (iter (qK w1 r2) n ((0:Int),([]:List aG))).bind fun w2=>bif eqL (sub w2 0 w2.length).length w2.length then some (sub w2 0 w2.length)else none else none else none else none
def qL (r1:(List au)):(Int×(List Int))->Option ((Int×(List Int)) ⊕ (List Int))
 |(v1,v2)=>(bif (decide (v1 < (((r1.length:Nat):Int):Int)))then bif inb v1 r1.length then (at? r1 ((0:Nat)+v1:Int)).bind fun x1=>bif bG v2.length v2.length (sub ([x1.x0,x1.x1]:List Int) 0 2).length 2 8 then jM (v2++(sub ([x1.x0,x1.x1]:List Int) 0 2)) fun r2=>bif eqL r2.length r2.length then some (.inl ((i64.wrap (v1+1)),r2))else none else none else none else bif eqL v2.length v2.length then some (.inr v2)else none)
def qM (n:Nat) (r1:(List au)) (r4:Unit×(List Int)):(Int×(List dU))->Option ((Int×(List dU)) ⊕ (List dU))
 |(v3,v4)=>(bif (decide (v3 < (((r4.2.length:Nat):Int):Int)))then bif inb (i64.wrap (v3 - 1)) r4.2.length then (at? r4.2 ((0:Nat)+(i64.wrap (v3 - 1)):Int)).bind fun x2=>bif inb v3 r4.2.length then (at? r4.2 ((0:Nat)+v3:Int)).bind fun x3=>bif inb (i64.wrap (v3 - 1)) r4.2.length then (at? r4.2 ((0:Nat)+(i64.wrap (v3 - 1)):Int)).bind fun x4=>bif eqL (sub r1 0 r1.length).length r1.length then (IB n (sub r1 0 r1.length) x4).bind fun r5=>bif eqL (sub r5 0 r5.length).length r5.length then bif bG v4.length v4.length (sub ([(dU.mk x2 x3 (sub r5 0 r5.length))]:List dU) 0 1).length 1 40 then jM (v4++(sub ([(dU.mk x2 x3 (sub r5 0 r5.length))]:List dU) 0 1)) fun r6=>bif eqL r6.length r6.length then some (.inl ((i64.wrap (v3+1)),r6))else none else none else none else none else none else none else none else bif eqL v4.length v4.length then some (.inr v4)else none)
def IC (n:Nat) (a0:(List (List au))):Option (List dU):=
 (yD n a0).bind fun r1=>bif eqL 0 ([]:List Int).length then (iter (qL r1) n ((0:Int),([]:List Int))).bind fun w1=>bif eqL w1.length w1.length then (p9 n w1).bind fun r3=>bif eqL w1.length r3.length then (qI n r3).bind fun r4=>bif eqL 0 ([]:List dU).length then (iter (qM n r1 r4) n ((1:Int),([]:List dU))).bind fun w2=>bif eqL (sub w2 0 w2.length).length w2.length then some (sub w2 0 w2.length)else none else none else none else none else none
def Nw (a0:(List aG)) (a1:(List aG)):Int->Option (Int ⊕ (Unit ⊕ Bool))
 |v1=>(bif (decide (v1 < ((a0.length:Int):Int)))then (at? a0 v1).bind fun x1=>(at? a1 v1).bind fun x2=>(bif (!((x1.from_==(x2.from_:Int))&&((x1.to==(x2.to:Int))&&true)))then (some false).map fun a=> .inr (.inr a)else some (.inl (i64.wrap (v1+1))))else some (.inr (.inl ())))
def um (n:Nat) (a0:(List aG)) (a1:(List aG)):Option Bool:=
 (bif ((a0.length:Int) != ((a1.length:Int):Int))then some false else dP (iter (Nw a0 a1) n (0:Int)) fun ()=>some true)
def qa (n:Nat) (a0:(List dU)) (v1:Int):Int->Option (Int ⊕ Int)
 |v3=>((bif (decide (v3 < ((a0.length:Int):Int)))then (at? a0 v3).bind fun x1=>(at? a0 v1).bind fun x2=>(um n x1.column x2.column).bind fun r1=>some r1 else some false):Option (Bool)).bind fun v4=>(bif v4 then some (.inl (i64.wrap (v3+1)))else some (.inr v3))
def uR (a0:(List dU)) (v1:Int) (w1:Int) (x3:dU):(Int×(List au))->Option ((Int×(List au)) ⊕ (List au))
 |(v5,v6)=>(bif (decide (v5 < ((x3.column.length:Int):Int)))then (at? x3.column v5).bind fun x4=>(at? a0 v1).bind fun x5=>(at? a0 (i64.wrap (w1 - 1))).bind fun x6=>bif bG v6.length v6.length (sub ([(au.mk x5.x0 x4.from_ x6.x1 x4.to)]:List au) 0 1).length 1 32 then jM (v6++(sub ([(au.mk x5.x0 x4.from_ x6.x1 x4.to)]:List au) 0 1)) fun r2=>bif eqL r2.length r2.length then some (.inl ((i64.wrap (v5+1)),r2))else none else none else bif eqL v6.length v6.length then some (.inr v6)else none)
def uS (n:Nat) (a0:(List dU)):(Int×(List au))->Option ((Int×(List au)) ⊕ (List au))
 |(v1,v2)=>(bif (decide (v1 < ((a0.length:Int):Int)))then (iter (qa n a0 v1) n (i64.wrap (v1+1))).bind fun w1=>(at? a0 v1).bind fun x3=>bif eqL v2.length v2.length then (iter (uR a0 v1 w1 x3) n ((0:Int),v2)).bind fun w2=>bif eqL w2.length w2.length then some (.inl (w1,w2))else none else none else bif eqL v2.length v2.length then some (.inr v2)else none)
def LP (n:Nat) (a0:(List dU)):Option (List au):=
 bif eqL 0 ([]:List au).length then (iter (uS n a0) n ((0:Int),([]:List au))).bind fun w3=>bif eqL (sub w3 0 w3.length).length w3.length then some (sub w3 0 w3.length)else none else none
def JY (a0:(List au)):Option ((List au)×Int):=
 (bif (decide ((a0.length:Int)>(200:Int)))then some (([]:(List au)),(6:Int))else some (a0,(0:Int)))
def LQ (a0:(List au)):Int->Option (Int ⊕ (Unit ⊕ ((List au)×Int)))
 |v1=>(bif (decide (v1 < ((a0.length:Int):Int)))then (at? a0 v1).bind fun x1=>(qH x1).bind fun r1=>(bif (!r1)then (some (([]:(List au)),(1:Int))).map fun a=> .inr (.inr a)else some (.inl (i64.wrap (v1+1))))else some (.inr (.inl ())))
def acE (n:Nat) (a0:(List au)):Option ((List au)×Int):=
 dP (iter (LQ a0) n (0:Int)) fun ()=>(bif (decide ((a0.length:Int)>(400:Int)))then some (([]:(List au)),(6:Int))else bif eqL (sub ([a0]:List (List au)) 0 1).length 1 then (IC n (sub ([a0]:List (List au)) 0 1)).bind fun r2=>bif eqL (sub r2 0 r2.length).length r2.length then (LP n (sub r2 0 r2.length)).bind fun r3=>bif eqL (sub r3 0 r3.length).length r3.length then (JY (sub r3 0 r3.length)).bind fun r4=>some (r4.1,r4.2)else none else none else none)
def Ny (a0:(List au)) (a1:(List au)):Int->Option (Int ⊕ (Unit ⊕ Bool))
 |v1=>(bif (decide (v1 < ((a0.length:Int):Int)))then (at? a0 v1).bind fun x1=>(at? a1 v1).bind fun x2=>(bif (!((x1.x0==(x2.x0:Int))&&((x1.y0==(x2.y0:Int))&&((x1.x1==(x2.x1:Int))&&((x1.y1==(x2.y1:Int))&&true)))))then (some false).map fun a=> .inr (.inr a)else some (.inl (i64.wrap (v1+1))))else some (.inr (.inl ())))
def oK (n:Nat) (a0:(List au)) (a1:(List au)):Option Bool:=
 (bif ((a0.length:Int) != ((a1.length:Int):Int))then some false else dP (iter (Ny a0 a1) n (0:Int)) fun ()=>some true)
def yG (n:Nat) (a0:(List au)):Option Bool:=
 (acE n a0).bind fun r1=>(bif (r1.2==(0:Int))then (oK n r1.1 a0).bind fun r2=>some r2 else some false)
def kI (a0:dz) (a1:Int) (a2:Int):(Int×(List aC))->Option ((Int×(List aC)) ⊕ (List aC))
 |(v1,v2)=>(bif (decide (v1 < ((a0.phases.length:Int):Int)))then ((at? a0.phases v1).bind fun x1=>((bif (decide (v1>=(a1:Int)))then some (decide (v1 < (a2:Int)))else some false):Option (Bool)).bind fun v3=>(bif v3 then bif bG v2.length v2.length x1.volumes.length x1.volumes.length 72 then jM (v2++x1.volumes) fun r1=>bif eqL r1.length r1.length then some r1 else none else none else bif eqL v2.length v2.length then some v2 else none):Option ((List aC))).bind fun v4=>bif eqL v4.length v4.length then some (.inl ((i64.wrap (v1+1)),v4))else none else bif eqL v2.length v2.length then some (.inr v2)else none)
def pq (n:Nat) (a0:dz) (a1:Int) (a2:Int):Option (List aC):=
 bif eqL 0 ([]:List aC).length then (iter (kI a0 a1 a2) n ((0:Int),([]:List aC))).bind fun w1=>bif eqL (sub w1 0 w1.length).length w1.length then some (sub w1 0 w1.length)else none else none
def fE (a0:aC):Option Bool:=
 ((qH (au.mk a0.box_base_x0 a0.box_base_y0 a0.box_base_x1 a0.box_base_y1)).bind fun r1=>(bif (!r1)then some true else (bif (decide (a0.box_z0 < (0:Int)))then some true else (bif (decide (a0.box_z0>=(a0.box_z1:Int)))then some true else some (decide (a0.box_z1>(4096:Int)))))):Option (Bool)).bind fun v1=>(bif v1 then some false else ((bif (a0.use != (0:Int))then some (a0.units != (0:Int))else some false):Option (Bool)).bind fun v2=>(bif v2 then some false else (bif (decide (a0.use>=(0:Int)))then (bif (decide (a0.use < (6:Int)))then (bif (decide (a0.units>=(0:Int)))then some (decide (a0.units<=(1048576:Int)))else some false)else some false)else some false)))
def xK (a0:au):Option (au×Bool):=
 (qH a0).bind fun r1=>(bif r1 then some (a0,true)else some ((au.mk 0 0 0 0),false))
def EA (a0:au):Option Int:=
 (xK a0).bind fun r1=>some (i64.wrap ((i64.wrap (r1.1.x1 - r1.1.x0))*(i64.wrap (r1.1.y1 - r1.1.y0))))
def EB (a0:(List au)):(Int×Int)->Option ((Int×Int) ⊕ Int)
 |(v1,v2)=>(bif (decide (v2 < ((a0.length:Int):Int)))then (at? a0 v2).bind fun x1=>(EA x1).bind fun r2=>some (.inl ((i64.wrap (v1+r2)),(i64.wrap (v2+1))))else some (.inr v1))
def Qv (n:Nat) (a0:(List au)):Option Int:=
 (yG n a0).bind fun r1=>(bif (!r1)then some (0:Int)else (iter (EB a0) n ((0:Int),(0:Int))).bind fun w1=>some w1)
def vM (n:Nat) (a0:(List au)) (a1:Int) (a2:Int) (a3:(au×au×Unit)->Option Int):Option (List au):=
 iP (fun x y=>a3 (x,y,())) (fun r=>decide (r < 0)) n a0 a1 a2
def CU (n:Nat) (a0:(List au)) (a1:Int) (a2:Int) (a3:Int) (a4:(au×au×Unit)->Option Int):Option (List au):=
 mU (fun x y=>a4 (x,y,())) (fun r=>decide (r < 0)) n a0 a1 a2 a3
def CV (n:Nat) (a0:(List au)) (a1:Int) (a2:Int) (a3:(au×au×Unit)->Option Int):Option (List au):=
 sO (fun x y=>a3 (x,y,())) (fun r=>decide (r < 0)) n a0 a1 a2
def vN (n:Nat) (a0:(List au)) (a1:Int) (a2:Int) (a3:(au×au×Unit)->Option Int):Option (List au):=
 gH aK aL n a0 a1 a2
def FE (a0:(List au)) (a1:Int) (a2:Int) (a3:Int) (a4:(au×au×Unit)->Option Int):Option (Int×Int×Int):=
 wM (fun x y=>a4 (x,y,())) (fun r=>decide (r < 0)) a0 a1 a2 a3
def FH (a0:(List au)) (a1:Int) (a2:Int) (a3:Int) (a4:Int) (a5:(au×au×Unit)->Option Int):Option (Int×Int):=
 ul (fun x y=>a5 (x,y,())) (fun r=>decide (r < 0)) a0 a1 a2 a3 a4
def uT (a0:(List au)) (a1:Int) (a2:Int) (a3:(au×au×Unit)->Option Int):Option (Int×Int):=
 bY (fun x y=>a3 (x,y,())) (fun r=>decide (r < 0)) a0 a1 a2
def yH (a0:(List au)) (a1:Int) (a2:Int) (a3:(au×au×Unit)->Option Int):Option (Int×Int):=
 kC (fun x y=>a3 (x,y,())) (fun r=>decide (r < 0)) a0 a1 a2
def wR (n:Nat) (a0:(List au)) (a1:Int) (a2:Int) (a3:(au×au×Unit)->Option Int):Option (List au):=
 iH n a0 a1 a2
def oL (n:Nat) (a0:(List au)) (a1:Int) (a2:Int) (a3:(au×au×Unit)->Option Int):Option (Bool×(List au)):=
 dh (fun x y=>a3 (x,y,())) (fun r=>decide (r < 0)) n a0 a1 a2
def uU (n:Nat) (a0:(List au)) (a1:Int) (a2:Int) (a3:Int) (a4:(au×au×Unit)->Option Int):Option (Int×(List au)):=
 fH (fun x y=>a4 (x,y,())) (fun r=>decide (r < 0)) n a0 a1 a2 a3
def Bv (n:Nat) (a0:(List au)) (a1:Int) (a2:Int) (a3:Int) (a4:(au×au×Unit)->Option Int):Option (Int×Bool×(List au)):=
 mg (fun x y=>a4 (x,y,())) (fun r=>decide (r < 0)) n a0 a1 a2 a3
def gB (n:Nat) (rc:((List au))->(Int)->(Int)->(Int)->((au×au×Unit)->Option Int)->Option (List au)) (a0:(List au)) (a1:Int) (a2:Int) (a3:Int) (a4:(au×au×Unit)->Option Int):Option (List au):=
 gm (fun x y=>a4 (x,y,())) (fun r=>decide (r < 0)) aK aL n (fun l a b d=>rc l a b d a4) a0 a1 a2 a3
def jd (rc:((List au))->(Int)->(Int)->(Int)->((au×au×Unit)->Option Int)->Option (List au)):Sig xx:=⟨[.mut (.st SI.Rect),.d (.int .i64),.d (.int .i64),.d (.int .i64),.clo [(.st SI.Rect),(.st SI.Rect)] (.int .i64)],[.mu (.st SI.Rect)],fun a=>rc a.1 a.2.1 a.2.2.1 a.2.2.2.1 a.2.2.2.2.1,none⟩
def cO (n:Nat):Nat->((List au))->(Int)->(Int)->(Int)->((au×au×Unit)->Option Int)->Option (List au)
 | 0=>fun _ _ _ _ _=>none
 |m+1=>gB n (cO n m)
def kJ (n:Nat) (a0:(List au)) (a1:Int) (a2:Int) (a3:Int) (a4:(au×au×Unit)->Option Int):Option (List au):=cO n n a0 a1 a2 a3 a4
def ng (n:Nat) (a0:(List au)) (a1:(au×au×Unit)->Option Int):Option (List au):=
 (bits_Len (IntKind.u64.wrap ((a0.length:Nat):Int))).bind fun r1=>bif eqL a0.length a0.length then (kJ n a0 0 ((a0.length:Nat):Int) r1 a1).bind fun r2=>some r2 else none
def fO (a0:au) (a1:au):Option Int:=
 (cmp_Compare_int a0.y0 a1.y0).bind fun r1=>some r1
def jg (a0:aC):Option Int:=
 ((bif a0.extra then some true else (fE a0).bind fun r1=>some (!r1)):Option (Bool)).bind fun v1=>(bif v1 then some (0:Int)else bif 3 != 0 then some (i64.wrap (Int.tdiv (i64.wrap ((i64.wrap ((i64.wrap (a0.box_z1 - a0.box_z0))+3)) - 1)) 3))else none)
def kY (a0:aC):Option Int:=
 (fE a0).bind fun r1=>(bif (!r1)then some (0:Int)else (EA (au.mk a0.box_base_x0 a0.box_base_y0 a0.box_base_x1 a0.box_base_y1)).bind fun r2=>(jg a0).bind fun r3=>some (i64.wrap (r2*r3)))
def kK (a0:aC):Option Int:=
 some a0.box_z1
def lq (a0:aC):Option Int:=
 some a0.units
def Bw (a0:au) (a1:Int):Option (au×Bool):=
 (qH (au.mk (i64.wrap (a0.x0 - a1)) (i64.wrap (a0.y0 - a1)) (i64.wrap (a0.x1+a1)) (i64.wrap (a0.y1+a1)))).bind fun r1=>some ((au.mk (i64.wrap (a0.x0 - a1)) (i64.wrap (a0.y0 - a1)) (i64.wrap (a0.x1+a1)) (i64.wrap (a0.y1+a1))),r1)
def AO (a0:au) (a1:au):Option (au×Bool):=
 ((qH a0).bind fun r1=>(bif (!r1)then some true else (qH a1).bind fun r2=>some (!r2)):Option (Bool)).bind fun v1=>(bif v1 then some ((au.mk 0 0 0 0),false)else (xK (au.mk (max a0.x0 a1.x0) (max a0.y0 a1.y0) (min a0.x1 a1.x1) (min a0.y1 a1.y1))).bind fun r3=>some (r3.1,r3.2))
def iT (a0:bB) (a1:Iy) (a2:Int):Option Bool:=
 bif inb a2 6 then (at? ([a1.a0,a1.a1,a1.a2,a1.a3,a1.a4,a1.a5]:List ByteArray) a2).bind fun x1=>some (ByteArray.toList a0.name==ByteArray.toList x1)else none
def FI (a0:(List bB)) (a1:(bB×Unit)->Option Bool):Int->Option (Int ⊕ (Unit ⊕ Int))
 |v1=>(bif (decide (v1 < ((a0.length:Int):Int)))then (at? a0 v1).bind fun x1=>(a1 (x1,())).bind fun r1=>(bif r1 then (some v1).map fun a=> .inr (.inr a)else some (.inl (i64.wrap (v1+1))))else some (.inr (.inl ())))
def pR (n:Nat) (a0:(List bB)) (a1:(bB×Unit)->Option Bool):Option Int:=
 dP (iter (FI a0 a1) n (0:Int)) fun ()=>some ((-1):Int)
def iU (n:Nat) (a0:p8) (a1:Int):Int->Option (Int ⊕ (Unit ⊕ Int))
 |v1=>(bif (decide (v1 < ((a0.tables.length:Int):Int)))then (at? a0.tables v1).bind fun x1=>(bif (!(ByteArray.toList x1.name==ByteArray.toList (⟨#[116,114,97,102,102,105,99]⟩)))then some (.inl (i64.wrap (v1+1)))else ((pR n x1.rows (fun (y1:bB×Unit)=>iT y1.1 (Iy.mk (⟨#[104,111,109,101]⟩) (⟨#[115,104,111,112]⟩) (⟨#[119,111,114,107]⟩) (⟨#[112,97,114,107]⟩) (⟨#[112,108,97,110,116]⟩) (⟨#[104,97,108,108]⟩)) a1)).bind fun r1=>(bif (decide (r1>=(0:Int)))then (at? x1.rows r1).bind fun x2=>some x2.n else some x1.else_):Option (Int)).bind fun v2=>(some (max (0:Int) (min v2 (1048576:Int)))).map fun a=> .inr (.inr a))else some (.inr (.inl ())))
def AP (n:Nat) (a0:p8) (a1:Int):Option Int:=
 dP (iter (iU n a0 a1) n (0:Int)) fun ()=>some (0:Int)
def kR (n:Nat) (a0:p8) (a1:aC):Option Int:=
 (AP n a0 a1.use).bind fun r1=>(kY a1).bind fun r2=>((bif (decide (r1>(0:Int)))then bif r1 != 0 then some (decide (r2>((i64.wrap (Int.tdiv 109951162777600 r1)):Int)))else none else some false):Option (Bool)).bind fun v1=>(bif v1 then some (1099511627776:Int)else bif 100 != 0 then some (i64.wrap (Int.tdiv (i64.wrap ((i64.wrap ((i64.wrap (r1*r2))+100)) - 1)) 100))else none)
def jP (n:Nat) (a0:(List eT)) (a1:(List bn)) (a2:(List bW)) (a3:(List aZ)) (a4:(List eU)) (a5:(List bX)) (a6:(List aU)) (a7:Int) (a8:(List au)) (a9:(List aC)):Option (Int×(List eT)×(List bn)×(List bW)×(List aZ)×(List eU)×(List bX)×(List aU)×Int×(List au)×(List aC)):=
 (Qv n a8).bind fun r1=>bif eqL a9.length a9.length then some (r1,a0,a1,a2,a3,a4,a5,a6,a7,a8,a9)else none
def dX (a9:(List aC)):(Int×(List au)×(List Int))->Option ((Int×(List au)×(List Int)) ⊕ ((List au)×(List Int)))
 |(v1,v2,v3)=>(bif (decide (v1 < (((a9.length:Nat):Int):Int)))then bif inb v1 a9.length then (at? a9 ((0:Nat)+v1:Int)).bind fun x1=>bif inb v1 ((((a9.length:Nat):Int):Int).toNat)then (at? v2 ((0:Nat)+v1:Int)).bind fun x2=>bif inb v1 ((((a9.length:Nat):Int):Int).toNat)then (at? (v2.set ((0:Nat)+v1:Int).toNat (au.mk x1.box_base_x0 x1.box_base_y0 x1.box_base_x1 x1.box_base_y1)) ((0:Nat)+v1:Int)).bind fun x3=>bif inb v1 ((((a9.length:Nat):Int):Int).toNat)then (at? (v2.set ((0:Nat)+v1:Int).toNat (au.mk x1.box_base_x0 x1.box_base_y0 x1.box_base_x1 x1.box_base_y1)) ((0:Nat)+v1:Int)).bind fun x4=>bif bG v3.length v3.length (sub ([x3.x0,x4.x1]:List Int) 0 2).length 2 8 then jM (v3++(sub ([x3.x0,x4.x1]:List Int) 0 2)) fun r1=>bif eqL r1.length r1.length then some (.inl ((i64.wrap (v1+1)),(v2.set ((0:Nat)+v1:Int).toNat (au.mk x1.box_base_x0 x1.box_base_y0 x1.box_base_x1 x1.box_base_y1)),r1))else none else none else none else none else none else none else bif eqL v3.length v3.length then some (.inr (v2,v3))else none)
def gD (a9:(List aC)) (w2:(List Int)) (r2:(List au)) (r3:(List Int)) (v5:Int):(Int×Int×Int)->Option ((Int×Int×Int) ⊕ Int)
 |(v6,v7,v8)=>(bif (decide (v8 < ((((((a9.length:Nat):Int):Int).toNat:Nat):Int):Int)))then (bif inb v8 ((((a9.length:Nat):Int):Int).toNat)then (at? r2 ((0:Nat)+v8:Int)).bind fun x5=>(bif inb v5 w2.length then (at? r3 ((0:Nat)+v5:Int)).bind fun x6=>(bif (decide (x5.x0<=(x6:Int)))then bif inb v5 w2.length then (at? r3 ((0:Nat)+v5:Int)).bind fun x7=>(bif (decide (x7 < (x5.x1:Int)))then some (decide (x5.y1>(v7:Int)))else some false)else none else some false)else none:Option (Bool)).bind fun v9=>(bif v9 then bif inb (i64.wrap (v5+1)) w2.length then (at? r3 ((0:Nat)+(i64.wrap (v5+1)):Int)).bind fun x8=>bif inb v5 w2.length then (at? r3 ((0:Nat)+v5:Int)).bind fun x9=>some ((i64.wrap (v6+(i64.wrap ((i64.wrap (x8 - x9))*(i64.wrap (x5.y1 - (max v7 x5.y0))))))),x5.y1)else none else none else some (v6,v7))else none:Option (Int×Int)).bind fun (v10,v11)=>some (.inl (v10,v11,(i64.wrap (v8+1))))else some (.inr v6))
def gF (n:Nat) (a9:(List aC)) (w2:(List Int)) (r2:(List au)) (r3:(List Int)):(Int×Int)->Option ((Int×Int) ⊕ Int)
 |(v4,v5)=>(bif (decide (v5 < ((max (0:Int) (i64.wrap (((w2.length:Nat):Int) - 1))):Int)))then (iter (gD a9 w2 r2 r3 v5) n (v4,(0:Int),(0:Int))).bind fun w3=>some (.inl (w3,(i64.wrap (v5+1))))else some (.inr v4))
def fP (n:Nat) (a0:(List eT)) (a1:(List bn)) (a2:(List bW)) (a3:(List aZ)) (a4:(List eU)) (a5:(List bX)) (a6:(List aU)) (a7:Int) (a8:(List au)) (a9:(List aC)):Option (Int×(List eT)×(List bn)×(List bW)×(List aZ)×(List eU)×(List bX)×(List aU)×Int×(List au)×(List aC)):=
 bif (decide (((a9.length:Nat):Int)<=((a9.length:Nat):Int))&&(decide (0<=((a9.length:Nat):Int))&&JH ((a9.length:Nat):Int) 32))then bif eqL 0 ([]:List Int).length then (iter (dX a9) n ((0:Int),(List.replicate (((a9.length:Nat):Int):Int).toNat (au.mk 0 0 0 0)),([]:List Int))).bind fun (w1,w2)=>bif eqL ((((a9.length:Nat):Int):Int).toNat) w1.length then (ng n w1 (fun (y1:au×au×Unit)=>fO y1.1 y1.2.1)).bind fun r2=>bif eqL w2.length w2.length then (p9 n w2).bind fun r3=>(iter (gF n a9 w2 r2 r3) n ((0:Int),(0:Int))).bind fun w4=>bif eqL a9.length a9.length then some (w4,a0,a1,a2,a3,a4,a5,a6,a7,a8,a9)else none else none else none else none else none
def iw (a9:(List aC)):(Int×Int)->Option ((Int×Int) ⊕ Int)
 |(v1,v2)=>(bif (decide (v2 < (((a9.length:Nat):Int):Int)))then bif inb v2 a9.length then (at? a9 ((0:Nat)+v2:Int)).bind fun x1=>(kY x1).bind fun r1=>some (.inl ((i64.wrap (v1+r1)),(i64.wrap (v2+1))))else none else some (.inr v1))
def nZ (n:Nat) (a0:(List eT)) (a1:(List bn)) (a2:(List bW)) (a3:(List aZ)) (a4:(List eU)) (a5:(List bX)) (a6:(List aU)) (a7:Int) (a8:(List au)) (a9:(List aC)):Option (Int×(List eT)×(List bn)×(List bW)×(List aZ)×(List eU)×(List bX)×(List aU)×Int×(List au)×(List aC)):=
 (iter (iw a9) n ((0:Int),(0:Int))).bind fun w1=>bif eqL a9.length a9.length then some (w1,a0,a1,a2,a3,a4,a5,a6,a7,a8,a9)else none
def iY (n:Nat) (a0:(List eT)) (a1:(List bn)) (a2:(List bW)) (a3:(List aZ)) (a4:(List eU)) (a5:(List bX)) (a6:(List aU)) (a7:Int) (a8:(List au)) (a9:(List aC)):Option (Int×(List eT)×(List bn)×(List bW)×(List aZ)×(List eU)×(List bX)×(List aU)×Int×(List au)×(List aC)):=
 bif eqL a9.length a9.length then (nZ n a0 a1 a2 a3 a4 a5 a6 a7 a8 a9).bind fun r1=>bif eqL r1.2.2.2.2.2.2.2.2.2.2.length r1.2.2.2.2.2.2.2.2.2.2.length then some (r1.1,r1.2.1,r1.2.2.1,r1.2.2.2.1,r1.2.2.2.2.1,r1.2.2.2.2.2.1,r1.2.2.2.2.2.2.1,r1.2.2.2.2.2.2.2.1,r1.2.2.2.2.2.2.2.2.1,r1.2.2.2.2.2.2.2.2.2.1,r1.2.2.2.2.2.2.2.2.2.2)else none else none
def eG (a9:(List aC)):(Int×Int)->Option ((Int×Int) ⊕ Int)
 |(v1,v2)=>(bif (decide (v2 < (((a9.length:Nat):Int):Int)))then bif inb v2 a9.length then (at? a9 ((0:Nat)+v2:Int)).bind fun x1=>(jg x1).bind fun r1=>some (.inl ((max v1 r1),(i64.wrap (v2+1))))else none else some (.inr v1))
def jK (n:Nat) (a0:(List eT)) (a1:(List bn)) (a2:(List bW)) (a3:(List aZ)) (a4:(List eU)) (a5:(List bX)) (a6:(List aU)) (a7:Int) (a8:(List au)) (a9:(List aC)):Option (Int×(List eT)×(List bn)×(List bW)×(List aZ)×(List eU)×(List bX)×(List aU)×Int×(List au)×(List aC)):=
 (iter (eG a9) n ((0:Int),(0:Int))).bind fun w1=>bif eqL a9.length a9.length then some (w1,a0,a1,a2,a3,a4,a5,a6,a7,a8,a9)else none
def iy (n:Nat) (a0:(List eT)) (a1:(List bn)) (a2:(List bW)) (a3:(List aZ)) (a4:(List eU)) (a5:(List bX)) (a6:(List aU)) (a7:Int) (a8:(List au)) (a9:(List aC)):Option (Int×(List eT)×(List bn)×(List bW)×(List aZ)×(List eU)×(List bX)×(List aU)×Int×(List au)×(List aC)):=
 bif eqL a9.length a9.length then (jK n a0 a1 a2 a3 a4 a5 a6 a7 a8 a9).bind fun r1=>bif eqL r1.2.2.2.2.2.2.2.2.2.2.length r1.2.2.2.2.2.2.2.2.2.2.length then some (r1.1,r1.2.1,r1.2.2.1,r1.2.2.2.1,r1.2.2.2.2.1,r1.2.2.2.2.2.1,r1.2.2.2.2.2.2.1,r1.2.2.2.2.2.2.2.1,r1.2.2.2.2.2.2.2.2.1,r1.2.2.2.2.2.2.2.2.2.1,r1.2.2.2.2.2.2.2.2.2.2)else none else none
def eH (a9:(List aC)):(Int×Int)->Option ((Int×Int) ⊕ Int)
 |(v1,v2)=>(bif (decide (v2 < (((a9.length:Nat):Int):Int)))then bif inb v2 a9.length then (at? a9 ((0:Nat)+v2:Int)).bind fun x1=>(kK x1).bind fun r1=>some (.inl ((max v1 r1),(i64.wrap (v2+1))))else none else some (.inr v1))
def jL (n:Nat) (a0:(List eT)) (a1:(List bn)) (a2:(List bW)) (a3:(List aZ)) (a4:(List eU)) (a5:(List bX)) (a6:(List aU)) (a7:Int) (a8:(List au)) (a9:(List aC)):Option (Int×(List eT)×(List bn)×(List bW)×(List aZ)×(List eU)×(List bX)×(List aU)×Int×(List au)×(List aC)):=
 (iter (eH a9) n ((0:Int),(0:Int))).bind fun w1=>bif eqL a9.length a9.length then some (w1,a0,a1,a2,a3,a4,a5,a6,a7,a8,a9)else none
def iA (n:Nat) (a0:(List eT)) (a1:(List bn)) (a2:(List bW)) (a3:(List aZ)) (a4:(List eU)) (a5:(List bX)) (a6:(List aU)) (a7:Int) (a8:(List au)) (a9:(List aC)):Option (Int×(List eT)×(List bn)×(List bW)×(List aZ)×(List eU)×(List bX)×(List aU)×Int×(List au)×(List aC)):=
 bif eqL a9.length a9.length then (jL n a0 a1 a2 a3 a4 a5 a6 a7 a8 a9).bind fun r1=>bif eqL r1.2.2.2.2.2.2.2.2.2.2.length r1.2.2.2.2.2.2.2.2.2.2.length then some (r1.1,r1.2.1,r1.2.2.1,r1.2.2.2.1,r1.2.2.2.2.1,r1.2.2.2.2.2.1,r1.2.2.2.2.2.2.1,r1.2.2.2.2.2.2.2.1,r1.2.2.2.2.2.2.2.2.1,r1.2.2.2.2.2.2.2.2.2.1,r1.2.2.2.2.2.2.2.2.2.2)else none else none
def iB (a9:(List aC)):(Int×Int)->Option ((Int×Int) ⊕ Int)
 |(v1,v2)=>(bif (decide (v2 < (((a9.length:Nat):Int):Int)))then bif inb v2 a9.length then (at? a9 ((0:Nat)+v2:Int)).bind fun x1=>(lq x1).bind fun r1=>some (.inl ((i64.wrap (v1+r1)),(i64.wrap (v2+1))))else none else some (.inr v1))
def og (n:Nat) (a0:(List eT)) (a1:(List bn)) (a2:(List bW)) (a3:(List aZ)) (a4:(List eU)) (a5:(List bX)) (a6:(List aU)) (a7:Int) (a8:(List au)) (a9:(List aC)):Option (Int×(List eT)×(List bn)×(List bW)×(List aZ)×(List eU)×(List bX)×(List aU)×Int×(List au)×(List aC)):=
 (iter (iB a9) n ((0:Int),(0:Int))).bind fun w1=>bif eqL a9.length a9.length then some (w1,a0,a1,a2,a3,a4,a5,a6,a7,a8,a9)else none
def iZ (n:Nat) (a0:(List eT)) (a1:(List bn)) (a2:(List bW)) (a3:(List aZ)) (a4:(List eU)) (a5:(List bX)) (a6:(List aU)) (a7:Int) (a8:(List au)) (a9:(List aC)):Option (Int×(List eT)×(List bn)×(List bW)×(List aZ)×(List eU)×(List bX)×(List aU)×Int×(List au)×(List aC)):=
 bif eqL a9.length a9.length then (og n a0 a1 a2 a3 a4 a5 a6 a7 a8 a9).bind fun r1=>bif eqL r1.2.2.2.2.2.2.2.2.2.2.length r1.2.2.2.2.2.2.2.2.2.2.length then some (r1.1,r1.2.1,r1.2.2.1,r1.2.2.2.1,r1.2.2.2.2.1,r1.2.2.2.2.2.1,r1.2.2.2.2.2.2.1,r1.2.2.2.2.2.2.2.1,r1.2.2.2.2.2.2.2.2.1,r1.2.2.2.2.2.2.2.2.2.1,r1.2.2.2.2.2.2.2.2.2.2)else none else none
def fM (a10:(List au)) (r1:au×Bool):(Int×Int)->Option ((Int×Int) ⊕ Int)
 |(v1,v2)=>(bif (decide (v2 < ((a10.length:Int):Int)))then ((at? a10 v2).bind fun x1=>(AO r1.1 x1).bind fun r2=>(bif r2.2 then (EA r2.1).bind fun r3=>some (i64.wrap (v1+r3))else some v1):Option (Int)).bind fun v3=>some (.inl (v3,(i64.wrap (v2+1))))else some (.inr v1))
def iC (n:Nat) (a0:au) (a1:Int) (a2:(List eT)) (a3:(List bn)) (a4:(List bW)) (a5:(List aZ)) (a6:(List eU)) (a7:(List bX)) (a8:(List aU)) (a9:Int) (a10:(List au)) (a11:(List aC)):Option (Bool×(List eT)×(List bn)×(List bW)×(List aZ)×(List eU)×(List bX)×(List aU)×Int×(List au)×(List aC)):=
 (Bw a0 a1).bind fun r1=>(bif (!r1.2)then bif eqL a11.length a11.length then some (false,a2,a3,a4,a5,a6,a7,a8,a9,a10,a11)else none else (iter (fM a10 r1) n ((0:Int),(0:Int))).bind fun w1=>(EA r1.1).bind fun r4=>bif eqL a11.length a11.length then some ((w1==(r4:Int)),a2,a3,a4,a5,a6,a7,a8,a9,a10,a11)else none)
def dn (n:Nat) (x1:aC):(Int×Int×(List eT)×(List bn)×(List bW)×(List aZ)×(List eU)×(List bX)×(List aU)×Int×(List au)×(List aC))->Option ((Int×Int×(List eT)×(List bn)×(List bW)×(List aZ)×(List eU)×(List bX)×(List aU)×Int×(List au)×(List aC)) ⊕ (Int×(List eT)×(List bn)×(List bW)×(List aZ)×(List eU)×(List bX)×(List aU)×Int×(List au)×(List aC)))
 |(v13,v14,v15,v16,v17,v18,v19,v20,v21,v22,v23,v24)=>(bif (decide (v13 < (v14:Int)))then bif 2 != 0 then bif eqL v24.length v24.length then (iC n (au.mk x1.box_base_x0 x1.box_base_y0 x1.box_base_x1 x1.box_base_y1) (i64.wrap (Int.tdiv (i64.wrap ((i64.wrap (v13+v14))+1)) 2)) v15 v16 v17 v18 v19 v20 v21 v22 v23 v24).bind fun r1=>(bif r1.1 then bif eqL r1.2.2.2.2.2.2.2.2.2.2.length r1.2.2.2.2.2.2.2.2.2.2.length then some (.inl ((i64.wrap (Int.tdiv (i64.wrap ((i64.wrap (v13+v14))+1)) 2)),v14,r1.2.1,r1.2.2.1,r1.2.2.2.1,r1.2.2.2.2.1,r1.2.2.2.2.2.1,r1.2.2.2.2.2.2.1,r1.2.2.2.2.2.2.2.1,r1.2.2.2.2.2.2.2.2.1,r1.2.2.2.2.2.2.2.2.2.1,r1.2.2.2.2.2.2.2.2.2.2))else none else bif eqL r1.2.2.2.2.2.2.2.2.2.2.length r1.2.2.2.2.2.2.2.2.2.2.length then some (.inl (v13,(i64.wrap ((i64.wrap (Int.tdiv (i64.wrap ((i64.wrap (v13+v14))+1)) 2)) - 1)),r1.2.1,r1.2.2.1,r1.2.2.2.1,r1.2.2.2.2.1,r1.2.2.2.2.2.1,r1.2.2.2.2.2.2.1,r1.2.2.2.2.2.2.2.1,r1.2.2.2.2.2.2.2.2.1,r1.2.2.2.2.2.2.2.2.2.1,r1.2.2.2.2.2.2.2.2.2.2))else none)else none else none else bif eqL v24.length v24.length then some (.inr (v13,v15,v16,v17,v18,v19,v20,v21,v22,v23,v24))else none)
def fw (n:Nat) (a9:(List aC)):(Int×Int×(List eT)×(List bn)×(List bW)×(List aZ)×(List eU)×(List bX)×(List aU)×Int×(List au)×(List aC))->Option ((Int×Int×(List eT)×(List bn)×(List bW)×(List aZ)×(List eU)×(List bX)×(List aU)×Int×(List au)×(List aC)) ⊕ (Int×(List eT)×(List bn)×(List bW)×(List aZ)×(List eU)×(List bX)×(List aU)×Int×(List au)×(List aC)))
 |(v1,v2,v3,v4,v5,v6,v7,v8,v9,v10,v11,v12)=>(bif (decide (v2 < (((a9.length:Nat):Int):Int)))then bif inb v2 a9.length then (at? v12 ((0:Nat)+v2:Int)).bind fun x1=>bif eqL v12.length v12.length then (iter (dn n x1) n ((0:Int),v1,v3,v4,v5,v6,v7,v8,v9,v10,v11,v12)).bind fun (w1,w2,w3,w4,w5,w6,w7,w8,w9,w10,w11)=>bif eqL w11.length w11.length then some (.inl (w1,(i64.wrap (v2+1)),w2,w3,w4,w5,w6,w7,w8,w9,w10,w11))else none else none else none else bif eqL v12.length v12.length then some (.inr (v1,v3,v4,v5,v6,v7,v8,v9,v10,v11,v12))else none)
def gQ (n:Nat) (a0:(List eT)) (a1:(List bn)) (a2:(List bW)) (a3:(List aZ)) (a4:(List eU)) (a5:(List bX)) (a6:(List aU)) (a7:Int) (a8:(List au)) (a9:(List aC)):Option (Int×(List eT)×(List bn)×(List bW)×(List aZ)×(List eU)×(List bX)×(List aU)×Int×(List au)×(List aC)):=
 bif eqL a9.length a9.length then (iter (fw n a9) n ((1048576:Int),(0:Int),a0,a1,a2,a3,a4,a5,a6,a7,a8,a9)).bind fun (w12,w13,w14,w15,w16,w17,w18,w19,w20,w21,w22)=>bif eqL w22.length w22.length then some (w12,w13,w14,w15,w16,w17,w18,w19,w20,w21,w22)else none else none
def iV (n:Nat) (a0:aC) (a1:(List eT)) (a2:(List bn)) (a3:(List bW)) (a4:(List aZ)) (a5:(List eU)) (a6:(List bX)) (a7:(List aU)) (a8:Int) (a9:(List au)) (a10:(List aC)):Option (Int×(List eT)×(List bn)×(List bW)×(List aZ)×(List eU)×(List bX)×(List aU)×Int×(List au)×(List aC)):=
 (kR n (p8.mk a1 a2 a3 a4 a5 a6 a7 a8) a0).bind fun r1=>bif eqL a10.length a10.length then some (r1,a1,a2,a3,a4,a5,a6,a7,a8,a9,a10)else none
def iD (n:Nat) (a9:(List aC)):(Int×Int×(List eT)×(List bn)×(List bW)×(List aZ)×(List eU)×(List bX)×(List aU)×Int×(List au)×(List aC))->Option ((Int×Int×(List eT)×(List bn)×(List bW)×(List aZ)×(List eU)×(List bX)×(List aU)×Int×(List au)×(List aC)) ⊕ (Int×(List eT)×(List bn)×(List bW)×(List aZ)×(List eU)×(List bX)×(List aU)×Int×(List au)×(List aC)))
 |(v1,v2,v3,v4,v5,v6,v7,v8,v9,v10,v11,v12)=>(bif (decide (v2 < (((a9.length:Nat):Int):Int)))then bif inb v2 a9.length then (at? v12 ((0:Nat)+v2:Int)).bind fun x1=>bif eqL v12.length v12.length then (iV n x1 v3 v4 v5 v6 v7 v8 v9 v10 v11 v12).bind fun r1=>bif eqL r1.2.2.2.2.2.2.2.2.2.2.length r1.2.2.2.2.2.2.2.2.2.2.length then some (.inl ((i64.wrap (v1+r1.1)),(i64.wrap (v2+1)),r1.2.1,r1.2.2.1,r1.2.2.2.1,r1.2.2.2.2.1,r1.2.2.2.2.2.1,r1.2.2.2.2.2.2.1,r1.2.2.2.2.2.2.2.1,r1.2.2.2.2.2.2.2.2.1,r1.2.2.2.2.2.2.2.2.2.1,r1.2.2.2.2.2.2.2.2.2.2))else none else none else none else bif eqL v12.length v12.length then some (.inr (v1,v3,v4,v5,v6,v7,v8,v9,v10,v11,v12))else none)
def oh (n:Nat) (a0:(List eT)) (a1:(List bn)) (a2:(List bW)) (a3:(List aZ)) (a4:(List eU)) (a5:(List bX)) (a6:(List aU)) (a7:Int) (a8:(List au)) (a9:(List aC)):Option (Int×(List eT)×(List bn)×(List bW)×(List aZ)×(List eU)×(List bX)×(List aU)×Int×(List au)×(List aC)):=
 bif eqL a9.length a9.length then (iter (iD n a9) n ((0:Int),(0:Int),a0,a1,a2,a3,a4,a5,a6,a7,a8,a9)).bind fun (w1,w2,w3,w4,w5,w6,w7,w8,w9,w10,w11)=>bif eqL w11.length w11.length then some (w1,w2,w3,w4,w5,w6,w7,w8,w9,w10,w11)else none else none
def gT (n:Nat) (a0:(List eT)) (a1:(List bn)) (a2:(List bW)) (a3:(List aZ)) (a4:(List eU)) (a5:(List bX)) (a6:(List aU)) (a7:Int) (a8:(List au)) (a9:(List aC)):Option (Int×(List eT)×(List bn)×(List bW)×(List aZ)×(List eU)×(List bX)×(List aU)×Int×(List au)×(List aC)):=
 bif eqL a9.length a9.length then (oh n a0 a1 a2 a3 a4 a5 a6 a7 a8 a9).bind fun r1=>bif eqL r1.2.2.2.2.2.2.2.2.2.2.length r1.2.2.2.2.2.2.2.2.2.2.length then some (r1.1,r1.2.1,r1.2.2.1,r1.2.2.2.1,r1.2.2.2.2.1,r1.2.2.2.2.2.1,r1.2.2.2.2.2.2.1,r1.2.2.2.2.2.2.2.1,r1.2.2.2.2.2.2.2.2.1,r1.2.2.2.2.2.2.2.2.2.1,r1.2.2.2.2.2.2.2.2.2.2)else none else none
def oM (r2:(List aC)):(Int×(List eT)×(List bn)×(List bW)×(List aZ)×(List eU)×(List bX)×(List aU)×Int×(List au)×(List aC))->Option ((Int×(List eT)×(List bn)×(List bW)×(List aZ)×(List eU)×(List bX)×(List aU)×Int×(List au)×(List aC)) ⊕ ((List eT)×(List bn)×(List bW)×(List aZ)×(List eU)×(List bX)×(List aU)×Int×(List au)×(List aC)))
 |(v10,v11,v12,v13,v14,v15,v16,v17,v18,v19,v20)=>(bif (decide (v10 < (((r2.length:Nat):Int):Int)))then (bif inb v10 r2.length then (at? r2 ((0:Nat)+v10:Int)).bind fun x1=>((bif (decide (v10 < (40:Int)))then (fE x1).bind fun r3=>some r3 else some false):Option (Bool)).bind fun v21=>(bif v21 then bif bG v20.length v20.length (sub ([x1]:List aC) 0 1).length 1 72 then jM (v20++(sub ([x1]:List aC) 0 1)) fun r4=>bif eqL r4.length r4.length then some (v11,v12,v13,v14,v15,v16,v17,v18,v19,r4)else none else none else bif eqL v20.length v20.length then some (v11,v12,v13,v14,v15,v16,v17,v18,v19,v20)else none)else none:Option ((List eT)×(List bn)×(List bW)×(List aZ)×(List eU)×(List bX)×(List aU)×Int×(List au)×(List aC))).bind fun (v22,v23,v24,v25,v26,v27,v28,v29,v30,v31)=>bif eqL v31.length v31.length then some (.inl ((i64.wrap (v10+1)),v22,v23,v24,v25,v26,v27,v28,v29,v30,v31))else none else bif eqL v20.length v20.length then some (.inr (v11,v12,v13,v14,v15,v16,v17,v18,v19,v20))else none)
def EC (n:Nat) (a0:p8) (a1:iQ) (a2:dz):Option (List bB):=
 ((yG n a1.area).bind fun r1=>(bif r1 then some (a0.defs,a0.tables,a0.zones,a0.rules,a0.caps,a0.views,a0.sun,a0.hours,a1.area)else some (a0.defs,a0.tables,a0.zones,a0.rules,a0.caps,a0.views,a0.sun,a0.hours,([]:(List au)))):Option ((List eT)×(List bn)×(List bW)×(List aZ)×(List eU)×(List bX)×(List aU)×Int×(List au))).bind fun (v1,v2,v3,v4,v5,v6,v7,v8,v9)=>(pq n a2 0 (a2.phases.length:Int)).bind fun r2=>bif eqL 0 ([]:List aC).length then (iter (oM r2) n ((0:Int),v1,v2,v3,v4,v5,v6,v7,v8,v9,([]:List aC))).bind fun (w1,w2,w3,w4,w5,w6,w7,w8,w9,w10)=>bif eqL w10.length w10.length then (jP n w1 w2 w3 w4 w5 w6 w7 w8 w9 w10).bind fun r5=>bif bG 0 0 (sub ([(bB.mk (⟨#[97,114,101,97]⟩) r5.1)]:List bB) 0 1).length 1 24 then jM ((sub ([(bB.mk (⟨#[97,114,101,97]⟩) r5.1)]:List bB) 0 1)) fun r6=>bif eqL r5.2.2.2.2.2.2.2.2.2.2.length r5.2.2.2.2.2.2.2.2.2.2.length then (fP n r5.2.1 r5.2.2.1 r5.2.2.2.1 r5.2.2.2.2.1 r5.2.2.2.2.2.1 r5.2.2.2.2.2.2.1 r5.2.2.2.2.2.2.2.1 r5.2.2.2.2.2.2.2.2.1 r5.2.2.2.2.2.2.2.2.2.1 r5.2.2.2.2.2.2.2.2.2.2).bind fun r7=>bif bG r6.length r6.length (sub ([(bB.mk (⟨#[99,111,118,101,114]⟩) r7.1)]:List bB) 0 1).length 1 24 then jM (r6++(sub ([(bB.mk (⟨#[99,111,118,101,114]⟩) r7.1)]:List bB) 0 1)) fun r8=>bif eqL r7.2.2.2.2.2.2.2.2.2.2.length r7.2.2.2.2.2.2.2.2.2.2.length then (iY n r7.2.1 r7.2.2.1 r7.2.2.2.1 r7.2.2.2.2.1 r7.2.2.2.2.2.1 r7.2.2.2.2.2.2.1 r7.2.2.2.2.2.2.2.1 r7.2.2.2.2.2.2.2.2.1 r7.2.2.2.2.2.2.2.2.2.1 r7.2.2.2.2.2.2.2.2.2.2).bind fun r9=>bif bG r8.length r8.length (sub ([(bB.mk (⟨#[102,108,111,111,114]⟩) r9.1)]:List bB) 0 1).length 1 24 then jM (r8++(sub ([(bB.mk (⟨#[102,108,111,111,114]⟩) r9.1)]:List bB) 0 1)) fun r10=>bif eqL r9.2.2.2.2.2.2.2.2.2.2.length r9.2.2.2.2.2.2.2.2.2.2.length then (iy n r9.2.1 r9.2.2.1 r9.2.2.2.1 r9.2.2.2.2.1 r9.2.2.2.2.2.1 r9.2.2.2.2.2.2.1 r9.2.2.2.2.2.2.2.1 r9.2.2.2.2.2.2.2.2.1 r9.2.2.2.2.2.2.2.2.2.1 r9.2.2.2.2.2.2.2.2.2.2).bind fun r11=>bif bG r10.length r10.length (sub ([(bB.mk (⟨#[102,108,111,111,114,115]⟩) r11.1)]:List bB) 0 1).length 1 24 then jM (r10++(sub ([(bB.mk (⟨#[102,108,111,111,114,115]⟩) r11.1)]:List bB) 0 1)) fun r12=>bif eqL r11.2.2.2.2.2.2.2.2.2.2.length r11.2.2.2.2.2.2.2.2.2.2.length then (iA n r11.2.1 r11.2.2.1 r11.2.2.2.1 r11.2.2.2.2.1 r11.2.2.2.2.2.1 r11.2.2.2.2.2.2.1 r11.2.2.2.2.2.2.2.1 r11.2.2.2.2.2.2.2.2.1 r11.2.2.2.2.2.2.2.2.2.1 r11.2.2.2.2.2.2.2.2.2.2).bind fun r13=>bif bG r12.length r12.length (sub ([(bB.mk (⟨#[104,101,105,103,104,116]⟩) r13.1)]:List bB) 0 1).length 1 24 then jM (r12++(sub ([(bB.mk (⟨#[104,101,105,103,104,116]⟩) r13.1)]:List bB) 0 1)) fun r14=>bif eqL r13.2.2.2.2.2.2.2.2.2.2.length r13.2.2.2.2.2.2.2.2.2.2.length then (iZ n r13.2.1 r13.2.2.1 r13.2.2.2.1 r13.2.2.2.2.1 r13.2.2.2.2.2.1 r13.2.2.2.2.2.2.1 r13.2.2.2.2.2.2.2.1 r13.2.2.2.2.2.2.2.2.1 r13.2.2.2.2.2.2.2.2.2.1 r13.2.2.2.2.2.2.2.2.2.2).bind fun r15=>bif bG r14.length r14.length (sub ([(bB.mk (⟨#[104,111,109,101,115]⟩) r15.1)]:List bB) 0 1).length 1 24 then jM (r14++(sub ([(bB.mk (⟨#[104,111,109,101,115]⟩) r15.1)]:List bB) 0 1)) fun r16=>bif eqL r15.2.2.2.2.2.2.2.2.2.2.length r15.2.2.2.2.2.2.2.2.2.2.length then (fP n r15.2.1 r15.2.2.1 r15.2.2.2.1 r15.2.2.2.2.1 r15.2.2.2.2.2.1 r15.2.2.2.2.2.2.1 r15.2.2.2.2.2.2.2.1 r15.2.2.2.2.2.2.2.2.1 r15.2.2.2.2.2.2.2.2.2.1 r15.2.2.2.2.2.2.2.2.2.2).bind fun r17=>bif bG r16.length r16.length (sub ([(bB.mk (⟨#[114,117,110,111,102,102]⟩) r17.1)]:List bB) 0 1).length 1 24 then jM (r16++(sub ([(bB.mk (⟨#[114,117,110,111,102,102]⟩) r17.1)]:List bB) 0 1)) fun r18=>bif eqL r17.2.2.2.2.2.2.2.2.2.2.length r17.2.2.2.2.2.2.2.2.2.2.length then (gQ n r17.2.1 r17.2.2.1 r17.2.2.2.1 r17.2.2.2.2.1 r17.2.2.2.2.2.1 r17.2.2.2.2.2.2.1 r17.2.2.2.2.2.2.2.1 r17.2.2.2.2.2.2.2.2.1 r17.2.2.2.2.2.2.2.2.2.1 r17.2.2.2.2.2.2.2.2.2.2).bind fun r19=>bif bG r18.length r18.length (sub ([(bB.mk (⟨#[115,101,116,98,97,99,107]⟩) r19.1)]:List bB) 0 1).length 1 24 then jM (r18++(sub ([(bB.mk (⟨#[115,101,116,98,97,99,107]⟩) r19.1)]:List bB) 0 1)) fun r20=>bif eqL r19.2.2.2.2.2.2.2.2.2.2.length r19.2.2.2.2.2.2.2.2.2.2.length then (gT n r19.2.1 r19.2.2.1 r19.2.2.2.1 r19.2.2.2.2.1 r19.2.2.2.2.2.1 r19.2.2.2.2.2.2.1 r19.2.2.2.2.2.2.2.1 r19.2.2.2.2.2.2.2.2.1 r19.2.2.2.2.2.2.2.2.2.1 r19.2.2.2.2.2.2.2.2.2.2).bind fun r21=>bif bG r20.length r20.length (sub ([(bB.mk (⟨#[116,114,97,102,102,105,99]⟩) r21.1)]:List bB) 0 1).length 1 24 then jM (r20++(sub ([(bB.mk (⟨#[116,114,97,102,102,105,99]⟩) r21.1)]:List bB) 0 1)) fun r22=>bif eqL (sub r22 0 r22.length).length r22.length then some (sub r22 0 r22.length)else none else none else none else none else none else none else none else none else none else none else none else none else none else none else none else none else none else none else none else none
end
end Go.Proofs
