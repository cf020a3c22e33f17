/-
  Printed by wip/gen: what functions of the program compute.
-/
import Derived.Test.YtaajfjagnnajdaaGreatTBase
open Go.IntKind (i64)
namespace Go.Proofs
open Go.Gb Go.RowKit
noncomputable section
def KW:Option aY:=
 bif eqL (sub ([(kD.mk 0 1),(kD.mk 1 2)]:List kD) 0 2).length 2 then some (aY.mk 3 (sub ([(kD.mk 0 1),(kD.mk 1 2)]:List kD) 0 2))else none
def oG (a0:aY):Int->Option (Int ⊕ (Unit ⊕ Bool))
 |v2=>(bif (decide (v2 < ((a0.pairs.length:Int):Int)))then (at? a0.pairs v2).bind fun x1=>((bif (decide ((min x1.a0 x1.a1) < (0:Int)))then some true else some (decide ((max x1.a0 x1.a1)>=(a0.values:Int)))):Option (Bool)).bind fun v3=>(bif v3 then (some false).map fun a=> .inr (.inr a)else some (.inl (i64.wrap (v2+1))))else some (.inr (.inl ())))
def qd (n:Nat) (a0:aY):Option Bool:=
 ((bif (decide (a0.values < (1:Int)))then some true else (bif (decide (a0.values>(12:Int)))then some true else some (decide ((a0.pairs.length:Int)>(144:Int))))):Option (Bool)).bind fun v1=>(bif v1 then some false else dS (iter (oG a0) n (0:Int)) fun ()=>some true)
def oH (a0:aY):(Int×(List Bool))->Option ((Int×(List Bool)) ⊕ (List Bool))
 |(v1,v2)=>(bif (decide (v1 < ((a0.pairs.length:Int):Int)))then (at? a0.pairs v1).bind fun x1=>bif inb x1.a0 12 then bif inb x1.a1 12 then bif decide ((0:Int)<=x1.a1)&&fP ((0+(x1.a0:Int).toNat*12)+(x1.a1:Int).toNat) 1 v2.length then some (.inl ((i64.wrap (v1+1)),(List.set v2 ((0+(x1.a0:Int).toNat*12)+(x1.a1:Int).toNat) true)))else none else none else none else some (.inr v2))
def qf (n:Nat) (a0:aY):Option bH:=
 (iter (oH a0) n ((0:Int),(List.replicate 144 false))).bind fun w1=>(bA (sub w1 0 144)).bind fun x2=>bif eqL x2.l.length 144&&fP 0 x2.l.length (List.replicate 144 false).length then (bA (sub (j6 (List.replicate 144 false) 0 x2.l) 0 144)).bind fun z1=>some z1 else none
def oI (v2:(List Bool)) (x3:bH) (v3:Int) (v5:Int):(Int×(List Bool))->Option ((Int×(List Bool)) ⊕ (List Bool))
 |(v7,v8)=>(bif (decide (v7 < (12:Int)))then (bif inb v3 12 then bif inb v7 12 then (atO v8 (0+(v3:Int).toNat*12) v7).bind fun x4=>(bif x4 then bif inb v3 12 then bif inb v7 12 then bif decide ((0:Int)<=v7)&&fP ((0+(v3:Int).toNat*12)+(v7:Int).toNat) 1 v8.length then some (List.set v8 ((0+(v3:Int).toNat*12)+(v7:Int).toNat) true)else none else none else none else bif inb v3 12 then bif inb v5 12 then (atO (j6 v2 0 x3.l) (0+(v3:Int).toNat*12) v5).bind fun x5=>(bif x5 then bif inb v5 12 then bif inb v7 12 then (atO (j6 v2 0 x3.l) (0+(v5:Int).toNat*12) v7).bind fun x6=>bif inb v3 12 then bif inb v7 12 then bif decide ((0:Int)<=v7)&&fP ((0+(v3:Int).toNat*12)+(v7:Int).toNat) 1 v8.length then some (List.set v8 ((0+(v3:Int).toNat*12)+(v7:Int).toNat) x6)else none else none else none else none else none else bif inb v3 12 then bif inb v7 12 then bif decide ((0:Int)<=v7)&&fP ((0+(v3:Int).toNat*12)+(v7:Int).toNat) 1 v8.length then some (List.set v8 ((0+(v3:Int).toNat*12)+(v7:Int).toNat) false)else none else none else none)else none else none)else none else none:Option ((List Bool))).bind fun v9=>some (.inl ((i64.wrap (v7+1)),v9))else some (.inr v8))
def oJ (n:Nat) (v2:(List Bool)) (x3:bH) (v3:Int):(Int×(List Bool))->Option ((Int×(List Bool)) ⊕ (List Bool))
 |(v5,v6)=>(bif (decide (v5 < (12:Int)))then (iter (oI v2 x3 v3 v5) n ((0:Int),v6)).bind fun w1=>some (.inl ((i64.wrap (v5+1)),w1))else some (.inr v6))
def oK (n:Nat) (v2:(List Bool)) (x3:bH):(Int×(List Bool))->Option ((Int×(List Bool)) ⊕ (List Bool))
 |(v3,v4)=>(bif (decide (v3 < (12:Int)))then (iter (oJ n v2 x3 v3) n ((0:Int),v4)).bind fun w2=>some (.inl ((i64.wrap (v3+1)),w2))else some (.inr v4))
def uY (n:Nat):((List Bool)×(List Bool))->Option (((List Bool)×(List Bool)) ⊕ (List Bool))
 |(v1,v2)=>(bA (sub v2 0 144)).bind fun x1=>(bA (sub v1 0 144)).bind fun x2=>(bif (!(WA x1.l x2.l))then (bA (sub v1 0 144)).bind fun x3=>bif eqL x3.l.length 144&&fP 0 x3.l.length v2.length then (iter (oK n v2 x3) n ((0:Int),v1)).bind fun w3=>(bA (sub (j6 v2 0 x3.l) 0 144)).bind fun x7=>bif eqL x7.l.length 144&&fP 0 x7.l.length (List.replicate 144 false).length then some (.inl (w3,(j6 (List.replicate 144 false) 0 x7.l)))else none else none else some (.inr v1))
def qg (n:Nat) (a0:bH):Option bH:=
 bif eqL (List.replicate 144 false).length 144&&fP 0 (List.replicate 144 false).length (List.replicate 144 false).length then (iter (uY n) n (a0.l,(j6 (List.replicate 144 false) 0 (List.replicate 144 false)))).bind fun w4=>(bA (sub w4 0 144)).bind fun x8=>bif eqL x8.l.length 144&&fP 0 x8.l.length (List.replicate 144 false).length then (bA (sub (j6 (List.replicate 144 false) 0 x8.l) 0 144)).bind fun z1=>some z1 else none else none
def mE (r3:bH):Int->Option (Int ⊕ (Unit ⊕ (bH×Bool)))
 |v1=>(bif (decide (v1 < (12:Int)))then bif inb v1 12 then bif inb v1 12 then (atO (j6 (List.replicate 144 false) 0 r3.l) (0+(v1:Int).toNat*12) v1).bind fun x1=>(bif x1 then bif eqL (List.replicate 144 false).length 144&&fP 0 (List.replicate 144 false).length (List.replicate 144 false).length then ((bA (sub (j6 (List.replicate 144 false) 0 (List.replicate 144 false)) 0 144)).bind fun z2=>some (z2,false)).map fun a=> .inr (.inr a)else none else some (.inl (i64.wrap (v1+1))))else none else none else some (.inr (.inl ())))
def mF (a0:aY):(Int×(List Bool))->Option ((Int×(List Bool)) ⊕ (List Bool))
 |(v2,v3)=>(bif (decide (v2 < (a0.values:Int)))then bif inb v2 12 then bif inb v2 12 then bif decide ((0:Int)<=v2)&&fP ((0+(v2:Int).toNat*12)+(v2:Int).toNat) 1 v3.length then some (.inl ((i64.wrap (v2+1)),(List.set v3 ((0+(v2:Int).toNat*12)+(v2:Int).toNat) true)))else none else none else none else some (.inr v3))
def og (n:Nat) (a0:aY):Option (bH×Bool):=
 (qd n a0).bind fun r1=>(bif (!r1)then bif eqL (List.replicate 144 false).length 144&&fP 0 (List.replicate 144 false).length (List.replicate 144 false).length then (bA (sub (j6 (List.replicate 144 false) 0 (List.replicate 144 false)) 0 144)).bind fun z1=>some (z1,false)else none else (qf n a0).bind fun r2=>(qg n r2).bind fun r3=>bif eqL r3.l.length 144&&fP 0 r3.l.length (List.replicate 144 false).length then dS (iter (mE r3) n (0:Int)) fun ()=>(iter (mF a0) n ((0:Int),(j6 (List.replicate 144 false) 0 r3.l))).bind fun w1=>(bA (sub w1 0 144)).bind fun x2=>bif eqL x2.l.length 144&&fP 0 x2.l.length (List.replicate 144 false).length then (bA (sub (j6 (List.replicate 144 false) 0 x2.l) 0 144)).bind fun z3=>some (z3,true)else none else none)
def oL (n:Nat) (a0:(List aY)):Int->Option (Int ⊕ (Unit ⊕ Bool))
 |v1=>(bif (decide (v1 < ((a0.length:Int):Int)))then (at? a0 v1).bind fun x1=>(og n x1).bind fun r1=>bif eqL r1.1.l.length 144&&fP 0 r1.1.l.length (List.replicate 144 false).length then (bif (!r1.2)then (some false).map fun a=> .inr (.inr a)else some (.inl (i64.wrap (v1+1))))else none else some (.inr (.inl ())))
def vX (n:Nat) (a0:(List aY)):Option Bool:=
 dS (iter (oL n a0) n (0:Int)) fun ()=>some (decide ((a0.length:Int)<=(12:Int)))
def Ay (a0:(List au)):Option (List au):=
 (bif a0.isEmpty then (both (some ([]:(List au))) (bif bC ([]:List au).length 0 a0.length a0.length 32 then jA (([]:List au)++a0) fun r1=>bif eqL (sub r1 0 r1.length).length r1.length then some (sub r1 0 r1.length)else none else none))else bif bC ([]:List au).length 0 a0.length a0.length 32 then jA (([]:List au)++a0) fun r2=>bif eqL (sub r2 0 r2.length).length r2.length then some (sub r2 0 r2.length)else none else none)
def kE (a0:(List Int)):Option (List Int):=
 (bif a0.isEmpty then (both (some ([]:(List Int))) (bif bC ([]:List Int).length 0 a0.length a0.length 8 then jA (([]:List Int)++a0) fun r1=>bif eqL (sub r1 0 r1.length).length r1.length then some (sub r1 0 r1.length)else none else none))else bif bC ([]:List Int).length 0 a0.length a0.length 8 then jA (([]:List Int)++a0) fun r2=>bif eqL (sub r2 0 r2.length).length r2.length then some (sub r2 0 r2.length)else none else none)
def KX (a0:iO):Option iO:=
 (Ay a0.area).bind fun r1=>(kE a0.from_).bind fun r2=>bif eqL (sub r1 0 r1.length).length r1.length then bif eqL (sub r2 0 r2.length).length r2.length then some (iO.mk a0.id a0.owner (sub r1 0 r1.length) (sub r2 0 r2.length))else none else none
def DR (a0:(List iO)) (a1:Int):Int->Option (Int ⊕ (Unit ⊕ (iO×Bool)))
 |v1=>(bif (decide (v1 < ((a0.length:Int):Int)))then (at? a0 v1).bind fun x1=>(bif (x1.id==(a1:Int))then (KX x1).bind fun r1=>(some (r1,true)).map fun a=> .inr (.inr a)else some (.inl (i64.wrap (v1+1))))else some (.inr (.inl ())))
def DT (n:Nat) (a0:(List iO)) (a1:Int):Option (iO×Bool):=
 dS (iter (DR a0 a1) n (0:Int)) fun ()=>some ((iO.mk 0 0 ([]) ([])),false)
def bits_Len64 (a0:Int):Option Int:=
 ((bif (decide (a0>=(4294967296:Int)))then bif (decide (0<=32)&&decide (32<=IntKind.u64.bits))then some ((a0/2 ^ (32:Int).toNat),(32:Int))else none else some (a0,(0:Int))):Option (Int×Int)).bind fun (v1,v2)=>((bif (decide (v1>=(65536:Int)))then bif (decide (0<=16)&&decide (16<=IntKind.u64.bits))then some ((v1/2 ^ (16:Int).toNat),(i64.wrap (v2+16)))else none else some (v1,v2)):Option (Int×Int)).bind fun (v3,v4)=>((bif (decide (v3>=(256:Int)))then bif (decide (0<=8)&&decide (8<=IntKind.u64.bits))then some ((v3/2 ^ (8:Int).toNat),(i64.wrap (v4+8)))else none else some (v3,v4)):Option (Int×Int)).bind fun (v5,v6)=>(UR (⟨#[0,1,2,2,3,3,3,3,4,4,4,4,4,4,4,4,5,5,5,5,5,5,5,5,5,5,5,5,5,5,5,5,6,6,6,6,6,6,6,6,6,6,6,6,6,6,6,6,6,6,6,6,6,6,6,6,6,6,6,6,6,6,6,6,7,7,7,7,7,7,7,7,7,7,7,7,7,7,7,7,7,7,7,7,7,7,7,7,7,7,7,7,7,7,7,7,7,7,7,7,7,7,7,7,7,7,7,7,7,7,7,7,7,7,7,7,7,7,7,7,7,7,7,7,7,7,7,7,8,8,8,8,8,8,8,8,8,8,8,8,8,8,8,8,8,8,8,8,8,8,8,8,8,8,8,8,8,8,8,8,8,8,8,8,8,8,8,8,8,8,8,8,8,8,8,8,8,8,8,8,8,8,8,8,8,8,8,8,8,8,8,8,8,8,8,8,8,8,8,8,8,8,8,8,8,8,8,8,8,8,8,8,8,8,8,8,8,8,8,8,8,8,8,8,8,8,8,8,8,8,8,8,8,8,8,8,8,8,8,8,8,8,8,8,8,8,8,8,8,8,8,8,8,8,8,8]⟩) (IntKind.u8.wrap v5)).bind fun x1=>some (i64.wrap (v6+(i64.wrap x1)))
def bits_Len (a0:Int):Option Int:=
 (bits_Len64 a0).bind fun r1=>some r1
def cmp_isNaN_string (a0:ByteArray):Option Bool:=
 some (!(ByteArray.toList a0==ByteArray.toList a0))
def cmp_Less_string (a0:ByteArray) (a1:ByteArray):Option Bool:=
 (cmp_isNaN_string a0).bind fun r1=>(bif r1 then (cmp_isNaN_string a1).bind fun r2=>(bif (!r2)then some true else some (zQ a0 a1))else some (zQ a0 a1))
def rY (n:Nat) (a0:(List ByteArray)) (a1:Int) (a2:Int):Option (List ByteArray):=
 iM cmp_Less_string (fun r=>r) n a0 a1 a2
def yP (n:Nat) (a0:(List ByteArray)) (a1:Int) (a2:Int) (a3:Int):Option (List ByteArray):=
 mD cmp_Less_string (fun r=>r) n a0 a1 a2 a3
def yQ (n:Nat) (a0:(List ByteArray)) (a1:Int) (a2:Int):Option (List ByteArray):=
 rW cmp_Less_string (fun r=>r) n a0 a1 a2
def aJ (a0:Int):Option Int:=
 (bits_Len (IntKind.u64.wrap a0)).bind fun r1=>bif (decide (0<=r1)&&decide (r1<=IntKind.u64.bits))then some (IntKind.u64.wrap (1*2 ^ (r1:Int).toNat))else none
def aK (a0:Int):Option (Int×Int):=
 bif (decide (0<=13)&&decide (13<=IntKind.u64.bits))then bif (decide (0<=7)&&decide (7<=IntKind.u64.bits))then bif (decide (0<=17)&&decide (17<=IntKind.u64.bits))then some ((bits .xor .u64 (bits .xor .u64 (bits .xor .u64 a0 (IntKind.u64.wrap (a0*2 ^ (13:Int).toNat))) ((bits .xor .u64 a0 (IntKind.u64.wrap (a0*2 ^ (13:Int).toNat)))/2 ^ (7:Int).toNat)) (IntKind.u64.wrap ((bits .xor .u64 (bits .xor .u64 a0 (IntKind.u64.wrap (a0*2 ^ (13:Int).toNat))) ((bits .xor .u64 a0 (IntKind.u64.wrap (a0*2 ^ (13:Int).toNat)))/2 ^ (7:Int).toNat))*2 ^ (17:Int).toNat))),(bits .xor .u64 (bits .xor .u64 (bits .xor .u64 a0 (IntKind.u64.wrap (a0*2 ^ (13:Int).toNat))) ((bits .xor .u64 a0 (IntKind.u64.wrap (a0*2 ^ (13:Int).toNat)))/2 ^ (7:Int).toNat)) (IntKind.u64.wrap ((bits .xor .u64 (bits .xor .u64 a0 (IntKind.u64.wrap (a0*2 ^ (13:Int).toNat))) ((bits .xor .u64 a0 (IntKind.u64.wrap (a0*2 ^ (13:Int).toNat)))/2 ^ (7:Int).toNat))*2 ^ (17:Int).toNat))))else none else none else none
def rZ (n:Nat) (a0:(List ByteArray)) (a1:Int) (a2:Int):Option (List ByteArray):=
 gF aJ aK n a0 a1 a2
def BV (a0:(List ByteArray)) (a1:Int) (a2:Int) (a3:Int):Option (Int×Int×Int):=
 vW cmp_Less_string (fun r=>r) a0 a1 a2 a3
def BX (a0:(List ByteArray)) (a1:Int) (a2:Int) (a3:Int) (a4:Int):Option (Int×Int):=
 tF cmp_Less_string (fun r=>r) a0 a1 a2 a3 a4
def qQ (a0:(List ByteArray)) (a1:Int) (a2:Int):Option (Int×Int):=
 bW cmp_Less_string (fun r=>r) a0 a1 a2
def uZ (a0:(List ByteArray)) (a1:Int) (a2:Int):Option (Int×Int):=
 ku cmp_Less_string (fun r=>r) a0 a1 a2
def um (n:Nat) (a0:(List ByteArray)) (a1:Int) (a2:Int):Option (List ByteArray):=
 iE n a0 a1 a2
def mG (n:Nat) (a0:(List ByteArray)) (a1:Int) (a2:Int):Option (Bool×(List ByteArray)):=
 cK cmp_Less_string (fun r=>r) n a0 a1 a2
def qR (n:Nat) (a0:(List ByteArray)) (a1:Int) (a2:Int) (a3:Int):Option (Int×(List ByteArray)):=
 fE cmp_Less_string (fun r=>r) n a0 a1 a2 a3
def xL (n:Nat) (a0:(List ByteArray)) (a1:Int) (a2:Int) (a3:Int):Option (Int×Bool×(List ByteArray)):=
 lW cmp_Less_string (fun r=>r) n a0 a1 a2 a3
def iP (n:Nat) (rc:((List ByteArray))->(Int)->(Int)->(Int)->Option (List ByteArray)) (a0:(List ByteArray)) (a1:Int) (a2:Int) (a3:Int):Option (List ByteArray):=
 fU cmp_Less_string (fun r=>r) aJ aK n rc a0 a1 a2 a3
def gY (rc:((List ByteArray))->(Int)->(Int)->(Int)->Option (List ByteArray)):Sig xx:=⟨[.mut .str,.d (.int .i64),.d (.int .i64),.d (.int .i64)],[.mu .str],fun a=>rc a.1 a.2.1 a.2.2.1 a.2.2.2.1,none⟩
def dH (n:Nat):Nat->((List ByteArray))->(Int)->(Int)->(Int)->Option (List ByteArray)
 | 0=>fun _ _ _ _=>none
 |m+1=>iP n (dH n m)
def jG (n:Nat) (a0:(List ByteArray)) (a1:Int) (a2:Int) (a3:Int):Option (List ByteArray):=dH n n a0 a1 a2 a3
def qh (n:Nat) (a0:(List ByteArray)):Option (List ByteArray):=
 (bits_Len (IntKind.u64.wrap ((a0.length:Nat):Int))).bind fun r1=>bif eqL a0.length a0.length then (jG n a0 0 ((a0.length:Nat):Int) r1).bind fun r2=>some r2 else none
def Gy (a0:(List ByteArray)) (v1:Int):(Int×Int×(List ByteArray))->Option ((Int×Int×(List ByteArray)) ⊕ (Int×(List ByteArray)))
 |(v2,v3,v4)=>(bif (decide (v3 < ((((a0.length - (v1:Int).toNat):Nat):Int):Int)))then (bif inb v3 (a0.length - (v1:Int).toNat)then (at? v4 (((0+(v1:Int).toNat):Nat)+v3:Int)).bind fun x3=>bif inb (i64.wrap (v3 - 1)) (a0.length - (v1:Int).toNat)then (at? v4 (((0+(v1:Int).toNat):Nat)+(i64.wrap (v3 - 1)):Int)).bind fun x4=>(bif (!(ByteArray.toList x3==ByteArray.toList x4))then bif inb v3 (a0.length - (v1:Int).toNat)then (at? v4 (((0+(v1:Int).toNat):Nat)+v3:Int)).bind fun x5=>bif inb v2 a0.length then (at? v4 ((0:Nat)+v2:Int)).bind fun x6=>some ((i64.wrap (v2+1)),(v4.set ((0:Nat)+v2:Int).toNat x5))else none else none else some (v2,v4))else none else none:Option (Int×(List ByteArray))).bind fun (v5,v6)=>some (.inl (v5,(i64.wrap (v3+1)),v6))else some (.inr (v2,v4)))
def Gz (n:Nat) (a0:(List ByteArray)):Int->Option (Int ⊕ (Unit ⊕ (Unit×(List ByteArray))))
 |v1=>(bif (decide (v1 < (((a0.length:Nat):Int):Int)))then bif inb v1 a0.length then (at? a0 ((0:Nat)+v1:Int)).bind fun x1=>bif inb (i64.wrap (v1 - 1)) a0.length then (at? a0 ((0:Nat)+(i64.wrap (v1 - 1)):Int)).bind fun x2=>(bif (ByteArray.toList x1==ByteArray.toList x2)then bif uV v1 ((a0.length:Nat):Int) a0.length then (iter (Gy a0 v1) n (v1,(1:Int),a0)).bind fun (w1,w2)=>bif uV w1 ((a0.length:Nat):Int) a0.length then bif uV 0 w1 a0.length then (bif eqL ((w1:Int).toNat) ((w1:Int).toNat)then bif eqL (sub (w2.take (0+(w1:Int).toNat)) 0 ((w1:Int).toNat)).length ((w1:Int).toNat)then some ((),(sub (w2.take (0+(w1:Int).toNat)) 0 ((w1:Int).toNat)))else none else none).map fun a=> .inr (.inr a)else none else none else none else some (.inl (i64.wrap (v1+1))))else none else none else some (.inr (.inl ())))
def lC (n:Nat) (a0:(List ByteArray)):Option (Unit×(List ByteArray)):=
 (bif (decide (((a0.length:Nat):Int) < (2:Int)))then bif eqL a0.length a0.length then bif eqL (sub a0 0 a0.length).length a0.length then some ((),(sub a0 0 a0.length))else none else none else dS (iter (Gz n a0) n (1:Int)) fun ()=>bif eqL a0.length a0.length then bif eqL (sub a0 0 a0.length).length a0.length then some ((),(sub a0 0 a0.length))else none else none)
def nI (a0:(List ByteArray)):Option (List ByteArray):=
 some a0
def lY (a0:(List ByteArray)):Option ((List ByteArray)×(List ByteArray)):=
 (acQ a0).bind fun r1=>bif eqL r1.2.length r1.2.length then some (r1.1,r1.2)else none
def nJ (n:Nat) (a0:(List ByteArray)):Option ((List ByteArray)×(List ByteArray)):=
 (lY a0).bind fun r1=>bif eqL r1.2.length r1.2.length then (qh n r1.2).bind fun r2=>bif eqL r1.2.length r2.length then some (r1.1,r2)else none else none
def jL (n:Nat) (a0:(List ByteArray)):Option Int:=
 (nI a0).bind fun r1=>(nJ n r1).bind fun r2=>bif eqL r2.2.length r2.2.length then (lC n r2.2).bind fun r3=>some ((r3.2.length:Nat):Int)else none
def qi (a0:au):Option Bool:=
 (bif (decide (0<=(a0.x0:Int)))then (bif (decide (a0.x0 < (a0.x1:Int)))then (bif (decide (a0.x1<=(1048576:Int)))then (bif (decide (0<=(a0.y0:Int)))then (bif (decide (a0.y0 < (a0.y1:Int)))then some (decide (a0.y1<=(1048576:Int)))else some false)else some false)else some false)else some false)else some false)
def KY (a0:Unit) (a1:Int):Option (List au):=
 (bif (decide (a1 < (0:Int)))then none else (bif (decide ((i64.wrap (a1 - (i64.wrap (0 - 0))))>(0:Int)))then bif Jd (i64.wrap (a1 - (i64.wrap (0 - 0)))) 32 then bif uV 0 0 ((i64.wrap (a1 - (i64.wrap (0 - 0)))).toNat)then bif eqL (sub (List.replicate (i64.wrap (a1 - (i64.wrap (0 - 0)))).toNat (au.mk 0 0 0 0)) 0 0).length 0 then some (sub (List.replicate (i64.wrap (a1 - (i64.wrap (0 - 0)))).toNat (au.mk 0 0 0 0)) 0 0)else none else none else none else some ([]:(List au))))
def KZ (a0:(List (List au))):(Int×Int)->Option ((Int×Int) ⊕ Int)
 |(v1,v2)=>(bif (decide (v2 < ((a0.length:Int):Int)))then (at? a0 v2).bind fun x1=>(bif (decide ((i64.wrap (v1+(x1.length:Int))) < (0:Int)))then none else some (.inl ((i64.wrap (v1+(x1.length:Int))),(i64.wrap (v2+1)))))else some (.inr v1))
def K3 (a0:(List (List au))):(Int×(List au))->Option ((Int×(List au)) ⊕ (List au))
 |(v3,v4)=>(bif (decide (v3 < ((a0.length:Int):Int)))then (at? a0 v3).bind fun x2=>bif bC v4.length v4.length x2.length x2.length 32 then jA (v4++x2) fun r2=>bif eqL r2.length r2.length then some (.inl ((i64.wrap (v3+1)),r2))else none else none else bif eqL v4.length v4.length then some (.inr v4)else none)
def xM (n:Nat) (a0:(List (List au))):Option (List au):=
 (iter (KZ a0) n ((0:Int),(0:Int))).bind fun w1=>(KY () w1).bind fun r1=>bif eqL r1.length r1.length then (iter (K3 a0) n ((0:Int),r1)).bind fun w2=>bif eqL (sub w2 0 w2.length).length w2.length then some (sub w2 0 w2.length)else none else none
def cmp_isNaN_int (a0:Int):Option Bool:=
 some (a0 != (a0:Int))
def cmp_Less_int (a0:Int) (a1:Int):Option Bool:=
 (cmp_isNaN_int a0).bind fun r1=>(bif r1 then (cmp_isNaN_int a1).bind fun r2=>(bif (!r2)then some true else some (decide (a0 < (a1:Int))))else some (decide (a0 < (a1:Int))))
def vY (n:Nat) (a0:(List Int)) (a1:Int) (a2:Int):Option (List Int):=
 iM cmp_Less_int (fun r=>r) n a0 a1 a2
def DU (n:Nat) (a0:(List Int)) (a1:Int) (a2:Int) (a3:Int):Option (List Int):=
 mD cmp_Less_int (fun r=>r) n a0 a1 a2 a3
def DW (n:Nat) (a0:(List Int)) (a1:Int) (a2:Int):Option (List Int):=
 rW cmp_Less_int (fun r=>r) n a0 a1 a2
def vZ (n:Nat) (a0:(List Int)) (a1:Int) (a2:Int):Option (List Int):=
 gF aJ aK n a0 a1 a2
def GA (a0:(List Int)) (a1:Int) (a2:Int) (a3:Int):Option (Int×Int×Int):=
 vW cmp_Less_int (fun r=>r) a0 a1 a2 a3
def GD (a0:(List Int)) (a1:Int) (a2:Int) (a3:Int) (a4:Int):Option (Int×Int):=
 tF cmp_Less_int (fun r=>r) a0 a1 a2 a3 a4
def u6 (a0:(List Int)) (a1:Int) (a2:Int):Option (Int×Int):=
 bW cmp_Less_int (fun r=>r) a0 a1 a2
def yR (a0:(List Int)) (a1:Int) (a2:Int):Option (Int×Int):=
 ku cmp_Less_int (fun r=>r) a0 a1 a2
def xN (n:Nat) (a0:(List Int)) (a1:Int) (a2:Int):Option (List Int):=
 iE n a0 a1 a2
def oZ (n:Nat) (a0:(List Int)) (a1:Int) (a2:Int):Option (Bool×(List Int)):=
 cK cmp_Less_int (fun r=>r) n a0 a1 a2
def u7 (n:Nat) (a0:(List Int)) (a1:Int) (a2:Int) (a3:Int):Option (Int×(List Int)):=
 fE cmp_Less_int (fun r=>r) n a0 a1 a2 a3
def BZ (n:Nat) (a0:(List Int)) (a1:Int) (a2:Int) (a3:Int):Option (Int×Bool×(List Int)):=
 lW cmp_Less_int (fun r=>r) n a0 a1 a2 a3
def jT (n:Nat) (rc:((List Int))->(Int)->(Int)->(Int)->Option (List Int)) (a0:(List Int)) (a1:Int) (a2:Int) (a3:Int):Option (List Int):=
 fU cmp_Less_int (fun r=>r) aJ aK n rc a0 a1 a2 a3
def jH (rc:((List Int))->(Int)->(Int)->(Int)->Option (List Int)):Sig xx:=⟨[.mut (.int .i64),.d (.int .i64),.d (.int .i64),.d (.int .i64)],[.mu (.int .i64)],fun a=>rc a.1 a.2.1 a.2.2.1 a.2.2.2.1,none⟩
def dU (n:Nat):Nat->((List Int))->(Int)->(Int)->(Int)->Option (List Int)
 | 0=>fun _ _ _ _=>none
 |m+1=>jT n (dU n m)
def lg (n:Nat) (a0:(List Int)) (a1:Int) (a2:Int) (a3:Int):Option (List Int):=dU n n a0 a1 a2 a3
def pF (n:Nat) (a0:(List Int)):Option (List Int):=
 (bits_Len (IntKind.u64.wrap ((a0.length:Nat):Int))).bind fun r1=>bif eqL a0.length a0.length then (lg n a0 0 ((a0.length:Nat):Int) r1).bind fun r2=>some r2 else none
def K4 (a0:(List Int)) (v1:Int):(Int×Int×(List Int))->Option ((Int×Int×(List Int)) ⊕ (Int×(List Int)))
 |(v2,v3,v4)=>(bif (decide (v3 < ((((a0.length - (v1:Int).toNat):Nat):Int):Int)))then (bif inb v3 (a0.length - (v1:Int).toNat)then (at? v4 (((0+(v1:Int).toNat):Nat)+v3:Int)).bind fun x3=>bif inb (i64.wrap (v3 - 1)) (a0.length - (v1:Int).toNat)then (at? v4 (((0+(v1:Int).toNat):Nat)+(i64.wrap (v3 - 1)):Int)).bind fun x4=>(bif (x3 != (x4:Int))then bif inb v3 (a0.length - (v1:Int).toNat)then (at? v4 (((0+(v1:Int).toNat):Nat)+v3:Int)).bind fun x5=>bif inb v2 a0.length then (at? v4 ((0:Nat)+v2:Int)).bind fun x6=>some ((i64.wrap (v2+1)),(v4.set ((0:Nat)+v2:Int).toNat x5))else none else none else some (v2,v4))else none else none:Option (Int×(List Int))).bind fun (v5,v6)=>some (.inl (v5,(i64.wrap (v3+1)),v6))else some (.inr (v2,v4)))
def K5 (n:Nat) (a0:(List Int)):Int->Option (Int ⊕ (Unit ⊕ (Unit×(List Int))))
 |v1=>(bif (decide (v1 < (((a0.length:Nat):Int):Int)))then bif inb v1 a0.length then (at? a0 ((0:Nat)+v1:Int)).bind fun x1=>bif inb (i64.wrap (v1 - 1)) a0.length then (at? a0 ((0:Nat)+(i64.wrap (v1 - 1)):Int)).bind fun x2=>(bif (x1==(x2:Int))then bif uV v1 ((a0.length:Nat):Int) a0.length then (iter (K4 a0 v1) n (v1,(1:Int),a0)).bind fun (w1,w2)=>bif uV w1 ((a0.length:Nat):Int) a0.length then bif uV 0 w1 a0.length then (bif eqL ((w1:Int).toNat) ((w1:Int).toNat)then bif eqL (sub (w2.take (0+(w1:Int).toNat)) 0 ((w1:Int).toNat)).length ((w1:Int).toNat)then some ((),(sub (w2.take (0+(w1:Int).toNat)) 0 ((w1:Int).toNat)))else none else none).map fun a=> .inr (.inr a)else none else none else none else some (.inl (i64.wrap (v1+1))))else none else none else some (.inr (.inl ())))
def qj (n:Nat) (a0:(List Int)):Option (Unit×(List Int)):=
 (bif (decide (((a0.length:Nat):Int) < (2:Int)))then bif eqL a0.length a0.length then bif eqL (sub a0 0 a0.length).length a0.length then some ((),(sub a0 0 a0.length))else none else none else dS (iter (K5 n a0) n (1:Int)) fun ()=>bif eqL a0.length a0.length then bif eqL (sub a0 0 a0.length).length a0.length then some ((),(sub a0 0 a0.length))else none else none)
def ve (n:Nat) (a0:(List aF)) (a1:Int) (a2:Int) (a3:(aF×aF×Unit)->Option Int):Option (List aF):=
 iM (fun x y=>a3 (x,y,())) (fun r=>decide (r < 0)) n a0 a1 a2
def Ca (n:Nat) (a0:(List aF)) (a1:Int) (a2:Int) (a3:Int) (a4:(aF×aF×Unit)->Option Int):Option (List aF):=
 mD (fun x y=>a4 (x,y,())) (fun r=>decide (r < 0)) n a0 a1 a2 a3
def Cb (n:Nat) (a0:(List aF)) (a1:Int) (a2:Int) (a3:(aF×aF×Unit)->Option Int):Option (List aF):=
 rW (fun x y=>a3 (x,y,())) (fun r=>decide (r < 0)) n a0 a1 a2
def vg (n:Nat) (a0:(List aF)) (a1:Int) (a2:Int) (a3:(aF×aF×Unit)->Option Int):Option (List aF):=
 gF aJ aK n a0 a1 a2
def EO (a0:(List aF)) (a1:Int) (a2:Int) (a3:Int) (a4:(aF×aF×Unit)->Option Int):Option (Int×Int×Int):=
 vW (fun x y=>a4 (x,y,())) (fun r=>decide (r < 0)) a0 a1 a2 a3
def EP (a0:(List aF)) (a1:Int) (a2:Int) (a3:Int) (a4:Int) (a5:(aF×aF×Unit)->Option Int):Option (Int×Int):=
 tF (fun x y=>a5 (x,y,())) (fun r=>decide (r < 0)) a0 a1 a2 a3 a4
def uo (a0:(List aF)) (a1:Int) (a2:Int) (a3:(aF×aF×Unit)->Option Int):Option (Int×Int):=
 bW (fun x y=>a3 (x,y,())) (fun r=>decide (r < 0)) a0 a1 a2
def xO (a0:(List aF)) (a1:Int) (a2:Int) (a3:(aF×aF×Unit)->Option Int):Option (Int×Int):=
 ku (fun x y=>a3 (x,y,())) (fun r=>decide (r < 0)) a0 a1 a2
def wh (n:Nat) (a0:(List aF)) (a1:Int) (a2:Int) (a3:(aF×aF×Unit)->Option Int):Option (List aF):=
 iE n a0 a1 a2
def oh (n:Nat) (a0:(List aF)) (a1:Int) (a2:Int) (a3:(aF×aF×Unit)->Option Int):Option (Bool×(List aF)):=
 cK (fun x y=>a3 (x,y,())) (fun r=>decide (r < 0)) n a0 a1 a2
def uq (n:Nat) (a0:(List aF)) (a1:Int) (a2:Int) (a3:Int) (a4:(aF×aF×Unit)->Option Int):Option (Int×(List aF)):=
 fE (fun x y=>a4 (x,y,())) (fun r=>decide (r < 0)) n a0 a1 a2 a3
def Az (n:Nat) (a0:(List aF)) (a1:Int) (a2:Int) (a3:Int) (a4:(aF×aF×Unit)->Option Int):Option (Int×Bool×(List aF)):=
 lW (fun x y=>a4 (x,y,())) (fun r=>decide (r < 0)) n a0 a1 a2 a3
def fZ (n:Nat) (rc:((List aF))->(Int)->(Int)->(Int)->((aF×aF×Unit)->Option Int)->Option (List aF)) (a0:(List aF)) (a1:Int) (a2:Int) (a3:Int) (a4:(aF×aF×Unit)->Option Int):Option (List aF):=
 fU (fun x y=>a4 (x,y,())) (fun r=>decide (r < 0)) aJ aK n (fun l a b d=>rc l a b d a4) a0 a1 a2 a3
def iZ (rc:((List aF))->(Int)->(Int)->(Int)->((aF×aF×Unit)->Option Int)->Option (List aF)):Sig xx:=⟨[.mut (.st SI.span),.d (.int .i64),.d (.int .i64),.d (.int .i64),.clo [(.st SI.span),(.st SI.span)] (.int .i64)],[.mu (.st SI.span)],fun a=>rc a.1 a.2.1 a.2.2.1 a.2.2.2.1 a.2.2.2.2.1,none⟩
def bZ (n:Nat):Nat->((List aF))->(Int)->(Int)->(Int)->((aF×aF×Unit)->Option Int)->Option (List aF)
 | 0=>fun _ _ _ _ _=>none
 |m+1=>fZ n (bZ n m)
def kF (n:Nat) (a0:(List aF)) (a1:Int) (a2:Int) (a3:Int) (a4:(aF×aF×Unit)->Option Int):Option (List aF):=bZ n n a0 a1 a2 a3 a4
def mH (n:Nat) (a0:(List aF)) (a1:(aF×aF×Unit)->Option Int):Option (List aF):=
 (bits_Len (IntKind.u64.wrap ((a0.length:Nat):Int))).bind fun r1=>bif eqL a0.length a0.length then (kF n a0 0 ((a0.length:Nat):Int) r1 a1).bind fun r2=>some r2 else none
def cmp_Compare_int (a0:Int) (a1:Int):Option Int:=
 (cmp_isNaN_int a0).bind fun r1=>(cmp_isNaN_int a1).bind fun r2=>(bif r1 then (bif r2 then some (0:Int)else some ((-1):Int))else (bif r2 then some (1:Int)else (bif (decide (a0 < (a1:Int)))then some ((-1):Int)else (bif (decide (a0>(a1:Int)))then some (1:Int)else some (0:Int)))))
def wm (a0:aF) (a1:aF):Option Int:=
 (cmp_Compare_int a0.from_ a1.from_).bind fun r1=>some r1
def ql (a0:(List au)) (a1:Int):(Int×(List aF))->Option ((Int×(List aF)) ⊕ (List aF))
 |(v1,v2)=>(bif (decide (v1 < ((a0.length:Int):Int)))then ((at? a0 v1).bind fun x1=>((bif (decide (x1.x0<=(a1:Int)))then some (decide (a1 < (x1.x1:Int)))else some false):Option (Bool)).bind fun v3=>(bif v3 then bif bC v2.length v2.length (sub ([(aF.mk x1.y0 x1.y1)]:List aF) 0 1).length 1 16 then jA (v2++(sub ([(aF.mk x1.y0 x1.y1)]:List aF) 0 1)) fun r1=>bif eqL r1.length r1.length then some r1 else none else none else bif eqL v2.length v2.length then some v2 else none):Option ((List aF))).bind fun v4=>bif eqL v4.length v4.length then some (.inl ((i64.wrap (v1+1)),v4))else none else bif eqL v2.length v2.length then some (.inr v2)else none)
def qm (w1:(List aF)) (r2:(List aF)):(Int×(List aF))->Option ((Int×(List aF)) ⊕ (List aF))
 |(v5,v6)=>(bif (decide (v5 < (((w1.length:Nat):Int):Int)))then (bif inb v5 w1.length then (at? r2 ((0:Nat)+v5:Int)).bind fun x2=>((bif (decide (((v6.length:Nat):Int)>(0:Int)))then bif inb (i64.wrap (((v6.length:Nat):Int) - 1)) v6.length then (at? v6 ((0:Nat)+(i64.wrap (((v6.length:Nat):Int) - 1)):Int)).bind fun x3=>some (decide (x2.from_<=(x3.to:Int)))else none else some false):Option (Bool)).bind fun v7=>(bif v7 then bif inb (i64.wrap (((v6.length:Nat):Int) - 1)) v6.length then (at? v6 ((0:Nat)+(i64.wrap (((v6.length:Nat):Int) - 1)):Int)).bind fun x4=>bif inb (i64.wrap (((v6.length:Nat):Int) - 1)) v6.length then (at? v6 ((0:Nat)+(i64.wrap (((v6.length:Nat):Int) - 1)):Int)).bind fun x5=>bif eqL v6.length (v6.set ((0:Nat)+(i64.wrap (((v6.length:Nat):Int) - 1)):Int).toNat (aF.mk x5.from_ (max x4.to x2.to))).length then some (v6.set ((0:Nat)+(i64.wrap (((v6.length:Nat):Int) - 1)):Int).toNat (aF.mk x5.from_ (max x4.to x2.to)))else none else none else none else bif bC v6.length v6.length (sub ([x2]:List aF) 0 1).length 1 16 then jA (v6++(sub ([x2]:List aF) 0 1)) fun r3=>bif eqL r3.length r3.length then some r3 else none else none)else none:Option ((List aF))).bind fun v8=>bif eqL v8.length v8.length then some (.inl ((i64.wrap (v5+1)),v8))else none else bif eqL v6.length v6.length then some (.inr v6)else none)
def HZ (n:Nat) (a0:(List au)) (a1:Int):Option (List aF):=
 bif eqL 0 ([]:List aF).length then (iter (ql a0 a1) n ((0:Int),([]:List aF))).bind fun w1=>bif eqL w1.length w1.length then (mH n w1 (fun (y1:aF×aF×Unit)=>wm y1.1 y1.2.1)).bind fun r2=>bif eqL 0 ([]:List aF).length then (iter (qm w1 r2) n ((0:Int),([]:List aF))).bind fun w2=>bif eqL (sub w2 0 w2.length).length w2.length then some (sub w2 0 w2.length)else none else none else none else none
def qo (r1:(List au)):(Int×(List Int))->Option ((Int×(List Int)) ⊕ (List Int))
 |(v1,v2)=>(bif (decide (v1 < (((r1.length:Nat):Int):Int)))then bif inb v1 r1.length then (at? r1 ((0:Nat)+v1:Int)).bind fun x1=>bif bC v2.length v2.length (sub ([x1.x0,x1.x1]:List Int) 0 2).length 2 8 then jA (v2++(sub ([x1.x0,x1.x1]:List Int) 0 2)) fun r2=>bif eqL r2.length r2.length then some (.inl ((i64.wrap (v1+1)),r2))else none else none else none else bif eqL v2.length v2.length then some (.inr v2)else none)
def qp (n:Nat) (r1:(List au)) (r4:Unit×(List Int)):(Int×(List dL))->Option ((Int×(List dL)) ⊕ (List dL))
 |(v3,v4)=>(bif (decide (v3 < (((r4.2.length:Nat):Int):Int)))then bif inb (i64.wrap (v3 - 1)) r4.2.length then (at? r4.2 ((0:Nat)+(i64.wrap (v3 - 1)):Int)).bind fun x2=>bif inb v3 r4.2.length then (at? r4.2 ((0:Nat)+v3:Int)).bind fun x3=>bif inb (i64.wrap (v3 - 1)) r4.2.length then (at? r4.2 ((0:Nat)+(i64.wrap (v3 - 1)):Int)).bind fun x4=>bif eqL (sub r1 0 r1.length).length r1.length then (HZ n (sub r1 0 r1.length) x4).bind fun r5=>bif eqL (sub r5 0 r5.length).length r5.length then bif bC v4.length v4.length (sub ([(dL.mk x2 x3 (sub r5 0 r5.length))]:List dL) 0 1).length 1 40 then jA (v4++(sub ([(dL.mk x2 x3 (sub r5 0 r5.length))]:List dL) 0 1)) fun r6=>bif eqL r6.length r6.length then some (.inl ((i64.wrap (v3+1)),r6))else none else none else none else none else none else none else none else bif eqL v4.length v4.length then some (.inr v4)else none)
def H6 (n:Nat) (a0:(List (List au))):Option (List dL):=
 (xM n a0).bind fun r1=>bif eqL 0 ([]:List Int).length then (iter (qo r1) n ((0:Int),([]:List Int))).bind fun w1=>bif eqL w1.length w1.length then (pF n w1).bind fun r3=>bif eqL w1.length r3.length then (qj n r3).bind fun r4=>bif eqL 0 ([]:List dL).length then (iter (qp n r1 r4) n ((1:Int),([]:List dL))).bind fun w2=>bif eqL (sub w2 0 w2.length).length w2.length then some (sub w2 0 w2.length)else none else none else none else none else none
def MU (a0:(List aF)) (a1:(List aF)):Int->Option (Int ⊕ (Unit ⊕ Bool))
 |v1=>(bif (decide (v1 < ((a0.length:Int):Int)))then (at? a0 v1).bind fun x1=>(at? a1 v1).bind fun x2=>(bif (!((x1.from_==(x2.from_:Int))&&((x1.to==(x2.to:Int))&&true)))then (some false).map fun a=> .inr (.inr a)else some (.inl (i64.wrap (v1+1))))else some (.inr (.inl ())))
def tH (n:Nat) (a0:(List aF)) (a1:(List aF)):Option Bool:=
 (bif ((a0.length:Int) != ((a1.length:Int):Int))then some false else dS (iter (MU a0 a1) n (0:Int)) fun ()=>some true)
def pG (n:Nat) (a0:(List dL)) (v1:Int):Int->Option (Int ⊕ Int)
 |v3=>((bif (decide (v3 < ((a0.length:Int):Int)))then (at? a0 v3).bind fun x1=>(at? a0 v1).bind fun x2=>(tH n x1.column x2.column).bind fun r1=>some r1 else some false):Option (Bool)).bind fun v4=>(bif v4 then some (.inl (i64.wrap (v3+1)))else some (.inr v3))
def uw (a0:(List dL)) (v1:Int) (w1:Int) (x3:dL):(Int×(List au))->Option ((Int×(List au)) ⊕ (List au))
 |(v5,v6)=>(bif (decide (v5 < ((x3.column.length:Int):Int)))then (at? x3.column v5).bind fun x4=>(at? a0 v1).bind fun x5=>(at? a0 (i64.wrap (w1 - 1))).bind fun x6=>bif bC v6.length v6.length (sub ([(au.mk x5.x0 x4.from_ x6.x1 x4.to)]:List au) 0 1).length 1 32 then jA (v6++(sub ([(au.mk x5.x0 x4.from_ x6.x1 x4.to)]:List au) 0 1)) fun r2=>bif eqL r2.length r2.length then some (.inl ((i64.wrap (v5+1)),r2))else none else none else bif eqL v6.length v6.length then some (.inr v6)else none)
def uy (n:Nat) (a0:(List dL)):(Int×(List au))->Option ((Int×(List au)) ⊕ (List au))
 |(v1,v2)=>(bif (decide (v1 < ((a0.length:Int):Int)))then (iter (pG n a0 v1) n (i64.wrap (v1+1))).bind fun w1=>(at? a0 v1).bind fun x3=>bif eqL v2.length v2.length then (iter (uw a0 v1 w1 x3) n ((0:Int),v2)).bind fun w2=>bif eqL w2.length w2.length then some (.inl (w1,w2))else none else none else bif eqL v2.length v2.length then some (.inr v2)else none)
def K6 (n:Nat) (a0:(List dL)):Option (List au):=
 bif eqL 0 ([]:List au).length then (iter (uy n a0) n ((0:Int),([]:List au))).bind fun w3=>bif eqL (sub w3 0 w3.length).length w3.length then some (sub w3 0 w3.length)else none else none
def Jt (a0:(List au)):Option ((List au)×Int):=
 (bif (decide ((a0.length:Int)>(200:Int)))then some (([]:(List au)),(6:Int))else some (a0,(0:Int)))
def K7 (a0:(List au)):Int->Option (Int ⊕ (Unit ⊕ ((List au)×Int)))
 |v1=>(bif (decide (v1 < ((a0.length:Int):Int)))then (at? a0 v1).bind fun x1=>(qi x1).bind fun r1=>(bif (!r1)then (some (([]:(List au)),(1:Int))).map fun a=> .inr (.inr a)else some (.inl (i64.wrap (v1+1))))else some (.inr (.inl ())))
def abO (n:Nat) (a0:(List au)):Option ((List au)×Int):=
 dS (iter (K7 a0) n (0:Int)) fun ()=>(bif (decide ((a0.length:Int)>(400:Int)))then some (([]:(List au)),(6:Int))else bif eqL (sub ([a0]:List (List au)) 0 1).length 1 then (H6 n (sub ([a0]:List (List au)) 0 1)).bind fun r2=>bif eqL (sub r2 0 r2.length).length r2.length then (K6 n (sub r2 0 r2.length)).bind fun r3=>bif eqL (sub r3 0 r3.length).length r3.length then (Jt (sub r3 0 r3.length)).bind fun r4=>some (r4.1,r4.2)else none else none else none)
def MV (a0:(List au)) (a1:(List au)):Int->Option (Int ⊕ (Unit ⊕ Bool))
 |v1=>(bif (decide (v1 < ((a0.length:Int):Int)))then (at? a0 v1).bind fun x1=>(at? a1 v1).bind fun x2=>(bif (!((x1.x0==(x2.x0:Int))&&((x1.y0==(x2.y0:Int))&&((x1.x1==(x2.x1:Int))&&((x1.y1==(x2.y1:Int))&&true)))))then (some false).map fun a=> .inr (.inr a)else some (.inl (i64.wrap (v1+1))))else some (.inr (.inl ())))
def om (n:Nat) (a0:(List au)) (a1:(List au)):Option Bool:=
 (bif ((a0.length:Int) != ((a1.length:Int):Int))then some false else dS (iter (MV a0 a1) n (0:Int)) fun ()=>some true)
def xP (n:Nat) (a0:(List au)):Option Bool:=
 (abO n a0).bind fun r1=>(bif (r1.2==(0:Int))then (om n r1.1 a0).bind fun r2=>some r2 else some false)
def kG (a0:GDrawing) (a1:Int) (a2:Int):(Int×(List aB))->Option ((Int×(List aB)) ⊕ (List aB))
 |(v1,v2)=>(bif (decide (v1 < ((a0.phases.length:Int):Int)))then ((at? a0.phases v1).bind fun x1=>((bif (decide (v1>=(a1:Int)))then some (decide (v1 < (a2:Int)))else some false):Option (Bool)).bind fun v3=>(bif v3 then bif bC v2.length v2.length x1.volumes.length x1.volumes.length 72 then jA (v2++x1.volumes) fun r1=>bif eqL r1.length r1.length then some r1 else none else none else bif eqL v2.length v2.length then some v2 else none):Option ((List aB))).bind fun v4=>bif eqL v4.length v4.length then some (.inl ((i64.wrap (v1+1)),v4))else none else bif eqL v2.length v2.length then some (.inr v2)else none)
def oM (n:Nat) (a0:GDrawing) (a1:Int) (a2:Int):Option (List aB):=
 bif eqL 0 ([]:List aB).length then (iter (kG a0 a1 a2) n ((0:Int),([]:List aB))).bind fun w1=>bif eqL (sub w1 0 w1.length).length w1.length then some (sub w1 0 w1.length)else none else none
def fB (a0:aB):Option Bool:=
 ((qi (au.mk a0.box_base_x0 a0.box_base_y0 a0.box_base_x1 a0.box_base_y1)).bind fun r1=>(bif (!r1)then some true else (bif (decide (a0.box_z0 < (0:Int)))then some true else (bif (decide (a0.box_z0>=(a0.box_z1:Int)))then some true else some (decide (a0.box_z1>(4096:Int)))))):Option (Bool)).bind fun v1=>(bif v1 then some false else ((bif (a0.use != (0:Int))then some (a0.units != (0:Int))else some false):Option (Bool)).bind fun v2=>(bif v2 then some false else (bif (decide (a0.use>=(0:Int)))then (bif (decide (a0.use < (6:Int)))then (bif (decide (a0.units>=(0:Int)))then some (decide (a0.units<=(1048576:Int)))else some false)else some false)else some false)))
def wT (a0:au):Option (au×Bool):=
 (qi a0).bind fun r1=>(bif r1 then some (a0,true)else some ((au.mk 0 0 0 0),false))
def DX (a0:au):Option Int:=
 (wT a0).bind fun r1=>some (i64.wrap ((i64.wrap (r1.1.x1 - r1.1.x0))*(i64.wrap (r1.1.y1 - r1.1.y0))))
def DY (a0:(List au)):(Int×Int)->Option ((Int×Int) ⊕ Int)
 |(v1,v2)=>(bif (decide (v2 < ((a0.length:Int):Int)))then (at? a0 v2).bind fun x1=>(DX x1).bind fun r2=>some (.inl ((i64.wrap (v1+r2)),(i64.wrap (v2+1))))else some (.inr v1))
def PL (n:Nat) (a0:(List au)):Option Int:=
 (xP n a0).bind fun r1=>(bif (!r1)then some (0:Int)else (iter (DY a0) n ((0:Int),(0:Int))).bind fun w1=>some w1)
def vk (n:Nat) (a0:(List au)) (a1:Int) (a2:Int) (a3:(au×au×Unit)->Option Int):Option (List au):=
 iM (fun x y=>a3 (x,y,())) (fun r=>decide (r < 0)) n a0 a1 a2
def Cc (n:Nat) (a0:(List au)) (a1:Int) (a2:Int) (a3:Int) (a4:(au×au×Unit)->Option Int):Option (List au):=
 mD (fun x y=>a4 (x,y,())) (fun r=>decide (r < 0)) n a0 a1 a2 a3
def Ce (n:Nat) (a0:(List au)) (a1:Int) (a2:Int) (a3:(au×au×Unit)->Option Int):Option (List au):=
 rW (fun x y=>a3 (x,y,())) (fun r=>decide (r < 0)) n a0 a1 a2
def vo (n:Nat) (a0:(List au)) (a1:Int) (a2:Int) (a3:(au×au×Unit)->Option Int):Option (List au):=
 gF aJ aK n a0 a1 a2
def EQ (a0:(List au)) (a1:Int) (a2:Int) (a3:Int) (a4:(au×au×Unit)->Option Int):Option (Int×Int×Int):=
 vW (fun x y=>a4 (x,y,())) (fun r=>decide (r < 0)) a0 a1 a2 a3
def ER (a0:(List au)) (a1:Int) (a2:Int) (a3:Int) (a4:Int) (a5:(au×au×Unit)->Option Int):Option (Int×Int):=
 tF (fun x y=>a5 (x,y,())) (fun r=>decide (r < 0)) a0 a1 a2 a3 a4
def uz (a0:(List au)) (a1:Int) (a2:Int) (a3:(au×au×Unit)->Option Int):Option (Int×Int):=
 bW (fun x y=>a3 (x,y,())) (fun r=>decide (r < 0)) a0 a1 a2
def xQ (a0:(List au)) (a1:Int) (a2:Int) (a3:(au×au×Unit)->Option Int):Option (Int×Int):=
 ku (fun x y=>a3 (x,y,())) (fun r=>decide (r < 0)) a0 a1 a2
def wo (n:Nat) (a0:(List au)) (a1:Int) (a2:Int) (a3:(au×au×Unit)->Option Int):Option (List au):=
 iE n a0 a1 a2
def oo (n:Nat) (a0:(List au)) (a1:Int) (a2:Int) (a3:(au×au×Unit)->Option Int):Option (Bool×(List au)):=
 cK (fun x y=>a3 (x,y,())) (fun r=>decide (r < 0)) n a0 a1 a2
def uD (n:Nat) (a0:(List au)) (a1:Int) (a2:Int) (a3:Int) (a4:(au×au×Unit)->Option Int):Option (Int×(List au)):=
 fE (fun x y=>a4 (x,y,())) (fun r=>decide (r < 0)) n a0 a1 a2 a3
def AA (n:Nat) (a0:(List au)) (a1:Int) (a2:Int) (a3:Int) (a4:(au×au×Unit)->Option Int):Option (Int×Bool×(List au)):=
 lW (fun x y=>a4 (x,y,())) (fun r=>decide (r < 0)) n a0 a1 a2 a3
def gm (n:Nat) (rc:((List au))->(Int)->(Int)->(Int)->((au×au×Unit)->Option Int)->Option (List au)) (a0:(List au)) (a1:Int) (a2:Int) (a3:Int) (a4:(au×au×Unit)->Option Int):Option (List au):=
 fU (fun x y=>a4 (x,y,())) (fun r=>decide (r < 0)) aJ aK n (fun l a b d=>rc l a b d a4) a0 a1 a2 a3
def ja (rc:((List au))->(Int)->(Int)->(Int)->((au×au×Unit)->Option Int)->Option (List au)):Sig xx:=⟨[.mut (.st SI.Rect),.d (.int .i64),.d (.int .i64),.d (.int .i64),.clo [(.st SI.Rect),(.st SI.Rect)] (.int .i64)],[.mu (.st SI.Rect)],fun a=>rc a.1 a.2.1 a.2.2.1 a.2.2.2.1 a.2.2.2.2.1,none⟩
def cu (n:Nat):Nat->((List au))->(Int)->(Int)->(Int)->((au×au×Unit)->Option Int)->Option (List au)
 | 0=>fun _ _ _ _ _=>none
 |m+1=>gm n (cu n m)
def kH (n:Nat) (a0:(List au)) (a1:Int) (a2:Int) (a3:Int) (a4:(au×au×Unit)->Option Int):Option (List au):=cu n n a0 a1 a2 a3 a4
def mI (n:Nat) (a0:(List au)) (a1:(au×au×Unit)->Option Int):Option (List au):=
 (bits_Len (IntKind.u64.wrap ((a0.length:Nat):Int))).bind fun r1=>bif eqL a0.length a0.length then (kH n a0 0 ((a0.length:Nat):Int) r1 a1).bind fun r2=>some r2 else none
def fH (a0:au) (a1:au):Option Int:=
 (cmp_Compare_int a0.y0 a1.y0).bind fun r1=>some r1
def jd (a0:aB):Option Int:=
 ((bif a0.extra then some true else (fB a0).bind fun r1=>some (!r1)):Option (Bool)).bind fun v1=>(bif v1 then some (0:Int)else bif 3 != 0 then some (i64.wrap (Int.tdiv (i64.wrap ((i64.wrap ((i64.wrap (a0.box_z1 - a0.box_z0))+3)) - 1)) 3))else none)
def kX (a0:aB):Option Int:=
 (fB a0).bind fun r1=>(bif (!r1)then some (0:Int)else (DX (au.mk a0.box_base_x0 a0.box_base_y0 a0.box_base_x1 a0.box_base_y1)).bind fun r2=>(jd a0).bind fun r3=>some (i64.wrap (r2*r3)))
def kI (a0:aB):Option Int:=
 some a0.box_z1
def lm (a0:aB):Option Int:=
 some a0.units
def AB (a0:au) (a1:Int):Option (au×Bool):=
 (qi (au.mk (i64.wrap (a0.x0 - a1)) (i64.wrap (a0.y0 - a1)) (i64.wrap (a0.x1+a1)) (i64.wrap (a0.y1+a1)))).bind fun r1=>some ((au.mk (i64.wrap (a0.x0 - a1)) (i64.wrap (a0.y0 - a1)) (i64.wrap (a0.x1+a1)) (i64.wrap (a0.y1+a1))),r1)
def Aa (a0:au) (a1:au):Option (au×Bool):=
 ((qi a0).bind fun r1=>(bif (!r1)then some true else (qi a1).bind fun r2=>some (!r2)):Option (Bool)).bind fun v1=>(bif v1 then some ((au.mk 0 0 0 0),false)else (wT (au.mk (max a0.x0 a1.x0) (max a0.y0 a1.y0) (min a0.x1 a1.x1) (min a0.y1 a1.y1))).bind fun r3=>some (r3.1,r3.2))
def iQ (a0:bn) (a1:HV) (a2:Int):Option Bool:=
 bif inb a2 6 then (at? ([a1.a0,a1.a1,a1.a2,a1.a3,a1.a4,a1.a5]:List ByteArray) a2).bind fun x1=>some (ByteArray.toList a0.name==ByteArray.toList x1)else none
def ES (a0:(List bn)) (a1:(bn×Unit)->Option Bool):Int->Option (Int ⊕ (Unit ⊕ Int))
 |v1=>(bif (decide (v1 < ((a0.length:Int):Int)))then (at? a0 v1).bind fun x1=>(a1 (x1,())).bind fun r1=>(bif r1 then (some v1).map fun a=> .inr (.inr a)else some (.inl (i64.wrap (v1+1))))else some (.inr (.inl ())))
def o8 (n:Nat) (a0:(List bn)) (a1:(bn×Unit)->Option Bool):Option Int:=
 dS (iter (ES a0 a1) n (0:Int)) fun ()=>some ((-1):Int)
def iR (n:Nat) (a0:lX) (a1:Int):Int->Option (Int ⊕ (Unit ⊕ Int))
 |v1=>(bif (decide (v1 < ((a0.tables.length:Int):Int)))then (at? a0.tables v1).bind fun x1=>(bif (!(ByteArray.toList x1.name==ByteArray.toList (⟨#[116,114,97,102,102,105,99]⟩)))then some (.inl (i64.wrap (v1+1)))else ((o8 n x1.rows (fun (y1:bn×Unit)=>iQ y1.1 (HV.mk (⟨#[104,111,109,101]⟩) (⟨#[115,104,111,112]⟩) (⟨#[119,111,114,107]⟩) (⟨#[112,97,114,107]⟩) (⟨#[112,108,97,110,116]⟩) (⟨#[104,97,108,108]⟩)) a1)).bind fun r1=>(bif (decide (r1>=(0:Int)))then (at? x1.rows r1).bind fun x2=>some x2.n else some x1.else_):Option (Int)).bind fun v2=>(some (max (0:Int) (min v2 (1048576:Int)))).map fun a=> .inr (.inr a))else some (.inr (.inl ())))
def Ab (n:Nat) (a0:lX) (a1:Int):Option Int:=
 dS (iter (iR n a0 a1) n (0:Int)) fun ()=>some (0:Int)
def kP (n:Nat) (a0:lX) (a1:aB):Option Int:=
 (Ab n a0 a1.use).bind fun r1=>(kX a1).bind fun r2=>((bif (decide (r1>(0:Int)))then bif r1 != 0 then some (decide (r2>((i64.wrap (Int.tdiv 109951162777600 r1)):Int)))else none else some false):Option (Bool)).bind fun v1=>(bif v1 then some (1099511627776:Int)else bif 100 != 0 then some (i64.wrap (Int.tdiv (i64.wrap ((i64.wrap ((i64.wrap (r1*r2))+100)) - 1)) 100))else none)
def jM (n:Nat) (a0:(List eu)) (a1:(List bf)) (a2:(List bT)) (a3:(List aX)) (a4:(List eD)) (a5:(List bU)) (a6:(List aU)) (a7:Int) (a8:(List au)) (a9:(List aB)):Option (Int×(List eu)×(List bf)×(List bT)×(List aX)×(List eD)×(List bU)×(List aU)×Int×(List au)×(List aB)):=
 (PL n a8).bind fun r1=>bif eqL a9.length a9.length then some (r1,a0,a1,a2,a3,a4,a5,a6,a7,a8,a9)else none
def dO (a9:(List aB)):(Int×(List au)×(List Int))->Option ((Int×(List au)×(List Int)) ⊕ ((List au)×(List Int)))
 |(v1,v2,v3)=>(bif (decide (v1 < (((a9.length:Nat):Int):Int)))then bif inb v1 a9.length then (at? a9 ((0:Nat)+v1:Int)).bind fun x1=>bif inb v1 ((((a9.length:Nat):Int):Int).toNat)then (at? v2 ((0:Nat)+v1:Int)).bind fun x2=>bif inb v1 ((((a9.length:Nat):Int):Int).toNat)then (at? (v2.set ((0:Nat)+v1:Int).toNat (au.mk x1.box_base_x0 x1.box_base_y0 x1.box_base_x1 x1.box_base_y1)) ((0:Nat)+v1:Int)).bind fun x3=>bif inb v1 ((((a9.length:Nat):Int):Int).toNat)then (at? (v2.set ((0:Nat)+v1:Int).toNat (au.mk x1.box_base_x0 x1.box_base_y0 x1.box_base_x1 x1.box_base_y1)) ((0:Nat)+v1:Int)).bind fun x4=>bif bC v3.length v3.length (sub ([x3.x0,x4.x1]:List Int) 0 2).length 2 8 then jA (v3++(sub ([x3.x0,x4.x1]:List Int) 0 2)) fun r1=>bif eqL r1.length r1.length then some (.inl ((i64.wrap (v1+1)),(v2.set ((0:Nat)+v1:Int).toNat (au.mk x1.box_base_x0 x1.box_base_y0 x1.box_base_x1 x1.box_base_y1)),r1))else none else none else none else none else none else none else bif eqL v3.length v3.length then some (.inr (v2,v3))else none)
def gq (a9:(List aB)) (w2:(List Int)) (r2:(List au)) (r3:(List Int)) (v5:Int):(Int×Int×Int)->Option ((Int×Int×Int) ⊕ Int)
 |(v6,v7,v8)=>(bif (decide (v8 < ((((((a9.length:Nat):Int):Int).toNat:Nat):Int):Int)))then (bif inb v8 ((((a9.length:Nat):Int):Int).toNat)then (at? r2 ((0:Nat)+v8:Int)).bind fun x5=>(bif inb v5 w2.length then (at? r3 ((0:Nat)+v5:Int)).bind fun x6=>(bif (decide (x5.x0<=(x6:Int)))then bif inb v5 w2.length then (at? r3 ((0:Nat)+v5:Int)).bind fun x7=>(bif (decide (x7 < (x5.x1:Int)))then some (decide (x5.y1>(v7:Int)))else some false)else none else some false)else none:Option (Bool)).bind fun v9=>(bif v9 then bif inb (i64.wrap (v5+1)) w2.length then (at? r3 ((0:Nat)+(i64.wrap (v5+1)):Int)).bind fun x8=>bif inb v5 w2.length then (at? r3 ((0:Nat)+v5:Int)).bind fun x9=>some ((i64.wrap (v6+(i64.wrap ((i64.wrap (x8 - x9))*(i64.wrap (x5.y1 - (max v7 x5.y0))))))),x5.y1)else none else none else some (v6,v7))else none:Option (Int×Int)).bind fun (v10,v11)=>some (.inl (v10,v11,(i64.wrap (v8+1))))else some (.inr v6))
def gy (n:Nat) (a9:(List aB)) (w2:(List Int)) (r2:(List au)) (r3:(List Int)):(Int×Int)->Option ((Int×Int) ⊕ Int)
 |(v4,v5)=>(bif (decide (v5 < ((max (0:Int) (i64.wrap (((w2.length:Nat):Int) - 1))):Int)))then (iter (gq a9 w2 r2 r3 v5) n (v4,(0:Int),(0:Int))).bind fun w3=>some (.inl (w3,(i64.wrap (v5+1))))else some (.inr v4))
def fI (n:Nat) (a0:(List eu)) (a1:(List bf)) (a2:(List bT)) (a3:(List aX)) (a4:(List eD)) (a5:(List bU)) (a6:(List aU)) (a7:Int) (a8:(List au)) (a9:(List aB)):Option (Int×(List eu)×(List bf)×(List bT)×(List aX)×(List eD)×(List bU)×(List aU)×Int×(List au)×(List aB)):=
 bif (decide (((a9.length:Nat):Int)<=((a9.length:Nat):Int))&&(decide (0<=((a9.length:Nat):Int))&&Jd ((a9.length:Nat):Int) 32))then bif eqL 0 ([]:List Int).length then (iter (dO a9) n ((0:Int),(List.replicate (((a9.length:Nat):Int):Int).toNat (au.mk 0 0 0 0)),([]:List Int))).bind fun (w1,w2)=>bif eqL ((((a9.length:Nat):Int):Int).toNat) w1.length then (mI n w1 (fun (y1:au×au×Unit)=>fH y1.1 y1.2.1)).bind fun r2=>bif eqL w2.length w2.length then (pF n w2).bind fun r3=>(iter (gy n a9 w2 r2 r3) n ((0:Int),(0:Int))).bind fun w4=>bif eqL a9.length a9.length then some (w4,a0,a1,a2,a3,a4,a5,a6,a7,a8,a9)else none else none else none else none else none
def gZ (a9:(List aB)):(Int×Int)->Option ((Int×Int) ⊕ Int)
 |(v1,v2)=>(bif (decide (v2 < (((a9.length:Nat):Int):Int)))then bif inb v2 a9.length then (at? a9 ((0:Nat)+v2:Int)).bind fun x1=>(kX x1).bind fun r1=>some (.inl ((i64.wrap (v1+r1)),(i64.wrap (v2+1))))else none else some (.inr v1))
def nK (n:Nat) (a0:(List eu)) (a1:(List bf)) (a2:(List bT)) (a3:(List aX)) (a4:(List eD)) (a5:(List bU)) (a6:(List aU)) (a7:Int) (a8:(List au)) (a9:(List aB)):Option (Int×(List eu)×(List bf)×(List bT)×(List aX)×(List eD)×(List bU)×(List aU)×Int×(List au)×(List aB)):=
 (iter (gZ a9) n ((0:Int),(0:Int))).bind fun w1=>bif eqL a9.length a9.length then some (w1,a0,a1,a2,a3,a4,a5,a6,a7,a8,a9)else none
def iW (n:Nat) (a0:(List eu)) (a1:(List bf)) (a2:(List bT)) (a3:(List aX)) (a4:(List eD)) (a5:(List bU)) (a6:(List aU)) (a7:Int) (a8:(List au)) (a9:(List aB)):Option (Int×(List eu)×(List bf)×(List bT)×(List aX)×(List eD)×(List bU)×(List aU)×Int×(List au)×(List aB)):=
 bif eqL a9.length a9.length then (nK n a0 a1 a2 a3 a4 a5 a6 a7 a8 a9).bind fun r1=>bif eqL r1.2.2.2.2.2.2.2.2.2.2.length r1.2.2.2.2.2.2.2.2.2.2.length then some (r1.1,r1.2.1,r1.2.2.1,r1.2.2.2.1,r1.2.2.2.2.1,r1.2.2.2.2.2.1,r1.2.2.2.2.2.2.1,r1.2.2.2.2.2.2.2.1,r1.2.2.2.2.2.2.2.2.1,r1.2.2.2.2.2.2.2.2.2.1,r1.2.2.2.2.2.2.2.2.2.2)else none else none
def dZ (a9:(List aB)):(Int×Int)->Option ((Int×Int) ⊕ Int)
 |(v1,v2)=>(bif (decide (v2 < (((a9.length:Nat):Int):Int)))then bif inb v2 a9.length then (at? a9 ((0:Nat)+v2:Int)).bind fun x1=>(jd x1).bind fun r1=>some (.inl ((max v1 r1),(i64.wrap (v2+1))))else none else some (.inr v1))
def jI (n:Nat) (a0:(List eu)) (a1:(List bf)) (a2:(List bT)) (a3:(List aX)) (a4:(List eD)) (a5:(List bU)) (a6:(List aU)) (a7:Int) (a8:(List au)) (a9:(List aB)):Option (Int×(List eu)×(List bf)×(List bT)×(List aX)×(List eD)×(List bU)×(List aU)×Int×(List au)×(List aB)):=
 (iter (dZ a9) n ((0:Int),(0:Int))).bind fun w1=>bif eqL a9.length a9.length then some (w1,a0,a1,a2,a3,a4,a5,a6,a7,a8,a9)else none
def ic (n:Nat) (a0:(List eu)) (a1:(List bf)) (a2:(List bT)) (a3:(List aX)) (a4:(List eD)) (a5:(List bU)) (a6:(List aU)) (a7:Int) (a8:(List au)) (a9:(List aB)):Option (Int×(List eu)×(List bf)×(List bT)×(List aX)×(List eD)×(List bU)×(List aU)×Int×(List au)×(List aB)):=
 bif eqL a9.length a9.length then (jI n a0 a1 a2 a3 a4 a5 a6 a7 a8 a9).bind fun r1=>bif eqL r1.2.2.2.2.2.2.2.2.2.2.length r1.2.2.2.2.2.2.2.2.2.2.length then some (r1.1,r1.2.1,r1.2.2.1,r1.2.2.2.1,r1.2.2.2.2.1,r1.2.2.2.2.2.1,r1.2.2.2.2.2.2.1,r1.2.2.2.2.2.2.2.1,r1.2.2.2.2.2.2.2.2.1,r1.2.2.2.2.2.2.2.2.2.1,r1.2.2.2.2.2.2.2.2.2.2)else none else none
def d9 (a9:(List aB)):(Int×Int)->Option ((Int×Int) ⊕ Int)
 |(v1,v2)=>(bif (decide (v2 < (((a9.length:Nat):Int):Int)))then bif inb v2 a9.length then (at? a9 ((0:Nat)+v2:Int)).bind fun x1=>(kI x1).bind fun r1=>some (.inl ((max v1 r1),(i64.wrap (v2+1))))else none else some (.inr v1))
def jJ (n:Nat) (a0:(List eu)) (a1:(List bf)) (a2:(List bT)) (a3:(List aX)) (a4:(List eD)) (a5:(List bU)) (a6:(List aU)) (a7:Int) (a8:(List au)) (a9:(List aB)):Option (Int×(List eu)×(List bf)×(List bT)×(List aX)×(List eD)×(List bU)×(List aU)×Int×(List au)×(List aB)):=
 (iter (d9 a9) n ((0:Int),(0:Int))).bind fun w1=>bif eqL a9.length a9.length then some (w1,a0,a1,a2,a3,a4,a5,a6,a7,a8,a9)else none
def ig (n:Nat) (a0:(List eu)) (a1:(List bf)) (a2:(List bT)) (a3:(List aX)) (a4:(List eD)) (a5:(List bU)) (a6:(List aU)) (a7:Int) (a8:(List au)) (a9:(List aB)):Option (Int×(List eu)×(List bf)×(List bT)×(List aX)×(List eD)×(List bU)×(List aU)×Int×(List au)×(List aB)):=
 bif eqL a9.length a9.length then (jJ n a0 a1 a2 a3 a4 a5 a6 a7 a8 a9).bind fun r1=>bif eqL r1.2.2.2.2.2.2.2.2.2.2.length r1.2.2.2.2.2.2.2.2.2.2.length then some (r1.1,r1.2.1,r1.2.2.1,r1.2.2.2.1,r1.2.2.2.2.1,r1.2.2.2.2.2.1,r1.2.2.2.2.2.2.1,r1.2.2.2.2.2.2.2.1,r1.2.2.2.2.2.2.2.2.1,r1.2.2.2.2.2.2.2.2.2.1,r1.2.2.2.2.2.2.2.2.2.2)else none else none
def iq (a9:(List aB)):(Int×Int)->Option ((Int×Int) ⊕ Int)
 |(v1,v2)=>(bif (decide (v2 < (((a9.length:Nat):Int):Int)))then bif inb v2 a9.length then (at? a9 ((0:Nat)+v2:Int)).bind fun x1=>(lm x1).bind fun r1=>some (.inl ((i64.wrap (v1+r1)),(i64.wrap (v2+1))))else none else some (.inr v1))
def nL (n:Nat) (a0:(List eu)) (a1:(List bf)) (a2:(List bT)) (a3:(List aX)) (a4:(List eD)) (a5:(List bU)) (a6:(List aU)) (a7:Int) (a8:(List au)) (a9:(List aB)):Option (Int×(List eu)×(List bf)×(List bT)×(List aX)×(List eD)×(List bU)×(List aU)×Int×(List au)×(List aB)):=
 (iter (iq a9) n ((0:Int),(0:Int))).bind fun w1=>bif eqL a9.length a9.length then some (w1,a0,a1,a2,a3,a4,a5,a6,a7,a8,a9)else none
def iX (n:Nat) (a0:(List eu)) (a1:(List bf)) (a2:(List bT)) (a3:(List aX)) (a4:(List eD)) (a5:(List bU)) (a6:(List aU)) (a7:Int) (a8:(List au)) (a9:(List aB)):Option (Int×(List eu)×(List bf)×(List bT)×(List aX)×(List eD)×(List bU)×(List aU)×Int×(List au)×(List aB)):=
 bif eqL a9.length a9.length then (nL n a0 a1 a2 a3 a4 a5 a6 a7 a8 a9).bind fun r1=>bif eqL r1.2.2.2.2.2.2.2.2.2.2.length r1.2.2.2.2.2.2.2.2.2.2.length then some (r1.1,r1.2.1,r1.2.2.1,r1.2.2.2.1,r1.2.2.2.2.1,r1.2.2.2.2.2.1,r1.2.2.2.2.2.2.1,r1.2.2.2.2.2.2.2.1,r1.2.2.2.2.2.2.2.2.1,r1.2.2.2.2.2.2.2.2.2.1,r1.2.2.2.2.2.2.2.2.2.2)else none else none
def fG (a10:(List au)) (r1:au×Bool):(Int×Int)->Option ((Int×Int) ⊕ Int)
 |(v1,v2)=>(bif (decide (v2 < ((a10.length:Int):Int)))then ((at? a10 v2).bind fun x1=>(Aa r1.1 x1).bind fun r2=>(bif r2.2 then (DX r2.1).bind fun r3=>some (i64.wrap (v1+r3))else some v1):Option (Int)).bind fun v3=>some (.inl (v3,(i64.wrap (v2+1))))else some (.inr v1))
def iw (n:Nat) (a0:au) (a1:Int) (a2:(List eu)) (a3:(List bf)) (a4:(List bT)) (a5:(List aX)) (a6:(List eD)) (a7:(List bU)) (a8:(List aU)) (a9:Int) (a10:(List au)) (a11:(List aB)):Option (Bool×(List eu)×(List bf)×(List bT)×(List aX)×(List eD)×(List bU)×(List aU)×Int×(List au)×(List aB)):=
 (AB a0 a1).bind fun r1=>(bif (!r1.2)then bif eqL a11.length a11.length then some (false,a2,a3,a4,a5,a6,a7,a8,a9,a10,a11)else none else (iter (fG a10 r1) n ((0:Int),(0:Int))).bind fun w1=>(DX r1.1).bind fun r4=>bif eqL a11.length a11.length then some ((w1==(r4:Int)),a2,a3,a4,a5,a6,a7,a8,a9,a10,a11)else none)
def dm (n:Nat) (x1:aB):(Int×Int×(List eu)×(List bf)×(List bT)×(List aX)×(List eD)×(List bU)×(List aU)×Int×(List au)×(List aB))->Option ((Int×Int×(List eu)×(List bf)×(List bT)×(List aX)×(List eD)×(List bU)×(List aU)×Int×(List au)×(List aB)) ⊕ (Int×(List eu)×(List bf)×(List bT)×(List aX)×(List eD)×(List bU)×(List aU)×Int×(List au)×(List aB)))
 |(v13,v14,v15,v16,v17,v18,v19,v20,v21,v22,v23,v24)=>(bif (decide (v13 < (v14:Int)))then bif 2 != 0 then bif eqL v24.length v24.length then (iw n (au.mk x1.box_base_x0 x1.box_base_y0 x1.box_base_x1 x1.box_base_y1) (i64.wrap (Int.tdiv (i64.wrap ((i64.wrap (v13+v14))+1)) 2)) v15 v16 v17 v18 v19 v20 v21 v22 v23 v24).bind fun r1=>(bif r1.1 then bif eqL r1.2.2.2.2.2.2.2.2.2.2.length r1.2.2.2.2.2.2.2.2.2.2.length then some (.inl ((i64.wrap (Int.tdiv (i64.wrap ((i64.wrap (v13+v14))+1)) 2)),v14,r1.2.1,r1.2.2.1,r1.2.2.2.1,r1.2.2.2.2.1,r1.2.2.2.2.2.1,r1.2.2.2.2.2.2.1,r1.2.2.2.2.2.2.2.1,r1.2.2.2.2.2.2.2.2.1,r1.2.2.2.2.2.2.2.2.2.1,r1.2.2.2.2.2.2.2.2.2.2))else none else bif eqL r1.2.2.2.2.2.2.2.2.2.2.length r1.2.2.2.2.2.2.2.2.2.2.length then some (.inl (v13,(i64.wrap ((i64.wrap (Int.tdiv (i64.wrap ((i64.wrap (v13+v14))+1)) 2)) - 1)),r1.2.1,r1.2.2.1,r1.2.2.2.1,r1.2.2.2.2.1,r1.2.2.2.2.2.1,r1.2.2.2.2.2.2.1,r1.2.2.2.2.2.2.2.1,r1.2.2.2.2.2.2.2.2.1,r1.2.2.2.2.2.2.2.2.2.1,r1.2.2.2.2.2.2.2.2.2.2))else none)else none else none else bif eqL v24.length v24.length then some (.inr (v13,v15,v16,v17,v18,v19,v20,v21,v22,v23,v24))else none)
def eU (n:Nat) (a9:(List aB)):(Int×Int×(List eu)×(List bf)×(List bT)×(List aX)×(List eD)×(List bU)×(List aU)×Int×(List au)×(List aB))->Option ((Int×Int×(List eu)×(List bf)×(List bT)×(List aX)×(List eD)×(List bU)×(List aU)×Int×(List au)×(List aB)) ⊕ (Int×(List eu)×(List bf)×(List bT)×(List aX)×(List eD)×(List bU)×(List aU)×Int×(List au)×(List aB)))
 |(v1,v2,v3,v4,v5,v6,v7,v8,v9,v10,v11,v12)=>(bif (decide (v2 < (((a9.length:Nat):Int):Int)))then bif inb v2 a9.length then (at? v12 ((0:Nat)+v2:Int)).bind fun x1=>bif eqL v12.length v12.length then (iter (dm n x1) n ((0:Int),v1,v3,v4,v5,v6,v7,v8,v9,v10,v11,v12)).bind fun (w1,w2,w3,w4,w5,w6,w7,w8,w9,w10,w11)=>bif eqL w11.length w11.length then some (.inl (w1,(i64.wrap (v2+1)),w2,w3,w4,w5,w6,w7,w8,w9,w10,w11))else none else none else none else bif eqL v12.length v12.length then some (.inr (v1,v3,v4,v5,v6,v7,v8,v9,v10,v11,v12))else none)
def gP (n:Nat) (a0:(List eu)) (a1:(List bf)) (a2:(List bT)) (a3:(List aX)) (a4:(List eD)) (a5:(List bU)) (a6:(List aU)) (a7:Int) (a8:(List au)) (a9:(List aB)):Option (Int×(List eu)×(List bf)×(List bT)×(List aX)×(List eD)×(List bU)×(List aU)×Int×(List au)×(List aB)):=
 bif eqL a9.length a9.length then (iter (eU n a9) n ((1048576:Int),(0:Int),a0,a1,a2,a3,a4,a5,a6,a7,a8,a9)).bind fun (w12,w13,w14,w15,w16,w17,w18,w19,w20,w21,w22)=>bif eqL w22.length w22.length then some (w12,w13,w14,w15,w16,w17,w18,w19,w20,w21,w22)else none else none
def iT (n:Nat) (a0:aB) (a1:(List eu)) (a2:(List bf)) (a3:(List bT)) (a4:(List aX)) (a5:(List eD)) (a6:(List bU)) (a7:(List aU)) (a8:Int) (a9:(List au)) (a10:(List aB)):Option (Int×(List eu)×(List bf)×(List bT)×(List aX)×(List eD)×(List bU)×(List aU)×Int×(List au)×(List aB)):=
 (kP n (lX.mk a1 a2 a3 a4 a5 a6 a7 a8) a0).bind fun r1=>bif eqL a10.length a10.length then some (r1,a1,a2,a3,a4,a5,a6,a7,a8,a9,a10)else none
def iy (n:Nat) (a9:(List aB)):(Int×Int×(List eu)×(List bf)×(List bT)×(List aX)×(List eD)×(List bU)×(List aU)×Int×(List au)×(List aB))->Option ((Int×Int×(List eu)×(List bf)×(List bT)×(List aX)×(List eD)×(List bU)×(List aU)×Int×(List au)×(List aB)) ⊕ (Int×(List eu)×(List bf)×(List bT)×(List aX)×(List eD)×(List bU)×(List aU)×Int×(List au)×(List aB)))
 |(v1,v2,v3,v4,v5,v6,v7,v8,v9,v10,v11,v12)=>(bif (decide (v2 < (((a9.length:Nat):Int):Int)))then bif inb v2 a9.length then (at? v12 ((0:Nat)+v2:Int)).bind fun x1=>bif eqL v12.length v12.length then (iT n x1 v3 v4 v5 v6 v7 v8 v9 v10 v11 v12).bind fun r1=>bif eqL r1.2.2.2.2.2.2.2.2.2.2.length r1.2.2.2.2.2.2.2.2.2.2.length then some (.inl ((i64.wrap (v1+r1.1)),(i64.wrap (v2+1)),r1.2.1,r1.2.2.1,r1.2.2.2.1,r1.2.2.2.2.1,r1.2.2.2.2.2.1,r1.2.2.2.2.2.2.1,r1.2.2.2.2.2.2.2.1,r1.2.2.2.2.2.2.2.2.1,r1.2.2.2.2.2.2.2.2.2.1,r1.2.2.2.2.2.2.2.2.2.2))else none else none else none else bif eqL v12.length v12.length then some (.inr (v1,v3,v4,v5,v6,v7,v8,v9,v10,v11,v12))else none)
def nM (n:Nat) (a0:(List eu)) (a1:(List bf)) (a2:(List bT)) (a3:(List aX)) (a4:(List eD)) (a5:(List bU)) (a6:(List aU)) (a7:Int) (a8:(List au)) (a9:(List aB)):Option (Int×(List eu)×(List bf)×(List bT)×(List aX)×(List eD)×(List bU)×(List aU)×Int×(List au)×(List aB)):=
 bif eqL a9.length a9.length then (iter (iy n a9) n ((0:Int),(0:Int),a0,a1,a2,a3,a4,a5,a6,a7,a8,a9)).bind fun (w1,w2,w3,w4,w5,w6,w7,w8,w9,w10,w11)=>bif eqL w11.length w11.length then some (w1,w2,w3,w4,w5,w6,w7,w8,w9,w10,w11)else none else none
def gQ (n:Nat) (a0:(List eu)) (a1:(List bf)) (a2:(List bT)) (a3:(List aX)) (a4:(List eD)) (a5:(List bU)) (a6:(List aU)) (a7:Int) (a8:(List au)) (a9:(List aB)):Option (Int×(List eu)×(List bf)×(List bT)×(List aX)×(List eD)×(List bU)×(List aU)×Int×(List au)×(List aB)):=
 bif eqL a9.length a9.length then (nM n a0 a1 a2 a3 a4 a5 a6 a7 a8 a9).bind fun r1=>bif eqL r1.2.2.2.2.2.2.2.2.2.2.length r1.2.2.2.2.2.2.2.2.2.2.length then some (r1.1,r1.2.1,r1.2.2.1,r1.2.2.2.1,r1.2.2.2.2.1,r1.2.2.2.2.2.1,r1.2.2.2.2.2.2.1,r1.2.2.2.2.2.2.2.1,r1.2.2.2.2.2.2.2.2.1,r1.2.2.2.2.2.2.2.2.2.1,r1.2.2.2.2.2.2.2.2.2.2)else none else none
def oq (r2:(List aB)):(Int×(List eu)×(List bf)×(List bT)×(List aX)×(List eD)×(List bU)×(List aU)×Int×(List au)×(List aB))->Option ((Int×(List eu)×(List bf)×(List bT)×(List aX)×(List eD)×(List bU)×(List aU)×Int×(List au)×(List aB)) ⊕ ((List eu)×(List bf)×(List bT)×(List aX)×(List eD)×(List bU)×(List aU)×Int×(List au)×(List aB)))
 |(v10,v11,v12,v13,v14,v15,v16,v17,v18,v19,v20)=>(bif (decide (v10 < (((r2.length:Nat):Int):Int)))then (bif inb v10 r2.length then (at? r2 ((0:Nat)+v10:Int)).bind fun x1=>((bif (decide (v10 < (40:Int)))then (fB x1).bind fun r3=>some r3 else some false):Option (Bool)).bind fun v21=>(bif v21 then bif bC v20.length v20.length (sub ([x1]:List aB) 0 1).length 1 72 then jA (v20++(sub ([x1]:List aB) 0 1)) fun r4=>bif eqL r4.length r4.length then some (v11,v12,v13,v14,v15,v16,v17,v18,v19,r4)else none else none else bif eqL v20.length v20.length then some (v11,v12,v13,v14,v15,v16,v17,v18,v19,v20)else none)else none:Option ((List eu)×(List bf)×(List bT)×(List aX)×(List eD)×(List bU)×(List aU)×Int×(List au)×(List aB))).bind fun (v22,v23,v24,v25,v26,v27,v28,v29,v30,v31)=>bif eqL v31.length v31.length then some (.inl ((i64.wrap (v10+1)),v22,v23,v24,v25,v26,v27,v28,v29,v30,v31))else none else bif eqL v20.length v20.length then some (.inr (v11,v12,v13,v14,v15,v16,v17,v18,v19,v20))else none)
def DZ (n:Nat) (a0:lX) (a1:iO) (a2:GDrawing):Option (List bn):=
 ((xP n a1.area).bind fun r1=>(bif r1 then some (a0.defs,a0.tables,a0.zones,a0.rules,a0.caps,a0.views,a0.sun,a0.hours,a1.area)else some (a0.defs,a0.tables,a0.zones,a0.rules,a0.caps,a0.views,a0.sun,a0.hours,([]:(List au)))):Option ((List eu)×(List bf)×(List bT)×(List aX)×(List eD)×(List bU)×(List aU)×Int×(List au))).bind fun (v1,v2,v3,v4,v5,v6,v7,v8,v9)=>(oM n a2 0 (a2.phases.length:Int)).bind fun r2=>bif eqL 0 ([]:List aB).length then (iter (oq r2) n ((0:Int),v1,v2,v3,v4,v5,v6,v7,v8,v9,([]:List aB))).bind fun (w1,w2,w3,w4,w5,w6,w7,w8,w9,w10)=>bif eqL w10.length w10.length then (jM n w1 w2 w3 w4 w5 w6 w7 w8 w9 w10).bind fun r5=>bif bC 0 0 (sub ([(bn.mk (⟨#[97,114,101,97]⟩) r5.1)]:List bn) 0 1).length 1 24 then jA ((sub ([(bn.mk (⟨#[97,114,101,97]⟩) r5.1)]:List bn) 0 1)) fun r6=>bif eqL r5.2.2.2.2.2.2.2.2.2.2.length r5.2.2.2.2.2.2.2.2.2.2.length then (fI n r5.2.1 r5.2.2.1 r5.2.2.2.1 r5.2.2.2.2.1 r5.2.2.2.2.2.1 r5.2.2.2.2.2.2.1 r5.2.2.2.2.2.2.2.1 r5.2.2.2.2.2.2.2.2.1 r5.2.2.2.2.2.2.2.2.2.1 r5.2.2.2.2.2.2.2.2.2.2).bind fun r7=>bif bC r6.length r6.length (sub ([(bn.mk (⟨#[99,111,118,101,114]⟩) r7.1)]:List bn) 0 1).length 1 24 then jA (r6++(sub ([(bn.mk (⟨#[99,111,118,101,114]⟩) r7.1)]:List bn) 0 1)) fun r8=>bif eqL r7.2.2.2.2.2.2.2.2.2.2.length r7.2.2.2.2.2.2.2.2.2.2.length then (iW n r7.2.1 r7.2.2.1 r7.2.2.2.1 r7.2.2.2.2.1 r7.2.2.2.2.2.1 r7.2.2.2.2.2.2.1 r7.2.2.2.2.2.2.2.1 r7.2.2.2.2.2.2.2.2.1 r7.2.2.2.2.2.2.2.2.2.1 r7.2.2.2.2.2.2.2.2.2.2).bind fun r9=>bif bC r8.length r8.length (sub ([(bn.mk (⟨#[102,108,111,111,114]⟩) r9.1)]:List bn) 0 1).length 1 24 then jA (r8++(sub ([(bn.mk (⟨#[102,108,111,111,114]⟩) r9.1)]:List bn) 0 1)) fun r10=>bif eqL r9.2.2.2.2.2.2.2.2.2.2.length r9.2.2.2.2.2.2.2.2.2.2.length then (ic n r9.2.1 r9.2.2.1 r9.2.2.2.1 r9.2.2.2.2.1 r9.2.2.2.2.2.1 r9.2.2.2.2.2.2.1 r9.2.2.2.2.2.2.2.1 r9.2.2.2.2.2.2.2.2.1 r9.2.2.2.2.2.2.2.2.2.1 r9.2.2.2.2.2.2.2.2.2.2).bind fun r11=>bif bC r10.length r10.length (sub ([(bn.mk (⟨#[102,108,111,111,114,115]⟩) r11.1)]:List bn) 0 1).length 1 24 then jA (r10++(sub ([(bn.mk (⟨#[102,108,111,111,114,115]⟩) r11.1)]:List bn) 0 1)) fun r12=>bif eqL r11.2.2.2.2.2.2.2.2.2.2.length r11.2.2.2.2.2.2.2.2.2.2.length then (ig n r11.2.1 r11.2.2.1 r11.2.2.2.1 r11.2.2.2.2.1 r11.2.2.2.2.2.1 r11.2.2.2.2.2.2.1 r11.2.2.2.2.2.2.2.1 r11.2.2.2.2.2.2.2.2.1 r11.2.2.2.2.2.2.2.2.2.1 r11.2.2.2.2.2.2.2.2.2.2).bind fun r13=>bif bC r12.length r12.length (sub ([(bn.mk (⟨#[104,101,105,103,104,116]⟩) r13.1)]:List bn) 0 1).length 1 24 then jA (r12++(sub ([(bn.mk (⟨#[104,101,105,103,104,116]⟩) r13.1)]:List bn) 0 1)) fun r14=>bif eqL r13.2.2.2.2.2.2.2.2.2.2.length r13.2.2.2.2.2.2.2.2.2.2.length then (iX n r13.2.1 r13.2.2.1 r13.2.2.2.1 r13.2.2.2.2.1 r13.2.2.2.2.2.1 r13.2.2.2.2.2.2.1 r13.2.2.2.2.2.2.2.1 r13.2.2.2.2.2.2.2.2.1 r13.2.2.2.2.2.2.2.2.2.1 r13.2.2.2.2.2.2.2.2.2.2).bind fun r15=>bif bC r14.length r14.length (sub ([(bn.mk (⟨#[104,111,109,101,115]⟩) r15.1)]:List bn) 0 1).length 1 24 then jA (r14++(sub ([(bn.mk (⟨#[104,111,109,101,115]⟩) r15.1)]:List bn) 0 1)) fun r16=>bif eqL r15.2.2.2.2.2.2.2.2.2.2.length r15.2.2.2.2.2.2.2.2.2.2.length then (fI n r15.2.1 r15.2.2.1 r15.2.2.2.1 r15.2.2.2.2.1 r15.2.2.2.2.2.1 r15.2.2.2.2.2.2.1 r15.2.2.2.2.2.2.2.1 r15.2.2.2.2.2.2.2.2.1 r15.2.2.2.2.2.2.2.2.2.1 r15.2.2.2.2.2.2.2.2.2.2).bind fun r17=>bif bC r16.length r16.length (sub ([(bn.mk (⟨#[114,117,110,111,102,102]⟩) r17.1)]:List bn) 0 1).length 1 24 then jA (r16++(sub ([(bn.mk (⟨#[114,117,110,111,102,102]⟩) r17.1)]:List bn) 0 1)) fun r18=>bif eqL r17.2.2.2.2.2.2.2.2.2.2.length r17.2.2.2.2.2.2.2.2.2.2.length then (gP n r17.2.1 r17.2.2.1 r17.2.2.2.1 r17.2.2.2.2.1 r17.2.2.2.2.2.1 r17.2.2.2.2.2.2.1 r17.2.2.2.2.2.2.2.1 r17.2.2.2.2.2.2.2.2.1 r17.2.2.2.2.2.2.2.2.2.1 r17.2.2.2.2.2.2.2.2.2.2).bind fun r19=>bif bC r18.length r18.length (sub ([(bn.mk (⟨#[115,101,116,98,97,99,107]⟩) r19.1)]:List bn) 0 1).length 1 24 then jA (r18++(sub ([(bn.mk (⟨#[115,101,116,98,97,99,107]⟩) r19.1)]:List bn) 0 1)) fun r20=>bif eqL r19.2.2.2.2.2.2.2.2.2.2.length r19.2.2.2.2.2.2.2.2.2.2.length then (gQ n r19.2.1 r19.2.2.1 r19.2.2.2.1 r19.2.2.2.2.1 r19.2.2.2.2.2.1 r19.2.2.2.2.2.2.1 r19.2.2.2.2.2.2.2.1 r19.2.2.2.2.2.2.2.2.1 r19.2.2.2.2.2.2.2.2.2.1 r19.2.2.2.2.2.2.2.2.2.2).bind fun r21=>bif bC r20.length r20.length (sub ([(bn.mk (⟨#[116,114,97,102,102,105,99]⟩) r21.1)]:List bn) 0 1).length 1 24 then jA (r20++(sub ([(bn.mk (⟨#[116,114,97,102,102,105,99]⟩) r21.1)]:List bn) 0 1)) fun r22=>bif eqL (sub r22 0 r22.length).length r22.length then some (sub r22 0 r22.length)else none else none else none else none else none else none else none else none else none else none else none else none else none else none else none else none else none else none else none else none
end
end Go.Proofs
