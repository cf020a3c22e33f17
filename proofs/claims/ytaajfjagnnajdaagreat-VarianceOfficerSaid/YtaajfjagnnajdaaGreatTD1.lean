/-
  Printed by wip/gen: what functions of the program compute.
-/
import Derived.Test.YtaajfjagnnajdaaGreatTBase
open Go.IntKind (i64)
namespace Go.Proofs
open Go.Gb Go.RowKit
noncomputable section
def KM:Option aV:=
 bif eqL (sub ([(kr.mk 0 1),(kr.mk 1 2)]:List kr) 0 2).length 2 then some (aV.mk 3 (sub ([(kr.mk 0 1),(kr.mk 1 2)]:List kr) 0 2))else none
def oq (a0:aV):Int->Option (Int ⊕ (Unit ⊕ Bool))
 |v2=>(bif (decide (v2 < ((a0.pairs.length:Int):Int)))then (at? a0.pairs v2).bind fun x1=>((bif (decide ((min x1.a0 x1.a1) < (0:Int)))then some true else some (decide ((max x1.a0 x1.a1)>=(a0.values:Int)))):Option (Bool)).bind fun v3=>(bif v3 then (some false).map fun a=> .inr (.inr a)else some (.inl (i64.wrap (v2+1))))else some (.inr (.inl ())))
def p8 (n:Nat) (a0:aV):Option Bool:=
 ((bif (decide (a0.values < (1:Int)))then some true else (bif (decide (a0.values>(12:Int)))then some true else some (decide ((a0.pairs.length:Int)>(144:Int))))):Option (Bool)).bind fun v1=>(bif v1 then some false else fH (iter (oq a0) n (0:Int)) fun ()=>some true)
def ou (a0:aV):(Int×(List Bool))->Option ((Int×(List Bool)) ⊕ (List Bool))
 |(v1,v2)=>(bif (decide (v1 < ((a0.pairs.length:Int):Int)))then (at? a0.pairs v1).bind fun x1=>bif inb x1.a0 12 then bif inb x1.a1 12 then bif decide ((0:Int)<=x1.a1)&&fP ((0+(x1.a0:Int).toNat*12)+(x1.a1:Int).toNat) 1 v2.length then some (.inl ((i64.wrap (v1+1)),(List.set v2 ((0+(x1.a0:Int).toNat*12)+(x1.a1:Int).toNat) true)))else none else none else none else some (.inr v2))
def p9 (n:Nat) (a0:aV):Option bI:=
 (iter (ou a0) n ((0:Int),(List.replicate 144 false))).bind fun w1=>(bC (sub w1 0 144)).bind fun x2=>bif eqL x2.l.length 144&&fP 0 x2.l.length (List.replicate 144 false).length then (bC (sub (jZ (List.replicate 144 false) 0 x2.l) 0 144)).bind fun z1=>some z1 else none
def ow (v2:(List Bool)) (x3:bI) (v3:Int) (v5:Int):(Int×(List Bool))->Option ((Int×(List Bool)) ⊕ (List Bool))
 |(v7,v8)=>(bif (decide (v7 < (12:Int)))then (bif inb v3 12 then bif inb v7 12 then (atO v8 (0+(v3:Int).toNat*12) v7).bind fun x4=>(bif x4 then bif inb v3 12 then bif inb v7 12 then bif decide ((0:Int)<=v7)&&fP ((0+(v3:Int).toNat*12)+(v7:Int).toNat) 1 v8.length then some (List.set v8 ((0+(v3:Int).toNat*12)+(v7:Int).toNat) true)else none else none else none else bif inb v3 12 then bif inb v5 12 then (atO (jZ v2 0 x3.l) (0+(v3:Int).toNat*12) v5).bind fun x5=>(bif x5 then bif inb v5 12 then bif inb v7 12 then (atO (jZ v2 0 x3.l) (0+(v5:Int).toNat*12) v7).bind fun x6=>bif inb v3 12 then bif inb v7 12 then bif decide ((0:Int)<=v7)&&fP ((0+(v3:Int).toNat*12)+(v7:Int).toNat) 1 v8.length then some (List.set v8 ((0+(v3:Int).toNat*12)+(v7:Int).toNat) x6)else none else none else none else none else none else bif inb v3 12 then bif inb v7 12 then bif decide ((0:Int)<=v7)&&fP ((0+(v3:Int).toNat*12)+(v7:Int).toNat) 1 v8.length then some (List.set v8 ((0+(v3:Int).toNat*12)+(v7:Int).toNat) false)else none else none else none)else none else none)else none else none:Option ((List Bool))).bind fun v9=>some (.inl ((i64.wrap (v7+1)),v9))else some (.inr v8))
def oz (n:Nat) (v2:(List Bool)) (x3:bI) (v3:Int):(Int×(List Bool))->Option ((Int×(List Bool)) ⊕ (List Bool))
 |(v5,v6)=>(bif (decide (v5 < (12:Int)))then (iter (ow v2 x3 v3 v5) n ((0:Int),v6)).bind fun w1=>some (.inl ((i64.wrap (v5+1)),w1))else some (.inr v6))
def oC (n:Nat) (v2:(List Bool)) (x3:bI):(Int×(List Bool))->Option ((Int×(List Bool)) ⊕ (List Bool))
 |(v3,v4)=>(bif (decide (v3 < (12:Int)))then (iter (oz n v2 x3 v3) n ((0:Int),v4)).bind fun w2=>some (.inl ((i64.wrap (v3+1)),w2))else some (.inr v4))
def uR (n:Nat):((List Bool)×(List Bool))->Option (((List Bool)×(List Bool)) ⊕ (List Bool))
 |(v1,v2)=>(bC (sub v2 0 144)).bind fun x1=>(bC (sub v1 0 144)).bind fun x2=>(bif (!(V7 x1.l x2.l))then (bC (sub v1 0 144)).bind fun x3=>bif eqL x3.l.length 144&&fP 0 x3.l.length v2.length then (iter (oC n v2 x3) n ((0:Int),v1)).bind fun w3=>(bC (sub (jZ v2 0 x3.l) 0 144)).bind fun x7=>bif eqL x7.l.length 144&&fP 0 x7.l.length (List.replicate 144 false).length then some (.inl (w3,(jZ (List.replicate 144 false) 0 x7.l)))else none else none else some (.inr v1))
def qa (n:Nat) (a0:bI):Option bI:=
 bif eqL (List.replicate 144 false).length 144&&fP 0 (List.replicate 144 false).length (List.replicate 144 false).length then (iter (uR n) n (a0.l,(jZ (List.replicate 144 false) 0 (List.replicate 144 false)))).bind fun w4=>(bC (sub w4 0 144)).bind fun x8=>bif eqL x8.l.length 144&&fP 0 x8.l.length (List.replicate 144 false).length then (bC (sub (jZ (List.replicate 144 false) 0 x8.l) 0 144)).bind fun z1=>some z1 else none else none
def l8 (r3:bI):Int->Option (Int ⊕ (Unit ⊕ (bI×Bool)))
 |v1=>(bif (decide (v1 < (12:Int)))then bif inb v1 12 then bif inb v1 12 then (atO (jZ (List.replicate 144 false) 0 r3.l) (0+(v1:Int).toNat*12) v1).bind fun x1=>(bif x1 then bif eqL (List.replicate 144 false).length 144&&fP 0 (List.replicate 144 false).length (List.replicate 144 false).length then ((bC (sub (jZ (List.replicate 144 false) 0 (List.replicate 144 false)) 0 144)).bind fun z2=>some (z2,false)).map fun a=> .inr (.inr a)else none else some (.inl (i64.wrap (v1+1))))else none else none else some (.inr (.inl ())))
def l9 (a0:aV):(Int×(List Bool))->Option ((Int×(List Bool)) ⊕ (List Bool))
 |(v2,v3)=>(bif (decide (v2 < (a0.values:Int)))then bif inb v2 12 then bif inb v2 12 then bif decide ((0:Int)<=v2)&&fP ((0+(v2:Int).toNat*12)+(v2:Int).toNat) 1 v3.length then some (.inl ((i64.wrap (v2+1)),(List.set v3 ((0+(v2:Int).toNat*12)+(v2:Int).toNat) true)))else none else none else none else some (.inr v3))
def nU (n:Nat) (a0:aV):Option (bI×Bool):=
 (p8 n a0).bind fun r1=>(bif (!r1)then bif eqL (List.replicate 144 false).length 144&&fP 0 (List.replicate 144 false).length (List.replicate 144 false).length then (bC (sub (jZ (List.replicate 144 false) 0 (List.replicate 144 false)) 0 144)).bind fun z1=>some (z1,false)else none else (p9 n a0).bind fun r2=>(qa n r2).bind fun r3=>bif eqL r3.l.length 144&&fP 0 r3.l.length (List.replicate 144 false).length then fH (iter (l8 r3) n (0:Int)) fun ()=>(iter (l9 a0) n ((0:Int),(jZ (List.replicate 144 false) 0 r3.l))).bind fun w1=>(bC (sub w1 0 144)).bind fun x2=>bif eqL x2.l.length 144&&fP 0 x2.l.length (List.replicate 144 false).length then (bC (sub (jZ (List.replicate 144 false) 0 x2.l) 0 144)).bind fun z3=>some (z3,true)else none else none)
def oD (n:Nat) (a0:(List aV)):Int->Option (Int ⊕ (Unit ⊕ Bool))
 |v1=>(bif (decide (v1 < ((a0.length:Int):Int)))then (at? a0 v1).bind fun x1=>(nU n x1).bind fun r1=>bif eqL r1.1.l.length 144&&fP 0 r1.1.l.length (List.replicate 144 false).length then (bif (!r1.2)then (some false).map fun a=> .inr (.inr a)else some (.inl (i64.wrap (v1+1))))else none else some (.inr (.inl ())))
def vR (n:Nat) (a0:(List aV)):Option Bool:=
 fH (iter (oD n a0) n (0:Int)) fun ()=>some (decide ((a0.length:Int)<=(12:Int)))
def Aw (a0:(List au)):Option (List au):=
 (bif a0.isEmpty then (both (some ([]:(List au))) (bif bG ([]:List au).length 0 a0.length a0.length 32 then jO (([]:List au)++a0) fun r1=>bif eqL (sub r1 0 r1.length).length r1.length then some (sub r1 0 r1.length)else none else none))else bif bG ([]:List au).length 0 a0.length a0.length 32 then jO (([]:List au)++a0) fun r2=>bif eqL (sub r2 0 r2.length).length r2.length then some (sub r2 0 r2.length)else none else none)
def ku (a0:(List Int)):Option (List Int):=
 (bif a0.isEmpty then (both (some ([]:(List Int))) (bif bG ([]:List Int).length 0 a0.length a0.length 8 then jO (([]:List Int)++a0) fun r1=>bif eqL (sub r1 0 r1.length).length r1.length then some (sub r1 0 r1.length)else none else none))else bif bG ([]:List Int).length 0 a0.length a0.length 8 then jO (([]:List Int)++a0) fun r2=>bif eqL (sub r2 0 r2.length).length r2.length then some (sub r2 0 r2.length)else none else none)
def KN (a0:iI):Option iI:=
 (Aw a0.area).bind fun r1=>(ku a0.from_).bind fun r2=>bif eqL (sub r1 0 r1.length).length r1.length then bif eqL (sub r2 0 r2.length).length r2.length then some (iI.mk a0.id a0.owner (sub r1 0 r1.length) (sub r2 0 r2.length))else none else none
def DR (a0:(List iI)) (a1:Int):Int->Option (Int ⊕ (Unit ⊕ (iI×Bool)))
 |v1=>(bif (decide (v1 < ((a0.length:Int):Int)))then (at? a0 v1).bind fun x1=>(bif (x1.id==(a1:Int))then (KN x1).bind fun r1=>(some (r1,true)).map fun a=> .inr (.inr a)else some (.inl (i64.wrap (v1+1))))else some (.inr (.inl ())))
def Hu (n:Nat) (a0:(List iI)) (a1:Int):Option (iI×Bool):=
 fH (iter (DR a0 a1) n (0:Int)) fun ()=>some ((iI.mk 0 0 ([]) ([])),false)
def bits_Len64 (a0:Int):Option Int:=
 ((bif (decide (a0>=(4294967296:Int)))then bif (decide (0<=32)&&decide (32<=IntKind.u64.bits))then some ((a0/2 ^ (32:Int).toNat),(32:Int))else none else some (a0,(0:Int))):Option (Int×Int)).bind fun (v1,v2)=>((bif (decide (v1>=(65536:Int)))then bif (decide (0<=16)&&decide (16<=IntKind.u64.bits))then some ((v1/2 ^ (16:Int).toNat),(i64.wrap (v2+16)))else none else some (v1,v2)):Option (Int×Int)).bind fun (v3,v4)=>((bif (decide (v3>=(256:Int)))then bif (decide (0<=8)&&decide (8<=IntKind.u64.bits))then some ((v3/2 ^ (8:Int).toNat),(i64.wrap (v4+8)))else none else some (v3,v4)):Option (Int×Int)).bind fun (v5,v6)=>(Uv (⟨#[0,1,2,2,3,3,3,3,4,4,4,4,4,4,4,4,5,5,5,5,5,5,5,5,5,5,5,5,5,5,5,5,6,6,6,6,6,6,6,6,6,6,6,6,6,6,6,6,6,6,6,6,6,6,6,6,6,6,6,6,6,6,6,6,7,7,7,7,7,7,7,7,7,7,7,7,7,7,7,7,7,7,7,7,7,7,7,7,7,7,7,7,7,7,7,7,7,7,7,7,7,7,7,7,7,7,7,7,7,7,7,7,7,7,7,7,7,7,7,7,7,7,7,7,7,7,7,7,8,8,8,8,8,8,8,8,8,8,8,8,8,8,8,8,8,8,8,8,8,8,8,8,8,8,8,8,8,8,8,8,8,8,8,8,8,8,8,8,8,8,8,8,8,8,8,8,8,8,8,8,8,8,8,8,8,8,8,8,8,8,8,8,8,8,8,8,8,8,8,8,8,8,8,8,8,8,8,8,8,8,8,8,8,8,8,8,8,8,8,8,8,8,8,8,8,8,8,8,8,8,8,8,8,8,8,8,8,8,8,8,8,8,8,8,8,8,8,8,8,8,8,8,8,8,8,8]⟩) (IntKind.u8.wrap v5)).bind fun x1=>some (i64.wrap (v6+(i64.wrap x1)))
def bits_Len (a0:Int):Option Int:=
 (bits_Len64 a0).bind fun r1=>some r1
def cmp_isNaN_string (a0:ByteArray):Option Bool:=
 some (!(ByteArray.toList a0==ByteArray.toList a0))
def cmp_Less_string (a0:ByteArray) (a1:ByteArray):Option Bool:=
 (cmp_isNaN_string a0).bind fun r1=>(bif r1 then (cmp_isNaN_string a1).bind fun r2=>(bif (!r2)then some true else some (zO a0 a1))else some (zO a0 a1))
def rT (n:Nat) (a0:(List ByteArray)) (a1:Int) (a2:Int):Option (List ByteArray):=
 iH cmp_Less_string (fun r=>r) n a0 a1 a2
def yN (n:Nat) (a0:(List ByteArray)) (a1:Int) (a2:Int) (a3:Int):Option (List ByteArray):=
 l7 cmp_Less_string (fun r=>r) n a0 a1 a2 a3
def yO (n:Nat) (a0:(List ByteArray)) (a1:Int) (a2:Int):Option (List ByteArray):=
 rQ cmp_Less_string (fun r=>r) n a0 a1 a2
def aK (a0:Int):Option Int:=
 (bits_Len (IntKind.u64.wrap a0)).bind fun r1=>bif (decide (0<=r1)&&decide (r1<=IntKind.u64.bits))then some (IntKind.u64.wrap (1*2 ^ (r1:Int).toNat))else none
def aL (a0:Int):Option (Int×Int):=
 bif (decide (0<=13)&&decide (13<=IntKind.u64.bits))then bif (decide (0<=7)&&decide (7<=IntKind.u64.bits))then bif (decide (0<=17)&&decide (17<=IntKind.u64.bits))then some ((bits .xor .u64 (bits .xor .u64 (bits .xor .u64 a0 (IntKind.u64.wrap (a0*2 ^ (13:Int).toNat))) ((bits .xor .u64 a0 (IntKind.u64.wrap (a0*2 ^ (13:Int).toNat)))/2 ^ (7:Int).toNat)) (IntKind.u64.wrap ((bits .xor .u64 (bits .xor .u64 a0 (IntKind.u64.wrap (a0*2 ^ (13:Int).toNat))) ((bits .xor .u64 a0 (IntKind.u64.wrap (a0*2 ^ (13:Int).toNat)))/2 ^ (7:Int).toNat))*2 ^ (17:Int).toNat))),(bits .xor .u64 (bits .xor .u64 (bits .xor .u64 a0 (IntKind.u64.wrap (a0*2 ^ (13:Int).toNat))) ((bits .xor .u64 a0 (IntKind.u64.wrap (a0*2 ^ (13:Int).toNat)))/2 ^ (7:Int).toNat)) (IntKind.u64.wrap ((bits .xor .u64 (bits .xor .u64 a0 (IntKind.u64.wrap (a0*2 ^ (13:Int).toNat))) ((bits .xor .u64 a0 (IntKind.u64.wrap (a0*2 ^ (13:Int).toNat)))/2 ^ (7:Int).toNat))*2 ^ (17:Int).toNat))))else none else none else none
def rU (n:Nat) (a0:(List ByteArray)) (a1:Int) (a2:Int):Option (List ByteArray):=
 gB aK aL n a0 a1 a2
def BU (a0:(List ByteArray)) (a1:Int) (a2:Int) (a3:Int):Option (Int×Int×Int):=
 vQ cmp_Less_string (fun r=>r) a0 a1 a2 a3
def BV (a0:(List ByteArray)) (a1:Int) (a2:Int) (a3:Int) (a4:Int):Option (Int×Int):=
 sW cmp_Less_string (fun r=>r) a0 a1 a2 a3 a4
def qL (a0:(List ByteArray)) (a1:Int) (a2:Int):Option (Int×Int):=
 bU cmp_Less_string (fun r=>r) a0 a1 a2
def uS (a0:(List ByteArray)) (a1:Int) (a2:Int):Option (Int×Int):=
 j6 cmp_Less_string (fun r=>r) a0 a1 a2
def tZ (n:Nat) (a0:(List ByteArray)) (a1:Int) (a2:Int):Option (List ByteArray):=
 iA n a0 a1 a2
def mg (n:Nat) (a0:(List ByteArray)) (a1:Int) (a2:Int):Option (Bool×(List ByteArray)):=
 cK cmp_Less_string (fun r=>r) n a0 a1 a2
def qM (n:Nat) (a0:(List ByteArray)) (a1:Int) (a2:Int) (a3:Int):Option (Int×(List ByteArray)):=
 fD cmp_Less_string (fun r=>r) n a0 a1 a2 a3
def xI (n:Nat) (a0:(List ByteArray)) (a1:Int) (a2:Int) (a3:Int):Option (Int×Bool×(List ByteArray)):=
 lQ cmp_Less_string (fun r=>r) n a0 a1 a2 a3
def iJ (n:Nat) (rc:((List ByteArray))->(Int)->(Int)->(Int)->Option (List ByteArray)) (a0:(List ByteArray)) (a1:Int) (a2:Int) (a3:Int):Option (List ByteArray):=
 fT cmp_Less_string (fun r=>r) aK aL n rc a0 a1 a2 a3
def gV (rc:((List ByteArray))->(Int)->(Int)->(Int)->Option (List ByteArray)):Sig xx:=⟨[.mut .str,.d (.int .i64),.d (.int .i64),.d (.int .i64)],[.mu .str],fun a=>rc a.1 a.2.1 a.2.2.1 a.2.2.2.1,none⟩
def dG (n:Nat):Nat->((List ByteArray))->(Int)->(Int)->(Int)->Option (List ByteArray)
 | 0=>fun _ _ _ _=>none
 |m+1=>iJ n (dG n m)
def jB (n:Nat) (a0:(List ByteArray)) (a1:Int) (a2:Int) (a3:Int):Option (List ByteArray):=dG n n a0 a1 a2 a3
def qb (n:Nat) (a0:(List ByteArray)):Option (List ByteArray):=
 (bits_Len (IntKind.u64.wrap ((a0.length:Nat):Int))).bind fun r1=>bif eqL a0.length a0.length then (jB n a0 0 ((a0.length:Nat):Int) r1).bind fun r2=>some r2 else none
def Gv (a0:(List ByteArray)) (v1:Int):(Int×Int×(List ByteArray))->Option ((Int×Int×(List ByteArray)) ⊕ (Int×(List ByteArray)))
 |(v2,v3,v4)=>(bif (decide (v3 < ((((a0.length - (v1:Int).toNat):Nat):Int):Int)))then (bif inb v3 (a0.length - (v1:Int).toNat)then (at? v4 (((0+(v1:Int).toNat):Nat)+v3:Int)).bind fun x3=>bif inb (i64.wrap (v3 - 1)) (a0.length - (v1:Int).toNat)then (at? v4 (((0+(v1:Int).toNat):Nat)+(i64.wrap (v3 - 1)):Int)).bind fun x4=>(bif (!(ByteArray.toList x3==ByteArray.toList x4))then bif inb v3 (a0.length - (v1:Int).toNat)then (at? v4 (((0+(v1:Int).toNat):Nat)+v3:Int)).bind fun x5=>bif inb v2 a0.length then (at? v4 ((0:Nat)+v2:Int)).bind fun x6=>some ((i64.wrap (v2+1)),(v4.set ((0:Nat)+v2:Int).toNat x5))else none else none else some (v2,v4))else none else none:Option (Int×(List ByteArray))).bind fun (v5,v6)=>some (.inl (v5,(i64.wrap (v3+1)),v6))else some (.inr (v2,v4)))
def Gw (n:Nat) (a0:(List ByteArray)):Int->Option (Int ⊕ (Unit ⊕ (Unit×(List ByteArray))))
 |v1=>(bif (decide (v1 < (((a0.length:Nat):Int):Int)))then bif inb v1 a0.length then (at? a0 ((0:Nat)+v1:Int)).bind fun x1=>bif inb (i64.wrap (v1 - 1)) a0.length then (at? a0 ((0:Nat)+(i64.wrap (v1 - 1)):Int)).bind fun x2=>(bif (ByteArray.toList x1==ByteArray.toList x2)then bif uP v1 ((a0.length:Nat):Int) a0.length then (iter (Gv a0 v1) n (v1,(1:Int),a0)).bind fun (w1,w2)=>bif uP w1 ((a0.length:Nat):Int) a0.length then bif uP 0 w1 a0.length then (bif eqL ((w1:Int).toNat) ((w1:Int).toNat)then bif eqL (sub (w2.take (0+(w1:Int).toNat)) 0 ((w1:Int).toNat)).length ((w1:Int).toNat)then some ((),(sub (w2.take (0+(w1:Int).toNat)) 0 ((w1:Int).toNat)))else none else none).map fun a=> .inr (.inr a)else none else none else none else some (.inl (i64.wrap (v1+1))))else none else none else some (.inr (.inl ())))
def kZ (n:Nat) (a0:(List ByteArray)):Option (Unit×(List ByteArray)):=
 (bif (decide (((a0.length:Nat):Int) < (2:Int)))then bif eqL a0.length a0.length then bif eqL (sub a0 0 a0.length).length a0.length then some ((),(sub a0 0 a0.length))else none else none else fH (iter (Gw n a0) n (1:Int)) fun ()=>bif eqL a0.length a0.length then bif eqL (sub a0 0 a0.length).length a0.length then some ((),(sub a0 0 a0.length))else none else none)
def ny (a0:(List ByteArray)):Option (List ByteArray):=
 some a0
def lS (a0:(List ByteArray)):Option ((List ByteArray)×(List ByteArray)):=
 (acr a0).bind fun r1=>bif eqL r1.2.length r1.2.length then some (r1.1,r1.2)else none
def nC (n:Nat) (a0:(List ByteArray)):Option ((List ByteArray)×(List ByteArray)):=
 (lS a0).bind fun r1=>bif eqL r1.2.length r1.2.length then (qb n r1.2).bind fun r2=>bif eqL r1.2.length r2.length then some (r1.1,r2)else none else none
def jG (n:Nat) (a0:(List ByteArray)):Option Int:=
 (ny a0).bind fun r1=>(nC n r1).bind fun r2=>bif eqL r2.2.length r2.2.length then (kZ n r2.2).bind fun r3=>some ((r3.2.length:Nat):Int)else none
def qc (a0:au):Option Bool:=
 (bif (decide (0<=(a0.x0:Int)))then (bif (decide (a0.x0 < (a0.x1:Int)))then (bif (decide (a0.x1<=(1048576:Int)))then (bif (decide (0<=(a0.y0:Int)))then (bif (decide (a0.y0 < (a0.y1:Int)))then some (decide (a0.y1<=(1048576:Int)))else some false)else some false)else some false)else some false)else some false)
def KO (a0:Unit) (a1:Int):Option (List au):=
 (bif (decide (a1 < (0:Int)))then none else (bif (decide ((i64.wrap (a1 - (i64.wrap (0 - 0))))>(0:Int)))then bif I7 (i64.wrap (a1 - (i64.wrap (0 - 0)))) 32 then bif uP 0 0 ((i64.wrap (a1 - (i64.wrap (0 - 0)))).toNat)then bif eqL (sub (List.replicate (i64.wrap (a1 - (i64.wrap (0 - 0)))).toNat (au.mk 0 0 0 0)) 0 0).length 0 then some (sub (List.replicate (i64.wrap (a1 - (i64.wrap (0 - 0)))).toNat (au.mk 0 0 0 0)) 0 0)else none else none else none else some ([]:(List au))))
def KP (a0:(List (List au))):(Int×Int)->Option ((Int×Int) ⊕ Int)
 |(v1,v2)=>(bif (decide (v2 < ((a0.length:Int):Int)))then (at? a0 v2).bind fun x1=>(bif (decide ((i64.wrap (v1+(x1.length:Int))) < (0:Int)))then none else some (.inl ((i64.wrap (v1+(x1.length:Int))),(i64.wrap (v2+1)))))else some (.inr v1))
def KQ (a0:(List (List au))):(Int×(List au))->Option ((Int×(List au)) ⊕ (List au))
 |(v3,v4)=>(bif (decide (v3 < ((a0.length:Int):Int)))then (at? a0 v3).bind fun x2=>bif bG v4.length v4.length x2.length x2.length 32 then jO (v4++x2) fun r2=>bif eqL r2.length r2.length then some (.inl ((i64.wrap (v3+1)),r2))else none else none else bif eqL v4.length v4.length then some (.inr v4)else none)
def xJ (n:Nat) (a0:(List (List au))):Option (List au):=
 (iter (KP a0) n ((0:Int),(0:Int))).bind fun w1=>(KO () w1).bind fun r1=>bif eqL r1.length r1.length then (iter (KQ a0) n ((0:Int),r1)).bind fun w2=>bif eqL (sub w2 0 w2.length).length w2.length then some (sub w2 0 w2.length)else none else none
def cmp_isNaN_int (a0:Int):Option Bool:=
 some (a0 != (a0:Int))
def cmp_Less_int (a0:Int) (a1:Int):Option Bool:=
 (cmp_isNaN_int a0).bind fun r1=>(bif r1 then (cmp_isNaN_int a1).bind fun r2=>(bif (!r2)then some true else some (decide (a0 < (a1:Int))))else some (decide (a0 < (a1:Int))))
def vS (n:Nat) (a0:(List Int)) (a1:Int) (a2:Int):Option (List Int):=
 iH cmp_Less_int (fun r=>r) n a0 a1 a2
def DT (n:Nat) (a0:(List Int)) (a1:Int) (a2:Int) (a3:Int):Option (List Int):=
 l7 cmp_Less_int (fun r=>r) n a0 a1 a2 a3
def DU (n:Nat) (a0:(List Int)) (a1:Int) (a2:Int):Option (List Int):=
 rQ cmp_Less_int (fun r=>r) n a0 a1 a2
def vT (n:Nat) (a0:(List Int)) (a1:Int) (a2:Int):Option (List Int):=
 gB aK aL n a0 a1 a2
def Gx (a0:(List Int)) (a1:Int) (a2:Int) (a3:Int):Option (Int×Int×Int):=
 vQ cmp_Less_int (fun r=>r) a0 a1 a2 a3
def Gy (a0:(List Int)) (a1:Int) (a2:Int) (a3:Int) (a4:Int):Option (Int×Int):=
 sW cmp_Less_int (fun r=>r) a0 a1 a2 a3 a4
def uT (a0:(List Int)) (a1:Int) (a2:Int):Option (Int×Int):=
 bU cmp_Less_int (fun r=>r) a0 a1 a2
def yP (a0:(List Int)) (a1:Int) (a2:Int):Option (Int×Int):=
 j6 cmp_Less_int (fun r=>r) a0 a1 a2
def xK (n:Nat) (a0:(List Int)) (a1:Int) (a2:Int):Option (List Int):=
 iA n a0 a1 a2
def oO (n:Nat) (a0:(List Int)) (a1:Int) (a2:Int):Option (Bool×(List Int)):=
 cK cmp_Less_int (fun r=>r) n a0 a1 a2
def uU (n:Nat) (a0:(List Int)) (a1:Int) (a2:Int) (a3:Int):Option (Int×(List Int)):=
 fD cmp_Less_int (fun r=>r) n a0 a1 a2 a3
def BX (n:Nat) (a0:(List Int)) (a1:Int) (a2:Int) (a3:Int):Option (Int×Bool×(List Int)):=
 lQ cmp_Less_int (fun r=>r) n a0 a1 a2 a3
def jP (n:Nat) (rc:((List Int))->(Int)->(Int)->(Int)->Option (List Int)) (a0:(List Int)) (a1:Int) (a2:Int) (a3:Int):Option (List Int):=
 fT cmp_Less_int (fun r=>r) aK aL n rc a0 a1 a2 a3
def jC (rc:((List Int))->(Int)->(Int)->(Int)->Option (List Int)):Sig xx:=⟨[.mut (.int .i64),.d (.int .i64),.d (.int .i64),.d (.int .i64)],[.mu (.int .i64)],fun a=>rc a.1 a.2.1 a.2.2.1 a.2.2.2.1,none⟩
def dX (n:Nat):Nat->((List Int))->(Int)->(Int)->(Int)->Option (List Int)
 | 0=>fun _ _ _ _=>none
 |m+1=>jP n (dX n m)
def kV (n:Nat) (a0:(List Int)) (a1:Int) (a2:Int) (a3:Int):Option (List Int):=dX n n a0 a1 a2 a3
def o9 (n:Nat) (a0:(List Int)):Option (List Int):=
 (bits_Len (IntKind.u64.wrap ((a0.length:Nat):Int))).bind fun r1=>bif eqL a0.length a0.length then (kV n a0 0 ((a0.length:Nat):Int) r1).bind fun r2=>some r2 else none
def KR (a0:(List Int)) (v1:Int):(Int×Int×(List Int))->Option ((Int×Int×(List Int)) ⊕ (Int×(List Int)))
 |(v2,v3,v4)=>(bif (decide (v3 < ((((a0.length - (v1:Int).toNat):Nat):Int):Int)))then (bif inb v3 (a0.length - (v1:Int).toNat)then (at? v4 (((0+(v1:Int).toNat):Nat)+v3:Int)).bind fun x3=>bif inb (i64.wrap (v3 - 1)) (a0.length - (v1:Int).toNat)then (at? v4 (((0+(v1:Int).toNat):Nat)+(i64.wrap (v3 - 1)):Int)).bind fun x4=>(bif (x3 != (x4:Int))then bif inb v3 (a0.length - (v1:Int).toNat)then (at? v4 (((0+(v1:Int).toNat):Nat)+v3:Int)).bind fun x5=>bif inb v2 a0.length then (at? v4 ((0:Nat)+v2:Int)).bind fun x6=>some ((i64.wrap (v2+1)),(v4.set ((0:Nat)+v2:Int).toNat x5))else none else none else some (v2,v4))else none else none:Option (Int×(List Int))).bind fun (v5,v6)=>some (.inl (v5,(i64.wrap (v3+1)),v6))else some (.inr (v2,v4)))
def KS (n:Nat) (a0:(List Int)):Int->Option (Int ⊕ (Unit ⊕ (Unit×(List Int))))
 |v1=>(bif (decide (v1 < (((a0.length:Nat):Int):Int)))then bif inb v1 a0.length then (at? a0 ((0:Nat)+v1:Int)).bind fun x1=>bif inb (i64.wrap (v1 - 1)) a0.length then (at? a0 ((0:Nat)+(i64.wrap (v1 - 1)):Int)).bind fun x2=>(bif (x1==(x2:Int))then bif uP v1 ((a0.length:Nat):Int) a0.length then (iter (KR a0 v1) n (v1,(1:Int),a0)).bind fun (w1,w2)=>bif uP w1 ((a0.length:Nat):Int) a0.length then bif uP 0 w1 a0.length then (bif eqL ((w1:Int).toNat) ((w1:Int).toNat)then bif eqL (sub (w2.take (0+(w1:Int).toNat)) 0 ((w1:Int).toNat)).length ((w1:Int).toNat)then some ((),(sub (w2.take (0+(w1:Int).toNat)) 0 ((w1:Int).toNat)))else none else none).map fun a=> .inr (.inr a)else none else none else none else some (.inl (i64.wrap (v1+1))))else none else none else some (.inr (.inl ())))
def qd (n:Nat) (a0:(List Int)):Option (Unit×(List Int)):=
 (bif (decide (((a0.length:Nat):Int) < (2:Int)))then bif eqL a0.length a0.length then bif eqL (sub a0 0 a0.length).length a0.length then some ((),(sub a0 0 a0.length))else none else none else fH (iter (KS n a0) n (1:Int)) fun ()=>bif eqL a0.length a0.length then bif eqL (sub a0 0 a0.length).length a0.length then some ((),(sub a0 0 a0.length))else none else none)
def uV (n:Nat) (a0:(List aD)) (a1:Int) (a2:Int) (a3:(aD×aD×Unit)->Option Int):Option (List aD):=
 iH (fun x y=>a3 (x,y,())) (fun r=>decide (r < 0)) n a0 a1 a2
def BZ (n:Nat) (a0:(List aD)) (a1:Int) (a2:Int) (a3:Int) (a4:(aD×aD×Unit)->Option Int):Option (List aD):=
 l7 (fun x y=>a4 (x,y,())) (fun r=>decide (r < 0)) n a0 a1 a2 a3
def Ca (n:Nat) (a0:(List aD)) (a1:Int) (a2:Int) (a3:(aD×aD×Unit)->Option Int):Option (List aD):=
 rQ (fun x y=>a3 (x,y,())) (fun r=>decide (r < 0)) n a0 a1 a2
def uW (n:Nat) (a0:(List aD)) (a1:Int) (a2:Int) (a3:(aD×aD×Unit)->Option Int):Option (List aD):=
 gB aK aL n a0 a1 a2
def EP (a0:(List aD)) (a1:Int) (a2:Int) (a3:Int) (a4:(aD×aD×Unit)->Option Int):Option (Int×Int×Int):=
 vQ (fun x y=>a4 (x,y,())) (fun r=>decide (r < 0)) a0 a1 a2 a3
def EQ (a0:(List aD)) (a1:Int) (a2:Int) (a3:Int) (a4:Int) (a5:(aD×aD×Unit)->Option Int):Option (Int×Int):=
 sW (fun x y=>a5 (x,y,())) (fun r=>decide (r < 0)) a0 a1 a2 a3 a4
def uf (a0:(List aD)) (a1:Int) (a2:Int) (a3:(aD×aD×Unit)->Option Int):Option (Int×Int):=
 bU (fun x y=>a3 (x,y,())) (fun r=>decide (r < 0)) a0 a1 a2
def xL (a0:(List aD)) (a1:Int) (a2:Int) (a3:(aD×aD×Unit)->Option Int):Option (Int×Int):=
 j6 (fun x y=>a3 (x,y,())) (fun r=>decide (r < 0)) a0 a1 a2
def vU (n:Nat) (a0:(List aD)) (a1:Int) (a2:Int) (a3:(aD×aD×Unit)->Option Int):Option (List aD):=
 iA n a0 a1 a2
def nV (n:Nat) (a0:(List aD)) (a1:Int) (a2:Int) (a3:(aD×aD×Unit)->Option Int):Option (Bool×(List aD)):=
 cK (fun x y=>a3 (x,y,())) (fun r=>decide (r < 0)) n a0 a1 a2
def ug (n:Nat) (a0:(List aD)) (a1:Int) (a2:Int) (a3:Int) (a4:(aD×aD×Unit)->Option Int):Option (Int×(List aD)):=
 fD (fun x y=>a4 (x,y,())) (fun r=>decide (r < 0)) n a0 a1 a2 a3
def Ay (n:Nat) (a0:(List aD)) (a1:Int) (a2:Int) (a3:Int) (a4:(aD×aD×Unit)->Option Int):Option (Int×Bool×(List aD)):=
 lQ (fun x y=>a4 (x,y,())) (fun r=>decide (r < 0)) n a0 a1 a2 a3
def fV (n:Nat) (rc:((List aD))->(Int)->(Int)->(Int)->((aD×aD×Unit)->Option Int)->Option (List aD)) (a0:(List aD)) (a1:Int) (a2:Int) (a3:Int) (a4:(aD×aD×Unit)->Option Int):Option (List aD):=
 fT (fun x y=>a4 (x,y,())) (fun r=>decide (r < 0)) aK aL n (fun l a b d=>rc l a b d a4) a0 a1 a2 a3
def iU (rc:((List aD))->(Int)->(Int)->(Int)->((aD×aD×Unit)->Option Int)->Option (List aD)):Sig xx:=⟨[.mut (.st SI.span),.d (.int .i64),.d (.int .i64),.d (.int .i64),.clo [(.st SI.span),(.st SI.span)] (.int .i64)],[.mu (.st SI.span)],fun a=>rc a.1 a.2.1 a.2.2.1 a.2.2.2.1 a.2.2.2.2.1,none⟩
def bY (n:Nat):Nat->((List aD))->(Int)->(Int)->(Int)->((aD×aD×Unit)->Option Int)->Option (List aD)
 | 0=>fun _ _ _ _ _=>none
 |m+1=>fV n (bY n m)
def kz (n:Nat) (a0:(List aD)) (a1:Int) (a2:Int) (a3:Int) (a4:(aD×aD×Unit)->Option Int):Option (List aD):=bY n n a0 a1 a2 a3 a4
def mh (n:Nat) (a0:(List aD)) (a1:(aD×aD×Unit)->Option Int):Option (List aD):=
 (bits_Len (IntKind.u64.wrap ((a0.length:Nat):Int))).bind fun r1=>bif eqL a0.length a0.length then (kz n a0 0 ((a0.length:Nat):Int) r1 a1).bind fun r2=>some r2 else none
def cmp_Compare_int (a0:Int) (a1:Int):Option Int:=
 (cmp_isNaN_int a0).bind fun r1=>(cmp_isNaN_int a1).bind fun r2=>(bif r1 then (bif r2 then some (0:Int)else some ((-1):Int))else (bif r2 then some (1:Int)else (bif (decide (a0 < (a1:Int)))then some ((-1):Int)else (bif (decide (a0>(a1:Int)))then some (1:Int)else some (0:Int)))))
def vV (a0:aD) (a1:aD):Option Int:=
 (cmp_Compare_int a0.from_ a1.from_).bind fun r1=>some r1
def qf (a0:(List au)) (a1:Int):(Int×(List aD))->Option ((Int×(List aD)) ⊕ (List aD))
 |(v1,v2)=>(bif (decide (v1 < ((a0.length:Int):Int)))then ((at? a0 v1).bind fun x1=>((bif (decide (x1.x0<=(a1:Int)))then some (decide (a1 < (x1.x1:Int)))else some false):Option (Bool)).bind fun v3=>(bif v3 then bif bG v2.length v2.length (sub ([(aD.mk x1.y0 x1.y1)]:List aD) 0 1).length 1 16 then jO (v2++(sub ([(aD.mk x1.y0 x1.y1)]:List aD) 0 1)) fun r1=>bif eqL r1.length r1.length then some r1 else none else none else bif eqL v2.length v2.length then some v2 else none):Option ((List aD))).bind fun v4=>bif eqL v4.length v4.length then some (.inl ((i64.wrap (v1+1)),v4))else none else bif eqL v2.length v2.length then some (.inr v2)else none)
def qg (w1:(List aD)) (r2:(List aD)):(Int×(List aD))->Option ((Int×(List aD)) ⊕ (List aD))
 |(v5,v6)=>(bif (decide (v5 < (((w1.length:Nat):Int):Int)))then (bif inb v5 w1.length then (at? r2 ((0:Nat)+v5:Int)).bind fun x2=>((bif (decide (((v6.length:Nat):Int)>(0:Int)))then bif inb (i64.wrap (((v6.length:Nat):Int) - 1)) v6.length then (at? v6 ((0:Nat)+(i64.wrap (((v6.length:Nat):Int) - 1)):Int)).bind fun x3=>some (decide (x2.from_<=(x3.to:Int)))else none else some false):Option (Bool)).bind fun v7=>(bif v7 then bif inb (i64.wrap (((v6.length:Nat):Int) - 1)) v6.length then (at? v6 ((0:Nat)+(i64.wrap (((v6.length:Nat):Int) - 1)):Int)).bind fun x4=>bif inb (i64.wrap (((v6.length:Nat):Int) - 1)) v6.length then (at? v6 ((0:Nat)+(i64.wrap (((v6.length:Nat):Int) - 1)):Int)).bind fun x5=>bif eqL v6.length (v6.set ((0:Nat)+(i64.wrap (((v6.length:Nat):Int) - 1)):Int).toNat (aD.mk x5.from_ (max x4.to x2.to))).length then some (v6.set ((0:Nat)+(i64.wrap (((v6.length:Nat):Int) - 1)):Int).toNat (aD.mk x5.from_ (max x4.to x2.to)))else none else none else none else bif bG v6.length v6.length (sub ([x2]:List aD) 0 1).length 1 16 then jO (v6++(sub ([x2]:List aD) 0 1)) fun r3=>bif eqL r3.length r3.length then some r3 else none else none)else none:Option ((List aD))).bind fun v8=>bif eqL v8.length v8.length then some (.inl ((i64.wrap (v5+1)),v8))else none else bif eqL v6.length v6.length then some (.inr v6)else none)
def Hw (n:Nat) (a0:(List au)) (a1:Int):Option (List aD):=
 bif eqL 0 ([]:List aD).length then (iter (qf a0 a1) n ((0:Int),([]:List aD))).bind fun w1=>bif eqL w1.length w1.length then (mh n w1 (fun (y1:aD×aD×Unit)=>vV y1.1 y1.2.1)).bind fun r2=>bif eqL 0 ([]:List aD).length then (iter (qg w1 r2) n ((0:Int),([]:List aD))).bind fun w2=>bif eqL (sub w2 0 w2.length).length w2.length then some (sub w2 0 w2.length)else none else none else none else none
def qh (r1:(List au)):(Int×(List Int))->Option ((Int×(List Int)) ⊕ (List Int))
 |(v1,v2)=>(bif (decide (v1 < (((r1.length:Nat):Int):Int)))then bif inb v1 r1.length then (at? r1 ((0:Nat)+v1:Int)).bind fun x1=>bif bG v2.length v2.length (sub ([x1.x0,x1.x1]:List Int) 0 2).length 2 8 then jO (v2++(sub ([x1.x0,x1.x1]:List Int) 0 2)) fun r2=>bif eqL r2.length r2.length then some (.inl ((i64.wrap (v1+1)),r2))else none else none else none else bif eqL v2.length v2.length then some (.inr v2)else none)
def qi (n:Nat) (r1:(List au)) (r4:Unit×(List Int)):(Int×(List dL))->Option ((Int×(List dL)) ⊕ (List dL))
 |(v3,v4)=>(bif (decide (v3 < (((r4.2.length:Nat):Int):Int)))then bif inb (i64.wrap (v3 - 1)) r4.2.length then (at? r4.2 ((0:Nat)+(i64.wrap (v3 - 1)):Int)).bind fun x2=>bif inb v3 r4.2.length then (at? r4.2 ((0:Nat)+v3:Int)).bind fun x3=>bif inb (i64.wrap (v3 - 1)) r4.2.length then (at? r4.2 ((0:Nat)+(i64.wrap (v3 - 1)):Int)).bind fun x4=>bif eqL (sub r1 0 r1.length).length r1.length then (Hw n (sub r1 0 r1.length) x4).bind fun r5=>bif eqL (sub r5 0 r5.length).length r5.length then bif bG v4.length v4.length (sub ([(dL.mk x2 x3 (sub r5 0 r5.length))]:List dL) 0 1).length 1 40 then jO (v4++(sub ([(dL.mk x2 x3 (sub r5 0 r5.length))]:List dL) 0 1)) fun r6=>bif eqL r6.length r6.length then some (.inl ((i64.wrap (v3+1)),r6))else none else none else none else none else none else none else none else bif eqL v4.length v4.length then some (.inr v4)else none)
def Hy (n:Nat) (a0:(List (List au))):Option (List dL):=
 (xJ n a0).bind fun r1=>bif eqL 0 ([]:List Int).length then (iter (qh r1) n ((0:Int),([]:List Int))).bind fun w1=>bif eqL w1.length w1.length then (o9 n w1).bind fun r3=>bif eqL w1.length r3.length then (qd n r3).bind fun r4=>bif eqL 0 ([]:List dL).length then (iter (qi n r1 r4) n ((1:Int),([]:List dL))).bind fun w2=>bif eqL (sub w2 0 w2.length).length w2.length then some (sub w2 0 w2.length)else none else none else none else none else none
def Mw (a0:(List aD)) (a1:(List aD)):Int->Option (Int ⊕ (Unit ⊕ Bool))
 |v1=>(bif (decide (v1 < ((a0.length:Int):Int)))then (at? a0 v1).bind fun x1=>(at? a1 v1).bind fun x2=>(bif (!((x1.from_==(x2.from_:Int))&&((x1.to==(x2.to:Int))&&true)))then (some false).map fun a=> .inr (.inr a)else some (.inl (i64.wrap (v1+1))))else some (.inr (.inl ())))
def sZ (n:Nat) (a0:(List aD)) (a1:(List aD)):Option Bool:=
 (bif ((a0.length:Int) != ((a1.length:Int):Int))then some false else fH (iter (Mw a0 a1) n (0:Int)) fun ()=>some true)
def pq (n:Nat) (a0:(List dL)) (v1:Int):Int->Option (Int ⊕ Int)
 |v3=>((bif (decide (v3 < ((a0.length:Int):Int)))then (at? a0 v3).bind fun x1=>(at? a0 v1).bind fun x2=>(sZ n x1.column x2.column).bind fun r1=>some r1 else some false):Option (Bool)).bind fun v4=>(bif v4 then some (.inl (i64.wrap (v3+1)))else some (.inr v3))
def uh (a0:(List dL)) (v1:Int) (w1:Int) (x3:dL):(Int×(List au))->Option ((Int×(List au)) ⊕ (List au))
 |(v5,v6)=>(bif (decide (v5 < ((x3.column.length:Int):Int)))then (at? x3.column v5).bind fun x4=>(at? a0 v1).bind fun x5=>(at? a0 (i64.wrap (w1 - 1))).bind fun x6=>bif bG v6.length v6.length (sub ([(au.mk x5.x0 x4.from_ x6.x1 x4.to)]:List au) 0 1).length 1 32 then jO (v6++(sub ([(au.mk x5.x0 x4.from_ x6.x1 x4.to)]:List au) 0 1)) fun r2=>bif eqL r2.length r2.length then some (.inl ((i64.wrap (v5+1)),r2))else none else none else bif eqL v6.length v6.length then some (.inr v6)else none)
def uj (n:Nat) (a0:(List dL)):(Int×(List au))->Option ((Int×(List au)) ⊕ (List au))
 |(v1,v2)=>(bif (decide (v1 < ((a0.length:Int):Int)))then (iter (pq n a0 v1) n (i64.wrap (v1+1))).bind fun w1=>(at? a0 v1).bind fun x3=>bif eqL v2.length v2.length then (iter (uh a0 v1 w1 x3) n ((0:Int),v2)).bind fun w2=>bif eqL w2.length w2.length then some (.inl (w1,w2))else none else none else bif eqL v2.length v2.length then some (.inr v2)else none)
def KT (n:Nat) (a0:(List dL)):Option (List au):=
 bif eqL 0 ([]:List au).length then (iter (uj n a0) n ((0:Int),([]:List au))).bind fun w3=>bif eqL (sub w3 0 w3.length).length w3.length then some (sub w3 0 w3.length)else none else none
def Jl (a0:(List au)):Option ((List au)×Int):=
 (bif (decide ((a0.length:Int)>(200:Int)))then some (([]:(List au)),(6:Int))else some (a0,(0:Int)))
def KU (a0:(List au)):Int->Option (Int ⊕ (Unit ⊕ ((List au)×Int)))
 |v1=>(bif (decide (v1 < ((a0.length:Int):Int)))then (at? a0 v1).bind fun x1=>(qc x1).bind fun r1=>(bif (!r1)then (some (([]:(List au)),(1:Int))).map fun a=> .inr (.inr a)else some (.inl (i64.wrap (v1+1))))else some (.inr (.inl ())))
def abt (n:Nat) (a0:(List au)):Option ((List au)×Int):=
 fH (iter (KU a0) n (0:Int)) fun ()=>(bif (decide ((a0.length:Int)>(400:Int)))then some (([]:(List au)),(6:Int))else bif eqL (sub ([a0]:List (List au)) 0 1).length 1 then (Hy n (sub ([a0]:List (List au)) 0 1)).bind fun r2=>bif eqL (sub r2 0 r2.length).length r2.length then (KT n (sub r2 0 r2.length)).bind fun r3=>bif eqL (sub r3 0 r3.length).length r3.length then (Jl (sub r3 0 r3.length)).bind fun r4=>some (r4.1,r4.2)else none else none else none)
def MB (a0:(List au)) (a1:(List au)):Int->Option (Int ⊕ (Unit ⊕ Bool))
 |v1=>(bif (decide (v1 < ((a0.length:Int):Int)))then (at? a0 v1).bind fun x1=>(at? a1 v1).bind fun x2=>(bif (!((x1.x0==(x2.x0:Int))&&((x1.y0==(x2.y0:Int))&&((x1.x1==(x2.x1:Int))&&((x1.y1==(x2.y1:Int))&&true)))))then (some false).map fun a=> .inr (.inr a)else some (.inl (i64.wrap (v1+1))))else some (.inr (.inl ())))
def nW (n:Nat) (a0:(List au)) (a1:(List au)):Option Bool:=
 (bif ((a0.length:Int) != ((a1.length:Int):Int))then some false else fH (iter (MB a0 a1) n (0:Int)) fun ()=>some true)
def xM (n:Nat) (a0:(List au)):Option Bool:=
 (abt n a0).bind fun r1=>(bif (r1.2==(0:Int))then (nW n r1.1 a0).bind fun r2=>some r2 else some false)
def kC (a0:dw) (a1:Int) (a2:Int):(Int×(List aB))->Option ((Int×(List aB)) ⊕ (List aB))
 |(v1,v2)=>(bif (decide (v1 < ((a0.phases.length:Int):Int)))then ((at? a0.phases v1).bind fun x1=>((bif (decide (v1>=(a1:Int)))then some (decide (v1 < (a2:Int)))else some false):Option (Bool)).bind fun v3=>(bif v3 then bif bG v2.length v2.length x1.volumes.length x1.volumes.length 72 then jO (v2++x1.volumes) fun r1=>bif eqL r1.length r1.length then some r1 else none else none else bif eqL v2.length v2.length then some v2 else none):Option ((List aB))).bind fun v4=>bif eqL v4.length v4.length then some (.inl ((i64.wrap (v1+1)),v4))else none else bif eqL v2.length v2.length then some (.inr v2)else none)
def oF (n:Nat) (a0:dw) (a1:Int) (a2:Int):Option (List aB):=
 bif eqL 0 ([]:List aB).length then (iter (kC a0 a1 a2) n ((0:Int),([]:List aB))).bind fun w1=>bif eqL (sub w1 0 w1.length).length w1.length then some (sub w1 0 w1.length)else none else none
def fA (a0:aB):Option Bool:=
 ((qc (au.mk a0.box_base_x0 a0.box_base_y0 a0.box_base_x1 a0.box_base_y1)).bind fun r1=>(bif (!r1)then some true else (bif (decide (a0.box_z0 < (0:Int)))then some true else (bif (decide (a0.box_z0>=(a0.box_z1:Int)))then some true else some (decide (a0.box_z1>(4096:Int)))))):Option (Bool)).bind fun v1=>(bif v1 then some false else ((bif (a0.use != (0:Int))then some (a0.units != (0:Int))else some false):Option (Bool)).bind fun v2=>(bif v2 then some false else (bif (decide (a0.use>=(0:Int)))then (bif (decide (a0.use < (6:Int)))then (bif (decide (a0.units>=(0:Int)))then some (decide (a0.units<=(1048576:Int)))else some false)else some false)else some false)))
def wO (a0:au):Option (au×Bool):=
 (qc a0).bind fun r1=>(bif r1 then some (a0,true)else some ((au.mk 0 0 0 0),false))
def DW (a0:au):Option Int:=
 (wO a0).bind fun r1=>some (i64.wrap ((i64.wrap (r1.1.x1 - r1.1.x0))*(i64.wrap (r1.1.y1 - r1.1.y0))))
def DX (a0:(List au)):(Int×Int)->Option ((Int×Int) ⊕ Int)
 |(v1,v2)=>(bif (decide (v2 < ((a0.length:Int):Int)))then (at? a0 v2).bind fun x1=>(DW x1).bind fun r2=>some (.inl ((i64.wrap (v1+r2)),(i64.wrap (v2+1))))else some (.inr v1))
def Po (n:Nat) (a0:(List au)):Option Int:=
 (xM n a0).bind fun r1=>(bif (!r1)then some (0:Int)else (iter (DX a0) n ((0:Int),(0:Int))).bind fun w1=>some w1)
def uX (n:Nat) (a0:(List au)) (a1:Int) (a2:Int) (a3:(au×au×Unit)->Option Int):Option (List au):=
 iH (fun x y=>a3 (x,y,())) (fun r=>decide (r < 0)) n a0 a1 a2
def Cb (n:Nat) (a0:(List au)) (a1:Int) (a2:Int) (a3:Int) (a4:(au×au×Unit)->Option Int):Option (List au):=
 l7 (fun x y=>a4 (x,y,())) (fun r=>decide (r < 0)) n a0 a1 a2 a3
def Cc (n:Nat) (a0:(List au)) (a1:Int) (a2:Int) (a3:(au×au×Unit)->Option Int):Option (List au):=
 rQ (fun x y=>a3 (x,y,())) (fun r=>decide (r < 0)) n a0 a1 a2
def uY (n:Nat) (a0:(List au)) (a1:Int) (a2:Int) (a3:(au×au×Unit)->Option Int):Option (List au):=
 gB aK aL n a0 a1 a2
def ER (a0:(List au)) (a1:Int) (a2:Int) (a3:Int) (a4:(au×au×Unit)->Option Int):Option (Int×Int×Int):=
 vQ (fun x y=>a4 (x,y,())) (fun r=>decide (r < 0)) a0 a1 a2 a3
def ES (a0:(List au)) (a1:Int) (a2:Int) (a3:Int) (a4:Int) (a5:(au×au×Unit)->Option Int):Option (Int×Int):=
 sW (fun x y=>a5 (x,y,())) (fun r=>decide (r < 0)) a0 a1 a2 a3 a4
def ul (a0:(List au)) (a1:Int) (a2:Int) (a3:(au×au×Unit)->Option Int):Option (Int×Int):=
 bU (fun x y=>a3 (x,y,())) (fun r=>decide (r < 0)) a0 a1 a2
def xN (a0:(List au)) (a1:Int) (a2:Int) (a3:(au×au×Unit)->Option Int):Option (Int×Int):=
 j6 (fun x y=>a3 (x,y,())) (fun r=>decide (r < 0)) a0 a1 a2
def vW (n:Nat) (a0:(List au)) (a1:Int) (a2:Int) (a3:(au×au×Unit)->Option Int):Option (List au):=
 iA n a0 a1 a2
def nX (n:Nat) (a0:(List au)) (a1:Int) (a2:Int) (a3:(au×au×Unit)->Option Int):Option (Bool×(List au)):=
 cK (fun x y=>a3 (x,y,())) (fun r=>decide (r < 0)) n a0 a1 a2
def um (n:Nat) (a0:(List au)) (a1:Int) (a2:Int) (a3:Int) (a4:(au×au×Unit)->Option Int):Option (Int×(List au)):=
 fD (fun x y=>a4 (x,y,())) (fun r=>decide (r < 0)) n a0 a1 a2 a3
def Az (n:Nat) (a0:(List au)) (a1:Int) (a2:Int) (a3:Int) (a4:(au×au×Unit)->Option Int):Option (Int×Bool×(List au)):=
 lQ (fun x y=>a4 (x,y,())) (fun r=>decide (r < 0)) n a0 a1 a2 a3
def fZ (n:Nat) (rc:((List au))->(Int)->(Int)->(Int)->((au×au×Unit)->Option Int)->Option (List au)) (a0:(List au)) (a1:Int) (a2:Int) (a3:Int) (a4:(au×au×Unit)->Option Int):Option (List au):=
 fT (fun x y=>a4 (x,y,())) (fun r=>decide (r < 0)) aK aL n (fun l a b d=>rc l a b d a4) a0 a1 a2 a3
def iV (rc:((List au))->(Int)->(Int)->(Int)->((au×au×Unit)->Option Int)->Option (List au)):Sig xx:=⟨[.mut (.st SI.Rect),.d (.int .i64),.d (.int .i64),.d (.int .i64),.clo [(.st SI.Rect),(.st SI.Rect)] (.int .i64)],[.mu (.st SI.Rect)],fun a=>rc a.1 a.2.1 a.2.2.1 a.2.2.2.1 a.2.2.2.2.1,none⟩
def bZ (n:Nat):Nat->((List au))->(Int)->(Int)->(Int)->((au×au×Unit)->Option Int)->Option (List au)
 | 0=>fun _ _ _ _ _=>none
 |m+1=>fZ n (bZ n m)
def kD (n:Nat) (a0:(List au)) (a1:Int) (a2:Int) (a3:Int) (a4:(au×au×Unit)->Option Int):Option (List au):=bZ n n a0 a1 a2 a3 a4
def mq (n:Nat) (a0:(List au)) (a1:(au×au×Unit)->Option Int):Option (List au):=
 (bits_Len (IntKind.u64.wrap ((a0.length:Nat):Int))).bind fun r1=>bif eqL a0.length a0.length then (kD n a0 0 ((a0.length:Nat):Int) r1 a1).bind fun r2=>some r2 else none
def fI (a0:au) (a1:au):Option Int:=
 (cmp_Compare_int a0.y0 a1.y0).bind fun r1=>some r1
def iY (a0:aB):Option Int:=
 ((bif a0.extra then some true else (fA a0).bind fun r1=>some (!r1)):Option (Bool)).bind fun v1=>(bif v1 then some (0:Int)else bif 3 != 0 then some (i64.wrap (Int.tdiv (i64.wrap ((i64.wrap ((i64.wrap (a0.box_z1 - a0.box_z0))+3)) - 1)) 3))else none)
def kS (a0:aB):Option Int:=
 (fA a0).bind fun r1=>(bif (!r1)then some (0:Int)else (DW (au.mk a0.box_base_x0 a0.box_base_y0 a0.box_base_x1 a0.box_base_y1)).bind fun r2=>(iY a0).bind fun r3=>some (i64.wrap (r2*r3)))
def kE (a0:aB):Option Int:=
 some a0.box_z1
def kW (a0:aB):Option Int:=
 some a0.units
def AA (a0:au) (a1:Int):Option (au×Bool):=
 (qc (au.mk (i64.wrap (a0.x0 - a1)) (i64.wrap (a0.y0 - a1)) (i64.wrap (a0.x1+a1)) (i64.wrap (a0.y1+a1)))).bind fun r1=>some ((au.mk (i64.wrap (a0.x0 - a1)) (i64.wrap (a0.y0 - a1)) (i64.wrap (a0.x1+a1)) (i64.wrap (a0.y1+a1))),r1)
def zZ (a0:au) (a1:au):Option (au×Bool):=
 ((qc a0).bind fun r1=>(bif (!r1)then some true else (qc a1).bind fun r2=>some (!r2)):Option (Bool)).bind fun v1=>(bif v1 then some ((au.mk 0 0 0 0),false)else (wO (au.mk (max a0.x0 a1.x0) (max a0.y0 a1.y0) (min a0.x1 a1.x1) (min a0.y1 a1.y1))).bind fun r3=>some (r3.1,r3.2))
def iK (a0:bA) (a1:Hr) (a2:Int):Option Bool:=
 bif inb a2 6 then (at? ([a1.a0,a1.a1,a1.a2,a1.a3,a1.a4,a1.a5]:List ByteArray) a2).bind fun x1=>some (ByteArray.toList a0.name==ByteArray.toList x1)else none
def ET (a0:(List bA)) (a1:(bA×Unit)->Option Bool):Int->Option (Int ⊕ (Unit ⊕ Int))
 |v1=>(bif (decide (v1 < ((a0.length:Int):Int)))then (at? a0 v1).bind fun x1=>(a1 (x1,())).bind fun r1=>(bif r1 then (some v1).map fun a=> .inr (.inr a)else some (.inl (i64.wrap (v1+1))))else some (.inr (.inl ())))
def oP (n:Nat) (a0:(List bA)) (a1:(bA×Unit)->Option Bool):Option Int:=
 fH (iter (ET a0 a1) n (0:Int)) fun ()=>some ((-1):Int)
def iL (n:Nat) (a0:o8) (a1:Int):Int->Option (Int ⊕ (Unit ⊕ Int))
 |v1=>(bif (decide (v1 < ((a0.tables.length:Int):Int)))then (at? a0.tables v1).bind fun x1=>(bif (!(ByteArray.toList x1.name==ByteArray.toList (⟨#[116,114,97,102,102,105,99]⟩)))then some (.inl (i64.wrap (v1+1)))else ((oP n x1.rows (fun (y1:bA×Unit)=>iK y1.1 (Hr.mk (⟨#[104,111,109,101]⟩) (⟨#[115,104,111,112]⟩) (⟨#[119,111,114,107]⟩) (⟨#[112,97,114,107]⟩) (⟨#[112,108,97,110,116]⟩) (⟨#[104,97,108,108]⟩)) a1)).bind fun r1=>(bif (decide (r1>=(0:Int)))then (at? x1.rows r1).bind fun x2=>some x2.n else some x1.else_):Option (Int)).bind fun v2=>(some (max (0:Int) (min v2 (1048576:Int)))).map fun a=> .inr (.inr a))else some (.inr (.inl ())))
def z8 (n:Nat) (a0:o8) (a1:Int):Option Int:=
 fH (iter (iL n a0 a1) n (0:Int)) fun ()=>some (0:Int)
def kJ (n:Nat) (a0:o8) (a1:aB):Option Int:=
 (z8 n a0 a1.use).bind fun r1=>(kS a1).bind fun r2=>((bif (decide (r1>(0:Int)))then bif r1 != 0 then some (decide (r2>((i64.wrap (Int.tdiv 109951162777600 r1)):Int)))else none else some false):Option (Bool)).bind fun v1=>(bif v1 then some (1099511627776:Int)else bif 100 != 0 then some (i64.wrap (Int.tdiv (i64.wrap ((i64.wrap ((i64.wrap (r1*r2))+100)) - 1)) 100))else none)
def jH (n:Nat) (a0:(List eD)) (a1:(List bf)) (a2:(List bS)) (a3:(List aY)) (a4:(List eF)) (a5:(List bT)) (a6:(List aT)) (a7:Int) (a8:(List au)) (a9:(List aB)):Option (Int×(List eD)×(List bf)×(List bS)×(List aY)×(List eF)×(List bT)×(List aT)×Int×(List au)×(List aB)):=
 (Po n a8).bind fun r1=>bif eqL a9.length a9.length then some (r1,a0,a1,a2,a3,a4,a5,a6,a7,a8,a9)else none
def dQ (a9:(List aB)):(Int×(List au)×(List Int))->Option ((Int×(List au)×(List Int)) ⊕ ((List au)×(List Int)))
 |(v1,v2,v3)=>(bif (decide (v1 < (((a9.length:Nat):Int):Int)))then bif inb v1 a9.length then (at? a9 ((0:Nat)+v1:Int)).bind fun x1=>bif inb v1 ((((a9.length:Nat):Int):Int).toNat)then (at? v2 ((0:Nat)+v1:Int)).bind fun x2=>bif inb v1 ((((a9.length:Nat):Int):Int).toNat)then (at? (v2.set ((0:Nat)+v1:Int).toNat (au.mk x1.box_base_x0 x1.box_base_y0 x1.box_base_x1 x1.box_base_y1)) ((0:Nat)+v1:Int)).bind fun x3=>bif inb v1 ((((a9.length:Nat):Int):Int).toNat)then (at? (v2.set ((0:Nat)+v1:Int).toNat (au.mk x1.box_base_x0 x1.box_base_y0 x1.box_base_x1 x1.box_base_y1)) ((0:Nat)+v1:Int)).bind fun x4=>bif bG v3.length v3.length (sub ([x3.x0,x4.x1]:List Int) 0 2).length 2 8 then jO (v3++(sub ([x3.x0,x4.x1]:List Int) 0 2)) fun r1=>bif eqL r1.length r1.length then some (.inl ((i64.wrap (v1+1)),(v2.set ((0:Nat)+v1:Int).toNat (au.mk x1.box_base_x0 x1.box_base_y0 x1.box_base_x1 x1.box_base_y1)),r1))else none else none else none else none else none else none else bif eqL v3.length v3.length then some (.inr (v2,v3))else none)
def gm (a9:(List aB)) (w2:(List Int)) (r2:(List au)) (r3:(List Int)) (v5:Int):(Int×Int×Int)->Option ((Int×Int×Int) ⊕ Int)
 |(v6,v7,v8)=>(bif (decide (v8 < ((((((a9.length:Nat):Int):Int).toNat:Nat):Int):Int)))then (bif inb v8 ((((a9.length:Nat):Int):Int).toNat)then (at? r2 ((0:Nat)+v8:Int)).bind fun x5=>(bif inb v5 w2.length then (at? r3 ((0:Nat)+v5:Int)).bind fun x6=>(bif (decide (x5.x0<=(x6:Int)))then bif inb v5 w2.length then (at? r3 ((0:Nat)+v5:Int)).bind fun x7=>(bif (decide (x7 < (x5.x1:Int)))then some (decide (x5.y1>(v7:Int)))else some false)else none else some false)else none:Option (Bool)).bind fun v9=>(bif v9 then bif inb (i64.wrap (v5+1)) w2.length then (at? r3 ((0:Nat)+(i64.wrap (v5+1)):Int)).bind fun x8=>bif inb v5 w2.length then (at? r3 ((0:Nat)+v5:Int)).bind fun x9=>some ((i64.wrap (v6+(i64.wrap ((i64.wrap (x8 - x9))*(i64.wrap (x5.y1 - (max v7 x5.y0))))))),x5.y1)else none else none else some (v6,v7))else none:Option (Int×Int)).bind fun (v10,v11)=>some (.inl (v10,v11,(i64.wrap (v8+1))))else some (.inr v6))
def gq (n:Nat) (a9:(List aB)) (w2:(List Int)) (r2:(List au)) (r3:(List Int)):(Int×Int)->Option ((Int×Int) ⊕ Int)
 |(v4,v5)=>(bif (decide (v5 < ((max (0:Int) (i64.wrap (((w2.length:Nat):Int) - 1))):Int)))then (iter (gm a9 w2 r2 r3 v5) n (v4,(0:Int),(0:Int))).bind fun w3=>some (.inl (w3,(i64.wrap (v5+1))))else some (.inr v4))
def fJ (n:Nat) (a0:(List eD)) (a1:(List bf)) (a2:(List bS)) (a3:(List aY)) (a4:(List eF)) (a5:(List bT)) (a6:(List aT)) (a7:Int) (a8:(List au)) (a9:(List aB)):Option (Int×(List eD)×(List bf)×(List bS)×(List aY)×(List eF)×(List bT)×(List aT)×Int×(List au)×(List aB)):=
 bif (decide (((a9.length:Nat):Int)<=((a9.length:Nat):Int))&&(decide (0<=((a9.length:Nat):Int))&&I7 ((a9.length:Nat):Int) 32))then bif eqL 0 ([]:List Int).length then (iter (dQ a9) n ((0:Int),(List.replicate (((a9.length:Nat):Int):Int).toNat (au.mk 0 0 0 0)),([]:List Int))).bind fun (w1,w2)=>bif eqL ((((a9.length:Nat):Int):Int).toNat) w1.length then (mq n w1 (fun (y1:au×au×Unit)=>fI y1.1 y1.2.1)).bind fun r2=>bif eqL w2.length w2.length then (o9 n w2).bind fun r3=>(iter (gq n a9 w2 r2 r3) n ((0:Int),(0:Int))).bind fun w4=>bif eqL a9.length a9.length then some (w4,a0,a1,a2,a3,a4,a5,a6,a7,a8,a9)else none else none else none else none else none
def gW (a9:(List aB)):(Int×Int)->Option ((Int×Int) ⊕ Int)
 |(v1,v2)=>(bif (decide (v2 < (((a9.length:Nat):Int):Int)))then bif inb v2 a9.length then (at? a9 ((0:Nat)+v2:Int)).bind fun x1=>(kS x1).bind fun r1=>some (.inl ((i64.wrap (v1+r1)),(i64.wrap (v2+1))))else none else some (.inr v1))
def nD (n:Nat) (a0:(List eD)) (a1:(List bf)) (a2:(List bS)) (a3:(List aY)) (a4:(List eF)) (a5:(List bT)) (a6:(List aT)) (a7:Int) (a8:(List au)) (a9:(List aB)):Option (Int×(List eD)×(List bf)×(List bS)×(List aY)×(List eF)×(List bT)×(List aT)×Int×(List au)×(List aB)):=
 (iter (gW a9) n ((0:Int),(0:Int))).bind fun w1=>bif eqL a9.length a9.length then some (w1,a0,a1,a2,a3,a4,a5,a6,a7,a8,a9)else none
def iP (n:Nat) (a0:(List eD)) (a1:(List bf)) (a2:(List bS)) (a3:(List aY)) (a4:(List eF)) (a5:(List bT)) (a6:(List aT)) (a7:Int) (a8:(List au)) (a9:(List aB)):Option (Int×(List eD)×(List bf)×(List bS)×(List aY)×(List eF)×(List bT)×(List aT)×Int×(List au)×(List aB)):=
 bif eqL a9.length a9.length then (nD n a0 a1 a2 a3 a4 a5 a6 a7 a8 a9).bind fun r1=>bif eqL r1.2.2.2.2.2.2.2.2.2.2.length r1.2.2.2.2.2.2.2.2.2.2.length then some (r1.1,r1.2.1,r1.2.2.1,r1.2.2.2.1,r1.2.2.2.2.1,r1.2.2.2.2.2.1,r1.2.2.2.2.2.2.1,r1.2.2.2.2.2.2.2.1,r1.2.2.2.2.2.2.2.2.1,r1.2.2.2.2.2.2.2.2.2.1,r1.2.2.2.2.2.2.2.2.2.2)else none else none
def d9 (a9:(List aB)):(Int×Int)->Option ((Int×Int) ⊕ Int)
 |(v1,v2)=>(bif (decide (v2 < (((a9.length:Nat):Int):Int)))then bif inb v2 a9.length then (at? a9 ((0:Nat)+v2:Int)).bind fun x1=>(iY x1).bind fun r1=>some (.inl ((max v1 r1),(i64.wrap (v2+1))))else none else some (.inr v1))
def jD (n:Nat) (a0:(List eD)) (a1:(List bf)) (a2:(List bS)) (a3:(List aY)) (a4:(List eF)) (a5:(List bT)) (a6:(List aT)) (a7:Int) (a8:(List au)) (a9:(List aB)):Option (Int×(List eD)×(List bf)×(List bS)×(List aY)×(List eF)×(List bT)×(List aT)×Int×(List au)×(List aB)):=
 (iter (d9 a9) n ((0:Int),(0:Int))).bind fun w1=>bif eqL a9.length a9.length then some (w1,a0,a1,a2,a3,a4,a5,a6,a7,a8,a9)else none
def gX (n:Nat) (a0:(List eD)) (a1:(List bf)) (a2:(List bS)) (a3:(List aY)) (a4:(List eF)) (a5:(List bT)) (a6:(List aT)) (a7:Int) (a8:(List au)) (a9:(List aB)):Option (Int×(List eD)×(List bf)×(List bS)×(List aY)×(List eF)×(List bT)×(List aT)×Int×(List au)×(List aB)):=
 bif eqL a9.length a9.length then (jD n a0 a1 a2 a3 a4 a5 a6 a7 a8 a9).bind fun r1=>bif eqL r1.2.2.2.2.2.2.2.2.2.2.length r1.2.2.2.2.2.2.2.2.2.2.length then some (r1.1,r1.2.1,r1.2.2.1,r1.2.2.2.1,r1.2.2.2.2.1,r1.2.2.2.2.2.1,r1.2.2.2.2.2.2.1,r1.2.2.2.2.2.2.2.1,r1.2.2.2.2.2.2.2.2.1,r1.2.2.2.2.2.2.2.2.2.1,r1.2.2.2.2.2.2.2.2.2.2)else none else none
def eu (a9:(List aB)):(Int×Int)->Option ((Int×Int) ⊕ Int)
 |(v1,v2)=>(bif (decide (v2 < (((a9.length:Nat):Int):Int)))then bif inb v2 a9.length then (at? a9 ((0:Nat)+v2:Int)).bind fun x1=>(kE x1).bind fun r1=>some (.inl ((max v1 r1),(i64.wrap (v2+1))))else none else some (.inr v1))
def jE (n:Nat) (a0:(List eD)) (a1:(List bf)) (a2:(List bS)) (a3:(List aY)) (a4:(List eF)) (a5:(List bT)) (a6:(List aT)) (a7:Int) (a8:(List au)) (a9:(List aB)):Option (Int×(List eD)×(List bf)×(List bS)×(List aY)×(List eF)×(List bT)×(List aT)×Int×(List au)×(List aB)):=
 (iter (eu a9) n ((0:Int),(0:Int))).bind fun w1=>bif eqL a9.length a9.length then some (w1,a0,a1,a2,a3,a4,a5,a6,a7,a8,a9)else none
def gY (n:Nat) (a0:(List eD)) (a1:(List bf)) (a2:(List bS)) (a3:(List aY)) (a4:(List eF)) (a5:(List bT)) (a6:(List aT)) (a7:Int) (a8:(List au)) (a9:(List aB)):Option (Int×(List eD)×(List bf)×(List bS)×(List aY)×(List eF)×(List bT)×(List aT)×Int×(List au)×(List aB)):=
 bif eqL a9.length a9.length then (jE n a0 a1 a2 a3 a4 a5 a6 a7 a8 a9).bind fun r1=>bif eqL r1.2.2.2.2.2.2.2.2.2.2.length r1.2.2.2.2.2.2.2.2.2.2.length then some (r1.1,r1.2.1,r1.2.2.1,r1.2.2.2.1,r1.2.2.2.2.1,r1.2.2.2.2.2.1,r1.2.2.2.2.2.2.1,r1.2.2.2.2.2.2.2.1,r1.2.2.2.2.2.2.2.2.1,r1.2.2.2.2.2.2.2.2.2.1,r1.2.2.2.2.2.2.2.2.2.2)else none else none
def gZ (a9:(List aB)):(Int×Int)->Option ((Int×Int) ⊕ Int)
 |(v1,v2)=>(bif (decide (v2 < (((a9.length:Nat):Int):Int)))then bif inb v2 a9.length then (at? a9 ((0:Nat)+v2:Int)).bind fun x1=>(kW x1).bind fun r1=>some (.inl ((i64.wrap (v1+r1)),(i64.wrap (v2+1))))else none else some (.inr v1))
def nE (n:Nat) (a0:(List eD)) (a1:(List bf)) (a2:(List bS)) (a3:(List aY)) (a4:(List eF)) (a5:(List bT)) (a6:(List aT)) (a7:Int) (a8:(List au)) (a9:(List aB)):Option (Int×(List eD)×(List bf)×(List bS)×(List aY)×(List eF)×(List bT)×(List aT)×Int×(List au)×(List aB)):=
 (iter (gZ a9) n ((0:Int),(0:Int))).bind fun w1=>bif eqL a9.length a9.length then some (w1,a0,a1,a2,a3,a4,a5,a6,a7,a8,a9)else none
def iQ (n:Nat) (a0:(List eD)) (a1:(List bf)) (a2:(List bS)) (a3:(List aY)) (a4:(List eF)) (a5:(List bT)) (a6:(List aT)) (a7:Int) (a8:(List au)) (a9:(List aB)):Option (Int×(List eD)×(List bf)×(List bS)×(List aY)×(List eF)×(List bT)×(List aT)×Int×(List au)×(List aB)):=
 bif eqL a9.length a9.length then (nE n a0 a1 a2 a3 a4 a5 a6 a7 a8 a9).bind fun r1=>bif eqL r1.2.2.2.2.2.2.2.2.2.2.length r1.2.2.2.2.2.2.2.2.2.2.length then some (r1.1,r1.2.1,r1.2.2.1,r1.2.2.2.1,r1.2.2.2.2.1,r1.2.2.2.2.2.1,r1.2.2.2.2.2.2.1,r1.2.2.2.2.2.2.2.1,r1.2.2.2.2.2.2.2.2.1,r1.2.2.2.2.2.2.2.2.2.1,r1.2.2.2.2.2.2.2.2.2.2)else none else none
def fG (a10:(List au)) (r1:au×Bool):(Int×Int)->Option ((Int×Int) ⊕ Int)
 |(v1,v2)=>(bif (decide (v2 < ((a10.length:Int):Int)))then ((at? a10 v2).bind fun x1=>(zZ r1.1 x1).bind fun r2=>(bif r2.2 then (DW r2.1).bind fun r3=>some (i64.wrap (v1+r3))else some v1):Option (Int)).bind fun v3=>some (.inl (v3,(i64.wrap (v2+1))))else some (.inr v1))
def ic (n:Nat) (a0:au) (a1:Int) (a2:(List eD)) (a3:(List bf)) (a4:(List bS)) (a5:(List aY)) (a6:(List eF)) (a7:(List bT)) (a8:(List aT)) (a9:Int) (a10:(List au)) (a11:(List aB)):Option (Bool×(List eD)×(List bf)×(List bS)×(List aY)×(List eF)×(List bT)×(List aT)×Int×(List au)×(List aB)):=
 (AA a0 a1).bind fun r1=>(bif (!r1.2)then bif eqL a11.length a11.length then some (false,a2,a3,a4,a5,a6,a7,a8,a9,a10,a11)else none else (iter (fG a10 r1) n ((0:Int),(0:Int))).bind fun w1=>(DW r1.1).bind fun r4=>bif eqL a11.length a11.length then some ((w1==(r4:Int)),a2,a3,a4,a5,a6,a7,a8,a9,a10,a11)else none)
def dh (n:Nat) (x1:aB):(Int×Int×(List eD)×(List bf)×(List bS)×(List aY)×(List eF)×(List bT)×(List aT)×Int×(List au)×(List aB))->Option ((Int×Int×(List eD)×(List bf)×(List bS)×(List aY)×(List eF)×(List bT)×(List aT)×Int×(List au)×(List aB)) ⊕ (Int×(List eD)×(List bf)×(List bS)×(List aY)×(List eF)×(List bT)×(List aT)×Int×(List au)×(List aB)))
 |(v13,v14,v15,v16,v17,v18,v19,v20,v21,v22,v23,v24)=>(bif (decide (v13 < (v14:Int)))then bif 2 != 0 then bif eqL v24.length v24.length then (ic n (au.mk x1.box_base_x0 x1.box_base_y0 x1.box_base_x1 x1.box_base_y1) (i64.wrap (Int.tdiv (i64.wrap ((i64.wrap (v13+v14))+1)) 2)) v15 v16 v17 v18 v19 v20 v21 v22 v23 v24).bind fun r1=>(bif r1.1 then bif eqL r1.2.2.2.2.2.2.2.2.2.2.length r1.2.2.2.2.2.2.2.2.2.2.length then some (.inl ((i64.wrap (Int.tdiv (i64.wrap ((i64.wrap (v13+v14))+1)) 2)),v14,r1.2.1,r1.2.2.1,r1.2.2.2.1,r1.2.2.2.2.1,r1.2.2.2.2.2.1,r1.2.2.2.2.2.2.1,r1.2.2.2.2.2.2.2.1,r1.2.2.2.2.2.2.2.2.1,r1.2.2.2.2.2.2.2.2.2.1,r1.2.2.2.2.2.2.2.2.2.2))else none else bif eqL r1.2.2.2.2.2.2.2.2.2.2.length r1.2.2.2.2.2.2.2.2.2.2.length then some (.inl (v13,(i64.wrap ((i64.wrap (Int.tdiv (i64.wrap ((i64.wrap (v13+v14))+1)) 2)) - 1)),r1.2.1,r1.2.2.1,r1.2.2.2.1,r1.2.2.2.2.1,r1.2.2.2.2.2.1,r1.2.2.2.2.2.2.1,r1.2.2.2.2.2.2.2.1,r1.2.2.2.2.2.2.2.2.1,r1.2.2.2.2.2.2.2.2.2.1,r1.2.2.2.2.2.2.2.2.2.2))else none)else none else none else bif eqL v24.length v24.length then some (.inr (v13,v15,v16,v17,v18,v19,v20,v21,v22,v23,v24))else none)
def eX (n:Nat) (a9:(List aB)):(Int×Int×(List eD)×(List bf)×(List bS)×(List aY)×(List eF)×(List bT)×(List aT)×Int×(List au)×(List aB))->Option ((Int×Int×(List eD)×(List bf)×(List bS)×(List aY)×(List eF)×(List bT)×(List aT)×Int×(List au)×(List aB)) ⊕ (Int×(List eD)×(List bf)×(List bS)×(List aY)×(List eF)×(List bT)×(List aT)×Int×(List au)×(List aB)))
 |(v1,v2,v3,v4,v5,v6,v7,v8,v9,v10,v11,v12)=>(bif (decide (v2 < (((a9.length:Nat):Int):Int)))then bif inb v2 a9.length then (at? v12 ((0:Nat)+v2:Int)).bind fun x1=>bif eqL v12.length v12.length then (iter (dh n x1) n ((0:Int),v1,v3,v4,v5,v6,v7,v8,v9,v10,v11,v12)).bind fun (w1,w2,w3,w4,w5,w6,w7,w8,w9,w10,w11)=>bif eqL w11.length w11.length then some (.inl (w1,(i64.wrap (v2+1)),w2,w3,w4,w5,w6,w7,w8,w9,w10,w11))else none else none else none else bif eqL v12.length v12.length then some (.inr (v1,v3,v4,v5,v6,v7,v8,v9,v10,v11,v12))else none)
def gG (n:Nat) (a0:(List eD)) (a1:(List bf)) (a2:(List bS)) (a3:(List aY)) (a4:(List eF)) (a5:(List bT)) (a6:(List aT)) (a7:Int) (a8:(List au)) (a9:(List aB)):Option (Int×(List eD)×(List bf)×(List bS)×(List aY)×(List eF)×(List bT)×(List aT)×Int×(List au)×(List aB)):=
 bif eqL a9.length a9.length then (iter (eX n a9) n ((1048576:Int),(0:Int),a0,a1,a2,a3,a4,a5,a6,a7,a8,a9)).bind fun (w12,w13,w14,w15,w16,w17,w18,w19,w20,w21,w22)=>bif eqL w22.length w22.length then some (w12,w13,w14,w15,w16,w17,w18,w19,w20,w21,w22)else none else none
def iM (n:Nat) (a0:aB) (a1:(List eD)) (a2:(List bf)) (a3:(List bS)) (a4:(List aY)) (a5:(List eF)) (a6:(List bT)) (a7:(List aT)) (a8:Int) (a9:(List au)) (a10:(List aB)):Option (Int×(List eD)×(List bf)×(List bS)×(List aY)×(List eF)×(List bT)×(List aT)×Int×(List au)×(List aB)):=
 (kJ n (o8.mk a1 a2 a3 a4 a5 a6 a7 a8) a0).bind fun r1=>bif eqL a10.length a10.length then some (r1,a1,a2,a3,a4,a5,a6,a7,a8,a9,a10)else none
def ig (n:Nat) (a9:(List aB)):(Int×Int×(List eD)×(List bf)×(List bS)×(List aY)×(List eF)×(List bT)×(List aT)×Int×(List au)×(List aB))->Option ((Int×Int×(List eD)×(List bf)×(List bS)×(List aY)×(List eF)×(List bT)×(List aT)×Int×(List au)×(List aB)) ⊕ (Int×(List eD)×(List bf)×(List bS)×(List aY)×(List eF)×(List bT)×(List aT)×Int×(List au)×(List aB)))
 |(v1,v2,v3,v4,v5,v6,v7,v8,v9,v10,v11,v12)=>(bif (decide (v2 < (((a9.length:Nat):Int):Int)))then bif inb v2 a9.length then (at? v12 ((0:Nat)+v2:Int)).bind fun x1=>bif eqL v12.length v12.length then (iM n x1 v3 v4 v5 v6 v7 v8 v9 v10 v11 v12).bind fun r1=>bif eqL r1.2.2.2.2.2.2.2.2.2.2.length r1.2.2.2.2.2.2.2.2.2.2.length then some (.inl ((i64.wrap (v1+r1.1)),(i64.wrap (v2+1)),r1.2.1,r1.2.2.1,r1.2.2.2.1,r1.2.2.2.2.1,r1.2.2.2.2.2.1,r1.2.2.2.2.2.2.1,r1.2.2.2.2.2.2.2.1,r1.2.2.2.2.2.2.2.2.1,r1.2.2.2.2.2.2.2.2.2.1,r1.2.2.2.2.2.2.2.2.2.2))else none else none else none else bif eqL v12.length v12.length then some (.inr (v1,v3,v4,v5,v6,v7,v8,v9,v10,v11,v12))else none)
def nG (n:Nat) (a0:(List eD)) (a1:(List bf)) (a2:(List bS)) (a3:(List aY)) (a4:(List eF)) (a5:(List bT)) (a6:(List aT)) (a7:Int) (a8:(List au)) (a9:(List aB)):Option (Int×(List eD)×(List bf)×(List bS)×(List aY)×(List eF)×(List bT)×(List aT)×Int×(List au)×(List aB)):=
 bif eqL a9.length a9.length then (iter (ig n a9) n ((0:Int),(0:Int),a0,a1,a2,a3,a4,a5,a6,a7,a8,a9)).bind fun (w1,w2,w3,w4,w5,w6,w7,w8,w9,w10,w11)=>bif eqL w11.length w11.length then some (w1,w2,w3,w4,w5,w6,w7,w8,w9,w10,w11)else none else none
def gH (n:Nat) (a0:(List eD)) (a1:(List bf)) (a2:(List bS)) (a3:(List aY)) (a4:(List eF)) (a5:(List bT)) (a6:(List aT)) (a7:Int) (a8:(List au)) (a9:(List aB)):Option (Int×(List eD)×(List bf)×(List bS)×(List aY)×(List eF)×(List bT)×(List aT)×Int×(List au)×(List aB)):=
 bif eqL a9.length a9.length then (nG n a0 a1 a2 a3 a4 a5 a6 a7 a8 a9).bind fun r1=>bif eqL r1.2.2.2.2.2.2.2.2.2.2.length r1.2.2.2.2.2.2.2.2.2.2.length then some (r1.1,r1.2.1,r1.2.2.1,r1.2.2.2.1,r1.2.2.2.2.1,r1.2.2.2.2.2.1,r1.2.2.2.2.2.2.1,r1.2.2.2.2.2.2.2.1,r1.2.2.2.2.2.2.2.2.1,r1.2.2.2.2.2.2.2.2.2.1,r1.2.2.2.2.2.2.2.2.2.2)else none else none
def nY (r2:(List aB)):(Int×(List eD)×(List bf)×(List bS)×(List aY)×(List eF)×(List bT)×(List aT)×Int×(List au)×(List aB))->Option ((Int×(List eD)×(List bf)×(List bS)×(List aY)×(List eF)×(List bT)×(List aT)×Int×(List au)×(List aB)) ⊕ ((List eD)×(List bf)×(List bS)×(List aY)×(List eF)×(List bT)×(List aT)×Int×(List au)×(List aB)))
 |(v10,v11,v12,v13,v14,v15,v16,v17,v18,v19,v20)=>(bif (decide (v10 < (((r2.length:Nat):Int):Int)))then (bif inb v10 r2.length then (at? r2 ((0:Nat)+v10:Int)).bind fun x1=>((bif (decide (v10 < (40:Int)))then (fA x1).bind fun r3=>some r3 else some false):Option (Bool)).bind fun v21=>(bif v21 then bif bG v20.length v20.length (sub ([x1]:List aB) 0 1).length 1 72 then jO (v20++(sub ([x1]:List aB) 0 1)) fun r4=>bif eqL r4.length r4.length then some (v11,v12,v13,v14,v15,v16,v17,v18,v19,r4)else none else none else bif eqL v20.length v20.length then some (v11,v12,v13,v14,v15,v16,v17,v18,v19,v20)else none)else none:Option ((List eD)×(List bf)×(List bS)×(List aY)×(List eF)×(List bT)×(List aT)×Int×(List au)×(List aB))).bind fun (v22,v23,v24,v25,v26,v27,v28,v29,v30,v31)=>bif eqL v31.length v31.length then some (.inl ((i64.wrap (v10+1)),v22,v23,v24,v25,v26,v27,v28,v29,v30,v31))else none else bif eqL v20.length v20.length then some (.inr (v11,v12,v13,v14,v15,v16,v17,v18,v19,v20))else none)
def DY (n:Nat) (a0:o8) (a1:iI) (a2:dw):Option (List bA):=
 ((xM n a1.area).bind fun r1=>(bif r1 then some (a0.defs,a0.tables,a0.zones,a0.rules,a0.caps,a0.views,a0.sun,a0.hours,a1.area)else some (a0.defs,a0.tables,a0.zones,a0.rules,a0.caps,a0.views,a0.sun,a0.hours,([]:(List au)))):Option ((List eD)×(List bf)×(List bS)×(List aY)×(List eF)×(List bT)×(List aT)×Int×(List au))).bind fun (v1,v2,v3,v4,v5,v6,v7,v8,v9)=>(oF n a2 0 (a2.phases.length:Int)).bind fun r2=>bif eqL 0 ([]:List aB).length then (iter (nY r2) n ((0:Int),v1,v2,v3,v4,v5,v6,v7,v8,v9,([]:List aB))).bind fun (w1,w2,w3,w4,w5,w6,w7,w8,w9,w10)=>bif eqL w10.length w10.length then (jH n w1 w2 w3 w4 w5 w6 w7 w8 w9 w10).bind fun r5=>bif bG 0 0 (sub ([(bA.mk (⟨#[97,114,101,97]⟩) r5.1)]:List bA) 0 1).length 1 24 then jO ((sub ([(bA.mk (⟨#[97,114,101,97]⟩) r5.1)]:List bA) 0 1)) fun r6=>bif eqL r5.2.2.2.2.2.2.2.2.2.2.length r5.2.2.2.2.2.2.2.2.2.2.length then (fJ n r5.2.1 r5.2.2.1 r5.2.2.2.1 r5.2.2.2.2.1 r5.2.2.2.2.2.1 r5.2.2.2.2.2.2.1 r5.2.2.2.2.2.2.2.1 r5.2.2.2.2.2.2.2.2.1 r5.2.2.2.2.2.2.2.2.2.1 r5.2.2.2.2.2.2.2.2.2.2).bind fun r7=>bif bG r6.length r6.length (sub ([(bA.mk (⟨#[99,111,118,101,114]⟩) r7.1)]:List bA) 0 1).length 1 24 then jO (r6++(sub ([(bA.mk (⟨#[99,111,118,101,114]⟩) r7.1)]:List bA) 0 1)) fun r8=>bif eqL r7.2.2.2.2.2.2.2.2.2.2.length r7.2.2.2.2.2.2.2.2.2.2.length then (iP n r7.2.1 r7.2.2.1 r7.2.2.2.1 r7.2.2.2.2.1 r7.2.2.2.2.2.1 r7.2.2.2.2.2.2.1 r7.2.2.2.2.2.2.2.1 r7.2.2.2.2.2.2.2.2.1 r7.2.2.2.2.2.2.2.2.2.1 r7.2.2.2.2.2.2.2.2.2.2).bind fun r9=>bif bG r8.length r8.length (sub ([(bA.mk (⟨#[102,108,111,111,114]⟩) r9.1)]:List bA) 0 1).length 1 24 then jO (r8++(sub ([(bA.mk (⟨#[102,108,111,111,114]⟩) r9.1)]:List bA) 0 1)) fun r10=>bif eqL r9.2.2.2.2.2.2.2.2.2.2.length r9.2.2.2.2.2.2.2.2.2.2.length then (gX n r9.2.1 r9.2.2.1 r9.2.2.2.1 r9.2.2.2.2.1 r9.2.2.2.2.2.1 r9.2.2.2.2.2.2.1 r9.2.2.2.2.2.2.2.1 r9.2.2.2.2.2.2.2.2.1 r9.2.2.2.2.2.2.2.2.2.1 r9.2.2.2.2.2.2.2.2.2.2).bind fun r11=>bif bG r10.length r10.length (sub ([(bA.mk (⟨#[102,108,111,111,114,115]⟩) r11.1)]:List bA) 0 1).length 1 24 then jO (r10++(sub ([(bA.mk (⟨#[102,108,111,111,114,115]⟩) r11.1)]:List bA) 0 1)) fun r12=>bif eqL r11.2.2.2.2.2.2.2.2.2.2.length r11.2.2.2.2.2.2.2.2.2.2.length then (gY n r11.2.1 r11.2.2.1 r11.2.2.2.1 r11.2.2.2.2.1 r11.2.2.2.2.2.1 r11.2.2.2.2.2.2.1 r11.2.2.2.2.2.2.2.1 r11.2.2.2.2.2.2.2.2.1 r11.2.2.2.2.2.2.2.2.2.1 r11.2.2.2.2.2.2.2.2.2.2).bind fun r13=>bif bG r12.length r12.length (sub ([(bA.mk (⟨#[104,101,105,103,104,116]⟩) r13.1)]:List bA) 0 1).length 1 24 then jO (r12++(sub ([(bA.mk (⟨#[104,101,105,103,104,116]⟩) r13.1)]:List bA) 0 1)) fun r14=>bif eqL r13.2.2.2.2.2.2.2.2.2.2.length r13.2.2.2.2.2.2.2.2.2.2.length then (iQ n r13.2.1 r13.2.2.1 r13.2.2.2.1 r13.2.2.2.2.1 r13.2.2.2.2.2.1 r13.2.2.2.2.2.2.1 r13.2.2.2.2.2.2.2.1 r13.2.2.2.2.2.2.2.2.1 r13.2.2.2.2.2.2.2.2.2.1 r13.2.2.2.2.2.2.2.2.2.2).bind fun r15=>bif bG r14.length r14.length (sub ([(bA.mk (⟨#[104,111,109,101,115]⟩) r15.1)]:List bA) 0 1).length 1 24 then jO (r14++(sub ([(bA.mk (⟨#[104,111,109,101,115]⟩) r15.1)]:List bA) 0 1)) fun r16=>bif eqL r15.2.2.2.2.2.2.2.2.2.2.length r15.2.2.2.2.2.2.2.2.2.2.length then (fJ n r15.2.1 r15.2.2.1 r15.2.2.2.1 r15.2.2.2.2.1 r15.2.2.2.2.2.1 r15.2.2.2.2.2.2.1 r15.2.2.2.2.2.2.2.1 r15.2.2.2.2.2.2.2.2.1 r15.2.2.2.2.2.2.2.2.2.1 r15.2.2.2.2.2.2.2.2.2.2).bind fun r17=>bif bG r16.length r16.length (sub ([(bA.mk (⟨#[114,117,110,111,102,102]⟩) r17.1)]:List bA) 0 1).length 1 24 then jO (r16++(sub ([(bA.mk (⟨#[114,117,110,111,102,102]⟩) r17.1)]:List bA) 0 1)) fun r18=>bif eqL r17.2.2.2.2.2.2.2.2.2.2.length r17.2.2.2.2.2.2.2.2.2.2.length then (gG n r17.2.1 r17.2.2.1 r17.2.2.2.1 r17.2.2.2.2.1 r17.2.2.2.2.2.1 r17.2.2.2.2.2.2.1 r17.2.2.2.2.2.2.2.1 r17.2.2.2.2.2.2.2.2.1 r17.2.2.2.2.2.2.2.2.2.1 r17.2.2.2.2.2.2.2.2.2.2).bind fun r19=>bif bG r18.length r18.length (sub ([(bA.mk (⟨#[115,101,116,98,97,99,107]⟩) r19.1)]:List bA) 0 1).length 1 24 then jO (r18++(sub ([(bA.mk (⟨#[115,101,116,98,97,99,107]⟩) r19.1)]:List bA) 0 1)) fun r20=>bif eqL r19.2.2.2.2.2.2.2.2.2.2.length r19.2.2.2.2.2.2.2.2.2.2.length then (gH n r19.2.1 r19.2.2.1 r19.2.2.2.1 r19.2.2.2.2.1 r19.2.2.2.2.2.1 r19.2.2.2.2.2.2.1 r19.2.2.2.2.2.2.2.1 r19.2.2.2.2.2.2.2.2.1 r19.2.2.2.2.2.2.2.2.2.1 r19.2.2.2.2.2.2.2.2.2.2).bind fun r21=>bif bG r20.length r20.length (sub ([(bA.mk (⟨#[116,114,97,102,102,105,99]⟩) r21.1)]:List bA) 0 1).length 1 24 then jO (r20++(sub ([(bA.mk (⟨#[116,114,97,102,102,105,99]⟩) r21.1)]:List bA) 0 1)) fun r22=>bif eqL (sub r22 0 r22.length).length r22.length then some (sub r22 0 r22.length)else none else none else none else none else none else none else none else none else none else none else none else none else none else none else none else none else none else none else none else none
end
end Go.Proofs
