/-
  Printed by wip/gen: what functions of the program compute.
-/
import Derived.Test.YtccijnckfbanfaaGreatDoorTBase
open Go.IntKind (i64)
namespace Go.Proofs
open Go.Gb Go.RowKit
noncomputable section
def EY:Option dR:=
 bif eqL (sub ([(pQ.mk 0 2 (⟨#[]⟩) (⟨#[]⟩) ([])),(pQ.mk 1 0 (⟨#[115,101,116,98,97,99,107]⟩) (⟨#[]⟩) ([]))]:List pQ) 0 2).length 2 then bif eqL (sub ([(aj.mk 4 2 6 3)]:List aj) 0 1).length 1 then bif eqL (sub ([(aj.mk 0 0 10 8)]:List aj) 0 1).length 1 then bif eqL (sub ([(eU.mk (⟨#[97]⟩) ([]) ([]) 0 0 0 false 0 12 0 (⟨#[]⟩) (⟨#[]⟩) (sub ([(pQ.mk 0 2 (⟨#[]⟩) (⟨#[]⟩) ([])),(pQ.mk 1 0 (⟨#[115,101,116,98,97,99,107]⟩) (⟨#[]⟩) ([]))]:List pQ) 0 2) 0 0 0 0 0 0 0),(eU.mk (⟨#[98]⟩) ([]) ([]) 0 0 0 false 1 0 0 (⟨#[]⟩) (⟨#[]⟩) ([]) 0 3 1 1 0 0 0)]:List eU) 0 2).length 2 then bif eqL (sub ([(uf.mk 1 0 (sub ([(aj.mk 0 0 10 8)]:List aj) 0 1) ([]))]:List uf) 0 1).length 1 then bif eqL (sub ([(aV.mk 1 (sub ([(aj.mk 4 2 6 3)]:List aj) 0 1) 5)]:List aV) 0 1).length 1 then some (dR.mk ([]) ([]) ([]) (sub ([(eU.mk (⟨#[97]⟩) ([]) ([]) 0 0 0 false 0 12 0 (⟨#[]⟩) (⟨#[]⟩) (sub ([(pQ.mk 0 2 (⟨#[]⟩) (⟨#[]⟩) ([])),(pQ.mk 1 0 (⟨#[115,101,116,98,97,99,107]⟩) (⟨#[]⟩) ([]))]:List pQ) 0 2) 0 0 0 0 0 0 0),(eU.mk (⟨#[98]⟩) ([]) ([]) 0 0 0 false 1 0 0 (⟨#[]⟩) (⟨#[]⟩) ([]) 0 3 1 1 0 0 0)]:List eU) 0 2) ([]) ([]) ([]) 0 (sub ([(uf.mk 1 0 (sub ([(aj.mk 0 0 10 8)]:List aj) 0 1) ([]))]:List uf) 0 1) (sub ([(aV.mk 1 (sub ([(aj.mk 4 2 6 3)]:List aj) 0 1) 5)]:List aV) 0 1) ([]) ([]) ([]))else none else none else none else none else none else none
def nY (a0:(List aj)):Option (List aj):=
 (bif a0.isEmpty then (both (some ([]:(List aj))) (bif bG ([]:List aj).length 0 a0.length a0.length 32 then lD (([]:List aj)++a0) fun r1=>bif eqL (sub r1 0 r1.length).length r1.length then some (sub r1 0 r1.length)else none else none))else bif bG ([]:List aj).length 0 a0.length a0.length 32 then lD (([]:List aj)++a0) fun r2=>bif eqL (sub r2 0 r2.length).length r2.length then some (sub r2 0 r2.length)else none else none)
def CO (a0:(List Int)):Option (List Int):=
 (bif a0.isEmpty then (both (some ([]:(List Int))) (bif bG ([]:List Int).length 0 a0.length a0.length 8 then lD (([]:List Int)++a0) fun r1=>bif eqL (sub r1 0 r1.length).length r1.length then some (sub r1 0 r1.length)else none else none))else bif bG ([]:List Int).length 0 a0.length a0.length 8 then lD (([]:List Int)++a0) fun r2=>bif eqL (sub r2 0 r2.length).length r2.length then some (sub r2 0 r2.length)else none else none)
def Kt (a0:uf):Option uf:=
 (nY a0.area).bind fun r1=>(CO a0.from_).bind fun r2=>bif eqL (sub r1 0 r1.length).length r1.length then bif eqL (sub r2 0 r2.length).length r2.length then some (uf.mk a0.id a0.owner (sub r1 0 r1.length) (sub r2 0 r2.length))else none else none
def CP (a0:(List uf)) (a1:Int):Int->Option (Int ⊕ (Unit ⊕ (uf×Bool)))
 |v1=>(bif (decide (v1 < ((a0.length:Int):Int)))then (at? a0 v1).bind fun x1=>(bif (x1.id==(a1:Int))then (Kt x1).bind fun r1=>(some (r1,true)).map fun a=> .inr (.inr a)else some (.inl (i64.wrap (v1+1))))else some (.inr (.inl ())))
def CQ (n:Nat) (a0:(List uf)) (a1:Int):Option (uf×Bool):=
 dw (iter (CP a0 a1) n (0:Int)) fun ()=>some ((uf.mk 0 0 ([]) ([])),false)
def vV (a0:aj):Option Bool:=
 (bif (decide (0<=(a0.x0:Int)))then (bif (decide (a0.x0 < (a0.x1:Int)))then (bif (decide (a0.x1<=(1048576:Int)))then (bif (decide (0<=(a0.y0:Int)))then (bif (decide (a0.y0 < (a0.y1:Int)))then some (decide (a0.y1<=(1048576:Int)))else some false)else some false)else some false)else some false)else some false)
def Ku (a0:Unit) (a1:Int):Option (List aj):=
 (bif (decide (a1 < (0:Int)))then none else (bif (decide ((i64.wrap (a1 - (i64.wrap (0 - 0))))>(0:Int)))then bif O1 (i64.wrap (a1 - (i64.wrap (0 - 0)))) 32 then bif AR 0 0 ((i64.wrap (a1 - (i64.wrap (0 - 0)))).toNat)then bif eqL (sub (List.replicate (i64.wrap (a1 - (i64.wrap (0 - 0)))).toNat (aj.mk 0 0 0 0)) 0 0).length 0 then some (sub (List.replicate (i64.wrap (a1 - (i64.wrap (0 - 0)))).toNat (aj.mk 0 0 0 0)) 0 0)else none else none else none else some ([]:(List aj))))
def Kv (a0:(List (List aj))):(Int×Int)->Option ((Int×Int) ⊕ Int)
 |(v1,v2)=>(bif (decide (v2 < ((a0.length:Int):Int)))then (at? a0 v2).bind fun x1=>(bif (decide ((i64.wrap (v1+(x1.length:Int))) < (0:Int)))then none else some (.inl ((i64.wrap (v1+(x1.length:Int))),(i64.wrap (v2+1)))))else some (.inr v1))
def Kw (a0:(List (List aj))):(Int×(List aj))->Option ((Int×(List aj)) ⊕ (List aj))
 |(v3,v4)=>(bif (decide (v3 < ((a0.length:Int):Int)))then (at? a0 v3).bind fun x2=>bif bG v4.length v4.length x2.length x2.length 32 then lD (v4++x2) fun r2=>bif eqL r2.length r2.length then some (.inl ((i64.wrap (v3+1)),r2))else none else none else bif eqL v4.length v4.length then some (.inr v4)else none)
def xN (n:Nat) (a0:(List (List aj))):Option (List aj):=
 (iter (Kv a0) n ((0:Int),(0:Int))).bind fun w1=>(Ku () w1).bind fun r1=>bif eqL r1.length r1.length then (iter (Kw a0) n ((0:Int),r1)).bind fun w2=>bif eqL (sub w2 0 w2.length).length w2.length then some (sub w2 0 w2.length)else none else none
def bits_Len64 (a0:Int):Option Int:=
 ((bif (decide (a0>=(4294967296:Int)))then bif (decide (0<=32)&&decide (32<=IntKind.u64.bits))then some ((a0/2 ^ (32:Int).toNat),(32:Int))else none else some (a0,(0:Int))):Option (Int×Int)).bind fun (v1,v2)=>((bif (decide (v1>=(65536:Int)))then bif (decide (0<=16)&&decide (16<=IntKind.u64.bits))then some ((v1/2 ^ (16:Int).toNat),(i64.wrap (v2+16)))else none else some (v1,v2)):Option (Int×Int)).bind fun (v3,v4)=>((bif (decide (v3>=(256:Int)))then bif (decide (0<=8)&&decide (8<=IntKind.u64.bits))then some ((v3/2 ^ (8:Int).toNat),(i64.wrap (v4+8)))else none else some (v3,v4)):Option (Int×Int)).bind fun (v5,v6)=>(Vo (⟨#[0,1,2,2,3,3,3,3,4,4,4,4,4,4,4,4,5,5,5,5,5,5,5,5,5,5,5,5,5,5,5,5,6,6,6,6,6,6,6,6,6,6,6,6,6,6,6,6,6,6,6,6,6,6,6,6,6,6,6,6,6,6,6,6,7,7,7,7,7,7,7,7,7,7,7,7,7,7,7,7,7,7,7,7,7,7,7,7,7,7,7,7,7,7,7,7,7,7,7,7,7,7,7,7,7,7,7,7,7,7,7,7,7,7,7,7,7,7,7,7,7,7,7,7,7,7,7,7,8,8,8,8,8,8,8,8,8,8,8,8,8,8,8,8,8,8,8,8,8,8,8,8,8,8,8,8,8,8,8,8,8,8,8,8,8,8,8,8,8,8,8,8,8,8,8,8,8,8,8,8,8,8,8,8,8,8,8,8,8,8,8,8,8,8,8,8,8,8,8,8,8,8,8,8,8,8,8,8,8,8,8,8,8,8,8,8,8,8,8,8,8,8,8,8,8,8,8,8,8,8,8,8,8,8,8,8,8,8,8,8,8,8,8,8,8,8,8,8,8,8,8,8,8,8,8,8]⟩) (IntKind.u8.wrap v5)).bind fun x1=>some (i64.wrap (v6+(i64.wrap x1)))
def bits_Len (a0:Int):Option Int:=
 (bits_Len64 a0).bind fun r1=>some r1
def cmp_isNaN_int (a0:Int):Option Bool:=
 some (a0 != (a0:Int))
def cmp_Less_int (a0:Int) (a1:Int):Option Bool:=
 (cmp_isNaN_int a0).bind fun r1=>(bif r1 then (cmp_isNaN_int a1).bind fun r2=>(bif (!r2)then some true else some (decide (a0 < (a1:Int))))else some (decide (a0 < (a1:Int))))
def vW (n:Nat) (a0:(List Int)) (a1:Int) (a2:Int):Option (List Int):=
 jI cmp_Less_int (fun r=>r) n a0 a1 a2
def CR (n:Nat) (a0:(List Int)) (a1:Int) (a2:Int) (a3:Int):Option (List Int):=
 pM cmp_Less_int (fun r=>r) n a0 a1 a2 a3
def CU (n:Nat) (a0:(List Int)) (a1:Int) (a2:Int):Option (List Int):=
 wV cmp_Less_int (fun r=>r) n a0 a1 a2
def aM (a0:Int):Option Int:=
 (bits_Len (IntKind.u64.wrap a0)).bind fun r1=>bif (decide (0<=r1)&&decide (r1<=IntKind.u64.bits))then some (IntKind.u64.wrap (1*2 ^ (r1:Int).toNat))else none
def aN (a0:Int):Option (Int×Int):=
 bif (decide (0<=13)&&decide (13<=IntKind.u64.bits))then bif (decide (0<=7)&&decide (7<=IntKind.u64.bits))then bif (decide (0<=17)&&decide (17<=IntKind.u64.bits))then some ((bits .xor .u64 (bits .xor .u64 (bits .xor .u64 a0 (IntKind.u64.wrap (a0*2 ^ (13:Int).toNat))) ((bits .xor .u64 a0 (IntKind.u64.wrap (a0*2 ^ (13:Int).toNat)))/2 ^ (7:Int).toNat)) (IntKind.u64.wrap ((bits .xor .u64 (bits .xor .u64 a0 (IntKind.u64.wrap (a0*2 ^ (13:Int).toNat))) ((bits .xor .u64 a0 (IntKind.u64.wrap (a0*2 ^ (13:Int).toNat)))/2 ^ (7:Int).toNat))*2 ^ (17:Int).toNat))),(bits .xor .u64 (bits .xor .u64 (bits .xor .u64 a0 (IntKind.u64.wrap (a0*2 ^ (13:Int).toNat))) ((bits .xor .u64 a0 (IntKind.u64.wrap (a0*2 ^ (13:Int).toNat)))/2 ^ (7:Int).toNat)) (IntKind.u64.wrap ((bits .xor .u64 (bits .xor .u64 a0 (IntKind.u64.wrap (a0*2 ^ (13:Int).toNat))) ((bits .xor .u64 a0 (IntKind.u64.wrap (a0*2 ^ (13:Int).toNat)))/2 ^ (7:Int).toNat))*2 ^ (17:Int).toNat))))else none else none else none
def vX (n:Nat) (a0:(List Int)) (a1:Int) (a2:Int):Option (List Int):=
 iB aM aN n a0 a1 a2
def EZ (a0:(List Int)) (a1:Int) (a2:Int) (a3:Int):Option (Int×Int×Int):=
 zf cmp_Less_int (fun r=>r) a0 a1 a2 a3
def E8 (a0:(List Int)) (a1:Int) (a2:Int) (a3:Int) (a4:Int):Option (Int×Int):=
 vU cmp_Less_int (fun r=>r) a0 a1 a2 a3 a4
def uY (a0:(List Int)) (a1:Int) (a2:Int):Option (Int×Int):=
 dh cmp_Less_int (fun r=>r) a0 a1 a2
def yD (a0:(List Int)) (a1:Int) (a2:Int):Option (Int×Int):=
 mI cmp_Less_int (fun r=>r) a0 a1 a2
def xO (n:Nat) (a0:(List Int)) (a1:Int) (a2:Int):Option (List Int):=
 jv n a0 a1 a2
def oV (n:Nat) (a0:(List Int)) (a1:Int) (a2:Int):Option (Bool×(List Int)):=
 dI cmp_Less_int (fun r=>r) n a0 a1 a2
def uZ (n:Nat) (a0:(List Int)) (a1:Int) (a2:Int) (a3:Int):Option (Int×(List Int)):=
 gK cmp_Less_int (fun r=>r) n a0 a1 a2 a3
def Bj (n:Nat) (a0:(List Int)) (a1:Int) (a2:Int) (a3:Int):Option (Int×Bool×(List Int)):=
 oQ cmp_Less_int (fun r=>r) n a0 a1 a2 a3
def jJ (n:Nat) (rc:((List Int))->(Int)->(Int)->(Int)->Option (List Int)) (a0:(List Int)) (a1:Int) (a2:Int) (a3:Int):Option (List Int):=
 iC cmp_Less_int (fun r=>r) aM aN n rc a0 a1 a2 a3
def jA (rc:((List Int))->(Int)->(Int)->(Int)->Option (List Int)):Sig xx:=⟨[.mut (.int .i64),.d (.int .i64),.d (.int .i64),.d (.int .i64)],[.mu (.int .i64)],fun a=>rc a.1 a.2.1 a.2.2.1 a.2.2.2.1,none⟩
def dZ (n:Nat):Nat->((List Int))->(Int)->(Int)->(Int)->Option (List Int)
 | 0=>fun _ _ _ _=>none
 |m+1=>jJ n (dZ n m)
def lF (n:Nat) (a0:(List Int)) (a1:Int) (a2:Int) (a3:Int):Option (List Int):=dZ n n a0 a1 a2 a3
def j4 (n:Nat) (a0:(List Int)):Option (List Int):=
 (bits_Len (IntKind.u64.wrap ((a0.length:Nat):Int))).bind fun r1=>bif eqL a0.length a0.length then (lF n a0 0 ((a0.length:Nat):Int) r1).bind fun r2=>some r2 else none
def Ky (a0:(List Int)) (v1:Int):(Int×Int×(List Int))->Option ((Int×Int×(List Int)) ⊕ (Int×(List Int)))
 |(v2,v3,v4)=>(bif (decide (v3 < ((((a0.length - (v1:Int).toNat):Nat):Int):Int)))then (bif inb v3 (a0.length - (v1:Int).toNat)then (at? v4 (((0+(v1:Int).toNat):Nat)+v3:Int)).bind fun x3=>bif inb (i64.wrap (v3 - 1)) (a0.length - (v1:Int).toNat)then (at? v4 (((0+(v1:Int).toNat):Nat)+(i64.wrap (v3 - 1)):Int)).bind fun x4=>(bif (x3 != (x4:Int))then bif inb v3 (a0.length - (v1:Int).toNat)then (at? v4 (((0+(v1:Int).toNat):Nat)+v3:Int)).bind fun x5=>bif inb v2 a0.length then (at? v4 ((0:Nat)+v2:Int)).bind fun x6=>some ((i64.wrap (v2+1)),(v4.set ((0:Nat)+v2:Int).toNat x5))else none else none else some (v2,v4))else none else none:Option (Int×(List Int))).bind fun (v5,v6)=>some (.inl (v5,(i64.wrap (v3+1)),v6))else some (.inr (v2,v4)))
def Kz (n:Nat) (a0:(List Int)):Int->Option (Int ⊕ (Unit ⊕ (Unit×(List Int))))
 |v1=>(bif (decide (v1 < (((a0.length:Nat):Int):Int)))then bif inb v1 a0.length then (at? a0 ((0:Nat)+v1:Int)).bind fun x1=>bif inb (i64.wrap (v1 - 1)) a0.length then (at? a0 ((0:Nat)+(i64.wrap (v1 - 1)):Int)).bind fun x2=>(bif (x1==(x2:Int))then bif AR v1 ((a0.length:Nat):Int) a0.length then (iter (Ky a0 v1) n (v1,(1:Int),a0)).bind fun (w1,w2)=>bif AR w1 ((a0.length:Nat):Int) a0.length then bif AR 0 w1 a0.length then (bif eqL ((w1:Int).toNat) ((w1:Int).toNat)then bif eqL (sub (w2.take (0+(w1:Int).toNat)) 0 ((w1:Int).toNat)).length ((w1:Int).toNat)then some ((),(sub (w2.take (0+(w1:Int).toNat)) 0 ((w1:Int).toNat)))else none else none).map fun a=> .inr (.inr a)else none else none else none else some (.inl (i64.wrap (v1+1))))else none else none else some (.inr (.inl ())))
def jK (n:Nat) (a0:(List Int)):Option (Unit×(List Int)):=
 (bif (decide (((a0.length:Nat):Int) < (2:Int)))then bif eqL a0.length a0.length then bif eqL (sub a0 0 a0.length).length a0.length then some ((),(sub a0 0 a0.length))else none else none else dw (iter (Kz n a0) n (1:Int)) fun ()=>bif eqL a0.length a0.length then bif eqL (sub a0 0 a0.length).length a0.length then some ((),(sub a0 0 a0.length))else none else none)
def u6 (n:Nat) (a0:(List aC)) (a1:Int) (a2:Int) (a3:(aC×aC×Unit)->Option Int):Option (List aC):=
 jI (fun x y=>a3 (x,y,())) (fun r=>decide (r < 0)) n a0 a1 a2
def Bl (n:Nat) (a0:(List aC)) (a1:Int) (a2:Int) (a3:Int) (a4:(aC×aC×Unit)->Option Int):Option (List aC):=
 pM (fun x y=>a4 (x,y,())) (fun r=>decide (r < 0)) n a0 a1 a2 a3
def Bn (n:Nat) (a0:(List aC)) (a1:Int) (a2:Int) (a3:(aC×aC×Unit)->Option Int):Option (List aC):=
 wV (fun x y=>a3 (x,y,())) (fun r=>decide (r < 0)) n a0 a1 a2
def u7 (n:Nat) (a0:(List aC)) (a1:Int) (a2:Int) (a3:(aC×aC×Unit)->Option Int):Option (List aC):=
 iB aM aN n a0 a1 a2
def D6 (a0:(List aC)) (a1:Int) (a2:Int) (a3:Int) (a4:(aC×aC×Unit)->Option Int):Option (Int×Int×Int):=
 zf (fun x y=>a4 (x,y,())) (fun r=>decide (r < 0)) a0 a1 a2 a3
def D7 (a0:(List aC)) (a1:Int) (a2:Int) (a3:Int) (a4:Int) (a5:(aC×aC×Unit)->Option Int):Option (Int×Int):=
 vU (fun x y=>a5 (x,y,())) (fun r=>decide (r < 0)) a0 a1 a2 a3 a4
def uh (a0:(List aC)) (a1:Int) (a2:Int) (a3:(aC×aC×Unit)->Option Int):Option (Int×Int):=
 dh (fun x y=>a3 (x,y,())) (fun r=>decide (r < 0)) a0 a1 a2
def xP (a0:(List aC)) (a1:Int) (a2:Int) (a3:(aC×aC×Unit)->Option Int):Option (Int×Int):=
 mI (fun x y=>a3 (x,y,())) (fun r=>decide (r < 0)) a0 a1 a2
def vY (n:Nat) (a0:(List aC)) (a1:Int) (a2:Int) (a3:(aC×aC×Unit)->Option Int):Option (List aC):=
 jv n a0 a1 a2
def nZ (n:Nat) (a0:(List aC)) (a1:Int) (a2:Int) (a3:(aC×aC×Unit)->Option Int):Option (Bool×(List aC)):=
 dI (fun x y=>a3 (x,y,())) (fun r=>decide (r < 0)) n a0 a1 a2
def uj (n:Nat) (a0:(List aC)) (a1:Int) (a2:Int) (a3:Int) (a4:(aC×aC×Unit)->Option Int):Option (Int×(List aC)):=
 gK (fun x y=>a4 (x,y,())) (fun r=>decide (r < 0)) n a0 a1 a2 a3
def zW (n:Nat) (a0:(List aC)) (a1:Int) (a2:Int) (a3:Int) (a4:(aC×aC×Unit)->Option Int):Option (Int×Bool×(List aC)):=
 oQ (fun x y=>a4 (x,y,())) (fun r=>decide (r < 0)) n a0 a1 a2 a3
def fK (n:Nat) (rc:((List aC))->(Int)->(Int)->(Int)->((aC×aC×Unit)->Option Int)->Option (List aC)) (a0:(List aC)) (a1:Int) (a2:Int) (a3:Int) (a4:(aC×aC×Unit)->Option Int):Option (List aC):=
 iC (fun x y=>a4 (x,y,())) (fun r=>decide (r < 0)) aM aN n (fun l a b d=>rc l a b d a4) a0 a1 a2 a3
def iL (rc:((List aC))->(Int)->(Int)->(Int)->((aC×aC×Unit)->Option Int)->Option (List aC)):Sig xx:=⟨[.mut (.st SI.span),.d (.int .i64),.d (.int .i64),.d (.int .i64),.clo [(.st SI.span),(.st SI.span)] (.int .i64)],[.mu (.st SI.span)],fun a=>rc a.1 a.2.1 a.2.2.1 a.2.2.2.1 a.2.2.2.2.1,none⟩
def cu (n:Nat):Nat->((List aC))->(Int)->(Int)->(Int)->((aC×aC×Unit)->Option Int)->Option (List aC)
 | 0=>fun _ _ _ _ _=>none
 |m+1=>fK n (cu n m)
def kE (n:Nat) (a0:(List aC)) (a1:Int) (a2:Int) (a3:Int) (a4:(aC×aC×Unit)->Option Int):Option (List aC):=cu n n a0 a1 a2 a3 a4
def mK (n:Nat) (a0:(List aC)) (a1:(aC×aC×Unit)->Option Int):Option (List aC):=
 (bits_Len (IntKind.u64.wrap ((a0.length:Nat):Int))).bind fun r1=>bif eqL a0.length a0.length then (kE n a0 0 ((a0.length:Nat):Int) r1 a1).bind fun r2=>some r2 else none
def cmp_Compare_int (a0:Int) (a1:Int):Option Int:=
 (cmp_isNaN_int a0).bind fun r1=>(cmp_isNaN_int a1).bind fun r2=>(bif r1 then (bif r2 then some (0:Int)else some ((-1):Int))else (bif r2 then some (1:Int)else (bif (decide (a0 < (a1:Int)))then some ((-1):Int)else (bif (decide (a0>(a1:Int)))then some (1:Int)else some (0:Int)))))
def vZ (a0:aC) (a1:aC):Option Int:=
 (cmp_Compare_int a0.from_ a1.from_).bind fun r1=>some r1
def qo (a0:(List aj)) (a1:Int):(Int×(List aC))->Option ((Int×(List aC)) ⊕ (List aC))
 |(v1,v2)=>(bif (decide (v1 < ((a0.length:Int):Int)))then ((at? a0 v1).bind fun x1=>((bif (decide (x1.x0<=(a1:Int)))then some (decide (a1 < (x1.x1:Int)))else some false):Option (Bool)).bind fun v3=>(bif v3 then bif bG v2.length v2.length (sub ([(aC.mk x1.y0 x1.y1)]:List aC) 0 1).length 1 16 then lD (v2++(sub ([(aC.mk x1.y0 x1.y1)]:List aC) 0 1)) fun r1=>bif eqL r1.length r1.length then some r1 else none else none else bif eqL v2.length v2.length then some v2 else none):Option ((List aC))).bind fun v4=>bif eqL v4.length v4.length then some (.inl ((i64.wrap (v1+1)),v4))else none else bif eqL v2.length v2.length then some (.inr v2)else none)
def qp (w1:(List aC)) (r2:(List aC)):(Int×(List aC))->Option ((Int×(List aC)) ⊕ (List aC))
 |(v5,v6)=>(bif (decide (v5 < (((w1.length:Nat):Int):Int)))then (bif inb v5 w1.length then (at? r2 ((0:Nat)+v5:Int)).bind fun x2=>((bif (decide (((v6.length:Nat):Int)>(0:Int)))then bif inb (i64.wrap (((v6.length:Nat):Int) - 1)) v6.length then (at? v6 ((0:Nat)+(i64.wrap (((v6.length:Nat):Int) - 1)):Int)).bind fun x3=>some (decide (x2.from_<=(x3.to:Int)))else none else some false):Option (Bool)).bind fun v7=>(bif v7 then bif inb (i64.wrap (((v6.length:Nat):Int) - 1)) v6.length then (at? v6 ((0:Nat)+(i64.wrap (((v6.length:Nat):Int) - 1)):Int)).bind fun x4=>bif inb (i64.wrap (((v6.length:Nat):Int) - 1)) v6.length then (at? v6 ((0:Nat)+(i64.wrap (((v6.length:Nat):Int) - 1)):Int)).bind fun x5=>bif eqL v6.length (v6.set ((0:Nat)+(i64.wrap (((v6.length:Nat):Int) - 1)):Int).toNat (aC.mk x5.from_ (max x4.to x2.to))).length then some (v6.set ((0:Nat)+(i64.wrap (((v6.length:Nat):Int) - 1)):Int).toNat (aC.mk x5.from_ (max x4.to x2.to)))else none else none else none else bif bG v6.length v6.length (sub ([x2]:List aC) 0 1).length 1 16 then lD (v6++(sub ([x2]:List aC) 0 1)) fun r3=>bif eqL r3.length r3.length then some r3 else none else none)else none:Option ((List aC))).bind fun v8=>bif eqL v8.length v8.length then some (.inl ((i64.wrap (v5+1)),v8))else none else bif eqL v6.length v6.length then some (.inr v6)else none)
def Gs (n:Nat) (a0:(List aj)) (a1:Int):Option (List aC):=
 bif eqL 0 ([]:List aC).length then (iter (qo a0 a1) n ((0:Int),([]:List aC))).bind fun w1=>bif eqL w1.length w1.length then (mK n w1 (fun (y1:aC×aC×Unit)=>vZ y1.1 y1.2.1)).bind fun r2=>bif eqL 0 ([]:List aC).length then (iter (qp w1 r2) n ((0:Int),([]:List aC))).bind fun w2=>bif eqL (sub w2 0 w2.length).length w2.length then some (sub w2 0 w2.length)else none else none else none else none
def qw (r1:(List aj)):(Int×(List Int))->Option ((Int×(List Int)) ⊕ (List Int))
 |(v1,v2)=>(bif (decide (v1 < (((r1.length:Nat):Int):Int)))then bif inb v1 r1.length then (at? r1 ((0:Nat)+v1:Int)).bind fun x1=>bif bG v2.length v2.length (sub ([x1.x0,x1.x1]:List Int) 0 2).length 2 8 then lD (v2++(sub ([x1.x0,x1.x1]:List Int) 0 2)) fun r2=>bif eqL r2.length r2.length then some (.inl ((i64.wrap (v1+1)),r2))else none else none else none else bif eqL v2.length v2.length then some (.inr v2)else none)
def qx (n:Nat) (r1:(List aj)) (r4:Unit×(List Int)):(Int×(List aI))->Option ((Int×(List aI)) ⊕ (List aI))
 |(v3,v4)=>(bif (decide (v3 < (((r4.2.length:Nat):Int):Int)))then bif inb (i64.wrap (v3 - 1)) r4.2.length then (at? r4.2 ((0:Nat)+(i64.wrap (v3 - 1)):Int)).bind fun x2=>bif inb v3 r4.2.length then (at? r4.2 ((0:Nat)+v3:Int)).bind fun x3=>bif inb (i64.wrap (v3 - 1)) r4.2.length then (at? r4.2 ((0:Nat)+(i64.wrap (v3 - 1)):Int)).bind fun x4=>bif eqL (sub r1 0 r1.length).length r1.length then (Gs n (sub r1 0 r1.length) x4).bind fun r5=>bif eqL (sub r5 0 r5.length).length r5.length then bif bG v4.length v4.length (sub ([(aI.mk x2 x3 (sub r5 0 r5.length))]:List aI) 0 1).length 1 40 then lD (v4++(sub ([(aI.mk x2 x3 (sub r5 0 r5.length))]:List aI) 0 1)) fun r6=>bif eqL r6.length r6.length then some (.inl ((i64.wrap (v3+1)),r6))else none else none else none else none else none else none else none else bif eqL v4.length v4.length then some (.inr v4)else none)
def Gt (n:Nat) (a0:(List (List aj))):Option (List aI):=
 (xN n a0).bind fun r1=>bif eqL 0 ([]:List Int).length then (iter (qw r1) n ((0:Int),([]:List Int))).bind fun w1=>bif eqL w1.length w1.length then (j4 n w1).bind fun r3=>bif eqL w1.length r3.length then (jK n r3).bind fun r4=>bif eqL 0 ([]:List aI).length then (iter (qx n r1 r4) n ((1:Int),([]:List aI))).bind fun w2=>bif eqL (sub w2 0 w2.length).length w2.length then some (sub w2 0 w2.length)else none else none else none else none else none
def Mw (a0:(List aC)) (a1:(List aC)):Int->Option (Int ⊕ (Unit ⊕ Bool))
 |v1=>(bif (decide (v1 < ((a0.length:Int):Int)))then (at? a0 v1).bind fun x1=>(at? a1 v1).bind fun x2=>(bif (!((x1.from_==(x2.from_:Int))&&((x1.to==(x2.to:Int))&&true)))then (some false).map fun a=> .inr (.inr a)else some (.inl (i64.wrap (v1+1))))else some (.inr (.inl ())))
def sP (n:Nat) (a0:(List aC)) (a1:(List aC)):Option Bool:=
 (bif ((a0.length:Int) != ((a1.length:Int):Int))then some false else dw (iter (Mw a0 a1) n (0:Int)) fun ()=>some true)
def pR (n:Nat) (a0:(List aI)) (v1:Int):Int->Option (Int ⊕ Int)
 |v3=>((bif (decide (v3 < ((a0.length:Int):Int)))then (at? a0 v3).bind fun x1=>(at? a0 v1).bind fun x2=>(sP n x1.column x2.column).bind fun r1=>some r1 else some false):Option (Bool)).bind fun v4=>(bif v4 then some (.inl (i64.wrap (v3+1)))else some (.inr v3))
def ul (a0:(List aI)) (v1:Int) (w1:Int) (x3:aI):(Int×(List aj))->Option ((Int×(List aj)) ⊕ (List aj))
 |(v5,v6)=>(bif (decide (v5 < ((x3.column.length:Int):Int)))then (at? x3.column v5).bind fun x4=>(at? a0 v1).bind fun x5=>(at? a0 (i64.wrap (w1 - 1))).bind fun x6=>bif bG v6.length v6.length (sub ([(aj.mk x5.x0 x4.from_ x6.x1 x4.to)]:List aj) 0 1).length 1 32 then lD (v6++(sub ([(aj.mk x5.x0 x4.from_ x6.x1 x4.to)]:List aj) 0 1)) fun r2=>bif eqL r2.length r2.length then some (.inl ((i64.wrap (v5+1)),r2))else none else none else bif eqL v6.length v6.length then some (.inr v6)else none)
def um (n:Nat) (a0:(List aI)):(Int×(List aj))->Option ((Int×(List aj)) ⊕ (List aj))
 |(v1,v2)=>(bif (decide (v1 < ((a0.length:Int):Int)))then (iter (pR n a0 v1) n (i64.wrap (v1+1))).bind fun w1=>(at? a0 v1).bind fun x3=>bif eqL v2.length v2.length then (iter (ul a0 v1 w1 x3) n ((0:Int),v2)).bind fun w2=>bif eqL w2.length w2.length then some (.inl (w1,w2))else none else none else bif eqL v2.length v2.length then some (.inr v2)else none)
def KA (n:Nat) (a0:(List aI)):Option (List aj):=
 bif eqL 0 ([]:List aj).length then (iter (um n a0) n ((0:Int),([]:List aj))).bind fun w3=>bif eqL (sub w3 0 w3.length).length w3.length then some (sub w3 0 w3.length)else none else none
def IL (a0:(List aj)):Option ((List aj)×Int):=
 (bif (decide ((a0.length:Int)>(200:Int)))then some (([]:(List aj)),(6:Int))else some (a0,(0:Int)))
def KC (a0:(List aj)):Int->Option (Int ⊕ (Unit ⊕ ((List aj)×Int)))
 |v1=>(bif (decide (v1 < ((a0.length:Int):Int)))then (at? a0 v1).bind fun x1=>(vV x1).bind fun r1=>(bif (!r1)then (some (([]:(List aj)),(1:Int))).map fun a=> .inr (.inr a)else some (.inl (i64.wrap (v1+1))))else some (.inr (.inl ())))
def ac0 (n:Nat) (a0:(List aj)):Option ((List aj)×Int):=
 dw (iter (KC a0) n (0:Int)) fun ()=>(bif (decide ((a0.length:Int)>(400:Int)))then some (([]:(List aj)),(6:Int))else bif eqL (sub ([a0]:List (List aj)) 0 1).length 1 then (Gt n (sub ([a0]:List (List aj)) 0 1)).bind fun r2=>bif eqL (sub r2 0 r2.length).length r2.length then (KA n (sub r2 0 r2.length)).bind fun r3=>bif eqL (sub r3 0 r3.length).length r3.length then (IL (sub r3 0 r3.length)).bind fun r4=>some (r4.1,r4.2)else none else none else none)
def Mx (a0:(List aj)) (a1:(List aj)):Int->Option (Int ⊕ (Unit ⊕ Bool))
 |v1=>(bif (decide (v1 < ((a0.length:Int):Int)))then (at? a0 v1).bind fun x1=>(at? a1 v1).bind fun x2=>(bif (!((x1.x0==(x2.x0:Int))&&((x1.y0==(x2.y0:Int))&&((x1.x1==(x2.x1:Int))&&((x1.y1==(x2.y1:Int))&&true)))))then (some false).map fun a=> .inr (.inr a)else some (.inl (i64.wrap (v1+1))))else some (.inr (.inl ())))
def gY (n:Nat) (a0:(List aj)) (a1:(List aj)):Option Bool:=
 (bif ((a0.length:Int) != ((a1.length:Int):Int))then some false else dw (iter (Mx a0 a1) n (0:Int)) fun ()=>some true)
def kT (n:Nat) (a0:(List aj)):Option Bool:=
 (ac0 n a0).bind fun r1=>(bif (r1.2==(0:Int))then (gY n r1.1 a0).bind fun r2=>some r2 else some false)
def lG (a0:(List bM)):(Int×(List gB))->Option ((Int×(List gB)) ⊕ (List gB))
 |(v1,v2)=>(bif (decide (v1 < ((a0.length:Int):Int)))then (at? a0 v1).bind fun x1=>bif (a0.length:Int) != 0 then (at? a0 (Int.tmod (i64.wrap (v1+1)) (a0.length:Int))).bind fun x2=>bif inb v1 (((a0.length:Int):Int).toNat)then (at? v2 ((0:Nat)+v1:Int)).bind fun x3=>some (.inl ((i64.wrap (v1+1)),(v2.set ((0:Nat)+v1:Int).toNat (gB.mk x1.x x1.y x2.x x2.y))))else none else none else some (.inr v2))
def lX (n:Nat) (a0:(List bM)):Option (List gB):=
 bif (decide ((a0.length:Int)<=(a0.length:Int))&&(decide (0<=(a0.length:Int))&&O1 (a0.length:Int) 32))then (iter (lG a0) n ((0:Int),(List.replicate ((a0.length:Int):Int).toNat (gB.mk 0 0 0 0)))).bind fun w1=>bif eqL (sub w1 0 (((a0.length:Int):Int).toNat)).length (((a0.length:Int):Int).toNat)then some (sub w1 0 (((a0.length:Int):Int).toNat))else none else none
def qy (a0:bM):Option Bool:=
 (bif (decide (0<=(a0.x:Int)))then (bif (decide (a0.x<=(1048576:Int)))then (bif (decide (0<=(a0.y:Int)))then some (decide (a0.y<=(1048576:Int)))else some false)else some false)else some false)
def d9 (a0:gB):Option Bool:=
 some (a0.a_x==(a0.b_x:Int))
def sQ (a0:(List Int)):Int->Option (Int ⊕ (Unit ⊕ Int))
 |v1=>(bif (decide (v1 < ((a0.length:Int):Int)))then (at? a0 v1).bind fun x1=>(bif (x1 != (0:Int))then (some x1).map fun a=> .inr (.inr a)else some (.inl (i64.wrap (v1+1))))else some (.inr (.inl ())))
def oW (n:Nat) (a0:(List Int)):Option Int:=
 dw (iter (sQ a0) n (0:Int)) fun ()=>some (0:Int)
def oG (n:Nat) (a0:bM) (a1:bM):Option Int:=
 (cmp_Compare_int a0.x a1.x).bind fun r1=>(cmp_Compare_int a0.y a1.y).bind fun r2=>bif eqL (sub ([r1,r2]:List Int) 0 2).length 2 then (oW n (sub ([r1,r2]:List Int) 0 2)).bind fun r3=>some r3 else none
def jb (a0:gB) (a1:gB):Option Bool:=
 (bif (decide ((max (min a0.a_x a0.b_x) (min a1.a_x a1.b_x))<=((min (max a0.a_x a0.b_x) (max a1.a_x a1.b_x)):Int)))then some (decide ((max (min a0.a_y a0.b_y) (min a1.a_y a1.b_y))<=((min (max a0.a_y a0.b_y) (max a1.a_y a1.b_y)):Int)))else some false)
def mM (n:Nat) (a0:(List bM)) (r1:(List gB)):Int->Option (Int ⊕ (Unit ⊕ Bool))
 |v2=>(bif (decide (v2 < (((r1.length:Nat):Int):Int)))then bif inb v2 r1.length then (at? r1 ((0:Nat)+v2:Int)).bind fun x1=>bif ((r1.length:Nat):Int) != 0 then bif inb (Int.tmod (i64.wrap (v2+1)) ((r1.length:Nat):Int)) r1.length then (at? r1 ((0:Nat)+(Int.tmod (i64.wrap (v2+1)) ((r1.length:Nat):Int)):Int)).bind fun x2=>((qy (bM.mk x1.a_x x1.a_y)).bind fun r2=>(bif (!r2)then some true else (bif ((x1.a_x==(x1.b_x:Int))==(x1.a_y==(x1.b_y:Int)))then some true else (d9 x1).bind fun r3=>(d9 x2).bind fun r4=>some (r3==r4))):Option (Bool)).bind fun v3=>(bif v3 then (some false).map fun a=> .inr (.inr a)else ((bif (decide (v2>(0:Int)))then (at? a0 0).bind fun x3=>(at? a0 v2).bind fun x4=>(oG n x3 x4).bind fun r5=>some (decide (r5>=(0:Int)))else some false):Option (Bool)).bind fun v4=>(bif v4 then (some false).map fun a=> .inr (.inr a)else some (.inl (i64.wrap (v2+1)))))else none else none else none else some (.inr (.inl ())))
def fI (r1:(List gB)) (v5:Int):Int->Option (Int ⊕ (Unit ⊕ (Int ⊕ (Unit ⊕ Bool))))
 |v6=>(bif (decide (v6 < (((r1.length:Nat):Int):Int)))then ((bif (decide ((i64.wrap ((i64.wrap (v5+((r1.length:Nat):Int))) - v6))>(1:Int)))then bif inb v5 r1.length then (at? r1 ((0:Nat)+v5:Int)).bind fun x5=>bif inb v6 r1.length then (at? r1 ((0:Nat)+v6:Int)).bind fun x6=>(jb x5 x6).bind fun r6=>some r6 else none else none else some false):Option (Bool)).bind fun v7=>(bif v7 then ((some false).map fun a=> .inr (.inr a)).map fun a=> .inr (.inr a)else some (.inl (i64.wrap (v6+1))))else some (.inr (.inl ())))
def mO (n:Nat) (r1:(List gB)):Int->Option (Int ⊕ (Unit ⊕ Bool))
 |v5=>(bif (decide (v5 < (((r1.length:Nat):Int):Int)))then dw (iter (fI r1 v5) n (i64.wrap (v5+2))) fun ()=>some (.inl (i64.wrap (v5+1)))else some (.inr (.inl ())))
def sS (n:Nat) (a0:(List bM)):Option Bool:=
 ((bif (decide ((a0.length:Int) < (4:Int)))then some true else some (decide ((a0.length:Int)>(60:Int)))):Option (Bool)).bind fun v1=>(bif v1 then some false else (lX n a0).bind fun r1=>dw (iter (mM n a0 r1) n (0:Int)) fun ()=>dw (iter (mO n r1) n (0:Int)) fun ()=>bif inb 0 r1.length then (at? r1 ((0:Nat)+0:Int)).bind fun x7=>(d9 x7).bind fun r7=>some (!r7)else none)
def jc (a0:(List bM)):(Int×(List Int))->Option ((Int×(List Int)) ⊕ (List Int))
 |(v1,v2)=>(bif (decide (v1 < ((a0.length:Int):Int)))then (at? a0 v1).bind fun x1=>bif bG v2.length v2.length (sub ([x1.x]:List Int) 0 1).length 1 8 then lD (v2++(sub ([x1.x]:List Int) 0 1)) fun r2=>bif eqL r2.length r2.length then some (.inl ((i64.wrap (v1+1)),r2))else none else none else bif eqL v2.length v2.length then some (.inr v2)else none)
def jd (r4:Unit×(List Int)) (r5:(List gB)) (v3:Int):(Int×(List Int))->Option ((Int×(List Int)) ⊕ (List Int))
 |(v5,v6)=>(bif (decide (v5 < (((r5.length:Nat):Int):Int)))then (bif inb v5 r5.length then (at? r5 ((0:Nat)+v5:Int)).bind fun x2=>((d9 x2).bind fun r6=>(bif (!r6)then bif inb v3 r4.2.length then (at? r4.2 ((0:Nat)+v3:Int)).bind fun x3=>(bif (decide ((min x2.a_x x2.b_x)<=(x3:Int)))then bif inb v3 r4.2.length then (at? r4.2 ((0:Nat)+v3:Int)).bind fun x4=>some (decide (x4 < ((max x2.a_x x2.b_x):Int)))else none else some false)else none else some false):Option (Bool)).bind fun v7=>(bif v7 then bif bG v6.length v6.length (sub ([x2.a_y]:List Int) 0 1).length 1 8 then lD (v6++(sub ([x2.a_y]:List Int) 0 1)) fun r7=>bif eqL r7.length r7.length then some r7 else none else none else bif eqL v6.length v6.length then some v6 else none)else none:Option ((List Int))).bind fun v8=>bif eqL v8.length v8.length then some (.inl ((i64.wrap (v5+1)),v8))else none else bif eqL v6.length v6.length then some (.inr v6)else none)
def gF (r4:Unit×(List Int)) (v3:Int) (w2:(List Int)) (r8:(List Int)):(Int×(List aj))->Option ((Int×(List aj)) ⊕ (List aj))
 |(v9,v10)=>(bif (decide ((i64.wrap (v9+1)) < (((w2.length:Nat):Int):Int)))then bif inb v3 r4.2.length then (at? r4.2 ((0:Nat)+v3:Int)).bind fun x5=>bif inb v9 w2.length then (at? r8 ((0:Nat)+v9:Int)).bind fun x6=>bif inb (i64.wrap (v3+1)) r4.2.length then (at? r4.2 ((0:Nat)+(i64.wrap (v3+1)):Int)).bind fun x7=>bif inb (i64.wrap (v9+1)) w2.length then (at? r8 ((0:Nat)+(i64.wrap (v9+1)):Int)).bind fun x8=>bif bG v10.length v10.length (sub ([(aj.mk x5 x6 x7 x8)]:List aj) 0 1).length 1 32 then lD (v10++(sub ([(aj.mk x5 x6 x7 x8)]:List aj) 0 1)) fun r9=>bif eqL r9.length r9.length then some (.inl ((i64.wrap (v9+2)),r9))else none else none else none else none else none else none else bif eqL v10.length v10.length then some (.inr v10)else none)
def je (n:Nat) (r4:Unit×(List Int)) (r5:(List gB)):(Int×(List aj))->Option ((Int×(List aj)) ⊕ (List aj))
 |(v3,v4)=>(bif (decide (v3 < ((i64.wrap (((r4.2.length:Nat):Int) - 1)):Int)))then bif eqL 0 ([]:List Int).length then (iter (jd r4 r5 v3) n ((0:Int),([]:List Int))).bind fun w2=>bif eqL w2.length w2.length then (j4 n w2).bind fun r8=>bif eqL v4.length v4.length then (iter (gF r4 v3 w2 r8) n ((0:Int),v4)).bind fun w3=>bif eqL w3.length w3.length then some (.inl ((i64.wrap (v3+1)),w3))else none else none else none else none else bif eqL v4.length v4.length then some (.inr v4)else none)
def qz (n:Nat) (a0:(List bM)):Option ((List aj)×Int):=
 (sS n a0).bind fun r1=>(bif (!r1)then some (([]:(List aj)),(10:Int))else bif eqL 0 ([]:List Int).length then (iter (jc a0) n ((0:Int),([]:List Int))).bind fun w1=>bif eqL w1.length w1.length then (j4 n w1).bind fun r3=>bif eqL w1.length r3.length then (jK n r3).bind fun r4=>(lX n a0).bind fun r5=>bif eqL 0 ([]:List aj).length then (iter (je n r4 r5) n ((0:Int),([]:List aj))).bind fun w4=>(bif (decide (((w4.length:Nat):Int)>(200:Int)))then some (([]:(List aj)),(6:Int))else bif eqL (sub w4 0 w4.length).length w4.length then some ((sub w4 0 w4.length),(0:Int))else none)else none else none else none else none)
def wh (n:Nat) (a0:vL):Option (List aj):=
 (qz n a0.corners).bind fun r1=>(bif (r1.2 != (0:Int))then some ([]:(List aj))else bif eqL (sub r1.1 0 r1.1.length).length r1.1.length then some (sub r1.1 0 r1.1.length)else none)
def wW (a0:aj):Option (aj×Bool):=
 (vV a0).bind fun r1=>(bif r1 then some (a0,true)else some ((aj.mk 0 0 0 0),false))
def zi (a0:aj) (a1:aj):Option (aj×Bool):=
 ((vV a0).bind fun r1=>(bif (!r1)then some true else (vV a1).bind fun r2=>some (!r2)):Option (Bool)).bind fun v1=>(bif v1 then some ((aj.mk 0 0 0 0),false)else (wW (aj.mk (max a0.x0 a1.x0) (max a0.y0 a1.y0) (min a0.x1 a1.x1) (min a0.y1 a1.y1))).bind fun r3=>some (r3.1,r3.2))
def E9 (a0:aj):Option Int:=
 (wW a0).bind fun r1=>some (i64.wrap ((i64.wrap (r1.1.x1 - r1.1.x0))*(i64.wrap (r1.1.y1 - r1.1.y0))))
def mQ (n:Nat) (a1:(List aj)) (x1:aj):(Int×Int×Int×Int)->Option ((Int×Int×Int×Int) ⊕ (Int×Int×Int))
 |(v5,v6,v7,v8)=>(bif (decide (v6 < ((a1.length:Int):Int)))then ((at? a1 v6).bind fun x2=>(zi x1 x2).bind fun r1=>(bif (!r1.2)then some (v5,v7,v8)else (E9 r1.1).bind fun r2=>(cmp_Compare_int r1.1.x0 v7).bind fun r3=>(cmp_Compare_int r1.1.y0 v8).bind fun r4=>bif eqL (sub ([r3,r4]:List Int) 0 2).length 2 then (oW n (sub ([r3,r4]:List Int) 0 2)).bind fun r5=>(bif (decide (r5 < (0:Int)))then some ((i64.wrap (v5+r2)),r1.1.x0,r1.1.y0)else some ((i64.wrap (v5+r2)),v7,v8))else none):Option (Int×Int×Int)).bind fun (v9,v10,v11)=>some (.inl (v9,(i64.wrap (v6+1)),v10,v11))else some (.inr (v5,v7,v8)))
def mR (n:Nat) (a0:(List aj)) (a1:(List aj)):(Int×Int×Int×Int)->Option ((Int×Int×Int×Int) ⊕ (Int×Int×Int))
 |(v1,v2,v3,v4)=>(bif (decide (v2 < ((a0.length:Int):Int)))then (at? a0 v2).bind fun x1=>(iter (mQ n a1 x1) n (v1,(0:Int),v3,v4)).bind fun (w1,w2,w3)=>some (.inl (w1,(i64.wrap (v2+1)),w2,w3))else some (.inr (v1,v3,v4)))
def sU (n:Nat) (a0:(List aj)) (a1:(List aj)):Option (Int×bM):=
 (iter (mR n a0 a1) n ((0:Int),(0:Int),(1048576:Int),(0:Int))).bind fun (w4,w5,w6)=>some (w4,(bM.mk w5 w6))
def mU (n:Nat) (a0:xM) (a1:(List aj)):(Int×(List Int))->Option ((Int×(List Int)) ⊕ (List Int))
 |(v1,v2)=>(bif (decide (v1 < ((a0.zones.length:Int):Int)))then (at? a0.zones v1).bind fun x1=>(wh n x1).bind fun r2=>bif eqL (sub r2 0 r2.length).length r2.length then (sU n a1 (sub r2 0 r2.length)).bind fun r3=>bif bG v2.length v2.length (sub ([r3.1]:List Int) 0 1).length 1 8 then lD (v2++(sub ([r3.1]:List Int) 0 1)) fun r4=>bif eqL r4.length r4.length then some (.inl ((i64.wrap (v1+1)),r4))else none else none else none else bif eqL v2.length v2.length then some (.inr v2)else none)
def sV (n:Nat) (a0:xM) (a1:(List aj)):Option (List Int):=
 (kT n a1).bind fun r1=>(bif (!r1)then some ([]:(List Int))else bif eqL 0 ([]:List Int).length then (iter (mU n a0 a1) n ((0:Int),([]:List Int))).bind fun w1=>bif eqL (sub w1 0 w1.length).length w1.length then some (sub w1 0 w1.length)else none else none)
def mV (a0:xM) (r1:(List Int)):(Int×Int)->Option ((Int×Int) ⊕ Int)
 |(v1,v2)=>(bif (decide (v2 < (((r1.length:Nat):Int):Int)))then (bif inb v2 r1.length then (at? r1 ((0:Nat)+v2:Int)).bind fun x1=>((at? a0.zones v2).bind fun x2=>(bif (!x2.overlay)then (bif (decide (x1>(0:Int)))then (bif (decide (v1 < (0:Int)))then some true else bif inb v1 r1.length then (at? r1 ((0:Nat)+v1:Int)).bind fun x3=>some (decide (x1>(x3:Int)))else none)else some false)else some false):Option (Bool)).bind fun v3=>(bif v3 then some v2 else some v1)else none:Option (Int)).bind fun v4=>some (.inl (v4,(i64.wrap (v2+1))))else some (.inr v1))
def wo (a0:xM) (r1:(List Int)) (w1:Int):(Int×(List ByteArray))->Option ((Int×(List ByteArray)) ⊕ (List ByteArray))
 |(v5,v6)=>(bif (decide (v5 < (((r1.length:Nat):Int):Int)))then (bif inb v5 r1.length then (at? r1 ((0:Nat)+v5:Int)).bind fun x4=>((bif (v5==(w1:Int))then some true else (at? a0.zones v5).bind fun x5=>(bif x5.overlay then some (decide (x4>(0:Int)))else some false)):Option (Bool)).bind fun v7=>(bif v7 then (at? a0.zones v5).bind fun x6=>bif bG v6.length v6.length (sub ([x6.name]:List ByteArray) 0 1).length 1 16 then lD (v6++(sub ([x6.name]:List ByteArray) 0 1)) fun r2=>bif eqL r2.length r2.length then some r2 else none else none else bif eqL v6.length v6.length then some v6 else none)else none:Option ((List ByteArray))).bind fun v8=>bif eqL v8.length v8.length then some (.inl ((i64.wrap (v5+1)),v8))else none else bif eqL v6.length v6.length then some (.inr v6)else none)
def Gu (n:Nat) (a0:xM) (a1:(List aj)):Option (List ByteArray):=
 (sV n a0 a1).bind fun r1=>(iter (mV a0 r1) n (((-1):Int),(0:Int))).bind fun w1=>bif eqL 0 ([]:List ByteArray).length then (iter (wo a0 r1 w1) n ((0:Int),([]:List ByteArray))).bind fun w2=>bif eqL (sub w2 0 w2.length).length w2.length then some (sub w2 0 w2.length)else none else none
def IQ (a0:(List ByteArray)) (a1:ByteArray):Int->Option (Int ⊕ (Unit ⊕ Int))
 |v1=>(bif (decide (v1 < ((a0.length:Int):Int)))then (at? a0 v1).bind fun x1=>(bif (ByteArray.toList a1==ByteArray.toList x1)then (some v1).map fun a=> .inr (.inr a)else some (.inl (i64.wrap (v1+1))))else some (.inr (.inl ())))
def ve (n:Nat) (a0:(List ByteArray)) (a1:ByteArray):Option Int:=
 dw (iter (IQ a0 a1) n (0:Int)) fun ()=>some ((-1):Int)
def kF (n:Nat) (a0:(List ByteArray)) (a1:ByteArray):Option Bool:=
 (ve n a0 a1).bind fun r1=>some (decide (r1>=(0:Int)))
def iq (n:Nat) (a0:ByteArray) (a1:(List ByteArray)):Option Bool:=
 (kF n a1 a0).bind fun r1=>some r1
def CV (a0:(List ByteArray)) (a1:(ByteArray×Unit)->Option Bool):Int->Option (Int ⊕ (Unit ⊕ Int))
 |v1=>(bif (decide (v1 < ((a0.length:Int):Int)))then (at? a0 v1).bind fun x1=>(a1 (x1,())).bind fun r1=>(bif r1 then (some v1).map fun a=> .inr (.inr a)else some (.inl (i64.wrap (v1+1))))else some (.inr (.inl ())))
def nN (n:Nat) (a0:(List ByteArray)) (a1:(ByteArray×Unit)->Option Bool):Option Int:=
 dw (iter (CV a0 a1) n (0:Int)) fun ()=>some ((-1):Int)
def dP (n:Nat) (a0:(List ByteArray)) (a1:(ByteArray×Unit)->Option Bool):Option Bool:=
 (nN n a0 a1).bind fun r1=>some (decide (r1>=(0:Int)))
def og (n:Nat) (a0:eU) (a1:(List ByteArray)):Option Bool:=
 (bif ((a0.zones.length:Int)==(0:Int))then (dP n a0.except (fun (y1:ByteArray×Unit)=>iq n y1.1 a1)).bind fun r1=>some (!r1)else (dP n a0.zones (fun (y2:ByteArray×Unit)=>iq n y2.1 a1)).bind fun r2=>(bif r2 then (dP n a0.except (fun (y3:ByteArray×Unit)=>iq n y3.1 a1)).bind fun r3=>some (!r3)else some false))
def oH (n:Nat) (a0:xM) (a1:(List ByteArray)) (a2:Int):(Int×(List Int))->Option ((Int×(List Int)) ⊕ (List Int))
 |(v1,v2)=>(bif (decide (v1 < ((a0.rules.length:Int):Int)))then ((at? a0.rules v1).bind fun x1=>((bif (decide (x1.from_<=(a2:Int)))then (bif (x1.until_==(0:Int))then (og n x1 a1).bind fun r1=>some r1 else (bif (decide (a2 < (x1.until_:Int)))then (og n x1 a1).bind fun r2=>some r2 else some false))else some false):Option (Bool)).bind fun v3=>(bif v3 then bif bG v2.length v2.length (sub ([v1]:List Int) 0 1).length 1 8 then lD (v2++(sub ([v1]:List Int) 0 1)) fun r3=>bif eqL r3.length r3.length then some r3 else none else none else bif eqL v2.length v2.length then some v2 else none):Option ((List Int))).bind fun v4=>bif eqL v4.length v4.length then some (.inl ((i64.wrap (v1+1)),v4))else none else bif eqL v2.length v2.length then some (.inr v2)else none)
def wu (n:Nat) (a0:xM) (a1:(List ByteArray)) (a2:Int):Option (List Int):=
 bif eqL 0 ([]:List Int).length then (iter (oH n a0 a1 a2) n ((0:Int),([]:List Int))).bind fun w1=>bif eqL (sub w1 0 w1.length).length w1.length then some (sub w1 0 w1.length)else none else none
def lH (a0:dR) (r3:(List Int)):(Int×(List eU))->Option ((Int×(List eU)) ⊕ (List eU))
 |(v1,v2)=>(bif (decide (v1 < (((r3.length:Nat):Int):Int)))then bif inb v1 r3.length then (at? r3 ((0:Nat)+v1:Int)).bind fun x1=>(at? a0.plan_rules x1).bind fun x2=>bif bG v2.length v2.length (sub ([x2]:List eU) 0 1).length 1 232 then lD (v2++(sub ([x2]:List eU) 0 1)) fun r4=>bif eqL r4.length r4.length then some (.inl ((i64.wrap (v1+1)),r4))else none else none else none else bif eqL v2.length v2.length then some (.inr v2)else none)
def lY (n:Nat) (a0:dR) (a1:Int) (a2:Int):Option (List eU):=
 (CQ n a0.land a1).bind fun r1=>(bif (!r1.2)then some ([]:(List eU))else (Gu n (xM.mk a0.plan_defs a0.plan_tables a0.plan_zones a0.plan_rules a0.plan_caps a0.plan_views a0.plan_sun a0.plan_hours) r1.1.area).bind fun r2=>bif eqL (sub r2 0 r2.length).length r2.length then (wu n (xM.mk a0.plan_defs a0.plan_tables a0.plan_zones a0.plan_rules a0.plan_caps a0.plan_views a0.plan_sun a0.plan_hours) (sub r2 0 r2.length) a2).bind fun r3=>bif eqL 0 ([]:List eU).length then (iter (lH a0 r3) n ((0:Int),([]:List eU))).bind fun w1=>bif eqL (sub w1 0 w1.length).length w1.length then some (sub w1 0 w1.length)else none else none else none)
def mW (a0:eU):Option (Int×Bool):=
 ((bif (a0.kind != (0:Int))then some true else (bif (a0.test_op != (12:Int))then some true else some ((a0.test_args.length:Int) != (2:Int)))):Option (Bool)).bind fun v1=>(bif v1 then some ((0:Int),false)else (at? a0.test_args 0).bind fun x1=>(at? a0.test_args 1).bind fun x2=>((bif (x1.op==(0:Int))then (bif ((x1.args.length:Int)==(0:Int))then (bif (x2.op==(1:Int))then (bif (ByteArray.toList x2.s==ByteArray.toList (⟨#[115,101,116,98,97,99,107]⟩))then some ((x2.args.length:Int)==(0:Int))else some false)else some false)else some false)else some false):Option (Bool)).bind fun v2=>some (x1.n,v2))
def jf (r1:(List eU)):(Int×Int)->Option ((Int×Int) ⊕ Int)
 |(v1,v2)=>(bif (decide (v2 < (((r1.length:Nat):Int):Int)))then (bif inb v2 r1.length then (at? r1 ((0:Nat)+v2:Int)).bind fun x1=>(mW x1).bind fun r2=>(bif r2.2 then some (max v1 r2.1)else some v1)else none:Option (Int)).bind fun v3=>some (.inl (v3,(i64.wrap (v2+1))))else some (.inr v1))
def jg (n:Nat) (a0:dR) (a1:Int) (a2:Int):Option Int:=
 (lY n a0 a1 a2).bind fun r1=>(iter (jf r1) n ((0:Int),(0:Int))).bind fun w1=>some w1
def Sq (n:Nat) (a0:(List aj)) (a1:Int):Option Bool:=
 (bif (decide (a1>=(0:Int)))then (bif (decide (a1<=(1048576:Int)))then (kT n a0).bind fun r1=>some r1 else some false)else some false)
noncomputable def fQ (d:Int) (l:List aX) (r:aj):List aX:=
 let l1:=match l.getLast? with
  |some c=>if c.x0=r.x0 then l else l++[⟨r.x0,r.x1,[]⟩]
  |none=>[⟨r.x0,r.x1,[]⟩]
 if i64.wrap (r.y0+d) < i64.wrap (r.y1 - d)then
  match l1.getLast? with
  |some c=>l1.dropLast++[⟨c.x0,c.x1,c.column++[⟨i64.wrap (r.y0+d),i64.wrap (r.y1 - d)⟩]⟩]
  |none=>l1
 else l1
noncomputable def Fa (a:List aj) (d:Int):Option (List aX):=if a.length < 500000 then some (a.foldl (fQ d) [])else none
def qC (a1:(List aK)) (x1:aK):(Int×(List aK))->Option ((Int×(List aK)) ⊕ (List aK))
 |(v3,v4)=>(bif (decide (v3 < ((a1.length:Int):Int)))then ((at? a1 v3).bind fun x2=>(bif (decide ((max x1.from_ x2.from_) < ((min x1.to x2.to):Int)))then bif bG v4.length v4.length (sub ([(aK.mk (max x1.from_ x2.from_) (min x1.to x2.to))]:List aK) 0 1).length 1 16 then lD (v4++(sub ([(aK.mk (max x1.from_ x2.from_) (min x1.to x2.to))]:List aK) 0 1)) fun r1=>bif eqL r1.length r1.length then some r1 else none else none else bif eqL v4.length v4.length then some v4 else none):Option ((List aK))).bind fun v5=>bif eqL v5.length v5.length then some (.inl ((i64.wrap (v3+1)),v5))else none else bif eqL v4.length v4.length then some (.inr v4)else none)
def wB (n:Nat) (a0:(List aK)) (a1:(List aK)):(Int×(List aK))->Option ((Int×(List aK)) ⊕ (List aK))
 |(v1,v2)=>(bif (decide (v1 < ((a0.length:Int):Int)))then (at? a0 v1).bind fun x1=>bif eqL v2.length v2.length then (iter (qC a1 x1) n ((0:Int),v2)).bind fun w1=>bif eqL w1.length w1.length then some (.inl ((i64.wrap (v1+1)),w1))else none else none else bif eqL v2.length v2.length then some (.inr v2)else none)
def Gv (n:Nat) (a0:(List aK)) (a1:(List aK)):Option (List aK):=
 bif eqL 0 ([]:List aK).length then (iter (wB n a0 a1) n ((0:Int),([]:List aK))).bind fun w2=>bif eqL (sub w2 0 w2.length).length w2.length then some (sub w2 0 w2.length)else none else none
def CW (n:Nat) (a0:aX) (a1:Bool) (a2:Int) (a3:Int) (a4:Int) (a5:Bool) (a6:(List aK)):Option (Bool×Int×Int×Int×Bool×(List aK)):=
 ((bif a1 then some true else (bif (decide (a0.x1<=(a2:Int)))then some true else some (decide (a0.x0>((i64.wrap (a3+a4)):Int))))):Option (Bool)).bind fun v1=>(bif v1 then some (a1,a2,a3,a4,a5,a6)else (bif (decide (a0.x0>(a2:Int)))then some (true,a2,a3,a4,a5,a6)else (bif a5 then some (a1,a0.x1,a3,a4,false,a0.column)else (Gv n a6 a0.column).bind fun r1=>bif eqL (sub r1 0 r1.length).length r1.length then some (a1,a0.x1,a3,a4,a5,(sub r1 0 r1.length))else none)))
def qD (n:Nat) (a0:(List aX)):(Int×Int×Int×Int×Bool×Bool×(List aK))->Option ((Int×Int×Int×Int×Bool×Bool×(List aK)) ⊕ (Int×Int×Int×Bool×(List aK)))
 |(v1,v2,v3,v4,v5,v6,v7)=>(bif (decide (v1 < ((a0.length:Int):Int)))then (at? a0 v1).bind fun x1=>(CW n x1 v5 v4 v2 v3 v6 v7).bind fun r1=>some (.inl ((i64.wrap (v1+1)),r1.2.2.1,r1.2.2.2.1,r1.2.1,r1.1,r1.2.2.2.2.1,r1.2.2.2.2.2))else some (.inr (v2,v3,v4,v5,v7)))
def Bo (n:Nat) (a0:(List aX)) (a1:Int) (a2:Int):Option (List aK):=
 (iter (qD n a0) n ((0:Int),a1,a2,(i64.wrap (a1 - a2)),false,true,([]:(List aK)))).bind fun (w1,w2,w3,w4,w5)=>((bif w4 then some true else some (decide (w3<=((i64.wrap (w1+w2)):Int)))):Option (Bool)).bind fun v8=>(bif v8 then some ([]:(List aK))else some w5)
def KD (a0:(List aK)) (a1:(List aK)):Int->Option (Int ⊕ (Unit ⊕ Bool))
 |v1=>(bif (decide (v1 < ((a0.length:Int):Int)))then (at? a0 v1).bind fun x1=>(at? a1 v1).bind fun x2=>(bif (!((x1.from_==(x2.from_:Int))&&((x1.to==(x2.to:Int))&&true)))then (some false).map fun a=> .inr (.inr a)else some (.inl (i64.wrap (v1+1))))else some (.inr (.inl ())))
def qE (n:Nat) (a0:(List aK)) (a1:(List aK)):Option Bool:=
 (bif ((a0.length:Int) != ((a1.length:Int):Int))then some false else dw (iter (KD a0 a1) n (0:Int)) fun ()=>some true)
def qF (a1:Int) (r2:(List aX)):(Int×(List Int))->Option ((Int×(List Int)) ⊕ (List Int))
 |(v1,v2)=>(bif (decide (v1 < (((sub r2 0 r2.length).length:Int):Int)))then (at? (sub r2 0 r2.length) v1).bind fun x1=>bif bG v2.length v2.length (sub ([(i64.wrap (x1.x0+a1)),(i64.wrap (x1.x1+a1)),(i64.wrap (x1.x0 - a1)),(i64.wrap (x1.x1 - a1))]:List Int) 0 4).length 4 8 then lD (v2++(sub ([(i64.wrap (x1.x0+a1)),(i64.wrap (x1.x1+a1)),(i64.wrap (x1.x0 - a1)),(i64.wrap (x1.x1 - a1))]:List Int) 0 4)) fun r3=>bif eqL r3.length r3.length then some (.inl ((i64.wrap (v1+1)),r3))else none else none else bif eqL v2.length v2.length then some (.inr v2)else none)
def qG (r5:Unit×(List Int)) (v5:Int) (v6:(List aj)):(Int×(List aj))->Option ((Int×(List aj)) ⊕ (List aj))
 |(v8,v9)=>(bif (decide (v8 < (((v6.length:Nat):Int):Int)))then (at? (sub r5.2 0 r5.2.length) v5).bind fun x3=>bif inb v8 v6.length then (at? v9 ((0:Nat)+v8:Int)).bind fun x4=>some (.inl ((i64.wrap (v8+1)),(v9.set ((0:Nat)+v8:Int).toNat (aj.mk x4.x0 x4.y0 x3 x4.y1))))else none else some (.inr v9))
def qH (r5:Unit×(List Int)) (v5:Int) (r6:(List aK)):(Int×(List aj))->Option ((Int×(List aj)) ⊕ (List aj))
 |(v10,v11)=>(bif (decide (v10 < ((r6.length:Int):Int)))then (at? r6 v10).bind fun x5=>(at? (sub r5.2 0 r5.2.length) (i64.wrap (v5 - 1))).bind fun x6=>(at? (sub r5.2 0 r5.2.length) v5).bind fun x7=>bif bG v11.length v11.length (sub ([(aj.mk x6 x5.from_ x7 x5.to)]:List aj) 0 1).length 1 32 then lD (v11++(sub ([(aj.mk x6 x5.from_ x7 x5.to)]:List aj) 0 1)) fun r8=>bif eqL r8.length r8.length then some (.inl ((i64.wrap (v10+1)),r8))else none else none else bif eqL v11.length v11.length then some (.inr v11)else none)
def mX (n:Nat) (a1:Int) (r2:(List aX)) (r5:Unit×(List Int)):((List aK)×Int×Int×(List aj))->Option (((List aK)×Int×Int×(List aj)) ⊕ (List aj))
 |(v3,v4,v5,v6)=>(bif (decide (v5 < (((sub r5.2 0 r5.2.length).length:Int):Int)))then ((at? (sub r5.2 0 r5.2.length) (i64.wrap (v5 - 1))).bind fun x2=>(Bo n (sub r2 0 r2.length) x2 a1).bind fun r6=>((bif (decide (v5>(1:Int)))then (bif (decide ((r6.length:Int)>(0:Int)))then (qE n r6 v3).bind fun r7=>some r7 else some false)else some false):Option (Bool)).bind fun v7=>(bif v7 then (iter (qG r5 v5 v6) n (v4,v6)).bind fun w2=>bif eqL v6.length w2.length then some (v3,v4,w2)else none else bif eqL v6.length v6.length then (iter (qH r5 v5 r6) n ((0:Int),v6)).bind fun w3=>bif eqL w3.length w3.length then some (r6,((v6.length:Nat):Int),w3)else none else none):Option ((List aK)×Int×(List aj))).bind fun (v12,v13,v14)=>bif eqL v14.length v14.length then some (.inl (v12,v13,(i64.wrap (v5+1)),v14))else none else bif eqL v6.length v6.length then some (.inr v6)else none)
def Gw (n:Nat) (a0:(List aj)) (a1:Int):Option ((List aj)×Int):=
 (Sq n a0 a1).bind fun r1=>(bif (!r1)then some (([]:(List aj)),(1:Int))else (Fa a0 a1).bind fun r2=>bif eqL (sub r2 0 r2.length).length r2.length then bif eqL 0 ([]:List Int).length then (iter (qF a1 r2) n ((0:Int),([]:List Int))).bind fun w1=>bif eqL w1.length w1.length then (j4 n w1).bind fun r4=>bif eqL w1.length r4.length then (jK n r4).bind fun r5=>bif eqL (sub r5.2 0 r5.2.length).length r5.2.length then bif eqL 0 ([]:List aj).length then (iter (mX n a1 r2 r5) n (([]:(List aK)),(0:Int),(1:Int),([]:List aj))).bind fun w4=>(bif (decide (((w4.length:Nat):Int)>(200:Int)))then some (([]:(List aj)),(6:Int))else bif eqL (sub w4 0 w4.length).length w4.length then some ((sub w4 0 w4.length),(0:Int))else none)else none else none else none else none else none else none)
def zk (a0:(List aj)):(Bool×Int×Int×Int×Int×Int)->Option ((Bool×Int×Int×Int×Int×Int) ⊕ (Bool×Int×Int×Int×Int))
 |(v1,v2,v3,v4,v5,v6)=>(bif (decide (v2 < ((a0.length:Int):Int)))then ((at? a0 v2).bind fun x1=>(vV x1).bind fun r1=>(bif (!r1)then some (v1,v3,v4,v5,v6)else (bif (!v1)then some (true,x1.x0,x1.y0,x1.x1,x1.y1)else some (v1,(min v3 x1.x0),(min v4 x1.y0),(max v5 x1.x1),(max v6 x1.y1)))):Option (Bool×Int×Int×Int×Int)).bind fun (v7,v8,v9,v10,v11)=>some (.inl (v7,(i64.wrap (v2+1)),v8,v9,v10,v11))else some (.inr (v1,v3,v4,v5,v6)))
def KE (n:Nat) (a0:(List aj)):Option (aj×Bool):=
 (iter (zk a0) n (false,(0:Int),(0:Int),(0:Int),(0:Int),(0:Int))).bind fun (w1,w2,w3,w4,w5)=>some ((aj.mk w2 w3 w4 w5),w1)
def wX (n:Nat) (a0:(List aj)):Option (aj×Bool):=
 ((bif ((a0.length:Int)==(0:Int))then some true else (kT n a0).bind fun r1=>some (!r1)):Option (Bool)).bind fun v1=>(bif v1 then some ((aj.mk 0 0 0 0),false)else (KE n a0).bind fun r2=>some (r2.1,r2.2))
def kG (r1:(List eU)):(Int×(List aW))->Option ((Int×(List aW)) ⊕ (List aW))
 |(v1,v2)=>(bif (decide (v1 < (((r1.length:Nat):Int):Int)))then (bif inb v1 r1.length then (at? r1 ((0:Nat)+v1:Int)).bind fun x1=>(bif (x1.kind==(1:Int))then bif bG v2.length v2.length (sub ([(aW.mk x1.plane_side x1.plane_base x1.plane_num x1.plane_den)]:List aW) 0 1).length 1 32 then lD (v2++(sub ([(aW.mk x1.plane_side x1.plane_base x1.plane_num x1.plane_den)]:List aW) 0 1)) fun r2=>bif eqL r2.length r2.length then some r2 else none else none else bif eqL v2.length v2.length then some v2 else none)else none:Option ((List aW))).bind fun v3=>bif eqL v3.length v3.length then some (.inl ((i64.wrap (v1+1)),v3))else none else bif eqL v2.length v2.length then some (.inr v2)else none)
def gM (n:Nat) (a0:dR) (a1:Int) (a2:Int):Option (List aW):=
 (lY n a0 a1 a2).bind fun r1=>bif eqL 0 ([]:List aW).length then (iter (kG r1) n ((0:Int),([]:List aW))).bind fun w1=>bif eqL (sub w1 0 w1.length).length w1.length then some (sub w1 0 w1.length)else none else none
def D8 (a0:(List aW)) (a1:(aW×Unit)->Option Bool):Int->Option (Int ⊕ (Unit ⊕ Int))
 |v1=>(bif (decide (v1 < ((a0.length:Int):Int)))then (at? a0 v1).bind fun x1=>(a1 (x1,())).bind fun r1=>(bif r1 then (some v1).map fun a=> .inr (.inr a)else some (.inl (i64.wrap (v1+1))))else some (.inr (.inl ())))
def oZ (n:Nat) (a0:(List aW)) (a1:(aW×Unit)->Option Bool):Option Int:=
 dw (iter (D8 a0 a1) n (0:Int)) fun ()=>some ((-1):Int)
def iI (n:Nat) (a0:(List aW)) (a1:(aW×Unit)->Option Bool):Option Bool:=
 (oZ n a0 a1).bind fun r1=>some (decide (r1>=(0:Int)))
def jh (a0:Int) (a1:Int) (a2:Int):Option Bool:=
 (bif (decide (a1<=(a0:Int)))then some (decide (a0<=(a2:Int)))else some false)
def uo (a0:aW):Option Bool:=
 (jh a0.side 0 3).bind fun r1=>(bif r1 then (jh a0.base 0 4096).bind fun r2=>(bif r2 then (jh a0.num 0 4096).bind fun r3=>(bif r3 then (jh a0.den 1 4096).bind fun r4=>some r4 else some false)else some false)else some false)
def qI (a0:aW):Option Bool:=
 (uo a0).bind fun r1=>some (!r1)
def uq (n:Nat) (a0:aj) (a1:(List aW)):Option Bool:=
 (vV a0).bind fun r1=>(bif r1 then (iI n a1 (fun (y1:aW×Unit)=>qI y1.1)).bind fun r2=>some (!r2)else some false)
def lZ (a0:Int) (a1:Int):Option Int:=
 bif a1 != 0 then (bif a1 != 0 then (bif (decide ((Int.tmod a0 a1) < (0:Int)))then some (i64.wrap ((i64.wrap (Int.tdiv a0 a1)) - 1))else some (i64.wrap (Int.tdiv a0 a1)))else none:Option (Int)).bind fun v1=>some v1 else none
def oh (a0:aj) (a1:(List aW)) (a2:Int):(Int×Int×Int×Int×Int)->Option ((Int×Int×Int×Int×Int) ⊕ ((Int×Int×Int×Int) ⊕ (aj×Bool)))
 |(v1,v2,v3,v4,v5)=>(bif (decide (v1 < ((a1.length:Int):Int)))then dw ((at? a1 v1).bind fun x1=>(bif (x1.num==(0:Int))then (bif (decide (a2>(x1.base:Int)))then ((some ((aj.mk 0 0 0 0),false)).map fun a=> .inr (.inr a)).map .inr else some (.inl (v2,v3,v4,v5)))else (lZ (i64.wrap ((i64.wrap (x1.base - a2))*x1.den)) x1.num).bind fun r1=>(bif (x1.side==(0:Int))then some (.inl ((max v2 (i64.wrap (a0.x0+(i64.wrap (0 - r1))))),v3,v4,v5))else (bif (x1.side==(1:Int))then some (.inl (v2,v3,(min v4 (i64.wrap (a0.x1 - (i64.wrap (0 - r1))))),v5))else (bif (x1.side==(2:Int))then some (.inl (v2,(max v3 (i64.wrap (a0.y0+(i64.wrap (0 - r1))))),v4,v5))else (bif (x1.side==(3:Int))then some (.inl (v2,v3,v4,(min v5 (i64.wrap (a0.y1 - (i64.wrap (0 - r1)))))))else some (.inl (v2,v3,v4,v5))))))):Option ((Int×Int×Int×Int) ⊕ _)) fun (v6,v7,v8,v9)=>some (.inl ((i64.wrap (v1+1)),v6,v7,v8,v9))else some (.inr (.inl (v2,v3,v4,v5))))
def IU (n:Nat) (a0:aj) (a1:(List aW)) (a2:Int):Option (aj×Bool):=
 dw (iter (oh a0 a1 a2) n ((0:Int),gv0.x0,gv0.y0,gv0.x1,gv0.y1)) fun (w1,w2,w3,w4)=>(bif (decide (w1 < (w3:Int)))then some ((aj.mk w1 w2 w3 w4),(decide (w2 < (w4:Int))))else some ((aj.mk w1 w2 w3 w4),false))
def CX (n:Nat) (a0:aj) (a1:(List aW)) (a2:Int):Option ((List aj)×Int):=
 (uq n a0 a1).bind fun r1=>(bif (!r1)then some (([]:(List aj)),(1:Int))else (jh a2 0 4096).bind fun r2=>(bif (!r2)then some (([]:(List aj)),(3:Int))else (bif (a2==(0:Int))then bif eqL (sub ([gv0]:List aj) 0 1).length 1 then some ((sub ([gv0]:List aj) 0 1),(0:Int))else none else (IU n a0 a1 a2).bind fun r3=>(bif r3.2 then bif eqL (sub ([r3.1]:List aj) 0 1).length 1 then some ((sub ([r3.1]:List aj) 0 1),(0:Int))else none else some (([]:(List aj)),(0:Int))))))
def om (a0:aj) (a1:aj):Option (aj×Bool):=
 (bif (decide ((max a0.x0 a1.x0) < ((min a0.x1 a1.x1):Int)))then some ((aj.mk (max a0.x0 a1.x0) (max a0.y0 a1.y0) (min a0.x1 a1.x1) (min a0.y1 a1.y1)),(decide ((max a0.y0 a1.y0) < ((min a0.y1 a1.y1):Int))))else some ((aj.mk (max a0.x0 a1.x0) (max a0.y0 a1.y0) (min a0.x1 a1.x1) (min a0.y1 a1.y1)),false))
def kU (x1:aj) (r1:aj×Bool):(Int×(List aj))->Option ((Int×(List aj)) ⊕ (List aj))
 |(v3,v4)=>(bif (decide (v3 < (((4:Nat):Int):Int)))then (bif inb v3 4 then (at? ([(aj.mk x1.x0 x1.y0 r1.1.x0 x1.y1),(aj.mk r1.1.x1 x1.y0 x1.x1 x1.y1),(aj.mk r1.1.x0 x1.y0 r1.1.x1 r1.1.y0),(aj.mk r1.1.x0 r1.1.y1 r1.1.x1 x1.y1)]:List aj) ((0:Nat)+v3:Int)).bind fun x2=>((bif (decide (x2.x0 < (x2.x1:Int)))then some (decide (x2.y0 < (x2.y1:Int)))else some false):Option (Bool)).bind fun v5=>(bif v5 then bif bG v4.length v4.length (sub ([x2]:List aj) 0 1).length 1 32 then lD (v4++(sub ([x2]:List aj) 0 1)) fun r3=>bif eqL r3.length r3.length then some r3 else none else none else bif eqL v4.length v4.length then some v4 else none)else none:Option ((List aj))).bind fun v6=>bif eqL v6.length v6.length then some (.inl ((i64.wrap (v3+1)),v6))else none else bif eqL v4.length v4.length then some (.inr v4)else none)
def oI (n:Nat) (a0:(List aj)) (a1:aj):(Int×(List aj))->Option ((Int×(List aj)) ⊕ (List aj))
 |(v1,v2)=>(bif (decide (v1 < ((a0.length:Int):Int)))then ((at? a0 v1).bind fun x1=>(om x1 a1).bind fun r1=>(bif (!r1.2)then bif bG v2.length v2.length (sub ([x1]:List aj) 0 1).length 1 32 then lD (v2++(sub ([x1]:List aj) 0 1)) fun r2=>bif eqL r2.length r2.length then some r2 else none else none else bif eqL v2.length v2.length then (iter (kU x1 r1) n ((0:Int),v2)).bind fun w1=>bif eqL w1.length w1.length then some w1 else none else none):Option ((List aj))).bind fun v7=>bif eqL v7.length v7.length then some (.inl ((i64.wrap (v1+1)),v7))else none else bif eqL v2.length v2.length then some (.inr v2)else none)
def wC (n:Nat) (a0:(List aj)) (a1:aj):Option (List aj):=
 bif eqL 0 ([]:List aj).length then (iter (oI n a0 a1) n ((0:Int),([]:List aj))).bind fun w2=>bif eqL (sub w2 0 w2.length).length w2.length then some (sub w2 0 w2.length)else none else none
def jL (a0:aj) (a1:aj):Option Bool:=
 (bif (a0.y0==(a1.y0:Int))then some (a0.y1==(a1.y1:Int))else some false)
def vg (n:Nat) (a0:(List aj)) (a1:Int) (a2:Int) (a3:(aj×aj×Unit)->Option Int):Option (List aj):=
 jI (fun x y=>a3 (x,y,())) (fun r=>decide (r < 0)) n a0 a1 a2
def Bp (n:Nat) (a0:(List aj)) (a1:Int) (a2:Int) (a3:Int) (a4:(aj×aj×Unit)->Option Int):Option (List aj):=
 pM (fun x y=>a4 (x,y,())) (fun r=>decide (r < 0)) n a0 a1 a2 a3
def Bq (n:Nat) (a0:(List aj)) (a1:Int) (a2:Int) (a3:(aj×aj×Unit)->Option Int):Option (List aj):=
 wV (fun x y=>a3 (x,y,())) (fun r=>decide (r < 0)) n a0 a1 a2
def vk (n:Nat) (a0:(List aj)) (a1:Int) (a2:Int) (a3:(aj×aj×Unit)->Option Int):Option (List aj):=
 iB aM aN n a0 a1 a2
def D9 (a0:(List aj)) (a1:Int) (a2:Int) (a3:Int) (a4:(aj×aj×Unit)->Option Int):Option (Int×Int×Int):=
 zf (fun x y=>a4 (x,y,())) (fun r=>decide (r < 0)) a0 a1 a2 a3
def Ea (a0:(List aj)) (a1:Int) (a2:Int) (a3:Int) (a4:Int) (a5:(aj×aj×Unit)->Option Int):Option (Int×Int):=
 vU (fun x y=>a5 (x,y,())) (fun r=>decide (r < 0)) a0 a1 a2 a3 a4
def uw (a0:(List aj)) (a1:Int) (a2:Int) (a3:(aj×aj×Unit)->Option Int):Option (Int×Int):=
 dh (fun x y=>a3 (x,y,())) (fun r=>decide (r < 0)) a0 a1 a2
def xQ (a0:(List aj)) (a1:Int) (a2:Int) (a3:(aj×aj×Unit)->Option Int):Option (Int×Int):=
 mI (fun x y=>a3 (x,y,())) (fun r=>decide (r < 0)) a0 a1 a2
def wD (n:Nat) (a0:(List aj)) (a1:Int) (a2:Int) (a3:(aj×aj×Unit)->Option Int):Option (List aj):=
 jv n a0 a1 a2
def oo (n:Nat) (a0:(List aj)) (a1:Int) (a2:Int) (a3:(aj×aj×Unit)->Option Int):Option (Bool×(List aj)):=
 dI (fun x y=>a3 (x,y,())) (fun r=>decide (r < 0)) n a0 a1 a2
def uy (n:Nat) (a0:(List aj)) (a1:Int) (a2:Int) (a3:Int) (a4:(aj×aj×Unit)->Option Int):Option (Int×(List aj)):=
 gK (fun x y=>a4 (x,y,())) (fun r=>decide (r < 0)) n a0 a1 a2 a3
def zX (n:Nat) (a0:(List aj)) (a1:Int) (a2:Int) (a3:Int) (a4:(aj×aj×Unit)->Option Int):Option (Int×Bool×(List aj)):=
 oQ (fun x y=>a4 (x,y,())) (fun r=>decide (r < 0)) n a0 a1 a2 a3
def fM (n:Nat) (rc:((List aj))->(Int)->(Int)->(Int)->((aj×aj×Unit)->Option Int)->Option (List aj)) (a0:(List aj)) (a1:Int) (a2:Int) (a3:Int) (a4:(aj×aj×Unit)->Option Int):Option (List aj):=
 iC (fun x y=>a4 (x,y,())) (fun r=>decide (r < 0)) aM aN n (fun l a b d=>rc l a b d a4) a0 a1 a2 a3
def iM (rc:((List aj))->(Int)->(Int)->(Int)->((aj×aj×Unit)->Option Int)->Option (List aj)):Sig xx:=⟨[.mut (.st SI.Rect),.d (.int .i64),.d (.int .i64),.d (.int .i64),.clo [(.st SI.Rect),(.st SI.Rect)] (.int .i64)],[.mu (.st SI.Rect)],fun a=>rc a.1 a.2.1 a.2.2.1 a.2.2.2.1 a.2.2.2.2.1,none⟩
def cK (n:Nat):Nat->((List aj))->(Int)->(Int)->(Int)->((aj×aj×Unit)->Option Int)->Option (List aj)
 | 0=>fun _ _ _ _ _=>none
 |m+1=>fM n (cK n m)
def kH (n:Nat) (a0:(List aj)) (a1:Int) (a2:Int) (a3:Int) (a4:(aj×aj×Unit)->Option Int):Option (List aj):=cK n n a0 a1 a2 a3 a4
def mY (n:Nat) (a0:(List aj)) (a1:(aj×aj×Unit)->Option Int):Option (List aj):=
 (bits_Len (IntKind.u64.wrap ((a0.length:Nat):Int))).bind fun r1=>bif eqL a0.length a0.length then (kH n a0 0 ((a0.length:Nat):Int) r1 a1).bind fun r2=>some r2 else none
def kI (a0:aj) (a1:aj):Option Int:=
 (cmp_Compare_int a0.y0 a1.y0).bind fun r1=>some r1
def iD (a0:(List aj)) (a1:Int) (a2:Int):(Int×(List aj))->Option ((Int×(List aj)) ⊕ (List aj))
 |(v1,v2)=>(bif (decide (v1 < ((a0.length:Int):Int)))then ((at? a0 v1).bind fun x1=>((bif (decide (x1.x0<=(a1:Int)))then some (decide (a2<=(x1.x1:Int)))else some false):Option (Bool)).bind fun v3=>(bif v3 then bif bG v2.length v2.length (sub ([(aj.mk a1 x1.y0 a2 x1.y1)]:List aj) 0 1).length 1 32 then lD (v2++(sub ([(aj.mk a1 x1.y0 a2 x1.y1)]:List aj) 0 1)) fun r1=>bif eqL r1.length r1.length then some r1 else none else none else bif eqL v2.length v2.length then some v2 else none):Option ((List aj))).bind fun v4=>bif eqL v4.length v4.length then some (.inl ((i64.wrap (v1+1)),v4))else none else bif eqL v2.length v2.length then some (.inr v2)else none)
def iE (w1:(List aj)):(Int×Int×(List aj))->Option ((Int×Int×(List aj)) ⊕ (Int×(List aj)))
 |(v5,v6,v7)=>(bif (decide (v6 < (((w1.length:Nat):Int):Int)))then (bif inb v6 w1.length then (at? v7 ((0:Nat)+v6:Int)).bind fun x2=>((bif (decide (v5>(0:Int)))then bif inb (i64.wrap (v5 - 1)) w1.length then (at? v7 ((0:Nat)+(i64.wrap (v5 - 1)):Int)).bind fun x3=>some (x3.y1==(x2.y0:Int))else none else some false):Option (Bool)).bind fun v8=>(bif v8 then bif inb (i64.wrap (v5 - 1)) w1.length then (at? v7 ((0:Nat)+(i64.wrap (v5 - 1)):Int)).bind fun x4=>some (v5,(v7.set ((0:Nat)+(i64.wrap (v5 - 1)):Int).toNat (aj.mk x4.x0 x4.y0 x4.x1 x2.y1)))else none else bif inb v5 w1.length then (at? v7 ((0:Nat)+v5:Int)).bind fun x5=>some ((i64.wrap (v5+1)),(v7.set ((0:Nat)+v5:Int).toNat x2))else none)else none:Option (Int×(List aj))).bind fun (v9,v10)=>some (.inl (v9,(i64.wrap (v6+1)),v10))else some (.inr (v5,v7)))
def oJ (n:Nat) (a0:(List aj)) (a1:Int) (a2:Int):Option (List aj):=
 bif eqL 0 ([]:List aj).length then (iter (iD a0 a1 a2) n ((0:Int),([]:List aj))).bind fun w1=>bif eqL w1.length w1.length then (mY n w1 (fun (y1:aj×aj×Unit)=>kI y1.1 y1.2.1)).bind fun r2=>(iter (iE w1) n ((0:Int),(0:Int),r2)).bind fun (w2,w3)=>bif AR 0 w2 w1.length then bif eqL (sub w3 0 ((w2:Int).toNat)).length ((w2:Int).toNat)then some (sub w3 0 ((w2:Int).toNat))else none else none else none else none
def fB (a0:(List aj)) (a1:(List aj)) (a2:(aj×aj×Unit)->Option Bool):Int->Option (Int ⊕ (Unit ⊕ Bool))
 |v1=>(bif (decide (v1 < ((a0.length:Int):Int)))then (at? a0 v1).bind fun x1=>(at? a1 v1).bind fun x2=>(a2 (x1,x2,())).bind fun r1=>(bif (!r1)then (some false).map fun a=> .inr (.inr a)else some (.inl (i64.wrap (v1+1))))else some (.inr (.inl ())))
def gV (n:Nat) (a0:(List aj)) (a1:(List aj)) (a2:(aj×aj×Unit)->Option Bool):Option Bool:=
 (bif ((a0.length:Int) != ((a1.length:Int):Int))then some false else dw (iter (fB a0 a1 a2) n (0:Int)) fun ()=>some true)
def jM (a0:(List aj)):(Int×(List Int))->Option ((Int×(List Int)) ⊕ (List Int))
 |(v1,v2)=>(bif (decide (v1 < ((a0.length:Int):Int)))then (at? a0 v1).bind fun x1=>bif bG v2.length v2.length (sub ([x1.x0,x1.x1]:List Int) 0 2).length 2 8 then lD (v2++(sub ([x1.x0,x1.x1]:List Int) 0 2)) fun r1=>bif eqL r1.length r1.length then some (.inl ((i64.wrap (v1+1)),r1))else none else none else bif eqL v2.length v2.length then some (.inr v2)else none)
def jN (r3:Unit×(List Int)) (v3:Int) (v4:(List aj)):(Int×(List aj))->Option ((Int×(List aj)) ⊕ (List aj))
 |(v7,v8)=>(bif (decide (v7 < (((v4.length:Nat):Int):Int)))then bif inb (i64.wrap (v3+1)) r3.2.length then (at? r3.2 ((0:Nat)+(i64.wrap (v3+1)):Int)).bind fun x4=>bif inb v7 v4.length then (at? v8 ((0:Nat)+v7:Int)).bind fun x5=>some (.inl ((i64.wrap (v7+1)),(v8.set ((0:Nat)+v7:Int).toNat (aj.mk x5.x0 x5.y0 x4 x5.y1))))else none else none else some (.inr v8))
def jO (n:Nat) (a0:(List aj)) (r3:Unit×(List Int)):(Int×(List aj)×(List aj))->Option ((Int×(List aj)×(List aj)) ⊕ (List aj))
 |(v3,v4,v5)=>(bif (decide (v3 < ((max (0:Int) (i64.wrap (((r3.2.length:Nat):Int) - 1))):Int)))then bif inb v3 r3.2.length then (at? r3.2 ((0:Nat)+v3:Int)).bind fun x2=>bif inb (i64.wrap (v3+1)) r3.2.length then (at? r3.2 ((0:Nat)+(i64.wrap (v3+1)):Int)).bind fun x3=>(oJ n a0 x2 x3).bind fun r4=>(((bif (decide (((r4.length:Nat):Int)>(0:Int)))then bif eqL (sub r4 0 r4.length).length r4.length then bif eqL (sub v5 0 v5.length).length v5.length then (gV n (sub r4 0 r4.length) (sub v5 0 v5.length) (fun (y1:aj×aj×Unit)=>jL y1.1 y1.2.1)).bind fun r5=>some r5 else none else none else some false):Option (Bool)).bind fun v6=>(bif v6 then (iter (jN r3 v3 v4) n ((i64.wrap (((v4.length:Nat):Int) - ((r4.length:Nat):Int))),v4)).bind fun w2=>bif eqL v4.length w2.length then some w2 else none else bif bG v4.length v4.length (sub r4 0 r4.length).length r4.length 32 then lD (v4++(sub r4 0 r4.length)) fun r6=>bif eqL r6.length r6.length then some r6 else none else none):Option ((List aj))).bind fun v9=>bif eqL v9.length v9.length then bif eqL r4.length r4.length then some (.inl ((i64.wrap (v3+1)),v9,r4))else none else none else none else none else bif eqL v4.length v4.length then some (.inr v4)else none)
def sW (n:Nat) (a0:(List aj)):Option (List aj):=
 bif eqL 0 ([]:List Int).length then (iter (jM a0) n ((0:Int),([]:List Int))).bind fun w1=>bif eqL w1.length w1.length then (j4 n w1).bind fun r2=>bif eqL w1.length r2.length then (jK n r2).bind fun r3=>bif eqL 0 ([]:List aj).length then bif eqL 0 ([]:List aj).length then (iter (jO n a0 r3) n ((0:Int),([]:List aj),([]:List aj))).bind fun w3=>bif eqL (sub w3 0 w3.length).length w3.length then some (sub w3 0 w3.length)else none else none else none else none else none else none
def jP (r1:(List aj)×Int) (x1:aj):(Int×(List aj))->Option ((Int×(List aj)) ⊕ (List aj))
 |(v3,v4)=>(bif (decide (v3 < (((r1.1.length:Nat):Int):Int)))then (bif inb v3 r1.1.length then (at? r1.1 ((0:Nat)+v3:Int)).bind fun x2=>(om x1 x2).bind fun r2=>(bif r2.2 then bif bG v4.length v4.length (sub ([r2.1]:List aj) 0 1).length 1 32 then lD (v4++(sub ([r2.1]:List aj) 0 1)) fun r3=>bif eqL r3.length r3.length then some r3 else none else none else bif eqL v4.length v4.length then some v4 else none)else none:Option ((List aj))).bind fun v5=>bif eqL v5.length v5.length then some (.inl ((i64.wrap (v3+1)),v5))else none else bif eqL v4.length v4.length then some (.inr v4)else none)
def jQ (n:Nat) (a0:(List aj)) (r1:(List aj)×Int):(Int×(List aj))->Option ((Int×(List aj)) ⊕ (List aj))
 |(v1,v2)=>(bif (decide (v1 < ((a0.length:Int):Int)))then (at? a0 v1).bind fun x1=>bif eqL v2.length v2.length then (iter (jP r1 x1) n ((0:Int),v2)).bind fun w1=>bif eqL w1.length w1.length then some (.inl ((i64.wrap (v1+1)),w1))else none else none else bif eqL v2.length v2.length then some (.inr v2)else none)
def jR (n:Nat) (x3:aV):(Int×(List aj))->Option ((Int×(List aj)) ⊕ (List aj))
 |(v8,v9)=>(bif (decide (v8 < ((x3.area.length:Int):Int)))then (at? x3.area v8).bind fun x4=>bif eqL (sub v9 0 v9.length).length v9.length then (wC n (sub v9 0 v9.length) x4).bind fun r4=>bif eqL r4.length r4.length then some (.inl ((i64.wrap (v8+1)),r4))else none else none else bif eqL v9.length v9.length then some (.inr v9)else none)
def jS (n:Nat) (a3:(List aV)) (a4:Int):(Int×(List aj))->Option ((Int×(List aj)) ⊕ (List aj))
 |(v6,v7)=>(bif (decide (v6 < ((a3.length:Int):Int)))then ((at? a3 v6).bind fun x3=>(bif (decide (x3.top>=(a4:Int)))then bif eqL v7.length v7.length then some v7 else none else bif eqL v7.length v7.length then (iter (jR n x3) n ((0:Int),v7)).bind fun w3=>bif eqL w3.length w3.length then some w3 else none else none):Option ((List aj))).bind fun v10=>bif eqL v10.length v10.length then some (.inl ((i64.wrap (v6+1)),v10))else none else bif eqL v7.length v7.length then some (.inr v7)else none)
def lu (n:Nat) (a0:(List aj)) (a1:aj) (a2:(List aW)) (a3:(List aV)) (a4:Int):Option ((List aj)×Int):=
 (bif ((a0.length:Int)==(0:Int))then some (([]:(List aj)),(0:Int))else (CX n a1 a2 a4).bind fun r1=>bif eqL 0 ([]:List aj).length then (iter (jQ n a0 r1) n ((0:Int),([]:List aj))).bind fun w2=>bif eqL w2.length w2.length then (iter (jS n a3 a4) n ((0:Int),w2)).bind fun w4=>bif eqL (sub w4 0 w4.length).length w4.length then (sW n (sub w4 0 w4.length)).bind fun r5=>(bif (decide (((r5.length:Nat):Int)>(200:Int)))then some (([]:(List aj)),(6:Int))else bif eqL (sub r5 0 r5.length).length r5.length then some ((sub r5 0 r5.length),(0:Int))else none)else none else none else none)
def gG (n:Nat) (a0:dR) (a1:Int):(Int×(List aV))->Option ((Int×(List aV)) ⊕ (List aV))
 |(v3,v4)=>(bif (decide (v3 < ((a0.easements.length:Int):Int)))then ((at? a0.easements v3).bind fun x1=>((bif (x1.lot==(a1:Int))then (kT n x1.area).bind fun r5=>some r5 else some false):Option (Bool)).bind fun v5=>(bif v5 then bif bG v4.length v4.length (sub ([x1]:List aV) 0 1).length 1 40 then lD (v4++(sub ([x1]:List aV) 0 1)) fun r6=>bif eqL r6.length r6.length then some r6 else none else none else bif eqL v4.length v4.length then some v4 else none):Option ((List aV))).bind fun v6=>bif eqL v6.length v6.length then some (.inl ((i64.wrap (v3+1)),v6))else none else bif eqL v4.length v4.length then some (.inr v4)else none)
def dS (n:Nat) (a3:Int) (v2:(List aj)) (w1:(List aV)) (r7:aj×Bool) (r8:(List aW)):(Int×(List (List aj)))->Option ((Int×(List (List aj))) ⊕ ((List (List aj)) ⊕ ((List (List aj))×Int)))
 |(v7,v8)=>(bif (decide (v7 < (a3:Int)))then bif eqL (sub v2 0 v2.length).length v2.length then bif eqL (sub r8 0 r8.length).length r8.length then bif eqL (sub w1 0 w1.length).length w1.length then (lu n (sub v2 0 v2.length) r7.1 (sub r8 0 r8.length) (sub w1 0 w1.length) (i64.wrap (3*(i64.wrap (v7+1))))).bind fun r9=>(bif (r9.2 != (0:Int))then (some (([]:(List (List aj))),r9.2)).map fun a=> .inr (.inr a)else bif eqL (sub r9.1 0 r9.1.length).length r9.1.length then bif bG v8.length v8.length (sub ([(sub r9.1 0 r9.1.length)]:List (List aj)) 0 1).length 1 24 then lD (v8++(sub ([(sub r9.1 0 r9.1.length)]:List (List aj)) 0 1)) fun r10=>bif eqL r10.length r10.length then some (.inl ((i64.wrap (v7+1)),r10))else none else none else none)else none else none else none else bif eqL v8.length v8.length then some (.inr (.inl v8))else none)
def envelope_Rooms (n:Nat) (a0:dR) (a1:Int) (a2:Int) (a3:Int):Option ((List (List aj))×Int):=
 (CQ n a0.land a1).bind fun r1=>(bif (!r1.2)then some (([]:(List (List aj))),(4:Int))else ((bif (decide (a3 < (0:Int)))then some true else (bif (decide (a3>(12:Int)))then some true else (kT n r1.1.area).bind fun r2=>some (!r2))):Option (Bool)).bind fun v1=>(bif v1 then some (([]:(List (List aj))),(1:Int))else dw ((jg n a0 a1 a2).bind fun r3=>(bif (decide (r3<=(1048576:Int)))then (Gw n r1.1.area r3).bind fun r4=>(bif (r4.2 != (0:Int))then (some (([]:(List (List aj))),r4.2)).map .inr else bif eqL r4.1.length r4.1.length then some (.inl r4.1)else none)else bif eqL 0 ([]:List aj).length then some (.inl ([]:List aj))else none)) fun (v2:(List aj))=>bif eqL 0 ([]:List aV).length then (iter (gG n a0 a1) n ((0:Int),([]:List aV))).bind fun w1=>(wX n r1.1.area).bind fun r7=>(gM n a0 a1 a2).bind fun r8=>bif eqL 0 ([]:List (List aj)).length then dw (iter (dS n a3 v2 w1 r7 r8) n ((0:Int),([]:List (List aj)))) fun w2=>bif eqL (sub w2 0 w2.length).length w2.length then some ((sub w2 0 w2.length),(0:Int))else none else none else none))
def ZC (a0:(List aj)) (a1:(List aj)):Int->Option (Int ⊕ (Unit ⊕ Bool))
 |v1=>(bif (decide (v1 < ((a0.length:Int):Int)))then (at? a0 v1).bind fun x1=>(at? a1 v1).bind fun x2=>(bif (!((x1.x0==(x2.x0:Int))&&((x1.y0==(x2.y0:Int))&&((x1.x1==(x2.x1:Int))&&((x1.y1==(x2.y1:Int))&&true)))))then (some false).map fun a=> .inr (.inr a)else some (.inl (i64.wrap (v1+1))))else some (.inr (.inl ())))
def xR (n:Nat) (a0:(List aj)) (a1:(List aj)):Option Bool:=
 (bif ((a0.length:Int) != ((a1.length:Int):Int))then some false else dw (iter (ZC a0 a1) n (0:Int)) fun ()=>some true)
def Eb (a0:(List (List aj))) (a1:((List aj)×Unit)->Option Bool):Int->Option (Int ⊕ (Unit ⊕ Int))
 |v1=>(bif (decide (v1 < ((a0.length:Int):Int)))then (at? a0 v1).bind fun x1=>(a1 (x1,())).bind fun r1=>(bif r1 then (some v1).map fun a=> .inr (.inr a)else some (.inl (i64.wrap (v1+1))))else some (.inr (.inl ())))
def o8 (n:Nat) (a0:(List (List aj))) (a1:((List aj)×Unit)->Option Bool):Option Int:=
 dw (iter (Eb a0 a1) n (0:Int)) fun ()=>some ((-1):Int)
end
end Go.Proofs
