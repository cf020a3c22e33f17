/-
  Printed by wip/gen: what functions of the program compute.
-/
import Derived.Test.YtdgealeielbdiaaGreatTBase
open Go.IntKind (i64)
namespace Go.Proofs
open Go.Gb Go.RowKit
noncomputable section
def nU (a0:Int) (a1:Int) (a2:Int) (a3:Int):Option (List aj):=
 bif eqL (sub ([(aj.mk a0 a1 a2 a3)]:List aj) 0 1).length 1 then some (sub ([(aj.mk a0 a1 a2 a3)]:List aj) 0 1)else none
def oO (a0:Int):Option Bool:=
 (bif (decide (1<=(a0:Int)))then some (decide (a0<=(1073741824:Int)))else some false)
def GV (a0:Int):Option Bool:=
 (bif (decide (0<=(a0:Int)))then some (decide (a0<=(1073741824:Int)))else some false)
def nV (a0:(List Int)):Int->Option (Int ⊕ (Unit ⊕ Bool))
 |v1=>(bif (decide (v1 < ((a0.length:Int):Int)))then (at? a0 (i64.wrap (v1 - 1))).bind fun x1=>(at? a0 v1).bind fun x2=>(bif (decide (x1>=(x2:Int)))then (some false).map fun a=> .inr (.inr a)else some (.inl (i64.wrap (v1+1))))else some (.inr (.inl ())))
def pW (n:Nat) (a0:(List Int)):Option Bool:=
 bI (iter (nV a0) n (1:Int)) fun ()=>some true
def Jc (a0:(List Int)) (a1:(Int×Unit)->Option Bool):Int->Option (Int ⊕ (Unit ⊕ Int))
 |v1=>(bif (decide (v1 < ((a0.length:Int):Int)))then (at? a0 v1).bind fun x1=>(a1 (x1,())).bind fun r1=>(bif r1 then (some v1).map fun a=> .inr (.inr a)else some (.inl (i64.wrap (v1+1))))else some (.inr (.inl ())))
def rH (n:Nat) (a0:(List Int)) (a1:(Int×Unit)->Option Bool):Option Int:=
 bI (iter (Jc a0 a1) n (0:Int)) fun ()=>some ((-1):Int)
def jA (n:Nat) (a0:(List Int)) (a1:(Int×Unit)->Option Bool):Option Bool:=
 (rH n a0 a1).bind fun r1=>some (decide (r1>=(0:Int)))
def AU (a0:Int):Option Bool:=
 (oO a0).bind fun r1=>some (!r1)
def tK (a0:aj):Option Bool:=
 (bif (decide (0<=(a0.x0:Int)))then (bif (decide (a0.x0 < (a0.x1:Int)))then (bif (decide (a0.x1<=(1048576:Int)))then (bif (decide (0<=(a0.y0:Int)))then (bif (decide (a0.y0 < (a0.y1:Int)))then some (decide (a0.y1<=(1048576:Int)))else some false)else some false)else some false)else some false)else some false)
def LW (a0:Unit) (a1:Int):Option (List aj):=
 (bif (decide (a1 < (0:Int)))then none else (bif (decide ((i64.wrap (a1 - (i64.wrap (0 - 0))))>(0:Int)))then bif Lh (i64.wrap (a1 - (i64.wrap (0 - 0)))) 32 then bif oh 0 0 ((i64.wrap (a1 - (i64.wrap (0 - 0)))).toNat)then bif eqL (sub (List.replicate (i64.wrap (a1 - (i64.wrap (0 - 0)))).toNat (aj.mk 0 0 0 0)) 0 0).length 0 then some (sub (List.replicate (i64.wrap (a1 - (i64.wrap (0 - 0)))).toNat (aj.mk 0 0 0 0)) 0 0)else none else none else none else some ([]:(List aj))))
def LX (a0:(List (List aj))):(Int×Int)->Option ((Int×Int) ⊕ Int)
 |(v1,v2)=>(bif (decide (v2 < ((a0.length:Int):Int)))then (at? a0 v2).bind fun x1=>(bif (decide ((i64.wrap (v1+(x1.length:Int))) < (0:Int)))then none else some (.inl ((i64.wrap (v1+(x1.length:Int))),(i64.wrap (v2+1)))))else some (.inr v1))
def LY (a0:(List (List aj))):(Int×(List aj))->Option ((Int×(List aj)) ⊕ (List aj))
 |(v3,v4)=>(bif (decide (v3 < ((a0.length:Int):Int)))then (at? a0 v3).bind fun x2=>bif aX v4.length v4.length x2.length x2.length 32 then fB (v4++x2) fun r2=>bif eqL r2.length r2.length then some (.inl ((i64.wrap (v3+1)),r2))else none else none else bif eqL v4.length v4.length then some (.inr v4)else none)
def yU (n:Nat) (a0:(List (List aj))):Option (List aj):=
 (iter (LX a0) n ((0:Int),(0:Int))).bind fun w1=>(LW () w1).bind fun r1=>bif eqL r1.length r1.length then (iter (LY a0) n ((0:Int),r1)).bind fun w2=>bif eqL (sub w2 0 w2.length).length w2.length then some (sub w2 0 w2.length)else none else none
def bits_Len64 (a0:Int):Option Int:=
 ((bif (decide (a0>=(4294967296:Int)))then bif (decide (0<=32)&&decide (32<=IntKind.u64.bits))then some ((a0/2 ^ (32:Int).toNat),(32:Int))else none else some (a0,(0:Int))):Option (Int×Int)).bind fun (v1,v2)=>((bif (decide (v1>=(65536:Int)))then bif (decide (0<=16)&&decide (16<=IntKind.u64.bits))then some ((v1/2 ^ (16:Int).toNat),(i64.wrap (v2+16)))else none else some (v1,v2)):Option (Int×Int)).bind fun (v3,v4)=>((bif (decide (v3>=(256:Int)))then bif (decide (0<=8)&&decide (8<=IntKind.u64.bits))then some ((v3/2 ^ (8:Int).toNat),(i64.wrap (v4+8)))else none else some (v3,v4)):Option (Int×Int)).bind fun (v5,v6)=>(V4 (⟨#[0,1,2,2,3,3,3,3,4,4,4,4,4,4,4,4,5,5,5,5,5,5,5,5,5,5,5,5,5,5,5,5,6,6,6,6,6,6,6,6,6,6,6,6,6,6,6,6,6,6,6,6,6,6,6,6,6,6,6,6,6,6,6,6,7,7,7,7,7,7,7,7,7,7,7,7,7,7,7,7,7,7,7,7,7,7,7,7,7,7,7,7,7,7,7,7,7,7,7,7,7,7,7,7,7,7,7,7,7,7,7,7,7,7,7,7,7,7,7,7,7,7,7,7,7,7,7,7,8,8,8,8,8,8,8,8,8,8,8,8,8,8,8,8,8,8,8,8,8,8,8,8,8,8,8,8,8,8,8,8,8,8,8,8,8,8,8,8,8,8,8,8,8,8,8,8,8,8,8,8,8,8,8,8,8,8,8,8,8,8,8,8,8,8,8,8,8,8,8,8,8,8,8,8,8,8,8,8,8,8,8,8,8,8,8,8,8,8,8,8,8,8,8,8,8,8,8,8,8,8,8,8,8,8,8,8,8,8,8,8,8,8,8,8,8,8,8,8,8,8,8,8,8,8,8,8]⟩) (IntKind.u8.wrap v5)).bind fun x1=>some (i64.wrap (v6+(i64.wrap x1)))
def bits_Len (a0:Int):Option Int:=
 (bits_Len64 a0).bind fun r1=>some r1
def cmp_isNaN_int (a0:Int):Option Bool:=
 some (a0 != (a0:Int))
def cmp_Less_int (a0:Int) (a1:Int):Option Bool:=
 (cmp_isNaN_int a0).bind fun r1=>(bif r1 then (cmp_isNaN_int a1).bind fun r2=>(bif (!r2)then some true else some (decide (a0 < (a1:Int))))else some (decide (a0 < (a1:Int))))
def xA (n:Nat) (a0:(List Int)) (a1:Int) (a2:Int):Option (List Int):=
 iy cmp_Less_int (fun r=>r) n a0 a1 a2
def Ey (n:Nat) (a0:(List Int)) (a1:Int) (a2:Int) (a3:Int):Option (List Int):=
 l7 cmp_Less_int (fun r=>r) n a0 a1 a2 a3
def Ez (n:Nat) (a0:(List Int)) (a1:Int) (a2:Int):Option (List Int):=
 rG cmp_Less_int (fun r=>r) n a0 a1 a2
def aN (a0:Int):Option Int:=
 (bits_Len (IntKind.u64.wrap a0)).bind fun r1=>bif (decide (0<=r1)&&decide (r1<=IntKind.u64.bits))then some (IntKind.u64.wrap (1*2 ^ (r1:Int).toNat))else none
def aR (a0:Int):Option (Int×Int):=
 bif (decide (0<=13)&&decide (13<=IntKind.u64.bits))then bif (decide (0<=7)&&decide (7<=IntKind.u64.bits))then bif (decide (0<=17)&&decide (17<=IntKind.u64.bits))then some ((bits .xor .u64 (bits .xor .u64 (bits .xor .u64 a0 (IntKind.u64.wrap (a0*2 ^ (13:Int).toNat))) ((bits .xor .u64 a0 (IntKind.u64.wrap (a0*2 ^ (13:Int).toNat)))/2 ^ (7:Int).toNat)) (IntKind.u64.wrap ((bits .xor .u64 (bits .xor .u64 a0 (IntKind.u64.wrap (a0*2 ^ (13:Int).toNat))) ((bits .xor .u64 a0 (IntKind.u64.wrap (a0*2 ^ (13:Int).toNat)))/2 ^ (7:Int).toNat))*2 ^ (17:Int).toNat))),(bits .xor .u64 (bits .xor .u64 (bits .xor .u64 a0 (IntKind.u64.wrap (a0*2 ^ (13:Int).toNat))) ((bits .xor .u64 a0 (IntKind.u64.wrap (a0*2 ^ (13:Int).toNat)))/2 ^ (7:Int).toNat)) (IntKind.u64.wrap ((bits .xor .u64 (bits .xor .u64 a0 (IntKind.u64.wrap (a0*2 ^ (13:Int).toNat))) ((bits .xor .u64 a0 (IntKind.u64.wrap (a0*2 ^ (13:Int).toNat)))/2 ^ (7:Int).toNat))*2 ^ (17:Int).toNat))))else none else none else none
def xB (n:Nat) (a0:(List Int)) (a1:Int) (a2:Int):Option (List Int):=
 fO aN aR n a0 a1 a2
def GX (a0:(List Int)) (a1:Int) (a2:Int) (a3:Int):Option (Int×Int×Int):=
 xq cmp_Less_int (fun r=>r) a0 a1 a2 a3
def GY (a0:(List Int)) (a1:Int) (a2:Int) (a3:Int) (a4:Int):Option (Int×Int):=
 tJ cmp_Less_int (fun r=>r) a0 a1 a2 a3 a4
def wh (a0:(List Int)) (a1:Int) (a2:Int):Option (Int×Int):=
 bQ cmp_Less_int (fun r=>r) a0 a1 a2
def zX (a0:(List Int)) (a1:Int) (a2:Int):Option (Int×Int):=
 jW cmp_Less_int (fun r=>r) a0 a1 a2
def yV (n:Nat) (a0:(List Int)) (a1:Int) (a2:Int):Option (List Int):=
 gV n a0 a1 a2
def ou (n:Nat) (a0:(List Int)) (a1:Int) (a2:Int):Option (Bool×(List Int)):=
 bY cmp_Less_int (fun r=>r) n a0 a1 a2
def wm (n:Nat) (a0:(List Int)) (a1:Int) (a2:Int) (a3:Int):Option (Int×(List Int)):=
 eX cmp_Less_int (fun r=>r) n a0 a1 a2 a3
def CZ (n:Nat) (a0:(List Int)) (a1:Int) (a2:Int) (a3:Int):Option (Int×Bool×(List Int)):=
 lG cmp_Less_int (fun r=>r) n a0 a1 a2 a3
def jE (n:Nat) (rc:((List Int))->(Int)->(Int)->(Int)->Option (List Int)) (a0:(List Int)) (a1:Int) (a2:Int) (a3:Int):Option (List Int):=
 eD cmp_Less_int (fun r=>r) aN aR n rc a0 a1 a2 a3
def jm (rc:((List Int))->(Int)->(Int)->(Int)->Option (List Int)):Sig xx:=⟨[.mut (.int .i64),.d (.int .i64),.d (.int .i64),.d (.int .i64)],[.mu (.int .i64)],fun a=>rc a.1 a.2.1 a.2.2.1 a.2.2.2.1,none⟩
def dV (n:Nat):Nat->((List Int))->(Int)->(Int)->(Int)->Option (List Int)
 | 0=>fun _ _ _ _=>none
 |m+1=>jE n (dV n m)
def kW (n:Nat) (a0:(List Int)) (a1:Int) (a2:Int) (a3:Int):Option (List Int):=dV n n a0 a1 a2 a3
def gW (n:Nat) (a0:(List Int)):Option (List Int):=
 (bits_Len (IntKind.u64.wrap ((a0.length:Nat):Int))).bind fun r1=>bif eqL a0.length a0.length then (kW n a0 0 ((a0.length:Nat):Int) r1).bind fun r2=>some r2 else none
def LZ (a0:(List Int)) (v1:Int):(Int×Int×(List Int))->Option ((Int×Int×(List Int)) ⊕ (Int×(List Int)))
 |(v2,v3,v4)=>(bif (decide (v3 < ((((a0.length - (v1:Int).toNat):Nat):Int):Int)))then (bif inb v3 (a0.length - (v1:Int).toNat)then (at? v4 (((0+(v1:Int).toNat):Nat)+v3:Int)).bind fun x3=>bif inb (i64.wrap (v3 - 1)) (a0.length - (v1:Int).toNat)then (at? v4 (((0+(v1:Int).toNat):Nat)+(i64.wrap (v3 - 1)):Int)).bind fun x4=>(bif (x3 != (x4:Int))then bif inb v3 (a0.length - (v1:Int).toNat)then (at? v4 (((0+(v1:Int).toNat):Nat)+v3:Int)).bind fun x5=>bif inb v2 a0.length then (at? v4 ((0:Nat)+v2:Int)).bind fun x6=>some ((i64.wrap (v2+1)),(v4.set ((0:Nat)+v2:Int).toNat x5))else none else none else some (v2,v4))else none else none:Option (Int×(List Int))).bind fun (v5,v6)=>some (.inl (v5,(i64.wrap (v3+1)),v6))else some (.inr (v2,v4)))
def L6 (n:Nat) (a0:(List Int)):Int->Option (Int ⊕ (Unit ⊕ (Unit×(List Int))))
 |v1=>(bif (decide (v1 < (((a0.length:Nat):Int):Int)))then bif inb v1 a0.length then (at? a0 ((0:Nat)+v1:Int)).bind fun x1=>bif inb (i64.wrap (v1 - 1)) a0.length then (at? a0 ((0:Nat)+(i64.wrap (v1 - 1)):Int)).bind fun x2=>(bif (x1==(x2:Int))then bif oh v1 ((a0.length:Nat):Int) a0.length then (iter (LZ a0 v1) n (v1,(1:Int),a0)).bind fun (w1,w2)=>bif oh w1 ((a0.length:Nat):Int) a0.length then bif oh 0 w1 a0.length then (bif eqL ((w1:Int).toNat) ((w1:Int).toNat)then bif eqL (sub (w2.take (0+(w1:Int).toNat)) 0 ((w1:Int).toNat)).length ((w1:Int).toNat)then some ((),(sub (w2.take (0+(w1:Int).toNat)) 0 ((w1:Int).toNat)))else none else none).map fun a=> .inr (.inr a)else none else none else none else some (.inl (i64.wrap (v1+1))))else none else none else some (.inr (.inl ())))
def fP (n:Nat) (a0:(List Int)):Option (Unit×(List Int)):=
 (bif (decide (((a0.length:Nat):Int) < (2:Int)))then bif eqL a0.length a0.length then bif eqL (sub a0 0 a0.length).length a0.length then some ((),(sub a0 0 a0.length))else none else none else bI (iter (L6 n a0) n (1:Int)) fun ()=>bif eqL a0.length a0.length then bif eqL (sub a0 0 a0.length).length a0.length then some ((),(sub a0 0 a0.length))else none else none)
def wu (n:Nat) (a0:(List aD)) (a1:Int) (a2:Int) (a3:(aD×aD×Unit)->Option Int):Option (List aD):=
 iy (fun x y=>a3 (x,y,())) (fun r=>decide (r < 0)) n a0 a1 a2
def C8 (n:Nat) (a0:(List aD)) (a1:Int) (a2:Int) (a3:Int) (a4:(aD×aD×Unit)->Option Int):Option (List aD):=
 l7 (fun x y=>a4 (x,y,())) (fun r=>decide (r < 0)) n a0 a1 a2 a3
def C9 (n:Nat) (a0:(List aD)) (a1:Int) (a2:Int) (a3:(aD×aD×Unit)->Option Int):Option (List aD):=
 rG (fun x y=>a3 (x,y,())) (fun r=>decide (r < 0)) n a0 a1 a2
def wB (n:Nat) (a0:(List aD)) (a1:Int) (a2:Int) (a3:(aD×aD×Unit)->Option Int):Option (List aD):=
 fO aN aR n a0 a1 a2
def FY (a0:(List aD)) (a1:Int) (a2:Int) (a3:Int) (a4:(aD×aD×Unit)->Option Int):Option (Int×Int×Int):=
 xq (fun x y=>a4 (x,y,())) (fun r=>decide (r < 0)) a0 a1 a2 a3
def FZ (a0:(List aD)) (a1:Int) (a2:Int) (a3:Int) (a4:Int) (a5:(aD×aD×Unit)->Option Int):Option (Int×Int):=
 tJ (fun x y=>a5 (x,y,())) (fun r=>decide (r < 0)) a0 a1 a2 a3 a4
def uG (a0:(List aD)) (a1:Int) (a2:Int) (a3:(aD×aD×Unit)->Option Int):Option (Int×Int):=
 bQ (fun x y=>a3 (x,y,())) (fun r=>decide (r < 0)) a0 a1 a2
def yX (a0:(List aD)) (a1:Int) (a2:Int) (a3:(aD×aD×Unit)->Option Int):Option (Int×Int):=
 jW (fun x y=>a3 (x,y,())) (fun r=>decide (r < 0)) a0 a1 a2
def xC (n:Nat) (a0:(List aD)) (a1:Int) (a2:Int) (a3:(aD×aD×Unit)->Option Int):Option (List aD):=
 gV n a0 a1 a2
def nE (n:Nat) (a0:(List aD)) (a1:Int) (a2:Int) (a3:(aD×aD×Unit)->Option Int):Option (Bool×(List aD)):=
 bY (fun x y=>a3 (x,y,())) (fun r=>decide (r < 0)) n a0 a1 a2
def uH (n:Nat) (a0:(List aD)) (a1:Int) (a2:Int) (a3:Int) (a4:(aD×aD×Unit)->Option Int):Option (Int×(List aD)):=
 eX (fun x y=>a4 (x,y,())) (fun r=>decide (r < 0)) n a0 a1 a2 a3
def BO (n:Nat) (a0:(List aD)) (a1:Int) (a2:Int) (a3:Int) (a4:(aD×aD×Unit)->Option Int):Option (Int×Bool×(List aD)):=
 lG (fun x y=>a4 (x,y,())) (fun r=>decide (r < 0)) n a0 a1 a2 a3
def fJ (n:Nat) (rc:((List aD))->(Int)->(Int)->(Int)->((aD×aD×Unit)->Option Int)->Option (List aD)) (a0:(List aD)) (a1:Int) (a2:Int) (a3:Int) (a4:(aD×aD×Unit)->Option Int):Option (List aD):=
 eD (fun x y=>a4 (x,y,())) (fun r=>decide (r < 0)) aN aR n (fun l a b d=>rc l a b d a4) a0 a1 a2 a3
def iF (rc:((List aD))->(Int)->(Int)->(Int)->((aD×aD×Unit)->Option Int)->Option (List aD)):Sig xx:=⟨[.mut (.st SI.span),.d (.int .i64),.d (.int .i64),.d (.int .i64),.clo [(.st SI.span),(.st SI.span)] (.int .i64)],[.mu (.st SI.span)],fun a=>rc a.1 a.2.1 a.2.2.1 a.2.2.2.1 a.2.2.2.2.1,none⟩
def bU (n:Nat):Nat->((List aD))->(Int)->(Int)->(Int)->((aD×aD×Unit)->Option Int)->Option (List aD)
 | 0=>fun _ _ _ _ _=>none
 |m+1=>fJ n (bU n m)
def jZ (n:Nat) (a0:(List aD)) (a1:Int) (a2:Int) (a3:Int) (a4:(aD×aD×Unit)->Option Int):Option (List aD):=bU n n a0 a1 a2 a3 a4
def l8 (n:Nat) (a0:(List aD)) (a1:(aD×aD×Unit)->Option Int):Option (List aD):=
 (bits_Len (IntKind.u64.wrap ((a0.length:Nat):Int))).bind fun r1=>bif eqL a0.length a0.length then (jZ n a0 0 ((a0.length:Nat):Int) r1 a1).bind fun r2=>some r2 else none
def cmp_Compare_int (a0:Int) (a1:Int):Option Int:=
 (cmp_isNaN_int a0).bind fun r1=>(cmp_isNaN_int a1).bind fun r2=>(bif r1 then (bif r2 then some (0:Int)else some ((-1):Int))else (bif r2 then some (1:Int)else (bif (decide (a0 < (a1:Int)))then some ((-1):Int)else (bif (decide (a0>(a1:Int)))then some (1:Int)else some (0:Int)))))
def xD (a0:aD) (a1:aD):Option Int:=
 (cmp_Compare_int a0.from_ a1.from_).bind fun r1=>some r1
def pX (a0:(List aj)) (a1:Int):(Int×(List aD))->Option ((Int×(List aD)) ⊕ (List aD))
 |(v1,v2)=>(bif (decide (v1 < ((a0.length:Int):Int)))then ((at? a0 v1).bind fun x1=>((bif (decide (x1.x0<=(a1:Int)))then some (decide (a1 < (x1.x1:Int)))else some false):Option (Bool)).bind fun v3=>(bif v3 then bif aX v2.length v2.length (sub ([(aD.mk x1.y0 x1.y1)]:List aD) 0 1).length 1 16 then fB (v2++(sub ([(aD.mk x1.y0 x1.y1)]:List aD) 0 1)) fun r1=>bif eqL r1.length r1.length then some r1 else none else none else bif eqL v2.length v2.length then some v2 else none):Option ((List aD))).bind fun v4=>bif eqL v4.length v4.length then some (.inl ((i64.wrap (v1+1)),v4))else none else bif eqL v2.length v2.length then some (.inr v2)else none)
def pY (w1:(List aD)) (r2:(List aD)):(Int×(List aD))->Option ((Int×(List aD)) ⊕ (List aD))
 |(v5,v6)=>(bif (decide (v5 < (((w1.length:Nat):Int):Int)))then (bif inb v5 w1.length then (at? r2 ((0:Nat)+v5:Int)).bind fun x2=>((bif (decide (((v6.length:Nat):Int)>(0:Int)))then bif inb (i64.wrap (((v6.length:Nat):Int) - 1)) v6.length then (at? v6 ((0:Nat)+(i64.wrap (((v6.length:Nat):Int) - 1)):Int)).bind fun x3=>some (decide (x2.from_<=(x3.to:Int)))else none else some false):Option (Bool)).bind fun v7=>(bif v7 then bif inb (i64.wrap (((v6.length:Nat):Int) - 1)) v6.length then (at? v6 ((0:Nat)+(i64.wrap (((v6.length:Nat):Int) - 1)):Int)).bind fun x4=>bif inb (i64.wrap (((v6.length:Nat):Int) - 1)) v6.length then (at? v6 ((0:Nat)+(i64.wrap (((v6.length:Nat):Int) - 1)):Int)).bind fun x5=>bif eqL v6.length (v6.set ((0:Nat)+(i64.wrap (((v6.length:Nat):Int) - 1)):Int).toNat (aD.mk x5.from_ (max x4.to x2.to))).length then some (v6.set ((0:Nat)+(i64.wrap (((v6.length:Nat):Int) - 1)):Int).toNat (aD.mk x5.from_ (max x4.to x2.to)))else none else none else none else bif aX v6.length v6.length (sub ([x2]:List aD) 0 1).length 1 16 then fB (v6++(sub ([x2]:List aD) 0 1)) fun r3=>bif eqL r3.length r3.length then some r3 else none else none)else none:Option ((List aD))).bind fun v8=>bif eqL v8.length v8.length then some (.inl ((i64.wrap (v5+1)),v8))else none else bif eqL v6.length v6.length then some (.inr v6)else none)
def Iy (n:Nat) (a0:(List aj)) (a1:Int):Option (List aD):=
 bif eqL 0 ([]:List aD).length then (iter (pX a0 a1) n ((0:Int),([]:List aD))).bind fun w1=>bif eqL w1.length w1.length then (l8 n w1 (fun (y1:aD×aD×Unit)=>xD y1.1 y1.2.1)).bind fun r2=>bif eqL 0 ([]:List aD).length then (iter (pY w1 r2) n ((0:Int),([]:List aD))).bind fun w2=>bif eqL (sub w2 0 w2.length).length w2.length then some (sub w2 0 w2.length)else none else none else none else none
def p8 (r1:(List aj)):(Int×(List Int))->Option ((Int×(List Int)) ⊕ (List Int))
 |(v1,v2)=>(bif (decide (v1 < (((r1.length:Nat):Int):Int)))then bif inb v1 r1.length then (at? r1 ((0:Nat)+v1:Int)).bind fun x1=>bif aX v2.length v2.length (sub ([x1.x0,x1.x1]:List Int) 0 2).length 2 8 then fB (v2++(sub ([x1.x0,x1.x1]:List Int) 0 2)) fun r2=>bif eqL r2.length r2.length then some (.inl ((i64.wrap (v1+1)),r2))else none else none else none else bif eqL v2.length v2.length then some (.inr v2)else none)
def p9 (n:Nat) (r1:(List aj)) (r4:Unit×(List Int)):(Int×(List aM))->Option ((Int×(List aM)) ⊕ (List aM))
 |(v3,v4)=>(bif (decide (v3 < (((r4.2.length:Nat):Int):Int)))then bif inb (i64.wrap (v3 - 1)) r4.2.length then (at? r4.2 ((0:Nat)+(i64.wrap (v3 - 1)):Int)).bind fun x2=>bif inb v3 r4.2.length then (at? r4.2 ((0:Nat)+v3:Int)).bind fun x3=>bif inb (i64.wrap (v3 - 1)) r4.2.length then (at? r4.2 ((0:Nat)+(i64.wrap (v3 - 1)):Int)).bind fun x4=>bif eqL (sub r1 0 r1.length).length r1.length then (Iy n (sub r1 0 r1.length) x4).bind fun r5=>bif eqL (sub r5 0 r5.length).length r5.length then bif aX v4.length v4.length (sub ([(aM.mk x2 x3 (sub r5 0 r5.length))]:List aM) 0 1).length 1 40 then fB (v4++(sub ([(aM.mk x2 x3 (sub r5 0 r5.length))]:List aM) 0 1)) fun r6=>bif eqL r6.length r6.length then some (.inl ((i64.wrap (v3+1)),r6))else none else none else none else none else none else none else none else bif eqL v4.length v4.length then some (.inr v4)else none)
def iJ (n:Nat) (a0:(List (List aj))):Option (List aM):=
 (yU n a0).bind fun r1=>bif eqL 0 ([]:List Int).length then (iter (p8 r1) n ((0:Int),([]:List Int))).bind fun w1=>bif eqL w1.length w1.length then (gW n w1).bind fun r3=>bif eqL w1.length r3.length then (fP n r3).bind fun r4=>bif eqL 0 ([]:List aM).length then (iter (p9 n r1 r4) n ((1:Int),([]:List aM))).bind fun w2=>bif eqL (sub w2 0 w2.length).length w2.length then some (sub w2 0 w2.length)else none else none else none else none else none
def NF (a0:(List aD)) (a1:(List aD)):Int->Option (Int ⊕ (Unit ⊕ Bool))
 |v1=>(bif (decide (v1 < ((a0.length:Int):Int)))then (at? a0 v1).bind fun x1=>(at? a1 v1).bind fun x2=>(bif (!((x1.from_==(x2.from_:Int))&&((x1.to==(x2.to:Int))&&true)))then (some false).map fun a=> .inr (.inr a)else some (.inl (i64.wrap (v1+1))))else some (.inr (.inl ())))
def tL (n:Nat) (a0:(List aD)) (a1:(List aD)):Option Bool:=
 (bif ((a0.length:Int) != ((a1.length:Int):Int))then some false else bI (iter (NF a0 a1) n (0:Int)) fun ()=>some true)
def oP (n:Nat) (a0:(List aM)) (v1:Int):Int->Option (Int ⊕ Int)
 |v3=>((bif (decide (v3 < ((a0.length:Int):Int)))then (at? a0 v3).bind fun x1=>(at? a0 v1).bind fun x2=>(tL n x1.column x2.column).bind fun r1=>some r1 else some false):Option (Bool)).bind fun v4=>(bif v4 then some (.inl (i64.wrap (v3+1)))else some (.inr v3))
def uI (a0:(List aM)) (v1:Int) (w1:Int) (x3:aM):(Int×(List aj))->Option ((Int×(List aj)) ⊕ (List aj))
 |(v5,v6)=>(bif (decide (v5 < ((x3.column.length:Int):Int)))then (at? x3.column v5).bind fun x4=>(at? a0 v1).bind fun x5=>(at? a0 (i64.wrap (w1 - 1))).bind fun x6=>bif aX v6.length v6.length (sub ([(aj.mk x5.x0 x4.from_ x6.x1 x4.to)]:List aj) 0 1).length 1 32 then fB (v6++(sub ([(aj.mk x5.x0 x4.from_ x6.x1 x4.to)]:List aj) 0 1)) fun r2=>bif eqL r2.length r2.length then some (.inl ((i64.wrap (v5+1)),r2))else none else none else bif eqL v6.length v6.length then some (.inr v6)else none)
def uJ (n:Nat) (a0:(List aM)):(Int×(List aj))->Option ((Int×(List aj)) ⊕ (List aj))
 |(v1,v2)=>(bif (decide (v1 < ((a0.length:Int):Int)))then (iter (oP n a0 v1) n (i64.wrap (v1+1))).bind fun w1=>(at? a0 v1).bind fun x3=>bif eqL v2.length v2.length then (iter (uI a0 v1 w1 x3) n ((0:Int),v2)).bind fun w2=>bif eqL w2.length w2.length then some (.inl (w1,w2))else none else none else bif eqL v2.length v2.length then some (.inr v2)else none)
def yY (n:Nat) (a0:(List aM)):Option (List aj):=
 bif eqL 0 ([]:List aj).length then (iter (uJ n a0) n ((0:Int),([]:List aj))).bind fun w3=>bif eqL (sub w3 0 w3.length).length w3.length then some (sub w3 0 w3.length)else none else none
def yZ (a0:(List aj)):Option ((List aj)×Int):=
 (bif (decide ((a0.length:Int)>(200:Int)))then some (([]:(List aj)),(6:Int))else some (a0,(0:Int)))
def L8 (a0:(List aj)):Int->Option (Int ⊕ (Unit ⊕ ((List aj)×Int)))
 |v1=>(bif (decide (v1 < ((a0.length:Int):Int)))then (at? a0 v1).bind fun x1=>(tK x1).bind fun r1=>(bif (!r1)then (some (([]:(List aj)),(1:Int))).map fun a=> .inr (.inr a)else some (.inl (i64.wrap (v1+1))))else some (.inr (.inl ())))
def WH (n:Nat) (a0:(List aj)):Option ((List aj)×Int):=
 bI (iter (L8 a0) n (0:Int)) fun ()=>(bif (decide ((a0.length:Int)>(400:Int)))then some (([]:(List aj)),(6:Int))else bif eqL (sub ([a0]:List (List aj)) 0 1).length 1 then (iJ n (sub ([a0]:List (List aj)) 0 1)).bind fun r2=>bif eqL (sub r2 0 r2.length).length r2.length then (yY n (sub r2 0 r2.length)).bind fun r3=>bif eqL (sub r3 0 r3.length).length r3.length then (yZ (sub r3 0 r3.length)).bind fun r4=>some (r4.1,r4.2)else none else none else none)
def NG (a0:(List aj)) (a1:(List aj)):Int->Option (Int ⊕ (Unit ⊕ Bool))
 |v1=>(bif (decide (v1 < ((a0.length:Int):Int)))then (at? a0 v1).bind fun x1=>(at? a1 v1).bind fun x2=>(bif (!((x1.x0==(x2.x0:Int))&&((x1.y0==(x2.y0:Int))&&((x1.x1==(x2.x1:Int))&&((x1.y1==(x2.y1:Int))&&true)))))then (some false).map fun a=> .inr (.inr a)else some (.inl (i64.wrap (v1+1))))else some (.inr (.inl ())))
def kK (n:Nat) (a0:(List aj)) (a1:(List aj)):Option Bool:=
 (bif ((a0.length:Int) != ((a1.length:Int):Int))then some false else bI (iter (NG a0 a1) n (0:Int)) fun ()=>some true)
def kD (n:Nat) (a0:(List aj)):Option Bool:=
 (WH n a0).bind fun r1=>(bif (r1.2==(0:Int))then (kK n r1.1 a0).bind fun r2=>some r2 else some false)
def tN (a0:(List aj)):Option (List aj):=
 (bif a0.isEmpty then (both (some ([]:(List aj))) (bif aX ([]:List aj).length 0 a0.length a0.length 32 then fB (([]:List aj)++a0) fun r1=>bif eqL (sub r1 0 r1.length).length r1.length then some (sub r1 0 r1.length)else none else none))else bif aX ([]:List aj).length 0 a0.length a0.length 32 then fB (([]:List aj)++a0) fun r2=>bif eqL (sub r2 0 r2.length).length r2.length then some (sub r2 0 r2.length)else none else none)
def Yb (a0:aj) (a1:aj):Option (Int×Int):=
 some ((i64.wrap ((max a0.x0 a1.x0) - (min a0.x1 a1.x1))),(i64.wrap ((max a0.y0 a1.y0) - (min a0.y1 a1.y1))))
def QH (a0:aj) (a1:aj):Option Bool:=
 ((tK a0).bind fun r1=>(bif (!r1)then some true else (tK a1).bind fun r2=>some (!r2)):Option (Bool)).bind fun v1=>(bif v1 then some false else (Yb a0 a1).bind fun r3=>(bif (r3.1==(0:Int))then (bif (decide (r3.2 < (0:Int)))then some true else (bif (r3.2==(0:Int))then some (decide (r3.1 < (0:Int)))else some false))else (bif (r3.2==(0:Int))then some (decide (r3.1 < (0:Int)))else some false)))
def GZ (a0:(List aj)) (a1:(aj×Unit)->Option Bool):Int->Option (Int ⊕ (Unit ⊕ Int))
 |v1=>(bif (decide (v1 < ((a0.length:Int):Int)))then (at? a0 v1).bind fun x1=>(a1 (x1,())).bind fun r1=>(bif r1 then (some v1).map fun a=> .inr (.inr a)else some (.inl (i64.wrap (v1+1))))else some (.inr (.inl ())))
def qa (n:Nat) (a0:(List aj)) (a1:(aj×Unit)->Option Bool):Option Int:=
 bI (iter (GZ a0 a1) n (0:Int)) fun ()=>some ((-1):Int)
def lI (a0:aj) (a1:Int) (a2:(List aj)):Option (Bool×Int×(List aj)):=
 bif inb a1 a2.length then (at? a2 ((0:Nat)+a1:Int)).bind fun x1=>(QH x1 a0).bind fun r1=>(bif r1 then bif aX a2.length a2.length (sub ([a0]:List aj) 0 1).length 1 32 then fB (a2++(sub ([a0]:List aj) 0 1)) fun r2=>bif eqL r2.length r2.length then some (true,a1,r2)else none else none else bif eqL a2.length a2.length then some (false,a1,a2)else none)else none
def fV (a0:(List aj)):(Int×Int×(List aj))->Option ((Int×Int×(List aj)) ⊕ ((Int×(List aj)) ⊕ (Int×Int×(List aj))))
 |(v1,v2,v3)=>(bif (decide (v1 < ((a0.length:Int):Int)))then (at? a0 v1).bind fun x1=>bif eqL v3.length v3.length then (lI x1 v2 v3).bind fun r1=>(bif r1.1 then (bif eqL r1.2.2.length r1.2.2.length then some (v1,r1.2.1,r1.2.2)else none).map fun a=> .inr (.inr a)else bif eqL r1.2.2.length r1.2.2.length then some (.inl ((i64.wrap (v1+1)),r1.2.1,r1.2.2))else none)else none else bif eqL v3.length v3.length then some (.inr (.inl (v2,v3)))else none)
def iV (n:Nat) (a0:(List aj)) (a1:Int) (a2:(List aj)):Option (Int×Int×(List aj)):=
 bif eqL a2.length a2.length then bI (iter (fV a0) n ((0:Int),a1,a2)) fun (w1,w2)=>bif eqL w2.length w2.length then some (((-1):Int),w1,w2)else none else none
def bV (a0:Int) (a1:(List aj)):(Int×Int×(List aj)×Int×(List aj))->Option ((Int×Int×(List aj)×Int×(List aj)) ⊕ (Int×(List aj)×Int×(List aj)))
 |(v1,v2,v3,v4,v5)=>(bif (decide (v2 < ((((a1.length - (a0:Int).toNat):Nat):Int):Int)))then (bif inb v2 (a1.length - (a0:Int).toNat)then (at? v3 (((a0:Int).toNat:Nat)+v2:Int)).bind fun x1=>bif eqL v5.length v5.length then (lI x1 v4 v5).bind fun r2=>(bif (!r2.1)then bif inb v1 (a1.length - (a0:Int).toNat)then (at? v3 (((a0:Int).toNat:Nat)+v1:Int)).bind fun x2=>bif eqL r2.2.2.length r2.2.2.length then some ((i64.wrap (v1+1)),(v3.set (((a0:Int).toNat:Nat)+v1:Int).toNat x1),r2.2.1,r2.2.2)else none else none else bif eqL r2.2.2.length r2.2.2.length then some (v1,v3,r2.2.1,r2.2.2)else none)else none else none:Option (Int×(List aj)×Int×(List aj))).bind fun (v6,v7,v8,v9)=>bif eqL v9.length v9.length then some (.inl (v6,(i64.wrap (v2+1)),v7,v8,v9))else none else bif eqL v5.length v5.length then some (.inr (v1,v3,v4,v5))else none)
def iD (n:Nat) (a0:Int) (a1:(List aj)) (a2:Int) (a3:(List aj)):Option (Int×(List aj)×Int×(List aj)):=
 bif eqL (sub a1 ((a0:Int).toNat) (a1.length - (a0:Int).toNat)).length (a1.length - (a0:Int).toNat)then bif eqL a3.length a3.length then (iV n (sub a1 ((a0:Int).toNat) (a1.length - (a0:Int).toNat)) a2 a3).bind fun r1=>(bif (r1.1==((-1):Int))then bif eqL (((a0:Int).toNat)+(a1.length - (a0:Int).toNat)) a1.length then bif eqL r1.2.2.length r1.2.2.length then some ((((a0:Int).toNat:Nat):Int),a1,r1.2.1,r1.2.2)else none else none else bif eqL r1.2.2.length r1.2.2.length then (iter (bV a0 a1) n (r1.1,(i64.wrap (r1.1+1)),a1,r1.2.1,r1.2.2)).bind fun (w1,w2,w3,w4)=>bif oh w1 (((a1.length - (a0:Int).toNat):Nat):Int) (a1.length - (a0:Int).toNat)then bif oh 0 w1 (a1.length - (a0:Int).toNat)then bif eqL (((a0:Int).toNat)+((w1:Int).toNat)) (w2.take ((a0:Int).toNat+(w1:Int).toNat)).length then bif eqL w4.length w4.length then some ((((a0:Int).toNat:Nat):Int),(w2.take ((a0:Int).toNat+(w1:Int).toNat)),w3,w4)else none else none else none else none else none)else none else none
def lJ (n:Nat):(Int×(List aj)×Int×(List aj))->Option ((Int×(List aj)×Int×(List aj)) ⊕ (Int×(List aj)×(List aj)))
 |(v4,v5,v6,v7)=>(bif (decide (v6 < (((v7.length:Nat):Int):Int)))then bif eqL (((v4:Int).toNat)+(v5.length - (v4:Int).toNat)) v5.length then bif eqL v7.length v7.length then (iD n (((v4:Int).toNat:Nat):Int) v5 v6 v7).bind fun r3=>bif eqL (((r3.1:Int).toNat)+(r3.2.1.length - (r3.1:Int).toNat)) r3.2.1.length then bif eqL r3.2.2.2.length r3.2.2.2.length then some (.inl ((((r3.1:Int).toNat:Nat):Int),r3.2.1,(i64.wrap (r3.2.2.1+1)),r3.2.2.2))else none else none else none else none else bif eqL (((v4:Int).toNat)+(v5.length - (v4:Int).toNat)) v5.length then bif eqL v7.length v7.length then some (.inr ((((v4:Int).toNat:Nat):Int),v5,v7))else none else none)
def uK (n:Nat):(Int×(List aj)×(List (List aj)))->Option ((Int×(List aj)×(List (List aj))) ⊕ (List (List aj)))
 |(v1,v2,v3)=>(bif (decide ((((v2.length - (v1:Int).toNat):Nat):Int)>(0:Int)))then bif inb 0 (v2.length - (v1:Int).toNat)then (at? v2 (((v1:Int).toNat:Nat)+0:Int)).bind fun x1=>bif oh 1 (((v2.length - (v1:Int).toNat):Nat):Int) (v2.length - (v1:Int).toNat)then bif eqL (((v1:Int).toNat+1)+((v2.length - (v1:Int).toNat) - 1)) v2.length then bif eqL 1 ([x1]:List aj).length then (iter (lJ n) n (((((v1:Int).toNat+1):Nat):Int),v2,(0:Int),([x1]:List aj))).bind fun (w1,w2,w3)=>bif eqL (sub w3 0 w3.length).length w3.length then bif eqL (sub ([(sub w3 0 w3.length)]:List (List aj)) 0 1).length 1 then (iJ n (sub ([(sub w3 0 w3.length)]:List (List aj)) 0 1)).bind fun r4=>bif eqL (sub r4 0 r4.length).length r4.length then (yY n (sub r4 0 r4.length)).bind fun r5=>bif eqL (sub r5 0 r5.length).length r5.length then bif aX v3.length v3.length (sub ([(sub r5 0 r5.length)]:List (List aj)) 0 1).length 1 24 then fB (v3++(sub ([(sub r5 0 r5.length)]:List (List aj)) 0 1)) fun r6=>bif eqL (((w1:Int).toNat)+(w2.length - (w1:Int).toNat)) w2.length then bif eqL r6.length r6.length then some (.inl ((((w1:Int).toNat:Nat):Int),w2,r6))else none else none else none else none else none else none else none else none else none else none else none else bif eqL v3.length v3.length then some (.inr v3)else none)
def G5 (n:Nat) (a0:(List aj)):Option (List (List aj)):=
 (kD n a0).bind fun r1=>(bif (!r1)then some ([]:(List (List aj)))else (tN a0).bind fun r2=>bif eqL (0+r2.length) r2.length then bif eqL 0 ([]:List (List aj)).length then (iter (uK n) n (((0:Nat):Int),r2,([]:List (List aj)))).bind fun w4=>bif eqL (sub w4 0 w4.length).length w4.length then some (sub w4 0 w4.length)else none else none else none)
def Da (n:Nat) (a0:ax):Option Bool:=
 (oO a0.id).bind fun r1=>(bif r1 then (GV a0.owner).bind fun r2=>(bif r2 then (pW n a0.from_).bind fun r3=>(bif r3 then (jA n a0.from_ (fun (y1:Int×Unit)=>AU y1.1)).bind fun r4=>(bif (!r4)then (G5 n a0.area).bind fun r5=>some (((r5.length:Nat):Int)==(1:Int))else some false)else some false)else some false)else some false)
def tO (a0:aj) (a1:aj):Option Bool:=
 (bif (decide ((max a1.x0 a0.x0) < ((min a1.x1 a0.x1):Int)))then some (decide ((max a1.y0 a0.y0) < ((min a1.y1 a0.y1):Int)))else some false)
def dW (n:Nat) (a0:(List aj)) (a1:(aj×Unit)->Option Bool):Option Bool:=
 (qa n a0 a1).bind fun r1=>some (decide (r1>=(0:Int)))
def EA (n:Nat) (a0:aj) (a1:(List aj)):Option Bool:=
 (dW n a1 (fun (y1:aj×Unit)=>tO y1.1 a0)).bind fun r1=>some r1
def Iz (n:Nat) (a0:(List aj)) (a1:(List aj)):Option Bool:=
 (dW n a0 (fun (y1:aj×Unit)=>EA n y1.1 a1)).bind fun r1=>some r1
def uL (x1:ax):(Int×(List (Int×Bool)))->Option ((Int×(List (Int×Bool))) ⊕ (List (Int×Bool)))
 |(v5,v6)=>(bif (decide (v5 < ((x1.from_.length:Int):Int)))then (at? x1.from_ v5).bind fun x3=>some (.inl ((i64.wrap (v5+1)),(nk iEq x3 true v6)))else some (.inr v6))
def uM (n:Nat) (a0:(List ax)):(Int×(List (Int×Bool))×(List (Int×Bool)))->Option ((Int×(List (Int×Bool))×(List (Int×Bool))) ⊕ (((List (Int×Bool))×(List (Int×Bool))) ⊕ Bool))
 |(v1,v2,v3)=>(bif (decide (v1 < ((a0.length:Int):Int)))then (at? a0 v1).bind fun x1=>((Da n x1).bind fun r1=>(bif (!r1)then some true else (bif (decide (v1>(0:Int)))then (at? a0 (i64.wrap (v1 - 1))).bind fun x2=>some (decide (x2.id>=(x1.id:Int)))else some false)):Option (Bool)).bind fun v4=>(bif v4 then (some false).map fun a=> .inr (.inr a)else (iter (uL x1) n ((0:Int),v3)).bind fun w1=>some (.inl ((i64.wrap (v1+1)),(nk iEq x1.id true v2),w1)))else some (.inr (.inl (v2,v3))))
def G6 (w2:(List (Int×Bool))):Int->Unit->Option (Unit ⊕ Bool)
 |kx,()=>(bif ((jN iEq kx w2).getD false)then (some false).map .inr else some (.inl ()))
def AX (n:Nat) (a0:(List ax)) (v7:Int):Int->Option (Int ⊕ (Unit ⊕ (Int ⊕ (Unit ⊕ Bool))))
 |v8=>(bif (decide (v8 < (v7:Int)))then (at? a0 v7).bind fun x4=>(at? a0 v8).bind fun x5=>(Iz n x4.area x5.area).bind fun r2=>(bif r2 then ((some false).map fun a=> .inr (.inr a)).map fun a=> .inr (.inr a)else some (.inl (i64.wrap (v8+1))))else some (.inr (.inl ())))
def uN (n:Nat) (a0:(List ax)):Int->Option (Int ⊕ (Unit ⊕ Bool))
 |v7=>(bif (decide (v7 < ((a0.length:Int):Int)))then bI (iter (AX n a0 v7) n (0:Int)) fun ()=>some (.inl (i64.wrap (v7+1)))else some (.inr (.inl ())))
def nG (n:Nat) (a0:(List ax)):Option Bool:=
 (bif (decide ((a0.length:Int)>(20000:Int)))then some false else bI (iter (uM n a0) n ((0:Int),([]:(List (Int×Bool))),([]:(List (Int×Bool))))) fun (w2,w3)=>allEq fun _=>agu (Iu (List.map (fun p=>p.1) w3) fun ks=>Lv (G6 w2) ks ()) fun (ww:Unit)=>match ww with |()=>bI (iter (uN n a0) n (0:Int)) fun ()=>some true)
def PY (a0:(List Int)) (a1:Int):Int->Option (Int ⊕ (Unit ⊕ Int))
 |v1=>(bif (decide (v1 < ((a0.length:Int):Int)))then (at? a0 v1).bind fun x1=>(bif (a1==(x1:Int))then (some v1).map fun a=> .inr (.inr a)else some (.inl (i64.wrap (v1+1))))else some (.inr (.inl ())))
def EB (n:Nat) (a0:(List Int)) (a1:Int):Option Int:=
 bI (iter (PY a0 a1) n (0:Int)) fun ()=>some ((-1):Int)
def kE (n:Nat) (a0:(List Int)) (a1:Int):Option Bool:=
 (EB n a0 a1).bind fun r1=>some (decide (r1>=(0:Int)))
def uO (n:Nat) (a0:ax) (a1:Int):Option Bool:=
 (bif (a0.id==(a1:Int))then some true else (kE n a0.from_ a1).bind fun r1=>some r1)
def Jd (a0:(List ax)) (a1:(ax×Unit)->Option Bool):Int->Option (Int ⊕ (Unit ⊕ Int))
 |v1=>(bif (decide (v1 < ((a0.length:Int):Int)))then (at? a0 v1).bind fun x1=>(a1 (x1,())).bind fun r1=>(bif r1 then (some v1).map fun a=> .inr (.inr a)else some (.inl (i64.wrap (v1+1))))else some (.inr (.inl ())))
def l9 (n:Nat) (a0:(List ax)) (a1:(ax×Unit)->Option Bool):Option Int:=
 bI (iter (Jd a0 a1) n (0:Int)) fun ()=>some ((-1):Int)
def eG (n:Nat) (a0:(List ax)) (a1:(ax×Unit)->Option Bool):Option Bool:=
 (l9 n a0 a1).bind fun r1=>some (decide (r1>=(0:Int)))
def y5 (n:Nat) (a0:(List ax)) (a1:Int):Option Bool:=
 (eG n a0 (fun (y1:ax×Unit)=>uO n y1.1 a1)).bind fun r1=>some r1
def IA (n:Nat) (a0:ax) (a1:ax):Option Bool:=
 (Iz n a0.area a1.area).bind fun r1=>some r1
def EC (a0:(List Int)):Option (List Int):=
 (bif a0.isEmpty then (both (some ([]:(List Int))) (bif aX ([]:List Int).length 0 a0.length a0.length 8 then fB (([]:List Int)++a0) fun r1=>bif eqL (sub r1 0 r1.length).length r1.length then some (sub r1 0 r1.length)else none else none))else bif aX ([]:List Int).length 0 a0.length a0.length 8 then fB (([]:List Int)++a0) fun r2=>bif eqL (sub r2 0 r2.length).length r2.length then some (sub r2 0 r2.length)else none else none)
def uP (a0:ax):Option ax:=
 (tN a0.area).bind fun r1=>(EC a0.from_).bind fun r2=>bif eqL (sub r1 0 r1.length).length r1.length then bif eqL (sub r2 0 r2.length).length r2.length then some (ax.mk a0.id a0.owner (sub r1 0 r1.length) (sub r2 0 r2.length))else none else none
def xE (n:Nat) (a0:(List ax)) (a1:Int) (a2:Int) (a3:(ax×ax×Unit)->Option Int):Option (List ax):=
 iy (fun x y=>a3 (x,y,())) (fun r=>decide (r < 0)) n a0 a1 a2
def ED (n:Nat) (a0:(List ax)) (a1:Int) (a2:Int) (a3:Int) (a4:(ax×ax×Unit)->Option Int):Option (List ax):=
 l7 (fun x y=>a4 (x,y,())) (fun r=>decide (r < 0)) n a0 a1 a2 a3
def EF (n:Nat) (a0:(List ax)) (a1:Int) (a2:Int) (a3:(ax×ax×Unit)->Option Int):Option (List ax):=
 rG (fun x y=>a3 (x,y,())) (fun r=>decide (r < 0)) n a0 a1 a2
def xG (n:Nat) (a0:(List ax)) (a1:Int) (a2:Int) (a3:(ax×ax×Unit)->Option Int):Option (List ax):=
 fO aN aR n a0 a1 a2
def G7 (a0:(List ax)) (a1:Int) (a2:Int) (a3:Int) (a4:(ax×ax×Unit)->Option Int):Option (Int×Int×Int):=
 xq (fun x y=>a4 (x,y,())) (fun r=>decide (r < 0)) a0 a1 a2 a3
def G8 (a0:(List ax)) (a1:Int) (a2:Int) (a3:Int) (a4:Int) (a5:(ax×ax×Unit)->Option Int):Option (Int×Int):=
 tJ (fun x y=>a5 (x,y,())) (fun r=>decide (r < 0)) a0 a1 a2 a3 a4
def wC (a0:(List ax)) (a1:Int) (a2:Int) (a3:(ax×ax×Unit)->Option Int):Option (Int×Int):=
 bQ (fun x y=>a3 (x,y,())) (fun r=>decide (r < 0)) a0 a1 a2
def zY (a0:(List ax)) (a1:Int) (a2:Int) (a3:(ax×ax×Unit)->Option Int):Option (Int×Int):=
 jW (fun x y=>a3 (x,y,())) (fun r=>decide (r < 0)) a0 a1 a2
def y7 (n:Nat) (a0:(List ax)) (a1:Int) (a2:Int) (a3:(ax×ax×Unit)->Option Int):Option (List ax):=
 gV n a0 a1 a2
def oz (n:Nat) (a0:(List ax)) (a1:Int) (a2:Int) (a3:(ax×ax×Unit)->Option Int):Option (Bool×(List ax)):=
 bY (fun x y=>a3 (x,y,())) (fun r=>decide (r < 0)) n a0 a1 a2
def wD (n:Nat) (a0:(List ax)) (a1:Int) (a2:Int) (a3:Int) (a4:(ax×ax×Unit)->Option Int):Option (Int×(List ax)):=
 eX (fun x y=>a4 (x,y,())) (fun r=>decide (r < 0)) n a0 a1 a2 a3
def Db (n:Nat) (a0:(List ax)) (a1:Int) (a2:Int) (a3:Int) (a4:(ax×ax×Unit)->Option Int):Option (Int×Bool×(List ax)):=
 lG (fun x y=>a4 (x,y,())) (fun r=>decide (r < 0)) n a0 a1 a2 a3
def fZ (n:Nat) (rc:((List ax))->(Int)->(Int)->(Int)->((ax×ax×Unit)->Option Int)->Option (List ax)) (a0:(List ax)) (a1:Int) (a2:Int) (a3:Int) (a4:(ax×ax×Unit)->Option Int):Option (List ax):=
 eD (fun x y=>a4 (x,y,())) (fun r=>decide (r < 0)) aN aR n (fun l a b d=>rc l a b d a4) a0 a1 a2 a3
def jo (rc:((List ax))->(Int)->(Int)->(Int)->((ax×ax×Unit)->Option Int)->Option (List ax)):Sig xx:=⟨[.mut (.st SI.Lot),.d (.int .i64),.d (.int .i64),.d (.int .i64),.clo [(.st SI.Lot),(.st SI.Lot)] (.int .i64)],[.mu (.st SI.Lot)],fun a=>rc a.1 a.2.1 a.2.2.1 a.2.2.2.1 a.2.2.2.2.1,none⟩
def cB (n:Nat):Nat->((List ax))->(Int)->(Int)->(Int)->((ax×ax×Unit)->Option Int)->Option (List ax)
 | 0=>fun _ _ _ _ _=>none
 |m+1=>fZ n (cB n m)
def kX (n:Nat) (a0:(List ax)) (a1:Int) (a2:Int) (a3:Int) (a4:(ax×ax×Unit)->Option Int):Option (List ax):=cB n n a0 a1 a2 a3 a4
def nW (n:Nat) (a0:(List ax)) (a1:(ax×ax×Unit)->Option Int):Option (List ax):=
 (bits_Len (IntKind.u64.wrap ((a0.length:Nat):Int))).bind fun r1=>bif eqL a0.length a0.length then (kX n a0 0 ((a0.length:Nat):Int) r1 a1).bind fun r2=>some r2 else none
def tQ (a0:ax) (a1:ax):Option Int:=
 (cmp_Compare_int a0.id a1.id).bind fun r1=>some r1
def nH (n:Nat) (a0:(List ax)) (a1:(List Int)):(Int×(List ax))->Option ((Int×(List ax)) ⊕ (List ax))
 |(v1,v2)=>(bif (decide (v1 < ((a0.length:Int):Int)))then ((at? a0 v1).bind fun x1=>(kE n a1 x1.id).bind fun r1=>(bif (!r1)then (uP x1).bind fun r2=>bif aX v2.length v2.length (sub ([r2]:List ax) 0 1).length 1 64 then fB (v2++(sub ([r2]:List ax) 0 1)) fun r3=>bif eqL r3.length r3.length then some r3 else none else none else bif eqL v2.length v2.length then some v2 else none):Option ((List ax))).bind fun v3=>bif eqL v3.length v3.length then some (.inl ((i64.wrap (v1+1)),v3))else none else bif eqL v2.length v2.length then some (.inr v2)else none)
def nI (a2:(List ax)):(Int×(List ax))->Option ((Int×(List ax)) ⊕ (List ax))
 |(v4,v5)=>(bif (decide (v4 < ((a2.length:Int):Int)))then (at? a2 v4).bind fun x2=>(uP x2).bind fun r4=>bif aX v5.length v5.length (sub ([r4]:List ax) 0 1).length 1 64 then fB (v5++(sub ([r4]:List ax) 0 1)) fun r5=>bif eqL r5.length r5.length then some (.inl ((i64.wrap (v4+1)),r5))else none else none else bif eqL v5.length v5.length then some (.inr v5)else none)
def oC (n:Nat) (a0:(List ax)) (a1:(List Int)) (a2:(List ax)):Option ((List ax)×Int):=
 bif eqL 0 ([]:List ax).length then (iter (nH n a0 a1) n ((0:Int),([]:List ax))).bind fun w1=>bif eqL w1.length w1.length then (iter (nI a2) n ((0:Int),w1)).bind fun w2=>bif eqL w2.length w2.length then (nW n w2 (fun (y1:ax×ax×Unit)=>tQ y1.1 y1.2.1)).bind fun r6=>bif eqL (sub r6 0 w2.length).length w2.length then some ((sub r6 0 w2.length),(0:Int))else none else none else none else none
def NH (n:Nat) (a0:(List ax)) (a1:ax):Option ((List ax)×Int):=
 ((nG n a0).bind fun r1=>(bif (!r1)then some true else (Da n a1).bind fun r2=>(bif (!r2)then some true else some (decide ((a1.from_.length:Int)>(0:Int))))):Option (Bool)).bind fun v1=>(bif v1 then some (([]:(List ax)),(1:Int))else (y5 n a0 a1.id).bind fun r3=>(bif r3 then some (([]:(List ax)),(5:Int))else (eG n a0 (fun (y1:ax×Unit)=>IA n y1.1 a1)).bind fun r4=>(bif r4 then some (([]:(List ax)),(11:Int))else (bif (decide ((a0.length:Int)>=(20000:Int)))then some (([]:(List ax)),(6:Int))else bif eqL (sub ([a1]:List ax) 0 1).length 1 then (oC n a0 ([]) (sub ([a1]:List ax) 0 1)).bind fun r5=>bif eqL (sub r5.1 0 r5.1.length).length r5.1.length then some ((sub r5.1 0 r5.1.length),r5.2)else none else none))))
def EG (a0:(List ax)) (a1:Int):Int->Option (Int ⊕ (Unit ⊕ (ax×Bool)))
 |v1=>(bif (decide (v1 < ((a0.length:Int):Int)))then (at? a0 v1).bind fun x1=>(bif (x1.id==(a1:Int))then (uP x1).bind fun r1=>(some (r1,true)).map fun a=> .inr (.inr a)else some (.inl (i64.wrap (v1+1))))else some (.inr (.inl ())))
def AY (n:Nat) (a0:(List ax)) (a1:Int):Option (ax×Bool):=
 bI (iter (EG a0 a1) n (0:Int)) fun ()=>some ((ax.mk 0 0 ([]) ([])),false)
def iW (a0:(List aM)) (a1:Int) (a2:(aM×Int×Unit)->Option Int):(Int×Int)->Option ((Int×Int) ⊕ Int)
 |(v1,v2)=>(bif (decide (v1 < (v2:Int)))then bif (decide (0<=1)&&decide (1<=IntKind.u64.bits))then (at? a0 (i64.wrap ((IntKind.u64.wrap (i64.wrap (v1+v2)))/2 ^ (1:Int).toNat))).bind fun x1=>(a2 (x1,a1,())).bind fun r1=>(bif (decide (r1 < (0:Int)))then some (.inl ((i64.wrap ((i64.wrap ((IntKind.u64.wrap (i64.wrap (v1+v2)))/2 ^ (1:Int).toNat))+1)),v2))else some (.inl (v1,(i64.wrap ((IntKind.u64.wrap (i64.wrap (v1+v2)))/2 ^ (1:Int).toNat)))))else none else some (.inr v1))
def fQ (n:Nat) (a0:(List aM)) (a1:Int) (a2:(aM×Int×Unit)->Option Int):Option (Int×Bool):=
 (iter (iW a0 a1 a2) n ((0:Int),(a0.length:Int))).bind fun w1=>(bif (decide (w1 < ((a0.length:Int):Int)))then (at? a0 w1).bind fun x2=>(a2 (x2,a1,())).bind fun r2=>some (w1,(r2==(0:Int)))else some (w1,false))
def uQ (a0:aM) (a1:Int):Option Int:=
 (bif (decide (a0.x1<=(a1:Int)))then some ((-1):Int)else some (1:Int))
def Te (n:Nat) (a0:(List aM)) (a1:Int):Option (List aD):=
 (fQ n a0 a1 (fun (y1:aM×Int×Unit)=>uQ y1.1 y1.2.1)).bind fun r1=>((bif (decide (r1.1 < ((a0.length:Int):Int)))then (at? a0 r1.1).bind fun x1=>some (decide (x1.x0<=(a1:Int)))else some false):Option (Bool)).bind fun v1=>(bif v1 then (at? a0 r1.1).bind fun x2=>some x2.column else some ([]:(List aD)))
def L9 (a0:Unit) (a1:Int):Option (List aD):=
 (bif (decide (a1 < (0:Int)))then none else (bif (decide ((i64.wrap (a1 - (i64.wrap (0 - 0))))>(0:Int)))then bif Lh (i64.wrap (a1 - (i64.wrap (0 - 0)))) 16 then bif oh 0 0 ((i64.wrap (a1 - (i64.wrap (0 - 0)))).toNat)then bif eqL (sub (List.replicate (i64.wrap (a1 - (i64.wrap (0 - 0)))).toNat (aD.mk 0 0)) 0 0).length 0 then some (sub (List.replicate (i64.wrap (a1 - (i64.wrap (0 - 0)))).toNat (aD.mk 0 0)) 0 0)else none else none else none else some ([]:(List aD))))
def Ma (a0:(List (List aD))):(Int×Int)->Option ((Int×Int) ⊕ Int)
 |(v1,v2)=>(bif (decide (v2 < ((a0.length:Int):Int)))then (at? a0 v2).bind fun x1=>(bif (decide ((i64.wrap (v1+(x1.length:Int))) < (0:Int)))then none else some (.inl ((i64.wrap (v1+(x1.length:Int))),(i64.wrap (v2+1)))))else some (.inr v1))
def Mc (a0:(List (List aD))):(Int×(List aD))->Option ((Int×(List aD)) ⊕ (List aD))
 |(v3,v4)=>(bif (decide (v3 < ((a0.length:Int):Int)))then (at? a0 v3).bind fun x2=>bif aX v4.length v4.length x2.length x2.length 16 then fB (v4++x2) fun r2=>bif eqL r2.length r2.length then some (.inl ((i64.wrap (v3+1)),r2))else none else none else bif eqL v4.length v4.length then some (.inr v4)else none)
def y8 (n:Nat) (a0:(List (List aD))):Option (List aD):=
 (iter (Ma a0) n ((0:Int),(0:Int))).bind fun w1=>(L9 () w1).bind fun r1=>bif eqL r1.length r1.length then (iter (Mc a0) n ((0:Int),r1)).bind fun w2=>bif eqL (sub w2 0 w2.length).length w2.length then some (sub w2 0 w2.length)else none else none
def jv (a0:(List aD)) (a1:Int) (a2:(aD×Int×Unit)->Option Int):(Int×Int)->Option ((Int×Int) ⊕ Int)
 |(v1,v2)=>(bif (decide (v1 < (v2:Int)))then bif (decide (0<=1)&&decide (1<=IntKind.u64.bits))then (at? a0 (i64.wrap ((IntKind.u64.wrap (i64.wrap (v1+v2)))/2 ^ (1:Int).toNat))).bind fun x1=>(a2 (x1,a1,())).bind fun r1=>(bif (decide (r1 < (0:Int)))then some (.inl ((i64.wrap ((i64.wrap ((IntKind.u64.wrap (i64.wrap (v1+v2)))/2 ^ (1:Int).toNat))+1)),v2))else some (.inl (v1,(i64.wrap ((IntKind.u64.wrap (i64.wrap (v1+v2)))/2 ^ (1:Int).toNat)))))else none else some (.inr v1))
def gy (n:Nat) (a0:(List aD)) (a1:Int) (a2:(aD×Int×Unit)->Option Int):Option (Int×Bool):=
 (iter (jv a0 a1 a2) n ((0:Int),(a0.length:Int))).bind fun w1=>(bif (decide (w1 < ((a0.length:Int):Int)))then (at? a0 w1).bind fun x2=>(a2 (x2,a1,())).bind fun r2=>some (w1,(r2==(0:Int)))else some (w1,false))
def iX (a0:aD) (a1:Int):Option Int:=
 (bif (decide (a0.to<=(a1:Int)))then some ((-1):Int)else some (1:Int))
def Dc (n:Nat) (a0:(List aD)) (a1:Int):Option Bool:=
 (gy n a0 a1 (fun (y1:aD×Int×Unit)=>iX y1.1 y1.2.1)).bind fun r1=>(bif (decide (r1.1 < ((a0.length:Int):Int)))then (at? a0 r1.1).bind fun x1=>some (decide (x1.from_<=(a1:Int)))else some false)
def uR (r1:(List aD)):(Int×(List Int))->Option ((Int×(List Int)) ⊕ (List Int))
 |(v1,v2)=>(bif (decide (v1 < (((r1.length:Nat):Int):Int)))then bif inb v1 r1.length then (at? r1 ((0:Nat)+v1:Int)).bind fun x1=>bif aX v2.length v2.length (sub ([x1.from_,x1.to]:List Int) 0 2).length 2 8 then fB (v2++(sub ([x1.from_,x1.to]:List Int) 0 2)) fun r2=>bif eqL r2.length r2.length then some (.inl ((i64.wrap (v1+1)),r2))else none else none else none else bif eqL v2.length v2.length then some (.inr v2)else none)
def uS (n:Nat) (a0:(List aD)) (a1:(List aD)) (a2:(Bool×Bool×Unit)->Option Bool) (r4:Unit×(List Int)):(Int×(List aD))->Option ((Int×(List aD)) ⊕ (List aD))
 |(v3,v4)=>(bif (decide (v3 < (((r4.2.length:Nat):Int):Int)))then (bif inb (i64.wrap (v3 - 1)) r4.2.length then (at? r4.2 ((0:Nat)+(i64.wrap (v3 - 1)):Int)).bind fun x2=>(Dc n a0 x2).bind fun r5=>(Dc n a1 x2).bind fun r6=>(a2 (r5,r6,())).bind fun r7=>(bif (!r7)then bif eqL v4.length v4.length then some v4 else none else ((bif (decide (((v4.length:Nat):Int)>(0:Int)))then bif inb (i64.wrap (((v4.length:Nat):Int) - 1)) v4.length then (at? v4 ((0:Nat)+(i64.wrap (((v4.length:Nat):Int) - 1)):Int)).bind fun x3=>some (x3.to==(x2:Int))else none else some false):Option (Bool)).bind fun v5=>(bif v5 then bif inb v3 r4.2.length then (at? r4.2 ((0:Nat)+v3:Int)).bind fun x4=>bif inb (i64.wrap (((v4.length:Nat):Int) - 1)) v4.length then (at? v4 ((0:Nat)+(i64.wrap (((v4.length:Nat):Int) - 1)):Int)).bind fun x5=>bif eqL v4.length (v4.set ((0:Nat)+(i64.wrap (((v4.length:Nat):Int) - 1)):Int).toNat (aD.mk x5.from_ x4)).length then some (v4.set ((0:Nat)+(i64.wrap (((v4.length:Nat):Int) - 1)):Int).toNat (aD.mk x5.from_ x4))else none else none else none else bif inb v3 r4.2.length then (at? r4.2 ((0:Nat)+v3:Int)).bind fun x6=>bif aX v4.length v4.length (sub ([(aD.mk x2 x6)]:List aD) 0 1).length 1 16 then fB (v4++(sub ([(aD.mk x2 x6)]:List aD) 0 1)) fun r8=>bif eqL r8.length r8.length then some r8 else none else none else none))else none:Option ((List aD))).bind fun v6=>bif eqL v6.length v6.length then some (.inl ((i64.wrap (v3+1)),v6))else none else bif eqL v4.length v4.length then some (.inr v4)else none)
def G9 (n:Nat) (a0:(List aD)) (a1:(List aD)) (a2:(Bool×Bool×Unit)->Option Bool):Option (List aD):=
 bif eqL (sub ([a0,a1]:List (List aD)) 0 2).length 2 then (y8 n (sub ([a0,a1]:List (List aD)) 0 2)).bind fun r1=>bif eqL 0 ([]:List Int).length then (iter (uR r1) n ((0:Int),([]:List Int))).bind fun w1=>bif eqL w1.length w1.length then (gW n w1).bind fun r3=>bif eqL w1.length r3.length then (fP n r3).bind fun r4=>bif eqL 0 ([]:List aD).length then (iter (uS n a0 a1 a2 r4) n ((1:Int),([]:List aD))).bind fun w2=>bif eqL (sub w2 0 w2.length).length w2.length then some (sub w2 0 w2.length)else none else none else none else none else none else none
def nJ (n:Nat) (a2:(Bool×Bool×Unit)->Option Bool) (r3:(List aM)) (r4:(List aM)) (r5:(List aM)):(Int×(List aM))->Option ((Int×(List aM)) ⊕ (List aM))
 |(v2,v3)=>(bif (decide (v2 < (((r5.length:Nat):Int):Int)))then bif inb v2 r5.length then (at? v3 ((0:Nat)+v2:Int)).bind fun x1=>(Te n (sub r3 0 r3.length) x1.x0).bind fun r6=>(Te n (sub r4 0 r4.length) x1.x0).bind fun r7=>(G9 n r6 r7 a2).bind fun r8=>bif inb v2 r5.length then bif eqL (sub r8 0 r8.length).length r8.length then (at? v3 ((0:Nat)+v2:Int)).bind fun x2=>some (.inl ((i64.wrap (v2+1)),(v3.set ((0:Nat)+v2:Int).toNat (aM.mk x2.x0 x2.x1 (sub r8 0 r8.length)))))else none else none else none else some (.inr v3))
def y9 (n:Nat) (a0:(List aj)) (a1:(List aj)) (a2:(Bool×Bool×Unit)->Option Bool):Option ((List aj)×Int):=
 ((kD n a0).bind fun r1=>(bif (!r1)then some true else (kD n a1).bind fun r2=>some (!r2)):Option (Bool)).bind fun v1=>(bif v1 then some (([]:(List aj)),(1:Int))else bif eqL (sub ([a0]:List (List aj)) 0 1).length 1 then (iJ n (sub ([a0]:List (List aj)) 0 1)).bind fun r3=>bif eqL (sub ([a1]:List (List aj)) 0 1).length 1 then (iJ n (sub ([a1]:List (List aj)) 0 1)).bind fun r4=>bif eqL (sub r3 0 r3.length).length r3.length then bif eqL (sub r4 0 r4.length).length r4.length then bif eqL (sub ([a0,a1]:List (List aj)) 0 2).length 2 then (iJ n (sub ([a0,a1]:List (List aj)) 0 2)).bind fun r5=>(iter (nJ n a2 r3 r4 r5) n ((0:Int),r5)).bind fun w1=>bif eqL (sub w1 0 r5.length).length r5.length then (yY n (sub w1 0 r5.length)).bind fun r9=>bif eqL (sub r9 0 r9.length).length r9.length then (yZ (sub r9 0 r9.length)).bind fun r10=>some (r10.1,r10.2)else none else none else none else none else none else none else none)
def xH (a0:Bool) (a1:Bool):Option Bool:=
 (bif a0 then some a1 else some false)
def IB (n:Nat) (a0:(List aj)) (a1:(List aj)):Option ((List aj)×Int):=
 (y9 n a0 a1 (fun (y1:Bool×Bool×Unit)=>xH y1.1 y1.2.1)).bind fun r1=>some (r1.1,r1.2)
def AZ (a0:Bool) (a1:Bool):Option Bool:=
 (bif a0 then some (!a1)else some false)
def Md (n:Nat) (a0:(List aj)) (a1:(List aj)):Option ((List aj)×Int):=
 (y9 n a0 a1 (fun (y1:Bool×Bool×Unit)=>AZ y1.1 y1.2.1)).bind fun r1=>some (r1.1,r1.2)
def mh (n:Nat) (a0:(List aj)):Option Bool:=
 (G5 n a0).bind fun r1=>some (((r1.length:Nat):Int)==(1:Int))
def za (a0:(List ax)):(Int×(List Int))->Option ((Int×(List Int)) ⊕ (List Int))
 |(v1,v2)=>(bif (decide (v1 < ((a0.length:Int):Int)))then (at? a0 v1).bind fun x1=>bif aX v2.length v2.length (sub ([x1.id]:List Int) 0 1).length 1 8 then fB (v2++(sub ([x1.id]:List Int) 0 1)) fun r1=>bif aX r1.length r1.length x1.from_.length x1.from_.length 8 then fB (r1++x1.from_) fun r2=>bif eqL r2.length r2.length then some (.inl ((i64.wrap (v1+1)),r2))else none else none else none else bif eqL v2.length v2.length then some (.inr v2)else none)
def IC (n:Nat) (a0:(List ax)):Option (List Int):=
 bif eqL 0 ([]:List Int).length then (iter (za a0) n ((0:Int),([]:List Int))).bind fun w1=>bif eqL w1.length w1.length then (gW n w1).bind fun r3=>bif eqL w1.length r3.length then (fP n r3).bind fun r4=>bif eqL (sub r4.2 0 r4.2.length).length r4.2.length then some (sub r4.2 0 r4.2.length)else none else none else none else none
def Df (n:Nat) (a0:(List ax)) (a1:Int) (a2:(List aj)) (a3:Int) (a4:Int):Option ((List ax)×Int):=
 ((nG n a0).bind fun r1=>(bif (!r1)then some true else (kD n a2).bind fun r2=>(bif (!r2)then some true else (oO a3).bind fun r3=>(bif (!r3)then some true else (oO a4).bind fun r4=>(bif (!r4)then some true else some (a3==(a4:Int)))))):Option (Bool)).bind fun v1=>(bif v1 then some (([]:(List ax)),(1:Int))else (AY n a0 a1).bind fun r5=>(bif (!r5.2)then some (([]:(List ax)),(4:Int))else ((y5 n a0 a3).bind fun r6=>(bif r6 then some true else (y5 n a0 a4).bind fun r7=>some r7):Option (Bool)).bind fun v2=>(bif v2 then some (([]:(List ax)),(5:Int))else (IB n r5.1.area a2).bind fun r8=>(Md n r5.1.area a2).bind fun r9=>(((bif (r8.2==(0:Int))then some ((r8.1.length:Int)==(0:Int))else some false):Option (Bool)).bind fun v3=>(bif v3 then some v3 else (bif (r9.2==(0:Int))then some ((r9.1.length:Int)==(0:Int))else some false)):Option (Bool)).bind fun v4=>(bif v4 then some (([]:(List ax)),(10:Int))else ((bif (r8.2 != (0:Int))then some true else (bif (r9.2 != (0:Int))then some true else some (decide ((a0.length:Int)>=(20000:Int))))):Option (Bool)).bind fun v5=>(bif v5 then some (([]:(List ax)),(6:Int))else ((mh n r8.1).bind fun r10=>(bif (!r10)then some true else (mh n r9.1).bind fun r11=>some (!r11)):Option (Bool)).bind fun v6=>(bif v6 then some (([]:(List ax)),(12:Int))else bif eqL (sub ([r5.1]:List ax) 0 1).length 1 then (IC n (sub ([r5.1]:List ax) 0 1)).bind fun r12=>bif eqL (sub r12 0 r12.length).length r12.length then bif eqL (sub r12 0 r12.length).length r12.length then bif eqL (sub ([a1]:List Int) 0 1).length 1 then bif eqL (sub ([(ax.mk a3 r5.1.owner r8.1 (sub r12 0 r12.length)),(ax.mk a4 r5.1.owner r9.1 (sub r12 0 r12.length))]:List ax) 0 2).length 2 then (oC n a0 (sub ([a1]:List Int) 0 1) (sub ([(ax.mk a3 r5.1.owner r8.1 (sub r12 0 r12.length)),(ax.mk a4 r5.1.owner r9.1 (sub r12 0 r12.length))]:List ax) 0 2)).bind fun r13=>bif eqL (sub r13.1 0 r13.1.length).length r13.1.length then some ((sub r13.1 0 r13.1.length),r13.2)else none else none else none else none else none else none))))))
def wE (n:Nat) (a0:(List aj)) (a1:Int) (a2:Int) (a3:(aj×aj×Unit)->Option Int):Option (List aj):=
 iy (fun x y=>a3 (x,y,())) (fun r=>decide (r < 0)) n a0 a1 a2
def Dg (n:Nat) (a0:(List aj)) (a1:Int) (a2:Int) (a3:Int) (a4:(aj×aj×Unit)->Option Int):Option (List aj):=
 l7 (fun x y=>a4 (x,y,())) (fun r=>decide (r < 0)) n a0 a1 a2 a3
def Dh (n:Nat) (a0:(List aj)) (a1:Int) (a2:Int) (a3:(aj×aj×Unit)->Option Int):Option (List aj):=
 rG (fun x y=>a3 (x,y,())) (fun r=>decide (r < 0)) n a0 a1 a2
def wF (n:Nat) (a0:(List aj)) (a1:Int) (a2:Int) (a3:(aj×aj×Unit)->Option Int):Option (List aj):=
 fO aN aR n a0 a1 a2
def F3 (a0:(List aj)) (a1:Int) (a2:Int) (a3:Int) (a4:(aj×aj×Unit)->Option Int):Option (Int×Int×Int):=
 xq (fun x y=>a4 (x,y,())) (fun r=>decide (r < 0)) a0 a1 a2 a3
def F4 (a0:(List aj)) (a1:Int) (a2:Int) (a3:Int) (a4:Int) (a5:(aj×aj×Unit)->Option Int):Option (Int×Int):=
 tJ (fun x y=>a5 (x,y,())) (fun r=>decide (r < 0)) a0 a1 a2 a3 a4
def uT (a0:(List aj)) (a1:Int) (a2:Int) (a3:(aj×aj×Unit)->Option Int):Option (Int×Int):=
 bQ (fun x y=>a3 (x,y,())) (fun r=>decide (r < 0)) a0 a1 a2
def zb (a0:(List aj)) (a1:Int) (a2:Int) (a3:(aj×aj×Unit)->Option Int):Option (Int×Int):=
 jW (fun x y=>a3 (x,y,())) (fun r=>decide (r < 0)) a0 a1 a2
def xI (n:Nat) (a0:(List aj)) (a1:Int) (a2:Int) (a3:(aj×aj×Unit)->Option Int):Option (List aj):=
 gV n a0 a1 a2
def nK (n:Nat) (a0:(List aj)) (a1:Int) (a2:Int) (a3:(aj×aj×Unit)->Option Int):Option (Bool×(List aj)):=
 bY (fun x y=>a3 (x,y,())) (fun r=>decide (r < 0)) n a0 a1 a2
def uU (n:Nat) (a0:(List aj)) (a1:Int) (a2:Int) (a3:Int) (a4:(aj×aj×Unit)->Option Int):Option (Int×(List aj)):=
 eX (fun x y=>a4 (x,y,())) (fun r=>decide (r < 0)) n a0 a1 a2 a3
def BP (n:Nat) (a0:(List aj)) (a1:Int) (a2:Int) (a3:Int) (a4:(aj×aj×Unit)->Option Int):Option (Int×Bool×(List aj)):=
 lG (fun x y=>a4 (x,y,())) (fun r=>decide (r < 0)) n a0 a1 a2 a3
def fK (n:Nat) (rc:((List aj))->(Int)->(Int)->(Int)->((aj×aj×Unit)->Option Int)->Option (List aj)) (a0:(List aj)) (a1:Int) (a2:Int) (a3:Int) (a4:(aj×aj×Unit)->Option Int):Option (List aj):=
 eD (fun x y=>a4 (x,y,())) (fun r=>decide (r < 0)) aN aR n (fun l a b d=>rc l a b d a4) a0 a1 a2 a3
def iG (rc:((List aj))->(Int)->(Int)->(Int)->((aj×aj×Unit)->Option Int)->Option (List aj)):Sig xx:=⟨[.mut (.st SI.Rect),.d (.int .i64),.d (.int .i64),.d (.int .i64),.clo [(.st SI.Rect),(.st SI.Rect)] (.int .i64)],[.mu (.st SI.Rect)],fun a=>rc a.1 a.2.1 a.2.2.1 a.2.2.2.1 a.2.2.2.2.1,none⟩
def bW (n:Nat):Nat->((List aj))->(Int)->(Int)->(Int)->((aj×aj×Unit)->Option Int)->Option (List aj)
 | 0=>fun _ _ _ _ _=>none
 |m+1=>fK n (bW n m)
def j3 (n:Nat) (a0:(List aj)) (a1:Int) (a2:Int) (a3:Int) (a4:(aj×aj×Unit)->Option Int):Option (List aj):=bW n n a0 a1 a2 a3 a4
def mq (n:Nat) (a0:(List aj)) (a1:(aj×aj×Unit)->Option Int):Option (List aj):=
 (bits_Len (IntKind.u64.wrap ((a0.length:Nat):Int))).bind fun r1=>bif eqL a0.length a0.length then (j3 n a0 0 ((a0.length:Nat):Int) r1 a1).bind fun r2=>some r2 else none
def xJ (a0:aj) (a1:aj):Option Int:=
 (cmp_Compare_int a0.y0 a1.y0).bind fun r1=>some r1
def qb (a0:(List aj)) (a1:Int) (a2:Int):(Int×(List aj))->Option ((Int×(List aj)) ⊕ (List aj))
 |(v1,v2)=>(bif (decide (v1 < ((a0.length:Int):Int)))then ((at? a0 v1).bind fun x1=>((bif (decide (x1.x0<=(a1:Int)))then some (decide (a2<=(x1.x1:Int)))else some false):Option (Bool)).bind fun v3=>(bif v3 then bif aX v2.length v2.length (sub ([(aj.mk a1 x1.y0 a2 x1.y1)]:List aj) 0 1).length 1 32 then fB (v2++(sub ([(aj.mk a1 x1.y0 a2 x1.y1)]:List aj) 0 1)) fun r1=>bif eqL r1.length r1.length then some r1 else none else none else bif eqL v2.length v2.length then some v2 else none):Option ((List aj))).bind fun v4=>bif eqL v4.length v4.length then some (.inl ((i64.wrap (v1+1)),v4))else none else bif eqL v2.length v2.length then some (.inr v2)else none)
def qc (w1:(List aj)) (r2:(List aj)):(Int×(List aj))->Option ((Int×(List aj)) ⊕ (List aj))
 |(v5,v6)=>(bif (decide (v5 < (((w1.length:Nat):Int):Int)))then (bif inb v5 w1.length then (at? r2 ((0:Nat)+v5:Int)).bind fun x2=>((bif (decide (((v6.length:Nat):Int)>(0:Int)))then bif inb (i64.wrap (((v6.length:Nat):Int) - 1)) v6.length then (at? v6 ((0:Nat)+(i64.wrap (((v6.length:Nat):Int) - 1)):Int)).bind fun x3=>some (decide (x2.y0<=(x3.y1:Int)))else none else some false):Option (Bool)).bind fun v7=>(bif v7 then bif inb (i64.wrap (((v6.length:Nat):Int) - 1)) v6.length then (at? v6 ((0:Nat)+(i64.wrap (((v6.length:Nat):Int) - 1)):Int)).bind fun x4=>bif inb (i64.wrap (((v6.length:Nat):Int) - 1)) v6.length then (at? v6 ((0:Nat)+(i64.wrap (((v6.length:Nat):Int) - 1)):Int)).bind fun x5=>bif eqL v6.length (v6.set ((0:Nat)+(i64.wrap (((v6.length:Nat):Int) - 1)):Int).toNat (aj.mk x5.x0 x5.y0 x5.x1 (max x4.y1 x2.y1))).length then some (v6.set ((0:Nat)+(i64.wrap (((v6.length:Nat):Int) - 1)):Int).toNat (aj.mk x5.x0 x5.y0 x5.x1 (max x4.y1 x2.y1)))else none else none else none else bif aX v6.length v6.length (sub ([x2]:List aj) 0 1).length 1 32 then fB (v6++(sub ([x2]:List aj) 0 1)) fun r3=>bif eqL r3.length r3.length then some r3 else none else none)else none:Option ((List aj))).bind fun v8=>bif eqL v8.length v8.length then some (.inl ((i64.wrap (v5+1)),v8))else none else bif eqL v6.length v6.length then some (.inr v6)else none)
def IE (n:Nat) (a0:(List aj)) (a1:Int) (a2:Int):Option (List aj):=
 bif eqL 0 ([]:List aj).length then (iter (qb a0 a1 a2) n ((0:Int),([]:List aj))).bind fun w1=>bif eqL w1.length w1.length then (mq n w1 (fun (y1:aj×aj×Unit)=>xJ y1.1 y1.2.1)).bind fun r2=>bif eqL 0 ([]:List aj).length then (iter (qc w1 r2) n ((0:Int),([]:List aj))).bind fun w2=>bif eqL (sub w2 0 w2.length).length w2.length then some (sub w2 0 w2.length)else none else none else none else none
def fA (a0:(List aj)) (a1:(List aj)) (a2:(aj×aj×Unit)->Option Bool):Int->Option (Int ⊕ (Unit ⊕ Bool))
 |v1=>(bif (decide (v1 < ((a0.length:Int):Int)))then (at? a0 v1).bind fun x1=>(at? a1 v1).bind fun x2=>(a2 (x1,x2,())).bind fun r1=>(bif (!r1)then (some false).map fun a=> .inr (.inr a)else some (.inl (i64.wrap (v1+1))))else some (.inr (.inl ())))
def gH (n:Nat) (a0:(List aj)) (a1:(List aj)) (a2:(aj×aj×Unit)->Option Bool):Option Bool:=
 (bif ((a0.length:Int) != ((a1.length:Int):Int))then some false else bI (iter (fA a0 a1 a2) n (0:Int)) fun ()=>some true)
def ze (a0:aj) (a1:aj):Option Bool:=
 (bif (a0.y0==(a1.y0:Int))then some (a0.y1==(a1.y1:Int))else some false)
def zf (a0:(List aj)):(Int×(List Int))->Option ((Int×(List Int)) ⊕ (List Int))
 |(v1,v2)=>(bif (decide (v1 < ((a0.length:Int):Int)))then (at? a0 v1).bind fun x1=>bif aX v2.length v2.length (sub ([x1.x0,x1.x1]:List Int) 0 2).length 2 8 then fB (v2++(sub ([x1.x0,x1.x1]:List Int) 0 2)) fun r1=>bif eqL r1.length r1.length then some (.inl ((i64.wrap (v1+1)),r1))else none else none else bif eqL v2.length v2.length then some (.inr v2)else none)
def zh (r3:Unit×(List Int)) (v3:Int) (v4:(List aj)):(Int×(List aj))->Option ((Int×(List aj)) ⊕ (List aj))
 |(v7,v8)=>(bif (decide (v7 < (((v4.length:Nat):Int):Int)))then bif inb (i64.wrap (v3+1)) r3.2.length then (at? r3.2 ((0:Nat)+(i64.wrap (v3+1)):Int)).bind fun x4=>bif inb v7 v4.length then (at? v8 ((0:Nat)+v7:Int)).bind fun x5=>some (.inl ((i64.wrap (v7+1)),(v8.set ((0:Nat)+v7:Int).toNat (aj.mk x5.x0 x5.y0 x4 x5.y1))))else none else none else some (.inr v8))
def zi (n:Nat) (a0:(List aj)) (r3:Unit×(List Int)):(Int×(List aj)×(List aj))->Option ((Int×(List aj)×(List aj)) ⊕ (List aj))
 |(v3,v4,v5)=>(bif (decide (v3 < ((max (0:Int) (i64.wrap (((r3.2.length:Nat):Int) - 1))):Int)))then bif inb v3 r3.2.length then (at? r3.2 ((0:Nat)+v3:Int)).bind fun x2=>bif inb (i64.wrap (v3+1)) r3.2.length then (at? r3.2 ((0:Nat)+(i64.wrap (v3+1)):Int)).bind fun x3=>(IE n a0 x2 x3).bind fun r4=>(((bif (decide (((r4.length:Nat):Int)>(0:Int)))then bif eqL (sub r4 0 r4.length).length r4.length then bif eqL (sub v5 0 v5.length).length v5.length then (gH n (sub r4 0 r4.length) (sub v5 0 v5.length) (fun (y1:aj×aj×Unit)=>ze y1.1 y1.2.1)).bind fun r5=>some r5 else none else none else some false):Option (Bool)).bind fun v6=>(bif v6 then (iter (zh r3 v3 v4) n ((i64.wrap (((v4.length:Nat):Int) - ((r4.length:Nat):Int))),v4)).bind fun w2=>bif eqL v4.length w2.length then some w2 else none else bif aX v4.length v4.length (sub r4 0 r4.length).length r4.length 32 then fB (v4++(sub r4 0 r4.length)) fun r6=>bif eqL r6.length r6.length then some r6 else none else none):Option ((List aj))).bind fun v9=>bif eqL v9.length v9.length then bif eqL r4.length r4.length then some (.inl ((i64.wrap (v3+1)),v9,r4))else none else none else none else none else bif eqL v4.length v4.length then some (.inr v4)else none)
def QI (n:Nat) (a0:(List aj)):Option (List aj):=
 bif eqL 0 ([]:List Int).length then (iter (zf a0) n ((0:Int),([]:List Int))).bind fun w1=>bif eqL w1.length w1.length then (gW n w1).bind fun r2=>bif eqL w1.length r2.length then (fP n r2).bind fun r3=>bif eqL 0 ([]:List aj).length then bif eqL 0 ([]:List aj).length then (iter (zi n a0 r3) n ((0:Int),([]:List aj),([]:List aj))).bind fun w3=>bif eqL (sub w3 0 w3.length).length w3.length then some (sub w3 0 w3.length)else none else none else none else none else none else none
def rJ (a0:(List Int)):Option (List Int):=
 some a0
def qd (a0:(List Int)):Option ((List Int)×(List Int)):=
 (agE a0).bind fun r1=>bif eqL r1.2.length r1.2.length then some (r1.1,r1.2)else none
def rM (n:Nat) (a0:(List Int)):Option ((List Int)×(List Int)):=
 (qd a0).bind fun r1=>bif eqL r1.2.length r1.2.length then (gW n r1.2).bind fun r2=>bif eqL r1.2.length r2.length then some (r1.1,r2)else none else none
def tV (a0:ax) (a1:(List ax)):Option (Bool×(List ax)):=
 bif inb 0 a1.length then (at? a1 ((0:Nat)+0:Int)).bind fun x1=>bif eqL a1.length a1.length then some ((a0.owner != (x1.owner:Int)),a1)else none else none
def gK (a0:(List ax)):(Int×(List ax))->Option ((Int×(List ax)) ⊕ ((List ax) ⊕ (Int×(List ax))))
 |(v1,v2)=>(bif (decide (v1 < (((a0.length:Nat):Int):Int)))then bif inb v1 a0.length then (at? v2 ((0:Nat)+v1:Int)).bind fun x1=>bif eqL v2.length v2.length then (tV x1 v2).bind fun r1=>(bif r1.1 then (bif eqL r1.2.length r1.2.length then some (v1,r1.2)else none).map fun a=> .inr (.inr a)else bif eqL r1.2.length r1.2.length then some (.inl ((i64.wrap (v1+1)),r1.2))else none)else none else none else bif eqL v2.length v2.length then some (.inr (.inl v2))else none)
def mU (n:Nat) (a0:(List ax)):Option (Int×(List ax)):=
 bif eqL a0.length a0.length then bI (iter (gK a0) n ((0:Int),a0)) fun w1=>bif eqL w1.length w1.length then some (((-1):Int),w1)else none else none
def gM (n:Nat) (a0:(List ax)):Option (Bool×(List ax)):=
 bif eqL a0.length a0.length then bif eqL a0.length a0.length then (mU n a0).bind fun r1=>bif eqL r1.2.length r1.2.length then some ((decide (r1.1>=(0:Int))),r1.2)else none else none else none
def zk (n:Nat) (a0:(List ax)) (a1:(List Int)):(Int×(List ax))->Option ((Int×(List ax)) ⊕ ((List ax) ⊕ ((List ax)×Int)))
 |(v2,v3)=>(bif (decide (v2 < ((a1.length:Int):Int)))then (at? a1 v2).bind fun x1=>(AY n a0 x1).bind fun r6=>(bif (!r6.2)then (some (([]:(List ax)),(4:Int))).map fun a=> .inr (.inr a)else bif aX v3.length v3.length (sub ([r6.1]:List ax) 0 1).length 1 64 then fB (v3++(sub ([r6.1]:List ax) 0 1)) fun r7=>bif eqL r7.length r7.length then some (.inl ((i64.wrap (v2+1)),r7))else none else none)else bif eqL v3.length v3.length then some (.inr (.inl v3))else none)
def zn (r9:Bool×(List ax)):(Int×(List aj))->Option ((Int×(List aj)) ⊕ (List aj))
 |(v4,v5)=>(bif (decide (v4 < (((r9.2.length:Nat):Int):Int)))then bif inb v4 r9.2.length then (at? r9.2 ((0:Nat)+v4:Int)).bind fun x2=>bif aX v5.length v5.length x2.area.length x2.area.length 32 then fB (v5++x2.area) fun r10=>bif eqL r10.length r10.length then some (.inl ((i64.wrap (v4+1)),r10))else none else none else none else bif eqL v5.length v5.length then some (.inr v5)else none)
def Me (n:Nat) (a0:(List ax)) (a1:(List Int)) (a2:Int):Option ((List ax)×Int):=
 (rJ a1).bind fun r1=>(rM n r1).bind fun r2=>((nG n a0).bind fun r3=>(bif (!r3)then some true else (bif (decide ((a1.length:Int) < (2:Int)))then some true else bif eqL (sub r2.2 0 r2.2.length).length r2.2.length then (pW n (sub r2.2 0 r2.2.length)).bind fun r4=>(bif (!r4)then some true else (oO a2).bind fun r5=>some (!r5))else none)):Option (Bool)).bind fun v1=>(bif v1 then some (([]:(List ax)),(1:Int))else bif eqL 0 ([]:List ax).length then bI (iter (zk n a0 a1) n ((0:Int),([]:List ax))) fun w1=>(y5 n a0 a2).bind fun r8=>(bif r8 then some (([]:(List ax)),(5:Int))else bif eqL w1.length w1.length then bif eqL w1.length w1.length then (gM n w1).bind fun r9=>(bif r9.1 then some (([]:(List ax)),(24:Int))else bif eqL 0 ([]:List aj).length then (iter (zn r9) n ((0:Int),([]:List aj))).bind fun w2=>bif eqL (sub w2 0 w2.length).length w2.length then (QI n (sub w2 0 w2.length)).bind fun r11=>(bif (decide (((r11.length:Nat):Int)>(200:Int)))then some (([]:(List ax)),(6:Int))else bif eqL (sub r11 0 r11.length).length r11.length then (mh n (sub r11 0 r11.length)).bind fun r12=>(bif (!r12)then some (([]:(List ax)),(12:Int))else bif inb 0 r9.2.length then (at? r9.2 ((0:Nat)+0:Int)).bind fun x3=>bif eqL (sub r9.2 0 r9.2.length).length r9.2.length then (IC n (sub r9.2 0 r9.2.length)).bind fun r13=>bif eqL (sub r11 0 r11.length).length r11.length then bif eqL (sub r13 0 r13.length).length r13.length then bif eqL (sub ([(ax.mk a2 x3.owner (sub r11 0 r11.length) (sub r13 0 r13.length))]:List ax) 0 1).length 1 then (oC n a0 a1 (sub ([(ax.mk a2 x3.owner (sub r11 0 r11.length) (sub r13 0 r13.length))]:List ax) 0 1)).bind fun r14=>bif eqL (sub r14.1 0 r14.1.length).length r14.1.length then some ((sub r14.1 0 r14.1.length),r14.2)else none else none else none else none else none else none)else none)else none else none)else none else none)else none)
def U9 (x1:(List dh)):(Int×(List Int))->Option ((Int×(List Int)) ⊕ (List Int))
 |(v3,v4)=>(bif (decide (v3 < ((x1.length:Int):Int)))then (at? x1 v3).bind fun x2=>bif aX v4.length v4.length (sub ([x2.z0,x2.z1]:List Int) 0 2).length 2 8 then fB (v4++(sub ([x2.z0,x2.z1]:List Int) 0 2)) fun r1=>bif eqL r1.length r1.length then some (.inl ((i64.wrap (v3+1)),r1))else none else none else bif eqL v4.length v4.length then some (.inr v4)else none)
def Va (n:Nat) (a0:(List (List dh))):(Int×(List Int))->Option ((Int×(List Int)) ⊕ (List Int))
 |(v1,v2)=>(bif (decide (v1 < ((a0.length:Int):Int)))then (at? a0 v1).bind fun x1=>bif eqL v2.length v2.length then (iter (U9 x1) n ((0:Int),v2)).bind fun w1=>bif eqL w1.length w1.length then some (.inl ((i64.wrap (v1+1)),w1))else none else none else bif eqL v2.length v2.length then some (.inr v2)else none)
def Tf (n:Nat) (a0:(List (List dh))):Option (List Int):=
 bif eqL 0 ([]:List Int).length then (iter (Va n a0) n ((0:Int),([]:List Int))).bind fun w2=>bif eqL w2.length w2.length then (gW n w2).bind fun r2=>bif eqL w2.length r2.length then (fP n r2).bind fun r3=>bif eqL (sub r3.2 0 r3.2.length).length r3.2.length then some (sub r3.2 0 r3.2.length)else none else none else none else none
def Yc (n:Nat) (a0:(List aj)) (a1:(List aj)):Option Bool:=
 (kK n a0 a1).bind fun r1=>some r1
def agQ (n:Nat) (a0:(List dh)) (a1:dh):Option ((List dh)×Unit):=
 (bif ((a1.area.length:Int)==(0:Int))then bif eqL (sub a0 0 a0.length).length a0.length then some ((sub a0 0 a0.length),())else none else ((bif (decide ((i64.wrap (((a0.length:Nat):Int) - 1))>=(0:Int)))then bif inb (i64.wrap (((a0.length:Nat):Int) - 1)) a0.length then (at? a0 ((0:Nat)+(i64.wrap (((a0.length:Nat):Int) - 1)):Int)).bind fun x1=>(bif (x1.z1==(a1.z0:Int))then bif inb (i64.wrap (((a0.length:Nat):Int) - 1)) a0.length then (at? a0 ((0:Nat)+(i64.wrap (((a0.length:Nat):Int) - 1)):Int)).bind fun x2=>(Yc n x2.area a1.area).bind fun r1=>some r1 else none else some false)else none else some false):Option (Bool)).bind fun v1=>(bif v1 then bif inb (i64.wrap (((a0.length:Nat):Int) - 1)) a0.length then (at? a0 ((0:Nat)+(i64.wrap (((a0.length:Nat):Int) - 1)):Int)).bind fun x3=>bif eqL (sub (a0.set ((0:Nat)+(i64.wrap (((a0.length:Nat):Int) - 1)):Int).toNat (dh.mk x3.z0 a1.z1 x3.area)) 0 a0.length).length a0.length then some ((sub (a0.set ((0:Nat)+(i64.wrap (((a0.length:Nat):Int) - 1)):Int).toNat (dh.mk x3.z0 a1.z1 x3.area)) 0 a0.length),())else none else none else bif aX a0.length a0.length (sub ([a1]:List dh) 0 1).length 1 40 then fB (a0++(sub ([a1]:List dh) 0 1)) fun r2=>bif eqL (sub r2 0 r2.length).length r2.length then some ((sub r2 0 r2.length),())else none else none))
def ad3 (a0:(List dh)):Option ((List dh)×Int):=
 (bif (decide ((a0.length:Int)>(80:Int)))then some (([]:(List dh)),(6:Int))else some (a0,(0:Int)))
def agR (a0:(List Kh)):(Int×(List dh))->Option ((Int×(List dh)) ⊕ ((List dh) ⊕ ((List dh)×Int)))
 |(v1,v2)=>(bif (decide (v1 < ((a0.length:Int):Int)))then (at? a0 v1).bind fun x1=>((tK (aj.mk x1.base_x0 x1.base_y0 x1.base_x1 x1.base_y1)).bind fun r1=>(bif (!r1)then some true else (bif (decide (x1.z0 < (0:Int)))then some true else (bif (decide (x1.z0>=(x1.z1:Int)))then some true else some (decide (x1.z1>(4096:Int)))))):Option (Bool)).bind fun v3=>(bif v3 then (some (([]:(List dh)),(1:Int))).map fun a=> .inr (.inr a)else bif aX v2.length v2.length (sub ([(dh.mk x1.z0 x1.z1 ([]))]:List dh) 0 1).length 1 40 then fB (v2++(sub ([(dh.mk x1.z0 x1.z1 ([]))]:List dh) 0 1)) fun r2=>bif eqL r2.length r2.length then some (.inl ((i64.wrap (v1+1)),r2))else none else none)else bif eqL v2.length v2.length then some (.inr (.inl v2))else none)
end
end Go.Proofs
