/-
  Printed by wip/gen: what functions of the program compute.
-/
import Derived.Test.YtdgealeielbdiaaGreatTBase
open Go.IntKind (i64)
namespace Go.Proofs
open Go.Gb Go.RowKit
noncomputable section
def l13_one (a0:Int) (a1:Int) (a2:Int) (a3:Int):Option (List GRect):=
 bif eqL (sub ([(GRect.mk a0 a1 a2 a3)]:List GRect) 0 1).length 1 then some (sub ([(GRect.mk a0 a1 a2 a3)]:List GRect) 0 1)else none
def pc_number (a0:Int):Option Bool:=
 (bif (decide (1≤(a0:Int)))then some (decide (a0≤(1073741824:Int)))else some false)
def pc_owner (a0:Int):Option Bool:=
 (bif (decide (0≤(a0:Int)))then some (decide (a0≤(1073741824:Int)))else some false)
def pc_ascending_s1 (a0:(List Int)):Int→Option (Int ⊕ (Unit ⊕ Bool))
 |v1=>(bif (decide (v1 < ((a0.length:Int):Int)))then (at? a0 (i64.wrap (v1 - 1))).bind fun x1=>(at? a0 v1).bind fun x2=>(bif (decide (x1≥(x2:Int)))then (some false).map fun a=> .inr (.inr a)else some (.inl (i64.wrap (v1+1))))else some (.inr (.inl ())))
def pc_ascending (n:Nat) (a0:(List Int)):Option Bool:=
 thenB (iter (pc_ascending_s1 a0) n (1:Int)) fun ()=>some true
def sl_IndexFunc_int_s1 (a0:(List Int)) (a1:(Int×Unit)→Option Bool):Int→Option (Int ⊕ (Unit ⊕ Int))
 |v1=>(bif (decide (v1 < ((a0.length:Int):Int)))then (at? a0 v1).bind fun x1=>(a1 (x1,())).bind fun r1=>(bif r1 then (some v1).map fun a=> .inr (.inr a)else some (.inl (i64.wrap (v1+1))))else some (.inr (.inl ())))
def sl_IndexFunc_int (n:Nat) (a0:(List Int)) (a1:(Int×Unit)→Option Bool):Option Int:=
 thenB (iter (sl_IndexFunc_int_s1 a0 a1) n (0:Int)) fun ()=>some ((-1):Int)
def sl_ContainsFunc_int (n:Nat) (a0:(List Int)) (a1:(Int×Unit)→Option Bool):Option Bool:=
 (sl_IndexFunc_int n a0 a1).bind fun r1=>some (decide (r1≥(0:Int)))
def pc_valid_f1 (a0:Int):Option Bool:=
 (pc_number a0).bind fun r1=>some (!r1)
def r_Right (a0:GRect):Option Bool:=
 (bif (decide (0≤(a0.x0:Int)))then (bif (decide (a0.x0 < (a0.x1:Int)))then (bif (decide (a0.x1≤(1048576:Int)))then (bif (decide (0≤(a0.y0:Int)))then (bif (decide (a0.y0 < (a0.y1:Int)))then some (decide (a0.y1≤(1048576:Int)))else some false)else some false)else some false)else some false)else some false)
def sl_Grow_Rect (a0:Unit) (a1:Int):Option (List GRect):=
 (bif (decide (a1 < (0:Int)))then none else (bif (decide ((i64.wrap (a1 - (i64.wrap (0 - 0))))>(0:Int)))then bif mkOk (i64.wrap (a1 - (i64.wrap (0 - 0)))) 32 then bif slOk 0 0 ((i64.wrap (a1 - (i64.wrap (0 - 0)))).toNat)then bif eqL (sub (List.replicate (i64.wrap (a1 - (i64.wrap (0 - 0)))).toNat (GRect.mk 0 0 0 0)) 0 0).length 0 then some (sub (List.replicate (i64.wrap (a1 - (i64.wrap (0 - 0)))).toNat (GRect.mk 0 0 0 0)) 0 0)else none else none else none else some ([]:(List GRect))))
def sl_Concat_Rect_s1 (a0:(List (List GRect))):(Int×Int)→Option ((Int×Int) ⊕ Int)
 |(v1,v2)=>(bif (decide (v2 < ((a0.length:Int):Int)))then (at? a0 v2).bind fun x1=>(bif (decide ((i64.wrap (v1+(x1.length:Int))) < (0:Int)))then none else some (.inl ((i64.wrap (v1+(x1.length:Int))),(i64.wrap (v2+1)))))else some (.inr v1))
def sl_Concat_Rect_s2 (a0:(List (List GRect))):(Int×(List GRect))→Option ((Int×(List GRect)) ⊕ (List GRect))
 |(v3,v4)=>(bif (decide (v3 < ((a0.length:Int):Int)))then (at? a0 v3).bind fun x2=>bif appOk v4.length v4.length x2.length x2.length 32 then letv (v4++x2) fun r2=>bif eqL r2.length r2.length then some (.inl ((i64.wrap (v3+1)),r2))else none else none else bif eqL v4.length v4.length then some (.inr v4)else none)
def sl_Concat_Rect (n:Nat) (a0:(List (List GRect))):Option (List GRect):=
 (iter (sl_Concat_Rect_s1 a0) n ((0:Int),(0:Int))).bind fun w1=>(sl_Grow_Rect () w1).bind fun r1=>bif eqL r1.length r1.length then (iter (sl_Concat_Rect_s2 a0) n ((0:Int),r1)).bind fun w2=>bif eqL (sub w2 0 w2.length).length w2.length then some (sub w2 0 w2.length)else none else none
def bits_Len64 (a0:Int):Option Int:=
 ((bif (decide (a0≥(4294967296:Int)))then bif (decide (0≤32)&&decide (32≤IntKind.u64.bits))then some ((a0/2 ^ (32:Int).toNat),(32:Int))else none else some (a0,(0:Int))):Option (Int×Int)).bind fun (v1,v2)=>((bif (decide (v1≥(65536:Int)))then bif (decide (0≤16)&&decide (16≤IntKind.u64.bits))then some ((v1/2 ^ (16:Int).toNat),(i64.wrap (v2+16)))else none else some (v1,v2)):Option (Int×Int)).bind fun (v3,v4)=>((bif (decide (v3≥(256:Int)))then bif (decide (0≤8)&&decide (8≤IntKind.u64.bits))then some ((v3/2 ^ (8:Int).toNat),(i64.wrap (v4+8)))else none else some (v3,v4)):Option (Int×Int)).bind fun (v5,v6)=>(strAt (⟨#[0,1,2,2,3,3,3,3,4,4,4,4,4,4,4,4,5,5,5,5,5,5,5,5,5,5,5,5,5,5,5,5,6,6,6,6,6,6,6,6,6,6,6,6,6,6,6,6,6,6,6,6,6,6,6,6,6,6,6,6,6,6,6,6,7,7,7,7,7,7,7,7,7,7,7,7,7,7,7,7,7,7,7,7,7,7,7,7,7,7,7,7,7,7,7,7,7,7,7,7,7,7,7,7,7,7,7,7,7,7,7,7,7,7,7,7,7,7,7,7,7,7,7,7,7,7,7,7,8,8,8,8,8,8,8,8,8,8,8,8,8,8,8,8,8,8,8,8,8,8,8,8,8,8,8,8,8,8,8,8,8,8,8,8,8,8,8,8,8,8,8,8,8,8,8,8,8,8,8,8,8,8,8,8,8,8,8,8,8,8,8,8,8,8,8,8,8,8,8,8,8,8,8,8,8,8,8,8,8,8,8,8,8,8,8,8,8,8,8,8,8,8,8,8,8,8,8,8,8,8,8,8,8,8,8,8,8,8,8,8,8,8,8,8,8,8,8,8,8,8,8,8,8,8,8,8]⟩) (IntKind.u8.wrap v5)).bind fun x1=>some (i64.wrap (v6+(i64.wrap x1)))
def bits_Len (a0:Int):Option Int:=
 (bits_Len64 a0).bind fun r1=>some r1
def cmp_isNaN_int (a0:Int):Option Bool:=
 some (a0 != (a0:Int))
def cmp_Less_int (a0:Int) (a1:Int):Option Bool:=
 (cmp_isNaN_int a0).bind fun r1=>(bif r1 then (cmp_isNaN_int a1).bind fun r2=>(bif (!r2)then some true else some (decide (a0 < (a1:Int))))else some (decide (a0 < (a1:Int))))
def sl_insertionSortOrdered_int (n:Nat) (a0:(List Int)) (a1:Int) (a2:Int):Option (List Int):=
 gInsertionSort cmp_Less_int (fun r=>r) n a0 a1 a2
def sl_siftDownOrdered_int (n:Nat) (a0:(List Int)) (a1:Int) (a2:Int) (a3:Int):Option (List Int):=
 gSiftDown cmp_Less_int (fun r=>r) n a0 a1 a2 a3
def sl_heapSortOrdered_int (n:Nat) (a0:(List Int)) (a1:Int) (a2:Int):Option (List Int):=
 gHeapSort cmp_Less_int (fun r=>r) n a0 a1 a2
def sl_nextPowerOfTwo (a0:Int):Option Int:=
 (bits_Len (IntKind.u64.wrap a0)).bind fun r1=>bif (decide (0≤r1)&&decide (r1≤IntKind.u64.bits))then some (IntKind.u64.wrap (1*2 ^ (r1:Int).toNat))else none
def sl_xorshift_Next (a0:Int):Option (Int×Int):=
 bif (decide (0≤13)&&decide (13≤IntKind.u64.bits))then bif (decide (0≤7)&&decide (7≤IntKind.u64.bits))then bif (decide (0≤17)&&decide (17≤IntKind.u64.bits))then some ((bits .xor .u64 (bits .xor .u64 (bits .xor .u64 a0 (IntKind.u64.wrap (a0*2 ^ (13:Int).toNat))) ((bits .xor .u64 a0 (IntKind.u64.wrap (a0*2 ^ (13:Int).toNat)))/2 ^ (7:Int).toNat)) (IntKind.u64.wrap ((bits .xor .u64 (bits .xor .u64 a0 (IntKind.u64.wrap (a0*2 ^ (13:Int).toNat))) ((bits .xor .u64 a0 (IntKind.u64.wrap (a0*2 ^ (13:Int).toNat)))/2 ^ (7:Int).toNat))*2 ^ (17:Int).toNat))),(bits .xor .u64 (bits .xor .u64 (bits .xor .u64 a0 (IntKind.u64.wrap (a0*2 ^ (13:Int).toNat))) ((bits .xor .u64 a0 (IntKind.u64.wrap (a0*2 ^ (13:Int).toNat)))/2 ^ (7:Int).toNat)) (IntKind.u64.wrap ((bits .xor .u64 (bits .xor .u64 a0 (IntKind.u64.wrap (a0*2 ^ (13:Int).toNat))) ((bits .xor .u64 a0 (IntKind.u64.wrap (a0*2 ^ (13:Int).toNat)))/2 ^ (7:Int).toNat))*2 ^ (17:Int).toNat))))else none else none else none
def sl_breakPatternsOrdered_int (n:Nat) (a0:(List Int)) (a1:Int) (a2:Int):Option (List Int):=
 gBreakPatterns sl_nextPowerOfTwo sl_xorshift_Next n a0 a1 a2
def sl_order2Ordered_int (a0:(List Int)) (a1:Int) (a2:Int) (a3:Int):Option (Int×Int×Int):=
 gOrder2 cmp_Less_int (fun r=>r) a0 a1 a2 a3
def sl_medianOrdered_int (a0:(List Int)) (a1:Int) (a2:Int) (a3:Int) (a4:Int):Option (Int×Int):=
 gMedian cmp_Less_int (fun r=>r) a0 a1 a2 a3 a4
def sl_medianAdjacentOrdered_int (a0:(List Int)) (a1:Int) (a2:Int):Option (Int×Int):=
 gMedianAdjacent cmp_Less_int (fun r=>r) a0 a1 a2
def sl_choosePivotOrdered_int (a0:(List Int)) (a1:Int) (a2:Int):Option (Int×Int):=
 gChoosePivot cmp_Less_int (fun r=>r) a0 a1 a2
def sl_reverseRangeOrdered_int (n:Nat) (a0:(List Int)) (a1:Int) (a2:Int):Option (List Int):=
 gReverseRange n a0 a1 a2
def sl_partialInsertionSortOrdered_int (n:Nat) (a0:(List Int)) (a1:Int) (a2:Int):Option (Bool×(List Int)):=
 gPartialInsertionSort cmp_Less_int (fun r=>r) n a0 a1 a2
def sl_partitionEqualOrdered_int (n:Nat) (a0:(List Int)) (a1:Int) (a2:Int) (a3:Int):Option (Int×(List Int)):=
 gPartitionEqual cmp_Less_int (fun r=>r) n a0 a1 a2 a3
def sl_partitionOrdered_int (n:Nat) (a0:(List Int)) (a1:Int) (a2:Int) (a3:Int):Option (Int×Bool×(List Int)):=
 gPartition cmp_Less_int (fun r=>r) n a0 a1 a2 a3
def sl_pdqsortOrdered_int_b (n:Nat) (rc:((List Int))→(Int)→(Int)→(Int)→Option (List Int)) (a0:(List Int)) (a1:Int) (a2:Int) (a3:Int):Option (List Int):=
 gPdqsort_b cmp_Less_int (fun r=>r) sl_nextPowerOfTwo sl_xorshift_Next n rc a0 a1 a2 a3
def sl_pdqsortOrdered_int_rg (rc:((List Int))→(Int)→(Int)→(Int)→Option (List Int)):Sig xx:=⟨[.mut (.int .i64),.d (.int .i64),.d (.int .i64),.d (.int .i64)],[.mu (.int .i64)],fun a=>rc a.1 a.2.1 a.2.2.1 a.2.2.2.1,none⟩
def sl_pdqsortOrdered_int_m (n:Nat):Nat→((List Int))→(Int)→(Int)→(Int)→Option (List Int)
 | 0=>fun _ _ _ _=>none
 |m+1=>sl_pdqsortOrdered_int_b n (sl_pdqsortOrdered_int_m n m)
def sl_pdqsortOrdered_int (n:Nat) (a0:(List Int)) (a1:Int) (a2:Int) (a3:Int):Option (List Int):=sl_pdqsortOrdered_int_m n n a0 a1 a2 a3
def sl_Sort_int (n:Nat) (a0:(List Int)):Option (List Int):=
 (bits_Len (IntKind.u64.wrap ((a0.length:Nat):Int))).bind fun r1=>bif eqL a0.length a0.length then (sl_pdqsortOrdered_int n a0 0 ((a0.length:Nat):Int) r1).bind fun r2=>some r2 else none
def sl_Compact_int_s2 (a0:(List Int)) (v1:Int):(Int×Int×(List Int))→Option ((Int×Int×(List Int)) ⊕ (Int×(List Int)))
 |(v2,v3,v4)=>(bif (decide (v3 < ((((a0.length - (v1:Int).toNat):Nat):Int):Int)))then (bif inb v3 (a0.length - (v1:Int).toNat)then (at? v4 (((0+(v1:Int).toNat):Nat)+v3:Int)).bind fun x3=>bif inb (i64.wrap (v3 - 1)) (a0.length - (v1:Int).toNat)then (at? v4 (((0+(v1:Int).toNat):Nat)+(i64.wrap (v3 - 1)):Int)).bind fun x4=>(bif (x3 != (x4:Int))then bif inb v3 (a0.length - (v1:Int).toNat)then (at? v4 (((0+(v1:Int).toNat):Nat)+v3:Int)).bind fun x5=>bif inb v2 a0.length then (at? v4 ((0:Nat)+v2:Int)).bind fun x6=>some ((i64.wrap (v2+1)),(v4.set ((0:Nat)+v2:Int).toNat x5))else none else none else some (v2,v4))else none else none:Option (Int×(List Int))).bind fun (v5,v6)=>some (.inl (v5,(i64.wrap (v3+1)),v6))else some (.inr (v2,v4)))
def sl_Compact_int_s1 (n:Nat) (a0:(List Int)):Int→Option (Int ⊕ (Unit ⊕ (Unit×(List Int))))
 |v1=>(bif (decide (v1 < (((a0.length:Nat):Int):Int)))then bif inb v1 a0.length then (at? a0 ((0:Nat)+v1:Int)).bind fun x1=>bif inb (i64.wrap (v1 - 1)) a0.length then (at? a0 ((0:Nat)+(i64.wrap (v1 - 1)):Int)).bind fun x2=>(bif (x1==(x2:Int))then bif slOk v1 ((a0.length:Nat):Int) a0.length then (iter (sl_Compact_int_s2 a0 v1) n (v1,(1:Int),a0)).bind fun (w1,w2)=>bif slOk w1 ((a0.length:Nat):Int) a0.length then bif slOk 0 w1 a0.length then (bif eqL ((w1:Int).toNat) ((w1:Int).toNat)then bif eqL (sub (w2.take (0+(w1:Int).toNat)) 0 ((w1:Int).toNat)).length ((w1:Int).toNat)then some ((),(sub (w2.take (0+(w1:Int).toNat)) 0 ((w1:Int).toNat)))else none else none).map fun a=> .inr (.inr a)else none else none else none else some (.inl (i64.wrap (v1+1))))else none else none else some (.inr (.inl ())))
def sl_Compact_int (n:Nat) (a0:(List Int)):Option (Unit×(List Int)):=
 (bif (decide (((a0.length:Nat):Int) < (2:Int)))then bif eqL a0.length a0.length then bif eqL (sub a0 0 a0.length).length a0.length then some ((),(sub a0 0 a0.length))else none else none else thenB (iter (sl_Compact_int_s1 n a0) n (1:Int)) fun ()=>bif eqL a0.length a0.length then bif eqL (sub a0 0 a0.length).length a0.length then some ((),(sub a0 0 a0.length))else none else none)
def sl_insertionSortCmpFunc_span (n:Nat) (a0:(List Gspan)) (a1:Int) (a2:Int) (a3:(Gspan×Gspan×Unit)→Option Int):Option (List Gspan):=
 gInsertionSort (fun x y=>a3 (x,y,())) (fun r=>decide (r < 0)) n a0 a1 a2
def sl_siftDownCmpFunc_span (n:Nat) (a0:(List Gspan)) (a1:Int) (a2:Int) (a3:Int) (a4:(Gspan×Gspan×Unit)→Option Int):Option (List Gspan):=
 gSiftDown (fun x y=>a4 (x,y,())) (fun r=>decide (r < 0)) n a0 a1 a2 a3
def sl_heapSortCmpFunc_span (n:Nat) (a0:(List Gspan)) (a1:Int) (a2:Int) (a3:(Gspan×Gspan×Unit)→Option Int):Option (List Gspan):=
 gHeapSort (fun x y=>a3 (x,y,())) (fun r=>decide (r < 0)) n a0 a1 a2
def sl_breakPatternsCmpFunc_span (n:Nat) (a0:(List Gspan)) (a1:Int) (a2:Int) (a3:(Gspan×Gspan×Unit)→Option Int):Option (List Gspan):=
 gBreakPatterns sl_nextPowerOfTwo sl_xorshift_Next n a0 a1 a2
def sl_order2CmpFunc_span (a0:(List Gspan)) (a1:Int) (a2:Int) (a3:Int) (a4:(Gspan×Gspan×Unit)→Option Int):Option (Int×Int×Int):=
 gOrder2 (fun x y=>a4 (x,y,())) (fun r=>decide (r < 0)) a0 a1 a2 a3
def sl_medianCmpFunc_span (a0:(List Gspan)) (a1:Int) (a2:Int) (a3:Int) (a4:Int) (a5:(Gspan×Gspan×Unit)→Option Int):Option (Int×Int):=
 gMedian (fun x y=>a5 (x,y,())) (fun r=>decide (r < 0)) a0 a1 a2 a3 a4
def sl_medianAdjacentCmpFunc_span (a0:(List Gspan)) (a1:Int) (a2:Int) (a3:(Gspan×Gspan×Unit)→Option Int):Option (Int×Int):=
 gMedianAdjacent (fun x y=>a3 (x,y,())) (fun r=>decide (r < 0)) a0 a1 a2
def sl_choosePivotCmpFunc_span (a0:(List Gspan)) (a1:Int) (a2:Int) (a3:(Gspan×Gspan×Unit)→Option Int):Option (Int×Int):=
 gChoosePivot (fun x y=>a3 (x,y,())) (fun r=>decide (r < 0)) a0 a1 a2
def sl_reverseRangeCmpFunc_span (n:Nat) (a0:(List Gspan)) (a1:Int) (a2:Int) (a3:(Gspan×Gspan×Unit)→Option Int):Option (List Gspan):=
 gReverseRange n a0 a1 a2
def sl_partialInsertionSortCmpFunc_span (n:Nat) (a0:(List Gspan)) (a1:Int) (a2:Int) (a3:(Gspan×Gspan×Unit)→Option Int):Option (Bool×(List Gspan)):=
 gPartialInsertionSort (fun x y=>a3 (x,y,())) (fun r=>decide (r < 0)) n a0 a1 a2
def sl_partitionEqualCmpFunc_span (n:Nat) (a0:(List Gspan)) (a1:Int) (a2:Int) (a3:Int) (a4:(Gspan×Gspan×Unit)→Option Int):Option (Int×(List Gspan)):=
 gPartitionEqual (fun x y=>a4 (x,y,())) (fun r=>decide (r < 0)) n a0 a1 a2 a3
def sl_partitionCmpFunc_span (n:Nat) (a0:(List Gspan)) (a1:Int) (a2:Int) (a3:Int) (a4:(Gspan×Gspan×Unit)→Option Int):Option (Int×Bool×(List Gspan)):=
 gPartition (fun x y=>a4 (x,y,())) (fun r=>decide (r < 0)) n a0 a1 a2 a3
def sl_pdqsortCmpFunc_span_b (n:Nat) (rc:((List Gspan))→(Int)→(Int)→(Int)→((Gspan×Gspan×Unit)→Option Int)→Option (List Gspan)) (a0:(List Gspan)) (a1:Int) (a2:Int) (a3:Int) (a4:(Gspan×Gspan×Unit)→Option Int):Option (List Gspan):=
 gPdqsort_b (fun x y=>a4 (x,y,())) (fun r=>decide (r < 0)) sl_nextPowerOfTwo sl_xorshift_Next n (fun l a b d=>rc l a b d a4) a0 a1 a2 a3
def sl_pdqsortCmpFunc_span_rg (rc:((List Gspan))→(Int)→(Int)→(Int)→((Gspan×Gspan×Unit)→Option Int)→Option (List Gspan)):Sig xx:=⟨[.mut (.st SI.span),.d (.int .i64),.d (.int .i64),.d (.int .i64),.clo [(.st SI.span),(.st SI.span)] (.int .i64)],[.mu (.st SI.span)],fun a=>rc a.1 a.2.1 a.2.2.1 a.2.2.2.1 a.2.2.2.2.1,none⟩
def sl_pdqsortCmpFunc_span_m (n:Nat):Nat→((List Gspan))→(Int)→(Int)→(Int)→((Gspan×Gspan×Unit)→Option Int)→Option (List Gspan)
 | 0=>fun _ _ _ _ _=>none
 |m+1=>sl_pdqsortCmpFunc_span_b n (sl_pdqsortCmpFunc_span_m n m)
def sl_pdqsortCmpFunc_span (n:Nat) (a0:(List Gspan)) (a1:Int) (a2:Int) (a3:Int) (a4:(Gspan×Gspan×Unit)→Option Int):Option (List Gspan):=sl_pdqsortCmpFunc_span_m n n a0 a1 a2 a3 a4
def sl_SortFunc_span (n:Nat) (a0:(List Gspan)) (a1:(Gspan×Gspan×Unit)→Option Int):Option (List Gspan):=
 (bits_Len (IntKind.u64.wrap ((a0.length:Nat):Int))).bind fun r1=>bif eqL a0.length a0.length then (sl_pdqsortCmpFunc_span n a0 0 ((a0.length:Nat):Int) r1 a1).bind fun r2=>some r2 else none
def cmp_Compare_int (a0:Int) (a1:Int):Option Int:=
 (cmp_isNaN_int a0).bind fun r1=>(cmp_isNaN_int a1).bind fun r2=>(bif r1 then (bif r2 then some (0:Int)else some ((-1):Int))else (bif r2 then some (1:Int)else (bif (decide (a0 < (a1:Int)))then some ((-1):Int)else (bif (decide (a0>(a1:Int)))then some (1:Int)else some (0:Int)))))
def rg_column_f1 (a0:Gspan) (a1:Gspan):Option Int:=
 (cmp_Compare_int a0.from_ a1.from_).bind fun r1=>some r1
def rg_column_s1 (a0:(List GRect)) (a1:Int):(Int×(List Gspan))→Option ((Int×(List Gspan)) ⊕ (List Gspan))
 |(v1,v2)=>(bif (decide (v1 < ((a0.length:Int):Int)))then ((at? a0 v1).bind fun x1=>((bif (decide (x1.x0≤(a1:Int)))then some (decide (a1 < (x1.x1:Int)))else some false):Option (Bool)).bind fun v3=>(bif v3 then bif appOk v2.length v2.length (sub ([(Gspan.mk x1.y0 x1.y1)]:List Gspan) 0 1).length 1 16 then letv (v2++(sub ([(Gspan.mk x1.y0 x1.y1)]:List Gspan) 0 1)) fun r1=>bif eqL r1.length r1.length then some r1 else none else none else bif eqL v2.length v2.length then some v2 else none):Option ((List Gspan))).bind fun v4=>bif eqL v4.length v4.length then some (.inl ((i64.wrap (v1+1)),v4))else none else bif eqL v2.length v2.length then some (.inr v2)else none)
def rg_column_s2 (w1:(List Gspan)) (r2:(List Gspan)):(Int×(List Gspan))→Option ((Int×(List Gspan)) ⊕ (List Gspan))
 |(v5,v6)=>(bif (decide (v5 < (((w1.length:Nat):Int):Int)))then (bif inb v5 w1.length then (at? r2 ((0:Nat)+v5:Int)).bind fun x2=>((bif (decide (((v6.length:Nat):Int)>(0:Int)))then bif inb (i64.wrap (((v6.length:Nat):Int) - 1)) v6.length then (at? v6 ((0:Nat)+(i64.wrap (((v6.length:Nat):Int) - 1)):Int)).bind fun x3=>some (decide (x2.from_≤(x3.to:Int)))else none else some false):Option (Bool)).bind fun v7=>(bif v7 then bif inb (i64.wrap (((v6.length:Nat):Int) - 1)) v6.length then (at? v6 ((0:Nat)+(i64.wrap (((v6.length:Nat):Int) - 1)):Int)).bind fun x4=>bif inb (i64.wrap (((v6.length:Nat):Int) - 1)) v6.length then (at? v6 ((0:Nat)+(i64.wrap (((v6.length:Nat):Int) - 1)):Int)).bind fun x5=>bif eqL v6.length (v6.set ((0:Nat)+(i64.wrap (((v6.length:Nat):Int) - 1)):Int).toNat (Gspan.mk x5.from_ (max x4.to x2.to))).length then some (v6.set ((0:Nat)+(i64.wrap (((v6.length:Nat):Int) - 1)):Int).toNat (Gspan.mk x5.from_ (max x4.to x2.to)))else none else none else none else bif appOk v6.length v6.length (sub ([x2]:List Gspan) 0 1).length 1 16 then letv (v6++(sub ([x2]:List Gspan) 0 1)) fun r3=>bif eqL r3.length r3.length then some r3 else none else none)else none:Option ((List Gspan))).bind fun v8=>bif eqL v8.length v8.length then some (.inl ((i64.wrap (v5+1)),v8))else none else bif eqL v6.length v6.length then some (.inr v6)else none)
def rg_column (n:Nat) (a0:(List GRect)) (a1:Int):Option (List Gspan):=
 bif eqL 0 ([]:List Gspan).length then (iter (rg_column_s1 a0 a1) n ((0:Int),([]:List Gspan))).bind fun w1=>bif eqL w1.length w1.length then (sl_SortFunc_span n w1 (fun (y1:Gspan×Gspan×Unit)=>rg_column_f1 y1.1 y1.2.1)).bind fun r2=>bif eqL 0 ([]:List Gspan).length then (iter (rg_column_s2 w1 r2) n ((0:Int),([]:List Gspan))).bind fun w2=>bif eqL (sub w2 0 w2.length).length w2.length then some (sub w2 0 w2.length)else none else none else none else none
def rg_strips_s1 (r1:(List GRect)):(Int×(List Int))→Option ((Int×(List Int)) ⊕ (List Int))
 |(v1,v2)=>(bif (decide (v1 < (((r1.length:Nat):Int):Int)))then bif inb v1 r1.length then (at? r1 ((0:Nat)+v1:Int)).bind fun x1=>bif appOk v2.length v2.length (sub ([x1.x0,x1.x1]:List Int) 0 2).length 2 8 then letv (v2++(sub ([x1.x0,x1.x1]:List Int) 0 2)) fun r2=>bif eqL r2.length r2.length then some (.inl ((i64.wrap (v1+1)),r2))else none else none else none else bif eqL v2.length v2.length then some (.inr v2)else none)
def rg_strips_s2 (n:Nat) (r1:(List GRect)) (r4:Unit×(List Int)):(Int×(List Gstrip))→Option ((Int×(List Gstrip)) ⊕ (List Gstrip))
 |(v3,v4)=>(bif (decide (v3 < (((r4.2.length:Nat):Int):Int)))then bif inb (i64.wrap (v3 - 1)) r4.2.length then (at? r4.2 ((0:Nat)+(i64.wrap (v3 - 1)):Int)).bind fun x2=>bif inb v3 r4.2.length then (at? r4.2 ((0:Nat)+v3:Int)).bind fun x3=>bif inb (i64.wrap (v3 - 1)) r4.2.length then (at? r4.2 ((0:Nat)+(i64.wrap (v3 - 1)):Int)).bind fun x4=>bif eqL (sub r1 0 r1.length).length r1.length then (rg_column n (sub r1 0 r1.length) x4).bind fun r5=>bif eqL (sub r5 0 r5.length).length r5.length then bif appOk v4.length v4.length (sub ([(Gstrip.mk x2 x3 (sub r5 0 r5.length))]:List Gstrip) 0 1).length 1 40 then letv (v4++(sub ([(Gstrip.mk x2 x3 (sub r5 0 r5.length))]:List Gstrip) 0 1)) fun r6=>bif eqL r6.length r6.length then some (.inl ((i64.wrap (v3+1)),r6))else none else none else none else none else none else none else none else bif eqL v4.length v4.length then some (.inr v4)else none)
def rg_strips (n:Nat) (a0:(List (List GRect))):Option (List Gstrip):=
 (sl_Concat_Rect n a0).bind fun r1=>bif eqL 0 ([]:List Int).length then (iter (rg_strips_s1 r1) n ((0:Int),([]:List Int))).bind fun w1=>bif eqL w1.length w1.length then (sl_Sort_int n w1).bind fun r3=>bif eqL w1.length r3.length then (sl_Compact_int n r3).bind fun r4=>bif eqL 0 ([]:List Gstrip).length then (iter (rg_strips_s2 n r1 r4) n ((1:Int),([]:List Gstrip))).bind fun w2=>bif eqL (sub w2 0 w2.length).length w2.length then some (sub w2 0 w2.length)else none else none else none else none else none
def sl_Equal_span_s1 (a0:(List Gspan)) (a1:(List Gspan)):Int→Option (Int ⊕ (Unit ⊕ Bool))
 |v1=>(bif (decide (v1 < ((a0.length:Int):Int)))then (at? a0 v1).bind fun x1=>(at? a1 v1).bind fun x2=>(bif (!((x1.from_==(x2.from_:Int))&&((x1.to==(x2.to:Int))&&true)))then (some false).map fun a=> .inr (.inr a)else some (.inl (i64.wrap (v1+1))))else some (.inr (.inl ())))
def sl_Equal_span (n:Nat) (a0:(List Gspan)) (a1:(List Gspan)):Option Bool:=
 (bif ((a0.length:Int) != ((a1.length:Int):Int))then some false else thenB (iter (sl_Equal_span_s1 a0 a1) n (0:Int)) fun ()=>some true)
def rg_write_s2 (n:Nat) (a0:(List Gstrip)) (v1:Int):Int→Option (Int ⊕ Int)
 |v3=>((bif (decide (v3 < ((a0.length:Int):Int)))then (at? a0 v3).bind fun x1=>(at? a0 v1).bind fun x2=>(sl_Equal_span n x1.column x2.column).bind fun r1=>some r1 else some false):Option (Bool)).bind fun v4=>(bif v4 then some (.inl (i64.wrap (v3+1)))else some (.inr v3))
def rg_write_s3 (a0:(List Gstrip)) (v1:Int) (w1:Int) (x3:Gstrip):(Int×(List GRect))→Option ((Int×(List GRect)) ⊕ (List GRect))
 |(v5,v6)=>(bif (decide (v5 < ((x3.column.length:Int):Int)))then (at? x3.column v5).bind fun x4=>(at? a0 v1).bind fun x5=>(at? a0 (i64.wrap (w1 - 1))).bind fun x6=>bif appOk v6.length v6.length (sub ([(GRect.mk x5.x0 x4.from_ x6.x1 x4.to)]:List GRect) 0 1).length 1 32 then letv (v6++(sub ([(GRect.mk x5.x0 x4.from_ x6.x1 x4.to)]:List GRect) 0 1)) fun r2=>bif eqL r2.length r2.length then some (.inl ((i64.wrap (v5+1)),r2))else none else none else bif eqL v6.length v6.length then some (.inr v6)else none)
def rg_write_s1 (n:Nat) (a0:(List Gstrip)):(Int×(List GRect))→Option ((Int×(List GRect)) ⊕ (List GRect))
 |(v1,v2)=>(bif (decide (v1 < ((a0.length:Int):Int)))then (iter (rg_write_s2 n a0 v1) n (i64.wrap (v1+1))).bind fun w1=>(at? a0 v1).bind fun x3=>bif eqL v2.length v2.length then (iter (rg_write_s3 a0 v1 w1 x3) n ((0:Int),v2)).bind fun w2=>bif eqL w2.length w2.length then some (.inl (w1,w2))else none else none else bif eqL v2.length v2.length then some (.inr v2)else none)
def rg_write (n:Nat) (a0:(List Gstrip)):Option (List GRect):=
 bif eqL 0 ([]:List GRect).length then (iter (rg_write_s1 n a0) n ((0:Int),([]:List GRect))).bind fun w3=>bif eqL (sub w3 0 w3.length).length w3.length then some (sub w3 0 w3.length)else none else none
def rg_limited (a0:(List GRect)):Option ((List GRect)×Int):=
 (bif (decide ((a0.length:Int)>(200:Int)))then some (([]:(List GRect)),(6:Int))else some (a0,(0:Int)))
def rg_Of_s1 (a0:(List GRect)):Int→Option (Int ⊕ (Unit ⊕ ((List GRect)×Int)))
 |v1=>(bif (decide (v1 < ((a0.length:Int):Int)))then (at? a0 v1).bind fun x1=>(r_Right x1).bind fun r1=>(bif (!r1)then (some (([]:(List GRect)),(1:Int))).map fun a=> .inr (.inr a)else some (.inl (i64.wrap (v1+1))))else some (.inr (.inl ())))
def rg_Of (n:Nat) (a0:(List GRect)):Option ((List GRect)×Int):=
 thenB (iter (rg_Of_s1 a0) n (0:Int)) fun ()=>(bif (decide ((a0.length:Int)>(400:Int)))then some (([]:(List GRect)),(6:Int))else bif eqL (sub ([a0]:List (List GRect)) 0 1).length 1 then (rg_strips n (sub ([a0]:List (List GRect)) 0 1)).bind fun r2=>bif eqL (sub r2 0 r2.length).length r2.length then (rg_write n (sub r2 0 r2.length)).bind fun r3=>bif eqL (sub r3 0 r3.length).length r3.length then (rg_limited (sub r3 0 r3.length)).bind fun r4=>some (r4.1,r4.2)else none else none else none)
def sl_Equal_Rect_s1 (a0:(List GRect)) (a1:(List GRect)):Int→Option (Int ⊕ (Unit ⊕ Bool))
 |v1=>(bif (decide (v1 < ((a0.length:Int):Int)))then (at? a0 v1).bind fun x1=>(at? a1 v1).bind fun x2=>(bif (!((x1.x0==(x2.x0:Int))&&((x1.y0==(x2.y0:Int))&&((x1.x1==(x2.x1:Int))&&((x1.y1==(x2.y1:Int))&&true)))))then (some false).map fun a=> .inr (.inr a)else some (.inl (i64.wrap (v1+1))))else some (.inr (.inl ())))
def sl_Equal_Rect (n:Nat) (a0:(List GRect)) (a1:(List GRect)):Option Bool:=
 (bif ((a0.length:Int) != ((a1.length:Int):Int))then some false else thenB (iter (sl_Equal_Rect_s1 a0 a1) n (0:Int)) fun ()=>some true)
def rg_Right (n:Nat) (a0:(List GRect)):Option Bool:=
 (rg_Of n a0).bind fun r1=>(bif (r1.2==(0:Int))then (sl_Equal_Rect n r1.1 a0).bind fun r2=>some r2 else some false)
def sl_Clone_Rect (a0:(List GRect)):Option (List GRect):=
 (bif a0.isEmpty then (both (some ([]:(List GRect))) (bif appOk ([]:List GRect).length 0 a0.length a0.length 32 then letv (([]:List GRect)++a0) fun r1=>bif eqL (sub r1 0 r1.length).length r1.length then some (sub r1 0 r1.length)else none else none))else bif appOk ([]:List GRect).length 0 a0.length a0.length 32 then letv (([]:List GRect)++a0) fun r2=>bif eqL (sub r2 0 r2.length).length r2.length then some (sub r2 0 r2.length)else none else none)
def r_gaps (a0:GRect) (a1:GRect):Option (Int×Int):=
 some ((i64.wrap ((max a0.x0 a1.x0) - (min a0.x1 a1.x1))),(i64.wrap ((max a0.y0 a1.y0) - (min a0.y1 a1.y1))))
def r_Touch (a0:GRect) (a1:GRect):Option Bool:=
 ((r_Right a0).bind fun r1=>(bif (!r1)then some true else (r_Right a1).bind fun r2=>some (!r2)):Option (Bool)).bind fun v1=>(bif v1 then some false else (r_gaps a0 a1).bind fun r3=>(bif (r3.1==(0:Int))then (bif (decide (r3.2 < (0:Int)))then some true else (bif (r3.2==(0:Int))then some (decide (r3.1 < (0:Int)))else some false))else (bif (r3.2==(0:Int))then some (decide (r3.1 < (0:Int)))else some false)))
def sl_IndexFunc_Rect_s1 (a0:(List GRect)) (a1:(GRect×Unit)→Option Bool):Int→Option (Int ⊕ (Unit ⊕ Int))
 |v1=>(bif (decide (v1 < ((a0.length:Int):Int)))then (at? a0 v1).bind fun x1=>(a1 (x1,())).bind fun r1=>(bif r1 then (some v1).map fun a=> .inr (.inr a)else some (.inl (i64.wrap (v1+1))))else some (.inr (.inl ())))
def sl_IndexFunc_Rect (n:Nat) (a0:(List GRect)) (a1:(GRect×Unit)→Option Bool):Option Int:=
 thenB (iter (sl_IndexFunc_Rect_s1 a0 a1) n (0:Int)) fun ()=>some ((-1):Int)
def rg_Parts_f1_v1 (a0:GRect) (a1:Int) (a2:(List GRect)):Option (Bool×Int×(List GRect)):=
 bif inb a1 a2.length then (at? a2 ((0:Nat)+a1:Int)).bind fun x1=>(r_Touch x1 a0).bind fun r1=>(bif r1 then bif appOk a2.length a2.length (sub ([a0]:List GRect) 0 1).length 1 32 then letv (a2++(sub ([a0]:List GRect) 0 1)) fun r2=>bif eqL r2.length r2.length then some (true,a1,r2)else none else none else bif eqL a2.length a2.length then some (false,a1,a2)else none)else none
def sl_IndexFunc_Rect_v1_s1 (a0:(List GRect)):(Int×Int×(List GRect))→Option ((Int×Int×(List GRect)) ⊕ ((Int×(List GRect)) ⊕ (Int×Int×(List GRect))))
 |(v1,v2,v3)=>(bif (decide (v1 < ((a0.length:Int):Int)))then (at? a0 v1).bind fun x1=>bif eqL v3.length v3.length then (rg_Parts_f1_v1 x1 v2 v3).bind fun r1=>(bif r1.1 then (bif eqL r1.2.2.length r1.2.2.length then some (v1,r1.2.1,r1.2.2)else none).map fun a=> .inr (.inr a)else bif eqL r1.2.2.length r1.2.2.length then some (.inl ((i64.wrap (v1+1)),r1.2.1,r1.2.2))else none)else none else bif eqL v3.length v3.length then some (.inr (.inl (v2,v3)))else none)
def sl_IndexFunc_Rect_v1 (n:Nat) (a0:(List GRect)) (a1:Int) (a2:(List GRect)):Option (Int×Int×(List GRect)):=
 bif eqL a2.length a2.length then thenB (iter (sl_IndexFunc_Rect_v1_s1 a0) n ((0:Int),a1,a2)) fun (w1,w2)=>bif eqL w2.length w2.length then some (((-1):Int),w1,w2)else none else none
def sl_DeleteFunc_Rect_v1_s1 (a0:Int) (a1:(List GRect)):(Int×Int×(List GRect)×Int×(List GRect))→Option ((Int×Int×(List GRect)×Int×(List GRect)) ⊕ (Int×(List GRect)×Int×(List GRect)))
 |(v1,v2,v3,v4,v5)=>(bif (decide (v2 < ((((a1.length - (a0:Int).toNat):Nat):Int):Int)))then (bif inb v2 (a1.length - (a0:Int).toNat)then (at? v3 (((a0:Int).toNat:Nat)+v2:Int)).bind fun x1=>bif eqL v5.length v5.length then (rg_Parts_f1_v1 x1 v4 v5).bind fun r2=>(bif (!r2.1)then bif inb v1 (a1.length - (a0:Int).toNat)then (at? v3 (((a0:Int).toNat:Nat)+v1:Int)).bind fun x2=>bif eqL r2.2.2.length r2.2.2.length then some ((i64.wrap (v1+1)),(v3.set (((a0:Int).toNat:Nat)+v1:Int).toNat x1),r2.2.1,r2.2.2)else none else none else bif eqL r2.2.2.length r2.2.2.length then some (v1,v3,r2.2.1,r2.2.2)else none)else none else none:Option (Int×(List GRect)×Int×(List GRect))).bind fun (v6,v7,v8,v9)=>bif eqL v9.length v9.length then some (.inl (v6,(i64.wrap (v2+1)),v7,v8,v9))else none else bif eqL v5.length v5.length then some (.inr (v1,v3,v4,v5))else none)
def sl_DeleteFunc_Rect_v1 (n:Nat) (a0:Int) (a1:(List GRect)) (a2:Int) (a3:(List GRect)):Option (Int×(List GRect)×Int×(List GRect)):=
 bif eqL (sub a1 ((a0:Int).toNat) (a1.length - (a0:Int).toNat)).length (a1.length - (a0:Int).toNat)then bif eqL a3.length a3.length then (sl_IndexFunc_Rect_v1 n (sub a1 ((a0:Int).toNat) (a1.length - (a0:Int).toNat)) a2 a3).bind fun r1=>(bif (r1.1==((-1):Int))then bif eqL (((a0:Int).toNat)+(a1.length - (a0:Int).toNat)) a1.length then bif eqL r1.2.2.length r1.2.2.length then some ((((a0:Int).toNat:Nat):Int),a1,r1.2.1,r1.2.2)else none else none else bif eqL r1.2.2.length r1.2.2.length then (iter (sl_DeleteFunc_Rect_v1_s1 a0 a1) n (r1.1,(i64.wrap (r1.1+1)),a1,r1.2.1,r1.2.2)).bind fun (w1,w2,w3,w4)=>bif slOk w1 (((a1.length - (a0:Int).toNat):Nat):Int) (a1.length - (a0:Int).toNat)then bif slOk 0 w1 (a1.length - (a0:Int).toNat)then bif eqL (((a0:Int).toNat)+((w1:Int).toNat)) (w2.take ((a0:Int).toNat+(w1:Int).toNat)).length then bif eqL w4.length w4.length then some ((((a0:Int).toNat:Nat):Int),(w2.take ((a0:Int).toNat+(w1:Int).toNat)),w3,w4)else none else none else none else none else none)else none else none
def rg_Parts_s2 (n:Nat):(Int×(List GRect)×Int×(List GRect))→Option ((Int×(List GRect)×Int×(List GRect)) ⊕ (Int×(List GRect)×(List GRect)))
 |(v4,v5,v6,v7)=>(bif (decide (v6 < (((v7.length:Nat):Int):Int)))then bif eqL (((v4:Int).toNat)+(v5.length - (v4:Int).toNat)) v5.length then bif eqL v7.length v7.length then (sl_DeleteFunc_Rect_v1 n (((v4:Int).toNat:Nat):Int) v5 v6 v7).bind fun r3=>bif eqL (((r3.1:Int).toNat)+(r3.2.1.length - (r3.1:Int).toNat)) r3.2.1.length then bif eqL r3.2.2.2.length r3.2.2.2.length then some (.inl ((((r3.1:Int).toNat:Nat):Int),r3.2.1,(i64.wrap (r3.2.2.1+1)),r3.2.2.2))else none else none else none else none else bif eqL (((v4:Int).toNat)+(v5.length - (v4:Int).toNat)) v5.length then bif eqL v7.length v7.length then some (.inr ((((v4:Int).toNat:Nat):Int),v5,v7))else none else none)
def rg_Parts_s1 (n:Nat):(Int×(List GRect)×(List (List GRect)))→Option ((Int×(List GRect)×(List (List GRect))) ⊕ (List (List GRect)))
 |(v1,v2,v3)=>(bif (decide ((((v2.length - (v1:Int).toNat):Nat):Int)>(0:Int)))then bif inb 0 (v2.length - (v1:Int).toNat)then (at? v2 (((v1:Int).toNat:Nat)+0:Int)).bind fun x1=>bif slOk 1 (((v2.length - (v1:Int).toNat):Nat):Int) (v2.length - (v1:Int).toNat)then bif eqL (((v1:Int).toNat+1)+((v2.length - (v1:Int).toNat) - 1)) v2.length then bif eqL 1 ([x1]:List GRect).length then (iter (rg_Parts_s2 n) n (((((v1:Int).toNat+1):Nat):Int),v2,(0:Int),([x1]:List GRect))).bind fun (w1,w2,w3)=>bif eqL (sub w3 0 w3.length).length w3.length then bif eqL (sub ([(sub w3 0 w3.length)]:List (List GRect)) 0 1).length 1 then (rg_strips n (sub ([(sub w3 0 w3.length)]:List (List GRect)) 0 1)).bind fun r4=>bif eqL (sub r4 0 r4.length).length r4.length then (rg_write n (sub r4 0 r4.length)).bind fun r5=>bif eqL (sub r5 0 r5.length).length r5.length then bif appOk v3.length v3.length (sub ([(sub r5 0 r5.length)]:List (List GRect)) 0 1).length 1 24 then letv (v3++(sub ([(sub r5 0 r5.length)]:List (List GRect)) 0 1)) fun r6=>bif eqL (((w1:Int).toNat)+(w2.length - (w1:Int).toNat)) w2.length then bif eqL r6.length r6.length then some (.inl ((((w1:Int).toNat:Nat):Int),w2,r6))else none else none else none else none else none else none else none else none else none else none else none else bif eqL v3.length v3.length then some (.inr v3)else none)
def rg_Parts (n:Nat) (a0:(List GRect)):Option (List (List GRect)):=
 (rg_Right n a0).bind fun r1=>(bif (!r1)then some ([]:(List (List GRect)))else (sl_Clone_Rect a0).bind fun r2=>bif eqL (0+r2.length) r2.length then bif eqL 0 ([]:List (List GRect)).length then (iter (rg_Parts_s1 n) n (((0:Nat):Int),r2,([]:List (List GRect)))).bind fun w4=>bif eqL (sub w4 0 w4.length).length w4.length then some (sub w4 0 w4.length)else none else none else none)
def pc_valid (n:Nat) (a0:GLot):Option Bool:=
 (pc_number a0.id).bind fun r1=>(bif r1 then (pc_owner a0.owner).bind fun r2=>(bif r2 then (pc_ascending n a0.from_).bind fun r3=>(bif r3 then (sl_ContainsFunc_int n a0.from_ (fun (y1:Int×Unit)=>pc_valid_f1 y1.1)).bind fun r4=>(bif (!r4)then (rg_Parts n a0.area).bind fun r5=>some (((r5.length:Nat):Int)==(1:Int))else some false)else some false)else some false)else some false)
def pc_meet_f1_f1 (a0:GRect) (a1:GRect):Option Bool:=
 (bif (decide ((max a1.x0 a0.x0) < ((min a1.x1 a0.x1):Int)))then some (decide ((max a1.y0 a0.y0) < ((min a1.y1 a0.y1):Int)))else some false)
def sl_ContainsFunc_Rect (n:Nat) (a0:(List GRect)) (a1:(GRect×Unit)→Option Bool):Option Bool:=
 (sl_IndexFunc_Rect n a0 a1).bind fun r1=>some (decide (r1≥(0:Int)))
def pc_meet_f1 (n:Nat) (a0:GRect) (a1:(List GRect)):Option Bool:=
 (sl_ContainsFunc_Rect n a1 (fun (y1:GRect×Unit)=>pc_meet_f1_f1 y1.1 a0)).bind fun r1=>some r1
def pc_meet (n:Nat) (a0:(List GRect)) (a1:(List GRect)):Option Bool:=
 (sl_ContainsFunc_Rect n a0 (fun (y1:GRect×Unit)=>pc_meet_f1 n y1.1 a1)).bind fun r1=>some r1
def pc_Right_s2 (x1:GLot):(Int×(List (Int×Bool)))→Option ((Int×(List (Int×Bool))) ⊕ (List (Int×Bool)))
 |(v5,v6)=>(bif (decide (v5 < ((x1.from_.length:Int):Int)))then (at? x1.from_ v5).bind fun x3=>some (.inl ((i64.wrap (v5+1)),(mput iEq x3 true v6)))else some (.inr v6))
def pc_Right_s1 (n:Nat) (a0:(List GLot)):(Int×(List (Int×Bool))×(List (Int×Bool)))→Option ((Int×(List (Int×Bool))×(List (Int×Bool))) ⊕ (((List (Int×Bool))×(List (Int×Bool))) ⊕ Bool))
 |(v1,v2,v3)=>(bif (decide (v1 < ((a0.length:Int):Int)))then (at? a0 v1).bind fun x1=>((pc_valid n x1).bind fun r1=>(bif (!r1)then some true else (bif (decide (v1>(0:Int)))then (at? a0 (i64.wrap (v1 - 1))).bind fun x2=>some (decide (x2.id≥(x1.id:Int)))else some false)):Option (Bool)).bind fun v4=>(bif v4 then (some false).map fun a=> .inr (.inr a)else (iter (pc_Right_s2 x1) n ((0:Int),v3)).bind fun w1=>some (.inl ((i64.wrap (v1+1)),(mput iEq x1.id true v2),w1)))else some (.inr (.inl (v2,v3))))
def pc_Right_r3 (w2:(List (Int×Bool))):Int→Unit→Option (Unit ⊕ Bool)
 |kx,()=>(bif ((mlook iEq kx w2).getD false)then (some false).map .inr else some (.inl ()))
def pc_Right_s5 (n:Nat) (a0:(List GLot)) (v7:Int):Int→Option (Int ⊕ (Unit ⊕ (Int ⊕ (Unit ⊕ Bool))))
 |v8=>(bif (decide (v8 < (v7:Int)))then (at? a0 v7).bind fun x4=>(at? a0 v8).bind fun x5=>(pc_meet n x4.area x5.area).bind fun r2=>(bif r2 then ((some false).map fun a=> .inr (.inr a)).map fun a=> .inr (.inr a)else some (.inl (i64.wrap (v8+1))))else some (.inr (.inl ())))
def pc_Right_s4 (n:Nat) (a0:(List GLot)):Int→Option (Int ⊕ (Unit ⊕ Bool))
 |v7=>(bif (decide (v7 < ((a0.length:Int):Int)))then thenB (iter (pc_Right_s5 n a0 v7) n (0:Int)) fun ()=>some (.inl (i64.wrap (v7+1)))else some (.inr (.inl ())))
def pc_Right (n:Nat) (a0:(List GLot)):Option Bool:=
 (bif (decide ((a0.length:Int)>(20000:Int)))then some false else thenB (iter (pc_Right_s1 n a0) n ((0:Int),([]:(List (Int×Bool))),([]:(List (Int×Bool))))) fun (w2,w3)=>allEq fun _=>thenC (permAll (List.map (fun p=>p.1) w3) fun ks=>foldR (pc_Right_r3 w2) ks ()) fun (ww:Unit)=>match ww with |()=>thenB (iter (pc_Right_s4 n a0) n (0:Int)) fun ()=>some true)
def sl_Index_int_s1 (a0:(List Int)) (a1:Int):Int→Option (Int ⊕ (Unit ⊕ Int))
 |v1=>(bif (decide (v1 < ((a0.length:Int):Int)))then (at? a0 v1).bind fun x1=>(bif (a1==(x1:Int))then (some v1).map fun a=> .inr (.inr a)else some (.inl (i64.wrap (v1+1))))else some (.inr (.inl ())))
def sl_Index_int (n:Nat) (a0:(List Int)) (a1:Int):Option Int:=
 thenB (iter (sl_Index_int_s1 a0 a1) n (0:Int)) fun ()=>some ((-1):Int)
def sl_Contains_int (n:Nat) (a0:(List Int)) (a1:Int):Option Bool:=
 (sl_Index_int n a0 a1).bind fun r1=>some (decide (r1≥(0:Int)))
def pc_taken_f1 (n:Nat) (a0:GLot) (a1:Int):Option Bool:=
 (bif (a0.id==(a1:Int))then some true else (sl_Contains_int n a0.from_ a1).bind fun r1=>some r1)
def sl_IndexFunc_Lot_s1 (a0:(List GLot)) (a1:(GLot×Unit)→Option Bool):Int→Option (Int ⊕ (Unit ⊕ Int))
 |v1=>(bif (decide (v1 < ((a0.length:Int):Int)))then (at? a0 v1).bind fun x1=>(a1 (x1,())).bind fun r1=>(bif r1 then (some v1).map fun a=> .inr (.inr a)else some (.inl (i64.wrap (v1+1))))else some (.inr (.inl ())))
def sl_IndexFunc_Lot (n:Nat) (a0:(List GLot)) (a1:(GLot×Unit)→Option Bool):Option Int:=
 thenB (iter (sl_IndexFunc_Lot_s1 a0 a1) n (0:Int)) fun ()=>some ((-1):Int)
def sl_ContainsFunc_Lot (n:Nat) (a0:(List GLot)) (a1:(GLot×Unit)→Option Bool):Option Bool:=
 (sl_IndexFunc_Lot n a0 a1).bind fun r1=>some (decide (r1≥(0:Int)))
def pc_taken (n:Nat) (a0:(List GLot)) (a1:Int):Option Bool:=
 (sl_ContainsFunc_Lot n a0 (fun (y1:GLot×Unit)=>pc_taken_f1 n y1.1 a1)).bind fun r1=>some r1
def pc_Add_f1 (n:Nat) (a0:GLot) (a1:GLot):Option Bool:=
 (pc_meet n a0.area a1.area).bind fun r1=>some r1
def sl_Clone_int (a0:(List Int)):Option (List Int):=
 (bif a0.isEmpty then (both (some ([]:(List Int))) (bif appOk ([]:List Int).length 0 a0.length a0.length 8 then letv (([]:List Int)++a0) fun r1=>bif eqL (sub r1 0 r1.length).length r1.length then some (sub r1 0 r1.length)else none else none))else bif appOk ([]:List Int).length 0 a0.length a0.length 8 then letv (([]:List Int)++a0) fun r2=>bif eqL (sub r2 0 r2.length).length r2.length then some (sub r2 0 r2.length)else none else none)
def pc_clone (a0:GLot):Option GLot:=
 (sl_Clone_Rect a0.area).bind fun r1=>(sl_Clone_int a0.from_).bind fun r2=>bif eqL (sub r1 0 r1.length).length r1.length then bif eqL (sub r2 0 r2.length).length r2.length then some (GLot.mk a0.id a0.owner (sub r1 0 r1.length) (sub r2 0 r2.length))else none else none
def sl_insertionSortCmpFunc_Lot (n:Nat) (a0:(List GLot)) (a1:Int) (a2:Int) (a3:(GLot×GLot×Unit)→Option Int):Option (List GLot):=
 gInsertionSort (fun x y=>a3 (x,y,())) (fun r=>decide (r < 0)) n a0 a1 a2
def sl_siftDownCmpFunc_Lot (n:Nat) (a0:(List GLot)) (a1:Int) (a2:Int) (a3:Int) (a4:(GLot×GLot×Unit)→Option Int):Option (List GLot):=
 gSiftDown (fun x y=>a4 (x,y,())) (fun r=>decide (r < 0)) n a0 a1 a2 a3
def sl_heapSortCmpFunc_Lot (n:Nat) (a0:(List GLot)) (a1:Int) (a2:Int) (a3:(GLot×GLot×Unit)→Option Int):Option (List GLot):=
 gHeapSort (fun x y=>a3 (x,y,())) (fun r=>decide (r < 0)) n a0 a1 a2
def sl_breakPatternsCmpFunc_Lot (n:Nat) (a0:(List GLot)) (a1:Int) (a2:Int) (a3:(GLot×GLot×Unit)→Option Int):Option (List GLot):=
 gBreakPatterns sl_nextPowerOfTwo sl_xorshift_Next n a0 a1 a2
def sl_order2CmpFunc_Lot (a0:(List GLot)) (a1:Int) (a2:Int) (a3:Int) (a4:(GLot×GLot×Unit)→Option Int):Option (Int×Int×Int):=
 gOrder2 (fun x y=>a4 (x,y,())) (fun r=>decide (r < 0)) a0 a1 a2 a3
def sl_medianCmpFunc_Lot (a0:(List GLot)) (a1:Int) (a2:Int) (a3:Int) (a4:Int) (a5:(GLot×GLot×Unit)→Option Int):Option (Int×Int):=
 gMedian (fun x y=>a5 (x,y,())) (fun r=>decide (r < 0)) a0 a1 a2 a3 a4
def sl_medianAdjacentCmpFunc_Lot (a0:(List GLot)) (a1:Int) (a2:Int) (a3:(GLot×GLot×Unit)→Option Int):Option (Int×Int):=
 gMedianAdjacent (fun x y=>a3 (x,y,())) (fun r=>decide (r < 0)) a0 a1 a2
def sl_choosePivotCmpFunc_Lot (a0:(List GLot)) (a1:Int) (a2:Int) (a3:(GLot×GLot×Unit)→Option Int):Option (Int×Int):=
 gChoosePivot (fun x y=>a3 (x,y,())) (fun r=>decide (r < 0)) a0 a1 a2
def sl_reverseRangeCmpFunc_Lot (n:Nat) (a0:(List GLot)) (a1:Int) (a2:Int) (a3:(GLot×GLot×Unit)→Option Int):Option (List GLot):=
 gReverseRange n a0 a1 a2
def sl_partialInsertionSortCmpFunc_Lot (n:Nat) (a0:(List GLot)) (a1:Int) (a2:Int) (a3:(GLot×GLot×Unit)→Option Int):Option (Bool×(List GLot)):=
 gPartialInsertionSort (fun x y=>a3 (x,y,())) (fun r=>decide (r < 0)) n a0 a1 a2
def sl_partitionEqualCmpFunc_Lot (n:Nat) (a0:(List GLot)) (a1:Int) (a2:Int) (a3:Int) (a4:(GLot×GLot×Unit)→Option Int):Option (Int×(List GLot)):=
 gPartitionEqual (fun x y=>a4 (x,y,())) (fun r=>decide (r < 0)) n a0 a1 a2 a3
def sl_partitionCmpFunc_Lot (n:Nat) (a0:(List GLot)) (a1:Int) (a2:Int) (a3:Int) (a4:(GLot×GLot×Unit)→Option Int):Option (Int×Bool×(List GLot)):=
 gPartition (fun x y=>a4 (x,y,())) (fun r=>decide (r < 0)) n a0 a1 a2 a3
def sl_pdqsortCmpFunc_Lot_b (n:Nat) (rc:((List GLot))→(Int)→(Int)→(Int)→((GLot×GLot×Unit)→Option Int)→Option (List GLot)) (a0:(List GLot)) (a1:Int) (a2:Int) (a3:Int) (a4:(GLot×GLot×Unit)→Option Int):Option (List GLot):=
 gPdqsort_b (fun x y=>a4 (x,y,())) (fun r=>decide (r < 0)) sl_nextPowerOfTwo sl_xorshift_Next n (fun l a b d=>rc l a b d a4) a0 a1 a2 a3
def sl_pdqsortCmpFunc_Lot_rg (rc:((List GLot))→(Int)→(Int)→(Int)→((GLot×GLot×Unit)→Option Int)→Option (List GLot)):Sig xx:=⟨[.mut (.st SI.Lot),.d (.int .i64),.d (.int .i64),.d (.int .i64),.clo [(.st SI.Lot),(.st SI.Lot)] (.int .i64)],[.mu (.st SI.Lot)],fun a=>rc a.1 a.2.1 a.2.2.1 a.2.2.2.1 a.2.2.2.2.1,none⟩
def sl_pdqsortCmpFunc_Lot_m (n:Nat):Nat→((List GLot))→(Int)→(Int)→(Int)→((GLot×GLot×Unit)→Option Int)→Option (List GLot)
 | 0=>fun _ _ _ _ _=>none
 |m+1=>sl_pdqsortCmpFunc_Lot_b n (sl_pdqsortCmpFunc_Lot_m n m)
def sl_pdqsortCmpFunc_Lot (n:Nat) (a0:(List GLot)) (a1:Int) (a2:Int) (a3:Int) (a4:(GLot×GLot×Unit)→Option Int):Option (List GLot):=sl_pdqsortCmpFunc_Lot_m n n a0 a1 a2 a3 a4
def sl_SortFunc_Lot (n:Nat) (a0:(List GLot)) (a1:(GLot×GLot×Unit)→Option Int):Option (List GLot):=
 (bits_Len (IntKind.u64.wrap ((a0.length:Nat):Int))).bind fun r1=>bif eqL a0.length a0.length then (sl_pdqsortCmpFunc_Lot n a0 0 ((a0.length:Nat):Int) r1 a1).bind fun r2=>some r2 else none
def pc_replace_f1 (a0:GLot) (a1:GLot):Option Int:=
 (cmp_Compare_int a0.id a1.id).bind fun r1=>some r1
def pc_replace_s1 (n:Nat) (a0:(List GLot)) (a1:(List Int)):(Int×(List GLot))→Option ((Int×(List GLot)) ⊕ (List GLot))
 |(v1,v2)=>(bif (decide (v1 < ((a0.length:Int):Int)))then ((at? a0 v1).bind fun x1=>(sl_Contains_int n a1 x1.id).bind fun r1=>(bif (!r1)then (pc_clone x1).bind fun r2=>bif appOk v2.length v2.length (sub ([r2]:List GLot) 0 1).length 1 64 then letv (v2++(sub ([r2]:List GLot) 0 1)) fun r3=>bif eqL r3.length r3.length then some r3 else none else none else bif eqL v2.length v2.length then some v2 else none):Option ((List GLot))).bind fun v3=>bif eqL v3.length v3.length then some (.inl ((i64.wrap (v1+1)),v3))else none else bif eqL v2.length v2.length then some (.inr v2)else none)
def pc_replace_s2 (a2:(List GLot)):(Int×(List GLot))→Option ((Int×(List GLot)) ⊕ (List GLot))
 |(v4,v5)=>(bif (decide (v4 < ((a2.length:Int):Int)))then (at? a2 v4).bind fun x2=>(pc_clone x2).bind fun r4=>bif appOk v5.length v5.length (sub ([r4]:List GLot) 0 1).length 1 64 then letv (v5++(sub ([r4]:List GLot) 0 1)) fun r5=>bif eqL r5.length r5.length then some (.inl ((i64.wrap (v4+1)),r5))else none else none else bif eqL v5.length v5.length then some (.inr v5)else none)
def pc_replace (n:Nat) (a0:(List GLot)) (a1:(List Int)) (a2:(List GLot)):Option ((List GLot)×Int):=
 bif eqL 0 ([]:List GLot).length then (iter (pc_replace_s1 n a0 a1) n ((0:Int),([]:List GLot))).bind fun w1=>bif eqL w1.length w1.length then (iter (pc_replace_s2 a2) n ((0:Int),w1)).bind fun w2=>bif eqL w2.length w2.length then (sl_SortFunc_Lot n w2 (fun (y1:GLot×GLot×Unit)=>pc_replace_f1 y1.1 y1.2.1)).bind fun r6=>bif eqL (sub r6 0 w2.length).length w2.length then some ((sub r6 0 w2.length),(0:Int))else none else none else none else none
def pc_Add (n:Nat) (a0:(List GLot)) (a1:GLot):Option ((List GLot)×Int):=
 ((pc_Right n a0).bind fun r1=>(bif (!r1)then some true else (pc_valid n a1).bind fun r2=>(bif (!r2)then some true else some (decide ((a1.from_.length:Int)>(0:Int))))):Option (Bool)).bind fun v1=>(bif v1 then some (([]:(List GLot)),(1:Int))else (pc_taken n a0 a1.id).bind fun r3=>(bif r3 then some (([]:(List GLot)),(5:Int))else (sl_ContainsFunc_Lot n a0 (fun (y1:GLot×Unit)=>pc_Add_f1 n y1.1 a1)).bind fun r4=>(bif r4 then some (([]:(List GLot)),(11:Int))else (bif (decide ((a0.length:Int)≥(20000:Int)))then some (([]:(List GLot)),(6:Int))else bif eqL (sub ([a1]:List GLot) 0 1).length 1 then (pc_replace n a0 ([]) (sub ([a1]:List GLot) 0 1)).bind fun r5=>bif eqL (sub r5.1 0 r5.1.length).length r5.1.length then some ((sub r5.1 0 r5.1.length),r5.2)else none else none))))
def pc_Find_s1 (a0:(List GLot)) (a1:Int):Int→Option (Int ⊕ (Unit ⊕ (GLot×Bool)))
 |v1=>(bif (decide (v1 < ((a0.length:Int):Int)))then (at? a0 v1).bind fun x1=>(bif (x1.id==(a1:Int))then (pc_clone x1).bind fun r1=>(some (r1,true)).map fun a=> .inr (.inr a)else some (.inl (i64.wrap (v1+1))))else some (.inr (.inl ())))
def pc_Find (n:Nat) (a0:(List GLot)) (a1:Int):Option (GLot×Bool):=
 thenB (iter (pc_Find_s1 a0 a1) n (0:Int)) fun ()=>some ((GLot.mk 0 0 ([]) ([])),false)
def sl_BinarySearchFunc_strip_int_s1 (a0:(List Gstrip)) (a1:Int) (a2:(Gstrip×Int×Unit)→Option Int):(Int×Int)→Option ((Int×Int) ⊕ Int)
 |(v1,v2)=>(bif (decide (v1 < (v2:Int)))then bif (decide (0≤1)&&decide (1≤IntKind.u64.bits))then (at? a0 (i64.wrap ((IntKind.u64.wrap (i64.wrap (v1+v2)))/2 ^ (1:Int).toNat))).bind fun x1=>(a2 (x1,a1,())).bind fun r1=>(bif (decide (r1 < (0:Int)))then some (.inl ((i64.wrap ((i64.wrap ((IntKind.u64.wrap (i64.wrap (v1+v2)))/2 ^ (1:Int).toNat))+1)),v2))else some (.inl (v1,(i64.wrap ((IntKind.u64.wrap (i64.wrap (v1+v2)))/2 ^ (1:Int).toNat)))))else none else some (.inr v1))
def sl_BinarySearchFunc_strip_int (n:Nat) (a0:(List Gstrip)) (a1:Int) (a2:(Gstrip×Int×Unit)→Option Int):Option (Int×Bool):=
 (iter (sl_BinarySearchFunc_strip_int_s1 a0 a1 a2) n ((0:Int),(a0.length:Int))).bind fun w1=>(bif (decide (w1 < ((a0.length:Int):Int)))then (at? a0 w1).bind fun x2=>(a2 (x2,a1,())).bind fun r2=>some (w1,(r2==(0:Int)))else some (w1,false))
def rg_at_f1 (a0:Gstrip) (a1:Int):Option Int:=
 (bif (decide (a0.x1≤(a1:Int)))then some ((-1):Int)else some (1:Int))
def rg_at (n:Nat) (a0:(List Gstrip)) (a1:Int):Option (List Gspan):=
 (sl_BinarySearchFunc_strip_int n a0 a1 (fun (y1:Gstrip×Int×Unit)=>rg_at_f1 y1.1 y1.2.1)).bind fun r1=>((bif (decide (r1.1 < ((a0.length:Int):Int)))then (at? a0 r1.1).bind fun x1=>some (decide (x1.x0≤(a1:Int)))else some false):Option (Bool)).bind fun v1=>(bif v1 then (at? a0 r1.1).bind fun x2=>some x2.column else some ([]:(List Gspan)))
def sl_Grow_span (a0:Unit) (a1:Int):Option (List Gspan):=
 (bif (decide (a1 < (0:Int)))then none else (bif (decide ((i64.wrap (a1 - (i64.wrap (0 - 0))))>(0:Int)))then bif mkOk (i64.wrap (a1 - (i64.wrap (0 - 0)))) 16 then bif slOk 0 0 ((i64.wrap (a1 - (i64.wrap (0 - 0)))).toNat)then bif eqL (sub (List.replicate (i64.wrap (a1 - (i64.wrap (0 - 0)))).toNat (Gspan.mk 0 0)) 0 0).length 0 then some (sub (List.replicate (i64.wrap (a1 - (i64.wrap (0 - 0)))).toNat (Gspan.mk 0 0)) 0 0)else none else none else none else some ([]:(List Gspan))))
def sl_Concat_span_s1 (a0:(List (List Gspan))):(Int×Int)→Option ((Int×Int) ⊕ Int)
 |(v1,v2)=>(bif (decide (v2 < ((a0.length:Int):Int)))then (at? a0 v2).bind fun x1=>(bif (decide ((i64.wrap (v1+(x1.length:Int))) < (0:Int)))then none else some (.inl ((i64.wrap (v1+(x1.length:Int))),(i64.wrap (v2+1)))))else some (.inr v1))
def sl_Concat_span_s2 (a0:(List (List Gspan))):(Int×(List Gspan))→Option ((Int×(List Gspan)) ⊕ (List Gspan))
 |(v3,v4)=>(bif (decide (v3 < ((a0.length:Int):Int)))then (at? a0 v3).bind fun x2=>bif appOk v4.length v4.length x2.length x2.length 16 then letv (v4++x2) fun r2=>bif eqL r2.length r2.length then some (.inl ((i64.wrap (v3+1)),r2))else none else none else bif eqL v4.length v4.length then some (.inr v4)else none)
def sl_Concat_span (n:Nat) (a0:(List (List Gspan))):Option (List Gspan):=
 (iter (sl_Concat_span_s1 a0) n ((0:Int),(0:Int))).bind fun w1=>(sl_Grow_span () w1).bind fun r1=>bif eqL r1.length r1.length then (iter (sl_Concat_span_s2 a0) n ((0:Int),r1)).bind fun w2=>bif eqL (sub w2 0 w2.length).length w2.length then some (sub w2 0 w2.length)else none else none
def sl_BinarySearchFunc_span_int_s1 (a0:(List Gspan)) (a1:Int) (a2:(Gspan×Int×Unit)→Option Int):(Int×Int)→Option ((Int×Int) ⊕ Int)
 |(v1,v2)=>(bif (decide (v1 < (v2:Int)))then bif (decide (0≤1)&&decide (1≤IntKind.u64.bits))then (at? a0 (i64.wrap ((IntKind.u64.wrap (i64.wrap (v1+v2)))/2 ^ (1:Int).toNat))).bind fun x1=>(a2 (x1,a1,())).bind fun r1=>(bif (decide (r1 < (0:Int)))then some (.inl ((i64.wrap ((i64.wrap ((IntKind.u64.wrap (i64.wrap (v1+v2)))/2 ^ (1:Int).toNat))+1)),v2))else some (.inl (v1,(i64.wrap ((IntKind.u64.wrap (i64.wrap (v1+v2)))/2 ^ (1:Int).toNat)))))else none else some (.inr v1))
def sl_BinarySearchFunc_span_int (n:Nat) (a0:(List Gspan)) (a1:Int) (a2:(Gspan×Int×Unit)→Option Int):Option (Int×Bool):=
 (iter (sl_BinarySearchFunc_span_int_s1 a0 a1 a2) n ((0:Int),(a0.length:Int))).bind fun w1=>(bif (decide (w1 < ((a0.length:Int):Int)))then (at? a0 w1).bind fun x2=>(a2 (x2,a1,())).bind fun r2=>some (w1,(r2==(0:Int)))else some (w1,false))
def rg_inside_f1 (a0:Gspan) (a1:Int):Option Int:=
 (bif (decide (a0.to≤(a1:Int)))then some ((-1):Int)else some (1:Int))
def rg_inside (n:Nat) (a0:(List Gspan)) (a1:Int):Option Bool:=
 (sl_BinarySearchFunc_span_int n a0 a1 (fun (y1:Gspan×Int×Unit)=>rg_inside_f1 y1.1 y1.2.1)).bind fun r1=>(bif (decide (r1.1 < ((a0.length:Int):Int)))then (at? a0 r1.1).bind fun x1=>some (decide (x1.from_≤(a1:Int)))else some false)
def rg_merge_s1 (r1:(List Gspan)):(Int×(List Int))→Option ((Int×(List Int)) ⊕ (List Int))
 |(v1,v2)=>(bif (decide (v1 < (((r1.length:Nat):Int):Int)))then bif inb v1 r1.length then (at? r1 ((0:Nat)+v1:Int)).bind fun x1=>bif appOk v2.length v2.length (sub ([x1.from_,x1.to]:List Int) 0 2).length 2 8 then letv (v2++(sub ([x1.from_,x1.to]:List Int) 0 2)) fun r2=>bif eqL r2.length r2.length then some (.inl ((i64.wrap (v1+1)),r2))else none else none else none else bif eqL v2.length v2.length then some (.inr v2)else none)
def rg_merge_s2 (n:Nat) (a0:(List Gspan)) (a1:(List Gspan)) (a2:(Bool×Bool×Unit)→Option Bool) (r4:Unit×(List Int)):(Int×(List Gspan))→Option ((Int×(List Gspan)) ⊕ (List Gspan))
 |(v3,v4)=>(bif (decide (v3 < (((r4.2.length:Nat):Int):Int)))then (bif inb (i64.wrap (v3 - 1)) r4.2.length then (at? r4.2 ((0:Nat)+(i64.wrap (v3 - 1)):Int)).bind fun x2=>(rg_inside n a0 x2).bind fun r5=>(rg_inside n a1 x2).bind fun r6=>(a2 (r5,r6,())).bind fun r7=>(bif (!r7)then bif eqL v4.length v4.length then some v4 else none else ((bif (decide (((v4.length:Nat):Int)>(0:Int)))then bif inb (i64.wrap (((v4.length:Nat):Int) - 1)) v4.length then (at? v4 ((0:Nat)+(i64.wrap (((v4.length:Nat):Int) - 1)):Int)).bind fun x3=>some (x3.to==(x2:Int))else none else some false):Option (Bool)).bind fun v5=>(bif v5 then bif inb v3 r4.2.length then (at? r4.2 ((0:Nat)+v3:Int)).bind fun x4=>bif inb (i64.wrap (((v4.length:Nat):Int) - 1)) v4.length then (at? v4 ((0:Nat)+(i64.wrap (((v4.length:Nat):Int) - 1)):Int)).bind fun x5=>bif eqL v4.length (v4.set ((0:Nat)+(i64.wrap (((v4.length:Nat):Int) - 1)):Int).toNat (Gspan.mk x5.from_ x4)).length then some (v4.set ((0:Nat)+(i64.wrap (((v4.length:Nat):Int) - 1)):Int).toNat (Gspan.mk x5.from_ x4))else none else none else none else bif inb v3 r4.2.length then (at? r4.2 ((0:Nat)+v3:Int)).bind fun x6=>bif appOk v4.length v4.length (sub ([(Gspan.mk x2 x6)]:List Gspan) 0 1).length 1 16 then letv (v4++(sub ([(Gspan.mk x2 x6)]:List Gspan) 0 1)) fun r8=>bif eqL r8.length r8.length then some r8 else none else none else none))else none:Option ((List Gspan))).bind fun v6=>bif eqL v6.length v6.length then some (.inl ((i64.wrap (v3+1)),v6))else none else bif eqL v4.length v4.length then some (.inr v4)else none)
def rg_merge (n:Nat) (a0:(List Gspan)) (a1:(List Gspan)) (a2:(Bool×Bool×Unit)→Option Bool):Option (List Gspan):=
 bif eqL (sub ([a0,a1]:List (List Gspan)) 0 2).length 2 then (sl_Concat_span n (sub ([a0,a1]:List (List Gspan)) 0 2)).bind fun r1=>bif eqL 0 ([]:List Int).length then (iter (rg_merge_s1 r1) n ((0:Int),([]:List Int))).bind fun w1=>bif eqL w1.length w1.length then (sl_Sort_int n w1).bind fun r3=>bif eqL w1.length r3.length then (sl_Compact_int n r3).bind fun r4=>bif eqL 0 ([]:List Gspan).length then (iter (rg_merge_s2 n a0 a1 a2 r4) n ((1:Int),([]:List Gspan))).bind fun w2=>bif eqL (sub w2 0 w2.length).length w2.length then some (sub w2 0 w2.length)else none else none else none else none else none else none
def rg_combine_s1 (n:Nat) (a2:(Bool×Bool×Unit)→Option Bool) (r3:(List Gstrip)) (r4:(List Gstrip)) (r5:(List Gstrip)):(Int×(List Gstrip))→Option ((Int×(List Gstrip)) ⊕ (List Gstrip))
 |(v2,v3)=>(bif (decide (v2 < (((r5.length:Nat):Int):Int)))then bif inb v2 r5.length then (at? v3 ((0:Nat)+v2:Int)).bind fun x1=>(rg_at n (sub r3 0 r3.length) x1.x0).bind fun r6=>(rg_at n (sub r4 0 r4.length) x1.x0).bind fun r7=>(rg_merge n r6 r7 a2).bind fun r8=>bif inb v2 r5.length then bif eqL (sub r8 0 r8.length).length r8.length then (at? v3 ((0:Nat)+v2:Int)).bind fun x2=>some (.inl ((i64.wrap (v2+1)),(v3.set ((0:Nat)+v2:Int).toNat (Gstrip.mk x2.x0 x2.x1 (sub r8 0 r8.length)))))else none else none else none else some (.inr v3))
def rg_combine (n:Nat) (a0:(List GRect)) (a1:(List GRect)) (a2:(Bool×Bool×Unit)→Option Bool):Option ((List GRect)×Int):=
 ((rg_Right n a0).bind fun r1=>(bif (!r1)then some true else (rg_Right n a1).bind fun r2=>some (!r2)):Option (Bool)).bind fun v1=>(bif v1 then some (([]:(List GRect)),(1:Int))else bif eqL (sub ([a0]:List (List GRect)) 0 1).length 1 then (rg_strips n (sub ([a0]:List (List GRect)) 0 1)).bind fun r3=>bif eqL (sub ([a1]:List (List GRect)) 0 1).length 1 then (rg_strips n (sub ([a1]:List (List GRect)) 0 1)).bind fun r4=>bif eqL (sub r3 0 r3.length).length r3.length then bif eqL (sub r4 0 r4.length).length r4.length then bif eqL (sub ([a0,a1]:List (List GRect)) 0 2).length 2 then (rg_strips n (sub ([a0,a1]:List (List GRect)) 0 2)).bind fun r5=>(iter (rg_combine_s1 n a2 r3 r4 r5) n ((0:Int),r5)).bind fun w1=>bif eqL (sub w1 0 r5.length).length r5.length then (rg_write n (sub w1 0 r5.length)).bind fun r9=>bif eqL (sub r9 0 r9.length).length r9.length then (rg_limited (sub r9 0 r9.length)).bind fun r10=>some (r10.1,r10.2)else none else none else none else none else none else none else none)
def rg_Common_f1 (a0:Bool) (a1:Bool):Option Bool:=
 (bif a0 then some a1 else some false)
def rg_Common (n:Nat) (a0:(List GRect)) (a1:(List GRect)):Option ((List GRect)×Int):=
 (rg_combine n a0 a1 (fun (y1:Bool×Bool×Unit)=>rg_Common_f1 y1.1 y1.2.1)).bind fun r1=>some (r1.1,r1.2)
def rg_Minus_f1 (a0:Bool) (a1:Bool):Option Bool:=
 (bif a0 then some (!a1)else some false)
def rg_Minus (n:Nat) (a0:(List GRect)) (a1:(List GRect)):Option ((List GRect)×Int):=
 (rg_combine n a0 a1 (fun (y1:Bool×Bool×Unit)=>rg_Minus_f1 y1.1 y1.2.1)).bind fun r1=>some (r1.1,r1.2)
def pc_connected (n:Nat) (a0:(List GRect)):Option Bool:=
 (rg_Parts n a0).bind fun r1=>some (((r1.length:Nat):Int)==(1:Int))
def pc_line_s1 (a0:(List GLot)):(Int×(List Int))→Option ((Int×(List Int)) ⊕ (List Int))
 |(v1,v2)=>(bif (decide (v1 < ((a0.length:Int):Int)))then (at? a0 v1).bind fun x1=>bif appOk v2.length v2.length (sub ([x1.id]:List Int) 0 1).length 1 8 then letv (v2++(sub ([x1.id]:List Int) 0 1)) fun r1=>bif appOk r1.length r1.length x1.from_.length x1.from_.length 8 then letv (r1++x1.from_) fun r2=>bif eqL r2.length r2.length then some (.inl ((i64.wrap (v1+1)),r2))else none else none else none else bif eqL v2.length v2.length then some (.inr v2)else none)
def pc_line (n:Nat) (a0:(List GLot)):Option (List Int):=
 bif eqL 0 ([]:List Int).length then (iter (pc_line_s1 a0) n ((0:Int),([]:List Int))).bind fun w1=>bif eqL w1.length w1.length then (sl_Sort_int n w1).bind fun r3=>bif eqL w1.length r3.length then (sl_Compact_int n r3).bind fun r4=>bif eqL (sub r4.2 0 r4.2.length).length r4.2.length then some (sub r4.2 0 r4.2.length)else none else none else none else none
def pc_Split (n:Nat) (a0:(List GLot)) (a1:Int) (a2:(List GRect)) (a3:Int) (a4:Int):Option ((List GLot)×Int):=
 ((pc_Right n a0).bind fun r1=>(bif (!r1)then some true else (rg_Right n a2).bind fun r2=>(bif (!r2)then some true else (pc_number a3).bind fun r3=>(bif (!r3)then some true else (pc_number a4).bind fun r4=>(bif (!r4)then some true else some (a3==(a4:Int)))))):Option (Bool)).bind fun v1=>(bif v1 then some (([]:(List GLot)),(1:Int))else (pc_Find n a0 a1).bind fun r5=>(bif (!r5.2)then some (([]:(List GLot)),(4:Int))else ((pc_taken n a0 a3).bind fun r6=>(bif r6 then some true else (pc_taken n a0 a4).bind fun r7=>some r7):Option (Bool)).bind fun v2=>(bif v2 then some (([]:(List GLot)),(5:Int))else (rg_Common n r5.1.area a2).bind fun r8=>(rg_Minus n r5.1.area a2).bind fun r9=>(((bif (r8.2==(0:Int))then some ((r8.1.length:Int)==(0:Int))else some false):Option (Bool)).bind fun v3=>(bif v3 then some v3 else (bif (r9.2==(0:Int))then some ((r9.1.length:Int)==(0:Int))else some false)):Option (Bool)).bind fun v4=>(bif v4 then some (([]:(List GLot)),(10:Int))else ((bif (r8.2 != (0:Int))then some true else (bif (r9.2 != (0:Int))then some true else some (decide ((a0.length:Int)≥(20000:Int))))):Option (Bool)).bind fun v5=>(bif v5 then some (([]:(List GLot)),(6:Int))else ((pc_connected n r8.1).bind fun r10=>(bif (!r10)then some true else (pc_connected n r9.1).bind fun r11=>some (!r11)):Option (Bool)).bind fun v6=>(bif v6 then some (([]:(List GLot)),(12:Int))else bif eqL (sub ([r5.1]:List GLot) 0 1).length 1 then (pc_line n (sub ([r5.1]:List GLot) 0 1)).bind fun r12=>bif eqL (sub r12 0 r12.length).length r12.length then bif eqL (sub r12 0 r12.length).length r12.length then bif eqL (sub ([a1]:List Int) 0 1).length 1 then bif eqL (sub ([(GLot.mk a3 r5.1.owner r8.1 (sub r12 0 r12.length)),(GLot.mk a4 r5.1.owner r9.1 (sub r12 0 r12.length))]:List GLot) 0 2).length 2 then (pc_replace n a0 (sub ([a1]:List Int) 0 1) (sub ([(GLot.mk a3 r5.1.owner r8.1 (sub r12 0 r12.length)),(GLot.mk a4 r5.1.owner r9.1 (sub r12 0 r12.length))]:List GLot) 0 2)).bind fun r13=>bif eqL (sub r13.1 0 r13.1.length).length r13.1.length then some ((sub r13.1 0 r13.1.length),r13.2)else none else none else none else none else none else none))))))
def sl_insertionSortCmpFunc_Rect (n:Nat) (a0:(List GRect)) (a1:Int) (a2:Int) (a3:(GRect×GRect×Unit)→Option Int):Option (List GRect):=
 gInsertionSort (fun x y=>a3 (x,y,())) (fun r=>decide (r < 0)) n a0 a1 a2
def sl_siftDownCmpFunc_Rect (n:Nat) (a0:(List GRect)) (a1:Int) (a2:Int) (a3:Int) (a4:(GRect×GRect×Unit)→Option Int):Option (List GRect):=
 gSiftDown (fun x y=>a4 (x,y,())) (fun r=>decide (r < 0)) n a0 a1 a2 a3
def sl_heapSortCmpFunc_Rect (n:Nat) (a0:(List GRect)) (a1:Int) (a2:Int) (a3:(GRect×GRect×Unit)→Option Int):Option (List GRect):=
 gHeapSort (fun x y=>a3 (x,y,())) (fun r=>decide (r < 0)) n a0 a1 a2
def sl_breakPatternsCmpFunc_Rect (n:Nat) (a0:(List GRect)) (a1:Int) (a2:Int) (a3:(GRect×GRect×Unit)→Option Int):Option (List GRect):=
 gBreakPatterns sl_nextPowerOfTwo sl_xorshift_Next n a0 a1 a2
def sl_order2CmpFunc_Rect (a0:(List GRect)) (a1:Int) (a2:Int) (a3:Int) (a4:(GRect×GRect×Unit)→Option Int):Option (Int×Int×Int):=
 gOrder2 (fun x y=>a4 (x,y,())) (fun r=>decide (r < 0)) a0 a1 a2 a3
def sl_medianCmpFunc_Rect (a0:(List GRect)) (a1:Int) (a2:Int) (a3:Int) (a4:Int) (a5:(GRect×GRect×Unit)→Option Int):Option (Int×Int):=
 gMedian (fun x y=>a5 (x,y,())) (fun r=>decide (r < 0)) a0 a1 a2 a3 a4
def sl_medianAdjacentCmpFunc_Rect (a0:(List GRect)) (a1:Int) (a2:Int) (a3:(GRect×GRect×Unit)→Option Int):Option (Int×Int):=
 gMedianAdjacent (fun x y=>a3 (x,y,())) (fun r=>decide (r < 0)) a0 a1 a2
def sl_choosePivotCmpFunc_Rect (a0:(List GRect)) (a1:Int) (a2:Int) (a3:(GRect×GRect×Unit)→Option Int):Option (Int×Int):=
 gChoosePivot (fun x y=>a3 (x,y,())) (fun r=>decide (r < 0)) a0 a1 a2
def sl_reverseRangeCmpFunc_Rect (n:Nat) (a0:(List GRect)) (a1:Int) (a2:Int) (a3:(GRect×GRect×Unit)→Option Int):Option (List GRect):=
 gReverseRange n a0 a1 a2
def sl_partialInsertionSortCmpFunc_Rect (n:Nat) (a0:(List GRect)) (a1:Int) (a2:Int) (a3:(GRect×GRect×Unit)→Option Int):Option (Bool×(List GRect)):=
 gPartialInsertionSort (fun x y=>a3 (x,y,())) (fun r=>decide (r < 0)) n a0 a1 a2
def sl_partitionEqualCmpFunc_Rect (n:Nat) (a0:(List GRect)) (a1:Int) (a2:Int) (a3:Int) (a4:(GRect×GRect×Unit)→Option Int):Option (Int×(List GRect)):=
 gPartitionEqual (fun x y=>a4 (x,y,())) (fun r=>decide (r < 0)) n a0 a1 a2 a3
def sl_partitionCmpFunc_Rect (n:Nat) (a0:(List GRect)) (a1:Int) (a2:Int) (a3:Int) (a4:(GRect×GRect×Unit)→Option Int):Option (Int×Bool×(List GRect)):=
 gPartition (fun x y=>a4 (x,y,())) (fun r=>decide (r < 0)) n a0 a1 a2 a3
def sl_pdqsortCmpFunc_Rect_b (n:Nat) (rc:((List GRect))→(Int)→(Int)→(Int)→((GRect×GRect×Unit)→Option Int)→Option (List GRect)) (a0:(List GRect)) (a1:Int) (a2:Int) (a3:Int) (a4:(GRect×GRect×Unit)→Option Int):Option (List GRect):=
 gPdqsort_b (fun x y=>a4 (x,y,())) (fun r=>decide (r < 0)) sl_nextPowerOfTwo sl_xorshift_Next n (fun l a b d=>rc l a b d a4) a0 a1 a2 a3
def sl_pdqsortCmpFunc_Rect_rg (rc:((List GRect))→(Int)→(Int)→(Int)→((GRect×GRect×Unit)→Option Int)→Option (List GRect)):Sig xx:=⟨[.mut (.st SI.Rect),.d (.int .i64),.d (.int .i64),.d (.int .i64),.clo [(.st SI.Rect),(.st SI.Rect)] (.int .i64)],[.mu (.st SI.Rect)],fun a=>rc a.1 a.2.1 a.2.2.1 a.2.2.2.1 a.2.2.2.2.1,none⟩
def sl_pdqsortCmpFunc_Rect_m (n:Nat):Nat→((List GRect))→(Int)→(Int)→(Int)→((GRect×GRect×Unit)→Option Int)→Option (List GRect)
 | 0=>fun _ _ _ _ _=>none
 |m+1=>sl_pdqsortCmpFunc_Rect_b n (sl_pdqsortCmpFunc_Rect_m n m)
def sl_pdqsortCmpFunc_Rect (n:Nat) (a0:(List GRect)) (a1:Int) (a2:Int) (a3:Int) (a4:(GRect×GRect×Unit)→Option Int):Option (List GRect):=sl_pdqsortCmpFunc_Rect_m n n a0 a1 a2 a3 a4
def sl_SortFunc_Rect (n:Nat) (a0:(List GRect)) (a1:(GRect×GRect×Unit)→Option Int):Option (List GRect):=
 (bits_Len (IntKind.u64.wrap ((a0.length:Nat):Int))).bind fun r1=>bif eqL a0.length a0.length then (sl_pdqsortCmpFunc_Rect n a0 0 ((a0.length:Nat):Int) r1 a1).bind fun r2=>some r2 else none
def pc_column_f1 (a0:GRect) (a1:GRect):Option Int:=
 (cmp_Compare_int a0.y0 a1.y0).bind fun r1=>some r1
def pc_column_s1 (a0:(List GRect)) (a1:Int) (a2:Int):(Int×(List GRect))→Option ((Int×(List GRect)) ⊕ (List GRect))
 |(v1,v2)=>(bif (decide (v1 < ((a0.length:Int):Int)))then ((at? a0 v1).bind fun x1=>((bif (decide (x1.x0≤(a1:Int)))then some (decide (a2≤(x1.x1:Int)))else some false):Option (Bool)).bind fun v3=>(bif v3 then bif appOk v2.length v2.length (sub ([(GRect.mk a1 x1.y0 a2 x1.y1)]:List GRect) 0 1).length 1 32 then letv (v2++(sub ([(GRect.mk a1 x1.y0 a2 x1.y1)]:List GRect) 0 1)) fun r1=>bif eqL r1.length r1.length then some r1 else none else none else bif eqL v2.length v2.length then some v2 else none):Option ((List GRect))).bind fun v4=>bif eqL v4.length v4.length then some (.inl ((i64.wrap (v1+1)),v4))else none else bif eqL v2.length v2.length then some (.inr v2)else none)
def pc_column_s2 (w1:(List GRect)) (r2:(List GRect)):(Int×(List GRect))→Option ((Int×(List GRect)) ⊕ (List GRect))
 |(v5,v6)=>(bif (decide (v5 < (((w1.length:Nat):Int):Int)))then (bif inb v5 w1.length then (at? r2 ((0:Nat)+v5:Int)).bind fun x2=>((bif (decide (((v6.length:Nat):Int)>(0:Int)))then bif inb (i64.wrap (((v6.length:Nat):Int) - 1)) v6.length then (at? v6 ((0:Nat)+(i64.wrap (((v6.length:Nat):Int) - 1)):Int)).bind fun x3=>some (decide (x2.y0≤(x3.y1:Int)))else none else some false):Option (Bool)).bind fun v7=>(bif v7 then bif inb (i64.wrap (((v6.length:Nat):Int) - 1)) v6.length then (at? v6 ((0:Nat)+(i64.wrap (((v6.length:Nat):Int) - 1)):Int)).bind fun x4=>bif inb (i64.wrap (((v6.length:Nat):Int) - 1)) v6.length then (at? v6 ((0:Nat)+(i64.wrap (((v6.length:Nat):Int) - 1)):Int)).bind fun x5=>bif eqL v6.length (v6.set ((0:Nat)+(i64.wrap (((v6.length:Nat):Int) - 1)):Int).toNat (GRect.mk x5.x0 x5.y0 x5.x1 (max x4.y1 x2.y1))).length then some (v6.set ((0:Nat)+(i64.wrap (((v6.length:Nat):Int) - 1)):Int).toNat (GRect.mk x5.x0 x5.y0 x5.x1 (max x4.y1 x2.y1)))else none else none else none else bif appOk v6.length v6.length (sub ([x2]:List GRect) 0 1).length 1 32 then letv (v6++(sub ([x2]:List GRect) 0 1)) fun r3=>bif eqL r3.length r3.length then some r3 else none else none)else none:Option ((List GRect))).bind fun v8=>bif eqL v8.length v8.length then some (.inl ((i64.wrap (v5+1)),v8))else none else bif eqL v6.length v6.length then some (.inr v6)else none)
def pc_column (n:Nat) (a0:(List GRect)) (a1:Int) (a2:Int):Option (List GRect):=
 bif eqL 0 ([]:List GRect).length then (iter (pc_column_s1 a0 a1 a2) n ((0:Int),([]:List GRect))).bind fun w1=>bif eqL w1.length w1.length then (sl_SortFunc_Rect n w1 (fun (y1:GRect×GRect×Unit)=>pc_column_f1 y1.1 y1.2.1)).bind fun r2=>bif eqL 0 ([]:List GRect).length then (iter (pc_column_s2 w1 r2) n ((0:Int),([]:List GRect))).bind fun w2=>bif eqL (sub w2 0 w2.length).length w2.length then some (sub w2 0 w2.length)else none else none else none else none
def sl_EqualFunc_Rect_Rect_s1 (a0:(List GRect)) (a1:(List GRect)) (a2:(GRect×GRect×Unit)→Option Bool):Int→Option (Int ⊕ (Unit ⊕ Bool))
 |v1=>(bif (decide (v1 < ((a0.length:Int):Int)))then (at? a0 v1).bind fun x1=>(at? a1 v1).bind fun x2=>(a2 (x1,x2,())).bind fun r1=>(bif (!r1)then (some false).map fun a=> .inr (.inr a)else some (.inl (i64.wrap (v1+1))))else some (.inr (.inl ())))
def sl_EqualFunc_Rect_Rect (n:Nat) (a0:(List GRect)) (a1:(List GRect)) (a2:(GRect×GRect×Unit)→Option Bool):Option Bool:=
 (bif ((a0.length:Int) != ((a1.length:Int):Int))then some false else thenB (iter (sl_EqualFunc_Rect_Rect_s1 a0 a1 a2) n (0:Int)) fun ()=>some true)
def pc_form_f1 (a0:GRect) (a1:GRect):Option Bool:=
 (bif (a0.y0==(a1.y0:Int))then some (a0.y1==(a1.y1:Int))else some false)
def pc_form_s1 (a0:(List GRect)):(Int×(List Int))→Option ((Int×(List Int)) ⊕ (List Int))
 |(v1,v2)=>(bif (decide (v1 < ((a0.length:Int):Int)))then (at? a0 v1).bind fun x1=>bif appOk v2.length v2.length (sub ([x1.x0,x1.x1]:List Int) 0 2).length 2 8 then letv (v2++(sub ([x1.x0,x1.x1]:List Int) 0 2)) fun r1=>bif eqL r1.length r1.length then some (.inl ((i64.wrap (v1+1)),r1))else none else none else bif eqL v2.length v2.length then some (.inr v2)else none)
def pc_form_s3 (r3:Unit×(List Int)) (v3:Int) (v4:(List GRect)):(Int×(List GRect))→Option ((Int×(List GRect)) ⊕ (List GRect))
 |(v7,v8)=>(bif (decide (v7 < (((v4.length:Nat):Int):Int)))then bif inb (i64.wrap (v3+1)) r3.2.length then (at? r3.2 ((0:Nat)+(i64.wrap (v3+1)):Int)).bind fun x4=>bif inb v7 v4.length then (at? v8 ((0:Nat)+v7:Int)).bind fun x5=>some (.inl ((i64.wrap (v7+1)),(v8.set ((0:Nat)+v7:Int).toNat (GRect.mk x5.x0 x5.y0 x4 x5.y1))))else none else none else some (.inr v8))
def pc_form_s2 (n:Nat) (a0:(List GRect)) (r3:Unit×(List Int)):(Int×(List GRect)×(List GRect))→Option ((Int×(List GRect)×(List GRect)) ⊕ (List GRect))
 |(v3,v4,v5)=>(bif (decide (v3 < ((max (0:Int) (i64.wrap (((r3.2.length:Nat):Int) - 1))):Int)))then bif inb v3 r3.2.length then (at? r3.2 ((0:Nat)+v3:Int)).bind fun x2=>bif inb (i64.wrap (v3+1)) r3.2.length then (at? r3.2 ((0:Nat)+(i64.wrap (v3+1)):Int)).bind fun x3=>(pc_column n a0 x2 x3).bind fun r4=>(((bif (decide (((r4.length:Nat):Int)>(0:Int)))then bif eqL (sub r4 0 r4.length).length r4.length then bif eqL (sub v5 0 v5.length).length v5.length then (sl_EqualFunc_Rect_Rect n (sub r4 0 r4.length) (sub v5 0 v5.length) (fun (y1:GRect×GRect×Unit)=>pc_form_f1 y1.1 y1.2.1)).bind fun r5=>some r5 else none else none else some false):Option (Bool)).bind fun v6=>(bif v6 then (iter (pc_form_s3 r3 v3 v4) n ((i64.wrap (((v4.length:Nat):Int) - ((r4.length:Nat):Int))),v4)).bind fun w2=>bif eqL v4.length w2.length then some w2 else none else bif appOk v4.length v4.length (sub r4 0 r4.length).length r4.length 32 then letv (v4++(sub r4 0 r4.length)) fun r6=>bif eqL r6.length r6.length then some r6 else none else none):Option ((List GRect))).bind fun v9=>bif eqL v9.length v9.length then bif eqL r4.length r4.length then some (.inl ((i64.wrap (v3+1)),v9,r4))else none else none else none else none else bif eqL v4.length v4.length then some (.inr v4)else none)
def pc_form (n:Nat) (a0:(List GRect)):Option (List GRect):=
 bif eqL 0 ([]:List Int).length then (iter (pc_form_s1 a0) n ((0:Int),([]:List Int))).bind fun w1=>bif eqL w1.length w1.length then (sl_Sort_int n w1).bind fun r2=>bif eqL w1.length r2.length then (sl_Compact_int n r2).bind fun r3=>bif eqL 0 ([]:List GRect).length then bif eqL 0 ([]:List GRect).length then (iter (pc_form_s2 n a0 r3) n ((0:Int),([]:List GRect),([]:List GRect))).bind fun w3=>bif eqL (sub w3 0 w3.length).length w3.length then some (sub w3 0 w3.length)else none else none else none else none else none else none
def sl_Values_int_v1 (a0:(List Int)):Option (List Int):=
 some a0
def sl_Collect_int_v1 (a0:(List Int)):Option ((List Int)×(List Int)):=
 (seqA a0).bind fun r1=>bif eqL r1.2.length r1.2.length then some (r1.1,r1.2)else none
def sl_Sorted_int_v1 (n:Nat) (a0:(List Int)):Option ((List Int)×(List Int)):=
 (sl_Collect_int_v1 a0).bind fun r1=>bif eqL r1.2.length r1.2.length then (sl_Sort_int n r1.2).bind fun r2=>bif eqL r1.2.length r2.length then some (r1.1,r2)else none else none
def pc_Join_f1_v1 (a0:GLot) (a1:(List GLot)):Option (Bool×(List GLot)):=
 bif inb 0 a1.length then (at? a1 ((0:Nat)+0:Int)).bind fun x1=>bif eqL a1.length a1.length then some ((a0.owner != (x1.owner:Int)),a1)else none else none
def sl_IndexFunc_Lot_v1_s1 (a0:(List GLot)):(Int×(List GLot))→Option ((Int×(List GLot)) ⊕ ((List GLot) ⊕ (Int×(List GLot))))
 |(v1,v2)=>(bif (decide (v1 < (((a0.length:Nat):Int):Int)))then bif inb v1 a0.length then (at? v2 ((0:Nat)+v1:Int)).bind fun x1=>bif eqL v2.length v2.length then (pc_Join_f1_v1 x1 v2).bind fun r1=>(bif r1.1 then (bif eqL r1.2.length r1.2.length then some (v1,r1.2)else none).map fun a=> .inr (.inr a)else bif eqL r1.2.length r1.2.length then some (.inl ((i64.wrap (v1+1)),r1.2))else none)else none else none else bif eqL v2.length v2.length then some (.inr (.inl v2))else none)
def sl_IndexFunc_Lot_v1 (n:Nat) (a0:(List GLot)):Option (Int×(List GLot)):=
 bif eqL a0.length a0.length then thenB (iter (sl_IndexFunc_Lot_v1_s1 a0) n ((0:Int),a0)) fun w1=>bif eqL w1.length w1.length then some (((-1):Int),w1)else none else none
def sl_ContainsFunc_Lot_v1 (n:Nat) (a0:(List GLot)):Option (Bool×(List GLot)):=
 bif eqL a0.length a0.length then bif eqL a0.length a0.length then (sl_IndexFunc_Lot_v1 n a0).bind fun r1=>bif eqL r1.2.length r1.2.length then some ((decide (r1.1≥(0:Int))),r1.2)else none else none else none
def pc_Join_s1 (n:Nat) (a0:(List GLot)) (a1:(List Int)):(Int×(List GLot))→Option ((Int×(List GLot)) ⊕ ((List GLot) ⊕ ((List GLot)×Int)))
 |(v2,v3)=>(bif (decide (v2 < ((a1.length:Int):Int)))then (at? a1 v2).bind fun x1=>(pc_Find n a0 x1).bind fun r6=>(bif (!r6.2)then (some (([]:(List GLot)),(4:Int))).map fun a=> .inr (.inr a)else bif appOk v3.length v3.length (sub ([r6.1]:List GLot) 0 1).length 1 64 then letv (v3++(sub ([r6.1]:List GLot) 0 1)) fun r7=>bif eqL r7.length r7.length then some (.inl ((i64.wrap (v2+1)),r7))else none else none)else bif eqL v3.length v3.length then some (.inr (.inl v3))else none)
def pc_Join_s2 (r9:Bool×(List GLot)):(Int×(List GRect))→Option ((Int×(List GRect)) ⊕ (List GRect))
 |(v4,v5)=>(bif (decide (v4 < (((r9.2.length:Nat):Int):Int)))then bif inb v4 r9.2.length then (at? r9.2 ((0:Nat)+v4:Int)).bind fun x2=>bif appOk v5.length v5.length x2.area.length x2.area.length 32 then letv (v5++x2.area) fun r10=>bif eqL r10.length r10.length then some (.inl ((i64.wrap (v4+1)),r10))else none else none else none else bif eqL v5.length v5.length then some (.inr v5)else none)
def pc_Join (n:Nat) (a0:(List GLot)) (a1:(List Int)) (a2:Int):Option ((List GLot)×Int):=
 (sl_Values_int_v1 a1).bind fun r1=>(sl_Sorted_int_v1 n r1).bind fun r2=>((pc_Right n a0).bind fun r3=>(bif (!r3)then some true else (bif (decide ((a1.length:Int) < (2:Int)))then some true else bif eqL (sub r2.2 0 r2.2.length).length r2.2.length then (pc_ascending n (sub r2.2 0 r2.2.length)).bind fun r4=>(bif (!r4)then some true else (pc_number a2).bind fun r5=>some (!r5))else none)):Option (Bool)).bind fun v1=>(bif v1 then some (([]:(List GLot)),(1:Int))else bif eqL 0 ([]:List GLot).length then thenB (iter (pc_Join_s1 n a0 a1) n ((0:Int),([]:List GLot))) fun w1=>(pc_taken n a0 a2).bind fun r8=>(bif r8 then some (([]:(List GLot)),(5:Int))else bif eqL w1.length w1.length then bif eqL w1.length w1.length then (sl_ContainsFunc_Lot_v1 n w1).bind fun r9=>(bif r9.1 then some (([]:(List GLot)),(24:Int))else bif eqL 0 ([]:List GRect).length then (iter (pc_Join_s2 r9) n ((0:Int),([]:List GRect))).bind fun w2=>bif eqL (sub w2 0 w2.length).length w2.length then (pc_form n (sub w2 0 w2.length)).bind fun r11=>(bif (decide (((r11.length:Nat):Int)>(200:Int)))then some (([]:(List GLot)),(6:Int))else bif eqL (sub r11 0 r11.length).length r11.length then (pc_connected n (sub r11 0 r11.length)).bind fun r12=>(bif (!r12)then some (([]:(List GLot)),(12:Int))else bif inb 0 r9.2.length then (at? r9.2 ((0:Nat)+0:Int)).bind fun x3=>bif eqL (sub r9.2 0 r9.2.length).length r9.2.length then (pc_line n (sub r9.2 0 r9.2.length)).bind fun r13=>bif eqL (sub r11 0 r11.length).length r11.length then bif eqL (sub r13 0 r13.length).length r13.length then bif eqL (sub ([(GLot.mk a2 x3.owner (sub r11 0 r11.length) (sub r13 0 r13.length))]:List GLot) 0 1).length 1 then (pc_replace n a0 a1 (sub ([(GLot.mk a2 x3.owner (sub r11 0 r11.length) (sub r13 0 r13.length))]:List GLot) 0 1)).bind fun r14=>bif eqL (sub r14.1 0 r14.1.length).length r14.1.length then some ((sub r14.1 0 r14.1.length),r14.2)else none else none else none else none else none else none)else none)else none else none)else none else none)else none)
def so_heights_s2 (x1:(List GSlab)):(Int×(List Int))→Option ((Int×(List Int)) ⊕ (List Int))
 |(v3,v4)=>(bif (decide (v3 < ((x1.length:Int):Int)))then (at? x1 v3).bind fun x2=>bif appOk v4.length v4.length (sub ([x2.z0,x2.z1]:List Int) 0 2).length 2 8 then letv (v4++(sub ([x2.z0,x2.z1]:List Int) 0 2)) fun r1=>bif eqL r1.length r1.length then some (.inl ((i64.wrap (v3+1)),r1))else none else none else bif eqL v4.length v4.length then some (.inr v4)else none)
def so_heights_s1 (n:Nat) (a0:(List (List GSlab))):(Int×(List Int))→Option ((Int×(List Int)) ⊕ (List Int))
 |(v1,v2)=>(bif (decide (v1 < ((a0.length:Int):Int)))then (at? a0 v1).bind fun x1=>bif eqL v2.length v2.length then (iter (so_heights_s2 x1) n ((0:Int),v2)).bind fun w1=>bif eqL w1.length w1.length then some (.inl ((i64.wrap (v1+1)),w1))else none else none else bif eqL v2.length v2.length then some (.inr v2)else none)
def so_heights (n:Nat) (a0:(List (List GSlab))):Option (List Int):=
 bif eqL 0 ([]:List Int).length then (iter (so_heights_s1 n a0) n ((0:Int),([]:List Int))).bind fun w2=>bif eqL w2.length w2.length then (sl_Sort_int n w2).bind fun r2=>bif eqL w2.length r2.length then (sl_Compact_int n r2).bind fun r3=>bif eqL (sub r3.2 0 r3.2.length).length r3.2.length then some (sub r3.2 0 r3.2.length)else none else none else none else none
def rg_Same (n:Nat) (a0:(List GRect)) (a1:(List GRect)):Option Bool:=
 (sl_Equal_Rect n a0 a1).bind fun r1=>some r1
def so_put (n:Nat) (a0:(List GSlab)) (a1:GSlab):Option ((List GSlab)×Unit):=
 (bif ((a1.area.length:Int)==(0:Int))then bif eqL (sub a0 0 a0.length).length a0.length then some ((sub a0 0 a0.length),())else none else ((bif (decide ((i64.wrap (((a0.length:Nat):Int) - 1))≥(0:Int)))then bif inb (i64.wrap (((a0.length:Nat):Int) - 1)) a0.length then (at? a0 ((0:Nat)+(i64.wrap (((a0.length:Nat):Int) - 1)):Int)).bind fun x1=>(bif (x1.z1==(a1.z0:Int))then bif inb (i64.wrap (((a0.length:Nat):Int) - 1)) a0.length then (at? a0 ((0:Nat)+(i64.wrap (((a0.length:Nat):Int) - 1)):Int)).bind fun x2=>(rg_Same n x2.area a1.area).bind fun r1=>some r1 else none else some false)else none else some false):Option (Bool)).bind fun v1=>(bif v1 then bif inb (i64.wrap (((a0.length:Nat):Int) - 1)) a0.length then (at? a0 ((0:Nat)+(i64.wrap (((a0.length:Nat):Int) - 1)):Int)).bind fun x3=>bif eqL (sub (a0.set ((0:Nat)+(i64.wrap (((a0.length:Nat):Int) - 1)):Int).toNat (GSlab.mk x3.z0 a1.z1 x3.area)) 0 a0.length).length a0.length then some ((sub (a0.set ((0:Nat)+(i64.wrap (((a0.length:Nat):Int) - 1)):Int).toNat (GSlab.mk x3.z0 a1.z1 x3.area)) 0 a0.length),())else none else none else bif appOk a0.length a0.length (sub ([a1]:List GSlab) 0 1).length 1 40 then letv (a0++(sub ([a1]:List GSlab) 0 1)) fun r2=>bif eqL (sub r2 0 r2.length).length r2.length then some ((sub r2 0 r2.length),())else none else none))
def so_fits (a0:(List GSlab)):Option ((List GSlab)×Int):=
 (bif (decide ((a0.length:Int)>(80:Int)))then some (([]:(List GSlab)),(6:Int))else some (a0,(0:Int)))
def so_Of_s1 (a0:(List GBox)):(Int×(List GSlab))→Option ((Int×(List GSlab)) ⊕ ((List GSlab) ⊕ ((List GSlab)×Int)))
 |(v1,v2)=>(bif (decide (v1 < ((a0.length:Int):Int)))then (at? a0 v1).bind fun x1=>((r_Right (GRect.mk x1.base_x0 x1.base_y0 x1.base_x1 x1.base_y1)).bind fun r1=>(bif (!r1)then some true else (bif (decide (x1.z0 < (0:Int)))then some true else (bif (decide (x1.z0≥(x1.z1:Int)))then some true else some (decide (x1.z1>(4096:Int)))))):Option (Bool)).bind fun v3=>(bif v3 then (some (([]:(List GSlab)),(1:Int))).map fun a=> .inr (.inr a)else bif appOk v2.length v2.length (sub ([(GSlab.mk x1.z0 x1.z1 ([]))]:List GSlab) 0 1).length 1 40 then letv (v2++(sub ([(GSlab.mk x1.z0 x1.z1 ([]))]:List GSlab) 0 1)) fun r2=>bif eqL r2.length r2.length then some (.inl ((i64.wrap (v1+1)),r2))else none else none)else bif eqL v2.length v2.length then some (.inr (.inl v2))else none)
end
end Go.Proofs
