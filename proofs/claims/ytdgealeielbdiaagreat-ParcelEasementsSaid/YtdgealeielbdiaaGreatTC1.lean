/-
  Printed by wip/gen: that functions of the program compute this.
-/
import Derived.Test.YtdgealeielbdiaaGreatS3
namespace Go.Proofs
open Go.Gb Go.RowKit
noncomputable section
def l13_one_g:Sig xx:=⟨[.d (.int .i64),.d (.int .i64),.d (.int .i64),.d (.int .i64)],[.fresh (.st SI.Rect)],fun a=>l13_one a.1 a.2.1 a.2.2.1 a.2.2.2.1,none⟩
def l13_one_h:Hn SI:= .z
theorem l13_one_c:COk Tryz.prog 40 l13_one_g:=
 cq gam_nil Tryz.func40 l13_one_h 0 (by kernel_rfl) rfl fun _=>by kernel_rfl
def pc_number_g:Sig xx:=⟨[.d (.int .i64)],[.d .bool],fun a=>pc_number a.1,none⟩
def pc_number_h:Hn SI:= .z
theorem pc_number_c:COk Tryz.prog 56 pc_number_g:=
 cq gam_nil Tryz.func56 pc_number_h 0 (by kernel_rfl) rfl fun _=>by kernel_rfl
def pc_owner_g:Sig xx:=⟨[.d (.int .i64)],[.d .bool],fun a=>pc_owner a.1,none⟩
def pc_owner_h:Hn SI:= .z
theorem pc_owner_c:COk Tryz.prog 99 pc_owner_g:=
 cq gam_nil Tryz.func99 pc_owner_h 0 (by kernel_rfl) rfl fun _=>by kernel_rfl
def pc_ascending_g (n:Nat):Sig xx:=⟨[.d (.sl (.int .i64))],[.d .bool],fun a=>pc_ascending n a.1,none⟩
def pc_ascending_h:Hn SI:=(.s .z (.s (.s .z (.b (.lx ⟨[(3,(.v (.int .i64)))],[],[0],[],1128,[]⟩ 0 ⟨[],[],[],[],1128,[]⟩ .z))) .z))
theorem pc_ascending_c (n:Nat):COk Tryz.prog 65 (pc_ascending_g n):=
 cq gam_nil Tryz.func65 pc_ascending_h n (by kernel_rfl) rfl fun _=>by kernel_rfl
def sl_IndexFunc_int_g (n:Nat):Sig xx:=⟨[.d (.sl (.int .i64)),.clo [(.int .i64)] .bool],[.d (.int .i64)],fun a=>sl_IndexFunc_int n a.1 a.2.1,none⟩
def sl_IndexFunc_int_h:Hn SI:=(.s .z (.s (.s .z (.b (.lx ⟨[(8,(.v (.int .i64)))],[],[0,1,7],[],1256,[]⟩ 0 ⟨[],[],[],[],1256,[]⟩ .z))) .z))
theorem sl_IndexFunc_int_c (n:Nat):COk Tryz.prog 145 (sl_IndexFunc_int_g n):=
 cq gam_nil Tryz.func145 sl_IndexFunc_int_h n (by kernel_rfl) rfl fun _=>by kernel_rfl
def sl_ContainsFunc_int_g (n:Nat):Sig xx:=⟨[.d (.sl (.int .i64)),.clo [(.int .i64)] .bool],[.d .bool],fun a=>sl_ContainsFunc_int n a.1 a.2.1,none⟩
def sl_ContainsFunc_int_h:Hn SI:= .z
theorem sl_ContainsFunc_int_c (n:Nat):COk Tryz.prog 100 (sl_ContainsFunc_int_g n):=
 cq (gam_cons (sl_IndexFunc_int_c n) gam_nil) Tryz.func100 sl_ContainsFunc_int_h n (by kernel_rfl) rfl fun _=>by kernel_rfl
def pc_valid_f1_g:Sig xx:=⟨[.d (.int .i64)],[.d .bool],fun a=>pc_valid_f1 a.1,none⟩
def pc_valid_f1_h:Hn SI:= .z
theorem pc_valid_f1_c:COk Tryz.prog 101 pc_valid_f1_g:=
 cq (gam_cons pc_number_c gam_nil) Tryz.func101 pc_valid_f1_h 0 (by kernel_rfl) rfl fun _=>by kernel_rfl
def r_Right_g:Sig xx:=⟨[.d (.st SI.Rect)],[.d .bool],fun a=>r_Right a.1,none⟩
def r_Right_h:Hn SI:= .z
theorem r_Right_c:COk Tryz.prog 52 r_Right_g:=
 cq gam_nil Tryz.func52 r_Right_h 0 (by kernel_rfl) rfl fun _=>by kernel_rfl
def sl_Grow_Rect_g:Sig xx:=⟨[.nil,.d (.int .i64)],[.fresh (.st SI.Rect)],fun a=>sl_Grow_Rect a.1 a.2.1,none⟩
def sl_Grow_Rect_h:Hn SI:= .z
theorem sl_Grow_Rect_c:COk Tryz.prog 153 sl_Grow_Rect_g:=
 cq gam_nil Tryz.func153 sl_Grow_Rect_h 0 (by kernel_rfl) rfl fun _=>by kernel_rfl
def sl_Concat_Rect_g (n:Nat):Sig xx:=⟨[.d (.sl (.sl (.st SI.Rect)))],[.fresh (.st SI.Rect)],fun a=>sl_Concat_Rect n a.1,none⟩
def sl_Concat_Rect_h:Hn SI:=(.s .z (.s .z (.s (.s .z (.b (.l ⟨[(3,(.v (.int .i64))),(11,(.v (.int .i64)))],[],[0,9,10],[],1320,[]⟩ 0 ⟨[(3,(.v (.int .i64)))],[],[0],[],1320,[]⟩ .z))) (.s .z (.s (.s .z (.b (.l ⟨[(6,(.o 1704)),(27,(.v (.int .i64)))],[(1704,.l (.st SI.Rect))],[25,26],[],1705,[]⟩ 2 ⟨[(6,(.o 1704))],[(1704,.l (.st SI.Rect))],[],[],1705,[]⟩ .z))) .z)))))
theorem sl_Concat_Rect_c (n:Nat):COk Tryz.prog 108 (sl_Concat_Rect_g n):=
 cq (gam_cons sl_Grow_Rect_c gam_nil) Tryz.func108 sl_Concat_Rect_h n (by kernel_rfl) rfl fun _=>by kernel_rfl
def bits_Len64_g:Sig xx:=⟨[.d (.int .u64)],[.d (.int .i64)],fun a=>bits_Len64 a.1,none⟩
def bits_Len64_h:Hn SI:=(.s .z (.s (.j ⟨[(0,(.v (.int .u64))),(2,(.v (.int .i64)))],[],[],[],1064,[]⟩ .z) (.s (.j ⟨[(0,(.v (.int .u64))),(2,(.v (.int .i64)))],[],[],[],1064,[]⟩ .z) (.s (.j ⟨[(0,(.v (.int .u64))),(2,(.v (.int .i64)))],[],[],[],1064,[]⟩ .z) .z))))
theorem bits_Len64_c:COk Tryz.prog 144 bits_Len64_g:=
 cq gam_nil Tryz.func144 bits_Len64_h 0 (by kernel_rfl) rfl fun _=>by kernel_rfl
def bits_Len_g:Sig xx:=⟨[.d (.int .u64)],[.d (.int .i64)],fun a=>bits_Len a.1,none⟩
def bits_Len_h:Hn SI:= .z
theorem bits_Len_c:COk Tryz.prog 97 bits_Len_g:=
 cq (gam_cons bits_Len64_c gam_nil) Tryz.func97 bits_Len_h 0 (by kernel_rfl) rfl fun _=>by kernel_rfl
def cmp_isNaN_int_g:Sig xx:=⟨[.d (.int .i64)],[.d .bool],fun a=>cmp_isNaN_int a.1,none⟩
def cmp_isNaN_int_h:Hn SI:= .z
theorem cmp_isNaN_int_c:COk Tryz.prog 158 cmp_isNaN_int_g:=
 cq gam_nil Tryz.func158 cmp_isNaN_int_h 0 (by kernel_rfl) rfl fun _=>by kernel_rfl
def cmp_Less_int_g:Sig xx:=⟨[.d (.int .i64),.d (.int .i64)],[.d .bool],fun a=>cmp_Less_int a.1 a.2.1,none⟩
def cmp_Less_int_h:Hn SI:= .z
theorem cmp_Less_int_c:COk Tryz.prog 140 cmp_Less_int_g:=
 cq (gam_cons cmp_isNaN_int_c gam_nil) Tryz.func140 cmp_Less_int_h 0 (by kernel_rfl) rfl fun _=>by kernel_rfl
def sl_insertionSortOrdered_int_g (n:Nat):Sig xx:=⟨[.mut (.int .i64),.d (.int .i64),.d (.int .i64)],[.mu (.int .i64)],fun a=>sl_insertionSortOrdered_int n a.1 a.2.1 a.2.2.1,none⟩
def sl_insertionSortOrdered_int_h:Hn SI:=(.s .z (.b (.l ⟨[(6,(.v (.int .i64)))],[(0,.l (.int .i64))],[0,1,2],[],1192,[]⟩ 0 ⟨[],[(0,.l (.int .i64))],[],[],1192,[]⟩ (.s .z (.s (.b (.s .z (.b (.l ⟨[(7,(.v (.int .i64)))],[(0,.l (.int .i64))],[0,1,2,6],[],1512,[]⟩ 2 ⟨[],[(0,.l (.int .i64))],[0,1,2,6],[],1512,[]⟩ (.s (.s (.j ⟨[(30,(.v .bool))],[],[0,1,2,6,7],[0],1512,[]⟩ .z) .z) .z))))) .z)))))
theorem sl_insertionSortOrdered_int_c (n:Nat):COk Tryz.prog 134 (sl_insertionSortOrdered_int_g n):=
 cq (gam_cons cmp_Less_int_c gam_nil) Tryz.func134 sl_insertionSortOrdered_int_h n (by kernel_rfl) rfl fun _=>by kernel_rfl
def sl_siftDownOrdered_int_g (n:Nat):Sig xx:=⟨[.mut (.int .i64),.d (.int .i64),.d (.int .i64),.d (.int .i64)],[.mu (.int .i64)],fun a=>sl_siftDownOrdered_int n a.1 a.2.1 a.2.2.1 a.2.2.2.1,none⟩
def sl_siftDownOrdered_int_h:Hn SI:=(.s .z (.b (.lx ⟨[(8,(.v (.int .i64)))],[(0,.l (.int .i64))],[0,2,3],[],1128,[]⟩ 0 ⟨[],[(0,.l (.int .i64))],[],[],1128,[]⟩ (.b (.s .z (.s .z (.s (.j ⟨[(9,(.v (.int .i64)))],[],[0,2,3,8],[0],1576,[]⟩ (.s (.j ⟨[(36,(.v .bool))],[],[0,2,3,8,9],[0],1576,[]⟩ .z) .z)) .z)))))))
theorem sl_siftDownOrdered_int_c (n:Nat):COk Tryz.prog 169 (sl_siftDownOrdered_int_g n):=
 cq (gam_cons cmp_Less_int_c gam_nil) Tryz.func169 sl_siftDownOrdered_int_h n (by kernel_rfl) rfl fun _=>by kernel_rfl
def sl_heapSortOrdered_int_g (n:Nat):Sig xx:=⟨[.mut (.int .i64),.d (.int .i64),.d (.int .i64)],[.mu (.int .i64)],fun a=>sl_heapSortOrdered_int n a.1 a.2.1 a.2.2.1,none⟩
def sl_heapSortOrdered_int_h:Hn SI:=(.s .z (.s .z (.s .z (.s (.s .z (.b (.l ⟨[(9,(.v (.int .i64)))],[(0,.l (.int .i64))],[0,6,7,8],[],1704,[]⟩ 0 ⟨[],[(0,.l (.int .i64))],[0,6,7,8],[],1704,[]⟩ .z))) (.s .z (.b (.l ⟨[(10,(.v (.int .i64)))],[(0,.l (.int .i64))],[0,6,7],[],1896,[]⟩ 2 ⟨[],[(0,.l (.int .i64))],[],[],1896,[]⟩ .z)))))))
theorem sl_heapSortOrdered_int_c (n:Nat):COk Tryz.prog 135 (sl_heapSortOrdered_int_g n):=
 cq (gam_cons (sl_siftDownOrdered_int_c n) gam_nil) Tryz.func135 sl_heapSortOrdered_int_h n (by kernel_rfl) rfl fun _=>by kernel_rfl
def sl_nextPowerOfTwo_g:Sig xx:=⟨[.d (.int .i64)],[.d (.int .u64)],fun a=>sl_nextPowerOfTwo a.1,none⟩
def sl_nextPowerOfTwo_h:Hn SI:= .z
theorem sl_nextPowerOfTwo_c:COk Tryz.prog 170 sl_nextPowerOfTwo_g:=
 cq (gam_cons bits_Len_c gam_nil) Tryz.func170 sl_nextPowerOfTwo_h 0 (by kernel_rfl) rfl fun _=>by kernel_rfl
def sl_xorshift_Next_g:Sig xx:=⟨[.mref (.int .u64)],[.d (.int .u64),.mr (.int .u64)],fun a=>sl_xorshift_Next a.1,none⟩
def sl_xorshift_Next_h:Hn SI:= .z
theorem sl_xorshift_Next_c:COk Tryz.prog 171 sl_xorshift_Next_g:=
 cq gam_nil Tryz.func171 sl_xorshift_Next_h 0 (by kernel_rfl) rfl fun _=>by kernel_rfl
def sl_breakPatternsOrdered_int_g (n:Nat):Sig xx:=⟨[.mut (.int .i64),.d (.int .i64),.d (.int .i64)],[.mu (.int .i64)],fun a=>sl_breakPatternsOrdered_int n a.1 a.2.1 a.2.2.1,none⟩
def sl_breakPatternsOrdered_int_h:Hn SI:=(.s .z (.s .z (.s (.s .z (.s .z (.s .z (.b (.l ⟨[(9,(.v (.int .i64)))],[(0,.l (.int .i64)),(1512,.c 1 [[(.v (.int .u64))]])],[0,1,6,7,8],[],2280,[]⟩ 0 ⟨[],[(0,.l (.int .i64))],[],[],2280,[]⟩ (.s .z (.s (.b (.s .z (.s (.j ⟨[(10,(.v (.int .i64)))],[],[0,1,6,7,8,9],[0,1512],3176,[]⟩ .z) .z))) .z))))))) .z)))
theorem sl_breakPatternsOrdered_int_c (n:Nat):COk Tryz.prog 136 (sl_breakPatternsOrdered_int_g n):=
 cq (gam_cons sl_nextPowerOfTwo_c (gam_cons sl_xorshift_Next_c gam_nil)) Tryz.func136 sl_breakPatternsOrdered_int_h n (by kernel_rfl) rfl fun _=>by kernel_rfl
def sl_order2Ordered_int_g:Sig xx:=⟨[.d (.sl (.int .i64)),.d (.int .i64),.d (.int .i64),.mref (.int .i64)],[.d (.int .i64),.d (.int .i64),.mr (.int .i64)],fun a=>sl_order2Ordered_int a.1 a.2.1 a.2.2.1 a.2.2.2.1,none⟩
def sl_order2Ordered_int_h:Hn SI:= .z
theorem sl_order2Ordered_int_c:COk Tryz.prog 189 sl_order2Ordered_int_g:=
 cq (gam_cons cmp_Less_int_c gam_nil) Tryz.func189 sl_order2Ordered_int_h 0 (by kernel_rfl) rfl fun _=>by kernel_rfl
def sl_medianOrdered_int_g:Sig xx:=⟨[.d (.sl (.int .i64)),.d (.int .i64),.d (.int .i64),.d (.int .i64),.mref (.int .i64)],[.d (.int .i64),.mr (.int .i64)],fun a=>sl_medianOrdered_int a.1 a.2.1 a.2.2.1 a.2.2.2.1 a.2.2.2.2.1,none⟩
def sl_medianOrdered_int_h:Hn SI:= .z
theorem sl_medianOrdered_int_c:COk Tryz.prog 173 sl_medianOrdered_int_g:=
 cq (gam_cons sl_order2Ordered_int_c gam_nil) Tryz.func173 sl_medianOrdered_int_h 0 (by kernel_rfl) rfl fun _=>by kernel_rfl
def sl_medianAdjacentOrdered_int_g:Sig xx:=⟨[.d (.sl (.int .i64)),.d (.int .i64),.mref (.int .i64)],[.d (.int .i64),.mr (.int .i64)],fun a=>sl_medianAdjacentOrdered_int a.1 a.2.1 a.2.2.1,none⟩
def sl_medianAdjacentOrdered_int_h:Hn SI:= .z
theorem sl_medianAdjacentOrdered_int_c:COk Tryz.prog 172 sl_medianAdjacentOrdered_int_g:=
 cq (gam_cons sl_medianOrdered_int_c gam_nil) Tryz.func172 sl_medianAdjacentOrdered_int_h 0 (by kernel_rfl) rfl fun _=>by kernel_rfl
def sl_choosePivotOrdered_int_g:Sig xx:=⟨[.d (.sl (.int .i64)),.d (.int .i64),.d (.int .i64)],[.d (.int .i64),.d (.int .i64)],fun a=>sl_choosePivotOrdered_int a.1 a.2.1 a.2.2.1,none⟩
def sl_choosePivotOrdered_int_h:Hn SI:=(.s .z (.s .z (.s .z (.s .z (.s .z (.s .z (.s (.j ⟨[(11,(.v (.int .i64)))],[(1384,.c 1 [[(.v (.int .i64))]])],[9],[],2600,[]⟩ (.s .z (.s (.s (.j ⟨[(10,(.v (.int .i64))),(11,(.v (.int .i64))),(12,(.v (.int .i64)))],[(1384,.c 1 [[(.v (.int .i64))]])],[0,9],[],2728,[]⟩ .z) .z) .z))) .z)))))))
theorem sl_choosePivotOrdered_int_c:COk Tryz.prog 137 sl_choosePivotOrdered_int_g:=
 cq (gam_cons sl_medianAdjacentOrdered_int_c (gam_cons sl_medianOrdered_int_c gam_nil)) Tryz.func137 sl_choosePivotOrdered_int_h 0 (by kernel_rfl) rfl fun _=>by kernel_rfl
def sl_reverseRangeOrdered_int_g (n:Nat):Sig xx:=⟨[.mut (.int .i64),.d (.int .i64),.d (.int .i64)],[.mu (.int .i64)],fun a=>sl_reverseRangeOrdered_int n a.1 a.2.1 a.2.2.1,none⟩
def sl_reverseRangeOrdered_int_h:Hn SI:=(.s .z (.s .z (.b (.l ⟨[(6,(.v (.int .i64))),(7,(.v (.int .i64)))],[(0,.l (.int .i64))],[0],[],1320,[]⟩ 0 ⟨[],[(0,.l (.int .i64))],[],[],1320,[]⟩ .z))))
theorem sl_reverseRangeOrdered_int_c (n:Nat):COk Tryz.prog 138 (sl_reverseRangeOrdered_int_g n):=
 cq gam_nil Tryz.func138 sl_reverseRangeOrdered_int_h n (by kernel_rfl) rfl fun _=>by kernel_rfl
def sl_partialInsertionSortOrdered_int_g (n:Nat):Sig xx:=⟨[.mut (.int .i64),.d (.int .i64),.d (.int .i64)],[.d .bool,.mu (.int .i64)],fun a=>sl_partialInsertionSortOrdered_int n a.1 a.2.1 a.2.2.1,none⟩
def sl_partialInsertionSortOrdered_int_h:Hn SI:=(.s .z (.s .z (.s (.s .z (.b (.lx ⟨[(7,(.v (.int .i64))),(8,(.v (.int .i64)))],[(0,.l (.int .i64))],[0,1,2],[],1320,[]⟩ 0 ⟨[],[(0,.l (.int .i64))],[],[],1320,[]⟩ (.s .z (.s (.jx ⟨[(7,(.v (.int .i64)))],[(0,.l (.int .i64))],[0,1,2,8],[],1448,[]⟩ (.b (.s (.b (.l ⟨[(7,(.v (.int .i64)))],[],[0,1,2,8],[0],1448,[]⟩ 2 ⟨[(7,(.v (.int .i64)))],[],[0,1,2,8],[0],1448,[]⟩ (.s (.s (.j ⟨[(32,(.v .bool))],[],[0,1,2,7,8],[0],1448,[]⟩ .z) .z) .z))) (.s .z (.s .z (.s .z (.s (.j ⟨[],[(0,.l (.int .i64))],[0,1,2,7,8],[],3048,[]⟩ (.s .z (.s (.s .z (.b (.l ⟨[(9,(.v (.int .i64)))],[(0,.l (.int .i64))],[0,1,2,7,8],[],3496,[]⟩ 4 ⟨[],[(0,.l (.int .i64))],[0,1,2,7,8],[],3496,[]⟩ .z))) .z))) (.s .z (.s (.s .z (.b (.l ⟨[(10,(.v (.int .i64)))],[(0,.l (.int .i64))],[0,1,2,7,8],[],3496,[]⟩ 6 ⟨[],[(0,.l (.int .i64))],[0,1,2,7,8],[],3496,[]⟩ .z))) .z))))))))) .z))))) .z)))
theorem sl_partialInsertionSortOrdered_int_c (n:Nat):COk Tryz.prog 139 (sl_partialInsertionSortOrdered_int_g n):=
 cq (gam_cons cmp_Less_int_c gam_nil) Tryz.func139 sl_partialInsertionSortOrdered_int_h n (by kernel_rfl) rfl fun _=>by kernel_rfl
def sl_partitionEqualOrdered_int_g (n:Nat):Sig xx:=⟨[.mut (.int .i64),.d (.int .i64),.d (.int .i64),.d (.int .i64)],[.d (.int .i64),.mu (.int .i64)],fun a=>sl_partitionEqualOrdered_int n a.1 a.2.1 a.2.2.1 a.2.2.2.1,none⟩
def sl_partitionEqualOrdered_int_h:Hn SI:=(.s .z (.s .z (.s .z (.s (.b (.l ⟨[(9,(.v (.int .i64))),(10,(.v (.int .i64)))],[(0,.l (.int .i64))],[0,1],[],2472,[]⟩ 0 ⟨[(9,(.v (.int .i64)))],[(0,.l (.int .i64))],[],[],2472,[]⟩ (.b (.s (.b (.l ⟨[(9,(.v (.int .i64)))],[],[0,1,10],[0],2472,[]⟩ 2 ⟨[(9,(.v (.int .i64)))],[],[0,1,10],[0],2472,[]⟩ (.s (.s (.j ⟨[(43,(.v .bool))],[],[0,1,9,10],[0],2472,[]⟩ .z) .z) .z))) (.s (.b (.l ⟨[(10,(.v (.int .i64)))],[],[0,1,9],[0],2472,[]⟩ 4 ⟨[(10,(.v (.int .i64)))],[],[0,1,9],[0],2472,[]⟩ (.s (.s (.j ⟨[(59,(.v .bool))],[],[0,1,9,10],[0],2472,[]⟩ .z) .z) .z))) .z))))) .z))))
theorem sl_partitionEqualOrdered_int_c (n:Nat):COk Tryz.prog 141 (sl_partitionEqualOrdered_int_g n):=
 cq (gam_cons cmp_Less_int_c gam_nil) Tryz.func141 sl_partitionEqualOrdered_int_h n (by kernel_rfl) rfl fun _=>by kernel_rfl
def sl_partitionOrdered_int_g (n:Nat):Sig xx:=⟨[.mut (.int .i64),.d (.int .i64),.d (.int .i64),.d (.int .i64)],[.d (.int .i64),.d .bool,.mu (.int .i64)],fun a=>sl_partitionOrdered_int n a.1 a.2.1 a.2.2.1 a.2.2.2.1,none⟩
def sl_partitionOrdered_int_h:Hn SI:=(.s .z (.s .z (.s .z (.s (.b (.l ⟨[(10,(.v (.int .i64)))],[],[0,1,11],[0],2536,[]⟩ 0 ⟨[(10,(.v (.int .i64)))],[],[0,1,11],[0],2536,[]⟩ (.s (.s (.j ⟨[(43,(.v .bool))],[],[0,1,10,11],[0],2536,[]⟩ .z) .z) .z))) (.s (.b (.l ⟨[(11,(.v (.int .i64)))],[],[0,1,10],[0],2536,[]⟩ 2 ⟨[(11,(.v (.int .i64)))],[],[0,1,10],[0],2536,[]⟩ (.s (.s (.j ⟨[(60,(.v .bool))],[],[0,1,10,11],[0],2536,[]⟩ .z) .z) .z))) (.s .z (.s .z (.s .z (.s .z (.s (.b (.l ⟨[(10,(.v (.int .i64))),(11,(.v (.int .i64)))],[(0,.l (.int .i64))],[0,1],[],4136,[]⟩ 4 ⟨[(11,(.v (.int .i64)))],[(0,.l (.int .i64))],[0,1],[],4136,[]⟩ (.b (.s (.b (.l ⟨[(10,(.v (.int .i64)))],[],[0,1,11],[0],4136,[]⟩ 6 ⟨[(10,(.v (.int .i64)))],[],[0,1,11],[0],4136,[]⟩ (.s (.s (.j ⟨[(112,(.v .bool))],[],[0,1,10,11],[0],4136,[]⟩ .z) .z) .z))) (.s (.b (.l ⟨[(11,(.v (.int .i64)))],[],[0,1,10],[0],4136,[]⟩ 8 ⟨[(11,(.v (.int .i64)))],[],[0,1,10],[0],4136,[]⟩ (.s (.s (.j ⟨[(129,(.v .bool))],[],[0,1,10,11],[0],4136,[]⟩ .z) .z) .z))) .z))))) .z))))))))))
theorem sl_partitionOrdered_int_c (n:Nat):COk Tryz.prog 142 (sl_partitionOrdered_int_g n):=
 cq (gam_cons cmp_Less_int_c gam_nil) Tryz.func142 sl_partitionOrdered_int_h n (by kernel_rfl) rfl fun _=>by kernel_rfl
def sl_pdqsortOrdered_int_h:Hn SI:=(.s .z (.s .z (.b (.lx ⟨[(1,(.v (.int .i64))),(2,(.v (.int .i64))),(3,(.v (.int .i64))),(8,(.v .bool)),(9,(.v .bool))],[(0,.l (.int .i64))],[0],[],1128,[]⟩ 999999 ⟨[],[],[],[],1128,[]⟩ (.b (.s .z (.s .z (.s .z (.s (.j ⟨[(3,(.v (.int .i64)))],[(0,.l (.int .i64))],[0,1,2,8,9,10],[],1640,[]⟩ .z) (.s .z (.s (.j ⟨[(11,(.v (.int .i64))),(12,(.v (.int .i64)))],[(0,.l (.int .i64))],[0,1,2,3,8,9,10],[],2216,[]⟩ .z) (.s (.jx ⟨[],[(0,.l (.int .i64))],[0,1,2,3,8,9,10,11],[],2216,[]⟩ (.s (.j ⟨[(68,(.v .bool))],[],[0,1,2,3,8,9,10,11],[0],2216,[]⟩ .z) .z)) (.s (.s (.j ⟨[(87,(.v .bool))],[],[0,1,2,3,8,9,10,11],[0],2216,[]⟩ .z) .z) .z)))))))))))))
theorem sl_pdqsortOrdered_int_bc (n:Nat) (rc:((List Int))→(Int)→(Int)→(Int)→Option (List Int)) (hr:COk Tryz.prog 96 (sl_pdqsortOrdered_int_rg rc)):COk Tryz.prog 96 (sl_pdqsortOrdered_int_rg (sl_pdqsortOrdered_int_b n rc)):=
 cq (gam_cons (sl_insertionSortOrdered_int_c n) (gam_cons (sl_heapSortOrdered_int_c n) (gam_cons (sl_breakPatternsOrdered_int_c n) (gam_cons sl_choosePivotOrdered_int_c (gam_cons (sl_reverseRangeOrdered_int_c n) (gam_cons (sl_partialInsertionSortOrdered_int_c n) (gam_cons cmp_Less_int_c (gam_cons (sl_partitionEqualOrdered_int_c n) (gam_cons (sl_partitionOrdered_int_c n) (gam_cons hr gam_nil)))))))))) Tryz.func96 sl_pdqsortOrdered_int_h n (by kernel_rfl) rfl fun _=>by kernel_rfl
theorem sl_pdqsortOrdered_int_mc (n:Nat):∀ m,COk Tryz.prog 96 (sl_pdqsortOrdered_int_rg (sl_pdqsortOrdered_int_m n m))
 | 0=>cok (callable_of Tryz.func96 (by kernel_rfl:Tryz.f96.body=some (Tryz.f96.body.getD .skip)) (by kernel_rfl)) (fun _ _ h=>(by cases h)) rfl
 |m+1=>sl_pdqsortOrdered_int_bc n _ (sl_pdqsortOrdered_int_mc n m)
def sl_pdqsortOrdered_int_g (n:Nat):Sig xx:=⟨[.mut (.int .i64),.d (.int .i64),.d (.int .i64),.d (.int .i64)],[.mu (.int .i64)],fun a=>sl_pdqsortOrdered_int n a.1 a.2.1 a.2.2.1 a.2.2.2.1,none⟩
theorem sl_pdqsortOrdered_int_c (n:Nat):COk Tryz.prog 96 (sl_pdqsortOrdered_int_g n):=sl_pdqsortOrdered_int_mc n n
def sl_Sort_int_g (n:Nat):Sig xx:=⟨[.mut (.int .i64)],[.mu (.int .i64)],fun a=>sl_Sort_int n a.1,none⟩
def sl_Sort_int_h:Hn SI:= .z
theorem sl_Sort_int_c (n:Nat):COk Tryz.prog 42 (sl_Sort_int_g n):=
 cq (gam_cons bits_Len_c (gam_cons (sl_pdqsortOrdered_int_c n) gam_nil)) Tryz.func42 sl_Sort_int_h n (by kernel_rfl) rfl fun _=>by kernel_rfl
def sl_Compact_int_g (n:Nat):Sig xx:=⟨[.mut (.int .i64)],[.whole 0,.mu (.int .i64)],fun a=>sl_Compact_int n a.1,none⟩
def sl_Compact_int_h:Hn SI:=(.s .z (.s .z (.s (.s .z (.b (.lx ⟨[(3,(.v (.int .i64)))],[],[0],[0],1320,[]⟩ 0 ⟨[],[],[0],[0],1320,[]⟩ (.s .z (.s (.b (.s .z (.s (.s .z (.s (.s .z (.b (.l ⟨[(3,(.v (.int .i64))),(5,(.v (.int .i64)))],[(0,.l (.int .i64))],[0,4],[],2536,[]⟩ 2 ⟨[(3,(.v (.int .i64)))],[(0,.l (.int .i64))],[0],[],2536,[]⟩ (.s .z (.s (.j ⟨[(3,(.v (.int .i64)))],[(0,.l (.int .i64))],[0,4,5],[],2792,[]⟩ .z) .z))))) .z)) .z))) .z))))) .z)))
theorem sl_Compact_int_c (n:Nat):COk Tryz.prog 43 (sl_Compact_int_g n):=
 cq gam_nil Tryz.func43 sl_Compact_int_h n (by kernel_rfl) rfl fun _=>by kernel_rfl
def sl_insertionSortCmpFunc_span_g (n:Nat):Sig xx:=⟨[.mut (.st SI.span),.d (.int .i64),.d (.int .i64),.clo [(.st SI.span),(.st SI.span)] (.int .i64)],[.mu (.st SI.span)],fun a=>sl_insertionSortCmpFunc_span n a.1 a.2.1 a.2.2.1 a.2.2.2.1,none⟩
def sl_insertionSortCmpFunc_span_h:Hn SI:=(.s .z (.b (.l ⟨[(8,(.v (.int .i64)))],[(0,.l (.st SI.span))],[0,1,2,3],[],1192,[]⟩ 0 ⟨[],[(0,.l (.st SI.span))],[],[],1192,[]⟩ (.s .z (.s (.b (.s .z (.b (.l ⟨[(9,(.v (.int .i64)))],[(0,.l (.st SI.span))],[0,1,2,3,8],[],1512,[]⟩ 2 ⟨[],[(0,.l (.st SI.span))],[0,1,2,3,8],[],1512,[]⟩ (.s (.s (.j ⟨[(34,(.v .bool))],[],[0,1,2,3,8,9],[0],1512,[]⟩ .z) .z) .z))))) .z)))))
theorem sl_insertionSortCmpFunc_span_c (n:Nat):COk Tryz.prog 190 (sl_insertionSortCmpFunc_span_g n):=
 cq gam_nil Tryz.func190 sl_insertionSortCmpFunc_span_h n (by kernel_rfl) rfl fun _=>by kernel_rfl
def sl_siftDownCmpFunc_span_g (n:Nat):Sig xx:=⟨[.mut (.st SI.span),.d (.int .i64),.d (.int .i64),.d (.int .i64),.clo [(.st SI.span),(.st SI.span)] (.int .i64)],[.mu (.st SI.span)],fun a=>sl_siftDownCmpFunc_span n a.1 a.2.1 a.2.2.1 a.2.2.2.1 a.2.2.2.2.1,none⟩
def sl_siftDownCmpFunc_span_h:Hn SI:=(.s .z (.b (.lx ⟨[(10,(.v (.int .i64)))],[(0,.l (.st SI.span))],[0,2,3,4],[],1128,[]⟩ 0 ⟨[],[(0,.l (.st SI.span))],[],[],1128,[]⟩ (.b (.s .z (.s .z (.s (.j ⟨[(11,(.v (.int .i64)))],[],[0,2,3,4,10],[0],1576,[]⟩ (.s (.j ⟨[(40,(.v .bool))],[],[0,2,3,4,10,11],[0],1576,[]⟩ .z) .z)) .z)))))))
theorem sl_siftDownCmpFunc_span_c (n:Nat):COk Tryz.prog 209 (sl_siftDownCmpFunc_span_g n):=
 cq gam_nil Tryz.func209 sl_siftDownCmpFunc_span_h n (by kernel_rfl) rfl fun _=>by kernel_rfl
def sl_heapSortCmpFunc_span_g (n:Nat):Sig xx:=⟨[.mut (.st SI.span),.d (.int .i64),.d (.int .i64),.clo [(.st SI.span),(.st SI.span)] (.int .i64)],[.mu (.st SI.span)],fun a=>sl_heapSortCmpFunc_span n a.1 a.2.1 a.2.2.1 a.2.2.2.1,none⟩
def sl_heapSortCmpFunc_span_h:Hn SI:=(.s .z (.s .z (.s .z (.s (.s .z (.b (.l ⟨[(11,(.v (.int .i64)))],[(0,.l (.st SI.span))],[0,3,8,9,10],[],1704,[]⟩ 0 ⟨[],[(0,.l (.st SI.span))],[0,3,8,9,10],[],1704,[]⟩ .z))) (.s .z (.b (.l ⟨[(12,(.v (.int .i64)))],[(0,.l (.st SI.span))],[0,3,8,9],[],1896,[]⟩ 2 ⟨[],[(0,.l (.st SI.span))],[],[],1896,[]⟩ .z)))))))
theorem sl_heapSortCmpFunc_span_c (n:Nat):COk Tryz.prog 191 (sl_heapSortCmpFunc_span_g n):=
 cq (gam_cons (sl_siftDownCmpFunc_span_c n) gam_nil) Tryz.func191 sl_heapSortCmpFunc_span_h n (by kernel_rfl) rfl fun _=>by kernel_rfl
def sl_breakPatternsCmpFunc_span_g (n:Nat):Sig xx:=⟨[.mut (.st SI.span),.d (.int .i64),.d (.int .i64),.clo [(.st SI.span),(.st SI.span)] (.int .i64)],[.mu (.st SI.span)],fun a=>sl_breakPatternsCmpFunc_span n a.1 a.2.1 a.2.2.1 a.2.2.2.1,none⟩
def sl_breakPatternsCmpFunc_span_h:Hn SI:=(.s .z (.s .z (.s (.s .z (.s .z (.s .z (.b (.l ⟨[(11,(.v (.int .i64)))],[(0,.l (.st SI.span)),(1512,.c 1 [[(.v (.int .u64))]])],[0,1,8,9,10],[],2280,[]⟩ 0 ⟨[],[(0,.l (.st SI.span))],[],[],2280,[]⟩ (.s .z (.s (.b (.s .z (.s (.j ⟨[(12,(.v (.int .i64)))],[],[0,1,8,9,10,11],[0,1512],3176,[]⟩ .z) .z))) .z))))))) .z)))
theorem sl_breakPatternsCmpFunc_span_c (n:Nat):COk Tryz.prog 192 (sl_breakPatternsCmpFunc_span_g n):=
 cq (gam_cons sl_nextPowerOfTwo_c (gam_cons sl_xorshift_Next_c gam_nil)) Tryz.func192 sl_breakPatternsCmpFunc_span_h n (by kernel_rfl) rfl fun _=>by kernel_rfl
def sl_order2CmpFunc_span_g:Sig xx:=⟨[.d (.sl (.st SI.span)),.d (.int .i64),.d (.int .i64),.mref (.int .i64),.clo [(.st SI.span),(.st SI.span)] (.int .i64)],[.d (.int .i64),.d (.int .i64),.mr (.int .i64)],fun a=>sl_order2CmpFunc_span a.1 a.2.1 a.2.2.1 a.2.2.2.1 a.2.2.2.2.1,none⟩
def sl_order2CmpFunc_span_h:Hn SI:= .z
theorem sl_order2CmpFunc_span_c:COk Tryz.prog 216 sl_order2CmpFunc_span_g:=
 cq gam_nil Tryz.func216 sl_order2CmpFunc_span_h 0 (by kernel_rfl) rfl fun _=>by kernel_rfl
def sl_medianCmpFunc_span_g:Sig xx:=⟨[.d (.sl (.st SI.span)),.d (.int .i64),.d (.int .i64),.d (.int .i64),.mref (.int .i64),.clo [(.st SI.span),(.st SI.span)] (.int .i64)],[.d (.int .i64),.mr (.int .i64)],fun a=>sl_medianCmpFunc_span a.1 a.2.1 a.2.2.1 a.2.2.2.1 a.2.2.2.2.1 a.2.2.2.2.2.1,none⟩
def sl_medianCmpFunc_span_h:Hn SI:= .z
theorem sl_medianCmpFunc_span_c:COk Tryz.prog 211 sl_medianCmpFunc_span_g:=
 cq (gam_cons sl_order2CmpFunc_span_c gam_nil) Tryz.func211 sl_medianCmpFunc_span_h 0 (by kernel_rfl) rfl fun _=>by kernel_rfl
def sl_medianAdjacentCmpFunc_span_g:Sig xx:=⟨[.d (.sl (.st SI.span)),.d (.int .i64),.mref (.int .i64),.clo [(.st SI.span),(.st SI.span)] (.int .i64)],[.d (.int .i64),.mr (.int .i64)],fun a=>sl_medianAdjacentCmpFunc_span a.1 a.2.1 a.2.2.1 a.2.2.2.1,none⟩
def sl_medianAdjacentCmpFunc_span_h:Hn SI:= .z
theorem sl_medianAdjacentCmpFunc_span_c:COk Tryz.prog 210 sl_medianAdjacentCmpFunc_span_g:=
 cq (gam_cons sl_medianCmpFunc_span_c gam_nil) Tryz.func210 sl_medianAdjacentCmpFunc_span_h 0 (by kernel_rfl) rfl fun _=>by kernel_rfl
def sl_choosePivotCmpFunc_span_g:Sig xx:=⟨[.d (.sl (.st SI.span)),.d (.int .i64),.d (.int .i64),.clo [(.st SI.span),(.st SI.span)] (.int .i64)],[.d (.int .i64),.d (.int .i64)],fun a=>sl_choosePivotCmpFunc_span a.1 a.2.1 a.2.2.1 a.2.2.2.1,none⟩
def sl_choosePivotCmpFunc_span_h:Hn SI:=(.s .z (.s .z (.s .z (.s .z (.s .z (.s .z (.s (.j ⟨[(13,(.v (.int .i64)))],[(1384,.c 1 [[(.v (.int .i64))]])],[11],[],2600,[]⟩ (.s .z (.s (.s (.j ⟨[(12,(.v (.int .i64))),(13,(.v (.int .i64))),(14,(.v (.int .i64)))],[(1384,.c 1 [[(.v (.int .i64))]])],[0,3,11],[],2728,[]⟩ .z) .z) .z))) .z)))))))
theorem sl_choosePivotCmpFunc_span_c:COk Tryz.prog 193 sl_choosePivotCmpFunc_span_g:=
 cq (gam_cons sl_medianAdjacentCmpFunc_span_c (gam_cons sl_medianCmpFunc_span_c gam_nil)) Tryz.func193 sl_choosePivotCmpFunc_span_h 0 (by kernel_rfl) rfl fun _=>by kernel_rfl
def sl_reverseRangeCmpFunc_span_g (n:Nat):Sig xx:=⟨[.mut (.st SI.span),.d (.int .i64),.d (.int .i64),.clo [(.st SI.span),(.st SI.span)] (.int .i64)],[.mu (.st SI.span)],fun a=>sl_reverseRangeCmpFunc_span n a.1 a.2.1 a.2.2.1 a.2.2.2.1,none⟩
def sl_reverseRangeCmpFunc_span_h:Hn SI:=(.s .z (.s .z (.b (.l ⟨[(8,(.v (.int .i64))),(9,(.v (.int .i64)))],[(0,.l (.st SI.span))],[0],[],1320,[]⟩ 0 ⟨[],[(0,.l (.st SI.span))],[],[],1320,[]⟩ .z))))
theorem sl_reverseRangeCmpFunc_span_c (n:Nat):COk Tryz.prog 194 (sl_reverseRangeCmpFunc_span_g n):=
 cq gam_nil Tryz.func194 sl_reverseRangeCmpFunc_span_h n (by kernel_rfl) rfl fun _=>by kernel_rfl
def sl_partialInsertionSortCmpFunc_span_g (n:Nat):Sig xx:=⟨[.mut (.st SI.span),.d (.int .i64),.d (.int .i64),.clo [(.st SI.span),(.st SI.span)] (.int .i64)],[.d .bool,.mu (.st SI.span)],fun a=>sl_partialInsertionSortCmpFunc_span n a.1 a.2.1 a.2.2.1 a.2.2.2.1,none⟩
def sl_partialInsertionSortCmpFunc_span_h:Hn SI:=(.s .z (.s .z (.s (.s .z (.b (.lx ⟨[(9,(.v (.int .i64))),(10,(.v (.int .i64)))],[(0,.l (.st SI.span))],[0,1,2,3],[],1320,[]⟩ 0 ⟨[],[(0,.l (.st SI.span))],[],[],1320,[]⟩ (.s .z (.s (.jx ⟨[(9,(.v (.int .i64)))],[(0,.l (.st SI.span))],[0,1,2,3,10],[],1448,[]⟩ (.b (.s (.b (.l ⟨[(9,(.v (.int .i64)))],[],[0,1,2,3,10],[0],1448,[]⟩ 2 ⟨[(9,(.v (.int .i64)))],[],[0,1,2,3,10],[0],1448,[]⟩ (.s (.s (.j ⟨[(36,(.v .bool))],[],[0,1,2,3,9,10],[0],1448,[]⟩ .z) .z) .z))) (.s .z (.s .z (.s .z (.s (.j ⟨[],[(0,.l (.st SI.span))],[0,1,2,3,9,10],[],3048,[]⟩ (.s .z (.s (.s .z (.b (.l ⟨[(11,(.v (.int .i64)))],[(0,.l (.st SI.span))],[0,1,2,3,9,10],[],3496,[]⟩ 4 ⟨[],[(0,.l (.st SI.span))],[0,1,2,3,9,10],[],3496,[]⟩ .z))) .z))) (.s .z (.s (.s .z (.b (.l ⟨[(12,(.v (.int .i64)))],[(0,.l (.st SI.span))],[0,1,2,3,9,10],[],3496,[]⟩ 6 ⟨[],[(0,.l (.st SI.span))],[0,1,2,3,9,10],[],3496,[]⟩ .z))) .z))))))))) .z))))) .z)))
theorem sl_partialInsertionSortCmpFunc_span_c (n:Nat):COk Tryz.prog 195 (sl_partialInsertionSortCmpFunc_span_g n):=
 cq gam_nil Tryz.func195 sl_partialInsertionSortCmpFunc_span_h n (by kernel_rfl) rfl fun _=>by kernel_rfl
def sl_partitionEqualCmpFunc_span_g (n:Nat):Sig xx:=⟨[.mut (.st SI.span),.d (.int .i64),.d (.int .i64),.d (.int .i64),.clo [(.st SI.span),(.st SI.span)] (.int .i64)],[.d (.int .i64),.mu (.st SI.span)],fun a=>sl_partitionEqualCmpFunc_span n a.1 a.2.1 a.2.2.1 a.2.2.2.1 a.2.2.2.2.1,none⟩
def sl_partitionEqualCmpFunc_span_h:Hn SI:=(.s .z (.s .z (.s .z (.s (.b (.l ⟨[(11,(.v (.int .i64))),(12,(.v (.int .i64)))],[(0,.l (.st SI.span))],[0,1,4],[],2472,[]⟩ 0 ⟨[(11,(.v (.int .i64)))],[(0,.l (.st SI.span))],[],[],2472,[]⟩ (.b (.s (.b (.l ⟨[(11,(.v (.int .i64)))],[],[0,1,4,12],[0],2472,[]⟩ 2 ⟨[(11,(.v (.int .i64)))],[],[0,1,4,12],[0],2472,[]⟩ (.s (.s (.j ⟨[(47,(.v .bool))],[],[0,1,4,11,12],[0],2472,[]⟩ .z) .z) .z))) (.s (.b (.l ⟨[(12,(.v (.int .i64)))],[],[0,1,4,11],[0],2472,[]⟩ 4 ⟨[(12,(.v (.int .i64)))],[],[0,1,4,11],[0],2472,[]⟩ (.s (.s (.j ⟨[(65,(.v .bool))],[],[0,1,4,11,12],[0],2472,[]⟩ .z) .z) .z))) .z))))) .z))))
theorem sl_partitionEqualCmpFunc_span_c (n:Nat):COk Tryz.prog 196 (sl_partitionEqualCmpFunc_span_g n):=
 cq gam_nil Tryz.func196 sl_partitionEqualCmpFunc_span_h n (by kernel_rfl) rfl fun _=>by kernel_rfl
def sl_partitionCmpFunc_span_g (n:Nat):Sig xx:=⟨[.mut (.st SI.span),.d (.int .i64),.d (.int .i64),.d (.int .i64),.clo [(.st SI.span),(.st SI.span)] (.int .i64)],[.d (.int .i64),.d .bool,.mu (.st SI.span)],fun a=>sl_partitionCmpFunc_span n a.1 a.2.1 a.2.2.1 a.2.2.2.1 a.2.2.2.2.1,none⟩
def sl_partitionCmpFunc_span_h:Hn SI:=(.s .z (.s .z (.s .z (.s (.b (.l ⟨[(12,(.v (.int .i64)))],[],[0,1,4,13],[0],2536,[]⟩ 0 ⟨[(12,(.v (.int .i64)))],[],[0,1,4,13],[0],2536,[]⟩ (.s (.s (.j ⟨[(47,(.v .bool))],[],[0,1,4,12,13],[0],2536,[]⟩ .z) .z) .z))) (.s (.b (.l ⟨[(13,(.v (.int .i64)))],[],[0,1,4,12],[0],2536,[]⟩ 2 ⟨[(13,(.v (.int .i64)))],[],[0,1,4,12],[0],2536,[]⟩ (.s (.s (.j ⟨[(66,(.v .bool))],[],[0,1,4,12,13],[0],2536,[]⟩ .z) .z) .z))) (.s .z (.s .z (.s .z (.s .z (.s (.b (.l ⟨[(12,(.v (.int .i64))),(13,(.v (.int .i64)))],[(0,.l (.st SI.span))],[0,1,4],[],4136,[]⟩ 4 ⟨[(13,(.v (.int .i64)))],[(0,.l (.st SI.span))],[0,1],[],4136,[]⟩ (.b (.s (.b (.l ⟨[(12,(.v (.int .i64)))],[],[0,1,4,13],[0],4136,[]⟩ 6 ⟨[(12,(.v (.int .i64)))],[],[0,1,4,13],[0],4136,[]⟩ (.s (.s (.j ⟨[(120,(.v .bool))],[],[0,1,4,12,13],[0],4136,[]⟩ .z) .z) .z))) (.s (.b (.l ⟨[(13,(.v (.int .i64)))],[],[0,1,4,12],[0],4136,[]⟩ 8 ⟨[(13,(.v (.int .i64)))],[],[0,1,4,12],[0],4136,[]⟩ (.s (.s (.j ⟨[(139,(.v .bool))],[],[0,1,4,12,13],[0],4136,[]⟩ .z) .z) .z))) .z))))) .z))))))))))
theorem sl_partitionCmpFunc_span_c (n:Nat):COk Tryz.prog 197 (sl_partitionCmpFunc_span_g n):=
 cq gam_nil Tryz.func197 sl_partitionCmpFunc_span_h n (by kernel_rfl) rfl fun _=>by kernel_rfl
def sl_pdqsortCmpFunc_span_h:Hn SI:=(.s .z (.s .z (.b (.lx ⟨[(1,(.v (.int .i64))),(2,(.v (.int .i64))),(3,(.v (.int .i64))),(10,(.v .bool)),(11,(.v .bool))],[(0,.l (.st SI.span))],[0,4],[],1128,[]⟩ 999999 ⟨[],[],[],[],1128,[]⟩ (.b (.s .z (.s .z (.s .z (.s (.j ⟨[(3,(.v (.int .i64)))],[(0,.l (.st SI.span))],[0,1,2,4,10,11,12],[],1640,[]⟩ .z) (.s .z (.s (.j ⟨[(13,(.v (.int .i64))),(14,(.v (.int .i64)))],[(0,.l (.st SI.span))],[0,1,2,3,4,10,11,12],[],2280,[]⟩ .z) (.s (.jx ⟨[],[(0,.l (.st SI.span))],[0,1,2,3,4,10,11,12,13],[],2280,[]⟩ (.s (.j ⟨[(75,(.v .bool))],[],[0,1,2,3,4,10,11,12,13],[0],2280,[]⟩ .z) .z)) (.s (.s (.j ⟨[(97,(.v .bool))],[],[0,1,2,3,4,10,11,12,13],[0],2280,[]⟩ .z) .z) .z)))))))))))))
theorem sl_pdqsortCmpFunc_span_bc (n:Nat) (rc:((List Gspan))→(Int)→(Int)→(Int)→((Gspan×Gspan×Unit)→Option Int)→Option (List Gspan)) (hr:COk Tryz.prog 177 (sl_pdqsortCmpFunc_span_rg rc)):COk Tryz.prog 177 (sl_pdqsortCmpFunc_span_rg (sl_pdqsortCmpFunc_span_b n rc)):=
 cq (gam_cons (sl_insertionSortCmpFunc_span_c n) (gam_cons (sl_heapSortCmpFunc_span_c n) (gam_cons (sl_breakPatternsCmpFunc_span_c n) (gam_cons sl_choosePivotCmpFunc_span_c (gam_cons (sl_reverseRangeCmpFunc_span_c n) (gam_cons (sl_partialInsertionSortCmpFunc_span_c n) (gam_cons (sl_partitionEqualCmpFunc_span_c n) (gam_cons (sl_partitionCmpFunc_span_c n) (gam_cons hr gam_nil))))))))) Tryz.func177 sl_pdqsortCmpFunc_span_h n (by kernel_rfl) rfl fun _=>by kernel_rfl
theorem sl_pdqsortCmpFunc_span_mc (n:Nat):∀ m,COk Tryz.prog 177 (sl_pdqsortCmpFunc_span_rg (sl_pdqsortCmpFunc_span_m n m))
 | 0=>cok (callable_of Tryz.func177 (by kernel_rfl:Tryz.f177.body=some (Tryz.f177.body.getD .skip)) (by kernel_rfl)) (fun _ _ h=>(by cases h)) rfl
 |m+1=>sl_pdqsortCmpFunc_span_bc n _ (sl_pdqsortCmpFunc_span_mc n m)
def sl_pdqsortCmpFunc_span_g (n:Nat):Sig xx:=⟨[.mut (.st SI.span),.d (.int .i64),.d (.int .i64),.d (.int .i64),.clo [(.st SI.span),(.st SI.span)] (.int .i64)],[.mu (.st SI.span)],fun a=>sl_pdqsortCmpFunc_span n a.1 a.2.1 a.2.2.1 a.2.2.2.1 a.2.2.2.2.1,none⟩
theorem sl_pdqsortCmpFunc_span_c (n:Nat):COk Tryz.prog 177 (sl_pdqsortCmpFunc_span_g n):=sl_pdqsortCmpFunc_span_mc n n
def sl_SortFunc_span_g (n:Nat):Sig xx:=⟨[.mut (.st SI.span),.clo [(.st SI.span),(.st SI.span)] (.int .i64)],[.mu (.st SI.span)],fun a=>sl_SortFunc_span n a.1 a.2.1,none⟩
def sl_SortFunc_span_h:Hn SI:= .z
theorem sl_SortFunc_span_c (n:Nat):COk Tryz.prog 154 (sl_SortFunc_span_g n):=
 cq (gam_cons bits_Len_c (gam_cons (sl_pdqsortCmpFunc_span_c n) gam_nil)) Tryz.func154 sl_SortFunc_span_h n (by kernel_rfl) rfl fun _=>by kernel_rfl
def cmp_Compare_int_g:Sig xx:=⟨[.d (.int .i64),.d (.int .i64)],[.d (.int .i64)],fun a=>cmp_Compare_int a.1 a.2.1,none⟩
def cmp_Compare_int_h:Hn SI:= .z
theorem cmp_Compare_int_c:COk Tryz.prog 115 cmp_Compare_int_g:=
 cq (gam_cons cmp_isNaN_int_c gam_nil) Tryz.func115 cmp_Compare_int_h 0 (by kernel_rfl) rfl fun _=>by kernel_rfl
def rg_column_f1_g:Sig xx:=⟨[.d (.st SI.span),.d (.st SI.span)],[.d (.int .i64)],fun a=>rg_column_f1 a.1 a.2.1,none⟩
def rg_column_f1_h:Hn SI:= .z
theorem rg_column_f1_c:COk Tryz.prog 155 rg_column_f1_g:=
 cq (gam_cons cmp_Compare_int_c gam_nil) Tryz.func155 rg_column_f1_h 0 (by kernel_rfl) rfl fun _=>by kernel_rfl
def rg_column_g (n:Nat):Sig xx:=⟨[.d (.sl (.st SI.Rect)),.d (.int .i64)],[.fresh (.st SI.span)],fun a=>rg_column n a.1 a.2.1,none⟩
def rg_column_h:Hn SI:=(.s .z (.s .z (.s (.s .z (.b (.l ⟨[(5,(.o 1320)),(14,(.v (.int .i64)))],[(1320,.l (.st SI.span))],[1,12,13],[],1321,[(5,(.st SI.span))]⟩ 0 ⟨[(5,(.o 1320))],[(1320,.l (.st SI.span))],[],[],1321,[]⟩ (.s .z (.s .z (.s (.j ⟨[(5,(.o 1385))],[(1385,.l (.st SI.span))],[1,12,13,14],[],1386,[]⟩ (.b (.s .z (.s (.j ⟨[(27,(.v .bool))],[],[1,5,7,12,13,14],[1320,1513],1641,[]⟩ .z) .z)))) .z)))))) (.s .z (.s .z (.s (.s .z (.b (.l ⟨[(8,(.o 1705)),(41,(.v (.int .i64)))],[(1705,.l (.st SI.span))],[39,40],[1320],1706,[(8,(.st SI.span))]⟩ 2 ⟨[(8,(.o 1705))],[(1705,.l (.st SI.span))],[],[],1706,[]⟩ (.s .z (.s .z (.s (.j ⟨[(8,(.o 1770))],[(1770,.l (.st SI.span))],[39,40,41],[1320],1771,[]⟩ (.b (.s .z (.s .z (.s (.j ⟨[(59,(.v .bool))],[],[8,10,11,39,40,41],[1320,1705,1898],2218,[]⟩ .z) .z))))) .z)))))) .z))))))
theorem rg_column_c (n:Nat):COk Tryz.prog 109 (rg_column_g n):=
 cq (gam_cons (sl_SortFunc_span_c n) (gam_cons rg_column_f1_c gam_nil)) Tryz.func109 rg_column_h n (by kernel_rfl) rfl fun _=>by kernel_rfl
def rg_strips_g (n:Nat):Sig xx:=⟨[.d (.sl (.sl (.st SI.Rect)))],[.fresh (.st SI.strip)],fun a=>rg_strips n a.1,none⟩
def rg_strips_h:Hn SI:=(.s .z (.s .z (.s .z (.s (.s .z (.b (.l ⟨[(4,(.o 1512)),(13,(.v (.int .i64)))],[(1512,.l (.int .i64))],[3,11,12],[1128],1513,[(4,(.int .i64))]⟩ 0 ⟨[(4,(.o 1512))],[(1512,.l (.int .i64))],[3],[1128],1513,[]⟩ .z))) (.s .z (.s .z (.s .z (.s (.s .z (.b (.l ⟨[(7,(.o 1961)),(8,(.v (.int .i64)))],[(1961,.l (.st SI.strip))],[3,4],[1128,1512],1962,[(7,(.st SI.strip))]⟩ 2 ⟨[(7,(.o 1961))],[(1961,.l (.st SI.strip))],[],[],1962,[]⟩ .z))) .z))))))))
theorem rg_strips_c (n:Nat):COk Tryz.prog 55 (rg_strips_g n):=
 cq (gam_cons (sl_Concat_Rect_c n) (gam_cons (sl_Sort_int_c n) (gam_cons (sl_Compact_int_c n) (gam_cons (rg_column_c n) gam_nil)))) Tryz.func55 rg_strips_h n (by kernel_rfl) rfl fun _=>by kernel_rfl
def sl_Equal_span_g (n:Nat):Sig xx:=⟨[.d (.sl (.st SI.span)),.d (.sl (.st SI.span))],[.d .bool],fun a=>sl_Equal_span n a.1 a.2.1,none⟩
def sl_Equal_span_h:Hn SI:=(.s .z (.s .z (.s (.s .z (.b (.lx ⟨[(13,(.v (.int .i64)))],[],[0,1,12],[],1576,[]⟩ 0 ⟨[],[],[],[],1576,[]⟩ .z))) .z)))
theorem sl_Equal_span_c (n:Nat):COk Tryz.prog 107 (sl_Equal_span_g n):=
 cq gam_nil Tryz.func107 sl_Equal_span_h n (by kernel_rfl) rfl fun _=>by kernel_rfl
def rg_write_g (n:Nat):Sig xx:=⟨[.d (.sl (.st SI.strip))],[.fresh (.st SI.Rect)],fun a=>rg_write n a.1,none⟩
def rg_write_h:Hn SI:=(.s .z (.s .z (.s (.s .z (.b (.l ⟨[(3,(.o 1192)),(4,(.v (.int .i64)))],[(1192,.l (.st SI.Rect))],[0],[],1193,[(3,(.st SI.Rect))]⟩ 0 ⟨[(3,(.o 1192))],[(1192,.l (.st SI.Rect))],[],[],1193,[]⟩ (.s .z (.b (.s .z (.s (.b (.l ⟨[(5,(.v (.int .i64)))],[],[0,3,4],[1192],1641,[]⟩ 2 ⟨[(5,(.v (.int .i64)))],[],[0,3,4],[1192],1641,[]⟩ (.s (.s (.j ⟨[(30,(.v .bool))],[],[0,3,4,5],[1192],1641,[]⟩ .z) .z) .z))) (.s (.s .z (.b (.l ⟨[(3,(.o 2089)),(39,(.v (.int .i64)))],[(2089,.l (.st SI.Rect))],[0,4,5,37,38],[],2090,[]⟩ 4 ⟨[(3,(.o 2089))],[(2089,.l (.st SI.Rect))],[0,5],[],2090,[]⟩ .z))) .z)))))))) .z)))
theorem rg_write_c (n:Nat):COk Tryz.prog 54 (rg_write_g n):=
 cq (gam_cons (sl_Equal_span_c n) gam_nil) Tryz.func54 rg_write_h n (by kernel_rfl) rfl fun _=>by kernel_rfl
def rg_limited_g:Sig xx:=⟨[.d (.sl (.st SI.Rect))],[.d (.sl (.st SI.Rect)),.d (.int .i64)],fun a=>rg_limited a.1,none⟩
def rg_limited_h:Hn SI:= .z
theorem rg_limited_c:COk Tryz.prog 53 rg_limited_g:=
 cq gam_nil Tryz.func53 rg_limited_h 0 (by kernel_rfl) rfl fun _=>by kernel_rfl
def rg_Of_g (n:Nat):Sig xx:=⟨[.d (.sl (.st SI.Rect))],[.d (.sl (.st SI.Rect)),.d (.int .i64)],fun a=>rg_Of n a.1,none⟩
def rg_Of_h:Hn SI:=(.s .z (.s (.s .z (.b (.lx ⟨[(8,(.v (.int .i64)))],[],[0,6,7],[],1320,[]⟩ 0 ⟨[],[],[0],[],1320,[]⟩ .z))) .z))
theorem rg_Of_c (n:Nat):COk Tryz.prog 21 (rg_Of_g n):=
 cq (gam_cons r_Right_c (gam_cons (rg_strips_c n) (gam_cons (rg_write_c n) (gam_cons rg_limited_c gam_nil)))) Tryz.func21 rg_Of_h n (by kernel_rfl) rfl fun _=>by kernel_rfl
def sl_Equal_Rect_g (n:Nat):Sig xx:=⟨[.d (.sl (.st SI.Rect)),.d (.sl (.st SI.Rect))],[.d .bool],fun a=>sl_Equal_Rect n a.1 a.2.1,none⟩
def sl_Equal_Rect_h:Hn SI:=(.s .z (.s .z (.s (.s .z (.b (.lx ⟨[(13,(.v (.int .i64)))],[],[0,1,12],[],1576,[]⟩ 0 ⟨[],[],[],[],1576,[]⟩ .z))) .z)))
theorem sl_Equal_Rect_c (n:Nat):COk Tryz.prog 49 (sl_Equal_Rect_g n):=
 cq gam_nil Tryz.func49 sl_Equal_Rect_h n (by kernel_rfl) rfl fun _=>by kernel_rfl
def rg_Right_g (n:Nat):Sig xx:=⟨[.d (.sl (.st SI.Rect))],[.d .bool],fun a=>rg_Right n a.1,none⟩
def rg_Right_h:Hn SI:= .z
theorem rg_Right_c (n:Nat):COk Tryz.prog 44 (rg_Right_g n):=
 cq (gam_cons (rg_Of_c n) (gam_cons (sl_Equal_Rect_c n) gam_nil)) Tryz.func44 rg_Right_h n (by kernel_rfl) rfl fun _=>by kernel_rfl
def sl_Clone_Rect_g:Sig xx:=⟨[.d (.sl (.st SI.Rect))],[.fresh (.st SI.Rect)],fun a=>sl_Clone_Rect a.1,none⟩
def sl_Clone_Rect_h:Hn SI:= .z
theorem sl_Clone_Rect_c:COk Tryz.prog 94 sl_Clone_Rect_g:=
 cq gam_nil Tryz.func94 sl_Clone_Rect_h 0 (by kernel_rfl) rfl fun _=>by kernel_rfl
def r_gaps_g:Sig xx:=⟨[.d (.st SI.Rect),.d (.st SI.Rect)],[.d (.int .i64),.d (.int .i64)],fun a=>r_gaps a.1 a.2.1,none⟩
def r_gaps_h:Hn SI:= .z
theorem r_gaps_c:COk Tryz.prog 98 r_gaps_g:=
 cq gam_nil Tryz.func98 r_gaps_h 0 (by kernel_rfl) rfl fun _=>by kernel_rfl
def r_Touch_g:Sig xx:=⟨[.d (.st SI.Rect),.d (.st SI.Rect)],[.d .bool],fun a=>r_Touch a.1 a.2.1,none⟩
def r_Touch_h:Hn SI:=(.s .z (.s (.s (.j ⟨[(14,(.v .bool))],[],[2,3],[1000,1064],1192,[]⟩ .z) .z) .z))
theorem r_Touch_c:COk Tryz.prog 148 r_Touch_g:=
 cq (gam_cons r_Right_c (gam_cons r_gaps_c gam_nil)) Tryz.func148 r_Touch_h 0 (by kernel_rfl) rfl fun _=>by kernel_rfl
def sl_IndexFunc_Rect_g (n:Nat):Sig xx:=⟨[.d (.sl (.st SI.Rect)),.clo [(.st SI.Rect)] .bool],[.d (.int .i64)],fun a=>sl_IndexFunc_Rect n a.1 a.2.1,none⟩
def sl_IndexFunc_Rect_h:Hn SI:=(.s .z (.s (.s .z (.b (.lx ⟨[(8,(.v (.int .i64)))],[],[0,1,7],[],1256,[]⟩ 0 ⟨[],[],[],[],1256,[]⟩ .z))) .z))
theorem sl_IndexFunc_Rect_c (n:Nat):COk Tryz.prog 131 (sl_IndexFunc_Rect_g n):=
 cq gam_nil Tryz.func131 sl_IndexFunc_Rect_h n (by kernel_rfl) rfl fun _=>by kernel_rfl
def rg_Parts_f1_v1_G:GSig xx:=⟨[(.v (.st SI.Rect)),(.p 0),(.p 1)],[(0,.c 1 [[(.o 2)]]),(1,.c 1 [[(.v (.int .i64))]]),(2,.l (.st SI.Rect))],[(.v .bool)],[(0,.c 1 [[(.o 1000)]]),(1,.c 1 [[(.v (.int .i64))]]),(1000,.l (.st SI.Rect))],fun v=>rg_Parts_f1_v1 v.1 v.2.1 v.2.2⟩
def rg_Parts_f1_v1_g:Sig xx:=⟨[],[.d .bool],fun _=>none,some (rg_Parts_f1_v1_G)⟩
def rg_Parts_f1_v1_h:Hn SI:= .z
theorem rg_Parts_f1_v1_c:COk Tryz.prog 147 rg_Parts_f1_v1_g:=
 cqG (gam_cons r_Touch_c gam_nil) Tryz.func147 rg_Parts_f1_v1_h 0 (by kernel_rfl) fun _=>by kernel_rfl
def sl_IndexFunc_Rect_v1_G (n:Nat):GSig xx:=⟨[(.v (.sl (.st SI.Rect))),(.f 147 [] [(.p 0),(.p 1)])],[(0,.c 1 [[(.o 2)]]),(1,.c 1 [[(.v (.int .i64))]]),(2,.l (.st SI.Rect))],[(.v (.int .i64))],[(0,.c 1 [[(.o 1000)]]),(1,.c 1 [[(.v (.int .i64))]]),(1000,.l (.st SI.Rect))],fun v=>sl_IndexFunc_Rect_v1 n v.1 v.2.1 v.2.2⟩
def sl_IndexFunc_Rect_v1_g (n:Nat):Sig xx:=⟨[],[.d .bool],fun _=>none,some (sl_IndexFunc_Rect_v1_G n)⟩
def sl_IndexFunc_Rect_v1_h:Hn SI:=(.s .z (.s (.s .z (.b (.lx ⟨[(8,(.v (.int .i64)))],[(0,.c 1 [[(.o 1256)]]),(1,.c 1 [[(.v (.int .i64))]]),(1256,.l (.st SI.Rect))],[0,1,7],[],1257,[]⟩ 0 ⟨[],[(0,.c 1 [[(.o 1256)]]),(1,.c 1 [[(.v (.int .i64))]]),(1256,.l (.st SI.Rect))],[],[],1257,[]⟩ .z))) .z))
theorem sl_IndexFunc_Rect_v1_c (n:Nat):COk Tryz.prog 131 (sl_IndexFunc_Rect_v1_g n):=
 cqG (gam_cons rg_Parts_f1_v1_c gam_nil) Tryz.func131 sl_IndexFunc_Rect_v1_h n (by kernel_rfl) fun _=>by kernel_rfl
def sl_DeleteFunc_Rect_v1_G (n:Nat):GSig xx:=⟨[(.od 0),(.f 147 [] [(.p 1),(.p 2)])],[(0,.l (.st SI.Rect)),(1,.c 1 [[(.o 3)]]),(2,.c 1 [[(.v (.int .i64))]]),(3,.l (.st SI.Rect))],[(.od 0)],[(0,.l (.st SI.Rect)),(1,.c 1 [[(.o 1000)]]),(2,.c 1 [[(.v (.int .i64))]]),(1000,.l (.st SI.Rect))],fun v=>sl_DeleteFunc_Rect_v1 n v.1 v.2.1 v.2.2.1 v.2.2.2⟩
def sl_DeleteFunc_Rect_v1_g (n:Nat):Sig xx:=⟨[],[.d .bool],fun _=>none,some (sl_DeleteFunc_Rect_v1_G n)⟩
def sl_DeleteFunc_Rect_v1_h:Hn SI:=(.s .z (.s .z (.s .z (.s (.s .z (.b (.l ⟨[(5,(.v (.int .i64))),(6,(.v (.int .i64)))],[(0,.l (.st SI.Rect)),(1,.c 1 [[(.o 1640)]]),(2,.c 1 [[(.v (.int .i64))]]),(1640,.l (.st SI.Rect))],[0,1],[],1641,[]⟩ 0 ⟨[(5,(.v (.int .i64)))],[(0,.l (.st SI.Rect)),(1,.c 1 [[(.o 1640)]]),(2,.c 1 [[(.v (.int .i64))]]),(1640,.l (.st SI.Rect))],[0],[],1641,[]⟩ (.s .z (.s (.j ⟨[(5,(.v (.int .i64)))],[(0,.l (.st SI.Rect)),(1,.c 1 [[(.o 1897)]]),(2,.c 1 [[(.v (.int .i64))]]),(1897,.l (.st SI.Rect))],[0,1,6],[],1898,[]⟩ .z) .z))))) .z))))
theorem sl_DeleteFunc_Rect_v1_c (n:Nat):COk Tryz.prog 146 (sl_DeleteFunc_Rect_v1_g n):=
 cqG (gam_cons (sl_IndexFunc_Rect_v1_c n) (gam_cons rg_Parts_f1_v1_c gam_nil)) Tryz.func146 sl_DeleteFunc_Rect_v1_h n (by kernel_rfl) fun _=>by kernel_rfl
def rg_Parts_g (n:Nat):Sig xx:=⟨[.d (.sl (.st SI.Rect))],[.fresh (.sl (.st SI.Rect))],fun a=>rg_Parts n a.1,none⟩
def rg_Parts_h:Hn SI:=(.s .z (.s .z (.s .z (.s .z (.s (.b (.l ⟨[(3,(.od 1320)),(4,(.o 1512))],[(1320,.l (.st SI.Rect)),(1512,.l (.sl (.st SI.Rect)))],[],[],1513,[(4,(.sl (.st SI.Rect)))]⟩ 0 ⟨[(4,(.o 1512))],[(1512,.l (.sl (.st SI.Rect)))],[],[],1513,[]⟩ (.s .z (.b (.s .z (.s .z (.s (.s .z (.b (.l ⟨[(3,(.od 1320)),(6,(.p 2409))],[(1320,.l (.st SI.Rect)),(1961,.c 1 [[(.o 2410)]]),(2409,.c 1 [[(.v (.int .i64))]]),(2410,.l (.st SI.Rect))],[4,5],[1512],2411,[]⟩ 2 ⟨[(3,(.od 1320))],[(1320,.l (.st SI.Rect)),(1961,.c 1 [[(.o 2409)]]),(2409,.l (.st SI.Rect))],[4,5],[1512],2410,[]⟩ .z))) .z))))))) .z)))))
theorem rg_Parts_c (n:Nat):COk Tryz.prog 102 (rg_Parts_g n):=
 cq (gam_cons (rg_Right_c n) (gam_cons sl_Clone_Rect_c (gam_cons (sl_DeleteFunc_Rect_v1_c n) (gam_cons (rg_strips_c n) (gam_cons (rg_write_c n) gam_nil))))) Tryz.func102 rg_Parts_h n (by kernel_rfl) rfl fun _=>by kernel_rfl
def pc_valid_g (n:Nat):Sig xx:=⟨[.d (.st SI.Lot)],[.d .bool],fun a=>pc_valid n a.1,none⟩
def pc_valid_h:Hn SI:= .z
theorem pc_valid_c (n:Nat):COk Tryz.prog 46 (pc_valid_g n):=
 cq (gam_cons pc_number_c (gam_cons pc_owner_c (gam_cons (pc_ascending_c n) (gam_cons (sl_ContainsFunc_int_c n) (gam_cons pc_valid_f1_c (gam_cons (rg_Parts_c n) gam_nil)))))) Tryz.func46 pc_valid_h n (by kernel_rfl) rfl fun _=>by kernel_rfl
def pc_meet_f1_f1_g:Sig xx:=⟨[.d (.st SI.Rect),.ref (.st SI.Rect)],[.d .bool],fun a=>pc_meet_f1_f1 a.1 a.2.1,none⟩
def pc_meet_f1_f1_h:Hn SI:= .z
theorem pc_meet_f1_f1_c:COk Tryz.prog 104 pc_meet_f1_f1_g:=
 cq gam_nil Tryz.func104 pc_meet_f1_f1_h 0 (by kernel_rfl) rfl fun _=>by kernel_rfl
def sl_ContainsFunc_Rect_g (n:Nat):Sig xx:=⟨[.d (.sl (.st SI.Rect)),.clo [(.st SI.Rect)] .bool],[.d .bool],fun a=>sl_ContainsFunc_Rect n a.1 a.2.1,none⟩
def sl_ContainsFunc_Rect_h:Hn SI:= .z
theorem sl_ContainsFunc_Rect_c (n:Nat):COk Tryz.prog 86 (sl_ContainsFunc_Rect_g n):=
 cq (gam_cons (sl_IndexFunc_Rect_c n) gam_nil) Tryz.func86 sl_ContainsFunc_Rect_h n (by kernel_rfl) rfl fun _=>by kernel_rfl
def pc_meet_f1_g (n:Nat):Sig xx:=⟨[.d (.st SI.Rect),.ref (.sl (.st SI.Rect))],[.d .bool],fun a=>pc_meet_f1 n a.1 a.2.1,none⟩
def pc_meet_f1_h:Hn SI:= .z
theorem pc_meet_f1_c (n:Nat):COk Tryz.prog 103 (pc_meet_f1_g n):=
 cq (gam_cons (sl_ContainsFunc_Rect_c n) (gam_cons pc_meet_f1_f1_c gam_nil)) Tryz.func103 pc_meet_f1_h n (by kernel_rfl) rfl fun _=>by kernel_rfl
def pc_meet_g (n:Nat):Sig xx:=⟨[.d (.sl (.st SI.Rect)),.d (.sl (.st SI.Rect))],[.d .bool],fun a=>pc_meet n a.1 a.2.1,none⟩
def pc_meet_h:Hn SI:= .z
theorem pc_meet_c (n:Nat):COk Tryz.prog 47 (pc_meet_g n):=
 cq (gam_cons (sl_ContainsFunc_Rect_c n) (gam_cons (pc_meet_f1_c n) gam_nil)) Tryz.func47 pc_meet_h n (by kernel_rfl) rfl fun _=>by kernel_rfl
def pc_Right_g (n:Nat):Sig xx:=⟨[.d (.sl (.st SI.Lot))],[.d .bool],fun a=>pc_Right n a.1,none⟩
def pc_Right_h:Hn SI:=(.s .z (.s .z (.s .z (.s (.s .z (.b (.lx ⟨[(19,(.v (.int .i64)))],[(1256,.m (.int .i64) .bool),(1320,.m (.int .i64) .bool)],[0,3,4,17,18],[],1704,[]⟩ 0 ⟨[],[(1256,.m (.int .i64) .bool),(1320,.m (.int .i64) .bool)],[0,3,4],[],1704,[]⟩ (.s .z (.s .z (.s (.b (.s .z (.s (.s (.j ⟨[(41,(.v .bool))],[],[0,3,4,6,17,18,19],[1256,1320,1960],2152,[]⟩ .z) .z) (.s .z (.s .z (.b (.l ⟨[(48,(.v (.int .i64)))],[(1320,.m (.int .i64) .bool)],[0,3,4,17,18,19,46,47],[1256],2664,[]⟩ 2 ⟨[],[(1320,.m (.int .i64) .bool)],[0,3,4,17,18,19],[1256],2664,[]⟩ .z))))))) .z)))))) (.s (.rg ⟨[],[],[0,3,57],[1256],1704,[]⟩ .z) (.s (.s .z (.b (.lx ⟨[(67,(.v (.int .i64)))],[],[0,66],[],1896,[]⟩ 6 ⟨[],[],[],[],1896,[]⟩ (.s .z (.s .z (.s (.b (.s .z (.s .z (.b (.lx ⟨[(71,(.v (.int .i64)))],[],[0,10,66,67,70],[],2216,[]⟩ 8 ⟨[],[],[0,66,67],[],2216,[]⟩ .z))))) .z)))))) .z))))))
theorem pc_Right_c (n:Nat):COk Tryz.prog 15 (pc_Right_g n):=
 cq (gam_cons (pc_valid_c n) (gam_cons (pc_meet_c n) gam_nil)) Tryz.func15 pc_Right_h n (by kernel_rfl) rfl fun _=>by kernel_rfl
def sl_Index_int_g (n:Nat):Sig xx:=⟨[.d (.sl (.int .i64)),.d (.int .i64)],[.d (.int .i64)],fun a=>sl_Index_int n a.1 a.2.1,none⟩
def sl_Index_int_h:Hn SI:=(.s .z (.s (.s .z (.b (.lx ⟨[(8,(.v (.int .i64)))],[],[0,1,7],[],1256,[]⟩ 0 ⟨[],[],[],[],1256,[]⟩ .z))) .z))
theorem sl_Index_int_c (n:Nat):COk Tryz.prog 156 (sl_Index_int_g n):=
 cq gam_nil Tryz.func156 sl_Index_int_h n (by kernel_rfl) rfl fun _=>by kernel_rfl
def sl_Contains_int_g (n:Nat):Sig xx:=⟨[.d (.sl (.int .i64)),.d (.int .i64)],[.d .bool],fun a=>sl_Contains_int n a.1 a.2.1,none⟩
def sl_Contains_int_h:Hn SI:= .z
theorem sl_Contains_int_c (n:Nat):COk Tryz.prog 111 (sl_Contains_int_g n):=
 cq (gam_cons (sl_Index_int_c n) gam_nil) Tryz.func111 sl_Contains_int_h n (by kernel_rfl) rfl fun _=>by kernel_rfl
def pc_taken_f1_g (n:Nat):Sig xx:=⟨[.d (.st SI.Lot),.ref (.int .i64)],[.d .bool],fun a=>pc_taken_f1 n a.1 a.2.1,none⟩
def pc_taken_f1_h:Hn SI:= .z
theorem pc_taken_f1_c (n:Nat):COk Tryz.prog 110 (pc_taken_f1_g n):=
 cq (gam_cons (sl_Contains_int_c n) gam_nil) Tryz.func110 pc_taken_f1_h n (by kernel_rfl) rfl fun _=>by kernel_rfl
def sl_IndexFunc_Lot_g (n:Nat):Sig xx:=⟨[.d (.sl (.st SI.Lot)),.clo [(.st SI.Lot)] .bool],[.d (.int .i64)],fun a=>sl_IndexFunc_Lot n a.1 a.2.1,none⟩
def sl_IndexFunc_Lot_h:Hn SI:=(.s .z (.s (.s .z (.b (.lx ⟨[(8,(.v (.int .i64)))],[],[0,1,7],[],1256,[]⟩ 0 ⟨[],[],[],[],1256,[]⟩ .z))) .z))
theorem sl_IndexFunc_Lot_c (n:Nat):COk Tryz.prog 118 (sl_IndexFunc_Lot_g n):=
 cq gam_nil Tryz.func118 sl_IndexFunc_Lot_h n (by kernel_rfl) rfl fun _=>by kernel_rfl
def sl_ContainsFunc_Lot_g (n:Nat):Sig xx:=⟨[.d (.sl (.st SI.Lot)),.clo [(.st SI.Lot)] .bool],[.d .bool],fun a=>sl_ContainsFunc_Lot n a.1 a.2.1,none⟩
def sl_ContainsFunc_Lot_h:Hn SI:= .z
theorem sl_ContainsFunc_Lot_c (n:Nat):COk Tryz.prog 66 (sl_ContainsFunc_Lot_g n):=
 cq (gam_cons (sl_IndexFunc_Lot_c n) gam_nil) Tryz.func66 sl_ContainsFunc_Lot_h n (by kernel_rfl) rfl fun _=>by kernel_rfl
def pc_taken_g (n:Nat):Sig xx:=⟨[.d (.sl (.st SI.Lot)),.d (.int .i64)],[.d .bool],fun a=>pc_taken n a.1 a.2.1,none⟩
def pc_taken_h:Hn SI:= .z
theorem pc_taken_c (n:Nat):COk Tryz.prog 57 (pc_taken_g n):=
 cq (gam_cons (sl_ContainsFunc_Lot_c n) (gam_cons (pc_taken_f1_c n) gam_nil)) Tryz.func57 pc_taken_h n (by kernel_rfl) rfl fun _=>by kernel_rfl
def pc_Add_f1_g (n:Nat):Sig xx:=⟨[.d (.st SI.Lot),.ref (.st SI.Lot)],[.d .bool],fun a=>pc_Add_f1 n a.1 a.2.1,none⟩
def pc_Add_f1_h:Hn SI:= .z
theorem pc_Add_f1_c (n:Nat):COk Tryz.prog 93 (pc_Add_f1_g n):=
 cq (gam_cons (pc_meet_c n) gam_nil) Tryz.func93 pc_Add_f1_h n (by kernel_rfl) rfl fun _=>by kernel_rfl
def sl_Clone_int_g:Sig xx:=⟨[.d (.sl (.int .i64))],[.fresh (.int .i64)],fun a=>sl_Clone_int a.1,none⟩
def sl_Clone_int_h:Hn SI:= .z
theorem sl_Clone_int_c:COk Tryz.prog 95 sl_Clone_int_g:=
 cq gam_nil Tryz.func95 sl_Clone_int_h 0 (by kernel_rfl) rfl fun _=>by kernel_rfl
def pc_clone_g:Sig xx:=⟨[.d (.st SI.Lot)],[.d (.st SI.Lot)],fun a=>pc_clone a.1,none⟩
def pc_clone_h:Hn SI:= .z
theorem pc_clone_c:COk Tryz.prog 41 pc_clone_g:=
 cq (gam_cons sl_Clone_Rect_c (gam_cons sl_Clone_int_c gam_nil)) Tryz.func41 pc_clone_h 0 (by kernel_rfl) rfl fun _=>by kernel_rfl
def sl_insertionSortCmpFunc_Lot_g (n:Nat):Sig xx:=⟨[.mut (.st SI.Lot),.d (.int .i64),.d (.int .i64),.clo [(.st SI.Lot),(.st SI.Lot)] (.int .i64)],[.mu (.st SI.Lot)],fun a=>sl_insertionSortCmpFunc_Lot n a.1 a.2.1 a.2.2.1 a.2.2.2.1,none⟩
def sl_insertionSortCmpFunc_Lot_h:Hn SI:=(.s .z (.b (.l ⟨[(8,(.v (.int .i64)))],[(0,.l (.st SI.Lot))],[0,1,2,3],[],1192,[]⟩ 0 ⟨[],[(0,.l (.st SI.Lot))],[],[],1192,[]⟩ (.s .z (.s (.b (.s .z (.b (.l ⟨[(9,(.v (.int .i64)))],[(0,.l (.st SI.Lot))],[0,1,2,3,8],[],1512,[]⟩ 2 ⟨[],[(0,.l (.st SI.Lot))],[0,1,2,3,8],[],1512,[]⟩ (.s (.s (.j ⟨[(34,(.v .bool))],[],[0,1,2,3,8,9],[0],1512,[]⟩ .z) .z) .z))))) .z)))))
theorem sl_insertionSortCmpFunc_Lot_c (n:Nat):COk Tryz.prog 178 (sl_insertionSortCmpFunc_Lot_g n):=
 cq gam_nil Tryz.func178 sl_insertionSortCmpFunc_Lot_h n (by kernel_rfl) rfl fun _=>by kernel_rfl
def sl_siftDownCmpFunc_Lot_g (n:Nat):Sig xx:=⟨[.mut (.st SI.Lot),.d (.int .i64),.d (.int .i64),.d (.int .i64),.clo [(.st SI.Lot),(.st SI.Lot)] (.int .i64)],[.mu (.st SI.Lot)],fun a=>sl_siftDownCmpFunc_Lot n a.1 a.2.1 a.2.2.1 a.2.2.2.1 a.2.2.2.2.1,none⟩
def sl_siftDownCmpFunc_Lot_h:Hn SI:=(.s .z (.b (.lx ⟨[(10,(.v (.int .i64)))],[(0,.l (.st SI.Lot))],[0,2,3,4],[],1128,[]⟩ 0 ⟨[],[(0,.l (.st SI.Lot))],[],[],1128,[]⟩ (.b (.s .z (.s .z (.s (.j ⟨[(11,(.v (.int .i64)))],[],[0,2,3,4,10],[0],1576,[]⟩ (.s (.j ⟨[(40,(.v .bool))],[],[0,2,3,4,10,11],[0],1576,[]⟩ .z) .z)) .z)))))))
theorem sl_siftDownCmpFunc_Lot_c (n:Nat):COk Tryz.prog 198 (sl_siftDownCmpFunc_Lot_g n):=
 cq gam_nil Tryz.func198 sl_siftDownCmpFunc_Lot_h n (by kernel_rfl) rfl fun _=>by kernel_rfl
def sl_heapSortCmpFunc_Lot_g (n:Nat):Sig xx:=⟨[.mut (.st SI.Lot),.d (.int .i64),.d (.int .i64),.clo [(.st SI.Lot),(.st SI.Lot)] (.int .i64)],[.mu (.st SI.Lot)],fun a=>sl_heapSortCmpFunc_Lot n a.1 a.2.1 a.2.2.1 a.2.2.2.1,none⟩
def sl_heapSortCmpFunc_Lot_h:Hn SI:=(.s .z (.s .z (.s .z (.s (.s .z (.b (.l ⟨[(11,(.v (.int .i64)))],[(0,.l (.st SI.Lot))],[0,3,8,9,10],[],1704,[]⟩ 0 ⟨[],[(0,.l (.st SI.Lot))],[0,3,8,9,10],[],1704,[]⟩ .z))) (.s .z (.b (.l ⟨[(12,(.v (.int .i64)))],[(0,.l (.st SI.Lot))],[0,3,8,9],[],1896,[]⟩ 2 ⟨[],[(0,.l (.st SI.Lot))],[],[],1896,[]⟩ .z)))))))
theorem sl_heapSortCmpFunc_Lot_c (n:Nat):COk Tryz.prog 179 (sl_heapSortCmpFunc_Lot_g n):=
 cq (gam_cons (sl_siftDownCmpFunc_Lot_c n) gam_nil) Tryz.func179 sl_heapSortCmpFunc_Lot_h n (by kernel_rfl) rfl fun _=>by kernel_rfl
def sl_breakPatternsCmpFunc_Lot_g (n:Nat):Sig xx:=⟨[.mut (.st SI.Lot),.d (.int .i64),.d (.int .i64),.clo [(.st SI.Lot),(.st SI.Lot)] (.int .i64)],[.mu (.st SI.Lot)],fun a=>sl_breakPatternsCmpFunc_Lot n a.1 a.2.1 a.2.2.1 a.2.2.2.1,none⟩
def sl_breakPatternsCmpFunc_Lot_h:Hn SI:=(.s .z (.s .z (.s (.s .z (.s .z (.s .z (.b (.l ⟨[(11,(.v (.int .i64)))],[(0,.l (.st SI.Lot)),(1512,.c 1 [[(.v (.int .u64))]])],[0,1,8,9,10],[],2280,[]⟩ 0 ⟨[],[(0,.l (.st SI.Lot))],[],[],2280,[]⟩ (.s .z (.s (.b (.s .z (.s (.j ⟨[(12,(.v (.int .i64)))],[],[0,1,8,9,10,11],[0,1512],3176,[]⟩ .z) .z))) .z))))))) .z)))
theorem sl_breakPatternsCmpFunc_Lot_c (n:Nat):COk Tryz.prog 180 (sl_breakPatternsCmpFunc_Lot_g n):=
 cq (gam_cons sl_nextPowerOfTwo_c (gam_cons sl_xorshift_Next_c gam_nil)) Tryz.func180 sl_breakPatternsCmpFunc_Lot_h n (by kernel_rfl) rfl fun _=>by kernel_rfl
def sl_order2CmpFunc_Lot_g:Sig xx:=⟨[.d (.sl (.st SI.Lot)),.d (.int .i64),.d (.int .i64),.mref (.int .i64),.clo [(.st SI.Lot),(.st SI.Lot)] (.int .i64)],[.d (.int .i64),.d (.int .i64),.mr (.int .i64)],fun a=>sl_order2CmpFunc_Lot a.1 a.2.1 a.2.2.1 a.2.2.2.1 a.2.2.2.2.1,none⟩
def sl_order2CmpFunc_Lot_h:Hn SI:= .z
theorem sl_order2CmpFunc_Lot_c:COk Tryz.prog 212 sl_order2CmpFunc_Lot_g:=
 cq gam_nil Tryz.func212 sl_order2CmpFunc_Lot_h 0 (by kernel_rfl) rfl fun _=>by kernel_rfl
def sl_medianCmpFunc_Lot_g:Sig xx:=⟨[.d (.sl (.st SI.Lot)),.d (.int .i64),.d (.int .i64),.d (.int .i64),.mref (.int .i64),.clo [(.st SI.Lot),(.st SI.Lot)] (.int .i64)],[.d (.int .i64),.mr (.int .i64)],fun a=>sl_medianCmpFunc_Lot a.1 a.2.1 a.2.2.1 a.2.2.2.1 a.2.2.2.2.1 a.2.2.2.2.2.1,none⟩
def sl_medianCmpFunc_Lot_h:Hn SI:= .z
theorem sl_medianCmpFunc_Lot_c:COk Tryz.prog 200 sl_medianCmpFunc_Lot_g:=
 cq (gam_cons sl_order2CmpFunc_Lot_c gam_nil) Tryz.func200 sl_medianCmpFunc_Lot_h 0 (by kernel_rfl) rfl fun _=>by kernel_rfl
def sl_medianAdjacentCmpFunc_Lot_g:Sig xx:=⟨[.d (.sl (.st SI.Lot)),.d (.int .i64),.mref (.int .i64),.clo [(.st SI.Lot),(.st SI.Lot)] (.int .i64)],[.d (.int .i64),.mr (.int .i64)],fun a=>sl_medianAdjacentCmpFunc_Lot a.1 a.2.1 a.2.2.1 a.2.2.2.1,none⟩
def sl_medianAdjacentCmpFunc_Lot_h:Hn SI:= .z
theorem sl_medianAdjacentCmpFunc_Lot_c:COk Tryz.prog 199 sl_medianAdjacentCmpFunc_Lot_g:=
 cq (gam_cons sl_medianCmpFunc_Lot_c gam_nil) Tryz.func199 sl_medianAdjacentCmpFunc_Lot_h 0 (by kernel_rfl) rfl fun _=>by kernel_rfl
def sl_choosePivotCmpFunc_Lot_g:Sig xx:=⟨[.d (.sl (.st SI.Lot)),.d (.int .i64),.d (.int .i64),.clo [(.st SI.Lot),(.st SI.Lot)] (.int .i64)],[.d (.int .i64),.d (.int .i64)],fun a=>sl_choosePivotCmpFunc_Lot a.1 a.2.1 a.2.2.1 a.2.2.2.1,none⟩
def sl_choosePivotCmpFunc_Lot_h:Hn SI:=(.s .z (.s .z (.s .z (.s .z (.s .z (.s .z (.s (.j ⟨[(13,(.v (.int .i64)))],[(1384,.c 1 [[(.v (.int .i64))]])],[11],[],2600,[]⟩ (.s .z (.s (.s (.j ⟨[(12,(.v (.int .i64))),(13,(.v (.int .i64))),(14,(.v (.int .i64)))],[(1384,.c 1 [[(.v (.int .i64))]])],[0,3,11],[],2728,[]⟩ .z) .z) .z))) .z)))))))
theorem sl_choosePivotCmpFunc_Lot_c:COk Tryz.prog 181 sl_choosePivotCmpFunc_Lot_g:=
 cq (gam_cons sl_medianAdjacentCmpFunc_Lot_c (gam_cons sl_medianCmpFunc_Lot_c gam_nil)) Tryz.func181 sl_choosePivotCmpFunc_Lot_h 0 (by kernel_rfl) rfl fun _=>by kernel_rfl
def sl_reverseRangeCmpFunc_Lot_g (n:Nat):Sig xx:=⟨[.mut (.st SI.Lot),.d (.int .i64),.d (.int .i64),.clo [(.st SI.Lot),(.st SI.Lot)] (.int .i64)],[.mu (.st SI.Lot)],fun a=>sl_reverseRangeCmpFunc_Lot n a.1 a.2.1 a.2.2.1 a.2.2.2.1,none⟩
def sl_reverseRangeCmpFunc_Lot_h:Hn SI:=(.s .z (.s .z (.b (.l ⟨[(8,(.v (.int .i64))),(9,(.v (.int .i64)))],[(0,.l (.st SI.Lot))],[0],[],1320,[]⟩ 0 ⟨[],[(0,.l (.st SI.Lot))],[],[],1320,[]⟩ .z))))
theorem sl_reverseRangeCmpFunc_Lot_c (n:Nat):COk Tryz.prog 182 (sl_reverseRangeCmpFunc_Lot_g n):=
 cq gam_nil Tryz.func182 sl_reverseRangeCmpFunc_Lot_h n (by kernel_rfl) rfl fun _=>by kernel_rfl
def sl_partialInsertionSortCmpFunc_Lot_g (n:Nat):Sig xx:=⟨[.mut (.st SI.Lot),.d (.int .i64),.d (.int .i64),.clo [(.st SI.Lot),(.st SI.Lot)] (.int .i64)],[.d .bool,.mu (.st SI.Lot)],fun a=>sl_partialInsertionSortCmpFunc_Lot n a.1 a.2.1 a.2.2.1 a.2.2.2.1,none⟩
def sl_partialInsertionSortCmpFunc_Lot_h:Hn SI:=(.s .z (.s .z (.s (.s .z (.b (.lx ⟨[(9,(.v (.int .i64))),(10,(.v (.int .i64)))],[(0,.l (.st SI.Lot))],[0,1,2,3],[],1320,[]⟩ 0 ⟨[],[(0,.l (.st SI.Lot))],[],[],1320,[]⟩ (.s .z (.s (.jx ⟨[(9,(.v (.int .i64)))],[(0,.l (.st SI.Lot))],[0,1,2,3,10],[],1448,[]⟩ (.b (.s (.b (.l ⟨[(9,(.v (.int .i64)))],[],[0,1,2,3,10],[0],1448,[]⟩ 2 ⟨[(9,(.v (.int .i64)))],[],[0,1,2,3,10],[0],1448,[]⟩ (.s (.s (.j ⟨[(36,(.v .bool))],[],[0,1,2,3,9,10],[0],1448,[]⟩ .z) .z) .z))) (.s .z (.s .z (.s .z (.s (.j ⟨[],[(0,.l (.st SI.Lot))],[0,1,2,3,9,10],[],3048,[]⟩ (.s .z (.s (.s .z (.b (.l ⟨[(11,(.v (.int .i64)))],[(0,.l (.st SI.Lot))],[0,1,2,3,9,10],[],3496,[]⟩ 4 ⟨[],[(0,.l (.st SI.Lot))],[0,1,2,3,9,10],[],3496,[]⟩ .z))) .z))) (.s .z (.s (.s .z (.b (.l ⟨[(12,(.v (.int .i64)))],[(0,.l (.st SI.Lot))],[0,1,2,3,9,10],[],3496,[]⟩ 6 ⟨[],[(0,.l (.st SI.Lot))],[0,1,2,3,9,10],[],3496,[]⟩ .z))) .z))))))))) .z))))) .z)))
theorem sl_partialInsertionSortCmpFunc_Lot_c (n:Nat):COk Tryz.prog 183 (sl_partialInsertionSortCmpFunc_Lot_g n):=
 cq gam_nil Tryz.func183 sl_partialInsertionSortCmpFunc_Lot_h n (by kernel_rfl) rfl fun _=>by kernel_rfl
def sl_partitionEqualCmpFunc_Lot_g (n:Nat):Sig xx:=⟨[.mut (.st SI.Lot),.d (.int .i64),.d (.int .i64),.d (.int .i64),.clo [(.st SI.Lot),(.st SI.Lot)] (.int .i64)],[.d (.int .i64),.mu (.st SI.Lot)],fun a=>sl_partitionEqualCmpFunc_Lot n a.1 a.2.1 a.2.2.1 a.2.2.2.1 a.2.2.2.2.1,none⟩
def sl_partitionEqualCmpFunc_Lot_h:Hn SI:=(.s .z (.s .z (.s .z (.s (.b (.l ⟨[(11,(.v (.int .i64))),(12,(.v (.int .i64)))],[(0,.l (.st SI.Lot))],[0,1,4],[],2472,[]⟩ 0 ⟨[(11,(.v (.int .i64)))],[(0,.l (.st SI.Lot))],[],[],2472,[]⟩ (.b (.s (.b (.l ⟨[(11,(.v (.int .i64)))],[],[0,1,4,12],[0],2472,[]⟩ 2 ⟨[(11,(.v (.int .i64)))],[],[0,1,4,12],[0],2472,[]⟩ (.s (.s (.j ⟨[(47,(.v .bool))],[],[0,1,4,11,12],[0],2472,[]⟩ .z) .z) .z))) (.s (.b (.l ⟨[(12,(.v (.int .i64)))],[],[0,1,4,11],[0],2472,[]⟩ 4 ⟨[(12,(.v (.int .i64)))],[],[0,1,4,11],[0],2472,[]⟩ (.s (.s (.j ⟨[(65,(.v .bool))],[],[0,1,4,11,12],[0],2472,[]⟩ .z) .z) .z))) .z))))) .z))))
theorem sl_partitionEqualCmpFunc_Lot_c (n:Nat):COk Tryz.prog 184 (sl_partitionEqualCmpFunc_Lot_g n):=
 cq gam_nil Tryz.func184 sl_partitionEqualCmpFunc_Lot_h n (by kernel_rfl) rfl fun _=>by kernel_rfl
def sl_partitionCmpFunc_Lot_g (n:Nat):Sig xx:=⟨[.mut (.st SI.Lot),.d (.int .i64),.d (.int .i64),.d (.int .i64),.clo [(.st SI.Lot),(.st SI.Lot)] (.int .i64)],[.d (.int .i64),.d .bool,.mu (.st SI.Lot)],fun a=>sl_partitionCmpFunc_Lot n a.1 a.2.1 a.2.2.1 a.2.2.2.1 a.2.2.2.2.1,none⟩
def sl_partitionCmpFunc_Lot_h:Hn SI:=(.s .z (.s .z (.s .z (.s (.b (.l ⟨[(12,(.v (.int .i64)))],[],[0,1,4,13],[0],2536,[]⟩ 0 ⟨[(12,(.v (.int .i64)))],[],[0,1,4,13],[0],2536,[]⟩ (.s (.s (.j ⟨[(47,(.v .bool))],[],[0,1,4,12,13],[0],2536,[]⟩ .z) .z) .z))) (.s (.b (.l ⟨[(13,(.v (.int .i64)))],[],[0,1,4,12],[0],2536,[]⟩ 2 ⟨[(13,(.v (.int .i64)))],[],[0,1,4,12],[0],2536,[]⟩ (.s (.s (.j ⟨[(66,(.v .bool))],[],[0,1,4,12,13],[0],2536,[]⟩ .z) .z) .z))) (.s .z (.s .z (.s .z (.s .z (.s (.b (.l ⟨[(12,(.v (.int .i64))),(13,(.v (.int .i64)))],[(0,.l (.st SI.Lot))],[0,1,4],[],4136,[]⟩ 4 ⟨[(13,(.v (.int .i64)))],[(0,.l (.st SI.Lot))],[0,1],[],4136,[]⟩ (.b (.s (.b (.l ⟨[(12,(.v (.int .i64)))],[],[0,1,4,13],[0],4136,[]⟩ 6 ⟨[(12,(.v (.int .i64)))],[],[0,1,4,13],[0],4136,[]⟩ (.s (.s (.j ⟨[(120,(.v .bool))],[],[0,1,4,12,13],[0],4136,[]⟩ .z) .z) .z))) (.s (.b (.l ⟨[(13,(.v (.int .i64)))],[],[0,1,4,12],[0],4136,[]⟩ 8 ⟨[(13,(.v (.int .i64)))],[],[0,1,4,12],[0],4136,[]⟩ (.s (.s (.j ⟨[(139,(.v .bool))],[],[0,1,4,12,13],[0],4136,[]⟩ .z) .z) .z))) .z))))) .z))))))))))
theorem sl_partitionCmpFunc_Lot_c (n:Nat):COk Tryz.prog 185 (sl_partitionCmpFunc_Lot_g n):=
 cq gam_nil Tryz.func185 sl_partitionCmpFunc_Lot_h n (by kernel_rfl) rfl fun _=>by kernel_rfl
def sl_pdqsortCmpFunc_Lot_h:Hn SI:=(.s .z (.s .z (.b (.lx ⟨[(1,(.v (.int .i64))),(2,(.v (.int .i64))),(3,(.v (.int .i64))),(10,(.v .bool)),(11,(.v .bool))],[(0,.l (.st SI.Lot))],[0,4],[],1128,[]⟩ 999999 ⟨[],[],[],[],1128,[]⟩ (.b (.s .z (.s .z (.s .z (.s (.j ⟨[(3,(.v (.int .i64)))],[(0,.l (.st SI.Lot))],[0,1,2,4,10,11,12],[],1640,[]⟩ .z) (.s .z (.s (.j ⟨[(13,(.v (.int .i64))),(14,(.v (.int .i64)))],[(0,.l (.st SI.Lot))],[0,1,2,3,4,10,11,12],[],2280,[]⟩ .z) (.s (.jx ⟨[],[(0,.l (.st SI.Lot))],[0,1,2,3,4,10,11,12,13],[],2280,[]⟩ (.s (.j ⟨[(75,(.v .bool))],[],[0,1,2,3,4,10,11,12,13],[0],2280,[]⟩ .z) .z)) (.s (.s (.j ⟨[(97,(.v .bool))],[],[0,1,2,3,4,10,11,12,13],[0],2280,[]⟩ .z) .z) .z)))))))))))))
theorem sl_pdqsortCmpFunc_Lot_bc (n:Nat) (rc:((List GLot))→(Int)→(Int)→(Int)→((GLot×GLot×Unit)→Option Int)→Option (List GLot)) (hr:COk Tryz.prog 157 (sl_pdqsortCmpFunc_Lot_rg rc)):COk Tryz.prog 157 (sl_pdqsortCmpFunc_Lot_rg (sl_pdqsortCmpFunc_Lot_b n rc)):=
 cq (gam_cons (sl_insertionSortCmpFunc_Lot_c n) (gam_cons (sl_heapSortCmpFunc_Lot_c n) (gam_cons (sl_breakPatternsCmpFunc_Lot_c n) (gam_cons sl_choosePivotCmpFunc_Lot_c (gam_cons (sl_reverseRangeCmpFunc_Lot_c n) (gam_cons (sl_partialInsertionSortCmpFunc_Lot_c n) (gam_cons (sl_partitionEqualCmpFunc_Lot_c n) (gam_cons (sl_partitionCmpFunc_Lot_c n) (gam_cons hr gam_nil))))))))) Tryz.func157 sl_pdqsortCmpFunc_Lot_h n (by kernel_rfl) rfl fun _=>by kernel_rfl
theorem sl_pdqsortCmpFunc_Lot_mc (n:Nat):∀ m,COk Tryz.prog 157 (sl_pdqsortCmpFunc_Lot_rg (sl_pdqsortCmpFunc_Lot_m n m))
 | 0=>cok (callable_of Tryz.func157 (by kernel_rfl:Tryz.f157.body=some (Tryz.f157.body.getD .skip)) (by kernel_rfl)) (fun _ _ h=>(by cases h)) rfl
 |m+1=>sl_pdqsortCmpFunc_Lot_bc n _ (sl_pdqsortCmpFunc_Lot_mc n m)
def sl_pdqsortCmpFunc_Lot_g (n:Nat):Sig xx:=⟨[.mut (.st SI.Lot),.d (.int .i64),.d (.int .i64),.d (.int .i64),.clo [(.st SI.Lot),(.st SI.Lot)] (.int .i64)],[.mu (.st SI.Lot)],fun a=>sl_pdqsortCmpFunc_Lot n a.1 a.2.1 a.2.2.1 a.2.2.2.1 a.2.2.2.2.1,none⟩
theorem sl_pdqsortCmpFunc_Lot_c (n:Nat):COk Tryz.prog 157 (sl_pdqsortCmpFunc_Lot_g n):=sl_pdqsortCmpFunc_Lot_mc n n
def sl_SortFunc_Lot_g (n:Nat):Sig xx:=⟨[.mut (.st SI.Lot),.clo [(.st SI.Lot),(.st SI.Lot)] (.int .i64)],[.mu (.st SI.Lot)],fun a=>sl_SortFunc_Lot n a.1 a.2.1,none⟩
def sl_SortFunc_Lot_h:Hn SI:= .z
theorem sl_SortFunc_Lot_c (n:Nat):COk Tryz.prog 113 (sl_SortFunc_Lot_g n):=
 cq (gam_cons bits_Len_c (gam_cons (sl_pdqsortCmpFunc_Lot_c n) gam_nil)) Tryz.func113 sl_SortFunc_Lot_h n (by kernel_rfl) rfl fun _=>by kernel_rfl
def pc_replace_f1_g:Sig xx:=⟨[.d (.st SI.Lot),.d (.st SI.Lot)],[.d (.int .i64)],fun a=>pc_replace_f1 a.1 a.2.1,none⟩
def pc_replace_f1_h:Hn SI:= .z
theorem pc_replace_f1_c:COk Tryz.prog 114 pc_replace_f1_g:=
 cq (gam_cons cmp_Compare_int_c gam_nil) Tryz.func114 pc_replace_f1_h 0 (by kernel_rfl) rfl fun _=>by kernel_rfl
def pc_replace_g (n:Nat):Sig xx:=⟨[.d (.sl (.st SI.Lot)),.d (.sl (.int .i64)),.d (.sl (.st SI.Lot))],[.fresh (.st SI.Lot),.d (.int .i64)],fun a=>pc_replace n a.1 a.2.1 a.2.2.1,none⟩
def pc_replace_h:Hn SI:=(.s .z (.s .z (.s (.s .z (.b (.l ⟨[(8,(.o 1384)),(15,(.v (.int .i64)))],[(1384,.l (.st SI.Lot))],[1,2,13,14],[],1385,[(8,(.st SI.Lot))]⟩ 0 ⟨[(8,(.o 1384))],[(1384,.l (.st SI.Lot))],[2],[],1385,[]⟩ (.s .z (.s .z (.s (.j ⟨[(8,(.o 1449))],[(1449,.l (.st SI.Lot))],[1,2,13,14,15],[],1450,[]⟩ .z) .z)))))) (.s (.s .z (.b (.l ⟨[(8,(.o 1577)),(32,(.v (.int .i64)))],[(1577,.l (.st SI.Lot))],[30,31],[],1578,[]⟩ 2 ⟨[(8,(.o 1577))],[(1577,.l (.st SI.Lot))],[],[],1578,[]⟩ .z))) .z))))
theorem pc_replace_c (n:Nat):COk Tryz.prog 61 (pc_replace_g n):=
 cq (gam_cons (sl_Contains_int_c n) (gam_cons pc_clone_c (gam_cons (sl_SortFunc_Lot_c n) (gam_cons pc_replace_f1_c gam_nil)))) Tryz.func61 pc_replace_h n (by kernel_rfl) rfl fun _=>by kernel_rfl
def pc_Add_g (n:Nat):Sig xx:=⟨[.d (.sl (.st SI.Lot)),.d (.st SI.Lot)],[.fresh (.st SI.Lot),.d (.int .i64)],fun a=>pc_Add n a.1 a.2.1,none⟩
def pc_Add_h:Hn SI:=(.s .z (.s (.b (.s (.j ⟨[(6,(.v .bool))],[],[0,3],[1000],1192,[]⟩ .z) .z)) .z))
theorem pc_Add_c (n:Nat):COk Tryz.prog 39 (pc_Add_g n):=
 cq (gam_cons (pc_Right_c n) (gam_cons (pc_valid_c n) (gam_cons (pc_taken_c n) (gam_cons (sl_ContainsFunc_Lot_c n) (gam_cons (pc_Add_f1_c n) (gam_cons (pc_replace_c n) gam_nil)))))) Tryz.func39 pc_Add_h n (by kernel_rfl) rfl fun _=>by kernel_rfl
def pc_Find_g (n:Nat):Sig xx:=⟨[.d (.sl (.st SI.Lot)),.d (.int .i64)],[.d (.st SI.Lot),.d .bool],fun a=>pc_Find n a.1 a.2.1,none⟩
def pc_Find_h:Hn SI:=(.s .z (.s (.s .z (.b (.lx ⟨[(10,(.v (.int .i64)))],[],[1,4,8,9],[1000],1320,[]⟩ 0 ⟨[],[],[4],[1000],1320,[]⟩ .z))) .z))
theorem pc_Find_c (n:Nat):COk Tryz.prog 11 (pc_Find_g n):=
 cq (gam_cons pc_clone_c gam_nil) Tryz.func11 pc_Find_h n (by kernel_rfl) rfl fun _=>by kernel_rfl
def sl_BinarySearchFunc_strip_int_g (n:Nat):Sig xx:=⟨[.d (.sl (.st SI.strip)),.d (.int .i64),.clo [(.st SI.strip),(.int .i64)] (.int .i64)],[.d (.int .i64),.d .bool],fun a=>sl_BinarySearchFunc_strip_int n a.1 a.2.1 a.2.2.1,none⟩
def sl_BinarySearchFunc_strip_int_h:Hn SI:=(.s .z (.s .z (.s .z (.s (.b (.l ⟨[(9,(.v (.int .i64))),(10,(.v (.int .i64)))],[],[0,1,2,8],[],1512,[]⟩ 0 ⟨[(9,(.v (.int .i64)))],[],[0,1,2,8],[],1512,[]⟩ .z)) .z))))
theorem sl_BinarySearchFunc_strip_int_c (n:Nat):COk Tryz.prog 151 (sl_BinarySearchFunc_strip_int_g n):=
 cq gam_nil Tryz.func151 sl_BinarySearchFunc_strip_int_h n (by kernel_rfl) rfl fun _=>by kernel_rfl
def rg_at_f1_g:Sig xx:=⟨[.d (.st SI.strip),.d (.int .i64)],[.d (.int .i64)],fun a=>rg_at_f1 a.1 a.2.1,none⟩
def rg_at_f1_h:Hn SI:= .z
theorem rg_at_f1_c:COk Tryz.prog 152 rg_at_f1_g:=
 cq gam_nil Tryz.func152 rg_at_f1_h 0 (by kernel_rfl) rfl fun _=>by kernel_rfl
def rg_at_g (n:Nat):Sig xx:=⟨[.d (.sl (.st SI.strip)),.d (.int .i64)],[.d (.sl (.st SI.span))],fun a=>rg_at n a.1 a.2.1,none⟩
def rg_at_h:Hn SI:=(.s .z (.s .z (.s (.s (.j ⟨[(25,(.v .bool))],[],[0,5],[],1576,[]⟩ .z) .z) .z)))
theorem rg_at_c (n:Nat):COk Tryz.prog 106 (rg_at_g n):=
 cq (gam_cons (sl_BinarySearchFunc_strip_int_c n) (gam_cons rg_at_f1_c gam_nil)) Tryz.func106 rg_at_h n (by kernel_rfl) rfl fun _=>by kernel_rfl
def sl_Grow_span_g:Sig xx:=⟨[.nil,.d (.int .i64)],[.fresh (.st SI.span)],fun a=>sl_Grow_span a.1 a.2.1,none⟩
def sl_Grow_span_h:Hn SI:= .z
theorem sl_Grow_span_c:COk Tryz.prog 174 sl_Grow_span_g:=
 cq gam_nil Tryz.func174 sl_Grow_span_h 0 (by kernel_rfl) rfl fun _=>by kernel_rfl
def sl_Concat_span_g (n:Nat):Sig xx:=⟨[.d (.sl (.sl (.st SI.span)))],[.fresh (.st SI.span)],fun a=>sl_Concat_span n a.1,none⟩
def sl_Concat_span_h:Hn SI:=(.s .z (.s .z (.s (.s .z (.b (.l ⟨[(3,(.v (.int .i64))),(11,(.v (.int .i64)))],[],[0,9,10],[],1320,[]⟩ 0 ⟨[(3,(.v (.int .i64)))],[],[0],[],1320,[]⟩ .z))) (.s .z (.s (.s .z (.b (.l ⟨[(6,(.o 1704)),(27,(.v (.int .i64)))],[(1704,.l (.st SI.span))],[25,26],[],1705,[]⟩ 2 ⟨[(6,(.o 1704))],[(1704,.l (.st SI.span))],[],[],1705,[]⟩ .z))) .z)))))
theorem sl_Concat_span_c (n:Nat):COk Tryz.prog 149 (sl_Concat_span_g n):=
 cq (gam_cons sl_Grow_span_c gam_nil) Tryz.func149 sl_Concat_span_h n (by kernel_rfl) rfl fun _=>by kernel_rfl
def sl_BinarySearchFunc_span_int_g (n:Nat):Sig xx:=⟨[.d (.sl (.st SI.span)),.d (.int .i64),.clo [(.st SI.span),(.int .i64)] (.int .i64)],[.d (.int .i64),.d .bool],fun a=>sl_BinarySearchFunc_span_int n a.1 a.2.1 a.2.2.1,none⟩
def sl_BinarySearchFunc_span_int_h:Hn SI:=(.s .z (.s .z (.s .z (.s (.b (.l ⟨[(9,(.v (.int .i64))),(10,(.v (.int .i64)))],[],[0,1,2,8],[],1512,[]⟩ 0 ⟨[(9,(.v (.int .i64)))],[],[0,1,2,8],[],1512,[]⟩ .z)) .z))))
theorem sl_BinarySearchFunc_span_int_c (n:Nat):COk Tryz.prog 175 (sl_BinarySearchFunc_span_int_g n):=
 cq gam_nil Tryz.func175 sl_BinarySearchFunc_span_int_h n (by kernel_rfl) rfl fun _=>by kernel_rfl
def rg_inside_f1_g:Sig xx:=⟨[.d (.st SI.span),.d (.int .i64)],[.d (.int .i64)],fun a=>rg_inside_f1 a.1 a.2.1,none⟩
def rg_inside_f1_h:Hn SI:= .z
theorem rg_inside_f1_c:COk Tryz.prog 176 rg_inside_f1_g:=
 cq gam_nil Tryz.func176 rg_inside_f1_h 0 (by kernel_rfl) rfl fun _=>by kernel_rfl
def rg_inside_g (n:Nat):Sig xx:=⟨[.d (.sl (.st SI.span)),.d (.int .i64)],[.d .bool],fun a=>rg_inside n a.1 a.2.1,none⟩
def rg_inside_h:Hn SI:= .z
theorem rg_inside_c (n:Nat):COk Tryz.prog 150 (rg_inside_g n):=
 cq (gam_cons (sl_BinarySearchFunc_span_int_c n) (gam_cons rg_inside_f1_c gam_nil)) Tryz.func150 rg_inside_h n (by kernel_rfl) rfl fun _=>by kernel_rfl
def rg_merge_g (n:Nat):Sig xx:=⟨[.d (.sl (.st SI.span)),.d (.sl (.st SI.span)),.clo [.bool,.bool] .bool],[.fresh (.st SI.span)],fun a=>rg_merge n a.1 a.2.1 a.2.2.1,none⟩
def rg_merge_h:Hn SI:=(.s .z (.s .z (.s (.s .z (.b (.l ⟨[(7,(.o 1512)),(19,(.v (.int .i64)))],[(1512,.l (.int .i64))],[0,1,2,17,18],[1320],1513,[(7,(.int .i64))]⟩ 0 ⟨[(7,(.o 1512))],[(1512,.l (.int .i64))],[0,1,2],[],1513,[]⟩ .z))) (.s .z (.s .z (.s .z (.s (.s .z (.b (.l ⟨[(10,(.o 1961)),(11,(.v (.int .i64)))],[(1961,.l (.st SI.span))],[0,1,2,7],[1512],1962,[(10,(.st SI.span))]⟩ 2 ⟨[(10,(.o 1961))],[(1961,.l (.st SI.span))],[],[],1962,[]⟩ (.s .z (.s (.j ⟨[(10,(.o 2218))],[(2218,.l (.st SI.span))],[0,1,2,7,11],[1512],2219,[]⟩ (.b (.s .z (.s .z (.s .z (.s (.j ⟨[(68,(.v .bool))],[],[0,1,2,7,10,11,12,13],[1512,1961],3370,[]⟩ .z) .z)))))) .z))))) .z)))))))
theorem rg_merge_c (n:Nat):COk Tryz.prog 105 (rg_merge_g n):=
 cq (gam_cons (sl_Concat_span_c n) (gam_cons (sl_Sort_int_c n) (gam_cons (sl_Compact_int_c n) (gam_cons (rg_inside_c n) gam_nil)))) Tryz.func105 rg_merge_h n (by kernel_rfl) rfl fun _=>by kernel_rfl
def rg_combine_g (n:Nat):Sig xx:=⟨[.d (.sl (.st SI.Rect)),.d (.sl (.st SI.Rect)),.clo [.bool,.bool] .bool],[.d (.sl (.st SI.Rect)),.d (.int .i64)],fun a=>rg_combine n a.1 a.2.1 a.2.2.1,none⟩
def rg_combine_h:Hn SI:=(.s .z (.s (.s (.j ⟨[(20,(.v .bool))],[],[0,1,2],[],1128,[]⟩ .z) .z) (.s (.f [6,7]) (.s .z (.s (.s .z (.b (.l ⟨[(33,(.v (.int .i64)))],[(1832,.l (.st SI.strip))],[2,8,9,10,31,32],[],2152,[]⟩ 0 ⟨[],[(1832,.l (.st SI.strip))],[10],[],2152,[]⟩ .z))) .z)))))
theorem rg_combine_c (n:Nat):COk Tryz.prog 50 (rg_combine_g n):=
 cq (gam_cons (rg_Right_c n) (gam_cons (rg_strips_c n) (gam_cons (rg_at_c n) (gam_cons (rg_merge_c n) (gam_cons (rg_write_c n) (gam_cons rg_limited_c gam_nil)))))) Tryz.func50 rg_combine_h n (by kernel_rfl) rfl fun _=>by kernel_rfl
def rg_Common_f1_g:Sig xx:=⟨[.d .bool,.d .bool],[.d .bool],fun a=>rg_Common_f1 a.1 a.2.1,none⟩
def rg_Common_f1_h:Hn SI:= .z
theorem rg_Common_f1_c:COk Tryz.prog 51 rg_Common_f1_g:=
 cq gam_nil Tryz.func51 rg_Common_f1_h 0 (by kernel_rfl) rfl fun _=>by kernel_rfl
def rg_Common_g (n:Nat):Sig xx:=⟨[.d (.sl (.st SI.Rect)),.d (.sl (.st SI.Rect))],[.d (.sl (.st SI.Rect)),.d (.int .i64)],fun a=>rg_Common n a.1 a.2.1,none⟩
def rg_Common_h:Hn SI:= .z
theorem rg_Common_c (n:Nat):COk Tryz.prog 19 (rg_Common_g n):=
 cq (gam_cons (rg_combine_c n) (gam_cons rg_Common_f1_c gam_nil)) Tryz.func19 rg_Common_h n (by kernel_rfl) rfl fun _=>by kernel_rfl
def rg_Minus_f1_g:Sig xx:=⟨[.d .bool,.d .bool],[.d .bool],fun a=>rg_Minus_f1 a.1 a.2.1,none⟩
def rg_Minus_f1_h:Hn SI:= .z
theorem rg_Minus_f1_c:COk Tryz.prog 112 rg_Minus_f1_g:=
 cq gam_nil Tryz.func112 rg_Minus_f1_h 0 (by kernel_rfl) rfl fun _=>by kernel_rfl
def rg_Minus_g (n:Nat):Sig xx:=⟨[.d (.sl (.st SI.Rect)),.d (.sl (.st SI.Rect))],[.d (.sl (.st SI.Rect)),.d (.int .i64)],fun a=>rg_Minus n a.1 a.2.1,none⟩
def rg_Minus_h:Hn SI:= .z
theorem rg_Minus_c (n:Nat):COk Tryz.prog 58 (rg_Minus_g n):=
 cq (gam_cons (rg_combine_c n) (gam_cons rg_Minus_f1_c gam_nil)) Tryz.func58 rg_Minus_h n (by kernel_rfl) rfl fun _=>by kernel_rfl
def pc_connected_g (n:Nat):Sig xx:=⟨[.d (.sl (.st SI.Rect))],[.d .bool],fun a=>pc_connected n a.1,none⟩
def pc_connected_h:Hn SI:= .z
theorem pc_connected_c (n:Nat):COk Tryz.prog 59 (pc_connected_g n):=
 cq (gam_cons (rg_Parts_c n) gam_nil) Tryz.func59 pc_connected_h n (by kernel_rfl) rfl fun _=>by kernel_rfl
def pc_line_g (n:Nat):Sig xx:=⟨[.d (.sl (.st SI.Lot))],[.fresh (.int .i64)],fun a=>pc_line n a.1,none⟩
def pc_line_h:Hn SI:=(.s .z (.s .z (.s (.s .z (.b (.l ⟨[(3,(.o 1320)),(8,(.v (.int .i64)))],[(1320,.l (.int .i64))],[6,7],[],1321,[(3,(.int .i64))]⟩ 0 ⟨[(3,(.o 1320))],[(1320,.l (.int .i64))],[],[],1321,[]⟩ .z))) .z)))
theorem pc_line_c (n:Nat):COk Tryz.prog 60 (pc_line_g n):=
 cq (gam_cons (sl_Sort_int_c n) (gam_cons (sl_Compact_int_c n) gam_nil)) Tryz.func60 pc_line_h n (by kernel_rfl) rfl fun _=>by kernel_rfl
def pc_Split_g (n:Nat):Sig xx:=⟨[.d (.sl (.st SI.Lot)),.d (.int .i64),.d (.sl (.st SI.Rect)),.d (.int .i64),.d (.int .i64)],[.fresh (.st SI.Lot),.d (.int .i64)],fun a=>pc_Split n a.1 a.2.1 a.2.2.1 a.2.2.2.1 a.2.2.2.2.1,none⟩
def pc_Split_h:Hn SI:=(.s .z (.s (.s (.j ⟨[(41,(.v .bool))],[],[0,1,2,3,4],[],1128,[]⟩ .z) .z) (.s .z (.s .z (.s (.s (.j ⟨[(57,(.v .bool))],[],[0,1,2,3,4,12],[1512],1832,[]⟩ .z) .z) (.s .z (.s .z (.s (.b (.s (.j ⟨[(72,(.v .bool))],[],[0,1,3,4,12,14,15,16,17],[1512],2984,[]⟩ (.s (.j ⟨[(72,(.v .bool))],[],[0,1,3,4,12,14,15,16,17],[1512],2984,[]⟩ .z) .z)) (.s .z (.s (.j ⟨[(87,(.v .bool))],[],[0,1,3,4,12,14,16],[1512],2984,[]⟩ .z) (.s .z (.s (.j ⟨[(99,(.v .bool))],[],[0,1,3,4,12,14,16],[1512],2984,[]⟩ .z) .z)))))) .z))))))))
theorem pc_Split_c (n:Nat):COk Tryz.prog 22 (pc_Split_g n):=
 cq (gam_cons (pc_Right_c n) (gam_cons (rg_Right_c n) (gam_cons pc_number_c (gam_cons (pc_Find_c n) (gam_cons (pc_taken_c n) (gam_cons (rg_Common_c n) (gam_cons (rg_Minus_c n) (gam_cons (pc_connected_c n) (gam_cons (pc_line_c n) (gam_cons (pc_replace_c n) gam_nil)))))))))) Tryz.func22 pc_Split_h n (by kernel_rfl) rfl fun _=>by kernel_rfl
def sl_insertionSortCmpFunc_Rect_g (n:Nat):Sig xx:=⟨[.mut (.st SI.Rect),.d (.int .i64),.d (.int .i64),.clo [(.st SI.Rect),(.st SI.Rect)] (.int .i64)],[.mu (.st SI.Rect)],fun a=>sl_insertionSortCmpFunc_Rect n a.1 a.2.1 a.2.2.1 a.2.2.2.1,none⟩
def sl_insertionSortCmpFunc_Rect_h:Hn SI:=(.s .z (.b (.l ⟨[(8,(.v (.int .i64)))],[(0,.l (.st SI.Rect))],[0,1,2,3],[],1192,[]⟩ 0 ⟨[],[(0,.l (.st SI.Rect))],[],[],1192,[]⟩ (.s .z (.s (.b (.s .z (.b (.l ⟨[(9,(.v (.int .i64)))],[(0,.l (.st SI.Rect))],[0,1,2,3,8],[],1512,[]⟩ 2 ⟨[],[(0,.l (.st SI.Rect))],[0,1,2,3,8],[],1512,[]⟩ (.s (.s (.j ⟨[(34,(.v .bool))],[],[0,1,2,3,8,9],[0],1512,[]⟩ .z) .z) .z))))) .z)))))
theorem sl_insertionSortCmpFunc_Rect_c (n:Nat):COk Tryz.prog 201 (sl_insertionSortCmpFunc_Rect_g n):=
 cq gam_nil Tryz.func201 sl_insertionSortCmpFunc_Rect_h n (by kernel_rfl) rfl fun _=>by kernel_rfl
def sl_siftDownCmpFunc_Rect_g (n:Nat):Sig xx:=⟨[.mut (.st SI.Rect),.d (.int .i64),.d (.int .i64),.d (.int .i64),.clo [(.st SI.Rect),(.st SI.Rect)] (.int .i64)],[.mu (.st SI.Rect)],fun a=>sl_siftDownCmpFunc_Rect n a.1 a.2.1 a.2.2.1 a.2.2.2.1 a.2.2.2.2.1,none⟩
def sl_siftDownCmpFunc_Rect_h:Hn SI:=(.s .z (.b (.lx ⟨[(10,(.v (.int .i64)))],[(0,.l (.st SI.Rect))],[0,2,3,4],[],1128,[]⟩ 0 ⟨[],[(0,.l (.st SI.Rect))],[],[],1128,[]⟩ (.b (.s .z (.s .z (.s (.j ⟨[(11,(.v (.int .i64)))],[],[0,2,3,4,10],[0],1576,[]⟩ (.s (.j ⟨[(40,(.v .bool))],[],[0,2,3,4,10,11],[0],1576,[]⟩ .z) .z)) .z)))))))
theorem sl_siftDownCmpFunc_Rect_c (n:Nat):COk Tryz.prog 213 (sl_siftDownCmpFunc_Rect_g n):=
 cq gam_nil Tryz.func213 sl_siftDownCmpFunc_Rect_h n (by kernel_rfl) rfl fun _=>by kernel_rfl
def sl_heapSortCmpFunc_Rect_g (n:Nat):Sig xx:=⟨[.mut (.st SI.Rect),.d (.int .i64),.d (.int .i64),.clo [(.st SI.Rect),(.st SI.Rect)] (.int .i64)],[.mu (.st SI.Rect)],fun a=>sl_heapSortCmpFunc_Rect n a.1 a.2.1 a.2.2.1 a.2.2.2.1,none⟩
def sl_heapSortCmpFunc_Rect_h:Hn SI:=(.s .z (.s .z (.s .z (.s (.s .z (.b (.l ⟨[(11,(.v (.int .i64)))],[(0,.l (.st SI.Rect))],[0,3,8,9,10],[],1704,[]⟩ 0 ⟨[],[(0,.l (.st SI.Rect))],[0,3,8,9,10],[],1704,[]⟩ .z))) (.s .z (.b (.l ⟨[(12,(.v (.int .i64)))],[(0,.l (.st SI.Rect))],[0,3,8,9],[],1896,[]⟩ 2 ⟨[],[(0,.l (.st SI.Rect))],[],[],1896,[]⟩ .z)))))))
theorem sl_heapSortCmpFunc_Rect_c (n:Nat):COk Tryz.prog 202 (sl_heapSortCmpFunc_Rect_g n):=
 cq (gam_cons (sl_siftDownCmpFunc_Rect_c n) gam_nil) Tryz.func202 sl_heapSortCmpFunc_Rect_h n (by kernel_rfl) rfl fun _=>by kernel_rfl
def sl_breakPatternsCmpFunc_Rect_g (n:Nat):Sig xx:=⟨[.mut (.st SI.Rect),.d (.int .i64),.d (.int .i64),.clo [(.st SI.Rect),(.st SI.Rect)] (.int .i64)],[.mu (.st SI.Rect)],fun a=>sl_breakPatternsCmpFunc_Rect n a.1 a.2.1 a.2.2.1 a.2.2.2.1,none⟩
def sl_breakPatternsCmpFunc_Rect_h:Hn SI:=(.s .z (.s .z (.s (.s .z (.s .z (.s .z (.b (.l ⟨[(11,(.v (.int .i64)))],[(0,.l (.st SI.Rect)),(1512,.c 1 [[(.v (.int .u64))]])],[0,1,8,9,10],[],2280,[]⟩ 0 ⟨[],[(0,.l (.st SI.Rect))],[],[],2280,[]⟩ (.s .z (.s (.b (.s .z (.s (.j ⟨[(12,(.v (.int .i64)))],[],[0,1,8,9,10,11],[0,1512],3176,[]⟩ .z) .z))) .z))))))) .z)))
theorem sl_breakPatternsCmpFunc_Rect_c (n:Nat):COk Tryz.prog 203 (sl_breakPatternsCmpFunc_Rect_g n):=
 cq (gam_cons sl_nextPowerOfTwo_c (gam_cons sl_xorshift_Next_c gam_nil)) Tryz.func203 sl_breakPatternsCmpFunc_Rect_h n (by kernel_rfl) rfl fun _=>by kernel_rfl
def sl_order2CmpFunc_Rect_g:Sig xx:=⟨[.d (.sl (.st SI.Rect)),.d (.int .i64),.d (.int .i64),.mref (.int .i64),.clo [(.st SI.Rect),(.st SI.Rect)] (.int .i64)],[.d (.int .i64),.d (.int .i64),.mr (.int .i64)],fun a=>sl_order2CmpFunc_Rect a.1 a.2.1 a.2.2.1 a.2.2.2.1 a.2.2.2.2.1,none⟩
def sl_order2CmpFunc_Rect_h:Hn SI:= .z
theorem sl_order2CmpFunc_Rect_c:COk Tryz.prog 217 sl_order2CmpFunc_Rect_g:=
 cq gam_nil Tryz.func217 sl_order2CmpFunc_Rect_h 0 (by kernel_rfl) rfl fun _=>by kernel_rfl
def sl_medianCmpFunc_Rect_g:Sig xx:=⟨[.d (.sl (.st SI.Rect)),.d (.int .i64),.d (.int .i64),.d (.int .i64),.mref (.int .i64),.clo [(.st SI.Rect),(.st SI.Rect)] (.int .i64)],[.d (.int .i64),.mr (.int .i64)],fun a=>sl_medianCmpFunc_Rect a.1 a.2.1 a.2.2.1 a.2.2.2.1 a.2.2.2.2.1 a.2.2.2.2.2.1,none⟩
def sl_medianCmpFunc_Rect_h:Hn SI:= .z
theorem sl_medianCmpFunc_Rect_c:COk Tryz.prog 215 sl_medianCmpFunc_Rect_g:=
 cq (gam_cons sl_order2CmpFunc_Rect_c gam_nil) Tryz.func215 sl_medianCmpFunc_Rect_h 0 (by kernel_rfl) rfl fun _=>by kernel_rfl
def sl_medianAdjacentCmpFunc_Rect_g:Sig xx:=⟨[.d (.sl (.st SI.Rect)),.d (.int .i64),.mref (.int .i64),.clo [(.st SI.Rect),(.st SI.Rect)] (.int .i64)],[.d (.int .i64),.mr (.int .i64)],fun a=>sl_medianAdjacentCmpFunc_Rect a.1 a.2.1 a.2.2.1 a.2.2.2.1,none⟩
def sl_medianAdjacentCmpFunc_Rect_h:Hn SI:= .z
theorem sl_medianAdjacentCmpFunc_Rect_c:COk Tryz.prog 214 sl_medianAdjacentCmpFunc_Rect_g:=
 cq (gam_cons sl_medianCmpFunc_Rect_c gam_nil) Tryz.func214 sl_medianAdjacentCmpFunc_Rect_h 0 (by kernel_rfl) rfl fun _=>by kernel_rfl
def sl_choosePivotCmpFunc_Rect_g:Sig xx:=⟨[.d (.sl (.st SI.Rect)),.d (.int .i64),.d (.int .i64),.clo [(.st SI.Rect),(.st SI.Rect)] (.int .i64)],[.d (.int .i64),.d (.int .i64)],fun a=>sl_choosePivotCmpFunc_Rect a.1 a.2.1 a.2.2.1 a.2.2.2.1,none⟩
def sl_choosePivotCmpFunc_Rect_h:Hn SI:=(.s .z (.s .z (.s .z (.s .z (.s .z (.s .z (.s (.j ⟨[(13,(.v (.int .i64)))],[(1384,.c 1 [[(.v (.int .i64))]])],[11],[],2600,[]⟩ (.s .z (.s (.s (.j ⟨[(12,(.v (.int .i64))),(13,(.v (.int .i64))),(14,(.v (.int .i64)))],[(1384,.c 1 [[(.v (.int .i64))]])],[0,3,11],[],2728,[]⟩ .z) .z) .z))) .z)))))))
theorem sl_choosePivotCmpFunc_Rect_c:COk Tryz.prog 204 sl_choosePivotCmpFunc_Rect_g:=
 cq (gam_cons sl_medianAdjacentCmpFunc_Rect_c (gam_cons sl_medianCmpFunc_Rect_c gam_nil)) Tryz.func204 sl_choosePivotCmpFunc_Rect_h 0 (by kernel_rfl) rfl fun _=>by kernel_rfl
def sl_reverseRangeCmpFunc_Rect_g (n:Nat):Sig xx:=⟨[.mut (.st SI.Rect),.d (.int .i64),.d (.int .i64),.clo [(.st SI.Rect),(.st SI.Rect)] (.int .i64)],[.mu (.st SI.Rect)],fun a=>sl_reverseRangeCmpFunc_Rect n a.1 a.2.1 a.2.2.1 a.2.2.2.1,none⟩
def sl_reverseRangeCmpFunc_Rect_h:Hn SI:=(.s .z (.s .z (.b (.l ⟨[(8,(.v (.int .i64))),(9,(.v (.int .i64)))],[(0,.l (.st SI.Rect))],[0],[],1320,[]⟩ 0 ⟨[],[(0,.l (.st SI.Rect))],[],[],1320,[]⟩ .z))))
theorem sl_reverseRangeCmpFunc_Rect_c (n:Nat):COk Tryz.prog 205 (sl_reverseRangeCmpFunc_Rect_g n):=
 cq gam_nil Tryz.func205 sl_reverseRangeCmpFunc_Rect_h n (by kernel_rfl) rfl fun _=>by kernel_rfl
def sl_partialInsertionSortCmpFunc_Rect_g (n:Nat):Sig xx:=⟨[.mut (.st SI.Rect),.d (.int .i64),.d (.int .i64),.clo [(.st SI.Rect),(.st SI.Rect)] (.int .i64)],[.d .bool,.mu (.st SI.Rect)],fun a=>sl_partialInsertionSortCmpFunc_Rect n a.1 a.2.1 a.2.2.1 a.2.2.2.1,none⟩
def sl_partialInsertionSortCmpFunc_Rect_h:Hn SI:=(.s .z (.s .z (.s (.s .z (.b (.lx ⟨[(9,(.v (.int .i64))),(10,(.v (.int .i64)))],[(0,.l (.st SI.Rect))],[0,1,2,3],[],1320,[]⟩ 0 ⟨[],[(0,.l (.st SI.Rect))],[],[],1320,[]⟩ (.s .z (.s (.jx ⟨[(9,(.v (.int .i64)))],[(0,.l (.st SI.Rect))],[0,1,2,3,10],[],1448,[]⟩ (.b (.s (.b (.l ⟨[(9,(.v (.int .i64)))],[],[0,1,2,3,10],[0],1448,[]⟩ 2 ⟨[(9,(.v (.int .i64)))],[],[0,1,2,3,10],[0],1448,[]⟩ (.s (.s (.j ⟨[(36,(.v .bool))],[],[0,1,2,3,9,10],[0],1448,[]⟩ .z) .z) .z))) (.s .z (.s .z (.s .z (.s (.j ⟨[],[(0,.l (.st SI.Rect))],[0,1,2,3,9,10],[],3048,[]⟩ (.s .z (.s (.s .z (.b (.l ⟨[(11,(.v (.int .i64)))],[(0,.l (.st SI.Rect))],[0,1,2,3,9,10],[],3496,[]⟩ 4 ⟨[],[(0,.l (.st SI.Rect))],[0,1,2,3,9,10],[],3496,[]⟩ .z))) .z))) (.s .z (.s (.s .z (.b (.l ⟨[(12,(.v (.int .i64)))],[(0,.l (.st SI.Rect))],[0,1,2,3,9,10],[],3496,[]⟩ 6 ⟨[],[(0,.l (.st SI.Rect))],[0,1,2,3,9,10],[],3496,[]⟩ .z))) .z))))))))) .z))))) .z)))
theorem sl_partialInsertionSortCmpFunc_Rect_c (n:Nat):COk Tryz.prog 206 (sl_partialInsertionSortCmpFunc_Rect_g n):=
 cq gam_nil Tryz.func206 sl_partialInsertionSortCmpFunc_Rect_h n (by kernel_rfl) rfl fun _=>by kernel_rfl
def sl_partitionEqualCmpFunc_Rect_g (n:Nat):Sig xx:=⟨[.mut (.st SI.Rect),.d (.int .i64),.d (.int .i64),.d (.int .i64),.clo [(.st SI.Rect),(.st SI.Rect)] (.int .i64)],[.d (.int .i64),.mu (.st SI.Rect)],fun a=>sl_partitionEqualCmpFunc_Rect n a.1 a.2.1 a.2.2.1 a.2.2.2.1 a.2.2.2.2.1,none⟩
def sl_partitionEqualCmpFunc_Rect_h:Hn SI:=(.s .z (.s .z (.s .z (.s (.b (.l ⟨[(11,(.v (.int .i64))),(12,(.v (.int .i64)))],[(0,.l (.st SI.Rect))],[0,1,4],[],2472,[]⟩ 0 ⟨[(11,(.v (.int .i64)))],[(0,.l (.st SI.Rect))],[],[],2472,[]⟩ (.b (.s (.b (.l ⟨[(11,(.v (.int .i64)))],[],[0,1,4,12],[0],2472,[]⟩ 2 ⟨[(11,(.v (.int .i64)))],[],[0,1,4,12],[0],2472,[]⟩ (.s (.s (.j ⟨[(47,(.v .bool))],[],[0,1,4,11,12],[0],2472,[]⟩ .z) .z) .z))) (.s (.b (.l ⟨[(12,(.v (.int .i64)))],[],[0,1,4,11],[0],2472,[]⟩ 4 ⟨[(12,(.v (.int .i64)))],[],[0,1,4,11],[0],2472,[]⟩ (.s (.s (.j ⟨[(65,(.v .bool))],[],[0,1,4,11,12],[0],2472,[]⟩ .z) .z) .z))) .z))))) .z))))
theorem sl_partitionEqualCmpFunc_Rect_c (n:Nat):COk Tryz.prog 207 (sl_partitionEqualCmpFunc_Rect_g n):=
 cq gam_nil Tryz.func207 sl_partitionEqualCmpFunc_Rect_h n (by kernel_rfl) rfl fun _=>by kernel_rfl
end
end Go.Proofs
