/-
  Printed by wip/gen: that functions of the program compute this.
-/
import Derived.Test.YtdgealeielbdiaaGreatTC1
namespace Go.Proofs
open Go.Gb Go.RowKit
noncomputable section
def sl_partitionCmpFunc_Rect_g (n:Nat):Sig xx:=⟨[.mut (.st SI.Rect),.d (.int .i64),.d (.int .i64),.d (.int .i64),.clo [(.st SI.Rect),(.st SI.Rect)] (.int .i64)],[.d (.int .i64),.d .bool,.mu (.st SI.Rect)],fun a=>sl_partitionCmpFunc_Rect n a.1 a.2.1 a.2.2.1 a.2.2.2.1 a.2.2.2.2.1,none⟩
def sl_partitionCmpFunc_Rect_h:Hn SI:=(.s .z (.s .z (.s .z (.s (.b (.l ⟨[(12,(.v (.int .i64)))],[],[0,1,4,13],[0],2536,[]⟩ 0 ⟨[(12,(.v (.int .i64)))],[],[0,1,4,13],[0],2536,[]⟩ (.s (.s (.j ⟨[(47,(.v .bool))],[],[0,1,4,12,13],[0],2536,[]⟩ .z) .z) .z))) (.s (.b (.l ⟨[(13,(.v (.int .i64)))],[],[0,1,4,12],[0],2536,[]⟩ 2 ⟨[(13,(.v (.int .i64)))],[],[0,1,4,12],[0],2536,[]⟩ (.s (.s (.j ⟨[(66,(.v .bool))],[],[0,1,4,12,13],[0],2536,[]⟩ .z) .z) .z))) (.s .z (.s .z (.s .z (.s .z (.s (.b (.l ⟨[(12,(.v (.int .i64))),(13,(.v (.int .i64)))],[(0,.l (.st SI.Rect))],[0,1,4],[],4136,[]⟩ 4 ⟨[(13,(.v (.int .i64)))],[(0,.l (.st SI.Rect))],[0,1],[],4136,[]⟩ (.b (.s (.b (.l ⟨[(12,(.v (.int .i64)))],[],[0,1,4,13],[0],4136,[]⟩ 6 ⟨[(12,(.v (.int .i64)))],[],[0,1,4,13],[0],4136,[]⟩ (.s (.s (.j ⟨[(120,(.v .bool))],[],[0,1,4,12,13],[0],4136,[]⟩ .z) .z) .z))) (.s (.b (.l ⟨[(13,(.v (.int .i64)))],[],[0,1,4,12],[0],4136,[]⟩ 8 ⟨[(13,(.v (.int .i64)))],[],[0,1,4,12],[0],4136,[]⟩ (.s (.s (.j ⟨[(139,(.v .bool))],[],[0,1,4,12,13],[0],4136,[]⟩ .z) .z) .z))) .z))))) .z))))))))))
theorem sl_partitionCmpFunc_Rect_c (n:Nat):COk Tryz.prog 208 (sl_partitionCmpFunc_Rect_g n):=
 cq gam_nil Tryz.func208 sl_partitionCmpFunc_Rect_h n (by kernel_rfl) rfl fun _=>by kernel_rfl
def sl_pdqsortCmpFunc_Rect_h:Hn SI:=(.s .z (.s .z (.b (.lx ⟨[(1,(.v (.int .i64))),(2,(.v (.int .i64))),(3,(.v (.int .i64))),(10,(.v .bool)),(11,(.v .bool))],[(0,.l (.st SI.Rect))],[0,4],[],1128,[]⟩ 999999 ⟨[],[],[],[],1128,[]⟩ (.b (.s .z (.s .z (.s .z (.s (.j ⟨[(3,(.v (.int .i64)))],[(0,.l (.st SI.Rect))],[0,1,2,4,10,11,12],[],1640,[]⟩ .z) (.s .z (.s (.j ⟨[(13,(.v (.int .i64))),(14,(.v (.int .i64)))],[(0,.l (.st SI.Rect))],[0,1,2,3,4,10,11,12],[],2280,[]⟩ .z) (.s (.jx ⟨[],[(0,.l (.st SI.Rect))],[0,1,2,3,4,10,11,12,13],[],2280,[]⟩ (.s (.j ⟨[(75,(.v .bool))],[],[0,1,2,3,4,10,11,12,13],[0],2280,[]⟩ .z) .z)) (.s (.s (.j ⟨[(97,(.v .bool))],[],[0,1,2,3,4,10,11,12,13],[0],2280,[]⟩ .z) .z) .z)))))))))))))
theorem sl_pdqsortCmpFunc_Rect_bc (n:Nat) (rc:((List GRect))→(Int)→(Int)→(Int)→((GRect×GRect×Unit)→Option Int)→Option (List GRect)) (hr:COk Tryz.prog 186 (sl_pdqsortCmpFunc_Rect_rg rc)):COk Tryz.prog 186 (sl_pdqsortCmpFunc_Rect_rg (sl_pdqsortCmpFunc_Rect_b n rc)):=
 cq (gam_cons (sl_insertionSortCmpFunc_Rect_c n) (gam_cons (sl_heapSortCmpFunc_Rect_c n) (gam_cons (sl_breakPatternsCmpFunc_Rect_c n) (gam_cons sl_choosePivotCmpFunc_Rect_c (gam_cons (sl_reverseRangeCmpFunc_Rect_c n) (gam_cons (sl_partialInsertionSortCmpFunc_Rect_c n) (gam_cons (sl_partitionEqualCmpFunc_Rect_c n) (gam_cons (sl_partitionCmpFunc_Rect_c n) (gam_cons hr gam_nil))))))))) Tryz.func186 sl_pdqsortCmpFunc_Rect_h n (by kernel_rfl) rfl fun _=>by kernel_rfl
theorem sl_pdqsortCmpFunc_Rect_mc (n:Nat):∀ m,COk Tryz.prog 186 (sl_pdqsortCmpFunc_Rect_rg (sl_pdqsortCmpFunc_Rect_m n m))
 | 0=>cok (callable_of Tryz.func186 (by kernel_rfl:Tryz.f186.body=some (Tryz.f186.body.getD .skip)) (by kernel_rfl)) (fun _ _ h=>(by cases h)) rfl
 |m+1=>sl_pdqsortCmpFunc_Rect_bc n _ (sl_pdqsortCmpFunc_Rect_mc n m)
def sl_pdqsortCmpFunc_Rect_g (n:Nat):Sig xx:=⟨[.mut (.st SI.Rect),.d (.int .i64),.d (.int .i64),.d (.int .i64),.clo [(.st SI.Rect),(.st SI.Rect)] (.int .i64)],[.mu (.st SI.Rect)],fun a=>sl_pdqsortCmpFunc_Rect n a.1 a.2.1 a.2.2.1 a.2.2.2.1 a.2.2.2.2.1,none⟩
theorem sl_pdqsortCmpFunc_Rect_c (n:Nat):COk Tryz.prog 186 (sl_pdqsortCmpFunc_Rect_g n):=sl_pdqsortCmpFunc_Rect_mc n n
def sl_SortFunc_Rect_g (n:Nat):Sig xx:=⟨[.mut (.st SI.Rect),.clo [(.st SI.Rect),(.st SI.Rect)] (.int .i64)],[.mu (.st SI.Rect)],fun a=>sl_SortFunc_Rect n a.1 a.2.1,none⟩
def sl_SortFunc_Rect_h:Hn SI:= .z
theorem sl_SortFunc_Rect_c (n:Nat):COk Tryz.prog 160 (sl_SortFunc_Rect_g n):=
 cq (gam_cons bits_Len_c (gam_cons (sl_pdqsortCmpFunc_Rect_c n) gam_nil)) Tryz.func160 sl_SortFunc_Rect_h n (by kernel_rfl) rfl fun _=>by kernel_rfl
def pc_column_f1_g:Sig xx:=⟨[.d (.st SI.Rect),.d (.st SI.Rect)],[.d (.int .i64)],fun a=>pc_column_f1 a.1 a.2.1,none⟩
def pc_column_f1_h:Hn SI:= .z
theorem pc_column_f1_c:COk Tryz.prog 161 pc_column_f1_g:=
 cq (gam_cons cmp_Compare_int_c gam_nil) Tryz.func161 pc_column_f1_h 0 (by kernel_rfl) rfl fun _=>by kernel_rfl
def pc_column_g (n:Nat):Sig xx:=⟨[.d (.sl (.st SI.Rect)),.d (.int .i64),.d (.int .i64)],[.fresh (.st SI.Rect)],fun a=>pc_column n a.1 a.2.1 a.2.2.1,none⟩
def pc_column_h:Hn SI:=(.s .z (.s .z (.s (.s .z (.b (.l ⟨[(7,(.o 1320)),(16,(.v (.int .i64)))],[(1320,.l (.st SI.Rect))],[1,2,14,15],[],1321,[(7,(.st SI.Rect))]⟩ 0 ⟨[(7,(.o 1320))],[(1320,.l (.st SI.Rect))],[],[],1321,[]⟩ (.s .z (.s .z (.s (.j ⟨[(7,(.o 1385))],[(1385,.l (.st SI.Rect))],[1,2,14,15,16],[],1386,[]⟩ (.b (.s .z (.s (.j ⟨[(29,(.v .bool))],[],[1,2,7,9,14,15,16],[1320,1513],1641,[]⟩ .z) .z)))) .z)))))) (.s .z (.s .z (.s (.s .z (.b (.l ⟨[(10,(.o 1705)),(45,(.v (.int .i64)))],[(1705,.l (.st SI.Rect))],[43,44],[1320],1706,[(10,(.st SI.Rect))]⟩ 2 ⟨[(10,(.o 1705))],[(1705,.l (.st SI.Rect))],[],[],1706,[]⟩ (.s .z (.s .z (.s (.j ⟨[(10,(.o 1770))],[(1770,.l (.st SI.Rect))],[43,44,45],[1320],1771,[]⟩ (.b (.s .z (.s (.s .z (.s (.j ⟨[(63,(.v .bool))],[],[10,12,13,43,44,45],[1320,1705,1898],2218,[]⟩ .z) .z)) .z)))) .z)))))) .z))))))
theorem pc_column_c (n:Nat):COk Tryz.prog 119 (pc_column_g n):=
 cq (gam_cons (sl_SortFunc_Rect_c n) (gam_cons pc_column_f1_c gam_nil)) Tryz.func119 pc_column_h n (by kernel_rfl) rfl fun _=>by kernel_rfl
def sl_EqualFunc_Rect_Rect_g (n:Nat):Sig xx:=⟨[.d (.sl (.st SI.Rect)),.d (.sl (.st SI.Rect)),.clo [(.st SI.Rect),(.st SI.Rect)] .bool],[.d .bool],fun a=>sl_EqualFunc_Rect_Rect n a.1 a.2.1 a.2.2.1,none⟩
def sl_EqualFunc_Rect_Rect_h:Hn SI:=(.s .z (.s .z (.s (.s .z (.b (.lx ⟨[(17,(.v (.int .i64)))],[],[1,2,15,16],[],1576,[]⟩ 0 ⟨[],[],[],[],1576,[]⟩ .z))) .z)))
theorem sl_EqualFunc_Rect_Rect_c (n:Nat):COk Tryz.prog 120 (sl_EqualFunc_Rect_Rect_g n):=
 cq gam_nil Tryz.func120 sl_EqualFunc_Rect_Rect_h n (by kernel_rfl) rfl fun _=>by kernel_rfl
def pc_form_f1_g:Sig xx:=⟨[.d (.st SI.Rect),.d (.st SI.Rect)],[.d .bool],fun a=>pc_form_f1 a.1 a.2.1,none⟩
def pc_form_f1_h:Hn SI:= .z
theorem pc_form_f1_c:COk Tryz.prog 121 pc_form_f1_g:=
 cq gam_nil Tryz.func121 pc_form_f1_h 0 (by kernel_rfl) rfl fun _=>by kernel_rfl
def pc_form_g (n:Nat):Sig xx:=⟨[.d (.sl (.st SI.Rect))],[.fresh (.st SI.Rect)],fun a=>pc_form n a.1,none⟩
def pc_form_h:Hn SI:=(.s .z (.s .z (.s (.s .z (.b (.l ⟨[(3,(.o 1320)),(13,(.v (.int .i64)))],[(1320,.l (.int .i64))],[0,11,12],[],1321,[(3,(.int .i64))]⟩ 0 ⟨[(3,(.o 1320))],[(1320,.l (.int .i64))],[0],[],1321,[]⟩ .z))) (.s .z (.s .z (.s .z (.s (.s .z (.b (.l ⟨[(6,(.o 2089)),(7,(.o 2090)),(33,(.v (.int .i64)))],[(2089,.l (.st SI.Rect)),(2090,.l (.st SI.Rect))],[0,3,32],[1320],2091,[(6,(.st SI.Rect)),(7,(.st SI.Rect))]⟩ 2 ⟨[(6,(.o 2089))],[(2089,.l (.st SI.Rect))],[],[],2090,[]⟩ (.s .z (.s .z (.s (.b (.s .z (.s .z (.s (.j ⟨[(6,(.o 3051))],[(3051,.l (.st SI.Rect))],[0,3,9,32,33],[1320,2923],3052,[]⟩ (.s (.j ⟨[(54,(.v .bool))],[],[0,3,6,8,9,32,33],[1320,2089,2923],3051,[]⟩ .z) (.s (.s .z (.b (.l ⟨[(10,(.v (.int .i64)))],[(2089,.l (.st SI.Rect))],[0,3,6,8,9,32,33],[1320,2923],3435,[]⟩ 4 ⟨[],[(2089,.l (.st SI.Rect))],[0,3,6,9,32,33],[1320,2923],3435,[]⟩ .z))) .z))) .z)))) .z)))))) .z)))))))
theorem pc_form_c (n:Nat):COk Tryz.prog 68 (pc_form_g n):=
 cq (gam_cons (sl_Sort_int_c n) (gam_cons (sl_Compact_int_c n) (gam_cons (pc_column_c n) (gam_cons (sl_EqualFunc_Rect_Rect_c n) (gam_cons pc_form_f1_c gam_nil))))) Tryz.func68 pc_form_h n (by kernel_rfl) rfl fun _=>by kernel_rfl
def sl_Values_int_v1_G:GSig xx:=⟨[(.v (.sl (.int .i64)))],[],[(.f 117 [] [(.p 1000)])],[(1000,.c 1 [[(.v (.sl (.int .i64)))]])],fun v=>sl_Values_int_v1 v⟩
def sl_Values_int_v1_g:Sig xx:=⟨[],[.d .bool],fun _=>none,some (sl_Values_int_v1_G)⟩
def sl_Values_int_v1_h:Hn SI:= .z
theorem sl_Values_int_v1_c:COk Tryz.prog 64 sl_Values_int_v1_g:=
 cqG gam_nil Tryz.func64 sl_Values_int_v1_h 0 (by kernel_rfl) fun _=>by kernel_rfl
def seqA_g:Sig xx:=⟨[],[.d .bool],fun _=>none,some (seqG 117)⟩
theorem seqA_c:COk Tryz.prog 159 seqA_g:=cokG (callable_of Tryz.func159 (by kernel_rfl:Tryz.f159.body=some (Tryz.f159.body.getD .skip)) (by kernel_rfl)) (seqG_con (callable_of Tryz.func159 (by kernel_rfl:Tryz.f159.body=some (Tryz.f159.body.getD .skip)) (by kernel_rfl)) seqA_calls)
def sl_Collect_int_v1_G:GSig xx:=⟨[(.f 117 [] [(.p 0)])],[(0,.c 1 [[(.v (.sl (.int .i64)))]])],[(.o 1000)],[(0,.c 1 [[(.v (.sl (.int .i64)))]]),(1000,.l (.int .i64))],fun v=>sl_Collect_int_v1 v⟩
def sl_Collect_int_v1_g:Sig xx:=⟨[],[.d .bool],fun _=>none,some (sl_Collect_int_v1_G)⟩
def sl_Collect_int_v1_h:Hn SI:= .z
theorem sl_Collect_int_v1_c:COk Tryz.prog 116 sl_Collect_int_v1_g:=
 cqG (gam_cons seqA_c gam_nil) Tryz.func116 sl_Collect_int_v1_h 0 (by kernel_rfl) fun _=>by kernel_rfl
def sl_Sorted_int_v1_G (n:Nat):GSig xx:=⟨[(.f 117 [] [(.p 0)])],[(0,.c 1 [[(.v (.sl (.int .i64)))]])],[(.o 1000)],[(0,.c 1 [[(.v (.sl (.int .i64)))]]),(1000,.l (.int .i64))],fun v=>sl_Sorted_int_v1 n v⟩
def sl_Sorted_int_v1_g (n:Nat):Sig xx:=⟨[],[.d .bool],fun _=>none,some (sl_Sorted_int_v1_G n)⟩
def sl_Sorted_int_v1_h:Hn SI:= .z
theorem sl_Sorted_int_v1_c (n:Nat):COk Tryz.prog 63 (sl_Sorted_int_v1_g n):=
 cqG (gam_cons sl_Collect_int_v1_c (gam_cons (sl_Sort_int_c n) gam_nil)) Tryz.func63 sl_Sorted_int_v1_h n (by kernel_rfl) fun _=>by kernel_rfl
def pc_Join_f1_v1_G:GSig xx:=⟨[(.v (.st SI.Lot)),(.p 0)],[(0,.c 1 [[(.o 1)]]),(1,.l (.st SI.Lot))],[(.v .bool)],[(0,.c 1 [[(.o 1)]]),(1,.l (.st SI.Lot))],fun v=>pc_Join_f1_v1 v.1 v.2⟩
def pc_Join_f1_v1_g:Sig xx:=⟨[],[.d .bool],fun _=>none,some (pc_Join_f1_v1_G)⟩
def pc_Join_f1_v1_h:Hn SI:= .z
theorem pc_Join_f1_v1_c:COk Tryz.prog 67 pc_Join_f1_v1_g:=
 cqG gam_nil Tryz.func67 pc_Join_f1_v1_h 0 (by kernel_rfl) fun _=>by kernel_rfl
def sl_IndexFunc_Lot_v1_G (n:Nat):GSig xx:=⟨[(.o 0),(.f 67 [] [(.p 1)])],[(0,.l (.st SI.Lot)),(1,.c 1 [[(.o 0)]])],[(.v (.int .i64))],[(0,.l (.st SI.Lot)),(1,.c 1 [[(.o 0)]])],fun v=>sl_IndexFunc_Lot_v1 n v⟩
def sl_IndexFunc_Lot_v1_g (n:Nat):Sig xx:=⟨[],[.d .bool],fun _=>none,some (sl_IndexFunc_Lot_v1_G n)⟩
def sl_IndexFunc_Lot_v1_h:Hn SI:=(.s .z (.s (.s .z (.b (.lx ⟨[(8,(.v (.int .i64)))],[(0,.l (.st SI.Lot)),(1,.c 1 [[(.o 0)]])],[0,1,7],[],1256,[]⟩ 0 ⟨[],[(0,.l (.st SI.Lot)),(1,.c 1 [[(.o 0)]])],[],[],1256,[]⟩ .z))) .z))
theorem sl_IndexFunc_Lot_v1_c (n:Nat):COk Tryz.prog 118 (sl_IndexFunc_Lot_v1_g n):=
 cqG (gam_cons pc_Join_f1_v1_c gam_nil) Tryz.func118 sl_IndexFunc_Lot_v1_h n (by kernel_rfl) fun _=>by kernel_rfl
def sl_ContainsFunc_Lot_v1_G (n:Nat):GSig xx:=⟨[(.o 0),(.f 67 [] [(.p 1)])],[(0,.l (.st SI.Lot)),(1,.c 1 [[(.o 0)]])],[(.v .bool)],[(0,.l (.st SI.Lot)),(1,.c 1 [[(.o 0)]])],fun v=>sl_ContainsFunc_Lot_v1 n v⟩
def sl_ContainsFunc_Lot_v1_g (n:Nat):Sig xx:=⟨[],[.d .bool],fun _=>none,some (sl_ContainsFunc_Lot_v1_G n)⟩
def sl_ContainsFunc_Lot_v1_h:Hn SI:= .z
theorem sl_ContainsFunc_Lot_v1_c (n:Nat):COk Tryz.prog 66 (sl_ContainsFunc_Lot_v1_g n):=
 cqG (gam_cons (sl_IndexFunc_Lot_v1_c n) gam_nil) Tryz.func66 sl_ContainsFunc_Lot_v1_h n (by kernel_rfl) fun _=>by kernel_rfl
def pc_Join_g (n:Nat):Sig xx:=⟨[.d (.sl (.st SI.Lot)),.d (.sl (.int .i64)),.d (.int .i64)],[.fresh (.st SI.Lot),.d (.int .i64)],fun a=>pc_Join n a.1 a.2.1 a.2.2.1,none⟩
def pc_Join_h:Hn SI:=(.s .z (.s .z (.s (.s (.j ⟨[(37,(.v .bool))],[],[0,1,2],[],1384,[]⟩ .z) .z) (.s .z (.s (.s .z (.b (.lx ⟨[(40,(.v (.int .i64)))],[(1384,.c 1 [[(.o 1640)]]),(1640,.l (.st SI.Lot))],[0,1,2,9,38,39],[],1641,[(6668864,(.st SI.Lot))]⟩ 0 ⟨[],[(1384,.c 1 [[(.o 1640)]]),(1640,.l (.st SI.Lot))],[0,1,2,9],[],1641,[]⟩ .z))) (.s .z (.s .z (.s .z (.s (.s .z (.b (.l ⟨[(14,(.o 2281)),(65,(.v (.int .i64)))],[(2281,.l (.st SI.Rect))],[0,1,2,9,63,64],[1384,1640],2282,[(14,(.st SI.Rect))]⟩ 2 ⟨[(14,(.o 2281))],[(2281,.l (.st SI.Rect))],[0,1,2,9],[1384,1640],2282,[]⟩ .z))) .z)))))))))
theorem pc_Join_c (n:Nat):COk Tryz.prog 24 (pc_Join_g n):=
 cq (gam_cons sl_Values_int_v1_c (gam_cons (sl_Sorted_int_v1_c n) (gam_cons (pc_Right_c n) (gam_cons (pc_ascending_c n) (gam_cons pc_number_c (gam_cons (pc_Find_c n) (gam_cons (pc_taken_c n) (gam_cons (sl_ContainsFunc_Lot_v1_c n) (gam_cons (pc_form_c n) (gam_cons (pc_connected_c n) (gam_cons (pc_line_c n) (gam_cons (pc_replace_c n) gam_nil)))))))))))) Tryz.func24 pc_Join_h n (by kernel_rfl) rfl fun _=>by kernel_rfl
def so_heights_g (n:Nat):Sig xx:=⟨[.d (.sl (.sl (.st SI.Slab)))],[.fresh (.int .i64)],fun a=>so_heights n a.1,none⟩
def so_heights_h:Hn SI:=(.s .z (.s .z (.s (.s .z (.b (.l ⟨[(3,(.o 1320)),(10,(.v (.int .i64)))],[(1320,.l (.int .i64))],[8,9],[],1321,[(3,(.int .i64))]⟩ 0 ⟨[(3,(.o 1320))],[(1320,.l (.int .i64))],[],[],1321,[]⟩ (.s .z (.s .z (.s (.b (.s .z (.s .z (.b (.l ⟨[(3,(.o 1769)),(16,(.v (.int .i64)))],[(1769,.l (.int .i64))],[8,9,10,14,15],[],1770,[]⟩ 2 ⟨[(3,(.o 1769))],[(1769,.l (.int .i64))],[8,9,10],[],1770,[]⟩ .z))))) .z)))))) .z)))
theorem so_heights_c (n:Nat):COk Tryz.prog 82 (so_heights_g n):=
 cq (gam_cons (sl_Sort_int_c n) (gam_cons (sl_Compact_int_c n) gam_nil)) Tryz.func82 so_heights_h n (by kernel_rfl) rfl fun _=>by kernel_rfl
def rg_Same_g (n:Nat):Sig xx:=⟨[.d (.sl (.st SI.Rect)),.d (.sl (.st SI.Rect))],[.d .bool],fun a=>rg_Same n a.1 a.2.1,none⟩
def rg_Same_h:Hn SI:= .z
theorem rg_Same_c (n:Nat):COk Tryz.prog 18 (rg_Same_g n):=
 cq (gam_cons (sl_Equal_Rect_c n) gam_nil) Tryz.func18 rg_Same_h n (by kernel_rfl) rfl fun _=>by kernel_rfl
def so_put_g (n:Nat):Sig xx:=⟨[.mut (.st SI.Slab),.d (.st SI.Slab)],[.fresh (.st SI.Slab),.mv],fun a=>so_put n a.1 a.2.1,none⟩
def so_put_h:Hn SI:=(.s .z (.s .z (.s (.s .z (.s (.j ⟨[(35,(.v .bool))],[],[0,3,5],[0,1000],1640,[]⟩ .z) .z)) .z)))
theorem so_put_c (n:Nat):COk Tryz.prog 83 (so_put_g n):=
 cq (gam_cons (rg_Same_c n) gam_nil) Tryz.func83 so_put_h n (by kernel_rfl) rfl fun _=>by kernel_rfl
def so_fits_g:Sig xx:=⟨[.d (.sl (.st SI.Slab))],[.d (.sl (.st SI.Slab)),.d (.int .i64)],fun a=>so_fits a.1,none⟩
def so_fits_h:Hn SI:= .z
theorem so_fits_c:COk Tryz.prog 84 so_fits_g:=
 cq gam_nil Tryz.func84 so_fits_h 0 (by kernel_rfl) rfl fun _=>by kernel_rfl
def so_Of_g (n:Nat):Sig xx:=⟨[.d (.sl (.st SI.Box))],[.d (.sl (.st SI.Slab)),.d (.int .i64)],fun a=>so_Of n a.1,none⟩
def so_Of_h:Hn SI:=(.s .z (.s .z (.s (.s .z (.b (.lx ⟨[(4,(.o 1384)),(17,(.v (.int .i64)))],[(1384,.l (.st SI.Slab))],[0,15,16],[],1385,[(4,(.st SI.Slab))]⟩ 0 ⟨[(4,(.o 1384))],[(1384,.l (.st SI.Slab))],[0],[],1385,[]⟩ (.s .z (.s .z (.s (.b (.s .z (.s (.s (.j ⟨[(41,(.v .bool))],[],[0,4,6,15,16,17],[1384,1577],1705,[]⟩ .z) .z) .z))) .z)))))) (.s .z (.s .z (.s .z (.s (.s .z (.b (.lx ⟨[(8,(.o 1961)),(9,(.v (.int .i64)))],[(1961,.l (.st SI.Slab))],[0,7],[1705],1962,[(8,(.st SI.Slab))]⟩ 2 ⟨[(8,(.o 1961))],[(1961,.l (.st SI.Slab))],[],[],1962,[]⟩ (.s .z (.s (.b (.s .z (.s (.s .z (.b (.l ⟨[(10,(.o 2474)),(65,(.v (.int .i64)))],[(2474,.l (.st SI.Rect))],[0,7,8,9,63,64],[1705,1961],2475,[(10,(.st SI.Rect))]⟩ 4 ⟨[(10,(.o 2474))],[(2474,.l (.st SI.Rect))],[0,7,8,9],[1705,1961],2475,[]⟩ (.s .z (.s .z (.s (.j ⟨[(10,(.o 2539))],[(2539,.l (.st SI.Rect))],[0,7,8,9,63,64,65],[1705,1961],2540,[]⟩ (.b (.s .z (.s (.j ⟨[(85,(.v .bool))],[],[0,7,8,9,10,12,63,64,65],[1705,1961,2474,2667],2795,[]⟩ .z) .z)))) .z)))))) .z))) .z))))) .z)))))))
theorem so_Of_c (n:Nat):COk Tryz.prog 33 (so_Of_g n):=
 cq (gam_cons r_Right_c (gam_cons (so_heights_c n) (gam_cons (rg_Of_c n) (gam_cons (so_put_c n) (gam_cons so_fits_c gam_nil))))) Tryz.func33 so_Of_h n (by kernel_rfl) rfl fun _=>by kernel_rfl
def q06_Same_g (n:Nat):Sig xx:=⟨[.d (.sl (.st SI.Rect)),.d (.sl (.st SI.Rect))],[.d .bool],fun a=>q06_Same n a.1 a.2.1,none⟩
def q06_Same_h:Hn SI:=(.s .z (.s .z (.s (.s .z (.b (.lx ⟨[(5,(.v (.int .i64)))],[],[0,1],[],1448,[]⟩ 0 ⟨[],[],[],[],1448,[]⟩ .z))) .z)))
theorem q06_Same_c (n:Nat):COk Tryz.prog 69 (q06_Same_g n):=
 cq gam_nil Tryz.func69 q06_Same_h n (by kernel_rfl) rfl fun _=>by kernel_rfl
def q13_Same_g (n:Nat):Sig xx:=⟨[.d (.sl (.st SI.Lot)),.d (.sl (.st SI.Lot))],[.d .bool],fun a=>q13_Same n a.1 a.2.1,none⟩
def q13_Same_h:Hn SI:=(.s .z (.s .z (.s (.s .z (.b (.lx ⟨[(5,(.v (.int .i64)))],[],[0,1],[],1448,[]⟩ 0 ⟨[],[],[],[],1448,[]⟩ (.s .z (.s (.b (.s (.s (.j ⟨[(70,(.v .bool))],[],[0,1,5],[],1704,[]⟩ .z) .z) (.s .z (.b (.lx ⟨[(6,(.v (.int .i64)))],[],[0,1,5],[],1768,[]⟩ 2 ⟨[],[],[0,1,5],[],1768,[]⟩ .z))))) .z))))) .z)))
theorem q13_Same_c (n:Nat):COk Tryz.prog 25 (q13_Same_g n):=
 cq (gam_cons (q06_Same_c n) gam_nil) Tryz.func25 q13_Same_h n (by kernel_rfl) rfl fun _=>by kernel_rfl
def r_Gap_g:Sig xx:=⟨[.d (.st SI.Rect),.d (.st SI.Rect)],[.d (.int .i64)],fun a=>r_Gap a.1 a.2.1,none⟩
def r_Gap_h:Hn SI:=(.s .z (.s (.s (.j ⟨[(14,(.v .bool))],[],[2,3],[1000,1064],1192,[]⟩ .z) .z) .z))
theorem r_Gap_c:COk Tryz.prog 45 r_Gap_g:=
 cq (gam_cons r_Right_c (gam_cons r_gaps_c gam_nil)) Tryz.func45 r_Gap_h 0 (by kernel_rfl) rfl fun _=>by kernel_rfl
def of_Gap_g (n:Nat):Sig xx:=⟨[.d (.sl (.st SI.Rect)),.d (.sl (.st SI.Rect))],[.d (.int .i64),.d .bool],fun a=>of_Gap n a.1 a.2.1,none⟩
def of_Gap_h:Hn SI:=(.s .z (.s (.s (.j ⟨[(28,(.v .bool))],[],[0,1],[],1128,[]⟩ .z) .z) (.s .z (.s (.s .z (.b (.l ⟨[(6,(.v (.int .i64))),(31,(.v (.int .i64)))],[],[1,29,30],[],1384,[]⟩ 0 ⟨[(6,(.v (.int .i64)))],[],[],[],1384,[]⟩ (.s .z (.s .z (.s (.b (.s .z (.s .z (.b (.l ⟨[(6,(.v (.int .i64))),(37,(.v (.int .i64)))],[],[1,8,29,30,31,35,36],[1576],1896,[]⟩ 2 ⟨[(6,(.v (.int .i64)))],[],[1,29,30,31],[],1896,[]⟩ .z))))) .z)))))) .z))))
theorem of_Gap_c (n:Nat):COk Tryz.prog 13 (of_Gap_g n):=
 cq (gam_cons (rg_Right_c n) (gam_cons r_Gap_c gam_nil)) Tryz.func13 of_Gap_h n (by kernel_rfl) rfl fun _=>by kernel_rfl
def pc_Near_g (n:Nat):Sig xx:=⟨[.d (.sl (.st SI.Lot)),.d (.int .i64),.d (.int .i64)],[.fresh (.int .i64)],fun a=>pc_Near n a.1 a.2.1 a.2.2.1,none⟩
def pc_Near_h:Hn SI:=(.s .z (.s .z (.s .z (.s .z (.s (.s .z (.b (.l ⟨[(9,(.o 2024)),(27,(.v (.int .i64)))],[(2024,.l (.sl (.st SI.Rect)))],[0,1,2,7,25,26],[1448],2025,[(9,(.sl (.st SI.Rect)))]⟩ 0 ⟨[(9,(.o 2024))],[(2024,.l (.sl (.st SI.Rect)))],[0,1,2,7],[1448],2025,[]⟩ .z))) (.s .z (.s (.s .z (.b (.l ⟨[(12,(.o 2281)),(39,(.v (.int .i64)))],[(2281,.l (.int .i64))],[0,1,2,7,37,38],[1448,2024],2282,[(12,(.int .i64))]⟩ 2 ⟨[(12,(.o 2281))],[(2281,.l (.int .i64))],[],[],2282,[]⟩ (.s .z (.s .z (.s (.j ⟨[(12,(.o 2346))],[(2346,.l (.int .i64))],[0,1,2,7,37,38,39],[1448,2024],2347,[]⟩ (.b (.s .z (.s .z (.s (.j ⟨[(65,(.v .bool))],[],[0,1,2,7,12,13,37,38,39],[1448,2024,2281],3242,[]⟩ .z) .z))))) .z)))))) .z)))))))
theorem pc_Near_c (n:Nat):COk Tryz.prog 12 (pc_Near_g n):=
 cq (gam_cons (pc_Find_c n) (gam_cons (of_Gap_c n) (gam_cons (sl_Sort_int_c n) (gam_cons (sl_Compact_int_c n) gam_nil)))) Tryz.func12 pc_Near_h n (by kernel_rfl) rfl fun _=>by kernel_rfl
def q01_SameNums_g (n:Nat):Sig xx:=⟨[.d (.sl (.int .i64)),.d (.sl (.int .i64))],[.d .bool],fun a=>q01_SameNums n a.1 a.2.1,none⟩
def q01_SameNums_h:Hn SI:=(.s .z (.s .z (.s (.s .z (.b (.lx ⟨[(5,(.v (.int .i64)))],[],[0,1],[],1448,[]⟩ 0 ⟨[],[],[],[],1448,[]⟩ .z))) .z)))
theorem q01_SameNums_c (n:Nat):COk Tryz.prog 30 (q01_SameNums_g n):=
 cq gam_nil Tryz.func30 q01_SameNums_h n (by kernel_rfl) rfl fun _=>by kernel_rfl
def so_Right_g (n:Nat):Sig xx:=⟨[.d (.sl (.st SI.Slab))],[.d .bool],fun a=>so_Right n a.1,none⟩
def so_Right_h:Hn SI:=(.s .z (.s .z (.s (.s .z (.b (.lx ⟨[(11,(.v (.int .i64)))],[],[0,9,10],[],1448,[]⟩ 0 ⟨[],[],[],[],1448,[]⟩ (.s .z (.s .z (.s (.jx ⟨[],[],[0,9,10,11],[],1512,[]⟩ (.b (.s .z (.s (.s (.j ⟨[(42,(.v .bool))],[],[0,3,4,9,10,11],[1704],1896,[]⟩ .z) .z) (.s .z (.s .z (.s (.j ⟨[(68,(.v .bool))],[],[0,9,10,11],[],2472,[]⟩ .z) .z))))))) .z)))))) .z)))
theorem so_Right_c (n:Nat):COk Tryz.prog 89 (so_Right_g n):=
 cq (gam_cons (rg_Right_c n) (gam_cons (rg_Same_c n) gam_nil)) Tryz.func89 so_Right_h n (by kernel_rfl) rfl fun _=>by kernel_rfl
def pc_Respect_f1_g (n:Nat):Sig xx:=⟨[.d (.st SI.Slab),.ref (.st SI.Easement)],[.d .bool],fun a=>pc_Respect_f1 n a.1 a.2.1,none⟩
def pc_Respect_f1_h:Hn SI:= .z
theorem pc_Respect_f1_c (n:Nat):COk Tryz.prog 91 (pc_Respect_f1_g n):=
 cq (gam_cons (pc_meet_c n) gam_nil) Tryz.func91 pc_Respect_f1_h n (by kernel_rfl) rfl fun _=>by kernel_rfl
def sl_IndexFunc_Slab_g (n:Nat):Sig xx:=⟨[.d (.sl (.st SI.Slab)),.clo [(.st SI.Slab)] .bool],[.d (.int .i64)],fun a=>sl_IndexFunc_Slab n a.1 a.2.1,none⟩
def sl_IndexFunc_Slab_h:Hn SI:=(.s .z (.s (.s .z (.b (.lx ⟨[(8,(.v (.int .i64)))],[],[0,1,7],[],1256,[]⟩ 0 ⟨[],[],[],[],1256,[]⟩ .z))) .z))
theorem sl_IndexFunc_Slab_c (n:Nat):COk Tryz.prog 133 (sl_IndexFunc_Slab_g n):=
 cq gam_nil Tryz.func133 sl_IndexFunc_Slab_h n (by kernel_rfl) rfl fun _=>by kernel_rfl
def sl_ContainsFunc_Slab_g (n:Nat):Sig xx:=⟨[.d (.sl (.st SI.Slab)),.clo [(.st SI.Slab)] .bool],[.d .bool],fun a=>sl_ContainsFunc_Slab n a.1 a.2.1,none⟩
def sl_ContainsFunc_Slab_h:Hn SI:= .z
theorem sl_ContainsFunc_Slab_c (n:Nat):COk Tryz.prog 90 (sl_ContainsFunc_Slab_g n):=
 cq (gam_cons (sl_IndexFunc_Slab_c n) gam_nil) Tryz.func90 sl_ContainsFunc_Slab_h n (by kernel_rfl) rfl fun _=>by kernel_rfl
def pc_Respect_g (n:Nat):Sig xx:=⟨[.d (.sl (.st SI.Easement)),.d (.int .i64),.d (.sl (.st SI.Slab))],[.d .bool],fun a=>pc_Respect n a.1 a.2.1 a.2.2.1,none⟩
def pc_Respect_h:Hn SI:=(.s .z (.s .z (.s (.s .z (.b (.lx ⟨[(14,(.v (.int .i64)))],[],[1,2,12,13],[],1448,[]⟩ 0 ⟨[],[],[],[],1448,[]⟩ (.s .z (.s .z (.s (.jx ⟨[],[],[1,2,12,13,14],[],1512,[]⟩ (.b (.s .z (.s (.s (.j ⟨[(27,(.v .bool))],[],[1,2,8,12,13,14],[1640],1768,[]⟩ .z) .z) .z)))) .z)))))) .z)))
theorem pc_Respect_c (n:Nat):COk Tryz.prog 36 (pc_Respect_g n):=
 cq (gam_cons (so_Right_c n) (gam_cons (rg_Right_c n) (gam_cons (sl_ContainsFunc_Slab_c n) (gam_cons (pc_Respect_f1_c n) gam_nil)))) Tryz.func36 pc_Respect_h n (by kernel_rfl) rfl fun _=>by kernel_rfl
def l13_small_g (n:Nat):Sig xx:=⟨[],[.d .bool],fun a=>l13_small n,none⟩
def l13_small_h:Hn SI:=(.s .z (.s (.f [6]) (.s (.f [7]) (.s (.f [6]) (.s .z (.s .z (.s .z (.s .z (.s .z (.s .z (.s (.j ⟨[(16,(.v .bool))],[],[3,5,7,11,12,13,15],[2792,4200,4712,5544],5672,[]⟩ .z) .z)))))))))))
theorem l13_small_c (n:Nat):COk Tryz.prog 9 (l13_small_g n):=
 cq (gam_cons l13_one_c (gam_cons (pc_Add_c n) (gam_cons (pc_Split_c n) (gam_cons (pc_Join_c n) (gam_cons (so_Of_c n) (gam_cons (q13_Same_c n) (gam_cons (pc_Near_c n) (gam_cons (q01_SameNums_c n) (gam_cons (pc_Respect_c n) gam_nil))))))))) Tryz.func9 l13_small_h n (by kernel_rfl) rfl fun _=>by kernel_rfl
def so_at_g (n:Nat):Sig xx:=⟨[.d (.sl (.st SI.Slab)),.d (.int .i64)],[.d (.sl (.st SI.Rect))],fun a=>so_at n a.1 a.2.1,none⟩
def so_at_h:Hn SI:=(.s .z (.s (.s .z (.b (.lx ⟨[(9,(.v (.int .i64)))],[],[1,7,8],[],1256,[]⟩ 0 ⟨[],[],[],[],1256,[]⟩ (.s .z (.s .z (.s (.b (.s .z (.s (.j ⟨[(22,(.v .bool))],[],[1,6,7,8,9],[1448],1576,[]⟩ .z) .z))) .z)))))) .z))
theorem so_at_c (n:Nat):COk Tryz.prog 130 (so_at_g n):=
 cq gam_nil Tryz.func130 so_at_h n (by kernel_rfl) rfl fun _=>by kernel_rfl
def rg_Union_f1_g:Sig xx:=⟨[.d .bool,.d .bool],[.d .bool],fun a=>rg_Union_f1 a.1 a.2.1,none⟩
def rg_Union_f1_h:Hn SI:= .z
theorem rg_Union_f1_c:COk Tryz.prog 62 rg_Union_f1_g:=
 cq gam_nil Tryz.func62 rg_Union_f1_h 0 (by kernel_rfl) rfl fun _=>by kernel_rfl
def rg_Union_g (n:Nat):Sig xx:=⟨[.d (.sl (.st SI.Rect)),.d (.sl (.st SI.Rect))],[.d (.sl (.st SI.Rect)),.d (.int .i64)],fun a=>rg_Union n a.1 a.2.1,none⟩
def rg_Union_h:Hn SI:= .z
theorem rg_Union_c (n:Nat):COk Tryz.prog 23 (rg_Union_g n):=
 cq (gam_cons (rg_combine_c n) (gam_cons rg_Union_f1_c gam_nil)) Tryz.func23 rg_Union_h n (by kernel_rfl) rfl fun _=>by kernel_rfl
def so_combine_v1_G (n:Nat):GSig xx:=⟨[(.v (.sl (.st SI.Slab))),(.v (.sl (.st SI.Slab))),(.f 23 [] [])],[],[(.v (.sl (.st SI.Slab))),(.v (.int .i64))],[],fun v=>so_combine_v1 n v.1 v.2⟩
def so_combine_v1_g (n:Nat):Sig xx:=⟨[],[.d .bool],fun _=>none,some (so_combine_v1_G n)⟩
def so_combine_v1_h:Hn SI:=(.s .z (.s (.s (.j ⟨[(20,(.v .bool))],[],[0,1,2],[],1128,[]⟩ .z) .z) (.s (.f [4]) (.s .z (.s (.s .z (.b (.lx ⟨[(9,(.o 1576)),(10,(.v (.int .i64)))],[(1576,.l (.st SI.Slab))],[0,1,2,8],[],1577,[(9,(.st SI.Slab))]⟩ 0 ⟨[(9,(.o 1576))],[(1576,.l (.st SI.Slab))],[],[],1577,[]⟩ .z))) .z)))))
theorem so_combine_v1_c (n:Nat):COk Tryz.prog 85 (so_combine_v1_g n):=
 cqG (gam_cons (so_Right_c n) (gam_cons (so_heights_c n) (gam_cons (so_at_c n) (gam_cons (rg_Union_c n) (gam_cons (so_put_c n) (gam_cons so_fits_c gam_nil)))))) Tryz.func85 so_combine_v1_h n (by kernel_rfl) fun _=>by kernel_rfl
def so_Union_g (n:Nat):Sig xx:=⟨[.d (.sl (.st SI.Slab)),.d (.sl (.st SI.Slab))],[.d (.sl (.st SI.Slab)),.d (.int .i64)],fun a=>so_Union n a.1 a.2.1,none⟩
def so_Union_h:Hn SI:= .z
theorem so_Union_c (n:Nat):COk Tryz.prog 34 (so_Union_g n):=
 cq (gam_cons (so_combine_v1_c n) gam_nil) Tryz.func34 so_Union_h n (by kernel_rfl) rfl fun _=>by kernel_rfl
def r_checked_g:Sig xx:=⟨[.d (.st SI.Rect)],[.d (.st SI.Rect),.d .bool],fun a=>r_checked a.1,none⟩
def r_checked_h:Hn SI:= .z
theorem r_checked_c:COk Tryz.prog 132 r_checked_g:=
 cq (gam_cons r_Right_c gam_nil) Tryz.func132 r_checked_h 0 (by kernel_rfl) rfl fun _=>by kernel_rfl
def r_Has_g:Sig xx:=⟨[.d (.st SI.Rect),.d (.int .i64),.d (.int .i64)],[.d .bool],fun a=>r_Has a.1 a.2.1 a.2.2.1,none⟩
def r_Has_h:Hn SI:= .z
theorem r_Has_c:COk Tryz.prog 88 r_Has_g:=
 cq (gam_cons r_checked_c gam_nil) Tryz.func88 r_Has_h 0 (by kernel_rfl) rfl fun _=>by kernel_rfl
def rg_Has_f1_g:Sig xx:=⟨[.d (.st SI.Rect),.ref (.int .i64),.ref (.int .i64)],[.d .bool],fun a=>rg_Has_f1 a.1 a.2.1 a.2.2.1,none⟩
def rg_Has_f1_h:Hn SI:= .z
theorem rg_Has_f1_c:COk Tryz.prog 87 rg_Has_f1_g:=
 cq (gam_cons r_Has_c gam_nil) Tryz.func87 rg_Has_f1_h 0 (by kernel_rfl) rfl fun _=>by kernel_rfl
def rg_Has_g (n:Nat):Sig xx:=⟨[.d (.sl (.st SI.Rect)),.d (.int .i64),.d (.int .i64)],[.d .bool],fun a=>rg_Has n a.1 a.2.1 a.2.2.1,none⟩
def rg_Has_h:Hn SI:= .z
theorem rg_Has_c (n:Nat):COk Tryz.prog 35 (rg_Has_g n):=
 cq (gam_cons (sl_ContainsFunc_Rect_c n) (gam_cons rg_Has_f1_c (gam_cons (rg_Right_c n) gam_nil))) Tryz.func35 rg_Has_h n (by kernel_rfl) rfl fun _=>by kernel_rfl
def l13_ParcelEasements_g (n:Nat):Sig xx:=⟨[.d (.sl (.st SI.Easement)),.d (.int .i64),.d (.st SI.Point3),.d (.st SI.Point3)],[.d .bool],fun a=>l13_ParcelEasements n a.1 a.2.1 a.2.2.1 a.2.2.2.1,none⟩
def l13_ParcelEasements_h:Hn SI:=(.s .z (.s .z (.s .z (.s (.s .z (.b (.lx ⟨[(10,(.v (.int .i64)))],[],[0,1,6,7,9],[1000,1064],1576,[]⟩ 0 ⟨[],[],[0,1,6,7,9],[1000,1064],1576,[]⟩ .z))) (.s .z (.s .z (.s .z (.s (.s (.j ⟨[(98,(.v .bool))],[],[0,1,6,9,11,13,15],[1000],5160,[]⟩ .z) .z) (.s .z (.s (.s .z (.b (.l ⟨[(17,(.v .bool)),(18,(.v (.int .i64)))],[],[0,1,6,9,11,13,15],[1000],5288,[]⟩ 2 ⟨[(17,(.v .bool))],[],[0,1,9,11,13,15],[],5288,[]⟩ (.s .z (.s (.j ⟨[(17,(.v .bool))],[],[0,1,6,9,11,13,15,18],[1000],5544,[]⟩ .z) .z))))) .z))))))))))
theorem l13_ParcelEasements_c (n:Nat):COk Tryz.prog 7 (l13_ParcelEasements_g n):=
 cq (gam_cons (l13_small_c n) (gam_cons (so_Of_c n) (gam_cons (so_Union_c n) (gam_cons (rg_Has_c n) (gam_cons (pc_Respect_c n) gam_nil))))) Tryz.func7 l13_ParcelEasements_h n (by kernel_rfl) rfl fun _=>by kernel_rfl
end
end Go.Proofs
