/-
  Printed by wip/gen: what functions of the program compute, and that they do.
-/
import Derived.Test.YtidlnbgnaeaghaaGreatTBase
open Go.IntKind (i64)
namespace Go.Proofs
open Go.Gb Go.RowKit
noncomputable section
def l35_box (a0:Int) (a1:Int):Option (List GRect):=
 bif eqL (sub ([(GRect.mk a0 0 a1 4)]:List GRect) 0 1).length 1 then some (sub ([(GRect.mk a0 0 a1 4)]:List GRect) 0 1)else none
def l35_box_g:Sig xx:=⟨[.d (.int .i64),.d (.int .i64)],[.fresh (.st SI.Rect)],fun a=>l35_box a.1 a.2.1,none⟩
def l35_box_h:Hn SI:= .z
theorem l35_box_c:COk Tryz.prog 33 l35_box_g:=
 cq gam_nil Tryz.func33 l35_box_h 0 (by kernel_rfl) rfl fun _=>by kernel_rfl
def l35_sample:Option GTown:=
 (l35_box 0 4).bind fun r1=>(l35_box 5 8).bind fun r2=>(l35_box 12 14).bind fun r3=>bif eqL (sub r1 0 r1.length).length r1.length then bif eqL (sub r2 0 r2.length).length r2.length then bif eqL (sub r3 0 r3.length).length r3.length then bif eqL (sub ([(GEntry.mk (⟨#[104,111,109,101]⟩) 2),(GEntry.mk (⟨#[112,108,97,110,116]⟩) 9),(GEntry.mk (⟨#[100,97,121,115]⟩) 14)]:List GEntry) 0 3).length 3 then bif eqL (sub ([(GTable.mk (⟨#[110,111,116,105,99,101]⟩) (sub ([(GEntry.mk (⟨#[104,111,109,101]⟩) 2),(GEntry.mk (⟨#[112,108,97,110,116]⟩) 9),(GEntry.mk (⟨#[100,97,121,115]⟩) 14)]:List GEntry) 0 3) 1)]:List GTable) 0 1).length 1 then bif eqL (sub ([(GLot.mk 1 7 (sub r1 0 r1.length) ([])),(GLot.mk 2 7 (sub r2 0 r2.length) ([])),(GLot.mk 3 5 (sub r3 0 r3.length) ([]))]:List GLot) 0 3).length 3 then some (GTown.mk ([]) (sub ([(GTable.mk (⟨#[110,111,116,105,99,101]⟩) (sub ([(GEntry.mk (⟨#[104,111,109,101]⟩) 2),(GEntry.mk (⟨#[112,108,97,110,116]⟩) 9),(GEntry.mk (⟨#[100,97,121,115]⟩) 14)]:List GEntry) 0 3) 1)]:List GTable) 0 1) ([]) ([]) ([]) ([]) ([]) 0 (sub ([(GLot.mk 1 7 (sub r1 0 r1.length) ([])),(GLot.mk 2 7 (sub r2 0 r2.length) ([])),(GLot.mk 3 5 (sub r3 0 r3.length) ([]))]:List GLot) 0 3) ([]) ([]) ([]) ([]))else none else none else none else none else none else none
def l35_sample_g:Sig xx:=⟨[],[.d (.st SI.Town)],fun a=>l35_sample,none⟩
def l35_sample_h:Hn SI:= .z
theorem l35_sample_c:COk Tryz.prog 13 l35_sample_g:=
 cq (gam_cons l35_box_c gam_nil) Tryz.func13 l35_sample_h 0 (by kernel_rfl) rfl fun _=>by kernel_rfl
def l35_of (a0:Int) (a1:Int) (a2:Int):Option GDrawing:=
 bif eqL (sub ([(GVolume.mk 0 0 0 0 0 0 a1 0 false)]:List GVolume) 0 1).length 1 then bif eqL (sub ([(GVolume.mk 0 0 0 0 0 0 a2 0 false)]:List GVolume) 0 1).length 1 then bif eqL (sub ([(GPhase.mk (sub ([(GVolume.mk 0 0 0 0 0 0 a1 0 false)]:List GVolume) 0 1) ([])),(GPhase.mk (sub ([(GVolume.mk 0 0 0 0 0 0 a2 0 false)]:List GVolume) 0 1) ([]))]:List GPhase) 0 2).length 2 then some (GDrawing.mk a0 (sub ([(GPhase.mk (sub ([(GVolume.mk 0 0 0 0 0 0 a1 0 false)]:List GVolume) 0 1) ([])),(GPhase.mk (sub ([(GVolume.mk 0 0 0 0 0 0 a2 0 false)]:List GVolume) 0 1) ([]))]:List GPhase) 0 2))else none else none else none
def l35_of_g:Sig xx:=⟨[.d (.int .i64),.d (.int .i64),.d (.int .i64)],[.d (.st SI.Drawing)],fun a=>l35_of a.1 a.2.1 a.2.2.1,none⟩
def l35_of_h:Hn SI:= .z
theorem l35_of_c:COk Tryz.prog 14 l35_of_g:=
 cq gam_nil Tryz.func14 l35_of_h 0 (by kernel_rfl) rfl fun _=>by kernel_rfl
def sl_IndexFunc_Table_s1 (a0:(List GTable)) (a1:(GTable×Unit)→Option Bool):Int→Option (Int ⊕ (Unit ⊕ Int))
 |v1=>(bif (decide (v1 < ((a0.length:Int):Int)))then (at? a0 v1).bind fun x1=>(a1 (x1,())).bind fun r1=>(bif r1 then (some v1).map fun a=> .inr (.inr a)else some (.inl (i64.wrap (v1+1))))else some (.inr (.inl ())))
def sl_IndexFunc_Table (n:Nat) (a0:(List GTable)) (a1:(GTable×Unit)→Option Bool):Option Int:=
 thenB (iter (sl_IndexFunc_Table_s1 a0 a1) n (0:Int)) fun ()=>some ((-1):Int)
def sl_IndexFunc_Table_g (n:Nat):Sig xx:=⟨[.d (.sl (.st SI.Table)),.clo [(.st SI.Table)] .bool],[.d (.int .i64)],fun a=>sl_IndexFunc_Table n a.1 a.2.1,none⟩
def sl_IndexFunc_Table_h:Hn SI:=(.s .z (.s (.s .z (.b (.lx ⟨[(8,(.v (.int .i64)))],[],[0,1,7],[],1256,[]⟩ 0 ⟨[],[],[],[],1256,[]⟩ .z))) .z))
theorem sl_IndexFunc_Table_c (n:Nat):COk Tryz.prog 56 (sl_IndexFunc_Table_g n):=
 cq gam_nil Tryz.func56 sl_IndexFunc_Table_h n (by kernel_rfl) rfl fun _=>by kernel_rfl
def nt_row_f1 (a0:GTable):Option Bool:=
 some (ByteArray.toList a0.name==ByteArray.toList (⟨#[110,111,116,105,99,101]⟩))
def nt_row_f1_g:Sig xx:=⟨[.d (.st SI.Table)],[.d .bool],fun a=>nt_row_f1 a.1,none⟩
def nt_row_f1_h:Hn SI:= .z
theorem nt_row_f1_c:COk Tryz.prog 57 nt_row_f1_g:=
 cq gam_nil Tryz.func57 nt_row_f1_h 0 (by kernel_rfl) rfl fun _=>by kernel_rfl
def nt_row_f2 (a0:GEntry) (a1:ByteArray):Option Bool:=
 some (ByteArray.toList a0.name==ByteArray.toList a1)
def nt_row_f2_g:Sig xx:=⟨[.d (.st SI.Entry),.ref .str],[.d .bool],fun a=>nt_row_f2 a.1 a.2.1,none⟩
def nt_row_f2_h:Hn SI:= .z
theorem nt_row_f2_c:COk Tryz.prog 59 nt_row_f2_g:=
 cq gam_nil Tryz.func59 nt_row_f2_h 0 (by kernel_rfl) rfl fun _=>by kernel_rfl
def sl_IndexFunc_Entry_s1 (a0:(List GEntry)) (a1:(GEntry×Unit)→Option Bool):Int→Option (Int ⊕ (Unit ⊕ Int))
 |v1=>(bif (decide (v1 < ((a0.length:Int):Int)))then (at? a0 v1).bind fun x1=>(a1 (x1,())).bind fun r1=>(bif r1 then (some v1).map fun a=> .inr (.inr a)else some (.inl (i64.wrap (v1+1))))else some (.inr (.inl ())))
def sl_IndexFunc_Entry (n:Nat) (a0:(List GEntry)) (a1:(GEntry×Unit)→Option Bool):Option Int:=
 thenB (iter (sl_IndexFunc_Entry_s1 a0 a1) n (0:Int)) fun ()=>some ((-1):Int)
def sl_IndexFunc_Entry_g (n:Nat):Sig xx:=⟨[.d (.sl (.st SI.Entry)),.clo [(.st SI.Entry)] .bool],[.d (.int .i64)],fun a=>sl_IndexFunc_Entry n a.1 a.2.1,none⟩
def sl_IndexFunc_Entry_h:Hn SI:=(.s .z (.s (.s .z (.b (.lx ⟨[(8,(.v (.int .i64)))],[],[0,1,7],[],1256,[]⟩ 0 ⟨[],[],[],[],1256,[]⟩ .z))) .z))
theorem sl_IndexFunc_Entry_c (n:Nat):COk Tryz.prog 58 (sl_IndexFunc_Entry_g n):=
 cq gam_nil Tryz.func58 sl_IndexFunc_Entry_h n (by kernel_rfl) rfl fun _=>by kernel_rfl
def nt_row (n:Nat) (a0:GPlan) (a1:ByteArray):Option Int:=
 (sl_IndexFunc_Table n a0.tables (fun (y1:GTable×Unit)=>nt_row_f1 y1.1)).bind fun r1=>(bif (decide (r1 < (0:Int)))then some (0:Int)else (at? a0.tables r1).bind fun x1=>(sl_IndexFunc_Entry n x1.rows (fun (y2:GEntry×Unit)=>nt_row_f2 y2.1 a1)).bind fun r2=>(bif (decide (r2 < (0:Int)))then some x1.else_ else (at? x1.rows r2).bind fun x2=>some x2.n))
def nt_row_g (n:Nat):Sig xx:=⟨[.d (.st SI.Plan),.d .str],[.d (.int .i64)],fun a=>nt_row n a.1 a.2.1,none⟩
def nt_row_h:Hn SI:= .z
theorem nt_row_c (n:Nat):COk Tryz.prog 34 (nt_row_g n):=
 cq (gam_cons (sl_IndexFunc_Table_c n) (gam_cons nt_row_f1_c (gam_cons (sl_IndexFunc_Entry_c n) (gam_cons nt_row_f2_c gam_nil)))) Tryz.func34 nt_row_h n (by kernel_rfl) rfl fun _=>by kernel_rfl
def nt_Distance_s2 (n:Nat) (a0:GPlan) (x1:GPhase):(Int×Int)→Option ((Int×Int) ⊕ Int)
 |(v3,v4)=>(bif (decide (v4 < ((x1.volumes.length:Int):Int)))then ((at? x1.volumes v4).bind fun x2=>((bif (decide (x2.use≥(0:Int)))then some (decide (x2.use < (6:Int)))else some false):Option (Bool)).bind fun v5=>(bif v5 then bif inb x2.use 6 then (at? ([⟨#[104,111,109,101]⟩,⟨#[115,104,111,112]⟩,⟨#[119,111,114,107]⟩,⟨#[112,97,114,107]⟩,⟨#[112,108,97,110,116]⟩,⟨#[104,97,108,108]⟩]:List ByteArray) x2.use).bind fun x3=>(nt_row n a0 x3).bind fun r1=>some (max v3 r1)else none else some v3):Option (Int)).bind fun v6=>some (.inl (v6,(i64.wrap (v4+1))))else some (.inr v3))
def nt_Distance_s1 (n:Nat) (a0:GPlan) (a1:GDrawing):(Int×Int)→Option ((Int×Int) ⊕ Int)
 |(v1,v2)=>(bif (decide (v2 < ((a1.phases.length:Int):Int)))then (at? a1.phases v2).bind fun x1=>(iter (nt_Distance_s2 n a0 x1) n (v1,(0:Int))).bind fun w1=>some (.inl (w1,(i64.wrap (v2+1))))else some (.inr v1))
def nt_Distance (n:Nat) (a0:GPlan) (a1:GDrawing):Option Int:=
 (iter (nt_Distance_s1 n a0 a1) n ((0:Int),(0:Int))).bind fun w2=>some w2
def nt_Distance_g (n:Nat):Sig xx:=⟨[.d (.st SI.Plan),.d (.st SI.Drawing)],[.d (.int .i64)],fun a=>nt_Distance n a.1 a.2.1,none⟩
def nt_Distance_h:Hn SI:=(.s .z (.s .z (.s .z (.s (.s .z (.b (.l ⟨[(6,(.v (.int .i64))),(15,(.v (.int .i64)))],[],[2,5,13,14],[1000,1256],1704,[]⟩ 0 ⟨[(6,(.v (.int .i64)))],[],[],[],1704,[]⟩ (.s .z (.s .z (.s (.b (.s .z (.s .z (.b (.l ⟨[(6,(.v (.int .i64))),(22,(.v (.int .i64)))],[],[2,5,13,14,15,20,21],[1000,1256],2280,[]⟩ 2 ⟨[(6,(.v (.int .i64)))],[],[2,5,13,14,15],[1000,1256],2280,[]⟩ (.s .z (.s .z (.s (.j ⟨[(6,(.v (.int .i64)))],[],[2,5,13,14,15,20,21,22],[1000,1256],2344,[]⟩ (.b (.s .z (.s (.j ⟨[(33,(.v .bool))],[],[2,5,6,10,13,14,15,20,21,22],[1000,1256,2472],2600,[]⟩ .z) .z)))) .z)))))))) .z)))))) .z))))
theorem nt_Distance_c (n:Nat):COk Tryz.prog 15 (nt_Distance_g n):=
 cq (gam_cons (nt_row_c n) gam_nil) Tryz.func15 nt_Distance_h n (by kernel_rfl) rfl fun _=>by kernel_rfl
def nt_Days (n:Nat) (a0:GPlan):Option Int:=
 (nt_row n a0 (⟨#[100,97,121,115]⟩)).bind fun r1=>some (max (0:Int) r1)
def nt_Days_g (n:Nat):Sig xx:=⟨[.d (.st SI.Plan)],[.d (.int .i64)],fun a=>nt_Days n a.1,none⟩
def nt_Days_h:Hn SI:= .z
theorem nt_Days_c (n:Nat):COk Tryz.prog 16 (nt_Days_g n):=
 cq (gam_cons (nt_row_c n) gam_nil) Tryz.func16 nt_Days_h n (by kernel_rfl) rfl fun _=>by kernel_rfl
def sl_Clone_Rect (a0:(List GRect)):Option (List GRect):=
 (bif a0.isEmpty then (both (some ([]:(List GRect))) (bif appOk ([]:List GRect).length 0 a0.length a0.length 32 then letv (([]:List GRect)++a0) fun r1=>bif eqL (sub r1 0 r1.length).length r1.length then some (sub r1 0 r1.length)else none else none))else bif appOk ([]:List GRect).length 0 a0.length a0.length 32 then letv (([]:List GRect)++a0) fun r2=>bif eqL (sub r2 0 r2.length).length r2.length then some (sub r2 0 r2.length)else none else none)
def sl_Clone_Rect_g:Sig xx:=⟨[.d (.sl (.st SI.Rect))],[.fresh (.st SI.Rect)],fun a=>sl_Clone_Rect a.1,none⟩
def sl_Clone_Rect_h:Hn SI:= .z
theorem sl_Clone_Rect_c:COk Tryz.prog 53 sl_Clone_Rect_g:=
 cq gam_nil Tryz.func53 sl_Clone_Rect_h 0 (by kernel_rfl) rfl fun _=>by kernel_rfl
def sl_Clone_int (a0:(List Int)):Option (List Int):=
 (bif a0.isEmpty then (both (some ([]:(List Int))) (bif appOk ([]:List Int).length 0 a0.length a0.length 8 then letv (([]:List Int)++a0) fun r1=>bif eqL (sub r1 0 r1.length).length r1.length then some (sub r1 0 r1.length)else none else none))else bif appOk ([]:List Int).length 0 a0.length a0.length 8 then letv (([]:List Int)++a0) fun r2=>bif eqL (sub r2 0 r2.length).length r2.length then some (sub r2 0 r2.length)else none else none)
def sl_Clone_int_g:Sig xx:=⟨[.d (.sl (.int .i64))],[.fresh (.int .i64)],fun a=>sl_Clone_int a.1,none⟩
def sl_Clone_int_h:Hn SI:= .z
theorem sl_Clone_int_c:COk Tryz.prog 54 sl_Clone_int_g:=
 cq gam_nil Tryz.func54 sl_Clone_int_h 0 (by kernel_rfl) rfl fun _=>by kernel_rfl
def pc_clone (a0:GLot):Option GLot:=
 (sl_Clone_Rect a0.area).bind fun r1=>(sl_Clone_int a0.from_).bind fun r2=>bif eqL (sub r1 0 r1.length).length r1.length then bif eqL (sub r2 0 r2.length).length r2.length then some (GLot.mk a0.id a0.owner (sub r1 0 r1.length) (sub r2 0 r2.length))else none else none
def pc_clone_g:Sig xx:=⟨[.d (.st SI.Lot)],[.d (.st SI.Lot)],fun a=>pc_clone a.1,none⟩
def pc_clone_h:Hn SI:= .z
theorem pc_clone_c:COk Tryz.prog 30 pc_clone_g:=
 cq (gam_cons sl_Clone_Rect_c (gam_cons sl_Clone_int_c gam_nil)) Tryz.func30 pc_clone_h 0 (by kernel_rfl) rfl fun _=>by kernel_rfl
def pc_Find_s1 (a0:(List GLot)) (a1:Int):Int→Option (Int ⊕ (Unit ⊕ (GLot×Bool)))
 |v1=>(bif (decide (v1 < ((a0.length:Int):Int)))then (at? a0 v1).bind fun x1=>(bif (x1.id==(a1:Int))then (pc_clone x1).bind fun r1=>(some (r1,true)).map fun a=> .inr (.inr a)else some (.inl (i64.wrap (v1+1))))else some (.inr (.inl ())))
def pc_Find (n:Nat) (a0:(List GLot)) (a1:Int):Option (GLot×Bool):=
 thenB (iter (pc_Find_s1 a0 a1) n (0:Int)) fun ()=>some ((GLot.mk 0 0 ([]) ([])),false)
def pc_Find_g (n:Nat):Sig xx:=⟨[.d (.sl (.st SI.Lot)),.d (.int .i64)],[.d (.st SI.Lot),.d .bool],fun a=>pc_Find n a.1 a.2.1,none⟩
def pc_Find_h:Hn SI:=(.s .z (.s (.s .z (.b (.lx ⟨[(10,(.v (.int .i64)))],[],[1,4,8,9],[1000],1320,[]⟩ 0 ⟨[],[],[4],[1000],1320,[]⟩ .z))) .z))
theorem pc_Find_c (n:Nat):COk Tryz.prog 9 (pc_Find_g n):=
 cq (gam_cons pc_clone_c gam_nil) Tryz.func9 pc_Find_h n (by kernel_rfl) rfl fun _=>by kernel_rfl
def r_Right (a0:GRect):Option Bool:=
 (bif (decide (0≤(a0.x0:Int)))then (bif (decide (a0.x0 < (a0.x1:Int)))then (bif (decide (a0.x1≤(1048576:Int)))then (bif (decide (0≤(a0.y0:Int)))then (bif (decide (a0.y0 < (a0.y1:Int)))then some (decide (a0.y1≤(1048576:Int)))else some false)else some false)else some false)else some false)else some false)
def r_Right_g:Sig xx:=⟨[.d (.st SI.Rect)],[.d .bool],fun a=>r_Right a.1,none⟩
def r_Right_h:Hn SI:= .z
theorem r_Right_c:COk Tryz.prog 79 r_Right_g:=
 cq gam_nil Tryz.func79 r_Right_h 0 (by kernel_rfl) rfl fun _=>by kernel_rfl
def sl_Grow_Rect (a0:Unit) (a1:Int):Option (List GRect):=
 (bif (decide (a1 < (0:Int)))then none else (bif (decide ((i64.wrap (a1 - (i64.wrap (0 - 0))))>(0:Int)))then bif mkOk (i64.wrap (a1 - (i64.wrap (0 - 0)))) 32 then bif slOk 0 0 ((i64.wrap (a1 - (i64.wrap (0 - 0)))).toNat)then bif eqL (sub (List.replicate (i64.wrap (a1 - (i64.wrap (0 - 0)))).toNat (GRect.mk 0 0 0 0)) 0 0).length 0 then some (sub (List.replicate (i64.wrap (a1 - (i64.wrap (0 - 0)))).toNat (GRect.mk 0 0 0 0)) 0 0)else none else none else none else some ([]:(List GRect))))
def sl_Grow_Rect_g:Sig xx:=⟨[.nil,.d (.int .i64)],[.fresh (.st SI.Rect)],fun a=>sl_Grow_Rect a.1 a.2.1,none⟩
def sl_Grow_Rect_h:Hn SI:= .z
theorem sl_Grow_Rect_c:COk Tryz.prog 115 sl_Grow_Rect_g:=
 cq gam_nil Tryz.func115 sl_Grow_Rect_h 0 (by kernel_rfl) rfl fun _=>by kernel_rfl
def sl_Concat_Rect_s1 (a0:(List (List GRect))):(Int×Int)→Option ((Int×Int) ⊕ Int)
 |(v1,v2)=>(bif (decide (v2 < ((a0.length:Int):Int)))then (at? a0 v2).bind fun x1=>(bif (decide ((i64.wrap (v1+(x1.length:Int))) < (0:Int)))then none else some (.inl ((i64.wrap (v1+(x1.length:Int))),(i64.wrap (v2+1)))))else some (.inr v1))
def sl_Concat_Rect_s2 (a0:(List (List GRect))):(Int×(List GRect))→Option ((Int×(List GRect)) ⊕ (List GRect))
 |(v3,v4)=>(bif (decide (v3 < ((a0.length:Int):Int)))then (at? a0 v3).bind fun x2=>bif appOk v4.length v4.length x2.length x2.length 32 then letv (v4++x2) fun r2=>bif eqL r2.length r2.length then some (.inl ((i64.wrap (v3+1)),r2))else none else none else bif eqL v4.length v4.length then some (.inr v4)else none)
def sl_Concat_Rect (n:Nat) (a0:(List (List GRect))):Option (List GRect):=
 (iter (sl_Concat_Rect_s1 a0) n ((0:Int),(0:Int))).bind fun w1=>(sl_Grow_Rect () w1).bind fun r1=>bif eqL r1.length r1.length then (iter (sl_Concat_Rect_s2 a0) n ((0:Int),r1)).bind fun w2=>bif eqL (sub w2 0 w2.length).length w2.length then some (sub w2 0 w2.length)else none else none
def sl_Concat_Rect_g (n:Nat):Sig xx:=⟨[.d (.sl (.sl (.st SI.Rect)))],[.fresh (.st SI.Rect)],fun a=>sl_Concat_Rect n a.1,none⟩
def sl_Concat_Rect_h:Hn SI:=(.s .z (.s .z (.s (.s .z (.b (.l ⟨[(3,(.v (.int .i64))),(11,(.v (.int .i64)))],[],[0,9,10],[],1320,[]⟩ 0 ⟨[(3,(.v (.int .i64)))],[],[0],[],1320,[]⟩ .z))) (.s .z (.s (.s .z (.b (.l ⟨[(6,(.o 1704)),(27,(.v (.int .i64)))],[(1704,.l (.st SI.Rect))],[25,26],[],1705,[]⟩ 2 ⟨[(6,(.o 1704))],[(1704,.l (.st SI.Rect))],[],[],1705,[]⟩ .z))) .z)))))
theorem sl_Concat_Rect_c (n:Nat):COk Tryz.prog 99 (sl_Concat_Rect_g n):=
 cq (gam_cons sl_Grow_Rect_c gam_nil) Tryz.func99 sl_Concat_Rect_h n (by kernel_rfl) rfl fun _=>by kernel_rfl
def bits_Len32 (a0:Int):Option Int:=
 ((bif (decide (a0≥(65536:Int)))then bif (decide (0≤16)&&decide (16≤IntKind.u32.bits))then some ((a0/2 ^ (16:Int).toNat),(16:Int))else none else some (a0,(0:Int))):Option (Int×Int)).bind fun (v1,v2)=>((bif (decide (v1≥(256:Int)))then bif (decide (0≤8)&&decide (8≤IntKind.u32.bits))then some ((v1/2 ^ (8:Int).toNat),(i64.wrap (v2+8)))else none else some (v1,v2)):Option (Int×Int)).bind fun (v3,v4)=>(strAt (⟨#[0,1,2,2,3,3,3,3,4,4,4,4,4,4,4,4,5,5,5,5,5,5,5,5,5,5,5,5,5,5,5,5,6,6,6,6,6,6,6,6,6,6,6,6,6,6,6,6,6,6,6,6,6,6,6,6,6,6,6,6,6,6,6,6,7,7,7,7,7,7,7,7,7,7,7,7,7,7,7,7,7,7,7,7,7,7,7,7,7,7,7,7,7,7,7,7,7,7,7,7,7,7,7,7,7,7,7,7,7,7,7,7,7,7,7,7,7,7,7,7,7,7,7,7,7,7,7,7,8,8,8,8,8,8,8,8,8,8,8,8,8,8,8,8,8,8,8,8,8,8,8,8,8,8,8,8,8,8,8,8,8,8,8,8,8,8,8,8,8,8,8,8,8,8,8,8,8,8,8,8,8,8,8,8,8,8,8,8,8,8,8,8,8,8,8,8,8,8,8,8,8,8,8,8,8,8,8,8,8,8,8,8,8,8,8,8,8,8,8,8,8,8,8,8,8,8,8,8,8,8,8,8,8,8,8,8,8,8,8,8,8,8,8,8,8,8,8,8,8,8,8,8,8,8,8,8]⟩) (IntKind.u8.wrap v3)).bind fun x1=>some (i64.wrap (v4+(i64.wrap x1)))
def bits_Len32_g:Sig xx:=⟨[.d (.int .u32)],[.d (.int .i64)],fun a=>bits_Len32 a.1,none⟩
def bits_Len32_h:Hn SI:=(.s .z (.s (.j ⟨[(0,(.v (.int .u32))),(2,(.v (.int .i64)))],[],[],[],1064,[]⟩ .z) (.s (.j ⟨[(0,(.v (.int .u32))),(2,(.v (.int .i64)))],[],[],[],1064,[]⟩ .z) .z)))
theorem bits_Len32_c:COk Tryz.prog 71 bits_Len32_g:=
 cq gam_nil Tryz.func71 bits_Len32_h 0 (by kernel_rfl) rfl fun _=>by kernel_rfl
def bits_Len64 (a0:Int):Option Int:=
 ((bif (decide (a0≥(4294967296:Int)))then bif (decide (0≤32)&&decide (32≤IntKind.u64.bits))then some ((a0/2 ^ (32:Int).toNat),(32:Int))else none else some (a0,(0:Int))):Option (Int×Int)).bind fun (v1,v2)=>((bif (decide (v1≥(65536:Int)))then bif (decide (0≤16)&&decide (16≤IntKind.u64.bits))then some ((v1/2 ^ (16:Int).toNat),(i64.wrap (v2+16)))else none else some (v1,v2)):Option (Int×Int)).bind fun (v3,v4)=>((bif (decide (v3≥(256:Int)))then bif (decide (0≤8)&&decide (8≤IntKind.u64.bits))then some ((v3/2 ^ (8:Int).toNat),(i64.wrap (v4+8)))else none else some (v3,v4)):Option (Int×Int)).bind fun (v5,v6)=>(strAt (⟨#[0,1,2,2,3,3,3,3,4,4,4,4,4,4,4,4,5,5,5,5,5,5,5,5,5,5,5,5,5,5,5,5,6,6,6,6,6,6,6,6,6,6,6,6,6,6,6,6,6,6,6,6,6,6,6,6,6,6,6,6,6,6,6,6,7,7,7,7,7,7,7,7,7,7,7,7,7,7,7,7,7,7,7,7,7,7,7,7,7,7,7,7,7,7,7,7,7,7,7,7,7,7,7,7,7,7,7,7,7,7,7,7,7,7,7,7,7,7,7,7,7,7,7,7,7,7,7,7,8,8,8,8,8,8,8,8,8,8,8,8,8,8,8,8,8,8,8,8,8,8,8,8,8,8,8,8,8,8,8,8,8,8,8,8,8,8,8,8,8,8,8,8,8,8,8,8,8,8,8,8,8,8,8,8,8,8,8,8,8,8,8,8,8,8,8,8,8,8,8,8,8,8,8,8,8,8,8,8,8,8,8,8,8,8,8,8,8,8,8,8,8,8,8,8,8,8,8,8,8,8,8,8,8,8,8,8,8,8,8,8,8,8,8,8,8,8,8,8,8,8,8,8,8,8,8,8]⟩) (IntKind.u8.wrap v5)).bind fun x1=>some (i64.wrap (v6+(i64.wrap x1)))
def bits_Len64_g:Sig xx:=⟨[.d (.int .u64)],[.d (.int .i64)],fun a=>bits_Len64 a.1,none⟩
def bits_Len64_h:Hn SI:=(.s .z (.s (.j ⟨[(0,(.v (.int .u64))),(2,(.v (.int .i64)))],[],[],[],1064,[]⟩ .z) (.s (.j ⟨[(0,(.v (.int .u64))),(2,(.v (.int .i64)))],[],[],[],1064,[]⟩ .z) (.s (.j ⟨[(0,(.v (.int .u64))),(2,(.v (.int .i64)))],[],[],[],1064,[]⟩ .z) .z))))
theorem bits_Len64_c:COk Tryz.prog 72 bits_Len64_g:=
 cq gam_nil Tryz.func72 bits_Len64_h 0 (by kernel_rfl) rfl fun _=>by kernel_rfl
def bits_Len (a0:Int):Option Int:=
 (bits_Len64 a0).bind fun r1=>some r1
def bits_Len_g:Sig xx:=⟨[.d (.int .u64)],[.d (.int .i64)],fun a=>bits_Len a.1,none⟩
def bits_Len_h:Hn SI:= .z
theorem bits_Len_c:COk Tryz.prog 39 bits_Len_g:=
 cq (gam_cons bits_Len64_c gam_nil) Tryz.func39 bits_Len_h 0 (by kernel_rfl) rfl fun _=>by kernel_rfl
def cmp_isNaN_int (a0:Int):Option Bool:=
 some (a0 != (a0:Int))
def cmp_isNaN_int_g:Sig xx:=⟨[.d (.int .i64)],[.d .bool],fun a=>cmp_isNaN_int a.1,none⟩
def cmp_isNaN_int_h:Hn SI:= .z
theorem cmp_isNaN_int_c:COk Tryz.prog 90 cmp_isNaN_int_g:=
 cq gam_nil Tryz.func90 cmp_isNaN_int_h 0 (by kernel_rfl) rfl fun _=>by kernel_rfl
def cmp_Less_int (a0:Int) (a1:Int):Option Bool:=
 (cmp_isNaN_int a0).bind fun r1=>(bif r1 then (cmp_isNaN_int a1).bind fun r2=>(bif (!r2)then some true else some (decide (a0 < (a1:Int))))else some (decide (a0 < (a1:Int))))
def cmp_Less_int_g:Sig xx:=⟨[.d (.int .i64),.d (.int .i64)],[.d .bool],fun a=>cmp_Less_int a.1 a.2.1,none⟩
def cmp_Less_int_h:Hn SI:= .z
theorem cmp_Less_int_c:COk Tryz.prog 68 cmp_Less_int_g:=
 cq (gam_cons cmp_isNaN_int_c gam_nil) Tryz.func68 cmp_Less_int_h 0 (by kernel_rfl) rfl fun _=>by kernel_rfl
def sl_insertionSortOrdered_int (n:Nat) (a0:(List Int)) (a1:Int) (a2:Int):Option (List Int):=
 gInsertionSort cmp_Less_int (fun r=>r) n a0 a1 a2
def sl_insertionSortOrdered_int_g (n:Nat):Sig xx:=⟨[.mut (.int .i64),.d (.int .i64),.d (.int .i64)],[.mu (.int .i64)],fun a=>sl_insertionSortOrdered_int n a.1 a.2.1 a.2.2.1,none⟩
def sl_insertionSortOrdered_int_h:Hn SI:=(.s .z (.b (.l ⟨[(6,(.v (.int .i64)))],[(0,.l (.int .i64))],[0,1,2],[],1192,[]⟩ 0 ⟨[],[(0,.l (.int .i64))],[],[],1192,[]⟩ (.s .z (.s (.b (.s .z (.b (.l ⟨[(7,(.v (.int .i64)))],[(0,.l (.int .i64))],[0,1,2,6],[],1512,[]⟩ 2 ⟨[],[(0,.l (.int .i64))],[0,1,2,6],[],1512,[]⟩ (.s (.s (.j ⟨[(30,(.v .bool))],[],[0,1,2,6,7],[0],1512,[]⟩ .z) .z) .z))))) .z)))))
theorem sl_insertionSortOrdered_int_c (n:Nat):COk Tryz.prog 62 (sl_insertionSortOrdered_int_g n):=
 cq (gam_cons cmp_Less_int_c gam_nil) Tryz.func62 sl_insertionSortOrdered_int_h n (by kernel_rfl) rfl fun _=>by kernel_rfl
def sl_siftDownOrdered_int (n:Nat) (a0:(List Int)) (a1:Int) (a2:Int) (a3:Int):Option (List Int):=
 gSiftDown cmp_Less_int (fun r=>r) n a0 a1 a2 a3
def sl_siftDownOrdered_int_g (n:Nat):Sig xx:=⟨[.mut (.int .i64),.d (.int .i64),.d (.int .i64),.d (.int .i64)],[.mu (.int .i64)],fun a=>sl_siftDownOrdered_int n a.1 a.2.1 a.2.2.1 a.2.2.2.1,none⟩
def sl_siftDownOrdered_int_h:Hn SI:=(.s .z (.b (.lx ⟨[(8,(.v (.int .i64)))],[(0,.l (.int .i64))],[0,2,3],[],1128,[]⟩ 0 ⟨[],[(0,.l (.int .i64))],[],[],1128,[]⟩ (.b (.s .z (.s .z (.s (.j ⟨[(9,(.v (.int .i64)))],[],[0,2,3,8],[0],1576,[]⟩ (.s (.j ⟨[(36,(.v .bool))],[],[0,2,3,8,9],[0],1576,[]⟩ .z) .z)) .z)))))))
theorem sl_siftDownOrdered_int_c (n:Nat):COk Tryz.prog 92 (sl_siftDownOrdered_int_g n):=
 cq (gam_cons cmp_Less_int_c gam_nil) Tryz.func92 sl_siftDownOrdered_int_h n (by kernel_rfl) rfl fun _=>by kernel_rfl
def sl_heapSortOrdered_int (n:Nat) (a0:(List Int)) (a1:Int) (a2:Int):Option (List Int):=
 gHeapSort cmp_Less_int (fun r=>r) n a0 a1 a2
def sl_heapSortOrdered_int_g (n:Nat):Sig xx:=⟨[.mut (.int .i64),.d (.int .i64),.d (.int .i64)],[.mu (.int .i64)],fun a=>sl_heapSortOrdered_int n a.1 a.2.1 a.2.2.1,none⟩
def sl_heapSortOrdered_int_h:Hn SI:=(.s .z (.s .z (.s .z (.s (.s .z (.b (.l ⟨[(9,(.v (.int .i64)))],[(0,.l (.int .i64))],[0,6,7,8],[],1704,[]⟩ 0 ⟨[],[(0,.l (.int .i64))],[0,6,7,8],[],1704,[]⟩ .z))) (.s .z (.b (.l ⟨[(10,(.v (.int .i64)))],[(0,.l (.int .i64))],[0,6,7],[],1896,[]⟩ 2 ⟨[],[(0,.l (.int .i64))],[],[],1896,[]⟩ .z)))))))
theorem sl_heapSortOrdered_int_c (n:Nat):COk Tryz.prog 63 (sl_heapSortOrdered_int_g n):=
 cq (gam_cons (sl_siftDownOrdered_int_c n) gam_nil) Tryz.func63 sl_heapSortOrdered_int_h n (by kernel_rfl) rfl fun _=>by kernel_rfl
def sl_nextPowerOfTwo (a0:Int):Option Int:=
 (bits_Len (IntKind.u64.wrap a0)).bind fun r1=>bif (decide (0≤r1)&&decide (r1≤IntKind.u64.bits))then some (IntKind.u64.wrap (1*2 ^ (r1:Int).toNat))else none
def sl_nextPowerOfTwo_g:Sig xx:=⟨[.d (.int .i64)],[.d (.int .u64)],fun a=>sl_nextPowerOfTwo a.1,none⟩
def sl_nextPowerOfTwo_h:Hn SI:= .z
theorem sl_nextPowerOfTwo_c:COk Tryz.prog 93 sl_nextPowerOfTwo_g:=
 cq (gam_cons bits_Len_c gam_nil) Tryz.func93 sl_nextPowerOfTwo_h 0 (by kernel_rfl) rfl fun _=>by kernel_rfl
def sl_xorshift_Next (a0:Int):Option (Int×Int):=
 bif (decide (0≤13)&&decide (13≤IntKind.u64.bits))then bif (decide (0≤7)&&decide (7≤IntKind.u64.bits))then bif (decide (0≤17)&&decide (17≤IntKind.u64.bits))then some ((bits .xor .u64 (bits .xor .u64 (bits .xor .u64 a0 (IntKind.u64.wrap (a0*2 ^ (13:Int).toNat))) ((bits .xor .u64 a0 (IntKind.u64.wrap (a0*2 ^ (13:Int).toNat)))/2 ^ (7:Int).toNat)) (IntKind.u64.wrap ((bits .xor .u64 (bits .xor .u64 a0 (IntKind.u64.wrap (a0*2 ^ (13:Int).toNat))) ((bits .xor .u64 a0 (IntKind.u64.wrap (a0*2 ^ (13:Int).toNat)))/2 ^ (7:Int).toNat))*2 ^ (17:Int).toNat))),(bits .xor .u64 (bits .xor .u64 (bits .xor .u64 a0 (IntKind.u64.wrap (a0*2 ^ (13:Int).toNat))) ((bits .xor .u64 a0 (IntKind.u64.wrap (a0*2 ^ (13:Int).toNat)))/2 ^ (7:Int).toNat)) (IntKind.u64.wrap ((bits .xor .u64 (bits .xor .u64 a0 (IntKind.u64.wrap (a0*2 ^ (13:Int).toNat))) ((bits .xor .u64 a0 (IntKind.u64.wrap (a0*2 ^ (13:Int).toNat)))/2 ^ (7:Int).toNat))*2 ^ (17:Int).toNat))))else none else none else none
def sl_xorshift_Next_g:Sig xx:=⟨[.mref (.int .u64)],[.d (.int .u64),.mr (.int .u64)],fun a=>sl_xorshift_Next a.1,none⟩
def sl_xorshift_Next_h:Hn SI:= .z
theorem sl_xorshift_Next_c:COk Tryz.prog 94 sl_xorshift_Next_g:=
 cq gam_nil Tryz.func94 sl_xorshift_Next_h 0 (by kernel_rfl) rfl fun _=>by kernel_rfl
def sl_breakPatternsOrdered_int (n:Nat) (a0:(List Int)) (a1:Int) (a2:Int):Option (List Int):=
 gBreakPatterns sl_nextPowerOfTwo sl_xorshift_Next n a0 a1 a2
def sl_breakPatternsOrdered_int_g (n:Nat):Sig xx:=⟨[.mut (.int .i64),.d (.int .i64),.d (.int .i64)],[.mu (.int .i64)],fun a=>sl_breakPatternsOrdered_int n a.1 a.2.1 a.2.2.1,none⟩
def sl_breakPatternsOrdered_int_h:Hn SI:=(.s .z (.s .z (.s (.s .z (.s .z (.s .z (.b (.l ⟨[(9,(.v (.int .i64)))],[(0,.l (.int .i64)),(1512,.c 1 [[(.v (.int .u64))]])],[0,1,6,7,8],[],2280,[]⟩ 0 ⟨[],[(0,.l (.int .i64))],[],[],2280,[]⟩ (.s .z (.s (.b (.s .z (.s (.j ⟨[(10,(.v (.int .i64)))],[],[0,1,6,7,8,9],[0,1512],3176,[]⟩ .z) .z))) .z))))))) .z)))
theorem sl_breakPatternsOrdered_int_c (n:Nat):COk Tryz.prog 64 (sl_breakPatternsOrdered_int_g n):=
 cq (gam_cons sl_nextPowerOfTwo_c (gam_cons sl_xorshift_Next_c gam_nil)) Tryz.func64 sl_breakPatternsOrdered_int_h n (by kernel_rfl) rfl fun _=>by kernel_rfl
def sl_order2Ordered_int (a0:(List Int)) (a1:Int) (a2:Int) (a3:Int):Option (Int×Int×Int):=
 gOrder2 cmp_Less_int (fun r=>r) a0 a1 a2 a3
def sl_order2Ordered_int_g:Sig xx:=⟨[.d (.sl (.int .i64)),.d (.int .i64),.d (.int .i64),.mref (.int .i64)],[.d (.int .i64),.d (.int .i64),.mr (.int .i64)],fun a=>sl_order2Ordered_int a.1 a.2.1 a.2.2.1 a.2.2.2.1,none⟩
def sl_order2Ordered_int_h:Hn SI:= .z
theorem sl_order2Ordered_int_c:COk Tryz.prog 114 sl_order2Ordered_int_g:=
 cq (gam_cons cmp_Less_int_c gam_nil) Tryz.func114 sl_order2Ordered_int_h 0 (by kernel_rfl) rfl fun _=>by kernel_rfl
def sl_medianOrdered_int (a0:(List Int)) (a1:Int) (a2:Int) (a3:Int) (a4:Int):Option (Int×Int):=
 gMedian cmp_Less_int (fun r=>r) a0 a1 a2 a3 a4
def sl_medianOrdered_int_g:Sig xx:=⟨[.d (.sl (.int .i64)),.d (.int .i64),.d (.int .i64),.d (.int .i64),.mref (.int .i64)],[.d (.int .i64),.mr (.int .i64)],fun a=>sl_medianOrdered_int a.1 a.2.1 a.2.2.1 a.2.2.2.1 a.2.2.2.2.1,none⟩
def sl_medianOrdered_int_h:Hn SI:= .z
theorem sl_medianOrdered_int_c:COk Tryz.prog 96 sl_medianOrdered_int_g:=
 cq (gam_cons sl_order2Ordered_int_c gam_nil) Tryz.func96 sl_medianOrdered_int_h 0 (by kernel_rfl) rfl fun _=>by kernel_rfl
def sl_medianAdjacentOrdered_int (a0:(List Int)) (a1:Int) (a2:Int):Option (Int×Int):=
 gMedianAdjacent cmp_Less_int (fun r=>r) a0 a1 a2
def sl_medianAdjacentOrdered_int_g:Sig xx:=⟨[.d (.sl (.int .i64)),.d (.int .i64),.mref (.int .i64)],[.d (.int .i64),.mr (.int .i64)],fun a=>sl_medianAdjacentOrdered_int a.1 a.2.1 a.2.2.1,none⟩
def sl_medianAdjacentOrdered_int_h:Hn SI:= .z
theorem sl_medianAdjacentOrdered_int_c:COk Tryz.prog 95 sl_medianAdjacentOrdered_int_g:=
 cq (gam_cons sl_medianOrdered_int_c gam_nil) Tryz.func95 sl_medianAdjacentOrdered_int_h 0 (by kernel_rfl) rfl fun _=>by kernel_rfl
def sl_choosePivotOrdered_int (a0:(List Int)) (a1:Int) (a2:Int):Option (Int×Int):=
 gChoosePivot cmp_Less_int (fun r=>r) a0 a1 a2
def sl_choosePivotOrdered_int_g:Sig xx:=⟨[.d (.sl (.int .i64)),.d (.int .i64),.d (.int .i64)],[.d (.int .i64),.d (.int .i64)],fun a=>sl_choosePivotOrdered_int a.1 a.2.1 a.2.2.1,none⟩
def sl_choosePivotOrdered_int_h:Hn SI:=(.s .z (.s .z (.s .z (.s .z (.s .z (.s .z (.s (.j ⟨[(11,(.v (.int .i64)))],[(1384,.c 1 [[(.v (.int .i64))]])],[9],[],2600,[]⟩ (.s .z (.s (.s (.j ⟨[(10,(.v (.int .i64))),(11,(.v (.int .i64))),(12,(.v (.int .i64)))],[(1384,.c 1 [[(.v (.int .i64))]])],[0,9],[],2728,[]⟩ .z) .z) .z))) .z)))))))
theorem sl_choosePivotOrdered_int_c:COk Tryz.prog 65 sl_choosePivotOrdered_int_g:=
 cq (gam_cons sl_medianAdjacentOrdered_int_c (gam_cons sl_medianOrdered_int_c gam_nil)) Tryz.func65 sl_choosePivotOrdered_int_h 0 (by kernel_rfl) rfl fun _=>by kernel_rfl
def sl_reverseRangeOrdered_int (n:Nat) (a0:(List Int)) (a1:Int) (a2:Int):Option (List Int):=
 gReverseRange n a0 a1 a2
def sl_reverseRangeOrdered_int_g (n:Nat):Sig xx:=⟨[.mut (.int .i64),.d (.int .i64),.d (.int .i64)],[.mu (.int .i64)],fun a=>sl_reverseRangeOrdered_int n a.1 a.2.1 a.2.2.1,none⟩
def sl_reverseRangeOrdered_int_h:Hn SI:=(.s .z (.s .z (.b (.l ⟨[(6,(.v (.int .i64))),(7,(.v (.int .i64)))],[(0,.l (.int .i64))],[0],[],1320,[]⟩ 0 ⟨[],[(0,.l (.int .i64))],[],[],1320,[]⟩ .z))))
theorem sl_reverseRangeOrdered_int_c (n:Nat):COk Tryz.prog 66 (sl_reverseRangeOrdered_int_g n):=
 cq gam_nil Tryz.func66 sl_reverseRangeOrdered_int_h n (by kernel_rfl) rfl fun _=>by kernel_rfl
def sl_partialInsertionSortOrdered_int (n:Nat) (a0:(List Int)) (a1:Int) (a2:Int):Option (Bool×(List Int)):=
 gPartialInsertionSort cmp_Less_int (fun r=>r) n a0 a1 a2
def sl_partialInsertionSortOrdered_int_g (n:Nat):Sig xx:=⟨[.mut (.int .i64),.d (.int .i64),.d (.int .i64)],[.d .bool,.mu (.int .i64)],fun a=>sl_partialInsertionSortOrdered_int n a.1 a.2.1 a.2.2.1,none⟩
def sl_partialInsertionSortOrdered_int_h:Hn SI:=(.s .z (.s .z (.s (.s .z (.b (.lx ⟨[(7,(.v (.int .i64))),(8,(.v (.int .i64)))],[(0,.l (.int .i64))],[0,1,2],[],1320,[]⟩ 0 ⟨[],[(0,.l (.int .i64))],[],[],1320,[]⟩ (.s .z (.s (.jx ⟨[(7,(.v (.int .i64)))],[(0,.l (.int .i64))],[0,1,2,8],[],1448,[]⟩ (.b (.s (.b (.l ⟨[(7,(.v (.int .i64)))],[],[0,1,2,8],[0],1448,[]⟩ 2 ⟨[(7,(.v (.int .i64)))],[],[0,1,2,8],[0],1448,[]⟩ (.s (.s (.j ⟨[(32,(.v .bool))],[],[0,1,2,7,8],[0],1448,[]⟩ .z) .z) .z))) (.s .z (.s .z (.s .z (.s (.j ⟨[],[(0,.l (.int .i64))],[0,1,2,7,8],[],3048,[]⟩ (.s .z (.s (.s .z (.b (.l ⟨[(9,(.v (.int .i64)))],[(0,.l (.int .i64))],[0,1,2,7,8],[],3496,[]⟩ 4 ⟨[],[(0,.l (.int .i64))],[0,1,2,7,8],[],3496,[]⟩ .z))) .z))) (.s .z (.s (.s .z (.b (.l ⟨[(10,(.v (.int .i64)))],[(0,.l (.int .i64))],[0,1,2,7,8],[],3496,[]⟩ 6 ⟨[],[(0,.l (.int .i64))],[0,1,2,7,8],[],3496,[]⟩ .z))) .z))))))))) .z))))) .z)))
theorem sl_partialInsertionSortOrdered_int_c (n:Nat):COk Tryz.prog 67 (sl_partialInsertionSortOrdered_int_g n):=
 cq (gam_cons cmp_Less_int_c gam_nil) Tryz.func67 sl_partialInsertionSortOrdered_int_h n (by kernel_rfl) rfl fun _=>by kernel_rfl
def sl_partitionEqualOrdered_int (n:Nat) (a0:(List Int)) (a1:Int) (a2:Int) (a3:Int):Option (Int×(List Int)):=
 gPartitionEqual cmp_Less_int (fun r=>r) n a0 a1 a2 a3
def sl_partitionEqualOrdered_int_g (n:Nat):Sig xx:=⟨[.mut (.int .i64),.d (.int .i64),.d (.int .i64),.d (.int .i64)],[.d (.int .i64),.mu (.int .i64)],fun a=>sl_partitionEqualOrdered_int n a.1 a.2.1 a.2.2.1 a.2.2.2.1,none⟩
def sl_partitionEqualOrdered_int_h:Hn SI:=(.s .z (.s .z (.s .z (.s (.b (.l ⟨[(9,(.v (.int .i64))),(10,(.v (.int .i64)))],[(0,.l (.int .i64))],[0,1],[],2472,[]⟩ 0 ⟨[(9,(.v (.int .i64)))],[(0,.l (.int .i64))],[],[],2472,[]⟩ (.b (.s (.b (.l ⟨[(9,(.v (.int .i64)))],[],[0,1,10],[0],2472,[]⟩ 2 ⟨[(9,(.v (.int .i64)))],[],[0,1,10],[0],2472,[]⟩ (.s (.s (.j ⟨[(43,(.v .bool))],[],[0,1,9,10],[0],2472,[]⟩ .z) .z) .z))) (.s (.b (.l ⟨[(10,(.v (.int .i64)))],[],[0,1,9],[0],2472,[]⟩ 4 ⟨[(10,(.v (.int .i64)))],[],[0,1,9],[0],2472,[]⟩ (.s (.s (.j ⟨[(59,(.v .bool))],[],[0,1,9,10],[0],2472,[]⟩ .z) .z) .z))) .z))))) .z))))
theorem sl_partitionEqualOrdered_int_c (n:Nat):COk Tryz.prog 69 (sl_partitionEqualOrdered_int_g n):=
 cq (gam_cons cmp_Less_int_c gam_nil) Tryz.func69 sl_partitionEqualOrdered_int_h n (by kernel_rfl) rfl fun _=>by kernel_rfl
def sl_partitionOrdered_int (n:Nat) (a0:(List Int)) (a1:Int) (a2:Int) (a3:Int):Option (Int×Bool×(List Int)):=
 gPartition cmp_Less_int (fun r=>r) n a0 a1 a2 a3
def sl_partitionOrdered_int_g (n:Nat):Sig xx:=⟨[.mut (.int .i64),.d (.int .i64),.d (.int .i64),.d (.int .i64)],[.d (.int .i64),.d .bool,.mu (.int .i64)],fun a=>sl_partitionOrdered_int n a.1 a.2.1 a.2.2.1 a.2.2.2.1,none⟩
def sl_partitionOrdered_int_h:Hn SI:=(.s .z (.s .z (.s .z (.s (.b (.l ⟨[(10,(.v (.int .i64)))],[],[0,1,11],[0],2536,[]⟩ 0 ⟨[(10,(.v (.int .i64)))],[],[0,1,11],[0],2536,[]⟩ (.s (.s (.j ⟨[(43,(.v .bool))],[],[0,1,10,11],[0],2536,[]⟩ .z) .z) .z))) (.s (.b (.l ⟨[(11,(.v (.int .i64)))],[],[0,1,10],[0],2536,[]⟩ 2 ⟨[(11,(.v (.int .i64)))],[],[0,1,10],[0],2536,[]⟩ (.s (.s (.j ⟨[(60,(.v .bool))],[],[0,1,10,11],[0],2536,[]⟩ .z) .z) .z))) (.s .z (.s .z (.s .z (.s .z (.s (.b (.l ⟨[(10,(.v (.int .i64))),(11,(.v (.int .i64)))],[(0,.l (.int .i64))],[0,1],[],4136,[]⟩ 4 ⟨[(11,(.v (.int .i64)))],[(0,.l (.int .i64))],[0,1],[],4136,[]⟩ (.b (.s (.b (.l ⟨[(10,(.v (.int .i64)))],[],[0,1,11],[0],4136,[]⟩ 6 ⟨[(10,(.v (.int .i64)))],[],[0,1,11],[0],4136,[]⟩ (.s (.s (.j ⟨[(112,(.v .bool))],[],[0,1,10,11],[0],4136,[]⟩ .z) .z) .z))) (.s (.b (.l ⟨[(11,(.v (.int .i64)))],[],[0,1,10],[0],4136,[]⟩ 8 ⟨[(11,(.v (.int .i64)))],[],[0,1,10],[0],4136,[]⟩ (.s (.s (.j ⟨[(129,(.v .bool))],[],[0,1,10,11],[0],4136,[]⟩ .z) .z) .z))) .z))))) .z))))))))))
theorem sl_partitionOrdered_int_c (n:Nat):COk Tryz.prog 70 (sl_partitionOrdered_int_g n):=
 cq (gam_cons cmp_Less_int_c gam_nil) Tryz.func70 sl_partitionOrdered_int_h n (by kernel_rfl) rfl fun _=>by kernel_rfl
def sl_pdqsortOrdered_int_b (n:Nat) (rc:((List Int))→(Int)→(Int)→(Int)→Option (List Int)) (a0:(List Int)) (a1:Int) (a2:Int) (a3:Int):Option (List Int):=
 gPdqsort_b cmp_Less_int (fun r=>r) sl_nextPowerOfTwo sl_xorshift_Next n rc a0 a1 a2 a3
def sl_pdqsortOrdered_int_rg (rc:((List Int))→(Int)→(Int)→(Int)→Option (List Int)):Sig xx:=⟨[.mut (.int .i64),.d (.int .i64),.d (.int .i64),.d (.int .i64)],[.mu (.int .i64)],fun a=>rc a.1 a.2.1 a.2.2.1 a.2.2.2.1,none⟩
def sl_pdqsortOrdered_int_h:Hn SI:=(.s .z (.s .z (.b (.lx ⟨[(1,(.v (.int .i64))),(2,(.v (.int .i64))),(3,(.v (.int .i64))),(8,(.v .bool)),(9,(.v .bool))],[(0,.l (.int .i64))],[0],[],1128,[]⟩ 999999 ⟨[],[],[],[],1128,[]⟩ (.b (.s .z (.s .z (.s .z (.s (.j ⟨[(3,(.v (.int .i64)))],[(0,.l (.int .i64))],[0,1,2,8,9,10],[],1640,[]⟩ .z) (.s .z (.s (.j ⟨[(11,(.v (.int .i64))),(12,(.v (.int .i64)))],[(0,.l (.int .i64))],[0,1,2,3,8,9,10],[],2216,[]⟩ .z) (.s (.jx ⟨[],[(0,.l (.int .i64))],[0,1,2,3,8,9,10,11],[],2216,[]⟩ (.s (.j ⟨[(68,(.v .bool))],[],[0,1,2,3,8,9,10,11],[0],2216,[]⟩ .z) .z)) (.s (.s (.j ⟨[(87,(.v .bool))],[],[0,1,2,3,8,9,10,11],[0],2216,[]⟩ .z) .z) .z)))))))))))))
theorem sl_pdqsortOrdered_int_bc (n:Nat) (rc:((List Int))→(Int)→(Int)→(Int)→Option (List Int)) (hr:COk Tryz.prog 38 (sl_pdqsortOrdered_int_rg rc)):COk Tryz.prog 38 (sl_pdqsortOrdered_int_rg (sl_pdqsortOrdered_int_b n rc)):=
 cq (gam_cons (sl_insertionSortOrdered_int_c n) (gam_cons (sl_heapSortOrdered_int_c n) (gam_cons (sl_breakPatternsOrdered_int_c n) (gam_cons sl_choosePivotOrdered_int_c (gam_cons (sl_reverseRangeOrdered_int_c n) (gam_cons (sl_partialInsertionSortOrdered_int_c n) (gam_cons cmp_Less_int_c (gam_cons (sl_partitionEqualOrdered_int_c n) (gam_cons (sl_partitionOrdered_int_c n) (gam_cons hr gam_nil)))))))))) Tryz.func38 sl_pdqsortOrdered_int_h n (by kernel_rfl) rfl fun _=>by kernel_rfl
def sl_pdqsortOrdered_int_m (n:Nat):Nat→((List Int))→(Int)→(Int)→(Int)→Option (List Int)
 | 0=>fun _ _ _ _=>none
 |m+1=>sl_pdqsortOrdered_int_b n (sl_pdqsortOrdered_int_m n m)
theorem sl_pdqsortOrdered_int_mc (n:Nat):∀ m,COk Tryz.prog 38 (sl_pdqsortOrdered_int_rg (sl_pdqsortOrdered_int_m n m))
 | 0=>cok (callable_of Tryz.func38 (by kernel_rfl:Tryz.f38.body=some (Tryz.f38.body.getD .skip)) (by kernel_rfl)) (fun _ _ h=>(by cases h)) rfl
 |m+1=>sl_pdqsortOrdered_int_bc n _ (sl_pdqsortOrdered_int_mc n m)
def sl_pdqsortOrdered_int (n:Nat) (a0:(List Int)) (a1:Int) (a2:Int) (a3:Int):Option (List Int):=sl_pdqsortOrdered_int_m n n a0 a1 a2 a3
def sl_pdqsortOrdered_int_g (n:Nat):Sig xx:=⟨[.mut (.int .i64),.d (.int .i64),.d (.int .i64),.d (.int .i64)],[.mu (.int .i64)],fun a=>sl_pdqsortOrdered_int n a.1 a.2.1 a.2.2.1 a.2.2.2.1,none⟩
theorem sl_pdqsortOrdered_int_c (n:Nat):COk Tryz.prog 38 (sl_pdqsortOrdered_int_g n):=sl_pdqsortOrdered_int_mc n n
def sl_Sort_int (n:Nat) (a0:(List Int)):Option (List Int):=
 (bits_Len (IntKind.u64.wrap ((a0.length:Nat):Int))).bind fun r1=>bif eqL a0.length a0.length then (sl_pdqsortOrdered_int n a0 0 ((a0.length:Nat):Int) r1).bind fun r2=>some r2 else none
def sl_Sort_int_g (n:Nat):Sig xx:=⟨[.mut (.int .i64)],[.mu (.int .i64)],fun a=>sl_Sort_int n a.1,none⟩
def sl_Sort_int_h:Hn SI:= .z
theorem sl_Sort_int_c (n:Nat):COk Tryz.prog 19 (sl_Sort_int_g n):=
 cq (gam_cons bits_Len_c (gam_cons (sl_pdqsortOrdered_int_c n) gam_nil)) Tryz.func19 sl_Sort_int_h n (by kernel_rfl) rfl fun _=>by kernel_rfl
def sl_Compact_int_s2 (a0:(List Int)) (v1:Int):(Int×Int×(List Int))→Option ((Int×Int×(List Int)) ⊕ (Int×(List Int)))
 |(v2,v3,v4)=>(bif (decide (v3 < ((((a0.length - (v1:Int).toNat):Nat):Int):Int)))then (bif inb v3 (a0.length - (v1:Int).toNat)then (at? v4 (((0+(v1:Int).toNat):Nat)+v3:Int)).bind fun x3=>bif inb (i64.wrap (v3 - 1)) (a0.length - (v1:Int).toNat)then (at? v4 (((0+(v1:Int).toNat):Nat)+(i64.wrap (v3 - 1)):Int)).bind fun x4=>(bif (x3 != (x4:Int))then bif inb v3 (a0.length - (v1:Int).toNat)then (at? v4 (((0+(v1:Int).toNat):Nat)+v3:Int)).bind fun x5=>bif inb v2 a0.length then (at? v4 ((0:Nat)+v2:Int)).bind fun x6=>some ((i64.wrap (v2+1)),(v4.set ((0:Nat)+v2:Int).toNat x5))else none else none else some (v2,v4))else none else none:Option (Int×(List Int))).bind fun (v5,v6)=>some (.inl (v5,(i64.wrap (v3+1)),v6))else some (.inr (v2,v4)))
def sl_Compact_int_s1 (n:Nat) (a0:(List Int)):Int→Option (Int ⊕ (Unit ⊕ (Unit×(List Int))))
 |v1=>(bif (decide (v1 < (((a0.length:Nat):Int):Int)))then bif inb v1 a0.length then (at? a0 ((0:Nat)+v1:Int)).bind fun x1=>bif inb (i64.wrap (v1 - 1)) a0.length then (at? a0 ((0:Nat)+(i64.wrap (v1 - 1)):Int)).bind fun x2=>(bif (x1==(x2:Int))then bif slOk v1 ((a0.length:Nat):Int) a0.length then (iter (sl_Compact_int_s2 a0 v1) n (v1,(1:Int),a0)).bind fun (w1,w2)=>bif slOk w1 ((a0.length:Nat):Int) a0.length then bif slOk 0 w1 a0.length then (bif eqL ((w1:Int).toNat) ((w1:Int).toNat)then bif eqL (sub (w2.take (0+(w1:Int).toNat)) 0 ((w1:Int).toNat)).length ((w1:Int).toNat)then some ((),(sub (w2.take (0+(w1:Int).toNat)) 0 ((w1:Int).toNat)))else none else none).map fun a=> .inr (.inr a)else none else none else none else some (.inl (i64.wrap (v1+1))))else none else none else some (.inr (.inl ())))
def sl_Compact_int (n:Nat) (a0:(List Int)):Option (Unit×(List Int)):=
 (bif (decide (((a0.length:Nat):Int) < (2:Int)))then bif eqL a0.length a0.length then bif eqL (sub a0 0 a0.length).length a0.length then some ((),(sub a0 0 a0.length))else none else none else thenB (iter (sl_Compact_int_s1 n a0) n (1:Int)) fun ()=>bif eqL a0.length a0.length then bif eqL (sub a0 0 a0.length).length a0.length then some ((),(sub a0 0 a0.length))else none else none)
def sl_Compact_int_g (n:Nat):Sig xx:=⟨[.mut (.int .i64)],[.whole 0,.mu (.int .i64)],fun a=>sl_Compact_int n a.1,none⟩
def sl_Compact_int_h:Hn SI:=(.s .z (.s .z (.s (.s .z (.b (.lx ⟨[(3,(.v (.int .i64)))],[],[0],[0],1320,[]⟩ 0 ⟨[],[],[0],[0],1320,[]⟩ (.s .z (.s (.b (.s .z (.s (.s .z (.s (.s .z (.b (.l ⟨[(3,(.v (.int .i64))),(5,(.v (.int .i64)))],[(0,.l (.int .i64))],[0,4],[],2536,[]⟩ 2 ⟨[(3,(.v (.int .i64)))],[(0,.l (.int .i64))],[0],[],2536,[]⟩ (.s .z (.s (.j ⟨[(3,(.v (.int .i64)))],[(0,.l (.int .i64))],[0,4,5],[],2792,[]⟩ .z) .z))))) .z)) .z))) .z))))) .z)))
theorem sl_Compact_int_c (n:Nat):COk Tryz.prog 20 (sl_Compact_int_g n):=
 cq gam_nil Tryz.func20 sl_Compact_int_h n (by kernel_rfl) rfl fun _=>by kernel_rfl
def sl_insertionSortCmpFunc_span (n:Nat) (a0:(List Gspan)) (a1:Int) (a2:Int) (a3:(Gspan×Gspan×Unit)→Option Int):Option (List Gspan):=
 gInsertionSort (fun x y=>a3 (x,y,())) (fun r=>decide (r < 0)) n a0 a1 a2
def sl_insertionSortCmpFunc_span_g (n:Nat):Sig xx:=⟨[.mut (.st SI.span),.d (.int .i64),.d (.int .i64),.clo [(.st SI.span),(.st SI.span)] (.int .i64)],[.mu (.st SI.span)],fun a=>sl_insertionSortCmpFunc_span n a.1 a.2.1 a.2.2.1 a.2.2.2.1,none⟩
def sl_insertionSortCmpFunc_span_h:Hn SI:=(.s .z (.b (.l ⟨[(8,(.v (.int .i64)))],[(0,.l (.st SI.span))],[0,1,2,3],[],1192,[]⟩ 0 ⟨[],[(0,.l (.st SI.span))],[],[],1192,[]⟩ (.s .z (.s (.b (.s .z (.b (.l ⟨[(9,(.v (.int .i64)))],[(0,.l (.st SI.span))],[0,1,2,3,8],[],1512,[]⟩ 2 ⟨[],[(0,.l (.st SI.span))],[0,1,2,3,8],[],1512,[]⟩ (.s (.s (.j ⟨[(34,(.v .bool))],[],[0,1,2,3,8,9],[0],1512,[]⟩ .z) .z) .z))))) .z)))))
theorem sl_insertionSortCmpFunc_span_c (n:Nat):COk Tryz.prog 126 (sl_insertionSortCmpFunc_span_g n):=
 cq gam_nil Tryz.func126 sl_insertionSortCmpFunc_span_h n (by kernel_rfl) rfl fun _=>by kernel_rfl
def sl_siftDownCmpFunc_span (n:Nat) (a0:(List Gspan)) (a1:Int) (a2:Int) (a3:Int) (a4:(Gspan×Gspan×Unit)→Option Int):Option (List Gspan):=
 gSiftDown (fun x y=>a4 (x,y,())) (fun r=>decide (r < 0)) n a0 a1 a2 a3
def sl_siftDownCmpFunc_span_g (n:Nat):Sig xx:=⟨[.mut (.st SI.span),.d (.int .i64),.d (.int .i64),.d (.int .i64),.clo [(.st SI.span),(.st SI.span)] (.int .i64)],[.mu (.st SI.span)],fun a=>sl_siftDownCmpFunc_span n a.1 a.2.1 a.2.2.1 a.2.2.2.1 a.2.2.2.2.1,none⟩
def sl_siftDownCmpFunc_span_h:Hn SI:=(.s .z (.b (.lx ⟨[(10,(.v (.int .i64)))],[(0,.l (.st SI.span))],[0,2,3,4],[],1128,[]⟩ 0 ⟨[],[(0,.l (.st SI.span))],[],[],1128,[]⟩ (.b (.s .z (.s .z (.s (.j ⟨[(11,(.v (.int .i64)))],[],[0,2,3,4,10],[0],1576,[]⟩ (.s (.j ⟨[(40,(.v .bool))],[],[0,2,3,4,10,11],[0],1576,[]⟩ .z) .z)) .z)))))))
theorem sl_siftDownCmpFunc_span_c (n:Nat):COk Tryz.prog 134 (sl_siftDownCmpFunc_span_g n):=
 cq gam_nil Tryz.func134 sl_siftDownCmpFunc_span_h n (by kernel_rfl) rfl fun _=>by kernel_rfl
def sl_heapSortCmpFunc_span (n:Nat) (a0:(List Gspan)) (a1:Int) (a2:Int) (a3:(Gspan×Gspan×Unit)→Option Int):Option (List Gspan):=
 gHeapSort (fun x y=>a3 (x,y,())) (fun r=>decide (r < 0)) n a0 a1 a2
def sl_heapSortCmpFunc_span_g (n:Nat):Sig xx:=⟨[.mut (.st SI.span),.d (.int .i64),.d (.int .i64),.clo [(.st SI.span),(.st SI.span)] (.int .i64)],[.mu (.st SI.span)],fun a=>sl_heapSortCmpFunc_span n a.1 a.2.1 a.2.2.1 a.2.2.2.1,none⟩
def sl_heapSortCmpFunc_span_h:Hn SI:=(.s .z (.s .z (.s .z (.s (.s .z (.b (.l ⟨[(11,(.v (.int .i64)))],[(0,.l (.st SI.span))],[0,3,8,9,10],[],1704,[]⟩ 0 ⟨[],[(0,.l (.st SI.span))],[0,3,8,9,10],[],1704,[]⟩ .z))) (.s .z (.b (.l ⟨[(12,(.v (.int .i64)))],[(0,.l (.st SI.span))],[0,3,8,9],[],1896,[]⟩ 2 ⟨[],[(0,.l (.st SI.span))],[],[],1896,[]⟩ .z)))))))
theorem sl_heapSortCmpFunc_span_c (n:Nat):COk Tryz.prog 127 (sl_heapSortCmpFunc_span_g n):=
 cq (gam_cons (sl_siftDownCmpFunc_span_c n) gam_nil) Tryz.func127 sl_heapSortCmpFunc_span_h n (by kernel_rfl) rfl fun _=>by kernel_rfl
def sl_breakPatternsCmpFunc_span (n:Nat) (a0:(List Gspan)) (a1:Int) (a2:Int) (a3:(Gspan×Gspan×Unit)→Option Int):Option (List Gspan):=
 gBreakPatterns sl_nextPowerOfTwo sl_xorshift_Next n a0 a1 a2
def sl_breakPatternsCmpFunc_span_g (n:Nat):Sig xx:=⟨[.mut (.st SI.span),.d (.int .i64),.d (.int .i64),.clo [(.st SI.span),(.st SI.span)] (.int .i64)],[.mu (.st SI.span)],fun a=>sl_breakPatternsCmpFunc_span n a.1 a.2.1 a.2.2.1 a.2.2.2.1,none⟩
def sl_breakPatternsCmpFunc_span_h:Hn SI:=(.s .z (.s .z (.s (.s .z (.s .z (.s .z (.b (.l ⟨[(11,(.v (.int .i64)))],[(0,.l (.st SI.span)),(1512,.c 1 [[(.v (.int .u64))]])],[0,1,8,9,10],[],2280,[]⟩ 0 ⟨[],[(0,.l (.st SI.span))],[],[],2280,[]⟩ (.s .z (.s (.b (.s .z (.s (.j ⟨[(12,(.v (.int .i64)))],[],[0,1,8,9,10,11],[0,1512],3176,[]⟩ .z) .z))) .z))))))) .z)))
theorem sl_breakPatternsCmpFunc_span_c (n:Nat):COk Tryz.prog 128 (sl_breakPatternsCmpFunc_span_g n):=
 cq (gam_cons sl_nextPowerOfTwo_c (gam_cons sl_xorshift_Next_c gam_nil)) Tryz.func128 sl_breakPatternsCmpFunc_span_h n (by kernel_rfl) rfl fun _=>by kernel_rfl
def sl_order2CmpFunc_span (a0:(List Gspan)) (a1:Int) (a2:Int) (a3:Int) (a4:(Gspan×Gspan×Unit)→Option Int):Option (Int×Int×Int):=
 gOrder2 (fun x y=>a4 (x,y,())) (fun r=>decide (r < 0)) a0 a1 a2 a3
def sl_order2CmpFunc_span_g:Sig xx:=⟨[.d (.sl (.st SI.span)),.d (.int .i64),.d (.int .i64),.mref (.int .i64),.clo [(.st SI.span),(.st SI.span)] (.int .i64)],[.d (.int .i64),.d (.int .i64),.mr (.int .i64)],fun a=>sl_order2CmpFunc_span a.1 a.2.1 a.2.2.1 a.2.2.2.1 a.2.2.2.2.1,none⟩
def sl_order2CmpFunc_span_h:Hn SI:= .z
theorem sl_order2CmpFunc_span_c:COk Tryz.prog 137 sl_order2CmpFunc_span_g:=
 cq gam_nil Tryz.func137 sl_order2CmpFunc_span_h 0 (by kernel_rfl) rfl fun _=>by kernel_rfl
def sl_medianCmpFunc_span (a0:(List Gspan)) (a1:Int) (a2:Int) (a3:Int) (a4:Int) (a5:(Gspan×Gspan×Unit)→Option Int):Option (Int×Int):=
 gMedian (fun x y=>a5 (x,y,())) (fun r=>decide (r < 0)) a0 a1 a2 a3 a4
def sl_medianCmpFunc_span_g:Sig xx:=⟨[.d (.sl (.st SI.span)),.d (.int .i64),.d (.int .i64),.d (.int .i64),.mref (.int .i64),.clo [(.st SI.span),(.st SI.span)] (.int .i64)],[.d (.int .i64),.mr (.int .i64)],fun a=>sl_medianCmpFunc_span a.1 a.2.1 a.2.2.1 a.2.2.2.1 a.2.2.2.2.1 a.2.2.2.2.2.1,none⟩
def sl_medianCmpFunc_span_h:Hn SI:= .z
theorem sl_medianCmpFunc_span_c:COk Tryz.prog 136 sl_medianCmpFunc_span_g:=
 cq (gam_cons sl_order2CmpFunc_span_c gam_nil) Tryz.func136 sl_medianCmpFunc_span_h 0 (by kernel_rfl) rfl fun _=>by kernel_rfl
def sl_medianAdjacentCmpFunc_span (a0:(List Gspan)) (a1:Int) (a2:Int) (a3:(Gspan×Gspan×Unit)→Option Int):Option (Int×Int):=
 gMedianAdjacent (fun x y=>a3 (x,y,())) (fun r=>decide (r < 0)) a0 a1 a2
def sl_medianAdjacentCmpFunc_span_g:Sig xx:=⟨[.d (.sl (.st SI.span)),.d (.int .i64),.mref (.int .i64),.clo [(.st SI.span),(.st SI.span)] (.int .i64)],[.d (.int .i64),.mr (.int .i64)],fun a=>sl_medianAdjacentCmpFunc_span a.1 a.2.1 a.2.2.1 a.2.2.2.1,none⟩
def sl_medianAdjacentCmpFunc_span_h:Hn SI:= .z
theorem sl_medianAdjacentCmpFunc_span_c:COk Tryz.prog 135 sl_medianAdjacentCmpFunc_span_g:=
 cq (gam_cons sl_medianCmpFunc_span_c gam_nil) Tryz.func135 sl_medianAdjacentCmpFunc_span_h 0 (by kernel_rfl) rfl fun _=>by kernel_rfl
def sl_choosePivotCmpFunc_span (a0:(List Gspan)) (a1:Int) (a2:Int) (a3:(Gspan×Gspan×Unit)→Option Int):Option (Int×Int):=
 gChoosePivot (fun x y=>a3 (x,y,())) (fun r=>decide (r < 0)) a0 a1 a2
def sl_choosePivotCmpFunc_span_g:Sig xx:=⟨[.d (.sl (.st SI.span)),.d (.int .i64),.d (.int .i64),.clo [(.st SI.span),(.st SI.span)] (.int .i64)],[.d (.int .i64),.d (.int .i64)],fun a=>sl_choosePivotCmpFunc_span a.1 a.2.1 a.2.2.1 a.2.2.2.1,none⟩
def sl_choosePivotCmpFunc_span_h:Hn SI:=(.s .z (.s .z (.s .z (.s .z (.s .z (.s .z (.s (.j ⟨[(13,(.v (.int .i64)))],[(1384,.c 1 [[(.v (.int .i64))]])],[11],[],2600,[]⟩ (.s .z (.s (.s (.j ⟨[(12,(.v (.int .i64))),(13,(.v (.int .i64))),(14,(.v (.int .i64)))],[(1384,.c 1 [[(.v (.int .i64))]])],[0,3,11],[],2728,[]⟩ .z) .z) .z))) .z)))))))
theorem sl_choosePivotCmpFunc_span_c:COk Tryz.prog 129 sl_choosePivotCmpFunc_span_g:=
 cq (gam_cons sl_medianAdjacentCmpFunc_span_c (gam_cons sl_medianCmpFunc_span_c gam_nil)) Tryz.func129 sl_choosePivotCmpFunc_span_h 0 (by kernel_rfl) rfl fun _=>by kernel_rfl
def sl_reverseRangeCmpFunc_span (n:Nat) (a0:(List Gspan)) (a1:Int) (a2:Int) (a3:(Gspan×Gspan×Unit)→Option Int):Option (List Gspan):=
 gReverseRange n a0 a1 a2
def sl_reverseRangeCmpFunc_span_g (n:Nat):Sig xx:=⟨[.mut (.st SI.span),.d (.int .i64),.d (.int .i64),.clo [(.st SI.span),(.st SI.span)] (.int .i64)],[.mu (.st SI.span)],fun a=>sl_reverseRangeCmpFunc_span n a.1 a.2.1 a.2.2.1 a.2.2.2.1,none⟩
def sl_reverseRangeCmpFunc_span_h:Hn SI:=(.s .z (.s .z (.b (.l ⟨[(8,(.v (.int .i64))),(9,(.v (.int .i64)))],[(0,.l (.st SI.span))],[0],[],1320,[]⟩ 0 ⟨[],[(0,.l (.st SI.span))],[],[],1320,[]⟩ .z))))
theorem sl_reverseRangeCmpFunc_span_c (n:Nat):COk Tryz.prog 130 (sl_reverseRangeCmpFunc_span_g n):=
 cq gam_nil Tryz.func130 sl_reverseRangeCmpFunc_span_h n (by kernel_rfl) rfl fun _=>by kernel_rfl
def sl_partialInsertionSortCmpFunc_span (n:Nat) (a0:(List Gspan)) (a1:Int) (a2:Int) (a3:(Gspan×Gspan×Unit)→Option Int):Option (Bool×(List Gspan)):=
 gPartialInsertionSort (fun x y=>a3 (x,y,())) (fun r=>decide (r < 0)) n a0 a1 a2
def sl_partialInsertionSortCmpFunc_span_g (n:Nat):Sig xx:=⟨[.mut (.st SI.span),.d (.int .i64),.d (.int .i64),.clo [(.st SI.span),(.st SI.span)] (.int .i64)],[.d .bool,.mu (.st SI.span)],fun a=>sl_partialInsertionSortCmpFunc_span n a.1 a.2.1 a.2.2.1 a.2.2.2.1,none⟩
def sl_partialInsertionSortCmpFunc_span_h:Hn SI:=(.s .z (.s .z (.s (.s .z (.b (.lx ⟨[(9,(.v (.int .i64))),(10,(.v (.int .i64)))],[(0,.l (.st SI.span))],[0,1,2,3],[],1320,[]⟩ 0 ⟨[],[(0,.l (.st SI.span))],[],[],1320,[]⟩ (.s .z (.s (.jx ⟨[(9,(.v (.int .i64)))],[(0,.l (.st SI.span))],[0,1,2,3,10],[],1448,[]⟩ (.b (.s (.b (.l ⟨[(9,(.v (.int .i64)))],[],[0,1,2,3,10],[0],1448,[]⟩ 2 ⟨[(9,(.v (.int .i64)))],[],[0,1,2,3,10],[0],1448,[]⟩ (.s (.s (.j ⟨[(36,(.v .bool))],[],[0,1,2,3,9,10],[0],1448,[]⟩ .z) .z) .z))) (.s .z (.s .z (.s .z (.s (.j ⟨[],[(0,.l (.st SI.span))],[0,1,2,3,9,10],[],3048,[]⟩ (.s .z (.s (.s .z (.b (.l ⟨[(11,(.v (.int .i64)))],[(0,.l (.st SI.span))],[0,1,2,3,9,10],[],3496,[]⟩ 4 ⟨[],[(0,.l (.st SI.span))],[0,1,2,3,9,10],[],3496,[]⟩ .z))) .z))) (.s .z (.s (.s .z (.b (.l ⟨[(12,(.v (.int .i64)))],[(0,.l (.st SI.span))],[0,1,2,3,9,10],[],3496,[]⟩ 6 ⟨[],[(0,.l (.st SI.span))],[0,1,2,3,9,10],[],3496,[]⟩ .z))) .z))))))))) .z))))) .z)))
theorem sl_partialInsertionSortCmpFunc_span_c (n:Nat):COk Tryz.prog 131 (sl_partialInsertionSortCmpFunc_span_g n):=
 cq gam_nil Tryz.func131 sl_partialInsertionSortCmpFunc_span_h n (by kernel_rfl) rfl fun _=>by kernel_rfl
def sl_partitionEqualCmpFunc_span (n:Nat) (a0:(List Gspan)) (a1:Int) (a2:Int) (a3:Int) (a4:(Gspan×Gspan×Unit)→Option Int):Option (Int×(List Gspan)):=
 gPartitionEqual (fun x y=>a4 (x,y,())) (fun r=>decide (r < 0)) n a0 a1 a2 a3
def sl_partitionEqualCmpFunc_span_g (n:Nat):Sig xx:=⟨[.mut (.st SI.span),.d (.int .i64),.d (.int .i64),.d (.int .i64),.clo [(.st SI.span),(.st SI.span)] (.int .i64)],[.d (.int .i64),.mu (.st SI.span)],fun a=>sl_partitionEqualCmpFunc_span n a.1 a.2.1 a.2.2.1 a.2.2.2.1 a.2.2.2.2.1,none⟩
def sl_partitionEqualCmpFunc_span_h:Hn SI:=(.s .z (.s .z (.s .z (.s (.b (.l ⟨[(11,(.v (.int .i64))),(12,(.v (.int .i64)))],[(0,.l (.st SI.span))],[0,1,4],[],2472,[]⟩ 0 ⟨[(11,(.v (.int .i64)))],[(0,.l (.st SI.span))],[],[],2472,[]⟩ (.b (.s (.b (.l ⟨[(11,(.v (.int .i64)))],[],[0,1,4,12],[0],2472,[]⟩ 2 ⟨[(11,(.v (.int .i64)))],[],[0,1,4,12],[0],2472,[]⟩ (.s (.s (.j ⟨[(47,(.v .bool))],[],[0,1,4,11,12],[0],2472,[]⟩ .z) .z) .z))) (.s (.b (.l ⟨[(12,(.v (.int .i64)))],[],[0,1,4,11],[0],2472,[]⟩ 4 ⟨[(12,(.v (.int .i64)))],[],[0,1,4,11],[0],2472,[]⟩ (.s (.s (.j ⟨[(65,(.v .bool))],[],[0,1,4,11,12],[0],2472,[]⟩ .z) .z) .z))) .z))))) .z))))
theorem sl_partitionEqualCmpFunc_span_c (n:Nat):COk Tryz.prog 132 (sl_partitionEqualCmpFunc_span_g n):=
 cq gam_nil Tryz.func132 sl_partitionEqualCmpFunc_span_h n (by kernel_rfl) rfl fun _=>by kernel_rfl
def sl_partitionCmpFunc_span (n:Nat) (a0:(List Gspan)) (a1:Int) (a2:Int) (a3:Int) (a4:(Gspan×Gspan×Unit)→Option Int):Option (Int×Bool×(List Gspan)):=
 gPartition (fun x y=>a4 (x,y,())) (fun r=>decide (r < 0)) n a0 a1 a2 a3
def sl_partitionCmpFunc_span_g (n:Nat):Sig xx:=⟨[.mut (.st SI.span),.d (.int .i64),.d (.int .i64),.d (.int .i64),.clo [(.st SI.span),(.st SI.span)] (.int .i64)],[.d (.int .i64),.d .bool,.mu (.st SI.span)],fun a=>sl_partitionCmpFunc_span n a.1 a.2.1 a.2.2.1 a.2.2.2.1 a.2.2.2.2.1,none⟩
def sl_partitionCmpFunc_span_h:Hn SI:=(.s .z (.s .z (.s .z (.s (.b (.l ⟨[(12,(.v (.int .i64)))],[],[0,1,4,13],[0],2536,[]⟩ 0 ⟨[(12,(.v (.int .i64)))],[],[0,1,4,13],[0],2536,[]⟩ (.s (.s (.j ⟨[(47,(.v .bool))],[],[0,1,4,12,13],[0],2536,[]⟩ .z) .z) .z))) (.s (.b (.l ⟨[(13,(.v (.int .i64)))],[],[0,1,4,12],[0],2536,[]⟩ 2 ⟨[(13,(.v (.int .i64)))],[],[0,1,4,12],[0],2536,[]⟩ (.s (.s (.j ⟨[(66,(.v .bool))],[],[0,1,4,12,13],[0],2536,[]⟩ .z) .z) .z))) (.s .z (.s .z (.s .z (.s .z (.s (.b (.l ⟨[(12,(.v (.int .i64))),(13,(.v (.int .i64)))],[(0,.l (.st SI.span))],[0,1,4],[],4136,[]⟩ 4 ⟨[(13,(.v (.int .i64)))],[(0,.l (.st SI.span))],[0,1],[],4136,[]⟩ (.b (.s (.b (.l ⟨[(12,(.v (.int .i64)))],[],[0,1,4,13],[0],4136,[]⟩ 6 ⟨[(12,(.v (.int .i64)))],[],[0,1,4,13],[0],4136,[]⟩ (.s (.s (.j ⟨[(120,(.v .bool))],[],[0,1,4,12,13],[0],4136,[]⟩ .z) .z) .z))) (.s (.b (.l ⟨[(13,(.v (.int .i64)))],[],[0,1,4,12],[0],4136,[]⟩ 8 ⟨[(13,(.v (.int .i64)))],[],[0,1,4,12],[0],4136,[]⟩ (.s (.s (.j ⟨[(139,(.v .bool))],[],[0,1,4,12,13],[0],4136,[]⟩ .z) .z) .z))) .z))))) .z))))))))))
theorem sl_partitionCmpFunc_span_c (n:Nat):COk Tryz.prog 133 (sl_partitionCmpFunc_span_g n):=
 cq gam_nil Tryz.func133 sl_partitionCmpFunc_span_h n (by kernel_rfl) rfl fun _=>by kernel_rfl
def sl_pdqsortCmpFunc_span_b (n:Nat) (rc:((List Gspan))→(Int)→(Int)→(Int)→((Gspan×Gspan×Unit)→Option Int)→Option (List Gspan)) (a0:(List Gspan)) (a1:Int) (a2:Int) (a3:Int) (a4:(Gspan×Gspan×Unit)→Option Int):Option (List Gspan):=
 gPdqsort_b (fun x y=>a4 (x,y,())) (fun r=>decide (r < 0)) sl_nextPowerOfTwo sl_xorshift_Next n (fun l a b d=>rc l a b d a4) a0 a1 a2 a3
def sl_pdqsortCmpFunc_span_rg (rc:((List Gspan))→(Int)→(Int)→(Int)→((Gspan×Gspan×Unit)→Option Int)→Option (List Gspan)):Sig xx:=⟨[.mut (.st SI.span),.d (.int .i64),.d (.int .i64),.d (.int .i64),.clo [(.st SI.span),(.st SI.span)] (.int .i64)],[.mu (.st SI.span)],fun a=>rc a.1 a.2.1 a.2.2.1 a.2.2.2.1 a.2.2.2.2.1,none⟩
def sl_pdqsortCmpFunc_span_h:Hn SI:=(.s .z (.s .z (.b (.lx ⟨[(1,(.v (.int .i64))),(2,(.v (.int .i64))),(3,(.v (.int .i64))),(10,(.v .bool)),(11,(.v .bool))],[(0,.l (.st SI.span))],[0,4],[],1128,[]⟩ 999999 ⟨[],[],[],[],1128,[]⟩ (.b (.s .z (.s .z (.s .z (.s (.j ⟨[(3,(.v (.int .i64)))],[(0,.l (.st SI.span))],[0,1,2,4,10,11,12],[],1640,[]⟩ .z) (.s .z (.s (.j ⟨[(13,(.v (.int .i64))),(14,(.v (.int .i64)))],[(0,.l (.st SI.span))],[0,1,2,3,4,10,11,12],[],2280,[]⟩ .z) (.s (.jx ⟨[],[(0,.l (.st SI.span))],[0,1,2,3,4,10,11,12,13],[],2280,[]⟩ (.s (.j ⟨[(75,(.v .bool))],[],[0,1,2,3,4,10,11,12,13],[0],2280,[]⟩ .z) .z)) (.s (.s (.j ⟨[(97,(.v .bool))],[],[0,1,2,3,4,10,11,12,13],[0],2280,[]⟩ .z) .z) .z)))))))))))))
theorem sl_pdqsortCmpFunc_span_bc (n:Nat) (rc:((List Gspan))→(Int)→(Int)→(Int)→((Gspan×Gspan×Unit)→Option Int)→Option (List Gspan)) (hr:COk Tryz.prog 124 (sl_pdqsortCmpFunc_span_rg rc)):COk Tryz.prog 124 (sl_pdqsortCmpFunc_span_rg (sl_pdqsortCmpFunc_span_b n rc)):=
 cq (gam_cons (sl_insertionSortCmpFunc_span_c n) (gam_cons (sl_heapSortCmpFunc_span_c n) (gam_cons (sl_breakPatternsCmpFunc_span_c n) (gam_cons sl_choosePivotCmpFunc_span_c (gam_cons (sl_reverseRangeCmpFunc_span_c n) (gam_cons (sl_partialInsertionSortCmpFunc_span_c n) (gam_cons (sl_partitionEqualCmpFunc_span_c n) (gam_cons (sl_partitionCmpFunc_span_c n) (gam_cons hr gam_nil))))))))) Tryz.func124 sl_pdqsortCmpFunc_span_h n (by kernel_rfl) rfl fun _=>by kernel_rfl
def sl_pdqsortCmpFunc_span_m (n:Nat):Nat→((List Gspan))→(Int)→(Int)→(Int)→((Gspan×Gspan×Unit)→Option Int)→Option (List Gspan)
 | 0=>fun _ _ _ _ _=>none
 |m+1=>sl_pdqsortCmpFunc_span_b n (sl_pdqsortCmpFunc_span_m n m)
theorem sl_pdqsortCmpFunc_span_mc (n:Nat):∀ m,COk Tryz.prog 124 (sl_pdqsortCmpFunc_span_rg (sl_pdqsortCmpFunc_span_m n m))
 | 0=>cok (callable_of Tryz.func124 (by kernel_rfl:Tryz.f124.body=some (Tryz.f124.body.getD .skip)) (by kernel_rfl)) (fun _ _ h=>(by cases h)) rfl
 |m+1=>sl_pdqsortCmpFunc_span_bc n _ (sl_pdqsortCmpFunc_span_mc n m)
def sl_pdqsortCmpFunc_span (n:Nat) (a0:(List Gspan)) (a1:Int) (a2:Int) (a3:Int) (a4:(Gspan×Gspan×Unit)→Option Int):Option (List Gspan):=sl_pdqsortCmpFunc_span_m n n a0 a1 a2 a3 a4
def sl_pdqsortCmpFunc_span_g (n:Nat):Sig xx:=⟨[.mut (.st SI.span),.d (.int .i64),.d (.int .i64),.d (.int .i64),.clo [(.st SI.span),(.st SI.span)] (.int .i64)],[.mu (.st SI.span)],fun a=>sl_pdqsortCmpFunc_span n a.1 a.2.1 a.2.2.1 a.2.2.2.1 a.2.2.2.2.1,none⟩
theorem sl_pdqsortCmpFunc_span_c (n:Nat):COk Tryz.prog 124 (sl_pdqsortCmpFunc_span_g n):=sl_pdqsortCmpFunc_span_mc n n
def sl_SortFunc_span (n:Nat) (a0:(List Gspan)) (a1:(Gspan×Gspan×Unit)→Option Int):Option (List Gspan):=
 (bits_Len (IntKind.u64.wrap ((a0.length:Nat):Int))).bind fun r1=>bif eqL a0.length a0.length then (sl_pdqsortCmpFunc_span n a0 0 ((a0.length:Nat):Int) r1 a1).bind fun r2=>some r2 else none
def sl_SortFunc_span_g (n:Nat):Sig xx:=⟨[.mut (.st SI.span),.clo [(.st SI.span),(.st SI.span)] (.int .i64)],[.mu (.st SI.span)],fun a=>sl_SortFunc_span n a.1 a.2.1,none⟩
def sl_SortFunc_span_h:Hn SI:= .z
theorem sl_SortFunc_span_c (n:Nat):COk Tryz.prog 116 (sl_SortFunc_span_g n):=
 cq (gam_cons bits_Len_c (gam_cons (sl_pdqsortCmpFunc_span_c n) gam_nil)) Tryz.func116 sl_SortFunc_span_h n (by kernel_rfl) rfl fun _=>by kernel_rfl
def cmp_Compare_int (a0:Int) (a1:Int):Option Int:=
 (cmp_isNaN_int a0).bind fun r1=>(cmp_isNaN_int a1).bind fun r2=>(bif r1 then (bif r2 then some (0:Int)else some ((-1):Int))else (bif r2 then some (1:Int)else (bif (decide (a0 < (a1:Int)))then some ((-1):Int)else (bif (decide (a0>(a1:Int)))then some (1:Int)else some (0:Int)))))
def cmp_Compare_int_g:Sig xx:=⟨[.d (.int .i64),.d (.int .i64)],[.d (.int .i64)],fun a=>cmp_Compare_int a.1 a.2.1,none⟩
def cmp_Compare_int_h:Hn SI:= .z
theorem cmp_Compare_int_c:COk Tryz.prog 52 cmp_Compare_int_g:=
 cq (gam_cons cmp_isNaN_int_c gam_nil) Tryz.func52 cmp_Compare_int_h 0 (by kernel_rfl) rfl fun _=>by kernel_rfl
def rg_column_f1 (a0:Gspan) (a1:Gspan):Option Int:=
 (cmp_Compare_int a0.from_ a1.from_).bind fun r1=>some r1
def rg_column_f1_g:Sig xx:=⟨[.d (.st SI.span),.d (.st SI.span)],[.d (.int .i64)],fun a=>rg_column_f1 a.1 a.2.1,none⟩
def rg_column_f1_h:Hn SI:= .z
theorem rg_column_f1_c:COk Tryz.prog 117 rg_column_f1_g:=
 cq (gam_cons cmp_Compare_int_c gam_nil) Tryz.func117 rg_column_f1_h 0 (by kernel_rfl) rfl fun _=>by kernel_rfl
def rg_column_s1 (a0:(List GRect)) (a1:Int):(Int×(List Gspan))→Option ((Int×(List Gspan)) ⊕ (List Gspan))
 |(v1,v2)=>(bif (decide (v1 < ((a0.length:Int):Int)))then ((at? a0 v1).bind fun x1=>((bif (decide (x1.x0≤(a1:Int)))then some (decide (a1 < (x1.x1:Int)))else some false):Option (Bool)).bind fun v3=>(bif v3 then bif appOk v2.length v2.length (sub ([(Gspan.mk x1.y0 x1.y1)]:List Gspan) 0 1).length 1 16 then letv (v2++(sub ([(Gspan.mk x1.y0 x1.y1)]:List Gspan) 0 1)) fun r1=>bif eqL r1.length r1.length then some r1 else none else none else bif eqL v2.length v2.length then some v2 else none):Option ((List Gspan))).bind fun v4=>bif eqL v4.length v4.length then some (.inl ((i64.wrap (v1+1)),v4))else none else bif eqL v2.length v2.length then some (.inr v2)else none)
def rg_column_s2 (w1:(List Gspan)) (r2:(List Gspan)):(Int×(List Gspan))→Option ((Int×(List Gspan)) ⊕ (List Gspan))
 |(v5,v6)=>(bif (decide (v5 < (((w1.length:Nat):Int):Int)))then (bif inb v5 w1.length then (at? r2 ((0:Nat)+v5:Int)).bind fun x2=>((bif (decide (((v6.length:Nat):Int)>(0:Int)))then bif inb (i64.wrap (((v6.length:Nat):Int) - 1)) v6.length then (at? v6 ((0:Nat)+(i64.wrap (((v6.length:Nat):Int) - 1)):Int)).bind fun x3=>some (decide (x2.from_≤(x3.to:Int)))else none else some false):Option (Bool)).bind fun v7=>(bif v7 then bif inb (i64.wrap (((v6.length:Nat):Int) - 1)) v6.length then (at? v6 ((0:Nat)+(i64.wrap (((v6.length:Nat):Int) - 1)):Int)).bind fun x4=>bif inb (i64.wrap (((v6.length:Nat):Int) - 1)) v6.length then (at? v6 ((0:Nat)+(i64.wrap (((v6.length:Nat):Int) - 1)):Int)).bind fun x5=>bif eqL v6.length (v6.set ((0:Nat)+(i64.wrap (((v6.length:Nat):Int) - 1)):Int).toNat (Gspan.mk x5.from_ (max x4.to x2.to))).length then some (v6.set ((0:Nat)+(i64.wrap (((v6.length:Nat):Int) - 1)):Int).toNat (Gspan.mk x5.from_ (max x4.to x2.to)))else none else none else none else bif appOk v6.length v6.length (sub ([x2]:List Gspan) 0 1).length 1 16 then letv (v6++(sub ([x2]:List Gspan) 0 1)) fun r3=>bif eqL r3.length r3.length then some r3 else none else none)else none:Option ((List Gspan))).bind fun v8=>bif eqL v8.length v8.length then some (.inl ((i64.wrap (v5+1)),v8))else none else bif eqL v6.length v6.length then some (.inr v6)else none)
def rg_column (n:Nat) (a0:(List GRect)) (a1:Int):Option (List Gspan):=
 bif eqL 0 ([]:List Gspan).length then (iter (rg_column_s1 a0 a1) n ((0:Int),([]:List Gspan))).bind fun w1=>bif eqL w1.length w1.length then (sl_SortFunc_span n w1 (fun (y1:Gspan×Gspan×Unit)=>rg_column_f1 y1.1 y1.2.1)).bind fun r2=>bif eqL 0 ([]:List Gspan).length then (iter (rg_column_s2 w1 r2) n ((0:Int),([]:List Gspan))).bind fun w2=>bif eqL (sub w2 0 w2.length).length w2.length then some (sub w2 0 w2.length)else none else none else none else none
def rg_column_g (n:Nat):Sig xx:=⟨[.d (.sl (.st SI.Rect)),.d (.int .i64)],[.fresh (.st SI.span)],fun a=>rg_column n a.1 a.2.1,none⟩
def rg_column_h:Hn SI:=(.s .z (.s .z (.s (.s .z (.b (.l ⟨[(5,(.o 1320)),(14,(.v (.int .i64)))],[(1320,.l (.st SI.span))],[1,12,13],[],1321,[(5,(.st SI.span))]⟩ 0 ⟨[(5,(.o 1320))],[(1320,.l (.st SI.span))],[],[],1321,[]⟩ (.s .z (.s .z (.s (.j ⟨[(5,(.o 1385))],[(1385,.l (.st SI.span))],[1,12,13,14],[],1386,[]⟩ (.b (.s .z (.s (.j ⟨[(27,(.v .bool))],[],[1,5,7,12,13,14],[1320,1513],1641,[]⟩ .z) .z)))) .z)))))) (.s .z (.s .z (.s (.s .z (.b (.l ⟨[(8,(.o 1705)),(41,(.v (.int .i64)))],[(1705,.l (.st SI.span))],[39,40],[1320],1706,[(8,(.st SI.span))]⟩ 2 ⟨[(8,(.o 1705))],[(1705,.l (.st SI.span))],[],[],1706,[]⟩ (.s .z (.s .z (.s (.j ⟨[(8,(.o 1770))],[(1770,.l (.st SI.span))],[39,40,41],[1320],1771,[]⟩ (.b (.s .z (.s .z (.s (.j ⟨[(59,(.v .bool))],[],[8,10,11,39,40,41],[1320,1705,1898],2218,[]⟩ .z) .z))))) .z)))))) .z))))))
theorem rg_column_c (n:Nat):COk Tryz.prog 100 (rg_column_g n):=
 cq (gam_cons (sl_SortFunc_span_c n) (gam_cons rg_column_f1_c gam_nil)) Tryz.func100 rg_column_h n (by kernel_rfl) rfl fun _=>by kernel_rfl
def rg_strips_s1 (r1:(List GRect)):(Int×(List Int))→Option ((Int×(List Int)) ⊕ (List Int))
 |(v1,v2)=>(bif (decide (v1 < (((r1.length:Nat):Int):Int)))then bif inb v1 r1.length then (at? r1 ((0:Nat)+v1:Int)).bind fun x1=>bif appOk v2.length v2.length (sub ([x1.x0,x1.x1]:List Int) 0 2).length 2 8 then letv (v2++(sub ([x1.x0,x1.x1]:List Int) 0 2)) fun r2=>bif eqL r2.length r2.length then some (.inl ((i64.wrap (v1+1)),r2))else none else none else none else bif eqL v2.length v2.length then some (.inr v2)else none)
def rg_strips_s2 (n:Nat) (r1:(List GRect)) (r4:Unit×(List Int)):(Int×(List Gstrip))→Option ((Int×(List Gstrip)) ⊕ (List Gstrip))
 |(v3,v4)=>(bif (decide (v3 < (((r4.2.length:Nat):Int):Int)))then bif inb (i64.wrap (v3 - 1)) r4.2.length then (at? r4.2 ((0:Nat)+(i64.wrap (v3 - 1)):Int)).bind fun x2=>bif inb v3 r4.2.length then (at? r4.2 ((0:Nat)+v3:Int)).bind fun x3=>bif inb (i64.wrap (v3 - 1)) r4.2.length then (at? r4.2 ((0:Nat)+(i64.wrap (v3 - 1)):Int)).bind fun x4=>bif eqL (sub r1 0 r1.length).length r1.length then (rg_column n (sub r1 0 r1.length) x4).bind fun r5=>bif eqL (sub r5 0 r5.length).length r5.length then bif appOk v4.length v4.length (sub ([(Gstrip.mk x2 x3 (sub r5 0 r5.length))]:List Gstrip) 0 1).length 1 40 then letv (v4++(sub ([(Gstrip.mk x2 x3 (sub r5 0 r5.length))]:List Gstrip) 0 1)) fun r6=>bif eqL r6.length r6.length then some (.inl ((i64.wrap (v3+1)),r6))else none else none else none else none else none else none else none else bif eqL v4.length v4.length then some (.inr v4)else none)
def rg_strips (n:Nat) (a0:(List (List GRect))):Option (List Gstrip):=
 (sl_Concat_Rect n a0).bind fun r1=>bif eqL 0 ([]:List Int).length then (iter (rg_strips_s1 r1) n ((0:Int),([]:List Int))).bind fun w1=>bif eqL w1.length w1.length then (sl_Sort_int n w1).bind fun r3=>bif eqL w1.length r3.length then (sl_Compact_int n r3).bind fun r4=>bif eqL 0 ([]:List Gstrip).length then (iter (rg_strips_s2 n r1 r4) n ((1:Int),([]:List Gstrip))).bind fun w2=>bif eqL (sub w2 0 w2.length).length w2.length then some (sub w2 0 w2.length)else none else none else none else none else none
def rg_strips_g (n:Nat):Sig xx:=⟨[.d (.sl (.sl (.st SI.Rect)))],[.fresh (.st SI.strip)],fun a=>rg_strips n a.1,none⟩
def rg_strips_h:Hn SI:=(.s .z (.s .z (.s .z (.s (.s .z (.b (.l ⟨[(4,(.o 1512)),(13,(.v (.int .i64)))],[(1512,.l (.int .i64))],[3,11,12],[1128],1513,[(4,(.int .i64))]⟩ 0 ⟨[(4,(.o 1512))],[(1512,.l (.int .i64))],[3],[1128],1513,[]⟩ .z))) (.s .z (.s .z (.s .z (.s (.s .z (.b (.l ⟨[(7,(.o 1961)),(8,(.v (.int .i64)))],[(1961,.l (.st SI.strip))],[3,4],[1128,1512],1962,[(7,(.st SI.strip))]⟩ 2 ⟨[(7,(.o 1961))],[(1961,.l (.st SI.strip))],[],[],1962,[]⟩ .z))) .z))))))))
theorem rg_strips_c (n:Nat):COk Tryz.prog 82 (rg_strips_g n):=
 cq (gam_cons (sl_Concat_Rect_c n) (gam_cons (sl_Sort_int_c n) (gam_cons (sl_Compact_int_c n) (gam_cons (rg_column_c n) gam_nil)))) Tryz.func82 rg_strips_h n (by kernel_rfl) rfl fun _=>by kernel_rfl
def sl_Equal_span_s1 (a0:(List Gspan)) (a1:(List Gspan)):Int→Option (Int ⊕ (Unit ⊕ Bool))
 |v1=>(bif (decide (v1 < ((a0.length:Int):Int)))then (at? a0 v1).bind fun x1=>(at? a1 v1).bind fun x2=>(bif (!((x1.from_==(x2.from_:Int))&&((x1.to==(x2.to:Int))&&true)))then (some false).map fun a=> .inr (.inr a)else some (.inl (i64.wrap (v1+1))))else some (.inr (.inl ())))
def sl_Equal_span (n:Nat) (a0:(List Gspan)) (a1:(List Gspan)):Option Bool:=
 (bif ((a0.length:Int) != ((a1.length:Int):Int))then some false else thenB (iter (sl_Equal_span_s1 a0 a1) n (0:Int)) fun ()=>some true)
def sl_Equal_span_g (n:Nat):Sig xx:=⟨[.d (.sl (.st SI.span)),.d (.sl (.st SI.span))],[.d .bool],fun a=>sl_Equal_span n a.1 a.2.1,none⟩
def sl_Equal_span_h:Hn SI:=(.s .z (.s .z (.s (.s .z (.b (.lx ⟨[(13,(.v (.int .i64)))],[],[0,1,12],[],1576,[]⟩ 0 ⟨[],[],[],[],1576,[]⟩ .z))) .z)))
theorem sl_Equal_span_c (n:Nat):COk Tryz.prog 98 (sl_Equal_span_g n):=
 cq gam_nil Tryz.func98 sl_Equal_span_h n (by kernel_rfl) rfl fun _=>by kernel_rfl
def rg_write_s2 (n:Nat) (a0:(List Gstrip)) (v1:Int):Int→Option (Int ⊕ Int)
 |v3=>((bif (decide (v3 < ((a0.length:Int):Int)))then (at? a0 v3).bind fun x1=>(at? a0 v1).bind fun x2=>(sl_Equal_span n x1.column x2.column).bind fun r1=>some r1 else some false):Option (Bool)).bind fun v4=>(bif v4 then some (.inl (i64.wrap (v3+1)))else some (.inr v3))
def rg_write_s3 (a0:(List Gstrip)) (v1:Int) (w1:Int) (x3:Gstrip):(Int×(List GRect))→Option ((Int×(List GRect)) ⊕ (List GRect))
 |(v5,v6)=>(bif (decide (v5 < ((x3.column.length:Int):Int)))then (at? x3.column v5).bind fun x4=>(at? a0 v1).bind fun x5=>(at? a0 (i64.wrap (w1 - 1))).bind fun x6=>bif appOk v6.length v6.length (sub ([(GRect.mk x5.x0 x4.from_ x6.x1 x4.to)]:List GRect) 0 1).length 1 32 then letv (v6++(sub ([(GRect.mk x5.x0 x4.from_ x6.x1 x4.to)]:List GRect) 0 1)) fun r2=>bif eqL r2.length r2.length then some (.inl ((i64.wrap (v5+1)),r2))else none else none else bif eqL v6.length v6.length then some (.inr v6)else none)
def rg_write_s1 (n:Nat) (a0:(List Gstrip)):(Int×(List GRect))→Option ((Int×(List GRect)) ⊕ (List GRect))
 |(v1,v2)=>(bif (decide (v1 < ((a0.length:Int):Int)))then (iter (rg_write_s2 n a0 v1) n (i64.wrap (v1+1))).bind fun w1=>(at? a0 v1).bind fun x3=>bif eqL v2.length v2.length then (iter (rg_write_s3 a0 v1 w1 x3) n ((0:Int),v2)).bind fun w2=>bif eqL w2.length w2.length then some (.inl (w1,w2))else none else none else bif eqL v2.length v2.length then some (.inr v2)else none)
def rg_write (n:Nat) (a0:(List Gstrip)):Option (List GRect):=
 bif eqL 0 ([]:List GRect).length then (iter (rg_write_s1 n a0) n ((0:Int),([]:List GRect))).bind fun w3=>bif eqL (sub w3 0 w3.length).length w3.length then some (sub w3 0 w3.length)else none else none
def rg_write_g (n:Nat):Sig xx:=⟨[.d (.sl (.st SI.strip))],[.fresh (.st SI.Rect)],fun a=>rg_write n a.1,none⟩
def rg_write_h:Hn SI:=(.s .z (.s .z (.s (.s .z (.b (.l ⟨[(3,(.o 1192)),(4,(.v (.int .i64)))],[(1192,.l (.st SI.Rect))],[0],[],1193,[(3,(.st SI.Rect))]⟩ 0 ⟨[(3,(.o 1192))],[(1192,.l (.st SI.Rect))],[],[],1193,[]⟩ (.s .z (.b (.s .z (.s (.b (.l ⟨[(5,(.v (.int .i64)))],[],[0,3,4],[1192],1641,[]⟩ 2 ⟨[(5,(.v (.int .i64)))],[],[0,3,4],[1192],1641,[]⟩ (.s (.s (.j ⟨[(30,(.v .bool))],[],[0,3,4,5],[1192],1641,[]⟩ .z) .z) .z))) (.s (.s .z (.b (.l ⟨[(3,(.o 2089)),(39,(.v (.int .i64)))],[(2089,.l (.st SI.Rect))],[0,4,5,37,38],[],2090,[]⟩ 4 ⟨[(3,(.o 2089))],[(2089,.l (.st SI.Rect))],[0,5],[],2090,[]⟩ .z))) .z)))))))) .z)))
theorem rg_write_c (n:Nat):COk Tryz.prog 81 (rg_write_g n):=
 cq (gam_cons (sl_Equal_span_c n) gam_nil) Tryz.func81 rg_write_h n (by kernel_rfl) rfl fun _=>by kernel_rfl
def rg_limited (a0:(List GRect)):Option ((List GRect)×Int):=
 (bif (decide ((a0.length:Int)>(200:Int)))then some (([]:(List GRect)),(6:Int))else some (a0,(0:Int)))
def rg_limited_g:Sig xx:=⟨[.d (.sl (.st SI.Rect))],[.d (.sl (.st SI.Rect)),.d (.int .i64)],fun a=>rg_limited a.1,none⟩
def rg_limited_h:Hn SI:= .z
theorem rg_limited_c:COk Tryz.prog 80 rg_limited_g:=
 cq gam_nil Tryz.func80 rg_limited_h 0 (by kernel_rfl) rfl fun _=>by kernel_rfl
def rg_Of_s1 (a0:(List GRect)):Int→Option (Int ⊕ (Unit ⊕ ((List GRect)×Int)))
 |v1=>(bif (decide (v1 < ((a0.length:Int):Int)))then (at? a0 v1).bind fun x1=>(r_Right x1).bind fun r1=>(bif (!r1)then (some (([]:(List GRect)),(1:Int))).map fun a=> .inr (.inr a)else some (.inl (i64.wrap (v1+1))))else some (.inr (.inl ())))
def rg_Of (n:Nat) (a0:(List GRect)):Option ((List GRect)×Int):=
 thenB (iter (rg_Of_s1 a0) n (0:Int)) fun ()=>(bif (decide ((a0.length:Int)>(400:Int)))then some (([]:(List GRect)),(6:Int))else bif eqL (sub ([a0]:List (List GRect)) 0 1).length 1 then (rg_strips n (sub ([a0]:List (List GRect)) 0 1)).bind fun r2=>bif eqL (sub r2 0 r2.length).length r2.length then (rg_write n (sub r2 0 r2.length)).bind fun r3=>bif eqL (sub r3 0 r3.length).length r3.length then (rg_limited (sub r3 0 r3.length)).bind fun r4=>some (r4.1,r4.2)else none else none else none)
def rg_Of_g (n:Nat):Sig xx:=⟨[.d (.sl (.st SI.Rect))],[.d (.sl (.st SI.Rect)),.d (.int .i64)],fun a=>rg_Of n a.1,none⟩
def rg_Of_h:Hn SI:=(.s .z (.s (.s .z (.b (.lx ⟨[(8,(.v (.int .i64)))],[],[0,6,7],[],1320,[]⟩ 0 ⟨[],[],[0],[],1320,[]⟩ .z))) .z))
theorem rg_Of_c (n:Nat):COk Tryz.prog 42 (rg_Of_g n):=
 cq (gam_cons r_Right_c (gam_cons (rg_strips_c n) (gam_cons (rg_write_c n) (gam_cons rg_limited_c gam_nil)))) Tryz.func42 rg_Of_h n (by kernel_rfl) rfl fun _=>by kernel_rfl
def sl_Equal_Rect_s1 (a0:(List GRect)) (a1:(List GRect)):Int→Option (Int ⊕ (Unit ⊕ Bool))
 |v1=>(bif (decide (v1 < ((a0.length:Int):Int)))then (at? a0 v1).bind fun x1=>(at? a1 v1).bind fun x2=>(bif (!((x1.x0==(x2.x0:Int))&&((x1.y0==(x2.y0:Int))&&((x1.x1==(x2.x1:Int))&&((x1.y1==(x2.y1:Int))&&true)))))then (some false).map fun a=> .inr (.inr a)else some (.inl (i64.wrap (v1+1))))else some (.inr (.inl ())))
def sl_Equal_Rect (n:Nat) (a0:(List GRect)) (a1:(List GRect)):Option Bool:=
 (bif ((a0.length:Int) != ((a1.length:Int):Int))then some false else thenB (iter (sl_Equal_Rect_s1 a0 a1) n (0:Int)) fun ()=>some true)
def sl_Equal_Rect_g (n:Nat):Sig xx:=⟨[.d (.sl (.st SI.Rect)),.d (.sl (.st SI.Rect))],[.d .bool],fun a=>sl_Equal_Rect n a.1 a.2.1,none⟩
def sl_Equal_Rect_h:Hn SI:=(.s .z (.s .z (.s (.s .z (.b (.lx ⟨[(13,(.v (.int .i64)))],[],[0,1,12],[],1576,[]⟩ 0 ⟨[],[],[],[],1576,[]⟩ .z))) .z)))
theorem sl_Equal_Rect_c (n:Nat):COk Tryz.prog 43 (sl_Equal_Rect_g n):=
 cq gam_nil Tryz.func43 sl_Equal_Rect_h n (by kernel_rfl) rfl fun _=>by kernel_rfl
def rg_Right (n:Nat) (a0:(List GRect)):Option Bool:=
 (rg_Of n a0).bind fun r1=>(bif (r1.2==(0:Int))then (sl_Equal_Rect n r1.1 a0).bind fun r2=>some r2 else some false)
def rg_Right_g (n:Nat):Sig xx:=⟨[.d (.sl (.st SI.Rect))],[.d .bool],fun a=>rg_Right n a.1,none⟩
def rg_Right_h:Hn SI:= .z
theorem rg_Right_c (n:Nat):COk Tryz.prog 22 (rg_Right_g n):=
 cq (gam_cons (rg_Of_c n) (gam_cons (sl_Equal_Rect_c n) gam_nil)) Tryz.func22 rg_Right_h n (by kernel_rfl) rfl fun _=>by kernel_rfl
def r_gaps (a0:GRect) (a1:GRect):Option (Int×Int):=
 some ((i64.wrap ((max a0.x0 a1.x0) - (min a0.x1 a1.x1))),(i64.wrap ((max a0.y0 a1.y0) - (min a0.y1 a1.y1))))
def r_gaps_g:Sig xx:=⟨[.d (.st SI.Rect),.d (.st SI.Rect)],[.d (.int .i64),.d (.int .i64)],fun a=>r_gaps a.1 a.2.1,none⟩
def r_gaps_h:Hn SI:= .z
theorem r_gaps_c:COk Tryz.prog 105 r_gaps_g:=
 cq gam_nil Tryz.func105 r_gaps_h 0 (by kernel_rfl) rfl fun _=>by kernel_rfl
def r_Gap (a0:GRect) (a1:GRect):Option Int:=
 ((r_Right a0).bind fun r1=>(bif (!r1)then some true else (r_Right a1).bind fun r2=>some (!r2)):Option (Bool)).bind fun v1=>(bif v1 then some ((-1):Int)else (r_gaps a0 a1).bind fun r3=>some (max (max (0:Int) r3.1) r3.2))
def r_Gap_g:Sig xx:=⟨[.d (.st SI.Rect),.d (.st SI.Rect)],[.d (.int .i64)],fun a=>r_Gap a.1 a.2.1,none⟩
def r_Gap_h:Hn SI:=(.s .z (.s (.s (.j ⟨[(14,(.v .bool))],[],[2,3],[1000,1064],1192,[]⟩ .z) .z) .z))
theorem r_Gap_c:COk Tryz.prog 91 r_Gap_g:=
 cq (gam_cons r_Right_c (gam_cons r_gaps_c gam_nil)) Tryz.func91 r_Gap_h 0 (by kernel_rfl) rfl fun _=>by kernel_rfl
def of_Gap_s2 (a1:(List GRect)) (x1:GRect):(Int×Int)→Option ((Int×Int) ⊕ Int)
 |(v4,v5)=>(bif (decide (v5 < ((a1.length:Int):Int)))then (at? a1 v5).bind fun x2=>(r_Gap x1 x2).bind fun r3=>some (.inl ((min v4 r3),(i64.wrap (v5+1))))else some (.inr v4))
def of_Gap_s1 (n:Nat) (a0:(List GRect)) (a1:(List GRect)):(Int×Int)→Option ((Int×Int) ⊕ Int)
 |(v2,v3)=>(bif (decide (v3 < ((a0.length:Int):Int)))then (at? a0 v3).bind fun x1=>(iter (of_Gap_s2 a1 x1) n (v2,(0:Int))).bind fun w1=>some (.inl (w1,(i64.wrap (v3+1))))else some (.inr v2))
def of_Gap (n:Nat) (a0:(List GRect)) (a1:(List GRect)):Option (Int×Bool):=
 ((bif ((a0.length:Int)==(0:Int))then some true else (bif ((a1.length:Int)==(0:Int))then some true else (rg_Right n a0).bind fun r1=>(bif (!r1)then some true else (rg_Right n a1).bind fun r2=>some (!r2)))):Option (Bool)).bind fun v1=>(bif v1 then some ((0:Int),false)else (iter (of_Gap_s1 n a0 a1) n ((1048576:Int),(0:Int))).bind fun w2=>some (w2,true))
def of_Gap_g (n:Nat):Sig xx:=⟨[.d (.sl (.st SI.Rect)),.d (.sl (.st SI.Rect))],[.d (.int .i64),.d .bool],fun a=>of_Gap n a.1 a.2.1,none⟩
def of_Gap_h:Hn SI:=(.s .z (.s (.s (.j ⟨[(28,(.v .bool))],[],[0,1],[],1128,[]⟩ .z) .z) (.s .z (.s (.s .z (.b (.l ⟨[(6,(.v (.int .i64))),(31,(.v (.int .i64)))],[],[1,29,30],[],1384,[]⟩ 0 ⟨[(6,(.v (.int .i64)))],[],[],[],1384,[]⟩ (.s .z (.s .z (.s (.b (.s .z (.s .z (.b (.l ⟨[(6,(.v (.int .i64))),(37,(.v (.int .i64)))],[],[1,8,29,30,31,35,36],[1576],1896,[]⟩ 2 ⟨[(6,(.v (.int .i64)))],[],[1,29,30,31],[],1896,[]⟩ .z))))) .z)))))) .z))))
theorem of_Gap_c (n:Nat):COk Tryz.prog 55 (of_Gap_g n):=
 cq (gam_cons (rg_Right_c n) (gam_cons r_Gap_c gam_nil)) Tryz.func55 of_Gap_h n (by kernel_rfl) rfl fun _=>by kernel_rfl
def pc_Near_s1 (a0:(List GLot)):(Int×(List (List GRect)))→Option ((Int×(List (List GRect))) ⊕ (List (List GRect)))
 |(v1,v2)=>(bif (decide (v1 < ((a0.length:Int):Int)))then (at? a0 v1).bind fun x1=>bif appOk v2.length v2.length (sub ([x1.area]:List (List GRect)) 0 1).length 1 24 then letv (v2++(sub ([x1.area]:List (List GRect)) 0 1)) fun r2=>bif eqL r2.length r2.length then some (.inl ((i64.wrap (v1+1)),r2))else none else none else bif eqL v2.length v2.length then some (.inr v2)else none)
def pc_Near_s2 (n:Nat) (a0:(List GLot)) (a1:Int) (a2:Int) (r1:GLot×Bool) (w1:(List (List GRect))):(Int×(List Int))→Option ((Int×(List Int)) ⊕ (List Int))
 |(v3,v4)=>(bif (decide (v3 < (((w1.length:Nat):Int):Int)))then (bif inb v3 w1.length then (at? w1 ((0:Nat)+v3:Int)).bind fun x2=>(of_Gap n r1.1.area x2).bind fun r3=>((bif r3.2 then (bif (decide (r3.1≤(a2:Int)))then (at? a0 v3).bind fun x3=>some (x3.id != (a1:Int))else some false)else some false):Option (Bool)).bind fun v5=>(bif v5 then (at? a0 v3).bind fun x4=>bif appOk v4.length v4.length (sub ([x4.id]:List Int) 0 1).length 1 8 then letv (v4++(sub ([x4.id]:List Int) 0 1)) fun r4=>bif eqL r4.length r4.length then some r4 else none else none else bif eqL v4.length v4.length then some v4 else none)else none:Option ((List Int))).bind fun v6=>bif eqL v6.length v6.length then some (.inl ((i64.wrap (v3+1)),v6))else none else bif eqL v4.length v4.length then some (.inr v4)else none)
def pc_Near (n:Nat) (a0:(List GLot)) (a1:Int) (a2:Int):Option (List Int):=
 (pc_Find n a0 a1).bind fun r1=>(bif (!r1.2)then some ([]:(List Int))else bif eqL 0 ([]:List (List GRect)).length then (iter (pc_Near_s1 a0) n ((0:Int),([]:List (List GRect)))).bind fun w1=>bif eqL 0 ([]:List Int).length then (iter (pc_Near_s2 n a0 a1 a2 r1 w1) n ((0:Int),([]:List Int))).bind fun w2=>bif eqL w2.length w2.length then (sl_Sort_int n w2).bind fun r5=>bif eqL w2.length r5.length then (sl_Compact_int n r5).bind fun r6=>bif eqL (sub r6.2 0 r6.2.length).length r6.2.length then some (sub r6.2 0 r6.2.length)else none else none else none else none else none)
def pc_Near_g (n:Nat):Sig xx:=⟨[.d (.sl (.st SI.Lot)),.d (.int .i64),.d (.int .i64)],[.fresh (.int .i64)],fun a=>pc_Near n a.1 a.2.1 a.2.2.1,none⟩
def pc_Near_h:Hn SI:=(.s .z (.s .z (.s .z (.s .z (.s (.s .z (.b (.l ⟨[(9,(.o 2024)),(27,(.v (.int .i64)))],[(2024,.l (.sl (.st SI.Rect)))],[0,1,2,7,25,26],[1448],2025,[(9,(.sl (.st SI.Rect)))]⟩ 0 ⟨[(9,(.o 2024))],[(2024,.l (.sl (.st SI.Rect)))],[0,1,2,7],[1448],2025,[]⟩ .z))) (.s .z (.s (.s .z (.b (.l ⟨[(12,(.o 2281)),(39,(.v (.int .i64)))],[(2281,.l (.int .i64))],[0,1,2,7,37,38],[1448,2024],2282,[(12,(.int .i64))]⟩ 2 ⟨[(12,(.o 2281))],[(2281,.l (.int .i64))],[],[],2282,[]⟩ (.s .z (.s .z (.s (.j ⟨[(12,(.o 2346))],[(2346,.l (.int .i64))],[0,1,2,7,37,38,39],[1448,2024],2347,[]⟩ (.b (.s .z (.s .z (.s (.j ⟨[(65,(.v .bool))],[],[0,1,2,7,12,13,37,38,39],[1448,2024,2281],3242,[]⟩ .z) .z))))) .z)))))) .z)))))))
theorem pc_Near_c (n:Nat):COk Tryz.prog 32 (pc_Near_g n):=
 cq (gam_cons (pc_Find_c n) (gam_cons (of_Gap_c n) (gam_cons (sl_Sort_int_c n) (gam_cons (sl_Compact_int_c n) gam_nil)))) Tryz.func32 pc_Near_h n (by kernel_rfl) rfl fun _=>by kernel_rfl
def nt_Lots (n:Nat) (a0:GTown) (a1:GDrawing):Option (List Int):=
 (nt_Distance n (GPlan.mk a0.plan_defs a0.plan_tables a0.plan_zones a0.plan_rules a0.plan_caps a0.plan_views a0.plan_sun a0.plan_hours) a1).bind fun r1=>(pc_Near n a0.land a1.lot r1).bind fun r2=>bif eqL (sub r2 0 r2.length).length r2.length then some (sub r2 0 r2.length)else none
def nt_Lots_g (n:Nat):Sig xx:=⟨[.d (.st SI.Town),.d (.st SI.Drawing)],[.fresh (.int .i64)],fun a=>nt_Lots n a.1 a.2.1,none⟩
def nt_Lots_h:Hn SI:= .z
theorem nt_Lots_c (n:Nat):COk Tryz.prog 12 (nt_Lots_g n):=
 cq (gam_cons (nt_Distance_c n) (gam_cons (pc_Near_c n) gam_nil)) Tryz.func12 nt_Lots_h n (by kernel_rfl) rfl fun _=>by kernel_rfl
def nt_Owners_s1 (n:Nat) (a0:GTown) (r1:(List Int)):(Int×(List Int))→Option ((Int×(List Int)) ⊕ (List Int))
 |(v1,v2)=>(bif (decide (v1 < (((r1.length:Nat):Int):Int)))then bif inb v1 r1.length then (at? r1 ((0:Nat)+v1:Int)).bind fun x1=>(pc_Find n a0.land x1).bind fun r2=>bif appOk v2.length v2.length (sub ([r2.1.owner]:List Int) 0 1).length 1 8 then letv (v2++(sub ([r2.1.owner]:List Int) 0 1)) fun r3=>bif eqL r3.length r3.length then some (.inl ((i64.wrap (v1+1)),r3))else none else none else none else bif eqL v2.length v2.length then some (.inr v2)else none)
def nt_Owners (n:Nat) (a0:GTown) (a1:GDrawing):Option (List Int):=
 (nt_Lots n a0 a1).bind fun r1=>bif eqL 0 ([]:List Int).length then (iter (nt_Owners_s1 n a0 r1) n ((0:Int),([]:List Int))).bind fun w1=>bif eqL w1.length w1.length then (sl_Sort_int n w1).bind fun r4=>bif eqL w1.length r4.length then (sl_Compact_int n r4).bind fun r5=>bif eqL (sub r5.2 0 r5.2.length).length r5.2.length then some (sub r5.2 0 r5.2.length)else none else none else none else none
def nt_Owners_g (n:Nat):Sig xx:=⟨[.d (.st SI.Town),.d (.st SI.Drawing)],[.fresh (.int .i64)],fun a=>nt_Owners n a.1 a.2.1,none⟩
def nt_Owners_h:Hn SI:=(.s .z (.s .z (.s (.s .z (.b (.l ⟨[(5,(.o 1576)),(14,(.v (.int .i64)))],[(1576,.l (.int .i64))],[2,12,13],[1000,1384],1577,[(5,(.int .i64))]⟩ 0 ⟨[(5,(.o 1576))],[(1576,.l (.int .i64))],[],[],1577,[]⟩ .z))) .z)))
theorem nt_Owners_c (n:Nat):COk Tryz.prog 6 (nt_Owners_g n):=
 cq (gam_cons (nt_Lots_c n) (gam_cons (pc_Find_c n) (gam_cons (sl_Sort_int_c n) (gam_cons (sl_Compact_int_c n) gam_nil)))) Tryz.func6 nt_Owners_h n (by kernel_rfl) rfl fun _=>by kernel_rfl
def q35_Ints_s1 (a0:(List Int)) (a1:(List Int)):Int→Option (Int ⊕ (Unit ⊕ Bool))
 |v1=>(bif (decide (v1 < ((a0.length:Int):Int)))then (at? a0 v1).bind fun x1=>(at? a1 v1).bind fun x2=>(bif (x1 != (x2:Int))then (some false).map fun a=> .inr (.inr a)else some (.inl (i64.wrap (v1+1))))else some (.inr (.inl ())))
def q35_Ints (n:Nat) (a0:(List Int)) (a1:(List Int)):Option Bool:=
 (bif ((a0.length:Int) != ((a1.length:Int):Int))then some false else thenB (iter (q35_Ints_s1 a0 a1) n (0:Int)) fun ()=>some true)
def q35_Ints_g (n:Nat):Sig xx:=⟨[.d (.sl (.int .i64)),.d (.sl (.int .i64))],[.d .bool],fun a=>q35_Ints n a.1 a.2.1,none⟩
def q35_Ints_h:Hn SI:=(.s .z (.s .z (.s (.s .z (.b (.lx ⟨[(5,(.v (.int .i64)))],[],[0,1],[],1448,[]⟩ 0 ⟨[],[],[],[],1448,[]⟩ .z))) .z)))
theorem q35_Ints_c (n:Nat):COk Tryz.prog 8 (q35_Ints_g n):=
 cq gam_nil Tryz.func8 q35_Ints_h n (by kernel_rfl) rfl fun _=>by kernel_rfl
def sl_Index_int_s1 (a0:(List Int)) (a1:Int):Int→Option (Int ⊕ (Unit ⊕ Int))
 |v1=>(bif (decide (v1 < ((a0.length:Int):Int)))then (at? a0 v1).bind fun x1=>(bif (a1==(x1:Int))then (some v1).map fun a=> .inr (.inr a)else some (.inl (i64.wrap (v1+1))))else some (.inr (.inl ())))
def sl_Index_int (n:Nat) (a0:(List Int)) (a1:Int):Option Int:=
 thenB (iter (sl_Index_int_s1 a0 a1) n (0:Int)) fun ()=>some ((-1):Int)
def sl_Index_int_g (n:Nat):Sig xx:=⟨[.d (.sl (.int .i64)),.d (.int .i64)],[.d (.int .i64)],fun a=>sl_Index_int n a.1 a.2.1,none⟩
def sl_Index_int_h:Hn SI:=(.s .z (.s (.s .z (.b (.lx ⟨[(8,(.v (.int .i64)))],[],[0,1,7],[],1256,[]⟩ 0 ⟨[],[],[],[],1256,[]⟩ .z))) .z))
theorem sl_Index_int_c (n:Nat):COk Tryz.prog 61 (sl_Index_int_g n):=
 cq gam_nil Tryz.func61 sl_Index_int_h n (by kernel_rfl) rfl fun _=>by kernel_rfl
def sl_Contains_int (n:Nat) (a0:(List Int)) (a1:Int):Option Bool:=
 (sl_Index_int n a0 a1).bind fun r1=>some (decide (r1≥(0:Int)))
def sl_Contains_int_g (n:Nat):Sig xx:=⟨[.d (.sl (.int .i64)),.d (.int .i64)],[.d .bool],fun a=>sl_Contains_int n a.1 a.2.1,none⟩
def sl_Contains_int_h:Hn SI:= .z
theorem sl_Contains_int_c (n:Nat):COk Tryz.prog 37 (sl_Contains_int_g n):=
 cq (gam_cons (sl_Index_int_c n) gam_nil) Tryz.func37 sl_Contains_int_h n (by kernel_rfl) rfl fun _=>by kernel_rfl
def nt_Added_f1 (n:Nat) (a0:Int) (a1:(List Int)):Option Bool:=
 (sl_Contains_int n a1 a0).bind fun r1=>some r1
def nt_Added_f1_g (n:Nat):Sig xx:=⟨[.d (.int .i64),.ref (.sl (.int .i64))],[.d .bool],fun a=>nt_Added_f1 n a.1 a.2.1,none⟩
def nt_Added_f1_h:Hn SI:= .z
theorem nt_Added_f1_c (n:Nat):COk Tryz.prog 36 (nt_Added_f1_g n):=
 cq (gam_cons (sl_Contains_int_c n) gam_nil) Tryz.func36 nt_Added_f1_h n (by kernel_rfl) rfl fun _=>by kernel_rfl
def sl_IndexFunc_int_s1 (a0:(List Int)) (a1:(Int×Unit)→Option Bool):Int→Option (Int ⊕ (Unit ⊕ Int))
 |v1=>(bif (decide (v1 < ((a0.length:Int):Int)))then (at? a0 v1).bind fun x1=>(a1 (x1,())).bind fun r1=>(bif r1 then (some v1).map fun a=> .inr (.inr a)else some (.inl (i64.wrap (v1+1))))else some (.inr (.inl ())))
def sl_IndexFunc_int (n:Nat) (a0:(List Int)) (a1:(Int×Unit)→Option Bool):Option Int:=
 thenB (iter (sl_IndexFunc_int_s1 a0 a1) n (0:Int)) fun ()=>some ((-1):Int)
def sl_IndexFunc_int_g (n:Nat):Sig xx:=⟨[.d (.sl (.int .i64)),.clo [(.int .i64)] .bool],[.d (.int .i64)],fun a=>sl_IndexFunc_int n a.1 a.2.1,none⟩
def sl_IndexFunc_int_h:Hn SI:=(.s .z (.s (.s .z (.b (.lx ⟨[(8,(.v (.int .i64)))],[],[0,1,7],[],1256,[]⟩ 0 ⟨[],[],[],[],1256,[]⟩ .z))) .z))
theorem sl_IndexFunc_int_c (n:Nat):COk Tryz.prog 60 (sl_IndexFunc_int_g n):=
 cq gam_nil Tryz.func60 sl_IndexFunc_int_h n (by kernel_rfl) rfl fun _=>by kernel_rfl
def sl_DeleteFunc_int_s1 (a0:(List Int)) (a1:(Int×Unit)→Option Bool):(Int×Int×(List Int))→Option ((Int×Int×(List Int)) ⊕ (Int×(List Int)))
 |(v1,v2,v3)=>(bif (decide (v2 < (((a0.length:Nat):Int):Int)))then (bif inb v2 a0.length then (at? v3 ((0:Nat)+v2:Int)).bind fun x1=>(a1 (x1,())).bind fun r2=>(bif (!r2)then bif inb v1 a0.length then (at? v3 ((0:Nat)+v1:Int)).bind fun x2=>some ((i64.wrap (v1+1)),(v3.set ((0:Nat)+v1:Int).toNat x1))else none else some (v1,v3))else none:Option (Int×(List Int))).bind fun (v4,v5)=>some (.inl (v4,(i64.wrap (v2+1)),v5))else some (.inr (v1,v3)))
def sl_DeleteFunc_int (n:Nat) (a0:(List Int)) (a1:(Int×Unit)→Option Bool):Option (Unit×(List Int)):=
 bif eqL (sub a0 0 a0.length).length a0.length then (sl_IndexFunc_int n (sub a0 0 a0.length) a1).bind fun r1=>(bif (r1==((-1):Int))then bif eqL a0.length a0.length then bif eqL (sub a0 0 a0.length).length a0.length then some ((),(sub a0 0 a0.length))else none else none else (iter (sl_DeleteFunc_int_s1 a0 a1) n (r1,(i64.wrap (r1+1)),a0)).bind fun (w1,w2)=>bif slOk w1 ((a0.length:Nat):Int) a0.length then bif slOk 0 w1 a0.length then bif eqL ((w1:Int).toNat) ((w1:Int).toNat)then bif eqL (sub (w2.take (0+(w1:Int).toNat)) 0 ((w1:Int).toNat)).length ((w1:Int).toNat)then some ((),(sub (w2.take (0+(w1:Int).toNat)) 0 ((w1:Int).toNat)))else none else none else none else none)else none
def sl_DeleteFunc_int_g (n:Nat):Sig xx:=⟨[.mut (.int .i64),.clo [(.int .i64)] .bool],[.whole 0,.mu (.int .i64)],fun a=>sl_DeleteFunc_int n a.1 a.2.1,none⟩
def sl_DeleteFunc_int_h:Hn SI:=(.s .z (.s .z (.s .z (.s (.s .z (.b (.l ⟨[(5,(.v (.int .i64))),(6,(.v (.int .i64)))],[(0,.l (.int .i64))],[0,1],[],1640,[]⟩ 0 ⟨[(5,(.v (.int .i64)))],[(0,.l (.int .i64))],[0],[],1640,[]⟩ (.s .z (.s (.j ⟨[(5,(.v (.int .i64)))],[(0,.l (.int .i64))],[0,1,6],[],1896,[]⟩ .z) .z))))) .z))))
theorem sl_DeleteFunc_int_c (n:Nat):COk Tryz.prog 35 (sl_DeleteFunc_int_g n):=
 cq (gam_cons (sl_IndexFunc_int_c n) gam_nil) Tryz.func35 sl_DeleteFunc_int_h n (by kernel_rfl) rfl fun _=>by kernel_rfl
def nt_Added (n:Nat) (a0:GTown) (a1:GDrawing) (a2:GDrawing):Option (List Int):=
 (nt_Owners n a0 a1).bind fun r1=>bif eqL (sub r1 0 r1.length).length r1.length then (nt_Owners n a0 a2).bind fun r2=>bif eqL r2.length r2.length then (sl_DeleteFunc_int n r2 (fun (y1:Int×Unit)=>nt_Added_f1 n y1.1 (sub r1 0 r1.length))).bind fun r3=>bif eqL (sub r3.2 0 r3.2.length).length r3.2.length then some (sub r3.2 0 r3.2.length)else none else none else none
def nt_Added_g (n:Nat):Sig xx:=⟨[.d (.st SI.Town),.d (.st SI.Drawing),.d (.st SI.Drawing)],[.fresh (.int .i64)],fun a=>nt_Added n a.1 a.2.1 a.2.2.1,none⟩
def nt_Added_h:Hn SI:=(.s .z (.s (.f [4]) .z))
theorem nt_Added_c (n:Nat):COk Tryz.prog 17 (nt_Added_g n):=
 cq (gam_cons (nt_Owners_c n) (gam_cons (sl_DeleteFunc_int_c n) (gam_cons (nt_Added_f1_c n) gam_nil))) Tryz.func17 nt_Added_h n (by kernel_rfl) rfl fun _=>by kernel_rfl
def nt_May (n:Nat) (a0:GTown) (a1:GDrawing) (a2:Int):Option Bool:=
 (pc_Find n a0.land a1.lot).bind fun r1=>(nt_Owners n a0 a1).bind fun r2=>bif eqL (sub r2 0 r2.length).length r2.length then (sl_Contains_int n (sub r2 0 r2.length) a2).bind fun r3=>(bif r3 then (bif r1.2 then some (r1.1.owner != (a2:Int))else some false)else some false)else none
def nt_May_g (n:Nat):Sig xx:=⟨[.d (.st SI.Town),.d (.st SI.Drawing),.d (.int .i64)],[.d .bool],fun a=>nt_May n a.1 a.2.1 a.2.2.1,none⟩
def nt_May_h:Hn SI:= .z
theorem nt_May_c (n:Nat):COk Tryz.prog 18 (nt_May_g n):=
 cq (gam_cons (pc_Find_c n) (gam_cons (nt_Owners_c n) (gam_cons (sl_Contains_int_c n) gam_nil))) Tryz.func18 nt_May_h n (by kernel_rfl) rfl fun _=>by kernel_rfl
def l35_small (n:Nat):Option Bool:=
 (l35_sample).bind fun r1=>(l35_of 1 0 0).bind fun r2=>(l35_of 1 0 4).bind fun r3=>((nt_Distance n (GPlan.mk r1.plan_defs r1.plan_tables r1.plan_zones r1.plan_rules r1.plan_caps r1.plan_views r1.plan_sun r1.plan_hours) r2).bind fun r4=>(bif (r4==(2:Int))then (nt_Distance n (GPlan.mk r1.plan_defs r1.plan_tables r1.plan_zones r1.plan_rules r1.plan_caps r1.plan_views r1.plan_sun r1.plan_hours) r3).bind fun r5=>(bif (r5==(9:Int))then (l35_of 1 1 1).bind fun r6=>(nt_Distance n (GPlan.mk r1.plan_defs r1.plan_tables r1.plan_zones r1.plan_rules r1.plan_caps r1.plan_views r1.plan_sun r1.plan_hours) r6).bind fun r7=>(bif (r7==(1:Int))then (nt_Days n (GPlan.mk r1.plan_defs r1.plan_tables r1.plan_zones r1.plan_rules r1.plan_caps r1.plan_views r1.plan_sun r1.plan_hours)).bind fun r8=>some (r8==(14:Int))else some false)else some false)else some false):Option (Bool)).bind fun v1=>((nt_Owners n r1 r2).bind fun r9=>bif eqL (sub r9 0 r9.length).length r9.length then bif eqL (sub ([7]:List Int) 0 1).length 1 then (q35_Ints n (sub r9 0 r9.length) (sub ([7]:List Int) 0 1)).bind fun r10=>(bif r10 then (nt_Owners n r1 r3).bind fun r11=>bif eqL (sub r11 0 r11.length).length r11.length then bif eqL (sub ([5,7]:List Int) 0 2).length 2 then (q35_Ints n (sub r11 0 r11.length) (sub ([5,7]:List Int) 0 2)).bind fun r12=>(bif r12 then (nt_Lots n r1 r3).bind fun r13=>bif eqL (sub r13 0 r13.length).length r13.length then bif eqL (sub ([2,3]:List Int) 0 2).length 2 then (q35_Ints n (sub r13 0 r13.length) (sub ([2,3]:List Int) 0 2)).bind fun r14=>(bif r14 then (nt_Added n r1 r2 r3).bind fun r15=>bif eqL (sub r15 0 r15.length).length r15.length then bif eqL (sub ([5]:List Int) 0 1).length 1 then (q35_Ints n (sub r15 0 r15.length) (sub ([5]:List Int) 0 1)).bind fun r16=>some r16 else none else none else some false)else none else none else some false)else none else none else some false)else none else none:Option (Bool)).bind fun v2=>(bif v1 then (bif v2 then (nt_May n r1 r3 5).bind fun r17=>(bif r17 then (nt_May n r1 r3 7).bind fun r18=>(bif (!r18)then (nt_May n r1 r2 5).bind fun r19=>some (!r19)else some false)else some false)else some false)else some false)
def l35_small_g (n:Nat):Sig xx:=⟨[],[.d .bool],fun a=>l35_small n,none⟩
def l35_small_h:Hn SI:=(.s .z (.s .z (.s .z (.s .z (.s (.j ⟨[(4,(.v .bool))],[],[1,2,3],[1128,1320,1512],1640,[]⟩ .z) (.s (.j ⟨[(5,(.v .bool))],[],[1,2,3,4],[1128,1320,1512],1640,[]⟩ .z) .z))))))
theorem l35_small_c (n:Nat):COk Tryz.prog 4 (l35_small_g n):=
 cq (gam_cons l35_sample_c (gam_cons l35_of_c (gam_cons (nt_Distance_c n) (gam_cons (nt_Days_c n) (gam_cons (nt_Owners_c n) (gam_cons (q35_Ints_c n) (gam_cons (nt_Lots_c n) (gam_cons (nt_Added_c n) (gam_cons (nt_May_c n) gam_nil))))))))) Tryz.func4 l35_small_h n (by kernel_rfl) rfl fun _=>by kernel_rfl
def l35_few_s1 (a0:GTown):Int→Option (Int ⊕ (Unit ⊕ Bool))
 |v1=>((bif (decide (v1 < ((a0.land.length:Int):Int)))then some (decide (v1 < (9:Int)))else some false):Option (Bool)).bind fun v2=>(bif v2 then ((at? a0.land v1).bind fun x1=>(bif (decide ((x1.area.length:Int)>(6:Int)))then some true else (at? a0.land v1).bind fun x2=>some (decide ((x2.from_.length:Int)>(10:Int)))):Option (Bool)).bind fun v3=>(bif v3 then (some false).map fun a=> .inr (.inr a)else some (.inl (i64.wrap (v1+1))))else some (.inr (.inl ())))
def l35_few_s2 (a0:GTown):Int→Option (Int ⊕ (Unit ⊕ Bool))
 |v4=>((bif (decide (v4 < ((a0.plan_tables.length:Int):Int)))then some (decide (v4 < (5:Int)))else some false):Option (Bool)).bind fun v5=>(bif v5 then (at? a0.plan_tables v4).bind fun x3=>(bif (decide ((x3.rows.length:Int)>(10:Int)))then (some false).map fun a=> .inr (.inr a)else some (.inl (i64.wrap (v4+1))))else some (.inr (.inl ())))
def l35_few_s3 (a1:GDrawing):Int→Option (Int ⊕ (Unit ⊕ Bool))
 |v6=>((bif (decide (v6 < ((a1.phases.length:Int):Int)))then some (decide (v6 < (5:Int)))else some false):Option (Bool)).bind fun v7=>(bif v7 then (at? a1.phases v6).bind fun x4=>(bif (decide ((x4.volumes.length:Int)>(4:Int)))then (some false).map fun a=> .inr (.inr a)else some (.inl (i64.wrap (v6+1))))else some (.inr (.inl ())))
def l35_few (n:Nat) (a0:GTown) (a1:GDrawing):Option Bool:=
 thenB (iter (l35_few_s1 a0) n (0:Int)) fun ()=>thenB (iter (l35_few_s2 a0) n (0:Int)) fun ()=>thenB (iter (l35_few_s3 a1) n (0:Int)) fun ()=>(bif (decide ((a0.land.length:Int)≤(8:Int)))then (bif (decide ((a0.plan_tables.length:Int)≤(4:Int)))then some (decide ((a1.phases.length:Int)≤(4:Int)))else some false)else some false)
def l35_few_g (n:Nat):Sig xx:=⟨[.d (.st SI.Town),.d (.st SI.Drawing)],[.d .bool],fun a=>l35_few n a.1 a.2.1,none⟩
def l35_few_h:Hn SI:=(.s .z (.s (.s .z (.b (.lx ⟨[(5,(.v (.int .i64)))],[],[2,3],[1000,1064],1256,[]⟩ 0 ⟨[],[],[2,3],[1000,1064],1256,[]⟩ (.s (.s (.j ⟨[(16,(.v .bool))],[],[2,3,5],[1000,1064],1256,[]⟩ .z) .z) (.s (.b (.s (.j ⟨[(36,(.v .bool))],[],[2,3,5],[1000,1064],1256,[]⟩ .z) .z)) .z))))) (.s (.s .z (.b (.lx ⟨[(6,(.v (.int .i64)))],[],[2,3],[1000,1064],1320,[]⟩ 2 ⟨[],[],[2,3],[1000,1064],1320,[]⟩ (.s (.s (.j ⟨[(46,(.v .bool))],[],[2,3,6],[1000,1064],1320,[]⟩ .z) .z) .z)))) (.s (.s .z (.b (.lx ⟨[(7,(.v (.int .i64)))],[],[2,3],[1000,1064],1384,[]⟩ 4 ⟨[],[],[2,3],[1000,1064],1384,[]⟩ (.s (.s (.j ⟨[(66,(.v .bool))],[],[2,3,7],[1000,1064],1384,[]⟩ .z) .z) .z)))) .z))))
theorem l35_few_c (n:Nat):COk Tryz.prog 5 (l35_few_g n):=
 cq gam_nil Tryz.func5 l35_few_h n (by kernel_rfl) rfl fun _=>by kernel_rfl
end
end Go.Proofs
