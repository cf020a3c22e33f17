/-
  Printed by wip/gen: what functions of the program compute, and that they do.
-/
import Derived.Test.YtidlnbgnaeaghaaGreatTF1
open Go.IntKind (i64)
namespace Go.Proofs
open Go.Gb Go.RowKit
noncomputable section
def pc_number (a0:Int):Option Bool:=
 (bif (decide (1≤(a0:Int)))then some (decide (a0≤(1073741824:Int)))else some false)
def pc_number_g:Sig xx:=⟨[.d (.int .i64)],[.d .bool],fun a=>pc_number a.1,none⟩
def pc_number_h:Hn SI:= .z
theorem pc_number_c:COk Tryz.prog 23 pc_number_g:=
 cq gam_nil Tryz.func23 pc_number_h 0 (by kernel_rfl) rfl fun _=>by kernel_rfl
def pc_owner (a0:Int):Option Bool:=
 (bif (decide (0≤(a0:Int)))then some (decide (a0≤(1073741824:Int)))else some false)
def pc_owner_g:Sig xx:=⟨[.d (.int .i64)],[.d .bool],fun a=>pc_owner a.1,none⟩
def pc_owner_h:Hn SI:= .z
theorem pc_owner_c:COk Tryz.prog 31 pc_owner_g:=
 cq gam_nil Tryz.func31 pc_owner_h 0 (by kernel_rfl) rfl fun _=>by kernel_rfl
def pc_ascending_s1 (a0:(List Int)):Int→Option (Int ⊕ (Unit ⊕ Bool))
 |v1=>(bif (decide (v1 < ((a0.length:Int):Int)))then (at? a0 (i64.wrap (v1 - 1))).bind fun x1=>(at? a0 v1).bind fun x2=>(bif (decide (x1≥(x2:Int)))then (some false).map fun a=> .inr (.inr a)else some (.inl (i64.wrap (v1+1))))else some (.inr (.inl ())))
def pc_ascending (n:Nat) (a0:(List Int)):Option Bool:=
 thenB (iter (pc_ascending_s1 a0) n (1:Int)) fun ()=>some true
def pc_ascending_g (n:Nat):Sig xx:=⟨[.d (.sl (.int .i64))],[.d .bool],fun a=>pc_ascending n a.1,none⟩
def pc_ascending_h:Hn SI:=(.s .z (.s (.s .z (.b (.lx ⟨[(3,(.v (.int .i64)))],[],[0],[],1128,[]⟩ 0 ⟨[],[],[],[],1128,[]⟩ .z))) .z))
theorem pc_ascending_c (n:Nat):COk Tryz.prog 73 (pc_ascending_g n):=
 cq gam_nil Tryz.func73 pc_ascending_h n (by kernel_rfl) rfl fun _=>by kernel_rfl
def sl_ContainsFunc_int (n:Nat) (a0:(List Int)) (a1:(Int×Unit)→Option Bool):Option Bool:=
 (sl_IndexFunc_int n a0 a1).bind fun r1=>some (decide (r1≥(0:Int)))
def sl_ContainsFunc_int_g (n:Nat):Sig xx:=⟨[.d (.sl (.int .i64)),.clo [(.int .i64)] .bool],[.d .bool],fun a=>sl_ContainsFunc_int n a.1 a.2.1,none⟩
def sl_ContainsFunc_int_h:Hn SI:= .z
theorem sl_ContainsFunc_int_c (n:Nat):COk Tryz.prog 74 (sl_ContainsFunc_int_g n):=
 cq (gam_cons (sl_IndexFunc_int_c n) gam_nil) Tryz.func74 sl_ContainsFunc_int_h n (by kernel_rfl) rfl fun _=>by kernel_rfl
def pc_valid_f1 (a0:Int):Option Bool:=
 (pc_number a0).bind fun r1=>some (!r1)
def pc_valid_f1_g:Sig xx:=⟨[.d (.int .i64)],[.d .bool],fun a=>pc_valid_f1 a.1,none⟩
def pc_valid_f1_h:Hn SI:= .z
theorem pc_valid_f1_c:COk Tryz.prog 75 pc_valid_f1_g:=
 cq (gam_cons pc_number_c gam_nil) Tryz.func75 pc_valid_f1_h 0 (by kernel_rfl) rfl fun _=>by kernel_rfl
def r_Touch (a0:GRect) (a1:GRect):Option Bool:=
 ((r_Right a0).bind fun r1=>(bif (!r1)then some true else (r_Right a1).bind fun r2=>some (!r2)):Option (Bool)).bind fun v1=>(bif v1 then some false else (r_gaps a0 a1).bind fun r3=>(bif (r3.1==(0:Int))then (bif (decide (r3.2 < (0:Int)))then some true else (bif (r3.2==(0:Int))then some (decide (r3.1 < (0:Int)))else some false))else (bif (r3.2==(0:Int))then some (decide (r3.1 < (0:Int)))else some false)))
def r_Touch_g:Sig xx:=⟨[.d (.st SI.Rect),.d (.st SI.Rect)],[.d .bool],fun a=>r_Touch a.1 a.2.1,none⟩
def r_Touch_h:Hn SI:=(.s .z (.s (.s (.j ⟨[(14,(.v .bool))],[],[2,3],[1000,1064],1192,[]⟩ .z) .z) .z))
theorem r_Touch_c:COk Tryz.prog 88 r_Touch_g:=
 cq (gam_cons r_Right_c (gam_cons r_gaps_c gam_nil)) Tryz.func88 r_Touch_h 0 (by kernel_rfl) rfl fun _=>by kernel_rfl
def sl_IndexFunc_Rect_s1 (a0:(List GRect)) (a1:(GRect×Unit)→Option Bool):Int→Option (Int ⊕ (Unit ⊕ Int))
 |v1=>(bif (decide (v1 < ((a0.length:Int):Int)))then (at? a0 v1).bind fun x1=>(a1 (x1,())).bind fun r1=>(bif r1 then (some v1).map fun a=> .inr (.inr a)else some (.inl (i64.wrap (v1+1))))else some (.inr (.inl ())))
def sl_IndexFunc_Rect (n:Nat) (a0:(List GRect)) (a1:(GRect×Unit)→Option Bool):Option Int:=
 thenB (iter (sl_IndexFunc_Rect_s1 a0 a1) n (0:Int)) fun ()=>some ((-1):Int)
def sl_IndexFunc_Rect_g (n:Nat):Sig xx:=⟨[.d (.sl (.st SI.Rect)),.clo [(.st SI.Rect)] .bool],[.d (.int .i64)],fun a=>sl_IndexFunc_Rect n a.1 a.2.1,none⟩
def sl_IndexFunc_Rect_h:Hn SI:=(.s .z (.s (.s .z (.b (.lx ⟨[(8,(.v (.int .i64)))],[],[0,1,7],[],1256,[]⟩ 0 ⟨[],[],[],[],1256,[]⟩ .z))) .z))
theorem sl_IndexFunc_Rect_c (n:Nat):COk Tryz.prog 97 (sl_IndexFunc_Rect_g n):=
 cq gam_nil Tryz.func97 sl_IndexFunc_Rect_h n (by kernel_rfl) rfl fun _=>by kernel_rfl
def sl_DeleteFunc_Rect_s1 (a0:(List GRect)) (a1:(GRect×Unit)→Option Bool):(Int×Int×(List GRect))→Option ((Int×Int×(List GRect)) ⊕ (Int×(List GRect)))
 |(v1,v2,v3)=>(bif (decide (v2 < (((a0.length:Nat):Int):Int)))then (bif inb v2 a0.length then (at? v3 ((0:Nat)+v2:Int)).bind fun x1=>(a1 (x1,())).bind fun r2=>(bif (!r2)then bif inb v1 a0.length then (at? v3 ((0:Nat)+v1:Int)).bind fun x2=>some ((i64.wrap (v1+1)),(v3.set ((0:Nat)+v1:Int).toNat x1))else none else some (v1,v3))else none:Option (Int×(List GRect))).bind fun (v4,v5)=>some (.inl (v4,(i64.wrap (v2+1)),v5))else some (.inr (v1,v3)))
def sl_DeleteFunc_Rect (n:Nat) (a0:(List GRect)) (a1:(GRect×Unit)→Option Bool):Option (Unit×(List GRect)):=
 bif eqL (sub a0 0 a0.length).length a0.length then (sl_IndexFunc_Rect n (sub a0 0 a0.length) a1).bind fun r1=>(bif (r1==((-1):Int))then bif eqL a0.length a0.length then bif eqL (sub a0 0 a0.length).length a0.length then some ((),(sub a0 0 a0.length))else none else none else (iter (sl_DeleteFunc_Rect_s1 a0 a1) n (r1,(i64.wrap (r1+1)),a0)).bind fun (w1,w2)=>bif slOk w1 ((a0.length:Nat):Int) a0.length then bif slOk 0 w1 a0.length then bif eqL ((w1:Int).toNat) ((w1:Int).toNat)then bif eqL (sub (w2.take (0+(w1:Int).toNat)) 0 ((w1:Int).toNat)).length ((w1:Int).toNat)then some ((),(sub (w2.take (0+(w1:Int).toNat)) 0 ((w1:Int).toNat)))else none else none else none else none)else none
def sl_DeleteFunc_Rect_g (n:Nat):Sig xx:=⟨[.mut (.st SI.Rect),.clo [(.st SI.Rect)] .bool],[.whole 0,.mu (.st SI.Rect)],fun a=>sl_DeleteFunc_Rect n a.1 a.2.1,none⟩
def sl_DeleteFunc_Rect_h:Hn SI:=(.s .z (.s .z (.s .z (.s (.s .z (.b (.l ⟨[(5,(.v (.int .i64))),(6,(.v (.int .i64)))],[(0,.l (.st SI.Rect))],[0,1],[],1640,[]⟩ 0 ⟨[(5,(.v (.int .i64)))],[(0,.l (.st SI.Rect))],[0],[],1640,[]⟩ (.s .z (.s (.j ⟨[(5,(.v (.int .i64)))],[(0,.l (.st SI.Rect))],[0,1,6],[],1896,[]⟩ .z) .z))))) .z))))
theorem sl_DeleteFunc_Rect_c (n:Nat):COk Tryz.prog 86 (sl_DeleteFunc_Rect_g n):=
 cq (gam_cons (sl_IndexFunc_Rect_c n) gam_nil) Tryz.func86 sl_DeleteFunc_Rect_h n (by kernel_rfl) rfl fun _=>by kernel_rfl
def rg_Parts_f1_v1 (a0:GRect) (a1:Int) (a2:(List GRect)):Option (Bool×Int×(List GRect)):=
 bif inb a1 a2.length then (at? a2 ((0:Nat)+a1:Int)).bind fun x1=>(r_Touch x1 a0).bind fun r1=>(bif r1 then bif appOk a2.length a2.length (sub ([a0]:List GRect) 0 1).length 1 32 then letv (a2++(sub ([a0]:List GRect) 0 1)) fun r2=>bif eqL r2.length r2.length then some (true,a1,r2)else none else none else bif eqL a2.length a2.length then some (false,a1,a2)else none)else none
def rg_Parts_f1_v1_G:GSig xx:=⟨[(.v (.st SI.Rect)),(.p 0),(.p 1)],[(0,.c 1 [[(.o 2)]]),(1,.c 1 [[(.v (.int .i64))]]),(2,.l (.st SI.Rect))],[(.v .bool)],[(0,.c 1 [[(.o 1000)]]),(1,.c 1 [[(.v (.int .i64))]]),(1000,.l (.st SI.Rect))],fun v=>rg_Parts_f1_v1 v.1 v.2.1 v.2.2⟩
def rg_Parts_f1_v1_g:Sig xx:=⟨[],[.d .bool],fun _=>none,some (rg_Parts_f1_v1_G)⟩
def rg_Parts_f1_v1_h:Hn SI:= .z
theorem rg_Parts_f1_v1_c:COk Tryz.prog 87 rg_Parts_f1_v1_g:=
 cqG (gam_cons r_Touch_c gam_nil) Tryz.func87 rg_Parts_f1_v1_h 0 (by kernel_rfl) fun _=>by kernel_rfl
def sl_IndexFunc_Rect_v1_s1 (a0:(List GRect)):(Int×Int×(List GRect))→Option ((Int×Int×(List GRect)) ⊕ ((Int×(List GRect)) ⊕ (Int×Int×(List GRect))))
 |(v1,v2,v3)=>(bif (decide (v1 < ((a0.length:Int):Int)))then (at? a0 v1).bind fun x1=>bif eqL v3.length v3.length then (rg_Parts_f1_v1 x1 v2 v3).bind fun r1=>(bif r1.1 then (bif eqL r1.2.2.length r1.2.2.length then some (v1,r1.2.1,r1.2.2)else none).map fun a=> .inr (.inr a)else bif eqL r1.2.2.length r1.2.2.length then some (.inl ((i64.wrap (v1+1)),r1.2.1,r1.2.2))else none)else none else bif eqL v3.length v3.length then some (.inr (.inl (v2,v3)))else none)
def sl_IndexFunc_Rect_v1 (n:Nat) (a0:(List GRect)) (a1:Int) (a2:(List GRect)):Option (Int×Int×(List GRect)):=
 bif eqL a2.length a2.length then thenB (iter (sl_IndexFunc_Rect_v1_s1 a0) n ((0:Int),a1,a2)) fun (w1,w2)=>bif eqL w2.length w2.length then some (((-1):Int),w1,w2)else none else none
def sl_IndexFunc_Rect_v1_G (n:Nat):GSig xx:=⟨[(.v (.sl (.st SI.Rect))),(.f 87 [] [(.p 0),(.p 1)])],[(0,.c 1 [[(.o 2)]]),(1,.c 1 [[(.v (.int .i64))]]),(2,.l (.st SI.Rect))],[(.v (.int .i64))],[(0,.c 1 [[(.o 1000)]]),(1,.c 1 [[(.v (.int .i64))]]),(1000,.l (.st SI.Rect))],fun v=>sl_IndexFunc_Rect_v1 n v.1 v.2.1 v.2.2⟩
def sl_IndexFunc_Rect_v1_g (n:Nat):Sig xx:=⟨[],[.d .bool],fun _=>none,some (sl_IndexFunc_Rect_v1_G n)⟩
def sl_IndexFunc_Rect_v1_h:Hn SI:=(.s .z (.s (.s .z (.b (.lx ⟨[(8,(.v (.int .i64)))],[(0,.c 1 [[(.o 1256)]]),(1,.c 1 [[(.v (.int .i64))]]),(1256,.l (.st SI.Rect))],[0,1,7],[],1257,[]⟩ 0 ⟨[],[(0,.c 1 [[(.o 1256)]]),(1,.c 1 [[(.v (.int .i64))]]),(1256,.l (.st SI.Rect))],[],[],1257,[]⟩ .z))) .z))
theorem sl_IndexFunc_Rect_v1_c (n:Nat):COk Tryz.prog 97 (sl_IndexFunc_Rect_v1_g n):=
 cqG (gam_cons rg_Parts_f1_v1_c gam_nil) Tryz.func97 sl_IndexFunc_Rect_v1_h n (by kernel_rfl) fun _=>by kernel_rfl
def sl_DeleteFunc_Rect_v1_s1 (a0:Int) (a1:(List GRect)):(Int×Int×(List GRect)×Int×(List GRect))→Option ((Int×Int×(List GRect)×Int×(List GRect)) ⊕ (Int×(List GRect)×Int×(List GRect)))
 |(v1,v2,v3,v4,v5)=>(bif (decide (v2 < ((((a1.length - (a0:Int).toNat):Nat):Int):Int)))then (bif inb v2 (a1.length - (a0:Int).toNat)then (at? v3 (((a0:Int).toNat:Nat)+v2:Int)).bind fun x1=>bif eqL v5.length v5.length then (rg_Parts_f1_v1 x1 v4 v5).bind fun r2=>(bif (!r2.1)then bif inb v1 (a1.length - (a0:Int).toNat)then (at? v3 (((a0:Int).toNat:Nat)+v1:Int)).bind fun x2=>bif eqL r2.2.2.length r2.2.2.length then some ((i64.wrap (v1+1)),(v3.set (((a0:Int).toNat:Nat)+v1:Int).toNat x1),r2.2.1,r2.2.2)else none else none else bif eqL r2.2.2.length r2.2.2.length then some (v1,v3,r2.2.1,r2.2.2)else none)else none else none:Option (Int×(List GRect)×Int×(List GRect))).bind fun (v6,v7,v8,v9)=>bif eqL v9.length v9.length then some (.inl (v6,(i64.wrap (v2+1)),v7,v8,v9))else none else bif eqL v5.length v5.length then some (.inr (v1,v3,v4,v5))else none)
def sl_DeleteFunc_Rect_v1 (n:Nat) (a0:Int) (a1:(List GRect)) (a2:Int) (a3:(List GRect)):Option (Int×(List GRect)×Int×(List GRect)):=
 bif eqL (sub a1 ((a0:Int).toNat) (a1.length - (a0:Int).toNat)).length (a1.length - (a0:Int).toNat)then bif eqL a3.length a3.length then (sl_IndexFunc_Rect_v1 n (sub a1 ((a0:Int).toNat) (a1.length - (a0:Int).toNat)) a2 a3).bind fun r1=>(bif (r1.1==((-1):Int))then bif eqL (((a0:Int).toNat)+(a1.length - (a0:Int).toNat)) a1.length then bif eqL r1.2.2.length r1.2.2.length then some ((((a0:Int).toNat:Nat):Int),a1,r1.2.1,r1.2.2)else none else none else bif eqL r1.2.2.length r1.2.2.length then (iter (sl_DeleteFunc_Rect_v1_s1 a0 a1) n (r1.1,(i64.wrap (r1.1+1)),a1,r1.2.1,r1.2.2)).bind fun (w1,w2,w3,w4)=>bif slOk w1 (((a1.length - (a0:Int).toNat):Nat):Int) (a1.length - (a0:Int).toNat)then bif slOk 0 w1 (a1.length - (a0:Int).toNat)then bif eqL (((a0:Int).toNat)+((w1:Int).toNat)) (w2.take ((a0:Int).toNat+(w1:Int).toNat)).length then bif eqL w4.length w4.length then some ((((a0:Int).toNat:Nat):Int),(w2.take ((a0:Int).toNat+(w1:Int).toNat)),w3,w4)else none else none else none else none else none)else none else none
def sl_DeleteFunc_Rect_v1_G (n:Nat):GSig xx:=⟨[(.od 0),(.f 87 [] [(.p 1),(.p 2)])],[(0,.l (.st SI.Rect)),(1,.c 1 [[(.o 3)]]),(2,.c 1 [[(.v (.int .i64))]]),(3,.l (.st SI.Rect))],[(.od 0)],[(0,.l (.st SI.Rect)),(1,.c 1 [[(.o 1000)]]),(2,.c 1 [[(.v (.int .i64))]]),(1000,.l (.st SI.Rect))],fun v=>sl_DeleteFunc_Rect_v1 n v.1 v.2.1 v.2.2.1 v.2.2.2⟩
def sl_DeleteFunc_Rect_v1_g (n:Nat):Sig xx:=⟨[],[.d .bool],fun _=>none,some (sl_DeleteFunc_Rect_v1_G n)⟩
def sl_DeleteFunc_Rect_v1_h:Hn SI:=(.s .z (.s .z (.s .z (.s (.s .z (.b (.l ⟨[(5,(.v (.int .i64))),(6,(.v (.int .i64)))],[(0,.l (.st SI.Rect)),(1,.c 1 [[(.o 1640)]]),(2,.c 1 [[(.v (.int .i64))]]),(1640,.l (.st SI.Rect))],[0,1],[],1641,[]⟩ 0 ⟨[(5,(.v (.int .i64)))],[(0,.l (.st SI.Rect)),(1,.c 1 [[(.o 1640)]]),(2,.c 1 [[(.v (.int .i64))]]),(1640,.l (.st SI.Rect))],[0],[],1641,[]⟩ (.s .z (.s (.j ⟨[(5,(.v (.int .i64)))],[(0,.l (.st SI.Rect)),(1,.c 1 [[(.o 1897)]]),(2,.c 1 [[(.v (.int .i64))]]),(1897,.l (.st SI.Rect))],[0,1,6],[],1898,[]⟩ .z) .z))))) .z))))
theorem sl_DeleteFunc_Rect_v1_c (n:Nat):COk Tryz.prog 86 (sl_DeleteFunc_Rect_v1_g n):=
 cqG (gam_cons (sl_IndexFunc_Rect_v1_c n) (gam_cons rg_Parts_f1_v1_c gam_nil)) Tryz.func86 sl_DeleteFunc_Rect_v1_h n (by kernel_rfl) fun _=>by kernel_rfl
def rg_Parts_s2 (n:Nat):(Int×(List GRect)×Int×(List GRect))→Option ((Int×(List GRect)×Int×(List GRect)) ⊕ (Int×(List GRect)×(List GRect)))
 |(v4,v5,v6,v7)=>(bif (decide (v6 < (((v7.length:Nat):Int):Int)))then bif eqL (((v4:Int).toNat)+(v5.length - (v4:Int).toNat)) v5.length then bif eqL v7.length v7.length then (sl_DeleteFunc_Rect_v1 n (((v4:Int).toNat:Nat):Int) v5 v6 v7).bind fun r3=>bif eqL (((r3.1:Int).toNat)+(r3.2.1.length - (r3.1:Int).toNat)) r3.2.1.length then bif eqL r3.2.2.2.length r3.2.2.2.length then some (.inl ((((r3.1:Int).toNat:Nat):Int),r3.2.1,(i64.wrap (r3.2.2.1+1)),r3.2.2.2))else none else none else none else none else bif eqL (((v4:Int).toNat)+(v5.length - (v4:Int).toNat)) v5.length then bif eqL v7.length v7.length then some (.inr ((((v4:Int).toNat:Nat):Int),v5,v7))else none else none)
def rg_Parts_s1 (n:Nat):(Int×(List GRect)×(List (List GRect)))→Option ((Int×(List GRect)×(List (List GRect))) ⊕ (List (List GRect)))
 |(v1,v2,v3)=>(bif (decide ((((v2.length - (v1:Int).toNat):Nat):Int)>(0:Int)))then bif inb 0 (v2.length - (v1:Int).toNat)then (at? v2 (((v1:Int).toNat:Nat)+0:Int)).bind fun x1=>bif slOk 1 (((v2.length - (v1:Int).toNat):Nat):Int) (v2.length - (v1:Int).toNat)then bif eqL (((v1:Int).toNat+1)+((v2.length - (v1:Int).toNat) - 1)) v2.length then bif eqL 1 ([x1]:List GRect).length then (iter (rg_Parts_s2 n) n (((((v1:Int).toNat+1):Nat):Int),v2,(0:Int),([x1]:List GRect))).bind fun (w1,w2,w3)=>bif eqL (sub w3 0 w3.length).length w3.length then bif eqL (sub ([(sub w3 0 w3.length)]:List (List GRect)) 0 1).length 1 then (rg_strips n (sub ([(sub w3 0 w3.length)]:List (List GRect)) 0 1)).bind fun r4=>bif eqL (sub r4 0 r4.length).length r4.length then (rg_write n (sub r4 0 r4.length)).bind fun r5=>bif eqL (sub r5 0 r5.length).length r5.length then bif appOk v3.length v3.length (sub ([(sub r5 0 r5.length)]:List (List GRect)) 0 1).length 1 24 then letv (v3++(sub ([(sub r5 0 r5.length)]:List (List GRect)) 0 1)) fun r6=>bif eqL (((w1:Int).toNat)+(w2.length - (w1:Int).toNat)) w2.length then bif eqL r6.length r6.length then some (.inl ((((w1:Int).toNat:Nat):Int),w2,r6))else none else none else none else none else none else none else none else none else none else none else none else bif eqL v3.length v3.length then some (.inr v3)else none)
def rg_Parts (n:Nat) (a0:(List GRect)):Option (List (List GRect)):=
 (rg_Right n a0).bind fun r1=>(bif (!r1)then some ([]:(List (List GRect)))else (sl_Clone_Rect a0).bind fun r2=>bif eqL (0+r2.length) r2.length then bif eqL 0 ([]:List (List GRect)).length then (iter (rg_Parts_s1 n) n (((0:Nat):Int),r2,([]:List (List GRect)))).bind fun w4=>bif eqL (sub w4 0 w4.length).length w4.length then some (sub w4 0 w4.length)else none else none else none)
def rg_Parts_g (n:Nat):Sig xx:=⟨[.d (.sl (.st SI.Rect))],[.fresh (.sl (.st SI.Rect))],fun a=>rg_Parts n a.1,none⟩
def rg_Parts_h:Hn SI:=(.s .z (.s .z (.s .z (.s .z (.s (.b (.l ⟨[(3,(.od 1320)),(4,(.o 1512))],[(1320,.l (.st SI.Rect)),(1512,.l (.sl (.st SI.Rect)))],[],[],1513,[(4,(.sl (.st SI.Rect)))]⟩ 0 ⟨[(4,(.o 1512))],[(1512,.l (.sl (.st SI.Rect)))],[],[],1513,[]⟩ (.s .z (.b (.s .z (.s .z (.s (.s .z (.b (.l ⟨[(3,(.od 1320)),(6,(.p 2409))],[(1320,.l (.st SI.Rect)),(1961,.c 1 [[(.o 2410)]]),(2409,.c 1 [[(.v (.int .i64))]]),(2410,.l (.st SI.Rect))],[4,5],[1512],2411,[]⟩ 2 ⟨[(3,(.od 1320))],[(1320,.l (.st SI.Rect)),(1961,.c 1 [[(.o 2409)]]),(2409,.l (.st SI.Rect))],[4,5],[1512],2410,[]⟩ .z))) .z))))))) .z)))))
theorem rg_Parts_c (n:Nat):COk Tryz.prog 49 (rg_Parts_g n):=
 cq (gam_cons (rg_Right_c n) (gam_cons sl_Clone_Rect_c (gam_cons (sl_DeleteFunc_Rect_v1_c n) (gam_cons (rg_strips_c n) (gam_cons (rg_write_c n) gam_nil))))) Tryz.func49 rg_Parts_h n (by kernel_rfl) rfl fun _=>by kernel_rfl
def pc_valid (n:Nat) (a0:GLot):Option Bool:=
 (pc_number a0.id).bind fun r1=>(bif r1 then (pc_owner a0.owner).bind fun r2=>(bif r2 then (pc_ascending n a0.from_).bind fun r3=>(bif r3 then (sl_ContainsFunc_int n a0.from_ (fun (y1:Int×Unit)=>pc_valid_f1 y1.1)).bind fun r4=>(bif (!r4)then (rg_Parts n a0.area).bind fun r5=>some (((r5.length:Nat):Int)==(1:Int))else some false)else some false)else some false)else some false)
def pc_valid_g (n:Nat):Sig xx:=⟨[.d (.st SI.Lot)],[.d .bool],fun a=>pc_valid n a.1,none⟩
def pc_valid_h:Hn SI:= .z
theorem pc_valid_c (n:Nat):COk Tryz.prog 40 (pc_valid_g n):=
 cq (gam_cons pc_number_c (gam_cons pc_owner_c (gam_cons (pc_ascending_c n) (gam_cons (sl_ContainsFunc_int_c n) (gam_cons pc_valid_f1_c (gam_cons (rg_Parts_c n) gam_nil)))))) Tryz.func40 pc_valid_h n (by kernel_rfl) rfl fun _=>by kernel_rfl
def pc_meet_f1_f1 (a0:GRect) (a1:GRect):Option Bool:=
 (bif (decide ((max a1.x0 a0.x0) < ((min a1.x1 a0.x1):Int)))then some (decide ((max a1.y0 a0.y0) < ((min a1.y1 a0.y1):Int)))else some false)
def pc_meet_f1_f1_g:Sig xx:=⟨[.d (.st SI.Rect),.ref (.st SI.Rect)],[.d .bool],fun a=>pc_meet_f1_f1 a.1 a.2.1,none⟩
def pc_meet_f1_f1_h:Hn SI:= .z
theorem pc_meet_f1_f1_c:COk Tryz.prog 78 pc_meet_f1_f1_g:=
 cq gam_nil Tryz.func78 pc_meet_f1_f1_h 0 (by kernel_rfl) rfl fun _=>by kernel_rfl
def sl_ContainsFunc_Rect (n:Nat) (a0:(List GRect)) (a1:(GRect×Unit)→Option Bool):Option Bool:=
 (sl_IndexFunc_Rect n a0 a1).bind fun r1=>some (decide (r1≥(0:Int)))
def sl_ContainsFunc_Rect_g (n:Nat):Sig xx:=⟨[.d (.sl (.st SI.Rect)),.clo [(.st SI.Rect)] .bool],[.d .bool],fun a=>sl_ContainsFunc_Rect n a.1 a.2.1,none⟩
def sl_ContainsFunc_Rect_h:Hn SI:= .z
theorem sl_ContainsFunc_Rect_c (n:Nat):COk Tryz.prog 76 (sl_ContainsFunc_Rect_g n):=
 cq (gam_cons (sl_IndexFunc_Rect_c n) gam_nil) Tryz.func76 sl_ContainsFunc_Rect_h n (by kernel_rfl) rfl fun _=>by kernel_rfl
def pc_meet_f1 (n:Nat) (a0:GRect) (a1:(List GRect)):Option Bool:=
 (sl_ContainsFunc_Rect n a1 (fun (y1:GRect×Unit)=>pc_meet_f1_f1 y1.1 a0)).bind fun r1=>some r1
def pc_meet_f1_g (n:Nat):Sig xx:=⟨[.d (.st SI.Rect),.ref (.sl (.st SI.Rect))],[.d .bool],fun a=>pc_meet_f1 n a.1 a.2.1,none⟩
def pc_meet_f1_h:Hn SI:= .z
theorem pc_meet_f1_c (n:Nat):COk Tryz.prog 77 (pc_meet_f1_g n):=
 cq (gam_cons (sl_ContainsFunc_Rect_c n) (gam_cons pc_meet_f1_f1_c gam_nil)) Tryz.func77 pc_meet_f1_h n (by kernel_rfl) rfl fun _=>by kernel_rfl
def pc_meet (n:Nat) (a0:(List GRect)) (a1:(List GRect)):Option Bool:=
 (sl_ContainsFunc_Rect n a0 (fun (y1:GRect×Unit)=>pc_meet_f1 n y1.1 a1)).bind fun r1=>some r1
def pc_meet_g (n:Nat):Sig xx:=⟨[.d (.sl (.st SI.Rect)),.d (.sl (.st SI.Rect))],[.d .bool],fun a=>pc_meet n a.1 a.2.1,none⟩
def pc_meet_h:Hn SI:= .z
theorem pc_meet_c (n:Nat):COk Tryz.prog 41 (pc_meet_g n):=
 cq (gam_cons (sl_ContainsFunc_Rect_c n) (gam_cons (pc_meet_f1_c n) gam_nil)) Tryz.func41 pc_meet_h n (by kernel_rfl) rfl fun _=>by kernel_rfl
def pc_Right_s2 (x1:GLot):(Int×(List (Int×Bool)))→Option ((Int×(List (Int×Bool))) ⊕ (List (Int×Bool)))
 |(v5,v6)=>(bif (decide (v5 < ((x1.from_.length:Int):Int)))then (at? x1.from_ v5).bind fun x3=>some (.inl ((i64.wrap (v5+1)),(mput iEq x3 true v6)))else some (.inr v6))
def pc_Right_s1 (n:Nat) (a0:(List GLot)):(Int×(List (Int×Bool))×(List (Int×Bool)))→Option ((Int×(List (Int×Bool))×(List (Int×Bool))) ⊕ (((List (Int×Bool))×(List (Int×Bool))) ⊕ Bool))
 |(v1,v2,v3)=>(bif (decide (v1 < ((a0.length:Int):Int)))then (at? a0 v1).bind fun x1=>((pc_valid n x1).bind fun r1=>(bif (!r1)then some true else (bif (decide (v1>(0:Int)))then (at? a0 (i64.wrap (v1 - 1))).bind fun x2=>some (decide (x2.id≥(x1.id:Int)))else some false)):Option (Bool)).bind fun v4=>(bif v4 then (some false).map fun a=> .inr (.inr a)else (iter (pc_Right_s2 x1) n ((0:Int),v3)).bind fun w1=>some (.inl ((i64.wrap (v1+1)),(mput iEq x1.id true v2),w1)))else some (.inr (.inl (v2,v3))))
def pc_Right_r3 (w2:(List (Int×Bool))):Int→Unit→Option (Unit ⊕ Bool)
 |kx,()=>(bif ((mlook iEq kx w2).getD false)then (some false).map .inr else some (.inl ()))
def pc_Right_s5 (n:Nat) (a0:(List GLot)) (v7:Int):Int→Option (Int ⊕ (Unit ⊕ (Int ⊕ (Unit ⊕ Bool))))
 |v8=>(bif (decide (v8 < (v7:Int)))then (at? a0 v7).bind fun x4=>(at? a0 v8).bind fun x5=>(pc_meet n x4.area x5.area).bind fun r2=>(bif r2 then ((some false).map fun a=> .inr (.inr a)).map fun a=> .inr (.inr a)else some (.inl (i64.wrap (v8+1))))else some (.inr (.inl ())))
def pc_Right_s4 (n:Nat) (a0:(List GLot)):Int→Option (Int ⊕ (Unit ⊕ Bool))
 |v7=>(bif (decide (v7 < ((a0.length:Int):Int)))then thenB (iter (pc_Right_s5 n a0 v7) n (0:Int)) fun ()=>some (.inl (i64.wrap (v7+1)))else some (.inr (.inl ())))
def pc_Right (n:Nat) (a0:(List GLot)):Option Bool:=
 (bif (decide ((a0.length:Int)>(20000:Int)))then some false else thenB (iter (pc_Right_s1 n a0) n ((0:Int),([]:(List (Int×Bool))),([]:(List (Int×Bool))))) fun (w2,w3)=>allEq fun _=>thenC (permAll (List.map (fun p=>p.1) w3) fun ks=>foldR (pc_Right_r3 w2) ks ()) fun (ww:Unit)=>match ww with |()=>thenB (iter (pc_Right_s4 n a0) n (0:Int)) fun ()=>some true)
def pc_Right_g (n:Nat):Sig xx:=⟨[.d (.sl (.st SI.Lot))],[.d .bool],fun a=>pc_Right n a.1,none⟩
def pc_Right_h:Hn SI:=(.s .z (.s .z (.s .z (.s (.s .z (.b (.lx ⟨[(19,(.v (.int .i64)))],[(1256,.m (.int .i64) .bool),(1320,.m (.int .i64) .bool)],[0,3,4,17,18],[],1704,[]⟩ 0 ⟨[],[(1256,.m (.int .i64) .bool),(1320,.m (.int .i64) .bool)],[0,3,4],[],1704,[]⟩ (.s .z (.s .z (.s (.b (.s .z (.s (.s (.j ⟨[(41,(.v .bool))],[],[0,3,4,6,17,18,19],[1256,1320,1960],2152,[]⟩ .z) .z) (.s .z (.s .z (.b (.l ⟨[(48,(.v (.int .i64)))],[(1320,.m (.int .i64) .bool)],[0,3,4,17,18,19,46,47],[1256],2664,[]⟩ 2 ⟨[],[(1320,.m (.int .i64) .bool)],[0,3,4,17,18,19],[1256],2664,[]⟩ .z))))))) .z)))))) (.s (.rg ⟨[],[],[0,3,57],[1256],1704,[]⟩ .z) (.s (.s .z (.b (.lx ⟨[(67,(.v (.int .i64)))],[],[0,66],[],1896,[]⟩ 6 ⟨[],[],[],[],1896,[]⟩ (.s .z (.s .z (.s (.b (.s .z (.s .z (.b (.lx ⟨[(71,(.v (.int .i64)))],[],[0,10,66,67,70],[],2216,[]⟩ 8 ⟨[],[],[0,66,67],[],2216,[]⟩ .z))))) .z)))))) .z))))))
theorem pc_Right_c (n:Nat):COk Tryz.prog 21 (pc_Right_g n):=
 cq (gam_cons (pc_valid_c n) (gam_cons (pc_meet_c n) gam_nil)) Tryz.func21 pc_Right_h n (by kernel_rfl) rfl fun _=>by kernel_rfl
def pc_taken_f1 (n:Nat) (a0:GLot) (a1:Int):Option Bool:=
 (bif (a0.id==(a1:Int))then some true else (sl_Contains_int n a0.from_ a1).bind fun r1=>some r1)
def pc_taken_f1_g (n:Nat):Sig xx:=⟨[.d (.st SI.Lot),.ref (.int .i64)],[.d .bool],fun a=>pc_taken_f1 n a.1 a.2.1,none⟩
def pc_taken_f1_h:Hn SI:= .z
theorem pc_taken_f1_c (n:Nat):COk Tryz.prog 45 (pc_taken_f1_g n):=
 cq (gam_cons (sl_Contains_int_c n) gam_nil) Tryz.func45 pc_taken_f1_h n (by kernel_rfl) rfl fun _=>by kernel_rfl
def sl_IndexFunc_Lot_s1 (a0:(List GLot)) (a1:(GLot×Unit)→Option Bool):Int→Option (Int ⊕ (Unit ⊕ Int))
 |v1=>(bif (decide (v1 < ((a0.length:Int):Int)))then (at? a0 v1).bind fun x1=>(a1 (x1,())).bind fun r1=>(bif r1 then (some v1).map fun a=> .inr (.inr a)else some (.inl (i64.wrap (v1+1))))else some (.inr (.inl ())))
def sl_IndexFunc_Lot (n:Nat) (a0:(List GLot)) (a1:(GLot×Unit)→Option Bool):Option Int:=
 thenB (iter (sl_IndexFunc_Lot_s1 a0 a1) n (0:Int)) fun ()=>some ((-1):Int)
def sl_IndexFunc_Lot_g (n:Nat):Sig xx:=⟨[.d (.sl (.st SI.Lot)),.clo [(.st SI.Lot)] .bool],[.d (.int .i64)],fun a=>sl_IndexFunc_Lot n a.1 a.2.1,none⟩
def sl_IndexFunc_Lot_h:Hn SI:=(.s .z (.s (.s .z (.b (.lx ⟨[(8,(.v (.int .i64)))],[],[0,1,7],[],1256,[]⟩ 0 ⟨[],[],[],[],1256,[]⟩ .z))) .z))
theorem sl_IndexFunc_Lot_c (n:Nat):COk Tryz.prog 83 (sl_IndexFunc_Lot_g n):=
 cq gam_nil Tryz.func83 sl_IndexFunc_Lot_h n (by kernel_rfl) rfl fun _=>by kernel_rfl
def sl_ContainsFunc_Lot (n:Nat) (a0:(List GLot)) (a1:(GLot×Unit)→Option Bool):Option Bool:=
 (sl_IndexFunc_Lot n a0 a1).bind fun r1=>some (decide (r1≥(0:Int)))
def sl_ContainsFunc_Lot_g (n:Nat):Sig xx:=⟨[.d (.sl (.st SI.Lot)),.clo [(.st SI.Lot)] .bool],[.d .bool],fun a=>sl_ContainsFunc_Lot n a.1 a.2.1,none⟩
def sl_ContainsFunc_Lot_h:Hn SI:= .z
theorem sl_ContainsFunc_Lot_c (n:Nat):COk Tryz.prog 44 (sl_ContainsFunc_Lot_g n):=
 cq (gam_cons (sl_IndexFunc_Lot_c n) gam_nil) Tryz.func44 sl_ContainsFunc_Lot_h n (by kernel_rfl) rfl fun _=>by kernel_rfl
def pc_taken (n:Nat) (a0:(List GLot)) (a1:Int):Option Bool:=
 (sl_ContainsFunc_Lot n a0 (fun (y1:GLot×Unit)=>pc_taken_f1 n y1.1 a1)).bind fun r1=>some r1
def pc_taken_g (n:Nat):Sig xx:=⟨[.d (.sl (.st SI.Lot)),.d (.int .i64)],[.d .bool],fun a=>pc_taken n a.1 a.2.1,none⟩
def pc_taken_h:Hn SI:= .z
theorem pc_taken_c (n:Nat):COk Tryz.prog 24 (pc_taken_g n):=
 cq (gam_cons (sl_ContainsFunc_Lot_c n) (gam_cons (pc_taken_f1_c n) gam_nil)) Tryz.func24 pc_taken_h n (by kernel_rfl) rfl fun _=>by kernel_rfl
def sl_BinarySearchFunc_strip_int_s1 (a0:(List Gstrip)) (a1:Int) (a2:(Gstrip×Int×Unit)→Option Int):(Int×Int)→Option ((Int×Int) ⊕ Int)
 |(v1,v2)=>(bif (decide (v1 < (v2:Int)))then bif (decide (0≤1)&&decide (1≤IntKind.u64.bits))then (at? a0 (i64.wrap ((IntKind.u64.wrap (i64.wrap (v1+v2)))/2 ^ (1:Int).toNat))).bind fun x1=>(a2 (x1,a1,())).bind fun r1=>(bif (decide (r1 < (0:Int)))then some (.inl ((i64.wrap ((i64.wrap ((IntKind.u64.wrap (i64.wrap (v1+v2)))/2 ^ (1:Int).toNat))+1)),v2))else some (.inl (v1,(i64.wrap ((IntKind.u64.wrap (i64.wrap (v1+v2)))/2 ^ (1:Int).toNat)))))else none else some (.inr v1))
def sl_BinarySearchFunc_strip_int (n:Nat) (a0:(List Gstrip)) (a1:Int) (a2:(Gstrip×Int×Unit)→Option Int):Option (Int×Bool):=
 (iter (sl_BinarySearchFunc_strip_int_s1 a0 a1 a2) n ((0:Int),(a0.length:Int))).bind fun w1=>(bif (decide (w1 < ((a0.length:Int):Int)))then (at? a0 w1).bind fun x2=>(a2 (x2,a1,())).bind fun r2=>some (w1,(r2==(0:Int)))else some (w1,false))
def sl_BinarySearchFunc_strip_int_g (n:Nat):Sig xx:=⟨[.d (.sl (.st SI.strip)),.d (.int .i64),.clo [(.st SI.strip),(.int .i64)] (.int .i64)],[.d (.int .i64),.d .bool],fun a=>sl_BinarySearchFunc_strip_int n a.1 a.2.1 a.2.2.1,none⟩
def sl_BinarySearchFunc_strip_int_h:Hn SI:=(.s .z (.s .z (.s .z (.s (.b (.l ⟨[(9,(.v (.int .i64))),(10,(.v (.int .i64)))],[],[0,1,2,8],[],1512,[]⟩ 0 ⟨[(9,(.v (.int .i64)))],[],[0,1,2,8],[],1512,[]⟩ .z)) .z))))
theorem sl_BinarySearchFunc_strip_int_c (n:Nat):COk Tryz.prog 103 (sl_BinarySearchFunc_strip_int_g n):=
 cq gam_nil Tryz.func103 sl_BinarySearchFunc_strip_int_h n (by kernel_rfl) rfl fun _=>by kernel_rfl
def rg_at_f1 (a0:Gstrip) (a1:Int):Option Int:=
 (bif (decide (a0.x1≤(a1:Int)))then some ((-1):Int)else some (1:Int))
def rg_at_f1_g:Sig xx:=⟨[.d (.st SI.strip),.d (.int .i64)],[.d (.int .i64)],fun a=>rg_at_f1 a.1 a.2.1,none⟩
def rg_at_f1_h:Hn SI:= .z
theorem rg_at_f1_c:COk Tryz.prog 104 rg_at_f1_g:=
 cq gam_nil Tryz.func104 rg_at_f1_h 0 (by kernel_rfl) rfl fun _=>by kernel_rfl
def rg_at (n:Nat) (a0:(List Gstrip)) (a1:Int):Option (List Gspan):=
 (sl_BinarySearchFunc_strip_int n a0 a1 (fun (y1:Gstrip×Int×Unit)=>rg_at_f1 y1.1 y1.2.1)).bind fun r1=>((bif (decide (r1.1 < ((a0.length:Int):Int)))then (at? a0 r1.1).bind fun x1=>some (decide (x1.x0≤(a1:Int)))else some false):Option (Bool)).bind fun v1=>(bif v1 then (at? a0 r1.1).bind fun x2=>some x2.column else some ([]:(List Gspan)))
def rg_at_g (n:Nat):Sig xx:=⟨[.d (.sl (.st SI.strip)),.d (.int .i64)],[.d (.sl (.st SI.span))],fun a=>rg_at n a.1 a.2.1,none⟩
def rg_at_h:Hn SI:=(.s .z (.s .z (.s (.s (.j ⟨[(25,(.v .bool))],[],[0,5],[],1576,[]⟩ .z) .z) .z)))
theorem rg_at_c (n:Nat):COk Tryz.prog 85 (rg_at_g n):=
 cq (gam_cons (sl_BinarySearchFunc_strip_int_c n) (gam_cons rg_at_f1_c gam_nil)) Tryz.func85 rg_at_h n (by kernel_rfl) rfl fun _=>by kernel_rfl
def sl_Grow_span (a0:Unit) (a1:Int):Option (List Gspan):=
 (bif (decide (a1 < (0:Int)))then none else (bif (decide ((i64.wrap (a1 - (i64.wrap (0 - 0))))>(0:Int)))then bif mkOk (i64.wrap (a1 - (i64.wrap (0 - 0)))) 16 then bif slOk 0 0 ((i64.wrap (a1 - (i64.wrap (0 - 0)))).toNat)then bif eqL (sub (List.replicate (i64.wrap (a1 - (i64.wrap (0 - 0)))).toNat (Gspan.mk 0 0)) 0 0).length 0 then some (sub (List.replicate (i64.wrap (a1 - (i64.wrap (0 - 0)))).toNat (Gspan.mk 0 0)) 0 0)else none else none else none else some ([]:(List Gspan))))
def sl_Grow_span_g:Sig xx:=⟨[.nil,.d (.int .i64)],[.fresh (.st SI.span)],fun a=>sl_Grow_span a.1 a.2.1,none⟩
def sl_Grow_span_h:Hn SI:= .z
theorem sl_Grow_span_c:COk Tryz.prog 118 sl_Grow_span_g:=
 cq gam_nil Tryz.func118 sl_Grow_span_h 0 (by kernel_rfl) rfl fun _=>by kernel_rfl
def sl_Concat_span_s1 (a0:(List (List Gspan))):(Int×Int)→Option ((Int×Int) ⊕ Int)
 |(v1,v2)=>(bif (decide (v2 < ((a0.length:Int):Int)))then (at? a0 v2).bind fun x1=>(bif (decide ((i64.wrap (v1+(x1.length:Int))) < (0:Int)))then none else some (.inl ((i64.wrap (v1+(x1.length:Int))),(i64.wrap (v2+1)))))else some (.inr v1))
def sl_Concat_span_s2 (a0:(List (List Gspan))):(Int×(List Gspan))→Option ((Int×(List Gspan)) ⊕ (List Gspan))
 |(v3,v4)=>(bif (decide (v3 < ((a0.length:Int):Int)))then (at? a0 v3).bind fun x2=>bif appOk v4.length v4.length x2.length x2.length 16 then letv (v4++x2) fun r2=>bif eqL r2.length r2.length then some (.inl ((i64.wrap (v3+1)),r2))else none else none else bif eqL v4.length v4.length then some (.inr v4)else none)
def sl_Concat_span (n:Nat) (a0:(List (List Gspan))):Option (List Gspan):=
 (iter (sl_Concat_span_s1 a0) n ((0:Int),(0:Int))).bind fun w1=>(sl_Grow_span () w1).bind fun r1=>bif eqL r1.length r1.length then (iter (sl_Concat_span_s2 a0) n ((0:Int),r1)).bind fun w2=>bif eqL (sub w2 0 w2.length).length w2.length then some (sub w2 0 w2.length)else none else none
def sl_Concat_span_g (n:Nat):Sig xx:=⟨[.d (.sl (.sl (.st SI.span)))],[.fresh (.st SI.span)],fun a=>sl_Concat_span n a.1,none⟩
def sl_Concat_span_h:Hn SI:=(.s .z (.s .z (.s (.s .z (.b (.l ⟨[(3,(.v (.int .i64))),(11,(.v (.int .i64)))],[],[0,9,10],[],1320,[]⟩ 0 ⟨[(3,(.v (.int .i64)))],[],[0],[],1320,[]⟩ .z))) (.s .z (.s (.s .z (.b (.l ⟨[(6,(.o 1704)),(27,(.v (.int .i64)))],[(1704,.l (.st SI.span))],[25,26],[],1705,[]⟩ 2 ⟨[(6,(.o 1704))],[(1704,.l (.st SI.span))],[],[],1705,[]⟩ .z))) .z)))))
theorem sl_Concat_span_c (n:Nat):COk Tryz.prog 101 (sl_Concat_span_g n):=
 cq (gam_cons sl_Grow_span_c gam_nil) Tryz.func101 sl_Concat_span_h n (by kernel_rfl) rfl fun _=>by kernel_rfl
def sl_BinarySearchFunc_span_int_s1 (a0:(List Gspan)) (a1:Int) (a2:(Gspan×Int×Unit)→Option Int):(Int×Int)→Option ((Int×Int) ⊕ Int)
 |(v1,v2)=>(bif (decide (v1 < (v2:Int)))then bif (decide (0≤1)&&decide (1≤IntKind.u64.bits))then (at? a0 (i64.wrap ((IntKind.u64.wrap (i64.wrap (v1+v2)))/2 ^ (1:Int).toNat))).bind fun x1=>(a2 (x1,a1,())).bind fun r1=>(bif (decide (r1 < (0:Int)))then some (.inl ((i64.wrap ((i64.wrap ((IntKind.u64.wrap (i64.wrap (v1+v2)))/2 ^ (1:Int).toNat))+1)),v2))else some (.inl (v1,(i64.wrap ((IntKind.u64.wrap (i64.wrap (v1+v2)))/2 ^ (1:Int).toNat)))))else none else some (.inr v1))
def sl_BinarySearchFunc_span_int (n:Nat) (a0:(List Gspan)) (a1:Int) (a2:(Gspan×Int×Unit)→Option Int):Option (Int×Bool):=
 (iter (sl_BinarySearchFunc_span_int_s1 a0 a1 a2) n ((0:Int),(a0.length:Int))).bind fun w1=>(bif (decide (w1 < ((a0.length:Int):Int)))then (at? a0 w1).bind fun x2=>(a2 (x2,a1,())).bind fun r2=>some (w1,(r2==(0:Int)))else some (w1,false))
def sl_BinarySearchFunc_span_int_g (n:Nat):Sig xx:=⟨[.d (.sl (.st SI.span)),.d (.int .i64),.clo [(.st SI.span),(.int .i64)] (.int .i64)],[.d (.int .i64),.d .bool],fun a=>sl_BinarySearchFunc_span_int n a.1 a.2.1 a.2.2.1,none⟩
def sl_BinarySearchFunc_span_int_h:Hn SI:=(.s .z (.s .z (.s .z (.s (.b (.l ⟨[(9,(.v (.int .i64))),(10,(.v (.int .i64)))],[],[0,1,2,8],[],1512,[]⟩ 0 ⟨[(9,(.v (.int .i64)))],[],[0,1,2,8],[],1512,[]⟩ .z)) .z))))
theorem sl_BinarySearchFunc_span_int_c (n:Nat):COk Tryz.prog 119 (sl_BinarySearchFunc_span_int_g n):=
 cq gam_nil Tryz.func119 sl_BinarySearchFunc_span_int_h n (by kernel_rfl) rfl fun _=>by kernel_rfl
def rg_inside_f1 (a0:Gspan) (a1:Int):Option Int:=
 (bif (decide (a0.to≤(a1:Int)))then some ((-1):Int)else some (1:Int))
def rg_inside_f1_g:Sig xx:=⟨[.d (.st SI.span),.d (.int .i64)],[.d (.int .i64)],fun a=>rg_inside_f1 a.1 a.2.1,none⟩
def rg_inside_f1_h:Hn SI:= .z
theorem rg_inside_f1_c:COk Tryz.prog 120 rg_inside_f1_g:=
 cq gam_nil Tryz.func120 rg_inside_f1_h 0 (by kernel_rfl) rfl fun _=>by kernel_rfl
def rg_inside (n:Nat) (a0:(List Gspan)) (a1:Int):Option Bool:=
 (sl_BinarySearchFunc_span_int n a0 a1 (fun (y1:Gspan×Int×Unit)=>rg_inside_f1 y1.1 y1.2.1)).bind fun r1=>(bif (decide (r1.1 < ((a0.length:Int):Int)))then (at? a0 r1.1).bind fun x1=>some (decide (x1.from_≤(a1:Int)))else some false)
def rg_inside_g (n:Nat):Sig xx:=⟨[.d (.sl (.st SI.span)),.d (.int .i64)],[.d .bool],fun a=>rg_inside n a.1 a.2.1,none⟩
def rg_inside_h:Hn SI:= .z
theorem rg_inside_c (n:Nat):COk Tryz.prog 102 (rg_inside_g n):=
 cq (gam_cons (sl_BinarySearchFunc_span_int_c n) (gam_cons rg_inside_f1_c gam_nil)) Tryz.func102 rg_inside_h n (by kernel_rfl) rfl fun _=>by kernel_rfl
def rg_merge_s1 (r1:(List Gspan)):(Int×(List Int))→Option ((Int×(List Int)) ⊕ (List Int))
 |(v1,v2)=>(bif (decide (v1 < (((r1.length:Nat):Int):Int)))then bif inb v1 r1.length then (at? r1 ((0:Nat)+v1:Int)).bind fun x1=>bif appOk v2.length v2.length (sub ([x1.from_,x1.to]:List Int) 0 2).length 2 8 then letv (v2++(sub ([x1.from_,x1.to]:List Int) 0 2)) fun r2=>bif eqL r2.length r2.length then some (.inl ((i64.wrap (v1+1)),r2))else none else none else none else bif eqL v2.length v2.length then some (.inr v2)else none)
def rg_merge_s2 (n:Nat) (a0:(List Gspan)) (a1:(List Gspan)) (a2:(Bool×Bool×Unit)→Option Bool) (r4:Unit×(List Int)):(Int×(List Gspan))→Option ((Int×(List Gspan)) ⊕ (List Gspan))
 |(v3,v4)=>(bif (decide (v3 < (((r4.2.length:Nat):Int):Int)))then (bif inb (i64.wrap (v3 - 1)) r4.2.length then (at? r4.2 ((0:Nat)+(i64.wrap (v3 - 1)):Int)).bind fun x2=>(rg_inside n a0 x2).bind fun r5=>(rg_inside n a1 x2).bind fun r6=>(a2 (r5,r6,())).bind fun r7=>(bif (!r7)then bif eqL v4.length v4.length then some v4 else none else ((bif (decide (((v4.length:Nat):Int)>(0:Int)))then bif inb (i64.wrap (((v4.length:Nat):Int) - 1)) v4.length then (at? v4 ((0:Nat)+(i64.wrap (((v4.length:Nat):Int) - 1)):Int)).bind fun x3=>some (x3.to==(x2:Int))else none else some false):Option (Bool)).bind fun v5=>(bif v5 then bif inb v3 r4.2.length then (at? r4.2 ((0:Nat)+v3:Int)).bind fun x4=>bif inb (i64.wrap (((v4.length:Nat):Int) - 1)) v4.length then (at? v4 ((0:Nat)+(i64.wrap (((v4.length:Nat):Int) - 1)):Int)).bind fun x5=>bif eqL v4.length (v4.set ((0:Nat)+(i64.wrap (((v4.length:Nat):Int) - 1)):Int).toNat (Gspan.mk x5.from_ x4)).length then some (v4.set ((0:Nat)+(i64.wrap (((v4.length:Nat):Int) - 1)):Int).toNat (Gspan.mk x5.from_ x4))else none else none else none else bif inb v3 r4.2.length then (at? r4.2 ((0:Nat)+v3:Int)).bind fun x6=>bif appOk v4.length v4.length (sub ([(Gspan.mk x2 x6)]:List Gspan) 0 1).length 1 16 then letv (v4++(sub ([(Gspan.mk x2 x6)]:List Gspan) 0 1)) fun r8=>bif eqL r8.length r8.length then some r8 else none else none else none))else none:Option ((List Gspan))).bind fun v6=>bif eqL v6.length v6.length then some (.inl ((i64.wrap (v3+1)),v6))else none else bif eqL v4.length v4.length then some (.inr v4)else none)
def rg_merge (n:Nat) (a0:(List Gspan)) (a1:(List Gspan)) (a2:(Bool×Bool×Unit)→Option Bool):Option (List Gspan):=
 bif eqL (sub ([a0,a1]:List (List Gspan)) 0 2).length 2 then (sl_Concat_span n (sub ([a0,a1]:List (List Gspan)) 0 2)).bind fun r1=>bif eqL 0 ([]:List Int).length then (iter (rg_merge_s1 r1) n ((0:Int),([]:List Int))).bind fun w1=>bif eqL w1.length w1.length then (sl_Sort_int n w1).bind fun r3=>bif eqL w1.length r3.length then (sl_Compact_int n r3).bind fun r4=>bif eqL 0 ([]:List Gspan).length then (iter (rg_merge_s2 n a0 a1 a2 r4) n ((1:Int),([]:List Gspan))).bind fun w2=>bif eqL (sub w2 0 w2.length).length w2.length then some (sub w2 0 w2.length)else none else none else none else none else none else none
def rg_merge_g (n:Nat):Sig xx:=⟨[.d (.sl (.st SI.span)),.d (.sl (.st SI.span)),.clo [.bool,.bool] .bool],[.fresh (.st SI.span)],fun a=>rg_merge n a.1 a.2.1 a.2.2.1,none⟩
def rg_merge_h:Hn SI:=(.s .z (.s .z (.s (.s .z (.b (.l ⟨[(7,(.o 1512)),(19,(.v (.int .i64)))],[(1512,.l (.int .i64))],[0,1,2,17,18],[1320],1513,[(7,(.int .i64))]⟩ 0 ⟨[(7,(.o 1512))],[(1512,.l (.int .i64))],[0,1,2],[],1513,[]⟩ .z))) (.s .z (.s .z (.s .z (.s (.s .z (.b (.l ⟨[(10,(.o 1961)),(11,(.v (.int .i64)))],[(1961,.l (.st SI.span))],[0,1,2,7],[1512],1962,[(10,(.st SI.span))]⟩ 2 ⟨[(10,(.o 1961))],[(1961,.l (.st SI.span))],[],[],1962,[]⟩ (.s .z (.s (.j ⟨[(10,(.o 2218))],[(2218,.l (.st SI.span))],[0,1,2,7,11],[1512],2219,[]⟩ (.b (.s .z (.s .z (.s .z (.s (.j ⟨[(68,(.v .bool))],[],[0,1,2,7,10,11,12,13],[1512,1961],3370,[]⟩ .z) .z)))))) .z))))) .z)))))))
theorem rg_merge_c (n:Nat):COk Tryz.prog 84 (rg_merge_g n):=
 cq (gam_cons (sl_Concat_span_c n) (gam_cons (sl_Sort_int_c n) (gam_cons (sl_Compact_int_c n) (gam_cons (rg_inside_c n) gam_nil)))) Tryz.func84 rg_merge_h n (by kernel_rfl) rfl fun _=>by kernel_rfl
def rg_combine_s1 (n:Nat) (a2:(Bool×Bool×Unit)→Option Bool) (r3:(List Gstrip)) (r4:(List Gstrip)) (r5:(List Gstrip)):(Int×(List Gstrip))→Option ((Int×(List Gstrip)) ⊕ (List Gstrip))
 |(v2,v3)=>(bif (decide (v2 < (((r5.length:Nat):Int):Int)))then bif inb v2 r5.length then (at? v3 ((0:Nat)+v2:Int)).bind fun x1=>(rg_at n (sub r3 0 r3.length) x1.x0).bind fun r6=>(rg_at n (sub r4 0 r4.length) x1.x0).bind fun r7=>(rg_merge n r6 r7 a2).bind fun r8=>bif inb v2 r5.length then bif eqL (sub r8 0 r8.length).length r8.length then (at? v3 ((0:Nat)+v2:Int)).bind fun x2=>some (.inl ((i64.wrap (v2+1)),(v3.set ((0:Nat)+v2:Int).toNat (Gstrip.mk x2.x0 x2.x1 (sub r8 0 r8.length)))))else none else none else none else some (.inr v3))
def rg_combine (n:Nat) (a0:(List GRect)) (a1:(List GRect)) (a2:(Bool×Bool×Unit)→Option Bool):Option ((List GRect)×Int):=
 ((rg_Right n a0).bind fun r1=>(bif (!r1)then some true else (rg_Right n a1).bind fun r2=>some (!r2)):Option (Bool)).bind fun v1=>(bif v1 then some (([]:(List GRect)),(1:Int))else bif eqL (sub ([a0]:List (List GRect)) 0 1).length 1 then (rg_strips n (sub ([a0]:List (List GRect)) 0 1)).bind fun r3=>bif eqL (sub ([a1]:List (List GRect)) 0 1).length 1 then (rg_strips n (sub ([a1]:List (List GRect)) 0 1)).bind fun r4=>bif eqL (sub r3 0 r3.length).length r3.length then bif eqL (sub r4 0 r4.length).length r4.length then bif eqL (sub ([a0,a1]:List (List GRect)) 0 2).length 2 then (rg_strips n (sub ([a0,a1]:List (List GRect)) 0 2)).bind fun r5=>(iter (rg_combine_s1 n a2 r3 r4 r5) n ((0:Int),r5)).bind fun w1=>bif eqL (sub w1 0 r5.length).length r5.length then (rg_write n (sub w1 0 r5.length)).bind fun r9=>bif eqL (sub r9 0 r9.length).length r9.length then (rg_limited (sub r9 0 r9.length)).bind fun r10=>some (r10.1,r10.2)else none else none else none else none else none else none else none)
def rg_combine_g (n:Nat):Sig xx:=⟨[.d (.sl (.st SI.Rect)),.d (.sl (.st SI.Rect)),.clo [.bool,.bool] .bool],[.d (.sl (.st SI.Rect)),.d (.int .i64)],fun a=>rg_combine n a.1 a.2.1 a.2.2.1,none⟩
def rg_combine_h:Hn SI:=(.s .z (.s (.s (.j ⟨[(20,(.v .bool))],[],[0,1,2],[],1128,[]⟩ .z) .z) (.s (.f [6,7]) (.s .z (.s (.s .z (.b (.l ⟨[(33,(.v (.int .i64)))],[(1832,.l (.st SI.strip))],[2,8,9,10,31,32],[],2152,[]⟩ 0 ⟨[],[(1832,.l (.st SI.strip))],[10],[],2152,[]⟩ .z))) .z)))))
theorem rg_combine_c (n:Nat):COk Tryz.prog 46 (rg_combine_g n):=
 cq (gam_cons (rg_Right_c n) (gam_cons (rg_strips_c n) (gam_cons (rg_at_c n) (gam_cons (rg_merge_c n) (gam_cons (rg_write_c n) (gam_cons rg_limited_c gam_nil)))))) Tryz.func46 rg_combine_h n (by kernel_rfl) rfl fun _=>by kernel_rfl
def rg_Common_f1 (a0:Bool) (a1:Bool):Option Bool:=
 (bif a0 then some a1 else some false)
def rg_Common_f1_g:Sig xx:=⟨[.d .bool,.d .bool],[.d .bool],fun a=>rg_Common_f1 a.1 a.2.1,none⟩
def rg_Common_f1_h:Hn SI:= .z
theorem rg_Common_f1_c:COk Tryz.prog 47 rg_Common_f1_g:=
 cq gam_nil Tryz.func47 rg_Common_f1_h 0 (by kernel_rfl) rfl fun _=>by kernel_rfl
def rg_Common (n:Nat) (a0:(List GRect)) (a1:(List GRect)):Option ((List GRect)×Int):=
 (rg_combine n a0 a1 (fun (y1:Bool×Bool×Unit)=>rg_Common_f1 y1.1 y1.2.1)).bind fun r1=>some (r1.1,r1.2)
def rg_Common_g (n:Nat):Sig xx:=⟨[.d (.sl (.st SI.Rect)),.d (.sl (.st SI.Rect))],[.d (.sl (.st SI.Rect)),.d (.int .i64)],fun a=>rg_Common n a.1 a.2.1,none⟩
def rg_Common_h:Hn SI:= .z
theorem rg_Common_c (n:Nat):COk Tryz.prog 25 (rg_Common_g n):=
 cq (gam_cons (rg_combine_c n) (gam_cons rg_Common_f1_c gam_nil)) Tryz.func25 rg_Common_h n (by kernel_rfl) rfl fun _=>by kernel_rfl
def rg_Minus_f1 (a0:Bool) (a1:Bool):Option Bool:=
 (bif a0 then some (!a1)else some false)
def rg_Minus_f1_g:Sig xx:=⟨[.d .bool,.d .bool],[.d .bool],fun a=>rg_Minus_f1 a.1 a.2.1,none⟩
def rg_Minus_f1_h:Hn SI:= .z
theorem rg_Minus_f1_c:COk Tryz.prog 48 rg_Minus_f1_g:=
 cq gam_nil Tryz.func48 rg_Minus_f1_h 0 (by kernel_rfl) rfl fun _=>by kernel_rfl
def rg_Minus (n:Nat) (a0:(List GRect)) (a1:(List GRect)):Option ((List GRect)×Int):=
 (rg_combine n a0 a1 (fun (y1:Bool×Bool×Unit)=>rg_Minus_f1 y1.1 y1.2.1)).bind fun r1=>some (r1.1,r1.2)
def rg_Minus_g (n:Nat):Sig xx:=⟨[.d (.sl (.st SI.Rect)),.d (.sl (.st SI.Rect))],[.d (.sl (.st SI.Rect)),.d (.int .i64)],fun a=>rg_Minus n a.1 a.2.1,none⟩
def rg_Minus_h:Hn SI:= .z
theorem rg_Minus_c (n:Nat):COk Tryz.prog 26 (rg_Minus_g n):=
 cq (gam_cons (rg_combine_c n) (gam_cons rg_Minus_f1_c gam_nil)) Tryz.func26 rg_Minus_h n (by kernel_rfl) rfl fun _=>by kernel_rfl
def pc_connected (n:Nat) (a0:(List GRect)):Option Bool:=
 (rg_Parts n a0).bind fun r1=>some (((r1.length:Nat):Int)==(1:Int))
def pc_connected_g (n:Nat):Sig xx:=⟨[.d (.sl (.st SI.Rect))],[.d .bool],fun a=>pc_connected n a.1,none⟩
def pc_connected_h:Hn SI:= .z
theorem pc_connected_c (n:Nat):COk Tryz.prog 27 (pc_connected_g n):=
 cq (gam_cons (rg_Parts_c n) gam_nil) Tryz.func27 pc_connected_h n (by kernel_rfl) rfl fun _=>by kernel_rfl
def pc_line_s1 (a0:(List GLot)):(Int×(List Int))→Option ((Int×(List Int)) ⊕ (List Int))
 |(v1,v2)=>(bif (decide (v1 < ((a0.length:Int):Int)))then (at? a0 v1).bind fun x1=>bif appOk v2.length v2.length (sub ([x1.id]:List Int) 0 1).length 1 8 then letv (v2++(sub ([x1.id]:List Int) 0 1)) fun r1=>bif appOk r1.length r1.length x1.from_.length x1.from_.length 8 then letv (r1++x1.from_) fun r2=>bif eqL r2.length r2.length then some (.inl ((i64.wrap (v1+1)),r2))else none else none else none else bif eqL v2.length v2.length then some (.inr v2)else none)
def pc_line (n:Nat) (a0:(List GLot)):Option (List Int):=
 bif eqL 0 ([]:List Int).length then (iter (pc_line_s1 a0) n ((0:Int),([]:List Int))).bind fun w1=>bif eqL w1.length w1.length then (sl_Sort_int n w1).bind fun r3=>bif eqL w1.length r3.length then (sl_Compact_int n r3).bind fun r4=>bif eqL (sub r4.2 0 r4.2.length).length r4.2.length then some (sub r4.2 0 r4.2.length)else none else none else none else none
def pc_line_g (n:Nat):Sig xx:=⟨[.d (.sl (.st SI.Lot))],[.fresh (.int .i64)],fun a=>pc_line n a.1,none⟩
def pc_line_h:Hn SI:=(.s .z (.s .z (.s (.s .z (.b (.l ⟨[(3,(.o 1320)),(8,(.v (.int .i64)))],[(1320,.l (.int .i64))],[6,7],[],1321,[(3,(.int .i64))]⟩ 0 ⟨[(3,(.o 1320))],[(1320,.l (.int .i64))],[],[],1321,[]⟩ .z))) .z)))
theorem pc_line_c (n:Nat):COk Tryz.prog 28 (pc_line_g n):=
 cq (gam_cons (sl_Sort_int_c n) (gam_cons (sl_Compact_int_c n) gam_nil)) Tryz.func28 pc_line_h n (by kernel_rfl) rfl fun _=>by kernel_rfl
def sl_insertionSortCmpFunc_Lot (n:Nat) (a0:(List GLot)) (a1:Int) (a2:Int) (a3:(GLot×GLot×Unit)→Option Int):Option (List GLot):=
 gInsertionSort (fun x y=>a3 (x,y,())) (fun r=>decide (r < 0)) n a0 a1 a2
def sl_insertionSortCmpFunc_Lot_g (n:Nat):Sig xx:=⟨[.mut (.st SI.Lot),.d (.int .i64),.d (.int .i64),.clo [(.st SI.Lot),(.st SI.Lot)] (.int .i64)],[.mu (.st SI.Lot)],fun a=>sl_insertionSortCmpFunc_Lot n a.1 a.2.1 a.2.2.1 a.2.2.2.1,none⟩
def sl_insertionSortCmpFunc_Lot_h:Hn SI:=(.s .z (.b (.l ⟨[(8,(.v (.int .i64)))],[(0,.l (.st SI.Lot))],[0,1,2,3],[],1192,[]⟩ 0 ⟨[],[(0,.l (.st SI.Lot))],[],[],1192,[]⟩ (.s .z (.s (.b (.s .z (.b (.l ⟨[(9,(.v (.int .i64)))],[(0,.l (.st SI.Lot))],[0,1,2,3,8],[],1512,[]⟩ 2 ⟨[],[(0,.l (.st SI.Lot))],[0,1,2,3,8],[],1512,[]⟩ (.s (.s (.j ⟨[(34,(.v .bool))],[],[0,1,2,3,8,9],[0],1512,[]⟩ .z) .z) .z))))) .z)))))
theorem sl_insertionSortCmpFunc_Lot_c (n:Nat):COk Tryz.prog 106 (sl_insertionSortCmpFunc_Lot_g n):=
 cq gam_nil Tryz.func106 sl_insertionSortCmpFunc_Lot_h n (by kernel_rfl) rfl fun _=>by kernel_rfl
def sl_siftDownCmpFunc_Lot (n:Nat) (a0:(List GLot)) (a1:Int) (a2:Int) (a3:Int) (a4:(GLot×GLot×Unit)→Option Int):Option (List GLot):=
 gSiftDown (fun x y=>a4 (x,y,())) (fun r=>decide (r < 0)) n a0 a1 a2 a3
def sl_siftDownCmpFunc_Lot_g (n:Nat):Sig xx:=⟨[.mut (.st SI.Lot),.d (.int .i64),.d (.int .i64),.d (.int .i64),.clo [(.st SI.Lot),(.st SI.Lot)] (.int .i64)],[.mu (.st SI.Lot)],fun a=>sl_siftDownCmpFunc_Lot n a.1 a.2.1 a.2.2.1 a.2.2.2.1 a.2.2.2.2.1,none⟩
def sl_siftDownCmpFunc_Lot_h:Hn SI:=(.s .z (.b (.lx ⟨[(10,(.v (.int .i64)))],[(0,.l (.st SI.Lot))],[0,2,3,4],[],1128,[]⟩ 0 ⟨[],[(0,.l (.st SI.Lot))],[],[],1128,[]⟩ (.b (.s .z (.s .z (.s (.j ⟨[(11,(.v (.int .i64)))],[],[0,2,3,4,10],[0],1576,[]⟩ (.s (.j ⟨[(40,(.v .bool))],[],[0,2,3,4,10,11],[0],1576,[]⟩ .z) .z)) .z)))))))
theorem sl_siftDownCmpFunc_Lot_c (n:Nat):COk Tryz.prog 121 (sl_siftDownCmpFunc_Lot_g n):=
 cq gam_nil Tryz.func121 sl_siftDownCmpFunc_Lot_h n (by kernel_rfl) rfl fun _=>by kernel_rfl
def sl_heapSortCmpFunc_Lot (n:Nat) (a0:(List GLot)) (a1:Int) (a2:Int) (a3:(GLot×GLot×Unit)→Option Int):Option (List GLot):=
 gHeapSort (fun x y=>a3 (x,y,())) (fun r=>decide (r < 0)) n a0 a1 a2
def sl_heapSortCmpFunc_Lot_g (n:Nat):Sig xx:=⟨[.mut (.st SI.Lot),.d (.int .i64),.d (.int .i64),.clo [(.st SI.Lot),(.st SI.Lot)] (.int .i64)],[.mu (.st SI.Lot)],fun a=>sl_heapSortCmpFunc_Lot n a.1 a.2.1 a.2.2.1 a.2.2.2.1,none⟩
def sl_heapSortCmpFunc_Lot_h:Hn SI:=(.s .z (.s .z (.s .z (.s (.s .z (.b (.l ⟨[(11,(.v (.int .i64)))],[(0,.l (.st SI.Lot))],[0,3,8,9,10],[],1704,[]⟩ 0 ⟨[],[(0,.l (.st SI.Lot))],[0,3,8,9,10],[],1704,[]⟩ .z))) (.s .z (.b (.l ⟨[(12,(.v (.int .i64)))],[(0,.l (.st SI.Lot))],[0,3,8,9],[],1896,[]⟩ 2 ⟨[],[(0,.l (.st SI.Lot))],[],[],1896,[]⟩ .z)))))))
theorem sl_heapSortCmpFunc_Lot_c (n:Nat):COk Tryz.prog 107 (sl_heapSortCmpFunc_Lot_g n):=
 cq (gam_cons (sl_siftDownCmpFunc_Lot_c n) gam_nil) Tryz.func107 sl_heapSortCmpFunc_Lot_h n (by kernel_rfl) rfl fun _=>by kernel_rfl
def sl_breakPatternsCmpFunc_Lot (n:Nat) (a0:(List GLot)) (a1:Int) (a2:Int) (a3:(GLot×GLot×Unit)→Option Int):Option (List GLot):=
 gBreakPatterns sl_nextPowerOfTwo sl_xorshift_Next n a0 a1 a2
def sl_breakPatternsCmpFunc_Lot_g (n:Nat):Sig xx:=⟨[.mut (.st SI.Lot),.d (.int .i64),.d (.int .i64),.clo [(.st SI.Lot),(.st SI.Lot)] (.int .i64)],[.mu (.st SI.Lot)],fun a=>sl_breakPatternsCmpFunc_Lot n a.1 a.2.1 a.2.2.1 a.2.2.2.1,none⟩
def sl_breakPatternsCmpFunc_Lot_h:Hn SI:=(.s .z (.s .z (.s (.s .z (.s .z (.s .z (.b (.l ⟨[(11,(.v (.int .i64)))],[(0,.l (.st SI.Lot)),(1512,.c 1 [[(.v (.int .u64))]])],[0,1,8,9,10],[],2280,[]⟩ 0 ⟨[],[(0,.l (.st SI.Lot))],[],[],2280,[]⟩ (.s .z (.s (.b (.s .z (.s (.j ⟨[(12,(.v (.int .i64)))],[],[0,1,8,9,10,11],[0,1512],3176,[]⟩ .z) .z))) .z))))))) .z)))
theorem sl_breakPatternsCmpFunc_Lot_c (n:Nat):COk Tryz.prog 108 (sl_breakPatternsCmpFunc_Lot_g n):=
 cq (gam_cons sl_nextPowerOfTwo_c (gam_cons sl_xorshift_Next_c gam_nil)) Tryz.func108 sl_breakPatternsCmpFunc_Lot_h n (by kernel_rfl) rfl fun _=>by kernel_rfl
def sl_order2CmpFunc_Lot (a0:(List GLot)) (a1:Int) (a2:Int) (a3:Int) (a4:(GLot×GLot×Unit)→Option Int):Option (Int×Int×Int):=
 gOrder2 (fun x y=>a4 (x,y,())) (fun r=>decide (r < 0)) a0 a1 a2 a3
def sl_order2CmpFunc_Lot_g:Sig xx:=⟨[.d (.sl (.st SI.Lot)),.d (.int .i64),.d (.int .i64),.mref (.int .i64),.clo [(.st SI.Lot),(.st SI.Lot)] (.int .i64)],[.d (.int .i64),.d (.int .i64),.mr (.int .i64)],fun a=>sl_order2CmpFunc_Lot a.1 a.2.1 a.2.2.1 a.2.2.2.1 a.2.2.2.2.1,none⟩
def sl_order2CmpFunc_Lot_h:Hn SI:= .z
theorem sl_order2CmpFunc_Lot_c:COk Tryz.prog 125 sl_order2CmpFunc_Lot_g:=
 cq gam_nil Tryz.func125 sl_order2CmpFunc_Lot_h 0 (by kernel_rfl) rfl fun _=>by kernel_rfl
def sl_medianCmpFunc_Lot (a0:(List GLot)) (a1:Int) (a2:Int) (a3:Int) (a4:Int) (a5:(GLot×GLot×Unit)→Option Int):Option (Int×Int):=
 gMedian (fun x y=>a5 (x,y,())) (fun r=>decide (r < 0)) a0 a1 a2 a3 a4
def sl_medianCmpFunc_Lot_g:Sig xx:=⟨[.d (.sl (.st SI.Lot)),.d (.int .i64),.d (.int .i64),.d (.int .i64),.mref (.int .i64),.clo [(.st SI.Lot),(.st SI.Lot)] (.int .i64)],[.d (.int .i64),.mr (.int .i64)],fun a=>sl_medianCmpFunc_Lot a.1 a.2.1 a.2.2.1 a.2.2.2.1 a.2.2.2.2.1 a.2.2.2.2.2.1,none⟩
def sl_medianCmpFunc_Lot_h:Hn SI:= .z
theorem sl_medianCmpFunc_Lot_c:COk Tryz.prog 123 sl_medianCmpFunc_Lot_g:=
 cq (gam_cons sl_order2CmpFunc_Lot_c gam_nil) Tryz.func123 sl_medianCmpFunc_Lot_h 0 (by kernel_rfl) rfl fun _=>by kernel_rfl
def sl_medianAdjacentCmpFunc_Lot (a0:(List GLot)) (a1:Int) (a2:Int) (a3:(GLot×GLot×Unit)→Option Int):Option (Int×Int):=
 gMedianAdjacent (fun x y=>a3 (x,y,())) (fun r=>decide (r < 0)) a0 a1 a2
def sl_medianAdjacentCmpFunc_Lot_g:Sig xx:=⟨[.d (.sl (.st SI.Lot)),.d (.int .i64),.mref (.int .i64),.clo [(.st SI.Lot),(.st SI.Lot)] (.int .i64)],[.d (.int .i64),.mr (.int .i64)],fun a=>sl_medianAdjacentCmpFunc_Lot a.1 a.2.1 a.2.2.1 a.2.2.2.1,none⟩
def sl_medianAdjacentCmpFunc_Lot_h:Hn SI:= .z
theorem sl_medianAdjacentCmpFunc_Lot_c:COk Tryz.prog 122 sl_medianAdjacentCmpFunc_Lot_g:=
 cq (gam_cons sl_medianCmpFunc_Lot_c gam_nil) Tryz.func122 sl_medianAdjacentCmpFunc_Lot_h 0 (by kernel_rfl) rfl fun _=>by kernel_rfl
def sl_choosePivotCmpFunc_Lot (a0:(List GLot)) (a1:Int) (a2:Int) (a3:(GLot×GLot×Unit)→Option Int):Option (Int×Int):=
 gChoosePivot (fun x y=>a3 (x,y,())) (fun r=>decide (r < 0)) a0 a1 a2
def sl_choosePivotCmpFunc_Lot_g:Sig xx:=⟨[.d (.sl (.st SI.Lot)),.d (.int .i64),.d (.int .i64),.clo [(.st SI.Lot),(.st SI.Lot)] (.int .i64)],[.d (.int .i64),.d (.int .i64)],fun a=>sl_choosePivotCmpFunc_Lot a.1 a.2.1 a.2.2.1 a.2.2.2.1,none⟩
def sl_choosePivotCmpFunc_Lot_h:Hn SI:=(.s .z (.s .z (.s .z (.s .z (.s .z (.s .z (.s (.j ⟨[(13,(.v (.int .i64)))],[(1384,.c 1 [[(.v (.int .i64))]])],[11],[],2600,[]⟩ (.s .z (.s (.s (.j ⟨[(12,(.v (.int .i64))),(13,(.v (.int .i64))),(14,(.v (.int .i64)))],[(1384,.c 1 [[(.v (.int .i64))]])],[0,3,11],[],2728,[]⟩ .z) .z) .z))) .z)))))))
theorem sl_choosePivotCmpFunc_Lot_c:COk Tryz.prog 109 sl_choosePivotCmpFunc_Lot_g:=
 cq (gam_cons sl_medianAdjacentCmpFunc_Lot_c (gam_cons sl_medianCmpFunc_Lot_c gam_nil)) Tryz.func109 sl_choosePivotCmpFunc_Lot_h 0 (by kernel_rfl) rfl fun _=>by kernel_rfl
def sl_reverseRangeCmpFunc_Lot (n:Nat) (a0:(List GLot)) (a1:Int) (a2:Int) (a3:(GLot×GLot×Unit)→Option Int):Option (List GLot):=
 gReverseRange n a0 a1 a2
def sl_reverseRangeCmpFunc_Lot_g (n:Nat):Sig xx:=⟨[.mut (.st SI.Lot),.d (.int .i64),.d (.int .i64),.clo [(.st SI.Lot),(.st SI.Lot)] (.int .i64)],[.mu (.st SI.Lot)],fun a=>sl_reverseRangeCmpFunc_Lot n a.1 a.2.1 a.2.2.1 a.2.2.2.1,none⟩
def sl_reverseRangeCmpFunc_Lot_h:Hn SI:=(.s .z (.s .z (.b (.l ⟨[(8,(.v (.int .i64))),(9,(.v (.int .i64)))],[(0,.l (.st SI.Lot))],[0],[],1320,[]⟩ 0 ⟨[],[(0,.l (.st SI.Lot))],[],[],1320,[]⟩ .z))))
theorem sl_reverseRangeCmpFunc_Lot_c (n:Nat):COk Tryz.prog 110 (sl_reverseRangeCmpFunc_Lot_g n):=
 cq gam_nil Tryz.func110 sl_reverseRangeCmpFunc_Lot_h n (by kernel_rfl) rfl fun _=>by kernel_rfl
def sl_partialInsertionSortCmpFunc_Lot (n:Nat) (a0:(List GLot)) (a1:Int) (a2:Int) (a3:(GLot×GLot×Unit)→Option Int):Option (Bool×(List GLot)):=
 gPartialInsertionSort (fun x y=>a3 (x,y,())) (fun r=>decide (r < 0)) n a0 a1 a2
def sl_partialInsertionSortCmpFunc_Lot_g (n:Nat):Sig xx:=⟨[.mut (.st SI.Lot),.d (.int .i64),.d (.int .i64),.clo [(.st SI.Lot),(.st SI.Lot)] (.int .i64)],[.d .bool,.mu (.st SI.Lot)],fun a=>sl_partialInsertionSortCmpFunc_Lot n a.1 a.2.1 a.2.2.1 a.2.2.2.1,none⟩
def sl_partialInsertionSortCmpFunc_Lot_h:Hn SI:=(.s .z (.s .z (.s (.s .z (.b (.lx ⟨[(9,(.v (.int .i64))),(10,(.v (.int .i64)))],[(0,.l (.st SI.Lot))],[0,1,2,3],[],1320,[]⟩ 0 ⟨[],[(0,.l (.st SI.Lot))],[],[],1320,[]⟩ (.s .z (.s (.jx ⟨[(9,(.v (.int .i64)))],[(0,.l (.st SI.Lot))],[0,1,2,3,10],[],1448,[]⟩ (.b (.s (.b (.l ⟨[(9,(.v (.int .i64)))],[],[0,1,2,3,10],[0],1448,[]⟩ 2 ⟨[(9,(.v (.int .i64)))],[],[0,1,2,3,10],[0],1448,[]⟩ (.s (.s (.j ⟨[(36,(.v .bool))],[],[0,1,2,3,9,10],[0],1448,[]⟩ .z) .z) .z))) (.s .z (.s .z (.s .z (.s (.j ⟨[],[(0,.l (.st SI.Lot))],[0,1,2,3,9,10],[],3048,[]⟩ (.s .z (.s (.s .z (.b (.l ⟨[(11,(.v (.int .i64)))],[(0,.l (.st SI.Lot))],[0,1,2,3,9,10],[],3496,[]⟩ 4 ⟨[],[(0,.l (.st SI.Lot))],[0,1,2,3,9,10],[],3496,[]⟩ .z))) .z))) (.s .z (.s (.s .z (.b (.l ⟨[(12,(.v (.int .i64)))],[(0,.l (.st SI.Lot))],[0,1,2,3,9,10],[],3496,[]⟩ 6 ⟨[],[(0,.l (.st SI.Lot))],[0,1,2,3,9,10],[],3496,[]⟩ .z))) .z))))))))) .z))))) .z)))
theorem sl_partialInsertionSortCmpFunc_Lot_c (n:Nat):COk Tryz.prog 111 (sl_partialInsertionSortCmpFunc_Lot_g n):=
 cq gam_nil Tryz.func111 sl_partialInsertionSortCmpFunc_Lot_h n (by kernel_rfl) rfl fun _=>by kernel_rfl
def sl_partitionEqualCmpFunc_Lot (n:Nat) (a0:(List GLot)) (a1:Int) (a2:Int) (a3:Int) (a4:(GLot×GLot×Unit)→Option Int):Option (Int×(List GLot)):=
 gPartitionEqual (fun x y=>a4 (x,y,())) (fun r=>decide (r < 0)) n a0 a1 a2 a3
def sl_partitionEqualCmpFunc_Lot_g (n:Nat):Sig xx:=⟨[.mut (.st SI.Lot),.d (.int .i64),.d (.int .i64),.d (.int .i64),.clo [(.st SI.Lot),(.st SI.Lot)] (.int .i64)],[.d (.int .i64),.mu (.st SI.Lot)],fun a=>sl_partitionEqualCmpFunc_Lot n a.1 a.2.1 a.2.2.1 a.2.2.2.1 a.2.2.2.2.1,none⟩
def sl_partitionEqualCmpFunc_Lot_h:Hn SI:=(.s .z (.s .z (.s .z (.s (.b (.l ⟨[(11,(.v (.int .i64))),(12,(.v (.int .i64)))],[(0,.l (.st SI.Lot))],[0,1,4],[],2472,[]⟩ 0 ⟨[(11,(.v (.int .i64)))],[(0,.l (.st SI.Lot))],[],[],2472,[]⟩ (.b (.s (.b (.l ⟨[(11,(.v (.int .i64)))],[],[0,1,4,12],[0],2472,[]⟩ 2 ⟨[(11,(.v (.int .i64)))],[],[0,1,4,12],[0],2472,[]⟩ (.s (.s (.j ⟨[(47,(.v .bool))],[],[0,1,4,11,12],[0],2472,[]⟩ .z) .z) .z))) (.s (.b (.l ⟨[(12,(.v (.int .i64)))],[],[0,1,4,11],[0],2472,[]⟩ 4 ⟨[(12,(.v (.int .i64)))],[],[0,1,4,11],[0],2472,[]⟩ (.s (.s (.j ⟨[(65,(.v .bool))],[],[0,1,4,11,12],[0],2472,[]⟩ .z) .z) .z))) .z))))) .z))))
theorem sl_partitionEqualCmpFunc_Lot_c (n:Nat):COk Tryz.prog 112 (sl_partitionEqualCmpFunc_Lot_g n):=
 cq gam_nil Tryz.func112 sl_partitionEqualCmpFunc_Lot_h n (by kernel_rfl) rfl fun _=>by kernel_rfl
def sl_partitionCmpFunc_Lot (n:Nat) (a0:(List GLot)) (a1:Int) (a2:Int) (a3:Int) (a4:(GLot×GLot×Unit)→Option Int):Option (Int×Bool×(List GLot)):=
 gPartition (fun x y=>a4 (x,y,())) (fun r=>decide (r < 0)) n a0 a1 a2 a3
def sl_partitionCmpFunc_Lot_g (n:Nat):Sig xx:=⟨[.mut (.st SI.Lot),.d (.int .i64),.d (.int .i64),.d (.int .i64),.clo [(.st SI.Lot),(.st SI.Lot)] (.int .i64)],[.d (.int .i64),.d .bool,.mu (.st SI.Lot)],fun a=>sl_partitionCmpFunc_Lot n a.1 a.2.1 a.2.2.1 a.2.2.2.1 a.2.2.2.2.1,none⟩
def sl_partitionCmpFunc_Lot_h:Hn SI:=(.s .z (.s .z (.s .z (.s (.b (.l ⟨[(12,(.v (.int .i64)))],[],[0,1,4,13],[0],2536,[]⟩ 0 ⟨[(12,(.v (.int .i64)))],[],[0,1,4,13],[0],2536,[]⟩ (.s (.s (.j ⟨[(47,(.v .bool))],[],[0,1,4,12,13],[0],2536,[]⟩ .z) .z) .z))) (.s (.b (.l ⟨[(13,(.v (.int .i64)))],[],[0,1,4,12],[0],2536,[]⟩ 2 ⟨[(13,(.v (.int .i64)))],[],[0,1,4,12],[0],2536,[]⟩ (.s (.s (.j ⟨[(66,(.v .bool))],[],[0,1,4,12,13],[0],2536,[]⟩ .z) .z) .z))) (.s .z (.s .z (.s .z (.s .z (.s (.b (.l ⟨[(12,(.v (.int .i64))),(13,(.v (.int .i64)))],[(0,.l (.st SI.Lot))],[0,1,4],[],4136,[]⟩ 4 ⟨[(13,(.v (.int .i64)))],[(0,.l (.st SI.Lot))],[0,1],[],4136,[]⟩ (.b (.s (.b (.l ⟨[(12,(.v (.int .i64)))],[],[0,1,4,13],[0],4136,[]⟩ 6 ⟨[(12,(.v (.int .i64)))],[],[0,1,4,13],[0],4136,[]⟩ (.s (.s (.j ⟨[(120,(.v .bool))],[],[0,1,4,12,13],[0],4136,[]⟩ .z) .z) .z))) (.s (.b (.l ⟨[(13,(.v (.int .i64)))],[],[0,1,4,12],[0],4136,[]⟩ 8 ⟨[(13,(.v (.int .i64)))],[],[0,1,4,12],[0],4136,[]⟩ (.s (.s (.j ⟨[(139,(.v .bool))],[],[0,1,4,12,13],[0],4136,[]⟩ .z) .z) .z))) .z))))) .z))))))))))
theorem sl_partitionCmpFunc_Lot_c (n:Nat):COk Tryz.prog 113 (sl_partitionCmpFunc_Lot_g n):=
 cq gam_nil Tryz.func113 sl_partitionCmpFunc_Lot_h n (by kernel_rfl) rfl fun _=>by kernel_rfl
def sl_pdqsortCmpFunc_Lot_b (n:Nat) (rc:((List GLot))→(Int)→(Int)→(Int)→((GLot×GLot×Unit)→Option Int)→Option (List GLot)) (a0:(List GLot)) (a1:Int) (a2:Int) (a3:Int) (a4:(GLot×GLot×Unit)→Option Int):Option (List GLot):=
 gPdqsort_b (fun x y=>a4 (x,y,())) (fun r=>decide (r < 0)) sl_nextPowerOfTwo sl_xorshift_Next n (fun l a b d=>rc l a b d a4) a0 a1 a2 a3
def sl_pdqsortCmpFunc_Lot_rg (rc:((List GLot))→(Int)→(Int)→(Int)→((GLot×GLot×Unit)→Option Int)→Option (List GLot)):Sig xx:=⟨[.mut (.st SI.Lot),.d (.int .i64),.d (.int .i64),.d (.int .i64),.clo [(.st SI.Lot),(.st SI.Lot)] (.int .i64)],[.mu (.st SI.Lot)],fun a=>rc a.1 a.2.1 a.2.2.1 a.2.2.2.1 a.2.2.2.2.1,none⟩
def sl_pdqsortCmpFunc_Lot_h:Hn SI:=(.s .z (.s .z (.b (.lx ⟨[(1,(.v (.int .i64))),(2,(.v (.int .i64))),(3,(.v (.int .i64))),(10,(.v .bool)),(11,(.v .bool))],[(0,.l (.st SI.Lot))],[0,4],[],1128,[]⟩ 999999 ⟨[],[],[],[],1128,[]⟩ (.b (.s .z (.s .z (.s .z (.s (.j ⟨[(3,(.v (.int .i64)))],[(0,.l (.st SI.Lot))],[0,1,2,4,10,11,12],[],1640,[]⟩ .z) (.s .z (.s (.j ⟨[(13,(.v (.int .i64))),(14,(.v (.int .i64)))],[(0,.l (.st SI.Lot))],[0,1,2,3,4,10,11,12],[],2280,[]⟩ .z) (.s (.jx ⟨[],[(0,.l (.st SI.Lot))],[0,1,2,3,4,10,11,12,13],[],2280,[]⟩ (.s (.j ⟨[(75,(.v .bool))],[],[0,1,2,3,4,10,11,12,13],[0],2280,[]⟩ .z) .z)) (.s (.s (.j ⟨[(97,(.v .bool))],[],[0,1,2,3,4,10,11,12,13],[0],2280,[]⟩ .z) .z) .z)))))))))))))
theorem sl_pdqsortCmpFunc_Lot_bc (n:Nat) (rc:((List GLot))→(Int)→(Int)→(Int)→((GLot×GLot×Unit)→Option Int)→Option (List GLot)) (hr:COk Tryz.prog 89 (sl_pdqsortCmpFunc_Lot_rg rc)):COk Tryz.prog 89 (sl_pdqsortCmpFunc_Lot_rg (sl_pdqsortCmpFunc_Lot_b n rc)):=
 cq (gam_cons (sl_insertionSortCmpFunc_Lot_c n) (gam_cons (sl_heapSortCmpFunc_Lot_c n) (gam_cons (sl_breakPatternsCmpFunc_Lot_c n) (gam_cons sl_choosePivotCmpFunc_Lot_c (gam_cons (sl_reverseRangeCmpFunc_Lot_c n) (gam_cons (sl_partialInsertionSortCmpFunc_Lot_c n) (gam_cons (sl_partitionEqualCmpFunc_Lot_c n) (gam_cons (sl_partitionCmpFunc_Lot_c n) (gam_cons hr gam_nil))))))))) Tryz.func89 sl_pdqsortCmpFunc_Lot_h n (by kernel_rfl) rfl fun _=>by kernel_rfl
def sl_pdqsortCmpFunc_Lot_m (n:Nat):Nat→((List GLot))→(Int)→(Int)→(Int)→((GLot×GLot×Unit)→Option Int)→Option (List GLot)
 | 0=>fun _ _ _ _ _=>none
 |m+1=>sl_pdqsortCmpFunc_Lot_b n (sl_pdqsortCmpFunc_Lot_m n m)
theorem sl_pdqsortCmpFunc_Lot_mc (n:Nat):∀ m,COk Tryz.prog 89 (sl_pdqsortCmpFunc_Lot_rg (sl_pdqsortCmpFunc_Lot_m n m))
 | 0=>cok (callable_of Tryz.func89 (by kernel_rfl:Tryz.f89.body=some (Tryz.f89.body.getD .skip)) (by kernel_rfl)) (fun _ _ h=>(by cases h)) rfl
 |m+1=>sl_pdqsortCmpFunc_Lot_bc n _ (sl_pdqsortCmpFunc_Lot_mc n m)
def sl_pdqsortCmpFunc_Lot (n:Nat) (a0:(List GLot)) (a1:Int) (a2:Int) (a3:Int) (a4:(GLot×GLot×Unit)→Option Int):Option (List GLot):=sl_pdqsortCmpFunc_Lot_m n n a0 a1 a2 a3 a4
def sl_pdqsortCmpFunc_Lot_g (n:Nat):Sig xx:=⟨[.mut (.st SI.Lot),.d (.int .i64),.d (.int .i64),.d (.int .i64),.clo [(.st SI.Lot),(.st SI.Lot)] (.int .i64)],[.mu (.st SI.Lot)],fun a=>sl_pdqsortCmpFunc_Lot n a.1 a.2.1 a.2.2.1 a.2.2.2.1 a.2.2.2.2.1,none⟩
theorem sl_pdqsortCmpFunc_Lot_c (n:Nat):COk Tryz.prog 89 (sl_pdqsortCmpFunc_Lot_g n):=sl_pdqsortCmpFunc_Lot_mc n n
def sl_SortFunc_Lot (n:Nat) (a0:(List GLot)) (a1:(GLot×GLot×Unit)→Option Int):Option (List GLot):=
 (bits_Len (IntKind.u64.wrap ((a0.length:Nat):Int))).bind fun r1=>bif eqL a0.length a0.length then (sl_pdqsortCmpFunc_Lot n a0 0 ((a0.length:Nat):Int) r1 a1).bind fun r2=>some r2 else none
def sl_SortFunc_Lot_g (n:Nat):Sig xx:=⟨[.mut (.st SI.Lot),.clo [(.st SI.Lot),(.st SI.Lot)] (.int .i64)],[.mu (.st SI.Lot)],fun a=>sl_SortFunc_Lot n a.1 a.2.1,none⟩
def sl_SortFunc_Lot_h:Hn SI:= .z
theorem sl_SortFunc_Lot_c (n:Nat):COk Tryz.prog 50 (sl_SortFunc_Lot_g n):=
 cq (gam_cons bits_Len_c (gam_cons (sl_pdqsortCmpFunc_Lot_c n) gam_nil)) Tryz.func50 sl_SortFunc_Lot_h n (by kernel_rfl) rfl fun _=>by kernel_rfl
def pc_replace_f1 (a0:GLot) (a1:GLot):Option Int:=
 (cmp_Compare_int a0.id a1.id).bind fun r1=>some r1
def pc_replace_f1_g:Sig xx:=⟨[.d (.st SI.Lot),.d (.st SI.Lot)],[.d (.int .i64)],fun a=>pc_replace_f1 a.1 a.2.1,none⟩
def pc_replace_f1_h:Hn SI:= .z
theorem pc_replace_f1_c:COk Tryz.prog 51 pc_replace_f1_g:=
 cq (gam_cons cmp_Compare_int_c gam_nil) Tryz.func51 pc_replace_f1_h 0 (by kernel_rfl) rfl fun _=>by kernel_rfl
def pc_replace_s1 (n:Nat) (a0:(List GLot)) (a1:(List Int)):(Int×(List GLot))→Option ((Int×(List GLot)) ⊕ (List GLot))
 |(v1,v2)=>(bif (decide (v1 < ((a0.length:Int):Int)))then ((at? a0 v1).bind fun x1=>(sl_Contains_int n a1 x1.id).bind fun r1=>(bif (!r1)then (pc_clone x1).bind fun r2=>bif appOk v2.length v2.length (sub ([r2]:List GLot) 0 1).length 1 64 then letv (v2++(sub ([r2]:List GLot) 0 1)) fun r3=>bif eqL r3.length r3.length then some r3 else none else none else bif eqL v2.length v2.length then some v2 else none):Option ((List GLot))).bind fun v3=>bif eqL v3.length v3.length then some (.inl ((i64.wrap (v1+1)),v3))else none else bif eqL v2.length v2.length then some (.inr v2)else none)
def pc_replace_s2 (a2:(List GLot)):(Int×(List GLot))→Option ((Int×(List GLot)) ⊕ (List GLot))
 |(v4,v5)=>(bif (decide (v4 < ((a2.length:Int):Int)))then (at? a2 v4).bind fun x2=>(pc_clone x2).bind fun r4=>bif appOk v5.length v5.length (sub ([r4]:List GLot) 0 1).length 1 64 then letv (v5++(sub ([r4]:List GLot) 0 1)) fun r5=>bif eqL r5.length r5.length then some (.inl ((i64.wrap (v4+1)),r5))else none else none else bif eqL v5.length v5.length then some (.inr v5)else none)
def pc_replace (n:Nat) (a0:(List GLot)) (a1:(List Int)) (a2:(List GLot)):Option ((List GLot)×Int):=
 bif eqL 0 ([]:List GLot).length then (iter (pc_replace_s1 n a0 a1) n ((0:Int),([]:List GLot))).bind fun w1=>bif eqL w1.length w1.length then (iter (pc_replace_s2 a2) n ((0:Int),w1)).bind fun w2=>bif eqL w2.length w2.length then (sl_SortFunc_Lot n w2 (fun (y1:GLot×GLot×Unit)=>pc_replace_f1 y1.1 y1.2.1)).bind fun r6=>bif eqL (sub r6 0 w2.length).length w2.length then some ((sub r6 0 w2.length),(0:Int))else none else none else none else none
def pc_replace_g (n:Nat):Sig xx:=⟨[.d (.sl (.st SI.Lot)),.d (.sl (.int .i64)),.d (.sl (.st SI.Lot))],[.fresh (.st SI.Lot),.d (.int .i64)],fun a=>pc_replace n a.1 a.2.1 a.2.2.1,none⟩
def pc_replace_h:Hn SI:=(.s .z (.s .z (.s (.s .z (.b (.l ⟨[(8,(.o 1384)),(15,(.v (.int .i64)))],[(1384,.l (.st SI.Lot))],[1,2,13,14],[],1385,[(8,(.st SI.Lot))]⟩ 0 ⟨[(8,(.o 1384))],[(1384,.l (.st SI.Lot))],[2],[],1385,[]⟩ (.s .z (.s .z (.s (.j ⟨[(8,(.o 1449))],[(1449,.l (.st SI.Lot))],[1,2,13,14,15],[],1450,[]⟩ .z) .z)))))) (.s (.s .z (.b (.l ⟨[(8,(.o 1577)),(32,(.v (.int .i64)))],[(1577,.l (.st SI.Lot))],[30,31],[],1578,[]⟩ 2 ⟨[(8,(.o 1577))],[(1577,.l (.st SI.Lot))],[],[],1578,[]⟩ .z))) .z))))
theorem pc_replace_c (n:Nat):COk Tryz.prog 29 (pc_replace_g n):=
 cq (gam_cons (sl_Contains_int_c n) (gam_cons pc_clone_c (gam_cons (sl_SortFunc_Lot_c n) (gam_cons pc_replace_f1_c gam_nil)))) Tryz.func29 pc_replace_h n (by kernel_rfl) rfl fun _=>by kernel_rfl
def pc_Split (n:Nat) (a0:(List GLot)) (a1:Int) (a2:(List GRect)) (a3:Int) (a4:Int):Option ((List GLot)×Int):=
 ((pc_Right n a0).bind fun r1=>(bif (!r1)then some true else (rg_Right n a2).bind fun r2=>(bif (!r2)then some true else (pc_number a3).bind fun r3=>(bif (!r3)then some true else (pc_number a4).bind fun r4=>(bif (!r4)then some true else some (a3==(a4:Int)))))):Option (Bool)).bind fun v1=>(bif v1 then some (([]:(List GLot)),(1:Int))else (pc_Find n a0 a1).bind fun r5=>(bif (!r5.2)then some (([]:(List GLot)),(4:Int))else ((pc_taken n a0 a3).bind fun r6=>(bif r6 then some true else (pc_taken n a0 a4).bind fun r7=>some r7):Option (Bool)).bind fun v2=>(bif v2 then some (([]:(List GLot)),(5:Int))else (rg_Common n r5.1.area a2).bind fun r8=>(rg_Minus n r5.1.area a2).bind fun r9=>(((bif (r8.2==(0:Int))then some ((r8.1.length:Int)==(0:Int))else some false):Option (Bool)).bind fun v3=>(bif v3 then some v3 else (bif (r9.2==(0:Int))then some ((r9.1.length:Int)==(0:Int))else some false)):Option (Bool)).bind fun v4=>(bif v4 then some (([]:(List GLot)),(10:Int))else ((bif (r8.2 != (0:Int))then some true else (bif (r9.2 != (0:Int))then some true else some (decide ((a0.length:Int)≥(20000:Int))))):Option (Bool)).bind fun v5=>(bif v5 then some (([]:(List GLot)),(6:Int))else ((pc_connected n r8.1).bind fun r10=>(bif (!r10)then some true else (pc_connected n r9.1).bind fun r11=>some (!r11)):Option (Bool)).bind fun v6=>(bif v6 then some (([]:(List GLot)),(12:Int))else bif eqL (sub ([r5.1]:List GLot) 0 1).length 1 then (pc_line n (sub ([r5.1]:List GLot) 0 1)).bind fun r12=>bif eqL (sub r12 0 r12.length).length r12.length then bif eqL (sub r12 0 r12.length).length r12.length then bif eqL (sub ([a1]:List Int) 0 1).length 1 then bif eqL (sub ([(GLot.mk a3 r5.1.owner r8.1 (sub r12 0 r12.length)),(GLot.mk a4 r5.1.owner r9.1 (sub r12 0 r12.length))]:List GLot) 0 2).length 2 then (pc_replace n a0 (sub ([a1]:List Int) 0 1) (sub ([(GLot.mk a3 r5.1.owner r8.1 (sub r12 0 r12.length)),(GLot.mk a4 r5.1.owner r9.1 (sub r12 0 r12.length))]:List GLot) 0 2)).bind fun r13=>bif eqL (sub r13.1 0 r13.1.length).length r13.1.length then some ((sub r13.1 0 r13.1.length),r13.2)else none else none else none else none else none else none))))))
def pc_Split_g (n:Nat):Sig xx:=⟨[.d (.sl (.st SI.Lot)),.d (.int .i64),.d (.sl (.st SI.Rect)),.d (.int .i64),.d (.int .i64)],[.fresh (.st SI.Lot),.d (.int .i64)],fun a=>pc_Split n a.1 a.2.1 a.2.2.1 a.2.2.2.1 a.2.2.2.2.1,none⟩
def pc_Split_h:Hn SI:=(.s .z (.s (.s (.j ⟨[(41,(.v .bool))],[],[0,1,2,3,4],[],1128,[]⟩ .z) .z) (.s .z (.s .z (.s (.s (.j ⟨[(57,(.v .bool))],[],[0,1,2,3,4,12],[1512],1832,[]⟩ .z) .z) (.s .z (.s .z (.s (.b (.s (.j ⟨[(72,(.v .bool))],[],[0,1,3,4,12,14,15,16,17],[1512],2984,[]⟩ (.s (.j ⟨[(72,(.v .bool))],[],[0,1,3,4,12,14,15,16,17],[1512],2984,[]⟩ .z) .z)) (.s .z (.s (.j ⟨[(87,(.v .bool))],[],[0,1,3,4,12,14,16],[1512],2984,[]⟩ .z) (.s .z (.s (.j ⟨[(99,(.v .bool))],[],[0,1,3,4,12,14,16],[1512],2984,[]⟩ .z) .z)))))) .z))))))))
theorem pc_Split_c (n:Nat):COk Tryz.prog 7 (pc_Split_g n):=
 cq (gam_cons (pc_Right_c n) (gam_cons (rg_Right_c n) (gam_cons pc_number_c (gam_cons (pc_Find_c n) (gam_cons (pc_taken_c n) (gam_cons (rg_Common_c n) (gam_cons (rg_Minus_c n) (gam_cons (pc_connected_c n) (gam_cons (pc_line_c n) (gam_cons (pc_replace_c n) gam_nil)))))))))) Tryz.func7 pc_Split_h n (by kernel_rfl) rfl fun _=>by kernel_rfl
def pc_Transfer (n:Nat) (a0:(List GLot)) (a1:Int) (a2:Int):Option ((List GLot)×Int):=
 ((pc_Right n a0).bind fun r1=>(bif (!r1)then some true else (pc_owner a2).bind fun r2=>some (!r2)):Option (Bool)).bind fun v1=>(bif v1 then some (([]:(List GLot)),(1:Int))else (pc_Find n a0 a1).bind fun r3=>(bif (!r3.2)then some (([]:(List GLot)),(4:Int))else bif eqL (sub ([a1]:List Int) 0 1).length 1 then bif eqL (sub ([(GLot.mk r3.1.id a2 r3.1.area r3.1.from_)]:List GLot) 0 1).length 1 then (pc_replace n a0 (sub ([a1]:List Int) 0 1) (sub ([(GLot.mk r3.1.id a2 r3.1.area r3.1.from_)]:List GLot) 0 1)).bind fun r4=>bif eqL (sub r4.1 0 r4.1.length).length r4.1.length then some ((sub r4.1 0 r4.1.length),r4.2)else none else none else none))
def pc_Transfer_g (n:Nat):Sig xx:=⟨[.d (.sl (.st SI.Lot)),.d (.int .i64),.d (.int .i64)],[.fresh (.st SI.Lot),.d (.int .i64)],fun a=>pc_Transfer n a.1 a.2.1 a.2.2.1,none⟩
def pc_Transfer_h:Hn SI:=(.s .z (.s (.s (.j ⟨[(17,(.v .bool))],[],[0,1,2],[],1128,[]⟩ .z) .z) .z))
theorem pc_Transfer_c (n:Nat):COk Tryz.prog 10 (pc_Transfer_g n):=
 cq (gam_cons (pc_Right_c n) (gam_cons pc_owner_c (gam_cons (pc_Find_c n) (gam_cons (pc_replace_c n) gam_nil)))) Tryz.func10 pc_Transfer_h n (by kernel_rfl) rfl fun _=>by kernel_rfl
def q35_Has_s1 (a0:(List Int)) (a1:Int):Int→Option (Int ⊕ (Unit ⊕ Bool))
 |v1=>(bif (decide (v1 < ((a0.length:Int):Int)))then (at? a0 v1).bind fun x1=>(bif (x1==(a1:Int))then (some true).map fun a=> .inr (.inr a)else some (.inl (i64.wrap (v1+1))))else some (.inr (.inl ())))
def q35_Has (n:Nat) (a0:(List Int)) (a1:Int):Option Bool:=
 thenB (iter (q35_Has_s1 a0 a1) n (0:Int)) fun ()=>some false
def q35_Has_g (n:Nat):Sig xx:=⟨[.d (.sl (.int .i64)),.d (.int .i64)],[.d .bool],fun a=>q35_Has n a.1 a.2.1,none⟩
def q35_Has_h:Hn SI:=(.s .z (.s (.s .z (.b (.lx ⟨[(5,(.v (.int .i64)))],[],[0,1],[],1128,[]⟩ 0 ⟨[],[],[],[],1128,[]⟩ .z))) .z))
theorem q35_Has_c (n:Nat):COk Tryz.prog 11 (q35_Has_g n):=
 cq gam_nil Tryz.func11 q35_Has_h n (by kernel_rfl) rfl fun _=>by kernel_rfl
def l35_NoticeSplits_s1 (n:Nat) (r3:(List Int)) (r7:GLot×Bool) (r9:(List Int)):Int→Option (Int ⊕ (Unit ⊕ Bool))
 |v2=>(bif (decide (v2 < (((r3.length:Nat):Int):Int)))then (bif inb v2 r3.length then (at? r3 ((0:Nat)+v2:Int)).bind fun x1=>(bif (x1 != (r7.1.owner:Int))then bif inb v2 r3.length then (at? r3 ((0:Nat)+v2:Int)).bind fun x2=>bif eqL (sub r9 0 r9.length).length r9.length then (q35_Has n (sub r9 0 r9.length) x2).bind fun r10=>some (!r10)else none else none else some false)else none:Option (Bool)).bind fun v3=>(bif v3 then (some false).map fun a=> .inr (.inr a)else some (.inl (i64.wrap (v2+1))))else some (.inr (.inl ())))
def l35_NoticeSplits_s2 (n:Nat) (a6:Int) (r3:(List Int)) (r9:(List Int)):Int→Option (Int ⊕ (Unit ⊕ Bool))
 |v4=>(bif (decide (v4 < (((r9.length:Nat):Int):Int)))then (bif inb v4 r9.length then (at? r9 ((0:Nat)+v4:Int)).bind fun x3=>(bif (x3 != (a6:Int))then bif inb v4 r9.length then (at? r9 ((0:Nat)+v4:Int)).bind fun x4=>bif eqL (sub r3 0 r3.length).length r3.length then (q35_Has n (sub r3 0 r3.length) x4).bind fun r11=>some (!r11)else none else none else some false)else none:Option (Bool)).bind fun v5=>(bif v5 then (some false).map fun a=> .inr (.inr a)else some (.inl (i64.wrap (v4+1))))else some (.inr (.inl ())))
def l35_NoticeSplits (n:Nat) (a0:GTown) (a1:GDrawing) (a2:Int) (a3:(List GRect)) (a4:Int) (a5:Int) (a6:Int):Option Bool:=
 (l35_small n).bind fun r1=>((l35_few n a0 a1).bind fun r2=>(bif (!r2)then some true else (bif (decide ((a3.length:Int)>(6:Int)))then some true else (bif (a2==(a1.lot:Int))then some true else (bif (a4==(a1.lot:Int))then some true else some (a5==(a1.lot:Int)))))):Option (Bool)).bind fun v1=>(bif v1 then some r1 else (nt_Owners n a0 a1).bind fun r3=>(pc_Split n a0.land a2 a3 a4 a5).bind fun r4=>thenB ((bif (r4.2==(0:Int))then bif eqL (sub r4.1 0 r4.1.length).length r4.1.length then (nt_Owners n (GTown.mk a0.plan_defs a0.plan_tables a0.plan_zones a0.plan_rules a0.plan_caps a0.plan_views a0.plan_sun a0.plan_hours (sub r4.1 0 r4.1.length) a0.easements a0.windows a0.built a0.base) a1).bind fun r5=>bif eqL (sub r5 0 r5.length).length r5.length then bif eqL (sub r3 0 r3.length).length r3.length then (q35_Ints n (sub r5 0 r5.length) (sub r3 0 r3.length)).bind fun r6=>(bif (!r6)then (some false).map .inr else some (.inl ()))else none else none else none else some (.inl ())):Option ((Unit) ⊕ _)) fun ()=>(pc_Find n a0.land a2).bind fun r7=>(pc_Transfer n a0.land a2 a6).bind fun r8=>(bif (r8.2 != (0:Int))then some r1 else bif eqL (sub r8.1 0 r8.1.length).length r8.1.length then (nt_Owners n (GTown.mk a0.plan_defs a0.plan_tables a0.plan_zones a0.plan_rules a0.plan_caps a0.plan_views a0.plan_sun a0.plan_hours (sub r8.1 0 r8.1.length) a0.easements a0.windows a0.built a0.base) a1).bind fun r9=>thenB (iter (l35_NoticeSplits_s1 n r3 r7 r9) n (0:Int)) fun ()=>thenB (iter (l35_NoticeSplits_s2 n a6 r3 r9) n (0:Int)) fun ()=>(nt_Lots n a0 a1).bind fun r12=>bif eqL (sub r12 0 r12.length).length r12.length then (q35_Has n (sub r12 0 r12.length) a2).bind fun r13=>(bif r1 then (bif (a6==(r7.1.owner:Int))then some true else bif eqL (sub r9 0 r9.length).length r9.length then (q35_Has n (sub r9 0 r9.length) a6).bind fun r14=>(bif r13 then some (r14==true)else bif eqL (sub r3 0 r3.length).length r3.length then (q35_Has n (sub r3 0 r3.length) a6).bind fun r15=>some (r14==r15)else none)else none)else some false)else none else none))
def l35_NoticeSplits_g (n:Nat):Sig xx:=⟨[.d (.st SI.Town),.d (.st SI.Drawing),.d (.int .i64),.d (.sl (.st SI.Rect)),.d (.int .i64),.d (.int .i64),.d (.int .i64)],[.d .bool],fun a=>l35_NoticeSplits n a.1 a.2.1 a.2.2.1 a.2.2.2.1 a.2.2.2.2.1 a.2.2.2.2.2.1 a.2.2.2.2.2.2.1,none⟩
def l35_NoticeSplits_h:Hn SI:=(.s .z (.s .z (.s (.s (.j ⟨[(54,(.v .bool))],[],[2,3,4,5,6,7,8,15],[1000,1064],1320,[]⟩ .z) .z) (.s .z (.s .z (.s (.jx ⟨[],[],[2,6,7,8,15,16],[1000,1064,1448],2344,[]⟩ .z) (.s .z (.s .z (.s .z (.s .z (.s .z (.s .z (.s (.s .z (.b (.lx ⟨[(24,(.v (.int .i64)))],[],[2,6,7,8,15,16,20,23],[1000,1064,1448,2792,4264],4456,[]⟩ 0 ⟨[],[],[2,6,7,8,15,16,20,23],[1000,1064,1448,2792,4264],4456,[]⟩ (.s .z (.s (.b (.s (.j ⟨[(125,(.v .bool))],[],[2,6,7,8,15,16,20,23,24],[1000,1064,1448,2792,4264],4712,[]⟩ .z) .z)) .z))))) (.s (.s .z (.b (.lx ⟨[(25,(.v (.int .i64)))],[],[2,6,7,8,15,16,20,23],[1000,1064,1448,2792,4264],4520,[]⟩ 2 ⟨[],[],[2,6,7,8,15,16,20,23],[1000,1064,1448,2792,4264],4520,[]⟩ (.s .z (.s (.b (.s (.j ⟨[(146,(.v .bool))],[],[2,6,7,8,15,16,20,23,25],[1000,1064,1448,2792,4264],4776,[]⟩ .z) .z)) .z))))) .z))))))))))))))
theorem l35_NoticeSplits_c (n:Nat):COk Tryz.prog 3 (l35_NoticeSplits_g n):=
 cq (gam_cons (l35_small_c n) (gam_cons (l35_few_c n) (gam_cons (nt_Owners_c n) (gam_cons (pc_Split_c n) (gam_cons (q35_Ints_c n) (gam_cons (pc_Find_c n) (gam_cons (pc_Transfer_c n) (gam_cons (q35_Has_c n) (gam_cons (nt_Lots_c n) gam_nil))))))))) Tryz.func3 l35_NoticeSplits_h n (by kernel_rfl) rfl fun _=>by kernel_rfl
end
end Go.Proofs
