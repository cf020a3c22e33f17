import Derived.Test.YtakagljmnddfdaaGreatH1
import Derived.RangeFuncNested
import Derived.RangeFuncBound
import Derived.RangeFuncBox
import Derived.RangeFuncLeaves
import Derived.Shelf.Abstract
import Derived.WalkKit
import Derived.OwnWalkIn
import Derived.TacticsInMore
import Derived.LoopNIn
import Derived.LoopIn
import Derived.Maps.AppendAt
import Derived.Test.YtakagljmnddfdaaGreatChecked
open List (cons_append length_nil)
namespace Go.Proofs
open Go.RowKit Go.Shelf Go.Gb
attribute [local go_sem] Oper.semAt_some
def fc(zs:U ByteArray)(k:Nat):U ByteArray:=(List.range k).map λj=>zs[j]?.getD ⟨#[]⟩
theorem lL(zs:U ByteArray)(k:Nat):fc zs (k+1)=fc zs k++[zs[k]?.getD ⟨#[]⟩]:=by simp[fc,List.range_succ]
theorem ot(zs:U ByteArray)(k:Nat):(fc zs k).length=k:=by simp[fc]
theorem ry(zs:U ByteArray):fc zs zs.length=zs:=by
 apply List.ext_getElem
 .simp[fc]
 .intro i h1 h2;simp[fc,h2]
set_option maxRecDepth 100000 in
set_option maxHeartbeats 2000000 in
theorem Hk(F:Fence)(n:Nat)(hV:F.fn 79)(hro:F.round=none)(hn:1<=n)(l Bs Os n₀ b aa len cap:Nat)(zs:U ByteArray)(vi:len*16<=140737488351232)(hb:b<n₀)(J Jx:U ByteArray->World->Prop)
 (hY:∀pre x W,J pre W->pre.length<len->YieldAt F (n -1) Tryz.prog l #[.string x] W λe W'=>
  (e= .returned (.bool true)/\J (pre++[x]) W'/\Below n₀ W W')\/(e= .returned (.bool false)/\Jx (pre++[x]) W'))
 (W:World) (T5:W.cell? ⟨Bs,Os,none⟩=some (.slice (some ⟨b,aa,none⟩) len cap)) (hc:∀j,j<len->W.cell? ⟨b,aa+j,none⟩=some (.string (zs[j]?.getD ⟨#[]⟩))) (h0:J [] W):
 CallsIn F n Tryz.prog 79 #[.func (.yield l) #[] #[],.pointer (some ⟨Bs,Os,none⟩)] W λe W'=>(∃ v,e= .returned v)/\
  ((∃ ys,ys=fc zs len/\J ys W')\/(∃ pre,(∃ k,k<=len/\pre=fc zs k)/\Jx pre W')):=by
 refine callsIn_of_wp Tryz.func79 rfl hV ?_ hro;simp only[Tryz.ntmps79,List.size_toArray,bn,length_nil,Nat.reduceAdd,Nat.reduceSub,Array.replicate_succ,Array.replicate_zero,List.push_toArray,List.append_toArray,bI,cons_append]
 gi_wp2
 gi_loopw [7] (λ i wr=>∃k:Nat,k<=len/\i= .int .i64 k/\J (fc zs k) wr/\Below n₀ W wr)
  (λ i _=>len -(intOf i).toNat)
 case atStart=>exact⟨0,Nat.zero_le _,rfl,h0,Below.refl _ _⟩
 case round=>
  obtain⟨k,hk,rfl,hJs,hnx⟩:=hrel;have hcx:k<len->wr.cell? ⟨b,aa+k,none⟩=some (.string (zs[k]?.getD ⟨#[]⟩)):=λh=>(hnx.cell (p:=⟨b,aa+k,none⟩) hb).trans (hc k h);by_cases hlt:k<len
  .obtain⟨fn,tmps,assign,body,hy,hR⟩:=hY _ (zs[k]?.getD ⟨#[]⟩) wr hJs (by rw[ot];exact hlt);have hcx':=hcx hlt
   gi_wp2
   refine hR.mono ?_;rintro e W3 (⟨rfl,hJ3,hk3⟩ |⟨rfl,hJx3⟩)
   .gi_wp2
    go_roundw
    case rel=>exact⟨k+1,by omega,by simp,by rw[lL];exact hJ3,hnx.trans hk3⟩
    case measure=>simp[intOf];omega
   .gi_wp2
    refine bodyPost_ret (results_none rfl _ _ _) rfl ?_;exact⟨⟨_,rfl⟩,.inr ⟨_,⟨k+1,by omega,(lL _ _).symm⟩,hJx3⟩⟩
  .obtain rfl:k=len:=by omega
   gi_wp2
   go_end0
   exact⟨⟨_,rfl⟩,.inl ⟨_,rfl,hJs⟩⟩
theorem k7{n₀:Nat}{A B:World}(h:Below n₀ A B){sv:Value}{zs:U ByteArray}:AF (Value.string) ⟨#[]⟩ n₀ A sv zs->AF (Value.string) ⟨#[]⟩ n₀ B sv zs
 | .inl e=> .inl e
 | .inr ⟨b,aa,cap,e,hb,hc⟩=> .inr ⟨b,aa,cap,e,hb,λj hj=>(h.cell (p:=⟨b,aa+j,none⟩) hb).trans (hc j hj)⟩
set_option maxRecDepth 100000 in
set_option maxHeartbeats 1000000 in
theorem tP(F:Fence)(n:Nat)(hV:F.fn 79)(hro:F.round=none)(l Bs Os:Nat)(a:Option Addr)(cap:Nat)(J:U ByteArray->World->Prop)(W:World)(T5:W.cell? ⟨Bs,Os,none⟩=some (.slice a 0 cap))(h0:J [] W):
 CallsIn F n Tryz.prog 79 #[.func (.yield l) #[] #[],.pointer (some ⟨Bs,Os,none⟩)] W λe W'=>(∃ v,e= .returned v)/\J [] W':=by
 refine callsIn_of_wp Tryz.func79 rfl hV ?_ hro;simp only[Tryz.ntmps79,List.size_toArray,bn,length_nil,Nat.reduceAdd,Nat.reduceSub,Array.replicate_succ,Array.replicate_zero,List.push_toArray,List.append_toArray,bI,cons_append]
 gi_wp2
 gi_loopw [7] (λ i wr=>i= .int .i64 0/\J [] wr) (λ _ _=>0)
 case atStart=>exact⟨rfl,h0⟩
 case round=>
  obtain⟨rfl,hJs⟩:=hrel
  gi_wp2
  go_end0
  exact⟨⟨_,rfl⟩,hJs⟩
theorem sC(F:Fence)(n:Nat)(hV:F.fn 79)(hro:F.round=none)(hn:1<=n)(Bs Os n₀:Nat)(sv:Value)(zs:U ByteArray)(vi:zs.length*16<=140737488351232)(w:World)(T5:Bs<w.heap.size)(hn₀:n₀<=w.heap.size)
 (hc:w.cell? ⟨Bs,Os,none⟩=some sv) (hI:AF (Value.string) ⟨#[]⟩ n₀ w sv zs):
 SeqStopsK F n Tryz.prog 79 #[.pointer (some ⟨Bs,Os,none⟩)] (λ x:ByteArray=>#[Value.string x]) (Below n₀) (λ ys=>ys=zs) (λ _=>True) zs.length w:=λl J Jx W hW _ _ hY h0=>by
 have hc':=(hW.cell (p:=⟨Bs,Os,none⟩) T5).trans hc;rcases k7 (hW.mono hn₀) hI with ⟨a,cap,rfl,rfl⟩ |⟨b,aa,cap,rfl,hb,hcs⟩
 .exact(tP F n hV hro l Bs Os a cap J W hc' h0).mono λe W' ⟨he,hj⟩=>⟨he,.inl ⟨_,rfl,hj⟩⟩
 .refine(Hk F n hV hro hn l Bs Os n₀ b aa zs.length cap zs vi hb J Jx hY W hc' hcs h0).mono ?_;rintro e W' ⟨he,⟨ys,rfl,hj⟩ |⟨pre,⟨k,hk,rfl⟩,hj⟩⟩
  .exact⟨he,.inl ⟨_,ry zs,hj⟩⟩
  .exact⟨he,.inr ⟨_,trivial,hj⟩⟩
theorem xe:(Tryz.prog.info? 9).map (λ i=>(i.zero,i.size,i.bytes))=some (some (.string ⟨#[]⟩),1,16):=by kernel_rfl
set_option maxRecDepth 100000 in
set_option maxHeartbeats 2000000 in
theorem xf(F:Fence)(n:Nat)(hA:F.fn 126)(hV:F.fn 79)(hro:F.round=none)(hn:3<=n)(Bn On:Nat)(sv:Value)(xs:U ByteArray)(hlen:xs.length<=1000000)(w:World)(T7:w.cell? ⟨Bn,On,none⟩=some sv)(hlt:Bn<w.heap.size)(hL:AF (Value.string) ⟨#[]⟩ w.heap.size w sv xs):
 CallsIn F n Tryz.prog 126 #[.slice none 0 0,.func (.func 79) #[] #[.pointer (some ⟨Bn,On,none⟩)]] w λe W'=>∃v,e= .returned v/\W'.ownsRow w.heap.size 9 1 v xs.length (xs.map (Value.string))/\Below w.heap.size w W':=by
 have h1:1<=n:=by omega
 obtain⟨i0,hi,hz0,hz1,hz2⟩:=info_parts xe;have hmax:1000000<=maxLen:=by decide
 refine callsIn_of_wp_marks Tryz.func126 rfl hA ?_ hro;simp only[Tryz.ntmps126,List.size_toArray,bn,length_nil,Nat.reduceAdd,Nat.reduceSub,Array.replicate_succ,Array.replicate_zero,List.push_toArray,List.append_toArray,bI,cons_append]
 gi_wp2
 have bO:=Boxed.new w 41 (.slice none 0 0);have hB0:Below w.heap.size w (w.alloc (.cells #[.slice none 0 0] 41)):=(Below.refl _ w).alloc (aC _) _;have T6:(w.alloc (.cells #[.slice none 0 0] 41)).cell? ⟨Bn,On,none⟩=some sv:=(hB0.cell (p:=⟨Bn,On,none⟩) hlt).trans T7
 refine wpIn_rangeFunc_ownG hro h1 (gf:=79) (lb:=#[.pointer (some ⟨Bn,On,none⟩)]) rfl hV (enters_of Tryz.func79 (by kernel_rfl) rfl)
  (sC F (n -1) hV hro (by omega) Bn On w.heap.size sv xs (by omega) _ (by simp<;>omega) (by simp) T6 (k7 hB0 hL)) belowK_t (belowK_b (by simp<;>omega)) (Below.refl _ _) (λ _=>rfl)
  (λ pre W=>(∃ v,Boxed W w.heap.size 41 v/\W.ownsRow w.heap.size 9 1 v pre.length (pre.map (Value.string))/\True)/\Below w.heap.size w W)
  (λ _ _ _=>False)
  (OwnFrom.and (Own.from (holdsRow_own w.heap.size w.heap.size 41 9 1 (λ (pre:List ByteArray)=>pre.length) (λ pre=>pre.map (Value.string)) (λ _ _=>True)) _) (ownFrom_below (aC _) (by simp)))
  (λ _ _ _ _ _ hs _ _=>hs)
  ⟨⟨_,bO,World.ownsRow_nil _ _ _ _,trivial⟩,hB0⟩
  (λ x=>{ tmps:=#[.slice none 0 0,.func (.func 79) #[] #[.pointer (some ⟨Bn,On,none⟩)],.pointer (some ⟨w.heap.size,0,none⟩),undef,.slice none 0 0,.string x,.func (.func 79) #[] #[.pointer (some ⟨Bn,On,none⟩)],.string x,undef,undef,undef,undef,undef],defers:=[] }) ?assign ?body ?done ?stop
 case assign=>
  intro l x W K hK
  gi_wp2
  exact hK
 case body=>
  rintro l pre x W ⟨⟨v,hv,hrow,_⟩,hB⟩ hlt';have hc:=hv.cell
  gi_wp2_with (gi_at_builtin;refine wpListIn_append_own _ rfl _ _ 41 rfl w.heap.size 9 i0 (.string ⟨#[]⟩) 1 16 Tryz.underlying41 hi hz0 hz1 hz2 rfl (by decide) _ _ _ rfl (hrow.alloc _) ⟨W.heap.size,0,none⟩ 1 1 [.string x] rfl rfl (cell_one_new _ _ _) (by simp[Value.oneCell']) (by omega) (by omega) (by have:=hB.size;simp;omega) ?_;intro v' w1 hown' hgrow _;obtain⟨g',cap',rfl⟩:=ownsRow_succ hown';obtain⟨hv1,hv2,hr2,hk2,hb2⟩:=hv.appended (by decide) hrow hB.size (aC _) hown' hgrow;have hc1:=hv1.cell;have hf1:=hv1.frozen)
  exact⟨hk2.from _,hb2,⟨_,hv2,by simpa using hr2,trivial⟩,hB.trans hb2⟩
 case done=>
  rintro D ys W hD rfl ⟨⟨v,hv,hrow,_⟩,hB⟩ hK;have hc:=hv.cell
  gi_wp2
  refine⟨by simp,.inl ⟨_,_,rfl,run_takeDeferred hK,?_⟩⟩;exact⟨_,results_tmp rfl _ _ _,v,rfl,ownsRow_putObj hrow _ hK rfl,hB.trans (belowK_b (w:=w) (aC _) W D _ _ (by simp at hD;omega) hK rfl rfl)⟩
 case stop=>
  rintro D c pre W _ _ h _;exact h.elim
theorem sE(Bn On:Nat)(sv:Value)(xs:U ByteArray)(hlen:xs.length<=1000000)(w:World)(T7:w.cell? ⟨Bn,On,none⟩=some sv)(hlt:Bn<w.heap.size)(hL:AF (Value.string) ⟨#[]⟩ w.heap.size w sv xs):
 Calls Tryz.prog 126 #[.slice none 0 0,.func (.func 79) #[] #[.pointer (some ⟨Bn,On,none⟩)]] w λe W'=>∃v,e= .returned v/\W'.ownsRow w.heap.size 9 1 v xs.length (xs.map (Value.string))/\Below w.heap.size w W':=
 (callsIn_wide (n:=3)).1 (xf Fence.wide 3 trivial trivial rfl (by omega) Bn On sv xs hlen w T7 hlt hL)
end Go.Proofs
