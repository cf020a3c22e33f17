/-
  For every input ParcelTells returns true, and each argument reads afterwards as it read before.
-/
import Derived.Test.YtdgealeielbdiaaGreatTC2
import Derived.WalkKit
import Derived.ProofKit
import Derived.OpenShut
import Derived.Test.YtdgealeielbdiaaGreatRows
namespace Go.Proofs.YtdgealeielbdiaaGreat
open Go Go.Proofs Go.Gb Go.RowKit Go.ChangeShapes Go.WideShapes Go.ChangeAt
theorem own:ownKnob Tryz.prog.godebug=none:=by kernel_rfl
noncomputable def shapes:List VS:=(Tryz.f6.params.toList.mapM (af3 Tryz.prog [])).getD []
theorem law {ss:List VS} (hs:PU (vsF (X:=xx) 8) [(.sl (.st SI.Lot)),(.sl (.st SI.Op)),(.int .i64),(.int .i64),(.int .i64),(.int .i64)]=some ss) (xs:List TV) (h:RF ss xs):FnP Tryz.prog 6 (xs.map TV.av) (.one (.d (.s (.sc (.bool true))))):=
 agH (X:=xx) (n:=8) (cs:=[(.sl (.st SI.Lot)),(.sl (.st SI.Op)),(.int .i64),(.int .i64),(.int .i64),(.int .i64)]) (fun k=>M0 k) hs (fun q h=>Qi q.1 q.2.1 q.2.2.1 q.2.2.2.1 q.2.2.2.2.1 q.2.2.2.2.2.1 h.1 h.2.1) xs h
set_option maxRecDepth 100000 in
theorem lifted (os:Os) (started:os.Started) (H:Type) (enc:TypeId×Value->H):
 ReturnsInHanded {} Tryz.checked os 6 .any (Rows.parcelTellsSpec.pre6 enc Tryz.prog Tryz.f6 Rows.parcelTellsRow.domain false) (Rows.parcelTellsSpec.post enc Tryz.prog Tryz.f6 false true false false):=by
 refine returnsInHanded_of_change (C:=Tryz.checked) own started (by kernel_rfl) Tryz.func6
  (ChangeSpec.witness6 (enc:=enc) (C:=Tryz.checked) false ⟨#[],#[.slice none 0 0,.slice none 0 0,.int .i64 0,.int .i64 0,.int .i64 0,.int .i64 0],[]⟩ 8 (by kernel_rfl) (by kernel_rfl) (by kernel_rfl) (by kernel_rfl)) ?_
 intro W base args ds gs before hval hW _ _
 exact XE (C:=Tryz.checked) (s:=Rows.parcelTellsSpec) (cut:=[]) (ss:=shapes) (by kernel_rfl) (by kernel_rfl) (by kernel_rfl) rfl (tb:=4) (by kernel_rfl) Tryz.underlying4
  (fun ds hl=>match ds,hl with |[_,_,_,_,_,_],_=>rfl) (law (by kernel_rfl)) hval hW
theorem over:Rows.parcelTellsRow.holds Tryz.pinned (OpenSpec.ofChange Rows.parcelTellsSpec):=
 OpenClaim.holds_of_wide 6 Tryz.f6 rfl rfl rfl rfl rfl rfl rfl ⟨rfl,rfl,rfl,rfl,rfl⟩ rfl rfl rfl rfl rfl (by kernel_rfl) Tryz.func6 (by kernel_rfl)
  (of_decide_eq_true (by kernel_rfl)) (by unfold Func.isWrapper;first |(rw [if_pos (by decide +kernel)];kernel_rfl) |(rw [if_neg (by decide +kernel)];exact⟨rfl,rfl⟩))
  (fun os started H enc _=>lifted os started H enc)
theorem parcelTells_holds:Rows.ParcelTellsSaid:=over
#print axioms parcelTells_holds
end Go.Proofs.YtdgealeielbdiaaGreat
