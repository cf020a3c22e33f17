/-
  For every input ParcelEasements returns true, and each argument reads afterwards as it read before.
-/
import Derived.Test.YtdgealeielbdiaaGreatTC2
import Derived.WalkKit
import Derived.ProofKit
import Derived.OpenShut
import Derived.Test.YtdgealeielbdiaaGreatRows
namespace Go.Proofs.YtdgealeielbdiaaGreat
open Go Go.Proofs Go.Gb Go.RowKit Go.ChangeShapes Go.WideShapes Go.ChangeAt
theorem own:ownKnob Tryz.prog.godebug=none:=by kernel_rfl
noncomputable def shapes:List VS:=(Tryz.f7.params.toList.mapM (vshp Tryz.prog [])).getD []
theorem law {ss:List VS} (hs:mapO (vsF (X:=xx) 8) [(.sl (.st SI.Easement)),(.int .i64),(.st SI.Point3),(.st SI.Point3)]=some ss) (xs:List TV) (h:FitVs ss xs):FnP Tryz.prog 7 (xs.map TV.av) (.one (.d (.s (.sc (.bool true))))):=
 law_fnPn (X:=xx) (n:=8) (cs:=[(.sl (.st SI.Easement)),(.int .i64),(.st SI.Point3),(.st SI.Point3)]) (fun k=>l13_ParcelEasements_c k) hs (fun q h=>ParcelEasements_row q.1 q.2.1 q.2.2.1 q.2.2.2.1) xs h
set_option maxRecDepth 100000 in
theorem lifted (os:Os) (started:os.Started) (H:Type) (enc:TypeId×Value→H):
 ReturnsInHanded {} Tryz.checked os 7 .any (Rows.parcelEasementsSpec.pre6 enc Tryz.prog Tryz.f7 Rows.parcelEasementsRow.domain false) (Rows.parcelEasementsSpec.post enc Tryz.prog Tryz.f7 false true false false):=by
 refine returnsInHanded_of_change (C:=Tryz.checked) own started (by kernel_rfl) Tryz.func7
  (ChangeSpec.witness6 (enc:=enc) (C:=Tryz.checked) false ⟨#[],#[.slice none 0 0,.int .i64 0,.agg #[.int .i64 0,.int .i64 0,.int .i64 0],.agg #[.int .i64 0,.int .i64 0,.int .i64 0]],[]⟩ 8 (by kernel_rfl) (by kernel_rfl) (by kernel_rfl) (by kernel_rfl)) ?_
 intro W base args ds gs before hval hW _ _
 exact row_contract (C:=Tryz.checked) (s:=Rows.parcelEasementsSpec) (cut:=[]) (ss:=shapes) (by kernel_rfl) (by kernel_rfl) (by kernel_rfl) rfl (tb:=4) (by kernel_rfl) Tryz.underlying4
  (fun ds hl=>match ds,hl with |[_,_,_,_],_=>rfl) (law (by kernel_rfl)) hval hW
theorem over:Rows.parcelEasementsRow.holds Tryz.pinned (OpenSpec.ofChange Rows.parcelEasementsSpec):=
 OpenClaim.holds_of_wide 7 Tryz.f7 rfl rfl rfl rfl rfl rfl rfl ⟨rfl,rfl,rfl,rfl,rfl⟩ rfl rfl rfl rfl rfl (by kernel_rfl) Tryz.func7 (by kernel_rfl)
  (of_decide_eq_true (by kernel_rfl)) (by unfold Func.isWrapper;first |(rw [if_pos (by decide +kernel)];kernel_rfl) |(rw [if_neg (by decide +kernel)];exact⟨rfl,rfl⟩))
  (fun os started H enc _=>lifted os started H enc)
theorem parcelEasements_holds:Rows.ParcelEasementsSaid:=over
#print axioms parcelEasements_holds
end Go.Proofs.YtdgealeielbdiaaGreat
