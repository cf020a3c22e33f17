/-
  For every input NoticeSplits returns true, and each argument reads afterwards as it read before.
-/
import Derived.Test.YtidlnbgnaeaghaaGreatS1
import Derived.WalkKit
import Derived.ProofKit
import Derived.OpenShut
import Derived.Test.YtidlnbgnaeaghaaGreatRows
namespace Go.Proofs.YtidlnbgnaeaghaaGreat
open Go Go.Proofs Go.Gb Go.RowKit Go.ChangeShapes Go.WideShapes Go.ChangeAt
theorem own:ownKnob Tryz.prog.godebug=none:=by kernel_rfl
noncomputable def shapes:List VS:=(Tryz.f3.params.toList.mapM (vshp Tryz.prog [204])).getD []
theorem law {ss:List VS} (hs:mapO (vsF (X:=xx) 8) [(.st SI.Town),(.st SI.Drawing),(.int .i64),(.sl (.st SI.Rect)),(.int .i64),(.int .i64),(.int .i64)]=some ss) (xs:List TV) (h:FitVs ss xs):FnP Tryz.prog 3 (xs.map TV.av) (.one (.d (.s (.sc (.bool true))))):=
 law_fnP (X:=xx) (n:=8) (cs:=[(.st SI.Town),(.st SI.Drawing),(.int .i64),(.sl (.st SI.Rect)),(.int .i64),(.int .i64),(.int .i64)]) (l35_NoticeSplits_c 1000) hs (fun a=>NoticeSplits_true (by omega) a.1 a.2.1 a.2.2.1 a.2.2.2.1 a.2.2.2.2.1 a.2.2.2.2.2.1 a.2.2.2.2.2.2.1) xs h
set_option maxRecDepth 100000 in
theorem lifted (os:Os) (started:os.Started) (H:Type) (enc:TypeId×Value→H):
 ReturnsInHanded {} Tryz.checked os 3 .any (Rows.noticeSplitsSpec.pre6 enc Tryz.prog Tryz.f3 Rows.noticeSplitsRow.domain false) (Rows.noticeSplitsSpec.post enc Tryz.prog Tryz.f3 false true false false):=by
 refine returnsInHanded_of_change (C:=Tryz.checked) own started (by kernel_rfl) Tryz.func3
  (ChangeSpec.witness6 (enc:=enc) (C:=Tryz.checked) false ⟨#[],#[.agg #[.slice none 0 0,.slice none 0 0,.slice none 0 0,.slice none 0 0,.slice none 0 0,.slice none 0 0,.slice none 0 0,.int .i64 0,.slice none 0 0,.slice none 0 0,.slice none 0 0,.slice none 0 0,.slice none 0 0],.agg #[.int .i64 0,.slice none 0 0],.int .i64 0,.slice none 0 0,.int .i64 0,.int .i64 0,.int .i64 0],[]⟩ 8 (by kernel_rfl) (by kernel_rfl) (by kernel_rfl) (by kernel_rfl)) ?_
 intro W base args ds gs before hval hW _ _
 exact row_contract (C:=Tryz.checked) (s:=Rows.noticeSplitsSpec) (cut:=[204]) (ss:=shapes) (by kernel_rfl) (by kernel_rfl) (by kernel_rfl) rfl (tb:=4) (by kernel_rfl) Tryz.underlying4
  (fun ds hl=>match ds,hl with |[_,_,_,_,_,_,_],_=>rfl) (law (by kernel_rfl)) hval hW
theorem over:Rows.noticeSplitsRow.holds Tryz.pinned (OpenSpec.ofChange Rows.noticeSplitsSpec):=
 OpenClaim.holds_of_wide 3 Tryz.f3 rfl rfl rfl rfl rfl rfl rfl ⟨rfl,rfl,rfl,rfl,rfl⟩ rfl rfl rfl rfl rfl (by kernel_rfl) Tryz.func3 (by kernel_rfl)
  (of_decide_eq_true (by kernel_rfl)) (by unfold Func.isWrapper;first |(rw [if_pos (by decide +kernel)];kernel_rfl) |(rw [if_neg (by decide +kernel)];exact⟨rfl,rfl⟩))
  (fun os started H enc _=>lifted os started H enc)
theorem noticeSplits_holds:Rows.NoticeSplitsSaid:=over
#print axioms noticeSplits_holds
end Go.Proofs.YtidlnbgnaeaghaaGreat
