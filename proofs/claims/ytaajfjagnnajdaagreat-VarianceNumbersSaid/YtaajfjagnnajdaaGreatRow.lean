/-
  For every input VarianceNumbers returns true, and each argument reads afterwards as it read before.
-/
import Derived.Test.YtaajfjagnnajdaaGreatTC2
import Derived.WalkKit
import Derived.ProofKit
import Derived.OpenShut
import Derived.Deep.DeepHandedRow
import Derived.Lib.LaidTab
import Derived.SizedLaws
import Derived.Test.YtaajfjagnnajdaaGreatRows
namespace Go.Proofs.YtaajfjagnnajdaaGreat
open Go Go.Proofs Go.Gb Go.RowKit Go.ChangeShapes Go.WideShapes Go.ChangeAt
theorem own:ownKnob Tryz.prog.godebug=none:=by kernel_rfl
noncomputable def shapes:List VS:=(Tryz.f5.params.toList.mapM (adK Tryz.prog [90])).getD []
theorem law {ss:List VS} (hs:yO (vsF (X:=xx) 8) [(.st SI.Town),(.st SI.Drawing),(.sl .str)]=some ss) (xs:List TV) (h:IV ss xs):FnP Tryz.prog 5 (xs.map TV.av) (.one (.d (.s (.sc (.bool true))))):=
 ael (X:=xx) (n:=8) (cs:=[(.st SI.Town),(.st SI.Drawing),(.sl .str)]) (fun k=>FO k) hs (fun q hq=>Ip q.1 q.2.1 q.2.2.1 (GX (n:=0) hs hq).1 (GX (n:=0) hs hq).2.1 (GX (n:=0) hs hq).2.2) xs h
set_option maxRecDepth 100000 in
theorem lifted (os:Os) (started:os.Started) (H:Type) (enc:TypeId×Value->H):
 ReturnsInHanded {} Tryz.checked os 5 .any (Rows.varianceNumbersSpec.pre6 enc Tryz.prog Tryz.f5 Rows.varianceNumbersRow.domain false) (Rows.varianceNumbersSpec.post enc Tryz.prog Tryz.f5 false true false false):=by
 refine returnsInHanded_of_change_sized (C:=Tryz.checked) own started (by kernel_rfl) Tryz.func5
  (ChangeSpec.witness6 (enc:=enc) (C:=Tryz.checked) false ⟨#[],#[.agg #[.slice none 0 0,.slice none 0 0,.slice none 0 0,.slice none 0 0,.slice none 0 0,.slice none 0 0,.slice none 0 0,.int .i64 0,.slice none 0 0,.slice none 0 0,.slice none 0 0,.slice none 0 0,.slice none 0 0],.agg #[.int .i64 0,.slice none 0 0],.slice none 0 0],[]⟩ 8 (by kernel_rfl) (by kernel_rfl) (by kernel_rfl) (by kernel_rfl)) ?_
 intro W base args ds gs before hval hW _ hz _
 exact Wj (C:=Tryz.checked) (s:=Rows.varianceNumbersSpec) (cut:=[90]) (ss:=shapes) (by kernel_rfl) (by kernel_rfl) (by kernel_rfl) rfl (tb:=4) (by kernel_rfl) Tryz.underlying4
  (fun ds hl=>match ds,hl with |[_,_,_],_=>rfl) (law (by kernel_rfl)) hval hW hz (fun g row h=>by cases h)
theorem fact0:(Rows.varianceNumbersRow.wf (OpenSpec.ofChange Rows.varianceNumbersSpec))=true:=by kernel_rfl
theorem fact1:(laidOutB Tryz.prog)=true:=by kernel_rfl
theorem fact2:(mapsRowed Tryz.prog)=true:=by kernel_rfl
theorem fact3:(Tryz.f5.params.all (Tryz.prog.readableRec ·))=true:=by kernel_rfl
theorem fact4:(namedTie Tryz.prog Rows.varianceNumbersRow.named Rows.varianceNumbersSpec.vars)=true:=by kernel_rfl
theorem fact5:((Rows.varianceNumbersRow.stops==[]))=true:=by kernel_rfl
theorem fact6:((Tryz.prog.stops==[]))=true:=by kernel_rfl
theorem fact7:((Rows.varianceNumbersRow.knobs==[]))=true:=by kernel_rfl
theorem fact8:((Tryz.prog.stopKnobs==[]))=true:=by kernel_rfl
theorem fact9:((Rows.varianceNumbersRow.inPlace==Tryz.prog.inPlace 5))=true:=by kernel_rfl
theorem fact10:((Rows.varianceNumbersRow.unfollowed==Tryz.prog.unfollowed 5))=true:=by kernel_rfl
theorem fact11:((Rows.varianceNumbersRow.recurses==Tryz.prog.recurses 5))=true:=by kernel_rfl
theorem fact12:((Rows.varianceNumbersRow.named==Tryz.prog.varsNamed 5))=true:=by kernel_rfl
theorem fact13:((Rows.varianceNumbersRow.maps==(Tryz.f5.params.toList++Rows.varianceNumbersSpec.plain.varTypes Tryz.prog).any (Tryz.prog.mapsRec ·)))=true:=by kernel_rfl
theorem fact14:((Rows.varianceNumbersRow.ifaces==(Tryz.f5.params.toList++Rows.varianceNumbersSpec.plain.varTypes Tryz.prog).any (Tryz.prog.ifacesRec ·)))=true:=by kernel_rfl
theorem fact15:((Rows.varianceNumbersRow.mapsOut==Tryz.prog.mapsAmong Tryz.f5.resultTypes.toList))=true:=by kernel_rfl
theorem fact16:((Rows.varianceNumbersRow.loops==(Tryz.f5.params.toList++Rows.varianceNumbersSpec.plain.varTypes Tryz.prog).any (Tryz.prog.loopsFrom ·)))=true:=by kernel_rfl
theorem fact17:((Rows.varianceNumbersRow.wideKeys==(Tryz.f5.params.toList++Rows.varianceNumbersSpec.plain.varTypes Tryz.prog++Tryz.f5.resultTypes.toList).any (Tryz.prog.wideKeysFrom ·)))=true:=by kernel_rfl
theorem fact18:(Rows.varianceNumbersSpec.vars.all (Tryz.prog.varReadable ·))=true:=by kernel_rfl
theorem fact19:(Tryz.f5.resultTypes.all (fun t=>Tryz.prog.readableRec t&&decide (t < Tryz.prog.types.size)))=true:=by kernel_rfl
theorem fact20:((Rows.varianceNumbersRow.ifacesOut==Tryz.f5.resultTypes.toList.any (Tryz.prog.ifacesRec ·)))=true:=by kernel_rfl
theorem fact21:((Rows.varianceNumbersRow.loopsOut==Tryz.f5.resultTypes.toList.any (Tryz.prog.loopsFrom ·)))=true:=by kernel_rfl
theorem fact22:((Rows.varianceNumbersRow.plainKeys==Tryz.prog.plainKeys))=true:=by kernel_rfl
theorem fact23:(Rows.varianceNumbersRow.shortTexts.isNone)=true:=by kernel_rfl
theorem fact24:(Tryz.prog.stopsHeard)=true:=by kernel_rfl
theorem fact25:(Tryz.prog.mayEnter)=true:=by kernel_rfl
theorem fact26:((Rows.varianceNumbersRow.lifted==Tryz.prog.liftsFinal))=true:=by kernel_rfl
theorem fact27:((Tryz.prog.make==some Rows.varianceNumbersRow.make))=true:=by kernel_rfl
theorem fact28:((Rows.varianceNumbersRow.kinds==(if Rows.varianceNumbersRow.domain.isEmpty then []else Tryz.f5.params.toList.map fun t=>match Tryz.prog.underlying t with |some (.int k)=>some k |_=>none)))=true:=by kernel_rfl
theorem fact29:((Rows.varianceNumbersRow.pinned==Rows.varianceNumbersRow.pinnedBy))=true:=by kernel_rfl
theorem fact30:((Rows.varianceNumbersRow.veiled==(Tryz.f5.params.toList++Rows.varianceNumbersSpec.plain.varTypes Tryz.prog++Tryz.f5.resultTypes.toList).any (Tryz.prog.veiledRec ·)))=true:=by kernel_rfl
theorem fact31:(Rows.varianceNumbersRow.veiledFits Tryz.prog Tryz.f5.params.toList (Tryz.f5.params.toList++Rows.varianceNumbersSpec.plain.varTypes Tryz.prog++Tryz.f5.resultTypes.toList))=true:=by kernel_rfl
theorem bothT {a b:Bool} (ha:a=true) (hb:b=true):(a&&b)=true:=by rw[ha,hb];rfl
set_option maxRecDepth 100000 in
theorem facts:joinedFacts Tryz.prog 5 Tryz.f5 Rows.varianceNumbersSpec Rows.varianceNumbersRow=true:=by
 delta joinedFacts
 exact bothT (bothT (bothT (bothT (bothT (bothT (bothT (bothT (bothT (bothT (bothT (bothT (bothT (bothT (bothT (bothT (bothT (bothT (bothT (bothT (bothT (bothT (bothT (bothT (bothT (bothT (bothT (bothT (bothT (bothT (bothT (fact0) fact1) fact2) fact3) fact4) fact5) fact6) fact7) fact8) fact9) fact10) fact11) fact12) fact13) fact14) fact15) fact16) fact17) fact18) fact19) fact20) fact21) fact22) fact23) fact24) fact25) fact26) fact27) fact28) fact29) fact30) fact31
theorem varianceNumbers_holds:Rows.VarianceNumbersSaid:=
 OpenClaim.holds_of_wide 5 Tryz.f5 rfl rfl rfl rfl rfl rfl rfl ⟨rfl,rfl,rfl,rfl,rfl⟩ rfl rfl rfl rfl rfl (by kernel_rfl) Tryz.func5 facts
  (of_decide_eq_true (by kernel_rfl)) (by unfold Func.isWrapper;first |(rw [if_pos (by decide +kernel)];kernel_rfl) |(rw [if_neg (by decide +kernel)];exact⟨rfl,rfl⟩))
  (fun os started H enc _=>lifted os started H enc)
#print axioms varianceNumbers_holds
end Go.Proofs.YtaajfjagnnajdaaGreat
