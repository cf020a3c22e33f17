/-
  For every input VarianceAlike returns true, and each argument reads afterwards as it read before.
-/
import Derived.Test.YtbdekfpclohfnaaGreatTC2
import Derived.WalkKit
import Derived.ProofKit
import Derived.OpenShut
import Derived.Deep.DeepHandedRow
import Derived.Lib.LaidTab
import Derived.SizedLaws
import Derived.Test.YtbdekfpclohfnaaGreatRows
namespace Go.Proofs.YtbdekfpclohfnaaGreat
open Go Go.Proofs Go.Gb Go.RowKit Go.ChangeShapes Go.WideShapes Go.ChangeAt
theorem own:ownKnob Tryz.prog.godebug=none:=by kernel_rfl
noncomputable def shapes:List VS:=(Tryz.f4.params.toList.mapM (aeo Tryz.prog [84])).getD []
theorem law {ss:List VS} (hs:zo (vsF (X:=xx) 8) [(.sl (.st SI.Order)),(.sl (.st SI.Ask))]=some ss) (xs:List TV) (h:Js ss xs):FnP Tryz.prog 4 (xs.map TV.av) (.one (.d (.s (.sc (.bool true))))):=
 ae0 (X:=xx) (n:=8) (cs:=[(.sl (.st SI.Order)),(.sl (.st SI.Ask))]) (fun k=>Jj k) hs (fun q hq=>Md q.1 q.2.1 (Wq (n:=0) hs hq).1 (Wq (n:=0) hs hq).2) xs h
set_option maxRecDepth 100000 in
theorem lifted (os:Os) (started:os.Started) (H:Type) (enc:TypeId×Value->H):
 ReturnsInHanded {} Tryz.checked os 4 .any (Rows.varianceAlikeSpec.pre6 enc Tryz.prog Tryz.f4 Rows.varianceAlikeRow.domain false) (Rows.varianceAlikeSpec.post enc Tryz.prog Tryz.f4 false true false false):=by
 refine returnsInHanded_of_change_sized (C:=Tryz.checked) own started (by kernel_rfl) Tryz.func4
  (ChangeSpec.witness6 (enc:=enc) (C:=Tryz.checked) false ⟨#[],#[.slice none 0 0,.slice none 0 0],[]⟩ 8 (by kernel_rfl) (by kernel_rfl) (by kernel_rfl) (by kernel_rfl)) ?_
 intro W base args ds gs before hval hW _ hz _
 exact WV (C:=Tryz.checked) (s:=Rows.varianceAlikeSpec) (cut:=[84]) (ss:=shapes) (by kernel_rfl) (by kernel_rfl) (by kernel_rfl) rfl (tb:=4) (by kernel_rfl) Tryz.underlying4
  (fun ds hl=>match ds,hl with |[_,_],_=>rfl) (law (by kernel_rfl)) hval hW hz (fun g row h=>by cases h)
theorem fact0:(Rows.varianceAlikeRow.wf (OpenSpec.ofChange Rows.varianceAlikeSpec))=true:=by kernel_rfl
theorem fact1:(laidOutB Tryz.prog)=true:=by kernel_rfl
theorem fact2:(mapsRowed Tryz.prog)=true:=by kernel_rfl
theorem fact3:(Tryz.f4.params.all (Tryz.prog.readableRec ·))=true:=by kernel_rfl
theorem fact4:(namedTie Tryz.prog Rows.varianceAlikeRow.named Rows.varianceAlikeSpec.vars)=true:=by kernel_rfl
theorem fact5:((Rows.varianceAlikeRow.stops==[]))=true:=by kernel_rfl
theorem fact6:((Tryz.prog.stops==[]))=true:=by kernel_rfl
theorem fact7:((Rows.varianceAlikeRow.knobs==[]))=true:=by kernel_rfl
theorem fact8:((Tryz.prog.stopKnobs==[]))=true:=by kernel_rfl
theorem fact9:((Rows.varianceAlikeRow.inPlace==Tryz.prog.inPlace 4))=true:=by kernel_rfl
theorem fact10:((Rows.varianceAlikeRow.unfollowed==Tryz.prog.unfollowed 4))=true:=by kernel_rfl
theorem fact11:((Rows.varianceAlikeRow.recurses==Tryz.prog.recurses 4))=true:=by kernel_rfl
theorem fact12:((Rows.varianceAlikeRow.named==Tryz.prog.varsNamed 4))=true:=by kernel_rfl
theorem fact13:((Rows.varianceAlikeRow.maps==(Tryz.f4.params.toList++Rows.varianceAlikeSpec.plain.varTypes Tryz.prog).any (Tryz.prog.mapsRec ·)))=true:=by kernel_rfl
theorem fact14:((Rows.varianceAlikeRow.ifaces==(Tryz.f4.params.toList++Rows.varianceAlikeSpec.plain.varTypes Tryz.prog).any (Tryz.prog.ifacesRec ·)))=true:=by kernel_rfl
theorem fact15:((Rows.varianceAlikeRow.mapsOut==Tryz.prog.mapsAmong Tryz.f4.resultTypes.toList))=true:=by kernel_rfl
theorem fact16:((Rows.varianceAlikeRow.loops==(Tryz.f4.params.toList++Rows.varianceAlikeSpec.plain.varTypes Tryz.prog).any (Tryz.prog.loopsFrom ·)))=true:=by kernel_rfl
theorem fact17:((Rows.varianceAlikeRow.wideKeys==(Tryz.f4.params.toList++Rows.varianceAlikeSpec.plain.varTypes Tryz.prog++Tryz.f4.resultTypes.toList).any (Tryz.prog.wideKeysFrom ·)))=true:=by kernel_rfl
theorem fact18:(Rows.varianceAlikeSpec.vars.all (Tryz.prog.varReadable ·))=true:=by kernel_rfl
theorem fact19:(Tryz.f4.resultTypes.all (fun t=>Tryz.prog.readableRec t&&decide (t < Tryz.prog.types.size)))=true:=by kernel_rfl
theorem fact20:((Rows.varianceAlikeRow.ifacesOut==Tryz.f4.resultTypes.toList.any (Tryz.prog.ifacesRec ·)))=true:=by kernel_rfl
theorem fact21:((Rows.varianceAlikeRow.loopsOut==Tryz.f4.resultTypes.toList.any (Tryz.prog.loopsFrom ·)))=true:=by kernel_rfl
theorem fact22:((Rows.varianceAlikeRow.plainKeys==Tryz.prog.plainKeys))=true:=by kernel_rfl
theorem fact23:(Rows.varianceAlikeRow.shortTexts.isNone)=true:=by kernel_rfl
theorem fact24:(Tryz.prog.stopsHeard)=true:=by kernel_rfl
theorem fact25:(Tryz.prog.mayEnter)=true:=by kernel_rfl
theorem fact26:((Rows.varianceAlikeRow.lifted==Tryz.prog.liftsFinal))=true:=by kernel_rfl
theorem fact27:((Tryz.prog.make==some Rows.varianceAlikeRow.make))=true:=by kernel_rfl
theorem fact28:((Rows.varianceAlikeRow.kinds==(if Rows.varianceAlikeRow.domain.isEmpty then []else Tryz.f4.params.toList.map fun t=>match Tryz.prog.underlying t with |some (.int k)=>some k |_=>none)))=true:=by kernel_rfl
theorem fact29:((Rows.varianceAlikeRow.pinned==Rows.varianceAlikeRow.pinnedBy))=true:=by kernel_rfl
theorem fact30:((Rows.varianceAlikeRow.veiled==(Tryz.f4.params.toList++Rows.varianceAlikeSpec.plain.varTypes Tryz.prog++Tryz.f4.resultTypes.toList).any (Tryz.prog.veiledRec ·)))=true:=by kernel_rfl
theorem fact31:(Rows.varianceAlikeRow.veiledFits Tryz.prog Tryz.f4.params.toList (Tryz.f4.params.toList++Rows.varianceAlikeSpec.plain.varTypes Tryz.prog++Tryz.f4.resultTypes.toList))=true:=by kernel_rfl
theorem bothT {a b:Bool} (ha:a=true) (hb:b=true):(a&&b)=true:=by rw[ha,hb];rfl
set_option maxRecDepth 100000 in
theorem facts:joinedFacts Tryz.prog 4 Tryz.f4 Rows.varianceAlikeSpec Rows.varianceAlikeRow=true:=by
 delta joinedFacts
 exact bothT (bothT (bothT (bothT (bothT (bothT (bothT (bothT (bothT (bothT (bothT (bothT (bothT (bothT (bothT (bothT (bothT (bothT (bothT (bothT (bothT (bothT (bothT (bothT (bothT (bothT (bothT (bothT (bothT (bothT (bothT (fact0) fact1) fact2) fact3) fact4) fact5) fact6) fact7) fact8) fact9) fact10) fact11) fact12) fact13) fact14) fact15) fact16) fact17) fact18) fact19) fact20) fact21) fact22) fact23) fact24) fact25) fact26) fact27) fact28) fact29) fact30) fact31
theorem varianceAlike_holds:Rows.VarianceAlikeSaid:=
 OpenClaim.holds_of_wide 4 Tryz.f4 rfl rfl rfl rfl rfl rfl rfl ⟨rfl,rfl,rfl,rfl,rfl⟩ rfl rfl rfl rfl rfl (by kernel_rfl) Tryz.func4 facts
  (of_decide_eq_true (by kernel_rfl)) (by unfold Func.isWrapper;first |(rw [if_pos (by decide +kernel)];kernel_rfl) |(rw [if_neg (by decide +kernel)];exact⟨rfl,rfl⟩))
  (fun os started H enc _=>lifted os started H enc)
#print axioms varianceAlike_holds
end Go.Proofs.YtbdekfpclohfnaaGreat
