import Derived.Test.YtbdekfpclohfnaaGreatTC2
import Derived.WalkKit
import Derived.ProofKit
import Derived.OpenShut
import Derived.Deep.DeepHandedRow
import Derived.Lib.LaidTab
import Derived.SizedLaws
import Derived.Test.YtbdekfpclohfnaaGreatRows
namespace Go.Proofs.YtbdekfpclohfnaaGreat
open Go Go.Proofs Go.Gb Go.RowKit Go.ChangeShapes Go.WideShapes Go.ChangeAt
theorem own:ownKnob Tryz.prog.godebug=none:=by kernel_rfl
noncomputable def shapes:List VS:=(Tryz.f3.params.toList.mapM (Fk Tryz.prog [84])).getD []
theorem law{ss:List VS}(hs:CU (nz (X:=xx) 8) [(.st SI.eS),(.st SI.df),(.sl .str),(.sl (.st SI.Order)),(.sl (.st SI.Case)),(.st SI.Ask)]=some ss)(xs:List TV)(h:NV ss xs):pr Tryz.prog 3 (xs.map TV.av) (.one (.d (.s (.sc (.bool true))))):=
 am2 (X:=xx) (n:=8) (cs:=[(.st SI.eS),(.st SI.df),(.sl .str),(.sl (.st SI.Order)),(.sl (.st SI.Case)),(.st SI.Ask)]) (λ k=>NK k) hs (λ q hq=>RL q.1 q.2.1 q.2.2.1 q.2.2.2.1 q.2.2.2.2.1 q.2.2.2.2.2.1 (Cm (n:=0) hs hq).1.1 (Cm (n:=0) hs hq).1.2 (Cm (n:=0) hs hq).2.1 (Cm (n:=0) hs hq).2.2.1 (Cm (n:=0) hs hq).2.2.2) xs h
set_option maxRecDepth 100000 in
theorem lifted(os:Os)(started:os.Started)(H:Type)(enc:TypeId×Value->H):
 ReturnsInHanded {} Tryz.checked os 3 .any (Rows.varianceTellsSpec.pre6 enc Tryz.prog Tryz.f3 Rows.varianceTellsRow.domain false) (Rows.varianceTellsSpec.post enc Tryz.prog Tryz.f3 false true false false):=by
 refine returnsInHanded_of_change_sized (C:=Tryz.checked) own started (by kernel_rfl) Tryz.func3
  (ChangeSpec.witness6 (enc:=enc) (C:=Tryz.checked) false ⟨#[],#[.agg #[.slice none 0 0,.slice none 0 0,.slice none 0 0,.slice none 0 0,.slice none 0 0,.slice none 0 0,.slice none 0 0,.int .i64 0,.slice none 0 0,.slice none 0 0,.slice none 0 0,.slice none 0 0,.slice none 0 0],.agg #[.int .i64 0,.slice none 0 0],.slice none 0 0,.slice none 0 0,.slice none 0 0,.agg #[.int .i64 0,.slice none 0 0,.bool false]],[]⟩ 8 (by kernel_rfl) (by kernel_rfl) (by kernel_rfl) (by kernel_rfl)) ?_
 intro W base args ds gs before hval hW _ hz _
 exact ada (C:=Tryz.checked) (s:=Rows.varianceTellsSpec) (cut:=[84]) (ss:=shapes) (by kernel_rfl) (by kernel_rfl) (by kernel_rfl) rfl (tb:=4) (by kernel_rfl) Tryz.underlying4
  (λ ds hl=>match ds,hl with |[_,_,_,_,_,_],_=>rfl) (law (by kernel_rfl)) hval hW hz (λ g row h=>by cases h)
theorem DO:(Rows.varianceTellsRow.wf (OpenSpec.ofChange Rows.varianceTellsSpec))=true:=by kernel_rfl
theorem DM:(laidOutB Tryz.prog)=true:=by kernel_rfl
theorem DH:(mapsRowed Tryz.prog)=true:=by kernel_rfl
theorem DG:(Tryz.f3.params.all (Tryz.prog.readableRec ·))=true:=by kernel_rfl
theorem DE:(namedTie Tryz.prog Rows.varianceTellsRow.named Rows.varianceTellsSpec.vars)=true:=by kernel_rfl
theorem DD:((Rows.varianceTellsRow.stops==[]))=true:=by kernel_rfl
theorem DB:((Tryz.prog.stops==[]))=true:=by kernel_rfl
theorem DA:((Rows.varianceTellsRow.knobs==[]))=true:=by kernel_rfl
theorem Ds:((Tryz.prog.stopKnobs==[]))=true:=by kernel_rfl
theorem Do:((Rows.varianceTellsRow.inPlace==Tryz.prog.inPlace 3))=true:=by kernel_rfl
theorem xz:((Rows.varianceTellsRow.unfollowed==Tryz.prog.unfollowed 3))=true:=by kernel_rfl
theorem xy:((Rows.varianceTellsRow.recurses==Tryz.prog.recurses 3))=true:=by kernel_rfl
theorem xv:((Rows.varianceTellsRow.named==Tryz.prog.varsNamed 3))=true:=by kernel_rfl
theorem xt:((Rows.varianceTellsRow.maps==(Tryz.f3.params.toList++Rows.varianceTellsSpec.plain.varTypes Tryz.prog).any (Tryz.prog.mapsRec ·)))=true:=by kernel_rfl
theorem xr:((Rows.varianceTellsRow.ifaces==(Tryz.f3.params.toList++Rows.varianceTellsSpec.plain.varTypes Tryz.prog).any (Tryz.prog.ifacesRec ·)))=true:=by kernel_rfl
theorem xp:((Rows.varianceTellsRow.mapsOut==Tryz.prog.mapsAmong Tryz.f3.resultTypes.toList))=true:=by kernel_rfl
theorem xn:((Rows.varianceTellsRow.loops==(Tryz.f3.params.toList++Rows.varianceTellsSpec.plain.varTypes Tryz.prog).any (Tryz.prog.loopsFrom ·)))=true:=by kernel_rfl
theorem xm:((Rows.varianceTellsRow.wideKeys==(Tryz.f3.params.toList++Rows.varianceTellsSpec.plain.varTypes Tryz.prog++Tryz.f3.resultTypes.toList).any (Tryz.prog.wideKeysFrom ·)))=true:=by kernel_rfl
theorem xl:(Rows.varianceTellsSpec.vars.all (Tryz.prog.varReadable ·))=true:=by kernel_rfl
theorem xj:(Tryz.f3.resultTypes.all (λ t=>Tryz.prog.readableRec t&&decide (t<Tryz.prog.types.size)))=true:=by kernel_rfl
theorem xi:((Rows.varianceTellsRow.ifacesOut==Tryz.f3.resultTypes.toList.any (Tryz.prog.ifacesRec ·)))=true:=by kernel_rfl
theorem xf:((Rows.varianceTellsRow.loopsOut==Tryz.f3.resultTypes.toList.any (Tryz.prog.loopsFrom ·)))=true:=by kernel_rfl
theorem xe:((Rows.varianceTellsRow.plainKeys==Tryz.prog.plainKeys))=true:=by kernel_rfl
theorem xd:(Rows.varianceTellsRow.shortTexts.isNone)=true:=by kernel_rfl
theorem xc:(Tryz.prog.stopsHeard)=true:=by kernel_rfl
theorem xb:(Tryz.prog.mayEnter)=true:=by kernel_rfl
theorem xa:((Rows.varianceTellsRow.lifted==Tryz.prog.liftsFinal))=true:=by kernel_rfl
theorem wA:((Tryz.prog.make==some Rows.varianceTellsRow.make))=true:=by kernel_rfl
theorem wy:((Rows.varianceTellsRow.kinds==(if Rows.varianceTellsRow.domain.isEmpty then []else Tryz.f3.params.toList.map λt=>match Tryz.prog.underlying t with |some (.int k)=>some k |_=>none)))=true:=by kernel_rfl
theorem wx:((Rows.varianceTellsRow.pinned==Rows.varianceTellsRow.pinnedBy))=true:=by kernel_rfl
theorem wt:((Rows.varianceTellsRow.veiled==(Tryz.f3.params.toList++Rows.varianceTellsSpec.plain.varTypes Tryz.prog++Tryz.f3.resultTypes.toList).any (Tryz.prog.veiledRec ·)))=true:=by kernel_rfl
theorem ws:(Rows.varianceTellsRow.veiledFits Tryz.prog Tryz.f3.params.toList (Tryz.f3.params.toList++Rows.varianceTellsSpec.plain.varTypes Tryz.prog++Tryz.f3.resultTypes.toList))=true:=by kernel_rfl
theorem cX{a b:Bool}(ha:a=true)(hb:b=true):(a&&b)=true:=by rw[ha,hb];rfl
set_option maxRecDepth 100000 in
theorem facts:joinedFacts Tryz.prog 3 Tryz.f3 Rows.varianceTellsSpec Rows.varianceTellsRow=true:=by
 delta joinedFacts
 exact cX (cX (cX (cX (cX (cX (cX (cX (cX (cX (cX (cX (cX (cX (cX (cX (cX (cX (cX (cX (cX (cX (cX (cX (cX (cX (cX (cX (cX (cX (cX (DO) DM) DH) DG) DE) DD) DB) DA) Ds) Do) xz) xy) xv) xt) xr) xp) xn) xm) xl) xj) xi) xf) xe) xd) xc) xb) xa) wA) wy) wx) wt) ws
theorem varianceTells_holds:Rows.VarianceTellsSaid:=
 OpenClaim.holds_of_wide 3 Tryz.f3 rfl rfl rfl rfl rfl rfl rfl ⟨rfl,rfl,rfl,rfl,rfl⟩ rfl rfl rfl rfl rfl (by kernel_rfl) Tryz.func3 facts
  (of_decide_eq_true (by kernel_rfl)) (by unfold Func.isWrapper;first |(rw [aP (by decide +kernel)];kernel_rfl) |(rw [aM (by decide +kernel)];exact⟨rfl,rfl⟩))
  (λ os started H enc _=>lifted os started H enc)
#print axioms varianceTells_holds
end Go.Proofs.YtbdekfpclohfnaaGreat
