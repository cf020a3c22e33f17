/-
  For every input EnvelopeTells returns true, and each argument reads afterwards as it read before.
-/
import Derived.Test.YtplkangbgmlgdaaGreatDoorTC3
import Derived.Test.YtplkangbgmlgdaaGreatDoorCards
import Derived.Test.YtplkangbgmlgdaaGreatDoorTie
import Derived.WalkKit
import Derived.ProofKit
import Derived.OpenShut
import Derived.Deep.DeepHandedRow
import Derived.Lib.LaidTab
namespace Go.Proofs.YtplkangbgmlgdaaGreatDoor
open Go Go.Proofs Go.Gb Go.RowKit Go.ChangeShapes Go.WideShapes Go.ChangeAt
theorem own:ownKnob Tryz.prog.godebug=none:=by kernel_rfl
noncomputable def shapes:List VS:=(Tryz.f3.params.toList.mapM (ahT Tryz.prog [62])).getD []
theorem law {ss:List VS} (hs:Ao (vsF (X:=xx) 8) [(.st SI.Town),(.int .i64),(.int .i64),(.int .i64),(.sl (.sl (.st SI.Rect)))]=some ss) (xs:List TV) (h:J5 ss xs):FnP Tryz.prog 3 (xs.map TV.av) (.one (.d (.s (.sc (.bool true))))):=
 aiq (X:=xx) (n:=8) (cs:=[(.st SI.Town),(.int .i64),(.int .i64),(.int .i64),(.sl (.sl (.st SI.Rect)))]) (fun k=>JU k) hs (fun q hq=>NC q.1 q.2.1 q.2.2.1 q.2.2.2.1 q.2.2.2.2.1 (YB (n:=0) hs hq).1 (YB (n:=0) hs hq).2) xs h
theorem vok {W:World} (h:laidMetH Tryz.prog Rows.envelopeTellsRow.laid W):VarsOk W (Here W):=
 YW (P := Tryz.prog) (name := "greenbelt/plane.grid") (g := 0) (t := 58) (k := .i64) (zs := [0, 0, 1048576, 1048576]) (by kernel_rfl) (by kernel_rfl) Tryz.underlying58 (by kernel_rfl) (by kernel_rfl) (by decide)
  (fun g' row h=>by
   unfold gvar at h;split at h
   ·injection h with h;exact⟨rfl,h.symm⟩
   ·cases h) h
noncomputable def laidWorld (os:Os):World:=
 { World.holding Tryz.prog os ⟨#[],#[],[]⟩with heap:=(World.holding Tryz.prog os ⟨#[],#[],[]⟩).heap.modify 0 fun
  | .cells _ t frozen=> .cells #[.int .i64 0,.int .i64 0,.int .i64 1048576,.int .i64 1048576] t frozen
  |o=>o }
theorem laid_met (os:Os):laidMet Tryz.prog Rows.envelopeTellsRow.laid ((laidWorld os).forCall (fun _ _=>0) ⟨#[],#[.agg #[.slice none 0 0,.slice none 0 0,.slice none 0 0,.slice none 0 0,.slice none 0 0,.slice none 0 0,.slice none 0 0,.int .i64 0,.slice none 0 0,.slice none 0 0,.slice none 0 0,.slice none 0 0,.slice none 0 0],.int .i64 0,.int .i64 0,.int .i64 0,.slice none 0 0],[]⟩).memory:=
 laidMet_of_run' 8 (by kernel_rfl) (by kernel_rfl)
theorem reads (os:Os) {H:Type} (enc:TypeId×Value->H):∃ places,DataW.whole enc Tryz.prog ((laidWorld os).forCall (fun _ _=>0) ⟨#[],#[.agg #[.slice none 0 0,.slice none 0 0,.slice none 0 0,.slice none 0 0,.slice none 0 0,.slice none 0 0,.slice none 0 0,.int .i64 0,.slice none 0 0,.slice none 0 0,.slice none 0 0,.slice none 0 0,.slice none 0 0],.int .i64 0,.int .i64 0,.int .i64 0,.slice none 0 0],[]⟩).memory Tryz.f3.params.toList Rows.envelopeTellsSpec.vars false (#[.agg #[.slice none 0 0,.slice none 0 0,.slice none 0 0,.slice none 0 0,.slice none 0 0,.slice none 0 0,.slice none 0 0,.int .i64 0,.slice none 0 0,.slice none 0 0,.slice none 0 0,.slice none 0 0,.slice none 0 0],.int .i64 0,.int .i64 0,.int .i64 0,.slice none 0 0]:Array Value).toList 8=some ([.agg [.agg [.nil,.nil,.nil,.nil,.nil,.nil,.nil,.lit (.int .i64 0)],.nil,.nil,.nil,.nil,.nil],.lit (.int .i64 0),.lit (.int .i64 0),.lit (.int .i64 0),.nil],[],places):=
 ⟨[],by kernel_rfl⟩
set_option maxRecDepth 100000 in
theorem lifted (os:Os) (started:os.Started) (H:Type) (enc:TypeId×Value->H) (F:Stop.Interp):
 ReturnsInHanded {} Tryz.checked os 3 .any ((OpenSpec.ofChange Rows.envelopeTellsSpec).preRow enc Tryz.prog Tryz.f3 Rows.envelopeTellsRow.domain false Rows.envelopeTellsRow.laid) (((OpenSpec.ofChange Rows.envelopeTellsSpec).at F).post enc Tryz.prog Tryz.f3 false true false false):=by
 obtain⟨places,hx⟩:=reads os enc
 refine returnsInHanded_of_row (C:=Tryz.checked) (s:=OpenSpec.ofChange Rows.envelopeTellsSpec) own started (by kernel_rfl) Tryz.func3
  (witness_row_at (enc:=enc) (C:=Tryz.checked) false (laidWorld os) #[.agg #[.slice none 0 0,.slice none 0 0,.slice none 0 0,.slice none 0 0,.slice none 0 0,.slice none 0 0,.slice none 0 0,.int .i64 0,.slice none 0 0,.slice none 0 0,.slice none 0 0,.slice none 0 0,.slice none 0 0],.int .i64 0,.int .i64 0,.int .i64 0,.slice none 0 0] rfl (by kernel_rfl) (by kernel_rfl) (by kernel_rfl)
   (OpenSpec.preRow_of_cond 8 hx (by kernel_rfl) (fun k hk=>by cases hk) (by kernel_rfl) (laid_met os))) ?_
 intro W base args ds gs before hval hW _ _ hz hL _ _
 exact YX (C:=Tryz.checked) (s:=Rows.envelopeTellsSpec) (cut:=[62]) (ss:=shapes) (by kernel_rfl) (by kernel_rfl) (by kernel_rfl) rfl (tb:=4) (by kernel_rfl) Tryz.underlying4
  (fun ds hl=>match ds,hl with |[_,_,_,_,_],_=>rfl) (law (by kernel_rfl)) hval hW hz (vok hL)
theorem fact0:(Rows.envelopeTellsRow.wf (OpenSpec.ofChange (OpenSpec.ofChange Rows.envelopeTellsSpec).bare))=true:=by kernel_rfl
theorem fact1:(laidOutB Tryz.prog)=true:=by kernel_rfl
theorem fact2:(mapsRowed Tryz.prog)=true:=by kernel_rfl
theorem fact3:(Tryz.f3.params.all (Tryz.prog.readableRec ·))=true:=by kernel_rfl
theorem fact4:(namedTie Tryz.prog Rows.envelopeTellsRow.named (OpenSpec.ofChange Rows.envelopeTellsSpec).bare.vars)=true:=by kernel_rfl
theorem fact5:((Rows.envelopeTellsRow.stops==[]))=true:=by kernel_rfl
theorem fact6:((Tryz.prog.stops==[]))=true:=by kernel_rfl
theorem fact7:((Rows.envelopeTellsRow.knobs==[]))=true:=by kernel_rfl
theorem fact8:((Tryz.prog.stopKnobs==[]))=true:=by kernel_rfl
theorem fact9:((Rows.envelopeTellsRow.inPlace==Tryz.prog.inPlace 3))=true:=by kernel_rfl
theorem fact10:((Rows.envelopeTellsRow.unfollowed==Tryz.prog.unfollowed 3))=true:=by kernel_rfl
theorem fact11:((Rows.envelopeTellsRow.recurses==Tryz.prog.recurses 3))=true:=by kernel_rfl
theorem fact12:((Rows.envelopeTellsRow.named==Tryz.prog.varsNamed 3))=true:=by kernel_rfl
theorem fact13:((Rows.envelopeTellsRow.maps==(Tryz.f3.params.toList++(OpenSpec.ofChange Rows.envelopeTellsSpec).bare.plain.varTypes Tryz.prog).any (Tryz.prog.mapsRec ·)))=true:=by kernel_rfl
theorem fact14:((Rows.envelopeTellsRow.ifaces==(Tryz.f3.params.toList++(OpenSpec.ofChange Rows.envelopeTellsSpec).bare.plain.varTypes Tryz.prog).any (Tryz.prog.ifacesRec ·)))=true:=by kernel_rfl
theorem fact15:((Rows.envelopeTellsRow.mapsOut==Tryz.prog.mapsAmong Tryz.f3.resultTypes.toList))=true:=by kernel_rfl
theorem fact16:((Rows.envelopeTellsRow.loops==(Tryz.f3.params.toList++(OpenSpec.ofChange Rows.envelopeTellsSpec).bare.plain.varTypes Tryz.prog).any (Tryz.prog.loopsFrom ·)))=true:=by kernel_rfl
theorem fact17:((Rows.envelopeTellsRow.wideKeys==(Tryz.f3.params.toList++(OpenSpec.ofChange Rows.envelopeTellsSpec).bare.plain.varTypes Tryz.prog++Tryz.f3.resultTypes.toList).any (Tryz.prog.wideKeysFrom ·)))=true:=by kernel_rfl
theorem fact18:((OpenSpec.ofChange Rows.envelopeTellsSpec).bare.vars.all (Tryz.prog.varReadable ·))=true:=by kernel_rfl
theorem fact19:(Tryz.f3.resultTypes.all (fun t=>Tryz.prog.readableRec t&&decide (t < Tryz.prog.types.size)))=true:=by kernel_rfl
theorem fact20:((Rows.envelopeTellsRow.ifacesOut==Tryz.f3.resultTypes.toList.any (Tryz.prog.ifacesRec ·)))=true:=by kernel_rfl
theorem fact21:((Rows.envelopeTellsRow.loopsOut==Tryz.f3.resultTypes.toList.any (Tryz.prog.loopsFrom ·)))=true:=by kernel_rfl
theorem fact22:((Rows.envelopeTellsRow.plainKeys==Tryz.prog.plainKeys))=true:=by kernel_rfl
theorem fact23:(Rows.envelopeTellsRow.shortTexts.isNone)=true:=by kernel_rfl
theorem fact24:(Tryz.prog.stopsHeard)=true:=by kernel_rfl
theorem fact25:(Tryz.prog.mayEnter)=true:=by kernel_rfl
theorem fact26:((Rows.envelopeTellsRow.lifted==Tryz.prog.liftsFinal))=true:=by kernel_rfl
theorem fact27:((Tryz.prog.make==some Rows.envelopeTellsRow.make))=true:=by kernel_rfl
theorem fact28:((Rows.envelopeTellsRow.kinds==(if Rows.envelopeTellsRow.domain.isEmpty then []else Tryz.f3.params.toList.map fun t=>match Tryz.prog.underlying t with |some (.int k)=>some k |_=>none)))=true:=by kernel_rfl
theorem fact29:((Rows.envelopeTellsRow.pinned==Rows.envelopeTellsRow.pinnedBy))=true:=by kernel_rfl
theorem fact30:((Rows.envelopeTellsRow.veiled==(Tryz.f3.params.toList++(OpenSpec.ofChange Rows.envelopeTellsSpec).bare.plain.varTypes Tryz.prog++Tryz.f3.resultTypes.toList).any (Tryz.prog.veiledRec ·)))=true:=by kernel_rfl
theorem fact31:(Rows.envelopeTellsRow.veiledFits Tryz.prog Tryz.f3.params.toList (Tryz.f3.params.toList++(OpenSpec.ofChange Rows.envelopeTellsSpec).bare.plain.varTypes Tryz.prog++Tryz.f3.resultTypes.toList))=true:=by kernel_rfl
theorem bothT {a b:Bool} (ha:a=true) (hb:b=true):(a&&b)=true:=by rw[ha,hb];rfl
set_option maxRecDepth 100000 in
theorem facts:joinedFacts Tryz.prog 3 Tryz.f3 (OpenSpec.ofChange Rows.envelopeTellsSpec).bare Rows.envelopeTellsRow=true:=by
 delta joinedFacts
 exact bothT (bothT (bothT (bothT (bothT (bothT (bothT (bothT (bothT (bothT (bothT (bothT (bothT (bothT (bothT (bothT (bothT (bothT (bothT (bothT (bothT (bothT (bothT (bothT (bothT (bothT (bothT (bothT (bothT (bothT (bothT (fact0) fact1) fact2) fact3) fact4) fact5) fact6) fact7) fact8) fact9) fact10) fact11) fact12) fact13) fact14) fact15) fact16) fact17) fact18) fact19) fact20) fact21) fact22) fact23) fact24) fact25) fact26) fact27) fact28) fact29) fact30) fact31
theorem said:Rows.EnvelopeTellsSaid:=
 OpenClaim.holds_of_cond 3 Tryz.f3 rfl rfl rfl rfl rfl rfl rfl ⟨rfl,rfl,rfl,rfl,rfl⟩ rfl rfl rfl rfl rfl (by kernel_rfl) Tryz.func3 facts
  (of_decide_eq_true (by kernel_rfl)) (by unfold Func.isWrapper;first |(rw [aJ (by decide +kernel)];kernel_rfl) |(rw [aD (by decide +kernel)];exact⟨rfl,rfl⟩))
  (fun os started H enc _ F=>by rw[OpenClaim.pre_eq_preRow];exact lifted os started H enc F)
theorem plain (f : FuncId) (fn : Func) (hf : Tryz.pinned.checked.prog.funcNamed "greenbelt/greenbeltlaw24.EnvelopeTells" = some f) (hfn : Tryz.pinned.checked.prog.funcs[f]? = some fn) :
 false=Tryz.pinned.checked.prog.looks []∧∀ (j:Nat) t,fn.params[j]? =some t->Tryz.pinned.checked.prog.wantsStandIn t=false:=by
 obtain rfl : f = 3 := Option.some.inj ((show Tryz.prog.funcNamed "greenbelt/greenbeltlaw24.EnvelopeTells" = some 3 by kernel_rfl).symm.trans hf) |>.symm;obtain rfl:fn=Tryz.f3:=(Option.some.inj (Tryz.func3.symm.trans hfn)).symm;refine⟨by kernel_rfl,fun j t ht=>?_⟩;have h:=List.all_eq_true.1 (show (Tryz.f3.params.toList.all fun t=>!Tryz.prog.wantsStandIn t)=true by kernel_rfl) t (by simpa using Array.mem_of_getElem? ht);have h2:(!Tryz.prog.wantsStandIn t)=true:=h;rw[Bool.not_eq_true']at h2;exact h2
theorem envelopeTells_holds:Rows.EnvelopeTellsCardSaid:=
 Claim7.holds_tied_plain_at .later [] _ _ _ _ said (fun _ h=>by cases h) (by kernel_rfl) (fun _ h=>by cases h) envelopeTells_row_tie rfl ⟨rfl,rfl⟩ (by kernel_rfl) rfl plain (by kernel_rfl)
#print axioms envelopeTells_holds
end Go.Proofs.YtplkangbgmlgdaaGreatDoor
