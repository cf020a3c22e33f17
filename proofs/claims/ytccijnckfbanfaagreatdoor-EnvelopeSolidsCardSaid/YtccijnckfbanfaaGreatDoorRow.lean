/-
  For every input EnvelopeSolids returns true, and each argument reads afterwards as it read before.
-/
import Derived.Test.YtccijnckfbanfaaGreatDoorTC2
import Derived.Test.YtccijnckfbanfaaGreatDoorCards
import Derived.Test.YtccijnckfbanfaaGreatDoorTie
import Derived.WalkKit
import Derived.ProofKit
import Derived.OpenShut
import Derived.Deep.DeepHandedRow
import Derived.Lib.LaidTab
namespace Go.Proofs.YtccijnckfbanfaaGreatDoor
open Go Go.Proofs Go.Gb Go.RowKit Go.ChangeShapes Go.WideShapes Go.ChangeAt
theorem own:ownKnob Tryz.prog.godebug=none:=by kernel_rfl
noncomputable def shapes:List VS:=(Tryz.f5.params.toList.mapM (aeH Tryz.prog [57])).getD []
theorem law {ss:List VS} (hs:zR (vsF (X:=xx) 8) [(.st SI.Town),(.int .i64),(.int .i64),(.int .i64),(.int .i64)]=some ss) (xs:List TV) (h:JN ss xs):FnP Tryz.prog 5 (xs.map TV.av) (.one (.d (.s (.sc (.bool true))))):=
 afg (X:=xx) (n:=8) (cs:=[(.st SI.Town),(.int .i64),(.int .i64),(.int .i64),(.int .i64)]) (fun k=>Ga k) hs (fun q hq=>Jh q.1 q.2.1 q.2.2.1 q.2.2.2.1 q.2.2.2.2.1 (by obtain⟨_,_,h1,_,h2,_⟩:=afP hs q hq;exact agR (n:=0) h1 h2)) xs h
theorem vok {W:World} (h:laidMetH Tryz.prog Rows.envelopeSolidsRow.laid W):VarsOk W (Here W):=
 WU (P := Tryz.prog) (name := "greenbelt/plane.grid") (g := 0) (t := 73) (k := .i64) (zs := [0, 0, 1048576, 1048576]) (by kernel_rfl) (by kernel_rfl) Tryz.underlying73 (by kernel_rfl) (by kernel_rfl) (by decide)
  (fun g' row h=>by
   unfold gvar at h;split at h
   ·injection h with h;exact⟨rfl,h.symm⟩
   ·cases h) h
noncomputable def laidWorld (os:Os):World:=
 { World.holding Tryz.prog os ⟨#[],#[],[]⟩with heap:=(World.holding Tryz.prog os ⟨#[],#[],[]⟩).heap.modify 0 fun
  | .cells _ t frozen=> .cells #[.int .i64 0,.int .i64 0,.int .i64 1048576,.int .i64 1048576] t frozen
  |o=>o }
theorem laid_met (os:Os):laidMet Tryz.prog Rows.envelopeSolidsRow.laid ((laidWorld os).forCall (fun _ _=>0) ⟨#[],#[.agg #[.slice none 0 0,.slice none 0 0,.slice none 0 0,.slice none 0 0,.slice none 0 0,.slice none 0 0,.slice none 0 0,.int .i64 0,.slice none 0 0,.slice none 0 0,.slice none 0 0,.slice none 0 0,.slice none 0 0],.int .i64 0,.int .i64 0,.int .i64 0,.int .i64 0],[]⟩).memory:=
 laidMet_of_run' 8 (by kernel_rfl) (by kernel_rfl)
theorem reads (os:Os) {H:Type} (enc:TypeId×Value->H):∃ places,DataW.whole enc Tryz.prog ((laidWorld os).forCall (fun _ _=>0) ⟨#[],#[.agg #[.slice none 0 0,.slice none 0 0,.slice none 0 0,.slice none 0 0,.slice none 0 0,.slice none 0 0,.slice none 0 0,.int .i64 0,.slice none 0 0,.slice none 0 0,.slice none 0 0,.slice none 0 0,.slice none 0 0],.int .i64 0,.int .i64 0,.int .i64 0,.int .i64 0],[]⟩).memory Tryz.f5.params.toList Rows.envelopeSolidsSpec.vars false (#[.agg #[.slice none 0 0,.slice none 0 0,.slice none 0 0,.slice none 0 0,.slice none 0 0,.slice none 0 0,.slice none 0 0,.int .i64 0,.slice none 0 0,.slice none 0 0,.slice none 0 0,.slice none 0 0,.slice none 0 0],.int .i64 0,.int .i64 0,.int .i64 0,.int .i64 0]:Array Value).toList 8=some ([.agg [.agg [.nil,.nil,.nil,.nil,.nil,.nil,.nil,.lit (.int .i64 0)],.nil,.nil,.nil,.nil,.nil],.lit (.int .i64 0),.lit (.int .i64 0),.lit (.int .i64 0),.lit (.int .i64 0)],[],places):=
 ⟨[],by kernel_rfl⟩
set_option maxRecDepth 100000 in
theorem lifted (os:Os) (started:os.Started) (H:Type) (enc:TypeId×Value->H) (F:Stop.Interp):
 ReturnsInHanded {} Tryz.checked os 5 .any ((OpenSpec.ofChange Rows.envelopeSolidsSpec).preRow enc Tryz.prog Tryz.f5 Rows.envelopeSolidsRow.domain false Rows.envelopeSolidsRow.laid) (((OpenSpec.ofChange Rows.envelopeSolidsSpec).at F).post enc Tryz.prog Tryz.f5 false true false false):=by
 obtain⟨places,hx⟩:=reads os enc
 refine returnsInHanded_of_row (C:=Tryz.checked) (s:=OpenSpec.ofChange Rows.envelopeSolidsSpec) own started (by kernel_rfl) Tryz.func5
  (witness_row_at (enc:=enc) (C:=Tryz.checked) false (laidWorld os) #[.agg #[.slice none 0 0,.slice none 0 0,.slice none 0 0,.slice none 0 0,.slice none 0 0,.slice none 0 0,.slice none 0 0,.int .i64 0,.slice none 0 0,.slice none 0 0,.slice none 0 0,.slice none 0 0,.slice none 0 0],.int .i64 0,.int .i64 0,.int .i64 0,.int .i64 0] rfl (by kernel_rfl) (by kernel_rfl) (by kernel_rfl)
   (OpenSpec.preRow_of_cond 8 hx (by kernel_rfl) (fun k hk=>by cases hk) (by kernel_rfl) (laid_met os))) ?_
 intro W base args ds gs before hval hW _ _ hz hL _ _
 exact WV (C:=Tryz.checked) (s:=Rows.envelopeSolidsSpec) (cut:=[57]) (ss:=shapes) (by kernel_rfl) (by kernel_rfl) (by kernel_rfl) rfl (tb:=4) (by kernel_rfl) Tryz.underlying4
  (fun ds hl=>match ds,hl with |[_,_,_,_,_],_=>rfl) (law (by kernel_rfl)) hval hW hz (vok hL)
theorem fact0:(Rows.envelopeSolidsRow.wf (OpenSpec.ofChange (OpenSpec.ofChange Rows.envelopeSolidsSpec).bare))=true:=by kernel_rfl
theorem fact1:(laidOutB Tryz.prog)=true:=by kernel_rfl
theorem fact2:(mapsRowed Tryz.prog)=true:=by kernel_rfl
theorem fact3:(Tryz.f5.params.all (Tryz.prog.readableRec ·))=true:=by kernel_rfl
theorem fact4:(namedTie Tryz.prog Rows.envelopeSolidsRow.named (OpenSpec.ofChange Rows.envelopeSolidsSpec).bare.vars)=true:=by kernel_rfl
theorem fact5:((Rows.envelopeSolidsRow.stops==[]))=true:=by kernel_rfl
theorem fact6:((Tryz.prog.stops==[]))=true:=by kernel_rfl
theorem fact7:((Rows.envelopeSolidsRow.knobs==[]))=true:=by kernel_rfl
theorem fact8:((Tryz.prog.stopKnobs==[]))=true:=by kernel_rfl
theorem fact9:((Rows.envelopeSolidsRow.inPlace==Tryz.prog.inPlace 5))=true:=by kernel_rfl
theorem fact10:((Rows.envelopeSolidsRow.unfollowed==Tryz.prog.unfollowed 5))=true:=by kernel_rfl
theorem fact11:((Rows.envelopeSolidsRow.recurses==Tryz.prog.recurses 5))=true:=by kernel_rfl
theorem fact12:((Rows.envelopeSolidsRow.named==Tryz.prog.varsNamed 5))=true:=by kernel_rfl
theorem fact13:((Rows.envelopeSolidsRow.maps==(Tryz.f5.params.toList++(OpenSpec.ofChange Rows.envelopeSolidsSpec).bare.plain.varTypes Tryz.prog).any (Tryz.prog.mapsRec ·)))=true:=by kernel_rfl
theorem fact14:((Rows.envelopeSolidsRow.ifaces==(Tryz.f5.params.toList++(OpenSpec.ofChange Rows.envelopeSolidsSpec).bare.plain.varTypes Tryz.prog).any (Tryz.prog.ifacesRec ·)))=true:=by kernel_rfl
theorem fact15:((Rows.envelopeSolidsRow.mapsOut==Tryz.prog.mapsAmong Tryz.f5.resultTypes.toList))=true:=by kernel_rfl
theorem fact16:((Rows.envelopeSolidsRow.loops==(Tryz.f5.params.toList++(OpenSpec.ofChange Rows.envelopeSolidsSpec).bare.plain.varTypes Tryz.prog).any (Tryz.prog.loopsFrom ·)))=true:=by kernel_rfl
theorem fact17:((Rows.envelopeSolidsRow.wideKeys==(Tryz.f5.params.toList++(OpenSpec.ofChange Rows.envelopeSolidsSpec).bare.plain.varTypes Tryz.prog++Tryz.f5.resultTypes.toList).any (Tryz.prog.wideKeysFrom ·)))=true:=by kernel_rfl
theorem fact18:((OpenSpec.ofChange Rows.envelopeSolidsSpec).bare.vars.all (Tryz.prog.varReadable ·))=true:=by kernel_rfl
theorem fact19:(Tryz.f5.resultTypes.all (fun t=>Tryz.prog.readableRec t&&decide (t < Tryz.prog.types.size)))=true:=by kernel_rfl
theorem fact20:((Rows.envelopeSolidsRow.ifacesOut==Tryz.f5.resultTypes.toList.any (Tryz.prog.ifacesRec ·)))=true:=by kernel_rfl
theorem fact21:((Rows.envelopeSolidsRow.loopsOut==Tryz.f5.resultTypes.toList.any (Tryz.prog.loopsFrom ·)))=true:=by kernel_rfl
theorem fact22:((Rows.envelopeSolidsRow.plainKeys==Tryz.prog.plainKeys))=true:=by kernel_rfl
theorem fact23:(Rows.envelopeSolidsRow.shortTexts.isNone)=true:=by kernel_rfl
theorem fact24:(Tryz.prog.stopsHeard)=true:=by kernel_rfl
theorem fact25:(Tryz.prog.mayEnter)=true:=by kernel_rfl
theorem fact26:((Rows.envelopeSolidsRow.lifted==Tryz.prog.liftsFinal))=true:=by kernel_rfl
theorem fact27:((Tryz.prog.make==some Rows.envelopeSolidsRow.make))=true:=by kernel_rfl
theorem fact28:((Rows.envelopeSolidsRow.kinds==(if Rows.envelopeSolidsRow.domain.isEmpty then []else Tryz.f5.params.toList.map fun t=>match Tryz.prog.underlying t with |some (.int k)=>some k |_=>none)))=true:=by kernel_rfl
theorem fact29:((Rows.envelopeSolidsRow.pinned==Rows.envelopeSolidsRow.pinnedBy))=true:=by kernel_rfl
theorem fact30:((Rows.envelopeSolidsRow.veiled==(Tryz.f5.params.toList++(OpenSpec.ofChange Rows.envelopeSolidsSpec).bare.plain.varTypes Tryz.prog++Tryz.f5.resultTypes.toList).any (Tryz.prog.veiledRec ·)))=true:=by kernel_rfl
theorem fact31:(Rows.envelopeSolidsRow.veiledFits Tryz.prog Tryz.f5.params.toList (Tryz.f5.params.toList++(OpenSpec.ofChange Rows.envelopeSolidsSpec).bare.plain.varTypes Tryz.prog++Tryz.f5.resultTypes.toList))=true:=by kernel_rfl
theorem bothT {a b:Bool} (ha:a=true) (hb:b=true):(a&&b)=true:=by rw[ha,hb];rfl
set_option maxRecDepth 100000 in
theorem facts:joinedFacts Tryz.prog 5 Tryz.f5 (OpenSpec.ofChange Rows.envelopeSolidsSpec).bare Rows.envelopeSolidsRow=true:=by
 delta joinedFacts
 exact bothT (bothT (bothT (bothT (bothT (bothT (bothT (bothT (bothT (bothT (bothT (bothT (bothT (bothT (bothT (bothT (bothT (bothT (bothT (bothT (bothT (bothT (bothT (bothT (bothT (bothT (bothT (bothT (bothT (bothT (bothT (fact0) fact1) fact2) fact3) fact4) fact5) fact6) fact7) fact8) fact9) fact10) fact11) fact12) fact13) fact14) fact15) fact16) fact17) fact18) fact19) fact20) fact21) fact22) fact23) fact24) fact25) fact26) fact27) fact28) fact29) fact30) fact31
theorem said:Rows.EnvelopeSolidsSaid:=
 OpenClaim.holds_of_cond 5 Tryz.f5 rfl rfl rfl rfl rfl rfl rfl ⟨rfl,rfl,rfl,rfl,rfl⟩ rfl rfl rfl rfl rfl (by kernel_rfl) Tryz.func5 facts
  (of_decide_eq_true (by kernel_rfl)) (by unfold Func.isWrapper;first |(rw [if_pos (by decide +kernel)];kernel_rfl) |(rw [if_neg (by decide +kernel)];exact⟨rfl,rfl⟩))
  (fun os started H enc _ F=>by rw[OpenClaim.pre_eq_preRow];exact lifted os started H enc F)
theorem plain (f : FuncId) (fn : Func) (hf : Tryz.pinned.checked.prog.funcNamed "greenbelt/greenbeltlaw24.EnvelopeSolids" = some f) (hfn : Tryz.pinned.checked.prog.funcs[f]? = some fn) :
 false=Tryz.pinned.checked.prog.looks []∧∀ (j:Nat) t,fn.params[j]? =some t->Tryz.pinned.checked.prog.wantsStandIn t=false:=by
 obtain rfl : f = 5 := Option.some.inj ((show Tryz.prog.funcNamed "greenbelt/greenbeltlaw24.EnvelopeSolids" = some 5 by kernel_rfl).symm.trans hf) |>.symm;obtain rfl:fn=Tryz.f5:=(Option.some.inj (Tryz.func5.symm.trans hfn)).symm;refine⟨by kernel_rfl,fun j t ht=>?_⟩;have h:=List.all_eq_true.1 (show (Tryz.f5.params.toList.all fun t=>!Tryz.prog.wantsStandIn t)=true by kernel_rfl) t (by simpa using Array.mem_of_getElem? ht);have h2:(!Tryz.prog.wantsStandIn t)=true:=h;rw[Bool.not_eq_true']at h2;exact h2
theorem envelopeSolids_holds:Rows.EnvelopeSolidsCardSaid:=
 Claim7.holds_tied_plain_at .later [] _ _ _ _ said (fun _ h=>by cases h) (by kernel_rfl) (fun _ h=>by cases h) envelopeSolids_row_tie rfl ⟨rfl,rfl⟩ (by kernel_rfl) rfl plain (by kernel_rfl)
#print axioms envelopeSolids_holds
end Go.Proofs.YtccijnckfbanfaaGreatDoor
