import Derived.Test.YtnclkjejgffdmacGreatTC3
import Derived.WalkKit
import Derived.ProofKit
import Derived.OpenShut
import Derived.Deep.DeepHandedRow
import Derived.Lib.LaidTab
import Derived.Deep.CondSized
import Derived.Shelf.Vars
import Derived.Test.YtnclkjejgffdmacGreatRows
namespace Go.Proofs.YtnclkjejgffdmacGreat
open Go Go.Proofs Go.Gb Go.RowKit Go.ChangeShapes Go.WideShapes Go.ChangeAt
section
variable {H:Type} {enc:TypeId×Value->H}
theorem ml{a:Assume}{C:Checked}{os:Os}{f:FuncId}{fn:Func}{s:OpenSpec}{k:(H:Type)->List (DataW H)->Bool}(hk:s.cond=some k){F:Stop.Interp}{conds:List PathCond}{apart fresh handsOn again:Bool}
 (own:ownKnob C.prog.godebug=none) (started:os.Started) (noInit:C.prog.inits.idxOf? f=none) (hfn:C.prog.funcs[f]? =some fn)
 (witness:∃(w:World)(tape:Tape)(i:Input),w.os=os∧(w.forCall tape i).Shaped C.prog∧i.vars=[]∧Input.okWide C.prog (w.forCall tape i) .any w.heap.size f i∧
  s.pre6 enc C.prog fn conds apart (w.forCall tape i).memory i.args∧a.holds C.prog (lone (Frame.enter C.prog f i.args .normal) [] (w.forCall tape i)))
 (contract:∀(W:World)(base:Nat)(args:Array Value)(ds gs:List (DataW H))(before:List MemPlace),
  (∀ (j:Nat) t v,fn.params[j]? =some t->args[j]? =some v->Value.okWide C.prog W .any base t v)->
  DataW.Whole enc C.prog fn.params.toList s.vars apart W args.toList ds gs before->
  k H (ds++gs)=true->
  (DataW.weightsEach C.prog (fn.params.toList++s.bare.plain.varTypes C.prog) (ds++gs)).all (· <=reachBytes)=true->
  W.ShapedOpen C.prog->
  Calls C.prog f args W λe W'=>∃v,e=.returned v∧(s.at F).post enc C.prog fn apart fresh handsOn again W args v W'):
 ReturnsInHanded a C os f .any (s.pre6 enc C.prog fn conds apart) ((s.at F).post enc C.prog fn apart fresh handsOn again):=by refine returnsInHanded_of_calls own started noInit witness ?_;intro w tape i _ hsh _ hok hpre _;obtain⟨_,_,_,fn',hfn',_,_,_,_,hval⟩:=hok;have e:fn'=fn:=Option.some.inj (hfn'.symm.trans hfn);subst e;obtain⟨ds,gs,before,hw,_,hkk⟩:=(OpenSpec.pre_some hk conds apart _ _).1 hpre.1;have hw':=DataW.Whole.of_heap (w':=w.forCall tape i) (by rfl) hw;refine(contract (w.forCall tape i) w.heap.size i.args ds gs before hval hw' hkk (hpre.2.weights hw) hsh).mono λe W' ⟨v,he,hp⟩=>?_;subst he;exact ChangeSpec.post_blind hp
end
theorem own:ownKnob Tryz.prog.godebug=none:=by kernel_rfl
noncomputable def shapes:List VS:=(Tryz.f3.params.toList.mapM (Pa Tryz.prog [102])).getD []
def CE(H:Type):Bk H:=⟨Rows.uptoBulk,Rows.uptoBulkAll,λl=>by simp[Rows.uptoBulk],λk n=>by simp[Rows.uptoBulk],λv=>by simp[Rows.uptoBulk],by simp[Rows.uptoBulk],λe s=>by simp[Rows.uptoBulk],λp=>by simp[Rows.uptoBulk],by simp[Rows.uptoBulkAll],λd r=>by simp[Rows.uptoBulkAll]⟩
theorem law{ss:List VS}(hs:GN (J1 (X:=xx) 8) [(.st SI.fX),(.int .i64),(.st SI.nr)]=some ss)(xs:List TV)(h:Xa ss xs)(hb:∀n,n=1048576->Xb xs<=n):sq Tryz.prog 3 (xs.map TV.av) (.one (.d (.s (.sc (.bool true))))):=
 ani (X:=xx) (n:=8) (N:=1048576) (cs:=[(.st SI.fX),(.int .i64),(.st SI.nr)]) (λ k=>NG k) hs (λ q _ hb=>RN q hb) xs h (hb _ rfl)
set_option maxRecDepth 100000 in
theorem lifted(os:Os)(started:os.Started)(H:Type)(enc:TypeId×Value->H)(F:Stop.Interp):
 ReturnsInHanded {} Tryz.checked os 3 .any ((Rows.OpenSpec.upto Rows.hearingAgainSpec).pre6 enc Tryz.prog Tryz.f3 Rows.hearingAgainUptoRow.domain false) (((Rows.OpenSpec.upto Rows.hearingAgainSpec).at F).post enc Tryz.prog Tryz.f3 false true false false):=by
 refine ml (C:=Tryz.checked) (s:=Rows.OpenSpec.upto Rows.hearingAgainSpec) (k:=Rows.uptoSmall) rfl own started (by kernel_rfl) Tryz.func3
  (OpenSpec.witness (enc:=enc) (C:=Tryz.checked) (s:=Rows.OpenSpec.upto Rows.hearingAgainSpec) (k:=Rows.uptoSmall) rfl false ⟨#[],#[.agg #[.slice none 0 0,.slice none 0 0,.slice none 0 0,.slice none 0 0,.slice none 0 0,.slice none 0 0,.slice none 0 0,.int .i64 0,.slice none 0 0,.slice none 0 0,.slice none 0 0,.slice none 0 0,.slice none 0 0,.int .i64 0,.slice none 0 0,.int .i64 0,.int .i64 0,.int .i64 0,.slice none 0 0,.slice none 0 0,.slice none 0 0,.slice none 0 0],.int .i64 0,.agg #[.int .i64 0,.int .i64 0]],[]⟩ 8 (by kernel_rfl) (by kernel_rfl) (by kernel_rfl)
   (x:=([.agg [.agg [.agg [.nil,.nil,.nil,.nil,.nil,.nil,.nil,.lit (.int .i64 0)],.nil,.nil,.nil,.nil,.nil],.agg [.lit (.int .i64 0),.nil],.lit (.int .i64 0),.lit (.int .i64 0),.lit (.int .i64 0),.nil,.nil,.nil,.nil],.lit (.int .i64 0),.agg [.lit (.int .i64 0),.lit (.int .i64 0)]],[],[])) (by kernel_rfl) rfl (by kernel_rfl)) ?_
 intro W base args ds gs before hval hW hk hz hsh
 exact adb (C:=Tryz.checked) (s:=Rows.hearingAgainSpec) (cut:=[102]) (ss:=shapes) (by kernel_rfl) (by kernel_rfl) (by kernel_rfl) rfl (tb:=4) (by kernel_rfl) Tryz.underlying4
  (λ ds hl=>match ds,hl with|[_,_,_],_=>rfl) (law (by kernel_rfl)) hval hW hz ⟨λ g row h=>(by cases h),λg hg=>by have e:g=0:=(by simpa[aqt]using hg);subst e;have h:=cell_of_shapedOpen_int (g:=0) (zero:=#[.int .i64 0]) (t:=3) (k:=.i64) hsh (of_decide_eq_true (by kernel_rfl)) (by kernel_rfl) rfl (by kernel_rfl) (by kernel_rfl) Tryz.underlying3;exact⟨(QL h.choose_spec).2,h⟩⟩
  (λ n hn=>⟨CE H,by subst hn;have h1:(CE H).a (ds++gs)<=1048576:=of_decide_eq_true hk;rw[Bk.app]at h1;exact Nat.le_trans (Nat.le_add_right _ _) h1⟩)
theorem Nm:(Rows.hearingAgainUptoRow.wf (OpenSpec.ofChange (Rows.OpenSpec.upto Rows.hearingAgainSpec).bare))=true:=by kernel_rfl
theorem Nd:(laidOutB Tryz.prog)=true:=by kernel_rfl
theorem M3:(mapsRowed Tryz.prog)=true:=by kernel_rfl
theorem M2:(Tryz.f3.params.all (Tryz.prog.readableRec ·))=true:=by kernel_rfl
theorem M1:(namedTie Tryz.prog Rows.hearingAgainUptoRow.named (Rows.OpenSpec.upto Rows.hearingAgainSpec).bare.vars)=true:=by kernel_rfl
theorem MY:((Rows.hearingAgainUptoRow.stops==[]))=true:=by kernel_rfl
theorem MT:((Tryz.prog.stops==[]))=true:=by kernel_rfl
theorem MM:((Rows.hearingAgainUptoRow.knobs==[]))=true:=by kernel_rfl
theorem MD:((Tryz.prog.stopKnobs==[]))=true:=by kernel_rfl
theorem Mz:((Rows.hearingAgainUptoRow.inPlace==Tryz.prog.inPlace 3))=true:=by kernel_rfl
theorem G0:((Rows.hearingAgainUptoRow.unfollowed==Tryz.prog.unfollowed 3))=true:=by kernel_rfl
theorem GW:((Rows.hearingAgainUptoRow.recurses==Tryz.prog.recurses 3))=true:=by kernel_rfl
theorem GT:((Rows.hearingAgainUptoRow.named==Tryz.prog.varsNamed 3))=true:=by kernel_rfl
theorem GS:((Rows.hearingAgainUptoRow.maps==(Tryz.f3.params.toList++(Rows.OpenSpec.upto Rows.hearingAgainSpec).bare.plain.varTypes Tryz.prog).any (Tryz.prog.mapsRec ·)))=true:=by kernel_rfl
theorem GP:((Rows.hearingAgainUptoRow.ifaces==(Tryz.f3.params.toList++(Rows.OpenSpec.upto Rows.hearingAgainSpec).bare.plain.varTypes Tryz.prog).any (Tryz.prog.ifacesRec ·)))=true:=by kernel_rfl
theorem GO:((Rows.hearingAgainUptoRow.mapsOut==Tryz.prog.mapsAmong Tryz.f3.resultTypes.toList))=true:=by kernel_rfl
theorem GM:((Rows.hearingAgainUptoRow.loops==(Tryz.f3.params.toList++(Rows.OpenSpec.upto Rows.hearingAgainSpec).bare.plain.varTypes Tryz.prog).any (Tryz.prog.loopsFrom ·)))=true:=by kernel_rfl
theorem GF:((Rows.hearingAgainUptoRow.wideKeys==(Tryz.f3.params.toList++(Rows.OpenSpec.upto Rows.hearingAgainSpec).bare.plain.varTypes Tryz.prog++Tryz.f3.resultTypes.toList).any (Tryz.prog.wideKeysFrom ·)))=true:=by kernel_rfl
theorem GE:((Rows.OpenSpec.upto Rows.hearingAgainSpec).bare.vars.all (Tryz.prog.varReadable ·))=true:=by kernel_rfl
theorem GC:(Tryz.f3.resultTypes.all (λ t=>Tryz.prog.readableRec t&&decide (t<Tryz.prog.types.size)))=true:=by kernel_rfl
theorem GB:((Rows.hearingAgainUptoRow.ifacesOut==Tryz.f3.resultTypes.toList.any (Tryz.prog.ifacesRec ·)))=true:=by kernel_rfl
theorem Gk:((Rows.hearingAgainUptoRow.loopsOut==Tryz.f3.resultTypes.toList.any (Tryz.prog.loopsFrom ·)))=true:=by kernel_rfl
theorem Ge:((Rows.hearingAgainUptoRow.plainKeys==Tryz.prog.plainKeys))=true:=by kernel_rfl
theorem F1:(Rows.hearingAgainUptoRow.shortTexts.isNone)=true:=by kernel_rfl
theorem F0:(Tryz.prog.stopsHeard)=true:=by kernel_rfl
theorem FS:(Tryz.prog.mayEnter)=true:=by kernel_rfl
theorem FG:((Rows.hearingAgainUptoRow.lifted==Tryz.prog.liftsFinal))=true:=by kernel_rfl
theorem FF:((Tryz.prog.make==some Rows.hearingAgainUptoRow.make))=true:=by kernel_rfl
theorem FA:((Rows.hearingAgainUptoRow.kinds==(if Rows.hearingAgainUptoRow.domain.isEmpty then []else Tryz.f3.params.toList.map λt=>match Tryz.prog.underlying t with|some (.int k)=>some k|_=>none)))=true:=by kernel_rfl
theorem Fo:((Rows.hearingAgainUptoRow.pinned==Rows.hearingAgainUptoRow.pinnedBy))=true:=by kernel_rfl
theorem Fm:((Rows.hearingAgainUptoRow.veiled==(Tryz.f3.params.toList++(Rows.OpenSpec.upto Rows.hearingAgainSpec).bare.plain.varTypes Tryz.prog++Tryz.f3.resultTypes.toList).any (Tryz.prog.veiledRec ·)))=true:=by kernel_rfl
theorem Fl:(Rows.hearingAgainUptoRow.veiledFits Tryz.prog Tryz.f3.params.toList (Tryz.f3.params.toList++(Rows.OpenSpec.upto Rows.hearingAgainSpec).bare.plain.varTypes Tryz.prog++Tryz.f3.resultTypes.toList))=true:=by kernel_rfl
theorem en{a b:Bool}(ha:a=true)(hb:b=true):(a&&b)=true:=by rw[ha,hb];rfl
set_option maxRecDepth 100000 in
theorem facts:joinedFacts Tryz.prog 3 Tryz.f3 (Rows.OpenSpec.upto Rows.hearingAgainSpec).bare Rows.hearingAgainUptoRow=true:=by
 delta joinedFacts
 exact en (en (en (en (en (en (en (en (en (en (en (en (en (en (en (en (en (en (en (en (en (en (en (en (en (en (en (en (en (en (en (Nm) Nd) M3) M2) M1) MY) MT) MM) MD) Mz) G0) GW) GT) GS) GP) GO) GM) GF) GE) GC) GB) Gk) Ge) F1) F0) FS) FG) FF) FA) Fo) Fm) Fl
theorem hearingAgain_holds:Rows.HearingAgainUptoSaid:=
 OpenClaim.holds_of_cond 3 Tryz.f3 rfl rfl rfl rfl rfl rfl rfl ⟨rfl,rfl,rfl,rfl,rfl⟩ rfl rfl rfl rfl rfl (by kernel_rfl) Tryz.func3 facts
  (of_decide_eq_true (by kernel_rfl)) (by unfold Func.isWrapper;first|(rw [aP (by decide +kernel)];kernel_rfl)|(rw [aM (by decide +kernel)];exact⟨rfl,rfl⟩))
  (λ os started H enc _ F=>lifted os started H enc F)
#print axioms hearingAgain_holds
end Go.Proofs.YtnclkjejgffdmacGreat
