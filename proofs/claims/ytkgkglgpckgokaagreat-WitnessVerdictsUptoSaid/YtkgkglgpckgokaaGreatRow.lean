import Derived.Test.YtkgkglgpckgokaaGreatTC2
import Derived.WalkKit
import Derived.ProofKit
import Derived.OpenShut
import Derived.Deep.DeepHandedRow
import Derived.Lib.LaidTab
import Derived.Deep.CondSized
import Derived.Shelf.Vars
import Derived.Test.YtkgkglgpckgokaaGreatRows
namespace Go.Proofs.YtkgkglgpckgokaaGreat
open Go Go.Proofs Go.Gb Go.RowKit Go.ChangeShapes Go.WideShapes Go.ChangeAt
section
variable {H:Type} {enc:TypeId×Value->H}
theorem k5{a:Assume}{C:Checked}{os:Os}{f:FuncId}{fn:Func}{s:OpenSpec}{k:(H:Type)->List (DataW H)->Bool}(hk:s.cond=some k){F:Stop.Interp}{conds:List PathCond}{apart fresh handsOn again:Bool}
 (own:ownKnob C.prog.godebug=none) (started:os.Started) (noInit:C.prog.inits.idxOf? f=none) (hfn:C.prog.funcs[f]? =some fn)
 (witness:∃(w:World)(tape:Tape)(i:Input),w.os=os∧(w.forCall tape i).Shaped C.prog∧i.vars=[]∧Input.okWide C.prog (w.forCall tape i) .any w.heap.size f i∧
  s.pre6 enc C.prog fn conds apart (w.forCall tape i).memory i.args∧a.holds C.prog (lone (Frame.enter C.prog f i.args .normal) [] (w.forCall tape i)))
 (contract:∀(W:World)(base:Nat)(args:Array Value)(ds gs:List (DataW H))(before:List MemPlace),
  (∀ (j:Nat) t v,fn.params[j]? =some t->args[j]? =some v->Value.okWide C.prog W .any base t v)->
  DataW.Whole enc C.prog fn.params.toList s.vars apart W args.toList ds gs before->
  k H (ds++gs)=true->
  (DataW.weightsEach C.prog (fn.params.toList++s.bare.plain.varTypes C.prog) (ds++gs)).all (· <=reachBytes)=true->
  W.ShapedOpen C.prog->
  Calls C.prog f args W λe W'=>∃v,e= .returned v∧(s.at F).post enc C.prog fn apart fresh handsOn again W args v W'):
 ReturnsInHanded a C os f .any (s.pre6 enc C.prog fn conds apart) ((s.at F).post enc C.prog fn apart fresh handsOn again):=by
 refine returnsInHanded_of_calls own started noInit witness ?_;intro w tape i _ hsh _ hok hpre _;obtain⟨_,_,_,fn',hfn',_,_,_,_,hval⟩:=hok;have e:fn'=fn:=Option.some.inj (hfn'.symm.trans hfn);subst e;obtain⟨ds,gs,before,hw,_,hkk⟩:=(OpenSpec.pre_some hk conds apart _ _).1 hpre.1;have hw':=DataW.Whole.of_heap (w':=w.forCall tape i) (by rfl) hw;refine(contract (w.forCall tape i) w.heap.size i.args ds gs before hval hw' hkk (hpre.2.weights hw) hsh).mono λe W' ⟨v,he,hp⟩=>?_;subst he;exact ChangeSpec.post_blind hp
end
theorem own:ownKnob Tryz.prog.godebug=none:=by kernel_rfl
noncomputable def shapes:List VS:=(Tryz.f4.params.toList.mapM (Jx Tryz.prog [101])).getD []
def zt(H:Type):Bk H:=⟨Rows.uptoBulk,Rows.uptoBulkAll,λl=>by simp[Rows.uptoBulk],λk n=>by simp[Rows.uptoBulk],λv=>by simp[Rows.uptoBulk],by simp[Rows.uptoBulk],λe s=>by simp[Rows.uptoBulk],λp=>by simp[Rows.uptoBulk],by simp[Rows.uptoBulkAll],λd r=>by simp[Rows.uptoBulkAll]⟩
theorem law{ss:List VS}(hs:zK (uc (X:=xx) 8) [(.st SI.ov),(.st SI.k8),(.int .i64)]=some ss)(xs:List TV)(h:KD ss xs)(hb:∀n,n=1048576->xy xs<=n):rh Tryz.prog 4 (xs.map TV.av) (.one (.d (.s (.sc (.bool true))))):=
 ali (X:=xx) (n:=8) (N:=1048576) (cs:=[(.st SI.ov),(.st SI.k8),(.int .i64)]) (λ k=>GQ k) hs (λ q hq hb=>J9 q hs hq hb) xs h (hb _ rfl)
set_option maxRecDepth 100000 in
theorem lifted(os:Os)(started:os.Started)(H:Type)(enc:TypeId×Value->H)(F:Stop.Interp):
 ReturnsInHanded {} Tryz.checked os 4 .any ((Rows.OpenSpec.upto Rows.witnessVerdictsSpec).pre6 enc Tryz.prog Tryz.f4 Rows.witnessVerdictsUptoRow.domain false) (((Rows.OpenSpec.upto Rows.witnessVerdictsSpec).at F).post enc Tryz.prog Tryz.f4 false true false false):=by
 refine k5 (C:=Tryz.checked) (s:=Rows.OpenSpec.upto Rows.witnessVerdictsSpec) (k:=Rows.uptoSmall) rfl own started (by kernel_rfl) Tryz.func4
  (OpenSpec.witness (enc:=enc) (C:=Tryz.checked) (s:=Rows.OpenSpec.upto Rows.witnessVerdictsSpec) (k:=Rows.uptoSmall) rfl false ⟨#[],#[.agg #[.slice none 0 0,.slice none 0 0,.slice none 0 0,.slice none 0 0,.slice none 0 0,.slice none 0 0,.slice none 0 0,.int .i64 0,.slice none 0 0,.slice none 0 0,.slice none 0 0,.slice none 0 0,.slice none 0 0],.agg #[.slice none 0 0,.slice none 0 0,.slice none 0 0,.slice none 0 0,.slice none 0 0,.slice none 0 0,.slice none 0 0,.int .i64 0],.int .i64 0],[]⟩ 8 (by kernel_rfl) (by kernel_rfl) (by kernel_rfl)
   (x:=([.agg [.agg [.nil,.nil,.nil,.nil,.nil,.nil,.nil,.lit (.int .i64 0)],.nil,.nil,.nil,.nil,.nil],.agg [.nil,.nil,.nil,.nil,.nil,.nil,.nil,.lit (.int .i64 0)],.lit (.int .i64 0)],[],[])) (by kernel_rfl) rfl (by kernel_rfl)) ?_
 intro W base args ds gs before hval hW hk hz hsh
 exact abo (C:=Tryz.checked) (s:=Rows.witnessVerdictsSpec) (cut:=[101]) (ss:=shapes) (by kernel_rfl) (by kernel_rfl) (by kernel_rfl) rfl (tb:=4) (by kernel_rfl) Tryz.underlying4
  (λ ds hl=>match ds,hl with |[_,_,_],_=>rfl) (law (by kernel_rfl)) hval hW hz ⟨λ g row h=>(by cases h),λg hg=>by
   have e:g=0:=(by simpa[UT]using hg);subst e;have h:=cell_of_shapedOpen_int (g:=0) (zero:=#[.int .i64 0]) (t:=3) (k:= .i64) hsh (of_decide_eq_true (by kernel_rfl)) (by kernel_rfl) rfl (by kernel_rfl) (by kernel_rfl) Tryz.underlying3;exact⟨(Pv h.choose_spec).2,h⟩⟩
  (λ n hn=>⟨zt H,by
   subst hn;have h1:(zt H).a (ds++gs)<=1048576:=of_decide_eq_true hk;rw[Bk.app]at h1;exact Nat.le_trans (Nat.le_add_right _ _) h1⟩)
theorem H5:(Rows.witnessVerdictsUptoRow.wf (OpenSpec.ofChange (Rows.OpenSpec.upto Rows.witnessVerdictsSpec).bare))=true:=by kernel_rfl
theorem H4:(laidOutB Tryz.prog)=true:=by kernel_rfl
theorem H3:(mapsRowed Tryz.prog)=true:=by kernel_rfl
theorem H2:(Tryz.f4.params.all (Tryz.prog.readableRec ·))=true:=by kernel_rfl
theorem H0:(namedTie Tryz.prog Rows.witnessVerdictsUptoRow.named (Rows.OpenSpec.upto Rows.witnessVerdictsSpec).bare.vars)=true:=by kernel_rfl
theorem HX:((Rows.witnessVerdictsUptoRow.stops==[]))=true:=by kernel_rfl
theorem HW:((Tryz.prog.stops==[]))=true:=by kernel_rfl
theorem HU:((Rows.witnessVerdictsUptoRow.knobs==[]))=true:=by kernel_rfl
theorem HT:((Tryz.prog.stopKnobs==[]))=true:=by kernel_rfl
theorem HS:((Rows.witnessVerdictsUptoRow.inPlace==Tryz.prog.inPlace 4))=true:=by kernel_rfl
theorem C5:((Rows.witnessVerdictsUptoRow.unfollowed==Tryz.prog.unfollowed 4))=true:=by kernel_rfl
theorem C4:((Rows.witnessVerdictsUptoRow.recurses==Tryz.prog.recurses 4))=true:=by kernel_rfl
theorem C3:((Rows.witnessVerdictsUptoRow.named==Tryz.prog.varsNamed 4))=true:=by kernel_rfl
theorem C2:((Rows.witnessVerdictsUptoRow.maps==(Tryz.f4.params.toList++(Rows.OpenSpec.upto Rows.witnessVerdictsSpec).bare.plain.varTypes Tryz.prog).any (Tryz.prog.mapsRec ·)))=true:=by kernel_rfl
theorem C1:((Rows.witnessVerdictsUptoRow.ifaces==(Tryz.f4.params.toList++(Rows.OpenSpec.upto Rows.witnessVerdictsSpec).bare.plain.varTypes Tryz.prog).any (Tryz.prog.ifacesRec ·)))=true:=by kernel_rfl
theorem C0:((Rows.witnessVerdictsUptoRow.mapsOut==Tryz.prog.mapsAmong Tryz.f4.resultTypes.toList))=true:=by kernel_rfl
theorem CN:((Rows.witnessVerdictsUptoRow.loops==(Tryz.f4.params.toList++(Rows.OpenSpec.upto Rows.witnessVerdictsSpec).bare.plain.varTypes Tryz.prog).any (Tryz.prog.loopsFrom ·)))=true:=by kernel_rfl
theorem CL:((Rows.witnessVerdictsUptoRow.wideKeys==(Tryz.f4.params.toList++(Rows.OpenSpec.upto Rows.witnessVerdictsSpec).bare.plain.varTypes Tryz.prog++Tryz.f4.resultTypes.toList).any (Tryz.prog.wideKeysFrom ·)))=true:=by kernel_rfl
theorem CI:((Rows.OpenSpec.upto Rows.witnessVerdictsSpec).bare.vars.all (Tryz.prog.varReadable ·))=true:=by kernel_rfl
theorem CH:(Tryz.f4.resultTypes.all (λ t=>Tryz.prog.readableRec t&&decide (t<Tryz.prog.types.size)))=true:=by kernel_rfl
theorem CE:((Rows.witnessVerdictsUptoRow.ifacesOut==Tryz.f4.resultTypes.toList.any (Tryz.prog.ifacesRec ·)))=true:=by kernel_rfl
theorem CD:((Rows.witnessVerdictsUptoRow.loopsOut==Tryz.f4.resultTypes.toList.any (Tryz.prog.loopsFrom ·)))=true:=by kernel_rfl
theorem CC:((Rows.witnessVerdictsUptoRow.plainKeys==Tryz.prog.plainKeys))=true:=by kernel_rfl
theorem CA:(Rows.witnessVerdictsUptoRow.shortTexts.isNone)=true:=by kernel_rfl
theorem Cp:(Tryz.prog.stopsHeard)=true:=by kernel_rfl
theorem Cl:(Tryz.prog.mayEnter)=true:=by kernel_rfl
theorem Cd:((Rows.witnessVerdictsUptoRow.lifted==Tryz.prog.liftsFinal))=true:=by kernel_rfl
theorem B9:((Tryz.prog.make==some Rows.witnessVerdictsUptoRow.make))=true:=by kernel_rfl
theorem B8:((Rows.witnessVerdictsUptoRow.kinds==(if Rows.witnessVerdictsUptoRow.domain.isEmpty then []else Tryz.f4.params.toList.map λt=>match Tryz.prog.underlying t with |some (.int k)=>some k |_=>none)))=true:=by kernel_rfl
theorem B7:((Rows.witnessVerdictsUptoRow.pinned==Rows.witnessVerdictsUptoRow.pinnedBy))=true:=by kernel_rfl
theorem B6:((Rows.witnessVerdictsUptoRow.veiled==(Tryz.f4.params.toList++(Rows.OpenSpec.upto Rows.witnessVerdictsSpec).bare.plain.varTypes Tryz.prog++Tryz.f4.resultTypes.toList).any (Tryz.prog.veiledRec ·)))=true:=by kernel_rfl
theorem B5:(Rows.witnessVerdictsUptoRow.veiledFits Tryz.prog Tryz.f4.params.toList (Tryz.f4.params.toList++(Rows.OpenSpec.upto Rows.witnessVerdictsSpec).bare.plain.varTypes Tryz.prog++Tryz.f4.resultTypes.toList))=true:=by kernel_rfl
theorem dp{a b:Bool}(ha:a=true)(hb:b=true):(a&&b)=true:=by rw[ha,hb];rfl
set_option maxRecDepth 100000 in
theorem facts:joinedFacts Tryz.prog 4 Tryz.f4 (Rows.OpenSpec.upto Rows.witnessVerdictsSpec).bare Rows.witnessVerdictsUptoRow=true:=by
 delta joinedFacts
 exact dp (dp (dp (dp (dp (dp (dp (dp (dp (dp (dp (dp (dp (dp (dp (dp (dp (dp (dp (dp (dp (dp (dp (dp (dp (dp (dp (dp (dp (dp (dp (H5) H4) H3) H2) H0) HX) HW) HU) HT) HS) C5) C4) C3) C2) C1) C0) CN) CL) CI) CH) CE) CD) CC) CA) Cp) Cl) Cd) B9) B8) B7) B6) B5
theorem witnessVerdicts_holds:Rows.WitnessVerdictsUptoSaid:=
 OpenClaim.holds_of_cond 4 Tryz.f4 rfl rfl rfl rfl rfl rfl rfl ⟨rfl,rfl,rfl,rfl,rfl⟩ rfl rfl rfl rfl rfl (by kernel_rfl) Tryz.func4 facts
  (of_decide_eq_true (by kernel_rfl)) (by unfold Func.isWrapper;first |(rw [aY (by decide +kernel)];kernel_rfl) |(rw [aR (by decide +kernel)];exact⟨rfl,rfl⟩))
  (λ os started H enc _ F=>lifted os started H enc F)
#print axioms witnessVerdicts_holds
end Go.Proofs.YtkgkglgpckgokaaGreat
