import Derived.Test.YtnagaonenljjiaaGreatTC2
import Derived.WalkKit
import Derived.ProofKit
import Derived.OpenShut
import Derived.Deep.DeepHandedRow
import Derived.Lib.LaidTab
import Derived.Deep.CondSized
import Derived.Shelf.Vars
import Derived.Test.YtnagaonenljjiaaGreatRows
namespace Go.Proofs.YtnagaonenljjiaaGreat
open Go Go.Proofs Go.Gb Go.RowKit Go.ChangeShapes Go.WideShapes Go.ChangeAt
section
variable {H:Type} {enc:TypeId×Value->H}
theorem kB{a:Assume}{C:Checked}{os:Os}{f:FuncId}{fn:Func}{s:OpenSpec}{k:(H:Type)->List (DataW H)->Bool}(hk:s.cond=some k){F:Stop.Interp}{conds:List PathCond}{apart fresh handsOn again:Bool}
 (own:ownKnob C.prog.godebug=none) (started:os.Started) (noInit:C.prog.inits.idxOf? f=none) (hfn:C.prog.funcs[f]? =some fn)
 (witness:∃(w:World)(tape:Tape)(i:Input),w.os=os∧(w.forCall tape i).Shaped C.prog∧i.vars=[]∧Input.okWide C.prog (w.forCall tape i) .any w.heap.size f i∧
  s.pre6 enc C.prog fn conds apart (w.forCall tape i).memory i.args∧a.holds C.prog (lone (Frame.enter C.prog f i.args .normal) [] (w.forCall tape i)))
 (contract:∀(W:World)(base:Nat)(args:Array Value)(ds gs:List (DataW H))(before:List MemPlace),
  (∀ (j:Nat) t v,fn.params[j]? =some t->args[j]? =some v->Value.okWide C.prog W .any base t v)->
  DataW.Whole enc C.prog fn.params.toList s.vars apart W args.toList ds gs before->
  k H (ds++gs)=true->
  (DataW.weightsEach C.prog (fn.params.toList++s.bare.plain.varTypes C.prog) (ds++gs)).all (· <=reachBytes)=true->
  W.ShapedOpen C.prog->
  Calls C.prog f args W λe W'=>∃v,e= .returned v∧(s.at F).post enc C.prog fn apart fresh handsOn again W args v W'):
 ReturnsInHanded a C os f .any (s.pre6 enc C.prog fn conds apart) ((s.at F).post enc C.prog fn apart fresh handsOn again):=by
 refine returnsInHanded_of_calls own started noInit witness ?_;intro w tape i _ hsh _ hok hpre _;obtain⟨_,_,_,fn',hfn',_,_,_,_,hval⟩:=hok;have e:fn'=fn:=Option.some.inj (hfn'.symm.trans hfn);subst e;obtain⟨ds,gs,before,hw,_,hkk⟩:=(OpenSpec.pre_some hk conds apart _ _).1 hpre.1;have hw':=DataW.Whole.of_heap (w':=w.forCall tape i) (by rfl) hw;refine(contract (w.forCall tape i) w.heap.size i.args ds gs before hval hw' hkk (hpre.2.weights hw) hsh).mono λe W' ⟨v,he,hp⟩=>?_;subst he;exact ChangeSpec.post_blind hp
end
theorem own:ownKnob Tryz.prog.godebug=none:=by kernel_rfl
noncomputable def shapes:List VS:=(Tryz.f6.params.toList.mapM (HO Tryz.prog [47])).getD []
def xe(H:Type):Bk H:=⟨Rows.uptoBulk,Rows.uptoBulkAll,λl=>by simp[Rows.uptoBulk],λk n=>by simp[Rows.uptoBulk],λv=>by simp[Rows.uptoBulk],by simp[Rows.uptoBulk],λe s=>by simp[Rows.uptoBulk],λp=>by simp[Rows.uptoBulk],by simp[Rows.uptoBulkAll],λd r=>by simp[Rows.uptoBulkAll]⟩
theorem law{ss:List VS}(hs:IA (Fc (X:=xx) 8) [(.st SI.ju),(.st SI.gd),(.int .i64),(.int .i64)]=some ss)(xs:List TV)(h:Wl ss xs)(hb:∀n,n=1048576->Wm xs<=n):sy Tryz.prog 6 (xs.map TV.av) (.one (.d (.s (.sc (.bool true))))):=
 akn (X:=xx) (n:=8) (N:=1048576) (cs:=[(.st SI.ju),(.st SI.gd),(.int .i64),(.int .i64)]) (λ k=>Sl k) hs (λ q hq hb=>Yi q hb) xs h (hb _ rfl)
set_option maxRecDepth 100000 in
theorem lifted(os:Os)(started:os.Started)(H:Type)(enc:TypeId×Value->H)(F:Stop.Interp):
 ReturnsInHanded {} Tryz.checked os 6 .any ((Rows.OpenSpec.upto Rows.lawfulDaysSpec).pre6 enc Tryz.prog Tryz.f6 Rows.lawfulDaysUptoRow.domain false) (((Rows.OpenSpec.upto Rows.lawfulDaysSpec).at F).post enc Tryz.prog Tryz.f6 false true false false):=by
 refine kB (C:=Tryz.checked) (s:=Rows.OpenSpec.upto Rows.lawfulDaysSpec) (k:=Rows.uptoSmall) rfl own started (by kernel_rfl) Tryz.func6
  (OpenSpec.witness (enc:=enc) (C:=Tryz.checked) (s:=Rows.OpenSpec.upto Rows.lawfulDaysSpec) (k:=Rows.uptoSmall) rfl false ⟨#[],#[.agg #[.slice none 0 0,.slice none 0 0,.slice none 0 0,.slice none 0 0,.slice none 0 0,.slice none 0 0,.slice none 0 0,.int .i64 0,.slice none 0 0,.slice none 0 0,.slice none 0 0,.slice none 0 0,.slice none 0 0],.agg #[.int .i64 0,.slice none 0 0],.int .i64 0,.int .i64 0],[]⟩ 8 (by kernel_rfl) (by kernel_rfl) (by kernel_rfl)
   (x:=([.agg [.agg [.nil,.nil,.nil,.nil,.nil,.nil,.nil,.lit (.int .i64 0)],.nil,.nil,.nil,.nil,.nil],.agg [.lit (.int .i64 0),.nil],.lit (.int .i64 0),.lit (.int .i64 0)],[],[])) (by kernel_rfl) rfl (by kernel_rfl)) ?_
 intro W base args ds gs before hval hW hk hz hsh
 exact abD (C:=Tryz.checked) (s:=Rows.lawfulDaysSpec) (cut:=[47]) (ss:=shapes) (by kernel_rfl) (by kernel_rfl) (by kernel_rfl) rfl (tb:=4) (by kernel_rfl) Tryz.underlying4
  (λ ds hl=>match ds,hl with |[_,_,_,_],_=>rfl) (law (by kernel_rfl)) hval hW hz ⟨λ g row h=>(by cases h),λg hg=>by
   have e:g=0:=(by simpa[S8]using hg);subst e;have h:=cell_of_shapedOpen_int (g:=0) (zero:=#[.int .i64 0]) (t:=3) (k:= .i64) hsh (of_decide_eq_true (by kernel_rfl)) (by kernel_rfl) rfl (by kernel_rfl) (by kernel_rfl) Tryz.underlying3;exact⟨(QM h.choose_spec).2,h⟩⟩
  (λ n hn=>⟨xe H,by
   subst hn;have h1:(xe H).a (ds++gs)<=1048576:=of_decide_eq_true hk;rw[Bk.app]at h1;exact Nat.le_trans (Nat.le_add_right _ _) h1⟩)
theorem Hm:(Rows.lawfulDaysUptoRow.wf (OpenSpec.ofChange (Rows.OpenSpec.upto Rows.lawfulDaysSpec).bare))=true:=by kernel_rfl
theorem Hk:(laidOutB Tryz.prog)=true:=by kernel_rfl
theorem Hj:(mapsRowed Tryz.prog)=true:=by kernel_rfl
theorem Hi:(Tryz.f6.params.all (Tryz.prog.readableRec ·))=true:=by kernel_rfl
theorem Hh:(namedTie Tryz.prog Rows.lawfulDaysUptoRow.named (Rows.OpenSpec.upto Rows.lawfulDaysSpec).bare.vars)=true:=by kernel_rfl
theorem Hd:((Rows.lawfulDaysUptoRow.stops==[]))=true:=by kernel_rfl
theorem Hc:((Tryz.prog.stops==[]))=true:=by kernel_rfl
theorem Hb:((Rows.lawfulDaysUptoRow.knobs==[]))=true:=by kernel_rfl
theorem Ha:((Tryz.prog.stopKnobs==[]))=true:=by kernel_rfl
theorem G4:((Rows.lawfulDaysUptoRow.inPlace==Tryz.prog.inPlace 6))=true:=by kernel_rfl
theorem A3:((Rows.lawfulDaysUptoRow.unfollowed==Tryz.prog.unfollowed 6))=true:=by kernel_rfl
theorem A2:((Rows.lawfulDaysUptoRow.recurses==Tryz.prog.recurses 6))=true:=by kernel_rfl
theorem A1:((Rows.lawfulDaysUptoRow.named==Tryz.prog.varsNamed 6))=true:=by kernel_rfl
theorem A0:((Rows.lawfulDaysUptoRow.maps==(Tryz.f6.params.toList++(Rows.OpenSpec.upto Rows.lawfulDaysSpec).bare.plain.varTypes Tryz.prog).any (Tryz.prog.mapsRec ·)))=true:=by kernel_rfl
theorem AW:((Rows.lawfulDaysUptoRow.ifaces==(Tryz.f6.params.toList++(Rows.OpenSpec.upto Rows.lawfulDaysSpec).bare.plain.varTypes Tryz.prog).any (Tryz.prog.ifacesRec ·)))=true:=by kernel_rfl
theorem AS:((Rows.lawfulDaysUptoRow.mapsOut==Tryz.prog.mapsAmong Tryz.f6.resultTypes.toList))=true:=by kernel_rfl
theorem AN:((Rows.lawfulDaysUptoRow.loops==(Tryz.f6.params.toList++(Rows.OpenSpec.upto Rows.lawfulDaysSpec).bare.plain.varTypes Tryz.prog).any (Tryz.prog.loopsFrom ·)))=true:=by kernel_rfl
theorem AM:((Rows.lawfulDaysUptoRow.wideKeys==(Tryz.f6.params.toList++(Rows.OpenSpec.upto Rows.lawfulDaysSpec).bare.plain.varTypes Tryz.prog++Tryz.f6.resultTypes.toList).any (Tryz.prog.wideKeysFrom ·)))=true:=by kernel_rfl
theorem AK:((Rows.OpenSpec.upto Rows.lawfulDaysSpec).bare.vars.all (Tryz.prog.varReadable ·))=true:=by kernel_rfl
theorem AI:(Tryz.f6.resultTypes.all (λ t=>Tryz.prog.readableRec t&&decide (t<Tryz.prog.types.size)))=true:=by kernel_rfl
theorem AH:((Rows.lawfulDaysUptoRow.ifacesOut==Tryz.f6.resultTypes.toList.any (Tryz.prog.ifacesRec ·)))=true:=by kernel_rfl
theorem AG:((Rows.lawfulDaysUptoRow.loopsOut==Tryz.f6.resultTypes.toList.any (Tryz.prog.loopsFrom ·)))=true:=by kernel_rfl
theorem AF:((Rows.lawfulDaysUptoRow.plainKeys==Tryz.prog.plainKeys))=true:=by kernel_rfl
theorem AE:(Rows.lawfulDaysUptoRow.shortTexts.isNone)=true:=by kernel_rfl
theorem AD:(Tryz.prog.stopsHeard)=true:=by kernel_rfl
theorem AC:(Tryz.prog.mayEnter)=true:=by kernel_rfl
theorem Ax:((Rows.lawfulDaysUptoRow.lifted==Tryz.prog.liftsFinal))=true:=by kernel_rfl
theorem At:((Tryz.prog.make==some Rows.lawfulDaysUptoRow.make))=true:=by kernel_rfl
theorem As:((Rows.lawfulDaysUptoRow.kinds==(if Rows.lawfulDaysUptoRow.domain.isEmpty then []else Tryz.f6.params.toList.map λt=>match Tryz.prog.underlying t with |some (.int k)=>some k |_=>none)))=true:=by kernel_rfl
theorem An:((Rows.lawfulDaysUptoRow.pinned==Rows.lawfulDaysUptoRow.pinnedBy))=true:=by kernel_rfl
theorem z7:((Rows.lawfulDaysUptoRow.veiled==(Tryz.f6.params.toList++(Rows.OpenSpec.upto Rows.lawfulDaysSpec).bare.plain.varTypes Tryz.prog++Tryz.f6.resultTypes.toList).any (Tryz.prog.veiledRec ·)))=true:=by kernel_rfl
theorem z6:(Rows.lawfulDaysUptoRow.veiledFits Tryz.prog Tryz.f6.params.toList (Tryz.f6.params.toList++(Rows.OpenSpec.upto Rows.lawfulDaysSpec).bare.plain.varTypes Tryz.prog++Tryz.f6.resultTypes.toList))=true:=by kernel_rfl
theorem dg{a b:Bool}(ha:a=true)(hb:b=true):(a&&b)=true:=by rw[ha,hb];rfl
set_option maxRecDepth 100000 in
theorem facts:joinedFacts Tryz.prog 6 Tryz.f6 (Rows.OpenSpec.upto Rows.lawfulDaysSpec).bare Rows.lawfulDaysUptoRow=true:=by
 delta joinedFacts
 exact dg (dg (dg (dg (dg (dg (dg (dg (dg (dg (dg (dg (dg (dg (dg (dg (dg (dg (dg (dg (dg (dg (dg (dg (dg (dg (dg (dg (dg (dg (dg (Hm) Hk) Hj) Hi) Hh) Hd) Hc) Hb) Ha) G4) A3) A2) A1) A0) AW) AS) AN) AM) AK) AI) AH) AG) AF) AE) AD) AC) Ax) At) As) An) z7) z6
theorem lawfulDays_holds:Rows.LawfulDaysUptoSaid:=
 OpenClaim.holds_of_cond 6 Tryz.f6 rfl rfl rfl rfl rfl rfl rfl ⟨rfl,rfl,rfl,rfl,rfl⟩ rfl rfl rfl rfl rfl (by kernel_rfl) Tryz.func6 facts
  (of_decide_eq_true (by kernel_rfl)) (by unfold Func.isWrapper;first |(rw [aN (by decide +kernel)];kernel_rfl) |(rw [aM (by decide +kernel)];exact⟨rfl,rfl⟩))
  (λ os started H enc _ F=>lifted os started H enc F)
#print axioms lawfulDays_holds
end Go.Proofs.YtnagaonenljjiaaGreat
