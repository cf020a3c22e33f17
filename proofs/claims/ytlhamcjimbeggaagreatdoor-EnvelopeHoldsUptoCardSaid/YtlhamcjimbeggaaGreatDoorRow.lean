import Derived.Test.YtlhamcjimbeggaaGreatDoorTC3
import Derived.Shelf.Vars
import Derived.Test.YtlhamcjimbeggaaGreatDoorCards
import Derived.Test.YtlhamcjimbeggaaGreatDoorTie
import Derived.WalkKit
import Derived.ProofKit
import Derived.OpenShut
import Derived.Deep.DeepHandedRow
import Derived.Lib.LaidTab
namespace Go.Proofs.YtlhamcjimbeggaaGreatDoor
open Go Go.Proofs Go.Gb Go.RowKit Go.ChangeShapes Go.WideShapes Go.ChangeAt
theorem own:ownKnob Tryz.prog.godebug=none:=by kernel_rfl
noncomputable def shapes:List VS:=(Tryz.f3.params.toList.mapM (MD Tryz.prog [78])).getD []
def A3(H:Type):Bk H:=⟨Rows.uptoBulk,Rows.uptoBulkAll,λl=>by simp[Rows.uptoBulk],λk n=>by simp[Rows.uptoBulk],λv=>by simp[Rows.uptoBulk],by simp[Rows.uptoBulk],λe s=>by simp[Rows.uptoBulk],λp=>by simp[Rows.uptoBulk],by simp[Rows.uptoBulkAll],λd r=>by simp[Rows.uptoBulkAll]⟩
theorem law{ss:List VS}(hs:HV (HU (X:=xx) 8) [(.st SI.kA),(.int .i64),(.int .i64),(.int .i64),(.st SI.kw)]=some ss)(xs:List TV)(h:X6 ss xs)(hb:∀n,n=1048576->yf xs<=n):tE Tryz.prog 3 (xs.map TV.av) (.one (.d (.s (.sc (.bool true))))):=
 anM (X:=xx) (n:=8) (N:=1048576) (cs:=[(.st SI.kA),(.int .i64),(.int .i64),(.int .i64),(.st SI.kw)]) (λ k=>MB k) hs (λ q _ hb=>QS q hb) xs h (hb _ rfl)
theorem vok{W:World}(hsh:W.ShapedOpen Tryz.prog)(h:laidMetH Tryz.prog Rows.envelopeHoldsUptoRow.laid W):kf W (Here W):=
 adU (P := Tryz.prog) (name := "greenbelt/plane.grid") (g := 0) (t := 39) (k := .i64) (zs := [0, 0, 1048576, 1048576]) (by kernel_rfl) (by kernel_rfl) Tryz.underlying39 (by kernel_rfl) (by kernel_rfl) (by decide)
  (λ g' row h=>by
   unfold vj at h;split at h
   .injection h with h;exact⟨rfl,h.symm⟩
   .cases h) (λ g hg=>by have e:g=1:=(by simpa[PJ]using hg);subst e;have h:=cell_of_shapedOpen_int (g:=1) (zero:=#[.int .i64 0]) (t:=3) (k:=.i64) hsh (of_decide_eq_true (by kernel_rfl)) (by kernel_rfl) rfl (by kernel_rfl) (by kernel_rfl) Tryz.underlying3;exact⟨(La h.choose_spec).2,h⟩) h
noncomputable def m6(os:Os):World:=
 { World.holding Tryz.prog os ⟨#[],#[],[]⟩with heap:=(World.holding Tryz.prog os ⟨#[],#[],[]⟩).heap.modify 0 λ
  |.cells _ t frozen=>.cells #[.int .i64 0,.int .i64 0,.int .i64 1048576,.int .i64 1048576] t frozen
  |o=>o }
theorem ws(os:Os):laidMet Tryz.prog Rows.envelopeHoldsUptoRow.laid ((m6 os).forCall (λ _ _=>0) ⟨#[],#[.agg #[.slice none 0 0,.slice none 0 0,.slice none 0 0,.slice none 0 0,.slice none 0 0,.slice none 0 0,.slice none 0 0,.int .i64 0,.slice none 0 0,.slice none 0 0,.slice none 0 0,.slice none 0 0,.slice none 0 0],.int .i64 0,.int .i64 0,.int .i64 0,.agg #[.int .i64 0,.int .i64 0,.int .i64 0,.int .i64 0]],[]⟩).memory:=
 laidMet_of_run' 8 (by kernel_rfl) (by kernel_rfl)
theorem reads(os:Os){H:Type}(enc:TypeId×Value->H):∃places,DataW.whole enc Tryz.prog ((m6 os).forCall (λ _ _=>0) ⟨#[],#[.agg #[.slice none 0 0,.slice none 0 0,.slice none 0 0,.slice none 0 0,.slice none 0 0,.slice none 0 0,.slice none 0 0,.int .i64 0,.slice none 0 0,.slice none 0 0,.slice none 0 0,.slice none 0 0,.slice none 0 0],.int .i64 0,.int .i64 0,.int .i64 0,.agg #[.int .i64 0,.int .i64 0,.int .i64 0,.int .i64 0]],[]⟩).memory Tryz.f3.params.toList Rows.envelopeHoldsSpec.vars false (#[.agg #[.slice none 0 0,.slice none 0 0,.slice none 0 0,.slice none 0 0,.slice none 0 0,.slice none 0 0,.slice none 0 0,.int .i64 0,.slice none 0 0,.slice none 0 0,.slice none 0 0,.slice none 0 0,.slice none 0 0],.int .i64 0,.int .i64 0,.int .i64 0,.agg #[.int .i64 0,.int .i64 0,.int .i64 0,.int .i64 0]]:Array Value).toList 8=some ([.agg [.agg [.nil,.nil,.nil,.nil,.nil,.nil,.nil,.lit (.int .i64 0)],.nil,.nil,.nil,.nil,.nil],.lit (.int .i64 0),.lit (.int .i64 0),.lit (.int .i64 0),.agg [.lit (.int .i64 0),.lit (.int .i64 0),.lit (.int .i64 0),.lit (.int .i64 0)]],[],places):=
 ⟨[],by kernel_rfl⟩
set_option maxRecDepth 100000 in
theorem lifted(os:Os)(started:os.Started)(H:Type)(enc:TypeId×Value->H)(F:Stop.Interp):
 ReturnsInHanded {} Tryz.checked os 3 .any ((Rows.OpenSpec.upto Rows.envelopeHoldsSpec).preRow enc Tryz.prog Tryz.f3 Rows.envelopeHoldsUptoRow.domain false Rows.envelopeHoldsUptoRow.laid) (((Rows.OpenSpec.upto Rows.envelopeHoldsSpec).at F).post enc Tryz.prog Tryz.f3 false true false false):=by
 obtain⟨places,hx⟩:=reads os enc
 refine returnsInHanded_of_row (C:=Tryz.checked) (s:=Rows.OpenSpec.upto Rows.envelopeHoldsSpec) own started (by kernel_rfl) Tryz.func3
  (witness_row_at (enc:=enc) (C:=Tryz.checked) false (m6 os) #[.agg #[.slice none 0 0,.slice none 0 0,.slice none 0 0,.slice none 0 0,.slice none 0 0,.slice none 0 0,.slice none 0 0,.int .i64 0,.slice none 0 0,.slice none 0 0,.slice none 0 0,.slice none 0 0,.slice none 0 0],.int .i64 0,.int .i64 0,.int .i64 0,.agg #[.int .i64 0,.int .i64 0,.int .i64 0,.int .i64 0]] rfl (by kernel_rfl) (by kernel_rfl) (by kernel_rfl)
   (OpenSpec.preRow_of_cond 8 hx (by kernel_rfl) (λ k hk=>by cases hk;kernel_rfl) (by kernel_rfl) (ws os))) ?_
 intro W base args ds gs before hval hW _ hk hz hL hsh _
 exact adV (C:=Tryz.checked) (s:=Rows.envelopeHoldsSpec) (cut:=[78]) (ss:=shapes) (by kernel_rfl) (by kernel_rfl) (by kernel_rfl) rfl (tb:=4) (by kernel_rfl) Tryz.underlying4
  (λ ds hl=>match ds,hl with|[_,_,_,_,_],_=>rfl) (law (by kernel_rfl)) hval hW hz (vok hsh hL)
  (λ n hn=>⟨A3 H,by subst hn;have h1:(A3 H).a (ds++gs)<=1048576:=of_decide_eq_true (hk _ rfl);rw[Bk.app]at h1;exact Nat.le_trans (Nat.le_add_right _ _) h1⟩)
theorem LL:(Rows.envelopeHoldsUptoRow.wf (OpenSpec.ofChange (Rows.OpenSpec.upto Rows.envelopeHoldsSpec).bare))=true:=by kernel_rfl
theorem LI:(laidOutB Tryz.prog)=true:=by kernel_rfl
theorem Lz:(mapsRowed Tryz.prog)=true:=by kernel_rfl
theorem Ly:(Tryz.f3.params.all (Tryz.prog.readableRec ·))=true:=by kernel_rfl
theorem Lw:(namedTie Tryz.prog Rows.envelopeHoldsUptoRow.named (Rows.OpenSpec.upto Rows.envelopeHoldsSpec).bare.vars)=true:=by kernel_rfl
theorem Lt:((Rows.envelopeHoldsUptoRow.stops==[]))=true:=by kernel_rfl
theorem Lq:((Tryz.prog.stops==[]))=true:=by kernel_rfl
theorem Lo:((Rows.envelopeHoldsUptoRow.knobs==[]))=true:=by kernel_rfl
theorem Ln:((Tryz.prog.stopKnobs==[]))=true:=by kernel_rfl
theorem Lk:((Rows.envelopeHoldsUptoRow.inPlace==Tryz.prog.inPlace 3))=true:=by kernel_rfl
theorem E7:((Rows.envelopeHoldsUptoRow.unfollowed==Tryz.prog.unfollowed 3))=true:=by kernel_rfl
theorem E6:((Rows.envelopeHoldsUptoRow.recurses==Tryz.prog.recurses 3))=true:=by kernel_rfl
theorem E4:((Rows.envelopeHoldsUptoRow.named==Tryz.prog.varsNamed 3))=true:=by kernel_rfl
theorem E3:((Rows.envelopeHoldsUptoRow.maps==(Tryz.f3.params.toList++(Rows.OpenSpec.upto Rows.envelopeHoldsSpec).bare.plain.varTypes Tryz.prog).any (Tryz.prog.mapsRec ·)))=true:=by kernel_rfl
theorem E2:((Rows.envelopeHoldsUptoRow.ifaces==(Tryz.f3.params.toList++(Rows.OpenSpec.upto Rows.envelopeHoldsSpec).bare.plain.varTypes Tryz.prog).any (Tryz.prog.ifacesRec ·)))=true:=by kernel_rfl
theorem E1:((Rows.envelopeHoldsUptoRow.mapsOut==Tryz.prog.mapsAmong Tryz.f3.resultTypes.toList))=true:=by kernel_rfl
theorem E0:((Rows.envelopeHoldsUptoRow.loops==(Tryz.f3.params.toList++(Rows.OpenSpec.upto Rows.envelopeHoldsSpec).bare.plain.varTypes Tryz.prog).any (Tryz.prog.loopsFrom ·)))=true:=by kernel_rfl
theorem EV:((Rows.envelopeHoldsUptoRow.wideKeys==(Tryz.f3.params.toList++(Rows.OpenSpec.upto Rows.envelopeHoldsSpec).bare.plain.varTypes Tryz.prog++Tryz.f3.resultTypes.toList).any (Tryz.prog.wideKeysFrom ·)))=true:=by kernel_rfl
theorem EE:((Rows.OpenSpec.upto Rows.envelopeHoldsSpec).bare.vars.all (Tryz.prog.varReadable ·))=true:=by kernel_rfl
theorem Ek:(Tryz.f3.resultTypes.all (λ t=>Tryz.prog.readableRec t&&decide (t<Tryz.prog.types.size)))=true:=by kernel_rfl
theorem D4:((Rows.envelopeHoldsUptoRow.ifacesOut==Tryz.f3.resultTypes.toList.any (Tryz.prog.ifacesRec ·)))=true:=by kernel_rfl
theorem D3:((Rows.envelopeHoldsUptoRow.loopsOut==Tryz.f3.resultTypes.toList.any (Tryz.prog.loopsFrom ·)))=true:=by kernel_rfl
theorem D2:((Rows.envelopeHoldsUptoRow.plainKeys==Tryz.prog.plainKeys))=true:=by kernel_rfl
theorem D1:(Rows.envelopeHoldsUptoRow.shortTexts.isNone)=true:=by kernel_rfl
theorem DS:(Tryz.prog.stopsHeard)=true:=by kernel_rfl
theorem DQ:(Tryz.prog.mayEnter)=true:=by kernel_rfl
theorem DP:((Rows.envelopeHoldsUptoRow.lifted==Tryz.prog.liftsFinal))=true:=by kernel_rfl
theorem DO:((Tryz.prog.make==some Rows.envelopeHoldsUptoRow.make))=true:=by kernel_rfl
theorem DM:((Rows.envelopeHoldsUptoRow.kinds==(if Rows.envelopeHoldsUptoRow.domain.isEmpty then []else Tryz.f3.params.toList.map λt=>match Tryz.prog.underlying t with|some (.int k)=>some k|_=>none)))=true:=by kernel_rfl
theorem DH:((Rows.envelopeHoldsUptoRow.pinned==Rows.envelopeHoldsUptoRow.pinnedBy))=true:=by kernel_rfl
theorem DG:((Rows.envelopeHoldsUptoRow.veiled==(Tryz.f3.params.toList++(Rows.OpenSpec.upto Rows.envelopeHoldsSpec).bare.plain.varTypes Tryz.prog++Tryz.f3.resultTypes.toList).any (Tryz.prog.veiledRec ·)))=true:=by kernel_rfl
theorem DE:(Rows.envelopeHoldsUptoRow.veiledFits Tryz.prog Tryz.f3.params.toList (Tryz.f3.params.toList++(Rows.OpenSpec.upto Rows.envelopeHoldsSpec).bare.plain.varTypes Tryz.prog++Tryz.f3.resultTypes.toList))=true:=by kernel_rfl
theorem ed{a b:Bool}(ha:a=true)(hb:b=true):(a&&b)=true:=by rw[ha,hb];rfl
set_option maxRecDepth 100000 in
theorem facts:joinedFacts Tryz.prog 3 Tryz.f3 (Rows.OpenSpec.upto Rows.envelopeHoldsSpec).bare Rows.envelopeHoldsUptoRow=true:=by
 delta joinedFacts
 exact ed (ed (ed (ed (ed (ed (ed (ed (ed (ed (ed (ed (ed (ed (ed (ed (ed (ed (ed (ed (ed (ed (ed (ed (ed (ed (ed (ed (ed (ed (ed (LL) LI) Lz) Ly) Lw) Lt) Lq) Lo) Ln) Lk) E7) E6) E4) E3) E2) E1) E0) EV) EE) Ek) D4) D3) D2) D1) DS) DQ) DP) DO) DM) DH) DG) DE
theorem said:Rows.EnvelopeHoldsUptoSaid:=
 OpenClaim.holds_of_cond 3 Tryz.f3 rfl rfl rfl rfl rfl rfl rfl ⟨rfl,rfl,rfl,rfl,rfl⟩ rfl rfl rfl rfl rfl (by kernel_rfl) Tryz.func3 facts
  (of_decide_eq_true (by kernel_rfl)) (by unfold Func.isWrapper;first|(rw [aM (by decide +kernel)];kernel_rfl)|(rw [aC (by decide +kernel)];exact⟨rfl,rfl⟩))
  (λ os started H enc _ F=>by rw[OpenClaim.pre_eq_preRow];exact lifted os started H enc F)
theorem plain(f : FuncId)(fn : Func)(hf : Tryz.pinned.checked.prog.funcNamed "greenbelt/greenbeltlaw24.EnvelopeHolds" = some f)(hfn : Tryz.pinned.checked.prog.funcs[f]? = some fn):
 false=Tryz.pinned.checked.prog.looks []∧∀(j:Nat) t,fn.params[j]? =some t->Tryz.pinned.checked.prog.wantsStandIn t=false:=by obtain rfl : f = 3 := Option.some.inj ((show Tryz.prog.funcNamed "greenbelt/greenbeltlaw24.EnvelopeHolds" = some 3 by kernel_rfl).symm.trans hf) |>.symm;obtain rfl:fn=Tryz.f3:=(Option.some.inj (Tryz.func3.symm.trans hfn)).symm;refine⟨by kernel_rfl,λj t ht=>?_⟩;have h:=List.all_eq_true.1 (show (Tryz.f3.params.toList.all λt=>!Tryz.prog.wantsStandIn t)=true by kernel_rfl) t (by simpa using Array.mem_of_getElem? ht);have h2:(!Tryz.prog.wantsStandIn t)=true:=h;rw[Bool.not_eq_true']at h2;exact h2
theorem envelopeHolds_holds:Rows.EnvelopeHoldsUptoCardSaid:=
 Claim7.holds_tied_plain_at .later [] _ _ _ _ said (λ _ h=>by cases h) (by kernel_rfl) (λ _ h=>by cases h) envelopeHoldsUpto_row_tie rfl ⟨rfl,rfl⟩ (by kernel_rfl) rfl plain (by kernel_rfl)
#print axioms envelopeHolds_holds
end Go.Proofs.YtlhamcjimbeggaaGreatDoor
