/-
  For every input NoticeTable returns true, and each argument reads afterwards as it read before, where all that it reads is of bulk at most 1048576.
-/
import Derived.Test.YtbploijhogfmnaaGreatTC1
import Derived.WalkKit
import Derived.ProofKit
import Derived.OpenShut
import Derived.Deep.DeepHandedRow
import Derived.Lib.LaidTab
import Derived.Deep.CondSized
import Derived.Test.YtbploijhogfmnaaGreatRows
namespace Go.Proofs.YtbploijhogfmnaaGreat
open Go Go.Proofs Go.Gb Go.RowKit Go.ChangeShapes Go.WideShapes Go.ChangeAt
theorem own:ownKnob Tryz.prog.godebug=none:=by kernel_rfl
noncomputable def shapes:List VS:=(Tryz.f3.params.toList.mapM (ZM Tryz.prog [54])).getD []
def bulkK (H:Type):Bk H:=⟨Rows.uptoBulk,Rows.uptoBulkAll,fun l=>by simp[Rows.uptoBulk],fun k n=>by simp[Rows.uptoBulk],fun v=>by simp[Rows.uptoBulk],by simp[Rows.uptoBulk],fun e s=>by simp[Rows.uptoBulk],fun p=>by simp[Rows.uptoBulk],by simp[Rows.uptoBulkAll],fun d r=>by simp[Rows.uptoBulkAll]⟩
theorem law {ss:List VS} (hs:zJ (vsF (X:=xx) 8) [(.st SI.Town),(.st SI.Drawing)]=some ss) (xs:List TV) (h:KW ss xs) (hb:∀ n,n=1048576->KX xs<=n):FnP Tryz.prog 3 (xs.map TV.av) (.one (.d (.s (.sc (.bool true))))):=
 aat (X:=xx) (n:=8) (N:=1048576) (cs:=[(.st SI.Town),(.st SI.Drawing)]) (fun k=>Gj k) hs (fun q hq hb=>JB q hb) xs h (hb _ rfl)
set_option maxRecDepth 100000 in
theorem lifted (os:Os) (started:os.Started) (H:Type) (enc:TypeId×Value->H) (F:Stop.Interp):
 ReturnsInHanded {} Tryz.checked os 3 .any ((Rows.OpenSpec.upto Rows.noticeTableSpec).pre6 enc Tryz.prog Tryz.f3 Rows.noticeTableUptoRow.domain false) (((Rows.OpenSpec.upto Rows.noticeTableSpec).at F).post enc Tryz.prog Tryz.f3 false true false false):=by
 refine returnsInHanded_of_cond_sized (C:=Tryz.checked) (s:=Rows.OpenSpec.upto Rows.noticeTableSpec) (k:=Rows.uptoSmall) rfl own started (by kernel_rfl) Tryz.func3
  (OpenSpec.witness (enc:=enc) (C:=Tryz.checked) (s:=Rows.OpenSpec.upto Rows.noticeTableSpec) (k:=Rows.uptoSmall) rfl false ⟨#[],#[.agg #[.slice none 0 0,.slice none 0 0,.slice none 0 0,.slice none 0 0,.slice none 0 0,.slice none 0 0,.slice none 0 0,.int .i64 0,.slice none 0 0,.slice none 0 0,.slice none 0 0,.slice none 0 0,.slice none 0 0],.agg #[.int .i64 0,.slice none 0 0]],[]⟩ 8 (by kernel_rfl) (by kernel_rfl) (by kernel_rfl)
   (x:=([.agg [.agg [.nil,.nil,.nil,.nil,.nil,.nil,.nil,.lit (.int .i64 0)],.nil,.nil,.nil,.nil,.nil],.agg [.lit (.int .i64 0),.nil]],[],[])) (by kernel_rfl) rfl (by kernel_rfl)) ?_
 intro W base args ds gs before hval hW _ hk hz _
 exact QC (C:=Tryz.checked) (s:=Rows.noticeTableSpec) (cut:=[54]) (ss:=shapes) (by kernel_rfl) (by kernel_rfl) (by kernel_rfl) rfl (tb:=4) (by kernel_rfl) Tryz.underlying4
  (fun ds hl=>match ds,hl with |[_,_],_=>rfl) (law (by kernel_rfl)) hval hW hz (fun g row h=>by cases h)
  (fun n hn=>⟨bulkK H,by
   subst hn;have h1:(bulkK H).a (ds++gs)<=1048576:=of_decide_eq_true hk;rw[Bk.app]at h1;exact Nat.le_trans (Nat.le_add_right _ _) h1⟩)
theorem fact0:(Rows.noticeTableUptoRow.wf (OpenSpec.ofChange (Rows.OpenSpec.upto Rows.noticeTableSpec).bare))=true:=by kernel_rfl
theorem fact1:(laidOutB Tryz.prog)=true:=by kernel_rfl
theorem fact2:(mapsRowed Tryz.prog)=true:=by kernel_rfl
theorem fact3:(Tryz.f3.params.all (Tryz.prog.readableRec ·))=true:=by kernel_rfl
theorem fact4:(namedTie Tryz.prog Rows.noticeTableUptoRow.named (Rows.OpenSpec.upto Rows.noticeTableSpec).bare.vars)=true:=by kernel_rfl
theorem fact5:((Rows.noticeTableUptoRow.stops==[]))=true:=by kernel_rfl
theorem fact6:((Tryz.prog.stops==[]))=true:=by kernel_rfl
theorem fact7:((Rows.noticeTableUptoRow.knobs==[]))=true:=by kernel_rfl
theorem fact8:((Tryz.prog.stopKnobs==[]))=true:=by kernel_rfl
theorem fact9:((Rows.noticeTableUptoRow.inPlace==Tryz.prog.inPlace 3))=true:=by kernel_rfl
theorem fact10:((Rows.noticeTableUptoRow.unfollowed==Tryz.prog.unfollowed 3))=true:=by kernel_rfl
theorem fact11:((Rows.noticeTableUptoRow.recurses==Tryz.prog.recurses 3))=true:=by kernel_rfl
theorem fact12:((Rows.noticeTableUptoRow.named==Tryz.prog.varsNamed 3))=true:=by kernel_rfl
theorem fact13:((Rows.noticeTableUptoRow.maps==(Tryz.f3.params.toList++(Rows.OpenSpec.upto Rows.noticeTableSpec).bare.plain.varTypes Tryz.prog).any (Tryz.prog.mapsRec ·)))=true:=by kernel_rfl
theorem fact14:((Rows.noticeTableUptoRow.ifaces==(Tryz.f3.params.toList++(Rows.OpenSpec.upto Rows.noticeTableSpec).bare.plain.varTypes Tryz.prog).any (Tryz.prog.ifacesRec ·)))=true:=by kernel_rfl
theorem fact15:((Rows.noticeTableUptoRow.mapsOut==Tryz.prog.mapsAmong Tryz.f3.resultTypes.toList))=true:=by kernel_rfl
theorem fact16:((Rows.noticeTableUptoRow.loops==(Tryz.f3.params.toList++(Rows.OpenSpec.upto Rows.noticeTableSpec).bare.plain.varTypes Tryz.prog).any (Tryz.prog.loopsFrom ·)))=true:=by kernel_rfl
theorem fact17:((Rows.noticeTableUptoRow.wideKeys==(Tryz.f3.params.toList++(Rows.OpenSpec.upto Rows.noticeTableSpec).bare.plain.varTypes Tryz.prog++Tryz.f3.resultTypes.toList).any (Tryz.prog.wideKeysFrom ·)))=true:=by kernel_rfl
theorem fact18:((Rows.OpenSpec.upto Rows.noticeTableSpec).bare.vars.all (Tryz.prog.varReadable ·))=true:=by kernel_rfl
theorem fact19:(Tryz.f3.resultTypes.all (fun t=>Tryz.prog.readableRec t&&decide (t < Tryz.prog.types.size)))=true:=by kernel_rfl
theorem fact20:((Rows.noticeTableUptoRow.ifacesOut==Tryz.f3.resultTypes.toList.any (Tryz.prog.ifacesRec ·)))=true:=by kernel_rfl
theorem fact21:((Rows.noticeTableUptoRow.loopsOut==Tryz.f3.resultTypes.toList.any (Tryz.prog.loopsFrom ·)))=true:=by kernel_rfl
theorem fact22:((Rows.noticeTableUptoRow.plainKeys==Tryz.prog.plainKeys))=true:=by kernel_rfl
theorem fact23:(Rows.noticeTableUptoRow.shortTexts.isNone)=true:=by kernel_rfl
theorem fact24:(Tryz.prog.stopsHeard)=true:=by kernel_rfl
theorem fact25:(Tryz.prog.mayEnter)=true:=by kernel_rfl
theorem fact26:((Rows.noticeTableUptoRow.lifted==Tryz.prog.liftsFinal))=true:=by kernel_rfl
theorem fact27:((Tryz.prog.make==some Rows.noticeTableUptoRow.make))=true:=by kernel_rfl
theorem fact28:((Rows.noticeTableUptoRow.kinds==(if Rows.noticeTableUptoRow.domain.isEmpty then []else Tryz.f3.params.toList.map fun t=>match Tryz.prog.underlying t with |some (.int k)=>some k |_=>none)))=true:=by kernel_rfl
theorem fact29:((Rows.noticeTableUptoRow.pinned==Rows.noticeTableUptoRow.pinnedBy))=true:=by kernel_rfl
theorem fact30:((Rows.noticeTableUptoRow.veiled==(Tryz.f3.params.toList++(Rows.OpenSpec.upto Rows.noticeTableSpec).bare.plain.varTypes Tryz.prog++Tryz.f3.resultTypes.toList).any (Tryz.prog.veiledRec ·)))=true:=by kernel_rfl
theorem fact31:(Rows.noticeTableUptoRow.veiledFits Tryz.prog Tryz.f3.params.toList (Tryz.f3.params.toList++(Rows.OpenSpec.upto Rows.noticeTableSpec).bare.plain.varTypes Tryz.prog++Tryz.f3.resultTypes.toList))=true:=by kernel_rfl
theorem bothT {a b:Bool} (ha:a=true) (hb:b=true):(a&&b)=true:=by rw[ha,hb];rfl
set_option maxRecDepth 100000 in
theorem facts:joinedFacts Tryz.prog 3 Tryz.f3 (Rows.OpenSpec.upto Rows.noticeTableSpec).bare Rows.noticeTableUptoRow=true:=by
 delta joinedFacts
 exact bothT (bothT (bothT (bothT (bothT (bothT (bothT (bothT (bothT (bothT (bothT (bothT (bothT (bothT (bothT (bothT (bothT (bothT (bothT (bothT (bothT (bothT (bothT (bothT (bothT (bothT (bothT (bothT (bothT (bothT (bothT (fact0) fact1) fact2) fact3) fact4) fact5) fact6) fact7) fact8) fact9) fact10) fact11) fact12) fact13) fact14) fact15) fact16) fact17) fact18) fact19) fact20) fact21) fact22) fact23) fact24) fact25) fact26) fact27) fact28) fact29) fact30) fact31
theorem noticeTable_holds:Rows.NoticeTableUptoSaid:=
 OpenClaim.holds_of_cond 3 Tryz.f3 rfl rfl rfl rfl rfl rfl rfl ⟨rfl,rfl,rfl,rfl,rfl⟩ rfl rfl rfl rfl rfl (by kernel_rfl) Tryz.func3 facts
  (of_decide_eq_true (by kernel_rfl)) (by unfold Func.isWrapper;first |(rw [if_pos (by decide +kernel)];kernel_rfl) |(rw [if_neg (by decide +kernel)];exact⟨rfl,rfl⟩))
  (fun os started H enc _ F=>lifted os started H enc F)
#print axioms noticeTable_holds
end Go.Proofs.YtbploijhogfmnaaGreat
