import Derived.Test.YtkgkglgpckgokaaGreatW1
import Derived.Maps.RangeRun
import Derived.ChangeSame
import Derived.Carry
import Derived.OpenShut
import Derived.SizedLaws
import Derived.WalkKit
import Derived.ProofKit
import Derived.Lib.LaidTab
open List (mem_map all_eq_true cons_append length_map append_nil map_map take_of_length_le map_congr_left map_nil all_cons map_take map_drop mem_flatMap)
namespace Go.Gb
open Go.RowKit
structure St where
 env:Nat->AV
 obj:Nat->Option aT
 ok:Nat->Option Bool
structure mT where
 cx:jj
 rd:List Nat
 wr:List Nat
 sym:Bool
def jF(P:Program)(T:eb)(i:Nat)(o:Oper)(cx:jj)(ρ:Operand->AV)(get:Nat->J aT):J Out:=
 match cx with
 | .ext n=>tq T i o n ρ get
 | .xn ae fr u9=>GY P T i o ae fr u9 ρ get
 |cx=>match o.op with
  | .call { callee:= .value f,args:=args,argTypes:=_ }=>j6 P i (ρ f) (args.toList.map ρ) cx get
  |_=>qc T i o cx ρ get
def AU{α:Type}(env:Nat->α)(dst:J Tmp)(v:α):Nat->α:=λt=>if dst=some t then v else env t
def St.app(σ:St)(dst:J Tmp)(p:Out×Option Bool):St:=⟨AU σ.env dst p.1.v,cO σ.obj p.1.upd,AU σ.ok dst p.2⟩
def want(al:Array Oper)(o:Oper)(env:Nat->AV)(ok:Nat->J Bool):J Bool:=
 match o.guard with
 |none=>some true
 |some (j,b)=>match (al[j]?).bind (·.dst)with
  |some t=>match env t,ok t with
   | .t (.sc (.bool v)),none=>some (v==b)
   | .t (.sc (.bool v)),some g=>some (g&&(v==b))
   | .undef,some false=>some false
   |_,_=>none
  |none=>none
def xq(ok:Nat->J Bool):Operand->U Prop
 | .tmp t=>match ok t with
  |none=>[]
  |some b=>[b=true]
 |_=>[]
def needs(env:Nat->AV)(ok:Nat->J Bool)(o:Op):U Prop:=
 match o with
 | .pick c a b=>match lp env c with
  | .t (.sc (.bool e))=>xq ok c++((xq ok a).map (λ p=>e=true->p)++(xq ok b).map (λ p=>e=false->p))
  |_=>[False]
 |o=>o.operands.toList.flatMap (xq ok)
def dK(rd:U Nat)(obj:Nat->J aT):Nat->J aT:=λk=>if k∈rd then obj k else none
section
variable (P:Program) (T:eb) (al:Array Oper) (c8:Nat->mT)
def opAt(i:Nat)(σ:St):J (Out×Option Bool):=
 (al[i]?).bind λo=>(want al o σ.env σ.ok).bind λg=>match (c8 i).sym with
  |true=>(jF P T i o (c8 i).cx (lp σ.env) (dK (c8 i).rd σ.obj)).bind λab=>
   if ab.upd.isEmpty then some (⟨ab.v,[],(needs σ.env σ.ok o.op++ab.obs).map λp=>g=true->p⟩,some g)else none
  |false=>match g with
   |true=>(jF P T i o (c8 i).cx (lp σ.env) (dK (c8 i).rd σ.obj)).bind λab=>
    if ab.upd.all (λ p=>G7 i p.1 || (c8 i).wr.contains p.1)then some (⟨ab.v,ab.upd,needs σ.env σ.ok o.op++ab.obs⟩,none)else none
   |false=>some (⟨.undef,[],[]⟩,some false)
def xt(i:Nat)(K:St->Prop)(σ:St):Prop:=∃o ab,al[i]? =some o/\opAt P T al c8 i σ=some ab/\ab.1.ob/\K (σ.app o.dst ab)
def Sl(Q:St->Prop):U Nat->St->Prop
 |[],σ=>Q σ
 |i::r,σ=>xt P T al c8 i (Sl Q r) σ
def DP(md:Region.Mode)(Q:St->Prop):Nat->Array Bool->St->Prop
 | 0,listed,σ=>Region.ready md al listed=[]/\Q σ
 |fuel+1,listed,σ=>(Region.ready md al listed=[]->Q σ)/\∀i∈Region.ready md al listed,xt P T al c8 i (DP md Q fuel (listed.setIfInBounds i true)) σ
end
def xB(c8:Nat->mT)(i j:Nat):Bool:=
 (c8 j).rd.all (λ k=>!G7 i k&&!(c8 i).wr.contains k)&&(!Nat.beq i j&&(c8 j).wr.all (λ k=>!G7 i k&&!(c8 i).wr.contains k)&&(c8 i).wr.all (λ k=>!G7 j k))&&(c8 i).rd.all (λ k=>!G7 j k&&!(c8 j).wr.contains k)
def Pn(md:Region.Mode)(al:Array Oper)(i:Nat):U Nat:=
 (List.range al.size).foldl (λ D j=>match al[j]? with
  |some oj=>bif oj.after.any (λ e=>Region.binds md e&&(e.on==i || D.contains e.on))then j::D else D
  |none=>D) []
def N5(md:Region.Mode)(al:Array Oper)(listed:Array Bool)(i j:Nat):Bool:=
 (Pn md al i).contains j&&(Pn md al i).all λd=>!listed.getD d true
def Po(md:Region.Mode)(al:Array Oper)(c8:Nat->mT)(listed:Array Bool)(i:Nat):Bool:=
 match al[i]? with
 |some oi=>(List.range al.size).all λj=>j==i || listed.getD j true || match al[j]? with
  |some oj=>oj.after.any (λ e=>Region.binds md e&&e.on==i) || (oi.apart al oj&&xB c8 i j) || N5 md al listed i j
  |none=>true
 |none=>false
def lexFrom'(md:Region.Mode)(al:Array Oper)(c8:Nat->mT):Nat->Nat->Array Bool->Bool
 | 0,_,listed=>(Region.ready md al listed).isEmpty
 |fuel+1,k,listed=>(Region.ready md al listed).contains k&&Po md al c8 listed k&&lexFrom' md al c8 fuel (k+1) (listed.setIfInBounds k true)
def N4(al:Array Oper)(c8:Nat->mT):Bool:=lexFrom' .any al c8 al.size 0 (Array.replicate al.size false)
section
variable {P:Program} {T:eb} {al:Array Oper} {c8:Nat->mT} {md:Region.Mode} {Q:St->Prop}
theorem akJ{i:Nat}{K K':St->Prop}{σ:St}(h:∀ σ,K σ->K' σ)(hh:xt P T al c8 i K σ):xt P T al c8 i K' σ:=
 let ⟨o,ab,h1,h2,h3,h4⟩:=hh
 ⟨o,ab,h1,h2,h3,h _ h4⟩
theorem MF{i:Nat}{o:Oper}{cx:jj}{ρ ρ':Operand->AV}{get:Nat->J aT}(h:∀x∈o.op.operands,ρ x=ρ' x):jF P T i o cx ρ get=jF P T i o cx ρ' get:=by
 have hop:=Rb (T:=T) (i:=i) (cx:=cx) (get:=get) h;unfold jF;split
 .exact YI h
 .exact aa5 h
 .obtain⟨dst,op,ty,ao,after,guard⟩:=o;simp only at h ⊢;split
  .rename_i f args cR;simp only[Op.operands,Call.operands]at h;have h1:args.toList.map ρ=args.toList.map ρ':=map_congr_left λx hx=>h x (by simp;exact .inr (by simpa using hx));rw[h1,h f (by simp)]
  .exact hop
theorem ZO{i:Nat}{σ:St}{ab:Out×Option Bool}(h:opAt P T al c8 i σ=some ab):∀p∈ab.1.upd,G7 i p.1=true\/p.1∈(c8 i).wr:=by
 unfold opAt at h;cases ho:al[i]? with
 |none=>simp[ho]at h
 |some o=>
  simp only[ho,af]at h;cases hw:want al o σ.env σ.ok with
  |none=>simp[hw]at h
  |some g=>
   simp only[hw,af]at h;split at h
   .cases ha:jF P T i o (c8 i).cx (lp σ.env) (dK (c8 i).rd σ.obj)with
    |none=>simp[ha]at h
    |some out'=>
     simp only[ha,af]at h;split at h
     .cases h;simp
     .cases h
   .split at h
    .cases ha:jF P T i o (c8 i).cx (lp σ.env) (dK (c8 i).rd σ.obj)with
     |none=>simp[ha]at h
     |some out'=>
      simp only[ha,af]at h;split at h
      .rename_i hall;cases h;intro p hp;have:=all_eq_true.1 hall p hp;simpa using this
      .cases h
    .cases h;simp
theorem uW{obj:Nat->J aT}:∀(upd:U (Nat×Option aT))(k:Nat),(∀ p∈upd,p.1≠k)->cO obj upd k=obj k
 |[],_,_=>rfl
 |(j,o)::r,k,h=>by
  simp only[cO];rw[aR (λ e=>h (j,o) (by simp) e.symm),uW r k (λ p hp=>h p (by simp[hp]))]
theorem DJ{obj oc:Nat->J aT}:∀(upd:U (Nat×Option aT))(k:Nat),obj k=oc k->cO obj upd k=cO oc upd k
 |[],_,h=>h
 |(j,o)::r,k,h=>by simp only[cO,DJ r k h]
theorem ade{env env':Nat->AV}{ok ok':Nat->J Bool}{o:Op}(h:∀t,.tmp t∈o.operands->env t=env' t/\ok t=ok' t):needs env ok o=needs env' ok' o:=by
 have h1:∀x∈o.operands,xq ok x=xq ok' x:=λx hx=>by
  cases x with
  |tmp t=>simp only[xq,(h t hx).2]
  |_=>rfl
 unfold needs;split
 .rename_i c a b;have hc:lp env c=lp env' c:=by
   cases c with
   |tmp t=>exact(h t (by simp[Op.operands])).1
   |_=>rfl
  rw[hc,h1 c (by simp[Op.operands]),h1 a (by simp[Op.operands]),h1 b (by simp[Op.operands])]
 .have:∀l:U Operand,(∀ x∈l,xq ok x=xq ok' x)->l.flatMap (xq ok)=l.flatMap (xq ok'):=by
   intro l
   induction l with
   |nil=>intro _;rfl
   |cons x xs ih=>intro hx;simp only[List.flatMap_cons,hx x (by simp),ih (λ y hy=>hx y (by simp[hy]))]
  exact this _ λx hx=>h1 x (by simpa using hx)
theorem adf{j:Nat}{oi oj:Oper}{ab:Out×Option Bool}{σ:St}(hj:al[j]? =some oj)(hd:∀d,oi.dst=some d->d∉oj.looksAt al)(hk:∀p∈ab.1.upd,p.1∉(c8 j).rd):
 opAt P T al c8 j (σ.app oi.dst ab)=opAt P T al c8 j σ:=by
 unfold opAt;simp only[hj,af];have ra:∀t,t∈oj.looksAt al->(σ.app oi.dst ab).env t=σ.env t:=λt ht=>by
  simp only[St.app,AU];rw[aR (λ e=>hd t e ht)]
 have HD:∀t,t∈oj.looksAt al->(σ.app oi.dst ab).ok t=σ.ok t:=λt ht=>by
  simp only[St.app,AU];rw[aR (λ e=>hd t e ht)]
 have hw:want al oj (σ.app oi.dst ab).env (σ.app oi.dst ab).ok=want al oj σ.env σ.ok:=by
  unfold want;cases hg:oj.guard with
  |none=>rfl
  |some gw=>
   obtain⟨g,b⟩:=gw;cases ht:(al[g]?).bind (·.dst)with
   |none=>simp only[ht]
   |some t=>simp only[ht,ra t (by simp[Oper.looksAt,hg,ht]),HD t (by simp[Oper.looksAt,hg,ht])]
 have hget:dK (c8 j).rd (σ.app oi.dst ab).obj=dK (c8 j).rd σ.obj:=by
  funext k;simp only[dK];split
  .rename_i hkr;exact uW _ _ (λ p hp e=>hk p hp (e ▸ hkr))
  .rfl
 have hin:∀t,.tmp t∈oj.op.operands->t∈oj.looksAt al:=λt ht=>by simp only[Oper.looksAt];exact List.mem_append_left _ (List.mem_filterMap.2 ⟨.tmp t,by simpa using ht,rfl⟩)
 have hρ:jF P T j oj (c8 j).cx (lp (σ.app oi.dst ab).env) (dK (c8 j).rd σ.obj)=jF P T j oj (c8 j).cx (lp σ.env) (dK (c8 j).rd σ.obj):=by
  refine MF λx hx=>?_;cases x with
  |tmp t=>exact ra t (hin t hx)
  |_=>rfl
 have hnd:needs (σ.app oi.dst ab).env (σ.app oi.dst ab).ok oj.op=needs σ.env σ.ok oj.op:=ade λt ht=>⟨ra t (hin t ht),HD t (hin t ht)⟩;rw[hw,hget,hρ,hnd]
theorem akK{σ:St}{di dj:J Tmp}{a b:Out×Option Bool}(hd:∀d,di=some d->dj≠some d)(hk:∀p∈a.1.upd,∀q∈b.1.upd,p.1≠q.1):(σ.app di a).app dj b=(σ.app dj b).app di a:=by
 have slot:∀{α:Type} (e:Nat->α) (x y:α),AU (AU e di x) dj y=AU (AU e dj y) di x:=λe x y=>by
  funext t;simp only[AU];by_cases h1:dj=some t
  .rw[aY h1,aR (λ e=>hd t e h1),aY h1]
  .rw[aR h1,aR h1]
 simp only[St.app,St.mk.injEq];refine⟨slot _ _ _,?_,slot _ _ _⟩;funext k;by_cases h1:∃p∈a.1.upd,p.1=k
 .obtain⟨p,hp,e⟩:=h1;rw[uW b.1.upd k (λ q hq e2=>hk p hp q hq (e.trans e2.symm))];exact DJ _ _ (uW b.1.upd k (λ q hq e2=>hk p hp q hq (e.trans e2.symm))).symm
 .have h2:∀p∈a.1.upd,p.1≠k:=λp hp e=>h1 ⟨p,hp,e⟩;rw[uW a.1.upd k h2];exact DJ _ _ (uW a.1.upd k h2)
theorem amS{i j:Nat}{oi oj:Oper}{ab:Out×Option Bool}{σ:St}{K:St->Prop}(hi:al[i]? =some oi)(hj:al[j]? =some oj)(hap:oi.apart al oj=true)(hfp:xB c8 i j=true)
 (hy:opAt P T al c8 i σ=some ab) (h:xt P T al c8 j K (σ.app oi.dst ab)):
 xt P T al c8 j (λ σ'=>opAt P T al c8 i σ'=some ab/\K (σ'.app oi.dst ab)) σ:=by
 obtain⟨a1,a2,a3⟩:=Oper.apart_spec hap;simp only[xB,aL]at hfp;obtain⟨⟨f1,⟨f0,f2⟩,f2'⟩,f3⟩:=hfp;have hij:i≠j:=by intro e;subst e;rw[show Nat.beq i i=true from Nat.beq_refl i]at f0;cases f0
 have ki:=ZO hy;have no:∀(a:Nat)(l wr:U Nat)(k:Nat),(l.all λk=>!G7 a k&&!wr.contains k)=true->(G7 a k=true\/k∈wr)->k∈l->False:=by
  intro a l wr k h hk hl;have:=all_eq_true.1 h k hl;simp only[aL,Bool.not_eq_true']at this;rcases hk with hk |hk
  .rw[hk]at this;exact absurd this.1 (by simp)
  .have h2:=this.2;simp[hk]at h2
 obtain⟨o,P0,g1,g2,g3,g4⟩:=h;rw[hj]at g1;cases g1;rw[adf hj a1 (λ p hp hr=>no _ _ _ _ f1 (ki p hp) hr)]at g2;have kj:=ZO g2;have both:∀k,(G7 i k=true\/k∈(c8 i).wr)->(G7 j k=true\/k∈(c8 j).wr)->False:=by
  intro k h1 h2;rcases h2 with h2 |h2
  .rcases h1 with h1 |h1
   .simp only[G7,aL,beq_iff_eq]at h1 h2;exact hij (h1.2.symm.trans h2.2)
   .have:=all_eq_true.1 f2' k h1;rw[h2]at this;exact absurd this (by simp)
  .exact no _ _ _ _ f2 h1 h2
 refine⟨oj,P0,hj,g2,g3,?_,?_⟩
 .rw[adf hi a3 (λ p hp hr=>no _ _ _ _ f3 (kj p hp) hr)];exact hy
 .rw[<- akK a2 (λ p hp q hq e=>both p.1 (ki p hp) (e ▸ kj q hq))];exact g4
theorem adg{i:Nat}:∀d∈Pn md al i,∃od,al[d]? =some od/\∃e∈od.after,Region.binds md e=true/\(e.on=i\/e.on∈Pn md al i):=by
 have main:∀(l:U Nat)(D0:U Nat),(∀ d∈D0,∃od,al[d]? =some od/\∃e∈od.after,Region.binds md e=true/\(e.on=i\/e.on∈D0))->
  ∀d∈l.foldl (λ D j=>match al[j]? with
   |some oj=>bif oj.after.any (λ e=>Region.binds md e&&(e.on==i || D.contains e.on))then j::D else D
   |none=>D) D0,∃od,al[d]? =some od/\∃e∈od.after,Region.binds md e=true/\(e.on=i\/e.on∈l.foldl (λ D j=>match al[j]? with
   |some oj=>bif oj.after.any (λ e=>Region.binds md e&&(e.on==i || D.contains e.on))then j::D else D
   |none=>D) D0):=by
  intro l
  induction l with
  |nil=>intro D0 h;exact h
  |cons j l ih=>
   intro D0 h;simp only[List.foldl_cons];refine ih _ ?_;cases hj:al[j]? with
   |none=>exact h
   |some oj=>
    simp only;cases hb:oj.after.any (λ e=>Region.binds md e&&(e.on==i || D0.contains e.on))with
    |false=>simp only[ak];exact h
    |true=>
     simp only[aj];intro d hd;rcases aN.1 hd with rfl |hd
     .obtain⟨e,he,hb'⟩:=Array.any_eq_true'.1 hb;simp only[aL,Bool.or_eq_true,beq_iff_eq,List.contains_iff_mem]at hb';exact⟨oj,hj,e,he,hb'.1,hb'.2.imp id λh=>eG _ h⟩
     .have⟨od,g1,e,g2,g3,g4⟩:=h d hd;exact⟨od,g1,e,g2,g3,g4.imp id λh=>eG _ h⟩
 exact main _ [] (λ d hd=>by simp at hd)
theorem Rk{i:Nat}{oi:Oper}{listed:Array Bool}(hi:al[i]? =some oi)(h:Po md al c8 listed i=true)(j:Nat)(oj:Oper)(hj:al[j]? =some oj)(hne:j≠i)(hun:listed.getD j true=false)
 (hno:∀e∈oj.after,Region.binds md e=true->e.on≠i):(oi.apart al oj=true/\xB c8 i j=true)\/N5 md al listed i j=true:=by
 simp only[Po,hi,all_eq_true,List.mem_range]at h;have h1:=h j (Array.getElem?_eq_some_iff.1 hj).1;simp only[hj,Bool.or_eq_true,beq_iff_eq,hne,false_or,hun,Bool.false_eq_true,aL]at h1;rcases h1 with (h1 |h1) |h1
 .obtain⟨e,he,hb⟩:=Array.any_eq_true'.1 h1;simp only[aL,beq_iff_eq]at hb;exact absurd hb.2 (hno e he hb.1)
 .exact .inl h1
 .exact .inr h1
theorem Vr{i:Nat}{oi:Oper}{ab:Out×Option Bool}(D:U Nat)(hi:al[i]? =some oi)(hD:∀d∈D,∃od,al[d]? =some od/\∃e∈od.after,Region.binds md e=true/\(e.on=i\/e.on∈D)):
 ∀(fuel:Nat) (listed:Array Bool) (σ:St),(∀ d∈D,listed.getD d true=false)->
  (∀ j oj,al[j]? =some oj->j≠i->listed.getD j true=false->j∉D->(∀ e∈oj.after,Region.binds md e=true->e.on≠i)->oi.apart al oj=true/\xB c8 i j=true)->
  i∈Region.ready md al listed->opAt P T al c8 i σ=some ab->ab.1.ob->
  DP P T al c8 md Q fuel (listed.setIfInBounds i true) (σ.app oi.dst ab)->DP P T al c8 md Q (fuel+1) listed σ:=by
 intro fuel
 induction fuel with
 |zero=>
  intro listed σ _ _ hr hy cN H;refine⟨λ h=>(by rw[h]at hr;cases hr),λj hj=>?_⟩;by_cases hji:j=i
  .subst hji;exact⟨oi,ab,hi,hy,cN,H⟩
  .have:=ready_mono hj hji;rw[H.1]at this;cases this
 |succ fuel ih=>
  intro listed σ hDu hfree hr hy cN H;refine⟨λ h=>(by rw[h]at hr;cases hr),λj hj=>?_⟩;by_cases hji:j=i
  .subst hji;exact⟨oi,ab,hi,hy,cN,H⟩
  .have h1:=H.2 j (ready_mono hj hji);obtain⟨hjun,oj,hoj,hall⟩:=mem_ready.1 hj;have hnl:∀k,listed.getD k true=false->∀e∈oj.after,Region.binds md e=true->e.on≠k:=λk h0 e he hb heq=>by
    have h1:=hall e he hb;rw[heq]at h1;rcases Nat.lt_or_ge k listed.size with h' |h'
    .simp[h']at h0 h1;rw[h0]at h1;cases h1
    .simp[Array.getElem?_eq_none h']at h1
   have hnot:∀e∈oj.after,Region.binds md e=true->e.on≠i:=hnl i (mem_ready.1 hr).1;have LO:j∉D:=λhm=>by
    have⟨od,g1,e,g2,g3,g4⟩:=hD j hm;rw[hoj]at g1;cases g1;rcases g4 with g4 |g4
    .exact hnot e g2 g3 g4
    .exact hnl _ (hDu _ g4) e g2 g3 rfl
   have⟨hap,hfp⟩:=hfree j oj hoj hji hjun LO hnot;have h2:=amS hi hoj hap hfp hy h1
   have hfree':∀k ok,al[k]? =some ok->k≠i->(listed.setIfInBounds j true).getD k true=false->k∉D->
    (∀ e∈ok.after,Region.binds md e=true->e.on≠i)->oi.apart al ok=true/\xB c8 i k=true:=λk ok hk hki hun hkD hno=>by
    refine hfree k ok hk hki ?_ hkD hno;by_cases hjk:j=k
    .subst hjk;exact hjun
    .rw[getD_set_ne true hjk]at hun;exact hun
   have To:∀d∈D,(listed.setIfInBounds j true).getD d true=false:=λd hd=>by
    have hne:j≠d:=λe=>LO (by rw[e];exact hd);rw[getD_set_ne true hne];exact hDu d hd
   refine akJ (λ σ' h3=>ih (listed.setIfInBounds j true) σ' To hfree' (ready_mono hr (Ne.symm hji)) h3.1 cN ?_) h2;rw[Array.setIfInBounds_comm _ _ hji];exact h3.2
theorem adh:∀(n k:Nat) (listed:Array Bool) (σ:St),lexFrom' md al c8 n k listed=true->Sl P T al c8 Q ((List.range n).map (k+ ·)) σ->DP P T al c8 md Q n listed σ
 | 0,k,listed,σ,hB,h=>⟨by simpa[lexFrom']using hB,by simpa[Sl]using h⟩
 |n+1,k,listed,σ,hB,h=>by
  simp only[lexFrom',aL]at hB;obtain⟨⟨hr,hfp⟩,hB'⟩:=hB;rw[List.range_succ_eq_map,aF,map_map]at h;simp only[Sl,Nat.add_zero]at h;obtain⟨o,ab,h1,h2,h3,h4⟩:=h;have fin:DP P T al c8 md Q n (listed.setIfInBounds k true) (σ.app o.dst ab)->DP P T al c8 md Q (n+1) listed σ:=by
   intro H;cases hd:(Pn md al k).all λd=>!listed.getD d true with
   |true=>
    refine Vr (Pn md al k) h1 adg n listed σ (λ d hd'=>by simpa using all_eq_true.1 hd d hd') (λ j oj hj hne hun LO hno=>?_) (by simpa using hr) h2 h3 H;rcases Rk h1 hfp j oj hj hne hun hno with h |h
    .exact h
    .simp only[N5,aL,List.contains_iff_mem]at h;exact absurd h.1 LO
   |false=>
    refine Vr [] h1 (λ d hd'=>by simp at hd') n listed σ (λ d hd'=>by simp at hd') (λ j oj hj hne hun _ hno=>?_) (by simpa using hr) h2 h3 H;rcases Rk h1 hfp j oj hj hne hun hno with h |h
    .exact h
    .simp only[N5,aL]at h;rw[h.2]at hd;cases hd
  refine fin ?_;refine adh n (k+1) _ _ hB' ?_;have e:(λ x=>k+x)∘Nat.succ=λx=>k+1+x:=by funext x;simp only[Function.comp];omega
  rw[e]at h4;exact h4
end
def eK(P:Program)(β:Nat->J cL)(w:World)(I:Nat->Prop)(x:AV)(ok:J Bool)(v:Value):Prop:=
 match ok with
 |none=>VR P β w I x v
 |some b=>(b=true->VR P β w I x v)/\(b=false->v=undef)
theorem eK.mono{P:Program}{β β':Nat->J cL}{w w':World}{I I':Nat->Prop}(hb:∀k B,β k=some B->β' k=some B)(hs:Same I w w')(hi:∀b,I b->I' b){x:AV}{ok:J Bool}{v:Value}(h:eK P β w I x ok v):eK P β' w' I' x ok v:=by
 cases ok with
 |none=>exact VR.mono hb hs hi _ _ h
 |some b=>exact⟨λ hh=>VR.mono hb hs hi _ _ (h.1 hh),h.2⟩
structure Rel(P:Program)(w0:World)(O0:j9)(N:Nat)(β:Nat->Option cL)(I:Nat->Prop)(σ:St)(a:Act)(w:World):Prop where
 defers:a.defers=[]
 size:a.tmps.size=N
 env:∀t,eK P β w I (σ.env t) (σ.ok t) (a.tmps.getD t undef)
 mem:Mem P w0 O0 β I σ.obj w
section
variable {P:Program} {T:eb} {w0:World} {O0:j9} {N:Nat} {β:Nat->Option cL} {I:Nat->Prop} {σ:St} {a:Act} {w:World} {al:Array Oper} {c8:Nat->mT}
def Fr(un:Nat->Prop)(β:Nat->J cL):Prop:=∀i k,un i->io (cJ i) k->β k=none
theorem abg(hgv:i9 w I){x:Operand}(h:∀t,x= .tmp t->VR P β w I (σ.env t) (a.tmps.getD t undef)):VR P β w I (lp σ.env x) (a.eval x):=by
 cases x with
 |tmp t=>exact h t rfl
 |const v=>exact VR.cv
 |global g=>
  simp only[lp];split
  .rename_i row hg;simp only[VR,Act.eval];exact⟨g,0,rfl,(hgv.1 g row hg).1,(hgv.1 g row hg).2⟩
  .simp[VR]
 |func f=>simp only[lp,VR,Act.eval];exact⟨#[],#[],rfl,by simp[aE],by simp[aE]⟩
theorem zX(hr:Rel P w0 O0 N β I σ a w){x:Operand}(h:∀p∈xq σ.ok x,p):VR P β w I (lp σ.env x) (a.eval x):=by
 refine abg hr.mem.vars λt hx=>?_;subst hx;have h1:=hr.env t;simp only[xq]at h;cases hk:σ.ok t with
 |none=>rw[hk]at h1;exact h1
 |some b=>rw[hk]at h1 h;exact h1.1 (h _ (by simp))
theorem afR(hT:eY P T){i:Nat}{o:Oper}{cx:jj}{rd:U Nat}{ab:Out}(hr:Rel P w0 O0 N β I σ a w)(hn:∀k,io (cJ i) k->β k=none)(ha:jF P T i o cx (lp σ.env) (dK rd σ.obj)=some ab)
 (cN:ab.ob) (hnd:∀p∈needs σ.env σ.ok o.op,p):so P w0 O0 β I σ.obj w i ab ((execOp a.eval o).run P w)\/zW P w0 O0 β I σ.obj w i ab ((execOp a.eval o).run P w):=by
 have hg:∀k ob,dK rd σ.obj k=some ob->σ.obj k=some ob:=λk ob hk=>by
  simp only[dK]at hk;split at hk
  .exact hk
  .cases hk
 by_cases hp:∃c x y,o.op= .pick c x y
 .obtain⟨c,x,y,he⟩:=hp;obtain⟨dst,op,ty,ao,after,guard⟩:=o;simp only at he;subst he;have ha:qc T i ⟨dst,.pick c x y,ty,ao,after,guard⟩ cx (lp σ.env) (dK rd σ.obj)=some ab:=by
   unfold jF at ha;split at ha
   .cases ha
   .cases ha
   .exact ha
  simp only[qc]at ha;simp only[needs]at hnd;split at ha
  .rename_i t hc;rw[hc]at hnd;simp only[pv,aA]at ha;subst ha;have h1:=zX hr (x:=c) (λ p hp=>hnd p (by simp[hp]));rw[hc]at h1;simp only[VR,TR]at h1;refine .inl ⟨if t then a.eval x else a.eval y,w,β,I,.inl ?_,Step.refl ..,hr.mem,?_⟩
   .simp only[execOp,h1.1,asBool];simp
   .rw[U0];cases t
    .exact zX hr λp hp=>hnd (false=false->p) (by simp only[aZ,mem_map];exact .inr (.inr ⟨p,hp,rfl⟩)) rfl
    .exact zX hr λp hp=>hnd (true=true->p) (by simp only[aZ,mem_map];exact .inr (.inl ⟨p,hp,rfl⟩)) rfl
  .cases ha
 .have hnd':∀x∈o.op.operands,∀p∈xq σ.ok x,p:=λx hx p hp'=>hnd p (by
   unfold needs;split
   .rename_i c x y he;exact absurd ⟨c,x,y,he⟩ hp
   .exact mem_flatMap.2 ⟨x,by simpa using hx,hp'⟩)
  have hρ:∀x,VR P β w I ((λ x=>open Classical in if x∈o.op.operands then lp σ.env x else .undef) x) (a.eval x):=λx=>by
   by_cases hx:x∈o.op.operands
   .simp only[hx,if_true];exact zX hr (hnd' x hx)
   .simp only[hx,if_false,VR]
  rw[MF (ρ':=λx=>open Classical in if x∈o.op.operands then lp σ.env x else .undef) (λ x hx=>by simp only[hx,if_true])]at ha;generalize (λ x=>open Classical in if x∈o.op.operands then lp σ.env x else AV.undef)=ρ at ha hρ;unfold jF at ha;split at ha
  .exact .inl (YL hT hr.mem (hn _ (.inl rfl)) hg hρ ha cN)
  .exact .inl (aa8 hT hr.mem (hn _ (.inl rfl)) hg hρ ha cN)
  .split at ha
   .rename_i f args cR heq;obtain⟨dst,op,ty,ao,after,guard⟩:=o;simp only at heq;subst heq;exact .inr (Vq hr.mem hn hg ha cN (hρ f) (by rw[Array.toList_map];exact aE.map hρ _) rfl rfl)
   .exact .inl (Q9 hT hr.mem (hn _ (.inl rfl)) hg hρ ha cN)
theorem ai1(hr:Rel P w0 O0 N β I σ a w){o:Oper}{b:Bool}(hb:want al o σ.env σ.ok=some b):Region.wanted o (yielded al a.tmps)=b:=by
 unfold want at hb;unfold Region.wanted;cases hg:o.guard with
 |none=>simp only[hg,aA]at hb ⊢;exact hb
 |some gw=>
  obtain⟨g,bw⟩:=gw;simp only[hg]at hb ⊢;unfold yielded;cases ht:(al[g]?).bind (·.dst)with
  |none=>simp[ht]at hb
  |some t=>
   simp only[ht]at hb;have he:=hr.env t;have val:∀v:Bool,a.tmps.getD t undef= .bool v->a.tmps[t]? =some (.bool v):=λv hv=>by
    cases hh:a.tmps[t]? with
    |none=>simp[hh,undef]at hv
    |some u=>simp[hh]at hv;rw[hv]
   split at hb
   .rename_i v e1 e2;rw[e1,e2]at he;simp only[eK,VR,TR]at he;cases hb;simp only[af,val v he.1];cases v<;>cases bw<;>rfl
   .rename_i v q e1 e2;rw[e1,e2]at he;simp only[eK,VR,TR]at he;cases hb;cases q with
    |true=>
     simp only[af,val v (he.1 rfl).1];cases v<;>cases bw<;>rfl
    |false=>
     have h0:=he.2 rfl;simp only[af];cases hh:a.tmps[t]? with
     |none=>simp
     |some u=>simp[hh,undef]at h0;subst h0;simp
   .rename_i e1 e2;rw[e1,e2]at he;cases hb;have h0:=he.2 rfl;simp only[af];cases hh:a.tmps[t]? with
    |none=>simp
    |some u=>simp[hh,undef]at h0;subst h0;simp
   .cases hb
theorem MH:∀(l:U Prop),jw l->∀p∈l,p
 |[],_,_,hp=>by simp at hp
 |[q],h,p,hp=>by rw[aQ]at hp;rw[hp];exact h
 |q::r::l,h,p,hp=>by
  rcases aN.1 hp with e |hp
  .rw[e];exact h.1
  .exact MH (r::l) h.2 p hp
theorem Rl(hT:eY P T){i:Nat}{K:St->Prop}{Q:Exit->Act->World->Prop}{K':Act->World->Prop}{un:Nat->Prop}(hd:∀(j:Nat)(o:Oper)(d:Tmp),al[j]? =some o->o.dst=some d->d<N)
 (hr:Rel P w0 O0 N β I σ a w) (hf:Fr un β) (hi:un i)
 (hK:∀ σ' a' w' β' I',Rel P w0 O0 N β' I' σ' a' w'->Fr (λ j=>un j/\j≠i) β'->K σ'->K' a' w') (h:xt P T al c8 i K σ):wpOp P al Q i K' a w:=by
 obtain⟨o,⟨ab,P1⟩,h1,h2,h3,h4⟩:=h;have put:∀(v':Value) (w':World) (β':Nat->J cL) (I':Nat->Prop),Step β I w (cJ i) β' I' w'->Mem P w0 O0 β' I' (cO σ.obj ab.upd) w'->eK P β' w' I' ab.v P1 v'->K' (a.put o.dst v') w':=by
  intro v' w' β' I' k1 k2 k3;refine hK (σ.app o.dst (ab,P1)) _ w' β' I' ⟨?_,?_,?_,k2⟩ ?_ h4
  .cases hdst:o.dst<;>simp[Act.put,hr.defers]
  .cases hdst:o.dst<;>simp[Act.put,hr.size]
  .intro t;have hold:=eK.mono k1.ext k1.same k1.inc (hr.env t);simp only[St.app,AU];cases hdst:o.dst with
   |none=>simpa[Act.put]using hold
   |some d=>
    simp only[Act.put,aA];by_cases hdt:d=t
    .subst hdt;rw[aY rfl,aY rfl];have hlt:d<a.tmps.size:=Nat.lt_of_lt_of_eq (hd i o d h1 hdst) hr.size.symm;have e:(a.tmps.setIfInBounds d v').getD d undef=v':=(by simp[hlt]);rw[e];exact k3
    .rw[aR hdt,aR hdt];simpa[Array.getElem?_setIfInBounds_ne hdt]using hold
  .intro j k hj hk;rw[k1.other k (by have:=hj.2;simp only[io,cJ]at hk ⊢;omega)];exact hf j k hj.1 hk
 unfold opAt at h2;simp only[h1,af]at h2;unfold wpOp;simp only[h1];have hn:=λk=>hf i k hi;cases hw:want al o σ.env σ.ok with
 |none=>simp[hw]at h2
 |some g=>
  simp only[hw,af]at h2;rw[ai1 hr hw]
  have run:∀(out':Out),jF P T i o (c8 i).cx (lp σ.env) (dK (c8 i).rd σ.obj)=some out'->(∀ p∈needs σ.env σ.ok o.op++out'.obs,p)->out'.v=ab.v->(out'.upd=ab.upd)->(∀ β' w' I' v',VR P β' w' I' ab.v v'->eK P β' w' I' ab.v P1 v')->
   o.wp P a w K' Q:=by
   intro out' ha cN e1 e2 sk;have Tr:=afR hT hr hn ha (qX _ λp hp=>cN p (by simp[hp])) (λ p hp=>cN p (by simp[hp]));unfold Oper.wp;rcases Tr with ⟨v',w',β',I',hrun,k1,k2,k3⟩ |⟨F,args,hrun,B3⟩
   .rw[e1]at k3;rw[e2]at k2;rcases hrun with hrun |⟨hrun,rfl⟩
    .rw[hrun];exact put v' w' β' I' k1 k2 (sk _ _ _ _ k3)
    .rw[hrun];exact put _ w' β' I' k1 k2 (sk _ _ _ _ k3)
   .rw[hrun];refine B3.mono ?_;rintro e w' ⟨v',β',I',rfl,k1,k2,k3⟩;rw[e1]at k3;rw[e2]at k2;exact put v' w' β' I' k1 k2 (sk _ _ _ _ k3)
  split at h2
  .cases ha:jF P T i o (c8 i).cx (lp σ.env) (dK (c8 i).rd σ.obj)with
   |none=>simp[ha]at h2
   |some out'=>
    simp only[ha,af]at h2;split at h2
    .rename_i hem;simp only[aA,Prod.mk.injEq]at h2;obtain⟨rfl,rfl⟩:=h2;have BW:out'.upd=[]:=(by simpa using hem);have h3:=MH _ h3;cases g with
     |true=>
      simp only[if_true];refine .inl (run out' ha (λ p hp=>h3 (true=true->p) (mem_map.2 ⟨p,hp,rfl⟩) rfl) rfl BW λ_ _ _ _ hv=>⟨λ _=>hv,λh=>by cases h⟩)
     |false=>
      simp only[Bool.false_eq_true,if_false];exact put _ w β I (Step.refl ..) hr.mem ⟨λ h=>(by cases h),λ_=>rfl⟩
    .cases h2
  .split at h2
   .cases ha:jF P T i o (c8 i).cx (lp σ.env) (dK (c8 i).rd σ.obj)with
    |none=>simp[ha]at h2
    |some out'=>
     simp only[ha,af]at h2;split at h2
     .simp only[aA,Prod.mk.injEq]at h2;obtain⟨rfl,rfl⟩:=h2;simp only[if_true];exact .inl (run out' ha (MH _ h3) rfl rfl λ_ _ _ _ hv=>hv)
     .cases h2
   .simp only[aA,Prod.mk.injEq]at h2;obtain⟨rfl,rfl⟩:=h2;simp only[Bool.false_eq_true,if_false];exact put _ w β I (Step.refl ..) hr.mem ⟨λ h=>(by cases h),λ_=>rfl⟩
theorem Kz(hT:eY P T){md:Region.Mode}{Q:St->Prop}{Q':Exit->Act->World->Prop}(hd:∀(j:Nat)(o:Oper)(d:Tmp),al[j]? =some o->o.dst=some d->d<N)
 (hQ:∀ σ a w β I,Rel P w0 O0 N β I σ a w->Q σ->Q' .normal a w):∀(fuel:Nat) (listed:Array Bool) (σ:St) (a:Act) (w:World) (β:Nat->J cL) (I:Nat->Prop),Rel P w0 O0 N β I σ a w->
  Fr (λ j=>listed.getD j true=false) β->DP P T al c8 md Q fuel listed σ->wpAny P md al Q' fuel listed a w
 | 0,_,_,_,_,_,_,hr,_,h=>⟨h.1,hQ _ _ _ _ _ hr h.2⟩
 |fuel+1,listed,σ,a,w,β,I,hr,hf,h=>by
  refine⟨λ h0=>hQ _ _ _ _ _ hr (h.1 h0),λi hi=>?_⟩;have hun:listed.getD i true=false:=(mem_ready.1 hi).1;refine Rl hT hd hr hf hun (λ σ' a' w' β' I' hr' hf' hK=>?_) (h.2 i hi);refine Kz hT hd hQ fuel _ σ' a' w' β' I' hr' (λ j k hj hk=>hf' j k ?_ hk) hK;have hj:(listed.setIfInBounds i true).getD j true=false:=hj;by_cases hji:i=j
  .subst hji;rcases Nat.lt_or_ge i listed.size with h1 |h1
   .simp[h1]at hj
   .simp[Array.getElem?_eq_none h1]at hun
  .rw[getD_set_ne true hji]at hj;exact⟨hj,λe=>hji e.symm⟩
theorem KA(hT:eY P T){Q:St->Prop}{Q':Exit->Act->World->Prop}(hd:∀(j:Nat)(o:Oper)(d:Tmp),al[j]? =some o->o.dst=some d->d<N)
 (hQ:∀ σ a w β I,Rel P w0 O0 N β I σ a w->Q σ->Q' .normal a w):∀(l:U Nat) (σ:St) (a:Act) (w:World) (β:Nat->J cL) (I:Nat->Prop),l.Nodup->Rel P w0 O0 N β I σ a w->
  Fr (λ j=>j∈l) β->Sl P T al c8 Q l σ->wpOps P al Q' l a w
 |[],_,_,_,_,_,_,hr,_,h=>hQ _ _ _ _ _ hr h
 |i::l,σ,a,w,β,I,hn,hr,hf,h=>by
  rw[wpOps_cons];refine Rl hT hd hr hf (by simp) (λ σ' a' w' β' I' hr' hf' hK=>?_) h;refine KA hT hd hQ l σ' a' w' β' I' (List.nodup_cons.1 hn).2 hr' (λ j k hj hk=>hf' j k ⟨by simp[hj],λe=>?_⟩ hk) hK;subst e;exact(List.nodup_cons.1 hn).1 hj
def OF(N:Nat)(al:Array Oper):Bool:=al.all λo=>match o.dst with |some d=>decide (d<N) |none=>true
theorem Rm(h:OF N al=true)(j:Nat)(o:Oper)(d:Tmp)(hj:al[j]? =some o)(hd:o.dst=some d):d<N:=by
 have:=Array.all_eq_true_iff_forall_mem.1 h o (Array.mem_of_getElem? hj);simpa[hd]using this
structure tE(σ:St):Prop where
 env:∀t k,k∈refs (σ.env t)->k<1000000
 obj:∀k o,σ.obj k=some o->k<1000000/\∀r∈o.rows,∀x∈r,∀j∈refs x,j<1000000
mutual
theorem VR.restrict{β':Nat->Option cL}(h:∀k,k<1000000->β' k=β k):∀(x:AV)(v:Value),(∀ k∈refs x,k<1000000)->VR P β w I x v->VR P β' w I x v
 | .t _,_,_,hv=>by simpa[VR]using hv
 | .agg cs,_,hk,hv=>by
  simp only[VR]at hv ⊢;obtain⟨vs,h1,h2⟩:=hv;exact⟨vs,h1,aE.restrict h cs _ (by simpa[refs]using hk) h2⟩
 | .eE cs,_,hk,hv=>by
  simp only[VR]at hv ⊢;obtain⟨vs,h1,h2⟩:=hv;exact⟨vs,h1,aE.restrict h cs _ (by simpa[refs]using hk) h2⟩
 | .own k _ _,_,hk,hv=>by simp only[VR,h k (hk k (by simp[refs]))]at hv ⊢;exact hv
 | .ptr k _ _,_,hk,hv=>by simp only[VR,h k (hk k (by simp[refs]))]at hv ⊢;exact hv
 | .er _ _,_,_,hv=>by simpa[VR]using hv
 | .fn f first caps,_,hk,hv=>by
  simp only[VR]at hv ⊢;obtain⟨fs,cs,h1,h2,h3⟩:=hv;exact⟨fs,cs,h1,aE.restrict h first _ (λ k hk'=>hk k (by simp[refs,hk'])) h2,aE.restrict h caps _ (λ k hk'=>hk k (by simp[refs,hk'])) h3⟩
 | .d8 _,_,_,hv=>by simpa[VR]using hv
 | .mp k,_,hk,hv=>by simp only[VR,h k (hk k (by simp[refs]))]at hv ⊢;exact hv
 | .oz k _,_,hk,hv=>by simp only[VR,h k (hk k (by simp[refs]))]at hv ⊢;exact hv
 | .cW,_,_,hv=>by simpa[VR]using hv
 | .ub,_,_,hv=>by simpa[VR]using hv
 | .undef,_,_,_=>by simp[VR]
theorem aE.restrict{β':Nat->Option cL}(h:∀k,k<1000000->β' k=β k):∀(xs:List AV)(vs:List Value),(∀ k∈eT xs,k<1000000)->aE P β w I xs vs->aE P β' w I xs vs
 |[],[],_,_=>by simp[aE]
 |x::xs,v::vs,hk,hv=>by
  simp only[aE]at hv ⊢;exact⟨VR.restrict h x v (λ k hk'=>hk k (by simp[eT,hk'])) hv.1,aE.restrict h xs vs (λ k hk'=>hk k (by simp[eT,hk'])) hv.2⟩
 |[],_::_,_,hv=>by simp[aE]at hv
 |_::_,[],_,hv=>by simp[aE]at hv
end
theorem ZP:∀{xs:U AV}{k:Nat},k∈eT xs->∃x∈xs,k∈refs x
 |[],_,h=>by simp[eT]at h
 |x::xs,k,h=>by
  simp only[eT,aZ]at h;rcases h with h |h
  .exact⟨x,by simp,h⟩
  .have⟨y,h1,h2⟩:=ZP h;exact⟨y,by simp[h1],h2⟩
theorem Rel.restrict(ho:tE σ)(hr:Rel P w0 O0 N β I σ a w):Rel P w0 O0 N (λ k=>if k<1000000 then β k else none) I σ a w:=by
 have hb:∀k,k<1000000->(λ k=>if k<1000000 then β k else none) k=β k:=λk hk=>by simp[hk]
 have sk:∀t,eK P (λ k=>if k<1000000 then β k else none) w I (σ.env t) (σ.ok t) (a.tmps.getD t undef):=λt=>by
  have h1:=hr.env t;cases hk:σ.ok t with
  |none=>rw[hk]at h1;exact VR.restrict hb _ _ (ho.env t) h1
  |some b=>rw[hk]at h1;exact⟨λ h=>VR.restrict hb _ _ (ho.env t) (h1.1 h),h1.2⟩
 refine⟨hr.defers,hr.size,sk,?_⟩;have hm:=hr.mem;constructor
 .intro k o hk;have⟨B,hB,hO⟩:=hm.cE k o hk;have⟨h1,h2⟩:=ho.obj k o hk;refine⟨B,by simp only[h1,if_true];exact hB,?_⟩;cases B with
  |none=>exact hO
  | «at» b s n=>
   obtain⟨g1,c,e,g2,g3,g4⟩:=hO;refine⟨g1,c,e,g2,g3,?_⟩;rw[om]at g4 ⊢;intro i r hir;have⟨q1,q2⟩:=g4 i r hir;refine⟨q1,?_⟩;rw[jA]at q2 ⊢;intro j x hx;have⟨v,p1,p2,p3⟩:=q2 j x hx;exact⟨v,p1,VR.restrict hb _ _ (h2 r (dh hir) x (dh hx)) p2,p3⟩
  |mp b=>
   obtain⟨es,cl,g1,gl,g2,g3⟩:=hO;refine⟨es,cl,g1,gl,λe=>cp.tell rfl (λ j r q' a b vs hv=>?_) (g2 e),g3⟩;rw[a]at b;cases b;exact aE.restrict hb _ _ (λ k hk=>by
    have⟨x,hx,hk⟩:=ZP hk;exact h2 r (dh a) x hx k hk) hv
 .intro k k' o o' B B' b h1 h2 h3 h4;simp only[(ho.obj k o h1).1,(ho.obj k' o' h2).1,if_true]at h3 h4;exact hm.gz k k' o o' B B' b h1 h2 h3 h4
 .intro k o B b h1 h2;simp only[(ho.obj k o h1).1,if_true]at h2;exact hm.ownB k o B b h1 h2
 .exact hm.lt
 .exact hm.up
 .exact hm.keep
 .exact hm.le
 .exact hm.os
 .exact hm.tape
 .exact hm.output
 .intro j B hj;have:=O0.lt j B hj;show(if j<1000000 then β j else none)=some B;rw[aY (by omega)];exact hm.anch j B hj
 .exact hm.vars
theorem Rel.drew(hr:Rel P w0 O0 N β I σ a w):Rel P w0 O0 N β I σ a w.drew:=
 ⟨hr.defers,hr.size,λt=>eK.mono (w:=w) (w':=w.drew) (λ _ _ h=>h) (λ _ _=>rfl) (λ _ h=>h) (hr.env t),hr.mem.drew⟩
theorem ai2(hT:eY P T){id:Nat}{Q:St->Prop}(hd:OF N al=true)(ho:tE σ)(h:Sl P T al c8 Q (List.range al.size) σ)(hr:Rel P w0 O0 N β I σ a w):
 (Code.region id al false).wp P (λ e a' w'=>∃ β' I' σ',Rel P w0 O0 N β' I' σ' a' w'/\e= .normal/\Q σ') a w:=by
 refine wp_region (KA hT (Rm hd) (Q:=Q) (λ σ a w β I hr hq=>⟨β,I,σ,hr,rfl,hq⟩) _ σ a w _ I List.nodup_range (hr.restrict ho) (λ j k _ hk=>?_) h);exact aR (by simp only[io,cJ]at hk;omega)
theorem Vs(hT:eY P T)(hm:P.follows .mixedOrders=true){id:Nat}{Q:St->Prop}(hd:OF N al=true)(hB:N4 al c8=true)(ho:tE σ)(h:Sl P T al c8 Q (List.range al.size) σ)(hr:Rel P w0 O0 N β I σ a w):
 (Code.region id al true).wp P (λ e a' w'=>∃ β' I' σ',Rel P w0 O0 N β' I' σ' a' w'/\e= .normal/\Q σ') a w:=by
 refine wp_region_any hm (Kz hT (md:= .any) (c8:=c8) (Rm hd) (Q:=Q) (λ σ a w β I hr hq=>⟨β,I,σ,hr,rfl,hq⟩) _ _ σ a _ _ I (hr.restrict ho).drew (λ j k _ hk=>?_) ?_)
 .exact aR (by simp only[io,cJ]at hk;omega)
 .refine adh al.size 0 _ σ hB ?_;have e:(List.range al.size).map (λ x=>0+x)=List.range al.size:=by simp
  rw[e];exact h
end
def Ev(P:Program)(N:Nat)(c:Code)(Q:Exit->St->Prop)(σ:St):Prop:=
 ∀(w0:World) (O0:j9) (β:Nat->J cL) (I:Nat->Prop) (a:Act) (w:World),Rel P w0 O0 N β I σ a w->tE σ->
  c.wp P (λ e a' w'=>∃ β' I' σ',Rel P w0 O0 N β' I' σ' a' w'/\tE σ'/\Q e σ') a w
def aoi(K:St->Prop)(Q:Exit->St->Prop):Exit->St->Prop
 | .normal,σ=>K σ
 |e,σ=>Q e σ
def afS(id:Nat)(Q:Exit->St->Prop):Exit->St->Prop
 | .exit j,σ=>if j=id then Q .normal σ else Q (.exit j) σ
 |e,σ=>Q e σ
theorem ZQ{P:Program}{c:Code}{Q:Exit->Act->World->Prop}(J:Nat->Act->World->Prop)(h0:∀a w,¬J 0 a w)(round:∀n a w,J (n+1) a w->c.wp P (Exit.then (J n) Q) a w)(n:Nat)(a:Act)(w:World)(h:J n a w):
 (Code.loop c).wp P Q a w:=by
 intro b k cs;have key:∀n a w,J n a w->∃e a' w',Q e a' w'/\Arrives P (lone (b.at a (.code c:: .inLoop c::k)) cs w) b k cs e a' w':=by
  intro n
  induction n with
  |zero=>intro a w h;exact(h0 a w h).elim
  |succ n ih=>
   intro a w hI;have⟨e,a₁,w₁,hq,harr⟩:=round n a w hI b (.inLoop c::k) cs;cases e with
   |normal=>
    have⟨e₂,a₂,w₂,hq₂,harr₂⟩:=ih a₁ w₁ hq;exact⟨e₂,a₂,w₂,hq₂,.of_steps (Steps.trans harr (.one step_inLoop)) harr₂⟩
   |exit id=>exact⟨_,a₁,w₁,hq,.pass (x:= .inLoop c) rfl (λ _ _=> .inl (by simp)) harr⟩
   |goto l=>exact⟨_,a₁,w₁,hq,.pass (x:= .inLoop c) rfl (λ _ _=> .inl (by simp)) harr⟩
   |ret=>exact⟨_,a₁,w₁,hq,.pass (x:= .inLoop c) rfl (λ _ _=> .inl (by simp)) harr⟩
   |panic ch=>exact⟨_,a₁,w₁,hq,.pass (x:= .inLoop c) rfl (λ _ _=> .inl (by simp)) harr⟩
   |outgrown=>exact⟨_,a₁,w₁,hq,.pass (x:= .inLoop c) rfl (λ _ _=> .inl (by simp)) harr⟩
 have⟨e,a',w',hq,harr⟩:=key n a w h;exact⟨e,a',w',hq,.of_steps (.one step_loop) harr⟩
section
variable {P:Program} {N:Nat} {Q:Exit->St->Prop} {σ:St}
theorem Ev.mono{c:Code}{Q':Exit->St->Prop}(h:Ev P N c Q σ)(hq:∀e σ,Q e σ->Q' e σ):Ev P N c Q' σ:=
 λw0 O0 β I a w hr ho=>wp_mono (h w0 O0 β I a w hr ho) λ_ _ _ ⟨β',I',σ',h1,h2,h3⟩=>⟨β',I',σ',h1,h2,hq _ _ h3⟩
theorem amT(h:Q .normal σ):Ev P N .skip Q σ:=λ_ _ β I _ _ hr ho=>wp_skip ⟨β,I,σ,hr,ho,h⟩
theorem amU{id:Nat}(h:Q (.exit id) σ):Ev P N (.exit id) Q σ:=λ_ _ β I _ _ hr ho=>wp_exit ⟨β,I,σ,hr,ho,h⟩
theorem aoy(h:Q .ret σ):Ev P N .ret Q σ:=λ_ _ β I _ _ hr ho=>wp_ret ⟨β,I,σ,hr,ho,h⟩
theorem akL{l:Nat}(h:Q .normal σ):Ev P N (.label l) Q σ:=λ_ _ β I _ _ hr ho=>wp_label ⟨β,I,σ,hr,ho,h⟩
theorem aoz{x y:Code}(h:Ev P N x (aoi (Ev P N y Q) Q) σ):Ev P N (.seq x y) Q σ:=by
 intro w0 O0 β I a w hr ho;refine wp_seq (wp_mono (h w0 O0 β I a w hr ho) ?_);rintro e a' w' ⟨β',I',σ',h1,h2,h3⟩;cases e<;>first |exact h3 w0 O0 β' I' a' w' h1 h2 |exact⟨β',I',σ',h1,h2,h3⟩
theorem amV{c:Operand}{x y:Code}(b:Bool)(hk:∀t,c= .tmp t->σ.ok t=none)(hc:lp σ.env c= .t (.sc (.bool b)))(h:Ev P N (bif b then x else y) Q σ):Ev P N (.cond c x y) Q σ:=by
 intro w0 O0 β I a w hr ho;have h1:=abg (P:=P) (β:=β) (w:=w) (I:=I) (σ:=σ) (a:=a) (x:=c) hr.mem.vars (λ t ht=>by
  have h1:=hr.env t;rw[hk t ht]at h1;exact h1)
 rw[hc]at h1;simp only[VR,TR]at h1;refine wp_cond (t:=b) h1.1 ?_;cases b<;>exact h w0 O0 β I a w hr ho
theorem afT{c:Operand}{x y:Code}(hk:∀t,c= .tmp t->σ.ok t=none)(hc:lp σ.env c= .ub)(h1:Ev P N x Q σ)(h2:Ev P N y Q σ):Ev P N (.cond c x y) Q σ:=by
 intro w0 O0 β I a w hr ho;have h3:=abg (P:=P) (β:=β) (w:=w) (I:=I) (σ:=σ) (a:=a) (x:=c) hr.mem.vars (λ t ht=>by
  have h1:=hr.env t;rw[hk t ht]at h1;exact h1)
 rw[hc]at h3;simp only[VR]at h3;obtain⟨b,hb⟩:=h3;refine wp_cond (t:=b) hb ?_;cases b
 .exact h2 w0 O0 β I a w hr ho
 .exact h1 w0 O0 β I a w hr ho
theorem akM{id:Nat}{c:Code}(h:Ev P N c (afS id Q) σ):Ev P N (.block id c) Q σ:=by
 intro w0 O0 β I a w hr ho;refine wp_block (wp_mono (h w0 O0 β I a w hr ho) ?_);rintro e a' w' ⟨β',I',σ',h1,h2,h3⟩;cases e with
 |exit j=>
  simp only[afS]at h3;simp only[Exit.inBlock];split
  .rw[aY ‹_›]at h3;exact⟨β',I',σ',h1,h2,h3⟩
  .rw[aR ‹_›]at h3;exact⟨β',I',σ',h1,h2,h3⟩
 |_=>exact⟨β',I',σ',h1,h2,h3⟩
theorem amW{c:Code}(J:Nat->St->Prop)(h0:∀ σ,¬J 0 σ)(round:∀n σ,J (n+1) σ->Ev P N c (aoi (J n) Q) σ)(n:Nat)(h:J n σ):Ev P N (.loop c) Q σ:=by
 intro w0 O0 β I a w hr ho;refine ZQ (λ n a w=>∃ β I σ,Rel P w0 O0 N β I σ a w/\tE σ/\J n σ) (λ a w ⟨_,_,σ,_,_,h⟩=>h0 σ h) ?_ n a w ⟨β,I,σ,hr,ho,h⟩;rintro n a w ⟨β,I,σ,hr,ho,hJ⟩;refine wp_mono (round n σ hJ w0 O0 β I a w hr ho) ?_;rintro e a' w' ⟨β',I',σ',h1,h2,h3⟩;cases e<;>exact⟨β',I',σ',h1,h2,h3⟩
end
def lk{α:Type}:U (Nat×α)->Nat->J α
 |[],_=>none
 |(j,x)::r,k=>if j=k then some x else lk r k
structure ry where
 env:List (Nat×AV)
 cE:List (Nat×aT)
def ry.st(L:ry):St:=⟨λ t=>(lk L.env t).getD .undef,λk=>lk L.cE k,λ_=>none⟩
theorem rJ{α:Type}:∀{l:U (Nat×α)}{k:Nat}{x:α},lk l k=some x->(k,x)∈l
 |(j,y)::r,k,x,h=>by
  simp only[lk]at h;split at h
  .cases h;rename_i e;subst e;simp
  .exact eG _ (rJ h)
theorem uX{α:Type}:∀{l:U (Nat×α)}{k:Nat}{x:α},(l.map (·.1)).Nodup->(k,x)∈l->lk l k=some x
 |(j,y)::r,k,x,hn,h=>by
  simp only[aF,List.nodup_cons]at hn;simp only[lk];rcases aN.1 h with h |h
  .injection h with h1 h2;subst h1;subst h2;simp
  .have hne:k≠j:=λe=>hn.1 (mem_map.2 ⟨(k,x),h,e⟩);rw[aR (Ne.symm hne)];exact uX hn.2 h
open Go.RowKit Go.MapKept
structure RgI where
 x:Operand
 t:TypeId
 a0:Nat
 it:Nat
 nn:Nat
 b:Nat
 e:Nat
 xx:Nat
 kv:Nat
 j:Nat
 j2:Nat
 body:Code
section
variable {P:Program} {w0:World} {O0:j9} {N:Nat} {β:Nat->Option cL} {I:Nat->Prop} {σ:St} {a:Act} {w:World}
def St.put(σ:St)(d:Nat)(x:AV):St:=⟨AU σ.env (some d) x,σ.obj,AU σ.ok (some d) none⟩
theorem Rel.put(hr:Rel P w0 O0 N β I σ a w){d:Nat}(hd:d<N){x:AV}{v:Value}(hv:VR P β w I x v):Rel P w0 O0 N β I (σ.put d x) (a.put (some d) v) w:=by
 refine⟨by simpa[Act.put]using hr.defers,by simpa[Act.put]using hr.size,λt=>?_,hr.mem⟩;have hold:=hr.env t;simp only[St.put,AU,Act.put,aA];by_cases hdt:d=t
 .subst hdt;rw[aY rfl,aY rfl];have e:(a.tmps.setIfInBounds d v).getD d undef=v:=by simp[Nat.lt_of_lt_of_eq hd hr.size.symm]
  rw[e];exact hv
 .rw[aR hdt,aR hdt];simpa[Array.getElem?_setIfInBounds_ne hdt]using hold
structure te(β:Nat->Option cL)(I:Nat->Prop)(obj:Nat->Option aT)(w:World)(r:Nat):Prop where
 lt:r<w.heap.size
 Hm:¬I r
 obj:∀k o,obj k=some o->¬fh β k r
theorem Rel.world{w':World}(hr:Rel P w0 O0 N β I σ a w)(hs:Same I w w')(hm:Mem P w0 O0 β I σ.obj w'):Rel P w0 O0 N β I σ a w':=
 ⟨hr.defers,hr.size,λt=>eK.mono (λ _ _ h=>h) hs (λ _ h=>h) (hr.env t),hm⟩
end
def kept(os':U (Option eZ))(j:Nat):Prop:=∃p,os'[j]? =some (some p)
def Pp(get:Nat->J aT)(fk:J Nat)(os':U (Option eZ)):AV->Tree->Prop
 | .t x,y=>y=x
 | .cW,y=>y= .sl []
 | .oz k len,y=>fk≠some k/\¬kept os' k/\∃o dg,get k=some o/\(o.rows.drop 0).take len=aI dg/\dg.length=len/\y= .sl dg
 | .own k aa len,y=>fk≠some k/\¬kept os' k/\∃o dg,get k=some o/\(o.rows.drop aa).take len=aI dg/\dg.length=len/\y= .sl dg
 |_,_=>False
def k9(get:Nat->J aT)(fk:J Nat)(os':U (Option eZ)):U AV->U Tree->Prop
 |[],[]=>True
 |x::xs,y::ys=>Pp get fk os' x y/\k9 get fk os' xs ys
 |_,_=>False
def en(get:Nat->J aT)(fk:J Nat)(os':U (Option eZ)):U (List AV)->U (List Tree)->Prop
 |[],[]=>True
 |x::xs,y::ys=>k9 get fk os' x y/\en get fk os' xs ys
 |_,_=>False
def F0(get:Nat->J aT)(fk:J Nat)(os':U (Option eZ)):AV->RC->Prop
 | .agg cs,.d (.a ts)=>k9 get fk os' cs ts
 |x,.d (.s y)=>Pp get fk os' x y
 | .cW,.fresh _ rows=>rows=[]
 | .own k aa len,.fresh sz rows=>fk=some k/\¬kept os' k/\aa=0/\∃o,get k=some o/\o.sz=sz/\en get fk os' (o.rows.take len) rows/\rows.length=len
 | .own k aa len,.whole j len'=>k=j/\aa=0/\len'=len/\kept os' j
 |_,_=>False
def nj(get:Nat->J aT)(fk:J Nat)(os':U (Option eZ)):U AV->U RC->Prop
 |[],[]=>True
 |x::xs,c::cs=>F0 get fk os' x c/\nj get fk os' xs cs
 |_,_=>False
def FG(get:Nat->J aT)(fk:J Nat)(os':U (Option eZ)):U AV->RV->Prop
 |[x],.one c=>F0 get fk os' x c
 |x::y::r,.eE cs=>nj get fk os' (x::y::r) cs
 |[],.eE cs=>cs=[]
 |_,_=>False
def Mm(get:Nat->J aT)(fk:J Nat)(os':U (Option eZ)):Prop:=
 ∀(j:Nat) p,os'[j]? =some (some p)->fk≠some j/\∃o,get j=some o/\o.sz=p.1/\en get fk os' (o.rows.take p.2.length) p.2
def Us(T:eb)(t:TypeId)(x:AV)(obj:Nat->J aT):J Out:=
 Ku T t x .none obj
def Pq(T:eb)(σ:St):ResultVar->J AV
 | .tmp t=>match σ.ok t with
  |none=>some (σ.env t)
  |some _=>none
 | .cell a t=>match σ.ok a with
  |none=>match Us T t (σ.env a) σ.obj with
   |some ⟨v,[],[]⟩=>some v
   |_=>none
  |some _=>none
def ny(T:eb)(σ:St):U ResultVar->J (List AV)
 |[]=>some []
 |r::rs=>(Pq T σ r).bind λv=>(ny T σ rs).bind λvs=>some (v::vs)
def Vt(tmps:Array Value):ResultVar->Sem Value
 | .tmp t=>pure (tmps.getD t undef)
 | .cell a t=>do loadVar t (<- asAddr (tmps.getD a undef))
theorem Vu(fn:Func)(tmps:Array Value):results fn tmps=(fn.results.mapM (Vt tmps))>>=λvs=>pure (if h:vs.size=1 then vs[0]else .tuple vs):=by
 unfold results;congr 2
def apK(T:eb)(rs:U ResultVar)(rv:RV)(os':U (Option eZ)):Exit->St->Prop
 | .normal,σ=>∃xs fk,ny T σ rs=some xs/\FG σ.obj fk os' xs rv/\Mm σ.obj fk os'
 | .ret,σ=>∃xs fk,ny T σ rs=some xs/\FG σ.obj fk os' xs rv/\Mm σ.obj fk os'
 |_,_=>False
section
variable {P:Program} {T:eb} {w0:World} {O0:j9} {N:Nat} {β:Nat->Option cL} {I:Nat->Prop} {σ:St} {a:Act} {w:World}
theorem abj(hT:eY P T)(hr:Rel P w0 O0 N β I σ a w){r:ResultVar}{x:AV}(h:Pq T σ r=some x):
 ∃v,(Vt a.tmps r).run P w= .ok v w/\VR P β w I x v:=by
 cases r with
 |tmp t=>
  simp only[Pq]at h;have h1:=hr.env t;cases hk:σ.ok t with
  |some b=>rw[hk]at h;cases h
  |none=>
   rw[hk]at h h1;cases h;exact⟨_,by simp[Vt],h1⟩
 |cell ad t=>
  simp only[Pq]at h;have hx:=hr.env ad;cases hk:σ.ok ad with
  |some b=>rw[hk]at h;cases h
  |none=>
  rw[hk]at h hx;simp only at h;have hx:VR P β w I (σ.env ad) (a.tmps.getD ad undef):=hx;split at h
  .rename_i v hl;injection h with h;subst h;obtain⟨u,h1,h2⟩:∃u,(Instr.loadAt t (a.tmps.getD ad undef)).run P w= .ok u w/\VR P β w I v u:=by
    obtain⟨u,h1,h2,_⟩:=Q8 hT hr.mem (λ _ _ h=>h) hl trivial hx;exact⟨u,h1,h2⟩
   refine⟨u,?_,h2⟩;have hp:∃p,a.tmps.getD ad undef= .pointer (some p):=by
    unfold Us at hl;unfold Ku at hl;cases hti:T t with
    |none=>simp[hti]at hl
    |some ti=>
     simp only[hti,af]at hl;split at hl
     .rename_i heq;rw[heq]at hx;simp only[VR]at hx;obtain⟨b,sz,n,_,h⟩:=hx;exact⟨_,h⟩
     .rename_i heq;rw[heq]at hx;simp only[VR]at hx;obtain⟨b,o,h,_⟩:=hx;exact⟨_,h⟩
     .cases hl
   obtain⟨p,hp⟩:=hp;rw[hp]at h1;simp only[Instr.loadAt,Instr.sureAddr,Sem.run_bind,Sem.run_pure,Result.andThen_ok]at h1;simp only[Vt,hp,asAddr,Sem.run_bind,Sem.run_pure,Result.andThen_ok];exact h1
  .cases h
theorem AX(hT:eY P T)(hr:Rel P w0 O0 N β I σ a w):∀(rs:U ResultVar)(xs:U AV),ny T σ rs=some xs->
 ∃vs,(rs.mapM (Vt a.tmps)).run P w= .ok vs w/\aE P β w I xs vs
 |[],xs,h=>by simp only[ny,aA]at h;subst h;exact⟨[],by simp,by simp[aE]⟩
 |r::rs,xs,h=>by
  simp only[ny]at h;cases h1:Pq T σ r with
  |none=>simp[h1]at h
  |some x=>
   cases h2:ny T σ rs with
   |none=>simp[h1,h2]at h
   |some ys=>
    simp only[h1,h2,af,aA]at h;subst h;have⟨v,g1,g2⟩:=abj hT hr h1;have⟨vs,g3,g4⟩:=AX hT hr rs ys h2;exact⟨v::vs,by simp only[List.mapM_cons,Sem.run_bind,g1,Result.andThen_ok,g3,Sem.run_pure],by simp only[aE];exact⟨g2,g4⟩⟩
def MI(σ:St)(w0 w:World)(β:Nat->J cL)(I:Nat->Prop)(O0:j9)(fk:J Nat)(os':U (Option eZ))(b:Nat):Prop:=
 (I b\/O0.Hm b\/w0.heap.size<=b\/O0.own b)/\b<w.heap.size/\¬∃k,(fk=some k\/kept os' k)/\(∃ o,σ.obj k=some o)/\fh β k b
theorem adi(hr:Rel P w0 O0 N β I σ a w)(fk:J Nat)(os':U (Option eZ)):∀b,I b->MI σ w0 w β I O0 fk os' b:=λb hb=>
 ⟨.inl hb,hr.mem.lt b hb,λ⟨k,_,⟨o,ho⟩,hβ⟩=>(hr.mem.ix k o b ho hβ).1 hb⟩
theorem MJ(hr:Rel P w0 O0 N β I σ a w){fk:J Nat}{os':U (Option eZ)}{k aa len:Nat}{y:Tree}{v:Value}(h:fk≠some k/\¬kept os' k/\∃o dg,σ.obj k=some o/\(o.rows.drop aa).take len=aI dg/\dg.length=len/\y= .sl dg)(hv:VR P β w I (.own k aa len) v):TR w (MI σ w0 w β I O0 fk os') y v:=by
 obtain⟨hne,hnk,o,dg,h1,h2,h3,rfl⟩:=h;simp only[VR]at hv;simp only[TR];rcases hv with ⟨_,rfl,_,h4⟩ |⟨b,sz,n,cap,ad,h4,rfl,h5,h6,h7⟩
 .exact .inl ⟨List.eq_nil_of_length_eq_zero (by omega),none,0,rfl,λ_=>rfl⟩
 .have⟨g1,g2,g3⟩:=hr.mem.own k o b sz n h1 h4;refine .inr ⟨b,ad,cap,sz,by rw[h3],by omega,⟨.inr (.inr (g3.elim .inr .inl)),g2,λ⟨k',e1,⟨o',e2⟩,e3⟩=>?_⟩,?_⟩
  .have:=hr.mem.lv k k' o o' b h1 e2 (.at h4) e3;subst this;exact e1.elim hne hnk
  .by_cases hc:cap=0
   .have:dg=[]:=List.eq_nil_of_length_eq_zero (by omega);subst this;simp[ct]
   .rw[h7 hc];have⟨B,hB,sB⟩:=hr.mem.cE k o h1;rw[h4]at hB;cases hB;obtain⟨hs,c,e,hc',_,sB⟩:=sB;have h8:=br.take len _ _ _ _ (br.drop aa _ _ _ _ sB);rw[h2]at h8;exact ct.lr (adi hr fk os') hc' dg _ _ h8
theorem DK(hr:Rel P w0 O0 N β I σ a w){fk:J Nat}{os':U (Option eZ)}{x:AV}{y:Tree}{v:Value}(h:Pp σ.obj fk os' x y)(hv:VR P β w I x v):TR w (MI σ w0 w β I O0 fk os') y v:=by
 cases x<;>simp only[Pp]at h
 case t x=>subst h;simp only[VR]at hv;exact TR.mono (λ _ _=>rfl) (adi hr fk os') _ _ hv
 case cW=>subst h;simp only[VR]at hv;simp only[TR];exact .inl ⟨trivial,none,0,hv,λ_=>rfl⟩
 case own k aa len=>exact MJ hr h hv
 case oz k len=>
  rcases hv.uC with ⟨rfl,rfl⟩ |⟨_,hv⟩
  .obtain⟨hne,hnk,o,dg,h1,h2,h3,rfl⟩:=h;simp only[TR];exact .inl ⟨List.eq_nil_of_length_eq_zero h3,none,0,rfl,λ_=>rfl⟩
  .exact MJ hr h hv
theorem MK(hr:Rel P w0 O0 N β I σ a w){fk:J Nat}{os':U (Option eZ)}{β':Nat->J cL}:∀{r:U AV}{t:U Tree}{c:Array Value}{aa:Nat},k9 σ.obj fk os' r t->cX P β w I r c aa->cX P β' w (MI σ w0 w β I O0 fk os') (t.map AV.t) c aa
 |[],[],_,_,_,_=>trivial
 |x::xs,y::ys,c,aa,h,⟨⟨v,h1,h2,h3⟩,h4⟩=>⟨⟨v,h1,by simp only[VR];exact DK hr h.1 h2,h3⟩,MK hr h.2 h4⟩
 |[],_::_,_,_,h,_=>h.elim
 |_::_,[],_,_,h,_=>h.elim
theorem k9.length{get:Nat->J aT}{fk:J Nat}{os':U (Option eZ)}:∀{r:U AV}{t:U Tree},k9 get fk os' r t->t.length=r.length
 |[],[],_=>rfl
 |_::_,_::_,h=>by simp[k9.length h.2]
 |[],_::_,h=>h.elim
 |_::_,[],h=>h.elim
theorem AY(hr:Rel P w0 O0 N β I σ a w){fk:J Nat}{os':U (Option eZ)}{β':Nat->J cL}:∀{rs:U (List AV)}{ts:U (List Tree)}{c:Array Value}{aa sz:Nat},en σ.obj fk os' rs ts->br P β w I rs c aa sz->br P β' w (MI σ w0 w β I O0 fk os') (aI ts) c aa sz
 |[],[],_,_,_,_,_=>trivial
 |r::rs,t::ts,c,aa,sz,h,⟨h1,h2,h3⟩=>⟨by rw[length_map,h.1.length,h1],MK hr h.1 h2,AY hr h.2 h3⟩
 |[],_::_,_,_,_,h,_=>h.elim
 |_::_,[],_,_,_,h,_=>h.elim
theorem en.length{get:Nat->J aT}{fk:J Nat}{os':U (Option eZ)}:∀{rs:U (List AV)}{ts:U (List Tree)},en get fk os' rs ts->rs.length=ts.length
 |[],[],_=>rfl
 |_::_,_::_,h=>by simp only[bJ,h.2.length]
 |[],_::_,h=>h.elim
 |_::_,[],h=>h.elim
theorem KC(hr:Rel P w0 O0 N β I σ a w){fk:J Nat}{os':U (Option eZ)}{β':Nat->J cL}:∀{r:U AV}{t:U Tree}{vs:U Value},k9 σ.obj fk os' r t->aE P β w I r vs->aE P β' w (MI σ w0 w β I O0 fk os') (t.map AV.t) vs
 |[],[],[],_,_=>by simp[aE]
 |x::xs,y::ys,v::vs,h,hv=>by
  simp only[aE]at hv;simp only[aF,aE,VR];exact⟨DK hr h.1 hv.1,KC hr h.2 hv.2⟩
 |[],_::_,_,h,_=>h.elim
 |_::_,[],_,h,_=>h.elim
 |[],[],_::_,_,hv=>by simp[aE]at hv
 |_::_,_::_,[],_,hv=>by simp[aE]at hv
theorem G8(hr:Rel P w0 O0 N β I σ a w){fk:J Nat}{os':U (Option eZ)}{β':Nat->J cL}:∀{rs:U (List AV)}{ts:U (List Tree)}{es:U MapEntry},en σ.obj fk os' rs ts->cp P β w I rs es->cp P β' w (MI σ w0 w β I O0 fk os') (aI ts) es
 |[],[],[],_,_=>trivial
 |_::_,_::_,_::_,h,hm=>⟨KC hr h.1 hm.1,G8 hr h.2 hm.2⟩
 |[],_::_,_,h,_=>h.elim
 |_::_,[],_,h,_=>h.elim
 |[],[],_::_,_,hm=>hm.elim
 |_::_,_::_,[],_,hm=>hm.elim
theorem en.nil{get:Nat->J aT}{fk:J Nat}{os':U (Option eZ)}{t:U (List Tree)}(h:en get fk os' [] t):t=[]:=by
 cases t with
 |nil=>rfl
 |cons=>exact h.elim
theorem Vv(hr:Rel P w0 O0 N β I σ a w){F:Nat->Prop}{βi:Nat->J cL}{fk:J Nat}{os':U (Option eZ)}(hF:∀k o b,fk=some k->σ.obj k=some o->¬kept os' k->fh β k b->F b)(hi:∀j,kept os' j->β j=βi j){x:AV}{c:RC}{v:Value}
 (h:F0 σ.obj fk os' x c) (hv:VR P β w I x v):yf P F βi c w (MI σ w0 w β I O0 fk os') v:=by
 unfold F0 at h;split at h
 .rename_i cs ts;simp only[VR]at hv;obtain⟨vs,rfl,hv⟩:=hv;refine⟨vs,rfl,?_⟩;have:∀(cs:U AV)(ts:U Tree)(vs:U Value),k9 σ.obj fk os' cs ts->aE P β w I cs vs->eJ w (MI σ w0 w β I O0 fk os') ts vs:=by
   intro cs
   induction cs with
   |nil=>intro ts vs h hv;cases ts<;>cases vs<;>first |trivial |exact h.elim |(simp [aE]at hv)
   |cons x xs ih=>
    intro ts vs h hv;cases ts with
    |nil=>exact h.elim
    |cons t ts=>
     cases vs with
     |nil=>simp[aE]at hv
     |cons u us=>simp only[aE]at hv;exact⟨DK hr h.1 hv.1,ih ts us h.2 hv.2⟩
  exact this cs ts vs.toList h hv
 .exact DK hr h hv
 .subst h;simp only[VR]at hv;exact .inl ⟨rfl,hv⟩
 .rename_i k aa len sz rows;obtain⟨rfl,hnk,rfl,o,h1,rfl,h2,h3⟩:=h;simp only[VR]at hv;rcases hv with ⟨_,rfl,_,h4⟩ |⟨b,sz,n,cap,ad,h4,rfl,h5,h6,h7⟩
  .exact .inl ⟨List.eq_nil_of_length_eq_zero (by omega),rfl⟩
  .have⟨g1,g2,g3⟩:=hr.mem.own k o b sz n h1 h4;have⟨B,hB,sB⟩:=hr.mem.cE k o h1;rw[h4]at hB;cases hB;obtain⟨hs,c,e,hc',hn,sB⟩:=sB;refine .inr ⟨b,c,e,cap,ad,n.s,by rw[h3],hF k o b rfl h1 hnk (.at h4),λhI=>hI.2.2 ⟨k,.inl rfl,⟨o,h1⟩,.at h4⟩,hc',by omega,?_,?_,λhc=>by simpa using h7 hc⟩
   .rw[<- hs,hn];simpa using h6
   .rw[<- hs];exact AY hr h2 (br.take len _ _ _ _ sB)
 .rename_i k aa len j len';obtain⟨rfl,rfl,rfl,hk⟩:=h;show VR P βi w (MI σ w0 w β I O0 fk os') (.own k 0 len') v;simp only[VR]at hv ⊢;rw[<- hi k hk];exact hv
 .exact h.elim
theorem AZ{α:Type}(l:U α)(t:Nat):lk ((List.range l.length).zip l) t=l[t]? :=by
 have qk:∀(l:U α)(s t:Nat),(lk ((List.range' s l.length).zip l) t)=if s<=t/\t<s+l.length then l[t -s]? else none:=by
  intro l
  induction l with
  |nil=>intro s t;simp[lk]
  |cons x xs ih=>
   intro s t;simp only[bJ,List.range'_succ,List.zip_cons_cons,lk];by_cases hst:s=t
   .subst hst;simp
   .rw[aR hst,ih];by_cases hlt':s+1<=t/\t<s+1+xs.length
    .rw[aY hlt',aY (by omega),show t -s=(t -(s+1))+1 by omega];simp
    .rw[aR hlt',aR (by omega)]
 rw[List.range_eq_range',qk];by_cases ht:t<l.length
 .simp[ht]
 .rw[aR (by omega)];simp[List.getElem?_eq_none (Nat.le_of_not_lt ht)]
theorem Ps{x:AV}:∀{l:U AV},x∈l->∀k∈refs x,k∈eT l
 |[],h,_,_=>by simp at h
 |y::ys,h,k,hk=>by
  simp only[eT,aZ];rcases aN.1 h with rfl |h
  .exact .inl hk
  .exact .inr (Ps h k hk)
theorem ai5(hT : eY P T){f : FuncId}{fn : Func}{c : Code}{args : U AV}{os : U eZ}{os' : U (Option eZ)}{rv : RV}(hfn : P.funcs[f]? = some fn)(hb : fn.body = some c)(hname : (fn.name == "runtime.NumGoroutine") = false)(hN : args.length <= fn.ntmps)(hargs : ∀ k ∈ eT args, k < 1000)(hos : os.length <= 1000)(hlen : os'.length = os.length)
 (h:Ev P fn.ntmps c (apK T fn.results.toList rv os') (ry.st ⟨(List.range args.length).zip args,(List.range (os.map gO).length).zip (os.map gO)⟩)):qr P f args os os' rv:=by
 refine⟨⟨fn,hfn,by rw[hb];rfl,hname⟩,λw β I vs hβ hM hv=>?_⟩;have hvl:=aE.length _ _ hv;simp only[Array.length_toList]at hvl;have gA:∀k,lk ((List.range (os.map gO).length).zip (os.map gO)) k=sd os k:=λk=>by rw[AZ];simp[sd]
 refine calls_of_wp hfn hb ?_;have hrel:Rel P w (nk β I) fn.ntmps β I (ry.st ⟨(List.range args.length).zip args,(List.range (os.map gO).length).zip (os.map gO)⟩) { tmps:=vs++Array.replicate (fn.ntmps -vs.size) undef,defers:=[] } w:=by
  refine⟨rfl,by simp;omega,λt=>?_,?_⟩
  .simp only[ry.st,AZ,eK];by_cases ht:t<args.length
   .obtain⟨v,g1,g2⟩:=aE.get _ _ t _ hv (dL ht);rw[dL ht];simp only[Option.getD_some];have:(vs++Array.replicate (fn.ntmps -vs.size) undef).getD t undef=v:=by
     rw[Array.getElem?_toList]at g1;simp only[Array.getD_eq_getD_getElem?,Array.getElem?_append,show t<vs.size by omega,if_true,g1,Option.getD_some]
    rw[this];exact g2
   .rw[List.getElem?_eq_none (Nat.le_of_not_lt ht)];simp[VR]
  .have:(ry.st ⟨(List.range args.length).zip args,(List.range (os.map gO).length).zip (os.map gO)⟩).obj=sd os:=funext gA;rw[this];exact hM
 have hold:tE (ry.st ⟨(List.range args.length).zip args,(List.range (os.map gO).length).zip (os.map gO)⟩):=by
  refine⟨λ t k hk=>?_,λk o hk=>?_⟩
  .simp only[ry.st,AZ]at hk;cases ht:args[t]? with
   |none=>rw[ht]at hk;simp[refs]at hk
   |some x=>rw[ht]at hk;have:=hargs k (Ps (dh ht) k hk);omega
  .have hk:sd os k=some o:=(gA k).symm.trans hk;simp only[sd,dI]at hk;obtain⟨p,hp,rfl⟩:=hk;refine⟨by have:=(dG.1 hp).1;omega,λr hr x hx j hj=>?_⟩;simp only[gO,aI,mem_map]at hr;obtain⟨q,_,rfl⟩:=hr;simp only[mem_map]at hx;obtain⟨t,_,rfl⟩:=hx;simp[refs]at hj
 refine wp_mono (h w (nk β I) β I _ w hrel hold) ?_
 have fin:∀(a':Act) (w':World) (β':Nat->J cL) (I':Nat->Prop) (σ':St),Rel P w (nk β I) fn.ntmps β' I' σ' a' w'->(∃ xs fk,ny T σ' fn.results.toList=some xs/\FG σ'.obj fk os' xs rv/\Mm σ'.obj fk os')->
  a'.defers=[]/\∃v,(results fn a'.tmps).run P w'= .ok v w'/\Mn P w β I os' rv (.returned v) w':=by
  intro a' w' β' I' σ' hr ⟨xs,fk,hx,he,heo⟩;obtain⟨us,g1,g2⟩:=AX hT hr _ _ hx;have E3:=aE.length _ _ g2;have hm:=hr.mem;have hrun:(fn.results.mapM (Vt a'.tmps)).run P w'= .ok us.toArray w':=by rw[Array.mapM_eq_mapM_toList,Sem.run_map,g1];rfl
  have hko:∀j p,os'[j]? =some (some p)->∃B o,β j=some B/\β' j=some B/\σ'.obj j=some o/\OR P β' w' I' o B/\o.sz=p.1/\en σ'.obj fk os' (o.rows.take p.2.length) p.2:=by
   intro j p hj;have⟨_,o,e1,e2,e3⟩:=heo j p hj;have hjl:j<os.length:=(by rw[<- hlen];exact(dG.1 hj).1);obtain⟨B,hB,_⟩:=hM.cE j (gO os[j]) (by simp[sd,hjl]);have hB':=hm.anch j B (by simp only[nk];rw[aY (by omega)];exact hB);have⟨B',hB2,hO⟩:=hm.cE j o e1;rw[hB']at hB2;cases hB2;exact⟨B,o,hB,hB',e1,hO,e2,e3⟩
  have hkept:∀j,kept os' j->β' j=β j:=λj ⟨p,hp⟩=>by
   have⟨B,o,h1,h2,_⟩:=hko j p hp;rw[h1,h2]
  have pf:∀j o,Cm os' j=some o->∃p,os'[j]? =some (some p)/\o=gO p:=by
   intro j o hj;simp only[Cm,dI,Option.join_eq_some_iff]at hj;obtain⟨p,hp,rfl⟩:=hj;exact⟨p,hp,rfl⟩
  have qe:∀b,I b->¬U7 β b/\b<w.heap.size:=by
   intro b hb;refine⟨?_,hM.lt b hb⟩;rintro⟨j,B,hj,hB⟩;rcases Nat.lt_or_ge j os.length with hjl |hjl
   .exact(hM.ownB j (gO os[j]) B b (by simp[sd,hjl]) hj hB).1 hb
   .rw[hβ j hjl]at hj;cases hj
  have hOI:∀b,I b->MI σ' w w' β' I' (nk β I) fk os' b:=by
   intro b hb;have⟨g1,g2⟩:=qe b hb;refine⟨.inr (.inl hb),Nat.lt_of_lt_of_le g2 hm.le,?_⟩;rintro⟨k,_,⟨o,ho⟩,hβk⟩;rcases (hm.ix k o b ho hβk).2.2 with g |g
   .exact g1 g
   .omega
  have hmem:Mem P w (nk β I) β (MI σ' w w' β' I' (nk β I) fk os') (Cm os') w':=by
   constructor
   .intro j o hj;obtain⟨p,hp,rfl⟩:=pf j o hj;have⟨B,o1,b1,b2,b3,b4,b5,b6⟩:=hko j p hp;refine⟨B,b1,?_⟩;cases B with
    |none=>
     simp only[OR]at b4 ⊢;rw[b4]at b6;have:=en.nil (by simpa using b6);simp[gO,aI,this]
    | «at» b s n=>
     obtain⟨c1,c,e,c2,c3,c4⟩:=b4;refine⟨by rw[c1,b5];rfl,c,e,c2,c3,?_⟩;exact AY hr b6 (br.take _ _ _ _ _ c4)
    |mp b=>
     obtain⟨es,cl,c1,cl',c2,c3⟩:=b4;have hl:=b6.length;simp only[List.length_take]at hl;refine⟨es,cl,c1,by simp only[gO,aI,length_map];omega,λe=>?_,c3⟩;have e':p.1=p.2.length:=(by simpa[gO,aI]using e);rw[take_of_length_le (by omega)]at b6;exact G8 hr b6 (c2 (by omega))
   .intro j j' o o' B B' b h1 h2 h3 h4 h5 h6;obtain⟨p,hp,rfl⟩:=pf j o h1;obtain⟨p',hp',rfl⟩:=pf j' o' h2;have⟨_,o1,_,_,b3,_⟩:=hko j p hp;have⟨_,o1',_,_,b3',_⟩:=hko j' p' hp';rw[<- hkept j ⟨p,hp⟩]at h3;rw[<- hkept j' ⟨p',hp'⟩]at h4;exact hm.gz j j' o1 o1' B B' b b3 b3' h3 h4 h5 h6
   .intro j o B b h1 h2 h5;obtain⟨p,hp,rfl⟩:=pf j o h1;have⟨_,o1,_,_,b3,_⟩:=hko j p hp;rw[<- hkept j ⟨p,hp⟩]at h2;have⟨_,c2,c3⟩:=hm.ownB j o1 B b b3 h2 h5;exact⟨λ hb=>hb.2.2 ⟨j,.inr ⟨p,hp⟩,⟨o1,b3⟩,B,h2,h5⟩,c2,c3⟩
   .exact λb hb=>hb.2.1
   .intro b hb;rcases hb.1 with g |g |g |g
    .exact hm.up b g
    .exact .inl g
    .exact .inr (.inr g)
    .exact .inr (.inl g)
   .exact hm.keep
   .exact hm.le
   .exact hm.os
   .exact hm.tape
   .exact hm.output
   .intro j B hj;simp only[nk]at hj;split at hj
    .exact hj
    .cases hj
   .exact hM.vars.mono (λ b hb=>hm.keep b (qe b hb).2 (qe b hb).1) hOI
  have hF:∀k o b,fk=some k->σ'.obj k=some o->¬kept os' k->fh β' k b->AC w β os' b:=by
   intro k o b _ h2 h3 h4;refine⟨(hm.ix k o b h2 h4).2.2,λj o' h5 h6=>?_⟩;obtain⟨p,hp,rfl⟩:=pf j o' h5;have⟨_,o1,_,_,b3,_⟩:=hko j p hp;have h6':fh β' j b:=by
    obtain⟨B,e1,e2⟩:=h6;exact⟨B,by rw[hkept j ⟨p,hp⟩];exact e1,e2⟩
   have:=hm.lv k j o o1 b h2 b3 h4 h6';subst this;exact h3 ⟨p,hp⟩
  have ret:∀v,rx P (AC w β os') β rv w' (MI σ' w w' β' I' (nk β I) fk os') v->Mn P w β I os' rv (.returned v) w':=λv hv'=>⟨v,_,rfl,hmem,hOI,hv'⟩;refine⟨hr.defers,?_⟩;have hlist:∀(xs:U AV)(cs:U RC)(us:U Value),nj σ'.obj fk os' xs cs->aE P β' w' I' xs us->Sg P (AC w β os') β cs w' (MI σ' w w' β' I' (nk β I) fk os') us:=by
   intro xs
   induction xs with
   |nil=>intro cs us h1 h2;cases cs<;>cases us<;>first |trivial |exact h1.elim |(simp [aE]at h2)
   |cons x xs ih=>
    intro cs us h1 h2;cases cs with
    |nil=>exact h1.elim
    |cons c cs=>
     cases us with
     |nil=>simp[aE]at h2
     |cons u us=>simp only[aE]at h2;exact⟨Vv hr hF hkept h1.1 h2.1,ih cs us h1.2 h2.2⟩
  simp only[Vu,Sem.run_bind,hrun,Result.andThen_ok,Sem.run_pure];refine⟨_,rfl,ret _ ?_⟩
  match xs,us,rv,he,g2 with
  |[x],[u],.one c,he,g2=>
   simp only[aE]at g2;simpa[rx]using Vv hr hF hkept he g2.1
  |x::y::r,u::u'::us,.eE cs,he,g2=>
   have:=hlist _ _ _ he g2;rw[dif_neg (by simp)];exact⟨_,rfl,by simpa using this⟩
  |[],[],.eE cs,he,g2=>
   simp only[FG]at he;subst he;rw[dif_neg (by simp)];exact⟨_,rfl,trivial⟩
  |[x],[u],.eE cs,he,_=>exact he.elim
  |[],_,.one c,he,_=>exact he.elim
  |x::y::r,_,.one c,he,_=>exact he.elim
  |[],_::_,.eE _,_,g2=>simp[aE]at g2
  |[_],[],_,_,g2=>simp[aE]at g2
  |[_],_::_::_,_,_,g2=>simp[aE]at g2
  |_::_::_,[],_,_,g2=>simp[aE]at g2
  |_::_::_,[_],_,_,g2=>simp[aE]at g2
 rintro e a' w' ⟨β',I',σ',h1,h2,h3⟩;cases e with
 |normal=>exact fin a' w' β' I' σ' h1 h3
 |ret=>exact fin a' w' β' I' σ' h1 h3
 |_=>exact h3.elim
def Mb(P:Program)(get:Nat->J aT)(xs:U AV)(os':U (Nat×aT))(rv:AV):Prop:=
 ∀(w0:World) (O0:j9) (β:Nat->J cL) (I:Nat->Prop) (w:World) (vs:Array Value),Mem P w0 O0 β I get w->aE P β w I xs vs.toList->∃ β' I',Mem P w0 O0 β' I' (oa os') w/\(∀ b,I b->I' b)/\VR P β' w I' rv (if h:vs.size=1 then vs[0]else .tuple vs)
def apd(P:Program)(T:eb)(rs:U ResultVar)(rv:AV)(os':U (Nat×aT)):Exit->St->Prop
 | .normal,σ=>∃xs,ny T σ rs=some xs/\Mb P σ.obj xs os' rv
 | .ret,σ=>∃xs,ny T σ rs=some xs/\Mb P σ.obj xs os' rv
 |_,_=>False
theorem ai6(hT : eY P T){f : FuncId}{fn : Func}{c : Code}{args : U AV}{os : U aT}{os' : U (Nat × aT)}{rv : AV}(hfn : P.funcs[f]? = some fn)(hb : fn.body = some c)(hname : (fn.name == "runtime.NumGoroutine") = false)(hN : args.length <= fn.ntmps)(hargs : ∀ k ∈ eT args, k < 1000)(hos : os.length <= 1000)
 (R1:∀o∈os,∀r∈o.rows,∀x∈r,∀j∈refs x,j<1000)
 (h:Ev P fn.ntmps c (apd P T fn.results.toList rv os') (ry.st ⟨(List.range args.length).zip args,(List.range os.length).zip os⟩)):yi P f args os os' rv:=by
 refine⟨⟨fn,hfn,by rw[hb];rfl,hname⟩,λw β I vs hβ hM hv=>?_⟩;have hvl:=aE.length _ _ hv;simp only[Array.length_toList]at hvl;have gA:∀k,lk ((List.range os.length).zip os) k=rS os k:=λk=>by rw[AZ];rfl
 refine calls_of_wp hfn hb ?_;have hrel:Rel P w (nk β I) fn.ntmps β I (ry.st ⟨(List.range args.length).zip args,(List.range os.length).zip os⟩) { tmps:=vs++Array.replicate (fn.ntmps -vs.size) undef,defers:=[] } w:=by
  refine⟨rfl,by simp;omega,λt=>?_,?_⟩
  .simp only[ry.st,AZ,eK];by_cases ht:t<args.length
   .obtain⟨v,g1,g2⟩:=aE.get _ _ t _ hv (dL ht);rw[dL ht];simp only[Option.getD_some];have:(vs++Array.replicate (fn.ntmps -vs.size) undef).getD t undef=v:=by
     rw[Array.getElem?_toList]at g1;simp only[Array.getD_eq_getD_getElem?,Array.getElem?_append,show t<vs.size by omega,if_true,g1,Option.getD_some]
    rw[this];exact g2
   .rw[List.getElem?_eq_none (Nat.le_of_not_lt ht)];simp[VR]
  .have:(ry.st ⟨(List.range args.length).zip args,(List.range os.length).zip os⟩).obj=rS os:=funext gA;rw[this];exact hM
 have hold:tE (ry.st ⟨(List.range args.length).zip args,(List.range os.length).zip os⟩):=by
  refine⟨λ t k hk=>?_,λk o hk=>?_⟩
  .simp only[ry.st,AZ]at hk;cases ht:args[t]? with
   |none=>rw[ht]at hk;simp[refs]at hk
   |some x=>rw[ht]at hk;have:=hargs k (Ps (dh ht) k hk);omega
  .have hk:rS os k=some o:=(gA k).symm.trans hk;simp only[rS]at hk;refine⟨by have:=(dG.1 hk).1;omega,λr hr x hx j hj=>?_⟩;have:=R1 o (dh hk) r hr x hx j hj;omega
 refine wp_mono (h w (nk β I) β I _ w hrel hold) ?_
 have fin:∀(a':Act) (w':World) (β':Nat->J cL) (I':Nat->Prop) (σ':St),Rel P w (nk β I) fn.ntmps β' I' σ' a' w'->(∃ xs,ny T σ' fn.results.toList=some xs/\Mb P σ'.obj xs os' rv)->
  a'.defers=[]/\∃v,(results fn a'.tmps).run P w'= .ok v w'/\UP P w β I os' rv (.returned v) w':=by
  intro a' w' β' I' σ' hr ⟨xs,hx,he⟩;obtain⟨us,g1,g2⟩:=AX hT hr _ _ hx;have hrun:(fn.results.mapM (Vt a'.tmps)).run P w'= .ok us.toArray w':=by rw[Array.mapM_eq_mapM_toList,Sem.run_map,g1];rfl
  have qe:∀b,I b->¬U7 β b/\b<w.heap.size:=by
   intro b hb;refine⟨?_,hM.lt b hb⟩;rintro⟨j,B,hj,hB⟩;rcases Nat.lt_or_ge j os.length with hjl |hjl
   .exact(hM.ownB j os[j] B b (by simp[rS,hjl]) hj hB).1 hb
   .rw[hβ j hjl]at hj;cases hj
  obtain⟨β2,I2,hm,hI2,hv2⟩:=he w (nk β I) β' I' w' us.toArray hr.mem (by simpa using g2);have hmem:Mem P w (nk β I) β2 (λ b=>I2 b\/I b) (oa os') w':=by
   constructor
   .intro k o hk;have⟨B,hB,hO⟩:=hm.cE k o hk;exact⟨B,hB,OR.mono (λ _ _ h=>h) (λ _ _=>rfl) (λ b hb=> .inl hb) (λ _ _=>rfl) hO⟩
   .exact hm.gz
   .intro k o B b h1 h2 h3;have⟨a1,a2,a3⟩:=hm.ownB k o B b h1 h2 h3;refine⟨?_,a2,a3⟩;rintro (hb |hb)
    .exact a1 hb
    .have⟨c1,c2⟩:=qe b hb;rcases a3 with a3 |a3
     .exact c1 a3
     .omega
   .rintro b (hb |hb)
    .exact hm.lt b hb
    .exact Nat.lt_of_lt_of_le (qe b hb).2 hm.le
   .rintro b (hb |hb)
    .exact hm.up b hb
    .exact .inl hb
   .exact hm.keep
   .exact hm.le
   .exact hm.os
   .exact hm.tape
   .exact hm.output
   .exact hm.anch
   .exact hm.vars.mono (λ _ _=>rfl) (λ b hb=> .inl hb)
  refine⟨hr.defers,?_⟩;simp only[Vu,Sem.run_bind,hrun,Result.andThen_ok,Sem.run_pure];exact⟨_,rfl,_,β2,_,rfl,hmem,λb hb=> .inr hb,VR.mono (λ _ _ h=>h) (λ _ _=>rfl) (λ b hb=> .inl hb) _ _ hv2⟩
 rintro e a' w' ⟨β',I',σ',h1,h2,h3⟩;cases e with
 |normal=>exact fin a' w' β' I' σ' h1 h3
 |ret=>exact fin a' w' β' I' σ' h1 h3
 |_=>exact h3.elim
theorem rx.Hi{F F':Nat->Prop}{βi:Nat->J cL}{w':World}{I':Nat->Prop}(hF:∀b,F b->F' b){rv:RV}{v:Value}(h:rx P F βi rv w' I' v):rx P F' βi rv w' I' v:=by
 have hc:∀(c:RC)(v:Value),yf P F βi c w' I' v->yf P F' βi c w' I' v:=by
  intro c v h;cases c with
  |d x=>exact h
  |fresh sz rows=>
   rcases h with h |⟨b,c,e,cap,o,s,h1,h2,h3⟩
   .exact .inl h
   .exact .inr ⟨b,c,e,cap,o,s,h1,hF b h2,h3⟩
  |whole j len=>exact h
 cases rv with
 |one c=>exact hc c v h
 |eE cs=>
  obtain⟨vs,rfl,h⟩:=h;refine⟨vs,rfl,?_⟩;have:∀(cs:U RC)(vs:U Value),Sg P F βi cs w' I' vs->Sg P F' βi cs w' I' vs:=by
   intro cs
   induction cs with
   |nil=>intro vs h;cases vs with
    |nil=>trivial
    |cons=>exact h.elim
   |cons c cs ih=>intro vs h;cases vs with
    |nil=>exact h.elim
    |cons v vs=>exact⟨hc c v h.1,ih vs h.2⟩
  exact this cs vs.toList h
theorem ML{f:FuncId}{args:U AV}{rv:RV}(h:qr P f args [] [] rv):rh P f args rv:=by
 refine⟨h.1,λw I vs hlt hgv hv=>?_⟩;have hM:Mem P w (nk ma I) ma I (sd []) w:=by
  refine⟨λ k o hk=>by simp[sd]at hk,λk k' o o' B B' b hk=>by simp[sd]at hk,λk o B b hk=>by simp[sd]at hk,hlt,λb hb=> .inl hb,λ_ _ _=>rfl,aC _,rfl,rfl,rfl,λj B hj=>?_,hgv⟩;simp only[nk,ma,ite_self]at hj;cases hj
 refine(h.2 w ma I vs (λ _ _=>rfl) hM hv).mono ?_;rintro e w' ⟨v,I',rfl,g1,g2,g3⟩;have hno:∀b,¬(nk ma I).own b:=λb ⟨j,B,hj,_⟩=>by cases hj
 refine⟨v,I',rfl,⟨g1.os,g1.tape,g1.output,g1.le,λb hb=>g1.keep b hb (hno b)⟩,g2,g1.lt,λb hb=>?_,rx.Hi (λ b hb=>?_) g3⟩
 .rcases g1.up b hb with h |h |h
  .exact .inl h
  .exact(hno b h).elim
  .exact .inr h
 .rcases hb.1 with h |h
  .exact(hno b h).elim
  .exact h
end
open Go.RowKit Go.WideShapes Go.ChangeShapes
inductive CS where
 |int (k:IntKind)
 |bool
 |str
 |sl (row:List CS)
 |any
  |mu (row:List CS)
 |back
def apL:CS->Tree->Prop
 | .int k,x=>∃n,x= .sc (.int k n)/\(Lit.int k n).wf=true
 | .bool,x=>∃b,x= .sc (.bool b)
 | .str,x=>∃s,x= .sc (.string s)/\s.size<=maxLen
 |_,_=>False
def ape:CS->Nat
 | .int .i64=>8
 | .int _=>1
 | .bool=>1
 | .str=>16
 |_=>24
def N3:CS->Nat
 | .int .i64=>8
 | .int _=>1
 | .bool=>1
 |_=>8
def Wf:Nat->U CS->Nat
 |o,[]=>o
 |o,c::cs=>Wf ((o+(N3 c -1))/N3 c*N3 c+ape c) cs
def JT(r:U CS):Nat:=bif r.any (λ c=>N3 c==8)then(Wf 0 r+7)/8*8 else Wf 0 r
mutual
inductive GM(row:List CS):Tree->Prop
 |mk (rows:List (List Tree)) (hl:rows.length<=maxLen) (h:px row rows):GM row (.sl rows)
inductive px(row:List CS):List (List Tree)->Prop
 |nil:px row []
 |cons {r:List Tree} {rs:List (List Tree)} (h:jz row row r) (t:px row rs):px row (r::rs)
inductive jz(row:List CS):List CS->List Tree->Prop
 |nil:jz row [] []
 |back {cs:List CS} {x:Tree} {xs:List Tree} (h:GM row x) (t:jz row cs xs):jz row (.back::cs) (x::xs)
 |one {c:CS} {cs:List CS} {x:Tree} {xs:List Tree} (h:apL c x) (t:jz row cs xs):jz row (c::cs) (x::xs)
end
mutual
def Fit:CS->Tree->Prop
 | .int k,x=>∃n,x= .sc (.int k n)/\(Lit.int k n).wf=true
 | .bool,x=>∃b,x= .sc (.bool b)
 | .str,x=>∃s,x= .sc (.string s)/\s.size<=maxLen
 | .sl row,x=>∃rows,x= .sl rows/\(rows.length<=maxLen/\rows.length*JT row<=reachBytes)/\∀r∈rows,c9 row r
 | .any,_=>True
 | .mu row,x=>GM row x
 | .back,_=>False
def c9:List CS->List Tree->Prop
 |[],[]=>True
 |c::cs,x::xs=>Fit c x/\c9 cs xs
 |_,_=>False
end
mutual
def nq:Tree->Nat
 | .sc (.string s)=>s.size+1
 | .sc _=>1
 | .sl rows=>A7 rows+1
def A7:List (List Tree)->Nat
 |[]=>0
 |r::rs=>jG r+A7 rs
def jG:List Tree->Nat
 |[]=>0
 |x::xs=>nq x+jG xs
end
theorem zY:∀a b:U Tree,jG (a++b)=jG a+jG b
 |[],b=>by simp[jG]
 |x::a,b=>by simp only[cons_append,jG,zY a b];omega
structure Bk(H:Type) where
 b:DataW H->Nat
 a:List (DataW H)->Nat
 str:∀l,b (.lit (.string l))=l.length+1
 int:∀k n,b (.lit (.int k n))=1
 bool:∀v,b (.lit (.bool v))=1
 nil:b .nil=1
 sl:∀e s,b (.slice e s)=a e+a s+1
 agg:∀p,b (.agg p)=a p+1
 a0:a []=0
 a1:∀d r,a (d::r)=b d+a r
theorem Bk.app{H:Type}(K:Bk H)(l r:U (DataW H)):K.a (l++r)=K.a l+K.a r:=by
 induction l with
 |nil=>simp[K.a0]
 |cons x l ih=>simp only[cons_append,K.a1,ih];omega
theorem Bk.drop{H:Type}(K:Bk H){l:U (DataW H×List MemPlace)}{j:Nat}{y:DataW H×List MemPlace}(h:l[j]? =some y):K.a ((l.map (·.1)).drop j)=K.b y.1+K.a ((l.map (·.1)).drop (j+1)):=by
 obtain⟨hj,rfl⟩:=dG.1 h;rw[List.drop_eq_getElem_cons (by simpa using hj),K.a1];simp
def xF(P:Program)(go:TypeId->J (List CS)):Nat->U Field->J (List CS)
 |_,[]=>some []
 |o,f::fs=>(go f.type).bind λa=>if f.offset=o/\a.length=P.cellsOf f.type then(xF P go (o+a.length) fs).map (a++ ·)else none
def Z3(P:Program)(t u:TypeId):J (List CS):=if u=t then some [.back]else match P.underlying u with
 |some (.int k)=>some [.int k]
 |some .bool=>some [.bool]
 |some .string=>some [.str]
 |_=>none
def N2(P:Program)(t e:TypeId):J (List CS):=match P.underlying e with
 |some (.struct fs)=>(xF P (Z3 P t) 0 fs.toList).bind λr=>if r.length=P.cellsOf e/\0<r.length then some r else none
 |_=>none
def yn(P:Program)(cut:U TypeId):Nat->TypeId->J (List CS)
 | 0,_=>none
 |n+1,t=>match P.underlying t with
  |some (.int k)=>some [.int k]
  |some .bool=>some [.bool]
  |some .string=>some [.str]
  |some (.slice e)=>if cut.contains t then(match N2 P t e with |some row=>some [.mu row] |none=>some [.any])else(yn P cut n e).bind λr=>if r.length=P.cellsOf e/\0<r.length/\JT r<=P.bytesOf e then some [.sl r]else none
  |some (.struct fs)=>(xF P (yn P cut n) 0 fs.toList).bind λr=>if r.length=P.cellsOf t then some r else none
  |some (.array m e)=>(yn P cut n e).bind λr=>if r.length=P.cellsOf e/\m*r.length=P.cellsOf t then some (List.replicate m r).flatten else none
  |_=>none
theorem c9.length:∀(cs:U CS)(ts:U Tree),c9 cs ts->ts.length=cs.length
 |[],[],_=>rfl
 |c::cs,x::xs,h=>by simp only[c9]at h;simp[c9.length cs xs h.2]
 |[],_::_,h=>by simp[c9]at h
 |_::_,[],h=>by simp[c9]at h
theorem c9.append:∀(cs:U CS)(ts:U Tree){cs':U CS}{ts':U Tree},c9 cs ts->c9 cs' ts'->c9 (cs++cs') (ts++ts')
 |[],[],_,_,_,h=>h
 |c::cs,x::xs,_,_,h,h'=>by simp only[c9,cons_append]at h ⊢;exact⟨h.1,c9.append cs xs h.2 h'⟩
 |[],_::_,_,_,h,_=>by simp[c9]at h
 |_::_,[],_,_,h,_=>by simp[c9]at h
def Here(w:World)(b:Nat):Prop:=b<w.heap.size
section
variable {w:World} {I:Nat->Prop}
theorem eJ.append:∀(ts:U Tree)(cs:U Value){ts':U Tree}{cs':U Value},eJ w I ts cs->eJ w I ts' cs'->eJ w I (ts++ts') (cs++cs')
 |[],[],_,_,_,h=>h
 |_::xs,_::vs,_,_,h,h'=>⟨h.1,eJ.append xs vs h.2 h'⟩
 |[],_::_,_,_,h,_=>h.elim
 |_::_,[],_,_,h,_=>h.elim
theorem eJ.length:∀(ts:U Tree)(cs:U Value),eJ w I ts cs->ts.length=cs.length
 |[],[],_=>rfl
 |_::xs,_::vs,h=>by simp[eJ.length xs vs h.2]
 |[],_::_,h=>h.elim
 |_::_,[],h=>h.elim
theorem abl:∀(ts:U Tree)(cs:U Value)(b aa:Nat),eJ w I ts cs->(∀ i,i<cs.length->w.cell? ⟨b,aa+i,none⟩=cs[i]?)->dt w I ts b aa
 |[],[],_,_,_,_=>by simp[dt]
 |x::xs,v::vs,b,aa,h,hc=>by
  simp only[dt];refine⟨⟨v,by simpa using hc 0 (by simp),h.1⟩,abl xs vs b (aa+1) h.2 λi hi=>?_⟩;have:=hc (i+1) (by simpa using hi);rw[show aa+(i+1)=aa+1+i by omega]at this;simpa using this
 |[],_::_,_,_,h,_=>h.elim
 |_::_,[],_,_,h,_=>h.elim
end
section
variable {H:Type} {enc:TypeId×Value->H} {P:Program} {w:World} {sp:Nat->Bool} {held:Bool}
theorem Pv{a:Addr}{v:Value}(h:w.cell? a=some v):a.spot=none/\a.block<w.heap.size:=by
 simp only[World.cell?]at h;split at h
 .rename_i c e st hc;split at h
  .cases h
  .rename_i hs;exact⟨by simpa using hs,(Array.getElem?_eq_some_iff.1 hc).1⟩
 .cases h
def PB(P:Program)(t:TypeId)(x:DataW H×List MemPlace):Prop:=∀k∈x.1.weights P t,k<=reachBytes
theorem yG{e:TypeId}:∀{l:U (DataW H)}{d:DataW H},d∈l->∀k∈d.weights P e,k∈DataW.weightsAll P e l
 |a::l,d,h,k,hk=>by
  simp only[DataW.weightsAll,aZ];rcases aN.1 h with rfl |h
  .exact .inl hk
  .exact .inr (yG h k hk)
theorem Rn(m:Nat)(cs:U Value)(go:TypeId->J (List CS))(hgo:∀t sh,go t=some sh->∀cs x,DataW.trod enc P w 0 sp held m t cs=some x->PB P t x->∃ts,eJ w (Here w) ts cs/\c9 sh ts/\∀K:Bk H,jG ts<=K.b x.1):
 ∀(fs:U Field)(l:U (DataW H×List MemPlace))(o:Nat)(sh:U CS),xF P go o fs=some sh->l.length=fs.length->(∀ (i:Nat) (f:Field) (x:DataW H×List MemPlace),fs[i]? =some f->l[i]? =some x->DataW.trod enc P w 0 sp held m f.type ((cs.drop f.offset).take (P.cellsOf f.type))=some x/\PB P f.type x)->
  ∃ts,eJ w (Here w) ts ((cs.drop o).take sh.length)/\c9 sh ts/\∀K:Bk H,jG ts<=K.a (l.map (·.1))
 |[],l,o,sh,h,_,_=>by
  simp only[xF,aA]at h;subst h;exact⟨[],by simp[eJ],by simp[c9],λK=>by simp[jG]⟩
 |f::fs,[],o,sh,h,hl,hf=>by simp at hl
 |f::fs,x::l,o,sh,h,hl,hf=>by
  simp only[xF,ai]at h;obtain⟨a,h1,h2⟩:=h;split at h2
  .rename_i hc;obtain⟨hc1,hc2⟩:=hc;simp only[dI]at h2;obtain⟨r,h3,rfl⟩:=h2;have⟨hx,hz⟩:=hf 0 f x rfl rfl;obtain⟨ts,g1,g2,k1⟩:=hgo _ _ h1 _ _ hx hz;obtain⟨ts',g3,g4,k2⟩:=Rn m cs go hgo fs l _ _ h3 (by simpa using hl) λi f' x' hf' hx'=>hf (i+1) f' x' hf' hx';refine⟨ts++ts',?_,c9.append _ _ g2 g4,λK=>by have:=k1 K;have:=k2 K;rw[zY,aF,K.a1];omega⟩;rw[dM,List.take_add,List.drop_drop];rw[hc1,<- hc2]at g1;exact eJ.append _ _ g1 g3
  .cases h2
theorem jz.append{row:U CS}:∀{a b:U CS}{x y:U Tree},jz row a x->jz row b y->jz row (a++b) (x++y)
 |_,_,_,_,.nil,h=>h
 |_,_,_,_,.back h t,h'=> .back h (t.append h')
 |_,_,_,_,.one h t,h'=> .one h (t.append h')
theorem MN{row:U CS}(m:Nat)(cs:U Value)(go:TypeId->J (List CS))(hgo:∀t sh,go t=some sh->∀cs x,DataW.trod enc P w 0 sp held m t cs=some x->∃ts,eJ w (Here w) ts cs/\jz row sh ts/\∀K:Bk H,jG ts<=K.b x.1):
 ∀(fs:U Field)(l:U (DataW H×List MemPlace))(o:Nat)(sh:U CS),xF P go o fs=some sh->l.length=fs.length->(∀ (i:Nat) (f:Field) (x:DataW H×List MemPlace),fs[i]? =some f->l[i]? =some x->DataW.trod enc P w 0 sp held m f.type ((cs.drop f.offset).take (P.cellsOf f.type))=some x)->
  ∃ts,eJ w (Here w) ts ((cs.drop o).take sh.length)/\jz row sh ts/\∀K:Bk H,jG ts<=K.a (l.map (·.1))
 |[],l,o,sh,h,_,_=>by
  simp only[xF,aA]at h;subst h;exact⟨[],by simp[eJ],.nil,λK=>by simp[jG]⟩
 |f::fs,[],o,sh,h,hl,hf=>by simp at hl
 |f::fs,x::l,o,sh,h,hl,hf=>by
  simp only[xF,ai]at h;obtain⟨a,h1,h2⟩:=h;split at h2
  .rename_i hc;obtain⟨hc1,hc2⟩:=hc;simp only[dI]at h2;obtain⟨r,h3,rfl⟩:=h2;have hx:=hf 0 f x rfl rfl;obtain⟨ts,g1,g2,k1⟩:=hgo _ _ h1 _ _ hx;obtain⟨ts',g3,g4,k2⟩:=MN m cs go hgo fs l _ _ h3 (by simpa using hl) λi f' x' hf' hx'=>hf (i+1) f' x' hf' hx';refine⟨ts++ts',?_,g2.append g4,λK=>by have:=k1 K;have:=k2 K;rw[zY,aF,K.a1];omega⟩;rw[dM,List.take_add,List.drop_drop];rw[hc1,<- hc2]at g1;exact eJ.append _ _ g1 g3
  .cases h2
theorem amZ{t e:TypeId}{row:U CS}(hk:P.underlying t=some (.slice e))(hm:N2 P t e=some row):∀(fuel:Nat)(cs:U Value)(x:DataW H×List MemPlace),DataW.trod enc P w 0 sp held fuel t cs=some x->∃tr,eJ w (Here w) [tr] cs/\GM row tr/\∀K:Bk H,nq tr<=K.b x.1:=by
 intro fuel
 induction fuel using Nat.strongRecOn with
 |_ fuel ih=>
 intro cs x hx;have one:∀m,m<fuel->∀tz y,DataW.trod enc P w 0 sp held m e tz=some y->∃ts,eJ w (Here w) ts tz/\jz row row ts/\ts.length=row.length/\∀K:Bk H,jG ts<=K.b y.1:=by
  intro m hmf tz y hy;unfold N2 at hm;split at hm
  .rename_i fs hke;simp only[ai]at hm;obtain⟨r,h1,h2⟩:=hm;split at h2
   .rename_i hr;injection h2 with h2;subst h2;obtain⟨xs,m',hm',rfl,hl,hxs,hf⟩:=DataW.trod_struct hke hy;obtain⟨ts,g1,g2,k1⟩:=MN (row:=r) m' tz (Z3 P t) (λ u sh hsh cs x hx=>by
     unfold Z3 at hsh;split at hsh
     .rename_i hu;cases hsh;rw[hu]at hx;obtain⟨tr,a1,a2,a3⟩:=ih m' (by omega) cs x hx;exact⟨[tr],a1,.back a2 .nil,λK=>by have:=a3 K;simp only[jG];omega⟩
     .split at hsh
      .rename_i k By;cases hsh;obtain⟨v,rfl,rfl,hw⟩:=DataW.trod_int By hx;exact⟨[.sc (.int k v)],by simp[eJ,TR,oneCell],.one ⟨v,rfl,hw⟩ .nil,λK=>by simp[jG,nq,K.int]⟩
      .rename_i By;cases hsh;obtain⟨v,rfl,rfl⟩:=DataW.trod_bool By hx;exact⟨[.sc (.bool v)],by simp[eJ,TR,oneCell],.one ⟨v,rfl⟩ .nil,λK=>by simp[jG,nq,K.bool]⟩
      .rename_i By;cases hsh;obtain⟨v,rfl,rfl,hw⟩:=DataW.trod_string By hx;exact⟨[.sc (.string v)],by simp[eJ,TR,oneCell],.one ⟨v,rfl,hw⟩ .nil,λK=>by simp[jG,nq,K.str]⟩
      .cases hsh) fs.toList xs 0 r h1 (by simpa using hxs) (λ i f x hi hxi=>by
     have hi':fs[i]? =some f:=(by simpa using hi);rw[hf i f hi',hxi])
    rw[List.drop_zero,take_of_length_le (by omega)]at g1;refine⟨ts,g1,g2,?_,λK=>by have:=k1 K;rw[K.agg];omega⟩;rw[eJ.length _ _ g1];omega
   .cases h2
  .cases hm
 have rl:row.length=P.cellsOf e/\0<row.length:=by
  unfold N2 at hm;split at hm
  .simp only[ai]at hm;obtain⟨r,h1,h2⟩:=hm;split at h2
   .rename_i hr;cases h2;exact hr
   .cases h2
  .cases hm
 rcases DataW.trod_slice hk hx with ⟨rfl,rfl⟩ |⟨a,len,cap,elems,ag,m,hfm,rfl,rfl,_,hl,hmx,hlen,hel,_,_⟩
 .refine⟨.sl [],?_,.mk [] (by simp[maxLen]) .nil,λK=>by simp[nq,A7,K.nil]⟩;simp only[eJ,TR];exact⟨.inl ⟨trivial,none,0,rfl,λ_=>rfl⟩,trivial⟩
 .have each:∀i,i<len->∃tz y,w.cells? 0 (a.add (i*P.cellsOf e)) (P.cellsOf e)=some tz/\DataW.trod enc P w 0 sp held m e tz=some y/\elems[i]? =some y:=by
   intro i hi;have h3:=hel i hi;have h6:elems[i]? =some (elems[i]'(by omega)):=dL (by omega);rw[h6,ai]at h3;obtain⟨tz,h4,h5⟩:=h3;exact⟨tz,_,h4,h5,h6⟩
  by_cases h0:len=0
  .subst h0;refine⟨.sl [],?_,.mk [] (by simp[maxLen]) .nil,λK=>by simp[nq,A7,K.sl]⟩;simp only[eJ,TR];exact⟨.inl ⟨trivial,some a,cap,rfl,λh=>by cases h⟩,trivial⟩
  .obtain⟨cs0,y0,c0,_,_⟩:=each 0 (by omega);obtain⟨_,c1,c2⟩:=World.cells?_some c0;have c3:=c2 0 (by omega);rw[dL (by omega)]at c3;have c4:=Pv c3;simp only[Nat.zero_mul,Addr.add,if_true]at c4;obtain⟨b,aa,s⟩:=a;simp only at c4;obtain⟨rfl,hb⟩:=c4;have rows:∀q j,j+q=len->∃rows:U (List Tree),rows.length=q/\ct w (Here w) rows b (aa+j*P.cellsOf e) (P.cellsOf e)/\px row rows/\∀K:Bk H,A7 rows<=K.a ((elems.map (·.1)).drop j):=by
    intro q
    induction q with
    |zero=>intro j _;exact⟨[],rfl,by simp[ct],.nil,λK=>by simp[A7]⟩
    |succ q ihq=>
     intro j hj;obtain⟨rows,g1,g2,g3,k3⟩:=ihq (j+1) (by omega);obtain⟨csj,y,g4,g5,gy⟩:=each j (by omega);obtain⟨ts,g6,g7,_,k6⟩:=one m (by omega) _ _ g5;obtain⟨_,g8,g9⟩:=World.cells?_some g4;refine⟨ts::rows,by simp[g1],?_,.cons g7 g3,λK=>by have:=k3 K;have:=k6 K;rw[K.drop gy,A7];omega⟩;simp only[ct];refine⟨(eJ.length _ _ g6).trans g8,abl _ _ _ _ g6 λi hi=>?_,?_⟩
     .rw[<- g9 i (by omega),addr_add,addr_add]
     .rw[show aa+j*P.cellsOf e+P.cellsOf e=aa+(j+1)*P.cellsOf e by rw[Nat.add_mul];omega];exact g2
   obtain⟨rows,g1,g2,g3,k3⟩:=rows len 0 (by omega);refine⟨.sl rows,?_,.mk rows (by omega) g3,λK=>by have:=k3 K;rw[List.drop_zero]at this;rw[K.sl,nq];omega⟩;simp only[eJ,TR];exact⟨.inr ⟨b,aa,cap,P.cellsOf e,by rw[g1],by omega,hb,by simpa using g2⟩,trivial⟩
theorem DL{cut:U TypeId}:∀(n:Nat)(t:TypeId)(sh:U CS),yn P cut n t=some sh->∀(fuel:Nat)(cs:U Value)(x:DataW H×List MemPlace),DataW.trod enc P w 0 sp held fuel t cs=some x->PB P t x->
 ∃ts,eJ w (Here w) ts cs/\c9 sh ts/\∀K:Bk H,jG ts<=K.b x.1
 | 0,_,_,h,_,_,_,_,_=>by simp[yn]at h
 |n+1,t,sh,h,fuel,cs,x,hx,hz=>by
  unfold yn at h;split at h
  .rename_i k hk;cases h;obtain⟨v,rfl,rfl,hw⟩:=DataW.trod_int hk hx;exact⟨[.sc (.int k v)],by simp[eJ,TR,oneCell],by simp only[c9,Fit];exact⟨⟨v,rfl,hw⟩,trivial⟩,λK=>by simp[jG,nq,K.int]⟩
  .rename_i hk;cases h;obtain⟨v,rfl,rfl⟩:=DataW.trod_bool hk hx;exact⟨[.sc (.bool v)],by simp[eJ,TR,oneCell],by simp only[c9,Fit];exact⟨⟨v,rfl⟩,trivial⟩,λK=>by simp[jG,nq,K.bool]⟩
  .rename_i hk;cases h;obtain⟨v,rfl,rfl,hw⟩:=DataW.trod_string hk hx;exact⟨[.sc (.string v)],by simp[eJ,TR,oneCell],by simp only[c9,Fit];exact⟨⟨v,rfl,hw⟩,trivial⟩,λK=>by simp[jG,nq,K.str]⟩
  .rename_i e hk;split at h
   .split at h
    .rename_i row hmr;cases h;have⟨tr,g1,g2,k1⟩:=amZ hk hmr fuel cs x hx;exact⟨[tr],g1,by simp only[c9,Fit];exact⟨g2,trivial⟩,λK=>by have:=k1 K;simp only[jG];omega⟩
    cases h;rcases DataW.trod_slice hk hx with ⟨rfl,rfl⟩ |⟨a,len,cap,elems,ag,m,_,rfl,rfl,_,hl,hm,hlen,hel,_,_⟩
    .exact⟨[.sc (.slice none 0 0)],by simp[eJ,TR,oneCell],by simp[c9,Fit],λK=>by simp[jG,nq,K.nil]⟩
    .exact⟨[.sc (.slice (some a) len cap)],by simp[eJ,TR,oneCell],by simp[c9,Fit],λK=>by simp[jG,nq,K.sl]⟩
   simp only[ai]at h;obtain⟨r,h1,h2⟩:=h;split at h2
   .rename_i hr;cases h2;rcases DataW.trod_slice hk hx with ⟨rfl,rfl⟩ |⟨a,len,cap,elems,ag,m,_,rfl,rfl,_,hl,hm,hlen,hel,_,_⟩
    .refine⟨[.sl []],?_,by simp only[c9,Fit];exact⟨⟨[],rfl,by simp[maxLen],by simp⟩,trivial⟩,λK=>by simp[jG,nq,A7,K.nil]⟩;simp only[eJ,TR];exact⟨.inl ⟨trivial,none,0,rfl,λ_=>rfl⟩,trivial⟩
    .have hzw:∀k,k=(elems.length+ag.length)*P.bytesOf e\/k∈DataW.weightsAll P e (elems.map (·.1))->k<=reachBytes:=by
      intro k hkk;refine hz k ?_;simp only[DataW.weights,hk,aN,aZ,length_map];rcases hkk with h |h
      .exact .inl h
      .exact .inr (.inl h)
     have each:∀i,i<len->∃tz y,w.cells? 0 (a.add (i*P.cellsOf e)) (P.cellsOf e)=some tz/\DataW.trod enc P w 0 sp held m e tz=some y/\PB P e y/\elems[i]? =some y:=by
      intro i hi;have h3:=hel i hi;have h6:elems[i]? =some (elems[i]'(by omega)):=dL (by omega);rw[h6,ai]at h3;obtain⟨tz,h4,h5⟩:=h3;exact⟨tz,_,h4,h5,λk hk=>hzw k (.inr (yG (mem_map.2 ⟨_,List.getElem_mem (by omega),rfl⟩) k hk)),h6⟩
     have hbytes:len*JT r<=reachBytes:=by
      have h1:=hzw _ (.inl rfl);have h2:len*JT r<=(elems.length+ag.length)*P.bytesOf e:=Nat.mul_le_mul (by omega) hr.2.2;omega
     by_cases h0:len=0
     .subst h0;refine⟨[.sl []],?_,by simp only[c9,Fit];exact⟨⟨[],rfl,by simp[maxLen],by simp⟩,trivial⟩,λK=>by simp[jG,nq,A7,K.sl]⟩;simp only[eJ,TR];exact⟨.inl ⟨trivial,some a,cap,rfl,λh=>by cases h⟩,trivial⟩
     .obtain⟨cs0,y0,c0,_,_,_⟩:=each 0 (by omega);obtain⟨_,c1,c2⟩:=World.cells?_some c0;have c3:=c2 0 (by omega);rw[dL (by omega)]at c3;have c4:=Pv c3;simp only[Nat.zero_mul,Addr.add,if_true]at c4;obtain⟨b,aa,s⟩:=a;simp only at c4;obtain⟨rfl,hb⟩:=c4;have rows:∀m j,j+m=len->∃rows:U (List Tree),rows.length=m/\ct w (Here w) rows b (aa+j*P.cellsOf e) (P.cellsOf e)/\(∀ x∈rows,c9 r x)/\∀K:Bk H,A7 rows<=K.a ((elems.map (·.1)).drop j):=by
       intro m
       induction m with
       |zero=>intro j _;exact⟨[],rfl,by simp[ct],by simp,λK=>by simp[A7]⟩
       |succ m ih=>
        intro j hj;obtain⟨rows,g1,g2,g3,k3⟩:=ih (j+1) (by omega);obtain⟨csj,y,g4,g5,g5z,gy⟩:=each j (by omega);obtain⟨ts,g6,g7,k6⟩:=DL n e r h1 _ _ _ g5 g5z;obtain⟨_,g8,g9⟩:=World.cells?_some g4;refine⟨ts::rows,by simp[g1],?_,λx hx=>?_,λK=>by have:=k3 K;have:=k6 K;rw[K.drop gy,A7];omega⟩
        .simp only[ct];refine⟨(eJ.length _ _ g6).trans g8,abl _ _ _ _ g6 λi hi=>?_,?_⟩
         .rw[<- g9 i (by omega),addr_add,addr_add]
         .rw[show aa+j*P.cellsOf e+P.cellsOf e=aa+(j+1)*P.cellsOf e by rw[Nat.add_mul];omega];exact g2
        .rcases aN.1 hx with rfl |hx
         .exact g7
         .exact g3 x hx
      obtain⟨rows,g1,g2,g3,k3⟩:=rows len 0 (by omega);refine⟨[.sl rows],?_,by simp only[c9,Fit];exact⟨⟨rows,rfl,⟨by omega,by rw[g1];exact hbytes⟩,g3⟩,trivial⟩,λK=>by have:=k3 K;rw[List.drop_zero]at this;rw[K.sl];simp only[jG,nq];omega⟩;simp only[eJ,TR];exact⟨.inr ⟨b,aa,cap,P.cellsOf e,by rw[g1],by omega,hb,by simpa using g2⟩,trivial⟩
   .cases h2
  .rename_i fs hk;simp only[ai]at h;obtain⟨r,h1,h2⟩:=h;split at h2
   .rename_i hr;injection h2 with h2;subst h2;obtain⟨xs,m,_,rfl,hl,hxs,hf⟩:=DataW.trod_struct hk hx;obtain⟨ts,g1,g2,k1⟩:=Rn m cs (yn P cut n) (λ t sh hsh cs x hx hz=>DL n t sh hsh m cs x hx hz) fs.toList xs 0 r h1 (by simpa using hxs) (λ i f x hi hxi=>by
     have hi':fs[i]? =some f:=(by simpa using hi);have:=hf i f hi';rw[hxi]at this;refine⟨this,λk hk'=>hz k ?_⟩;simp only[DataW.weights,hk];exact DataW.weights_mem_each (j:=i) (t:=f.type) (d:=x.1) (by simp[hi']) (by simp[hxi]) k hk')
    refine⟨ts,?_,g2,λK=>by have:=k1 K;rw[K.agg];omega⟩;rw[List.drop_zero,take_of_length_le (by omega)]at g1;exact g1
   .cases h2
  .rename_i m e hk;simp only[ai]at h;obtain⟨r,h1,h2⟩:=h;split at h2
   .rename_i hr;cases h2;obtain⟨xs,q,_,rfl,hl,hxs,hf⟩:=DataW.trod_array hk hx;have part:∀i j,j+i=m->∃ts,eJ w (Here w) ts (cs.drop (j*P.cellsOf e))/\c9 (List.replicate i r).flatten ts/\∀K:Bk H,jG ts<=K.a ((xs.map (·.1)).drop j):=by
     intro i
     induction i with
     |zero=>
      intro j hj;refine⟨[],?_,by simp[c9],λK=>by simp[jG]⟩;have:j=m:=(by omega);subst this;rw[List.drop_of_length_le (by rw[hl,<- hr.2,<- hr.1];omega)];simp[eJ]
     |succ i ih=>
      intro j hj;obtain⟨ts,g1,g2,k1⟩:=ih (j+1) (by omega);have:=hf j (by omega);have hxj:xs[j]? =some (xs[j]'(by omega)):=dL (by omega);rw[hxj]at this;obtain⟨ts0,g3,g4,k3⟩:=DL n e r h1 _ _ _ this (λ k hk'=>hz k (by
       simp only[DataW.weights,hk];exact yG (mem_map.2 ⟨_,List.getElem_mem (by omega),rfl⟩) k hk'))
      refine⟨ts0++ts,?_,?_,λK=>by have:=k1 K;have:=k3 K;rw[K.drop hxj,zY];omega⟩
      .have:=eJ.append _ _ g3 g1;rw[show (j+1)*P.cellsOf e=j*P.cellsOf e+P.cellsOf e by rw[Nat.add_mul];omega,<- List.drop_drop,List.take_append_drop]at this;exact this
      .rw[List.replicate_succ,List.flatten_cons];exact c9.append _ _ g4 g2
    obtain⟨ts,g1,g2,k1⟩:=part m 0 (by omega);exact⟨ts,by simpa using g1,g2,λK=>by have:=k1 K;rw[List.drop_zero]at this;rw[K.agg];omega⟩
   .cases h2
  .cases h
inductive VS where
 |one (c:CS)
 |agg (cs:List CS)
def Jx(P:Program)(cut:U TypeId)(t:TypeId):J VS:=
 (yn P cut 12 t).bind λsh=>match P.underlying t with
  |some (.struct _) |some (.array _ _)=>some (.agg sh)
  |_=>match sh with
   |[c]=>some (.one c)
   |_=>none
def xz:VS->TV->Prop
 | .one c,x=>∃y,x= .s y/\Fit c y
 | .agg cs,x=>∃ys,x= .a ys/\c9 cs ys
def KD:U VS->U TV->Prop
 |[],[]=>True
 |s::ss,x::xs=>xz s x/\KD ss xs
 |_,_=>False
def Lz:TV->Nat
 | .s y=>nq y
 | .a ys=>jG ys
def xy:U TV->Nat
 |[]=>0
 |x::xs=>Lz x+xy xs
theorem akP{cut:U TypeId}{t:TypeId}{s:VS}{v:Value}{d:DataW H}{ps:U MemPlace}{b0:Nat}(hs:Jx P cut t=some s)(hval:Value.okWide P w .any b0 t v)(hd:DataW.Trod enc P w 0 sp held t v d ps)(hz:∀k∈d.weights P t,k<=reachBytes):
 ∃x,ro w (Here w) x v/\xz s x/\∀K:Bk H,Lz x<=K.b d:=by
 obtain⟨fuel,hf⟩:=hd;simp only[Jx,ai]at hs;obtain⟨sh,h1,h2⟩:=hs;obtain⟨ts,g1,g2,k1⟩:=DL 12 t sh h1 _ _ _ hf hz;have hag:∀cs:Array Value,v= .agg cs->s= .agg sh->∃x,ro w (Here w) x v/\xz s x/\∀K:Bk H,Lz x<=K.b d:=by
  rintro cs rfl rfl;exact⟨.a ts,⟨cs,rfl,by simpa[Value.cells]using g1⟩,⟨ts,rfl,g2⟩,k1⟩
 unfold Value.okWide at hval;split at h2
 .rename_i hu;injection h2 with h2;rw[hu]at hval;obtain⟨cs,rfl,_⟩:=hval;exact hag cs rfl h2.symm
 .rename_i hu;injection h2 with h2;rw[hu]at hval;obtain⟨cs,rfl,_⟩:=hval;exact hag cs rfl h2.symm
 .rename_i hu1 hu2;split at h2
  .rename_i c;cases h2;have hone:v.cells.toList=[v]:=by
    cases hu:P.underlying t with
    |none=>rw[hu]at hval;simp[Cell.okWide,Cell.ok,hu]at hval
    |some d=>
     rw[hu]at hval;cases v<;>first |rfl |(exfalso;revert hval;cases d<;>simp_all [Cell.okWide,Cell.ok])
   rw[hone]at g1
   match ts,g1,g2,k1 with
   |[y],g1,g2,k1=>
    simp only[c9]at g2;exact⟨.s y,g1.1,⟨y,rfl,g2.1⟩,λK=>by have:=k1 K;simpa[jG,Lz]using this⟩
   |[],g1,_,_=>exact g1.elim
   |_::_::_,g1,_,_=>exact g1.2.elim
  .cases h2
theorem ZR{cut:U TypeId}:∀{ts:U TypeId}{ss:U VS}{vs:U Value}{ds:U (DataW H)}{ps:U MemPlace}{b0:Nat},ts.mapM (Jx P cut)=some ss->
 (∀ (j:Nat) t v,ts[j]? =some t->vs[j]? =some v->Value.okWide P w .any b0 t v)->DataW.TrodAll enc P w 0 sp held ts vs ds ps->(∀ k∈DataW.weightsEach P ts ds,k<=reachBytes)->∃xs,mN w (Here w) xs vs/\KD ss xs/\∀K:Bk H,xy xs<=K.a ds
 |[],ss,vs,ds,ps,b0,hs,_,hd,_=>by
  obtain⟨rfl,rfl,rfl⟩:=trodAll_nil hd;simp only[List.mapM_nil,Option.pure_def,aA]at hs;subst hs;exact⟨[],trivial,trivial,λK=>by simp[xy]⟩
 |t::ts,ss,vs,ds,ps,b0,hs,hval,hd,hz=>by
  obtain⟨v,vs',d,ds',p,q,rfl,rfl,rfl,h0,r0⟩:=trodAll_cons hd;simp only[List.mapM_cons,Option.bind_eq_bind,ai,Option.pure_def,aA]at hs;obtain⟨s,h1,ss',h2,rfl⟩:=hs;obtain⟨x,g1,g2,k1⟩:=akP h1 (hval 0 t v rfl rfl) h0 (λ k hk=>hz k (by simp only[DataW.weightsEach,aZ];exact .inl hk));obtain⟨xs,g3,g4,k2⟩:=ZR h2 (λ j t v h h'=>hval (j+1) t v h h') r0 (λ k hk=>hz k (by simp only[DataW.weightsEach,aZ];exact .inr hk));exact⟨x::xs,⟨g1,g3⟩,⟨g2,g4⟩,λK=>by have:=k1 K;have:=k2 K;rw[xy,K.a1];omega⟩
theorem Ro{β:Nat->J cL}{I:Nat->Prop}:∀(xs:U TV)(vs:U Value),mN w I xs vs->aE P β w I (xs.map TV.av) vs
 |[],[],_=>by simp[aE]
 |x::xs,v::vs,h=>by
  simp only[aF,aE];refine⟨?_,Ro xs vs h.2⟩;have h1:=h.1;cases x with
  |s y=>simp only[TV.av,VR];exact h1
  |a cs=>
   obtain⟨us,rfl,h2⟩:=h1;simp only[TV.av,VR];refine⟨us,rfl,?_⟩;have:∀(cs:U Tree) (us:U Value),eJ w I cs us->aE P β w I (cs.map AV.t) us:=by
    intro cs
    induction cs with
    |nil=>intro us h;cases us<;>first |(simp [aE];done) |exact h.elim
    |cons c cs ih=>intro us h;cases us with
     |nil=>exact h.elim
     |cons u us=>simp only[aF,aE,VR];exact⟨h.1,ih us h.2⟩
   exact this cs us.toList h2
 |[],_::_,h=>h.elim
 |_::_,[],h=>h.elim
end
section
variable {H:Type} {enc:TypeId×Value->H} {P:Program}
theorem afV{f:Func}{s:ChangeSpec}{apart fresh handsOn again:Bool}{W W':World}{args:Array Value}{v:Value}{ds gs:U (DataW H)}{before pa pv:U MemPlace}
 (hW:DataW.Whole enc P f.params.toList s.vars apart W args.toList ds gs before)
 (hres:∀(b:Nat)(sp:Nat->Bool)(hd:Bool),DataW.TrodAll enc P W' b sp hd f.resultTypes.toList (v.resultList f.resultTypes.size) (s.fn H (ds++gs)).results [])
 (hargs:∀sp:Nat->Bool,(∀ p∈before,sp p.block=true)->DataW.TrodAll enc P W' 0 sp true f.params.toList args.toList (s.fn H (ds++gs)).args pa)
 (hvars:∀sp:Nat->Bool,(∀ p∈before,sp p.block=true)->DataW.TrodVars enc P W' sp s.vars (s.fn H (ds++gs)).vars pv)
 (hps:before=pa++pv) (hb:Below W.heap.size W W')
 (hok:∀(j:Nat)(t:TypeId)(r:Value),f.resultTypes[j]? =some t->(v.resultList f.resultTypes.size)[j]? =some r->Value.okWide P W' .any 0 t r):
 s.post enc P f apart fresh handsOn again W args v W':=by
 have hlt:∀p∈before,p.block<W.heap.size:=λp hp=>hW.lt p hp;have hold:∀p∈before,(λ b=>decide (b<W.heap.size)) p.block=true:=λp hp=>by simpa using hlt p hp
 refine⟨ds,gs,before,[],pa,pv,hW,hres _ _ _,hargs _ hold,hvars _ hold,World.keptBut_mono (λ p hp=>⟨hp,?_⟩) (hb.frame (· ∈before)),λ_=>?_⟩
 .rw[hps,aZ]at hp;exact Or.inr hp
 .obtain⟨_,_,_,_,_,hz,hn⟩:=hW;refine⟨hok,_,_,([]++pa)++pv,⟨[]++pa,pv,trodAll_append (hargs _ (λ _ _=>rfl)) (hres _ _ _),hvars _ (λ _ _=>rfl),rfl,?_,?_⟩,?_⟩
  .intro b aa hp;have hin:MemPlace.cell b aa∈before:=(by rw[hps];simpa using hp);rw[hb.frozen (hlt _ hin)];exact hz b aa hin
  .intro ha;have:=hn ha;rw[hps]at this;simpa using this
  .intro p hp _;rw[hps];simpa using hp
theorem KE(hl:laidOutB P=true){W W':World}(hb:Below W.heap.size W W'):∀{ts:U TypeId}{vs:U Value}{ds:U (DataW H)}{ps:U MemPlace},(∀ t∈ts,P.readableRec t=true/\t<P.types.size)->
 DataW.TrodAll enc P W 0 (λ _=>true) true ts vs ds ps->(∀ x∈ps,x.block<W.heap.size)->∀sp:Nat->Bool,(∀ p∈ps,sp p.block=true)->DataW.TrodAll enc P W' 0 sp true ts vs ds ps
 |[],vs,ds,ps,_,hd,_,sp,_=>by
  obtain⟨rfl,rfl,rfl⟩:=trodAll_nil hd;exact trodAll_mk0
 |t::ts,vs,ds,ps,ht,hd,hlt,sp,hsp=>by
  obtain⟨v,vs',d,ds',p,q,rfl,rfl,rfl,h0,r0⟩:=trodAll_cons hd;obtain⟨h1,h2⟩:=ht t (by simp)
  exact trodAll_cons_mk (WideElems.Trod_stays hl h1 h2 h0 (λ x hx=>hb.same (hlt x (by simp[hx]))) (λ x hx=>hsp x (by simp[hx])))
   (KE hl hb (λ t ht'=>ht t (by simp[ht'])) r0 (λ x hx=>hlt x (by simp[hx])) sp (λ x hx=>hsp x (by simp[hx])))
theorem Rp{w:World}{base:Nat}{sp:Nat->Bool}{held:Bool}:∀{ts:U TypeId}{vs:U Value}{ds:U (DataW H)}{ps:U MemPlace},DataW.TrodAll enc P w base sp held ts vs ds ps->ds.length=ts.length
 |[],_,_,_,h=>by
  obtain⟨_,rfl,_⟩:=trodAll_nil h;rfl
 |_::_,_,_,_,h=>by
  obtain⟨_,_,_,_,_,_,_,rfl,_,_,h2⟩:=trodAll_cons h;simp[Rp h2]
theorem adj:∀{ts:U TypeId}{ds:U (DataW H)}{vt:U TypeId}{gs:U (DataW H)},ds.length=ts.length->∀k∈DataW.weightsEach P ts ds,k∈DataW.weightsEach P (ts++vt) (ds++gs)
 |[],[],_,_,_,k,h=>by simp[DataW.weightsEach]at h
 |t::ts,d::ds,vt,gs,hl,k,h=>by
  simp only[DataW.weightsEach,aZ,cons_append]at h ⊢;rcases h with h |h
  .exact .inl h
  .exact .inr (adj (by simpa using hl) k h)
 |[],_::_,_,_,h,_,_=>by simp at h
 |_::_,[],_,_,h,_,_=>by simp at h
theorem abo{cut:U TypeId}{C:Checked}{f:FuncId}{fn:Func}{s:ChangeSpec}{ss:U VS}{tb:TypeId}(hl:laidOutB C.prog=true)(hread:(fn.params.toList.all λt=>C.prog.readableRec t&&decide (t<C.prog.types.size))=true)
 (hss:fn.params.toList.mapM (Jx C.prog cut)=some ss) (hvars:s.vars=[]) (hres:fn.resultTypes=#[tb]) (hb:C.prog.underlying tb=some .bool)
 (hs:∀ds:U (DataW H),ds.length=fn.params.toList.length->s.fn H ds={ results:=[.lit (.bool true)],args:=ds })
 {B:Nat->Prop} (Ss:∀xs,KD ss xs->(∀ n,B n->xy xs<=n)->rh C.prog f (xs.map TV.av) (.one (.d (.s (.sc (.bool true))))))
 {W:World} {base:Nat} {args:Array Value} {ds gs:U (DataW H)} {before:U MemPlace}
 (hval:∀(j:Nat) t v,fn.params[j]? =some t->args[j]? =some v->Value.okWide C.prog W .any base t v)
 (hW:DataW.Whole enc C.prog fn.params.toList s.vars false W args.toList ds gs before)
 {vt:U TypeId} (hz:(DataW.weightsEach C.prog (fn.params.toList++vt) (ds++gs)).all (· <=reachBytes)=true) (hv:i9 W (Here W)) (hB:∀n,B n->∃K:Bk H,K.a ds<=n):
 Calls C.prog f args W λe W'=>∃v,e= .returned v/\s.post enc C.prog fn false true false false W args v W':=by
 have hW':=hW;obtain⟨p,q,hA,hV,rfl,_,_⟩:=hW;rw[hvars]at hV;obtain⟨rfl,rfl⟩:=trodVars_none hV;have hlen:=Rp hA;obtain⟨xs,g1,g2,g3⟩:=ZR hss (λ j t v h1 h2=>hval j t v (by simpa using h1) (by simpa using h2)) hA (λ k hk=>by
  have:=all_eq_true.1 hz k (adj hlen k hk);simpa using this)
 simp only[append_nil]at hW';have hlt:∀x∈p,x.block<W.heap.size:=λx hx=>hW'.lt x hx;refine((Ss xs g2 (λ n hn=>by have⟨K,hK⟩:=hB n hn;exact Nat.le_trans (g3 K) hK)).2 W (Here W) args (λ _ h=>h) hv (Ro _ _ g1)).mono λe W' ⟨v,I',he,hbel,_,_,_,hr⟩=>⟨v,he,?_⟩;simp only[rx,yf,ro,TR]at hr;obtain⟨rfl,_⟩:=hr;have hfn:s.fn H (ds++[])={ results:=[.lit (.bool true)],args:=ds }:=by rw[append_nil];exact hs ds hlen
 refine afV (pa:=p) (pv:=[]) hW' (λ b sp hd=>?_) (λ sp hsp=>?_) (λ sp _=>?_) (by simp) hbel (ok_one (by rw[hres]) rfl (okWide_bool_mk hb _))
 .rw[hfn,hres];exact trodAll_mk1 (shut_bool hb _)
 .rw[hfn];refine KE hl hbel (λ t ht=>?_) hA hlt sp hsp;have:=all_eq_true.1 hread t ht;simpa using this
 .rw[hfn,hvars];rfl
end
def We:AD->TypeDesc->Bool
 | .slice e,.slice e'=>e==e'
 | .arr n e,.array n' e'=>n==n'&&e==e'
 | .struct fs,.struct fa=>fa.toList.map (λ f=>(f.offset,f.type))==fs
 | .bool,.bool=>true
 | .str,.string=>true
 | .int k,.int k'=>k==k'
 | .map k e,.map k' e'=>k==k'&&e==e'
 | .other,_=>true
 |_,_=>false
def W7:Value->Value->Bool
 | .int k a,.int k' b=>k==k'&&a==b
 | .bool a,.bool b=>a==b
 | .string a,.string b=>decide (a=b)
 | .slice none 0 0,.slice none 0 0=>true
 | .pointer none,.pointer none=>true
 | .nilFunc,.nilFunc=>true
 | .nilIface,.nilIface=>true
 | .map none,.map none=>true
 |_,_=>false
theorem adk{a b:Value}(h:W7 a b=true):a=b:=by
 unfold W7 at h;split at h<;>simp_all
def Pw:U Value->U Value->Bool
 |[],[]=>true
 |a::as,b::bs=>W7 a b&&Pw as bs
 |_,_=>false
theorem MO:∀{a b:U Value},Pw a b=true->a=b
 |[],[],_=>rfl
 |a::as,b::bs,h=>by simp only[Pw,aL]at h;rw[adk h.1,MO h.2]
 |[],_::_,h=>by simp[Pw]at h
 |_::_,[],h=>by simp[Pw]at h
def W6(P:Program)(t:TypeId)(ti:nh):Bool:=
 match P.info? t,P.underlying t with
 |some info,some d=>match info.zero with
  |some z=>info.size==ti.size&&info.bytes==ti.bytes&&s9 d==ti.agg&&We ti.k d&&ti.zero.all kh&&ti.zero.length==ti.size&&
   (ti.cmp.isEmpty || match d with
    | .struct fa=>!P.stoodInHeld t&&!P.eqGuardType P.depth t&&gd P 0 fa.toList ti.cmp
    | .array _ _=>ti.cmp==[9]&&!P.eqGuardType P.depth t
    |_=>false)&&Pw z.cells.toList ti.zero&&tf ti.agg z
  |none=>false
 |_,_=>false
theorem afW{k:AD}{d:TypeDesc}(h:We k d=true):Q2 k d:=by
 unfold We at h;split at h
 .simp only[beq_iff_eq]at h;subst h;rfl
 .simp only[aL,beq_iff_eq]at h;obtain⟨rfl,rfl⟩:=h;rfl
 .rename_i fs fa;exact⟨fa,rfl,by simpa using h⟩
 .rfl
 .rfl
 .simp only[beq_iff_eq]at h;subst h;rfl
 .simp only[aL,beq_iff_eq]at h;obtain⟨rfl,rfl⟩:=h;rfl
 .trivial
 .cases h
theorem adl{P:Program}{t:TypeId}{ti:nh}(h:W6 P t ti=true):lE P t ti:=by
 unfold W6 at h;split at h
 .rename_i info d h1 h2;split at h
  .rename_i z h3;simp only[aL,beq_iff_eq]at h;obtain⟨⟨⟨⟨⟨⟨⟨⟨a1,a2⟩,a3⟩,a4⟩,a5⟩,a6⟩,a7⟩,a8⟩,a9⟩:=h;refine⟨⟨info,d,z,h1,h2,a1,a2,h3,MO a8,a3,afW a4⟩,a5,a6,λinfo' z' e1 e2=>by rw[h1]at e1;cases e1;rw[h3]at e2;cases e2;exact a9,λhne=>?_⟩;simp only[Bool.or_eq_true]at a7;rcases a7 with a7 |a7
   .exact absurd (List.isEmpty_iff.1 a7) hne
   .split at a7
    .rename_i fa;simp only[aL,Bool.not_eq_true']at a7;exact .inl ⟨fa,h2,a7.1.1,a7.1.2,a7.2⟩
    .simp only[aL,Bool.not_eq_true',beq_iff_eq]at a7;exact .inr a7
    .cases a7
  .cases h
 .cases h
def Rq(l:U (TypeId×nh)):eb:=λt=>(l.find? λp=>p.1==t).map (·.2)
theorem akS{P:Program}{l:U (TypeId×nh)}(h:(l.all λp=>W6 P p.1 p.2)=true):eY P (Rq l):=by
 intro t ti ht;simp only[Rq,dI]at ht;obtain⟨p,hp,rfl⟩:=ht;have h1:=List.find?_some hp;simp only[beq_iff_eq]at h1;subst h1;exact adl (all_eq_true.1 h p (List.mem_of_find?_eq_some hp))
inductive CT(ι:Type) where
 |int (k:IntKind)
 |bool
 |str
 |sl (e:CT ι)
 |st (i:ι)
 |any
 |mp (k v:CT ι)
 deriving DecidableEq
structure SE where
 ι:Type
 dec:DecidableEq ι
 T:ι->Type
 row:(i:ι)->T i->List Tree
instance (E:SE):DecidableEq E.ι:=E.dec
section
variable (E:SE)
@[reducible] def CT.T:CT E.ι->Type
 | .int _=>Int
 | .bool=>Bool
 | .str=>ByteArray
 | .sl e=>U (CT.T e)
 | .st i=>E.T i
 | .any=>Tree
 | .mp k v=>U (CT.T k×CT.T v)
def CT.row:(c:CT E.ι)->CT.T E c->U Tree
 | .int k,n=>[.sc (.int k n)]
 | .bool,b=>[.sc (.bool b)]
 | .str,s=>[.sc (.string s)]
 | .sl e,l=>[.sl (List.map (CT.row e) l)]
 | .st i,x=>E.row i x
 | .any,x=>[x]
 | .mp _ _,_=>[.sl []]
def CT.one{ι:Type}:CT ι->Bool
 | .st _=>false
 |_=>true
def CT.tv:(c:CT E.ι)->CT.T E c->TV
 | .int k,n=> .s (.sc (.int k n))
 | .bool,b=> .s (.sc (.bool b))
 | .str,s=> .s (.sc (.string s))
 | .sl e,l=> .s (.sl (List.map (CT.row E e) l))
 | .st i,x=> .a (E.row i x)
 | .any,x=> .s x
 | .mp _ _,_=> .s (.sl [])
def HL:U (CT E.ι)->Type
 |[]=>Unit
 |c::l=>CT.T E c×HL l
def HL.row:(l:U (CT E.ι))->HL E l->U Tree
 |[],_=>[]
 |c::l,h=>CT.row E c h.1++HL.row l h.2
def HL.mm:(l:U (CT E.ι))->HL E l->U TV
 |[],_=>[]
 |c::l,h=>CT.tv E c h.1::HL.mm l h.2
end
structure Arr(E:SE) where
 i:E.ι
 c:CT E.ι
 f:E.T i->List (CT.T E c)
 g:List (CT.T E c)->Option (E.T i)
structure SX extends SE where
 cR:ι->List (CT ι)
 get:(i:ι)->T i->HL toSE (cR i)
 make:(i:ι)->HL toSE (cR i)->T i
 l4:∀i x,row i x=HL.row toSE (cR i) (get i x)
 gi:∀i h,row i (make i h)=HL.row toSE (cR i) h
 flat:∀i,(cR i).all CT.one=true
 gv:Nat->Option ((c:CT ι)×CT.T toSE c)
 yW:∀g,(gv g).map (λ p=>CT.row toSE p.1 p.2)=(vq g).map λr=>r.map Tree.sc
 ar:TypeId->Option (Arr toSE):=λ_=>none
 apV:∀t a,ar t=some a->a.c.one=true/\(∀ x,row a.i x=((a.f x).map (CT.row toSE a.c)).flatten)/\∀l x,a.g l=some x->a.f x=l:=by intro t a h;cases h
section
variable (X:SX)
abbrev SX.C:=CT X.ι
abbrev SX.t(c:CT X.ι):Type:=CT.T X.toSE c
def CT.sz:CT X.ι->Nat
 | .st i=>(X.cR i).length
 |_=>1
inductive DV where
 |c (t:CT X.ι) (x:CT.T X.toSE t)
 |agg (cs:List DV)
 |eE (vs:List DV)
 |own (k aa len:Nat)
 |ptr (k row aa:Nat)
 |qu (k:Nat) (n:Int) (aa:Nat)
 |th (k row aa m:Nat) (n:Int)
 |rp (t:CT X.ι) (x:CT.T X.toSE t) (aa:Nat)
 |wv (t:CT X.ι) (x:CT.T X.toSE t) (aa m:Nat) (n:Int)
 |fn (f:FuncId) (first caps:List DV)
 |d8 (as:List (CT X.ι)) (r:CT X.ι) (φ:HL X.toSE as->Option (CT.T X.toSE r))
 |mp (k:Nat)
 |oz (k len:Nat)
 |raw (v:Value)
 |nil
 |ub
 |skip
 |undef
inductive bm where
 |cells (sz:Nat) (rows:List (List (DV X)))
 |ea (c:CT X.ι) (l:List (CT.T X.toSE c))
 |map (kc vc:CT X.ι) (l:List (CT.T X.toSE kc×CT.T X.toSE vc))
structure df where
 env:List (Nat×DV X)
 obj:List (Nat×Option (bm X))
 nx:Nat
 log:List Nat
variable {X}
mutual
def den:DV X->AV
 | .c t x=>(CT.tv X.toSE t x).av
 | .agg cs=> .agg (bO cs)
 | .eE vs=> .eE (bO vs)
 | .own k aa len=> .own k aa len
 | .ptr k row aa=> .ptr k row aa
 | .qu k n aa=> .ptr k n.toNat aa
 | .th k row aa _ n=> .ptr k row (aa+n.toNat)
 | .rp t x aa=> .er (CT.row X.toSE t x) aa
 | .wv t x aa _ n=> .er (CT.row X.toSE t x) (aa+n.toNat)
 | .fn f first caps=> .fn f (bO first) (bO caps)
 | .d8 as r φ=> .d8 λts u=>∃h x,φ h=some x/\ts=HL.mm X.toSE as h/\u=CT.tv X.toSE r x
 | .mp k=> .mp k
 | .oz k len=> .oz k len
 | .raw v=>cv v
 | .nil=> .cW
 | .ub=> .ub
 | .skip=> .undef
 | .undef=> .undef
def bO:List (DV X)->List AV
 |[]=>[]
 |x::xs=>den x::bO xs
end
theorem nR:∀l:U (DV X),bO l=l.map den
 |[]=>rfl
 |x::xs=>by simp only[bO,aF,nR xs]
def bH:bm X->aT
 | .cells sz rows=>⟨sz,rows.map bO⟩
 | .ea c l=>⟨CT.sz X c,aI (l.map (CT.row X.toSE c))⟩
 | .map kc vc l=>⟨l.length,l.map λp=>[(CT.tv X.toSE kc p.1).av,(CT.tv X.toSE vc p.2).av]⟩
def iE(u:U (Nat×Option (bm X))):U (Nat×Option aT):=u.map λp=>(p.1,p.2.map bH)
def gE(o:U (Nat×Option (bm X)))(k:Nat):J (bm X):=(lk o k).join
def eQ(e:U (Nat×DV X))(t:Nat):DV X:=(lk e t).getD .undef
def df.st(s:df X):St:=⟨λ t=>den (eQ s.env t),λk=>(gE s.obj k).map bH,λ_=>none⟩
def jB(a b:CT X.ι)(x:CT.T X.toSE a):J (CT.T X.toSE b):=
 match decEq a b with
 |isTrue h=>some (h ▸ x)
 |isFalse _=>none
theorem rM{a b:CT X.ι}{x:CT.T X.toSE a}{y:CT.T X.toSE b}(h:jB a b x=some y):∃e:a=b,y=e ▸ x:=by
 unfold jB at h;split at h
 .rename_i e _;injection h with h;exact⟨e,h.symm⟩
 .cases h
def HL.cells:(l:U (CT X.ι))->HL X.toSE l->U (DV X)
 |[],_=>[]
 |c::l,h=> .c c h.1::HL.cells l h.2
theorem row_one{c:CT X.ι}(h:c.one=true)(x:CT.T X.toSE c):∃t,CT.row X.toSE c x=[t]/\CT.tv X.toSE c x= .s t:=by cases c<;>first |exact⟨_,rfl,rfl⟩ |cases h
theorem HL.qq:∀(l:U (CT X.ι))(h:HL X.toSE l),l.all CT.one=true->bO (HL.cells l h)=(HL.row X.toSE l h).map AV.t
 |[],_,_=>rfl
 |c::l,h,ha=>by
  simp only[all_cons,aL]at ha;obtain⟨t,h1,h2⟩:=row_one ha.1 h.1;simp only[HL.cells,bO,den,HL.row,h1,h2,TV.av,HL.qq l h.2 ha.2,cons_append,bQ,aF]
theorem HL.oS:∀(l:U (CT X.ι))(h:HL X.toSE l),l.all CT.one=true->(HL.row X.toSE l h).length=l.length
 |[],_,_=>rfl
 |c::l,h,ha=>by
  simp only[all_cons,aL]at ha;obtain⟨t,h1,_⟩:=row_one ha.1 h.1;simp only[HL.row,h1,cons_append,bQ,bJ,HL.oS l h.2 ha.2]
theorem DR(c:CT X.ι)(x:CT.T X.toSE c):(CT.row X.toSE c x).length=CT.sz X c:=by
 cases c<;>try rfl
 rename_i i;exact(congrArg List.length (X.l4 i x)).trans (HL.oS _ _ (X.flat i))
def uY:(c:CT X.ι)->CT.T X.toSE c->U (DV X)
 | .st i,x=>HL.cells (X.cR i) (X.get i x)
 |c,x=>[.c c x]
theorem oO(c:CT X.ι)(x:CT.T X.toSE c):bO (uY c x)=(CT.row X.toSE c x).map AV.t:=by
 cases c<;>try rfl
 rename_i i;exact(HL.qq _ _ (X.flat i)).trans (congrArg (List.map AV.t) (X.l4 i x).symm)
def vH:DV X->Bool
 | .agg _ | .eE _ | .undef | .skip | .raw _ | .c (.st _) _=>false
 |_=>true
theorem Rs{x:DV X}(h:vH x=true):oL (den x)=true:=by
 cases x<;>try rfl
 case c t x=>cases t<;>first |rfl |simp[vH]at h
 all_goals simp[vH]at h
def cellsD:DV X->J (List (DV X))
 | .agg cs=>if cs.all vH then some cs else none
 | .c (.st i) x=>some (uY (.st i) x)
 | .eE _ | .undef | .skip | .raw _=>none
 |x=>some [x]
theorem ah6{l:U (DV X)}(h:l.all vH=true):(bO l).all oL=true:=by
 rw[nR,List.all_map,all_eq_true];exact λx hx=>Rs (all_eq_true.1 h x hx)
theorem DT{x:DV X}{cs:U (DV X)}(h:cellsD x=some cs):cellsOf (den x)=some (bO cs):=by
 cases x
 case c t x=>
  cases t
  case st i=>
   simp only[cellsD,aA]at h;subst h;simp only[den,CT.tv,TV.av,cellsOf,oO];show(if ((X.row i x).map AV.t).all oL then some ((X.row i x).map AV.t)else none)=some ((X.row i x).map AV.t);rw[aY];rw[List.all_map,all_eq_true];exact λ_ _=>rfl
  all_goals simp only[cellsD,aA]at h;subst h;rfl
 case agg l=>
  simp only[cellsD]at h;split at h
  .cases h;simp only[den,cellsOf];rw[aY (ah6 ‹_›)]
  .cases h
 all_goals simp only[cellsD,aA,reduceCtorEq]at h;try (subst h;rfl)
def t7:Value->DV X
 | .slice none 0 0=> .nil
 | .int k n=> .c (.int k) n
 | .bool b=> .c .bool b
 | .string s=> .c .str s
 |v=> .raw v
theorem ah7(v:Value):den (t7 (X:=X) v)=cv v:=by
 unfold t7;split<;>rfl
theorem Cq(l:U Value):bO (l.map (t7 (X:=X)))=l.map cv:=by
 rw[nR,map_map];exact map_congr_left λv _=>ah7 v
def YM(env:Nat->DV X):Operand->DV X
 | .tmp t=>env t
 | .const v=>t7 v
 | .global g=>match X.gv g with
  |some p=> .rp p.1 p.2 0
  |none=> .undef
 | .func f=> .fn f [] []
theorem Vw(env:Nat->DV X)(x:Operand):den (YM env x)=lp (λ t=>den (env t)) x:=by
 cases x with
 |global g=>
  have h:=X.yW g;simp only[YM,lp];cases h1:X.gv g with
  |none=>
   rw[h1]at h;cases h2:vq g with
   |none=>rfl
   |some r=>rw[h2]at h;cases h
  |some p=>
   rw[h1]at h;cases h2:vq g with
   |none=>rw[h2]at h;cases h
   |some r=>
    rw[h2]at h;injection h with h;simp only[den,h]
 |const v=>exact ah7 _
 |tmp t=>rfl
 |func f=>rfl
end
def bp{α:Type}(l:U α)(n:Int):J α:=bif decide (0<=n)then l[n.toNat]? else none
def sub{α:Type}(l:U α)(aa len:Nat):U α:=(l.drop aa).take len
def cC(n:Int)(len:Nat):Bool:=decide (0<=n)&&decide (n<(len:Int))
def iL{α β:Type}(a:α)(f:α->β):β:=f a
def bP(lo len ln n bytes:Nat):Bool:=decide (lo=len)&&decide (ln=n)&&decide ((len+n)*bytes<=140737488355328)&&decide (len+n<=maxLen)
def az(a b:Nat):Bool:=decide (a=b)
def A8(l h:Int)(len:Nat):Bool:=decide (0<=l)&&decide (l<=h)&&decide (h<=(len:Int))
def Vx(a b:ByteArray):Bool:=Op.bytesLess a.toList b.toList
def Vy(a b:ByteArray):Bool:=decide (a.size+b.size<=maxLen)
abbrev iN(n:Int):Int:=n
abbrev bN(b:Bool):Bool:=b
def Vz{A:Type}:U Bool->J A->J A
 |[],k=>k
 |c::cs,k=>bif c then Vz cs k else none
section
variable {X:SX} {A:Type}
abbrev KK(X:SX)(A:Type):=DV X->U (Nat×Option (bm X))->U Nat->U Nat->J A
def W5(t:Bool)(x y:DV X):DV X:=
 match x,y with
 | .c a p,.c b q=>match decEq b a with
  |isTrue h=> .c a (bif t then p else h ▸ q)
  |isFalse _=>bif t then .c a p else .c b q
 |x,y=>bif t then x else y
def G9(agg:Bool)(size:Nat)(cs:U (DV X)):J (DV X):=
 if cs.length=size then(if agg then some (.agg cs)else match cs with |[x]=>if vH x then some x else none |_=>none)else none
def N1(agg:Bool)(size:Nat)(c:CT X.ι)(y:CT.T X.toSE c)(aa:Nat):J (DV X):=
 match c,y with
 | .st i,y=>if aa=0/\agg=true/\size=(X.cR i).length then some (.c (.st i) y)else G9 agg size (((uY (.st i) y).drop aa).take size)
 |c,y=>G9 agg size (((uY c y).drop aa).take size)
def JX(d:DV X)(c:CT X.ι):J (CT.T X.toSE c):=
 match d,c with
 | .c a x,c=>jB a c x
 | .nil,.sl _=>some []
 | .nil,.any=>some (.sl [])
 |_,_=>none
def yH:U (DV X)->(l:U (CT X.ι))->J (HL X.toSE l)
 |[],[]=>some ()
 |d::ds,c::l=>(JX d c).bind λx=>(yH ds l).bind λh=>some (x,h)
 |_,_=>none
def DO(d:DV X)(i:X.ι):J (CT.T X.toSE (.st i)):=
 match d with
 | .agg cs=>(yH cs (X.cR i)).bind λh=>some (X.make i h)
 | .c a x=>jB a (.st i) x
 |_=>none
def dat(d:DV X)(c:CT X.ι):J (CT.T X.toSE c):=
 match c with
 | .st i=>DO d i
 |c=>JX d c
def mk1(c:CT X.ι):U (DV X)->J (CT.T X.toSE c)
 |[d]=>JX d c
 |_=>none
def He(c:CT X.ι)(ds:U (DV X)):J (CT.T X.toSE c):=
 match c with
 | .st i=>(yH ds (X.cR i)).bind λh=>some (X.make i h)
 |c=>mk1 c ds
def Jn(r:U (DV X))(aa:Nat)(cs:U (DV X)):U (DV X):=r.take aa++cs++r.drop (aa+cs.length)
variable (T:eb) (am:TypeId->Option (CT X.ι))
def QP(t:TypeId)(x:DV X)(get:Nat->J (bm X))(k:KK X A):J A:=
 (T t).bind λti=>match x with
 | .ptr kk row aa=>(get kk).bind λo=>match o with
  | .cells _ rows=>(rows[row]?).bind λr=>(G9 ti.agg ti.size ((r.drop aa).take ti.size)).bind λv=>k v [] [kk] []
  |_=>none
 | .qu kk n aa=>(get kk).bind λo=>match o with
  | .ea c l=>(bp l n).bind λy=>(N1 ti.agg ti.size c y aa).bind λv=>k v [] [kk] []
  |_=>none
 | .rp c y aa=>(N1 ti.agg ti.size c y aa).bind λv=>k v [] [] []
 |_=>none
def PR(t:TypeId)(x y:DV X)(get:Nat->J (bm X))(k:KK X A):J A:=
 (T t).bind λti=>(cellsD y).bind λcs=>if cs.length=ti.size then match x with
 | .ptr kk row aa=>(get kk).bind λo=>match o with
  | .cells sz rows=>(rows[row]?).bind λr=>if aa+cs.length<=r.length then k .undef [(kk,some (.cells sz (rows.set row (Jn r aa cs))))] [kk] [kk]else none
  |_=>none
 | .qu kk n aa=>(get kk).bind λo=>match o with
  | .ea c l=>(bp l n).bind λy=>if aa+cs.length<=CT.sz X c then(He c (Jn (uY c y) aa cs)).bind λz=>k .undef [(kk,some (.ea c (l.set n.toNat z)))] [kk] [kk]else none
  |_=>none
 |_=>none else none
def KX(t:TypeId)(x:DV X)(f:Nat)(k:KK X A):J A:=
 (zT T t f).bind λp=>match x with
 | .ptr kk row aa=>k (.ptr kk row (aa+p.1)) [] [] []
 | .qu kk n aa=>k (.qu kk n (aa+p.1)) [] [] []
 | .rp c y aa=>k (.rp c y (aa+p.1)) [] [] []
 |_=>none
def Z2(t:TypeId)(x:DV X)(f:Nat)(k:KK X A):J A:=
 (zT T t f).bind λp=>match x with
 | .agg cs=>(G9 p.2.agg p.2.size ((cs.drop p.1).take p.2.size)).bind λv=>k v [] [] []
 | .c (.st i) y=>(G9 p.2.agg p.2.size (((uY (.st i) y).drop p.1).take p.2.size)).bind λv=>k v [] [] []
 |_=>none
def KY(t:TypeId)(x j:DV X)(get:Nat->J (bm X))(k:KK X A):J A:=
 (T t).bind λti=>match ti.k,j with
 | .slice e,.c (.int _) n=>(T e).bind λei=>match x with
  | .c (.sl c) l=>if CT.sz X c=ei.size then(bp l n).bind λy=>k (.rp c y 0) [] [] []else none
  | .own kk aa len=>(get kk).bind λo=>match o with
   | .ea c _=>if CT.sz X c=ei.size then bif cC n len then k (.qu kk ((aa:Int)+iN n) 0) [] [kk] []else none else none
   | .cells sz _=>if sz=ei.size then bif cC n len then k (.ptr kk (aa+n.toNat) 0) [] [kk] []else none else none
   | .map _ _ _=>none
  |_=>none
 | .arr m e,.c (.int _) n=>(T e).bind λei=>bif cC n m then match x with
  | .ptr kk row aa=>k (.ptr kk row (aa+n.toNat*ei.size)) [] [] []
  | .qu kk r aa=>k (.qu kk r (aa+n.toNat*ei.size)) [] [] []
  | .rp c y aa=>k (.rp c y (aa+n.toNat*ei.size)) [] [] []
  |_=>none
  else none
 |_,_=>none
def VA(x:DV X)(j:Nat)(k:KK X A):J A:=
 match x with
 | .eE vs=>(vs[j]?).bind λv=>k v [] [] []
 |_=>none
def Hf(op:BinOp)(kd:IntKind)(a b:Int):(DV X)×Option Bool:=
 match op with
 | .add=>(.c (.int kd) (kd.wrap (a+b)),none)
 | .sub=>(.c (.int kd) (kd.wrap (a -b)),none)
 | .mul=>(.c (.int kd) (kd.wrap (a*b)),none)
 | .quo=>(.c (.int kd) (kd.wrap (a.tdiv b)),some (b !=0))
 | .rem=>(.c (.int kd) (a.tmod b),some (b !=0))
 | .and=>(.c (.int kd) (bits .and kd a b),none)
 | .or=>(.c (.int kd) (bits .or kd a b),none)
 | .xor=>(.c (.int kd) (bits .xor kd a b),none)
 | .andNot=>(.c (.int kd) (bits .andNot kd a b),none)
 | .shl=>(.c (.int kd) (kd.wrap (a*2 ^ b.toNat)),some (decide (0<=b)&&decide (b<=kd.bits)))
 | .shr=>(.c (.int kd) (a/2 ^ b.toNat),some (decide (0<=b)&&decide (b<=kd.bits)))
 | .eql=>(.c .bool (a==b),none)
 | .neq=>(.c .bool (a !=b),none)
 | .lss=>(.c .bool (decide (a<b)),none)
 | .leq=>(.c .bool (decide (a<=b)),none)
 | .gtr=>(.c .bool (decide (a>b)),none)
 | .geq=>(.c .bool (decide (a>=b)),none)
def abp:Nat->DV X->DV X->J Bool
 | 0,.c (.int j) a,.c (.int k) b=>if j=k then some (iN a==iN b)else none
 | 1,.c .bool a,.c .bool b=>some (bN a==bN b)
 | 2,.c .str a,.c .str b=>some (a.toList==b.toList)
 |_,_,_=>none
def vX:U Nat->U (DV X)->U (DV X)->J Bool
 |[],[],[]=>some true
 |k::ks,x::xs,y::ys=>(abp k x y).bind λa=>(vX ks xs ys).bind λb=>some (a&&b)
 |_,_,_=>none
def MD:DV X->J (List (DV X))
 | .agg cs=>some cs
 | .c (.st i) y=>some (uY (.st i) y)
 |_=>none
def Wc(op:BinOp)(t:TypeId)(x y:DV X)(k:KK X A):J A:=
 match x,y with
 | .c (.int kd) a,.c (.int yk) b=>if kd=yk\/op= .shl\/op= .shr then match (Hf op kd a b:DV X×Option Bool).2 with
  |none=>k (Hf op kd a b).1 [] [] []
  |some g=>bif g then k (Hf op kd a b).1 [] [] []else none
  else none
 | .c .str a,.c .str b=>match op with
  | .eql=>k (.c .bool (a.toList==b.toList)) [] [] []
  | .neq=>k (.c .bool (!(a.toList==b.toList))) [] [] []
  | .lss=>k (.c .bool (Vx a b)) [] [] []
  | .gtr=>k (.c .bool (!(Vx a b || a.toList==b.toList))) [] [] []
  | .add=>bif Vy a b then k (.c .str (a++b)) [] [] []else none
  |_=>none
 | .c .bool a,.c .bool b=>(T t).bind λti=>match ti.k,op with
  | .bool,.eql=>k (.c .bool (bN a==bN b)) [] [] []
  | .bool,.neq=>k (.c .bool (!(bN a==bN b))) [] [] []
  |_,_=>none
 |x,y=>(MD x).bind λxs=>(MD y).bind λys=>(T t).bind λti=>if ti.cmp=[]then none else(vX ti.cmp xs ys).bind λb=>match op with
  | .eql=>k (.c .bool b) [] [] []
  | .neq=>k (.c .bool (!b)) [] [] []
  |_=>none
def PM(op:UnOp)(x:DV X)(k:KK X A):J A:=
 match op,x with
 | .not,.c .bool b=>k (.c .bool (!b)) [] [] []
 | .neg,.c (.int kd) n=>k (.c (.int kd) (kd.wrap (0 -iN n))) [] [] []
 |_,_=>none
def Js(mx:Bool)(kd:IntKind):Int->U (DV X)->J Int
 |a,[]=>some a
 |a,.c (.int k') b::r=>if k'=kd then Js mx kd (if mx then max a b else min a b) r else none
 |_,_=>none
def LN(mx:Bool)(args:U (DV X))(k:KK X A):J A:=
 match args with
 | .c (.int kd) a::r=>(Js mx kd a r).bind λn=>k (.c (.int kd) n) [] [] []
 |_=>none
def Wa(t:TypeId)(x:DV X)(k:KK X A):J A:=
 (T t).bind λti=>match ti.k,x with
 | .slice _,.c (.sl _) l=>k (.c (.int .i64) (l.length:Int)) [] [] []
 | .slice _,.own _ _ len=>k (.c (.int .i64) (len:Int)) [] [] []
 | .slice _,.oz _ len=>k (.c (.int .i64) (len:Int)) [] [] []
 | .slice _,.nil=>k (.c (.int .i64) (0:Int)) [] [] []
 | .str,.c .str s=>k (.c (.int .i64) (s.size:Int)) [] [] []
 |_,_=>none
def ZT(place:Nat->J (Nat×Nat)):U (DV X)->U (Nat×DV X)->J (List (DV X))
 |cells,[]=>some cells
 |cells,(j,x)::ag=>(place j).bind λp=>(cellsD x).bind λcs=>
  if cs.length=p.2/\p.1+cs.length<=cells.length then ZT place (Jn cells p.1 cs) ag else none
def Z1(t:TypeId)(parts:U (Nat×DV X))(k:KK X A):J A:=
 (T t).bind λti=>match ti.k with
 | .struct fs=>if fs.all (λ p=>(T p.2).isSome)then
  (ZT (λ j=>(fs[j]?).bind λp=>(T p.2).bind λui=>some (p.1,ui.size)) (ti.zero.map t7) parts).bind λcells=>k (.agg cells) [] [] []else none
 | .arr _ e=>(T e).bind λei=>(ZT (λ j=>some (j*ei.size,ei.size)) (ti.zero.map t7) parts).bind λcells=>k (.agg cells) [] [] []
 |_=>none
def I3(c:CT X.ι):Nat->U (Nat×DV X)->J (List (CT.T X.toSE c))
 |_,[]=>some []
 |n,(j,x)::r=>if j=n then(dat x c).bind λy=>(I3 c (n+1) r).bind λl=>some (y::l)else none
def Hg(i:Nat)(t:TypeId)(len:Nat)(parts:U (Nat×DV X))(k:KK X A):J A:=
 (T t).bind λti=>match ti.k with
 | .slice e=>(T e).bind λei=>(am e).bind λc=>if ei.size=0\/len*ei.size>2 ^ 24\/CT.sz X c≠ei.size\/parts.length≠len then none else
  (I3 c 0 parts).bind λl=>k (.own (cJ i) 0 len) [(cJ i,some (.ea c l))] [] []
 |_=>none
def af0(i:Nat)(e:TypeId)(k:KK X A):J A:=
 (T e).bind λti=>k (.ptr (cJ i) 0 0) [(cJ i,some (.cells ti.size [ti.zero.map t7]))] [] []
def V2(i:Nat)(x:DV X)(k:KK X A):J A:=
 (cellsD x).bind λcs=>k (.ptr (cJ i) 0 0) [(cJ i,some (.cells cs.length [cs]))] [] []
def z6(d:Int):J (DV X)->J Int
 |none=>some d
 |some (.c (.int _) n)=>some n
 |_=>none
def af2(t:TypeId)(x:DV X)(lo hi:J (DV X))(get:Nat->J (bm X))(k:KK X A):J A:=
 (T t).bind λti=>match ti.k with
 | .slice e=>(T e).bind λei=>match x with
  | .own kk aa len=>(get kk).bind λo=>if (bH o).sz=ei.size then(z6 0 lo).bind λl=>(z6 len hi).bind λh=>
   bif A8 l h len then k (.own kk (aa+l.toNat) (h.toNat -l.toNat)) [] [kk] []else none else none
  | .c (.sl c) xs=>if CT.sz X c=ei.size then(z6 0 lo).bind λl=>(z6 xs.length hi).bind λh=>
   bif A8 l h xs.length then k (.c (.sl c) (sub xs l.toNat (h.toNat -l.toNat))) [] [] []else none else none
  |_=>none
 |_=>none
def V1(y:DV X)(c:CT X.ι)(get:Nat->J (bm X)):J (Nat×List (CT.T X.toSE c)×List Nat):=
 match y with
 | .own kk aa len=>(get kk).bind λo=>match o with
  | .ea b l=>(jB (.sl b) (.sl c) l).bind λl=>some (len,sub l aa len,[kk])
  |_=>none
 | .c b l=>(jB b (.sl c) l).bind λ(l:List (CT.T X.toSE c))=>some (l.length,l,[])
 |_=>none
def VB{α:Type}:Nat->U α->U α
 | 0,l=>l
 |n+1,l=>l.drop (n+1)
def abq(i:Nat)(t:TypeId)(x y:DV X)(get:Nat->J (bm X))(k:KK X A):J A:=
 (T t).bind λti=>match ti.k with
 | .slice e=>(T e).bind λei=>(am e).bind λc=>if CT.sz X c=ei.size then(V1 y c get).bind λs=>match x with
  | .own kk aa len=>(get kk).bind λo=>match o with
   | .ea b l=>(jB (.sl b) (.sl c) l).bind λ(l:List (CT.T X.toSE c))=>bif bP (VB aa l).length len s.2.1.length s.1 ei.bytes then iL (VB aa l++s.2.1) λr=>k (.own (cJ i) 0 r.length) [(cJ i,some (.ea c r)),(kk,none)] (kk::s.2.2) [kk]else none
   |_=>none
  | .nil=>bif bP 0 0 s.2.1.length s.1 ei.bytes then iL s.2.1 λr=>k (.own (cJ i) 0 r.length) [(cJ i,some (.ea c r))] s.2.2 []else none
  |_=>none
  else none
 |_=>none
def VD(i:Nat)(b:Builtin)(args:U (DV X))(cR:U TypeId)(get:Nat->J (bm X))(k:KK X A):J A:=
 match b,args,cR with
 | .len,[x],[t]=>Wa T t x k
 | .max,args,_=>LN true args k
 | .min,args,_=>LN false args k
 | .append,[x,y],[t,u]=>if t=u then abq T am i t x y get k else none
 |_,_,_=>none
def LL(i:Nat)(o:Op)(ρ:Operand->DV X)(get:Nat->J (bm X))(k:KK X A):J A:=
 match o with
 | .move x=>k (ρ x) [] [] []
 | .assign x=>k (ρ x) [] [] []
 | .pick c a b=>match ρ c with | .c .bool t=>k (W5 t (ρ a) (ρ b)) [] [] [] |_=>none
 | .alloc e=>af0 T i e k
 | .box _ x=>V2 i (ρ x) k
 | .build t parts=>Z1 T t (parts.toList.map λp=>(p.1,ρ p.2)) k
 | .buildSlice t len parts=>Hg T am i t len (parts.toList.map λp=>(p.1,ρ p.2)) k
 | .load t a=>QP T t (ρ a) get k
 | .store t a x=>PR T t (ρ a) (ρ x) get k
 | .binOp op t x y _=>Wc T op t (ρ x) (ρ y) k
 | .unOp op _ x=>PM op (ρ x) k
 | .makeFunc (.func f) first caps=>k (.fn f (first.toList.map ρ) (caps.toList.map ρ)) [] [] []
 | .slice t x lo hi none=>af2 T t (ρ x) (lo.map ρ) (hi.map ρ) get k
 | .fieldAddr t x f=>KX T t (ρ x) f k
 | .field t x f=>Z2 T t (ρ x) f k
 | .indexAddr t x j=>KY T t (ρ x) (ρ j) get k
 | .extract x j=>VA (ρ x) j k
 | .call { callee:= .builtin b,args:=args,argTypes:=cR }=>VD T am i b (args.toList.map ρ) cR.toList get k
 |_=>none
end
section
variable {X:SX} {A:Type} {T:eb} {am:TypeId->Option (CT X.ι)} {get:Nat->Option (bm X)} {k:KK X A} {r:A} {i:Nat}
def fq(get:Nat->J (bm X)):Nat->J aT:=λj=>(get j).map bH
theorem eD{rd:U Nat}{j:Nat}{o:bm X}(hj:j∈rd)(h:get j=some o):dK rd (fq get) j=some (bH o):=by simp[dK,hj,fq,h]
theorem kW(l:U (DV X)):(bO l).length=l.length:=by simp[nR]
theorem kg(l:U (DV X))(a b:Nat):bO ((l.drop a).take b)=((bO l).drop a).take b:=by simp[nR,map_take,map_drop]
theorem MP{α:Type}{l:U α}{n:Int}{x:α}(h:bp l n=some x):0<=n/\l[n.toNat]? =some x:=by
 unfold bp at h;by_cases hn:0<=n
 .simpa[hn]using h
 .simp[hn]at h
theorem ai7(t:Bool)(x y:DV X):den (W5 t x y)=Lo t (den x) (den y):=by
 rw[U0];have base:∀x y:DV X,den (bif t then x else y)=if t=true then den x else den y:=λx y=>by cases t<;>rfl
 unfold W5;split
 .rename_i a p b q;split
  .rename_i h _;subst h;cases t<;>rfl
  .exact base _ _
 .exact base _ _
theorem Cr{agg:Bool}{size:Nat}{cs:U (DV X)}{v:DV X}(h:G9 agg size cs=some v):part' agg size (bO cs)=some (den v):=by
 unfold G9 at h;unfold part';rw[kW];split at h
 .rename_i hl;rw[aY hl];cases agg with
  |true=>simp only[if_true,aA]at h ⊢;subst h;rfl
  |false=>
   simp only[Bool.false_eq_true,if_false]at h ⊢
   match cs,h with
   |[x],h=>
    simp only at h;split at h
    .rename_i hx;cases h;simp only[bO];rw[aY (Rs hx)]
    .cases h
   |[],h=>cases h
   |_::_::_,h=>cases h
 .cases h
theorem Px{agg:Bool}{size aa:Nat}{c:CT X.ι}{y:CT.T X.toSE c}{v:DV X}(h:G9 agg size (((uY c y).drop aa).take size)=some v):part' agg size ((((CT.row X.toSE c y).drop aa).take size).map AV.t)=some (den v):=by
 have:=Cr h;rw[kg,oO]at this;rw[<- this,map_take,map_drop]
theorem ZU{agg:Bool}{size aa:Nat}{c:CT X.ι}{y:CT.T X.toSE c}{v:DV X}(h:N1 agg size c y aa=some v):part' agg size ((((CT.row X.toSE c y).drop aa).take size).map AV.t)=some (den v):=by
 cases c
 case st j=>
  simp only[N1]at h;split at h
  .rename_i hh;obtain⟨rfl,rfl,rfl⟩:=hh;cases h;have hl:(CT.row X.toSE (.st j) y).length=(X.cR j).length:=DR (.st j) y;rw[List.drop_zero,take_of_length_le (by omega)];unfold part';rw[aY (by simpa using hl)];rfl
  .exact Px h
 all_goals exact Px h
theorem ai8{t:TypeId}{x:DV X}(h:QP T t x get k=some r):∃cx rd dv ab,Ku T t (den x) cx (dK rd (fq get))=some ab/\jw ab.obs/\ab.v=den dv/\ab.upd=[]/\k dv [] rd []=some r:=by
 unfold QP at h;unfold Ku;rw[ai]at h;obtain⟨ti,h1,h⟩:=h;simp only[h1,af];split at h
 .rename_i kk row aa;rw[ai]at h;obtain⟨o,h2,h⟩:=h;split at h
  .rename_i sz rows;rw[ai]at h;obtain⟨rw',h3,h⟩:=h;rw[ai]at h;obtain⟨v,h4,h⟩:=h;refine⟨.none,[kk],v,⟨den v,[],[]⟩,?_,trivial,rfl,rfl,h⟩;have h5:=Cr h4;rw[kg]at h5;simp[den,eD (List.mem_singleton_self kk) h2,bH,h3,h5,pv]
  .cases h
 .rename_i kk n aa;rw[ai]at h;obtain⟨o,h2,h⟩:=h;split at h
  .rename_i c l;rw[ai]at h;obtain⟨y,h3,h⟩:=h;rw[ai]at h;obtain⟨v,h4,h⟩:=h;have⟨_,h6⟩:=MP h3;refine⟨.row ((CT.row X.toSE c y).map AV.t),[kk],v,⟨den v,[],[(aI (l.map (CT.row X.toSE c)))[n.toNat]? =some ((CT.row X.toSE c y).map AV.t)]⟩,?_,?_,rfl,rfl,h⟩
   .have h5:=ZU h4;rw[map_take,map_drop]at h5;simp only[den,eD (List.mem_singleton_self kk) h2,af,bH,h5,my]
   .simp[jw,aI,h6]
  .cases h
 .rename_i c y aa;have⟨v,h4,h⟩:=ai.1 h;refine⟨.none,[],v,⟨den v,[],[]⟩,?_,trivial,rfl,rfl,h⟩;simp only[den,ZU h4,af,pv]
 .cases h
theorem VE(a:U (DV X))(aa:Nat)(cs:U (DV X)):bO (Jn a aa cs)=put' (bO a) aa (bO cs):=by simp[Jn,put',nR,map_take,map_drop]
theorem oo{a c:CT X.ι}{x:CT.T X.toSE a}{y:CT.T X.toSE c}(h:jB a c x=some y):den (.c a x)=den (.c c y)/\CT.row X.toSE a x=CT.row X.toSE c y:=by
 have⟨e,h⟩:=rM h;subst e;subst h;exact⟨rfl,rfl⟩
theorem On{c:CT X.ι}(hc:c.one=true)(x:CT.T X.toSE c):[(CT.tv X.toSE c x).av]=(CT.row X.toSE c x).map AV.t:=by
 obtain⟨t,h1,h2⟩:=row_one hc x;rw[h1,h2];rfl
theorem aoj{c:CT X.ι}(x:CT.T X.toSE c):wk (CT.tv X.toSE c x).av=(CT.tv X.toSE c x).av:=by cases c<;>rfl
theorem vY{d:DV X}{c:CT X.ι}{x:CT.T X.toSE c}(h:JX d c=some x):wk (den d)=(CT.tv X.toSE c x).av:=by
 unfold JX at h;split at h
 .rw[(oo h).1];exact aoj x
 .cases h;rfl
 .cases h;rfl
 .cases h
theorem abt{d:DV X}{c:CT X.ι}{x:CT.T X.toSE c}(hc:c.one=true)(h:JX d c=some x):vH d=true:=by
 cases d
 case c a y=>
  obtain⟨e,_⟩:=rM (show jB a c y=some x by cases c<;>exact h);subst e;cases a<;>first |rfl |simp[CT.one]at hc
 case nil=>rfl
 all_goals cases c<;>cases h
theorem yI:∀{ds:U (DV X)}{l:U (CT X.ι)}{h:HL X.toSE l},yH ds l=some h->l.all CT.one=true->(bO ds).map wk=(HL.row X.toSE l h).map AV.t/\ds.all vH=true
 |[],[],h,_,_=>⟨rfl,rfl⟩
 |d::ds,c::l,h,hr,ha=>by
  simp only[yH]at hr;have⟨x,h1,hr⟩:=ai.1 hr;have⟨g,h2,hr⟩:=ai.1 hr;cases hr;simp only[all_cons,aL]at ha ⊢;have⟨i1,i2⟩:=yI h2 ha.2;simp only[bO,aF,HL.row,List.map_append,i1,vY h1,i2,and_true,abt ha.1 h1];simp[<- On ha.1 x]
 |[],_::_,_,hr,_=>by simp[yH]at hr
 |_::_,[],_,hr,_=>by simp[yH]at hr
theorem VF(j:X.ι)(h:HL X.toSE (X.cR j)):CT.row X.toSE (.st j) (X.make j h)=HL.row X.toSE (X.cR j) h:=X.gi j h
theorem am1{c:CT X.ι}(hc:c.one=true){ds:U (DV X)}{x:CT.T X.toSE c}(h:mk1 c ds=some x):(bO ds).map wk=(CT.row X.toSE c x).map AV.t:=by
 match ds,h with
 |[d],h=>
  rw[<- On hc x];simp only[bO,aF,map_nil,vY h]
 |[],h=>cases h
 |_::_::_,h=>cases h
theorem yh{c:CT X.ι}{ds:U (DV X)}{x:CT.T X.toSE c}(h:He c ds=some x):(bO ds).map wk=(CT.row X.toSE c x).map AV.t:=by
 cases c
 case st j=>
  simp only[He]at h;have⟨g,h1,h⟩:=ai.1 h;cases h;rw[(yI h1 (X.flat j)).1,VF]
 all_goals exact am1 rfl h
theorem af3{d:DV X}{c:CT X.ι}(hc:c.one=true){x:CT.T X.toSE c}(h:JX d c=some x):∃cs,cellsOf (den d)=some cs/\cs.map wk=(CT.row X.toSE c x).map AV.t:=by
 have hk:=abt hc h;have hd:=vY h;have he:cellsOf (den d)=some [den d]:=by
  have:=DT (x:=d) (cs:=[d]) (by
   cases d
   case c t y=>cases t<;>first |rfl |simp[vH]at hk
   all_goals first |rfl |simp[vH]at hk)
  simpa[bO]using this
 exact⟨_,he,by rw[<- On hc x];simp[hd]⟩
theorem ai9{d:DV X}{c:CT X.ι}{x:CT.T X.toSE c}(h:dat d c=some x):∃cs,cellsOf (den d)=some cs/\cs.map wk=(CT.row X.toSE c x).map AV.t:=by
 cases c
 case st j=>
  replace h:DO d j=some x:=h
  cases d
  case agg cs=>
   simp only[DO]at h;have⟨g,h1,h⟩:=ai.1 h;cases h;have⟨i1,i2⟩:=yI h1 (X.flat j);refine⟨bO cs,?_,by rw[i1,VF]⟩;simp only[den,cellsOf];rw[aY (ah6 i2)]
  case c a y=>
   replace h:jB a (.st j) y=some x:=h
   rw[(oo h).1];refine⟨(CT.row X.toSE (.st j) x).map AV.t,?_,?_⟩
   .show cellsOf (.agg _)=_;simp only[cellsOf];rw[aY]
    .rfl
    .rw[List.all_map,all_eq_true];exact λ_ _=>rfl
   .rw[map_map];rfl
  all_goals cases h
 all_goals exact af3 rfl h
theorem aja{t:TypeId}{x y:DV X}(h:PR T t x y get k=some r):∃cx kk u ab,UR T t (den x) (den y) cx (dK [kk] (fq get))=some ab/\jw ab.obs/\ab.v= .undef/\ab.upd=iE [(kk,u)]/\k .undef [(kk,u)] [kk] [kk]=some r:=by
 unfold PR at h;unfold UR;rw[ai]at h;obtain⟨ti,h1,h⟩:=h;rw[ai]at h;obtain⟨cs,h2,h⟩:=h;simp only[h1,DT h2,af];split at h
 .rename_i hl;have hdl:(bO cs).length=ti.size:=by rw[kW];exact hl
  simp only[hdl,if_true];split at h
  .rename_i kk row aa;rw[ai]at h;obtain⟨o,h3,h⟩:=h;split at h
   .rename_i sz rows;rw[ai]at h;obtain⟨rw',h4,h⟩:=h;split at h
    .rename_i hle;refine⟨.none,kk,_,⟨.undef,_,[]⟩,?_,trivial,rfl,rfl,h⟩;simp only[den,eD (List.mem_singleton_self kk) h3,af,bH,List.getElem?_map,h4,Option.map_some,kW];rw[aY (by rw[<- hl];exact hle)];simp[VE]
    .cases h
   .cases h
  .rename_i kk n aa;rw[ai]at h;obtain⟨o,h3,h⟩:=h;split at h
   .rename_i c l;rw[ai]at h;obtain⟨z,h4,h⟩:=h;split at h
    .rename_i hle;have⟨z',h5,h⟩:=ai.1 h;have⟨_,h6⟩:=MP h4;refine⟨.set ((CT.row X.toSE c z).map AV.t) (aI ((l.set n.toNat z').map (CT.row X.toSE c))),kk,_,⟨.undef,_,[(aI (l.map (CT.row X.toSE c)))[n.toNat]? =some ((CT.row X.toSE c z).map AV.t)/\aI ((l.set n.toNat z').map (CT.row X.toSE c))=dY ((aI (l.map (CT.row X.toSE c))).set n.toNat (put' ((CT.row X.toSE c z).map AV.t) aa (bO cs)))]⟩,?_,?_,rfl,rfl,h⟩
     .simp only[den,eD (List.mem_singleton_self kk) h3,af,bH];rw[aY (by rw[length_map,DR,<- hl];exact hle)];simp[bH]
     .refine⟨by simp[aI,h6],?_⟩;have h7:=yh h5;rw[VE,oO]at h7;have hid:dY (aI (l.map (CT.row X.toSE c)))=aI (l.map (CT.row X.toSE c)):=(by simp[dY,aI,Function.comp_def,wk]);simp only[dY,List.map_set,h7];have:(aI (l.map (CT.row X.toSE c))).map (List.map wk)=aI (l.map (CT.row X.toSE c)):=hid;rw[this];simp[aI]
    .cases h
   .cases h
  .cases h
 .cases h
theorem Py{t:TypeId}{x:DV X}{f:Nat}(h:KX T t x f k=some r):∃dv ab,yC T t (den x) f=some ab/\jw ab.obs/\ab.v=den dv/\ab.upd=[]/\k dv [] [] []=some r:=by
 unfold KX at h;unfold yC;rw[ai]at h;obtain⟨⟨d,u⟩,h1,h⟩:=h;simp only[h1,af];split at h
 .exact⟨_,_,rfl,trivial,rfl,rfl,h⟩
 .exact⟨_,_,rfl,trivial,rfl,rfl,h⟩
 .exact⟨_,_,rfl,trivial,rfl,rfl,h⟩
 .cases h
theorem abu{t:TypeId}{x:DV X}{f:Nat}(h:Z2 T t x f k=some r):∃dv ab,UU T t (den x) f=some ab/\jw ab.obs/\ab.v=den dv/\ab.upd=[]/\k dv [] [] []=some r:=by
 unfold Z2 at h;unfold UU;rw[ai]at h;obtain⟨⟨d,u⟩,h1,h⟩:=h;simp only[h1,af];split at h
 .rw[ai]at h;obtain⟨v,h2,h⟩:=h;have h3:=Cr h2;rw[kg]at h3;exact⟨v,⟨den v,[],[]⟩,by simp only[den,h3,af,pv],trivial,rfl,rfl,h⟩
 .rename_i j y;have⟨v,h2,h⟩:=ai.1 h;have h3:=Px h2;rw[map_take,map_drop]at h3;refine⟨v,⟨den v,[],[]⟩,?_,trivial,rfl,rfl,h⟩;show(part' u.agg u.size (List.take u.size (List.drop d ((CT.row X.toSE (.st j) y).map AV.t)))).bind pv=_;rw[h3];rfl
 .cases h
theorem eu{α:Type}{b:Bool}{x:J α}{r:α}(h:(bif b then x else none)=some r):b=true/\x=some r:=by
 cases b with
 |true=>exact⟨rfl,h⟩
 |false=>cases h
theorem VG{n:Int}{len:Nat}(h:cC n len=true):0<=n/\n.toNat<len:=by simp only[cC,aL,aV]at h;omega
theorem pJ{A:Type}:∀{cs:U Bool}{k:J A}{r:A},Vz cs k=some r->(∀ c∈cs,c=true)/\k=some r
 |[],_,_,h=>⟨by simp,h⟩
 |c::cs,k,r,h=>by
  have⟨h1,h2⟩:=eu h;have⟨h3,h4⟩:=pJ h2;exact⟨λ x hx=>(aN.1 hx).elim (λ e=>e ▸ h1) (h3 x),h4⟩
theorem Pz{t:TypeId}{x j:DV X}(h:KY T t x j get k=some r):∃cx rd dv ab,lX T t (den x) (den j) cx (dK rd (fq get))=some ab/\jw ab.obs/\ab.v=den dv/\ab.upd=[]/\k dv [] rd []=some r:=by
 unfold KY at h;unfold lX;rw[ai]at h;obtain⟨ti,h1,h⟩:=h;simp only[h1,af];split at h
 .rename_i e kd n hk;rw[ai]at h;obtain⟨ei,h2,h⟩:=h;simp only[hk,den,CT.tv,TV.av,h2,af];split at h
  .rename_i c l;split at h
   .rename_i hs;rw[ai]at h;obtain⟨y,h3,h⟩:=h;have⟨h4,h5⟩:=MP h3;refine⟨.sR (CT.row X.toSE c y),[],_,⟨.er (CT.row X.toSE c y) 0,[],[0<=n/\(l.map (CT.row X.toSE c))[n.toNat]? =some (CT.row X.toSE c y)]⟩,?_,?_,rfl,rfl,h⟩
    .simp only[den,CT.tv,TV.av];rw[aY (by rw[DR];exact hs)];rfl
    .exact⟨h4,by simp[h5]⟩
   .cases h
  .rename_i kk aa len;rw[ai]at h;obtain⟨o,h3,h⟩:=h;split at h
   .rename_i c l;split at h
    .rename_i hs;have⟨h4,h⟩:=eu h;have⟨h5,h6⟩:=VG h4;refine⟨.none,[kk],_,⟨.ptr kk (aa+n.toNat) 0,[],[0<=n/\n.toNat<len]⟩,?_,⟨h5,h6⟩,?_,rfl,h⟩
     .simp only[den,eD (List.mem_singleton_self kk) h3,af,bH];rw[aY hs];rfl
     .simp only[den,iN];congr 1;show aa+Int.toNat n=Int.toNat ((aa:Int)+n);have:(0:Int)<=n:=h5;omega
    .cases h
   .rename_i sz rows;split at h
    .rename_i hs;have⟨h4,h⟩:=eu h;have⟨h5,h6⟩:=VG h4;refine⟨.none,[kk],_,⟨.ptr kk (aa+n.toNat) 0,[],[0<=n/\n.toNat<len]⟩,?_,⟨h5,h6⟩,rfl,rfl,h⟩;simp only[den,eD (List.mem_singleton_self kk) h3,af,bH];rw[aY hs];rfl
    .cases h
   .cases h
  .cases h
 .rename_i m e kd n hk;have⟨ei,h2,h⟩:=ai.1 h;simp only[hk,den,CT.tv,TV.av,h2,af];have⟨h4,h⟩:=eu h;have⟨h5,h6⟩:=VG h4;split at h
  .exact⟨.none,[],_,_,rfl,⟨h5,h6⟩,rfl,rfl,h⟩
  .exact⟨.none,[],_,_,rfl,⟨h5,h6⟩,rfl,rfl,h⟩
  .exact⟨.none,[],_,_,rfl,⟨h5,h6⟩,rfl,rfl,h⟩
  .cases h
 .cases h
theorem VH{x:DV X}{j:Nat}(h:VA x j k=some r):∃dv ab,GR (den x) j=some ab/\jw ab.obs/\ab.v=den dv/\ab.upd=[]/\k dv [] [] []=some r:=by
 unfold VA at h;split at h
 .have⟨v,h2,h⟩:=ai.1 h;refine⟨v,⟨den v,[],[]⟩,?_,trivial,rfl,rfl,h⟩;simp[GR,den,nR,h2,pv]
 .cases h
end
section
variable {X:SX} {A:Type} {T:eb} {am:TypeId->Option (CT X.ι)} {get:Nat->Option (bm X)} {k:KK X A} {r:A} {i:Nat}
theorem abv{op:BinOp}{kd:IntKind}{a b:Int}:∃v obs,UQ op kd a b=some (v,obs)/\den (Hf (X:=X) op kd a b).1= .t (.sc v)/\(∀ g,(Hf (X:=X) op kd a b).2=some g->g=true->jw obs)/\((Hf (X:=X) op kd a b).2=none->jw obs):=by
 cases op<;>refine⟨_,_,rfl,rfl,λg hg ht=>?_,λhn=>?_⟩<;>simp only[Hf,aA,reduceCtorEq]at* <;>try trivial
 all_goals subst hg;simp_all [jw]
theorem adn{n:Nat}{x y:DV X}{b:Bool}(h:abp n x y=some b):KV n (den x) (den y)=some b:=by
 unfold abp at h;split at h
 .split at h
  .cases h;simp only[den,CT.tv,TV.av,KV];rw[aY ‹_›]
  .cases h
 .exact h
 .exact h
 .cases h
theorem MQ:∀{ks:U Nat}{xs ys:U (DV X)}{b:Bool},vX ks xs ys=some b->sW ks (bO xs) (bO ys)=some b
 |[],[],[],b,h=>h
 |k::ks,x::xs,y::ys,b,h=>by
  simp only[vX]at h;rw[ai]at h;obtain⟨p,h1,h⟩:=h;rw[ai]at h;obtain⟨q,h2,h⟩:=h;simp only[bO,sW,adn h1,MQ h2,af,h]
 |[],_::_,_,_,h=>by simp[vX]at h
 |[],[],_::_,_,h=>by simp[vX]at h
 |_::_,[],_,_,h=>by simp[vX]at h
 |_::_,_::_,[],_,h=>by simp[vX]at h
theorem ado{x:DV X}{xs:U (DV X)}(h:MD x=some xs):den x= .agg (bO xs):=by
 unfold MD at h;split at h
 .cases h;rfl
 .rename_i j y;cases h;rw[oO];rfl
 .cases h
theorem af4{op:BinOp}{t:TypeId}{x y:DV X}(h:Wc T op t x y k=some r):∃dv ab,YB T op t (den x) (den y)=some ab/\jw ab.obs/\ab.v=den dv/\ab.upd=[]/\k dv [] [] []=some r:=by
 unfold Wc at h;split at h
 .rename_i kd a yk b;split at h
  .rename_i hk;have⟨v,obs,h1,h2,h3,h4⟩:=abv (X:=X) (op:=op) (kd:=kd) (a:=a) (b:=b);have fin:jw obs->k (Hf op kd a b).1 [] [] []=some r->∃dv ab,YB T op t (den (.c (.int kd) a:DV X)) (den (.c (.int yk) b:DV X))=some ab/\jw ab.obs/\ab.v=den dv/\ab.upd=[]/\k dv [] [] []=some r:=by
    intro ho hkk;refine⟨_,⟨.t (.sc v),[],obs⟩,?_,ho,h2.symm,rfl,hkk⟩;simp only[den,CT.tv,TV.av,YB];rw[aY hk,h1];rfl
   split at h
   .rename_i hn;exact fin (h4 hn) h
   .rename_i g hg;have⟨hgt,h⟩:=eu h;exact fin (h3 g hg hgt) h
  .cases h
 .split at h
  .exact⟨_,_,rfl,trivial,rfl,rfl,h⟩
  .exact⟨_,_,rfl,trivial,rfl,rfl,h⟩
  .exact⟨_,_,rfl,trivial,rfl,rfl,h⟩
  .exact⟨_,_,rfl,trivial,rfl,rfl,h⟩
  .have⟨hc,h⟩:=eu h;exact⟨_,_,rfl,show _<=maxLen from of_decide_eq_true hc,rfl,rfl,h⟩
  .cases h
 .rw[ai]at h;obtain⟨ti,h1,h⟩:=h;split at h
  .rename_i hk;refine⟨_,⟨.t (.sc (.bool _)),[],[]⟩,?_,trivial,rfl,rfl,h⟩;simp only[den,CT.tv,TV.av,YB,h1,af,hk];rfl
  .rename_i hk;refine⟨_,⟨.t (.sc (.bool _)),[],[]⟩,?_,trivial,rfl,rfl,h⟩;simp only[den,CT.tv,TV.av,YB,h1,af,hk];rfl
  .cases h
 .rw[ai]at h;obtain⟨xs,h1,h⟩:=h;rw[ai]at h;obtain⟨ys,h2,h⟩:=h;rw[ai]at h;obtain⟨ti,h3,h⟩:=h;split at h
  .cases h
  .rename_i hc;have⟨b,h4,h⟩:=ai.1 h;have h5:=MQ h4;rw[ado h1,ado h2];split at h
   .refine⟨_,⟨.t (.sc (.bool b)),[],[]⟩,?_,trivial,rfl,rfl,h⟩;simp only[YB,h3,af];rw[aR hc,h5];rfl
   .refine⟨_,⟨.t (.sc (.bool (!b))),[],[]⟩,?_,trivial,rfl,rfl,h⟩;simp only[YB,h3,af];rw[aR hc,h5];rfl
   .cases h
theorem ajb{op:UnOp}{x:DV X}(h:PM op x k=some r):∃dv ab,PA op (den x)=some ab/\jw ab.obs/\ab.v=den dv/\ab.upd=[]/\k dv [] [] []=some r:=by
 unfold PM at h;split at h
 .exact⟨_,_,rfl,trivial,rfl,rfl,h⟩
 .exact⟨_,_,rfl,trivial,rfl,rfl,h⟩
 .cases h
theorem Rt(mx:Bool)(kd:IntKind):∀(l:U (DV X))(a n:Int),Js mx kd a l=some n->Dy mx kd a (bO l)=some n
 |[],a,n,h=>h
 |x::l,a,n,h=>by
  cases x
  case c t y=>
   cases t
   case int k'=>
    simp only[Js]at h;simp only[bO,den,CT.tv,TV.av,Dy];split at h
    .rename_i hk;rw[aY hk];exact Rt mx kd l _ _ h
    .cases h
   all_goals simp[Js]at h
  all_goals simp[Js]at h
theorem ZV{mx:Bool}{args:U (DV X)}(h:LN mx args k=some r):∃dv ab,GG mx (bO args)=some ab/\jw ab.obs/\ab.v=den dv/\ab.upd=[]/\k dv [] [] []=some r:=by
 unfold LN at h;split at h
 .rename_i kd a l;rw[ai]at h;obtain⟨n,h1,h⟩:=h;refine⟨_,⟨.t (.sc (.int kd n)),[],[]⟩,?_,trivial,rfl,rfl,h⟩;simp only[bO,den,CT.tv,TV.av,GG];have:=Rt mx kd l a n h1;simp only[this];rfl
 .cases h
theorem af5{t:TypeId}{x:DV X}(h:Wa T t x k=some r):∃cx dv ab,As T t (den x) cx=some ab/\jw ab.obs/\ab.v=den dv/\ab.upd=[]/\k dv [] [] []=some r:=by
 unfold Wa at h;unfold As;rw[ai]at h;obtain⟨ti,h1,h⟩:=h;simp only[h1,af];split at h
 .rename_i e c l hk;simp only[hk];exact⟨.num (l.length:Int),_,⟨.t (.sc (.int .i64 (l.length:Int))),[],[(l.length:Int)=((l.map (CT.row X.toSE c)).length:Int)]⟩,rfl,by simp[jw],rfl,rfl,h⟩
 .rename_i hk;simp only[hk];exact⟨.none,_,_,rfl,trivial,rfl,rfl,h⟩
 .rename_i hk;simp only[hk];exact⟨.none,_,_,rfl,trivial,rfl,rfl,h⟩
 .rename_i hk;simp only[hk];exact⟨.none,_,_,rfl,trivial,rfl,rfl,h⟩
 .rename_i hk;simp only[hk];exact⟨.none,_,_,rfl,trivial,rfl,rfl,h⟩
 .cases h
theorem PD(place:Nat->J (Nat×Nat)):∀(parts:U (Nat×DV X))(cells ab:U (DV X)),ZT place cells parts=some ab->Ff place (bO cells) (parts.map λp=>(p.1,den p.2))=some (bO ab)
 |[],cells,ab,h=>by simp only[ZT,aA]at h;subst h;rfl
 |(j,x)::ag,cells,ab,h=>by
  simp only[ZT]at h;rw[ai]at h;obtain⟨⟨aa,size⟩,h1,h⟩:=h;rw[ai]at h;obtain⟨cs,h2,h⟩:=h;split at h
  .rename_i hl;simp only[aF,Ff,h1,DT h2,af,kW];rw[aY hl,<- VE];exact PD place ag _ _ h
  .cases h
theorem abw{t:TypeId}{parts:U (Nat×DV X)}(h:Z1 T t parts k=some r):∃dv ab,UW T t (parts.map λp=>(p.1,den p.2))=some ab/\jw ab.obs/\ab.v=den dv/\ab.upd=[]/\k dv [] [] []=some r:=by
 unfold Z1 at h;unfold UW;rw[ai]at h;obtain⟨ti,h1,h⟩:=h;simp only[h1,af];split at h
 .rename_i fs hk;split at h
  .rename_i ha;rw[ai]at h;obtain⟨cells,h2,h⟩:=h;have h3:=PD _ _ _ _ h2;rw[Cq]at h3;refine⟨_,⟨.agg (bO cells),[],[]⟩,?_,trivial,rfl,rfl,h⟩;simp only[hk];rw[aY ha,h3];rfl
  .cases h
 .rename_i m e hk;rw[ai]at h;obtain⟨ei,h2,h⟩:=h;rw[ai]at h;obtain⟨cells,h3,h⟩:=h;have h4:=PD _ _ _ _ h3;rw[Cq]at h4;refine⟨_,⟨.agg (bO cells),[],[]⟩,?_,trivial,rfl,rfl,h⟩;simp only[hk,h2,af,h4];rfl
 .cases h
theorem ZW(size:Nat)(c:CT X.ι)(hs:CT.sz X c=size)(z:U AV):∀(parts:U (Nat×DV X))(n:Nat)(l:U (CT.T X.toSE c))(done:U (List AV)),I3 c n parts=some l->done.length=n->
 ∃css:U (List AV),Mh size (done++List.replicate parts.length z) (parts.map λp=>(p.1,den p.2))=some (done++css)/\css.map (λ r=>r.map wk)=aI (l.map (CT.row X.toSE c))
 |[],n,l,done,h,_=>by
  simp only[I3,aA]at h;subst h;exact⟨[],by simp[Mh],rfl⟩
 |(j,x)::ag,n,l,done,h,hd=>by
  simp only[I3]at h;split at h
  .rename_i hj;subst hj;have⟨y,h1,h⟩:=ai.1 h;have⟨l',h2,h⟩:=ai.1 h;cases h;have⟨cs,g1,g2⟩:=ai9 h1;have hl:cs.length=size:=by
    have:=congrArg List.length g2;simp only[length_map,DR]at this;omega
   obtain⟨css,i1,i2⟩:=ZW size c hs z ag (j+1) l' (done++[cs]) h2 (by simp[hd]);refine⟨cs::css,?_,?_⟩
   .simp only[aF,Mh,g1,af];rw[aY ⟨hl,by simp;omega⟩];have:(done++List.replicate (ag.length+1) z).set j cs=done++[cs]++List.replicate ag.length z:=by
     rw[List.set_append_right _ _ (by omega),hd];simp[List.replicate_succ]
    simp only[bJ,this,i1];simp
   .simp only[aF,i2,g2,aI,aF]
  .cases h
theorem MR{t:TypeId}{len:Nat}{parts:U (Nat×DV X)}(h:Hg T am i t len parts k=some r):∃dv u ab,vV T i t len (parts.map λp=>(p.1,den p.2))=some ab/\jw ab.obs/\ab.v=den dv/\ab.upd=iE [(cJ i,u)]/\k dv [(cJ i,u)] [] []=some r:=by
 unfold Hg at h;unfold vV;rw[ai]at h;obtain⟨ti,h1,h⟩:=h;simp only[h1,af];split at h
 .rename_i e hk;rw[ai]at h;obtain⟨ei,h2,h⟩:=h;rw[ai]at h;obtain⟨c,h3,h⟩:=h;simp only[hk,h2,af];split at h
  .cases h
  .rename_i hno;simp only[not_or,Decidable.not_not]at hno;obtain⟨n1,n2,n3,n4⟩:=hno;have⟨l,h4,h⟩:=ai.1 h;have⟨css,g1,g2⟩:=ZW ei.size c n3 (ei.zero.map cv) parts 0 l [] h4 rfl;simp only[bQ,n4]at g1;refine⟨_,_,⟨.own (cJ i) 0 len,[(cJ i,some ⟨ei.size,dY css⟩)],[]⟩,?_,trivial,rfl,?_,h⟩
   .rw[aR (by simp only[not_or];exact⟨n1,n2⟩),g1];rfl
   .simp only[iE,bH,aF,map_nil,Option.map_some,n3];rw[show dY css=aI (l.map (CT.row X.toSE c))from g2]
 .cases h
theorem abx{e:TypeId}(h:af0 T i e k=some r):∃dv u ab,UX T i e=some ab/\jw ab.obs/\ab.v=den dv/\ab.upd=iE [(cJ i,u)]/\k dv [(cJ i,u)] [] []=some r:=by
 unfold af0 at h;unfold UX;have⟨ti,h1,h⟩:=ai.1 h;exact⟨_,_,⟨_,[(cJ i,some ⟨ti.size,[ti.zero.map cv]⟩)],[]⟩,by simp only[h1,af];rfl,trivial,rfl,by simp[iE,bH,Cq],h⟩
theorem af6{x:DV X}(h:V2 i x k=some r):∃dv u ab,J1 i (den x)=some ab/\jw ab.obs/\ab.v=den dv/\ab.upd=iE [(cJ i,u)]/\k dv [(cJ i,u)] [] []=some r:=by
 unfold V2 at h;unfold J1;rw[ai]at h;obtain⟨cs,h1,h⟩:=h;exact⟨_,_,⟨_,[(cJ i,some ⟨(bO cs).length,[bO cs]⟩)],[]⟩,by simp only[DT h1,af];rfl,trivial,rfl,by simp[iE,bH,kW],h⟩
theorem Cs{d n:Int}{x:J (DV X)}(h:z6 d x=some n):bnd d (x.map den)=some n:=by
 unfold z6 at h;split at h
 .exact h
 .exact h
 .cases h
theorem ZX{l h:Int}{len:Nat}(hh:A8 l h len=true):0<=l/\l<=h/\h<=(len:Int):=by simpa[A8,and_assoc]using hh
theorem aby{t:TypeId}{x:DV X}{lo hi:J (DV X)}(h:af2 T t x lo hi get k=some r):∃cx rd dv ab,UY T t (den x) (lo.map den) (hi.map den) cx (dK rd (fq get))=some ab/\jw ab.obs/\ab.v=den dv/\ab.upd=[]/\k dv [] rd []=some r:=by
 unfold af2 at h;unfold UY;rw[ai]at h;obtain⟨ti,h1,h⟩:=h;simp only[h1,af];split at h
 .rename_i e hk;rw[ai]at h;obtain⟨ei,h2,h⟩:=h;simp only[hk,h2,af];split at h
  .rename_i kk aa len;rw[ai]at h;obtain⟨o,h3,h⟩:=h;split at h
   .rename_i hs;rw[ai]at h;obtain⟨l,h4,h⟩:=h;rw[ai]at h;obtain⟨hh,h5,h⟩:=h;have⟨h6,h⟩:=eu h;refine⟨.none,[kk],_,⟨.own kk (aa+l.toNat) (hh.toNat -l.toNat),[],[0<=l/\l<=hh/\hh<=(len:Int)]⟩,?_,ZX h6,rfl,rfl,h⟩;simp only[den,eD (List.mem_singleton_self kk) h3,af];rw[aY hs,Cs h4,af,Cs h5];rfl
   .cases h
  .rename_i c xs;split at h
   .rename_i hs;have⟨l,h4,h⟩:=ai.1 h;have⟨hh,h5,h⟩:=ai.1 h;have⟨h6,h⟩:=eu h;refine⟨.AF ((sub xs l.toNat (hh.toNat -l.toNat)).map (CT.row X.toSE c)),[],_,⟨.t (.sl ((sub xs l.toNat (hh.toNat -l.toNat)).map (CT.row X.toSE c))),[],[0<=l/\l<=hh/\hh<=((xs.map (CT.row X.toSE c)).length:Int)/\(sub xs l.toNat (hh.toNat -l.toNat)).map (CT.row X.toSE c)=((xs.map (CT.row X.toSE c)).drop l.toNat).take (hh.toNat -l.toNat)/\(∀ q∈xs.map (CT.row X.toSE c),q.length=ei.size)]⟩,?_,?_,rfl,rfl,h⟩
    .simp only[den,CT.tv,TV.av,Cs h4,af];have h7:bnd ((xs.map (CT.row X.toSE c)).length:Int) (hi.map den)=some hh:=by
      have:=Cs h5;simpa using this
     rw[h7];rfl
    .have⟨a1,a2,a3⟩:=ZX h6;refine⟨a1,a2,by simpa using a3,by simp[sub,map_take,map_drop],λq hq=>?_⟩;obtain⟨y,_,rfl⟩:=mem_map.1 hq;rw[DR];exact hs
   .cases h
  .cases h
 .cases h
end
section
variable {X:SX} {A:Type} {T:eb} {am:TypeId->Option (CT X.ι)} {get:Nat->Option (bm X)} {k:KK X A} {r:A} {i:Nat}
theorem ji{b c:CT X.ι}{l:U (CT.T X.toSE b)}{l':U (CT.T X.toSE c)}(h:jB (.sl b) (.sl c) l=some l'):CT.sz X b=CT.sz X c/\l.map (CT.row X.toSE b)=l'.map (CT.row X.toSE c):=by
 have⟨e,h⟩:=rM h;cases e;subst h;exact⟨rfl,rfl⟩
theorem adp{y:DV X}{c:CT X.ι}{n:Nat}{l:U (CT.T X.toSE c)}{rd:U Nat}(h:V1 y c get=some (n,l,rd))(hl:l.length=n)(rd':U Nat)(hrd:∀j∈rd,j∈rd'):
 ∃ob,UZ (CT.sz X c) (den y) (dK rd' (fq get))=some (n,ob,aI (l.map (CT.row X.toSE c)))/\ob:=by
 unfold V1 at h;split at h
 .rename_i kk aa len;rw[ai]at h;obtain⟨o,h1,h⟩:=h;split at h
  .rename_i b l0;rw[ai]at h;obtain⟨l1,h2,h⟩:=h;injection h with h;simp only[Prod.mk.injEq]at h;obtain⟨rfl,rfl,rfl⟩:=h;have⟨h3,h4⟩:=ji h2;refine⟨True,?_,trivial⟩;simp only[den,UZ,eD (hrd kk (by simp)) h1,af,bH];rw[aY h3];simp only[h4,aA,Prod.mk.injEq,true_and];simp[aI,sub,map_take,map_drop]
  .cases h
 .rename_i b l0;have⟨l1,h2,h⟩:=ai.1 h;injection h with h;simp only[Prod.mk.injEq]at h;obtain⟨rfl,rfl,rfl⟩:=h;refine⟨∀ q∈l1.map (CT.row X.toSE c),q.length=CT.sz X c,?_,?_⟩
  .rw[(oo h2).1];simp only[den,CT.tv,TV.av,UZ,length_map]
  .intro q hq;obtain⟨z,_,rfl⟩:=mem_map.1 hq;exact DR c z
 .cases h
theorem VI{lo len ln n bytes:Nat}(h:bP lo len ln n bytes=true):lo=len/\ln=n/\(len+n)*bytes<=140737488355328/\len+n<=maxLen:=by simpa[bP,and_assoc]using h
theorem pn{α:Type}(n:Nat)(l:U α):VB n l=l.drop n:=by cases n<;>rfl
theorem YN{t:TypeId}{x y:DV X}(h:abq T am i t x y get k=some r):∃cx rd wr dv upd ab,zU T i t (den x) (den y) cx (dK rd (fq get))=some ab/\jw ab.obs/\ab.v=den dv/\ab.upd=iE upd/\(∀ p∈upd,p.1=cJ i\/p.1∈wr)/\k dv upd rd wr=some r:=by
 unfold abq at h;unfold zU;rw[ai]at h;obtain⟨ti,h1,h⟩:=h;simp only[h1,af];split at h
 .rename_i e hk;rw[ai]at h;obtain⟨ei,h2,h⟩:=h;rw[ai]at h;obtain⟨c,h3,h⟩:=h;simp only[hk,h2,af];split at h
  .rename_i hs;rw[ai]at h;obtain⟨⟨n,l,rd⟩,h4,h⟩:=h;split at h
   .rename_i kk aa len;rw[ai]at h;obtain⟨o,h5,h⟩:=h;split at h
    .rename_i b l0;have⟨l1,h6,h⟩:=ai.1 h;have⟨h7,h⟩:=eu h;rw[pn]at h7 h;have hd:(aI (l1.map (CT.row X.toSE c))).drop aa=aI ((l1.drop aa).map (CT.row X.toSE c)):=(by simp[aI]);have⟨g1,g2,g3,g4⟩:=VI h7;have⟨h8,h9⟩:=ji h6;obtain⟨ob,i1,i2⟩:=adp h4 g2 (kk::rd) (λ j hj=>by simp[hj]);have i3:=eD (rd:=kk::rd) (by simp) h5
     refine⟨.rows (aI ((l1.drop aa++l).map (CT.row X.toSE c))),kk::rd,[kk],_,_,⟨.own (cJ i) 0 (aI ((l1.drop aa++l).map (CT.row X.toSE c))).length,[(cJ i,some ⟨ei.size,aI ((l1.drop aa++l).map (CT.row X.toSE c))⟩),(kk,none)],
      [ob/\(aI ((l1.drop aa).map (CT.row X.toSE c))).length=len/\(aI (l.map (CT.row X.toSE c))).length=n/\aI ((l1.drop aa++l).map (CT.row X.toSE c))=aI ((l1.drop aa).map (CT.row X.toSE c))++aI (l.map (CT.row X.toSE c))/\(len+n)*ei.bytes<=140737488355328/\len+n<=maxLen]⟩,?_,?_,?_,?_,?_,h⟩
     .rw[hs]at i1;simp only[i1,af,den,i3,bH,h9,hd];rw[aY (by rw[h8,hs])]
     .exact⟨i2,by simpa[aI]using g1,by simpa[aI]using g2,by simp[aI],g3,g4⟩
     .simp[den,aI]
     .simp[iE,bH,hs]
     .intro p hp;simp only[aN,fD,or_false]at hp;rcases hp with rfl |rfl
      .exact .inl rfl
      .exact .inr (by simp)
    .cases h
   .have⟨h7,h⟩:=eu h;have⟨g1,g2,g3,g4⟩:=VI h7;obtain⟨ob,i1,i2⟩:=adp h4 g2 rd (λ j hj=>hj)
    refine⟨.rows (aI (l.map (CT.row X.toSE c))),rd,[],_,_,⟨.own (cJ i) 0 (aI (l.map (CT.row X.toSE c))).length,[(cJ i,some ⟨ei.size,aI (l.map (CT.row X.toSE c))⟩)],
     [ob/\(aI (l.map (CT.row X.toSE c))).length=n/\aI (l.map (CT.row X.toSE c))=aI (l.map (CT.row X.toSE c))/\n*ei.bytes<=140737488355328/\n<=maxLen]⟩,?_,?_,?_,?_,?_,h⟩
    .rw[hs]at i1;simp only[i1,af,den]
    .exact⟨i2,by simpa[aI]using g2,rfl,by simpa using g3,by simpa using g4⟩
    .simp[den,aI]
    .simp[iE,bH,hs]
    .intro p hp;simp only[aN,fD,or_false]at hp;rcases hp with rfl;exact .inl rfl
   .cases h
  .cases h
 .cases h
def apf(T:eb)(i:Nat)(o:Oper)(ρ:Operand->DV X)(get:Nat->J (bm X))(k:KK X A)(r:A):Prop:=
 ∃cx rd wr dv upd ab,qc T i o cx (λ x=>den (ρ x)) (dK rd (fq get))=some ab/\jw ab.obs/\ab.v=den dv/\ab.upd=iE upd/\(∀ p∈upd,p.1=cJ i\/p.1∈wr)/\k dv upd rd wr=some r
theorem VJ{b:Builtin}{args:U (DV X)}{cR:U TypeId}(h:VD T am i b args cR get k=some r):∃cx rd wr dv upd ab,Ck T i b (bO args) cR cx (dK rd (fq get))=some ab/\jw ab.obs/\ab.v=den dv/\ab.upd=iE upd/\(∀ p∈upd,p.1=cJ i\/p.1∈wr)/\k dv upd rd wr=some r:=by
 unfold VD at h;unfold Ck;split at h
 .have⟨cx,dv,ab,h1,h2,h3,h4,h5⟩:=af5 h;exact⟨cx,[],[],dv,[],ab,h1,h2,h3,h4,by simp,h5⟩
 .have⟨dv,ab,h1,h2,h3,h4,h5⟩:=ZV h;exact⟨.none,[],[],dv,[],ab,h1,h2,h3,h4,by simp,h5⟩
 .have⟨dv,ab,h1,h2,h3,h4,h5⟩:=ZV h;exact⟨.none,[],[],dv,[],ab,h1,h2,h3,h4,by simp,h5⟩
 .split at h
  .rename_i htu;have⟨cx,rd,wr,dv,upd,ab,h1,h2⟩:=YN h;refine⟨cx,rd,wr,dv,upd,ab,?_,h2⟩;simp only[bO];rw[aY htu];exact h1
  .cases h
 .cases h
theorem Ut(ρ:Operand->DV X)(l:U Operand):l.map (λ x=>den (ρ x))=bO (l.map ρ):=by rw[nR,map_map];rfl
theorem ZY{o:Oper}{ρ:Operand->DV X}(h:LL T am i o.op ρ get k=some r):apf T i o ρ get k r:=by
 obtain⟨dst,op,ty,ao,after,guard⟩:=o;unfold apf qc;simp only at h;unfold LL at h;split at h
 .exact⟨.none,[],[],_,[],_,rfl,trivial,rfl,rfl,by simp,h⟩
 .exact⟨.none,[],[],_,[],_,rfl,trivial,rfl,rfl,by simp,h⟩
 .rename_i c a b;split at h
  .rename_i t hc;refine⟨.none,[],[],_,[],⟨Lo t (den (ρ a)) (den (ρ b)),[],[]⟩,?_,trivial,(ai7 t _ _).symm,rfl,by simp,h⟩;simp only[hc,den,CT.tv,TV.av,pv]
  .cases h
 .have⟨dv,u,ab,h1,h2,h3,h4,h5⟩:=abx h;exact⟨.none,[],[],dv,_,ab,h1,h2,h3,h4,by simp,h5⟩
 .have⟨dv,u,ab,h1,h2,h3,h4,h5⟩:=af6 h;exact⟨.none,[],[],dv,_,ab,h1,h2,h3,h4,by simp,h5⟩
 .rename_i t parts;have⟨dv,ab,h1,h2,h3,h4,h5⟩:=abw h;refine⟨.none,[],[],dv,[],ab,?_,h2,h3,h4,by simp,h5⟩;rw[map_map]at h1;exact h1
 .rename_i t len parts;have⟨dv,u,ab,h1,h2,h3,h4,h5⟩:=MR h;refine⟨.none,[],[],dv,_,ab,?_,h2,h3,h4,by simp,h5⟩;rw[map_map]at h1;exact h1
 .have⟨cx,rd,dv,ab,h1,h2,h3,h4,h5⟩:=ai8 h;exact⟨cx,rd,[],dv,[],ab,h1,h2,h3,h4,by simp,h5⟩
 .have⟨cx,kk,u,ab,h1,h2,h3,h4,h5⟩:=aja h;exact⟨cx,[kk],[kk],.undef,_,ab,h1,h2,h3,h4,by simp,h5⟩
 .have⟨dv,ab,h1,h2,h3,h4,h5⟩:=af4 h;exact⟨.none,[],[],dv,[],ab,h1,h2,h3,h4,by simp,h5⟩
 .have⟨dv,ab,h1,h2,h3,h4,h5⟩:=ajb h;exact⟨.none,[],[],dv,[],ab,h1,h2,h3,h4,by simp,h5⟩
 .rename_i f first caps
  refine⟨.none,[],[],_,[],⟨.fn f (first.toList.map λx=>den (ρ x)) (caps.toList.map λx=>den (ρ x)),[],[]⟩,rfl,trivial,?_,rfl,by simp,h⟩;simp only[den,Ut]
 .rename_i t x lo hi;have⟨cx,rd,dv,ab,h1,h2,h3,h4,h5⟩:=aby h;refine⟨cx,rd,[],dv,[],ab,?_,h2,h3,h4,by simp,h5⟩;simp only[Option.map_map]at h1;exact h1
 .have⟨dv,ab,h1,h2,h3,h4,h5⟩:=Py h;exact⟨.none,[],[],dv,[],ab,h1,h2,h3,h4,by simp,h5⟩
 .have⟨dv,ab,h1,h2,h3,h4,h5⟩:=abu h;exact⟨.none,[],[],dv,[],ab,h1,h2,h3,h4,by simp,h5⟩
 .have⟨cx,rd,dv,ab,h1,h2,h3,h4,h5⟩:=Pz h;exact⟨cx,rd,[],dv,[],ab,h1,h2,h3,h4,by simp,h5⟩
 .have⟨dv,ab,h1,h2,h3,h4,h5⟩:=VH h;exact⟨.none,[],[],dv,[],ab,h1,h2,h3,h4,by simp,h5⟩
 .rename_i b args cR;have⟨cx,rd,wr,dv,upd,ab,h1,h2⟩:=VJ h;refine⟨cx,rd,wr,dv,upd,ab,?_,h2⟩;simp only[Ut];exact h1
 .cases h
end
inductive Pt(ι:Type) where
 |v (c:CT ι)
 |o (k:Nat)
 |p (k:Nat)
 |nil
 |f (F:FuncId) (fs cs:List (Pt ι))
 |od (k:Nat)
 |mp (k:Nat)
 |oz (k:Nat)
 |a (ps:List (Pt ι))
inductive OP(ι:Type) where
 |l (c:CT ι)
 |m (k v:CT ι)
 |c (sz:Nat) (rows:List (List (Pt ι)))
section
variable {ι:Type}
mutual
def Pt.vars:Pt ι->List (CT ι)
 | .v c=>[c]
 | .a ps=>cQ ps
 | .f _ fs cs=>cQ fs++cQ cs
 | .od _=>[.int .i64]
 |_=>[]
def cQ:List (Pt ι)->List (CT ι)
 |[]=>[]
 |p::ps=>p.vars++cQ ps
end
def gS:U (Nat×Pt ι)->U (CT ι)
 |[]=>[]
 |p::ps=>p.2.vars++gS ps
def vZ:U (List (Pt ι))->U (CT ι)
 |[]=>[]
 |r::rs=>cQ r++vZ rs
def cH:U (Nat×OP ι)->U (CT ι)
 |[]=>[]
 |(_,.l c)::r=> .sl c::cH r
 |(_,.m k v)::r=> .mp k v::cH r
 |(_,.c _ rows)::r=>vZ rows++cH r
end
section
variable {X:SX}
structure DC(X:SX) where
 c:CT X.ι
 x:CT.T X.toSE c
@[reducible] def VT:U (CT X.ι)->Type
 |[]=>Unit
 |[c]=>CT.T X.toSE c
 |c::c'::l=>CT.T X.toSE c×VT (c'::l)
def YO:(l:U (CT X.ι))->U (DC X)->J (VT (X:=X) l)
 |[],[]=>some ()
 |[c],[d]=>jB d.c c d.x
 |c::c'::l,d::ds=>(jB d.c c d.x).bind λx=>(YO (c'::l) ds).bind λv=>some (x,v)
 |_,_=>none
def wh:(l:U (CT X.ι))->VT (X:=X) l->U (DC X)
 |[],_=>[]
 |[c],x=>[⟨c,x⟩]
 |c::c'::l,v=>⟨c,v.1⟩::wh (c'::l) v.2
theorem adq{d:DC X}{c:CT X.ι}{x:CT.T X.toSE c}(h:jB d.c c d.x=some x):(⟨c,x⟩:DC X)=d:=by
 obtain⟨a,y⟩:=d;have⟨e,h⟩:=rM h;simp only at e;subst e;subst h;rfl
theorem VK:∀{l:U (CT X.ι)}{ds:U (DC X)}{v:VT (X:=X) l},YO l ds=some v->wh l v=ds
 |[],[],_,_=>rfl
 |[c],[d],v,h=>by simp only[YO]at h;simp only[wh,adq h]
 |c::c'::l,d::ds,v,h=>by
  simp only[YO]at h;rw[ai]at h;obtain⟨x,h1,h⟩:=h;rw[ai]at h;obtain⟨v',h2,h⟩:=h;cases h;simp only[wh,adq h1,VK h2]
 |[],_::_,_,h=>by simp[YO]at h
 |[_],[],_,h=>by simp[YO]at h
 |[_],_::_::_,_,h=>by simp[YO]at h
 |_::_::_,[],_,h=>by simp[YO]at h
theorem VL{c:CT X.ι}(x:CT.T X.toSE c):jB c c x=some x:=by
 unfold jB;split
 .rfl
 .rename_i h _;exact absurd rfl h
def Z0(d:DC X):Nat:=match jB d.c (.int .i64) d.x with |some x=>Int.toNat x |none=>0
section
variable (du:Nat->Nat)
mutual
def eP:Pt X.ι->List (DC X)->DV X×List (DC X)
 | .v _,L=>match L with
  |d::r=>(.c d.c d.x,r)
  |[]=>(.undef,[])
 | .o k,L=>(.own k 0 (du k),L)
 | .p k,L=>(.ptr k 0 0,L)
 | .mp k,L=>(.mp k,L)
 | .oz k,L=>(.oz k (du k),L)
 | .nil,L=>(.nil,L)
 | .f F fs cs,L=>(.fn F (lh fs L).1 (lh cs (lh fs L).2).1,(lh cs (lh fs L).2).2)
 | .od k,L=>match L with
  |d::r=>(.own k (Z0 d) (du k -Z0 d),r)
  |[]=>(.undef,[])
 | .a ps,L=>(.agg (lh ps L).1,(lh ps L).2)
def lh:List (Pt X.ι)->List (DC X)->List (DV X)×List (DC X)
 |[],L=>([],L)
 |p::ps,L=>((eP p L).1::(lh ps (eP p L).2).1,(lh ps (eP p L).2).2)
end
def KZ:U (Nat×Pt X.ι)->U (DC X)->U (Nat×DV X)
 |[],_=>[]
 |(t,p)::r,L=>(t,(eP du p L).1)::KZ r (eP du p L).2
def wm:U (List (Pt X.ι))->U (DC X)->U (List (DV X))×List (DC X)
 |[],L=>([],L)
 |r::rs,L=>((lh du r L).1::(wm rs (lh du r L).2).1,(wm rs (lh du r L).2).2)
def dn:U (Nat×OP X.ι)->U (DC X)->U (Nat×Option (bm X))
 |[],_=>[]
 |(k,.l _)::r,L=>match L with
  |⟨.sl c',x⟩::L=>(k,some (.ea c' x))::dn r L
  |_=>[]
 |(k,.m _ _)::r,L=>match L with
  |⟨.mp kc vc,x⟩::L=>(k,some (.map kc vc x))::dn r L
  |_=>[]
 |(k,.c sz rows)::r,L=>(k,some (.cells sz (wm du rows L).1))::dn r (wm du rows L).2
end
def lens:U (Nat×OP X.ι)->U (DC X)->U (Nat×Nat)
 |[],_=>[]
 |(k,.l _)::r,L=>match L with
  |⟨.sl _,x⟩::L=>(k,List.length x)::lens r L
  |_=>[]
 |(_,.m _ _)::r,L=>lens r (L.drop 1)
 |(_,.c _ rows)::r,L=>lens r (L.drop (vZ rows).length)
def lj:Nat->U (Pt X.ι)->U (Nat×Pt X.ι)
 |_,[]=>[]
 |n,p::ps=>(n,p)::lj (n+1) ps
theorem PE:∀(n:Nat)(ps:U (Pt X.ι)),gS (lj n ps)=cQ ps
 |_,[]=>rfl
 |n,p::ps=>by simp only[lj,gS,cQ,PE (n+1) ps]
structure c7(X:SX) where
 pC:List (Pt X.ι)
 i6:List (Nat×OP X.ι)
 fL:List (Pt X.ι)
 iz:List (Nat×OP X.ι)
 fn:VT (X:=X) (cQ pC++cH i6)->Option (VT (X:=X) (gS (lj 0 fL)++cH iz))
def DU(O:U (Nat×OP X.ι))(L:U (DC X))(k:Nat):Nat:=(lk (lens O L) k).getD 0
def VN(ps:U (Pt X.ι))(O:U (Nat×OP X.ι))(L:U (DC X)):U (DV X):=(lh (DU O (L.drop (cQ ps).length)) ps (L.take (cQ ps).length)).1
def Lk(ps:U (Pt X.ι))(O:U (Nat×OP X.ι))(L:U (DC X)):U (Nat×Option (bm X)):=dn (DU O (L.drop (cQ ps).length)) O (L.drop (cQ ps).length)
def yJ:U (DV X)->DV X
 |[d]=>d
 |ds=> .eE ds
def dJ:U (Nat×Option (bm X))->U (Nat×bm X)
 |[]=>[]
 |(k,some o)::r=>(k,o)::dJ r
 |(_,none)::r=>dJ r
def tu(l:U (Nat×bm X)):U (Nat×aT):=l.map λp=>(p.1,bH p.2)
def c7.args(g:c7 X)(v:VT (X:=X) (cQ g.pC++cH g.i6)):U (DV X):=VN g.pC g.i6 (wh _ v)
def c7.cE(g:c7 X)(v:VT (X:=X) (cQ g.pC++cH g.i6)):U (Nat×bm X):=dJ (Lk g.pC g.i6 (wh _ v))
def c7.res(g:c7 X)(r:VT (X:=X) (gS (lj 0 g.fL)++cH g.iz)):DV X:=yJ (VN g.fL g.iz (wh _ r))
def c7.outs(g:c7 X)(r:VT (X:=X) (gS (lj 0 g.fL)++cH g.iz)):U (Nat×bm X):=dJ (Lk g.fL g.iz (wh _ r))
def Fo(P:Program)(f:FuncId)(g:c7 X):Prop:=∀v r,g.fn v=some r->yi P f (bO (g.args v)) ((g.cE v).map λp=>bH p.2) (tu (g.outs r)) (den (g.res r))
end
inductive AT(ι:Type) where
 |d (c:CT ι)
 |ref (c:CT ι)
 |d8 (as:List (CT ι)) (r:CT ι)
 |mut (c:CT ι)
 |iS (c:CT ι)
 |nil
 deriving DecidableEq
def AT.im{ι:Type}:AT ι->Bool
 | .mut _ | .iS _=>true
 |_=>false
def AT.pl{ι:Type}:AT ι->Bool
 | .mut _ | .iS _ | .nil=>false
 |_=>true
inductive RT(ι:Type) where
 |d (c:CT ι)
 |fresh (e:CT ι)
 |whole (j:Nat)
 |mu (c:CT ι)
 |mr (c:CT ι)
 |mv
def RT.out{ι:Type}:RT ι->Bool
 | .mu _ | .mr _ | .mv=>true
 |_=>false
section
variable (X:SX)
@[reducible] def AT.T:AT X.ι->Type
 | .d c=>CT.T X.toSE c
 | .ref c=>CT.T X.toSE c
 | .d8 as r=>HL X.toSE as->J (CT.T X.toSE r)
 | .mut c=>U (CT.T X.toSE c)
 | .iS c=>CT.T X.toSE c
 | .nil=>Unit
@[reducible] def RT.T:RT X.ι->Type
 | .d c=>CT.T X.toSE c
 | .fresh e=>U (CT.T X.toSE e)
 | .whole _=>Unit
 | .mu c=>U (CT.T X.toSE c)
 | .mr c=>CT.T X.toSE c
 | .mv=>Unit
@[reducible] def iM:U (AT X.ι)->Type
 |[]=>Unit
 |a::l=>AT.T X a×iM l
@[reducible] def sU:U (RT X.ι)->Type
 |[]=>Unit
 |[r]=>RT.T X r
 |r::r'::l=>RT.T X r×sU (r'::l)
structure b7 where
 args:List (AT X.ι)
 res:List (RT X.ι)
 fn:iM X args->Option (sU X res)
 gen:Option (c7 X):=none
variable {X}
def dP:Nat->(l:U (AT X.ι))->iM X l->U AV
 |_,[],_=>[]
 |n,.d c::l,a=>(CT.tv X.toSE c a.1).av::dP n l a.2
 |n,.ref c::l,a=> .er (CT.row X.toSE c a.1) 0::dP n l a.2
 |n,.d8 as r::l,a=>den (.d8 as r a.1:DV X)::dP n l a.2
 |n,.mut _::l,a=> .own n 0 (List.length a.1)::dP (n+1) l a.2
 |n,.iS _::l,a=> .ptr n 0 0::dP (n+1) l a.2
 |n,.nil::l,a=> .cW::dP n l a.2
abbrev wo(l:U (AT X.ι))(a:iM X l):U AV:=dP 0 l a
def rO(c:CT X.ι)(l:U (CT.T X.toSE c)):eZ:=(CT.sz X c,l.map (CT.row X.toSE c))
def qg:(l:U (AT X.ι))->iM X l->U eZ
 |[],_=>[]
 | .mut c::l,a=>rO c a.1::qg l a.2
 | .iS c::l,a=>rO c [a.1]::qg l a.2
 | .d _::l,a=>qg l a.2
 | .ref _::l,a=>qg l a.2
 | .d8 _ _::l,a=>qg l a.2
 | .nil::l,a=>qg l a.2
def qh:(r:RT X.ι)->RT.T X r->U (Option eZ)
 | .mu c,x=>[some (rO c x)]
 | .mr c,x=>[some (rO c [x])]
 | .mv,_=>[none]
 |_,_=>[]
def nS:(l:U (RT X.ι))->sU X l->U (Option eZ)
 |[],_=>[]
 |[r],x=>qh r x
 |r::r'::l,x=>qh r x.1++nS (r'::l) x.2
def YP:(r:RT X.ι)->RT.T X r->U Nat
 | .mu _,x=>[List.length x]
 | .mr _,_=>[1]
 | .mv,_=>[0]
 |_,_=>[]
def xv:(l:U (RT X.ι))->sU X l->U Nat
 |[],_=>[]
 |[r],x=>YP r x
 |r::r'::l,x=>YP r x.1++xv (r'::l) x.2
def VO(ns:U Nat):(r:RT X.ι)->RT.T X r->U RC
 | .d c,x=>[.d (CT.tv X.toSE c x)]
 | .fresh e,l=>[.fresh (CT.sz X e) (l.map (CT.row X.toSE e))]
 | .whole j,_=>[.whole j (ns.getD j 0)]
 |_,_=>[]
def A9(ns:U Nat):(l:U (RT X.ι))->sU X l->U RC
 |[],_=>[]
 |[r],x=>VO ns r x
 |r::r'::l,x=>VO ns r x.1++A9 ns (r'::l) x.2
def tC(l:U (RT X.ι))(x:sU X l):RV:=
 match A9 (xv l x) l x with
 |[c]=> .one c
 |cs=> .eE cs
def sL(P:Program)(Γ:FuncId->J (b7 X)):Prop:=
 ∀f s,Γ f=some s->eO P f/\(∀ a r,s.fn a=some r->qr P f (wo s.args a) (qg s.args a) (nS s.res r) (tC s.res r))/\∀g,s.gen=some g->Fo P f g
theorem apg:∀{l:U (AT X.ι)},(l.all λq=>q.pl)=true->(l.all λq=>!q.im)=true:=λ{l} h=>by
 rw[all_eq_true]at h ⊢;intro q hq;have:=h q hq;cases q<;>simp_all [AT.pl,AT.im]
theorem wu:∀{l:U (AT X.ι)}{a:iM X l},(l.all λq=>!q.im)=true->qg l a=[]
 |[],_,_=>rfl
 | .d _::l,a,h=>wu (l:=l) (by simpa[AT.im]using h)
 | .ref _::l,a,h=>wu (l:=l) (by simpa[AT.im]using h)
 | .d8 _ _::l,a,h=>wu (l:=l) (by simpa[AT.im]using h)
 | .mut _::l,a,h=>by simp[AT.im]at h
 | .iS _::l,a,h=>by simp[AT.im]at h
 | .nil::l,a,h=>wu (l:=l) (by simpa[AT.im]using h)
theorem ads{r:RT X.ι}{x:RT.T X r}(h:(!r.out)=true):qh r x=[]:=by cases r<;>first |rfl |simp[RT.out]at h
theorem adt:∀{l:U (RT X.ι)}{x:sU X l},(l.all λq=>!q.out)=true->nS l x=[]
 |[],_,_=>rfl
 |[r],x,h=>ads (by simpa using h)
 |r::r'::l,x,h=>by
  simp only[all_cons,aL]at h;simp only[nS,ads h.1,bQ];exact adt (l:=r'::l) (by simp only[all_cons,aL];exact h.2)
mutual
def bk:DV X->List Nat
 | .own k _ _=>[k]
 | .ptr k _ _=>[k]
 | .qu k _ _=>[k]
 | .th k _ _ _ _=>[k]
 | .mp k=>[k]
 | .oz k _=>[k]
 | .agg cs=>aP cs
 | .eE cs=>aP cs
 | .fn _ first caps=>aP first++aP caps
 |_=>[]
def aP:List (DV X)->List Nat
 |[]=>[]
 |x::xs=>bk x++aP xs
end
theorem zZ(c:CT X.ι)(x:CT.T X.toSE c):refs (CT.tv X.toSE c x).av=[]:=by
 cases c<;>try rfl
 rename_i i;show eT ((X.row i x).map AV.t)=[];generalize X.row i x=l
 induction l with
 |nil=>rfl
 |cons y ys ih=>simp only[aF,eT,refs,ih,bQ]
mutual
theorem iT:∀x:DV X,refs (den x)=bk x
 | .c t x=>zZ t x
 | .agg cs=>by simp only[den,refs,bk,ig cs]
 | .eE cs=>by simp only[den,refs,bk,ig cs]
 | .own _ _ _=>rfl
 | .ptr _ _ _=>rfl
 | .qu _ _ _=>rfl
 | .mp _=>rfl
 | .oz _ _=>rfl
 | .th _ _ _ _ _=>rfl
 | .rp _ _ _=>rfl
 | .wv _ _ _ _ _=>rfl
 | .fn f first caps=>by simp only[den,refs,bk,ig first,ig caps]
 | .d8 _ _ _=>rfl
 | .raw v=>by
  simp only[den,bk,cv];split
  .rfl
  .split<;>rfl
 | .nil=>rfl
 | .ub=>rfl
 | .skip=>rfl
 | .undef=>rfl
theorem ig:∀l:List (DV X),eT (bO l)=aP l
 |[]=>rfl
 |x::xs=>by simp only[bO,eT,aP,iT x,ig xs]
end
def Ru(get:Nat->J (bm X))(d:DV X)(c:CT X.ι):J (CT.T X.toSE c×List Bool):=
 match d,c with
 | .own kk aa len,.sl e=>(get kk).bind λo=>match o with
  | .ea b l=>(jB (.sl b) (.sl e) l).bind λ(l:List (CT.T X.toSE e))=>some (sub l aa len,[az (sub l aa len).length len])
  |_=>none
 | .own kk aa len,.any=>(get kk).bind λo=>match o with
  | .ea b l=>some (.sl (List.map (CT.row X.toSE b) (sub l aa len)),[az (sub l aa len).length len])
  |_=>none
 | .oz kk len,.sl e=>(get kk).bind λo=>match o with
  | .ea b l=>(jB (.sl b) (.sl e) l).bind λ(l:List (CT.T X.toSE e))=>some (sub l 0 len,[az (sub l 0 len).length len])
  |_=>none
 |d,c=>(JX d c).bind λx=>some (x,[])
def wT(get:Nat->J (bm X)):U (DV X)->(l:U (CT X.ι))->J (HL X.toSE l×List Bool)
 |[],[]=>some ((),[])
 |d::ds,c::l=>(Ru get d c).bind λx=>(wT get ds l).bind λh=>some ((x.1,h.1),x.2++h.2)
 |_,_=>none
def Z4(get:Nat->J (bm X))(d:DV X)(i:X.ι):J (CT.T X.toSE (.st i)×List Bool):=
 match d with
 | .agg cs=>(wT get cs (X.cR i)).bind λh=>some (X.make i h.1,h.2)
 | .c a x=>(jB a (.st i) x).bind λx=>some (x,[])
 |_=>none
def Fq(get:Nat->J (bm X))(d:DV X)(c:CT X.ι):J (CT.T X.toSE c×List Bool):=
 match c with
 | .st i=>Z4 get d i
 |c=>Ru get d c
def W4(get:Nat->J (bm X))(d:DV X)(c:CT X.ι):J (CT.T X.toSE c):=
 match d with
 | .ptr kk row 0=>(get kk).bind λo=>match o with
  | .cells _ rows=>(rows[row]?).bind λq=>if q.all (λ x=>match x with | .c _ _=>true |_=>false)then He c q else none
  |_=>none
 | .rp a x 0=>jB a c x
 |_=>none
def ur:(l l':U (AT X.ι))->iM X l->iM X l'->iM X (l++l')
 |[],_,_,b=>b
 |_::l,l',a,b=>(a.1,ur l l' a.2 b)
def hlA:(as:U (CT X.ι))->HL X.toSE as->iM X (as.map AT.d)
 |[],_=>()
 |_::l,h=>(h.1,hlA l h.2)
def qi:U (AT X.ι)->Nat
 |[]=>0
 |q::l=>(if q.im then 1 else 0)+qi l
theorem kX:∀(n:Nat)(l l':U (AT X.ι))(a:iM X l)(b:iM X l'),dP n (l++l') (ur l l' a b)=dP n l a++dP (n+qi l) l' b
 |n,[],_,_,_=>rfl
 |n,.d c::l,l',a,b=>by simp[dP,ur,kX n l l' a.2 b,qi,AT.im]
 |n,.ref c::l,l',a,b=>by simp[dP,ur,kX n l l' a.2 b,qi,AT.im]
 |n,.d8 as r::l,l',a,b=>by simp[dP,ur,kX n l l' a.2 b,qi,AT.im]
 |n,.mut c::l,l',a,b=>by simp[dP,ur,kX (n+1) l l' a.2 b,qi,AT.im,Nat.add_assoc]
 |n,.iS c::l,l',a,b=>by simp[dP,ur,kX (n+1) l l' a.2 b,qi,AT.im,Nat.add_assoc]
 |n,.nil::l,l',a,b=>by simp[dP,ur,kX n l l' a.2 b,qi,AT.im]
theorem Jt:∀(n:Nat)(as:U (CT X.ι))(h:HL X.toSE as),dP n (as.map AT.d) (hlA as h)=(HL.mm X.toSE as h).map TV.av
 |_,[],_=>rfl
 |n,c::l,h=>congrArg ((CT.tv X.toSE c h.1).av:: ·) (Jt n l h.2)
def aok{a b:CT X.ι}(h:a=b)(o:J (CT.T X.toSE a)):J (CT.T X.toSE b):=h ▸ o
def ko(get:Nat->J (bm X))(pr:FuncId->U (DV X)->U (DV X)->(as:U (CT X.ι))->(r:CT X.ι)->J ((HL X.toSE as->J (CT.T X.toSE r))×List Bool)):U (DV X)->(l:U (AT X.ι))->J (iM X l×List Bool)
 |[],[]=>some ((),[])
 |d::ds,.d c::l=>(Fq get d c).bind λx=>(ko get pr ds l).bind λh=>some ((x.1,h.1),x.2++h.2)
 |d::ds,.ref c::l=>(W4 get d c).bind λx=>(ko get pr ds l).bind λh=>some ((x,h.1),h.2)
 |d::ds,.d8 as r::l=>(match d with
  | .d8 as' r' φ=>if h:as'=as/\r'=r then some (λ x=>aok h.2 (φ (h.1 ▸ x)),[])else none
  | .fn f first caps=>pr f first caps as r
  |_=>none).bind λφ=>(ko get pr ds l).bind λq=>some ((φ.1,q.1),φ.2++q.2)
 |_,_=>none
def Rv(Γ:FuncId->J (b7 X))(get:Nat->J (bm X)):Nat->U (DV X)->(l:U (AT X.ι))->J (iM X l×List Bool)
 | 0,ds,l=>ko get (λ _ _ _ _ _=>none) ds l
 |n+1,ds,l=>ko get (λ f first caps as r=>(Γ f).bind λs=>match s with
   |⟨sa,[.d r'],fn,_⟩=>
    if h:r'=r/\sa=sa.take first.length++(as.map AT.d++sa.drop (first.length+as.length))/\first.length=0 then
     (Rv Γ get n first (sa.take first.length)).bind λhf=>(Rv Γ get n caps (sa.drop (first.length+as.length))).bind λhc=>
      some (λ x=>aok h.1 (fn (h.2.1 ▸ ur _ _ hf.1 (ur _ _ (hlA as x) hc.1))),hf.2++hc.2)
    else none
   |_=>none) ds l
section
variable {P:Program} {Γ:FuncId->Option (b7 X)} {get:Nat->Option (bm X)} {rd:List Nat}
theorem gT{a b:U Prop}(h:∀p∈a,p)(h':∀p∈b,p):∀p∈a++b,p:=λp hp=>(aZ.1 hp).elim (h p) (h' p)
theorem Hl{d:DV X}{c:CT X.ι}{x:CT.T X.toSE c×List Bool}(h:Ru get d c=some x)(hc:∀b∈x.2,b=true)(hrd:∀j∈bk d,j∈rd):∃hs obs,(∀ p∈obs,p)/\∀ag,nQ P (dK rd (fq get)) (den d) (hs++ag)=some ((CT.tv X.toSE c x.1).av,ag,obs):=by
 have base:∀{d:DV X}{c:CT X.ι}{x:CT.T X.toSE c},JX d c=some x->∃hs obs,(∀ p∈obs,p)/\∀ag,nQ P (dK rd (fq get)) (den d) (hs++ag)=some ((CT.tv X.toSE c x).av,ag,obs):=by
  intro d c x h;unfold JX at h;split at h
  .rw[(oo h).1];refine⟨[],[],by simp,λag=>?_⟩;simp only[bQ,den];cases c<;>try rfl
   rename_i j;show nQ P _ (.agg ((X.row j x).map AV.t)) ag=_;have:∀(l:U Tree) (hs:U LH),mq P (dK rd (fq get)) (l.map AV.t) hs=some (l.map AV.t,hs,[]):=by
    intro l
    induction l with
    |nil=>intro hs;rfl
    |cons y ys ih=>intro hs;simp only[aF,mq,nQ,af,ih,bQ]
   simp only[nQ,this,af];rfl
  .cases h;exact⟨[.emp],[],by simp,λag=>rfl⟩
  .cases h;exact⟨[.emp],[],by simp,λag=>rfl⟩
  .cases h
 unfold Ru at h;split at h
 .rename_i kk aa len e;rw[ai]at h;obtain⟨o,h1,h⟩:=h;split at h
  .rename_i b l0;rw[ai]at h;obtain⟨l,h2,h⟩:=h;cases h;have h3:(sub l aa len).length=len:=(by simpa[az]using hc (az (sub l aa len).length len) (by simp));have⟨h4,h5⟩:=ji h2;refine⟨[.rows ((sub l aa len).map (CT.row X.toSE e))],[(((bH (.ea b l0):aT).rows.drop aa).take len=aI ((sub l aa len).map (CT.row X.toSE e))/\((sub l aa len).map (CT.row X.toSE e)).length=len)],?_,λag=>?_⟩
   .intro p hp;simp only[aQ]at hp;subst hp;refine⟨?_,by simpa using h3⟩;simp only[bH,h5];simp[aI,sub,map_take]
   .simp only[cons_append,bQ,den,nQ,eD (hrd kk (by simp[bk])) h1,af];rfl
  .cases h
 .rename_i kk aa len;rw[ai]at h;obtain⟨o,h1,h⟩:=h;split at h
  .rename_i b l0;cases h;have h3:(sub l0 aa len).length=len:=(by simpa[az]using hc (az (sub l0 aa len).length len) (by simp));refine⟨[.rows ((sub l0 aa len).map (CT.row X.toSE b))],[(((bH (.ea b l0):aT).rows.drop aa).take len=aI ((sub l0 aa len).map (CT.row X.toSE b))/\((sub l0 aa len).map (CT.row X.toSE b)).length=len)],?_,λag=>?_⟩
   .intro p hp;simp only[aQ]at hp;subst hp;refine⟨?_,by simpa using h3⟩;simp only[bH];simp[aI,sub,map_take,map_drop]
   .simp only[cons_append,bQ,den,nQ,eD (hrd kk (by simp[bk])) h1,af];rfl
  .cases h
 .rename_i kk len e;rw[ai]at h;obtain⟨o,h1,h⟩:=h;split at h
  .rename_i b l0;have⟨l,h2,h⟩:=ai.1 h;cases h;have h3:(sub l 0 len).length=len:=(by simpa[az]using hc (az (sub l 0 len).length len) (by simp));have⟨h4,h5⟩:=ji h2;refine⟨[.rows ((sub l 0 len).map (CT.row X.toSE e))],[(((bH (.ea b l0):aT).rows.drop 0).take len=aI ((sub l 0 len).map (CT.row X.toSE e))/\((sub l 0 len).map (CT.row X.toSE e)).length=len)],?_,λag=>?_⟩
   .intro p hp;simp only[aQ]at hp;subst hp;refine⟨?_,by simpa using h3⟩;simp only[bH,h5];simp[aI,sub,map_take,map_drop]
   .simp only[cons_append,bQ,den,nQ,eD (hrd kk (by simp[bk])) h1,af];rfl
  .cases h
 .have⟨y,h1,h⟩:=ai.1 h;cases h;exact base h1
theorem MS:∀{ds:U (DV X)}{l:U (CT X.ι)}{h:HL X.toSE l×List Bool},wT get ds l=some h->(∀ b∈h.2,b=true)->l.all CT.one=true->(∀ j∈aP ds,j∈rd)->
 ∃hs obs,(∀ p∈obs,p)/\∀ag,mq P (dK rd (fq get)) (bO ds) (hs++ag)=some ((HL.row X.toSE l h.1).map AV.t,ag,obs)
 |[],[],h,_,_,_,_=>⟨[],[],by simp,λag=>rfl⟩
 |d::ds,c::l,h,hr,hc,ha,hrd=>by
  simp only[wT]at hr;have⟨x,h1,hr⟩:=ai.1 hr;have⟨g,h2,hr⟩:=ai.1 hr;cases hr;simp only[all_cons,aL]at ha;obtain⟨hs1,o1,p1,q1⟩:=Hl (P:=P) (rd:=rd) h1 (λ b hb=>hc b (by simp[hb])) (λ j hj=>hrd j (by simp[aP,hj]));obtain⟨hs2,o2,p2,q2⟩:=MS h2 (λ b hb=>hc b (by simp[hb])) ha.2 (λ j hj=>hrd j (by simp[aP,hj]));refine⟨hs1++hs2,o1++o2,gT p1 p2,λag=>?_⟩;simp only[bO,mq,aM,q1,af,q2];show _=some ((CT.row X.toSE c x.1++HL.row X.toSE l g.1).map AV.t,ag,o1++o2);rw[List.map_append,<- On ha.1 x.1];rfl
 |[],_::_,_,hr,_,_,_=>by simp[wT]at hr
 |_::_,[],_,hr,_,_,_=>by simp[wT]at hr
theorem z8{d:DV X}{c:CT X.ι}{x:CT.T X.toSE c×List Bool}(h:Fq get d c=some x)(hc:∀b∈x.2,b=true)(hrd:∀j∈bk d,j∈rd):∃hs obs,(∀ p∈obs,p)/\∀ag,nQ P (dK rd (fq get)) (den d) (hs++ag)=some ((CT.tv X.toSE c x.1).av,ag,obs):=by
 cases c
 case st i=>
  replace h:Z4 get d i=some x:=h
  cases d
  case agg cs=>
   simp only[Z4]at h;rw[ai]at h;obtain⟨g,h1,h⟩:=h;cases h;obtain⟨hs,obs,p1,q1⟩:=MS (P:=P) (rd:=rd) h1 hc (X.flat i) (λ j hj=>hrd j (by simpa[bk]using hj));refine⟨hs,obs,p1,λag=>?_⟩;simp only[den,nQ,q1,af,CT.tv,TV.av];rw[X.gi]
  case c a y=>exact Hl (c:= .st i) (x:=x) (by unfold Ru;exact h) hc hrd
  all_goals cases h
 all_goals exact Hl h hc hrd
theorem adu{d:DV X}{c:CT X.ι}{x:CT.T X.toSE c}(h:W4 get d c=some x)(hrd:∀j∈bk d,j∈rd):∃hs obs,(∀ p∈obs,p)/\∀ag,nQ P (dK rd (fq get)) (den d) (hs++ag)=some (.er (CT.row X.toSE c x) 0,ag,obs):=by
 unfold W4 at h;split at h
 .rename_i kk row;rw[ai]at h;obtain⟨o,h1,h⟩:=h;split at h
  .rename_i sz rows;rw[ai]at h;obtain⟨q,h2,h⟩:=h;split at h
   .rename_i hq;refine⟨[.row (CT.row X.toSE c x)],[(bH (.cells sz rows):aT).rows[row]? =some ((CT.row X.toSE c x).map AV.t)],?_,λag=>?_⟩
    .intro p hp;simp only[aQ]at hp;subst hp;simp only[bH,List.getElem?_map,h2,Option.map_some];rw[<- yh h,nR,map_map];congr 1;refine map_congr_left λy hy=>?_;have:=all_eq_true.1 hq y hy;cases y<;>first |exact(aoj _).symm |simp at this
    .simp only[cons_append,bQ,den,nQ,eD (hrd kk (by simp[bk])) h1,af]
   .cases h
  .cases h
 .rename_i a y;refine⟨[],[],by simp,λag=>?_⟩;simp only[den,(oo h).2];rfl
 .cases h
theorem af7{n:Nat}{l l':U (AT X.ι)}(e:l=l')(b:iM X l):dP n l' (e ▸ b)=dP n l b:=by subst e;rfl
theorem Ct{pr:FuncId->U (DV X)->U (DV X)->(as:U (CT X.ι))->(r:CT X.ι)->J ((HL X.toSE as->J (CT.T X.toSE r))×List Bool)}:∀{ds:U (DV X)}{l:U (AT X.ι)}{a:iM X l×List Bool},ko get pr ds l=some a->(l.all λq=>!q.im)=true
 |[],[],_,_=>rfl
 |d::ds,.d c::l,a,h=>by
  simp only[ko]at h;have⟨x,h1,h⟩:=ai.1 h;have⟨q,h2,h⟩:=ai.1 h;simpa[AT.im]using Ct h2
 |d::ds,.ref c::l,a,h=>by
  simp only[ko]at h;have⟨x,h1,h⟩:=ai.1 h;have⟨q,h2,h⟩:=ai.1 h;simpa[AT.im]using Ct h2
 |d::ds,.d8 as r::l,a,h=>by
  simp only[ko]at h;have⟨x,h1,h⟩:=ai.1 h;have⟨q,h2,h⟩:=ai.1 h;simpa[AT.im]using Ct h2
 |_::_,.mut _::_,_,h=>by simp[ko]at h
 |_::_,.iS _::_,_,h=>by simp[ko]at h
 |_::_,.nil::_,_,h=>by simp[ko]at h
 |[],_::_,_,h=>by simp[ko]at h
 |_::_,[],_,h=>by simp[ko]at h
theorem adv:∀{n:Nat}{ds:U (DV X)}{l:U (AT X.ι)}{a:iM X l×List Bool},Rv Γ get n ds l=some a->(l.all λq=>!q.im)=true
 | 0,_,_,_,h=>Ct h
 |_+1,_,_,_,h=>Ct h
theorem Uu:∀as:U (CT X.ι),((as.map AT.d).all λq=>!q.im)=true
 |[]=>rfl
 |_::l=>Uu l
def aph(P:Program)(get:Nat->J (bm X))(pr:FuncId->U (DV X)->U (DV X)->(as:U (CT X.ι))->(r:CT X.ι)->J ((HL X.toSE as->J (CT.T X.toSE r))×List Bool)):Prop:=
 ∀f first caps as r φ rd,pr f first caps as r=some φ->(∀ b∈φ.2,b=true)->(∀ j∈aP first++aP caps,j∈rd)->∃hs obs,(∀ p∈obs,p)/\∀ag,nQ P (dK rd (fq get)) (.fn f (bO first) (bO caps)) (hs++ag)=some (den (.d8 as r φ.1:DV X),ag,obs)
theorem tF{n:Nat}{pr:FuncId->U (DV X)->U (DV X)->(as:U (CT X.ι))->(r:CT X.ι)->J ((HL X.toSE as->J (CT.T X.toSE r))×List Bool)}(tS:aph P get pr):∀{ds:U (DV X)}{l:U (AT X.ι)}{a:iM X l×List Bool},ko get pr ds l=some a->(∀ b∈a.2,b=true)->(∀ j∈aP ds,j∈rd)->
 ∃hs obs,(∀ p∈obs,p)/\∀ag,mq P (dK rd (fq get)) (bO ds) (hs++ag)=some (dP n l a.1,ag,obs)
 |[],[],_,_,_,_=>⟨[],[],by simp,λag=>rfl⟩
 |d::ds,.d c::l,a,h,hc,hrd=>by
  simp only[ko]at h;have⟨x,h1,h⟩:=ai.1 h;have⟨q,h2,h⟩:=ai.1 h;cases h;obtain⟨hs1,o1,p1,q1⟩:=z8 (P:=P) (rd:=rd) h1 (λ b hb=>hc b (by simp[hb])) (λ j hj=>hrd j (by simp[aP,hj]));obtain⟨hs2,o2,p2,q2⟩:=tF (n:=n) tS h2 (λ b hb=>hc b (by simp[hb])) (λ j hj=>hrd j (by simp[aP,hj]));refine⟨hs1++hs2,o1++o2,gT p1 p2,λag=>?_⟩;simp only[bO,mq,aM,q1,af,q2,dP]
 |d::ds,.ref c::l,a,h,hc,hrd=>by
  simp only[ko]at h;rw[ai]at h;obtain⟨x,h1,h⟩:=h;rw[ai]at h;obtain⟨q,h2,h⟩:=h;cases h;obtain⟨hs1,o1,p1,q1⟩:=adu (P:=P) (rd:=rd) h1 (λ j hj=>hrd j (by simp[aP,hj]));obtain⟨hs2,o2,p2,q2⟩:=tF (n:=n) tS h2 hc (λ j hj=>hrd j (by simp[aP,hj]));refine⟨hs1++hs2,o1++o2,gT p1 p2,λag=>?_⟩;simp only[bO,mq,aM,q1,af,q2,dP]
 |d::ds,.d8 as r::l,a,h,hc,hrd=>by
  simp only[ko]at h;rw[ai]at h;obtain⟨φ,h1,h⟩:=h;rw[ai]at h;obtain⟨q,h2,h⟩:=h;cases h;have hd:∃hs obs,(∀ p∈obs,p)/\∀ag,nQ P (dK rd (fq get)) (den d) (hs++ag)=some (den (.d8 as r φ.1:DV X),ag,obs):=by
   cases d
   case d8 as' r' ψ=>
    simp only at h1;split at h1
    .rename_i e;obtain⟨rfl,rfl⟩:=e;cases h1;exact⟨[],[],by simp,λag=>rfl⟩
    .cases h1
   case fn f first caps=>
    obtain⟨hs,obs,g1,g2⟩:=tS f first caps as r φ rd h1 (λ b hb=>hc b (by simp[hb])) (λ j hj=>hrd j (by simp only[aP,bk,aZ]at hj ⊢;exact .inl hj))
    exact⟨hs,obs,g1,λag=>by simp only[den];exact g2 ag⟩
   all_goals simp at h1
  obtain⟨hs1,o1,p1,q1⟩:=hd;obtain⟨hs2,o2,p2,q2⟩:=tF (n:=n) tS h2 (λ b hb=>hc b (by simp[hb])) (λ j hj=>hrd j (by simp[aP,hj]));refine⟨hs1++hs2,o1++o2,gT p1 p2,λag=>?_⟩;simp only[bO,mq,aM,q1,af,q2,dP]
 |_::_,.mut _::_,_,h,_,_=>by simp[ko]at h
 |_::_,.iS _::_,_,h,_,_=>by simp[ko]at h
 |_::_,.nil::_,_,h,_,_=>by simp[ko]at h
 |[],_::_,_,h,_,_=>by simp[ko]at h
 |_::_,[],_,h,_,_=>by simp[ko]at h
theorem af8{n:Nat}:∀{l:U (AT X.ι)}(a:iM X l),l=[]->dP n l a=[]
 |_,_,rfl=>rfl
theorem sw(hΓ:sL P Γ):∀(m:Nat){n:Nat}{ds:U (DV X)}{l:U (AT X.ι)}{a:iM X l×List Bool}{rd:U Nat},Rv Γ get m ds l=some a->(∀ b∈a.2,b=true)->(∀ j∈aP ds,j∈rd)->
 ∃hs obs,(∀ p∈obs,p)/\∀ag,mq P (dK rd (fq get)) (bO ds) (hs++ag)=some (dP n l a.1,ag,obs)
 | 0,n,ds,l,a,rd,h,hcs,hrd=>tF (λ _ _ _ _ _ _ _ h=>by cases h) h hcs hrd
 |m+1,n,ds,l,a,rd,h,hcs,hrd=>by
  refine tF (λ f first caps as r φ rd' hc hb HB=>?_) h hcs hrd;rw[ai]at hc;obtain⟨s,h1,hc⟩:=hc;split at hc
  .rename_i sa r' fn _;split at hc
   .rename_i e;obtain⟨rfl,e2,e3⟩:=e;have⟨hf,h2,hc⟩:=ai.1 hc;have⟨hcap,h3,hc⟩:=ai.1 hc;injection hc with hc;rw[<- hc]at hb;obtain⟨g1,g2,_⟩:=hΓ f _ h1;obtain⟨hs1,o1,p1,q1⟩:=sw hΓ m h2 (n:=0) (rd:=rd') (λ b hb'=>hb b (by simp[hb'])) (λ j hj=>HB j (by simp[hj]));obtain⟨hs2,o2,p2,q2⟩:=sw hΓ m h3 (n:=0+qi (sa.take first.length)+qi (as.map AT.d)) (rd:=rd') (λ b hb'=>hb b (by simp[hb'])) (λ j hj=>HB j (by simp[hj]));refine⟨.d8 (λ ts u=>∃h x,φ.1 h=some x/\ts=HL.mm X.toSE as h/\u=CT.tv X.toSE r' x)::(hs1++hs2),o1++(o2++[dP 0 _ hf.1=[]/\eO P f/\∀args r,(∃ h x,φ.1 h=some x/\args=HL.mm X.toSE as h/\r=CT.tv X.toSE r' x)->rh P f (dP 0 _ hf.1++args.map TV.av++dP (0+qi (sa.take first.length)+qi (as.map AT.d)) _ hcap.1) (.one (.d r))]),?_,λag=>?_⟩
    .intro p hp;simp only[aZ,aQ]at hp;rcases hp with hp |hp |hp
     .exact p1 p hp
     .exact p2 p hp
     .subst hp;refine⟨af8 _ (by rw[e3];rfl),g1,?_⟩;rintro args r ⟨x,y,hxy,rfl,rfl⟩;rw[<- hc]at hxy;have hxy':fn (e2 ▸ ur _ _ hf.1 (ur _ _ (hlA as x) hcap.1))=some y:=hxy;have:=g2 _ _ hxy';have hnm:(sa.all λq=>!q.im)=true:=(by rw[e2,List.all_append,List.all_append,adv h2,adv h3,Uu];rfl);rw[wu hnm,wo,af7 e2.symm,kX,kX,Jt,<- aM]at this;exact ML this
    .simp only[cons_append,aM,nQ,q1,af,q2];rfl
   .cases hc
  .cases hc
end
end
def Rw(s:ByteArray)(n:Int):J Int:=bif decide (0<=n)then(s[n.toNat]?).map λb=>(b.toNat:Int)else none
def zH(m:Int)(bytes:Nat):Bool:=decide (0<=m)&&decide (m.toNat*bytes<=140737488355328)&&decide (m.toNat<=maxLen)
def fP{K V:Type}(eq:K->K->Bool)(k:K):U (K×V)->J V
 |[]=>none
 |p::r=>bif eq k p.1 then some p.2 else fP eq k r
def rP{K V:Type}(eq:K->K->Bool)(k:K)(v:V):U (K×V)->U (K×V)
 |[]=>[(k,v)]
 |p::r=>bif eq k p.1 then(k,v)::r else p::rP eq k v r
def ju(a b:Int):Bool:=a==b
def ll(a b:ByteArray):Bool:=a.toList==b.toList
def bEq(a b:Bool):Bool:=a==b
section
variable {X:SX} {A:Type}
def MU:(c:CT X.ι)->J (CT.T X.toSE c->CT.T X.toSE c->Bool)
 | .int _=>some ju
 | .str=>some ll
 | .bool=>some bEq
 |_=>none
def D1{ι:Type}:AD->CT ι->Bool
 | .int a,.int b=>decide (a=b)
 | .str,.str=>true
 | .bool,.bool=>true
 |_,_=>false
def Mz{ι:Type}:CT ι->Bool
 | .st _=>true
 |_=>false
theorem iG(a b:U (DV X)):bO (a++b)=bO a++bO b:=by simp[nR]
theorem sD(a b:U (Nat×Option (bm X))):iE (a++b)=iE a++iE b:=by simp[iE]
def MV(ae:U Nat):U (Nat×Option (bm X)):=ae.map λj=>(j,none)
theorem Cu(ae:U Nat):iE (MV (X:=X) ae)=ae.map λk=>(k,none):=by simp[iE,MV]
theorem Ju{ae:U Nat}{p:Nat×Option (bm X)}(h:p∈MV ae):p.1∈ae:=by
 simp only[MV,mem_map]at h;obtain⟨j,hj,rfl⟩:=h;exact hj
variable (T:eb) (am:TypeId->Option (CT X.ι))
def Zs:DV X->Bool
 | .nil=>true
 |_=>false
def Fm(op:BinOp)(b:DV X)(yes:Bool)(k:KK X A):J A:=
 match op with
 | .eql=>bif yes then k b [] [] []else k (.c .bool false) [] [] []
 | .neq=>bif yes then k b [] [] []else k (.c .bool true) [] [] []
 |_=>none
def V0(op:BinOp)(t:TypeId)(x:DV X)(k:KK X A):J A:=
 (T t).bind λti=>match ti.k,x with
 | .slice _,.c (.sl _) l=>Fm op .ub (List.isEmpty l) k
 | .slice _,.own _ _ len=>Fm op .ub (len==0) k
 | .slice _,.oz _ len=>Fm op (.c .bool (op== .eql)) (len==0) k
 | .slice _,.nil=>Fm op (.c .bool (op== .eql)) true k
 |_,_=>none
def aol(s d:TypeId)(x:DV X)(k:KK X A):J A:=
 (T s).bind λ_=>(T d).bind λdi=>match di.k,x with
 | .int kd,.c (.int _) n=>k (.c (.int kd) (kd.wrap (iN n))) [] [] []
 |_,_=>none
def akX(t:TypeId)(x j:DV X)(k:KK X A):J A:=
 (T t).bind λti=>match ti.k,x,j with
 | .str,.c .str s,.c (.int _) n=>(Rw s n).bind λb=>k (.c (.int .u8) b) [] [] []
 | .arr m e,.agg cs,.c (.int _) q=>(T e).bind λei=>bif cC q m then(G9 ei.agg ei.size ((cs.drop (q.toNat*ei.size)).take ei.size)).bind λv=>k v [] [] []else none
 |_,_,_=>none
def Z5(t:TypeId)(x:DV X)(lo hi:J (DV X))(k:KK X A):J A:=
 (T t).bind λti=>match ti.k,x with
 | .slice e,.nil=>(T e).bind λ_=>(z6 0 lo).bind λl=>(z6 0 hi).bind λh=>bif decide (l=0)&&decide (h=0)then k .nil [] [] []else none
 |_,_=>none
def PG(i:Nat)(b:Builtin)(args:U (DV X))(cR:U TypeId)(get:Nat->J (bm X))(k:KK X A):J A:=
 match b,args,cR with
 | .cap,[.nil],[t]=>(T t).bind λti=>match ti.k with
  | .slice _=>k (.c (.int .i64) (0:Int)) [] [] []
  |_=>none
 | .clear,[.own kk aa _],[t]=>(T t).bind λti=>match ti.k with
  | .slice e=>(T e).bind λei=>(get kk).bind λo=>match o with
   | .ea c l=>if CT.sz X c=ei.size then k (.eE []) [(kk,some (.ea c (l.take aa)))] [kk] [kk]else none
   |_=>none
  |_=>none
 | .append,[.nil,.c (.int _) m],[t,u]=>(T t).bind λti=>(T u).bind λui=>match ti.k,ui.k with
  | .slice e,.int _=>(T e).bind λei=>(am e).bind λc=>if CT.sz X c=ei.size/\0<ei.size then(He c (ei.zero.map t7)).bind λz=>
   bif zH (iN m) ei.bytes then k (.own (cJ i) 0 m.toNat) [(cJ i,some (.ea c (List.replicate m.toNat z)))] [] []else none else none
  |_,_=>none
 |_,_,_=>none
def PI(x:DV X)(k:KK X A):J A:=
 match x with
 | .ptr kk r f=>k (.ptr kk r f) [] [] []
 | .qu kk n f=>k (.qu kk n f) [] [] []
 | .th kk r f m n=>k (.th kk r f m n) [] [] []
 | .rp c y f=>k (.rp c y f) [] [] []
 |_=>none
def W0(i:Nat)(t:TypeId)(l c:DV X)(k:KK X A):J A:=
 (T t).bind λti=>match ti.k,l,c with
 | .slice e,.c (.int _) n,.c (.int _) m=>(T e).bind λei=>(am e).bind λc=>if CT.sz X c=ei.size/\0<ei.size then(He c (ei.zero.map t7)).bind λz=>
  bif decide (iN n<=iN m)&&(decide (0<=iN n)&&zH (iN m) ei.bytes)then k (.own (cJ i) 0 n.toNat) [(cJ i,some (.ea c (List.replicate n.toNat z)))] [] []else none else none
 |_,_,_=>none
def VP(i:Nat)(t:TypeId)(k:KK X A):J A:=
 (T t).bind λti=>match ti.k with
 | .map kt et=>(am kt).bind λkc=>(am et).bind λvc=>k (.mp (cJ i)) [(cJ i,some (.map kc vc []))] [] []
 |_=>none
def Uv(t:TypeId)(x key:DV X)(ok:Bool)(get:Nat->J (bm X))(k:KK X A):J A:=
 (T t).bind λti=>match ti.k,x with
 | .map kt et,.mp kk=>(T kt).bind λki=>(T et).bind λei=>(get kk).bind λo=>match o with
  | .map kc vc l=>(MU kc).bind λeq=>(JX key kc).bind λkv=>if D1 ki.k kc=true/\ei.agg=Mz vc/\ei.size=CT.sz X vc then(He vc (ei.zero.map t7)).bind λz=>
   bif ok then k (.eE [.c vc ((fP eq kv l).getD z),.c .bool (fP eq kv l).isSome]) [] [kk] []else k (.c vc ((fP eq kv l).getD z)) [] [kk] []else none
  |_=>none
 |_,_=>none
def Uw(t:TypeId)(x key y:DV X)(get:Nat->J (bm X))(k:KK X A):J A:=
 (T t).bind λti=>match ti.k,x with
 | .map kt _,.mp kk=>(T kt).bind λki=>(get kk).bind λo=>match o with
  | .map kc vc l=>(MU kc).bind λeq=>(JX key kc).bind λkv=>(dat y vc).bind λv=>if D1 ki.k kc=true then k .undef [(kk,some (.map kc vc (rP eq kv v l)))] [kk] [kk]else none
  |_=>none
 |_,_=>none
def mO:(l:U (CT X.ι))->HL X.toSE l->U Int
 |[],_=>[]
 | .int _::l,h=>h.1::mO l h.2
 |_::l,h=>mO l h.2
def Ho(i:X.ι)(a b:CT.T X.toSE (.st i)):Bool:=decide (mO (X.cR i) (X.get i a)=mO (X.cR i) (X.get i b))
def DW{ι:Type}(k:IntKind):U (CT ι)->Bool
 |[]=>true
 | .int k'::l=>decide (k'=k)&&DW k l
 |_=>false
def MW(t:TypeId)(x key:DV X)(ok:Bool)(get:Nat->J (bm X))(k:KK X A):J A:=
 (T t).bind λti=>match ti.k,x with
 | .map kt et,.mp kk=>(F1 T kt).bind λmk=>(T et).bind λei=>(get kk).bind λo=>match o with
  | .map (.st i) vc l=>(dat key (.st i)).bind λkv=>if (X.cR i).length=mk.1/\DW mk.2 (X.cR i)=true/\ei.agg=Mz vc/\ei.size=CT.sz X vc then(He vc (ei.zero.map t7)).bind λz=>
   bif ok then k (.eE [.c vc ((fP (Ho i) kv l).getD z),.c .bool (fP (Ho i) kv l).isSome]) [] [kk] []else k (.c vc ((fP (Ho i) kv l).getD z)) [] [kk] []else none
  |_=>none
 |_,_=>none
def MX(t:TypeId)(x key y:DV X)(get:Nat->J (bm X))(k:KK X A):J A:=
 (T t).bind λti=>match ti.k,x with
 | .map kt _,.mp kk=>(F1 T kt).bind λmk=>(get kk).bind λo=>match o with
  | .map (.st i) vc l=>(dat key (.st i)).bind λkv=>(dat y vc).bind λv=>if (X.cR i).length=mk.1/\DW mk.2 (X.cR i)=true then k .undef [(kk,some (.map (.st i) vc (rP (Ho i) kv v l)))] [kk] [kk]else none
  |_=>none
 |_,_=>none
def Z6(x:DV X)(get:Nat->J (bm X)):Bool:=match x with
 | .mp kk=>match get kk with
  |some (.map (.st _) _ _)=>true
  |_=>false
 |_=>false
def apj(o:Op)(ρ:Operand->DV X):Bool:=
 match o with
 | .binOp _ _ _ y _=>Zs (ρ y)
 | .convert _ _ _=>true
 | .index _ _ _=>true
 | .nilCheck _=>true
 | .makeSlice _ _ _=>true
 | .makeMap _ none=>true
 | .lookup _ _ _ _=>true
 | .mapUpdate _ _ _ _=>true
 | .slice _ x _ _ none=>Zs (ρ x)
 | .call { callee:= .builtin b,args:=args,argTypes:=_ }=>match b,args.toList.map ρ with
  | .cap,_=>true
  | .clear,_=>true
  | .append,[_,.c (.int _) _]=>true
  |_,_=>false
 |_=>false
def VV(i:Nat)(o:Op)(ρ:Operand->DV X)(get:Nat->J (bm X))(k:KK X A):J A:=
 match o with
 | .binOp op t x y _=>if Zs (ρ y)then V0 T op t (ρ x) k else none
 | .convert s d x=>aol T s d (ρ x) k
 | .index t x j=>akX T t (ρ x) (ρ j) k
 | .slice t x lo hi none=>Z5 T t (ρ x) (lo.map ρ) (hi.map ρ) k
 | .nilCheck x=>PI (ρ x) k
 | .makeSlice t l c=>W0 T am i t (ρ l) (ρ c) k
 | .makeMap t none=>VP T am i t k
 | .lookup t m x ok=>bif Z6 (ρ m) get then MW T t (ρ m) (ρ x) ok get k else Uv T t (ρ m) (ρ x) ok get k
 | .mapUpdate t m x v=>bif Z6 (ρ m) get then MX T t (ρ m) (ρ x) (ρ v) get k else Uw T t (ρ m) (ρ x) (ρ v) get k
 | .call { callee:= .builtin b,args:=args,argTypes:=cR }=>PG T am i b (args.toList.map ρ) cR.toList get k
 |_=>none
def I0(get:Nat->J (bm X))(c:CT X.ι)(ρ:Operand->DV X)(x:Operand):DV X:=
 match Fq get (ρ x) c with
 |some y=> .c c y.1
 |none=>ρ x
def My(get:Nat->J (bm X))(c:CT X.ι)(ρ:Operand->DV X):U Operand->U Bool
 |[]=>[]
 |x::xs=>(match Fq get (ρ x) c with |some y=>y.2 |none=>[])++My get c ρ xs
def zE(get:Nat->J (bm X))(c:CT X.ι)(ρ:Operand->DV X):U Operand->U Nat
 |[]=>[]
 |x::xs=>(match Fq get (ρ x) c with |some _=>bk (ρ x) |none=>[])++zE get c ρ xs
def am4(o:Op)(ρ:Operand->DV X)(get:Nat->J (bm X)):J (CT X.ι):=
 match o with
 | .box t _=>am t
 | .assign x | .move x=>match ρ x with
  | .own kk _ _=>(get kk).bind λo=>match o with
   | .ea c _=>some (.sl c)
   |_=>none
  |_=>none
 | .buildSlice t _ _=>(T t).bind λti=>match ti.k with
  | .slice e=>am e
  |_=>none
 | .store t _ _=>am t
 |_=>none
def apk(o:Op)(ρ:Operand->DV X):Bool:=
 match o with
 | .buildSlice _ _ parts=>!(aP (parts.toList.map λp=>ρ p.2)).isEmpty
 | .store _ a x=>match ρ a with
  | .qu _ _ _=>!(bk (ρ x)).isEmpty
  |_=>false
 |_=>false
def VM(i:Nat)(o:Op)(ρ:Operand->DV X)(get:Nat->J (bm X))(k:KK X A):J A:=
 if afN o then none else(am4 T am o ρ get).bind λc=>Vz (My get c ρ o.operands.toList)
  (LL T am i o (I0 get c ρ) (λ j=>if j∈zE get c ρ o.operands.toList then none else get j) λdv upd rd wr=>
   k dv (upd++MV (zE get c ρ o.operands.toList)) (rd++zE get c ρ o.operands.toList) (wr++zE get c ρ o.operands.toList))
def apl(o:Op)(ρ:Operand->DV X):Bool:=
 match o with
 | .indexAddr t x (.tmp _)=>match ρ x,T t with
  | .ptr _ _ _,some ti | .rp _ _ _,some ti=>match ti.k with
   | .arr _ e=>match T e with
    |some ei=>ei.size==1
    |none=>false
   |_=>false
  |_,_=>false
 | .load _ a=>match ρ a with
  | .th _ _ _ _ _ | .wv _ _ _ _ _=>true
  |_=>false
 |_=>false
def zI(c:CT X.ι):U (DV X)->J (List (CT.T X.toSE c))
 |[]=>some []
 | .c a x::r=>(jB a c x).bind λy=>(zI c r).bind λl=>some (y::l)
 |_=>none
def VC(o:Op)(ρ:Operand->DV X)(get:Nat->J (bm X))(k:KK X A):J A:=
 match o with
 | .indexAddr t x j=>(T t).bind λti=>match ti.k,ρ x,ρ j with
  | .arr m e,.ptr kk row aa,.c (.int _) n=>(T e).bind λei=>if ei.size=1 then bif cC n m then k (.th kk row aa m n) [] [] []else none else none
  | .arr m e,.rp c y aa,.c (.int _) n=>(T e).bind λei=>if ei.size=1 then bif cC n m then k (.wv c y aa m n) [] [] []else none else none
  |_,_,_=>none
 | .load t a=>(T t).bind λti=>match ρ a with
  | .th kk row aa m n=>if ti.size=1/\ti.agg=false then(am t).bind λc=>if c.one=true then(get kk).bind λo=>match o with
   | .cells _ rows=>(rows[row]?).bind λq=>(zI c ((q.drop aa).take m)).bind λ(xs:List (CT.T X.toSE c))=>(bp xs n).bind λy=>k (.c c y) [] [kk] []
   | .ea _ _=>none
   |_=>none
   else none else none
  | .wv b y aa m n=>if ti.size=1/\ti.agg=false then(am t).bind λc=>if c.one=true then(zI c (((uY b y).drop aa).take m)).bind λ(xs:List (CT.T X.toSE c))=>(bp xs n).bind λy=>k (.c c y) [] [] []
   else none else none
  |_=>none
 |_=>none
variable {T am}
def d7(P:Program)(T:eb)(i:Nat)(o:Oper)(ρ:Operand->DV X)(get:Nat->J (bm X))(k:KK X A)(r:A):Prop:=
 ∃cx rd wr dv upd ab,jF P T i o cx (λ x=>den (ρ x)) (dK rd (fq get))=some ab/\jw ab.obs/\ab.v=den dv/\ab.upd=iE upd/\(∀ p∈upd,p.1=cJ i\/p.1∈wr)/\k dv upd rd wr=some r
section
variable {P:Program} {get:Nat->Option (bm X)} {k:KK X A} {r:A} {i:Nat} {o:Oper} {ρ:Operand->DV X}
theorem ak0{t:TypeId}{x:AV}{cx:jj}(h:(∃ n,cx= .ext n)\/∃ae fr q,cx= .xn ae fr q):As T t x .none=As T t x cx:=by
 unfold As;cases T t with
 |none=>rfl
 |some ti=>
  simp only[af];generalize ti.k=kk;rcases h with ⟨n,rfl⟩ |⟨ae,fr,q,rfl⟩<;>cases kk<;>try rfl
  all_goals cases x<;>try rfl
  all_goals (rename_i y;cases y<;>try rfl)
  all_goals (rename_i y;cases y<;>rfl)
theorem VQ{t:TypeId}{x j:AV}{cx:jj}{get:Nat->J aT}(h:(∃ n,cx= .ext n)\/∃ae fr q,cx= .xn ae fr q):lX T t x j .none get=lX T t x j cx get:=by
 unfold lX;cases T t with
 |none=>rfl
 |some ti=>
  simp only[af];generalize ti.k=kk;cases kk<;>try rfl
  case arr m e=>
   cases j<;>try rfl
   rename_i y;cases y<;>try rfl
   rename_i y;cases y<;>rfl
  cases j<;>try rfl
  rename_i e y;cases y<;>try rfl
  rename_i y;cases y<;>try rfl
  simp only;cases T e with
  |none=>rfl
  |some ei=>
   simp only[af];rcases h with ⟨n,rfl⟩ |⟨ae,fr,q,rfl⟩<;>cases x<;>try rfl
   all_goals (rename_i z;cases z<;>rfl)
theorem adx{t:TypeId}{x y:AV}{cx:jj}{get:Nat->J aT}(h:(∃ n,cx= .ext n)\/∃ae fr q,cx= .xn ae fr q):zU T i t x y .none get=zU T i t x y cx get:=by
 unfold zU;rcases h with ⟨n,rfl⟩ |⟨ae,fr,q,rfl⟩<;>rfl
theorem aje{cx:jj}{ρ:Operand->AV}{get:Nat->J aT}(h:(∃ n,cx= .ext n)\/∃ae fr q,cx= .xn ae fr q):qc T i o .none ρ get=qc T i o cx ρ get:=by
 obtain⟨dst,op,ty,ao,after,guard⟩:=o;cases op
 case call c=>
  obtain⟨callee,args,cR⟩:=c;cases callee<;>try rfl
  rename_i b;simp only[qc,Ck];split
  .exact ak0 h
  .rfl
  .rfl
  .rw[adx h]
  .rfl
 case slice t x lo hi mx=>cases mx<;>rcases h with ⟨n,rfl⟩ |⟨ae,fr,q,rfl⟩<;>rfl
 case makeFunc fn a b=>cases fn<;>rfl
 case indexAddr t x j=>exact VQ h
 all_goals (rcases h with ⟨n,rfl⟩ |⟨ae,fr,q,rfl⟩<;>rfl)
theorem d7.ext{n:Int}{rd wr:U Nat}{dv:DV X}{upd:U (Nat×Option (bm X))}{ab:Out}(h:sZ T i o n (λ x=>den (ρ x)) (dK rd (fq get))=some ab)(h1:jw ab.obs)(h2:ab.v=den dv)(h3:ab.upd=iE upd)(h4:∀p∈upd,p.1=cJ i\/p.1∈wr)(h5:k dv upd rd wr=some r)(hx:J0 o.op=false:=by rfl):d7 P T i o ρ get k r:=
 ⟨.ext n,rd,wr,dv,upd,ab,by show tq T i o n _ _=some ab;unfold tq;rw[hx];simp only[ak,h],h1,h2,h3,h4,h5⟩
theorem d7.vx{n:Int}{rd wr:U Nat}{dv:DV X}{upd:U (Nat×Option (bm X))}{ab:Out}(h:DI T i o n (λ x=>den (ρ x)) (dK rd (fq get))=some ab)(h1:jw ab.obs)(h2:ab.v=den dv)(h3:ab.upd=iE upd)(h4:∀p∈upd,p.1=cJ i\/p.1∈wr)(h5:k dv upd rd wr=some r)(hx:J0 o.op=true:=by rfl):d7 P T i o ρ get k r:=
 ⟨.ext n,rd,wr,dv,upd,ab,by show tq T i o n _ _=some ab;unfold tq;rw[hx];simp only[aj,h],h1,h2,h3,h4,h5⟩
theorem Sm{x:DV X}(h:PI x k=some r):∃dv,Pk (den x)=some ⟨den dv,[],[]⟩/\k dv [] [] []=some r:=by cases x<;>simp only[PI]at h<;>first |cases h |exact⟨_,rfl,h⟩
theorem Z7{cx:jj}{ρ:Operand->AV}{get:Nat->J aT}(hne:∀f args cR,o.op≠ .call { callee:= .value f,args:=args,argTypes:=cR })(ho:∀n,cx≠ .ext n)(hf:∀ae fr q,cx≠ .xn ae fr q):jF P T i o cx ρ get=qc T i o cx ρ get:=by
 have e:∀(α:Type) (a:Operand->Array Operand->Array TypeId->α) (b:α),(match o.op with | .call { callee:= .value f,args:=args,argTypes:=cR }=>a f args cR |_=>b)=b:=by
  intro α a b;split
  .rename_i f args cR heq;exact(hne f args cR heq).elim
  .rfl
 cases cx<;>first |exact(ho _ rfl).elim |exact(hf _ _ _ rfl).elim |exact e _ _ _
theorem d7.op{cx:jj}{rd wr:U Nat}{dv:DV X}{upd:U (Nat×Option (bm X))}{ab:Out}(hne:∀f args cR,o.op≠ .call { callee:= .value f,args:=args,argTypes:=cR })
 (h:qc T i o cx (λ x=>den (ρ x)) (dK rd (fq get))=some ab) (h1:jw ab.obs/\ab.v=den dv/\ab.upd=iE upd/\(∀ p∈upd,p.1=cJ i\/p.1∈wr)/\k dv upd rd wr=some r):d7 P T i o ρ get k r:=by
 obtain⟨u9,h'⟩:∃u9,jF P T i o u9 (λ x=>den (ρ x)) (dK rd (fq get))=some ab:=by
  by_cases hx:(∃ n,cx= .ext n)\/∃ae fr q,cx= .xn ae fr q
  .refine⟨.none,?_⟩;rw[Z7 hne (by simp) (by simp),aje hx,h]
  .simp only[not_or,not_exists]at hx;exact⟨cx,by rw[Z7 hne hx.1 (λ ae fr q=>hx.2 ae fr q),h]⟩
 exact⟨u9,rd,wr,dv,upd,ab,h',h1⟩
theorem d7.call{dst:J Tmp}{f:Operand}{args:Array Operand}{cR:Array TypeId}{ty:TypeId}{ao:String}{after:Array Edge}{guard:J (Nat×Bool)}{cx:jj}{rd wr:U Nat}{dv:DV X}{upd:U (Nat×Option (bm X))}{ab:Out}
 (h:j6 P i (den (ρ f)) (args.toList.map λx=>den (ρ x)) cx (dK rd (fq get))=some ab) (h1:jw ab.obs/\ab.v=den dv/\ab.upd=iE upd/\(∀ p∈upd,p.1=cJ i\/p.1∈wr)/\k dv upd rd wr=some r):
 d7 P T i ⟨dst,.call { callee:= .value f,args:=args,argTypes:=cR },ty,ao,after,guard⟩ ρ get k r:=by
 refine⟨cx,rd,wr,dv,upd,ab,?_,h1⟩;unfold jF;split
 .unfold j6 oN xA at h;simp only at h;split at h<;>first |cases h |(rename_i e;cases e)
 .unfold j6 oN xA at h;simp only at h;split at h<;>first |cases h |(rename_i e;cases e)
 .exact h
theorem Jv{op:BinOp}{b:DV X}{yes:Bool}(h:Fm op b yes k=some r):∃dv ab,DS op (den b) yes=some ab/\jw ab.obs/\ab.v=den dv/\ab.upd=[]/\k dv [] [] []=some r:=by
 unfold Fm at h;split at h
 .cases yes with
  |true=>exact⟨b,_,rfl,trivial,rfl,rfl,h⟩
  |false=>exact⟨.c .bool false,_,rfl,trivial,rfl,rfl,h⟩
 .cases yes with
  |true=>exact⟨b,_,rfl,trivial,rfl,rfl,h⟩
  |false=>exact⟨.c .bool true,_,rfl,trivial,rfl,rfl,h⟩
 .cases h
theorem agb{op:BinOp}{t:TypeId}{x:DV X}(h:V0 T op t x k=some r):∃dv ab,Ax T op t (den x) .cW=some ab/\jw ab.obs/\ab.v=den dv/\ab.upd=[]/\k dv [] [] []=some r:=by
 unfold V0 at h;rw[ai]at h;obtain⟨ti,h1,h⟩:=h;split at h
 .rename_i e c l hk;have⟨dv,ab,g1,g2⟩:=Jv h;refine⟨dv,ab,?_,g2⟩;simp only[Ax,h1,af,hk,den,CT.tv,TV.av];rw[<- g1];congr 1;cases l<;>rfl
 .rename_i e kk aa len hk;have⟨dv,ab,g1,g2⟩:=Jv h;exact⟨dv,ab,by simp only[Ax,h1,af,hk,den];exact g1,g2⟩
 .rename_i e kk len hk;have⟨dv,ab,g1,g2⟩:=Jv h;exact⟨dv,ab,by simp only[Ax,h1,af,hk,den];exact g1,g2⟩
 .rename_i e hk;have⟨dv,ab,g1,g2⟩:=Jv h;exact⟨dv,ab,by simp only[Ax,h1,af,hk,den];exact g1,g2⟩
 .cases h
theorem agc{s:ByteArray}{n b:Int}(h:Rw s n=some b):0<=n/\∃c,s[n.toNat]? =some c/\b=c.toNat:=by
 unfold Rw at h;by_cases hn:0<=n
 .simp only[hn,decide_true,aj,dI]at h;obtain⟨c,h1,h2⟩:=h;exact⟨hn,c,h1,h2.symm⟩
 .simp[hn]at h
theorem Z8{m:Int}{bytes:Nat}(h:zH m bytes=true):0<=m/\m.toNat*bytes<=140737488355328/\m.toNat<=maxLen:=by simpa[zH,and_assoc]using h
theorem Sn{b:Builtin}{args:U (DV X)}{cR:U TypeId}(h:PG T am i b args cR get k=some r):
 ∃rd wr dv upd ab,uU T i b (bO args) cR (dK rd (fq get))=some ab/\jw ab.obs/\ab.v=den dv/\ab.upd=iE upd/\(∀ p∈upd,p.1=cJ i\/p.1∈wr)/\k dv upd rd wr=some r:=by
 unfold PG at h;split at h
 .rename_i t;rw[ai]at h;obtain⟨ti,h1,h⟩:=h;split at h
  .rename_i e hk;refine⟨[],[],_,[],⟨.t (.sc (.int .i64 0)),[],[]⟩,?_,trivial,rfl,rfl,by simp,h⟩;simp only[uU,bO,den,h1,af,hk];rfl
  .cases h
 .rename_i kk aa len t;rw[ai]at h;obtain⟨ti,h1,h⟩:=h;split at h
  .rename_i e hk;rw[ai]at h;obtain⟨ei,h2,h⟩:=h;rw[ai]at h;obtain⟨o,h3,h⟩:=h;split at h
   .rename_i c l;split at h
    .rename_i hs;refine⟨[kk],[kk],_,_,⟨.eE [],[(kk,some ⟨CT.sz X c,(aI (l.map (CT.row X.toSE c))).take aa⟩)],[]⟩,?_,trivial,rfl,?_,by simp,h⟩
     .simp only[uU,bO,den,h1,af,hk,h2,eD (List.mem_singleton_self kk) h3,bH];rw[aY hs]
     .simp[iE,bH,aI,map_take]
    .cases h
   .cases h
  .cases h
 .rename_i kd m t u;rw[ai]at h;obtain⟨ti,h1,h⟩:=h;rw[ai]at h;obtain⟨ui,h2,h⟩:=h;split at h
  .rename_i e kn hk hk';rw[ai]at h;obtain⟨ei,h3,h⟩:=h;rw[ai]at h;obtain⟨c,h4,h⟩:=h;split at h
   .rename_i hs;have⟨z,h5,h⟩:=ai.1 h;have⟨h6,h⟩:=eu h;have⟨m1,m2,m3⟩:=Z8 h6;have hz:=yh h5;rw[Cq]at hz;refine⟨[],[],_,_,⟨.own (cJ i) 0 m.toNat,[(cJ i,some ⟨ei.size,dY (List.replicate m.toNat (ei.zero.map cv))⟩)],[0<=m/\m.toNat*ei.bytes<=140737488355328/\m.toNat<=maxLen/\0<ei.size]⟩,?_,?_,rfl,?_,by simp,h⟩
    .simp only[uU,bO,den,CT.tv,TV.av,h1,h2,h3,af,hk,hk']
    .exact⟨m1,m2,m3,hs.2⟩
    .simp only[iE,aF,map_nil,Option.map_some,bH,hs.1,aI,dY,List.map_replicate];rw[hz]
   .cases h
  .cases h
 .cases h
theorem ady{t:TypeId}{l c:DV X}(h:W0 T am i t l c k=some r):∃dv upd ab,Lq T i t (den l) (den c)=some ab/\jw ab.obs/\ab.v=den dv/\ab.upd=iE upd/\(∀ p∈upd,p.1=cJ i)/\k dv upd [] []=some r:=by
 unfold W0 at h;rw[ai]at h;obtain⟨ti,h1,h⟩:=h;split at h
 .rename_i e kl n kc m hk;rw[ai]at h;obtain⟨ei,h3,h⟩:=h;rw[ai]at h;obtain⟨c,h4,h⟩:=h;split at h
  .rename_i hs;have⟨z,h5,h⟩:=ai.1 h;have⟨h6,h⟩:=eu h;simp only[aL,aV]at h6;obtain⟨h7,h8,h9⟩:=h6;have⟨m1,m2,m3⟩:=Z8 h9;have hz:=yh h5;rw[Cq]at hz;refine⟨_,_,⟨.own (cJ i) 0 n.toNat,[(cJ i,some ⟨ei.size,dY (List.replicate n.toNat (ei.zero.map cv))⟩)],[0<=n/\n<=m/\m.toNat*ei.bytes<=140737488355328/\m.toNat<=maxLen/\0<ei.size]⟩,?_,?_,rfl,?_,by simp,h⟩
   .simp only[Lq,den,CT.tv,TV.av,h1,h3,af,hk]
   .exact⟨h8,h7,m2,m3,hs.2⟩
   .simp only[iE,aF,map_nil,Option.map_some,bH,hs.1,aI,dY,List.map_replicate];rw[hz]
  .cases h
 .cases h
theorem VU{t:TypeId}(h:VP T am i t k=some r):∃dv upd ab,GZ T i t=some ab/\jw ab.obs/\ab.v=den dv/\ab.upd=iE upd/\(∀ p∈upd,p.1=cJ i)/\k dv upd [] []=some r:=by
 unfold VP at h;rw[ai]at h;obtain⟨ti,h1,h⟩:=h;split at h
 .rename_i kt et hk;have⟨kc,h2,h⟩:=ai.1 h;have⟨vc,h3,h⟩:=ai.1 h;exact⟨_,_,⟨.mp (cJ i),[(cJ i,some ⟨0,[]⟩)],[]⟩,by simp only[GZ,h1,af,hk],trivial,rfl,rfl,by simp,h⟩
 .cases h
theorem ak1{ki:nh}{kc:CT X.ι}(h:D1 ki.k kc=true)(x:CT.T X.toSE kc):∃v,(CT.tv X.toSE kc x).av= .t (.sc v)/\Mt ki.k v=true:=by
 cases kc
 case int b=>
  refine⟨.int b x,rfl,?_⟩;cases hk:ki.k<;>rw[hk]at h<;>simp only[D1,aV,Bool.false_eq_true]at h;subst h;simp[Mt]
 case str=>
  refine⟨.string x,rfl,?_⟩;cases hk:ki.k<;>rw[hk]at h<;>simp only[D1,Bool.false_eq_true]at h;rfl
 case bool=>
  refine⟨.bool x,rfl,?_⟩;cases hk:ki.k<;>rw[hk]at h<;>simp only[D1,Bool.false_eq_true]at h;rfl
 all_goals (cases hk:ki.k<;>rw[hk]at h<;>simp[D1]at h)
theorem adz{kc:CT X.ι}{eq:CT.T X.toSE kc->CT.T X.toSE kc->Bool}(h:MU kc=some eq){a b:CT.T X.toSE kc}{va:Value}(ha:(CT.tv X.toSE kc a).av= .t (.sc va)):∃vb,(CT.tv X.toSE kc b).av= .t (.sc vb)/\Rc va vb=some (eq a b):=by
 cases kc
 case int q=>
  simp only[MU,aA]at h;subst h;simp only[CT.tv,TV.av,AV.t.injEq,Tree.sc.injEq]at ha;subst ha;exact⟨_,rfl,by simp[Rc,ju]⟩
 case str=>
  simp only[MU,aA]at h;subst h;simp only[CT.tv,TV.av,AV.t.injEq,Tree.sc.injEq]at ha;subst ha;exact⟨_,rfl,by simp[Rc,ll]⟩
 case bool=>
  simp only[MU,aA]at h;subst h;simp only[CT.tv,TV.av,AV.t.injEq,Tree.sc.injEq]at ha;subst ha;exact⟨_,rfl,by simp[Rc,bEq]⟩
 all_goals simp[MU]at h
theorem Z9{kc vc:CT X.ι}{eq:CT.T X.toSE kc->CT.T X.toSE kc->Bool}(h:MU kc=some eq){a:CT.T X.toSE kc}{va:Value}(ha:(CT.tv X.toSE kc a).av= .t (.sc va)):∀l:U (CT.T X.toSE kc×CT.T X.toSE vc),
 ∃r,Rf va (bH (.map kc vc l:bm X)).rows=some r/\r.map (·.2)=(fP eq a l).map λv=>(CT.tv X.toSE vc v).av
 |[]=>⟨none,rfl,rfl⟩
 |p::l=>by
  have⟨vb,h1,h2⟩:=adz h (b:=p.1) ha;have⟨r,g1,g2⟩:=Z9 h ha l;have g1':Rf va (l.map λp=>[(CT.tv X.toSE kc p.1).av,(CT.tv X.toSE vc p.2).av])=some r:=g1;simp only[bH,aF,h1,Rf,h2,af,fP];cases eq a p.1 with
  |true=>exact⟨_,rfl,rfl⟩
  |false=>
   simp only[Bool.false_eq_true,if_false,g1',Option.map_some,ak];exact⟨_,rfl,by rw[<- g2,Option.map_map];rfl⟩
theorem adA{kc vc:CT X.ι}{eq:CT.T X.toSE kc->CT.T X.toSE kc->Bool}(h:MU kc=some eq){a:CT.T X.toSE kc}{va:Value}(ha:(CT.tv X.toSE kc a).av= .t (.sc va))(y:CT.T X.toSE vc):∀l:U (CT.T X.toSE kc×CT.T X.toSE vc),
 yd va (CT.tv X.toSE vc y).av (bH (.map kc vc l:bm X)).rows=some (bH (.map kc vc (rP eq a y l):bm X)).rows
 |[]=>by simp only[bH,map_nil,yd,rP,aF,ha]
 |p::l=>by
  have⟨vb,h1,h2⟩:=adz h (b:=p.1) ha;have g:=adA h ha y l;have g':yd va (CT.tv X.toSE vc y).av (l.map λp=>[(CT.tv X.toSE kc p.1).av,(CT.tv X.toSE vc p.2).av])=some ((rP eq a y l).map λp=>[(CT.tv X.toSE kc p.1).av,(CT.tv X.toSE vc p.2).av]):=g;simp only[bH,aF,h1,yd,h2,af,rP];cases eq a p.1 with
  |true=>simp only[if_true,aj,aF,ha]
  |false=>simp only[Bool.false_eq_true,if_false,g',Option.map_some,ak,aF,h1]
theorem zero_den{vc:CT X.ι}{ei:nh}{z:CT.T X.toSE vc}(h:He vc (ei.zero.map t7)=some z)(ha:ei.agg=Mz vc)(hs:ei.size=CT.sz X vc):part' ei.agg ei.size ((ei.zero.map cv).map wk)=some (CT.tv X.toSE vc z).av:=by
 have hz:=yh h;rw[Cq]at hz;rw[hz,ha,hs];have hl:((CT.row X.toSE vc z).map AV.t).length=CT.sz X vc:=by rw[length_map,DR]
 unfold part';rw[aY hl];cases vc<;>rfl
theorem abA{d:DV X}{c:CT X.ι}{x:CT.T X.toSE c}(h:dat d c=some x):yl (den d)=(CT.tv X.toSE c x).av:=by
 cases c
 case st j=>
  replace h:DO d j=some x:=h
  cases d
  case agg cs=>
   simp only[DO]at h;rw[ai]at h;obtain⟨g,h1,h⟩:=h;cases h;simp only[den,yl,(yI h1 (X.flat j)).1];rw[<- VF];rfl
  case c a y=>
   replace h:jB a (.st j) y=some x:=h
   rw[(oo h).1];simp only[den,CT.tv,TV.av,yl,map_map];congr 1
  all_goals cases h
 all_goals
  (have h':JX d _=some x:=h
   have hd:=vY h';cases d
   case agg=>cases h
   case c a y=>
    obtain⟨e,_⟩:=rM (show jB a _ y=some x from h);subst e;exact hd
   all_goals first |exact hd |(cases h))
theorem YQ{t:TypeId}{x key:DV X}{ok:Bool}(h:Uv T t x key ok get k=some r):∃rd dv ab,qE T t (den x) (den key) ok (dK rd (fq get))=some ab/\jw ab.obs/\ab.v=den dv/\ab.upd=[]/\k dv [] rd []=some r:=by
 unfold Uv at h;rw[ai]at h;obtain⟨ti,h1,h⟩:=h;split at h
 .rename_i kt et kk hk;rw[ai]at h;obtain⟨ki,h2,h⟩:=h;rw[ai]at h;obtain⟨ei,h3,h⟩:=h;rw[ai]at h;obtain⟨o,h4,h⟩:=h;split at h
  .rename_i kc vc l;rw[ai]at h;obtain⟨eq,h5,h⟩:=h;rw[ai]at h;obtain⟨kv,h6,h⟩:=h;split at h
   .rename_i hc;have⟨z,h7,h⟩:=ai.1 h;have⟨va,g1,g2⟩:=ak1 hc.1 kv;have⟨q,g3,g4⟩:=Z9 (vc:=vc) h5 g1 l;have hkey:den key= .t (.sc va):=by
     have:=vY h6;rw[g1]at this;cases hd:den key<;>rw[hd]at this<;>simp only[wk,AV.t.injEq,reduceCtorEq]at this;subst this;rfl
    have hv:∀q:J (Nat×AV),q.map (·.2)=(fP eq kv l).map (λ v=>(CT.tv X.toSE vc v).av)->wa q (part' ei.agg ei.size ((ei.zero.map cv).map wk))=some (CT.tv X.toSE vc ((fP eq kv l).getD z)).av:=by
     intro q g;cases hm:fP eq kv l with
     |none=>
      rw[hm]at g;cases q with
      |none=>exact zero_den h7 hc.2.1 hc.2.2
      |some p=>simp at g
     |some v=>
      rw[hm]at g;cases q with
      |none=>simp at g
      |some p=>simp only[Option.map_some,aA]at g;simp only[wa,g,Option.getD_some]
    have hi:q.isSome=(fP eq kv l).isSome:=by
     have:=congrArg Option.isSome g4;simpa using this
    have hb:qE T t (den (.mp kk:DV X)) (den key) ok (dK [kk] (fq get))=pv (if ok then .eE [den (.c vc ((fP eq kv l).getD z):DV X),.t (.sc (.bool q.isSome))]else den (.c vc ((fP eq kv l).getD z):DV X)):=by
     simp only[qE,Uq,h1,af,hk,den,hkey,h2,h3,eD (List.mem_singleton_self kk) h4];rw[aY ⟨g2,by simp[bH]⟩];rw[g3,af,hv q g4,af]
    cases ok with
    |true=>exact⟨[kk],_,_,hb,trivial,by simp only[if_true,den,bO,hi];rfl,rfl,h⟩
    |false=>exact⟨[kk],_,_,hb,trivial,rfl,rfl,h⟩
   .cases h
  .cases h
 .cases h
theorem YR{t:TypeId}{x key y:DV X}(h:Uw T t x key y get k=some r):∃rd wr dv upd ab,vW T t (den x) (den key) (den y) (dK rd (fq get))=some ab/\jw ab.obs/\ab.v=den dv/\ab.upd=iE upd/\(∀ p∈upd,p.1∈wr)/\k dv upd rd wr=some r:=by
 unfold Uw at h;rw[ai]at h;obtain⟨ti,h1,h⟩:=h;split at h
 .rename_i kt et kk hk;rw[ai]at h;obtain⟨ki,h2,h⟩:=h;rw[ai]at h;obtain⟨o,h4,h⟩:=h;split at h
  .rename_i kc vc l;rw[ai]at h;obtain⟨eq,h5,h⟩:=h;rw[ai]at h;obtain⟨kv,h6,h⟩:=h;rw[ai]at h;obtain⟨v,h7,h⟩:=h;split at h
   .rename_i hc;have⟨va,g1,g2⟩:=ak1 hc kv;have g3:=adA (vc:=vc) h5 g1 v l;have hkey:den key= .t (.sc va):=by
     have:=vY h6;rw[g1]at this;cases hd:den key<;>rw[hd]at this<;>simp only[wk,AV.t.injEq,reduceCtorEq]at this;subst this;rfl
    refine⟨[kk],[kk],_,_,⟨.undef,[(kk,some ⟨(bH (.map kc vc (rP eq kv v l):bm X)).rows.length,(bH (.map kc vc (rP eq kv v l):bm X)).rows⟩)],[]⟩,?_,trivial,rfl,?_,by simp,h⟩
    .simp only[vW,Ur,h1,af,hk,den,hkey,h2,eD (List.mem_singleton_self kk) h4];rw[aY ⟨g2,by simp[bH]⟩,abA h7,g3];rfl
    .simp[iE,bH]
   .cases h
  .cases h
 .cases h
theorem adB{k:IntKind}:∀{l:U (CT X.ι)}(h:HL X.toSE l),DW k l=true->qd k ((HL.row X.toSE l h).map AV.t)=some (mO l h)/\(mO l h).length=l.length
 |[],_,_=>⟨rfl,rfl⟩
 | .int k'::l,h,hi=>by
  simp only[DW,aL,aV]at hi;obtain⟨rfl,hi⟩:=hi;have⟨g1,g2⟩:=adB (l:=l) h.2 hi;exact⟨by simp only[HL.row,CT.row,cons_append,bQ,aF,qd,if_true,g1,Option.map_some,mO],by simp only[mO,bJ,g2]⟩
theorem ah9{k:IntKind}:∀{cs:U AV}{c:U Int},qd k cs=some c->G5 k c= .agg cs
 |[],c,h=>by simp only[qd,aA]at h;subst h;rfl
 |x::cs,c,h=>by
  unfold qd at h;split at h
  .rename_i heq;cases heq
  .rename_i k' n r heq;injection heq with e1 e2;subst e1;subst e2;split at h
   .rename_i hk;subst hk;rw[dI]at h;obtain⟨c',h1,rfl⟩:=h;have:=ah9 h1;simp only[G5,AV.agg.injEq]at this ⊢;rw[aF,this]
   .cases h
  .cases h
theorem sF{k:IntKind}{i:X.ι}(hi:DW k (X.cR i)=true)(x:CT.T X.toSE (.st i)):qd k ((X.row i x).map AV.t)=some (mO (X.cR i) (X.get i x))/\(mO (X.cR i) (X.get i x)).length=(X.cR i).length:=by
 have:=adB (X.get i x) hi;rw[<- X.l4]at this;exact this
theorem adC{k:IntKind}:∀{cs:U AV}{c:U Int},qd k (cs.map wk)=some c->qd k cs=some c
 |[],c,h=>h
 |x::cs,c,h=>by
  cases x
  case t y=>
   cases y
   case sc v=>
    cases v
    case int k' n=>
     simp only[aF,wk,qd]at h ⊢;split at h
     .rename_i hk;rw[aY hk];rw[dI]at h ⊢;obtain⟨c',h1,rfl⟩:=h;exact⟨c',adC h1,rfl⟩
     .cases h
    all_goals (simp [wk,qd]at h)
   all_goals (simp [wk,qd]at h)
  all_goals (simp [wk,qd]at h)
theorem ak2{key:DV X}{i:X.ι}{kv:CT.T X.toSE (.st i)}{k:IntKind}(h:dat key (.st i)=some kv)(hi:DW k (X.cR i)=true):∃cs,den key= .agg cs/\qd k cs=some (mO (X.cR i) (X.get i kv)):=by
 have h1:=abA h;cases hd:den key<;>rw[hd]at h1<;>simp only[yl,wk,CT.tv,TV.av,reduceCtorEq,AV.agg.injEq]at h1;rename_i cs;exact⟨cs,rfl,adC (by rw[h1];exact(sF hi kv).1)⟩
theorem VW{vc:CT X.ι}{i:X.ι}{k:IntKind}(hi:DW k (X.cR i)=true)(a:CT.T X.toSE (.st i)):∀l:U (CT.T X.toSE (.st i)×CT.T X.toSE vc),
 ∃r,AR k (mO (X.cR i) (X.get i a)) (bH (.map (.st i) vc l:bm X)).rows=some r/\r.map (·.2)=(fP (Ho i) a l).map λv=>(CT.tv X.toSE vc v).av
 |[]=>⟨none,rfl,rfl⟩
 |p::l=>by
  have⟨h1,h2⟩:=sF hi p.1;have h3:=(sF hi a).2;have⟨r,g1,g2⟩:=VW hi a l;have g1':AR k (mO (X.cR i) (X.get i a)) (l.map λp=>[(CT.tv X.toSE (.st i) p.1).av,(CT.tv X.toSE vc p.2).av])=some r:=g1;have e:(CT.tv X.toSE (.st i) p.1).av= .agg ((X.row i p.1).map AV.t):=rfl;simp only[bH,aF,e,AR,h1,af,fP,Ho];rw[aY (by rw[h2,h3])];by_cases hc:mO (X.cR i) (X.get i a)=mO (X.cR i) (X.get i p.1)
  .rw[aY hc,decide_eq_true hc];exact⟨_,rfl,rfl⟩
  .rw[aR hc,decide_eq_false hc];refine⟨r.map λp=>(p.1+1,p.2),?_,?_⟩
   .exact congrArg (Option.map λr:Option (Nat×AV)=>r.map λp=>(p.1+1,p.2)) g1'
   .rw[ak,<- g2,Option.map_map];rfl
theorem ajf{vc:CT X.ι}{i:X.ι}{k:IntKind}(hi:DW k (X.cR i)=true)(a:CT.T X.toSE (.st i))(y:CT.T X.toSE vc):∀l:U (CT.T X.toSE (.st i)×CT.T X.toSE vc),
 Mw k (mO (X.cR i) (X.get i a)) (CT.tv X.toSE vc y).av (bH (.map (.st i) vc l:bm X)).rows=some (bH (.map (.st i) vc (rP (Ho i) a y l):bm X)).rows:=by
 have hA:G5 k (mO (X.cR i) (X.get i a))=(CT.tv X.toSE (.st i) a).av:=ah9 (sF hi a).1;intro l
 induction l with
 |nil=>simp only[bH,map_nil,Mw,rP,aF,hA]
 |cons p l ih=>
  have⟨h1,h2⟩:=sF hi p.1;have h3:=(sF hi a).2;have e:(CT.tv X.toSE (.st i) p.1).av= .agg ((X.row i p.1).map AV.t):=rfl;have ih':Mw k (mO (X.cR i) (X.get i a)) (CT.tv X.toSE vc y).av (l.map λp=>[(CT.tv X.toSE (.st i) p.1).av,(CT.tv X.toSE vc p.2).av])=some ((rP (Ho i) a y l).map λp=>[(CT.tv X.toSE (.st i) p.1).av,(CT.tv X.toSE vc p.2).av]):=ih;simp only[bH,aF,e,Mw,h1,af,rP];rw[aY (by rw[h2,h3])];by_cases hc:mO (X.cR i) (X.get i a)=mO (X.cR i) (X.get i p.1)
  .rw[aY hc,show Ho i a p.1=true from decide_eq_true hc,hA];rfl
  .rw[aR hc,show Ho i a p.1=false from decide_eq_false hc,ih'];rfl
theorem am5{vc:CT X.ι}{ei:nh}{z:CT.T X.toSE vc}(h7:He vc (ei.zero.map t7)=some z)(hc1:ei.agg=Mz vc)(hc2:ei.size=CT.sz X vc){q:J (Nat×AV)}{m:J (CT.T X.toSE vc)}(g:q.map (·.2)=m.map λv=>(CT.tv X.toSE vc v).av):
 wa q (part' ei.agg ei.size ((ei.zero.map cv).map wk))=some (CT.tv X.toSE vc (m.getD z)).av:=by
 cases m with
 |none=>
  cases q with
  |none=>exact zero_den h7 hc1 hc2
  |some p=>simp at g
 |some v=>
  cases q with
  |none=>simp at g
  |some p=>simp only[Option.map_some,aA]at g;simp only[wa,g,Option.getD_some]
theorem VX{t:TypeId}{x key:DV X}{ok:Bool}(h:MW T t x key ok get k=some r):∃rd dv ab,qE T t (den x) (den key) ok (dK rd (fq get))=some ab/\jw ab.obs/\ab.v=den dv/\ab.upd=[]/\k dv [] rd []=some r:=by
 unfold MW at h;rw[ai]at h;obtain⟨ti,h1,h⟩:=h;split at h
 .rename_i kt et kk hk;rw[ai]at h;obtain⟨mk,h2,h⟩:=h;rw[ai]at h;obtain⟨ei,h3,h⟩:=h;rw[ai]at h;obtain⟨o,h4,h⟩:=h;split at h
  .rename_i i vc l;rw[ai]at h;obtain⟨kv,h6,h⟩:=h;split at h
   .rename_i hc;have⟨z,h7,h⟩:=ai.1 h;have⟨cs,g1,g2⟩:=ak2 h6 hc.2.1;have⟨q,g3,g4⟩:=VW (vc:=vc) hc.2.1 kv l;have hi:q.isSome=(fP (Ho i) kv l).isSome:=by
     have:=congrArg Option.isSome g4;simpa using this
    have hb:qE T t (den (.mp kk:DV X)) (den key) ok (dK [kk] (fq get))=pv (if ok then .eE [den (.c vc ((fP (Ho i) kv l).getD z):DV X),.t (.sc (.bool q.isSome))]else den (.c vc ((fP (Ho i) kv l).getD z):DV X)):=by
     simp only[g1,qE,Mx,h1,af,hk,den,h2,h3,eD (List.mem_singleton_self kk) h4,g2];rw[aY ⟨(sF hc.2.1 kv).2.trans hc.1,by simp[bH]⟩];rw[g3,af,am5 h7 hc.2.2.1 hc.2.2.2 g4,af]
    cases ok with
    |true=>exact⟨[kk],_,_,hb,trivial,by simp only[if_true,den,bO,hi];rfl,rfl,h⟩
    |false=>exact⟨[kk],_,_,hb,trivial,rfl,rfl,h⟩
   .cases h
  .cases h
 .cases h
theorem VY{t:TypeId}{x key y:DV X}(h:MX T t x key y get k=some r):∃rd wr dv upd ab,vW T t (den x) (den key) (den y) (dK rd (fq get))=some ab/\jw ab.obs/\ab.v=den dv/\ab.upd=iE upd/\(∀ p∈upd,p.1∈wr)/\k dv upd rd wr=some r:=by
 unfold MX at h;rw[ai]at h;obtain⟨ti,h1,h⟩:=h;split at h
 .rename_i kt et kk hk;rw[ai]at h;obtain⟨mk,h2,h⟩:=h;rw[ai]at h;obtain⟨o,h4,h⟩:=h;split at h
  .rename_i i vc l;rw[ai]at h;obtain⟨kv,h6,h⟩:=h;rw[ai]at h;obtain⟨v,h7,h⟩:=h;split at h
   .rename_i hc;have⟨cs,g1,g2⟩:=ak2 h6 hc.2;have g3:=ajf (vc:=vc) hc.2 kv v l;refine⟨[kk],[kk],_,_,⟨.undef,[(kk,some ⟨(bH (.map (.st i) vc (rP (Ho i) kv v l):bm X)).rows.length,(bH (.map (.st i) vc (rP (Ho i) kv v l):bm X)).rows⟩)],[]⟩,?_,trivial,rfl,?_,by simp,h⟩
    .simp only[g1,vW,MB,h1,af,hk,den,h2,eD (List.mem_singleton_self kk) h4,g2];rw[aY ⟨(sF hc.2 kv).2.trans hc.1,by simp[bH]⟩,abA h7,g3];rfl
    .simp[iE,bH]
   .cases h
  .cases h
 .cases h
theorem VZ{t:TypeId}{x key:DV X}{ok:Bool}(h:(bif Z6 x get then MW T t x key ok get k else Uv T t x key ok get k)=some r):∃rd dv ab,qE T t (den x) (den key) ok (dK rd (fq get))=some ab/\jw ab.obs/\ab.v=den dv/\ab.upd=[]/\k dv [] rd []=some r:=by
 cases hs:Z6 x get<;>rw[hs]at h
 .exact YQ h
 .exact VX h
theorem V3{t:TypeId}{x key y:DV X}(h:(bif Z6 x get then MX T t x key y get k else Uw T t x key y get k)=some r):∃rd wr dv upd ab,vW T t (den x) (den key) (den y) (dK rd (fq get))=some ab/\jw ab.obs/\ab.v=den dv/\ab.upd=iE upd/\(∀ p∈upd,p.1∈wr)/\k dv upd rd wr=some r:=by
 cases hs:Z6 x get<;>rw[hs]at h
 .exact YR h
 .exact VY h
theorem agf(h:VV T am i o.op ρ get k=some r):d7 P T i o ρ get k r:=by
 obtain⟨dst,op,ty,ao,after,guard⟩:=o;unfold VV at h;simp only at h;split at h
 .rename_i op t x y q;split at h
  .rename_i hn;have⟨dv,ab,g1,g2,g3,g4,g5⟩:=agb h;have hy:den (ρ y)= .cW:=(by cases hρ:ρ y<;>rw[hρ]at hn<;>first |rfl |cases hn);exact d7.ext (n:=0) (rd:=[]) (wr:=[]) (upd:=[]) (by simp only[sZ,hy];exact g1) g2 g3 g4 (by simp) g5
  .cases h
 .rename_i s d x;unfold aol at h;rw[ai]at h;obtain⟨si,h1,h⟩:=h;rw[ai]at h;obtain⟨di,h2,h⟩:=h;split at h
  .rename_i kd k' n hk hx;refine d7.ext (n:=0) (rd:=[]) (wr:=[]) (upd:=[]) (ab:=⟨.t (.sc (.int kd (kd.wrap n))),[],[]⟩) ?_ trivial rfl rfl (by simp) h;simp only[sZ,N6,h1,h2,af,hk,hx];rfl
  .cases h
 .rename_i t x j;unfold akX at h;rw[ai]at h;obtain⟨ti,h1,h⟩:=h;split at h
  .rename_i s kk n hk hx hj;rw[ai]at h;obtain⟨b,h2,h⟩:=h;refine d7.ext (n:=b) (rd:=[]) (wr:=[]) (upd:=[]) (ab:=⟨.t (.sc (.int .u8 b)),[],[0<=n/\∃c,s[n.toNat]? =some c/\b=c.toNat]⟩) ?_ (agc h2) rfl rfl (by simp) h;simp only[sZ,Vb,h1,af,hk,hx,hj];rfl
  .rename_i m e cs kd q hk hx hj;rw[ai]at h;obtain⟨ei,h2,h⟩:=h;have⟨h3,h⟩:=eu h;rw[ai]at h;obtain⟨v,h4,h⟩:=h;simp only[cC,aL,aV]at h3;refine d7.ext (n:=0) (rd:=[]) (wr:=[]) (upd:=[]) (ab:=⟨den v,[],[0<=q/\q<(m:Int)]⟩) ?_ h3 rfl rfl (by simp) h;have h5:=Cr h4;rw[kg]at h5;simp only[sZ,Vb,h1,af,hk,hx,hj,h2,den,CT.tv,TV.av,h5];rfl
  .cases h
 .rename_i t x lo hi;unfold Z5 at h;rw[ai]at h;obtain⟨ti,h1,h⟩:=h;split at h
  .rename_i e hk hx;rw[ai]at h;obtain⟨ei,h2,h⟩:=h;rw[ai]at h;obtain⟨l,h3,h⟩:=h;rw[ai]at h;obtain⟨hh,h4,h⟩:=h;have⟨h5,h⟩:=eu h;refine d7.ext (n:=0) (rd:=[]) (wr:=[]) (upd:=[]) (ab:=⟨.cW,[],[l=0/\hh=0]⟩) ?_ (show l=0/\hh=0 by simpa using h5) rfl rfl (by simp) h;have e1:=Cs h3;have e2:=Cs h4;rw[Option.map_map]at e1 e2;simp only[sZ,Jq,h1,af,hk,hx,h2,den];have L2:bnd 0 (lo.map λx=>den (ρ x))=some l:=e1;have e2':bnd 0 (hi.map λx=>den (ρ x))=some hh:=e2;rw[L2,af,e2'];rfl
  .cases h
 .rename_i x;have⟨dv,g1,g2⟩:=Sm h;exact d7.vx (n:=0) (rd:=[]) (wr:=[]) (upd:=[]) g1 trivial rfl rfl (by simp) g2
 .rename_i t l c;have⟨dv,upd,ab,g1,g2,g3,g4,g5,g6⟩:=ady h;exact d7.vx (n:=0) (rd:=[]) (wr:=[]) (upd:=upd) g1 g2 g3 g4 (λ p hp=> .inl (g5 p hp)) g6
 .rename_i t;have⟨dv,upd,ab,g1,g2,g3,g4,g5,g6⟩:=VU h;exact d7.vx (n:=0) (rd:=[]) (wr:=[]) (upd:=upd) g1 g2 g3 g4 (λ p hp=> .inl (g5 p hp)) g6
 .rename_i t m x ok;have⟨rd,dv,ab,g1,g2,g3,g4,g6⟩:=VZ h;exact d7.vx (n:=0) (rd:=rd) (wr:=[]) (upd:=[]) g1 g2 g3 g4 (by simp) g6
 .rename_i t m x v;have⟨rd,wr,dv,upd,ab,g1,g2,g3,g4,g5,g6⟩:=V3 h;exact d7.vx (n:=0) (rd:=rd) (wr:=wr) (upd:=upd) g1 g2 g3 g4 (λ p hp=> .inr (g5 p hp)) g6
 .rename_i b args cR;have⟨rd,wr,dv,upd,ab,g1,g2,g3,g4,g5,g6⟩:=Sn h;refine d7.ext (n:=0) (rd:=rd) (wr:=wr) (upd:=upd) ?_ g2 g3 g4 g5 g6;simp only[sZ,Ut];exact g1
 .cases h
theorem adD{c:CT X.ι}:∀{xs:U Operand}{x:Operand}{y:CT.T X.toSE c×List Bool},x∈xs->Fq get (ρ x) c=some y->∀j∈bk (ρ x),j∈zE get c ρ xs
 |z::xs,x,y,hx,h,j,hj=>by
  simp only[zE,aZ];rcases aN.1 hx with rfl |hx
  .left;rw[h];exact hj
  .exact .inr (adD hx h j hj)
 |[],_,_,hx,_,_,_=>by simp at hx
theorem adE{c:CT X.ι}:∀{xs:U Operand}{x:Operand}{y:CT.T X.toSE c×List Bool},x∈xs->Fq get (ρ x) c=some y->∀b∈y.2,b∈My get c ρ xs
 |z::xs,x,y,hx,h,b,hb=>by
  simp only[My,aZ];rcases aN.1 hx with rfl |hx
  .left;rw[h];exact hb
  .exact .inr (adE hx h b hb)
 |[],_,_,hx,_,_,_=>by simp at hx
theorem agh(h:VM T am i o.op ρ get k=some r):d7 P T i o ρ get k r:=by
 unfold VM at h;split at h
 .cases h
 rename_i hpick;have⟨c,h1,h⟩:=ai.1 h;have⟨hcs,h⟩:=pJ h;have⟨cx,rd,wr,dv,upd,ab,g1,g2,g3,g4,g5,g6⟩:=ZY h;generalize kq:zE get c ρ o.op.operands.toList=ae at*;refine⟨.xn ae (λ x=>den (I0 get c ρ x)) cx,rd++ae,wr++ae,dv,upd++MV ae,⟨ab.v,ab.upd++ae.map (λ k=>(k,none)),ab.obs++[∀ x∈o.op.operands,(fy P (dK (rd++ae) (fq get)) (den (ρ x)) (den (I0 get c ρ x))/\∀k∈refs (den (ρ x)),k∈ae)\/den (I0 get c ρ x)=den (ρ x)]⟩,?_,?_,g3,?_,?_,g6⟩
 .unfold jF GY;simp only;rw[aR hpick];have e:(λ k=>if k∈ae then none else dK (rd++ae) (fq get) k)=dK rd (fq λj=>if j∈ae then none else get j):=by
   funext j;simp only[dK,fq,aZ];by_cases hj:j∈ae
   .simp[hj]
   .simp[hj]
  rw[e,g1];rfl
 .refine qX _ λp hp=>?_;rcases aZ.1 hp with hp |hp
  .exact qD _ g2 p hp
  .rw[aQ]at hp;subst hp;intro x hx;unfold I0;cases hl:Fq get (ρ x) c with
   |none=>exact .inr rfl
   |some y=>
    left;have hx':x∈o.op.operands.toList:=(by simpa using hx);have hin:∀j∈bk (ρ x),j∈ae:=λj hj=>kq ▸ adD hx' hl j hj;obtain⟨hs,obs,p1,p2⟩:=z8 (P:=P) (rd:=rd++ae) hl (λ b hb=>hcs b (adE hx' hl b hb)) (λ j hj=>List.mem_append_right _ (hin j hj));refine⟨?_,λj hj=>hin j (by rwa [iT]at hj)⟩;have:=p2 [];exact Dz _ _ _ this p1
 .simp only[sD,Cu,g4]
 .intro p hp;rcases aZ.1 hp with hp |hp
  .exact(g5 p hp).imp id (λ h=>List.mem_append_left _ h)
  .exact .inr (List.mem_append_right _ (Ju hp))
theorem V4{c:CT X.ι}:∀{ds:U (DV X)}{xs:U (CT.T X.toSE c)},zI c ds=some xs->bO ds=xs.map λy=>den (.c c y:DV X)
 |[],xs,h=>by simp only[zI,aA]at h;subst h;rfl
 | .c a x::ds,xs,h=>by
  simp only[zI]at h;have⟨y,h1,h⟩:=ai.1 h;have⟨l,h2,h⟩:=ai.1 h;cases h;simp only[bO,aF,V4 h2,(oo h1).1]
 | .agg _::_,_,h=>by simp[zI]at h
 | .eE _::_,_,h=>by simp[zI]at h
 | .own _ _ _::_,_,h=>by simp[zI]at h
 | .ptr _ _ _::_,_,h=>by simp[zI]at h
 | .qu _ _ _::_,_,h=>by simp[zI]at h
 | .mp _::_,_,h=>by simp[zI]at h
 | .th _ _ _ _ _::_,_,h=>by simp[zI]at h
 | .rp _ _ _::_,_,h=>by simp[zI]at h
 | .wv _ _ _ _ _::_,_,h=>by simp[zI]at h
 | .fn _ _ _::_,_,h=>by simp[zI]at h
 | .d8 _ _ _::_,_,h=>by simp[zI]at h
 | .raw _::_,_,h=>by simp[zI]at h
 | .nil::_,_,h=>by simp[zI]at h
 | .ub::_,_,h=>by simp[zI]at h
 | .skip::_,_,h=>by simp[zI]at h
 | .undef::_,_,h=>by simp[zI]at h
theorem agi(h:VC T am o.op ρ get k=some r):d7 P T i o ρ get k r:=by
 obtain⟨dst,op,ty,ao,after,guard⟩:=o;unfold VC at h;simp only at h;split at h
 .rename_i t x j;rw[ai]at h;obtain⟨ti,h1,h⟩:=h;split at h
  .rename_i m e kk row aa kd n hk hx hj;rw[ai]at h;obtain⟨ei,h2,h⟩:=h;split at h
   .rename_i hs;have⟨h3,h⟩:=eu h;refine d7.op (cx:= .none) (rd:=[]) (wr:=[]) (upd:=[]) (λ _ _ _ e=>by cases e) (ab:=⟨.ptr kk row (aa+n.toNat*1),[],[0<=n/\n.toNat<m]⟩) ?_ ⟨?_,?_,rfl,by simp,h⟩
    .simp only[qc,lX,h1,af,hk,hx,hj,den,CT.tv,TV.av,h2,hs];rfl
    .simp only[cC,aL,aV]at h3;exact⟨h3.1,by omega⟩
    .simp only[den,Nat.mul_one]
   .cases h
  .rename_i m e c y aa kd n hk hx hj;rw[ai]at h;obtain⟨ei,h2,h⟩:=h;split at h
   .rename_i hs;have⟨h3,h⟩:=eu h;refine d7.op (cx:= .none) (rd:=[]) (wr:=[]) (upd:=[]) (λ _ _ _ e=>by cases e) (ab:=⟨.er (CT.row X.toSE c y) (aa+n.toNat*1),[],[0<=n/\n.toNat<m]⟩) ?_ ⟨?_,?_,rfl,by simp,h⟩
    .simp only[qc,lX,h1,af,hk,hx,hj,den,CT.tv,TV.av,h2,hs];rfl
    .simp only[cC,aL,aV]at h3;exact⟨h3.1,by omega⟩
    .simp only[den,Nat.mul_one]
   .cases h
  .cases h
 .rename_i t a;rw[ai]at h;obtain⟨ti,h1,h⟩:=h;split at h
  .rename_i kk row aa m n hx;split at h
   .rename_i hs;rw[ai]at h;obtain⟨c,h2,h⟩:=h;split at h
    .rename_i hc;rw[ai]at h;obtain⟨ob,h3,h⟩:=h;split at h
     .rename_i sz rows;have⟨q,h4,h⟩:=ai.1 h;have⟨xs,h5,h⟩:=ai.1 h;have⟨y,h6,h⟩:=ai.1 h;have⟨_,h7⟩:=MP h6;have h8:=V4 h5;have h9:((bO q).drop (aa+n.toNat)).take 1=[den (.c c y:DV X)]:=by
       have e1:(bO ((q.drop aa).take m))[n.toNat]? =some (den (.c c y:DV X)):=(by rw[h8,List.getElem?_map,h7];rfl);rw[kg,List.getElem?_take]at e1;split at e1
       .rw[List.getElem?_drop]at e1;have⟨g1,g2⟩:=dG.1 e1;rw[List.drop_eq_getElem_cons g1,List.take_succ_cons,List.take_zero,g2]
       .cases e1
      refine d7.op (cx:= .none) (rd:=[kk]) (wr:=[]) (upd:=[]) (λ _ _ _ e=>by cases e) (ab:=⟨den (.c c y:DV X),[],[]⟩) ?_ ⟨trivial,rfl,rfl,by simp,h⟩;simp only[qc,Ku,h1,af,hx,den,eD (List.mem_singleton_self kk) h3,bH,List.getElem?_map,h4,Option.map_some,hs.1,hs.2];rw[h9];obtain⟨t',g1,g2⟩:=row_one hc y;simp only[den,g2,TV.av];rfl
     .cases h
     .cases h
    .cases h
   .cases h
  .rename_i b y0 aa m n hx;split at h
   .rename_i hs;rw[ai]at h;obtain⟨c,h2,h⟩:=h;split at h
    .rename_i hc;have⟨xs,h5,h⟩:=ai.1 h;have⟨y,h6,h⟩:=ai.1 h;have⟨_,h7⟩:=MP h6;have h8:=V4 h5;have h9:(((CT.row X.toSE b y0).drop (aa+n.toNat)).take 1).map AV.t=[den (.c c y:DV X)]:=by
      have e1:(bO (((uY b y0).drop aa).take m))[n.toNat]? =some (den (.c c y:DV X)):=(by rw[h8,List.getElem?_map,h7];rfl);rw[kg,oO,List.getElem?_take]at e1;split at e1
      .rw[List.getElem?_drop]at e1;have⟨g1,g2⟩:=dG.1 e1;rw[map_take,map_drop,List.drop_eq_getElem_cons g1,List.take_succ_cons,List.take_zero,g2]
      .cases e1
     refine d7.op (cx:= .none) (rd:=[]) (wr:=[]) (upd:=[]) (λ _ _ _ e=>by cases e) (ab:=⟨den (.c c y:DV X),[],[]⟩) ?_ ⟨trivial,rfl,rfl,by simp,h⟩;simp only[qc,Ku,h1,af,hx,den,hs.1,hs.2];rw[h9];obtain⟨t',g1,g2⟩:=row_one hc y;simp only[den,g2,TV.av];rfl
    .cases h
   .cases h
  .cases h
 .cases h
end
end
section
variable {X:SX}
structure MA(X:SX) where
 nm:List (Nat×Nat)
 ez:List (DC X)
 i7:List Bool
def addN(m:MA X)(k' k:Nat):MA X:=if m.nm.contains (k',k)then m else⟨m.nm++[(k',k)],m.ez,m.i7⟩
section
variable (get:Nat->Option (bm X))
mutual
def mP:Pt X.ι->DV X->MA X->Option (MA X)
 | .v c,d,m=>(dat d c).bind λx=>some ⟨m.nm,m.ez++[⟨c,x⟩],m.i7⟩
 | .o k,d,m=>match d with
  | .own k' 0 len=>(get k').bind λo=>match o with
   | .ea _ l=>some (addN ⟨m.nm,m.ez,m.i7++[az len l.length]⟩ k' k)
   |_=>none
  |_=>none
 | .oz k,d,m=>match d with
  | .own k' 0 len=>(get k').bind λo=>match o with
   | .ea _ l=>some (addN ⟨m.nm,m.ez,m.i7++[!(len==0)&&az len l.length]⟩ k' k)
   |_=>none
  | .oz k' len=>(get k').bind λo=>match o with
   | .ea _ l=>some (addN ⟨m.nm,m.ez,m.i7++[az len l.length]⟩ k' k)
   |_=>none
  |_=>none
 | .p k,d,m=>match d with
  | .ptr k' 0 0=>some (addN m k' k)
  |_=>none
 | .mp k,d,m=>match d with
  | .mp k'=>some (addN m k' k)
  |_=>none
 | .nil,d,m=>match d with
  | .nil=>some m
  |_=>none
 | .f F fs cs,d,m=>match d with
  | .fn F' first caps=>if F=F' then(s6 fs first m).bind λm=>s6 cs caps m else none
  |_=>none
 | .od k,d,m=>match d with
  | .own k' aa len=>(get k').bind λo=>match o with
   | .ea _ l=>some (addN ⟨m.nm,m.ez++[⟨.int .i64,(aa:Int)⟩],m.i7++[az (aa+len) l.length]⟩ k' k)
   |_=>none
  |_=>none
 | .a ps,d,m=>match d with
  | .agg ds=>s6 ps ds m
  |_=>none
def s6:List (Pt X.ι)->List (DV X)->MA X->Option (MA X)
 |[],[],m=>some m
 |p::ps,d::ds,m=>(mP p d m).bind λm=>s6 ps ds m
 |_,_,_=>none
end
def Hq(env:Nat->DV X):U (Nat×Pt X.ι)->MA X->J (MA X)
 |[],m=>some m
 |(t,p)::r,m=>(mP get p (env t) m).bind λm=>Hq env r m
def Fs:U (List (Pt X.ι))->U (List (DV X))->MA X->J (MA X)
 |[],[],m=>some m
 |r::rs,q::qs,m=>(s6 get r q m).bind λm=>Fs rs qs m
 |_,_,_=>none
def nameOf(m:MA X)(k:Nat):Nat:=match m.nm.find? (λ q=>q.2==k)with |some q=>q.1 |none=>k
def Cv:U (Nat×OP X.ι)->MA X->J (MA X)
 |[],m=>some m
 |(k,op)::r,m=>(get (nameOf m k)).bind λo=>match op,o with
  | .l c,.ea c' l=>(jB (.sl c') (.sl c) l).bind λl'=>Cv r (addN ⟨m.nm,m.ez++[⟨.sl c,l'⟩],m.i7⟩ (nameOf m k) k)
  | .m kc vc,.map tR tG l=>(jB (.mp tR tG) (.mp kc vc) l).bind λl'=>Cv r (addN ⟨m.nm,m.ez++[⟨.mp kc vc,l'⟩],m.i7⟩ (nameOf m k) k)
  | .c sz rows,.cells sz' rows'=>if sz=sz' then(Fs get rows rows' (addN m (nameOf m k) k)).bind λm=>Cv r m else none
  |_,_=>none
end
end
section
variable {X:SX} {A:Type}
mutual
def nw(f:Nat->Nat):DV X->DV X
 | .own k aa len=> .own (f k) aa len
 | .ptr k row aa=> .ptr (f k) row aa
 | .qu k n aa=> .qu (f k) n aa
 | .th k row aa m n=> .th (f k) row aa m n
 | .mp k=> .mp (f k)
 | .oz k len=> .oz (f k) len
 | .agg cs=> .agg (JY f cs)
 | .eE cs=> .eE (JY f cs)
 | .fn F first caps=> .fn F (JY f first) (JY f caps)
 |x=>x
def JY(f:Nat->Nat):List (DV X)->List (DV X)
 |[]=>[]
 |x::xs=>nw f x::JY f xs
end
theorem YY(f:Nat->Nat):∀l:U Tree,zG f (l.map AV.t)=l.map AV.t
 |[]=>rfl
 |x::xs=>by simp only[aF,zG,gb,YY f xs]
mutual
theorem Aa(f:Nat->Nat):∀x:DV X,den (nw f x)=gb f (den x)
 | .own _ _ _=>rfl
 | .ptr _ _ _=>rfl
 | .qu _ _ _=>rfl
 | .mp _=>rfl
 | .oz _ _=>rfl
 | .th _ _ _ _ _=>rfl
 | .agg cs=>by simp only[nw,den,gb,Cw f cs]
 | .eE cs=>by simp only[nw,den,gb,Cw f cs]
 | .fn F first caps=>by simp only[nw,den,gb,Cw f first,Cw f caps]
 | .c t x=>by
  simp only[nw,den];cases t<;>try rfl
  simp only[CT.tv,TV.av,gb,YY]
 | .rp _ _ _=>rfl
 | .wv _ _ _ _ _=>rfl
 | .d8 _ _ _=>rfl
 | .raw v=>by
  simp only[nw,den,cv];split
  .rfl
  .split<;>rfl
 | .nil=>rfl
 | .ub=>rfl
 | .skip=>rfl
 | .undef=>rfl
theorem Cw(f:Nat->Nat):∀l:List (DV X),bO (JY f l)=zG f (bO l)
 |[]=>rfl
 |x::xs=>by simp only[JY,bO,zG,Aa f x,Cw f xs]
end
def oT(f:Nat->Nat):bm X->bm X
 | .cells sz rows=> .cells sz (rows.map (JY f))
 |o=>o
def d6:bm X->U Nat
 | .cells _ rows=>(rows.map aP).flatten
 | .ea _ _=>[]
 | .map _ _ _=>[]
def Nd:CT X.ι->Bool
 | .int _ | .bool | .str=>true
 |_=>false
def xu:CT X.ι->Bool
 | .st i=>(X.cR i).all Nd
 |c=>Nd c
theorem DX{c:CT X.ι}(h:Nd c=true)(x:CT.T X.toSE c):∀t∈CT.row X.toSE c x,t.flat:=by cases c<;>first |(intro t ht;simp only[CT.row,aQ]at ht;subst ht;exact trivial) |cases h
theorem aib:∀(l:U (CT X.ι))(h:HL X.toSE l),l.all Nd=true->∀t∈HL.row X.toSE l h,t.flat
 |[],_,_,t,ht=>by simp[HL.row]at ht
 |c::l,h,ha,t,ht=>by
  simp only[all_cons,aL]at ha;rcases aZ.1 (show t∈CT.row X.toSE c h.1++HL.row X.toSE l h.2 from ht)with ht |ht
  .exact DX ha.1 h.1 t ht
  .exact aib l h.2 ha.2 t ht
theorem uZ{c:CT X.ι}(h:xu c=true)(x:CT.T X.toSE c):∀t∈CT.row X.toSE c x,t.flat:=by
 cases c
 case st i=>intro t ht;exact aib (X.cR i) (X.get i x) h t ((X.l4 i x) ▸ ht)
 case int k=>exact DX (c:= .int k) h x
 case bool=>exact DX (c:= .bool) h x
 case str=>exact DX (c:= .str) h x
 case sl e=>cases h
 case any=>cases h
 case mp=>cases h
structure MG(X:SX) where
 nm:List (Nat×Nat)
 ez:List (DC X)
 i7:List Bool
 vr:List Nat
section
variable (get:Nat->Option (bm X))
mutual
def pN:Pt X.ι->DV X->MG X->Option (MG X)
 | .v c,d,m=>(Fq get d c).bind λx=>some ⟨m.nm,m.ez++[⟨c,x.1⟩],m.i7++x.2,m.vr++bk d⟩
 | .o k,d,m=>match d with
  | .own k' 0 len=>(get k').bind λo=>match o with
   | .ea _ l=>some ⟨m.nm++[(k',k)],m.ez,m.i7++[az len l.length],m.vr⟩
   |_=>none
  |_=>none
 | .od k,d,m=>match d with
  | .own k' aa len=>(get k').bind λo=>match o with
   | .ea _ l=>some ⟨m.nm++[(k',k)],m.ez++[⟨.int .i64,(aa:Int)⟩],m.i7++[az (aa+len) l.length],m.vr⟩
   |_=>none
  |_=>none
 | .p k,d,m=>match d with
  | .ptr k' 0 0=>some ⟨m.nm++[(k',k)],m.ez,m.i7,m.vr⟩
  |_=>none
 | .nil,d,m=>match d with
  | .nil=>some m
  |_=>none
 | .f F fs cs,d,m=>match d with
  | .fn F' first caps=>if F=F' then(sm fs first m).bind λm=>sm cs caps m else none
  |_=>none
 | .mp k,d,m=>match d with
  | .mp k'=>some ⟨m.nm++[(k',k)],m.ez,m.i7,m.vr⟩
  |_=>none
 | .oz _,_,_=>none
 | .a ps,d,m=>match d with
  | .agg ds=>sm ps ds m
  |_=>none
def sm:List (Pt X.ι)->List (DV X)->MG X->Option (MG X)
 |[],[],m=>some m
 |p::ps,d::ds,m=>(pN p d m).bind λm=>sm ps ds m
 |_,_,_=>none
end
def Fu:U (List (Pt X.ι))->U (List (DV X))->MG X->J (MG X)
 |[],[],m=>some m
 |r::rs,q::qs,m=>(sm get r q m).bind λm=>Fu rs qs m
 |_,_,_=>none
def qv(m:MG X)(k:Nat):Nat:=match m.nm.find? (λ q=>q.2==k)with |some q=>q.1 |none=>k
def stC:CT X.ι->Bool
 | .st _=>true
 |_=>false
def Cx:U (Nat×OP X.ι)->MG X->J (MG X)
 |[],m=>some m
 |(k,op)::r,m=>(get (qv m k)).bind λo=>match op,o with
  | .l c,.ea c' l=>(jB (.sl c') (.sl c) l).bind λl'=>Cx r ⟨m.nm++[(qv m k,k)],m.ez++[⟨.sl c,l'⟩],m.i7,m.vr⟩
  | .m kc vc,.map tR tG l=>if (kc.one=true/\vc.one=true)\/stC kc=true then(jB (.mp tR tG) (.mp kc vc) l).bind λl'=>Cx r ⟨m.nm++[(qv m k,k)],m.ez++[⟨.mp kc vc,l'⟩],m.i7,m.vr⟩else none
  | .c sz rows,.cells sz' rows'=>if sz=sz' then(Fu get rows rows' ⟨m.nm++[(qv m k,k)],m.ez,m.i7,m.vr⟩).bind λm=>Cx r m else none
  |_,_=>none
end
mutual
def Pt.refs:Pt X.ι->List Nat
 | .o k | .od k | .p k | .mp k | .oz k=>[k]
 | .f _ fs cs=>Ba fs++Ba cs
 | .a ps=>Ba ps
 |_=>[]
def Ba:List (Pt X.ι)->List Nat
 |[]=>[]
 |p::ps=>p.refs++Ba ps
end
def OP.refs:OP X.ι->U Nat
 | .l _=>[]
 | .m _ _=>[]
 | .c _ rows=>rows.flatMap Ba
def Hd(n k:Nat):Bool:=Nat.blt k n || (Nat.ble 1000 k&&Nat.blt k 1064)
def c7.ok(g:c7 X):Bool:=
 decide (g.i6.map (·.1)=List.range g.i6.length)&&decide (g.i6.length<=1000)&&(g.iz.all λq=>Hd g.i6.length q.1&&q.2.refs.all λk=>Hd g.i6.length k)&&decide (g.iz.map (·.1)).Nodup&&(Ba g.fL).all λk=>Hd g.i6.length k
def okG(m:MG X)(ae:U Nat):Bool:=
 decide ae.Nodup&&(m.nm.all λq=>match ae[q.2]? with |some k=>Nat.beq k q.1 |none=>false)&&m.vr.all λk=>!ae.contains k
def c7.flat(g:c7 X):Bool:=(cQ g.fL).all xu&&g.iz.all λq=>match q.2 with
 | .l c=>xu c
 | .m _ _=>false
 | .c _ rows=>(vZ rows).all xu
def tx:U (Nat×bm X)->Nat->J (bm X)
 |[],_=>none
 |(j,o)::r,k=>if j=k then some o else tx r k
def M3(i:Nat)(ae:U Nat)(os':U (Nat×bm X)):U (Nat×Option (bm X)):=
 (ae.zipIdx.map λp=>(p.1,(tx os' p.2).map (oT (cn i ae))))++(os'.filter λq=>decide (1000<=q.1)).map λq=>(cn i ae q.1,some (oT (cn i ae) q.2))
def Ys(g:c7 X)(i:Nat)(ds:U (DV X))(get:Nat->J (bm X))(k:KK X A):J A:=
 (sm get g.pC ds ⟨[],[],[],[]⟩).bind λm=>(Cx get g.i6 m).bind λm=>
  bif g.ok&&okG m ((List.range g.i6.length).map (qv m))then(YO (cQ g.pC++cH g.i6) m.ez).bind λv=>Vz m.i7 ((g.fn v).bind λr=>
   let ae:=(List.range g.i6.length).map (qv m)
   k (nw (cn i ae) (g.res r)) (M3 i ae (g.outs r)++(if g.flat then []else m.vr.map λk=>(k,none))) (ae++m.vr) ((ae++(M3 i ae (g.outs r)).map (·.1))++m.vr))
  else none
section
variable {P:Program} {get:Nat->Option (bm X)} {rd ae:List Nat} {du:Nat->Nat}
def fX(m m':MG X):Prop:=(∀ q∈m.nm,q∈m'.nm)/\(∀ c∈m.i7,c∈m'.i7)/\∀k∈m.vr,k∈m'.vr
theorem fX.refl(m:MG X):fX m m:=⟨λ _ h=>h,λ_ h=>h,λ_ h=>h⟩
theorem fX.trans{a b c:MG X}(h:fX a b)(h':fX b c):fX a c:=⟨λ q hq=>h'.1 q (h.1 q hq),λq hq=>h'.2.1 q (h.2.1 q hq),λq hq=>h'.2.2 q (h.2.2 q hq)⟩
mutual
theorem ak3:∀(p:Pt X.ι)(d:DV X)(m m':MG X),pN get p d m=some m'->fX m m'/\∃an,m'.ez=m.ez++an/\an.length=p.vars.length
 | .v c,d,m,m',h=>by
  simp only[pN]at h;rw[ai]at h;obtain⟨x,h1,h⟩:=h;cases h;exact⟨⟨λ _ h=>h,λ_ h=>by simp[h],λ_ h=>by simp[h]⟩,[⟨c,x.1⟩],rfl,rfl⟩
 | .o k,d,m,m',h=>by
  simp only[pN]at h;split at h
  .rw[ai]at h;obtain⟨o,h1,h⟩:=h;split at h
   .cases h;exact⟨⟨λ _ h=>by simp[h],λ_ h=>by simp[h],λ_ h=>h⟩,[],by simp,rfl⟩
   .cases h
  .cases h
 | .od k,d,m,m',h=>by
  simp only[pN]at h;split at h
  .rename_i k' aa len;have⟨o,h1,h⟩:=ai.1 h;split at h
   .cases h;exact⟨⟨λ _ h=>by simp[h],λ_ h=>by simp[h],λ_ h=>h⟩,[⟨.int .i64,(aa:Int)⟩],rfl,rfl⟩
   .cases h
  .cases h
 | .p k,d,m,m',h=>by
  simp only[pN]at h;split at h
  .cases h;exact⟨⟨λ _ h=>by simp[h],λ_ h=>h,λ_ h=>h⟩,[],by simp,rfl⟩
  .cases h
 | .nil,d,m,m',h=>by
  simp only[pN]at h;split at h
  .cases h;exact⟨fX.refl _,[],by simp,rfl⟩
  .cases h
 | .f F fs cs,d,m,m',h=>by
  simp only[pN]at h;split at h
  .split at h
   .have⟨m1,h1,h⟩:=ai.1 h;obtain⟨a1,n1,b1,c1⟩:=wz fs _ m m1 h1;obtain⟨a2,n2,b2,c2⟩:=wz cs _ m1 m' h;exact⟨a1.trans a2,n1++n2,by rw[b2,b1,aM],by simp[Pt.vars,c1,c2]⟩
   .cases h
  .cases h
 | .mp k,d,m,m',h=>by
  simp only[pN]at h;split at h
  .cases h;exact⟨⟨λ _ h=>by simp[h],λ_ h=>h,λ_ h=>h⟩,[],by simp,rfl⟩
  .cases h
 | .oz _,_,_,_,h=>by simp[pN]at h
 | .a ps,d,m,m',h=>by
  simp only[pN]at h;split at h
  .exact wz ps _ m m' h
  .cases h
theorem wz:∀(ps:List (Pt X.ι))(ds:List (DV X))(m m':MG X),sm get ps ds m=some m'->fX m m'/\∃an,m'.ez=m.ez++an/\an.length=(cQ ps).length
 |[],[],m,m',h=>by
  simp only[sm,aA]at h;subst h;exact⟨fX.refl _,[],by simp,rfl⟩
 |p::ps,d::ds,m,m',h=>by
  simp only[sm]at h;have⟨m1,h1,h⟩:=ai.1 h;have⟨a1,n1,b1,c1⟩:=ak3 p d m m1 h1;have⟨a2,n2,b2,c2⟩:=wz ps ds m1 m' h;exact⟨a1.trans a2,n1++n2,by rw[b2,b1,aM],by simp[cQ,c1,c2]⟩
 |[],_::_,m,m',h=>by simp[sm]at h
 |_::_,[],m,m',h=>by simp[sm]at h
end
def YS:AV->U LH->U LH
 | .agg _,hs=> .agd::hs
 |_,hs=>hs
theorem MZ(x:AV)(a b:U LH):YS x (a++b)=YS x a++b:=by cases x<;>rfl
theorem yj{get':Nat->J aT}{x:AV}{hs:U LH}{p:AV×List LH×List Prop}(h:nQ P get' x hs=some p)(hr:∀k∈refs x,k∉ae):oM P get' ae x (YS x hs)=some p:=by
 have hd:((refs x).all λk=>!ae.contains k)=true:=by
  simp only[all_eq_true,Bool.not_eq_true',List.contains_eq_mem,dO];exact hr
 cases x
 case agg cs=>
  simp only[refs]at hd;simp only[YS,oM,hd,if_true];exact h
 all_goals
  simp only[YS];unfold oM;split<;>first |(simp [nQ]at h;done) |(rw [aY hd];exact h) |exact h |exact absurd hd ‹_› |(rename_i e;cases e;done)
variable {NM:List (Nat×Nat)} {pP:List Nat}
mutual
theorem ajg(hi:∀q∈NM,ae[q.2]? =some q.1)(hv:∀k∈pP,k∉ae)(hrd:∀k,(∃ q,(k,q)∈NM)\/k∈pP->k∈rd)(ho:∀q∈NM,∀c l,get q.1=some (.ea c l)->du q.2=l.length):
 ∀(p:Pt X.ι)(d:DV X)(m m':MG X),pN get p d m=some m'->(∀ q∈m'.nm,q∈NM)->(∀ c∈m'.i7,c=true)->(∀ k∈m'.vr,k∈pP)->
 ∃an,m'.ez=m.ez++an/\∃d',(∀ ag,eP du p (an++ag)=(d',ag))/\(∃ hs obs,(∀ p∈obs,p)/\∀ag,oM P (dK rd (fq get)) ae (den d) (hs++ag)=some (den d',ag,obs))/\∀j∈bk d,(∃ q,(j,q)∈NM)\/j∈pP
 | .v c,d,m,m',h,hn,hc,hr=>by
  simp only[pN]at h;rw[ai]at h;obtain⟨x,h1,h⟩:=h;cases h;have A0:∀j∈bk d,j∈pP:=λj hj=>hr j (by simp[hj]);obtain⟨hs,obs,p1,q1⟩:=z8 (P:=P) (rd:=rd) h1 (λ b hb=>hc b (by simp[hb])) (λ j hj=>hrd j (.inr (A0 j hj)));refine⟨[⟨c,x.1⟩],rfl,.c c x.1,λag=>rfl,⟨YS (den d) hs,obs,p1,λag=>?_⟩,λj hj=> .inr (A0 j hj)⟩;rw[<- MZ];exact yj (q1 ag) (λ k hk=>hv k (A0 k (by rwa [iT]at hk)))
 | .o k,d,m,m',h,hn,hc,hr=>by
  simp only[pN]at h;split at h
  .rename_i k' len;rw[ai]at h;obtain⟨o,h1,h⟩:=h;split at h
   .rename_i c l;cases h;have hq:(k',k)∈NM:=hn _ (by simp);have he:len=l.length:=by
     have:=hc (az len l.length) (by simp);simpa[az]using this
    refine⟨[],by simp,.own k 0 (du k),λag=>rfl,⟨[.mut k],[],by simp,λag=>?_⟩,λj hj=>?_⟩
    .simp only[den,cons_append,bQ,oM,hi _ hq,if_true,ho _ hq c l h1,he]
    .simp only[bk,aQ]at hj;subst hj;exact .inl ⟨k,hq⟩
   .cases h
  .cases h
 | .od k,d,m,m',h,hn,hc,hr=>by
  simp only[pN]at h;split at h
  .rename_i k' aa len;rw[ai]at h;obtain⟨o,h1,h⟩:=h;split at h
   .rename_i c l;cases h;have hq:(k',k)∈NM:=hn _ (by simp);have he:aa+len=l.length:=by
     have:=hc (az (aa+len) l.length) (by simp);simpa[az]using this
    refine⟨[⟨.int .i64,(aa:Int)⟩],rfl,.own k aa (du k -aa),λag=>?_,⟨[.mut k],[],by simp,λag=>?_⟩,λj hj=>?_⟩
    .have:Z0 (X:=X) ⟨.int .i64,(aa:Int)⟩=aa:=by
      simp only[Z0];rw[VL];simp
     simp only[eP,cons_append,bQ,this]
    .simp only[den,cons_append,bQ,oM,hi _ hq,if_true,ho _ hq c l h1,show l.length -aa=len by omega]
    .simp only[bk,aQ]at hj;subst hj;exact .inl ⟨k,hq⟩
   .cases h
  .cases h
 | .p k,d,m,m',h,hn,hc,hr=>by
  simp only[pN]at h;split at h
  .rename_i k';cases h;have hq:(k',k)∈NM:=hn _ (by simp);refine⟨[],by simp,.ptr k 0 0,λag=>rfl,⟨[.mut k],[],by simp,λag=>?_⟩,λj hj=>?_⟩
   .simp only[den,cons_append,bQ,oM,hi _ hq,if_true]
   .simp only[bk,aQ]at hj;subst hj;exact .inl ⟨k,hq⟩
  .cases h
 | .nil,d,m,m',h,hn,hc,hr=>by
  simp only[pN]at h;split at h
  .cases h;refine⟨[],by simp,.nil,λag=>rfl,⟨[.nil],[],by simp,λag=>?_⟩,by simp[bk]⟩;exact yj (by simp only[den,cons_append,bQ,nQ]) (by simp[den,refs])
  .cases h
 | .f F fs cs,d,m,m',h,hn,hc,hr=>by
  simp only[pN]at h;split at h
  .rename_i F' first caps
   split at h
   .rename_i e;subst e;rw[ai]at h;obtain⟨m1,h1,h⟩:=h;have hm:=(wz cs _ m1 m' h).1;obtain⟨n1,a1,f',b1,⟨hs1,o1,p1,q1⟩,r1⟩:=yu hi hv hrd ho fs _ m m1 h1 (λ q hq=>hn q (hm.1 q hq)) (λ q hq=>hc q (hm.2.1 q hq)) (λ q hq=>hr q (hm.2.2 q hq));obtain⟨n2,a2,c',b2,⟨hs2,o2,p2,q2⟩,r2⟩:=yu hi hv hrd ho cs _ m1 m' h hn hc hr;refine⟨n1++n2,by rw[a2,a1,aM],.fn F f' c',λag=>by simp only[eP,aM,b1,b2],⟨.fnw::(hs1++hs2),o1++o2,gT p1 p2,λag=>?_⟩,λj hj=>?_⟩
    .simp only[den,cons_append,aM,oM,q1,af,q2]
    .simp only[bk,aZ]at hj;exact hj.elim (r1 j) (r2 j)
   .cases h
  .cases h
 | .mp k,d,m,m',h,hn,hc,hr=>by
  simp only[pN]at h;split at h
  .rename_i k';cases h;have hq:(k',k)∈NM:=hn _ (by simp);refine⟨[],by simp,.mp k,λag=>rfl,⟨[.mut k],[],by simp,λag=>?_⟩,λj hj=>?_⟩
   .simp only[den,cons_append,bQ,oM,hi _ hq,if_true]
   .simp only[bk,aQ]at hj;subst hj;exact .inl ⟨k,hq⟩
  .cases h
 | .oz _,_,_,_,h,_,_,_=>by simp[pN]at h
 | .a ps,d,m,m',h,hn,hc,hr=>by
  simp only[pN]at h;split at h
  .rename_i ds;have⟨n1,a1,f',b1,⟨hs1,o1,p1,q1⟩,r1⟩:=yu hi hv hrd ho ps ds m m' h hn hc hr;refine⟨n1,a1,.agg f',λag=>by simp only[eP,b1],⟨.agw::hs1,o1,p1,λag=>?_⟩,λj hj=>r1 j (by simpa[bk]using hj)⟩;simp only[den,cons_append,oM,q1,af]
  .cases h
theorem yu(hi:∀q∈NM,ae[q.2]? =some q.1)(hv:∀k∈pP,k∉ae)(hrd:∀k,(∃ q,(k,q)∈NM)\/k∈pP->k∈rd)(ho:∀q∈NM,∀c l,get q.1=some (.ea c l)->du q.2=l.length):
 ∀(ps:List (Pt X.ι))(ds:List (DV X))(m m':MG X),sm get ps ds m=some m'->(∀ q∈m'.nm,q∈NM)->(∀ c∈m'.i7,c=true)->(∀ k∈m'.vr,k∈pP)->
 ∃an,m'.ez=m.ez++an/\∃ds',(∀ ag,lh du ps (an++ag)=(ds',ag))/\(∃ hs obs,(∀ p∈obs,p)/\∀ag,lY P (dK rd (fq get)) ae (bO ds) (hs++ag)=some (bO ds',ag,obs))/\∀j∈aP ds,(∃ q,(j,q)∈NM)\/j∈pP
 |[],[],m,m',h,_,_,_=>by
  simp only[sm,aA]at h;subst h;exact⟨[],by simp,[],λag=>rfl,⟨[],[],by simp,λag=>rfl⟩,by simp[aP]⟩
 |p::ps,d::ds,m,m',h,hn,hc,hr=>by
  simp only[sm]at h;have⟨m1,h1,h⟩:=ai.1 h;have hm:=(wz ps ds m1 m' h).1;obtain⟨n1,a1,d',b1,⟨hs1,o1,p1,q1⟩,r1⟩:=ajg hi hv hrd ho p d m m1 h1 (λ q hq=>hn q (hm.1 q hq)) (λ q hq=>hc q (hm.2.1 q hq)) (λ q hq=>hr q (hm.2.2 q hq));have⟨n2,a2,ds',b2,⟨hs2,o2,p2,q2⟩,r2⟩:=yu hi hv hrd ho ps ds m1 m' h hn hc hr;refine⟨n1++n2,by rw[a2,a1,aM],d'::ds',λag=>by simp only[lh,aM,b1,b2],⟨hs1++hs2,o1++o2,gT p1 p2,λag=>?_⟩,λj hj=>?_⟩
  .simp only[bO,aM,lY,q1,af,q2]
  .simp only[aP,aZ]at hj;exact hj.elim (r1 j) (r2 j)
 |[],_::_,m,m',h,_,_,_=>by simp[sm]at h
 |_::_,[],m,m',h,_,_,_=>by simp[sm]at h
end
theorem yK:∀(rs:U (List (Pt X.ι)))(qs:U (List (DV X)))(m m':MG X),Fu get rs qs m=some m'->fX m m'/\∃an,m'.ez=m.ez++an/\an.length=(vZ rs).length
 |[],[],m,m',h=>by
  simp only[Fu,aA]at h;subst h;exact⟨fX.refl _,[],by simp,rfl⟩
 |r::rs,q::qs,m,m',h=>by
  simp only[Fu]at h;have⟨m1,h1,h⟩:=ai.1 h;have⟨a1,n1,b1,c1⟩:=wz r q m m1 h1;have⟨a2,n2,b2,c2⟩:=yK rs qs m1 m' h;exact⟨a1.trans a2,n1++n2,by rw[b2,b1,aM],by simp[vZ,c1,c2]⟩
 |[],_::_,m,m',h=>by simp[Fu]at h
 |_::_,[],m,m',h=>by simp[Fu]at h
theorem Rx(hi:∀q∈NM,ae[q.2]? =some q.1)(hv:∀k∈pP,k∉ae)(hrd:∀k,(∃ q,(k,q)∈NM)\/k∈pP->k∈rd)(ho:∀q∈NM,∀c l,get q.1=some (.ea c l)->du q.2=l.length):
 ∀(rs:U (List (Pt X.ι)))(qs:U (List (DV X)))(m m':MG X),Fu get rs qs m=some m'->(∀ q∈m'.nm,q∈NM)->(∀ c∈m'.i7,c=true)->(∀ k∈m'.vr,k∈pP)->
 ∃an,m'.ez=m.ez++an/\∃EE,(∀ ag,wm du rs (an++ag)=(EE,ag))/\(∃ hs obs,(∀ p∈obs,p)/\yE P (dK rd (fq get)) ae (qs.map bO) hs=some (EE.map bO,obs))/\∀j∈(qs.map aP).flatten,(∃ q,(j,q)∈NM)\/j∈pP
 |[],[],m,m',h,_,_,_=>by
  simp only[Fu,aA]at h;subst h;exact⟨[],by simp,[],λag=>rfl,⟨[],[],by simp,rfl⟩,by simp⟩
 |r::rs,q::qs,m,m',h,hn,hc,hr=>by
  simp only[Fu]at h;have⟨m1,h1,h⟩:=ai.1 h;have hm:=(yK rs qs m1 m' h).1;obtain⟨n1,a1,d',b1,⟨hs1,o1,p1,q1⟩,r1⟩:=yu (P:=P) hi hv hrd ho r q m m1 h1 (λ q hq=>hn q (hm.1 q hq)) (λ q hq=>hc q (hm.2.1 q hq)) (λ q hq=>hr q (hm.2.2 q hq));have⟨n2,a2,ds',b2,⟨hs2,o2,p2,q2⟩,r2⟩:=Rx hi hv hrd ho rs qs m1 m' h hn hc hr;refine⟨n1++n2,by rw[a2,a1,aM],d'::ds',λag=>by simp only[wm,aM,b1,b2],⟨hs1::hs2,o1++o2,gT p1 p2,?_⟩,λj hj=>?_⟩
  .have:=q1 [];rw[append_nil]at this;simp only[aF,yE,this,af,q2]
  .simp only[aF,List.flatten_cons,aZ]at hj;exact hj.elim (r1 j) (r2 j)
 |[],_::_,m,m',h,_,_,_=>by simp[Fu]at h
 |_::_,[],m,m',h,_,_,_=>by simp[Fu]at h
theorem lZ:∀(os:U (Nat×OP X.ι))(m m':MG X),Cx get os m=some m'->fX m m'/\∃an,m'.ez=m.ez++an/\an.length=(cH os).length
 |[],m,m',h=>by
  simp only[Cx,aA]at h;subst h;exact⟨fX.refl _,[],by simp,rfl⟩
 |(k,op)::r,m,m',h=>by
  simp only[Cx]at h;rw[ai]at h;obtain⟨o,h1,h⟩:=h;split at h
  .rename_i c c' l;rw[ai]at h;obtain⟨l',h2,h⟩:=h;obtain⟨a2,n2,b2,c2⟩:=lZ r _ m' h;refine⟨fX.trans (b:=⟨m.nm++[(qv m k,k)],m.ez++[⟨.sl c,l'⟩],m.i7,m.vr⟩) ⟨λ _ h=>by simp[h],λ_ h=>h,λ_ h=>h⟩ a2,[⟨.sl c,l'⟩]++n2,?_,by simp[cH,c2]⟩;rw[b2,aM]
  .rename_i kc vc tR tG l;split at h
   .rw[ai]at h;obtain⟨l',h2,h⟩:=h;obtain⟨a2,n2,b2,c2⟩:=lZ r _ m' h;refine⟨fX.trans (b:=⟨m.nm++[(qv m k,k)],m.ez++[⟨.mp kc vc,l'⟩],m.i7,m.vr⟩) ⟨λ _ h=>by simp[h],λ_ h=>h,λ_ h=>h⟩ a2,[⟨.mp kc vc,l'⟩]++n2,?_,by simp[cH,c2]⟩;rw[b2,aM]
   .cases h
  .rename_i sz rows sz' rows';split at h
   .rw[ai]at h;obtain⟨m1,h2,h⟩:=h;obtain⟨a1,n1,b1,c1⟩:=yK rows _ _ m1 h2;have⟨a2,n2,b2,c2⟩:=lZ r m1 m' h;refine⟨fX.trans (fX.trans (b:=⟨m.nm++[(qv m k,k)],m.ez,m.i7,m.vr⟩) ⟨λ _ h=>by simp[h],λ_ h=>h,λ_ h=>h⟩ a1) a2,n1++n2,?_,by simp[cH,c1,c2]⟩;rw[b2,b1,aM]
   .cases h
  .cases h
theorem DY:∀(os:U (Nat×OP X.ι))(m m':MG X),Cx get os m=some m'->(∀ q∈m'.nm,q∈NM)->∃an,m'.ez=m.ez++an/\∀ag,∀k∈os.map (·.1),∃k' o,(k',k)∈NM/\get k'=some o/\∀c l,o= .ea c l->(k,List.length l)∈lens os (an++ag)
 |[],m,m',h,_=>by
  simp only[Cx,aA]at h;subst h;exact⟨[],by simp,λag k hk=>by simp at hk⟩
 |(k,op)::r,m,m',h,hn=>by
  simp only[Cx]at h;rw[ai]at h;obtain⟨o,h1,h⟩:=h;split at h
  .rename_i c c' l;rw[ai]at h;obtain⟨l',h2,h⟩:=h;have hm:=(lZ r _ m' h).1;obtain⟨n2,b2,c2⟩:=DY r _ m' h hn;refine⟨[⟨.sl c,l'⟩]++n2,by rw[b2,aM],λag j hj=>?_⟩;simp only[aF,aN]at hj;simp only[cons_append,bQ,lens];by_cases hjk:j=k
   .subst hjk;refine⟨_,_,hn _ (hm.1 _ (by simp)),h1,λc2 l2 he=>?_⟩;injection he with e1 e2;subst e1;have e2:=eq_of_heq e2;subst e2;have:=congrArg List.length (ji h2).2;simp only[length_map]at this;rw[this];exact List.mem_cons_self
   .rcases hj with rfl |hj
    .exact(hjk rfl).elim
    .have⟨k',o',g1,g2,g3⟩:=c2 ag j hj;exact⟨k',o',g1,g2,λc l he=>eG _ (g3 c l he)⟩
  .rename_i kc vc tR tG l;split at h
   .rw[ai]at h;obtain⟨l',h2,h⟩:=h;have hm:=(lZ r _ m' h).1;obtain⟨n2,b2,c2⟩:=DY r _ m' h hn;refine⟨[⟨.mp kc vc,l'⟩]++n2,by rw[b2,aM],λag j hj=>?_⟩;simp only[aF,aN]at hj;simp only[cons_append,bQ,lens,List.drop_succ_cons,List.drop_zero];by_cases hjk:j=k
    .subst hjk;exact⟨_,_,hn _ (hm.1 _ (by simp)),h1,λc2 l2 he=>by cases he⟩
    .rcases hj with rfl |hj
     .exact(hjk rfl).elim
     .exact c2 ag j hj
   .cases h
  .rename_i sz rows sz' rows';split at h
   .have⟨m1,h2,h⟩:=ai.1 h;obtain⟨a1,n1,b1,c1⟩:=yK rows _ _ m1 h2;have hm:=(lZ r _ m' h).1;obtain⟨n2,b2,c2⟩:=DY r _ m' h hn;refine⟨n1++n2,by rw[b2,b1,aM],λag j hj=>?_⟩;simp only[aF,aN]at hj;have hd:(n1++n2++ag).drop (vZ rows).length=n2++ag:=(by rw[<- c1,aM,List.drop_left]);simp only[lens,hd];by_cases hjk:j=k
    .subst hjk;exact⟨_,_,hn _ (hm.1 _ (a1.1 _ (by simp))),h1,λc2 l2 he=>by cases he⟩
    .rcases hj with rfl |hj
     .exact(hjk rfl).elim
     .exact c2 ag j hj
   .cases h
  .cases h
theorem DZ:∀(os:U (Nat×OP X.ι))(L:U (DC X)),((lens os L).map (·.1)).Sublist (os.map (·.1))
 |[],_=>by simp[lens]
 |(k,.l c)::r,L=>by
  simp only[lens];split
  .exact(DZ r _).cons_cons _
  .exact List.nil_sublist _
 |(k,.m kc vc)::r,L=>by
  simp only[lens];exact(DZ r _).cons _
 |(k,.c sz rows)::r,L=>by
  simp only[lens];exact(DZ r _).cons _
def ajh(get':Nat->J aT)(NM:U (Nat×Nat))(pP:U Nat)(bs:U OB)(ks:U Nat):Prop:=
 ∀(j:Nat) hs q o,bs[j]? =some (.Dd hs)->ks[j]? =some q->get' q=some o->∀k∈Pm o,(∃ z,(k,z)∈NM)\/k∈pP
theorem M0{sz:Nat}{rows:U (List (DV X))}{k:Nat}(h:k∈Pm (bH (.cells sz rows))):k∈(rows.map aP).flatten:=by
 simp only[Pm,bH,mem_flatMap,mem_map]at h;obtain⟨a,⟨r,hr,rfl⟩,hk⟩:=h;rw[ig]at hk;exact List.mem_flatten.2 ⟨_,mem_map.2 ⟨r,hr,rfl⟩,hk⟩
theorem abB:∀ts:U Tree,eT (ts.map AV.t)=[]
 |[]=>rfl
 |t::ts=>by simp only[aF,eT,refs,abB ts,append_nil]
theorem aid{P:Program}{get:Nat->J aT}:∀(ts:U Tree)(hs:U LH),mq P get (ts.map AV.t) hs=some (ts.map AV.t,hs,[])
 |[],hs=>rfl
 |t::ts,hs=>by simp only[aF,mq,nQ,af,aid ts hs,append_nil]
theorem aji{P:Program}{get:Nat->J aT}{ae:U Nat}(v:TV):oM P get ae v.av []=some (v.av,[],[]):=by
 cases v with
 |s x=>rfl
 |a cs=>
  have h:refs (.agg (cs.map AV.t))=[]:=abB cs;simp only[TV.av,oM,h,List.all_nil,if_true,nQ,aid,af]
theorem aac{P:Program}{get:Nat->J aT}{ae:U Nat}:∀rows:U (TV×TV),yE P get ae (rows.map λq=>[q.1.av,q.2.av]) (rows.map λ_=>[])=some (rows.map λq=>[q.1.av,q.2.av],[])
 |[]=>rfl
 |q::rows=>by simp only[aF,yE,lY,aji,af,aac rows,append_nil]
theorem Ab(hi:∀q∈NM,ae[q.2]? =some q.1)(hv:∀k∈pP,k∉ae)(hrd:∀k,(∃ q,(k,q)∈NM)\/k∈pP->k∈rd)(ho:∀q∈NM,∀c l,get q.1=some (.ea c l)->du q.2=l.length):
 ∀(os:U (Nat×OP X.ι))(m m':MG X),Cx get os m=some m'->(∀ q∈m'.nm,q∈NM)->(∀ c∈m'.i7,c=true)->(∀ k∈m'.vr,k∈pP)->
 ∃an,m'.ez=m.ez++an/\∃xs:U (Nat×bm X),(∀ ag,dn du os (an++ag)=xs.map λp=>(p.1,some p.2))/\
  ∃bs mo,(∀ p∈mo,p)/\Fp P (dK rd (fq get)) ae (os.map λp=>(ae[p.1]?).getD 0) bs=some (xs.map λp=>bH p.2,mo)/\ajh (dK rd (fq get)) NM pP bs (os.map λp=>(ae[p.1]?).getD 0)
 |[],m,m',h,_,_,_=>by
  simp only[Cx,aA]at h;subst h;exact⟨[],by simp,[],λag=>rfl,[],[],by simp,rfl,λj hs q o h=>by simp at h⟩
 |(k,op)::r,m,m',h,hn,hc,hr=>by
  simp only[Cx]at h;rw[ai]at h;obtain⟨o,h1,h⟩:=h;split at h
  .rename_i c c' l;have⟨l',h2,h⟩:=ai.1 h;have hm:=(lZ r _ m' h).1;have hq:(qv m k,k)∈NM:=hn _ (hm.1 _ (by simp));have hid:(ae[k]?).getD 0=qv m k:=(by rw[hi _ hq];rfl);have hget:=eD (hrd (qv m k) (.inl ⟨k,hq⟩)) h1;have⟨h3,h4⟩:=ji h2;obtain⟨n2,a2,xs,b2,bs,mo,p2,q2,r2⟩:=Ab hi hv hrd ho r _ m' h hn hc hr;refine⟨[⟨.sl c,l'⟩]++n2,by rw[a2,aM],(k,.ea c l')::xs,λag=>by simp only[cons_append,bQ,dn,b2,aF],.dat (CT.sz X c,l'.map (CT.row X.toSE c))::bs,((bH (.ea c' l)).sz=CT.sz X c/\dY ((bH (.ea c' l)).rows.take (l'.map (CT.row X.toSE c)).length)=aI (l'.map (CT.row X.toSE c)))::mo,?_,?_,?_⟩
   .intro p hp;rcases aN.1 hp with rfl |hp
    .refine⟨h3,?_⟩;simp only[bH,h4];rw[take_of_length_le (by simp[aI])];simp[dY,aI,Function.comp_def,wk]
    .exact p2 p hp
   .simp only[aF,Fp,Vl,hid,hget,af,q2,cons_append,bQ];rfl
   .intro j hs q o' hj hq' ho';cases j with
    |zero=>simp at hj
    |succ j=>exact r2 j hs q o' (by simpa using hj) (by simpa using hq') ho'
  .rename_i kc vc tR tG l;split at h
   .rename_i hone;have⟨l',h2,h⟩:=ai.1 h;have hm:=(lZ r _ m' h).1;have hq:(qv m k,k)∈NM:=hn _ (hm.1 _ (by simp));have hid:(ae[k]?).getD 0=qv m k:=(by rw[hi _ hq];rfl);have hget:=eD (hrd (qv m k) (.inl ⟨k,hq⟩)) h1;have hden:bH (.map tR tG l)=bH (.map kc vc l'):=by
     have⟨e,h2⟩:=rM h2;injection e with e1 e2;subst e1;subst e2;subst h2;rfl
    obtain⟨n2,a2,xs,b2,bs,mo,p2,q2,r2⟩:=Ab hi hv hrd ho r _ m' h hn hc hr;rcases hone with hone |_
    .have hab:bH (.map kc vc l')=gO (List.length l',l'.map λq=>CT.row X.toSE kc q.1++CT.row X.toSE vc q.2):=by
      simp only[bH,gO,aI,map_map];congr 1;refine map_congr_left λq _=>?_;obtain⟨t1,g1,g2⟩:=row_one hone.1 q.1;obtain⟨t2,g3,g4⟩:=row_one hone.2 q.2;simp[g1,g2,g3,g4,TV.av]
     refine⟨[⟨.mp kc vc,l'⟩]++n2,by rw[a2,aM],(k,.map kc vc l')::xs,λag=>by simp only[cons_append,bQ,dn,b2,aF],.dat (List.length l',l'.map λq=>CT.row X.toSE kc q.1++CT.row X.toSE vc q.2)::bs,((bH (.map tR tG l)).sz=List.length l'/\dY ((bH (.map tR tG l)).rows.take (l'.map λq=>CT.row X.toSE kc q.1++CT.row X.toSE vc q.2).length)=aI (l'.map λq=>CT.row X.toSE kc q.1++CT.row X.toSE vc q.2))::mo,?_,?_,?_⟩
     .intro p hp;rcases aN.1 hp with rfl |hp
      .rw[hden,hab];refine⟨rfl,?_⟩;simp only[gO];rw[take_of_length_le (by simp[aI])];simp[dY,aI,Function.comp_def,wk]
      .exact p2 p hp
     .simp only[aF,Fp,Vl,hid,hget,af,q2,cons_append,bQ,hab]
     .intro j hs q o' hj hq' ho';cases j with
      |zero=>simp at hj
      |succ j=>exact r2 j hs q o' (by simpa using hj) (by simpa using hq') ho'
    .refine⟨[⟨.mp kc vc,l'⟩]++n2,by rw[a2,aM],(k,.map kc vc l')::xs,λag=>by simp only[cons_append,bQ,dn,b2,aF],.Dd ((l'.map λq=>(CT.tv X.toSE kc q.1,CT.tv X.toSE vc q.2)).map λ_=>[])::bs,mo,p2,?_,?_⟩
     .have hlr:=aac (P:=P) (get:=dK rd (fq get)) (ae:=ae) (l'.map λq=>(CT.tv X.toSE kc q.1,CT.tv X.toSE vc q.2));have hdr:(bH (.map kc vc l')).rows=(l'.map λq=>(CT.tv X.toSE kc q.1,CT.tv X.toSE vc q.2)).map λq=>[q.1.av,q.2.av]:=(by simp only[bH,map_map];rfl);simp only[aF,Fp,Vl,hid,hget,af,q2,hden,hdr,hlr,bQ];rw[<- hdr]
     .intro j hs q o' hj hq' ho';cases j with
      |zero=>
       simp only[aF,List.getElem?_cons_zero,aA]at hq';subst hq';rw[hid,hget]at ho';injection ho' with ho';subst ho';intro k hk;rw[hden]at hk;simp only[Pm,bH,mem_flatMap,mem_map]at hk;obtain⟨_,⟨q,_,rfl⟩,hk⟩:=hk;simp only[eT,zZ,append_nil,fD]at hk
      |succ j=>exact r2 j hs q o' (by simpa using hj) (by simpa using hq') ho'
   .cases h
  .rename_i sz rows sz' rows';split at h
   .rename_i hsz;have⟨m1,h2,h⟩:=ai.1 h;have hm1:=(yK rows _ _ m1 h2).1;have hm:=(lZ r _ m' h).1;have hq:(qv m k,k)∈NM:=hn _ (hm.1 _ (hm1.1 _ (by simp)));have hid:(ae[k]?).getD 0=qv m k:=(by rw[hi _ hq];rfl);have hget:=eD (hrd (qv m k) (.inl ⟨k,hq⟩)) h1;obtain⟨n1,a1,qs,b1,⟨hs1,o1,p1,q1⟩,r1⟩:=Rx (P:=P) hi hv hrd ho rows _ _ m1 h2 (λ q hq=>hn q (hm.1 q hq)) (λ q hq=>hc q (hm.2.1 q hq)) (λ q hq=>hr q (hm.2.2 q hq));obtain⟨n2,a2,xs,b2,bs,mo,p2,q2,r2⟩:=Ab hi hv hrd ho r _ m' h hn hc hr;subst hsz;refine⟨n1++n2,by rw[a2,a1,aM],(k,.cells sz qs)::xs,λag=>by simp only[aM,dn,b1,b2,aF],.Dd hs1::bs,o1++mo,gT p1 p2,?_,?_⟩
    .simp only[aF,Fp,Vl,hid,hget,af,bH,q1,q2]
    .intro j hs q o' hj hq' ho';cases j with
     |zero=>
      simp only[aF,List.getElem?_cons_zero,aA]at hq';rw[<- hq',hid,hget]at ho';injection ho' with ho';subst ho';exact λz hz=>r1 z (M0 hz)
     |succ j=>exact r2 j hs q o' (by simpa using hj) (by simpa using hq') ho'
   .cases h
  .cases h
end
end
end Go.Gb
