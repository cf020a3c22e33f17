import Derived.Test.YtakagljmnddfdaaGreatW1
import Derived.Maps.RangeRun
import Derived.ChangeSame
import Derived.Carry
import Derived.OpenShut
import Derived.SizedLaws
import Derived.WalkKit
import Derived.ProofKit
import Derived.Lib.LaidTab
open List (mem_map all_eq_true cons_append length_map append_nil map_map take_of_length_le map_congr_left flatten_cons map_nil all_cons map_take map_drop mem_flatMap map_append)
namespace Go.Gb
open Go.RowKit
structure St where
 env:Nat->AV
 obj:Nat->Option aS
 ok:Nat->Option Bool
structure mn where
 cm:iu
 rd:List Nat
 wr:List Nat
 sym:Bool
def jP(P:Program)(T:dC)(i:Nat)(o:Oper)(cm:iu)(ρ:Operand->AV)(get:Nat->J aS):J Out:=
 match cm with
 | .ext n=>qD T i o n ρ get
 | .xF ae fr uC=>IV P T i o ae fr uC ρ get
 |cm=>match o.op with
  | .call { callee:= .value f,args:=args,argTypes:=_ }=>lQ P i (ρ f) (args.toList.map ρ) cm get
  |_=>qZ T i o cm ρ get
def Cf{α:Type}(env:Nat->α)(dst:J Tmp)(v:α):Nat->α:=λt=>if dst=some t then v else env t
def St.app(σ:St)(dst:J Tmp)(p:Out×Option Bool):St:=⟨Cf σ.env dst p.1.v,bU σ.obj p.1.upd,Cf σ.ok dst p.2⟩
def want(am:Array Oper)(o:Oper)(env:Nat->AV)(ok:Nat->J Bool):J Bool:=
 match o.guard with
 |none=>some true
 |some (j,b)=>match (am[j]?).bind (·.dst)with
  |some t=>match env t,ok t with
   | .t (.sc (.bool v)),none=>some (v==b)
   | .t (.sc (.bool v)),some g=>some (g&&(v==b))
   | .undef,some false=>some false
   |_,_=>none
  |none=>none
def yu(ok:Nat->J Bool):Operand->U Prop
 | .tmp t=>match ok t with
  |none=>[]
  |some b=>[b=true]
 |_=>[]
def needs(env:Nat->AV)(ok:Nat->J Bool)(o:Op):U Prop:=
 match o with
 | .pick c a b=>match lh env c with
  | .t (.sc (.bool e))=>yu ok c++((yu ok a).map (λ p=>e=true->p)++(yu ok b).map (λ p=>e=false->p))
  |_=>[False]
 |o=>o.operands.toList.flatMap (yu ok)
def dJ(rd:U Nat)(obj:Nat->J aS):Nat->J aS:=λk=>if k∈rd then obj k else none
section
variable (P:Program) (T:dC) (am:Array Oper) (cV:Nat->mn)
def opAt(i:Nat)(σ:St):J (Out×Option Bool):=
 (am[i]?).bind λo=>(want am o σ.env σ.ok).bind λg=>match (cV i).sym with
  |true=>(jP P T i o (cV i).cm (lh σ.env) (dJ (cV i).rd σ.obj)).bind λab=>
   if ab.upd.isEmpty then some (⟨ab.v,[],(needs σ.env σ.ok o.op++ab.obs).map λp=>g=true->p⟩,some g)else none
  |false=>match g with
   |true=>(jP P T i o (cV i).cm (lh σ.env) (dJ (cV i).rd σ.obj)).bind λab=>
    if ab.upd.all (λ p=>IX i p.1 || (cV i).wr.contains p.1)then some (⟨ab.v,ab.upd,needs σ.env σ.ok o.op++ab.obs⟩,none)else none
   |false=>some (⟨.undef,[],[]⟩,some false)
def xT(i:Nat)(K:St->Prop)(σ:St):Prop:=∃o ab,am[i]? =some o/\opAt P T am cV i σ=some ab/\ab.1.ob/\K (σ.app o.dst ab)
def UH(Q:St->Prop):U Nat->St->Prop
 |[],σ=>Q σ
 |i::r,σ=>xT P T am cV i (UH Q r) σ
def EE(md:Region.Mode)(Q:St->Prop):Nat->Array Bool->St->Prop
 | 0,listed,σ=>Region.ready md am listed=[]/\Q σ
 |fuel+1,listed,σ=>(Region.ready md am listed=[]->Q σ)/\∀i∈Region.ready md am listed,xT P T am cV i (EE md Q fuel (listed.setIfInBounds i true)) σ
end
def yB(cV:Nat->mn)(i j:Nat):Bool:=
 (cV j).rd.all (λ k=>!IX i k&&!(cV i).wr.contains k)&&(!Nat.beq i j&&(cV j).wr.all (λ k=>!IX i k&&!(cV i).wr.contains k)&&(cV i).wr.all (λ k=>!IX j k))&&(cV i).rd.all (λ k=>!IX j k&&!(cV j).wr.contains k)
def QW(md:Region.Mode)(am:Array Oper)(i:Nat):U Nat:=
 (List.range am.size).foldl (λ D j=>match am[j]? with
  |some oj=>bif oj.after.any (λ e=>Region.binds md e&&(e.on==i || D.contains e.on))then j::D else D
  |none=>D) []
def Pi(md:Region.Mode)(am:Array Oper)(listed:Array Bool)(i j:Nat):Bool:=
 (QW md am i).contains j&&(QW md am i).all λd=>!listed.getD d true
def QX(md:Region.Mode)(am:Array Oper)(cV:Nat->mn)(listed:Array Bool)(i:Nat):Bool:=
 match am[i]? with
 |some oi=>(List.range am.size).all λj=>j==i || listed.getD j true || match am[j]? with
  |some oj=>oj.after.any (λ e=>Region.binds md e&&e.on==i) || (oi.apart am oj&&yB cV i j) || Pi md am listed i j
  |none=>true
 |none=>false
def lexFrom'(md:Region.Mode)(am:Array Oper)(cV:Nat->mn):Nat->Nat->Array Bool->Bool
 | 0,_,listed=>(Region.ready md am listed).isEmpty
 |fuel+1,k,listed=>(Region.ready md am listed).contains k&&QX md am cV listed k&&lexFrom' md am cV fuel (k+1) (listed.setIfInBounds k true)
def Pc(am:Array Oper)(cV:Nat->mn):Bool:=lexFrom' .any am cV am.size 0 (Array.replicate am.size false)
section
variable {P:Program} {T:dC} {am:Array Oper} {cV:Nat->mn} {md:Region.Mode} {Q:St->Prop}
theorem ams{i:Nat}{K K':St->Prop}{σ:St}(h:∀ σ,K σ->K' σ)(hh:xT P T am cV i K σ):xT P T am cV i K' σ:=
 let ⟨o,ab,h1,h2,h3,h4⟩:=hh
 ⟨o,ab,h1,h2,h3,h _ h4⟩
theorem Og{i:Nat}{o:Oper}{cm:iu}{ρ ρ':Operand->AV}{get:Nat->J aS}(h:∀x∈o.op.operands,ρ x=ρ' x):jP P T i o cm ρ get=jP P T i o cm ρ' get:=by
 have hop:=Ty (T:=T) (i:=i) (cm:=cm) (get:=get) h;unfold jP;split
 .exact aaP h
 .exact ade h
 .obtain⟨dst,op,ty,aq,after,guard⟩:=o;simp only at h ⊢;split
  .rename_i f args cX;simp only[Op.operands,Call.operands]at h;have h1:args.toList.map ρ=args.toList.map ρ':=map_congr_left λx hx=>h x (by simp;exact .inr (by simpa using hx));rw[h1,h f (by simp)]
  .exact hop
theorem abY{i:Nat}{σ:St}{ab:Out×Option Bool}(h:opAt P T am cV i σ=some ab):∀p∈ab.1.upd,IX i p.1=true\/p.1∈(cV i).wr:=by
 unfold opAt at h;cases ho:am[i]? with
 |none=>simp[ho]at h
 |some o=>
  simp only[ho,af]at h;cases hw:want am o σ.env σ.ok with
  |none=>simp[hw]at h
  |some g=>
   simp only[hw,af]at h;split at h
   .cases ha:jP P T i o (cV i).cm (lh σ.env) (dJ (cV i).rd σ.obj)with
    |none=>simp[ha]at h
    |some out'=>
     simp only[ha,af]at h;split at h
     .cases h;simp
     .cases h
   .split at h
    .cases ha:jP P T i o (cV i).cm (lh σ.env) (dJ (cV i).rd σ.obj)with
     |none=>simp[ha]at h
     |some out'=>
      all_goals grind
    .cases h;simp
theorem vZ{obj:Nat->J aS}:∀(upd:U (Nat×Option aS))(k:Nat),(∀ p∈upd,p.1≠k)->bU obj upd k=obj k
 |[],_,_=>rfl
 |(j,o)::r,k,h=>by
  simp only[bU];rw[aW (λ e=>h (j,o) (by simp) e.symm),vZ r k (λ p hp=>h p (by simp[hp]))]
theorem EX{obj m8:Nat->J aS}:∀(upd:U (Nat×Option aS))(k:Nat),obj k=m8 k->bU obj upd k=bU m8 upd k
 |[],_,h=>h
 |(j,o)::r,k,h=>by simp only[bU,EX r k h]
theorem ae5{env env':Nat->AV}{ok ok':Nat->J Bool}{o:Op}(h:∀t,.tmp t∈o.operands->env t=env' t/\ok t=ok' t):needs env ok o=needs env' ok' o:=by
 have h1:∀x∈o.operands,yu ok x=yu ok' x:=λx hx=>by
  cases x with
  |tmp t=>simp only[yu,(h t hx).2]
  |_=>rfl
 unfold needs;split
 .rename_i c a b;have hc:lh env c=lh env' c:=by
   cases c with
   |tmp t=>exact(h t (by simp[Op.operands])).1
   |_=>rfl
  rw[hc,h1 c (by simp[Op.operands]),h1 a (by simp[Op.operands]),h1 b (by simp[Op.operands])]
 .have:∀l:U Operand,(∀ x∈l,yu ok x=yu ok' x)->l.flatMap (yu ok)=l.flatMap (yu ok'):=by
   intro l
   induction l with
   |nil=>intro _;rfl
   |cons x xs ih=>intro hx;simp only[List.flatMap_cons,hx x (by simp),ih (λ y hy=>hx y (by simp[hy]))]
  exact this _ λx hx=>h1 x (by simpa using hx)
theorem ae6{j:Nat}{oi oj:Oper}{ab:Out×Option Bool}{σ:St}(hj:am[j]? =some oj)(hd:∀d,oi.dst=some d->d∉oj.looksAt am)(hk:∀p∈ab.1.upd,p.1∉(cV j).rd):
 opAt P T am cV j (σ.app oi.dst ab)=opAt P T am cV j σ:=by
 unfold opAt;simp only[hj,af];have sf:∀t,t∈oj.looksAt am->(σ.app oi.dst ab).env t=σ.env t:=λt ht=>by
  simp only[St.app,Cf];rw[aW (λ e=>hd t e ht)]
 have SW:∀t,t∈oj.looksAt am->(σ.app oi.dst ab).ok t=σ.ok t:=λt ht=>by
  simp only[St.app,Cf];rw[aW (λ e=>hd t e ht)]
 have hw:want am oj (σ.app oi.dst ab).env (σ.app oi.dst ab).ok=want am oj σ.env σ.ok:=by
  unfold want;cases hg:oj.guard with
  |none=>rfl
  |some gw=>grind [Oper.looksAt]
 have hget:dJ (cV j).rd (σ.app oi.dst ab).obj=dJ (cV j).rd σ.obj:=by
  funext k;simp only[dJ];split
  .rename_i hkr;exact vZ _ _ (λ p hp e=>hk p hp (e ▸ hkr))
  .rfl
 have hin:∀t,.tmp t∈oj.op.operands->t∈oj.looksAt am:=λt ht=>by simp only[Oper.looksAt];exact List.mem_append_left _ (List.mem_filterMap.2 ⟨.tmp t,by simpa using ht,rfl⟩)
 have hρ:jP P T j oj (cV j).cm (lh (σ.app oi.dst ab).env) (dJ (cV j).rd σ.obj)=jP P T j oj (cV j).cm (lh σ.env) (dJ (cV j).rd σ.obj):=by
  refine Og λx hx=>?_;cases x with
  |tmp t=>exact sf t (hin t hx)
  |_=>rfl
 have hnd:needs (σ.app oi.dst ab).env (σ.app oi.dst ab).ok oj.op=needs σ.env σ.ok oj.op:=ae5 λt ht=>⟨sf t (hin t ht),SW t (hin t ht)⟩;rw[hw,hget,hρ,hnd]
theorem amt{σ:St}{di dj:J Tmp}{a b:Out×Option Bool}(hd:∀d,di=some d->dj≠some d)(hk:∀p∈a.1.upd,∀q∈b.1.upd,p.1≠q.1):(σ.app di a).app dj b=(σ.app dj b).app di a:=by
 have slot:∀{α:Type} (e:Nat->α) (x y:α),Cf (Cf e di x) dj y=Cf (Cf e dj y) di x:=λe x y=>by
  funext t;simp only[Cf];by_cases h1:dj=some t
  .rw[aT h1,aW (λ e=>hd t e h1),aT h1]
  .rw[aW h1,aW h1]
 simp only[St.app,St.mk.injEq];refine⟨slot _ _ _,?_,slot _ _ _⟩;funext k;by_cases h1:∃p∈a.1.upd,p.1=k
 .obtain⟨p,hp,e⟩:=h1;rw[vZ b.1.upd k (λ q hq e2=>hk p hp q hq (e.trans e2.symm))];exact EX _ _ (vZ b.1.upd k (λ q hq e2=>hk p hp q hq (e.trans e2.symm))).symm
 .have h2:∀p∈a.1.upd,p.1≠k:=λp hp e=>h1 ⟨p,hp,e⟩;rw[vZ a.1.upd k h2];exact EX _ _ (vZ a.1.upd k h2)
theorem aou{i j:Nat}{oi oj:Oper}{ab:Out×Option Bool}{σ:St}{K:St->Prop}(hi:am[i]? =some oi)(hj:am[j]? =some oj)(hap:oi.apart am oj=true)(hfp:yB cV i j=true)
 (hy:opAt P T am cV i σ=some ab) (h:xT P T am cV j K (σ.app oi.dst ab)):
 xT P T am cV j (λ σ'=>opAt P T am cV i σ'=some ab/\K (σ'.app oi.dst ab)) σ:=by
 obtain⟨a1,a2,a3⟩:=Oper.apart_spec hap;simp only[yB,aG]at hfp;obtain⟨⟨f1,⟨f0,f2⟩,f2'⟩,f3⟩:=hfp;have hij:i≠j:=by intro e;subst e;rw[show Nat.beq i i=true from Nat.beq_refl i]at f0;cases f0
 have ki:=abY hy;have no:∀(a:Nat)(l wr:U Nat)(k:Nat),(l.all λk=>!IX a k&&!wr.contains k)=true->(IX a k=true\/k∈wr)->k∈l->False:=by grind
 obtain⟨o,RR,g1,g2,g3,g4⟩:=h;rw[hj]at g1;cases g1;rw[ae6 hj a1 (λ p hp hr=>no _ _ _ _ f1 (ki p hp) hr)]at g2;have kj:=abY g2;have both:∀k,(IX i k=true\/k∈(cV i).wr)->(IX j k=true\/k∈(cV j).wr)->False:=by
  intro k h1 h2;rcases h2 with h2 |h2
  .rcases h1 with h1 |h1
   .simp only[IX,aG,beq_iff_eq]at h1 h2;exact hij (h1.2.symm.trans h2.2)
   .have:=all_eq_true.1 f2' k h1;rw[h2]at this;exact absurd this (by simp)
  .exact no _ _ _ _ f2 h1 h2
 refine⟨oj,RR,hj,g2,g3,?_,?_⟩
 .rw[ae6 hi a3 (λ p hp hr=>no _ _ _ _ f3 (kj p hp) hr)];exact hy
 .rw[<- amt a2 (λ p hp q hq e=>both p.1 (ki p hp) (e ▸ kj q hq))];exact g4
theorem ae7{i:Nat}:∀d∈QW md am i,∃od,am[d]? =some od/\∃e∈od.after,Region.binds md e=true/\(e.on=i\/e.on∈QW md am i):=by
 have main:∀(l:U Nat)(D0:U Nat),(∀ d∈D0,∃od,am[d]? =some od/\∃e∈od.after,Region.binds md e=true/\(e.on=i\/e.on∈D0))->
  ∀d∈l.foldl (λ D j=>match am[j]? with
   |some oj=>bif oj.after.any (λ e=>Region.binds md e&&(e.on==i || D.contains e.on))then j::D else D
   |none=>D) D0,∃od,am[d]? =some od/\∃e∈od.after,Region.binds md e=true/\(e.on=i\/e.on∈l.foldl (λ D j=>match am[j]? with
   |some oj=>bif oj.after.any (λ e=>Region.binds md e&&(e.on==i || D.contains e.on))then j::D else D
   |none=>D) D0):=by
  intro l
  induction l with
  |nil=>intro D0 h;exact h
  |cons j l ih=>
   intro D0 h;simp only[List.foldl_cons];refine ih _ ?_
   grind
 exact main _ [] (λ d hd=>by simp at hd)
theorem TH{i:Nat}{oi:Oper}{listed:Array Bool}(hi:am[i]? =some oi)(h:QX md am cV listed i=true)(j:Nat)(oj:Oper)(hj:am[j]? =some oj)(hne:j≠i)(hun:listed.getD j true=false)
 (hno:∀e∈oj.after,Region.binds md e=true->e.on≠i):(oi.apart am oj=true/\yB cV i j=true)\/Pi md am listed i j=true:=by
 simp only[QX,hi,all_eq_true,List.mem_range]at h
 grind
theorem Xu{i:Nat}{oi:Oper}{ab:Out×Option Bool}(D:U Nat)(hi:am[i]? =some oi)(hD:∀d∈D,∃od,am[d]? =some od/\∃e∈od.after,Region.binds md e=true/\(e.on=i\/e.on∈D)):
 ∀(fuel:Nat) (listed:Array Bool) (σ:St),(∀ d∈D,listed.getD d true=false)->
  (∀ j oj,am[j]? =some oj->j≠i->listed.getD j true=false->j∉D->(∀ e∈oj.after,Region.binds md e=true->e.on≠i)->oi.apart am oj=true/\yB cV i j=true)->
  i∈Region.ready md am listed->opAt P T am cV i σ=some ab->ab.1.ob->
  EE P T am cV md Q fuel (listed.setIfInBounds i true) (σ.app oi.dst ab)->EE P T am cV md Q (fuel+1) listed σ:=by
 intro fuel
 induction fuel with
 |zero=>
  intro listed σ _ _ hr hy cA H;refine⟨λ h=>(by rw[h]at hr;cases hr),λj hj=>?_⟩;by_cases hji:j=i
  .subst hji;exact⟨oi,ab,hi,hy,cA,H⟩
  .have:=ready_mono hj hji;rw[H.1]at this;cases this
 |succ fuel ih=>
  intro listed σ hDu hfree hr hy cA H;refine⟨λ h=>(by rw[h]at hr;cases hr),λj hj=>?_⟩;by_cases hji:j=i
  .subst hji;exact⟨oi,ab,hi,hy,cA,H⟩
  .have h1:=H.2 j (ready_mono hj hji);obtain⟨hjun,oj,hoj,hall⟩:=mem_ready.1 hj;have hnl:∀k,listed.getD k true=false->∀e∈oj.after,Region.binds md e=true->e.on≠k:=λk h0 e he hb heq=>by
    have h1:=hall e he hb;rw[heq]at h1;rcases Nat.lt_or_ge k listed.size with h' |h'
    .simp[h']at h0 h1;rw[h0]at h1;cases h1
    .simp[Array.getElem?_eq_none h']at h1
   have hnot:∀e∈oj.after,Region.binds md e=true->e.on≠i:=hnl i (mem_ready.1 hr).1;have Mu:j∉D:=λhm=>by
    have⟨od,g1,e,g2,g3,g4⟩:=hD j hm;rw[hoj]at g1;cases g1;rcases g4 with g4 |g4
    .exact hnot e g2 g3 g4
    .exact hnl _ (hDu _ g4) e g2 g3 rfl
   have⟨hap,hfp⟩:=hfree j oj hoj hji hjun Mu hnot;have h2:=aou hi hoj hap hfp hy h1
   have hfree':∀k ok,am[k]? =some ok->k≠i->(listed.setIfInBounds j true).getD k true=false->k∉D->
    (∀ e∈ok.after,Region.binds md e=true->e.on≠i)->oi.apart am ok=true/\yB cV i k=true:=λk ok hk hki hun hkD hno=>by
    refine hfree k ok hk hki ?_ hkD hno;by_cases hjk:j=k
    .subst hjk;exact hjun
    .rw[getD_set_ne true hjk]at hun;exact hun
   have T2:∀d∈D,(listed.setIfInBounds j true).getD d true=false:=λd hd=>by
    have hne:j≠d:=λe=>Mu (by rw[e];exact hd);rw[getD_set_ne true hne];exact hDu d hd
   refine ams (λ σ' h3=>ih (listed.setIfInBounds j true) σ' T2 hfree' (ready_mono hr (Ne.symm hji)) h3.1 cA ?_) h2;rw[Array.setIfInBounds_comm _ _ hji];exact h3.2
theorem ae8:∀(n k:Nat) (listed:Array Bool) (σ:St),lexFrom' md am cV n k listed=true->UH P T am cV Q ((List.range n).map (k+ ·)) σ->EE P T am cV md Q n listed σ
 | 0,k,listed,σ,hB,h=>⟨by simpa[lexFrom']using hB,by simpa[UH]using h⟩
 |n+1,k,listed,σ,hB,h=>by
  simp only[lexFrom',aG]at hB;obtain⟨⟨hr,hfp⟩,hB'⟩:=hB;rw[List.range_succ_eq_map,aF,map_map]at h;simp only[UH,Nat.add_zero]at h;obtain⟨o,ab,h1,h2,h3,h4⟩:=h;have fin:EE P T am cV md Q n (listed.setIfInBounds k true) (σ.app o.dst ab)->EE P T am cV md Q (n+1) listed σ:=by
   intro H;cases hd:(QW md am k).all λd=>!listed.getD d true with
   |true=>
    refine Xu (QW md am k) h1 ae7 n listed σ (λ d hd'=>by simpa using all_eq_true.1 hd d hd') (λ j oj hj hne hun Mu hno=>?_) (by simpa using hr) h2 h3 H;rcases TH h1 hfp j oj hj hne hun hno with h |h
    .exact h
    .simp only[Pi,aG,List.contains_iff_mem]at h;exact absurd h.1 Mu
   |false=>
    refine Xu [] h1 (λ d hd'=>by simp at hd') n listed σ (λ d hd'=>by simp at hd') (λ j oj hj hne hun _ hno=>?_) (by simpa using hr) h2 h3 H;rcases TH h1 hfp j oj hj hne hun hno with h |h
    .exact h
    .simp only[Pi,aG]at h;rw[h.2]at hd;cases hd
  refine fin ?_;refine ae8 n (k+1) _ _ hB' ?_;have e:(λ x=>k+x)∘Nat.succ=λx=>k+1+x:=by funext x;simp only[Function.comp];omega
  rw[e]at h4;exact h4
end
def er(P:Program)(β:Nat->J cE)(w:World)(I:Nat->Prop)(x:AV)(ok:J Bool)(v:Value):Prop:=
 match ok with
 |none=>VR P β w I x v
 |some b=>(b=true->VR P β w I x v)/\(b=false->v=undef)
theorem er.mono{P:Program}{β β':Nat->J cE}{w w':World}{I I':Nat->Prop}(hb:∀k B,β k=some B->β' k=some B)(hs:Same I w w')(hi:∀b,I b->I' b){x:AV}{ok:J Bool}{v:Value}(h:er P β w I x ok v):er P β' w' I' x ok v:=by
 cases ok with
 |none=>exact VR.mono hb hs hi _ _ h
 |some b=>exact⟨λ hh=>VR.mono hb hs hi _ _ (h.1 hh),h.2⟩
structure Rel(P:Program)(w0:World)(O0:i9)(N:Nat)(β:Nat->Option cE)(I:Nat->Prop)(σ:St)(a:Act)(w:World):Prop where
 defers:a.defers=[]
 size:a.tmps.size=N
 env:∀t,er P β w I (σ.env t) (σ.ok t) (a.tmps.getD t undef)
 mem:Mem P w0 O0 β I σ.obj w
section
variable {P:Program} {T:dC} {w0:World} {O0:i9} {N:Nat} {β:Nat->Option cE} {I:Nat->Prop} {σ:St} {a:Act} {w:World} {am:Array Oper} {cV:Nat->mn}
def Fr(un:Nat->Prop)(β:Nat->J cE):Prop:=∀i k,un i->ie (cx i) k->β k=none
theorem adm(hgv:j7 w I){x:Operand}(h:∀t,x= .tmp t->VR P β w I (σ.env t) (a.tmps.getD t undef)):VR P β w I (lh σ.env x) (a.eval x):=by
 cases x with
 |tmp t=>exact h t rfl
 |const v=>exact VR.cv
 |global g=>
  simp only[lh];split
  .rename_i row hg;simp only[VR,Act.eval];exact⟨g,0,rfl,(hgv.1 g row hg).1,(hgv.1 g row hg).2⟩
  .simp[VR]
 |func f=>simp only[lh,VR,Act.eval];exact⟨#[],#[],rfl,by simp[bj],by simp[bj]⟩
theorem Bg(hr:Rel P w0 O0 N β I σ a w){x:Operand}(h:∀p∈yu σ.ok x,p):VR P β w I (lh σ.env x) (a.eval x):=by
 refine adm hr.mem.vars λt hx=>?_;subst hx;have h1:=hr.env t;simp only[yu]at h;cases hk:σ.ok t with
 |none=>rw[hk]at h1;exact h1
 |some b=>rw[hk]at h1 h;exact h1.1 (h _ (by simp))
theorem ahH(hT:eZ P T){i:Nat}{o:Oper}{cm:iu}{rd:U Nat}{ab:Out}(hr:Rel P w0 O0 N β I σ a w)(hn:∀k,ie (cx i) k->β k=none)(ha:jP P T i o cm (lh σ.env) (dJ rd σ.obj)=some ab)
 (cA:ab.ob) (hnd:∀p∈needs σ.env σ.ok o.op,p):q7 P w0 O0 β I σ.obj w i ab ((execOp a.eval o).run P w)\/Bf P w0 O0 β I σ.obj w i ab ((execOp a.eval o).run P w):=by
 have hg:∀k ob,dJ rd σ.obj k=some ob->σ.obj k=some ob:=λk ob hk=>by
  simp only[dJ]at hk;split at hk
  .exact hk
  .cases hk
 by_cases hp:∃c x y,o.op= .pick c x y
 .obtain⟨c,x,y,he⟩:=hp;obtain⟨dst,op,ty,aq,after,guard⟩:=o;simp only at he;subst he;have ha:qZ T i ⟨dst,.pick c x y,ty,aq,after,guard⟩ cm (lh σ.env) (dJ rd σ.obj)=some ab:=by
   unfold jP at ha;split at ha
   .cases ha
   .cases ha
   .exact ha
  simp only[qZ]at ha;simp only[needs]at hnd;split at ha
  .rename_i t hc;rw[hc]at hnd;simp only[pv,ay]at ha;subst ha;have h1:=Bg hr (x:=c) (λ p hp=>hnd p (by simp[hp]));rw[hc]at h1;simp only[VR,TR]at h1;refine .inl ⟨if t then a.eval x else a.eval y,w,β,I,.inl ?_,Step.refl ..,hr.mem,?_⟩
   .simp only[execOp,h1.1,asBool];simp
   .rw[WW];cases t
    .exact Bg hr λp hp=>hnd (false=false->p) (by simp only[bg,mem_map];exact .inr (.inr ⟨p,hp,rfl⟩)) rfl
    .exact Bg hr λp hp=>hnd (true=true->p) (by simp only[bg,mem_map];exact .inr (.inl ⟨p,hp,rfl⟩)) rfl
  .cases ha
 .have hnd':∀x∈o.op.operands,∀p∈yu σ.ok x,p:=λx hx p hp'=>hnd p (by
   unfold needs;split
   .rename_i c x y he;exact absurd ⟨c,x,y,he⟩ hp
   .exact mem_flatMap.2 ⟨x,by simpa using hx,hp'⟩)
  have hρ:∀x,VR P β w I ((λ x=>open Classical in if x∈o.op.operands then lh σ.env x else .undef) x) (a.eval x):=λx=>by
   by_cases hx:x∈o.op.operands
   .simp only[hx,if_true];exact Bg hr (hnd' x hx)
   .simp only[hx,if_false,VR]
  rw[Og (ρ':=λx=>open Classical in if x∈o.op.operands then lh σ.env x else .undef) (λ x hx=>by simp only[hx,if_true])]at ha;generalize (λ x=>open Classical in if x∈o.op.operands then lh σ.env x else AV.undef)=ρ at ha hρ;unfold jP at ha;split at ha
  .exact .inl (aaS hT hr.mem (hn _ (.inl rfl)) hg hρ ha cA)
  .exact .inl (adh hT hr.mem (hn _ (.inl rfl)) hg hρ ha cA)
  .split at ha
   .rename_i f args cX heq;obtain⟨dst,op,ty,aq,after,guard⟩:=o;simp only at heq;subst heq;exact .inr (Xt hr.mem hn hg ha cA (hρ f) (by rw[Array.toList_map];exact bj.map hρ _) rfl rfl)
   .exact .inl (Tw hT hr.mem (hn _ (.inl rfl)) hg hρ ha cA)
theorem akE(hr:Rel P w0 O0 N β I σ a w){o:Oper}{b:Bool}(hb:want am o σ.env σ.ok=some b):Region.wanted o (yielded am a.tmps)=b:=by
 unfold want at hb;unfold Region.wanted;cases hg:o.guard with
 |none=>simp only[hg,ay]at hb ⊢;exact hb
 |some gw=>
  obtain⟨g,bw⟩:=gw;simp only[hg]at hb ⊢;unfold yielded;cases ht:(am[g]?).bind (·.dst)with
  |none=>simp[ht]at hb
  |some t=>
   simp only[ht]at hb;have he:=hr.env t;have val:∀v:Bool,a.tmps.getD t undef= .bool v->a.tmps[t]? =some (.bool v):=λv hv=>by
    cases hh:a.tmps[t]? with
    |none=>simp[hh,undef]at hv
    |some u=>simp[hh]at hv;rw[hv]
   split at hb
   .rename_i v e1 e2;rw[e1,e2]at he;simp only[er,VR,TR]at he;cases hb;simp only[af,val v he.1];cases v<;>cases bw<;>rfl
   .rename_i v q e1 e2;rw[e1,e2]at he;simp only[er,VR,TR]at he;cases hb;cases q with
    |true=>
     simp only[af,val v (he.1 rfl).1];cases v<;>cases bw<;>rfl
    |false=>
     have h0:=he.2 rfl;simp only[af];cases hh:a.tmps[t]? with
     |none=>simp
     |some u=>simp[hh,undef]at h0;subst h0;simp
   .rename_i e1 e2;rw[e1,e2]at he;cases hb;have h0:=he.2 rfl;simp only[af];cases hh:a.tmps[t]? with
    |none=>simp
    |some u=>simp[hh,undef]at h0;subst h0;simp
   .cases hb
theorem Oh:∀(l:U Prop),kE l->∀p∈l,p
 |[],_,_,hp=>by simp at hp
 |[q],h,p,hp=>by rw[aY]at hp;rw[hp];exact h
 |q::r::l,h,p,hp=>by
  rcases aO.1 hp with e |hp
  .rw[e];exact h.1
  .exact Oh (r::l) h.2 p hp
theorem TJ(hT:eZ P T){i:Nat}{K:St->Prop}{Q:Exit->Act->World->Prop}{K':Act->World->Prop}{un:Nat->Prop}(hd:∀(j:Nat)(o:Oper)(d:Tmp),am[j]? =some o->o.dst=some d->d<N)
 (hr:Rel P w0 O0 N β I σ a w) (hf:Fr un β) (hi:un i)
 (hK:∀ σ' a' w' β' I',Rel P w0 O0 N β' I' σ' a' w'->Fr (λ j=>un j/\j≠i) β'->K σ'->K' a' w') (h:xT P T am cV i K σ):wpOp P am Q i K' a w:=by
 obtain⟨o,⟨ab,RW⟩,h1,h2,h3,h4⟩:=h;have put:∀(v':Value) (w':World) (β':Nat->J cE) (I':Nat->Prop),Step β I w (cx i) β' I' w'->Mem P w0 O0 β' I' (bU σ.obj ab.upd) w'->er P β' w' I' ab.v RW v'->K' (a.put o.dst v') w':=by
  intro v' w' β' I' k1 k2 k3;refine hK (σ.app o.dst (ab,RW)) _ w' β' I' ⟨?_,?_,?_,k2⟩ ?_ h4
  .cases hdst:o.dst<;>simp[Act.put,hr.defers]
  .cases hdst:o.dst<;>simp[Act.put,hr.size]
  .intro t;have hold:=er.mono k1.ext k1.same k1.inc (hr.env t);simp only[St.app,Cf];cases hdst:o.dst with
   |none=>simpa[Act.put]using hold
   |some d=>
    simp only[Act.put,ay];by_cases hdt:d=t
    .subst hdt;rw[aT rfl,aT rfl];have hlt:d<a.tmps.size:=Nat.lt_of_lt_of_eq (hd i o d h1 hdst) hr.size.symm;have e:(a.tmps.setIfInBounds d v').getD d undef=v':=(by simp[hlt]);rw[e];exact k3
    .rw[aW hdt,aW hdt];simpa[Array.getElem?_setIfInBounds_ne hdt]using hold
  .intro j k hj hk;rw[k1.other k (by have:=hj.2;simp only[ie,cx]at hk ⊢;omega)];exact hf j k hj.1 hk
 unfold opAt at h2;simp only[h1,af]at h2;unfold wpOp;simp only[h1];have hn:=λk=>hf i k hi;cases hw:want am o σ.env σ.ok with
 |none=>simp[hw]at h2
 |some g=>
  simp only[hw,af]at h2;rw[akE hr hw]
  have run:∀(out':Out),jP P T i o (cV i).cm (lh σ.env) (dJ (cV i).rd σ.obj)=some out'->(∀ p∈needs σ.env σ.ok o.op++out'.obs,p)->out'.v=ab.v->(out'.upd=ab.upd)->(∀ β' w' I' v',VR P β' w' I' ab.v v'->er P β' w' I' ab.v RW v')->
   o.wp P a w K' Q:=by
   intro out' ha cA e1 e2 rS;have T3:=ahH hT hr hn ha (sK _ λp hp=>cA p (by simp[hp])) (λ p hp=>cA p (by simp[hp]));unfold Oper.wp;rcases T3 with ⟨v',w',β',I',hrun,k1,k2,k3⟩ |⟨F,args,hrun,Cl⟩
   .rw[e1]at k3;rw[e2]at k2;rcases hrun with hrun |⟨hrun,rfl⟩
    .rw[hrun];exact put v' w' β' I' k1 k2 (rS _ _ _ _ k3)
    .rw[hrun];exact put _ w' β' I' k1 k2 (rS _ _ _ _ k3)
   .rw[hrun];refine Cl.mono ?_;rintro e w' ⟨v',β',I',rfl,k1,k2,k3⟩;rw[e1]at k3;rw[e2]at k2;exact put v' w' β' I' k1 k2 (rS _ _ _ _ k3)
  split at h2
  .cases ha:jP P T i o (cV i).cm (lh σ.env) (dJ (cV i).rd σ.obj)with
   |none=>simp[ha]at h2
   |some out'=>
    simp only[ha,af]at h2;split at h2
    .rename_i hem;simp only[ay,Prod.mk.injEq]at h2;obtain⟨rfl,rfl⟩:=h2;have B9:out'.upd=[]:=(by simpa using hem);have h3:=Oh _ h3;cases g with
     |true=>
      simp only[if_true];refine .inl (run out' ha (λ p hp=>h3 (true=true->p) (mem_map.2 ⟨p,hp,rfl⟩) rfl) rfl B9 λ_ _ _ _ hv=>⟨λ _=>hv,λh=>by cases h⟩)
     |false=>
      simp only[Bool.false_eq_true,if_false];exact put _ w β I (Step.refl ..) hr.mem ⟨λ h=>(by cases h),λ_=>rfl⟩
    .cases h2
  .split at h2
   .cases ha:jP P T i o (cV i).cm (lh σ.env) (dJ (cV i).rd σ.obj)with
    |none=>simp[ha]at h2
    |some out'=>
     simp only[ha,af]at h2;split at h2
     .simp only[ay,Prod.mk.injEq]at h2;obtain⟨rfl,rfl⟩:=h2;simp only[if_true];exact .inl (run out' ha (Oh _ h3) rfl rfl λ_ _ _ _ hv=>hv)
     .cases h2
   .simp only[ay,Prod.mk.injEq]at h2;obtain⟨rfl,rfl⟩:=h2;simp only[Bool.false_eq_true,if_false];exact put _ w β I (Step.refl ..) hr.mem ⟨λ h=>(by cases h),λ_=>rfl⟩
theorem Md(hT:eZ P T){md:Region.Mode}{Q:St->Prop}{Q':Exit->Act->World->Prop}(hd:∀(j:Nat)(o:Oper)(d:Tmp),am[j]? =some o->o.dst=some d->d<N)
 (hQ:∀ σ a w β I,Rel P w0 O0 N β I σ a w->Q σ->Q' .normal a w):∀(fuel:Nat) (listed:Array Bool) (σ:St) (a:Act) (w:World) (β:Nat->J cE) (I:Nat->Prop),Rel P w0 O0 N β I σ a w->
  Fr (λ j=>listed.getD j true=false) β->EE P T am cV md Q fuel listed σ->wpAny P md am Q' fuel listed a w
 | 0,_,_,_,_,_,_,hr,_,h=>⟨h.1,hQ _ _ _ _ _ hr h.2⟩
 |fuel+1,listed,σ,a,w,β,I,hr,hf,h=>by
  refine⟨λ h0=>hQ _ _ _ _ _ hr (h.1 h0),λi hi=>?_⟩;have hun:listed.getD i true=false:=(mem_ready.1 hi).1;refine TJ hT hd hr hf hun (λ σ' a' w' β' I' hr' hf' hK=>?_) (h.2 i hi);refine Md hT hd hQ fuel _ σ' a' w' β' I' hr' (λ j k hj hk=>hf' j k ?_ hk) hK;have hj:(listed.setIfInBounds i true).getD j true=false:=hj;by_cases hji:i=j
  .subst hji;rcases Nat.lt_or_ge i listed.size with h1 |h1
   .simp[h1]at hj
   .simp[Array.getElem?_eq_none h1]at hun
  .rw[getD_set_ne true hji]at hj;exact⟨hj,λe=>hji e.symm⟩
theorem Me(hT:eZ P T){Q:St->Prop}{Q':Exit->Act->World->Prop}(hd:∀(j:Nat)(o:Oper)(d:Tmp),am[j]? =some o->o.dst=some d->d<N)
 (hQ:∀ σ a w β I,Rel P w0 O0 N β I σ a w->Q σ->Q' .normal a w):∀(l:U Nat) (σ:St) (a:Act) (w:World) (β:Nat->J cE) (I:Nat->Prop),l.Nodup->Rel P w0 O0 N β I σ a w->
  Fr (λ j=>j∈l) β->UH P T am cV Q l σ->wpOps P am Q' l a w
 |[],_,_,_,_,_,_,hr,_,h=>hQ _ _ _ _ _ hr h
 |i::l,σ,a,w,β,I,hn,hr,hf,h=>by
  rw[wpOps_cons];refine TJ hT hd hr hf (by simp) (λ σ' a' w' β' I' hr' hf' hK=>?_) h;refine Me hT hd hQ l σ' a' w' β' I' (List.nodup_cons.1 hn).2 hr' (λ j k hj hk=>hf' j k ⟨by simp[hj],λe=>?_⟩ hk) hK
  grind
def PR(N:Nat)(am:Array Oper):Bool:=am.all λo=>match o.dst with |some d=>decide (d<N) |none=>true
theorem TK(h:PR N am=true)(j:Nat)(o:Oper)(d:Tmp)(hj:am[j]? =some o)(hd:o.dst=some d):d<N:=by
 have:=Array.all_eq_true_iff_forall_mem.1 h o (Array.mem_of_getElem? hj);simpa[hd]using this
structure tG(σ:St):Prop where
 env:∀t k,k∈refs (σ.env t)->k<1000000
 obj:∀k o,σ.obj k=some o->k<1000000/\∀r∈o.rows,∀x∈r,∀j∈refs x,j<1000000
mutual
theorem VR.restrict{β':Nat->Option cE}(h:∀k,k<1000000->β' k=β k):∀(x:AV)(v:Value),(∀ k∈refs x,k<1000000)->VR P β w I x v->VR P β' w I x v
 | .t _,_,_,hv=>by simpa[VR]using hv
 | .agg cs,_,hk,hv=>by
  simp only[VR]at hv ⊢;obtain⟨vs,h1,h2⟩:=hv;exact⟨vs,h1,bj.restrict h cs _ (by simpa[refs]using hk) h2⟩
 | .eC cs,_,hk,hv=>by
  simp only[VR]at hv ⊢;obtain⟨vs,h1,h2⟩:=hv;exact⟨vs,h1,bj.restrict h cs _ (by simpa[refs]using hk) h2⟩
 | .own k _ _,_,hk,hv=>by simp only[VR,h k (hk k (by simp[refs]))]at hv ⊢;exact hv
 | .ptr k _ _,_,hk,hv=>by simp only[VR,h k (hk k (by simp[refs]))]at hv ⊢;exact hv
 | .ej _ _,_,_,hv=>by simpa[VR]using hv
 | .fn f first caps,_,hk,hv=>by
  simp only[VR]at hv ⊢;obtain⟨fs,cs,h1,h2,h3⟩:=hv;exact⟨fs,cs,h1,bj.restrict h first _ (λ k hk'=>hk k (by simp[refs,hk'])) h2,bj.restrict h caps _ (λ k hk'=>hk k (by simp[refs,hk'])) h3⟩
 | .du _,_,_,hv=>by simpa[VR]using hv
 | .mp k,_,hk,hv=>by simp only[VR,h k (hk k (by simp[refs]))]at hv ⊢;exact hv
 | .oz k _,_,hk,hv=>by simp only[VR,h k (hk k (by simp[refs]))]at hv ⊢;exact hv
 | .cM,_,_,hv=>by simpa[VR]using hv
 | .ub,_,_,hv=>by simpa[VR]using hv
 | .undef,_,_,_=>by simp[VR]
theorem bj.restrict{β':Nat->Option cE}(h:∀k,k<1000000->β' k=β k):∀(xs:List AV)(vs:List Value),(∀ k∈eX xs,k<1000000)->bj P β w I xs vs->bj P β' w I xs vs
 |[],[],_,_=>by simp[bj]
 |x::xs,v::vs,hk,hv=>by
  simp only[bj]at hv ⊢;exact⟨VR.restrict h x v (λ k hk'=>hk k (by simp[eX,hk'])) hv.1,bj.restrict h xs vs (λ k hk'=>hk k (by simp[eX,hk'])) hv.2⟩
 |[],_::_,_,hv=>by simp[bj]at hv
 |_::_,[],_,hv=>by simp[bj]at hv
end
theorem abZ:∀{xs:U AV}{k:Nat},k∈eX xs->∃x∈xs,k∈refs x
 |[],_,h=>by simp[eX]at h
 |x::xs,k,h=>by
  simp only[eX,bg]at h;rcases h with h |h
  .exact⟨x,by simp,h⟩
  .have⟨y,h1,h2⟩:=abZ h;exact⟨y,by simp[h1],h2⟩
theorem Rel.restrict(ho:tG σ)(hr:Rel P w0 O0 N β I σ a w):Rel P w0 O0 N (λ k=>if k<1000000 then β k else none) I σ a w:=by
 have hb:∀k,k<1000000->(λ k=>if k<1000000 then β k else none) k=β k:=λk hk=>by simp[hk]
 have rS:∀t,er P (λ k=>if k<1000000 then β k else none) w I (σ.env t) (σ.ok t) (a.tmps.getD t undef):=λt=>by
  have h1:=hr.env t;cases hk:σ.ok t with
  |none=>rw[hk]at h1;exact VR.restrict hb _ _ (ho.env t) h1
  |some b=>rw[hk]at h1;exact⟨λ h=>VR.restrict hb _ _ (ho.env t) (h1.1 h),h1.2⟩
 refine⟨hr.defers,hr.size,rS,?_⟩;have hm:=hr.mem;constructor
 .intro k o hk;have⟨B,hB,hO⟩:=hm.cD k o hk;have⟨h1,h2⟩:=ho.obj k o hk;refine⟨B,by simp only[h1,if_true];exact hB,?_⟩;cases B with
  |none=>exact hO
  | «at» b s n=>
   obtain⟨g1,c,e,g2,g3,g4⟩:=hO;refine⟨g1,c,e,g2,g3,?_⟩;rw[nI]at g4 ⊢;intro i r hir;have⟨q1,q2⟩:=g4 i r hir;refine⟨q1,?_⟩;rw[jL]at q2 ⊢;intro j x hx;have⟨v,p1,p2,p3⟩:=q2 j x hx;exact⟨v,p1,VR.restrict hb _ _ (h2 r (cO hir) x (cO hx)) p2,p3⟩
  |mp b=>
   obtain⟨es,cl,g1,gl,g2,g3⟩:=hO;refine⟨es,cl,g1,gl,λe=>cy.tell rfl (λ j r q' a b vs hv=>?_) (g2 e),g3⟩;rw[a]at b;cases b;exact bj.restrict hb _ _ (λ k hk=>by
    have⟨x,hx,hk⟩:=abZ hk;exact h2 r (cO a) x hx k hk) hv
 .intro k k' o o' B B' b h1 h2 h3 h4;simp only[(ho.obj k o h1).1,(ho.obj k' o' h2).1,if_true]at h3 h4;exact hm.gd k k' o o' B B' b h1 h2 h3 h4
 .intro k o B b h1 h2;simp only[(ho.obj k o h1).1,if_true]at h2;exact hm.ownB k o B b h1 h2
 .exact hm.lt
 .exact hm.up
 .exact hm.keep
 .exact hm.le
 .exact hm.os
 .exact hm.tape
 .exact hm.output
 .intro j B hj;have:=O0.lt j B hj;show(if j<1000000 then β j else none)=some B;rw[aT (by omega)];exact hm.anch j B hj
 .exact hm.vars
theorem Rel.drew(hr:Rel P w0 O0 N β I σ a w):Rel P w0 O0 N β I σ a w.drew:=
 ⟨hr.defers,hr.size,λt=>er.mono (w:=w) (w':=w.drew) (λ _ _ h=>h) (λ _ _=>rfl) (λ _ h=>h) (hr.env t),hr.mem.drew⟩
theorem akF(hT:eZ P T){id:Nat}{Q:St->Prop}(hd:PR N am=true)(ho:tG σ)(h:UH P T am cV Q (List.range am.size) σ)(hr:Rel P w0 O0 N β I σ a w):
 (Code.region id am false).wp P (λ e a' w'=>∃ β' I' σ',Rel P w0 O0 N β' I' σ' a' w'/\e= .normal/\Q σ') a w:=by
 refine wp_region (Me hT (TK hd) (Q:=Q) (λ σ a w β I hr hq=>⟨β,I,σ,hr,rfl,hq⟩) _ σ a w _ I List.nodup_range (hr.restrict ho) (λ j k _ hk=>?_) h);exact aW (by simp only[ie,cx]at hk;omega)
theorem Xv(hT:eZ P T)(hm:P.follows .mixedOrders=true){id:Nat}{Q:St->Prop}(hd:PR N am=true)(hB:Pc am cV=true)(ho:tG σ)(h:UH P T am cV Q (List.range am.size) σ)(hr:Rel P w0 O0 N β I σ a w):
 (Code.region id am true).wp P (λ e a' w'=>∃ β' I' σ',Rel P w0 O0 N β' I' σ' a' w'/\e= .normal/\Q σ') a w:=by
 refine wp_region_any hm (Md hT (md:= .any) (cV:=cV) (TK hd) (Q:=Q) (λ σ a w β I hr hq=>⟨β,I,σ,hr,rfl,hq⟩) _ _ σ a _ _ I (hr.restrict ho).drew (λ j k _ hk=>?_) ?_)
 .exact aW (by simp only[ie,cx]at hk;omega)
 .refine ae8 am.size 0 _ σ hB ?_;have e:(List.range am.size).map (λ x=>0+x)=List.range am.size:=by simp
  rw[e];exact h
end
def Ev(P:Program)(N:Nat)(c:Code)(Q:Exit->St->Prop)(σ:St):Prop:=
 ∀(w0:World) (O0:i9) (β:Nat->J cE) (I:Nat->Prop) (a:Act) (w:World),Rel P w0 O0 N β I σ a w->tG σ->
  c.wp P (λ e a' w'=>∃ β' I' σ',Rel P w0 O0 N β' I' σ' a' w'/\tG σ'/\Q e σ') a w
def apP(K:St->Prop)(Q:Exit->St->Prop):Exit->St->Prop
 | .normal,σ=>K σ
 |e,σ=>Q e σ
def ahI(id:Nat)(Q:Exit->St->Prop):Exit->St->Prop
 | .exit j,σ=>if j=id then Q .normal σ else Q (.exit j) σ
 |e,σ=>Q e σ
theorem ab0{P:Program}{c:Code}{Q:Exit->Act->World->Prop}(J:Nat->Act->World->Prop)(h0:∀a w,¬J 0 a w)(round:∀n a w,J (n+1) a w->c.wp P (Exit.then (J n) Q) a w)(n:Nat)(a:Act)(w:World)(h:J n a w):
 (Code.loop c).wp P Q a w:=by
 intro b k cs;have key:∀n a w,J n a w->∃e a' w',Q e a' w'/\Arrives P (lone (b.at a (.code c:: .inLoop c::k)) cs w) b k cs e a' w':=by
  intro n
  induction n with
  |zero=>intro a w h;exact(h0 a w h).elim
  |succ n ih=>
   intro a w hI;have⟨e,a₁,w₁,hq,harr⟩:=round n a w hI b (.inLoop c::k) cs;cases e with
   |normal=>
    have⟨e₂,a₂,w₂,hq₂,harr₂⟩:=ih a₁ w₁ hq;exact⟨e₂,a₂,w₂,hq₂,.of_steps (Steps.trans harr (.one step_inLoop)) harr₂⟩
   |exit id=>exact⟨_,a₁,w₁,hq,.pass (x:= .inLoop c) rfl (λ _ _=> .inl (by simp)) harr⟩
   |goto l=>exact⟨_,a₁,w₁,hq,.pass (x:= .inLoop c) rfl (λ _ _=> .inl (by simp)) harr⟩
   |ret=>exact⟨_,a₁,w₁,hq,.pass (x:= .inLoop c) rfl (λ _ _=> .inl (by simp)) harr⟩
   |panic ch=>exact⟨_,a₁,w₁,hq,.pass (x:= .inLoop c) rfl (λ _ _=> .inl (by simp)) harr⟩
   |outgrown=>exact⟨_,a₁,w₁,hq,.pass (x:= .inLoop c) rfl (λ _ _=> .inl (by simp)) harr⟩
 have⟨e,a',w',hq,harr⟩:=key n a w h;exact⟨e,a',w',hq,.of_steps (.one step_loop) harr⟩
section
variable {P:Program} {N:Nat} {Q:Exit->St->Prop} {σ:St}
theorem Ev.mono{c:Code}{Q':Exit->St->Prop}(h:Ev P N c Q σ)(hq:∀e σ,Q e σ->Q' e σ):Ev P N c Q' σ:=
 λw0 O0 β I a w hr ho=>wp_mono (h w0 O0 β I a w hr ho) λ_ _ _ ⟨β',I',σ',h1,h2,h3⟩=>⟨β',I',σ',h1,h2,hq _ _ h3⟩
theorem aov(h:Q .normal σ):Ev P N .skip Q σ:=λ_ _ β I _ _ hr ho=>wp_skip ⟨β,I,σ,hr,ho,h⟩
theorem aow{id:Nat}(h:Q (.exit id) σ):Ev P N (.exit id) Q σ:=λ_ _ β I _ _ hr ho=>wp_exit ⟨β,I,σ,hr,ho,h⟩
theorem ap5(h:Q .ret σ):Ev P N .ret Q σ:=λ_ _ β I _ _ hr ho=>wp_ret ⟨β,I,σ,hr,ho,h⟩
theorem amu{l:Nat}(h:Q .normal σ):Ev P N (.label l) Q σ:=λ_ _ β I _ _ hr ho=>wp_label ⟨β,I,σ,hr,ho,h⟩
theorem ap6{x y:Code}(h:Ev P N x (apP (Ev P N y Q) Q) σ):Ev P N (.seq x y) Q σ:=by
 intro w0 O0 β I a w hr ho;refine wp_seq (wp_mono (h w0 O0 β I a w hr ho) ?_);rintro e a' w' ⟨β',I',σ',h1,h2,h3⟩;cases e<;>first |exact h3 w0 O0 β' I' a' w' h1 h2 |exact⟨β',I',σ',h1,h2,h3⟩
theorem aox{c:Operand}{x y:Code}(b:Bool)(hk:∀t,c= .tmp t->σ.ok t=none)(hc:lh σ.env c= .t (.sc (.bool b)))(h:Ev P N (bif b then x else y) Q σ):Ev P N (.cond c x y) Q σ:=by
 intro w0 O0 β I a w hr ho;have h1:=adm (P:=P) (β:=β) (w:=w) (I:=I) (σ:=σ) (a:=a) (x:=c) hr.mem.vars (λ t ht=>by
  have h1:=hr.env t;rw[hk t ht]at h1;exact h1)
 rw[hc]at h1;simp only[VR,TR]at h1;refine wp_cond (t:=b) h1.1 ?_;cases b<;>exact h w0 O0 β I a w hr ho
theorem ahJ{c:Operand}{x y:Code}(hk:∀t,c= .tmp t->σ.ok t=none)(hc:lh σ.env c= .ub)(h1:Ev P N x Q σ)(h2:Ev P N y Q σ):Ev P N (.cond c x y) Q σ:=by
 intro w0 O0 β I a w hr ho;have h3:=adm (P:=P) (β:=β) (w:=w) (I:=I) (σ:=σ) (a:=a) (x:=c) hr.mem.vars (λ t ht=>by
  have h1:=hr.env t;rw[hk t ht]at h1;exact h1)
 rw[hc]at h3;simp only[VR]at h3;obtain⟨b,hb⟩:=h3;refine wp_cond (t:=b) hb ?_;cases b
 .exact h2 w0 O0 β I a w hr ho
 .exact h1 w0 O0 β I a w hr ho
theorem amv{id:Nat}{c:Code}(h:Ev P N c (ahI id Q) σ):Ev P N (.block id c) Q σ:=by
 intro w0 O0 β I a w hr ho;refine wp_block (wp_mono (h w0 O0 β I a w hr ho) ?_);rintro e a' w' ⟨β',I',σ',h1,h2,h3⟩;cases e with
 |exit j=>
  simp only[ahI]at h3;simp only[Exit.inBlock];split
  .rw[aT ‹_›]at h3;exact⟨β',I',σ',h1,h2,h3⟩
  .rw[aW ‹_›]at h3;exact⟨β',I',σ',h1,h2,h3⟩
 |_=>exact⟨β',I',σ',h1,h2,h3⟩
theorem aoy{c:Code}(J:Nat->St->Prop)(h0:∀ σ,¬J 0 σ)(round:∀n σ,J (n+1) σ->Ev P N c (apP (J n) Q) σ)(n:Nat)(h:J n σ):Ev P N (.loop c) Q σ:=by
 intro w0 O0 β I a w hr ho;refine ab0 (λ n a w=>∃ β I σ,Rel P w0 O0 N β I σ a w/\tG σ/\J n σ) (λ a w ⟨_,_,σ,_,_,h⟩=>h0 σ h) ?_ n a w ⟨β,I,σ,hr,ho,h⟩;rintro n a w ⟨β,I,σ,hr,ho,hJ⟩;refine wp_mono (round n σ hJ w0 O0 β I a w hr ho) ?_;rintro e a' w' ⟨β',I',σ',h1,h2,h3⟩;cases e<;>exact⟨β',I',σ',h1,h2,h3⟩
end
def lk{α:Type}:U (Nat×α)->Nat->J α
 |[],_=>none
 |(j,x)::r,k=>if j=k then some x else lk r k
structure rj where
 env:List (Nat×AV)
 cD:List (Nat×aS)
def rj.st(L:rj):St:=⟨λ t=>(lk L.env t).getD .undef,λk=>lk L.cD k,λ_=>none⟩
theorem tO{α:Type}:∀{l:U (Nat×α)}{k:Nat}{x:α},lk l k=some x->(k,x)∈l
 |(j,y)::r,k,x,h=>by
  simp only[lk]at h;split at h
  .cases h;rename_i e;subst e;simp
  .exact fF _ (tO h)
theorem wh{α:Type}:∀{l:U (Nat×α)}{k:Nat}{x:α},(l.map (·.1)).Nodup->(k,x)∈l->lk l k=some x
 |(j,y)::r,k,x,hn,h=>by
  simp only[aF,List.nodup_cons]at hn;simp only[lk];rcases aO.1 h with h |h
  .injection h with h1 h2;subst h1;subst h2;simp
  .have hne:k≠j:=λe=>hn.1 (mem_map.2 ⟨(k,x),h,e⟩);rw[aW (Ne.symm hne)];exact wh hn.2 h
open Go.RowKit Go.MapKept
structure RgI where
 x:Operand
 t:TypeId
 a0:Nat
 it:Nat
 nn:Nat
 b:Nat
 e:Nat
 xx:Nat
 kv:Nat
 j:Nat
 j2:Nat
 body:Code
section
variable {P:Program} {w0:World} {O0:i9} {N:Nat} {β:Nat->Option cE} {I:Nat->Prop} {σ:St} {a:Act} {w:World}
def St.put(σ:St)(d:Nat)(x:AV):St:=⟨Cf σ.env (some d) x,σ.obj,Cf σ.ok (some d) none⟩
theorem Rel.put(hr:Rel P w0 O0 N β I σ a w){d:Nat}(hd:d<N){x:AV}{v:Value}(hv:VR P β w I x v):Rel P w0 O0 N β I (σ.put d x) (a.put (some d) v) w:=by
 refine⟨by simpa[Act.put]using hr.defers,by simpa[Act.put]using hr.size,λt=>?_,hr.mem⟩;have hold:=hr.env t;simp only[St.put,Cf,Act.put,ay];by_cases hdt:d=t
 .subst hdt;rw[aT rfl,aT rfl];have e:(a.tmps.setIfInBounds d v).getD d undef=v:=by simp[Nat.lt_of_lt_of_eq hd hr.size.symm]
  rw[e];exact hv
 .rw[aW hdt,aW hdt];simpa[Array.getElem?_setIfInBounds_ne hdt]using hold
structure te(β:Nat->Option cE)(I:Nat->Prop)(obj:Nat->Option aS)(w:World)(r:Nat):Prop where
 lt:r<w.heap.size
 HF:¬I r
 obj:∀k o,obj k=some o->¬gb β k r
theorem Rel.world{w':World}(hr:Rel P w0 O0 N β I σ a w)(hs:Same I w w')(hm:Mem P w0 O0 β I σ.obj w'):Rel P w0 O0 N β I σ a w':=
 ⟨hr.defers,hr.size,λt=>er.mono (λ _ _ h=>h) hs (λ _ h=>h) (hr.env t),hm⟩
end
def kept(os':U (Option fe))(j:Nat):Prop:=∃p,os'[j]? =some (some p)
def QY(get:Nat->J aS)(fk:J Nat)(os':U (Option fe)):AV->Tree->Prop
 | .t x,y=>y=x
 | .cM,y=>y= .sl []
 | .oz k len,y=>fk≠some k/\¬kept os' k/\∃o dc,get k=some o/\(o.rows.drop 0).take len=aL dc/\dc.length=len/\y= .sl dc
 | .own k aa len,y=>fk≠some k/\¬kept os' k/\∃o dc,get k=some o/\(o.rows.drop aa).take len=aL dc/\dc.length=len/\y= .sl dc
 |_,_=>False
def kB(get:Nat->J aS)(fk:J Nat)(os':U (Option fe)):U AV->U Tree->Prop
 |[],[]=>True
 |x::xs,y::ys=>QY get fk os' x y/\kB get fk os' xs ys
 |_,_=>False
def ed(get:Nat->J aS)(fk:J Nat)(os':U (Option fe)):U (List AV)->U (List Tree)->Prop
 |[],[]=>True
 |x::xs,y::ys=>kB get fk os' x y/\ed get fk os' xs ys
 |_,_=>False
def GM(get:Nat->J aS)(fk:J Nat)(os':U (Option fe)):AV->RC->Prop
 | .agg cs,.d (.a ts)=>kB get fk os' cs ts
 |x,.d (.s y)=>QY get fk os' x y
 | .cM,.fresh _ rows=>rows=[]
 | .own k aa len,.fresh sz rows=>fk=some k/\¬kept os' k/\aa=0/\∃o,get k=some o/\o.sz=sz/\ed get fk os' (o.rows.take len) rows/\rows.length=len
 | .own k aa len,.whole j len'=>k=j/\aa=0/\len'=len/\kept os' j
 |_,_=>False
def m5(get:Nat->J aS)(fk:J Nat)(os':U (Option fe)):U AV->U RC->Prop
 |[],[]=>True
 |x::xs,c::cs=>GM get fk os' x c/\m5 get fk os' xs cs
 |_,_=>False
def GG(get:Nat->J aS)(fk:J Nat)(os':U (Option fe)):U AV->RV->Prop
 |[x],.one c=>GM get fk os' x c
 |x::y::r,.eC cs=>m5 get fk os' (x::y::r) cs
 |[],.eC cs=>cs=[]
 |_,_=>False
def MY(get:Nat->J aS)(fk:J Nat)(os':U (Option fe)):Prop:=
 ∀(j:Nat) p,os'[j]? =some (some p)->fk≠some j/\∃o,get j=some o/\o.sz=p.1/\ed get fk os' (o.rows.take p.2.length) p.2
def KF(T:dC)(t:TypeId)(x:AV)(obj:Nat->J aS):J Out:=
 match Dv T t x .none obj with
 |some o=>some o
 |none=>ES T t x obj
def QZ(T:dC)(σ:St):ResultVar->J AV
 | .tmp t=>match σ.ok t with
  |none=>some (σ.env t)
  |some _=>none
 | .cell a t=>match σ.ok a with
  |none=>match KF T t (σ.env a) σ.obj with
   |some ⟨v,[],[]⟩=>some v
   |_=>none
  |some _=>none
def nU(T:dC)(σ:St):U ResultVar->J (List AV)
 |[]=>some []
 |r::rs=>(QZ T σ r).bind λv=>(nU T σ rs).bind λvs=>some (v::vs)
def Xw(tmps:Array Value):ResultVar->Sem Value
 | .tmp t=>pure (tmps.getD t undef)
 | .cell a t=>do loadVar t (<- asAddr (tmps.getD a undef))
theorem Xx(fn:Func)(tmps:Array Value):results fn tmps=(fn.results.mapM (Xw tmps))>>=λvs=>pure (if h:vs.size=1 then vs[0]else .tuple vs):=by
 unfold results;congr 2
def arv(T:dC)(rs:U ResultVar)(rv:RV)(os':U (Option fe)):Exit->St->Prop
 | .normal,σ=>∃xs fk,nU T σ rs=some xs/\GG σ.obj fk os' xs rv/\MY σ.obj fk os'
 | .ret,σ=>∃xs fk,nU T σ rs=some xs/\GG σ.obj fk os' xs rv/\MY σ.obj fk os'
 |_,_=>False
section
variable {P:Program} {T:dC} {w0:World} {O0:i9} {N:Nat} {β:Nat->Option cE} {I:Nat->Prop} {σ:St} {a:Act} {w:World}
theorem ado(hT:eZ P T)(hr:Rel P w0 O0 N β I σ a w){r:ResultVar}{x:AV}(h:QZ T σ r=some x):
 ∃v,(Xw a.tmps r).run P w= .ok v w/\VR P β w I x v:=by
 cases r with
 |tmp t=>
  simp only[QZ]at h;have h1:=hr.env t;cases hk:σ.ok t with
  |some b=>rw[hk]at h;cases h
  |none=>
   rw[hk]at h h1;cases h;exact⟨_,by simp[Xw],h1⟩
 |cell ad t=>
  simp only[QZ]at h;have hx:=hr.env ad;cases hk:σ.ok ad with
  |some b=>rw[hk]at h;cases h
  |none=>
  rw[hk]at h hx;simp only at h;have hx:VR P β w I (σ.env ad) (a.tmps.getD ad undef):=hx;split at h
  .rename_i v hl;injection h with h;subst h;have hl2:Dv T t (σ.env ad) .none σ.obj=some ⟨v,[],[]⟩\/ES T t (σ.env ad) σ.obj=some ⟨v,[],[]⟩:=by
    unfold KF at hl;split at hl
    .rename_i heq;injection hl with hl;subst hl;exact .inl heq
    .exact .inr hl
   obtain⟨u,h1,h2⟩:∃u,(Instr.loadAt t (a.tmps.getD ad undef)).run P w= .ok u w/\VR P β w I v u:=by
    rcases hl2 with hl2 |hl2
    .obtain⟨u,h1,h2,_⟩:=Tv hT hr.mem (λ _ _ h=>h) hl2 trivial hx;exact⟨u,h1,h2⟩
    .obtain⟨u,h1,h2,_⟩:=Oc hT hr.mem (λ _ _ h=>h) hl2 hx;exact⟨u,h1,h2⟩
   refine⟨u,?_,h2⟩;have hp:∃p,a.tmps.getD ad undef= .pointer (some p):=by
    rcases hl2 with hl |hl
    rotate_left
    .unfold ES at hl;cases hti:T t with
     |none=>simp[hti]at hl
     |some ti=>
      simp only[hti,af]at hl;split at hl
      .rename_i heq;rw[heq]at hx;simp only[VR]at hx;obtain⟨b,sz,n,_,h⟩:=hx;exact⟨_,h⟩
      .cases hl
    unfold Dv at hl;cases hti:T t with
    |none=>simp[hti]at hl
    |some ti=>
     simp only[hti,af]at hl;split at hl
     .rename_i heq;rw[heq]at hx;simp only[VR]at hx;obtain⟨b,sz,n,_,h⟩:=hx;exact⟨_,h⟩
     .rename_i heq;rw[heq]at hx;simp only[VR]at hx;obtain⟨b,o,h,_⟩:=hx;exact⟨_,h⟩
     .cases hl
   obtain⟨p,hp⟩:=hp;rw[hp]at h1;simp only[Instr.loadAt,Instr.sureAddr,Sem.run_bind,Sem.run_pure,Result.andThen_ok]at h1;simp only[Xw,hp,asAddr,Sem.run_bind,Sem.run_pure,Result.andThen_ok];exact h1
  .cases h
theorem Cg(hT:eZ P T)(hr:Rel P w0 O0 N β I σ a w):∀(rs:U ResultVar)(xs:U AV),nU T σ rs=some xs->
 ∃vs,(rs.mapM (Xw a.tmps)).run P w= .ok vs w/\bj P β w I xs vs
 |[],xs,h=>by simp only[nU,ay]at h;subst h;exact⟨[],by simp,by simp[bj]⟩
 |r::rs,xs,h=>by
  simp only[nU]at h;cases h1:QZ T σ r with
  |none=>simp[h1]at h
  |some x=>
   cases h2:nU T σ rs with
   |none=>simp[h1,h2]at h
   |some ys=>
    simp only[h1,h2,af,ay]at h;subst h;have⟨v,g1,g2⟩:=ado hT hr h1;have⟨vs,g3,g4⟩:=Cg hT hr rs ys h2;exact⟨v::vs,by simp only[List.mapM_cons,Sem.run_bind,g1,Result.andThen_ok,g3,Sem.run_pure],by simp only[bj];exact⟨g2,g4⟩⟩
def Oi(σ:St)(w0 w:World)(β:Nat->J cE)(I:Nat->Prop)(O0:i9)(fk:J Nat)(os':U (Option fe))(b:Nat):Prop:=
 (I b\/O0.HF b\/w0.heap.size<=b\/O0.own b)/\b<w.heap.size/\¬∃k,(fk=some k\/kept os' k)/\(∃ o,σ.obj k=some o)/\gb β k b
theorem ae9(hr:Rel P w0 O0 N β I σ a w)(fk:J Nat)(os':U (Option fe)):∀b,I b->Oi σ w0 w β I O0 fk os' b:=λb hb=>
 ⟨.inl hb,hr.mem.lt b hb,λ⟨k,_,⟨o,ho⟩,hβ⟩=>(hr.mem.ik k o b ho hβ).1 hb⟩
theorem Oj(hr:Rel P w0 O0 N β I σ a w){fk:J Nat}{os':U (Option fe)}{k aa len:Nat}{y:Tree}{v:Value}(h:fk≠some k/\¬kept os' k/\∃o dc,σ.obj k=some o/\(o.rows.drop aa).take len=aL dc/\dc.length=len/\y= .sl dc)(hv:VR P β w I (.own k aa len) v):TR w (Oi σ w0 w β I O0 fk os') y v:=by
 obtain⟨hne,hnk,o,dc,h1,h2,h3,rfl⟩:=h;simp only[VR]at hv;simp only[TR];rcases hv with ⟨_,rfl,_,h4⟩ |⟨b,sz,n,cap,ad,h4,rfl,h5,h6,h7⟩
 .exact .inl ⟨List.eq_nil_of_length_eq_zero (by omega),none,0,rfl,λ_=>rfl⟩
 .have⟨g1,g2,g3⟩:=hr.mem.own k o b sz n h1 h4;refine .inr ⟨b,ad,cap,sz,by rw[h3],by omega,⟨.inr (.inr (g3.elim .inr .inl)),g2,λ⟨k',e1,⟨o',e2⟩,e3⟩=>?_⟩,?_⟩
  .have:=hr.mem.nb k k' o o' b h1 e2 (.at h4) e3;subst this;exact e1.elim hne hnk
  .by_cases hc:cap=0
   .have:dc=[]:=List.eq_nil_of_length_eq_zero (by omega);subst this;simp[ci]
   .rw[h7 hc];have⟨B,hB,sq⟩:=hr.mem.cD k o h1;rw[h4]at hB;cases hB;obtain⟨hs,c,e,hc',_,sq⟩:=sq;have h8:=bo.take len _ _ _ _ (bo.drop aa _ _ _ _ sq);rw[h2]at h8;exact ci.li (ae9 hr fk os') hc' dc _ _ h8
theorem EY(hr:Rel P w0 O0 N β I σ a w){fk:J Nat}{os':U (Option fe)}{x:AV}{y:Tree}{v:Value}(h:QY σ.obj fk os' x y)(hv:VR P β w I x v):TR w (Oi σ w0 w β I O0 fk os') y v:=by
 cases x<;>simp only[QY]at h
 case t x=>subst h;simp only[VR]at hv;exact TR.mono (λ _ _=>rfl) (ae9 hr fk os') _ _ hv
 case cM=>subst h;simp only[VR]at hv;simp only[TR];exact .inl ⟨trivial,none,0,hv,λ_=>rfl⟩
 case own k aa len=>exact Oj hr h hv
 case oz k len=>
  rcases hv.uA with ⟨rfl,rfl⟩ |⟨_,hv⟩
  .obtain⟨hne,hnk,o,dc,h1,h2,h3,rfl⟩:=h;simp only[TR];exact .inl ⟨List.eq_nil_of_length_eq_zero h3,none,0,rfl,λ_=>rfl⟩
  .exact Oj hr h hv
theorem Ol(hr:Rel P w0 O0 N β I σ a w){fk:J Nat}{os':U (Option fe)}{β':Nat->J cE}:∀{r:U AV}{t:U Tree}{c:Array Value}{aa:Nat},kB σ.obj fk os' r t->cQ P β w I r c aa->cQ P β' w (Oi σ w0 w β I O0 fk os') (t.map AV.t) c aa
 |[],[],_,_,_,_=>trivial
 |x::xs,y::ys,c,aa,h,⟨⟨v,h1,h2,h3⟩,h4⟩=>⟨⟨v,h1,by simp only[VR];exact EY hr h.1 h2,h3⟩,Ol hr h.2 h4⟩
 |[],_::_,_,_,h,_=>h.elim
 |_::_,[],_,_,h,_=>h.elim
theorem kB.length{get:Nat->J aS}{fk:J Nat}{os':U (Option fe)}:∀{r:U AV}{t:U Tree},kB get fk os' r t->t.length=r.length
 |[],[],_=>rfl
 |_::_,_::_,h=>by simp[kB.length h.2]
 |[],_::_,h=>h.elim
 |_::_,[],h=>h.elim
theorem Ch(hr:Rel P w0 O0 N β I σ a w){fk:J Nat}{os':U (Option fe)}{β':Nat->J cE}:∀{rs:U (List AV)}{ts:U (List Tree)}{c:Array Value}{aa sz:Nat},ed σ.obj fk os' rs ts->bo P β w I rs c aa sz->bo P β' w (Oi σ w0 w β I O0 fk os') (aL ts) c aa sz
 |[],[],_,_,_,_,_=>trivial
 |r::rs,t::ts,c,aa,sz,h,⟨h1,h2,h3⟩=>⟨by rw[length_map,h.1.length,h1],Ol hr h.1 h2,Ch hr h.2 h3⟩
 |[],_::_,_,_,_,h,_=>h.elim
 |_::_,[],_,_,_,h,_=>h.elim
theorem ed.length{get:Nat->J aS}{fk:J Nat}{os':U (Option fe)}:∀{rs:U (List AV)}{ts:U (List Tree)},ed get fk os' rs ts->rs.length=ts.length
 |[],[],_=>rfl
 |_::_,_::_,h=>by simp only[bn,h.2.length]
 |[],_::_,h=>h.elim
 |_::_,[],h=>h.elim
theorem Mf(hr:Rel P w0 O0 N β I σ a w){fk:J Nat}{os':U (Option fe)}{β':Nat->J cE}:∀{r:U AV}{t:U Tree}{vs:U Value},kB σ.obj fk os' r t->bj P β w I r vs->bj P β' w (Oi σ w0 w β I O0 fk os') (t.map AV.t) vs
 |[],[],[],_,_=>by simp[bj]
 |x::xs,y::ys,v::vs,h,hv=>by
  simp only[bj]at hv;simp only[aF,bj,VR];exact⟨EY hr h.1 hv.1,Mf hr h.2 hv.2⟩
 |[],_::_,_,h,_=>h.elim
 |_::_,[],_,h,_=>h.elim
 |[],[],_::_,_,hv=>by simp[bj]at hv
 |_::_,_::_,[],_,hv=>by simp[bj]at hv
theorem IY(hr:Rel P w0 O0 N β I σ a w){fk:J Nat}{os':U (Option fe)}{β':Nat->J cE}:∀{rs:U (List AV)}{ts:U (List Tree)}{es:U MapEntry},ed σ.obj fk os' rs ts->cy P β w I rs es->cy P β' w (Oi σ w0 w β I O0 fk os') (aL ts) es
 |[],[],[],_,_=>trivial
 |_::_,_::_,_::_,h,hm=>⟨Mf hr h.1 hm.1,IY hr h.2 hm.2⟩
 |[],_::_,_,h,_=>h.elim
 |_::_,[],_,h,_=>h.elim
 |[],[],_::_,_,hm=>hm.elim
 |_::_,_::_,[],_,hm=>hm.elim
theorem ed.nil{get:Nat->J aS}{fk:J Nat}{os':U (Option fe)}{t:U (List Tree)}(h:ed get fk os' [] t):t=[]:=by
 cases t with
 |nil=>rfl
 |cons=>exact h.elim
theorem Xy(hr:Rel P w0 O0 N β I σ a w){F:Nat->Prop}{βi:Nat->J cE}{fk:J Nat}{os':U (Option fe)}(hF:∀k o b,fk=some k->σ.obj k=some o->¬kept os' k->gb β k b->F b)(hi:∀j,kept os' j->β j=βi j){x:AV}{c:RC}{v:Value}
 (h:GM σ.obj fk os' x c) (hv:VR P β w I x v):yv P F βi c w (Oi σ w0 w β I O0 fk os') v:=by
 unfold GM at h;split at h
 .rename_i cs ts;simp only[VR]at hv;obtain⟨vs,rfl,hv⟩:=hv;refine⟨vs,rfl,?_⟩;have:∀(cs:U AV)(ts:U Tree)(vs:U Value),kB σ.obj fk os' cs ts->bj P β w I cs vs->ep w (Oi σ w0 w β I O0 fk os') ts vs:=by
   intro cs
   induction cs with
   |nil=>intro ts vs h hv;cases ts<;>cases vs<;>first |trivial |exact h.elim |(simp [bj]at hv)
   |cons x xs ih=>
    intro ts vs h hv;cases ts with
    |nil=>exact h.elim
    |cons t ts=>
     cases vs with
     |nil=>simp[bj]at hv
     |cons u us=>simp only[bj]at hv;exact⟨EY hr h.1 hv.1,ih ts us h.2 hv.2⟩
  exact this cs ts vs.toList h hv
 .exact EY hr h hv
 .subst h;simp only[VR]at hv;exact .inl ⟨rfl,hv⟩
 .rename_i k aa len sz rows;obtain⟨rfl,hnk,rfl,o,h1,rfl,h2,h3⟩:=h;simp only[VR]at hv;rcases hv with ⟨_,rfl,_,h4⟩ |⟨b,sz,n,cap,ad,h4,rfl,h5,h6,h7⟩
  .exact .inl ⟨List.eq_nil_of_length_eq_zero (by omega),rfl⟩
  .have⟨g1,g2,g3⟩:=hr.mem.own k o b sz n h1 h4;have⟨B,hB,sq⟩:=hr.mem.cD k o h1;rw[h4]at hB;cases hB;obtain⟨hs,c,e,hc',hn,sq⟩:=sq;refine .inr ⟨b,c,e,cap,ad,n.s,by rw[h3],hF k o b rfl h1 hnk (.at h4),λhI=>hI.2.2 ⟨k,.inl rfl,⟨o,h1⟩,.at h4⟩,hc',by omega,?_,?_,λhc=>by simpa using h7 hc⟩
   .rw[<- hs,hn];simpa using h6
   .rw[<- hs];exact Ch hr h2 (bo.take len _ _ _ _ sq)
 .rename_i k aa len j len';obtain⟨rfl,rfl,rfl,hk⟩:=h;show VR P βi w (Oi σ w0 w β I O0 fk os') (.own k 0 len') v;simp only[VR]at hv ⊢;rw[<- hi k hk];exact hv
 .exact h.elim
theorem Ci{α:Type}(l:U α)(t:Nat):lk ((List.range l.length).zip l) t=l[t]? :=by
 have p0:∀(l:U α)(s t:Nat),(lk ((List.range' s l.length).zip l) t)=if s<=t/\t<s+l.length then l[t -s]? else none:=by
  intro l
  induction l with
  |nil=>intro s t;simp[lk]
  |cons x xs ih=>
   intro s t;simp only[bn,List.range'_succ,List.zip_cons_cons,lk];by_cases hst:s=t
   all_goals grind
 rw[List.range_eq_range',p0];by_cases ht:t<l.length
 .simp[ht]
 .rw[aW (by omega)];simp[List.getElem?_eq_none (Nat.le_of_not_lt ht)]
theorem Q0{x:AV}:∀{l:U AV},x∈l->∀k∈refs x,k∈eX l
 |[],h,_,_=>by simp at h
 |y::ys,h,k,hk=>by
  simp only[eX,bg];rcases aO.1 h with rfl |h
  .exact .inl hk
  .exact .inr (Q0 h k hk)
theorem akI(hT : eZ P T){f : FuncId}{fn : Func}{c : Code}{args : U AV}{os : U fe}{os' : U (Option fe)}{rv : RV}(hfn : P.funcs[f]? = some fn)(hb : fn.body = some c)(hname : (fn.name == "runtime.NumGoroutine") = false)(hN : args.length <= fn.ntmps)(hargs : ∀ k ∈ eX args, k < 1000)(hos : os.length <= 1000)(hlen : os'.length = os.length)
 (h:Ev P fn.ntmps c (arv T fn.results.toList rv os') (rj.st ⟨(List.range args.length).zip args,(List.range (os.map gj).length).zip (os.map gj)⟩)):p6 P f args os os' rv:=by
 refine⟨⟨fn,hfn,by rw[hb];rfl,hname⟩,λw β I vs hβ hM hv=>?_⟩;have hvl:=bj.length _ _ hv;simp only[Array.length_toList]at hvl;have ii:∀k,lk ((List.range (os.map gj).length).zip (os.map gj)) k=rK os k:=λk=>by rw[Ci];simp[rK]
 refine calls_of_wp hfn hb ?_;have hrel:Rel P w (qC β I) fn.ntmps β I (rj.st ⟨(List.range args.length).zip args,(List.range (os.map gj).length).zip (os.map gj)⟩) { tmps:=vs++Array.replicate (fn.ntmps -vs.size) undef,defers:=[] } w:=by
  refine⟨rfl,by simp;omega,λt=>?_,?_⟩
  .simp only[rj.st,Ci,er];by_cases ht:t<args.length
   .obtain⟨v,g1,g2⟩:=bj.get _ _ t _ hv (bX ht);rw[bX ht];simp only[Option.getD_some];have:(vs++Array.replicate (fn.ntmps -vs.size) undef).getD t undef=v:=by
     rw[Array.getElem?_toList]at g1;simp only[Array.getD_eq_getD_getElem?,Array.getElem?_append,show t<vs.size by omega,if_true,g1,Option.getD_some]
    rw[this];exact g2
   .rw[List.getElem?_eq_none (Nat.le_of_not_lt ht)];simp[VR]
  .have:(rj.st ⟨(List.range args.length).zip args,(List.range (os.map gj).length).zip (os.map gj)⟩).obj=rK os:=funext ii;rw[this];exact hM
 have hold:tG (rj.st ⟨(List.range args.length).zip args,(List.range (os.map gj).length).zip (os.map gj)⟩):=by
  refine⟨λ t k hk=>?_,λk o hk=>?_⟩
  .simp only[rj.st,Ci]at hk;cases ht:args[t]? with
   |none=>rw[ht]at hk;simp[refs]at hk
   |some x=>rw[ht]at hk;have:=hargs k (Q0 (cO ht) k hk);omega
  .have hk:rK os k=some o:=(ii k).symm.trans hk;simp only[rK,eH]at hk;obtain⟨p,hp,rfl⟩:=hk;refine⟨by have:=(dh.1 hp).1;omega,λr hr x hx j hj=>?_⟩;simp only[gj,aL,mem_map]at hr;obtain⟨q,_,rfl⟩:=hr;simp only[mem_map]at hx;obtain⟨t,_,rfl⟩:=hx;simp[refs]at hj
 refine wp_mono (h w (qC β I) β I _ w hrel hold) ?_
 have fin:∀(a':Act) (w':World) (β':Nat->J cE) (I':Nat->Prop) (σ':St),Rel P w (qC β I) fn.ntmps β' I' σ' a' w'->(∃ xs fk,nU T σ' fn.results.toList=some xs/\GG σ'.obj fk os' xs rv/\MY σ'.obj fk os')->
  a'.defers=[]/\∃v,(results fn a'.tmps).run P w'= .ok v w'/\M1 P w β I os' rv (.returned v) w':=by
  intro a' w' β' I' σ' hr ⟨xs,fk,hx,he,heo⟩;obtain⟨us,g1,g2⟩:=Cg hT hr _ _ hx;have Fm:=bj.length _ _ g2;have hm:=hr.mem;have hrun:(fn.results.mapM (Xw a'.tmps)).run P w'= .ok us.toArray w':=by rw[Array.mapM_eq_mapM_toList,Sem.run_map,g1];rfl
  have hko:∀j p,os'[j]? =some (some p)->∃B o,β j=some B/\β' j=some B/\σ'.obj j=some o/\OR P β' w' I' o B/\o.sz=p.1/\ed σ'.obj fk os' (o.rows.take p.2.length) p.2:=by
   intro j p hj;have⟨_,o,e1,e2,e3⟩:=heo j p hj;have hjl:j<os.length:=(by rw[<- hlen];exact(dh.1 hj).1);obtain⟨B,hB,_⟩:=hM.cD j (gj os[j]) (by simp[rK,hjl]);have hB':=hm.anch j B (by simp only[qC];rw[aT (by omega)];exact hB);have⟨B',hB2,hO⟩:=hm.cD j o e1;rw[hB']at hB2;cases hB2;exact⟨B,o,hB,hB',e1,hO,e2,e3⟩
  have hkept:∀j,kept os' j->β' j=β j:=λj ⟨p,hp⟩=>by
   have⟨B,o,h1,h2,_⟩:=hko j p hp;rw[h1,h2]
  have sd:∀j o,Dy os' j=some o->∃p,os'[j]? =some (some p)/\o=gj p:=by
   intro j o hj;simp only[Dy,eH,Option.join_eq_some_iff]at hj;obtain⟨p,hp,rfl⟩:=hj;exact⟨p,hp,rfl⟩
  have pZ:∀b,I b->¬Xc β b/\b<w.heap.size:=by
   intro b hb;refine⟨?_,hM.lt b hb⟩;rintro⟨j,B,hj,hB⟩;rcases Nat.lt_or_ge j os.length with hjl |hjl
   .exact(hM.ownB j (gj os[j]) B b (by simp[rK,hjl]) hj hB).1 hb
   .rw[hβ j hjl]at hj;cases hj
  have hOI:∀b,I b->Oi σ' w w' β' I' (qC β I) fk os' b:=by
   intro b hb;have⟨g1,g2⟩:=pZ b hb;refine⟨.inr (.inl hb),Nat.lt_of_lt_of_le g2 hm.le,?_⟩;rintro⟨k,_,⟨o,ho⟩,hβk⟩;rcases (hm.ik k o b ho hβk).2.2 with g |g
   .exact g1 g
   .omega
  have hmem:Mem P w (qC β I) β (Oi σ' w w' β' I' (qC β I) fk os') (Dy os') w':=by
   constructor
   .intro j o hj;obtain⟨p,hp,rfl⟩:=sd j o hj;have⟨B,o1,b1,b2,b3,b4,b5,b6⟩:=hko j p hp;refine⟨B,b1,?_⟩;cases B with
    |none=>
     simp only[OR]at b4 ⊢;rw[b4]at b6;have:=ed.nil (by simpa using b6);simp[gj,aL,this]
    | «at» b s n=>
     obtain⟨c1,c,e,c2,c3,c4⟩:=b4;refine⟨by rw[c1,b5];rfl,c,e,c2,c3,?_⟩;exact Ch hr b6 (bo.take _ _ _ _ _ c4)
    |mp b=>
     obtain⟨es,cl,c1,cl',c2,c3⟩:=b4;have hl:=b6.length;simp only[List.length_take]at hl;refine⟨es,cl,c1,by simp only[gj,aL,length_map];omega,λe=>?_,c3⟩;have e':p.1=p.2.length:=(by simpa[gj,aL]using e);rw[take_of_length_le (by omega)]at b6;exact IY hr b6 (c2 (by omega))
   .intro j j' o o' B B' b h1 h2 h3 h4 h5 h6;obtain⟨p,hp,rfl⟩:=sd j o h1;obtain⟨p',hp',rfl⟩:=sd j' o' h2;have⟨_,o1,_,_,b3,_⟩:=hko j p hp;have⟨_,o1',_,_,b3',_⟩:=hko j' p' hp';rw[<- hkept j ⟨p,hp⟩]at h3;rw[<- hkept j' ⟨p',hp'⟩]at h4;exact hm.gd j j' o1 o1' B B' b b3 b3' h3 h4 h5 h6
   .intro j o B b h1 h2 h5;obtain⟨p,hp,rfl⟩:=sd j o h1;have⟨_,o1,_,_,b3,_⟩:=hko j p hp;rw[<- hkept j ⟨p,hp⟩]at h2;have⟨_,c2,c3⟩:=hm.ownB j o1 B b b3 h2 h5;exact⟨λ hb=>hb.2.2 ⟨j,.inr ⟨p,hp⟩,⟨o1,b3⟩,B,h2,h5⟩,c2,c3⟩
   .exact λb hb=>hb.2.1
   .intro b hb;rcases hb.1 with g |g |g |g
    .exact hm.up b g
    .exact .inl g
    .exact .inr (.inr g)
    .exact .inr (.inl g)
   .exact hm.keep
   .exact hm.le
   .exact hm.os
   .exact hm.tape
   .exact hm.output
   .intro j B hj;simp only[qC]at hj;split at hj
    .exact hj
    .cases hj
   .exact hM.vars.mono (λ b hb=>hm.keep b (pZ b hb).2 (pZ b hb).1) hOI
  have hF:∀k o b,fk=some k->σ'.obj k=some o->¬kept os' k->gb β' k b->AH w β os' b:=by
   intro k o b _ h2 h3 h4;refine⟨(hm.ik k o b h2 h4).2.2,λj o' h5 h6=>?_⟩;obtain⟨p,hp,rfl⟩:=sd j o' h5;have⟨_,o1,_,_,b3,_⟩:=hko j p hp;have h6':gb β' j b:=by
    obtain⟨B,e1,e2⟩:=h6;exact⟨B,by rw[hkept j ⟨p,hp⟩];exact e1,e2⟩
   have:=hm.nb k j o o1 b h2 b3 h4 h6';subst this;exact h3 ⟨p,hp⟩
  have ret:∀v,ri P (AH w β os') β rv w' (Oi σ' w w' β' I' (qC β I) fk os') v->M1 P w β I os' rv (.returned v) w':=λv hv'=>⟨v,_,rfl,hmem,hOI,hv'⟩;refine⟨hr.defers,?_⟩;have hlist:∀(xs:U AV)(cs:U RC)(us:U Value),m5 σ'.obj fk os' xs cs->bj P β' w' I' xs us->UD P (AH w β os') β cs w' (Oi σ' w w' β' I' (qC β I) fk os') us:=by
   intro xs
   induction xs with
   |nil=>intro cs us h1 h2;cases cs<;>cases us<;>first |trivial |exact h1.elim |(simp [bj]at h2)
   |cons x xs ih=>
    intro cs us h1 h2;cases cs with
    |nil=>exact h1.elim
    |cons c cs=>
     cases us with
     |nil=>simp[bj]at h2
     |cons u us=>simp only[bj]at h2;exact⟨Xy hr hF hkept h1.1 h2.1,ih cs us h1.2 h2.2⟩
  simp only[Xx,Sem.run_bind,hrun,Result.andThen_ok,Sem.run_pure];refine⟨_,rfl,ret _ ?_⟩
  match xs,us,rv,he,g2 with
  |[x],[u],.one c,he,g2=>
   simp only[bj]at g2;simpa[ri]using Xy hr hF hkept he g2.1
  |x::y::r,u::u'::us,.eC cs,he,g2=>
   have:=hlist _ _ _ he g2;rw[dif_neg (by simp)];exact⟨_,rfl,by simpa using this⟩
  |[],[],.eC cs,he,g2=>
   simp only[GG]at he;subst he;rw[dif_neg (by simp)];exact⟨_,rfl,trivial⟩
  |[x],[u],.eC cs,he,_=>exact he.elim
  |[],_,.one c,he,_=>exact he.elim
  |x::y::r,_,.one c,he,_=>exact he.elim
  |[],_::_,.eC _,_,g2=>simp[bj]at g2
  |[_],[],_,_,g2=>simp[bj]at g2
  |[_],_::_::_,_,_,g2=>simp[bj]at g2
  |_::_::_,[],_,_,g2=>simp[bj]at g2
  |_::_::_,[_],_,_,g2=>simp[bj]at g2
 rintro e a' w' ⟨β',I',σ',h1,h2,h3⟩;cases e with
 |normal=>exact fin a' w' β' I' σ' h1 h3
 |ret=>exact fin a' w' β' I' σ' h1 h3
 |_=>exact h3.elim
def NX(P:Program)(get:Nat->J aS)(xs:U AV)(os':U (Nat×aS))(rv:AV):Prop:=
 ∀(w0:World) (O0:i9) (β:Nat->J cE) (I:Nat->Prop) (w:World) (vs:Array Value),Mem P w0 O0 β I get w->bj P β w I xs vs.toList->∃ β' I',Mem P w0 O0 β' I' (nq os') w/\(∀ b,I b->I' b)/\VR P β' w I' rv (if h:vs.size=1 then vs[0]else .tuple vs)
def aqS(P:Program)(T:dC)(rs:U ResultVar)(rv:AV)(os':U (Nat×aS)):Exit->St->Prop
 | .normal,σ=>∃xs,nU T σ rs=some xs/\NX P σ.obj xs os' rv
 | .ret,σ=>∃xs,nU T σ rs=some xs/\NX P σ.obj xs os' rv
 |_,_=>False
theorem akJ(hT : eZ P T){f : FuncId}{fn : Func}{c : Code}{args : U AV}{os : U aS}{os' : U (Nat × aS)}{rv : AV}(hfn : P.funcs[f]? = some fn)(hb : fn.body = some c)(hname : (fn.name == "runtime.NumGoroutine") = false)(hN : args.length <= fn.ntmps)(hargs : ∀ k ∈ eX args, k < 1000)(hos : os.length <= 1000)
 (SZ:∀o∈os,∀r∈o.rows,∀x∈r,∀j∈refs x,j<1000)
 (h:Ev P fn.ntmps c (aqS P T fn.results.toList rv os') (rj.st ⟨(List.range args.length).zip args,(List.range os.length).zip os⟩)):yy P f args os os' rv:=by
 refine⟨⟨fn,hfn,by rw[hb];rfl,hname⟩,λw β I vs hβ hM hv=>?_⟩;have hvl:=bj.length _ _ hv;simp only[Array.length_toList]at hvl;have ii:∀k,lk ((List.range os.length).zip os) k=sR os k:=λk=>by rw[Ci];rfl
 refine calls_of_wp hfn hb ?_;have hrel:Rel P w (qC β I) fn.ntmps β I (rj.st ⟨(List.range args.length).zip args,(List.range os.length).zip os⟩) { tmps:=vs++Array.replicate (fn.ntmps -vs.size) undef,defers:=[] } w:=by
  refine⟨rfl,by simp;omega,λt=>?_,?_⟩
  .simp only[rj.st,Ci,er];by_cases ht:t<args.length
   .obtain⟨v,g1,g2⟩:=bj.get _ _ t _ hv (bX ht);rw[bX ht];simp only[Option.getD_some];have:(vs++Array.replicate (fn.ntmps -vs.size) undef).getD t undef=v:=by
     rw[Array.getElem?_toList]at g1;simp only[Array.getD_eq_getD_getElem?,Array.getElem?_append,show t<vs.size by omega,if_true,g1,Option.getD_some]
    rw[this];exact g2
   .rw[List.getElem?_eq_none (Nat.le_of_not_lt ht)];simp[VR]
  .have:(rj.st ⟨(List.range args.length).zip args,(List.range os.length).zip os⟩).obj=sR os:=funext ii;rw[this];exact hM
 have hold:tG (rj.st ⟨(List.range args.length).zip args,(List.range os.length).zip os⟩):=by
  refine⟨λ t k hk=>?_,λk o hk=>?_⟩
  .simp only[rj.st,Ci]at hk;cases ht:args[t]? with
   |none=>rw[ht]at hk;simp[refs]at hk
   |some x=>rw[ht]at hk;have:=hargs k (Q0 (cO ht) k hk);omega
  .have hk:sR os k=some o:=(ii k).symm.trans hk;simp only[sR]at hk;refine⟨by have:=(dh.1 hk).1;omega,λr hr x hx j hj=>?_⟩;have:=SZ o (cO hk) r hr x hx j hj;omega
 refine wp_mono (h w (qC β I) β I _ w hrel hold) ?_
 have fin:∀(a':Act) (w':World) (β':Nat->J cE) (I':Nat->Prop) (σ':St),Rel P w (qC β I) fn.ntmps β' I' σ' a' w'->(∃ xs,nU T σ' fn.results.toList=some xs/\NX P σ'.obj xs os' rv)->
  a'.defers=[]/\∃v,(results fn a'.tmps).run P w'= .ok v w'/\aqR P w β I os' rv (.returned v) w':=by
  intro a' w' β' I' σ' hr ⟨xs,hx,he⟩;obtain⟨us,g1,g2⟩:=Cg hT hr _ _ hx;have hrun:(fn.results.mapM (Xw a'.tmps)).run P w'= .ok us.toArray w':=by rw[Array.mapM_eq_mapM_toList,Sem.run_map,g1];rfl
  have pZ:∀b,I b->¬Xc β b/\b<w.heap.size:=by
   intro b hb;refine⟨?_,hM.lt b hb⟩;rintro⟨j,B,hj,hB⟩;rcases Nat.lt_or_ge j os.length with hjl |hjl
   .exact(hM.ownB j os[j] B b (by simp[sR,hjl]) hj hB).1 hb
   .rw[hβ j hjl]at hj;cases hj
  obtain⟨β2,I2,hm,hI2,hv2⟩:=he w (qC β I) β' I' w' us.toArray hr.mem (by simpa using g2);have hmem:Mem P w (qC β I) β2 (λ b=>I2 b\/I b) (nq os') w':=by
   constructor
   .intro k o hk;have⟨B,hB,hO⟩:=hm.cD k o hk;exact⟨B,hB,OR.mono (λ _ _ h=>h) (λ _ _=>rfl) (λ b hb=> .inl hb) (λ _ _=>rfl) hO⟩
   .exact hm.gd
   .intro k o B b h1 h2 h3;have⟨a1,a2,a3⟩:=hm.ownB k o B b h1 h2 h3;refine⟨?_,a2,a3⟩;rintro (hb |hb)
    .exact a1 hb
    .have⟨c1,c2⟩:=pZ b hb;rcases a3 with a3 |a3
     .exact c1 a3
     .omega
   .rintro b (hb |hb)
    .exact hm.lt b hb
    .exact Nat.lt_of_lt_of_le (pZ b hb).2 hm.le
   .rintro b (hb |hb)
    .exact hm.up b hb
    .exact .inl hb
   .exact hm.keep
   .exact hm.le
   .exact hm.os
   .exact hm.tape
   .exact hm.output
   .exact hm.anch
   .exact hm.vars.mono (λ _ _=>rfl) (λ b hb=> .inl hb)
  refine⟨hr.defers,?_⟩;simp only[Xx,Sem.run_bind,hrun,Result.andThen_ok,Sem.run_pure];exact⟨_,rfl,_,β2,_,rfl,hmem,λb hb=> .inr hb,VR.mono (λ _ _ h=>h) (λ _ _=>rfl) (λ b hb=> .inl hb) _ _ hv2⟩
 rintro e a' w' ⟨β',I',σ',h1,h2,h3⟩;cases e with
 |normal=>exact fin a' w' β' I' σ' h1 h3
 |ret=>exact fin a' w' β' I' σ' h1 h3
 |_=>exact h3.elim
theorem ri.HC{F F':Nat->Prop}{βi:Nat->J cE}{w':World}{I':Nat->Prop}(hF:∀b,F b->F' b){rv:RV}{v:Value}(h:ri P F βi rv w' I' v):ri P F' βi rv w' I' v:=by
 have hc:∀(c:RC)(v:Value),yv P F βi c w' I' v->yv P F' βi c w' I' v:=by
  intro c v h;cases c with
  |d x=>exact h
  |fresh sz rows=>
   rcases h with h |⟨b,c,e,cap,o,s,h1,h2,h3⟩
   .exact .inl h
   .exact .inr ⟨b,c,e,cap,o,s,h1,hF b h2,h3⟩
  |whole j len=>exact h
 cases rv with
 |one c=>exact hc c v h
 |eC cs=>
  obtain⟨vs,rfl,h⟩:=h;refine⟨vs,rfl,?_⟩;have:∀(cs:U RC)(vs:U Value),UD P F βi cs w' I' vs->UD P F' βi cs w' I' vs:=by
   intro cs
   induction cs with
   |nil=>intro vs h;cases vs with
    |nil=>trivial
    |cons=>exact h.elim
   |cons c cs ih=>intro vs h;cases vs with
    |nil=>exact h.elim
    |cons v vs=>exact⟨hc c v h.1,ih vs h.2⟩
  exact this cs vs.toList h
theorem Xz{f:FuncId}{args:U AV}{rv:RV}(h:p6 P f args [] [] rv):tf P f args rv:=by
 refine⟨h.1,λw I vs hlt hgv hv=>?_⟩;have hM:Mem P w (qC mA I) mA I (rK []) w:=by
  refine⟨λ k o hk=>by simp[rK]at hk,λk k' o o' B B' b hk=>by simp[rK]at hk,λk o B b hk=>by simp[rK]at hk,hlt,λb hb=> .inl hb,λ_ _ _=>rfl,aC _,rfl,rfl,rfl,λj B hj=>?_,hgv⟩;simp only[qC,mA,ite_self]at hj;cases hj
 refine(h.2 w mA I vs (λ _ _=>rfl) hM hv).mono ?_;rintro e w' ⟨v,I',rfl,g1,g2,g3⟩;have hno:∀b,¬(qC mA I).own b:=λb ⟨j,B,hj,_⟩=>by cases hj
 refine⟨v,I',rfl,⟨g1.os,g1.tape,g1.output,g1.le,λb hb=>g1.keep b hb (hno b)⟩,g2,g1.lt,λb hb=>?_,ri.HC (λ b hb=>?_) g3⟩
 .rcases g1.up b hb with h |h |h
  .exact .inl h
  .exact(hno b h).elim
  .exact .inr h
 .rcases hb.1 with h |h
  .exact(hno b h).elim
  .exact h
end
open Go.RowKit Go.WideShapes Go.ChangeShapes
inductive CS where
 |int (k:IntKind)
 |bool
 |str
 |sl (row:List CS)
 |any
  |mu (row:List CS)
 |back
def arw:CS->Tree->Prop
 | .int k,x=>∃n,x= .sc (.int k n)/\(Lit.int k n).wf=true
 | .bool,x=>∃b,x= .sc (.bool b)
 | .str,x=>∃s,x= .sc (.string s)/\s.size<=maxLen
 |_,_=>False
def aqT:CS->Nat
 | .int .i64=>8
 | .int _=>1
 | .bool=>1
 | .str=>16
 |_=>24
def Pa:CS->Nat
 | .int .i64=>8
 | .int _=>1
 | .bool=>1
 |_=>8
def XN:Nat->U CS->Nat
 |o,[]=>o
 |o,c::cs=>XN ((o+(Pa c -1))/Pa c*Pa c+aqT c) cs
def NO(r:U CS):Nat:=bif r.any (λ c=>Pa c==8)then(XN 0 r+7)/8*8 else XN 0 r
mutual
inductive Hd(row:List CS):Tree->Prop
 |mk (rows:List (List Tree)) (hl:rows.length<=maxLen) (h:pj row rows):Hd row (.sl rows)
inductive pj(row:List CS):List (List Tree)->Prop
 |nil:pj row []
 |cons {r:List Tree} {rs:List (List Tree)} (h:i6 row row r) (t:pj row rs):pj row (r::rs)
inductive i6(row:List CS):List CS->List Tree->Prop
 |nil:i6 row [] []
 |back {cs:List CS} {x:Tree} {xs:List Tree} (h:Hd row x) (t:i6 row cs xs):i6 row (.back::cs) (x::xs)
 |one {c:CS} {cs:List CS} {x:Tree} {xs:List Tree} (h:arw c x) (t:i6 row cs xs):i6 row (c::cs) (x::xs)
end
mutual
def Fit:CS->Tree->Prop
 | .int k,x=>∃n,x= .sc (.int k n)/\(Lit.int k n).wf=true
 | .bool,x=>∃b,x= .sc (.bool b)
 | .str,x=>∃s,x= .sc (.string s)/\s.size<=maxLen
 | .sl row,x=>∃rows,x= .sl rows/\(rows.length<=maxLen/\rows.length*NO row<=reachBytes)/\∀r∈rows,c8 row r
 | .any,_=>True
 | .mu row,x=>Hd row x
 | .back,_=>False
def c8:List CS->List Tree->Prop
 |[],[]=>True
 |c::cs,x::xs=>Fit c x/\c8 cs xs
 |_,_=>False
end
mutual
def jp:Tree->Nat
 | .sc (.string s)=>s.size+1
 | .sc _=>1
 | .sl rows=>vP rows+1
def vP:List (List Tree)->Nat
 |[]=>0
 |r::rs=>iR r+vP rs
def iR:List Tree->Nat
 |[]=>0
 |x::xs=>jp x+iR xs
end
theorem Bh:∀a b:U Tree,iR (a++b)=iR a+iR b
 |[],b=>by simp[iR]
 |x::a,b=>by simp only[cons_append,iR,Bh a b];omega
structure Bk(H:Type) where
 b:DataW H->Nat
 a:List (DataW H)->Nat
 str:∀l,b (.lit (.string l))=l.length+1
 int:∀k n,b (.lit (.int k n))=1
 bool:∀v,b (.lit (.bool v))=1
 nil:b .nil=1
 sl:∀e s,b (.slice e s)=a e+a s+1
 agg:∀p,b (.agg p)=a p+1
 a0:a []=0
 a1:∀d r,a (d::r)=b d+a r
theorem Bk.app{H:Type}(K:Bk H)(l r:U (DataW H)):K.a (l++r)=K.a l+K.a r:=by
 induction l with
 |nil=>simp[K.a0]
 |cons x l ih=>simp only[cons_append,K.a1,ih];omega
theorem Bk.drop{H:Type}(K:Bk H){l:U (DataW H×List MemPlace)}{j:Nat}{y:DataW H×List MemPlace}(h:l[j]? =some y):K.a ((l.map (·.1)).drop j)=K.b y.1+K.a ((l.map (·.1)).drop (j+1)):=by
 obtain⟨hj,rfl⟩:=dh.1 h;rw[List.drop_eq_getElem_cons (by simpa using hj),K.a1];simp
def yl(P:Program)(go:TypeId->J (List CS)):Nat->U Field->J (List CS)
 |_,[]=>some []
 |o,f::fs=>(go f.type).bind λa=>if f.offset=o/\a.length=P.cellsOf f.type then(yl P go (o+a.length) fs).map (a++ ·)else none
def ahK(P:Program)(t u:TypeId):J (List CS):=if u=t then some [.back]else match P.underlying u with
 |some (.int k)=>some [.int k]
 |some .bool=>some [.bool]
 |some .string=>some [.str]
 |_=>none
def O2(P:Program)(t e:TypeId):J (List CS):=match P.underlying e with
 |some (.struct fs)=>(yl P (ahK P t) 0 fs.toList).bind λr=>if r.length=P.cellsOf e/\0<r.length then some r else none
 |_=>none
def y4(P:Program)(cut:U TypeId):Nat->TypeId->J (List CS)
 | 0,_=>none
 |n+1,t=>match P.underlying t with
  |some (.int k)=>some [.int k]
  |some .bool=>some [.bool]
  |some .string=>some [.str]
  |some (.slice e)=>if cut.contains t then(match O2 P t e with |some row=>some [.mu row] |none=>some [.any])else(y4 P cut n e).bind λr=>if r.length=P.cellsOf e/\0<r.length/\NO r<=P.bytesOf e then some [.sl r]else none
  |some (.struct fs)=>(yl P (y4 P cut n) 0 fs.toList).bind λr=>if r.length=P.cellsOf t then some r else none
  |some (.array m e)=>(y4 P cut n e).bind λr=>if r.length=P.cellsOf e/\m*r.length=P.cellsOf t then some (List.replicate m r).flatten else none
  |_=>none
theorem c8.length:∀(cs:U CS)(ts:U Tree),c8 cs ts->ts.length=cs.length
 |[],[],_=>rfl
 |c::cs,x::xs,h=>by simp only[c8]at h;simp[c8.length cs xs h.2]
 |[],_::_,h=>by simp[c8]at h
 |_::_,[],h=>by simp[c8]at h
theorem c8.append:∀(cs:U CS)(ts:U Tree){cs':U CS}{ts':U Tree},c8 cs ts->c8 cs' ts'->c8 (cs++cs') (ts++ts')
 |[],[],_,_,_,h=>h
 |c::cs,x::xs,_,_,h,h'=>by simp only[c8,cons_append]at h ⊢;exact⟨h.1,c8.append cs xs h.2 h'⟩
 |[],_::_,_,_,h,_=>by simp[c8]at h
 |_::_,[],_,_,h,_=>by simp[c8]at h
def Here(w:World)(b:Nat):Prop:=b<w.heap.size
section
variable {w:World} {I:Nat->Prop}
theorem ep.append:∀(ts:U Tree)(cs:U Value){ts':U Tree}{cs':U Value},ep w I ts cs->ep w I ts' cs'->ep w I (ts++ts') (cs++cs')
 |[],[],_,_,_,h=>h
 |_::xs,_::vs,_,_,h,h'=>⟨h.1,ep.append xs vs h.2 h'⟩
 |[],_::_,_,_,h,_=>h.elim
 |_::_,[],_,_,h,_=>h.elim
theorem ep.length:∀(ts:U Tree)(cs:U Value),ep w I ts cs->ts.length=cs.length
 |[],[],_=>rfl
 |_::xs,_::vs,h=>by simp[ep.length xs vs h.2]
 |[],_::_,h=>h.elim
 |_::_,[],h=>h.elim
theorem adq:∀(ts:U Tree)(cs:U Value)(b aa:Nat),ep w I ts cs->(∀ i,i<cs.length->w.cell? ⟨b,aa+i,none⟩=cs[i]?)->df w I ts b aa
 |[],[],_,_,_,_=>by simp[df]
 |x::xs,v::vs,b,aa,h,hc=>by
  simp only[df];refine⟨⟨v,by simpa using hc 0 (by simp),h.1⟩,adq xs vs b (aa+1) h.2 λi hi=>?_⟩;have:=hc (i+1) (by simpa using hi);rw[show aa+(i+1)=aa+1+i by omega]at this;simpa using this
 |[],_::_,_,_,h,_=>h.elim
 |_::_,[],_,_,h,_=>h.elim
end
section
variable {H:Type} {enc:TypeId×Value->H} {P:Program} {w:World} {sp:Nat->Bool} {held:Bool}
theorem Q5{a:Addr}{v:Value}(h:w.cell? a=some v):a.spot=none/\a.block<w.heap.size:=by
 simp only[World.cell?]at h;split at h
 .rename_i c e st hc;split at h
  .cases h
  .rename_i hs;exact⟨by simpa using hs,(Array.getElem?_eq_some_iff.1 hc).1⟩
 .cases h
def QQ(P:Program)(t:TypeId)(x:DataW H×List MemPlace):Prop:=∀k∈x.1.weights P t,k<=reachBytes
theorem zn{e:TypeId}:∀{l:U (DataW H)}{d:DataW H},d∈l->∀k∈d.weights P e,k∈DataW.weightsAll P e l
 |a::l,d,h,k,hk=>by
  simp only[DataW.weightsAll,bg];rcases aO.1 h with rfl |h
  .exact .inl hk
  .exact .inr (zn h k hk)
theorem TM(m:Nat)(cs:U Value)(go:TypeId->J (List CS))(hgo:∀t sh,go t=some sh->∀cs x,DataW.trod enc P w 0 sp held m t cs=some x->QQ P t x->∃ts,ep w (Here w) ts cs/\c8 sh ts/\∀K:Bk H,iR ts<=K.b x.1):
 ∀(fs:U Field)(l:U (DataW H×List MemPlace))(o:Nat)(sh:U CS),yl P go o fs=some sh->l.length=fs.length->(∀ (i:Nat) (f:Field) (x:DataW H×List MemPlace),fs[i]? =some f->l[i]? =some x->DataW.trod enc P w 0 sp held m f.type ((cs.drop f.offset).take (P.cellsOf f.type))=some x/\QQ P f.type x)->
  ∃ts,ep w (Here w) ts ((cs.drop o).take sh.length)/\c8 sh ts/\∀K:Bk H,iR ts<=K.a (l.map (·.1))
 |[],l,o,sh,h,_,_=>by
  simp only[yl,ay]at h;subst h;exact⟨[],by simp[ep],by simp[c8],λK=>by simp[iR]⟩
 |f::fs,[],o,sh,h,hl,hf=>by simp at hl
 |f::fs,x::l,o,sh,h,hl,hf=>by
  simp only[yl,ai]at h;obtain⟨a,h1,h2⟩:=h;split at h2
  .rename_i hc;obtain⟨hc1,hc2⟩:=hc;simp only[eH]at h2;obtain⟨r,h3,rfl⟩:=h2;have⟨hx,hz⟩:=hf 0 f x rfl rfl;obtain⟨ts,g1,g2,k1⟩:=hgo _ _ h1 _ _ hx hz;obtain⟨ts',g3,g4,k2⟩:=TM m cs go hgo fs l _ _ h3 (by simpa using hl) λi f' x' hf' hx'=>hf (i+1) f' x' hf' hx';refine⟨ts++ts',?_,c8.append _ _ g2 g4,λK=>by have:=k1 K;have:=k2 K;rw[Bh,aF,K.a1];omega⟩;rw[dM,List.take_add,List.drop_drop];rw[hc1,<- hc2]at g1;exact ep.append _ _ g1 g3
  .cases h2
theorem i6.append{row:U CS}:∀{a b:U CS}{x y:U Tree},i6 row a x->i6 row b y->i6 row (a++b) (x++y)
 |_,_,_,_,.nil,h=>h
 |_,_,_,_,.back h t,h'=> .back h (t.append h')
 |_,_,_,_,.one h t,h'=> .one h (t.append h')
theorem Om{row:U CS}(m:Nat)(cs:U Value)(go:TypeId->J (List CS))(hgo:∀t sh,go t=some sh->∀cs x,DataW.trod enc P w 0 sp held m t cs=some x->∃ts,ep w (Here w) ts cs/\i6 row sh ts/\∀K:Bk H,iR ts<=K.b x.1):
 ∀(fs:U Field)(l:U (DataW H×List MemPlace))(o:Nat)(sh:U CS),yl P go o fs=some sh->l.length=fs.length->(∀ (i:Nat) (f:Field) (x:DataW H×List MemPlace),fs[i]? =some f->l[i]? =some x->DataW.trod enc P w 0 sp held m f.type ((cs.drop f.offset).take (P.cellsOf f.type))=some x)->
  ∃ts,ep w (Here w) ts ((cs.drop o).take sh.length)/\i6 row sh ts/\∀K:Bk H,iR ts<=K.a (l.map (·.1))
 |[],l,o,sh,h,_,_=>by
  simp only[yl,ay]at h;subst h;exact⟨[],by simp[ep],.nil,λK=>by simp[iR]⟩
 |f::fs,[],o,sh,h,hl,hf=>by simp at hl
 |f::fs,x::l,o,sh,h,hl,hf=>by
  simp only[yl,ai]at h;obtain⟨a,h1,h2⟩:=h;split at h2
  .rename_i hc;obtain⟨hc1,hc2⟩:=hc;simp only[eH]at h2;obtain⟨r,h3,rfl⟩:=h2;have hx:=hf 0 f x rfl rfl;obtain⟨ts,g1,g2,k1⟩:=hgo _ _ h1 _ _ hx;obtain⟨ts',g3,g4,k2⟩:=Om m cs go hgo fs l _ _ h3 (by simpa using hl) λi f' x' hf' hx'=>hf (i+1) f' x' hf' hx';refine⟨ts++ts',?_,g2.append g4,λK=>by have:=k1 K;have:=k2 K;rw[Bh,aF,K.a1];omega⟩;rw[dM,List.take_add,List.drop_drop];rw[hc1,<- hc2]at g1;exact ep.append _ _ g1 g3
  .cases h2
theorem aoC{t e:TypeId}{row:U CS}(hk:P.underlying t=some (.slice e))(hm:O2 P t e=some row):∀(fuel:Nat)(cs:U Value)(x:DataW H×List MemPlace),DataW.trod enc P w 0 sp held fuel t cs=some x->∃tr,ep w (Here w) [tr] cs/\Hd row tr/\∀K:Bk H,jp tr<=K.b x.1:=by
 intro fuel
 induction fuel using Nat.strongRecOn with
 |_ fuel ih=>
 intro cs x hx;have one:∀m,m<fuel->∀tA y,DataW.trod enc P w 0 sp held m e tA=some y->∃ts,ep w (Here w) ts tA/\i6 row row ts/\ts.length=row.length/\∀K:Bk H,iR ts<=K.b y.1:=by
  intro m hmf tA y hy;unfold O2 at hm;split at hm
  .rename_i fs hke;simp only[ai]at hm;obtain⟨r,h1,h2⟩:=hm;split at h2
   .rename_i hr;injection h2 with h2;subst h2;obtain⟨xs,m',hm',rfl,hl,hxs,hf⟩:=DataW.trod_struct hke hy;obtain⟨ts,g1,g2,k1⟩:=Om (row:=r) m' tA (ahK P t) (λ u sh hsh cs x hx=>by
     unfold ahK at hsh;split at hsh
     .rename_i hu;cases hsh;rw[hu]at hx;obtain⟨tr,a1,a2,a3⟩:=ih m' (by omega) cs x hx;exact⟨[tr],a1,.back a2 .nil,λK=>by have:=a3 K;simp only[iR];omega⟩
     .split at hsh
      .rename_i k B5;cases hsh;obtain⟨v,rfl,rfl,hw⟩:=DataW.trod_int B5 hx;exact⟨[.sc (.int k v)],by simp[ep,TR,oneCell],.one ⟨v,rfl,hw⟩ .nil,λK=>by simp[iR,jp,K.int]⟩
      .rename_i B5;cases hsh;obtain⟨v,rfl,rfl⟩:=DataW.trod_bool B5 hx;exact⟨[.sc (.bool v)],by simp[ep,TR,oneCell],.one ⟨v,rfl⟩ .nil,λK=>by simp[iR,jp,K.bool]⟩
      .rename_i B5;cases hsh;obtain⟨v,rfl,rfl,hw⟩:=DataW.trod_string B5 hx;exact⟨[.sc (.string v)],by simp[ep,TR,oneCell],.one ⟨v,rfl,hw⟩ .nil,λK=>by simp[iR,jp,K.str]⟩
      .cases hsh) fs.toList xs 0 r h1 (by simpa using hxs) (λ i f x hi hxi=>by
     have hi':fs[i]? =some f:=(by simpa using hi);rw[hf i f hi',hxi])
    rw[List.drop_zero,take_of_length_le (by omega)]at g1;refine⟨ts,g1,g2,?_,λK=>by have:=k1 K;rw[K.agg];omega⟩;rw[ep.length _ _ g1];omega
   .cases h2
  .cases hm
 have rl:row.length=P.cellsOf e/\0<row.length:=by
  unfold O2 at hm;split at hm
  .simp only[ai]at hm;obtain⟨r,h1,h2⟩:=hm;split at h2
   .rename_i hr;cases h2;exact hr
   .cases h2
  .cases hm
 rcases DataW.trod_slice hk hx with ⟨rfl,rfl⟩ |⟨a,len,cap,elems,ag,m,hfm,rfl,rfl,_,hl,hmx,hlen,hel,_,_⟩
 .refine⟨.sl [],?_,.mk [] (by simp[maxLen]) .nil,λK=>by simp[jp,vP,K.nil]⟩;simp only[ep,TR];exact⟨.inl ⟨trivial,none,0,rfl,λ_=>rfl⟩,trivial⟩
 .have each:∀i,i<len->∃tA y,w.cells? 0 (a.add (i*P.cellsOf e)) (P.cellsOf e)=some tA/\DataW.trod enc P w 0 sp held m e tA=some y/\elems[i]? =some y:=by
   intro i hi;have h3:=hel i hi;have h6:elems[i]? =some (elems[i]'(by omega)):=bX (by omega);rw[h6,ai]at h3;obtain⟨tA,h4,h5⟩:=h3;exact⟨tA,_,h4,h5,h6⟩
  by_cases h0:len=0
  .subst h0;refine⟨.sl [],?_,.mk [] (by simp[maxLen]) .nil,λK=>by simp[jp,vP,K.sl]⟩;simp only[ep,TR];exact⟨.inl ⟨trivial,some a,cap,rfl,λh=>by cases h⟩,trivial⟩
  .obtain⟨cs0,y0,c0,_,_⟩:=each 0 (by omega);obtain⟨_,c1,c2⟩:=World.cells?_some c0;have c3:=c2 0 (by omega);rw[bX (by omega)]at c3;have c4:=Q5 c3;simp only[Nat.zero_mul,Addr.add,if_true]at c4;obtain⟨b,aa,s⟩:=a;simp only at c4;obtain⟨rfl,hb⟩:=c4;have rows:∀q j,j+q=len->∃rows:U (List Tree),rows.length=q/\ci w (Here w) rows b (aa+j*P.cellsOf e) (P.cellsOf e)/\pj row rows/\∀K:Bk H,vP rows<=K.a ((elems.map (·.1)).drop j):=by
    intro q
    induction q with
    |zero=>intro j _;exact⟨[],rfl,by simp[ci],.nil,λK=>by simp[vP]⟩
    |succ q ihq=>
     intro j hj;obtain⟨rows,g1,g2,g3,k3⟩:=ihq (j+1) (by omega);obtain⟨csj,y,g4,g5,gy⟩:=each j (by omega);obtain⟨ts,g6,g7,_,k6⟩:=one m (by omega) _ _ g5;obtain⟨_,g8,g9⟩:=World.cells?_some g4;refine⟨ts::rows,by simp[g1],?_,.cons g7 g3,λK=>by have:=k3 K;have:=k6 K;rw[K.drop gy,vP];omega⟩;simp only[ci];refine⟨(ep.length _ _ g6).trans g8,adq _ _ _ _ g6 λi hi=>?_,?_⟩
     .rw[<- g9 i (by omega),addr_add,addr_add]
     .rw[show aa+j*P.cellsOf e+P.cellsOf e=aa+(j+1)*P.cellsOf e by rw[Nat.add_mul];omega];exact g2
   obtain⟨rows,g1,g2,g3,k3⟩:=rows len 0 (by omega);refine⟨.sl rows,?_,.mk rows (by omega) g3,λK=>by have:=k3 K;rw[List.drop_zero]at this;rw[K.sl,jp];omega⟩;simp only[ep,TR];exact⟨.inr ⟨b,aa,cap,P.cellsOf e,by rw[g1],by omega,hb,by simpa using g2⟩,trivial⟩
theorem EZ{cut:U TypeId}:∀(n:Nat)(t:TypeId)(sh:U CS),y4 P cut n t=some sh->∀(fuel:Nat)(cs:U Value)(x:DataW H×List MemPlace),DataW.trod enc P w 0 sp held fuel t cs=some x->QQ P t x->
 ∃ts,ep w (Here w) ts cs/\c8 sh ts/\∀K:Bk H,iR ts<=K.b x.1
 | 0,_,_,h,_,_,_,_,_=>by simp[y4]at h
 |n+1,t,sh,h,fuel,cs,x,hx,hz=>by
  unfold y4 at h;split at h
  .rename_i k hk;cases h;obtain⟨v,rfl,rfl,hw⟩:=DataW.trod_int hk hx;exact⟨[.sc (.int k v)],by simp[ep,TR,oneCell],by simp only[c8,Fit];exact⟨⟨v,rfl,hw⟩,trivial⟩,λK=>by simp[iR,jp,K.int]⟩
  .rename_i hk;cases h;obtain⟨v,rfl,rfl⟩:=DataW.trod_bool hk hx;exact⟨[.sc (.bool v)],by simp[ep,TR,oneCell],by simp only[c8,Fit];exact⟨⟨v,rfl⟩,trivial⟩,λK=>by simp[iR,jp,K.bool]⟩
  .rename_i hk;cases h;obtain⟨v,rfl,rfl,hw⟩:=DataW.trod_string hk hx;exact⟨[.sc (.string v)],by simp[ep,TR,oneCell],by simp only[c8,Fit];exact⟨⟨v,rfl,hw⟩,trivial⟩,λK=>by simp[iR,jp,K.str]⟩
  .rename_i e hk;split at h
   .split at h
    .rename_i row hmr;cases h;have⟨tr,g1,g2,k1⟩:=aoC hk hmr fuel cs x hx;exact⟨[tr],g1,by simp only[c8,Fit];exact⟨g2,trivial⟩,λK=>by have:=k1 K;simp only[iR];omega⟩
    cases h;rcases DataW.trod_slice hk hx with ⟨rfl,rfl⟩ |⟨a,len,cap,elems,ag,m,_,rfl,rfl,_,hl,hm,hlen,hel,_,_⟩
    .exact⟨[.sc (.slice none 0 0)],by simp[ep,TR,oneCell],by simp[c8,Fit],λK=>by simp[iR,jp,K.nil]⟩
    .exact⟨[.sc (.slice (some a) len cap)],by simp[ep,TR,oneCell],by simp[c8,Fit],λK=>by simp[iR,jp,K.sl]⟩
   simp only[ai]at h;obtain⟨r,h1,h2⟩:=h;split at h2
   .rename_i hr;cases h2;rcases DataW.trod_slice hk hx with ⟨rfl,rfl⟩ |⟨a,len,cap,elems,ag,m,_,rfl,rfl,_,hl,hm,hlen,hel,_,_⟩
    .refine⟨[.sl []],?_,by simp only[c8,Fit];exact⟨⟨[],rfl,by simp[maxLen],by simp⟩,trivial⟩,λK=>by simp[iR,jp,vP,K.nil]⟩;simp only[ep,TR];exact⟨.inl ⟨trivial,none,0,rfl,λ_=>rfl⟩,trivial⟩
    .have hzw:∀k,k=(elems.length+ag.length)*P.bytesOf e\/k∈DataW.weightsAll P e (elems.map (·.1))->k<=reachBytes:=by
      intro k hkk;refine hz k ?_;simp only[DataW.weights,hk,aO,bg,length_map];rcases hkk with h |h
      .exact .inl h
      .exact .inr (.inl h)
     have each:∀i,i<len->∃tA y,w.cells? 0 (a.add (i*P.cellsOf e)) (P.cellsOf e)=some tA/\DataW.trod enc P w 0 sp held m e tA=some y/\QQ P e y/\elems[i]? =some y:=by
      intro i hi;have h3:=hel i hi;have h6:elems[i]? =some (elems[i]'(by omega)):=bX (by omega);rw[h6,ai]at h3;obtain⟨tA,h4,h5⟩:=h3;exact⟨tA,_,h4,h5,λk hk=>hzw k (.inr (zn (mem_map.2 ⟨_,List.getElem_mem (by omega),rfl⟩) k hk)),h6⟩
     have hbytes:len*NO r<=reachBytes:=by
      have h1:=hzw _ (.inl rfl);have h2:len*NO r<=(elems.length+ag.length)*P.bytesOf e:=Nat.mul_le_mul (by omega) hr.2.2;omega
     by_cases h0:len=0
     .subst h0;refine⟨[.sl []],?_,by simp only[c8,Fit];exact⟨⟨[],rfl,by simp[maxLen],by simp⟩,trivial⟩,λK=>by simp[iR,jp,vP,K.sl]⟩;simp only[ep,TR];exact⟨.inl ⟨trivial,some a,cap,rfl,λh=>by cases h⟩,trivial⟩
     .obtain⟨cs0,y0,c0,_,_,_⟩:=each 0 (by omega);obtain⟨_,c1,c2⟩:=World.cells?_some c0;have c3:=c2 0 (by omega);rw[bX (by omega)]at c3;have c4:=Q5 c3;simp only[Nat.zero_mul,Addr.add,if_true]at c4;obtain⟨b,aa,s⟩:=a;simp only at c4;obtain⟨rfl,hb⟩:=c4;have rows:∀m j,j+m=len->∃rows:U (List Tree),rows.length=m/\ci w (Here w) rows b (aa+j*P.cellsOf e) (P.cellsOf e)/\(∀ x∈rows,c8 r x)/\∀K:Bk H,vP rows<=K.a ((elems.map (·.1)).drop j):=by
       intro m
       induction m with
       |zero=>intro j _;exact⟨[],rfl,by simp[ci],by simp,λK=>by simp[vP]⟩
       |succ m ih=>
        intro j hj;obtain⟨rows,g1,g2,g3,k3⟩:=ih (j+1) (by omega);obtain⟨csj,y,g4,g5,g5z,gy⟩:=each j (by omega);obtain⟨ts,g6,g7,k6⟩:=EZ n e r h1 _ _ _ g5 g5z;obtain⟨_,g8,g9⟩:=World.cells?_some g4;refine⟨ts::rows,by simp[g1],?_,λx hx=>?_,λK=>by have:=k3 K;have:=k6 K;rw[K.drop gy,vP];omega⟩
        .simp only[ci];refine⟨(ep.length _ _ g6).trans g8,adq _ _ _ _ g6 λi hi=>?_,?_⟩
         .rw[<- g9 i (by omega),addr_add,addr_add]
         .rw[show aa+j*P.cellsOf e+P.cellsOf e=aa+(j+1)*P.cellsOf e by rw[Nat.add_mul];omega];exact g2
        .rcases aO.1 hx with rfl |hx
         .exact g7
         .exact g3 x hx
      obtain⟨rows,g1,g2,g3,k3⟩:=rows len 0 (by omega);refine⟨[.sl rows],?_,by simp only[c8,Fit];exact⟨⟨rows,rfl,⟨by omega,by rw[g1];exact hbytes⟩,g3⟩,trivial⟩,λK=>by have:=k3 K;rw[List.drop_zero]at this;rw[K.sl];simp only[iR,jp];omega⟩;simp only[ep,TR];exact⟨.inr ⟨b,aa,cap,P.cellsOf e,by rw[g1],by omega,hb,by simpa using g2⟩,trivial⟩
   .cases h2
  .rename_i fs hk;simp only[ai]at h;obtain⟨r,h1,h2⟩:=h;split at h2
   .rename_i hr;injection h2 with h2;subst h2;obtain⟨xs,m,_,rfl,hl,hxs,hf⟩:=DataW.trod_struct hk hx;obtain⟨ts,g1,g2,k1⟩:=TM m cs (y4 P cut n) (λ t sh hsh cs x hx hz=>EZ n t sh hsh m cs x hx hz) fs.toList xs 0 r h1 (by simpa using hxs) (λ i f x hi hxi=>by
     have hi':fs[i]? =some f:=(by simpa using hi);have:=hf i f hi';rw[hxi]at this;refine⟨this,λk hk'=>hz k ?_⟩;simp only[DataW.weights,hk];exact DataW.weights_mem_each (j:=i) (t:=f.type) (d:=x.1) (by simp[hi']) (by simp[hxi]) k hk')
    refine⟨ts,?_,g2,λK=>by have:=k1 K;rw[K.agg];omega⟩;rw[List.drop_zero,take_of_length_le (by omega)]at g1;exact g1
   .cases h2
  .rename_i m e hk;simp only[ai]at h;obtain⟨r,h1,h2⟩:=h;split at h2
   .rename_i hr;cases h2;obtain⟨xs,q,_,rfl,hl,hxs,hf⟩:=DataW.trod_array hk hx;have part:∀i j,j+i=m->∃ts,ep w (Here w) ts (cs.drop (j*P.cellsOf e))/\c8 (List.replicate i r).flatten ts/\∀K:Bk H,iR ts<=K.a ((xs.map (·.1)).drop j):=by
     intro i
     induction i with
     |zero=>
      intro j hj;refine⟨[],?_,by simp[c8],λK=>by simp[iR]⟩;have:j=m:=(by omega);subst this;rw[List.drop_of_length_le (by rw[hl,<- hr.2,<- hr.1];omega)];simp[ep]
     |succ i ih=>
      intro j hj;obtain⟨ts,g1,g2,k1⟩:=ih (j+1) (by omega);have:=hf j (by omega);have hxj:xs[j]? =some (xs[j]'(by omega)):=bX (by omega);rw[hxj]at this;obtain⟨ts0,g3,g4,k3⟩:=EZ n e r h1 _ _ _ this (λ k hk'=>hz k (by
       simp only[DataW.weights,hk];exact zn (mem_map.2 ⟨_,List.getElem_mem (by omega),rfl⟩) k hk'))
      refine⟨ts0++ts,?_,?_,λK=>by have:=k1 K;have:=k3 K;rw[K.drop hxj,Bh];omega⟩
      .have:=ep.append _ _ g3 g1;rw[show (j+1)*P.cellsOf e=j*P.cellsOf e+P.cellsOf e by rw[Nat.add_mul];omega,<- List.drop_drop,List.take_append_drop]at this;exact this
      .rw[List.replicate_succ,flatten_cons];exact c8.append _ _ g4 g2
    obtain⟨ts,g1,g2,k1⟩:=part m 0 (by omega);exact⟨ts,by simpa using g1,g2,λK=>by have:=k1 K;rw[List.drop_zero]at this;rw[K.agg];omega⟩
   .cases h2
  .cases h
inductive VS where
 |one (c:CS)
 |agg (cs:List CS)
def K0(P:Program)(cut:U TypeId)(t:TypeId):J VS:=
 (y4 P cut 12 t).bind λsh=>match P.underlying t with
  |some (.struct _) |some (.array _ _)=>some (.agg sh)
  |_=>match sh with
   |[c]=>some (.one c)
   |_=>none
def GF:VS->TV->Prop
 | .one c,x=>∃y,x= .s y/\Fit c y
 | .agg cs,x=>∃ys,x= .a ys/\c8 cs ys
def XA:U VS->U TV->Prop
 |[],[]=>True
 |s::ss,x::xs=>GF s x/\XA ss xs
 |_,_=>False
def Mm:TV->Nat
 | .s y=>jp y
 | .a ys=>iR ys
def yi:U TV->Nat
 |[]=>0
 |x::xs=>Mm x+yi xs
theorem amx{cut:U TypeId}{t:TypeId}{s:VS}{v:Value}{d:DataW H}{ps:U MemPlace}{b0:Nat}(hs:K0 P cut t=some s)(hval:Value.okWide P w .any b0 t v)(hd:DataW.Trod enc P w 0 sp held t v d ps)(hz:∀k∈d.weights P t,k<=reachBytes):
 ∃x,td w (Here w) x v/\GF s x/\∀K:Bk H,Mm x<=K.b d:=by
 obtain⟨fuel,hf⟩:=hd;simp only[K0,ai]at hs;obtain⟨sh,h1,h2⟩:=hs;obtain⟨ts,g1,g2,k1⟩:=EZ 12 t sh h1 _ _ _ hf hz;have hag:∀cs:Array Value,v= .agg cs->s= .agg sh->∃x,td w (Here w) x v/\GF s x/\∀K:Bk H,Mm x<=K.b d:=by
  rintro cs rfl rfl;exact⟨.a ts,⟨cs,rfl,by simpa[Value.cells]using g1⟩,⟨ts,rfl,g2⟩,k1⟩
 unfold Value.okWide at hval;split at h2
 .rename_i hu;injection h2 with h2;rw[hu]at hval;obtain⟨cs,rfl,_⟩:=hval;exact hag cs rfl h2.symm
 .rename_i hu;injection h2 with h2;rw[hu]at hval;obtain⟨cs,rfl,_⟩:=hval;exact hag cs rfl h2.symm
 .rename_i hu1 hu2;split at h2
  .rename_i c;cases h2;have hone:v.cells.toList=[v]:=by
    cases hu:P.underlying t with
    |none=>rw[hu]at hval;simp[Cell.okWide,Cell.ok,hu]at hval
    |some d=>
     rw[hu]at hval;cases v<;>first |rfl |(exfalso;revert hval;cases d<;>simp_all [Cell.okWide,Cell.ok])
   rw[hone]at g1
   match ts,g1,g2,k1 with
   |[y],g1,g2,k1=>
    simp only[c8]at g2;exact⟨.s y,g1.1,⟨y,rfl,g2.1⟩,λK=>by have:=k1 K;simpa[iR,Mm]using this⟩
   |[],g1,_,_=>exact g1.elim
   |_::_::_,g1,_,_=>exact g1.2.elim
  .cases h2
theorem ab1{cut:U TypeId}:∀{ts:U TypeId}{ss:U VS}{vs:U Value}{ds:U (DataW H)}{ps:U MemPlace}{b0:Nat},ts.mapM (K0 P cut)=some ss->
 (∀ (j:Nat) t v,ts[j]? =some t->vs[j]? =some v->Value.okWide P w .any b0 t v)->DataW.TrodAll enc P w 0 sp held ts vs ds ps->(∀ k∈DataW.weightsEach P ts ds,k<=reachBytes)->∃xs,ml w (Here w) xs vs/\XA ss xs/\∀K:Bk H,yi xs<=K.a ds
 |[],ss,vs,ds,ps,b0,hs,_,hd,_=>by
  obtain⟨rfl,rfl,rfl⟩:=trodAll_nil hd;simp only[List.mapM_nil,Option.pure_def,ay]at hs;subst hs;exact⟨[],trivial,trivial,λK=>by simp[yi]⟩
 |t::ts,ss,vs,ds,ps,b0,hs,hval,hd,hz=>by
  obtain⟨v,vs',d,ds',p,q,rfl,rfl,rfl,h0,r0⟩:=trodAll_cons hd;simp only[List.mapM_cons,Option.bind_eq_bind,ai,Option.pure_def,ay]at hs;obtain⟨s,h1,ss',h2,rfl⟩:=hs;obtain⟨x,g1,g2,k1⟩:=amx h1 (hval 0 t v rfl rfl) h0 (λ k hk=>hz k (by simp only[DataW.weightsEach,bg];exact .inl hk));obtain⟨xs,g3,g4,k2⟩:=ab1 h2 (λ j t v h h'=>hval (j+1) t v h h') r0 (λ k hk=>hz k (by simp only[DataW.weightsEach,bg];exact .inr hk));exact⟨x::xs,⟨g1,g3⟩,⟨g2,g4⟩,λK=>by have:=k1 K;have:=k2 K;rw[yi,K.a1];omega⟩
theorem TN{β:Nat->J cE}{I:Nat->Prop}:∀(xs:U TV)(vs:U Value),ml w I xs vs->bj P β w I (xs.map TV.av) vs
 |[],[],_=>by simp[bj]
 |x::xs,v::vs,h=>by
  simp only[aF,bj];refine⟨?_,TN xs vs h.2⟩;have h1:=h.1;cases x with
  |s y=>simp only[TV.av,VR];exact h1
  |a cs=>
   obtain⟨us,rfl,h2⟩:=h1;simp only[TV.av,VR];refine⟨us,rfl,?_⟩;have:∀(cs:U Tree) (us:U Value),ep w I cs us->bj P β w I (cs.map AV.t) us:=by
    intro cs
    induction cs with
    |nil=>intro us h;cases us<;>first |(simp [bj];done) |exact h.elim
    |cons c cs ih=>intro us h;cases us with
     |nil=>exact h.elim
     |cons u us=>simp only[aF,bj,VR];exact⟨h.1,ih us h.2⟩
   exact this cs us.toList h2
 |[],_::_,h=>h.elim
 |_::_,[],h=>h.elim
end
section
variable {H:Type} {enc:TypeId×Value->H} {P:Program}
theorem ahL{f:Func}{s:ChangeSpec}{apart fresh handsOn again:Bool}{W W':World}{args:Array Value}{v:Value}{ds gs:U (DataW H)}{before pa pv:U MemPlace}
 (hW:DataW.Whole enc P f.params.toList s.vars apart W args.toList ds gs before)
 (hres:∀(b:Nat)(sp:Nat->Bool)(hd:Bool),DataW.TrodAll enc P W' b sp hd f.resultTypes.toList (v.resultList f.resultTypes.size) (s.fn H (ds++gs)).results [])
 (hargs:∀sp:Nat->Bool,(∀ p∈before,sp p.block=true)->DataW.TrodAll enc P W' 0 sp true f.params.toList args.toList (s.fn H (ds++gs)).args pa)
 (hvars:∀sp:Nat->Bool,(∀ p∈before,sp p.block=true)->DataW.TrodVars enc P W' sp s.vars (s.fn H (ds++gs)).vars pv)
 (hps:before=pa++pv) (hb:Below W.heap.size W W')
 (hok:∀(j:Nat)(t:TypeId)(r:Value),f.resultTypes[j]? =some t->(v.resultList f.resultTypes.size)[j]? =some r->Value.okWide P W' .any 0 t r):
 s.post enc P f apart fresh handsOn again W args v W':=by
 have hlt:∀p∈before,p.block<W.heap.size:=λp hp=>hW.lt p hp;have hold:∀p∈before,(λ b=>decide (b<W.heap.size)) p.block=true:=λp hp=>by simpa using hlt p hp
 refine⟨ds,gs,before,[],pa,pv,hW,hres _ _ _,hargs _ hold,hvars _ hold,World.keptBut_mono (λ p hp=>⟨hp,?_⟩) (hb.frame (· ∈before)),λ_=>?_⟩
 .rw[hps,bg]at hp;exact Or.inr hp
 .obtain⟨_,_,_,_,_,hz,hn⟩:=hW;refine⟨hok,_,_,([]++pa)++pv,⟨[]++pa,pv,trodAll_append (hargs _ (λ _ _=>rfl)) (hres _ _ _),hvars _ (λ _ _=>rfl),rfl,?_,?_⟩,?_⟩
  .intro b aa hp;have hin:MemPlace.cell b aa∈before:=(by rw[hps];simpa using hp);rw[hb.frozen (hlt _ hin)];exact hz b aa hin
  .intro ha;have:=hn ha;rw[hps]at this;simpa using this
  .intro p hp _;rw[hps];simpa using hp
theorem Mg(hl:laidOutB P=true){W W':World}(hb:Below W.heap.size W W'):∀{ts:U TypeId}{vs:U Value}{ds:U (DataW H)}{ps:U MemPlace},(∀ t∈ts,P.readableRec t=true/\t<P.types.size)->
 DataW.TrodAll enc P W 0 (λ _=>true) true ts vs ds ps->(∀ x∈ps,x.block<W.heap.size)->∀sp:Nat->Bool,(∀ p∈ps,sp p.block=true)->DataW.TrodAll enc P W' 0 sp true ts vs ds ps
 |[],vs,ds,ps,_,hd,_,sp,_=>by
  obtain⟨rfl,rfl,rfl⟩:=trodAll_nil hd;exact trodAll_mk0
 |t::ts,vs,ds,ps,ht,hd,hlt,sp,hsp=>by
  obtain⟨v,vs',d,ds',p,q,rfl,rfl,rfl,h0,r0⟩:=trodAll_cons hd;obtain⟨h1,h2⟩:=ht t (by simp)
  exact trodAll_cons_mk (WideElems.Trod_stays hl h1 h2 h0 (λ x hx=>hb.same (hlt x (by simp[hx]))) (λ x hx=>hsp x (by simp[hx])))
   (Mg hl hb (λ t ht'=>ht t (by simp[ht'])) r0 (λ x hx=>hlt x (by simp[hx])) sp (λ x hx=>hsp x (by simp[hx])))
theorem TP{w:World}{base:Nat}{sp:Nat->Bool}{held:Bool}:∀{ts:U TypeId}{vs:U Value}{ds:U (DataW H)}{ps:U MemPlace},DataW.TrodAll enc P w base sp held ts vs ds ps->ds.length=ts.length
 |[],_,_,_,h=>by
  obtain⟨_,rfl,_⟩:=trodAll_nil h;rfl
 |_::_,_,_,_,h=>by
  obtain⟨_,_,_,_,_,_,_,rfl,_,_,h2⟩:=trodAll_cons h;simp[TP h2]
theorem afa:∀{ts:U TypeId}{ds:U (DataW H)}{vt:U TypeId}{gs:U (DataW H)},ds.length=ts.length->∀k∈DataW.weightsEach P ts ds,k∈DataW.weightsEach P (ts++vt) (ds++gs)
 |[],[],_,_,_,k,h=>by simp[DataW.weightsEach]at h
 |t::ts,d::ds,vt,gs,hl,k,h=>by
  simp only[DataW.weightsEach,bg,cons_append]at h ⊢;rcases h with h |h
  .exact .inl h
  .exact .inr (afa (by simpa using hl) k h)
 |[],_::_,_,_,h,_,_=>by simp at h
 |_::_,[],_,_,h,_,_=>by simp at h
theorem ads{cut:U TypeId}{C:Checked}{f:FuncId}{fn:Func}{s:ChangeSpec}{ss:U VS}{tb:TypeId}(hl:laidOutB C.prog=true)(hread:(fn.params.toList.all λt=>C.prog.readableRec t&&decide (t<C.prog.types.size))=true)
 (hss:fn.params.toList.mapM (K0 C.prog cut)=some ss) (hvars:s.vars=[]) (hres:fn.resultTypes=#[tb]) (hb:C.prog.underlying tb=some .bool)
 (hs:∀ds:U (DataW H),ds.length=fn.params.toList.length->s.fn H ds={ results:=[.lit (.bool true)],args:=ds })
 {B:Nat->Prop} (S7:∀xs,XA ss xs->(∀ n,B n->yi xs<=n)->tf C.prog f (xs.map TV.av) (.one (.d (.s (.sc (.bool true))))))
 {W:World} {base:Nat} {args:Array Value} {ds gs:U (DataW H)} {before:U MemPlace}
 (hval:∀(j:Nat) t v,fn.params[j]? =some t->args[j]? =some v->Value.okWide C.prog W .any base t v)
 (hW:DataW.Whole enc C.prog fn.params.toList s.vars false W args.toList ds gs before)
 {vt:U TypeId} (hz:(DataW.weightsEach C.prog (fn.params.toList++vt) (ds++gs)).all (· <=reachBytes)=true) (hv:j7 W (Here W)) (hB:∀n,B n->∃K:Bk H,K.a ds<=n):
 Calls C.prog f args W λe W'=>∃v,e= .returned v/\s.post enc C.prog fn false true false false W args v W':=by
 have hW':=hW;obtain⟨p,q,hA,hV,rfl,_,_⟩:=hW;rw[hvars]at hV;obtain⟨rfl,rfl⟩:=trodVars_none hV;have hlen:=TP hA;obtain⟨xs,g1,g2,g3⟩:=ab1 hss (λ j t v h1 h2=>hval j t v (by simpa using h1) (by simpa using h2)) hA (λ k hk=>by
  have:=all_eq_true.1 hz k (afa hlen k hk);simpa using this)
 simp only[append_nil]at hW';have hlt:∀x∈p,x.block<W.heap.size:=λx hx=>hW'.lt x hx;refine((S7 xs g2 (λ n hn=>by have⟨K,hK⟩:=hB n hn;exact Nat.le_trans (g3 K) hK)).2 W (Here W) args (λ _ h=>h) hv (TN _ _ g1)).mono λe W' ⟨v,I',he,hbel,_,_,_,hr⟩=>⟨v,he,?_⟩;simp only[ri,yv,td,TR]at hr;obtain⟨rfl,_⟩:=hr;have hfn:s.fn H (ds++[])={ results:=[.lit (.bool true)],args:=ds }:=by rw[append_nil];exact hs ds hlen
 refine ahL (pa:=p) (pv:=[]) hW' (λ b sp hd=>?_) (λ sp hsp=>?_) (λ sp _=>?_) (by simp) hbel (ok_one (by rw[hres]) rfl (okWide_bool_mk hb _))
 .rw[hfn,hres];exact trodAll_mk1 (shut_bool hb _)
 .rw[hfn];refine Mg hl hbel (λ t ht=>?_) hA hlt sp hsp;have:=all_eq_true.1 hread t ht;simpa using this
 .rw[hfn,hvars];rfl
end
def Xs:AM->TypeDesc->Bool
 | .slice e,.slice e'=>e==e'
 | .arr n e,.array n' e'=>n==n'&&e==e'
 | .struct fs,.struct fa=>fa.toList.map (λ f=>(f.offset,f.type))==fs
 | .bool,.bool=>true
 | .str,.string=>true
 | .int k,.int k'=>k==k'
 | .map k e,.map k' e'=>k==k'&&e==e'
 | .other,_=>true
 |_,_=>false
def YY:Value->Value->Bool
 | .int k a,.int k' b=>k==k'&&a==b
 | .bool a,.bool b=>a==b
 | .string a,.string b=>decide (a=b)
 | .slice none 0 0,.slice none 0 0=>true
 | .pointer none,.pointer none=>true
 | .nilFunc,.nilFunc=>true
 | .nilIface,.nilIface=>true
 | .map none,.map none=>true
 |_,_=>false
theorem afb{a b:Value}(h:YY a b=true):a=b:=by
 unfold YY at h;split at h<;>simp_all
def Q6:U Value->U Value->Bool
 |[],[]=>true
 |a::as,b::bs=>YY a b&&Q6 as bs
 |_,_=>false
theorem Oo:∀{a b:U Value},Q6 a b=true->a=b
 |[],[],_=>rfl
 |a::as,b::bs,h=>by simp only[Q6,aG]at h;rw[afb h.1,Oo h.2]
 |[],_::_,h=>by simp[Q6]at h
 |_::_,[],h=>by simp[Q6]at h
def Ys(P:Program)(t:TypeId)(ti:m4):Bool:=
 match P.info? t,P.underlying t with
 |some info,some d=>match info.zero with
  |some z=>info.size==ti.size&&info.bytes==ti.bytes&&s8 d==ti.agg&&Xs ti.k d&&ti.zero.all jt&&ti.zero.length==ti.size&&
   (ti.cmp.isEmpty || match d with
    | .struct fa=>!P.stoodInHeld t&&!P.eqGuardType P.depth t&&fR P 0 fa.toList ti.cmp
    | .array _ _=>ti.cmp==[9]&&!P.eqGuardType P.depth t
    |_=>false)&&Q6 z.cells.toList ti.zero&&tg ti.agg z
  |none=>false
 |_,_=>false
theorem ahM{k:AM}{d:TypeDesc}(h:Xs k d=true):So k d:=by
 unfold Xs at h;split at h
 .simp only[beq_iff_eq]at h;subst h;rfl
 .simp only[aG,beq_iff_eq]at h;obtain⟨rfl,rfl⟩:=h;rfl
 .rename_i fs fa;exact⟨fa,rfl,by simpa using h⟩
 .rfl
 .rfl
 .simp only[beq_iff_eq]at h;subst h;rfl
 .simp only[aG,beq_iff_eq]at h;obtain⟨rfl,rfl⟩:=h;rfl
 .trivial
 .cases h
theorem afc{P:Program}{t:TypeId}{ti:m4}(h:Ys P t ti=true):ky P t ti:=by
 unfold Ys at h;split at h
 .rename_i info d h1 h2;split at h
  .rename_i z h3;simp only[aG,beq_iff_eq]at h;obtain⟨⟨⟨⟨⟨⟨⟨⟨a1,a2⟩,a3⟩,a4⟩,a5⟩,a6⟩,a7⟩,a8⟩,a9⟩:=h;refine⟨⟨info,d,z,h1,h2,a1,a2,h3,Oo a8,a3,ahM a4⟩,a5,a6,λinfo' z' e1 e2=>by rw[h1]at e1;cases e1;rw[h3]at e2;cases e2;exact a9,λhne=>?_⟩
   all_goals grind
  .cases h
 .cases h
def XB(l:U (TypeId×m4)):dC:=λt=>(l.find? λp=>p.1==t).map (·.2)
theorem amA{P:Program}{l:U (TypeId×m4)}(h:(l.all λp=>Ys P p.1 p.2)=true):eZ P (XB l):=by
 intro t ti ht;simp only[XB,eH]at ht;obtain⟨p,hp,rfl⟩:=ht;have h1:=List.find?_some hp;simp only[beq_iff_eq]at h1;subst h1;exact afc (all_eq_true.1 h p (List.mem_of_find?_eq_some hp))
inductive CT(ι:Type) where
 |int (k:IntKind)
 |bool
 |str
 |sl (e:CT ι)
 |st (i:ι)
 |any
 |mp (k v:CT ι)
 deriving DecidableEq
structure SE where
 ι:Type
 dec:DecidableEq ι
 T:ι->Type
 row:(i:ι)->T i->List Tree
instance (E:SE):DecidableEq E.ι:=E.dec
section
variable (E:SE)
@[reducible] def CT.T:CT E.ι->Type
 | .int _=>Int
 | .bool=>Bool
 | .str=>ByteArray
 | .sl e=>U (CT.T e)
 | .st i=>E.T i
 | .any=>Tree
 | .mp k v=>U (CT.T k×CT.T v)
def CT.row:(c:CT E.ι)->CT.T E c->U Tree
 | .int k,n=>[.sc (.int k n)]
 | .bool,b=>[.sc (.bool b)]
 | .str,s=>[.sc (.string s)]
 | .sl e,l=>[.sl (List.map (CT.row e) l)]
 | .st i,x=>E.row i x
 | .any,x=>[x]
 | .mp _ _,_=>[.sl []]
def CT.one{ι:Type}:CT ι->Bool
 | .st _=>false
 |_=>true
def CT.tv:(c:CT E.ι)->CT.T E c->TV
 | .int k,n=> .s (.sc (.int k n))
 | .bool,b=> .s (.sc (.bool b))
 | .str,s=> .s (.sc (.string s))
 | .sl e,l=> .s (.sl (List.map (CT.row E e) l))
 | .st i,x=> .a (E.row i x)
 | .any,x=> .s x
 | .mp _ _,_=> .s (.sl [])
def HL:U (CT E.ι)->Type
 |[]=>Unit
 |c::l=>CT.T E c×HL l
def HL.row:(l:U (CT E.ι))->HL E l->U Tree
 |[],_=>[]
 |c::l,h=>CT.row E c h.1++HL.row l h.2
def HL.nh:(l:U (CT E.ι))->HL E l->U TV
 |[],_=>[]
 |c::l,h=>CT.tv E c h.1::HL.nh l h.2
end
def Hb(E:SE)(c:CT E.ι):(n:Nat)->(l:U (CT.T E c))->l.length=n->HL E (List.replicate n c)
 | 0,_,_=>()
 |n+1,x::l,h=>(x,Hb E c n l (Nat.succ.inj h))
def Ek(E:SE)(c:CT E.ι):(n:Nat)->HL E (List.replicate n c)->U (CT.T E c)
 | 0,_=>[]
 |n+1,h=>h.1::Ek E c n h.2
theorem Wi(E:SE)(c:CT E.ι):∀(n:Nat)(h:HL E (List.replicate n c)),(Ek E c n h).length=n
 | 0,_=>rfl
 |n+1,h=>congrArg (· +1) (Wi E c n h.2)
theorem Wj(E:SE)(c:CT E.ι)(f:CT.T E c->Tree)(hf:∀y,CT.row E c y=[f y]):∀(n:Nat)(l:U (CT.T E c))(h:l.length=n),l.map f=HL.row E (List.replicate n c) (Hb E c n l h)
 | 0,[],_=>rfl
 |n+1,x::l,h=>by
  show f x::l.map f=CT.row E c x++HL.row E (List.replicate n c) (Hb E c n l (Nat.succ.inj h));rw[hf,Wj E c f hf n l];rfl
theorem Oq(E:SE)(c:CT E.ι)(f:CT.T E c->Tree)(hf:∀y,CT.row E c y=[f y]):∀(n:Nat)(h:HL E (List.replicate n c)),(Ek E c n h).map f=HL.row E (List.replicate n c) h
 | 0,_=>rfl
 |n+1,h=>by
  show f h.1::(Ek E c n h.2).map f=CT.row E c h.1++HL.row E (List.replicate n c) h.2;rw[hf,Oq E c f hf n];rfl
theorem IZ(E:SE)(c:CT E.ι)(f:CT.T E c->Tree)(hf:∀y,CT.row E c y=[f y]):∀l:U (CT.T E c),l.map f=(l.map (CT.row E c)).flatten
 |[]=>rfl
 |x::l=>by simp only[aF,flatten_cons,hf x,List.singleton_append,IZ E c f hf l]
structure L5(E:SE) where
 i:E.ι
 c:CT E.ι
 f:E.T i->List (CT.T E c)
 g:List (CT.T E c)->Option (E.T i)
structure SX extends SE where
 cX:ι->List (CT ι)
 get:(i:ι)->T i->HL toSE (cX i)
 make:(i:ι)->HL toSE (cX i)->T i
 np:∀i x,row i x=HL.row toSE (cX i) (get i x)
 fX:∀i h,row i (make i h)=HL.row toSE (cX i) h
 flat:∀i,(cX i).all CT.one=true
 gv:Nat->Option ((c:CT ι)×CT.T toSE c)
 zp:∀g,(gv g).map (λ p=>CT.row toSE p.1 p.2)=(xy g).map λr=>r.map Tree.sc
 ar:TypeId->Option (L5 toSE):=λ_=>none
 lR:∀t a,ar t=some a->a.c.one=true/\(∀ x,row a.i x=((a.f x).map (CT.row toSE a.c)).flatten)/\∀l x,a.g l=some x->a.f x=l:=by intro t a h;cases h
section
variable (X:SX)
abbrev SX.C:=CT X.ι
abbrev SX.t(c:CT X.ι):Type:=CT.T X.toSE c
def CT.sz:CT X.ι->Nat
 | .st i=>(X.cX i).length
 |_=>1
inductive DV where
 |c (t:CT X.ι) (x:CT.T X.toSE t)
 |agg (cs:List DV)
 |eC (vs:List DV)
 |own (k aa len:Nat)
 |ptr (k row aa:Nat)
 |qn (k:Nat) (n:Int) (aa:Nat)
 |so (k row aa m:Nat) (n:Int)
 |rp (t:CT X.ι) (x:CT.T X.toSE t) (aa:Nat)
 |xi (t:CT X.ι) (x:CT.T X.toSE t) (aa m:Nat) (n:Int)
 |fn (f:FuncId) (first caps:List DV)
 |du (as:List (CT X.ι)) (r:CT X.ι) (φ:HL X.toSE as->Option (CT.T X.toSE r))
 |mp (k:Nat)
 |oz (k len:Nat)
 |raw (v:Value)
 |nil
 |ub
 |skip
 |undef
inductive bp where
 |cells (sz:Nat) (rows:List (List (DV X)))
 |da (c:CT X.ι) (l:List (CT.T X.toSE c))
 |map (kc vc:CT X.ι) (l:List (CT.T X.toSE kc×CT.T X.toSE vc))
structure c9 where
 env:List (Nat×DV X)
 obj:List (Nat×Option (bp X))
 nx:Nat
 log:List Nat
variable {X}
mutual
def den:DV X->AV
 | .c t x=>(CT.tv X.toSE t x).av
 | .agg cs=> .agg (bM cs)
 | .eC vs=> .eC (bM vs)
 | .own k aa len=> .own k aa len
 | .ptr k row aa=> .ptr k row aa
 | .qn k n aa=> .ptr k n.toNat aa
 | .so k row aa _ n=> .ptr k row (aa+n.toNat)
 | .rp t x aa=> .ej (CT.row X.toSE t x) aa
 | .xi t x aa _ n=> .ej (CT.row X.toSE t x) (aa+n.toNat)
 | .fn f first caps=> .fn f (bM first) (bM caps)
 | .du as r φ=> .du λts u=>∃h x,φ h=some x/\ts=HL.nh X.toSE as h/\u=CT.tv X.toSE r x
 | .mp k=> .mp k
 | .oz k len=> .oz k len
 | .raw v=>cv v
 | .nil=> .cM
 | .ub=> .ub
 | .skip=> .undef
 | .undef=> .undef
def bM:List (DV X)->List AV
 |[]=>[]
 |x::xs=>den x::bM xs
end
theorem oN:∀l:U (DV X),bM l=l.map den
 |[]=>rfl
 |x::xs=>by simp only[bM,aF,oN xs]
def bG:bp X->aS
 | .cells sz rows=>⟨sz,rows.map bM⟩
 | .da c l=>⟨CT.sz X c,aL (l.map (CT.row X.toSE c))⟩
 | .map kc vc l=>⟨l.length,l.map λp=>[(CT.tv X.toSE kc p.1).av,(CT.tv X.toSE vc p.2).av]⟩
def iA(u:U (Nat×Option (bp X))):U (Nat×Option aS):=u.map λp=>(p.1,p.2.map bG)
def fL(o:U (Nat×Option (bp X)))(k:Nat):J (bp X):=(lk o k).join
def ey(e:U (Nat×DV X))(t:Nat):DV X:=(lk e t).getD .undef
def c9.st(s:c9 X):St:=⟨λ t=>den (ey s.env t),λk=>(fL s.obj k).map bG,λ_=>none⟩
def gF(a b:CT X.ι)(x:CT.T X.toSE a):J (CT.T X.toSE b):=
 match decEq a b with
 |isTrue h=>some (h ▸ x)
 |isFalse _=>none
theorem mO{a b:CT X.ι}{x:CT.T X.toSE a}{y:CT.T X.toSE b}(h:gF a b x=some y):∃e:a=b,y=e ▸ x:=by
 unfold gF at h;split at h
 .rename_i e _;injection h with h;exact⟨e,h.symm⟩
 .cases h
def HL.cells:(l:U (CT X.ι))->HL X.toSE l->U (DV X)
 |[],_=>[]
 |c::l,h=> .c c h.1::HL.cells l h.2
theorem row_one{c:CT X.ι}(h:c.one=true)(x:CT.T X.toSE c):∃t,CT.row X.toSE c x=[t]/\CT.tv X.toSE c x= .s t:=by cases c<;>first |exact⟨_,rfl,rfl⟩ |cases h
theorem HL.p4:∀(l:U (CT X.ι))(h:HL X.toSE l),l.all CT.one=true->bM (HL.cells l h)=(HL.row X.toSE l h).map AV.t
 |[],_,_=>rfl
 |c::l,h,ha=>by
  simp only[all_cons,aG]at ha;obtain⟨t,h1,h2⟩:=row_one ha.1 h.1;simp only[HL.cells,bM,den,HL.row,h1,h2,TV.av,HL.p4 l h.2 ha.2,cons_append,bI,aF]
theorem HL.ov:∀(l:U (CT X.ι))(h:HL X.toSE l),l.all CT.one=true->(HL.row X.toSE l h).length=l.length
 |[],_,_=>rfl
 |c::l,h,ha=>by
  simp only[all_cons,aG]at ha;obtain⟨t,h1,_⟩:=row_one ha.1 h.1;simp only[HL.row,h1,cons_append,bI,bn,HL.ov l h.2 ha.2]
theorem xS(c:CT X.ι)(x:CT.T X.toSE c):(CT.row X.toSE c x).length=CT.sz X c:=by
 cases c<;>try rfl
 rename_i i;exact(congrArg List.length (X.np i x)).trans (HL.ov _ _ (X.flat i))
def wm:(c:CT X.ι)->CT.T X.toSE c->U (DV X)
 | .st i,x=>HL.cells (X.cX i) (X.get i x)
 |c,x=>[.c c x]
theorem nV(c:CT X.ι)(x:CT.T X.toSE c):bM (wm c x)=(CT.row X.toSE c x).map AV.t:=by
 cases c<;>try rfl
 rename_i i;exact(HL.p4 _ _ (X.flat i)).trans (congrArg (List.map AV.t) (X.np i x).symm)
def wN:DV X->Bool
 | .agg _ | .eC _ | .undef | .skip | .raw _ | .c (.st _) _=>false
 |_=>true
theorem TQ{x:DV X}(h:wN x=true):qc (den x)=true:=by
 cases x<;>try rfl
 case c t x=>cases t<;>first |rfl |simp[wN]at h
 all_goals simp[wN]at h
def cellsD:DV X->J (List (DV X))
 | .agg cs=>if cs.all wN then some cs else none
 | .c (.st i) x=>some (wm (.st i) x)
 | .eC _ | .undef | .skip | .raw _=>none
 |x=>some [x]
theorem ajM{l:U (DV X)}(h:l.all wN=true):(bM l).all qc=true:=by
 rw[oN,List.all_map,all_eq_true];exact λx hx=>TQ (all_eq_true.1 h x hx)
theorem zo{x:DV X}{cs:U (DV X)}(h:cellsD x=some cs):cellsOf (den x)=some (bM cs):=by
 cases x
 case c t x=>
  cases t
  case st i=>
   simp only[cellsD,ay]at h;subst h;simp only[den,CT.tv,TV.av,cellsOf,nV];show(if ((X.row i x).map AV.t).all qc then some ((X.row i x).map AV.t)else none)=some ((X.row i x).map AV.t);rw[aT];rw[List.all_map,all_eq_true];exact λ_ _=>rfl
  all_goals simp only[cellsD,ay]at h;subst h;rfl
 case agg l=>
  simp only[cellsD]at h;split at h
  .cases h;simp only[den,cellsOf];rw[aT (ajM ‹_›)]
  .cases h
 all_goals simp only[cellsD,ay,reduceCtorEq]at h;try (subst h;rfl)
def ue:Value->DV X
 | .slice none 0 0=> .nil
 | .int k n=> .c (.int k) n
 | .bool b=> .c .bool b
 | .string s=> .c .str s
 |v=> .raw v
theorem ajN(v:Value):den (ue (X:=X) v)=cv v:=by
 unfold ue;split<;>rfl
theorem zq(l:U Value):bM (l.map (ue (X:=X)))=l.map cv:=by
 rw[oN,map_map];exact map_congr_left λv _=>ajN v
def wi(env:Nat->DV X):Operand->DV X
 | .tmp t=>env t
 | .const v=>ue v
 | .global g=>match X.gv g with
  |some p=> .rp p.1 p.2 0
  |none=> .undef
 | .func f=> .fn f [] []
theorem XC(env:Nat->DV X)(x:Operand):den (wi env x)=lh (λ t=>den (env t)) x:=by
 cases x with
 |global g=>
  have h:=X.zp g;simp only[wi,lh];cases h1:X.gv g with
  |none=>
   rw[h1]at h;cases h2:xy g with
   |none=>rfl
   |some r=>rw[h2]at h;cases h
  |some p=>grind [den]
 |const v=>exact ajN _
 |tmp t=>rfl
 |func f=>rfl
end
def br{α:Type}(l:U α)(n:Int):J α:=bif decide (0<=n)then l[n.toNat]? else none
def sy{α:Type}(l:U α)(aa:Nat)(n:Int):J α:=bif decide (0<=n)then l[aa+n.toNat]? else none
def sub{α:Type}(l:U α)(aa len:Nat):U α:=(l.drop aa).take len
def co(n:Int)(len:Nat):Bool:=decide (0<=n)&&decide (n<(len:Int))
def iC{α β:Type}(a:α)(f:α->β):β:=f a
def bP(lo len ln n bytes:Nat):Bool:=decide (lo=len)&&decide (ln=n)&&decide ((len+n)*bytes<=140737488355328)&&decide (len+n<=maxLen)
def be(a b:Nat):Bool:=decide (a=b)
def vQ(l h:Int)(len:Nat):Bool:=decide (0<=l)&&decide (l<=h)&&decide (h<=(len:Int))
def yw(a b:ByteArray):Bool:=Op.bytesLess a.toList b.toList
def XD(a b:ByteArray):Bool:=decide (a.size+b.size<=maxLen)
abbrev iN(n:Int):Int:=n
abbrev bN(b:Bool):Bool:=b
def XE{A:Type}:U Bool->J A->J A
 |[],k=>k
 |c::cs,k=>bif c then XE cs k else none
section
variable {X:SX} {A:Type}
abbrev KK(X:SX)(A:Type):=DV X->U (Nat×Option (bp X))->U Nat->U Nat->J A
def ZZ(t:Bool)(x y:DV X):DV X:=
 match x,y with
 | .c a p,.c b q=>match decEq b a with
  |isTrue h=> .c a (bif t then p else h ▸ q)
  |isFalse _=>bif t then .c a p else .c b q
 |x,y=>bif t then x else y
def I4(agg:Bool)(size:Nat)(cs:U (DV X)):J (DV X):=
 if cs.length=size then(if agg then some (.agg cs)else match cs with |[x]=>if wN x then some x else none |_=>none)else none
def OS(agg:Bool)(size:Nat)(c:CT X.ι)(y:CT.T X.toSE c)(aa:Nat):J (DV X):=
 match c,y with
 | .st i,y=>if aa=0/\agg=true/\size=(X.cX i).length then some (.c (.st i) y)else I4 agg size (((wm (.st i) y).drop aa).take size)
 |c,y=>I4 agg size (((wm c y).drop aa).take size)
def Lb(d:DV X)(c:CT X.ι):J (CT.T X.toSE c):=
 match d,c with
 | .c a x,c=>gF a c x
 | .nil,.sl _=>some []
 | .nil,.any=>some (.sl [])
 |_,_=>none
def zu:U (DV X)->(l:U (CT X.ι))->J (HL X.toSE l)
 |[],[]=>some ()
 |d::ds,c::l=>(Lb d c).bind λx=>(zu ds l).bind λh=>some (x,h)
 |_,_=>none
def D4(d:DV X)(i:X.ι):J (CT.T X.toSE (.st i)):=
 match d with
 | .agg cs=>(zu cs (X.cX i)).bind λh=>some (X.make i h)
 | .c a x=>gF a (.st i) x
 |_=>none
def dat(d:DV X)(c:CT X.ι):J (CT.T X.toSE c):=
 match c with
 | .st i=>D4 d i
 |c=>Lb d c
def mk1(c:CT X.ι):U (DV X)->J (CT.T X.toSE c)
 |[d]=>Lb d c
 |_=>none
def Ot(c:CT X.ι)(ds:U (DV X)):J (CT.T X.toSE c):=
 match c with
 | .st i=>(zu ds (X.cX i)).bind λh=>some (X.make i h)
 |c=>mk1 c ds
def Lw(r:U (DV X))(aa:Nat)(cs:U (DV X)):U (DV X):=r.take aa++cs++r.drop (aa+cs.length)
variable (T:dC) (an:TypeId->Option (CT X.ι))
def Sa(t:TypeId)(x:DV X)(get:Nat->J (bp X))(k:KK X A):J A:=
 (T t).bind λti=>match x with
 | .ptr kk row aa=>(get kk).bind λo=>match o with
  | .cells _ rows=>(rows[row]?).bind λr=>(I4 ti.agg ti.size ((r.drop aa).take ti.size)).bind λv=>k v [] [kk] []
  |_=>none
 | .qn kk n aa=>(get kk).bind λo=>match o with
  | .da c l=>(br l n).bind λy=>(OS ti.agg ti.size c y aa).bind λv=>k v [] [kk] []
  |_=>none
 | .rp c y aa=>(OS ti.agg ti.size c y aa).bind λv=>k v [] [] []
 |_=>none
def Re(t:TypeId)(x y:DV X)(get:Nat->J (bp X))(k:KK X A):J A:=
 (T t).bind λti=>(cellsD y).bind λcs=>if cs.length=ti.size then match x with
 | .ptr kk row aa=>(get kk).bind λo=>match o with
  | .cells sz rows=>(rows[row]?).bind λr=>if aa+cs.length<=r.length then k .undef [(kk,some (.cells sz (rows.set row (Lw r aa cs))))] [kk] [kk]else none
  |_=>none
 | .qn kk n aa=>(get kk).bind λo=>match o with
  | .da c l=>(br l n).bind λy=>if aa+cs.length<=CT.sz X c then(Ot c (Lw (wm c y) aa cs)).bind λz=>k .undef [(kk,some (.da c (l.set n.toNat z)))] [kk] [kk]else none
  |_=>none
 |_=>none else none
def MI(t:TypeId)(x:DV X)(f:Nat)(k:KK X A):J A:=
 (Bb T t f).bind λp=>match x with
 | .ptr kk row aa=>k (.ptr kk row (aa+p.1)) [] [] []
 | .qn kk n aa=>k (.qn kk n (aa+p.1)) [] [] []
 | .rp c y aa=>k (.rp c y (aa+p.1)) [] [] []
 |_=>none
def ahP(t:TypeId)(x:DV X)(f:Nat)(k:KK X A):J A:=
 (Bb T t f).bind λp=>match x with
 | .agg cs=>(I4 p.2.agg p.2.size ((cs.drop p.1).take p.2.size)).bind λv=>k v [] [] []
 | .c (.st i) y=>(I4 p.2.agg p.2.size (((wm (.st i) y).drop p.1).take p.2.size)).bind λv=>k v [] [] []
 |_=>none
def MJ(t:TypeId)(x j:DV X)(get:Nat->J (bp X))(k:KK X A):J A:=
 (T t).bind λti=>match ti.k,j with
 | .slice e,.c (.int _) n=>(T e).bind λei=>match x with
  | .c (.sl c) l=>if CT.sz X c=ei.size then(br l n).bind λy=>k (.rp c y 0) [] [] []else none
  | .own kk aa len=>(get kk).bind λo=>match o with
   | .da c _=>if CT.sz X c=ei.size then bif co n len then k (.qn kk ((aa:Int)+iN n) 0) [] [kk] []else none else none
   | .cells sz _=>if sz=ei.size then bif co n len then k (.ptr kk (aa+n.toNat) 0) [] [kk] []else none else none
   | .map _ _ _=>none
  |_=>none
 | .arr m e,.c (.int _) n=>(T e).bind λei=>bif co n m then match x with
  | .ptr kk row aa=>k (.ptr kk row (aa+n.toNat*ei.size)) [] [] []
  | .qn kk r aa=>k (.qn kk r (aa+n.toNat*ei.size)) [] [] []
  | .rp c y aa=>k (.rp c y (aa+n.toNat*ei.size)) [] [] []
  |_=>none
  else none
 |_,_=>none
def XF(x:DV X)(j:Nat)(k:KK X A):J A:=
 match x with
 | .eC vs=>(vs[j]?).bind λv=>k v [] [] []
 |_=>none
def I5(op:BinOp)(kd:IntKind)(a b:Int):(DV X)×Option Bool:=
 match op with
 | .add=>(.c (.int kd) (kd.wrap (a+b)),none)
 | .sub=>(.c (.int kd) (kd.wrap (a -b)),none)
 | .mul=>(.c (.int kd) (kd.wrap (a*b)),none)
 | .quo=>(.c (.int kd) (kd.wrap (a.tdiv b)),some (b !=0))
 | .rem=>(.c (.int kd) (a.tmod b),some (b !=0))
 | .and=>(.c (.int kd) (bits .and kd a b),none)
 | .or=>(.c (.int kd) (bits .or kd a b),none)
 | .xor=>(.c (.int kd) (bits .xor kd a b),none)
 | .andNot=>(.c (.int kd) (bits .andNot kd a b),none)
 | .shl=>(.c (.int kd) (kd.wrap (a*2 ^ b.toNat)),some (decide (0<=b)&&decide (b<=kd.bits)))
 | .shr=>(.c (.int kd) (a/2 ^ b.toNat),some (decide (0<=b)&&decide (b<=kd.bits)))
 | .eql=>(.c .bool (a==b),none)
 | .neq=>(.c .bool (a !=b),none)
 | .lss=>(.c .bool (decide (a<b)),none)
 | .leq=>(.c .bool (decide (a<=b)),none)
 | .gtr=>(.c .bool (decide (a>b)),none)
 | .geq=>(.c .bool (decide (a>=b)),none)
def adt:Nat->DV X->DV X->J Bool
 | 0,.c (.int j) a,.c (.int k) b=>if j=k then some (iN a==iN b)else none
 | 1,.c .bool a,.c .bool b=>some (bN a==bN b)
 | 2,.c .str a,.c .str b=>some (a.toList==b.toList)
 |_,_,_=>none
def wZ:U Nat->U (DV X)->U (DV X)->J Bool
 |[],[],[]=>some true
 |k::ks,x::xs,y::ys=>(adt k x y).bind λa=>(wZ ks xs ys).bind λb=>some (a&&b)
 |_,_,_=>none
def NL:DV X->J (List (DV X))
 | .agg cs=>some cs
 | .c (.st i) y=>some (wm (.st i) y)
 |_=>none
def W8(op:BinOp)(t:TypeId)(x y:DV X)(k:KK X A):J A:=
 match x,y with
 | .c (.int kd) a,.c (.int yk) b=>if kd=yk\/op= .shl\/op= .shr then match (I5 op kd a b:DV X×Option Bool).2 with
  |none=>k (I5 op kd a b).1 [] [] []
  |some g=>bif g then k (I5 op kd a b).1 [] [] []else none
  else none
 | .c .str a,.c .str b=>match op with
  | .eql=>k (.c .bool (a.toList==b.toList)) [] [] []
  | .neq=>k (.c .bool (!(a.toList==b.toList))) [] [] []
  | .lss=>k (.c .bool (yw a b)) [] [] []
  | .gtr=>k (.c .bool (!(yw a b || a.toList==b.toList))) [] [] []
  | .add=>bif XD a b then k (.c .str (a++b)) [] [] []else none
  |_=>none
 | .c .bool a,.c .bool b=>(T t).bind λti=>match ti.k,op with
  | .bool,.eql=>k (.c .bool (bN a==bN b)) [] [] []
  | .bool,.neq=>k (.c .bool (!(bN a==bN b))) [] [] []
  |_,_=>none
 |x,y=>(NL x).bind λxs=>(NL y).bind λys=>(T t).bind λti=>if ti.cmp=[]then none else(wZ ti.cmp xs ys).bind λb=>match op with
  | .eql=>k (.c .bool b) [] [] []
  | .neq=>k (.c .bool (!b)) [] [] []
  |_=>none
def Q4(op:UnOp)(x:DV X)(k:KK X A):J A:=
 match op,x with
 | .not,.c .bool b=>k (.c .bool (!b)) [] [] []
 | .neg,.c (.int kd) n=>k (.c (.int kd) (kd.wrap (0 -iN n))) [] [] []
 |_,_=>none
def KG(mx:Bool)(kd:IntKind):Int->List (DV X)->Option Int
 |a,[]=>some a
 |a,.c (.int k') b::r=>if k'=kd then KG mx kd (if mx then max a b else min a b) r else none
 |_,_=>none
def Mo(mx:Bool)(args:U (DV X))(k:KK X A):J A:=
 match args with
 | .c (.int kd) a::r=>(KG mx kd a r).bind λn=>k (.c (.int kd) n) [] [] []
 |_=>none
def W5(t:TypeId)(x:DV X)(k:KK X A):J A:=
 (T t).bind λti=>match ti.k,x with
 | .slice _,.c (.sl _) l=>k (.c (.int .i64) (l.length:Int)) [] [] []
 | .slice _,.own _ _ len=>k (.c (.int .i64) (len:Int)) [] [] []
 | .slice _,.oz _ len=>k (.c (.int .i64) (len:Int)) [] [] []
 | .slice _,.nil=>k (.c (.int .i64) (0:Int)) [] [] []
 | .str,.c .str s=>k (.c (.int .i64) (s.size:Int)) [] [] []
 |_,_=>none
def Ha(place:Nat->J (Nat×Nat)):U (DV X)->U (Nat×DV X)->J (List (DV X))
 |cells,[]=>some cells
 |cells,(j,x)::ag=>(place j).bind λp=>(cellsD x).bind λcs=>
  if cs.length=p.2/\p.1+cs.length<=cells.length then Ha place (Lw cells p.1 cs) ag else none
def ahQ(t:TypeId)(parts:U (Nat×DV X))(k:KK X A):J A:=
 (T t).bind λti=>match ti.k with
 | .struct fs=>if fs.all (λ p=>(T p.2).isSome)then
  (Ha (λ j=>(fs[j]?).bind λp=>(T p.2).bind λui=>some (p.1,ui.size)) (ti.zero.map ue) parts).bind λcells=>k (.agg cells) [] [] []else none
 | .arr _ e=>(T e).bind λei=>(Ha (λ j=>some (j*ei.size,ei.size)) (ti.zero.map ue) parts).bind λcells=>k (.agg cells) [] [] []
 |_=>none
def Lt(c:CT X.ι):Nat->U (Nat×DV X)->J (List (CT.T X.toSE c))
 |_,[]=>some []
 |n,(j,x)::r=>if j=n then(dat x c).bind λy=>(Lt c (n+1) r).bind λl=>some (y::l)else none
def I6(i:Nat)(t:TypeId)(len:Nat)(parts:U (Nat×DV X))(k:KK X A):J A:=
 (T t).bind λti=>match ti.k with
 | .slice e=>(T e).bind λei=>(an e).bind λc=>if ei.size=0\/len*ei.size>2 ^ 24\/CT.sz X c≠ei.size\/parts.length≠len then none else
  (Lt c 0 parts).bind λl=>k (.own (cx i) 0 len) [(cx i,some (.da c l))] [] []
 |_=>none
def ahR(i:Nat)(e:TypeId)(k:KK X A):J A:=
 (T e).bind λti=>k (.ptr (cx i) 0 0) [(cx i,some (.cells ti.size [ti.zero.map ue]))] [] []
def W4(i:Nat)(x:DV X)(k:KK X A):J A:=
 (cellsD x).bind λcs=>k (.ptr (cx i) 0 0) [(cx i,some (.cells cs.length [cs]))] [] []
def wg(d:Int):J (DV X)->J Int
 |none=>some d
 |some (.c (.int _) n)=>some n
 |_=>none
def ahS(t:TypeId)(x:DV X)(lo hi:J (DV X))(get:Nat->J (bp X))(k:KK X A):J A:=
 (T t).bind λti=>match ti.k with
 | .slice e=>(T e).bind λei=>match x with
  | .own kk aa len=>(get kk).bind λo=>if (bG o).sz=ei.size then(wg 0 lo).bind λl=>(wg len hi).bind λh=>
   bif vQ l h len then k (.own kk (aa+l.toNat) (h.toNat -l.toNat)) [] [kk] []else none else none
  | .c (.sl c) xs=>if CT.sz X c=ei.size then(wg 0 lo).bind λl=>(wg xs.length hi).bind λh=>
   bif vQ l h xs.length then k (.c (.sl c) (sub xs l.toNat (h.toNat -l.toNat))) [] [] []else none else none
  |_=>none
 |_=>none
def W0(y:DV X)(c:CT X.ι)(get:Nat->J (bp X)):J (Nat×List (CT.T X.toSE c)×List Nat):=
 match y with
 | .own kk aa len=>(get kk).bind λo=>match o with
  | .da b l=>(gF (.sl b) (.sl c) l).bind λl=>some (len,sub l aa len,[kk])
  |_=>none
 | .c b l=>(gF b (.sl c) l).bind λ(l:List (CT.T X.toSE c))=>some (l.length,l,[])
 |_=>none
def XG{α:Type}:Nat->U α->U α
 | 0,l=>l
 |n+1,l=>l.drop (n+1)
def adu(i:Nat)(t:TypeId)(x y:DV X)(get:Nat->J (bp X))(k:KK X A):J A:=
 (T t).bind λti=>match ti.k with
 | .slice e=>(T e).bind λei=>(an e).bind λc=>if CT.sz X c=ei.size then(W0 y c get).bind λs=>match x with
  | .own kk aa len=>(get kk).bind λo=>match o with
   | .da b l=>(gF (.sl b) (.sl c) l).bind λ(l:List (CT.T X.toSE c))=>bif bP (XG aa l).length len s.2.1.length s.1 ei.bytes then iC (XG aa l++s.2.1) λr=>k (.own (cx i) 0 r.length) [(cx i,some (.da c r)),(kk,none)] (kk::s.2.2) [kk]else none
   |_=>none
  | .nil=>bif bP 0 0 s.2.1.length s.1 ei.bytes then iC s.2.1 λr=>k (.own (cx i) 0 r.length) [(cx i,some (.da c r))] s.2.2 []else none
  |_=>none
  else none
 |_=>none
def XH(i:Nat)(b:Builtin)(args:U (DV X))(cX:U TypeId)(get:Nat->J (bp X))(k:KK X A):J A:=
 match b,args,cX with
 | .len,[x],[t]=>W5 T t x k
 | .max,args,_=>Mo true args k
 | .min,args,_=>Mo false args k
 | .append,[x,y],[t,u]=>if t=u then adu T an i t x y get k else none
 |_,_,_=>none
def Mn(i:Nat)(o:Op)(ρ:Operand->DV X)(get:Nat->J (bp X))(k:KK X A):J A:=
 match o with
 | .move x=>k (ρ x) [] [] []
 | .assign x=>k (ρ x) [] [] []
 | .pick c a b=>match ρ c with | .c .bool t=>k (ZZ t (ρ a) (ρ b)) [] [] [] |_=>none
 | .alloc e=>ahR T i e k
 | .box _ x=>W4 i (ρ x) k
 | .build t parts=>ahQ T t (parts.toList.map λp=>(p.1,ρ p.2)) k
 | .buildSlice t len parts=>I6 T an i t len (parts.toList.map λp=>(p.1,ρ p.2)) k
 | .load t a=>Sa T t (ρ a) get k
 | .store t a x=>Re T t (ρ a) (ρ x) get k
 | .binOp op t x y _=>W8 T op t (ρ x) (ρ y) k
 | .unOp op _ x=>Q4 op (ρ x) k
 | .makeFunc (.func f) first caps=>k (.fn f (first.toList.map ρ) (caps.toList.map ρ)) [] [] []
 | .slice t x lo hi none=>ahS T t (ρ x) (lo.map ρ) (hi.map ρ) get k
 | .fieldAddr t x f=>MI T t (ρ x) f k
 | .field t x f=>ahP T t (ρ x) f k
 | .indexAddr t x j=>MJ T t (ρ x) (ρ j) get k
 | .extract x j=>XF (ρ x) j k
 | .call { callee:= .builtin b,args:=args,argTypes:=cX }=>XH T an i b (args.toList.map ρ) cX.toList get k
 |_=>none
end
section
variable {X:SX} {A:Type} {T:dC} {an:TypeId->Option (CT X.ι)} {get:Nat->Option (bp X)} {k:KK X A} {r:A} {i:Nat}
def fE(get:Nat->J (bp X)):Nat->J aS:=λj=>(get j).map bG
theorem dS{rd:U Nat}{j:Nat}{o:bp X}(hj:j∈rd)(h:get j=some o):dJ rd (fE get) j=some (bG o):=by simp[dJ,hj,fE,h]
theorem lT(l:U (DV X)):(bM l).length=l.length:=by simp[oN]
theorem kK(l:U (DV X))(a b:Nat):bM ((l.drop a).take b)=((bM l).drop a).take b:=by simp[oN,map_take,map_drop]
theorem Ou{α:Type}{l:U α}{n:Int}{x:α}(h:br l n=some x):0<=n/\l[n.toNat]? =some x:=by
 unfold br at h
 all_goals grind
theorem akL(t:Bool)(x y:DV X):den (ZZ t x y)=L0 t (den x) (den y):=by
 rw[WW];have base:∀x y:DV X,den (bif t then x else y)=if t=true then den x else den y:=λx y=>by cases t<;>rfl
 unfold ZZ;split
 .rename_i a p b q;split
  .rename_i h _;subst h;cases t<;>rfl
  .exact base _ _
 .exact base _ _
theorem DF{agg:Bool}{size:Nat}{cs:U (DV X)}{v:DV X}(h:I4 agg size cs=some v):part' agg size (bM cs)=some (den v):=by
 unfold I4 at h;unfold part';rw[lT];split at h
 .rename_i hl;rw[aT hl];cases agg with
  |true=>simp only[if_true,ay]at h ⊢;subst h;rfl
  |false=>
   simp only[Bool.false_eq_true,if_false]at h ⊢
   match cs,h with
   |[x],h=>
    simp only at h;split at h
    .rename_i hx;cases h;simp only[bM];rw[aT (TQ hx)]
    .cases h
   |[],h=>cases h
   |_::_::_,h=>cases h
 .cases h
theorem Q7{agg:Bool}{size aa:Nat}{c:CT X.ι}{y:CT.T X.toSE c}{v:DV X}(h:I4 agg size (((wm c y).drop aa).take size)=some v):part' agg size ((((CT.row X.toSE c y).drop aa).take size).map AV.t)=some (den v):=by
 have:=DF h;rw[kK,nV]at this;rw[<- this,map_take,map_drop]
theorem ab4{agg:Bool}{size aa:Nat}{c:CT X.ι}{y:CT.T X.toSE c}{v:DV X}(h:OS agg size c y aa=some v):part' agg size ((((CT.row X.toSE c y).drop aa).take size).map AV.t)=some (den v):=by
 cases c
 case st j=>
  simp only[OS]at h;split at h
  .rename_i hh;obtain⟨rfl,rfl,rfl⟩:=hh;cases h;have hl:(CT.row X.toSE (.st j) y).length=(X.cX j).length:=xS (.st j) y;rw[List.drop_zero,take_of_length_le (by omega)];unfold part';rw[aT (by simpa using hl)];rfl
  .exact Q7 h
 all_goals exact Q7 h
theorem akM{t:TypeId}{x:DV X}(h:Sa T t x get k=some r):∃cm rd dv ab,Dv T t (den x) cm (dJ rd (fE get))=some ab/\kE ab.obs/\ab.v=den dv/\ab.upd=[]/\k dv [] rd []=some r:=by
 unfold Sa at h;unfold Dv;rw[ai]at h;obtain⟨ti,h1,h⟩:=h;simp only[h1,af];split at h
 .rename_i kk row aa;rw[ai]at h;obtain⟨o,h2,h⟩:=h;split at h
  .rename_i sz rows;rw[ai]at h;obtain⟨rw',h3,h⟩:=h;rw[ai]at h;obtain⟨v,h4,h⟩:=h;refine⟨.none,[kk],v,⟨den v,[],[]⟩,?_,trivial,rfl,rfl,h⟩;have h5:=DF h4;rw[kK]at h5;simp[den,dS (List.mem_singleton_self kk) h2,bG,h3,h5,pv]
  .cases h
 .rename_i kk n aa;rw[ai]at h;obtain⟨o,h2,h⟩:=h;split at h
  .rename_i c l;rw[ai]at h;obtain⟨y,h3,h⟩:=h;rw[ai]at h;obtain⟨v,h4,h⟩:=h;have⟨_,h6⟩:=Ou h3;refine⟨.row ((CT.row X.toSE c y).map AV.t),[kk],v,⟨den v,[],[(aL (l.map (CT.row X.toSE c)))[n.toNat]? =some ((CT.row X.toSE c y).map AV.t)]⟩,?_,?_,rfl,rfl,h⟩
   .have h5:=ab4 h4;rw[map_take,map_drop]at h5;simp only[den,dS (List.mem_singleton_self kk) h2,af,bG,h5,kx]
   .simp[kE,aL,h6]
  .cases h
 .rename_i c y aa;have⟨v,h4,h⟩:=ai.1 h;refine⟨.none,[],v,⟨den v,[],[]⟩,?_,trivial,rfl,rfl,h⟩;simp only[den,ab4 h4,af,pv]
 .cases h
theorem XI(a:U (DV X))(aa:Nat)(cs:U (DV X)):bM (Lw a aa cs)=put' (bM a) aa (bM cs):=by simp[Lw,put',oN,map_take,map_drop]
theorem jb{a c:CT X.ι}{x:CT.T X.toSE a}{y:CT.T X.toSE c}(h:gF a c x=some y):den (.c a x)=den (.c c y)/\CT.row X.toSE a x=CT.row X.toSE c y:=by
 obtain⟨e,h⟩:=mO h
 grind
theorem PQ{c:CT X.ι}(hc:c.one=true)(x:CT.T X.toSE c):[(CT.tv X.toSE c x).av]=(CT.row X.toSE c x).map AV.t:=by
 obtain⟨t,h1,h2⟩:=row_one hc x;rw[h1,h2];rfl
theorem apQ{c:CT X.ι}(x:CT.T X.toSE c):wk (CT.tv X.toSE c x).av=(CT.tv X.toSE c x).av:=by cases c<;>rfl
theorem xg{d:DV X}{c:CT X.ι}{x:CT.T X.toSE c}(h:Lb d c=some x):wk (den d)=(CT.tv X.toSE c x).av:=by
 unfold Lb at h;split at h
 .rw[(jb h).1];exact apQ x
 .cases h;rfl
 .cases h;rfl
 .cases h
theorem adw{d:DV X}{c:CT X.ι}{x:CT.T X.toSE c}(hc:c.one=true)(h:Lb d c=some x):wN d=true:=by
 cases d
 case c a y=>
  obtain⟨e,_⟩:=mO (show gF a c y=some x by cases c<;>exact h);subst e;cases a<;>first |rfl |simp[CT.one]at hc
 case nil=>rfl
 all_goals cases c<;>cases h
theorem zw:∀{ds:U (DV X)}{l:U (CT X.ι)}{h:HL X.toSE l},zu ds l=some h->l.all CT.one=true->(bM ds).map wk=(HL.row X.toSE l h).map AV.t/\ds.all wN=true
 |[],[],h,_,_=>⟨rfl,rfl⟩
 |d::ds,c::l,h,hr,ha=>by
  simp only[zu]at hr;have⟨x,h1,hr⟩:=ai.1 hr;have⟨g,h2,hr⟩:=ai.1 hr;cases hr;simp only[all_cons,aG]at ha ⊢;have⟨i1,i2⟩:=zw h2 ha.2;simp only[bM,aF,HL.row,map_append,i1,xg h1,i2,and_true,adw ha.1 h1];simp[<- PQ ha.1 x]
 |[],_::_,_,hr,_=>by simp[zu]at hr
 |_::_,[],_,hr,_=>by simp[zu]at hr
theorem XJ(j:X.ι)(h:HL X.toSE (X.cX j)):CT.row X.toSE (.st j) (X.make j h)=HL.row X.toSE (X.cX j) h:=X.fX j h
theorem aoE{c:CT X.ι}(hc:c.one=true){ds:U (DV X)}{x:CT.T X.toSE c}(h:mk1 c ds=some x):(bM ds).map wk=(CT.row X.toSE c x).map AV.t:=by
 match ds,h with
 |[d],h=>
  rw[<- PQ hc x];simp only[bM,aF,map_nil,xg h]
 |[],h=>cases h
 |_::_::_,h=>cases h
theorem za{c:CT X.ι}{ds:U (DV X)}{x:CT.T X.toSE c}(h:Ot c ds=some x):(bM ds).map wk=(CT.row X.toSE c x).map AV.t:=by
 cases c
 case st j=>
  simp only[Ot]at h;have⟨g,h1,h⟩:=ai.1 h;cases h;rw[(zw h1 (X.flat j)).1,XJ]
 all_goals exact aoE rfl h
theorem ahT{d:DV X}{c:CT X.ι}(hc:c.one=true){x:CT.T X.toSE c}(h:Lb d c=some x):∃cs,cellsOf (den d)=some cs/\cs.map wk=(CT.row X.toSE c x).map AV.t:=by
 have hk:=adw hc h;have hd:=xg h;have he:cellsOf (den d)=some [den d]:=by
  have:=zo (x:=d) (cs:=[d]) (by
   cases d
   case c t y=>cases t<;>first |rfl |simp[wN]at hk
   all_goals first |rfl |simp[wN]at hk)
  simpa[bM]using this
 exact⟨_,he,by rw[<- PQ hc x];simp[hd]⟩
theorem akN{d:DV X}{c:CT X.ι}{x:CT.T X.toSE c}(h:dat d c=some x):∃cs,cellsOf (den d)=some cs/\cs.map wk=(CT.row X.toSE c x).map AV.t:=by
 cases c
 case st j=>
  replace h:D4 d j=some x:=h
  cases d
  case agg cs=>
   simp only[D4]at h;have⟨g,h1,h⟩:=ai.1 h;cases h;have⟨i1,i2⟩:=zw h1 (X.flat j);refine⟨bM cs,?_,by rw[i1,XJ]⟩;simp only[den,cellsOf];rw[aT (ajM i2)]
  case c a y=>
   replace h:gF a (.st j) y=some x:=h
   rw[(jb h).1];refine⟨(CT.row X.toSE (.st j) x).map AV.t,?_,?_⟩
   .show cellsOf (.agg _)=_;simp only[cellsOf];rw[aT]
    .rfl
    .rw[List.all_map,all_eq_true];exact λ_ _=>rfl
   .rw[map_map];rfl
  all_goals cases h
 all_goals exact ahT rfl h
theorem akO{t:TypeId}{x y:DV X}(h:Re T t x y get k=some r):∃cm kk u ab,WQ T t (den x) (den y) cm (dJ [kk] (fE get))=some ab/\kE ab.obs/\ab.v= .undef/\ab.upd=iA [(kk,u)]/\k .undef [(kk,u)] [kk] [kk]=some r:=by
 unfold Re at h;unfold WQ;rw[ai]at h;obtain⟨ti,h1,h⟩:=h;rw[ai]at h;obtain⟨cs,h2,h⟩:=h;simp only[h1,zo h2,af];split at h
 .rename_i hl;have hdl:(bM cs).length=ti.size:=by rw[lT];exact hl
  simp only[hdl,if_true];split at h
  .rename_i kk row aa;rw[ai]at h;obtain⟨o,h3,h⟩:=h;split at h
   .rename_i sz rows;rw[ai]at h;obtain⟨rw',h4,h⟩:=h;split at h
    .rename_i hle;refine⟨.none,kk,_,⟨.undef,_,[]⟩,?_,trivial,rfl,rfl,h⟩;simp only[den,dS (List.mem_singleton_self kk) h3,af,bG,List.getElem?_map,h4,Option.map_some,lT];rw[aT (by rw[<- hl];exact hle)];simp[XI]
    .cases h
   .cases h
  .rename_i kk n aa;rw[ai]at h;obtain⟨o,h3,h⟩:=h;split at h
   .rename_i c l;rw[ai]at h;obtain⟨z,h4,h⟩:=h;split at h
    .rename_i hle;have⟨z',h5,h⟩:=ai.1 h;have⟨_,h6⟩:=Ou h4;refine⟨.set ((CT.row X.toSE c z).map AV.t) (aL ((l.set n.toNat z').map (CT.row X.toSE c))),kk,_,⟨.undef,_,[(aL (l.map (CT.row X.toSE c)))[n.toNat]? =some ((CT.row X.toSE c z).map AV.t)/\aL ((l.set n.toNat z').map (CT.row X.toSE c))=eu ((aL (l.map (CT.row X.toSE c))).set n.toNat (put' ((CT.row X.toSE c z).map AV.t) aa (bM cs)))]⟩,?_,?_,rfl,rfl,h⟩
     .simp only[den,dS (List.mem_singleton_self kk) h3,af,bG];rw[aT (by rw[length_map,xS,<- hl];exact hle)];simp[bG]
     .refine⟨by simp[aL,h6],?_⟩;have h7:=za h5;rw[XI,nV]at h7;have hid:eu (aL (l.map (CT.row X.toSE c)))=aL (l.map (CT.row X.toSE c)):=(by simp[eu,aL,Function.comp_def,wk]);simp only[eu,List.map_set,h7];have:(aL (l.map (CT.row X.toSE c))).map (List.map wk)=aL (l.map (CT.row X.toSE c)):=hid;rw[this];simp[aL]
    .cases h
   .cases h
  .cases h
 .cases h
theorem Q8{t:TypeId}{x:DV X}{f:Nat}(h:MI T t x f k=some r):∃dv ab,zk T t (den x) f=some ab/\kE ab.obs/\ab.v=den dv/\ab.upd=[]/\k dv [] [] []=some r:=by
 unfold MI at h;unfold zk;rw[ai]at h;obtain⟨⟨d,u⟩,h1,h⟩:=h;simp only[h1,af];split at h
 .exact⟨_,_,rfl,trivial,rfl,rfl,h⟩
 .exact⟨_,_,rfl,trivial,rfl,rfl,h⟩
 .exact⟨_,_,rfl,trivial,rfl,rfl,h⟩
 .cases h
theorem adx{t:TypeId}{x:DV X}{f:Nat}(h:ahP T t x f k=some r):∃dv ab,WR T t (den x) f=some ab/\kE ab.obs/\ab.v=den dv/\ab.upd=[]/\k dv [] [] []=some r:=by
 unfold ahP at h;unfold WR;rw[ai]at h;obtain⟨⟨d,u⟩,h1,h⟩:=h;simp only[h1,af];split at h
 .rw[ai]at h;obtain⟨v,h2,h⟩:=h;have h3:=DF h2;rw[kK]at h3;exact⟨v,⟨den v,[],[]⟩,by simp only[den,h3,af,pv],trivial,rfl,rfl,h⟩
 .rename_i j y;have⟨v,h2,h⟩:=ai.1 h;have h3:=Q7 h2;rw[map_take,map_drop]at h3;refine⟨v,⟨den v,[],[]⟩,?_,trivial,rfl,rfl,h⟩;show(part' u.agg u.size (List.take u.size (List.drop d ((CT.row X.toSE (.st j) y).map AV.t)))).bind pv=_;rw[h3];rfl
 .cases h
theorem dL{α:Type}{b:Bool}{x:J α}{r:α}(h:(bif b then x else none)=some r):b=true/\x=some r:=by grind
theorem XK{n:Int}{len:Nat}(h:co n len=true):0<=n/\n.toNat<len:=by simp only[co,aG,aJ]at h;omega
theorem qF{A:Type}:∀{cs:U Bool}{k:J A}{r:A},XE cs k=some r->(∀ c∈cs,c=true)/\k=some r
 |[],_,_,h=>⟨by simp,h⟩
 |c::cs,k,r,h=>by
  have⟨h1,h2⟩:=dL h;have⟨h3,h4⟩:=qF h2;exact⟨λ x hx=>(aO.1 hx).elim (λ e=>e ▸ h1) (h3 x),h4⟩
theorem Q9{t:TypeId}{x j:DV X}(h:MJ T t x j get k=some r):∃cm rd dv ab,mK T t (den x) (den j) cm (dJ rd (fE get))=some ab/\kE ab.obs/\ab.v=den dv/\ab.upd=[]/\k dv [] rd []=some r:=by
 unfold MJ at h;unfold mK;rw[ai]at h;obtain⟨ti,h1,h⟩:=h;simp only[h1,af];split at h
 .rename_i e kd n hk;rw[ai]at h;obtain⟨ei,h2,h⟩:=h;simp only[hk,den,CT.tv,TV.av,h2,af];split at h
  .rename_i c l;split at h
   .rename_i hs;rw[ai]at h;obtain⟨y,h3,h⟩:=h;have⟨h4,h5⟩:=Ou h3;refine⟨.sB (CT.row X.toSE c y),[],_,⟨.ej (CT.row X.toSE c y) 0,[],[0<=n/\(l.map (CT.row X.toSE c))[n.toNat]? =some (CT.row X.toSE c y)]⟩,?_,?_,rfl,rfl,h⟩
    .simp only[den,CT.tv,TV.av];rw[aT (by rw[xS];exact hs)];rfl
    .exact⟨h4,by simp[h5]⟩
   .cases h
  .rename_i kk aa len;rw[ai]at h;obtain⟨o,h3,h⟩:=h;split at h
   .rename_i c l;split at h
    .rename_i hs;have⟨h4,h⟩:=dL h;have⟨h5,h6⟩:=XK h4;refine⟨.none,[kk],_,⟨.ptr kk (aa+n.toNat) 0,[],[0<=n/\n.toNat<len]⟩,?_,⟨h5,h6⟩,?_,rfl,h⟩
     .simp only[den,dS (List.mem_singleton_self kk) h3,af,bG];rw[aT hs];rfl
     .simp only[den,iN];congr 1;show aa+Int.toNat n=Int.toNat ((aa:Int)+n);have:(0:Int)<=n:=h5;omega
    .cases h
   .rename_i sz rows;split at h
    .rename_i hs;have⟨h4,h⟩:=dL h;have⟨h5,h6⟩:=XK h4;refine⟨.none,[kk],_,⟨.ptr kk (aa+n.toNat) 0,[],[0<=n/\n.toNat<len]⟩,?_,⟨h5,h6⟩,rfl,rfl,h⟩;simp only[den,dS (List.mem_singleton_self kk) h3,af,bG];rw[aT hs];rfl
    .cases h
   .cases h
  .cases h
 .rename_i m e kd n hk;have⟨ei,h2,h⟩:=ai.1 h;simp only[hk,den,CT.tv,TV.av,h2,af];have⟨h4,h⟩:=dL h;have⟨h5,h6⟩:=XK h4;split at h
  .exact⟨.none,[],_,_,rfl,⟨h5,h6⟩,rfl,rfl,h⟩
  .exact⟨.none,[],_,_,rfl,⟨h5,h6⟩,rfl,rfl,h⟩
  .exact⟨.none,[],_,_,rfl,⟨h5,h6⟩,rfl,rfl,h⟩
  .cases h
 .cases h
theorem XL{x:DV X}{j:Nat}(h:XF x j k=some r):∃dv ab,IL (den x) j=some ab/\kE ab.obs/\ab.v=den dv/\ab.upd=[]/\k dv [] [] []=some r:=by
 unfold XF at h;split at h
 .have⟨v,h2,h⟩:=ai.1 h;refine⟨v,⟨den v,[],[]⟩,?_,trivial,rfl,rfl,h⟩;simp[IL,den,oN,h2,pv]
 .cases h
end
section
variable {X:SX} {A:Type} {T:dC} {an:TypeId->Option (CT X.ι)} {get:Nat->Option (bp X)} {k:KK X A} {r:A} {i:Nat}
theorem ady{op:BinOp}{kd:IntKind}{a b:Int}:∃v obs,WO op kd a b=some (v,obs)/\den (I5 (X:=X) op kd a b).1= .t (.sc v)/\(∀ g,(I5 (X:=X) op kd a b).2=some g->g=true->kE obs)/\((I5 (X:=X) op kd a b).2=none->kE obs):=by
 cases op<;>refine⟨_,_,rfl,rfl,λg hg ht=>?_,λhn=>?_⟩<;>simp only[I5,ay,reduceCtorEq]at* <;>try trivial
 all_goals subst hg;simp_all [kE]
theorem afd{n:Nat}{x y:DV X}{b:Bool}(h:adt n x y=some b):MF n (den x) (den y)=some b:=by
 unfold adt at h;split at h
 .split at h
  .cases h;simp only[den,CT.tv,TV.av,MF];rw[aT ‹_›]
  .cases h
 .exact h
 .exact h
 .cases h
theorem Ov:∀{ks:U Nat}{xs ys:U (DV X)}{b:Bool},wZ ks xs ys=some b->uI ks (bM xs) (bM ys)=some b
 |[],[],[],b,h=>h
 |k::ks,x::xs,y::ys,b,h=>by
  simp only[wZ]at h;rw[ai]at h;obtain⟨p,h1,h⟩:=h;rw[ai]at h;obtain⟨q,h2,h⟩:=h;simp only[bM,uI,afd h1,Ov h2,af,h]
 |[],_::_,_,_,h=>by simp[wZ]at h
 |[],[],_::_,_,h=>by simp[wZ]at h
 |_::_,[],_,_,h=>by simp[wZ]at h
 |_::_,_::_,[],_,h=>by simp[wZ]at h
theorem afe{x:DV X}{xs:U (DV X)}(h:NL x=some xs):den x= .agg (bM xs):=by
 unfold NL at h;split at h
 .cases h;rfl
 .rename_i j y;cases h;rw[nV];rfl
 .cases h
theorem ahU{op:BinOp}{t:TypeId}{x y:DV X}(h:W8 T op t x y k=some r):∃dv ab,wn T op t (den x) (den y)=some ab/\kE ab.obs/\ab.v=den dv/\ab.upd=[]/\k dv [] [] []=some r:=by
 unfold W8 at h;split at h
 .rename_i kd a yk b;split at h
  .rename_i hk;have⟨v,obs,h1,h2,h3,h4⟩:=ady (X:=X) (op:=op) (kd:=kd) (a:=a) (b:=b);have fin:kE obs->k (I5 op kd a b).1 [] [] []=some r->∃dv ab,wn T op t (den (.c (.int kd) a:DV X)) (den (.c (.int yk) b:DV X))=some ab/\kE ab.obs/\ab.v=den dv/\ab.upd=[]/\k dv [] [] []=some r:=by
    intro ho hkk;refine⟨_,⟨.t (.sc v),[],obs⟩,?_,ho,h2.symm,rfl,hkk⟩;simp only[den,CT.tv,TV.av,wn];rw[aT hk,h1];rfl
   split at h
   .rename_i hn;exact fin (h4 hn) h
   .rename_i g hg;have⟨hgt,h⟩:=dL h;exact fin (h3 g hg hgt) h
  .cases h
 .split at h
  .exact⟨_,_,rfl,trivial,rfl,rfl,h⟩
  .exact⟨_,_,rfl,trivial,rfl,rfl,h⟩
  .exact⟨_,_,rfl,trivial,rfl,rfl,h⟩
  .exact⟨_,_,rfl,trivial,rfl,rfl,h⟩
  .have⟨hc,h⟩:=dL h;exact⟨_,_,rfl,show _<=maxLen from of_decide_eq_true hc,rfl,rfl,h⟩
  .cases h
 .rw[ai]at h;obtain⟨ti,h1,h⟩:=h;split at h
  .rename_i hk;refine⟨_,⟨.t (.sc (.bool _)),[],[]⟩,?_,trivial,rfl,rfl,h⟩;simp only[den,CT.tv,TV.av,wn,h1,af,hk];rfl
  .rename_i hk;refine⟨_,⟨.t (.sc (.bool _)),[],[]⟩,?_,trivial,rfl,rfl,h⟩;simp only[den,CT.tv,TV.av,wn,h1,af,hk];rfl
  .cases h
 .rw[ai]at h;obtain⟨xs,h1,h⟩:=h;rw[ai]at h;obtain⟨ys,h2,h⟩:=h;rw[ai]at h;obtain⟨ti,h3,h⟩:=h;split at h
  .cases h
  .rename_i hc;have⟨b,h4,h⟩:=ai.1 h;have h5:=Ov h4;rw[afe h1,afe h2];split at h
   .refine⟨_,⟨.t (.sc (.bool b)),[],[]⟩,?_,trivial,rfl,rfl,h⟩;simp only[wn,h3,af];rw[aW hc,h5];rfl
   .refine⟨_,⟨.t (.sc (.bool (!b))),[],[]⟩,?_,trivial,rfl,rfl,h⟩;simp only[wn,h3,af];rw[aW hc,h5];rfl
   .cases h
theorem akP{op:UnOp}{x:DV X}(h:Q4 op x k=some r):∃dv ab,QP op (den x)=some ab/\kE ab.obs/\ab.v=den dv/\ab.upd=[]/\k dv [] [] []=some r:=by
 unfold Q4 at h;split at h
 .exact⟨_,_,rfl,trivial,rfl,rfl,h⟩
 .exact⟨_,_,rfl,trivial,rfl,rfl,h⟩
 .cases h
theorem TS(mx:Bool)(kd:IntKind):∀(l:U (DV X))(a n:Int),KG mx kd a l=some n->EQ mx kd a (bM l)=some n
 |[],a,n,h=>h
 |x::l,a,n,h=>by
  cases x
  case c t y=>
   cases t
   case int k'=>
    simp only[KG]at h;simp only[bM,den,CT.tv,TV.av,EQ];split at h
    .rename_i hk;rw[aT hk];exact TS mx kd l _ _ h
    .cases h
   all_goals simp[KG]at h
  all_goals simp[KG]at h
theorem ab5{mx:Bool}{args:U (DV X)}(h:Mo mx args k=some r):∃dv ab,Hc mx (bM args)=some ab/\kE ab.obs/\ab.v=den dv/\ab.upd=[]/\k dv [] [] []=some r:=by
 unfold Mo at h;split at h
 .rename_i kd a l;rw[ai]at h;obtain⟨n,h1,h⟩:=h;refine⟨_,⟨.t (.sc (.int kd n)),[],[]⟩,?_,trivial,rfl,rfl,h⟩;simp only[bM,den,CT.tv,TV.av,Hc];have:=TS mx kd l a n h1;simp only[this];rfl
 .cases h
theorem ahV{t:TypeId}{x:DV X}(h:W5 T t x k=some r):∃cm dv ab,AI T t (den x) cm=some ab/\kE ab.obs/\ab.v=den dv/\ab.upd=[]/\k dv [] [] []=some r:=by
 unfold W5 at h;unfold AI;rw[ai]at h;obtain⟨ti,h1,h⟩:=h;simp only[h1,af];split at h
 .rename_i e c l hk;simp only[hk];exact⟨.num (l.length:Int),_,⟨.t (.sc (.int .i64 (l.length:Int))),[],[(l.length:Int)=((l.map (CT.row X.toSE c)).length:Int)]⟩,rfl,by simp[kE],rfl,rfl,h⟩
 .rename_i hk;simp only[hk];exact⟨.none,_,_,rfl,trivial,rfl,rfl,h⟩
 .rename_i hk;simp only[hk];exact⟨.none,_,_,rfl,trivial,rfl,rfl,h⟩
 .rename_i hk;simp only[hk];exact⟨.none,_,_,rfl,trivial,rfl,rfl,h⟩
 .rename_i hk;simp only[hk];exact⟨.none,_,_,rfl,trivial,rfl,rfl,h⟩
 .cases h
theorem Ra(place:Nat->J (Nat×Nat)):∀(parts:U (Nat×DV X))(cells ab:U (DV X)),Ha place cells parts=some ab->Gm place (bM cells) (parts.map λp=>(p.1,den p.2))=some (bM ab)
 |[],cells,ab,h=>by simp only[Ha,ay]at h;subst h;rfl
 |(j,x)::ag,cells,ab,h=>by
  simp only[Ha]at h;rw[ai]at h;obtain⟨⟨aa,size⟩,h1,h⟩:=h;rw[ai]at h;obtain⟨cs,h2,h⟩:=h;split at h
  .rename_i hl;simp only[aF,Gm,h1,zo h2,af,lT];rw[aT hl,<- XI];exact Ra place ag _ _ h
  .cases h
theorem adz{t:TypeId}{parts:U (Nat×DV X)}(h:ahQ T t parts k=some r):∃dv ab,WS T t (parts.map λp=>(p.1,den p.2))=some ab/\kE ab.obs/\ab.v=den dv/\ab.upd=[]/\k dv [] [] []=some r:=by
 unfold ahQ at h;unfold WS;rw[ai]at h;obtain⟨ti,h1,h⟩:=h;simp only[h1,af];split at h
 .rename_i fs hk;split at h
  .rename_i ha;rw[ai]at h;obtain⟨cells,h2,h⟩:=h;have h3:=Ra _ _ _ _ h2;rw[zq]at h3;refine⟨_,⟨.agg (bM cells),[],[]⟩,?_,trivial,rfl,rfl,h⟩;simp only[hk];rw[aT ha,h3];rfl
  .cases h
 .rename_i m e hk;rw[ai]at h;obtain⟨ei,h2,h⟩:=h;rw[ai]at h;obtain⟨cells,h3,h⟩:=h;have h4:=Ra _ _ _ _ h3;rw[zq]at h4;refine⟨_,⟨.agg (bM cells),[],[]⟩,?_,trivial,rfl,rfl,h⟩;simp only[hk,h2,af,h4];rfl
 .cases h
theorem ab6(size:Nat)(c:CT X.ι)(hs:CT.sz X c=size)(z:U AV):∀(parts:U (Nat×DV X))(n:Nat)(l:U (CT.T X.toSE c))(done:U (List AV)),Lt c n parts=some l->done.length=n->
 ∃css:U (List AV),NU size (done++List.replicate parts.length z) (parts.map λp=>(p.1,den p.2))=some (done++css)/\css.map (λ r=>r.map wk)=aL (l.map (CT.row X.toSE c))
 |[],n,l,done,h,_=>by
  simp only[Lt,ay]at h;subst h;exact⟨[],by simp[NU],rfl⟩
 |(j,x)::ag,n,l,done,h,hd=>by
  simp only[Lt]at h;split at h
  .rename_i hj;subst hj;have⟨y,h1,h⟩:=ai.1 h;have⟨l',h2,h⟩:=ai.1 h;cases h;have⟨cs,g1,g2⟩:=akN h1;have hl:cs.length=size:=by
    have:=congrArg List.length g2;simp only[length_map,xS]at this;omega
   obtain⟨css,i1,i2⟩:=ab6 size c hs z ag (j+1) l' (done++[cs]) h2 (by simp[hd]);refine⟨cs::css,?_,?_⟩
   .simp only[aF,NU,g1,af];rw[aT ⟨hl,by simp;omega⟩];have:(done++List.replicate (ag.length+1) z).set j cs=done++[cs]++List.replicate ag.length z:=by
     rw[List.set_append_right _ _ (by omega),hd];simp[List.replicate_succ]
    simp only[bn,this,i1];simp
   .simp only[aF,i2,g2,aL,aF]
  .cases h
theorem Ow{t:TypeId}{len:Nat}{parts:U (Nat×DV X)}(h:I6 T an i t len parts k=some r):∃dv u ab,wY T i t len (parts.map λp=>(p.1,den p.2))=some ab/\kE ab.obs/\ab.v=den dv/\ab.upd=iA [(cx i,u)]/\k dv [(cx i,u)] [] []=some r:=by
 unfold I6 at h;unfold wY;rw[ai]at h;obtain⟨ti,h1,h⟩:=h;simp only[h1,af];split at h
 .rename_i e hk;rw[ai]at h;obtain⟨ei,h2,h⟩:=h;rw[ai]at h;obtain⟨c,h3,h⟩:=h;simp only[hk,h2,af];split at h
  .cases h
  .rename_i hno;simp only[not_or,Decidable.not_not]at hno;obtain⟨n1,n2,n3,n4⟩:=hno;have⟨l,h4,h⟩:=ai.1 h;have⟨css,g1,g2⟩:=ab6 ei.size c n3 (ei.zero.map cv) parts 0 l [] h4 rfl;simp only[bI,n4]at g1;refine⟨_,_,⟨.own (cx i) 0 len,[(cx i,some ⟨ei.size,eu css⟩)],[]⟩,?_,trivial,rfl,?_,h⟩
   .rw[aW (by simp only[not_or];exact⟨n1,n2⟩),g1];rfl
   .simp only[iA,bG,aF,map_nil,Option.map_some,n3];rw[show eu css=aL (l.map (CT.row X.toSE c))from g2]
 .cases h
theorem adA{e:TypeId}(h:ahR T i e k=some r):∃dv u ab,WT T i e=some ab/\kE ab.obs/\ab.v=den dv/\ab.upd=iA [(cx i,u)]/\k dv [(cx i,u)] [] []=some r:=by
 unfold ahR at h;unfold WT;have⟨ti,h1,h⟩:=ai.1 h;exact⟨_,_,⟨_,[(cx i,some ⟨ti.size,[ti.zero.map cv]⟩)],[]⟩,by simp only[h1,af];rfl,trivial,rfl,by simp[iA,bG,zq],h⟩
theorem ahW{x:DV X}(h:W4 i x k=some r):∃dv u ab,Ln i (den x)=some ab/\kE ab.obs/\ab.v=den dv/\ab.upd=iA [(cx i,u)]/\k dv [(cx i,u)] [] []=some r:=by
 unfold W4 at h;unfold Ln;rw[ai]at h;obtain⟨cs,h1,h⟩:=h;exact⟨_,_,⟨_,[(cx i,some ⟨(bM cs).length,[bM cs]⟩)],[]⟩,by simp only[zo h1,af];rfl,trivial,rfl,by simp[iA,bG,lT],h⟩
theorem xh{d n:Int}{x:J (DV X)}(h:wg d x=some n):bnd d (x.map den)=some n:=by
 unfold wg at h;split at h
 .exact h
 .exact h
 .cases h
theorem ab7{l h:Int}{len:Nat}(hh:vQ l h len=true):0<=l/\l<=h/\h<=(len:Int):=by simpa[vQ,and_assoc]using hh
theorem adB{t:TypeId}{x:DV X}{lo hi:J (DV X)}(h:ahS T t x lo hi get k=some r):∃cm rd dv ab,WU T t (den x) (lo.map den) (hi.map den) cm (dJ rd (fE get))=some ab/\kE ab.obs/\ab.v=den dv/\ab.upd=[]/\k dv [] rd []=some r:=by
 unfold ahS at h;unfold WU;rw[ai]at h;obtain⟨ti,h1,h⟩:=h;simp only[h1,af];split at h
 .rename_i e hk;rw[ai]at h;obtain⟨ei,h2,h⟩:=h;simp only[hk,h2,af];split at h
  .rename_i kk aa len;rw[ai]at h;obtain⟨o,h3,h⟩:=h;split at h
   .rename_i hs;rw[ai]at h;obtain⟨l,h4,h⟩:=h;rw[ai]at h;obtain⟨hh,h5,h⟩:=h;have⟨h6,h⟩:=dL h;refine⟨.none,[kk],_,⟨.own kk (aa+l.toNat) (hh.toNat -l.toNat),[],[0<=l/\l<=hh/\hh<=(len:Int)]⟩,?_,ab7 h6,rfl,rfl,h⟩;simp only[den,dS (List.mem_singleton_self kk) h3,af];rw[aT hs,xh h4,af,xh h5];rfl
   .cases h
  .rename_i c xs;split at h
   .rename_i hs;have⟨l,h4,h⟩:=ai.1 h;have⟨hh,h5,h⟩:=ai.1 h;have⟨h6,h⟩:=dL h;refine⟨.A0 ((sub xs l.toNat (hh.toNat -l.toNat)).map (CT.row X.toSE c)),[],_,⟨.t (.sl ((sub xs l.toNat (hh.toNat -l.toNat)).map (CT.row X.toSE c))),[],[0<=l/\l<=hh/\hh<=((xs.map (CT.row X.toSE c)).length:Int)/\(sub xs l.toNat (hh.toNat -l.toNat)).map (CT.row X.toSE c)=((xs.map (CT.row X.toSE c)).drop l.toNat).take (hh.toNat -l.toNat)/\(∀ q∈xs.map (CT.row X.toSE c),q.length=ei.size)]⟩,?_,?_,rfl,rfl,h⟩
    .simp only[den,CT.tv,TV.av,xh h4,af];have h7:bnd ((xs.map (CT.row X.toSE c)).length:Int) (hi.map den)=some hh:=by
      have:=xh h5;simpa using this
     rw[h7];rfl
    .have⟨a1,a2,a3⟩:=ab7 h6;refine⟨a1,a2,by simpa using a3,by simp[sub,map_take,map_drop],λq hq=>?_⟩;obtain⟨y,_,rfl⟩:=mem_map.1 hq;rw[xS];exact hs
   .cases h
  .cases h
 .cases h
end
section
variable {X:SX} {A:Type} {T:dC} {an:TypeId->Option (CT X.ι)} {get:Nat->Option (bp X)} {k:KK X A} {r:A} {i:Nat}
theorem jw{b c:CT X.ι}{l:U (CT.T X.toSE b)}{l':U (CT.T X.toSE c)}(h:gF (.sl b) (.sl c) l=some l'):CT.sz X b=CT.sz X c/\l.map (CT.row X.toSE b)=l'.map (CT.row X.toSE c):=by
 obtain⟨e,h⟩:=mO h
 grind
theorem aff{y:DV X}{c:CT X.ι}{n:Nat}{l:U (CT.T X.toSE c)}{rd:U Nat}(h:W0 y c get=some (n,l,rd))(hl:l.length=n)(rd':U Nat)(hrd:∀j∈rd,j∈rd'):
 ∃ob,WV (CT.sz X c) (den y) (dJ rd' (fE get))=some (n,ob,aL (l.map (CT.row X.toSE c)))/\ob:=by
 unfold W0 at h;split at h
 .rename_i kk aa len;rw[ai]at h;obtain⟨o,h1,h⟩:=h;split at h
  .rename_i b l0;rw[ai]at h;obtain⟨l1,h2,h⟩:=h;injection h with h;simp only[Prod.mk.injEq]at h;obtain⟨rfl,rfl,rfl⟩:=h;have⟨h3,h4⟩:=jw h2;refine⟨True,?_,trivial⟩;simp only[den,WV,dS (hrd kk (by simp)) h1,af,bG];rw[aT h3];simp only[h4,ay,Prod.mk.injEq,true_and];simp[aL,sub,map_take,map_drop]
  .cases h
 .rename_i b l0;have⟨l1,h2,h⟩:=ai.1 h;injection h with h;simp only[Prod.mk.injEq]at h;obtain⟨rfl,rfl,rfl⟩:=h;refine⟨∀ q∈l1.map (CT.row X.toSE c),q.length=CT.sz X c,?_,?_⟩
  .rw[(jb h2).1];simp only[den,CT.tv,TV.av,WV,length_map]
  .intro q hq;obtain⟨z,_,rfl⟩:=mem_map.1 hq;exact xS c z
 .cases h
theorem XM{lo len ln n bytes:Nat}(h:bP lo len ln n bytes=true):lo=len/\ln=n/\(len+n)*bytes<=140737488355328/\len+n<=maxLen:=by simpa[bP,and_assoc]using h
theorem pb{α:Type}(n:Nat)(l:U α):XG n l=l.drop n:=by cases n<;>rfl
theorem aaV{t:TypeId}{x y:DV X}(h:adu T an i t x y get k=some r):∃cm rd wr dv upd ab,Bc T i t (den x) (den y) cm (dJ rd (fE get))=some ab/\kE ab.obs/\ab.v=den dv/\ab.upd=iA upd/\(∀ p∈upd,p.1=cx i\/p.1∈wr)/\k dv upd rd wr=some r:=by
 unfold adu at h;unfold Bc;rw[ai]at h;obtain⟨ti,h1,h⟩:=h;simp only[h1,af];split at h
 .rename_i e hk;rw[ai]at h;obtain⟨ei,h2,h⟩:=h;rw[ai]at h;obtain⟨c,h3,h⟩:=h;simp only[hk,h2,af];split at h
  .rename_i hs;rw[ai]at h;obtain⟨⟨n,l,rd⟩,h4,h⟩:=h;split at h
   .rename_i kk aa len;rw[ai]at h;obtain⟨o,h5,h⟩:=h;split at h
    .rename_i b l0;have⟨l1,h6,h⟩:=ai.1 h;have⟨h7,h⟩:=dL h;rw[pb]at h7 h;have hd:(aL (l1.map (CT.row X.toSE c))).drop aa=aL ((l1.drop aa).map (CT.row X.toSE c)):=(by simp[aL]);have⟨g1,g2,g3,g4⟩:=XM h7;have⟨h8,h9⟩:=jw h6;obtain⟨ob,i1,i2⟩:=aff h4 g2 (kk::rd) (λ j hj=>by simp[hj]);have i3:=dS (rd:=kk::rd) (by simp) h5
     refine⟨.rows (aL ((l1.drop aa++l).map (CT.row X.toSE c))),kk::rd,[kk],_,_,⟨.own (cx i) 0 (aL ((l1.drop aa++l).map (CT.row X.toSE c))).length,[(cx i,some ⟨ei.size,aL ((l1.drop aa++l).map (CT.row X.toSE c))⟩),(kk,none)],
      [ob/\(aL ((l1.drop aa).map (CT.row X.toSE c))).length=len/\(aL (l.map (CT.row X.toSE c))).length=n/\aL ((l1.drop aa++l).map (CT.row X.toSE c))=aL ((l1.drop aa).map (CT.row X.toSE c))++aL (l.map (CT.row X.toSE c))/\(len+n)*ei.bytes<=140737488355328/\len+n<=maxLen]⟩,?_,?_,?_,?_,?_,h⟩
     .rw[hs]at i1;simp only[i1,af,den,i3,bG,h9,hd];rw[aT (by rw[h8,hs])]
     .exact⟨i2,by simpa[aL]using g1,by simpa[aL]using g2,by simp[aL],g3,g4⟩
     .simp[den,aL]
     .simp[iA,bG,hs]
     .intro p hp;simp only[aO,fM,or_false]at hp;rcases hp with rfl |rfl
      .exact .inl rfl
      .exact .inr (by simp)
    .cases h
   .have⟨h7,h⟩:=dL h;have⟨g1,g2,g3,g4⟩:=XM h7;obtain⟨ob,i1,i2⟩:=aff h4 g2 rd (λ j hj=>hj)
    refine⟨.rows (aL (l.map (CT.row X.toSE c))),rd,[],_,_,⟨.own (cx i) 0 (aL (l.map (CT.row X.toSE c))).length,[(cx i,some ⟨ei.size,aL (l.map (CT.row X.toSE c))⟩)],
     [ob/\(aL (l.map (CT.row X.toSE c))).length=n/\aL (l.map (CT.row X.toSE c))=aL (l.map (CT.row X.toSE c))/\n*ei.bytes<=140737488355328/\n<=maxLen]⟩,?_,?_,?_,?_,?_,h⟩
    .rw[hs]at i1;simp only[i1,af,den]
    .exact⟨i2,by simpa[aL]using g2,rfl,by simpa using g3,by simpa using g4⟩
    .simp[den,aL]
    .simp[iA,bG,hs]
    .intro p hp;simp only[aO,fM,or_false]at hp;rcases hp with rfl;exact .inl rfl
   .cases h
  .cases h
 .cases h
def aqU(T:dC)(i:Nat)(o:Oper)(ρ:Operand->DV X)(get:Nat->J (bp X))(k:KK X A)(r:A):Prop:=
 ∃cm rd wr dv upd ab,qZ T i o cm (λ x=>den (ρ x)) (dJ rd (fE get))=some ab/\kE ab.obs/\ab.v=den dv/\ab.upd=iA upd/\(∀ p∈upd,p.1=cx i\/p.1∈wr)/\k dv upd rd wr=some r
theorem XO{b:Builtin}{args:U (DV X)}{cX:U TypeId}(h:XH T an i b args cX get k=some r):∃cm rd wr dv upd ab,Dw T i b (bM args) cX cm (dJ rd (fE get))=some ab/\kE ab.obs/\ab.v=den dv/\ab.upd=iA upd/\(∀ p∈upd,p.1=cx i\/p.1∈wr)/\k dv upd rd wr=some r:=by
 unfold XH at h;unfold Dw;split at h
 .have⟨cm,dv,ab,h1,h2,h3,h4,h5⟩:=ahV h;exact⟨cm,[],[],dv,[],ab,h1,h2,h3,h4,by simp,h5⟩
 .have⟨dv,ab,h1,h2,h3,h4,h5⟩:=ab5 h;exact⟨.none,[],[],dv,[],ab,h1,h2,h3,h4,by simp,h5⟩
 .have⟨dv,ab,h1,h2,h3,h4,h5⟩:=ab5 h;exact⟨.none,[],[],dv,[],ab,h1,h2,h3,h4,by simp,h5⟩
 .split at h
  .rename_i htu;have⟨cm,rd,wr,dv,upd,ab,h1,h2⟩:=aaV h;refine⟨cm,rd,wr,dv,upd,ab,?_,h2⟩;simp only[bM];rw[aT htu];exact h1
  .cases h
 .cases h
theorem Wl(ρ:Operand->DV X)(l:U Operand):l.map (λ x=>den (ρ x))=bM (l.map ρ):=by rw[oN,map_map];rfl
theorem ab8{o:Oper}{ρ:Operand->DV X}(h:Mn T an i o.op ρ get k=some r):aqU T i o ρ get k r:=by
 obtain⟨dst,op,ty,aq,after,guard⟩:=o;unfold aqU qZ;simp only at h;unfold Mn at h;split at h
 .exact⟨.none,[],[],_,[],_,rfl,trivial,rfl,rfl,by simp,h⟩
 .exact⟨.none,[],[],_,[],_,rfl,trivial,rfl,rfl,by simp,h⟩
 .rename_i c a b;split at h
  .rename_i t hc;refine⟨.none,[],[],_,[],⟨L0 t (den (ρ a)) (den (ρ b)),[],[]⟩,?_,trivial,(akL t _ _).symm,rfl,by simp,h⟩;simp only[hc,den,CT.tv,TV.av,pv]
  .cases h
 .have⟨dv,u,ab,h1,h2,h3,h4,h5⟩:=adA h;exact⟨.none,[],[],dv,_,ab,h1,h2,h3,h4,by simp,h5⟩
 .have⟨dv,u,ab,h1,h2,h3,h4,h5⟩:=ahW h;exact⟨.none,[],[],dv,_,ab,h1,h2,h3,h4,by simp,h5⟩
 .rename_i t parts;have⟨dv,ab,h1,h2,h3,h4,h5⟩:=adz h;refine⟨.none,[],[],dv,[],ab,?_,h2,h3,h4,by simp,h5⟩;rw[map_map]at h1;exact h1
 .rename_i t len parts;have⟨dv,u,ab,h1,h2,h3,h4,h5⟩:=Ow h;refine⟨.none,[],[],dv,_,ab,?_,h2,h3,h4,by simp,h5⟩;rw[map_map]at h1;exact h1
 .have⟨cm,rd,dv,ab,h1,h2,h3,h4,h5⟩:=akM h;exact⟨cm,rd,[],dv,[],ab,h1,h2,h3,h4,by simp,h5⟩
 .have⟨cm,kk,u,ab,h1,h2,h3,h4,h5⟩:=akO h;exact⟨cm,[kk],[kk],.undef,_,ab,h1,h2,h3,h4,by simp,h5⟩
 .have⟨dv,ab,h1,h2,h3,h4,h5⟩:=ahU h;exact⟨.none,[],[],dv,[],ab,h1,h2,h3,h4,by simp,h5⟩
 .have⟨dv,ab,h1,h2,h3,h4,h5⟩:=akP h;exact⟨.none,[],[],dv,[],ab,h1,h2,h3,h4,by simp,h5⟩
 .rename_i f first caps
  refine⟨.none,[],[],_,[],⟨.fn f (first.toList.map λx=>den (ρ x)) (caps.toList.map λx=>den (ρ x)),[],[]⟩,rfl,trivial,?_,rfl,by simp,h⟩;simp only[den,Wl]
 .rename_i t x lo hi;have⟨cm,rd,dv,ab,h1,h2,h3,h4,h5⟩:=adB h;refine⟨cm,rd,[],dv,[],ab,?_,h2,h3,h4,by simp,h5⟩;simp only[Option.map_map]at h1;exact h1
 .have⟨dv,ab,h1,h2,h3,h4,h5⟩:=Q8 h;exact⟨.none,[],[],dv,[],ab,h1,h2,h3,h4,by simp,h5⟩
 .have⟨dv,ab,h1,h2,h3,h4,h5⟩:=adx h;exact⟨.none,[],[],dv,[],ab,h1,h2,h3,h4,by simp,h5⟩
 .have⟨cm,rd,dv,ab,h1,h2,h3,h4,h5⟩:=Q9 h;exact⟨cm,rd,[],dv,[],ab,h1,h2,h3,h4,by simp,h5⟩
 .have⟨dv,ab,h1,h2,h3,h4,h5⟩:=XL h;exact⟨.none,[],[],dv,[],ab,h1,h2,h3,h4,by simp,h5⟩
 .rename_i b args cX;have⟨cm,rd,wr,dv,upd,ab,h1,h2⟩:=XO h;refine⟨cm,rd,wr,dv,upd,ab,?_,h2⟩;simp only[Wl];exact h1
 .cases h
end
inductive Pt(ι:Type) where
 |v (c:CT ι)
 |o (k:Nat)
 |p (k:Nat)
 |nil
 |f (F:FuncId) (fs cs:List (Pt ι))
 |od (k:Nat)
 |mp (k:Nat)
 |oz (k:Nat)
 |a (ps:List (Pt ι))
inductive OP(ι:Type) where
 |l (c:CT ι)
 |m (k v:CT ι)
 |c (sz:Nat) (rows:List (List (Pt ι)))
section
variable {ι:Type}
mutual
def Pt.vars:Pt ι->List (CT ι)
 | .v c=>[c]
 | .a ps=>cI ps
 | .f _ fs cs=>cI fs++cI cs
 | .od _=>[.int .i64]
 |_=>[]
def cI:List (Pt ι)->List (CT ι)
 |[]=>[]
 |p::ps=>p.vars++cI ps
end
def gA:U (Nat×Pt ι)->U (CT ι)
 |[]=>[]
 |p::ps=>p.2.vars++gA ps
def xk:U (List (Pt ι))->U (CT ι)
 |[]=>[]
 |r::rs=>cI r++xk rs
def cC:U (Nat×OP ι)->U (CT ι)
 |[]=>[]
 |(_,.l c)::r=> .sl c::cC r
 |(_,.m k v)::r=> .mp k v::cC r
 |(_,.c _ rows)::r=>xk rows++cC r
end
section
variable {X:SX}
structure DC(X:SX) where
 c:CT X.ι
 x:CT.T X.toSE c
@[reducible] def VT:U (CT X.ι)->Type
 |[]=>Unit
 |[c]=>CT.T X.toSE c
 |c::c'::l=>CT.T X.toSE c×VT (c'::l)
def we:(l:U (CT X.ι))->U (DC X)->J (VT (X:=X) l)
 |[],[]=>some ()
 |[c],[d]=>gF d.c c d.x
 |c::c'::l,d::ds=>(gF d.c c d.x).bind λx=>(we (c'::l) ds).bind λv=>some (x,v)
 |_,_=>none
def xq:(l:U (CT X.ι))->VT (X:=X) l->U (DC X)
 |[],_=>[]
 |[c],x=>[⟨c,x⟩]
 |c::c'::l,v=>⟨c,v.1⟩::xq (c'::l) v.2
theorem afg{d:DC X}{c:CT X.ι}{x:CT.T X.toSE c}(h:gF d.c c d.x=some x):(⟨c,x⟩:DC X)=d:=by
 obtain⟨a,y⟩:=d;have⟨e,h⟩:=mO h;simp only at e;subst e;subst h;rfl
theorem XP:∀{l:U (CT X.ι)}{ds:U (DC X)}{v:VT (X:=X) l},we l ds=some v->xq l v=ds
 |[],[],_,_=>rfl
 |[c],[d],v,h=>by simp only[we]at h;simp only[xq,afg h]
 |c::c'::l,d::ds,v,h=>by
  simp only[we]at h;rw[ai]at h;obtain⟨x,h1,h⟩:=h;rw[ai]at h;obtain⟨v',h2,h⟩:=h;cases h;simp only[xq,afg h1,XP h2]
 |[],_::_,_,h=>by simp[we]at h
 |[_],[],_,h=>by simp[we]at h
 |[_],_::_::_,_,h=>by simp[we]at h
 |_::_::_,[],_,h=>by simp[we]at h
theorem XQ{c:CT X.ι}(x:CT.T X.toSE c):gF c c x=some x:=by
 unfold gF;split
 .rfl
 .rename_i h _;exact absurd rfl h
def G4(d:DC X):Nat:=match gF d.c (.int .i64) d.x with |some x=>Int.toNat x |none=>0
section
variable (dg:Nat->Nat)
mutual
def eP:Pt X.ι->List (DC X)->DV X×List (DC X)
 | .v _,L=>match L with
  |d::r=>(.c d.c d.x,r)
  |[]=>(.undef,[])
 | .o k,L=>(.own k 0 (dg k),L)
 | .p k,L=>(.ptr k 0 0,L)
 | .mp k,L=>(.mp k,L)
 | .oz k,L=>(.oz k (dg k),L)
 | .nil,L=>(.nil,L)
 | .f F fs cs,L=>(.fn F (k8 fs L).1 (k8 cs (k8 fs L).2).1,(k8 cs (k8 fs L).2).2)
 | .od k,L=>match L with
  |d::r=>(.own k (G4 d) (dg k -G4 d),r)
  |[]=>(.undef,[])
 | .a ps,L=>(.agg (k8 ps L).1,(k8 ps L).2)
def k8:List (Pt X.ι)->List (DC X)->List (DV X)×List (DC X)
 |[],L=>([],L)
 |p::ps,L=>((eP p L).1::(k8 ps (eP p L).2).1,(k8 ps (eP p L).2).2)
end
def MK:U (Nat×Pt X.ι)->U (DC X)->U (Nat×DV X)
 |[],_=>[]
 |(t,p)::r,L=>(t,(eP dg p L).1)::MK r (eP dg p L).2
def xu:U (List (Pt X.ι))->U (DC X)->U (List (DV X))×List (DC X)
 |[],L=>([],L)
 |r::rs,L=>((k8 dg r L).1::(xu rs (k8 dg r L).2).1,(xu rs (k8 dg r L).2).2)
def cB:U (Nat×OP X.ι)->U (DC X)->U (Nat×Option (bp X))
 |[],_=>[]
 |(k,.l _)::r,L=>match L with
  |⟨.sl c',x⟩::L=>(k,some (.da c' x))::cB r L
  |_=>[]
 |(k,.m _ _)::r,L=>match L with
  |⟨.mp kc vc,x⟩::L=>(k,some (.map kc vc x))::cB r L
  |_=>[]
 |(k,.c sz rows)::r,L=>(k,some (.cells sz (xu dg rows L).1))::cB r (xu dg rows L).2
end
def lens:U (Nat×OP X.ι)->U (DC X)->U (Nat×Nat)
 |[],_=>[]
 |(k,.l _)::r,L=>match L with
  |⟨.sl _,x⟩::L=>(k,List.length x)::lens r L
  |_=>[]
 |(_,.m _ _)::r,L=>lens r (L.drop 1)
 |(_,.c _ rows)::r,L=>lens r (L.drop (xk rows).length)
def ld:Nat->U (Pt X.ι)->U (Nat×Pt X.ι)
 |_,[]=>[]
 |n,p::ps=>(n,p)::ld (n+1) ps
theorem Rb:∀(n:Nat)(ps:U (Pt X.ι)),gA (ld n ps)=cI ps
 |_,[]=>rfl
 |n,p::ps=>by simp only[ld,gA,cI,Rb (n+1) ps]
structure cH(X:SX) where
 pn:List (Pt X.ι)
 io:List (Nat×OP X.ι)
 fj:List (Pt X.ι)
 il:List (Nat×OP X.ι)
 fn:VT (X:=X) (cI pn++cC io)->Option (VT (X:=X) (gA (ld 0 fj)++cC il))
def E5(O:U (Nat×OP X.ι))(L:U (DC X))(k:Nat):Nat:=(lk (lens O L) k).getD 0
def XR(ps:U (Pt X.ι))(O:U (Nat×OP X.ι))(L:U (DC X)):U (DV X):=(k8 (E5 O (L.drop (cI ps).length)) ps (L.take (cI ps).length)).1
def LN(ps:U (Pt X.ι))(O:U (Nat×OP X.ι))(L:U (DC X)):U (Nat×Option (bp X)):=cB (E5 O (L.drop (cI ps).length)) O (L.drop (cI ps).length)
def zx:U (DV X)->DV X
 |[d]=>d
 |ds=> .eC ds
def dF:U (Nat×Option (bp X))->U (Nat×bp X)
 |[]=>[]
 |(k,some o)::r=>(k,o)::dF r
 |(_,none)::r=>dF r
def rV(l:U (Nat×bp X)):U (Nat×aS):=l.map λp=>(p.1,bG p.2)
def cH.args(g:cH X)(v:VT (X:=X) (cI g.pn++cC g.io)):U (DV X):=XR g.pn g.io (xq _ v)
def cH.cD(g:cH X)(v:VT (X:=X) (cI g.pn++cC g.io)):U (Nat×bp X):=dF (LN g.pn g.io (xq _ v))
def cH.res(g:cH X)(r:VT (X:=X) (gA (ld 0 g.fj)++cC g.il)):DV X:=zx (XR g.fj g.il (xq _ r))
def cH.outs(g:cH X)(r:VT (X:=X) (gA (ld 0 g.fj)++cC g.il)):U (Nat×bp X):=dF (LN g.fj g.il (xq _ r))
def GE(P:Program)(f:FuncId)(g:cH X):Prop:=∀v r,g.fn v=some r->yy P f (bM (g.args v)) ((g.cD v).map λp=>bG p.2) (rV (g.outs r)) (den (g.res r))
end
inductive AT(ι:Type) where
 |d (c:CT ι)
 |ref (c:CT ι)
 |du (as:List (CT ι)) (r:CT ι)
 |mut (c:CT ι)
 |i7 (c:CT ι)
 |nil
 deriving DecidableEq
def AT.im{ι:Type}:AT ι->Bool
 | .mut _ | .i7 _=>true
 |_=>false
def AT.pl{ι:Type}:AT ι->Bool
 | .mut _ | .i7 _ | .nil=>false
 |_=>true
inductive RT(ι:Type) where
 |d (c:CT ι)
 |fresh (e:CT ι)
 |whole (j:Nat)
 |mu (c:CT ι)
 |mr (c:CT ι)
 |mv
def RT.out{ι:Type}:RT ι->Bool
 | .mu _ | .mr _ | .mv=>true
 |_=>false
section
variable (X:SX)
@[reducible] def AT.T:AT X.ι->Type
 | .d c=>CT.T X.toSE c
 | .ref c=>CT.T X.toSE c
 | .du as r=>HL X.toSE as->J (CT.T X.toSE r)
 | .mut c=>U (CT.T X.toSE c)
 | .i7 c=>CT.T X.toSE c
 | .nil=>Unit
@[reducible] def RT.T:RT X.ι->Type
 | .d c=>CT.T X.toSE c
 | .fresh e=>U (CT.T X.toSE e)
 | .whole _=>Unit
 | .mu c=>U (CT.T X.toSE c)
 | .mr c=>CT.T X.toSE c
 | .mv=>Unit
@[reducible] def je:U (AT X.ι)->Type
 |[]=>Unit
 |a::l=>AT.T X a×je l
@[reducible] def uF:U (RT X.ι)->Type
 |[]=>Unit
 |[r]=>RT.T X r
 |r::r'::l=>RT.T X r×uF (r'::l)
structure bz where
 args:List (AT X.ι)
 res:List (RT X.ι)
 fn:je X args->Option (uF X res)
 gen:Option (cH X):=none
variable {X}
def dN:Nat->(l:U (AT X.ι))->je X l->U AV
 |_,[],_=>[]
 |n,.d c::l,a=>(CT.tv X.toSE c a.1).av::dN n l a.2
 |n,.ref c::l,a=> .ej (CT.row X.toSE c a.1) 0::dN n l a.2
 |n,.du as r::l,a=>den (.du as r a.1:DV X)::dN n l a.2
 |n,.mut _::l,a=> .own n 0 (List.length a.1)::dN (n+1) l a.2
 |n,.i7 _::l,a=> .ptr n 0 0::dN (n+1) l a.2
 |n,.nil::l,a=> .cM::dN n l a.2
abbrev zy(l:U (AT X.ι))(a:je X l):U AV:=dN 0 l a
def tQ(c:CT X.ι)(l:U (CT.T X.toSE c)):fe:=(CT.sz X c,l.map (CT.row X.toSE c))
def rf:(l:U (AT X.ι))->je X l->U fe
 |[],_=>[]
 | .mut c::l,a=>tQ c a.1::rf l a.2
 | .i7 c::l,a=>tQ c [a.1]::rf l a.2
 | .d _::l,a=>rf l a.2
 | .ref _::l,a=>rf l a.2
 | .du _ _::l,a=>rf l a.2
 | .nil::l,a=>rf l a.2
def rq:(r:RT X.ι)->RT.T X r->U (Option fe)
 | .mu c,x=>[some (tQ c x)]
 | .mr c,x=>[some (tQ c [x])]
 | .mv,_=>[none]
 |_,_=>[]
def oO:(l:U (RT X.ι))->uF X l->U (Option fe)
 |[],_=>[]
 |[r],x=>rq r x
 |r::r'::l,x=>rq r x.1++oO (r'::l) x.2
def wd:(r:RT X.ι)->RT.T X r->U Nat
 | .mu _,x=>[List.length x]
 | .mr _,_=>[1]
 | .mv,_=>[0]
 |_,_=>[]
def yr:(l:U (RT X.ι))->uF X l->U Nat
 |[],_=>[]
 |[r],x=>wd r x
 |r::r'::l,x=>wd r x.1++yr (r'::l) x.2
def XT(ns:U Nat):(r:RT X.ι)->RT.T X r->U RC
 | .d c,x=>[.d (CT.tv X.toSE c x)]
 | .fresh e,l=>[.fresh (CT.sz X e) (l.map (CT.row X.toSE e))]
 | .whole j,_=>[.whole j (ns.getD j 0)]
 |_,_=>[]
def Cj(ns:U Nat):(l:U (RT X.ι))->uF X l->U RC
 |[],_=>[]
 |[r],x=>XT ns r x
 |r::r'::l,x=>XT ns r x.1++Cj ns (r'::l) x.2
def uJ(l:U (RT X.ι))(x:uF X l):RV:=
 match Cj (yr l x) l x with
 |[c]=> .one c
 |cs=> .eC cs
def sA(P:Program)(Γ:FuncId->J (bz X)):Prop:=
 ∀f s,Γ f=some s->eU P f/\(∀ a r,s.fn a=some r->p6 P f (zy s.args a) (rf s.args a) (oO s.res r) (uJ s.res r))/\∀g,s.gen=some g->GE P f g
theorem aqV:∀{l:U (AT X.ι)},(l.all λq=>q.pl)=true->(l.all λq=>!q.im)=true:=λ{l} h=>by
 rw[all_eq_true]at h ⊢;intro q hq;have:=h q hq;cases q<;>simp_all [AT.pl,AT.im]
theorem zA:∀{l:U (AT X.ι)}{a:je X l},(l.all λq=>!q.im)=true->rf l a=[]
 |[],_,_=>rfl
 | .d _::l,a,h=>zA (l:=l) (by simpa[AT.im]using h)
 | .ref _::l,a,h=>zA (l:=l) (by simpa[AT.im]using h)
 | .du _ _::l,a,h=>zA (l:=l) (by simpa[AT.im]using h)
 | .mut _::l,a,h=>by simp[AT.im]at h
 | .i7 _::l,a,h=>by simp[AT.im]at h
 | .nil::l,a,h=>zA (l:=l) (by simpa[AT.im]using h)
theorem afi{r:RT X.ι}{x:RT.T X r}(h:(!r.out)=true):rq r x=[]:=by cases r<;>first |rfl |simp[RT.out]at h
theorem afj:∀{l:U (RT X.ι)}{x:uF X l},(l.all λq=>!q.out)=true->oO l x=[]
 |[],_,_=>rfl
 |[r],x,h=>afi (by simpa using h)
 |r::r'::l,x,h=>by
  simp only[all_cons,aG]at h;simp only[oO,afi h.1,bI];exact afj (l:=r'::l) (by simp only[all_cons,aG];exact h.2)
mutual
def bm:DV X->List Nat
 | .own k _ _=>[k]
 | .ptr k _ _=>[k]
 | .qn k _ _=>[k]
 | .so k _ _ _ _=>[k]
 | .mp k=>[k]
 | .oz k _=>[k]
 | .agg cs=>aR cs
 | .eC cs=>aR cs
 | .fn _ first caps=>aR first++aR caps
 |_=>[]
def aR:List (DV X)->List Nat
 |[]=>[]
 |x::xs=>bm x++aR xs
end
theorem Bj(c:CT X.ι)(x:CT.T X.toSE c):refs (CT.tv X.toSE c x).av=[]:=by
 cases c<;>try rfl
 rename_i i;show eX ((X.row i x).map AV.t)=[];generalize X.row i x=l
 induction l with
 |nil=>rfl
 |cons y ys ih=>simp only[aF,eX,refs,ih,bI]
mutual
theorem jc:∀x:DV X,refs (den x)=bm x
 | .c t x=>Bj t x
 | .agg cs=>by simp only[den,refs,bm,iD cs]
 | .eC cs=>by simp only[den,refs,bm,iD cs]
 | .own _ _ _=>rfl
 | .ptr _ _ _=>rfl
 | .qn _ _ _=>rfl
 | .mp _=>rfl
 | .oz _ _=>rfl
 | .so _ _ _ _ _=>rfl
 | .rp _ _ _=>rfl
 | .xi _ _ _ _ _=>rfl
 | .fn f first caps=>by simp only[den,refs,bm,iD first,iD caps]
 | .du _ _ _=>rfl
 | .raw v=>by
  simp only[den,bm,cv];split
  .rfl
  .split<;>rfl
 | .nil=>rfl
 | .ub=>rfl
 | .skip=>rfl
 | .undef=>rfl
theorem iD:∀l:List (DV X),eX (bM l)=aR l
 |[]=>rfl
 |x::xs=>by simp only[bM,eX,aR,jc x,iD xs]
end
def TU(get:Nat->J (bp X))(d:DV X)(c:CT X.ι):J (CT.T X.toSE c×List Bool):=
 match d,c with
 | .own kk aa len,.sl e=>(get kk).bind λo=>match o with
  | .da b l=>(gF (.sl b) (.sl e) l).bind λ(l:List (CT.T X.toSE e))=>some (sub l aa len,[be (sub l aa len).length len])
  |_=>none
 | .own kk aa len,.any=>(get kk).bind λo=>match o with
  | .da b l=>some (.sl (List.map (CT.row X.toSE b) (sub l aa len)),[be (sub l aa len).length len])
  |_=>none
 | .oz kk len,.sl e=>(get kk).bind λo=>match o with
  | .da b l=>(gF (.sl b) (.sl e) l).bind λ(l:List (CT.T X.toSE e))=>some (sub l 0 len,[be (sub l 0 len).length len])
  |_=>none
 |d,c=>(Lb d c).bind λx=>some (x,[])
def xU(get:Nat->J (bp X)):U (DV X)->(l:U (CT X.ι))->J (HL X.toSE l×List Bool)
 |[],[]=>some ((),[])
 |d::ds,c::l=>(TU get d c).bind λx=>(xU get ds l).bind λh=>some ((x.1,h.1),x.2++h.2)
 |_,_=>none
def GW(get:Nat->J (bp X))(d:DV X)(i:X.ι):J (CT.T X.toSE (.st i)×List Bool):=
 match d with
 | .agg cs=>(xU get cs (X.cX i)).bind λh=>some (X.make i h.1,h.2)
 | .c a x=>(gF a (.st i) x).bind λx=>some (x,[])
 |_=>none
def Gs(get:Nat->J (bp X))(d:DV X)(c:CT X.ι):J (CT.T X.toSE c×List Bool):=
 match c with
 | .st i=>GW get d i
 |c=>TU get d c
def ZS(get:Nat->J (bp X))(d:DV X)(c:CT X.ι):J (CT.T X.toSE c):=
 match d with
 | .ptr kk row 0=>(get kk).bind λo=>match o with
  | .cells _ rows=>(rows[row]?).bind λq=>if q.all (λ x=>match x with | .c _ _=>true |_=>false)then Ot c q else none
  |_=>none
 | .rp a x 0=>gF a c x
 |_=>none
def uk:(l l':U (AT X.ι))->je X l->je X l'->je X (l++l')
 |[],_,_,b=>b
 |_::l,l',a,b=>(a.1,uk l l' a.2 b)
def hlA:(as:U (CT X.ι))->HL X.toSE as->je X (as.map AT.d)
 |[],_=>()
 |_::l,h=>(h.1,hlA l h.2)
def ru:U (AT X.ι)->Nat
 |[]=>0
 |q::l=>(if q.im then 1 else 0)+ru l
theorem lU:∀(n:Nat)(l l':U (AT X.ι))(a:je X l)(b:je X l'),dN n (l++l') (uk l l' a b)=dN n l a++dN (n+ru l) l' b
 |n,[],_,_,_=>rfl
 |n,.d c::l,l',a,b=>by simp[dN,uk,lU n l l' a.2 b,ru,AT.im]
 |n,.ref c::l,l',a,b=>by simp[dN,uk,lU n l l' a.2 b,ru,AT.im]
 |n,.du as r::l,l',a,b=>by simp[dN,uk,lU n l l' a.2 b,ru,AT.im]
 |n,.mut c::l,l',a,b=>by simp[dN,uk,lU (n+1) l l' a.2 b,ru,AT.im,Nat.add_assoc]
 |n,.i7 c::l,l',a,b=>by simp[dN,uk,lU (n+1) l l' a.2 b,ru,AT.im,Nat.add_assoc]
 |n,.nil::l,l',a,b=>by simp[dN,uk,lU n l l' a.2 b,ru,AT.im]
theorem Rc:∀(n:Nat)(as:U (CT X.ι))(h:HL X.toSE as),dN n (as.map AT.d) (hlA as h)=(HL.nh X.toSE as h).map TV.av
 |_,[],_=>rfl
 |n,c::l,h=>congrArg ((CT.tv X.toSE c h.1).av:: ·) (Rc n l h.2)
def apR{a b:CT X.ι}(h:a=b)(o:J (CT.T X.toSE a)):J (CT.T X.toSE b):=h ▸ o
def kL(get:Nat->J (bp X))(pd:FuncId->U (DV X)->U (DV X)->(as:U (CT X.ι))->(r:CT X.ι)->J ((HL X.toSE as->J (CT.T X.toSE r))×List Bool)):U (DV X)->(l:U (AT X.ι))->J (je X l×List Bool)
 |[],[]=>some ((),[])
 |d::ds,.d c::l=>(Gs get d c).bind λx=>(kL get pd ds l).bind λh=>some ((x.1,h.1),x.2++h.2)
 |d::ds,.ref c::l=>(ZS get d c).bind λx=>(kL get pd ds l).bind λh=>some ((x,h.1),h.2)
 |d::ds,.du as r::l=>(match d with
  | .du as' r' φ=>if h:as'=as/\r'=r then some (λ x=>apR h.2 (φ (h.1 ▸ x)),[])else none
  | .fn f first caps=>pd f first caps as r
  |_=>none).bind λφ=>(kL get pd ds l).bind λq=>some ((φ.1,q.1),φ.2++q.2)
 |_,_=>none
def TW(Γ:FuncId->J (bz X))(get:Nat->J (bp X)):Nat->U (DV X)->(l:U (AT X.ι))->J (je X l×List Bool)
 | 0,ds,l=>kL get (λ _ _ _ _ _=>none) ds l
 |n+1,ds,l=>kL get (λ f first caps as r=>(Γ f).bind λs=>match s with
   |⟨sa,[.d r'],fn,_⟩=>
    if h:r'=r/\sa=sa.take first.length++(as.map AT.d++sa.drop (first.length+as.length))/\first.length=0 then
     (TW Γ get n first (sa.take first.length)).bind λhf=>(TW Γ get n caps (sa.drop (first.length+as.length))).bind λhc=>
      some (λ x=>apR h.1 (fn (h.2.1 ▸ uk _ _ hf.1 (uk _ _ (hlA as x) hc.1))),hf.2++hc.2)
    else none
   |_=>none) ds l
section
variable {P:Program} {Γ:FuncId->Option (bz X)} {get:Nat->Option (bp X)} {rd:List Nat}
theorem gZ{a b:U Prop}(h:∀p∈a,p)(h':∀p∈b,p):∀p∈a++b,p:=by grind
theorem I7{d:DV X}{c:CT X.ι}{x:CT.T X.toSE c×List Bool}(h:TU get d c=some x)(hc:∀b∈x.2,b=true)(hrd:∀j∈bm d,j∈rd):∃hs obs,(∀ p∈obs,p)/\∀ag,oM P (dJ rd (fE get)) (den d) (hs++ag)=some ((CT.tv X.toSE c x.1).av,ag,obs):=by
 have base:∀{d:DV X}{c:CT X.ι}{x:CT.T X.toSE c},Lb d c=some x->∃hs obs,(∀ p∈obs,p)/\∀ag,oM P (dJ rd (fE get)) (den d) (hs++ag)=some ((CT.tv X.toSE c x).av,ag,obs):=by
  intro d c x h;unfold Lb at h;split at h
  .rw[(jb h).1];refine⟨[],[],by simp,λag=>?_⟩;simp only[bI,den];cases c<;>try rfl
   rename_i j;show oM P _ (.agg ((X.row j x).map AV.t)) ag=_;have:∀(l:U Tree) (hs:U LH),mZ P (dJ rd (fE get)) (l.map AV.t) hs=some (l.map AV.t,hs,[]):=by
    intro l
    induction l with
    |nil=>intro hs;rfl
    |cons y ys ih=>intro hs;simp only[aF,mZ,oM,af,ih,bI]
   simp only[oM,this,af];rfl
  .cases h;exact⟨[.emp],[],by simp,λag=>rfl⟩
  .cases h;exact⟨[.emp],[],by simp,λag=>rfl⟩
  .cases h
 unfold TU at h;split at h
 .rename_i kk aa len e;rw[ai]at h;obtain⟨o,h1,h⟩:=h;split at h
  .rename_i b l0;rw[ai]at h;obtain⟨l,h2,h⟩:=h;cases h;have h3:(sub l aa len).length=len:=(by simpa[be]using hc (be (sub l aa len).length len) (by simp));have⟨h4,h5⟩:=jw h2;refine⟨[.rows ((sub l aa len).map (CT.row X.toSE e))],[(((bG (.da b l0):aS).rows.drop aa).take len=aL ((sub l aa len).map (CT.row X.toSE e))/\((sub l aa len).map (CT.row X.toSE e)).length=len)],?_,λag=>?_⟩
   .intro p hp;simp only[aY]at hp;subst hp;refine⟨?_,by simpa using h3⟩;simp only[bG,h5];simp[aL,sub,map_take]
   .simp only[cons_append,bI,den,oM,dS (hrd kk (by simp[bm])) h1,af];rfl
  .cases h
 .rename_i kk aa len;rw[ai]at h;obtain⟨o,h1,h⟩:=h;split at h
  .rename_i b l0;cases h;have h3:(sub l0 aa len).length=len:=(by simpa[be]using hc (be (sub l0 aa len).length len) (by simp));refine⟨[.rows ((sub l0 aa len).map (CT.row X.toSE b))],[(((bG (.da b l0):aS).rows.drop aa).take len=aL ((sub l0 aa len).map (CT.row X.toSE b))/\((sub l0 aa len).map (CT.row X.toSE b)).length=len)],?_,λag=>?_⟩
   .intro p hp;simp only[aY]at hp;subst hp;refine⟨?_,by simpa using h3⟩;simp only[bG];simp[aL,sub,map_take,map_drop]
   .simp only[cons_append,bI,den,oM,dS (hrd kk (by simp[bm])) h1,af];rfl
  .cases h
 .rename_i kk len e;rw[ai]at h;obtain⟨o,h1,h⟩:=h;split at h
  .rename_i b l0;have⟨l,h2,h⟩:=ai.1 h;cases h;have h3:(sub l 0 len).length=len:=(by simpa[be]using hc (be (sub l 0 len).length len) (by simp));have⟨h4,h5⟩:=jw h2;refine⟨[.rows ((sub l 0 len).map (CT.row X.toSE e))],[(((bG (.da b l0):aS).rows.drop 0).take len=aL ((sub l 0 len).map (CT.row X.toSE e))/\((sub l 0 len).map (CT.row X.toSE e)).length=len)],?_,λag=>?_⟩
   .intro p hp;simp only[aY]at hp;subst hp;refine⟨?_,by simpa using h3⟩;simp only[bG,h5];simp[aL,sub,map_take,map_drop]
   .simp only[cons_append,bI,den,oM,dS (hrd kk (by simp[bm])) h1,af];rfl
  .cases h
 .have⟨y,h1,h⟩:=ai.1 h;cases h;exact base h1
theorem Ox:∀{ds:U (DV X)}{l:U (CT X.ι)}{h:HL X.toSE l×List Bool},xU get ds l=some h->(∀ b∈h.2,b=true)->l.all CT.one=true->(∀ j∈aR ds,j∈rd)->
 ∃hs obs,(∀ p∈obs,p)/\∀ag,mZ P (dJ rd (fE get)) (bM ds) (hs++ag)=some ((HL.row X.toSE l h.1).map AV.t,ag,obs)
 |[],[],h,_,_,_,_=>⟨[],[],by simp,λag=>rfl⟩
 |d::ds,c::l,h,hr,hc,ha,hrd=>by
  simp only[xU]at hr;have⟨x,h1,hr⟩:=ai.1 hr;have⟨g,h2,hr⟩:=ai.1 hr;cases hr;simp only[all_cons,aG]at ha;obtain⟨hs1,o1,p1,q1⟩:=I7 (P:=P) (rd:=rd) h1 (λ b hb=>hc b (by simp[hb])) (λ j hj=>hrd j (by simp[aR,hj]));obtain⟨hs2,o2,p2,q2⟩:=Ox h2 (λ b hb=>hc b (by simp[hb])) ha.2 (λ j hj=>hrd j (by simp[aR,hj]));refine⟨hs1++hs2,o1++o2,gZ p1 p2,λag=>?_⟩;simp only[bM,mZ,aM,q1,af,q2];show _=some ((CT.row X.toSE c x.1++HL.row X.toSE l g.1).map AV.t,ag,o1++o2);rw[map_append,<- PQ ha.1 x.1];rfl
 |[],_::_,_,hr,_,_,_=>by simp[xU]at hr
 |_::_,[],_,hr,_,_,_=>by simp[xU]at hr
theorem Bl{d:DV X}{c:CT X.ι}{x:CT.T X.toSE c×List Bool}(h:Gs get d c=some x)(hc:∀b∈x.2,b=true)(hrd:∀j∈bm d,j∈rd):∃hs obs,(∀ p∈obs,p)/\∀ag,oM P (dJ rd (fE get)) (den d) (hs++ag)=some ((CT.tv X.toSE c x.1).av,ag,obs):=by
 cases c
 case st i=>
  replace h:GW get d i=some x:=h
  cases d
  case agg cs=>
   simp only[GW]at h;rw[ai]at h;obtain⟨g,h1,h⟩:=h;cases h;obtain⟨hs,obs,p1,q1⟩:=Ox (P:=P) (rd:=rd) h1 hc (X.flat i) (λ j hj=>hrd j (by simpa[bm]using hj));refine⟨hs,obs,p1,λag=>?_⟩;simp only[den,oM,q1,af,CT.tv,TV.av];rw[X.fX]
  case c a y=>exact I7 (c:= .st i) (x:=x) (by unfold TU;exact h) hc hrd
  all_goals cases h
 all_goals exact I7 h hc hrd
theorem afk{d:DV X}{c:CT X.ι}{x:CT.T X.toSE c}(h:ZS get d c=some x)(hrd:∀j∈bm d,j∈rd):∃hs obs,(∀ p∈obs,p)/\∀ag,oM P (dJ rd (fE get)) (den d) (hs++ag)=some (.ej (CT.row X.toSE c x) 0,ag,obs):=by
 unfold ZS at h;split at h
 .rename_i kk row;rw[ai]at h;obtain⟨o,h1,h⟩:=h;split at h
  .rename_i sz rows;rw[ai]at h;obtain⟨q,h2,h⟩:=h;split at h
   .rename_i hq;refine⟨[.row (CT.row X.toSE c x)],[(bG (.cells sz rows):aS).rows[row]? =some ((CT.row X.toSE c x).map AV.t)],?_,λag=>?_⟩
    .intro p hp;simp only[aY]at hp;subst hp;simp only[bG,List.getElem?_map,h2,Option.map_some];rw[<- za h,oN,map_map];congr 1;refine map_congr_left λy hy=>?_;have:=all_eq_true.1 hq y hy;cases y<;>first |exact(apQ _).symm |simp at this
    .simp only[cons_append,bI,den,oM,dS (hrd kk (by simp[bm])) h1,af]
   .cases h
  .cases h
 .rename_i a y;refine⟨[],[],by simp,λag=>?_⟩;simp only[den,(jb h).2];rfl
 .cases h
theorem ahX{n:Nat}{l l':U (AT X.ι)}(e:l=l')(b:je X l):dN n l' (e ▸ b)=dN n l b:=by subst e;rfl
theorem DI{pd:FuncId->U (DV X)->U (DV X)->(as:U (CT X.ι))->(r:CT X.ι)->J ((HL X.toSE as->J (CT.T X.toSE r))×List Bool)}:∀{ds:U (DV X)}{l:U (AT X.ι)}{a:je X l×List Bool},kL get pd ds l=some a->(l.all λq=>!q.im)=true
 |[],[],_,_=>rfl
 |d::ds,.d c::l,a,h=>by
  simp only[kL]at h;have⟨x,h1,h⟩:=ai.1 h;have⟨q,h2,h⟩:=ai.1 h;simpa[AT.im]using DI h2
 |d::ds,.ref c::l,a,h=>by
  simp only[kL]at h;have⟨x,h1,h⟩:=ai.1 h;have⟨q,h2,h⟩:=ai.1 h;simpa[AT.im]using DI h2
 |d::ds,.du as r::l,a,h=>by
  simp only[kL]at h;have⟨x,h1,h⟩:=ai.1 h;have⟨q,h2,h⟩:=ai.1 h;simpa[AT.im]using DI h2
 |_::_,.mut _::_,_,h=>by simp[kL]at h
 |_::_,.i7 _::_,_,h=>by simp[kL]at h
 |_::_,.nil::_,_,h=>by simp[kL]at h
 |[],_::_,_,h=>by simp[kL]at h
 |_::_,[],_,h=>by simp[kL]at h
theorem afl:∀{n:Nat}{ds:U (DV X)}{l:U (AT X.ι)}{a:je X l×List Bool},TW Γ get n ds l=some a->(l.all λq=>!q.im)=true
 | 0,_,_,_,h=>DI h
 |_+1,_,_,_,h=>DI h
theorem adD:∀as:U (CT X.ι),((as.map AT.d).all λq=>!q.im)=true
 |[]=>rfl
 |_::l=>adD l
def aqW(P:Program)(get:Nat->J (bp X))(pd:FuncId->U (DV X)->U (DV X)->(as:U (CT X.ι))->(r:CT X.ι)->J ((HL X.toSE as->J (CT.T X.toSE r))×List Bool)):Prop:=
 ∀f first caps as r φ rd,pd f first caps as r=some φ->(∀ b∈φ.2,b=true)->(∀ j∈aR first++aR caps,j∈rd)->∃hs obs,(∀ p∈obs,p)/\∀ag,oM P (dJ rd (fE get)) (.fn f (bM first) (bM caps)) (hs++ag)=some (den (.du as r φ.1:DV X),ag,obs)
theorem uK{n:Nat}{pd:FuncId->U (DV X)->U (DV X)->(as:U (CT X.ι))->(r:CT X.ι)->J ((HL X.toSE as->J (CT.T X.toSE r))×List Bool)}(tU:aqW P get pd):∀{ds:U (DV X)}{l:U (AT X.ι)}{a:je X l×List Bool},kL get pd ds l=some a->(∀ b∈a.2,b=true)->(∀ j∈aR ds,j∈rd)->
 ∃hs obs,(∀ p∈obs,p)/\∀ag,mZ P (dJ rd (fE get)) (bM ds) (hs++ag)=some (dN n l a.1,ag,obs)
 |[],[],_,_,_,_=>⟨[],[],by simp,λag=>rfl⟩
 |d::ds,.d c::l,a,h,hc,hrd=>by
  simp only[kL]at h;have⟨x,h1,h⟩:=ai.1 h;have⟨q,h2,h⟩:=ai.1 h;cases h;obtain⟨hs1,o1,p1,q1⟩:=Bl (P:=P) (rd:=rd) h1 (λ b hb=>hc b (by simp[hb])) (λ j hj=>hrd j (by simp[aR,hj]));obtain⟨hs2,o2,p2,q2⟩:=uK (n:=n) tU h2 (λ b hb=>hc b (by simp[hb])) (λ j hj=>hrd j (by simp[aR,hj]));refine⟨hs1++hs2,o1++o2,gZ p1 p2,λag=>?_⟩;simp only[bM,mZ,aM,q1,af,q2,dN]
 |d::ds,.ref c::l,a,h,hc,hrd=>by
  simp only[kL]at h;rw[ai]at h;obtain⟨x,h1,h⟩:=h;rw[ai]at h;obtain⟨q,h2,h⟩:=h;cases h;obtain⟨hs1,o1,p1,q1⟩:=afk (P:=P) (rd:=rd) h1 (λ j hj=>hrd j (by simp[aR,hj]));obtain⟨hs2,o2,p2,q2⟩:=uK (n:=n) tU h2 hc (λ j hj=>hrd j (by simp[aR,hj]));refine⟨hs1++hs2,o1++o2,gZ p1 p2,λag=>?_⟩;simp only[bM,mZ,aM,q1,af,q2,dN]
 |d::ds,.du as r::l,a,h,hc,hrd=>by
  simp only[kL]at h;rw[ai]at h;obtain⟨φ,h1,h⟩:=h;rw[ai]at h;obtain⟨q,h2,h⟩:=h;cases h;have hd:∃hs obs,(∀ p∈obs,p)/\∀ag,oM P (dJ rd (fE get)) (den d) (hs++ag)=some (den (.du as r φ.1:DV X),ag,obs):=by
   cases d
   case du as' r' ψ=>
    simp only at h1;split at h1
    .rename_i e;obtain⟨rfl,rfl⟩:=e;cases h1;exact⟨[],[],by simp,λag=>rfl⟩
    .cases h1
   case fn f first caps=>
    obtain⟨hs,obs,g1,g2⟩:=tU f first caps as r φ rd h1 (λ b hb=>hc b (by simp[hb])) (λ j hj=>hrd j (by simp only[aR,bm,bg]at hj ⊢;exact .inl hj))
    exact⟨hs,obs,g1,λag=>by simp only[den];exact g2 ag⟩
   all_goals simp at h1
  obtain⟨hs1,o1,p1,q1⟩:=hd;obtain⟨hs2,o2,p2,q2⟩:=uK (n:=n) tU h2 (λ b hb=>hc b (by simp[hb])) (λ j hj=>hrd j (by simp[aR,hj]));refine⟨hs1++hs2,o1++o2,gZ p1 p2,λag=>?_⟩;simp only[bM,mZ,aM,q1,af,q2,dN]
 |_::_,.mut _::_,_,h,_,_=>by simp[kL]at h
 |_::_,.i7 _::_,_,h,_,_=>by simp[kL]at h
 |_::_,.nil::_,_,h,_,_=>by simp[kL]at h
 |[],_::_,_,h,_,_=>by simp[kL]at h
 |_::_,[],_,h,_,_=>by simp[kL]at h
theorem ahY{n:Nat}:∀{l:U (AT X.ι)}(a:je X l),l=[]->dN n l a=[]
 |_,_,rfl=>rfl
theorem ug(hΓ:sA P Γ):∀(m:Nat){n:Nat}{ds:U (DV X)}{l:U (AT X.ι)}{a:je X l×List Bool}{rd:U Nat},TW Γ get m ds l=some a->(∀ b∈a.2,b=true)->(∀ j∈aR ds,j∈rd)->
 ∃hs obs,(∀ p∈obs,p)/\∀ag,mZ P (dJ rd (fE get)) (bM ds) (hs++ag)=some (dN n l a.1,ag,obs)
 | 0,n,ds,l,a,rd,h,hcs,hrd=>uK (λ _ _ _ _ _ _ _ h=>by cases h) h hcs hrd
 |m+1,n,ds,l,a,rd,h,hcs,hrd=>by
  refine uK (λ f first caps as r φ rd' hc hb HM=>?_) h hcs hrd;rw[ai]at hc;obtain⟨s,h1,hc⟩:=hc;split at hc
  .rename_i sa r' fn _;split at hc
   .rename_i e;obtain⟨rfl,e2,e3⟩:=e;have⟨hf,h2,hc⟩:=ai.1 hc;have⟨hcap,h3,hc⟩:=ai.1 hc;injection hc with hc;rw[<- hc]at hb;obtain⟨g1,g2,_⟩:=hΓ f _ h1;obtain⟨hs1,o1,p1,q1⟩:=ug hΓ m h2 (n:=0) (rd:=rd') (λ b hb'=>hb b (by simp[hb'])) (λ j hj=>HM j (by simp[hj]));obtain⟨hs2,o2,p2,q2⟩:=ug hΓ m h3 (n:=0+ru (sa.take first.length)+ru (as.map AT.d)) (rd:=rd') (λ b hb'=>hb b (by simp[hb'])) (λ j hj=>HM j (by simp[hj]));refine⟨.du (λ ts u=>∃h x,φ.1 h=some x/\ts=HL.nh X.toSE as h/\u=CT.tv X.toSE r' x)::(hs1++hs2),o1++(o2++[dN 0 _ hf.1=[]/\eU P f/\∀args r,(∃ h x,φ.1 h=some x/\args=HL.nh X.toSE as h/\r=CT.tv X.toSE r' x)->tf P f (dN 0 _ hf.1++args.map TV.av++dN (0+ru (sa.take first.length)+ru (as.map AT.d)) _ hcap.1) (.one (.d r))]),?_,λag=>?_⟩
    .intro p hp;simp only[bg,aY]at hp;rcases hp with hp |hp |hp
     .exact p1 p hp
     .exact p2 p hp
     .subst hp;refine⟨ahY _ (by rw[e3];rfl),g1,?_⟩;rintro args r ⟨x,y,hxy,rfl,rfl⟩;rw[<- hc]at hxy;have hxy':fn (e2 ▸ uk _ _ hf.1 (uk _ _ (hlA as x) hcap.1))=some y:=hxy;have:=g2 _ _ hxy';have hnm:(sa.all λq=>!q.im)=true:=(by rw[e2,List.all_append,List.all_append,afl h2,afl h3,adD];rfl);rw[zA hnm,zy,ahX e2.symm,lU,lU,Rc,<- aM]at this;exact Xz this
    .simp only[cons_append,aM,oM,q1,af,q2];rfl
   .cases hc
  .cases hc
end
end
def TY(s:ByteArray)(n:Int):J Int:=bif decide (0<=n)then(s[n.toNat]?).map λb=>(b.toNat:Int)else none
def xw(m:Int)(bytes:Nat):Bool:=decide (0<=m)&&decide (m.toNat*bytes<=140737488355328)&&decide (m.toNat<=maxLen)
def fI{K V:Type}(eq:K->K->Bool)(k:K):U (K×V)->J V
 |[]=>none
 |p::r=>bif eq k p.1 then some p.2 else fI eq k r
def qg{K V:Type}(eq:K->K->Bool)(k:K)(v:V):U (K×V)->U (K×V)
 |[]=>[(k,v)]
 |p::r=>bif eq k p.1 then(k,v)::r else p::qg eq k v r
def pT(a b:Int):Bool:=a==b
def lf(a b:ByteArray):Bool:=a.toList==b.toList
def pC(a b:Bool):Bool:=a==b
section
variable {X:SX} {A:Type}
def Oy:(c:CT X.ι)->J (CT.T X.toSE c->CT.T X.toSE c->Bool)
 | .int _=>some pT
 | .str=>some lf
 | .bool=>some pC
 |_=>none
def D3{ι:Type}:AM->CT ι->Bool
 | .int a,.int b=>decide (a=b)
 | .str,.str=>true
 | .bool,.bool=>true
 |_,_=>false
def aqX{ι:Type}:CT ι->Bool
 | .st _=>true
 |_=>false
theorem iP(a b:U (DV X)):bM (a++b)=bM a++bM b:=by simp[oN]
theorem uh(a b:U (Nat×Option (bp X))):iA (a++b)=iA a++iA b:=by simp[iA]
def Oz(ae:U Nat):U (Nat×Option (bp X)):=ae.map λj=>(j,none)
theorem DJ(ae:U Nat):iA (Oz (X:=X) ae)=ae.map λk=>(k,none):=by simp[iA,Oz]
theorem KH{ae:U Nat}{p:Nat×Option (bp X)}(h:p∈Oz ae):p.1∈ae:=by
 simp only[Oz,mem_map]at h;obtain⟨j,hj,rfl⟩:=h;exact hj
variable (T:dC) (an:TypeId->Option (CT X.ι))
def ah0:DV X->Bool
 | .nil=>true
 |_=>false
def GC(op:BinOp)(b:DV X)(yes:Bool)(k:KK X A):J A:=
 match op with
 | .eql=>bif yes then k b [] [] []else k (.c .bool false) [] [] []
 | .neq=>bif yes then k b [] [] []else k (.c .bool true) [] [] []
 |_=>none
def WP(op:BinOp)(t:TypeId)(x:DV X)(k:KK X A):J A:=
 (T t).bind λti=>match ti.k,x with
 | .slice _,.c (.sl _) l=>GC op .ub (List.isEmpty l) k
 | .slice _,.own _ _ len=>GC op .ub (len==0) k
 | .slice _,.oz _ len=>GC op (.c .bool (op== .eql)) (len==0) k
 | .slice _,.nil=>GC op (.c .bool (op== .eql)) true k
 |_,_=>none
def apS(s d:TypeId)(x:DV X)(k:KK X A):J A:=
 (T s).bind λ_=>(T d).bind λdi=>match di.k,x with
 | .int kd,.c (.int _) n=>k (.c (.int kd) (kd.wrap (iN n))) [] [] []
 |_,_=>none
def amF(t:TypeId)(x j:DV X)(k:KK X A):J A:=
 (T t).bind λti=>match ti.k,x,j with
 | .str,.c .str s,.c (.int _) n=>(TY s n).bind λb=>k (.c (.int .u8) b) [] [] []
 | .arr m e,.agg cs,.c (.int _) q=>(T e).bind λei=>bif co q m then(I4 ei.agg ei.size ((cs.drop (q.toNat*ei.size)).take ei.size)).bind λv=>k v [] [] []else none
 |_,_,_=>none
def ace(t:TypeId)(x:DV X)(lo hi:J (DV X))(k:KK X A):J A:=
 (T t).bind λti=>match ti.k,x with
 | .slice e,.nil=>(T e).bind λ_=>(wg 0 lo).bind λl=>(wg 0 hi).bind λh=>bif decide (l=0)&&decide (h=0)then k .nil [] [] []else none
 |_,_=>none
def Rf(i:Nat)(b:Builtin)(args:U (DV X))(cX:U TypeId)(get:Nat->J (bp X))(k:KK X A):J A:=
 match b,args,cX with
 | .cap,[.nil],[t]=>(T t).bind λti=>match ti.k with
  | .slice _=>k (.c (.int .i64) (0:Int)) [] [] []
  |_=>none
 | .clear,[.own kk aa _],[t]=>(T t).bind λti=>match ti.k with
  | .slice e=>(T e).bind λei=>(get kk).bind λo=>match o with
   | .da c l=>if CT.sz X c=ei.size then k (.eC []) [(kk,some (.da c (l.take aa)))] [kk] [kk]else none
   |_=>none
  |_=>none
 | .append,[.nil,.c (.int _) m],[t,u]=>(T t).bind λti=>(T u).bind λui=>match ti.k,ui.k with
  | .slice e,.int _=>(T e).bind λei=>(an e).bind λc=>if CT.sz X c=ei.size/\0<ei.size then(Ot c (ei.zero.map ue)).bind λz=>
   bif xw (iN m) ei.bytes then k (.own (cx i) 0 m.toNat) [(cx i,some (.da c (List.replicate m.toNat z)))] [] []else none else none
  |_,_=>none
 |_,_,_=>none
def Rh(x:DV X)(k:KK X A):J A:=
 match x with
 | .ptr kk r f=>k (.ptr kk r f) [] [] []
 | .qn kk n f=>k (.qn kk n f) [] [] []
 | .so kk r f m n=>k (.so kk r f m n) [] [] []
 | .rp c y f=>k (.rp c y f) [] [] []
 |_=>none
def ZD(i:Nat)(t:TypeId)(l c:DV X)(k:KK X A):J A:=
 (T t).bind λti=>match ti.k,l,c with
 | .slice e,.c (.int _) n,.c (.int _) m=>(T e).bind λei=>(an e).bind λc=>if CT.sz X c=ei.size/\0<ei.size then(Ot c (ei.zero.map ue)).bind λz=>
  bif decide (iN n<=iN m)&&(decide (0<=iN n)&&xw (iN m) ei.bytes)then k (.own (cx i) 0 n.toNat) [(cx i,some (.da c (List.replicate n.toNat z)))] [] []else none else none
 |_,_,_=>none
def XU(i:Nat)(t:TypeId)(k:KK X A):J A:=
 (T t).bind λti=>match ti.k with
 | .map kt et=>(an kt).bind λkc=>(an et).bind λvc=>k (.mp (cx i)) [(cx i,some (.map kc vc []))] [] []
 |_=>none
def adE(t:TypeId)(x key:DV X)(ok:Bool)(get:Nat->J (bp X))(k:KK X A):J A:=
 (T t).bind λti=>match ti.k,x with
 | .map kt et,.mp kk=>(T kt).bind λki=>(T et).bind λei=>(get kk).bind λo=>match o with
  | .map kc vc l=>(Oy kc).bind λeq=>(Lb key kc).bind λkv=>if D3 ki.k kc=true/\ei.agg=aqX vc/\ei.size=CT.sz X vc then(Ot vc (ei.zero.map ue)).bind λz=>
   bif ok then k (.eC [.c vc ((fI eq kv l).getD z),.c .bool (fI eq kv l).isSome]) [] [kk] []else k (.c vc ((fI eq kv l).getD z)) [] [kk] []else none
  |_=>none
 |_,_=>none
def adF(t:TypeId)(x key y:DV X)(get:Nat->J (bp X))(k:KK X A):J A:=
 (T t).bind λti=>match ti.k,x with
 | .map kt _,.mp kk=>(T kt).bind λki=>(get kk).bind λo=>match o with
  | .map kc vc l=>(Oy kc).bind λeq=>(Lb key kc).bind λkv=>(dat y vc).bind λv=>if D3 ki.k kc=true then k .undef [(kk,some (.map kc vc (qg eq kv v l)))] [kk] [kk]else none
  |_=>none
 |_,_=>none
def aqY(o:Op)(ρ:Operand->DV X):Bool:=
 match o with
 | .binOp _ _ _ y _=>ah0 (ρ y)
 | .convert _ _ _=>true
 | .index _ _ _=>true
 | .nilCheck _=>true
 | .makeSlice _ _ _=>true
 | .makeMap _ none=>true
 | .lookup _ _ _ _=>true
 | .mapUpdate _ _ _ _=>true
 | .slice _ x _ _ none=>ah0 (ρ x)
 | .call { callee:= .builtin b,args:=args,argTypes:=_ }=>match b,args.toList.map ρ with
  | .cap,_=>true
  | .clear,_=>true
  | .append,[_,.c (.int _) _]=>true
  |_,_=>false
 |_=>false
def WF(i:Nat)(o:Op)(ρ:Operand->DV X)(get:Nat->J (bp X))(k:KK X A):J A:=
 match o with
 | .binOp op t x y _=>if ah0 (ρ y)then WP T op t (ρ x) k else none
 | .convert s d x=>apS T s d (ρ x) k
 | .index t x j=>amF T t (ρ x) (ρ j) k
 | .slice t x lo hi none=>ace T t (ρ x) (lo.map ρ) (hi.map ρ) k
 | .nilCheck x=>Rh (ρ x) k
 | .makeSlice t l c=>ZD T an i t (ρ l) (ρ c) k
 | .makeMap t none=>XU T an i t k
 | .lookup t m x ok=>adE T t (ρ m) (ρ x) ok get k
 | .mapUpdate t m x v=>adF T t (ρ m) (ρ x) (ρ v) get k
 | .call { callee:= .builtin b,args:=args,argTypes:=cX }=>Rf T an i b (args.toList.map ρ) cX.toList get k
 |_=>none
def Lq(get:Nat->J (bp X))(c:CT X.ι)(ρ:Operand->DV X)(x:Operand):DV X:=
 match Gs get (ρ x) c with
 |some y=> .c c y.1
 |none=>ρ x
def NB(get:Nat->J (bp X))(c:CT X.ι)(ρ:Operand->DV X):U Operand->U Bool
 |[]=>[]
 |x::xs=>(match Gs get (ρ x) c with |some y=>y.2 |none=>[])++NB get c ρ xs
def AE(get:Nat->J (bp X))(c:CT X.ι)(ρ:Operand->DV X):U Operand->U Nat
 |[]=>[]
 |x::xs=>(match Gs get (ρ x) c with |some _=>bm (ρ x) |none=>[])++AE get c ρ xs
def aoG(o:Op)(ρ:Operand->DV X)(get:Nat->J (bp X)):J (CT X.ι):=
 match o with
 | .box t _=>an t
 | .assign x | .move x=>match ρ x with
  | .own kk _ _=>(get kk).bind λo=>match o with
   | .da c _=>some (.sl c)
   |_=>none
  |_=>none
 | .buildSlice t _ _=>(T t).bind λti=>match ti.k with
  | .slice e=>an e
  |_=>none
 | .store t _ _=>an t
 |_=>none
def aqZ(o:Op)(ρ:Operand->DV X):Bool:=
 match o with
 | .buildSlice _ _ parts=>!(aR (parts.toList.map λp=>ρ p.2)).isEmpty
 | .store _ a x=>match ρ a with
  | .qn _ _ _=>!(bm (ρ x)).isEmpty
  |_=>false
 |_=>false
def WD(i:Nat)(o:Op)(ρ:Operand->DV X)(get:Nat->J (bp X))(k:KK X A):J A:=
 if ahD o then none else(aoG T an o ρ get).bind λc=>XE (NB get c ρ o.operands.toList)
  (Mn T an i o (Lq get c ρ) (λ j=>if j∈AE get c ρ o.operands.toList then none else get j) λdv upd rd wr=>
   k dv (upd++Oz (AE get c ρ o.operands.toList)) (rd++AE get c ρ o.operands.toList) (wr++AE get c ρ o.operands.toList))
def aq0(o:Op)(ρ:Operand->DV X):Bool:=
 match o with
 | .indexAddr t x (.tmp _)=>match ρ x,T t with
  | .ptr _ _ _,some ti | .rp _ _ _,some ti=>match ti.k with
   | .arr _ e=>match T e with
    |some ei=>ei.size==1
    |none=>false
   |_=>false
  |_,_=>false
 | .load _ a=>match ρ a with
  | .so _ _ _ _ _ | .xi _ _ _ _ _=>true
  |_=>false
 |_=>false
def yC(c:CT X.ι):U (DV X)->J (List (CT.T X.toSE c))
 |[]=>some []
 | .c a x::r=>(gF a c x).bind λy=>(yC c r).bind λl=>some (y::l)
 |_=>none
def Wr(o:Op)(ρ:Operand->DV X)(get:Nat->J (bp X))(k:KK X A):J A:=
 match o with
 | .indexAddr t x j=>(T t).bind λti=>match ti.k,ρ x,ρ j with
  | .arr m e,.ptr kk row aa,.c (.int _) n=>(T e).bind λei=>if ei.size=1 then bif co n m then k (.so kk row aa m n) [] [] []else none else none
  | .arr m e,.rp c y aa,.c (.int _) n=>(T e).bind λei=>if ei.size=1 then bif co n m then k (.xi c y aa m n) [] [] []else none else none
  |_,_,_=>none
 | .load t a=>(T t).bind λti=>match ρ a with
  | .so kk row aa m n=>if ti.size=1/\ti.agg=false then(an t).bind λc=>if c.one=true then(get kk).bind λo=>match o with
   | .cells _ rows=>(rows[row]?).bind λq=>(yC c ((q.drop aa).take m)).bind λ(xs:List (CT.T X.toSE c))=>(br xs n).bind λy=>k (.c c y) [] [kk] []
   | .da b l=>if row=0/\b.one=true then(sy l aa n).bind λy=>k (.c b y) [] [kk] []else none
   |_=>none
   else none else none
  | .xi b y aa m n=>if ti.size=1/\ti.agg=false then(an t).bind λc=>if c.one=true then(yC c (((wm b y).drop aa).take m)).bind λ(xs:List (CT.T X.toSE c))=>(br xs n).bind λy=>k (.c c y) [] [] []
   else none else none
  |_=>none
 |_=>none
variable {T an}
def cN(P:Program)(T:dC)(i:Nat)(o:Oper)(ρ:Operand->DV X)(get:Nat->J (bp X))(k:KK X A)(r:A):Prop:=
 ∃cm rd wr dv upd ab,jP P T i o cm (λ x=>den (ρ x)) (dJ rd (fE get))=some ab/\kE ab.obs/\ab.v=den dv/\ab.upd=iA upd/\(∀ p∈upd,p.1=cx i\/p.1∈wr)/\k dv upd rd wr=some r
section
variable {P:Program} {get:Nat->Option (bp X)} {k:KK X A} {r:A} {i:Nat} {o:Oper} {ρ:Operand->DV X}
theorem amI{t:TypeId}{x:AV}{cm:iu}(h:(∃ n,cm= .ext n)\/∃ae fr q,cm= .xF ae fr q):AI T t x .none=AI T t x cm:=by grind [AI]
theorem XV{t:TypeId}{x j:AV}{cm:iu}{get:Nat->J aS}(h:(∃ n,cm= .ext n)\/∃ae fr q,cm= .xF ae fr q):mK T t x j .none get=mK T t x j cm get:=by
 unfold mK;cases T t with
 |none=>rfl
 |some ti=>
  simp only[af];generalize ti.k=kk;cases kk<;>try rfl
  case arr m e=>
   cases j<;>try rfl
   rename_i y;cases y<;>try rfl
   rename_i y;cases y<;>rfl
  cases j<;>try rfl
  rename_i e y;cases y<;>try rfl
  rename_i y;cases y<;>try rfl
  simp only;cases T e with
  |none=>rfl
  |some ei=>
   simp only[af];rcases h with ⟨n,rfl⟩ |⟨ae,fr,q,rfl⟩<;>cases x<;>try rfl
   all_goals (rename_i z;cases z<;>rfl)
theorem afn{t:TypeId}{x y:AV}{cm:iu}{get:Nat->J aS}(h:(∃ n,cm= .ext n)\/∃ae fr q,cm= .xF ae fr q):Bc T i t x y .none get=Bc T i t x y cm get:=by grind [Bc]
theorem akS{cm:iu}{ρ:Operand->AV}{get:Nat->J aS}(h:(∃ n,cm= .ext n)\/∃ae fr q,cm= .xF ae fr q):qZ T i o .none ρ get=qZ T i o cm ρ get:=by
 obtain⟨dst,op,ty,aq,after,guard⟩:=o;cases op
 case call c=>
  obtain⟨callee,args,cX⟩:=c;cases callee<;>try rfl
  rename_i b;simp only[qZ,Dw];split
  .exact amI h
  .rfl
  .rfl
  .rw[afn h]
  .rfl
 case slice t x lo hi mx=>cases mx<;>rcases h with ⟨n,rfl⟩ |⟨ae,fr,q,rfl⟩<;>rfl
 case makeFunc fn a b=>cases fn<;>rfl
 case indexAddr t x j=>exact XV h
 all_goals (rcases h with ⟨n,rfl⟩ |⟨ae,fr,q,rfl⟩<;>rfl)
theorem cN.ext{n:Int}{rd wr:U Nat}{dv:DV X}{upd:U (Nat×Option (bp X))}{ab:Out}(h:pO T i o n (λ x=>den (ρ x)) (dJ rd (fE get))=some ab)(h1:kE ab.obs)(h2:ab.v=den dv)(h3:ab.upd=iA upd)(h4:∀p∈upd,p.1=cx i\/p.1∈wr)(h5:k dv upd rd wr=some r)(hx:GO o.op=false:=by rfl):cN P T i o ρ get k r:=
 ⟨.ext n,rd,wr,dv,upd,ab,by show qD T i o n _ _=some ab;unfold qD;rw[hx];simp only[ak,h],h1,h2,h3,h4,h5⟩
theorem cN.vp{n:Int}{rd wr:U Nat}{dv:DV X}{upd:U (Nat×Option (bp X))}{ab:Out}(h:EW T i o n (λ x=>den (ρ x)) (dJ rd (fE get))=some ab)(h1:kE ab.obs)(h2:ab.v=den dv)(h3:ab.upd=iA upd)(h4:∀p∈upd,p.1=cx i\/p.1∈wr)(h5:k dv upd rd wr=some r)(hx:GO o.op=true:=by rfl):cN P T i o ρ get k r:=
 ⟨.ext n,rd,wr,dv,upd,ab,by show qD T i o n _ _=some ab;unfold qD;rw[hx];simp only[aj,h],h1,h2,h3,h4,h5⟩
theorem cN.q6{n:Int}{rd wr:U Nat}{dv:DV X}{upd:U (Nat×Option (bp X))}{ab:Out}(h:lN T i o n (λ x=>den (ρ x)) (dJ rd (fE get))=some ab)(h1:kE ab.obs)(h2:ab.v=den dv)(h3:ab.upd=iA upd)(h4:∀p∈upd,p.1=cx i\/p.1∈wr)(h5:k dv upd rd wr=some r)(hx:GO o.op=false)(h0:pO T i o n (λ x=>den (ρ x)) (dJ rd (fE get))=none):cN P T i o ρ get k r:=
 ⟨.ext n,rd,wr,dv,upd,ab,by show qD T i o n _ _=some ab;unfold qD;rw[hx];simp only[ak,h0,h],h1,h2,h3,h4,h5⟩
theorem UI{x:DV X}(h:Rh x k=some r):∃dv,QU (den x)=some ⟨den dv,[],[]⟩/\k dv [] [] []=some r:=by cases x<;>simp only[Rh]at h<;>first |cases h |exact⟨_,rfl,h⟩
theorem acf{cm:iu}{ρ:Operand->AV}{get:Nat->J aS}(hne:∀f args cX,o.op≠ .call { callee:= .value f,args:=args,argTypes:=cX })(ho:∀n,cm≠ .ext n)(hf:∀ae fr q,cm≠ .xF ae fr q):jP P T i o cm ρ get=qZ T i o cm ρ get:=by
 have e:∀(α:Type) (a:Operand->Array Operand->Array TypeId->α) (b:α),(match o.op with | .call { callee:= .value f,args:=args,argTypes:=cX }=>a f args cX |_=>b)=b:=by grind
 cases cm<;>first |exact(ho _ rfl).elim |exact(hf _ _ _ rfl).elim |exact e _ _ _
theorem cN.op{cm:iu}{rd wr:U Nat}{dv:DV X}{upd:U (Nat×Option (bp X))}{ab:Out}(hne:∀f args cX,o.op≠ .call { callee:= .value f,args:=args,argTypes:=cX })
 (h:qZ T i o cm (λ x=>den (ρ x)) (dJ rd (fE get))=some ab) (h1:kE ab.obs/\ab.v=den dv/\ab.upd=iA upd/\(∀ p∈upd,p.1=cx i\/p.1∈wr)/\k dv upd rd wr=some r):cN P T i o ρ get k r:=by
 obtain⟨uC,h'⟩:∃uC,jP P T i o uC (λ x=>den (ρ x)) (dJ rd (fE get))=some ab:=by
  by_cases hx:(∃ n,cm= .ext n)\/∃ae fr q,cm= .xF ae fr q
  .refine⟨.none,?_⟩;rw[acf hne (by simp) (by simp),akS hx,h]
  .simp only[not_or,not_exists]at hx;exact⟨cm,by rw[acf hne hx.1 (λ ae fr q=>hx.2 ae fr q),h]⟩
 exact⟨uC,rd,wr,dv,upd,ab,h',h1⟩
theorem cN.call{dst:J Tmp}{f:Operand}{args:Array Operand}{cX:Array TypeId}{ty:TypeId}{aq:String}{after:Array Edge}{guard:J (Nat×Bool)}{cm:iu}{rd wr:U Nat}{dv:DV X}{upd:U (Nat×Option (bp X))}{ab:Out}
 (h:lQ P i (den (ρ f)) (args.toList.map λx=>den (ρ x)) cm (dJ rd (fE get))=some ab) (h1:kE ab.obs/\ab.v=den dv/\ab.upd=iA upd/\(∀ p∈upd,p.1=cx i\/p.1∈wr)/\k dv upd rd wr=some r):
 cN P T i ⟨dst,.call { callee:= .value f,args:=args,argTypes:=cX },ty,aq,after,guard⟩ ρ get k r:=by
 refine⟨cm,rd,wr,dv,upd,ab,?_,h1⟩;unfold jP
 all_goals grind [lQ,rU,Be]
theorem KI{op:BinOp}{b:DV X}{yes:Bool}(h:GC op b yes k=some r):∃dv ab,EV op (den b) yes=some ab/\kE ab.obs/\ab.v=den dv/\ab.upd=[]/\k dv [] [] []=some r:=by
 unfold GC at h;split at h
 .cases yes with
  |true=>exact⟨b,_,rfl,trivial,rfl,rfl,h⟩
  |false=>exact⟨.c .bool false,_,rfl,trivial,rfl,rfl,h⟩
 .cases yes with
  |true=>exact⟨b,_,rfl,trivial,rfl,rfl,h⟩
  |false=>exact⟨.c .bool true,_,rfl,trivial,rfl,rfl,h⟩
 .cases h
theorem ah1{op:BinOp}{t:TypeId}{x:DV X}(h:WP T op t x k=some r):∃dv ab,wj T op t (den x) .cM=some ab/\kE ab.obs/\ab.v=den dv/\ab.upd=[]/\k dv [] [] []=some r:=by
 unfold WP at h;rw[ai]at h;obtain⟨ti,h1,h⟩:=h;split at h
 .rename_i e c l hk;have⟨dv,ab,g1,g2⟩:=KI h;refine⟨dv,ab,?_,g2⟩;simp only[wj,h1,af,hk,den,CT.tv,TV.av];rw[<- g1];congr 1;cases l<;>rfl
 .rename_i e kk aa len hk;have⟨dv,ab,g1,g2⟩:=KI h;exact⟨dv,ab,by simp only[wj,h1,af,hk,den];exact g1,g2⟩
 .rename_i e kk len hk;have⟨dv,ab,g1,g2⟩:=KI h;exact⟨dv,ab,by simp only[wj,h1,af,hk,den];exact g1,g2⟩
 .rename_i e hk;have⟨dv,ab,g1,g2⟩:=KI h;exact⟨dv,ab,by simp only[wj,h1,af,hk,den];exact g1,g2⟩
 .cases h
theorem ah2{s:ByteArray}{n b:Int}(h:TY s n=some b):0<=n/\∃c,s[n.toNat]? =some c/\b=c.toNat:=by
 unfold TY at h
 all_goals grind
theorem acg{m:Int}{bytes:Nat}(h:xw m bytes=true):0<=m/\m.toNat*bytes<=140737488355328/\m.toNat<=maxLen:=by simpa[xw,and_assoc]using h
theorem UJ{b:Builtin}{args:U (DV X)}{cX:U TypeId}(h:Rf T an i b args cX get k=some r):
 ∃rd wr dv upd ab,vX T i b (bM args) cX (dJ rd (fE get))=some ab/\kE ab.obs/\ab.v=den dv/\ab.upd=iA upd/\(∀ p∈upd,p.1=cx i\/p.1∈wr)/\k dv upd rd wr=some r:=by
 unfold Rf at h;split at h
 .rename_i t;rw[ai]at h;obtain⟨ti,h1,h⟩:=h;split at h
  .rename_i e hk;refine⟨[],[],_,[],⟨.t (.sc (.int .i64 0)),[],[]⟩,?_,trivial,rfl,rfl,by simp,h⟩;simp only[vX,bM,den,h1,af,hk];rfl
  .cases h
 .rename_i kk aa len t;rw[ai]at h;obtain⟨ti,h1,h⟩:=h;split at h
  .rename_i e hk;rw[ai]at h;obtain⟨ei,h2,h⟩:=h;rw[ai]at h;obtain⟨o,h3,h⟩:=h;split at h
   .rename_i c l;split at h
    .rename_i hs;refine⟨[kk],[kk],_,_,⟨.eC [],[(kk,some ⟨CT.sz X c,(aL (l.map (CT.row X.toSE c))).take aa⟩)],[]⟩,?_,trivial,rfl,?_,by simp,h⟩
     .simp only[vX,bM,den,h1,af,hk,h2,dS (List.mem_singleton_self kk) h3,bG];rw[aT hs]
     .simp[iA,bG,aL,map_take]
    .cases h
   .cases h
  .cases h
 .rename_i kd m t u;rw[ai]at h;obtain⟨ti,h1,h⟩:=h;rw[ai]at h;obtain⟨ui,h2,h⟩:=h;split at h
  .rename_i e kn hk hk';rw[ai]at h;obtain⟨ei,h3,h⟩:=h;rw[ai]at h;obtain⟨c,h4,h⟩:=h;split at h
   .rename_i hs;have⟨z,h5,h⟩:=ai.1 h;have⟨h6,h⟩:=dL h;have⟨m1,m2,m3⟩:=acg h6;have hz:=za h5;rw[zq]at hz;refine⟨[],[],_,_,⟨.own (cx i) 0 m.toNat,[(cx i,some ⟨ei.size,eu (List.replicate m.toNat (ei.zero.map cv))⟩)],[0<=m/\m.toNat*ei.bytes<=140737488355328/\m.toNat<=maxLen/\0<ei.size]⟩,?_,?_,rfl,?_,by simp,h⟩
    .simp only[vX,bM,den,CT.tv,TV.av,h1,h2,h3,af,hk,hk']
    .exact⟨m1,m2,m3,hs.2⟩
    .simp only[iA,aF,map_nil,Option.map_some,bG,hs.1,aL,eu,List.map_replicate];rw[hz]
   .cases h
  .cases h
 .cases h
theorem afo{t:TypeId}{l c:DV X}(h:ZD T an i t l c k=some r):∃dv upd ab,L2 T i t (den l) (den c)=some ab/\kE ab.obs/\ab.v=den dv/\ab.upd=iA upd/\(∀ p∈upd,p.1=cx i)/\k dv upd [] []=some r:=by
 unfold ZD at h;rw[ai]at h;obtain⟨ti,h1,h⟩:=h;split at h
 .rename_i e kl n kc m hk;rw[ai]at h;obtain⟨ei,h3,h⟩:=h;rw[ai]at h;obtain⟨c,h4,h⟩:=h;split at h
  .rename_i hs;have⟨z,h5,h⟩:=ai.1 h;have⟨h6,h⟩:=dL h;simp only[aG,aJ]at h6;obtain⟨h7,h8,h9⟩:=h6;have⟨m1,m2,m3⟩:=acg h9;have hz:=za h5;rw[zq]at hz;refine⟨_,_,⟨.own (cx i) 0 n.toNat,[(cx i,some ⟨ei.size,eu (List.replicate n.toNat (ei.zero.map cv))⟩)],[0<=n/\n<=m/\m.toNat*ei.bytes<=140737488355328/\m.toNat<=maxLen/\0<ei.size]⟩,?_,?_,rfl,?_,by simp,h⟩
   .simp only[L2,den,CT.tv,TV.av,h1,h3,af,hk]
   .exact⟨h8,h7,m2,m3,hs.2⟩
   .simp only[iA,aF,map_nil,Option.map_some,bG,hs.1,aL,eu,List.map_replicate];rw[hz]
  .cases h
 .cases h
theorem XW{t:TypeId}(h:XU T an i t k=some r):∃dv upd ab,IW T i t=some ab/\kE ab.obs/\ab.v=den dv/\ab.upd=iA upd/\(∀ p∈upd,p.1=cx i)/\k dv upd [] []=some r:=by
 unfold XU at h;rw[ai]at h;obtain⟨ti,h1,h⟩:=h;split at h
 .rename_i kt et hk;have⟨kc,h2,h⟩:=ai.1 h;have⟨vc,h3,h⟩:=ai.1 h;exact⟨_,_,⟨.mp (cx i),[(cx i,some ⟨0,[]⟩)],[]⟩,by simp only[IW,h1,af,hk],trivial,rfl,rfl,by simp,h⟩
 .cases h
theorem amJ{ki:m4}{kc:CT X.ι}(h:D3 ki.k kc=true)(x:CT.T X.toSE kc):∃v,(CT.tv X.toSE kc x).av= .t (.sc v)/\N9 ki.k v=true:=by
 cases kc
 case int b=>
  refine⟨.int b x,rfl,?_⟩;cases hk:ki.k<;>rw[hk]at h<;>simp only[D3,aJ,Bool.false_eq_true]at h;subst h;simp[N9]
 case str=>
  refine⟨.string x,rfl,?_⟩;cases hk:ki.k<;>rw[hk]at h<;>simp only[D3,Bool.false_eq_true]at h;rfl
 case bool=>
  refine⟨.bool x,rfl,?_⟩;cases hk:ki.k<;>rw[hk]at h<;>simp only[D3,Bool.false_eq_true]at h;rfl
 all_goals (cases hk:ki.k<;>rw[hk]at h<;>simp[D3]at h)
theorem afp{kc:CT X.ι}{eq:CT.T X.toSE kc->CT.T X.toSE kc->Bool}(h:Oy kc=some eq){a b:CT.T X.toSE kc}{va:Value}(ha:(CT.tv X.toSE kc a).av= .t (.sc va)):∃vb,(CT.tv X.toSE kc b).av= .t (.sc vb)/\Tz va vb=some (eq a b):=by
 cases kc
 case int q=>
  simp only[Oy,ay]at h;subst h;simp only[CT.tv,TV.av,AV.t.injEq,Tree.sc.injEq]at ha;subst ha;exact⟨_,rfl,by simp[Tz,pT]⟩
 case str=>
  simp only[Oy,ay]at h;subst h;simp only[CT.tv,TV.av,AV.t.injEq,Tree.sc.injEq]at ha;subst ha;exact⟨_,rfl,by simp[Tz,lf]⟩
 case bool=>
  simp only[Oy,ay]at h;subst h;simp only[CT.tv,TV.av,AV.t.injEq,Tree.sc.injEq]at ha;subst ha;exact⟨_,rfl,by simp[Tz,pC]⟩
 all_goals simp[Oy]at h
theorem ach{kc vc:CT X.ι}{eq:CT.T X.toSE kc->CT.T X.toSE kc->Bool}(h:Oy kc=some eq){a:CT.T X.toSE kc}{va:Value}(ha:(CT.tv X.toSE kc a).av= .t (.sc va)):∀l:U (CT.T X.toSE kc×CT.T X.toSE vc),
 ∃r,TA va (bG (.map kc vc l:bp X)).rows=some r/\r.map (·.2)=(fI eq a l).map λv=>(CT.tv X.toSE vc v).av
 |[]=>⟨none,rfl,rfl⟩
 |p::l=>by
  have⟨vb,h1,h2⟩:=afp h (b:=p.1) ha;have⟨r,g1,g2⟩:=ach h ha l;have g1':TA va (l.map λp=>[(CT.tv X.toSE kc p.1).av,(CT.tv X.toSE vc p.2).av])=some r:=g1;simp only[bG,aF,h1,TA,h2,af,fI];cases eq a p.1 with
  |true=>exact⟨_,rfl,rfl⟩
  |false=>
   simp only[Bool.false_eq_true,if_false,g1',Option.map_some,ak];exact⟨_,rfl,by rw[<- g2,Option.map_map];rfl⟩
theorem afq{kc vc:CT X.ι}{eq:CT.T X.toSE kc->CT.T X.toSE kc->Bool}(h:Oy kc=some eq){a:CT.T X.toSE kc}{va:Value}(ha:(CT.tv X.toSE kc a).av= .t (.sc va))(y:CT.T X.toSE vc):∀l:U (CT.T X.toSE kc×CT.T X.toSE vc),
 yn va (CT.tv X.toSE vc y).av (bG (.map kc vc l:bp X)).rows=some (bG (.map kc vc (qg eq a y l):bp X)).rows
 |[]=>by simp only[bG,map_nil,yn,qg,aF,ha]
 |p::l=>by
  have⟨vb,h1,h2⟩:=afp h (b:=p.1) ha;have g:=afq h ha y l;have g':yn va (CT.tv X.toSE vc y).av (l.map λp=>[(CT.tv X.toSE kc p.1).av,(CT.tv X.toSE vc p.2).av])=some ((qg eq a y l).map λp=>[(CT.tv X.toSE kc p.1).av,(CT.tv X.toSE vc p.2).av]):=g;simp only[bG,aF,h1,yn,h2,af,qg]
  grind
theorem zero_den{vc:CT X.ι}{ei:m4}{z:CT.T X.toSE vc}(h:Ot vc (ei.zero.map ue)=some z)(ha:ei.agg=aqX vc)(hs:ei.size=CT.sz X vc):part' ei.agg ei.size ((ei.zero.map cv).map wk)=some (CT.tv X.toSE vc z).av:=by
 have hz:=za h;rw[zq]at hz;rw[hz,ha,hs];have hl:((CT.row X.toSE vc z).map AV.t).length=CT.sz X vc:=by rw[length_map,xS]
 unfold part';rw[aT hl];cases vc<;>rfl
theorem aoH{d:DV X}{c:CT X.ι}{x:CT.T X.toSE c}(h:dat d c=some x):E6 (den d)=(CT.tv X.toSE c x).av:=by
 cases c
 case st j=>
  replace h:D4 d j=some x:=h
  cases d
  case agg cs=>
   simp only[D4]at h;rw[ai]at h;obtain⟨g,h1,h⟩:=h;cases h;simp only[den,E6,(zw h1 (X.flat j)).1];rw[<- XJ];rfl
  case c a y=>
   replace h:gF a (.st j) y=some x:=h
   rw[(jb h).1];simp only[den,CT.tv,TV.av,E6,map_map];congr 1
  all_goals cases h
 all_goals
  (have h':Lb d _=some x:=h
   have hd:=xg h';cases d
   case agg=>cases h
   case c a y=>
    obtain⟨e,_⟩:=mO (show gF a _ y=some x from h);subst e;exact hd
   all_goals first |exact hd |(cases h))
theorem aaY{t:TypeId}{x key:DV X}{ok:Bool}(h:adE T t x key ok get k=some r):∃rd dv ab,KE T t (den x) (den key) ok (dJ rd (fE get))=some ab/\kE ab.obs/\ab.v=den dv/\ab.upd=[]/\k dv [] rd []=some r:=by
 unfold adE at h;rw[ai]at h;obtain⟨ti,h1,h⟩:=h;split at h
 .rename_i kt et kk hk;rw[ai]at h;obtain⟨ki,h2,h⟩:=h;rw[ai]at h;obtain⟨ei,h3,h⟩:=h;rw[ai]at h;obtain⟨o,h4,h⟩:=h;split at h
  .rename_i kc vc l;rw[ai]at h;obtain⟨eq,h5,h⟩:=h;rw[ai]at h;obtain⟨kv,h6,h⟩:=h;split at h
   .rename_i hc;have⟨z,h7,h⟩:=ai.1 h;have⟨va,g1,g2⟩:=amJ hc.1 kv;have⟨q,g3,g4⟩:=ach (vc:=vc) h5 g1 l;have hkey:den key= .t (.sc va):=by
     have:=xg h6;rw[g1]at this;cases hd:den key<;>rw[hd]at this<;>simp only[wk,AV.t.injEq,reduceCtorEq]at this;subst this;rfl
    have hv:∀q:J (Nat×AV),q.map (·.2)=(fI eq kv l).map (λ v=>(CT.tv X.toSE vc v).av)->Hp q (part' ei.agg ei.size ((ei.zero.map cv).map wk))=some (CT.tv X.toSE vc ((fI eq kv l).getD z)).av:=by
     intro q g;cases hm:fI eq kv l with
     |none=>
      rw[hm]at g;cases q with
      |none=>exact zero_den h7 hc.2.1 hc.2.2
      |some p=>simp at g
     |some v=>
      rw[hm]at g;cases q with
      |none=>simp at g
      |some p=>simp only[Option.map_some,ay]at g;simp only[Hp,g,Option.getD_some]
    have hi:q.isSome=(fI eq kv l).isSome:=by
     have:=congrArg Option.isSome g4;simpa using this
    have hb:KE T t (den (.mp kk:DV X)) (den key) ok (dJ [kk] (fE get))=pv (if ok then .eC [den (.c vc ((fI eq kv l).getD z):DV X),.t (.sc (.bool q.isSome))]else den (.c vc ((fI eq kv l).getD z):DV X)):=by
     simp only[KE,h1,af,hk,den,hkey,h2,h3,dS (List.mem_singleton_self kk) h4];rw[aT ⟨g2,by simp[bG]⟩];rw[g3,af,hv q g4,af]
    cases ok with
    |true=>exact⟨[kk],_,_,hb,trivial,by simp only[if_true,den,bM,hi];rfl,rfl,h⟩
    |false=>exact⟨[kk],_,_,hb,trivial,rfl,rfl,h⟩
   .cases h
  .cases h
 .cases h
theorem aaZ{t:TypeId}{x key y:DV X}(h:adF T t x key y get k=some r):∃rd wr dv upd ab,Oa T t (den x) (den key) (den y) (dJ rd (fE get))=some ab/\kE ab.obs/\ab.v=den dv/\ab.upd=iA upd/\(∀ p∈upd,p.1∈wr)/\k dv upd rd wr=some r:=by
 unfold adF at h;rw[ai]at h;obtain⟨ti,h1,h⟩:=h;split at h
 .rename_i kt et kk hk;rw[ai]at h;obtain⟨ki,h2,h⟩:=h;rw[ai]at h;obtain⟨o,h4,h⟩:=h;split at h
  .rename_i kc vc l;rw[ai]at h;obtain⟨eq,h5,h⟩:=h;rw[ai]at h;obtain⟨kv,h6,h⟩:=h;rw[ai]at h;obtain⟨v,h7,h⟩:=h;split at h
   .rename_i hc;have⟨va,g1,g2⟩:=amJ hc kv;have g3:=afq (vc:=vc) h5 g1 v l;have hkey:den key= .t (.sc va):=by
     have:=xg h6;rw[g1]at this;cases hd:den key<;>rw[hd]at this<;>simp only[wk,AV.t.injEq,reduceCtorEq]at this;subst this;rfl
    refine⟨[kk],[kk],_,_,⟨.undef,[(kk,some ⟨(bG (.map kc vc (qg eq kv v l):bp X)).rows.length,(bG (.map kc vc (qg eq kv v l):bp X)).rows⟩)],[]⟩,?_,trivial,rfl,?_,by simp,h⟩
    .simp only[Oa,h1,af,hk,den,hkey,h2,dS (List.mem_singleton_self kk) h4];rw[aT ⟨g2,by simp[bG]⟩,aoH h7,g3];rfl
    .simp[iA,bG]
   .cases h
  .cases h
 .cases h
theorem ah3(h:WF T an i o.op ρ get k=some r):cN P T i o ρ get k r:=by
 obtain⟨dst,op,ty,aq,after,guard⟩:=o;unfold WF at h;simp only at h;split at h
 .rename_i op t x y q;split at h
  .rename_i hn;have⟨dv,ab,g1,g2,g3,g4,g5⟩:=ah1 h;have hy:den (ρ y)= .cM:=(by cases hρ:ρ y<;>rw[hρ]at hn<;>first |rfl |cases hn);exact cN.ext (n:=0) (rd:=[]) (wr:=[]) (upd:=[]) (by simp only[pO,hy];exact g1) g2 g3 g4 (by simp) g5
  .cases h
 .rename_i s d x;unfold apS at h;rw[ai]at h;obtain⟨si,h1,h⟩:=h;rw[ai]at h;obtain⟨di,h2,h⟩:=h;split at h
  .rename_i kd k' n hk hx;refine cN.ext (n:=0) (rd:=[]) (wr:=[]) (upd:=[]) (ab:=⟨.t (.sc (.int kd (kd.wrap n))),[],[]⟩) ?_ trivial rfl rfl (by simp) h;simp only[pO,Pr,h1,h2,af,hk,hx];rfl
  .cases h
 .rename_i t x j;unfold amF at h;rw[ai]at h;obtain⟨ti,h1,h⟩:=h;split at h
  .rename_i s kk n hk hx hj;rw[ai]at h;obtain⟨b,h2,h⟩:=h;refine cN.ext (n:=b) (rd:=[]) (wr:=[]) (upd:=[]) (ab:=⟨.t (.sc (.int .u8 b)),[],[0<=n/\∃c,s[n.toNat]? =some c/\b=c.toNat]⟩) ?_ (ah2 h2) rfl rfl (by simp) h;simp only[pO,Xg,h1,af,hk,hx,hj];rfl
  .rename_i m e cs kd q hk hx hj;rw[ai]at h;obtain⟨ei,h2,h⟩:=h;have⟨h3,h⟩:=dL h;rw[ai]at h;obtain⟨v,h4,h⟩:=h;simp only[co,aG,aJ]at h3;refine cN.ext (n:=0) (rd:=[]) (wr:=[]) (upd:=[]) (ab:=⟨den v,[],[0<=q/\q<(m:Int)]⟩) ?_ h3 rfl rfl (by simp) h;have h5:=DF h4;rw[kK]at h5;simp only[pO,Xg,h1,af,hk,hx,hj,h2,den,CT.tv,TV.av,h5];rfl
  .cases h
 .rename_i t x lo hi;unfold ace at h;rw[ai]at h;obtain⟨ti,h1,h⟩:=h;split at h
  .rename_i e hk hx;rw[ai]at h;obtain⟨ei,h2,h⟩:=h;rw[ai]at h;obtain⟨l,h3,h⟩:=h;rw[ai]at h;obtain⟨hh,h4,h⟩:=h;have⟨h5,h⟩:=dL h;refine cN.ext (n:=0) (rd:=[]) (wr:=[]) (upd:=[]) (ab:=⟨.cM,[],[l=0/\hh=0]⟩) ?_ (show l=0/\hh=0 by simpa using h5) rfl rfl (by simp) h;have e1:=xh h3;have e2:=xh h4;rw[Option.map_map]at e1 e2;simp only[pO,Dz,h1,af,hk,hx,h2,den];have Mz:bnd 0 (lo.map λx=>den (ρ x))=some l:=e1;have e2':bnd 0 (hi.map λx=>den (ρ x))=some hh:=e2;rw[Mz,af,e2'];rfl
  .cases h
 .rename_i x;have⟨dv,g1,g2⟩:=UI h;exact cN.vp (n:=0) (rd:=[]) (wr:=[]) (upd:=[]) g1 trivial rfl rfl (by simp) g2
 .rename_i t l c;have⟨dv,upd,ab,g1,g2,g3,g4,g5,g6⟩:=afo h;exact cN.vp (n:=0) (rd:=[]) (wr:=[]) (upd:=upd) g1 g2 g3 g4 (λ p hp=> .inl (g5 p hp)) g6
 .rename_i t;have⟨dv,upd,ab,g1,g2,g3,g4,g5,g6⟩:=XW h;exact cN.vp (n:=0) (rd:=[]) (wr:=[]) (upd:=upd) g1 g2 g3 g4 (λ p hp=> .inl (g5 p hp)) g6
 .rename_i t m x ok;have⟨rd,dv,ab,g1,g2,g3,g4,g6⟩:=aaY h;exact cN.vp (n:=0) (rd:=rd) (wr:=[]) (upd:=[]) g1 g2 g3 g4 (by simp) g6
 .rename_i t m x v;have⟨rd,wr,dv,upd,ab,g1,g2,g3,g4,g5,g6⟩:=aaZ h;exact cN.vp (n:=0) (rd:=rd) (wr:=wr) (upd:=upd) g1 g2 g3 g4 (λ p hp=> .inr (g5 p hp)) g6
 .rename_i b args cX;have⟨rd,wr,dv,upd,ab,g1,g2,g3,g4,g5,g6⟩:=UJ h;refine cN.ext (n:=0) (rd:=rd) (wr:=wr) (upd:=upd) ?_ g2 g3 g4 g5 g6;simp only[pO,Wl];exact g1
 .cases h
theorem afr{c:CT X.ι}:∀{xs:U Operand}{x:Operand}{y:CT.T X.toSE c×List Bool},x∈xs->Gs get (ρ x) c=some y->∀j∈bm (ρ x),j∈AE get c ρ xs
 |z::xs,x,y,hx,h,j,hj=>by
  simp only[AE,bg];rcases aO.1 hx with rfl |hx
  .left;rw[h];exact hj
  .exact .inr (afr hx h j hj)
 |[],_,_,hx,_,_,_=>by simp at hx
theorem afs{c:CT X.ι}:∀{xs:U Operand}{x:Operand}{y:CT.T X.toSE c×List Bool},x∈xs->Gs get (ρ x) c=some y->∀b∈y.2,b∈NB get c ρ xs
 |z::xs,x,y,hx,h,b,hb=>by
  simp only[NB,bg];rcases aO.1 hx with rfl |hx
  .left;rw[h];exact hb
  .exact .inr (afs hx h b hb)
 |[],_,_,hx,_,_,_=>by simp at hx
theorem ah4(h:WD T an i o.op ρ get k=some r):cN P T i o ρ get k r:=by
 unfold WD at h;split at h
 .cases h
 rename_i hpick;have⟨c,h1,h⟩:=ai.1 h;have⟨hcs,h⟩:=qF h;have⟨cm,rd,wr,dv,upd,ab,g1,g2,g3,g4,g5,g6⟩:=ab8 h;generalize jz:AE get c ρ o.op.operands.toList=ae at*;refine⟨.xF ae (λ x=>den (Lq get c ρ x)) cm,rd++ae,wr++ae,dv,upd++Oz ae,⟨ab.v,ab.upd++ae.map (λ k=>(k,none)),ab.obs++[∀ x∈o.op.operands,(fh P (dJ (rd++ae) (fE get)) (den (ρ x)) (den (Lq get c ρ x))/\∀k∈refs (den (ρ x)),k∈ae)\/den (Lq get c ρ x)=den (ρ x)]⟩,?_,?_,g3,?_,?_,g6⟩
 .unfold jP IV;simp only;rw[aW hpick];have e:(λ k=>if k∈ae then none else dJ (rd++ae) (fE get) k)=dJ rd (fE λj=>if j∈ae then none else get j):=by
   funext j;simp only[dJ,fE,bg];by_cases hj:j∈ae
   .simp[hj]
   .simp[hj]
  rw[e,g1];rfl
 .refine sK _ λp hp=>?_;rcases bg.1 hp with hp |hp
  .exact rT _ g2 p hp
  .rw[aY]at hp;subst hp;intro x hx;unfold Lq;cases hl:Gs get (ρ x) c with
   |none=>exact .inr rfl
   |some y=>
    left;have hx':x∈o.op.operands.toList:=(by simpa using hx);have hin:∀j∈bm (ρ x),j∈ae:=λj hj=>jz ▸ afr hx' hl j hj;obtain⟨hs,obs,p1,p2⟩:=Bl (P:=P) (rd:=rd++ae) hl (λ b hb=>hcs b (afs hx' hl b hb)) (λ j hj=>List.mem_append_right _ (hin j hj));refine⟨?_,λj hj=>hin j (by rwa [jc]at hj)⟩;have:=p2 [];exact ER _ _ _ this p1
 .simp only[uh,DJ,g4]
 .intro p hp;rcases bg.1 hp with hp |hp
  .exact(g5 p hp).imp id (λ h=>List.mem_append_left _ h)
  .exact .inr (List.mem_append_right _ (KH hp))
theorem I8{c:CT X.ι}:∀{ds:U (DV X)}{xs:U (CT.T X.toSE c)},yC c ds=some xs->bM ds=xs.map λy=>den (.c c y:DV X)
 |[],xs,h=>by simp only[yC,ay]at h;subst h;rfl
 | .c a x::ds,xs,h=>by
  simp only[yC]at h;have⟨y,h1,h⟩:=ai.1 h;have⟨l,h2,h⟩:=ai.1 h;cases h;simp only[bM,aF,I8 h2,(jb h1).1]
 | .agg _::_,_,h=>by simp[yC]at h
 | .eC _::_,_,h=>by simp[yC]at h
 | .own _ _ _::_,_,h=>by simp[yC]at h
 | .ptr _ _ _::_,_,h=>by simp[yC]at h
 | .qn _ _ _::_,_,h=>by simp[yC]at h
 | .mp _::_,_,h=>by simp[yC]at h
 | .so _ _ _ _ _::_,_,h=>by simp[yC]at h
 | .rp _ _ _::_,_,h=>by simp[yC]at h
 | .xi _ _ _ _ _::_,_,h=>by simp[yC]at h
 | .fn _ _ _::_,_,h=>by simp[yC]at h
 | .du _ _ _::_,_,h=>by simp[yC]at h
 | .raw _::_,_,h=>by simp[yC]at h
 | .nil::_,_,h=>by simp[yC]at h
 | .ub::_,_,h=>by simp[yC]at h
 | .skip::_,_,h=>by simp[yC]at h
 | .undef::_,_,h=>by simp[yC]at h
theorem ah5(h:Wr T an o.op ρ get k=some r):cN P T i o ρ get k r:=by
 obtain⟨dst,op,ty,aq,after,guard⟩:=o;unfold Wr at h;simp only at h;split at h
 .rename_i t x j;rw[ai]at h;obtain⟨ti,h1,h⟩:=h;split at h
  .rename_i m e kk row aa kd n hk hx hj;rw[ai]at h;obtain⟨ei,h2,h⟩:=h;split at h
   .rename_i hs;have⟨h3,h⟩:=dL h;refine cN.op (cm:= .none) (rd:=[]) (wr:=[]) (upd:=[]) (λ _ _ _ e=>by cases e) (ab:=⟨.ptr kk row (aa+n.toNat*1),[],[0<=n/\n.toNat<m]⟩) ?_ ⟨?_,?_,rfl,by simp,h⟩
    .simp only[qZ,mK,h1,af,hk,hx,hj,den,CT.tv,TV.av,h2,hs];rfl
    .simp only[co,aG,aJ]at h3;exact⟨h3.1,by omega⟩
    .simp only[den,Nat.mul_one]
   .cases h
  .rename_i m e c y aa kd n hk hx hj;rw[ai]at h;obtain⟨ei,h2,h⟩:=h;split at h
   .rename_i hs;have⟨h3,h⟩:=dL h;refine cN.op (cm:= .none) (rd:=[]) (wr:=[]) (upd:=[]) (λ _ _ _ e=>by cases e) (ab:=⟨.ej (CT.row X.toSE c y) (aa+n.toNat*1),[],[0<=n/\n.toNat<m]⟩) ?_ ⟨?_,?_,rfl,by simp,h⟩
    .simp only[qZ,mK,h1,af,hk,hx,hj,den,CT.tv,TV.av,h2,hs];rfl
    .simp only[co,aG,aJ]at h3;exact⟨h3.1,by omega⟩
    .simp only[den,Nat.mul_one]
   .cases h
  .cases h
 .rename_i t a;rw[ai]at h;obtain⟨ti,h1,h⟩:=h;split at h
  .rename_i kk row aa m n hx;split at h
   .rename_i hs;rw[ai]at h;obtain⟨c,h2,h⟩:=h;split at h
    .rename_i hc;rw[ai]at h;obtain⟨ob,h3,h⟩:=h;split at h
     .rename_i sz rows;have⟨q,h4,h⟩:=ai.1 h;have⟨xs,h5,h⟩:=ai.1 h;have⟨y,h6,h⟩:=ai.1 h;have⟨_,h7⟩:=Ou h6;have h8:=I8 h5;have h9:((bM q).drop (aa+n.toNat)).take 1=[den (.c c y:DV X)]:=by
       have e1:(bM ((q.drop aa).take m))[n.toNat]? =some (den (.c c y:DV X)):=(by rw[h8,List.getElem?_map,h7];rfl);rw[kK,List.getElem?_take]at e1;split at e1
       .rw[List.getElem?_drop]at e1;have⟨g1,g2⟩:=dh.1 e1;rw[List.drop_eq_getElem_cons g1,List.take_succ_cons,List.take_zero,g2]
       .cases e1
      refine cN.op (cm:= .none) (rd:=[kk]) (wr:=[]) (upd:=[]) (λ _ _ _ e=>by cases e) (ab:=⟨den (.c c y:DV X),[],[]⟩) ?_ ⟨trivial,rfl,rfl,by simp,h⟩;simp only[qZ,Dv,h1,af,hx,den,dS (List.mem_singleton_self kk) h3,bG,List.getElem?_map,h4,Option.map_some,hs.1,hs.2];rw[h9];obtain⟨t',g1,g2⟩:=row_one hc y;simp only[den,g2,TV.av];rfl
     .rename_i b l;split at h
      .rename_i hb;have⟨y,h4,h⟩:=ai.1 h;have h5:l[aa+n.toNat]? =some y:=by
        unfold sy at h4;cases hd:decide (0<=n)<;>simp only[hd,aj,ak,reduceCtorEq]at h4;exact h4
       obtain⟨t',g1,g2⟩:=row_one hb.2 y;refine cN.q6 (n:=0) (rd:=[kk]) (wr:=[]) (upd:=[]) (dv:= .c b y) (ab:=⟨den (.c b y:DV X),[],[]⟩) ?_ trivial rfl rfl (by simp) h rfl rfl;have hz:CT.sz X b=1:=(by rw[<- xS b y,g1];rfl);have⟨q1,q2⟩:=dh.1 h5;simp only[lN,ES,h1,af,hx,den,dS (List.mem_singleton_self kk) h3,bG,hz,if_true,hs.1,hs.2,hb.1,Nat.zero_add,Xj,aL,<- map_drop,<- map_take];rw[List.drop_eq_getElem_cons q1,q2];simp only[List.take_succ_cons,List.take_zero,aF,map_nil,g1,flatten_cons,List.flatten_nil,append_nil,g2,TV.av];rfl
      .cases h
     .cases h
    .cases h
   .cases h
  .rename_i b y0 aa m n hx;split at h
   .rename_i hs;rw[ai]at h;obtain⟨c,h2,h⟩:=h;split at h
    .rename_i hc;have⟨xs,h5,h⟩:=ai.1 h;have⟨y,h6,h⟩:=ai.1 h;have⟨_,h7⟩:=Ou h6;have h8:=I8 h5;have h9:(((CT.row X.toSE b y0).drop (aa+n.toNat)).take 1).map AV.t=[den (.c c y:DV X)]:=by
      have e1:(bM (((wm b y0).drop aa).take m))[n.toNat]? =some (den (.c c y:DV X)):=(by rw[h8,List.getElem?_map,h7];rfl);rw[kK,nV,List.getElem?_take]at e1;split at e1
      .rw[List.getElem?_drop]at e1;have⟨g1,g2⟩:=dh.1 e1;rw[map_take,map_drop,List.drop_eq_getElem_cons g1,List.take_succ_cons,List.take_zero,g2]
      .cases e1
     refine cN.op (cm:= .none) (rd:=[]) (wr:=[]) (upd:=[]) (λ _ _ _ e=>by cases e) (ab:=⟨den (.c c y:DV X),[],[]⟩) ?_ ⟨trivial,rfl,rfl,by simp,h⟩;simp only[qZ,Dv,h1,af,hx,den,hs.1,hs.2];rw[h9];obtain⟨t',g1,g2⟩:=row_one hc y;simp only[den,g2,TV.av];rfl
    .cases h
   .cases h
  .cases h
 .cases h
end
end
def el{α:Type}(l:U α)(aa:Nat)(ao:U α):U α:=l.take aa++ao++l.drop (aa+ao.length)
def yq(a b:U Bool):Bool:=decide (a=b)
def kZ(aa n len:Nat):Bool:=decide (aa+n<=len)
section
variable {X:SX} {A:Type} (T:dC)
def aq1(o:Op)(ρ:Operand->DV X):Bool:=
 match o with
 | .alloc e=>(X.ar e).isSome
 | .box e _=>(X.ar e).isSome
 | .load t a=>match ρ a with
  | .ptr _ _ _=>(X.ar t).isSome
  |_=>false
 | .store t a _=>match ρ a with
  | .ptr _ _ _=>(X.ar t).isSome
  | .so _ _ _ _ _=>true
  |_=>false
 | .slice t x _ _ none=>match ρ x with
  | .ptr _ _ _=>(X.ar t).isSome
  |_=>false
 | .binOp _ t _ _ _=>(X.ar t).isSome
 |_=>false
def Nx(a:L5 X.toSE)(d:DV X):J (List (CT.T X.toSE a.c)):=
 match d with
 | .c b y=>(gF b (.st a.i) y).bind λy=>some (a.f y)
 | .agg cs=>yC a.c cs
 |_=>none
def GB(get:Nat->J (bp X))(kk:Nat)(c:CT X.ι):J (List (CT.T X.toSE c)):=
 (get kk).bind λo=>match o with
 | .da b l=>gF (.sl b) (.sl c) l
 |_=>none
def Wk(i:Nat)(o:Op)(ρ:Operand->DV X)(get:Nat->J (bp X))(k:KK X A):J A:=
 match o with
 | .alloc e=>(X.ar e).bind λa=>(T e).bind λti=>(yC a.c (ti.zero.map ue)).bind λl=>k (.ptr (cx i) 0 0) [(cx i,some (.da a.c l))] [] []
 | .box e x=>(X.ar e).bind λa=>(Nx a (ρ x)).bind λl=>if (cellsD (ρ x)).isSome then k (.ptr (cx i) 0 0) [(cx i,some (.da a.c l))] [] []else none
 | .load t a=>(T t).bind λti=>match ρ a with
  | .ptr kk 0 aa=>(X.ar t).bind λa=>(GB get kk a.c).bind λl=>if ti.agg=true/\(X.cX a.i).length=ti.size then(a.g (sub l aa ti.size)).bind λy=>k (.c (.st a.i) y) [] [kk] []else none
  |_=>none
 | .store t a x=>(T t).bind λti=>match ρ a with
  | .ptr kk 0 aa=>(X.ar t).bind λa=>(GB get kk a.c).bind λl=>(Nx a (ρ x)).bind λao=>if (cellsD (ρ x)).isSome then
   bif be ao.length ti.size&&kZ aa ao.length l.length then k .undef [(kk,some (.da a.c (el l aa ao)))] [kk] [kk]else none else none
  | .so kk 0 aa _ n=>(get kk).bind λo=>match o with
   | .da b l=>match ρ x with
    | .c c0 y0=>(gF c0 b y0).bind λy=>if b.one=true/\ti.size=1 then bif decide (0<=n)&&kZ (aa+n.toNat) 1 l.length then k .undef [(kk,some (.da b (l.set (aa+n.toNat) y)))] [kk] [kk]else none else none
    |_=>none
   |_=>none
  |_=>none
 | .slice t x lo hi none=>(T t).bind λti=>match ti.k,ρ x with
  | .arr m e,.ptr kk 0 aa=>(T e).bind λei=>(get kk).bind λo=>match o with
   | .da b l=>if CT.sz X b=1/\ei.size=1 then(wg 0 (lo.map ρ)).bind λp=>(wg m (hi.map ρ)).bind λq=>
    bif vQ p q m&&kZ aa m l.length then k (.own kk (aa+p.toNat) (q.toNat -p.toNat)) [] [kk] []else none else none
   |_=>none
  |_,_=>none
 | .binOp op t x y _=>(T t).bind λti=>(X.ar t).bind λa=>match ti.k,ρ x,ρ y with
  | .arr _ _,.c b u,.c c v=>(gF b (.st a.i) u).bind λu=>(gF c (.st a.i) v).bind λv=>(gF (.sl a.c) (.sl .bool) (a.f u)).bind λ(p:List Bool)=>(gF (.sl a.c) (.sl .bool) (a.f v)).bind λ(q:List Bool)=>
   if EU T 9 t=true/\ti.cmp=[9]/\(X.cX a.i).length=ti.size then match op with
    | .eql=>k (.c .bool (yq p q)) [] [] []
    | .neq=>k (.c .bool (!(yq p q))) [] [] []
    |_=>none
   else none
  |_,_,_=>none
 |_=>none
end
section
variable {X:SX} {A:Type} {T:dC} {P:Program} {i:Nat} {o:Oper} {ρ:Operand->DV X} {get:Nat->Option (bp X)} {k:KK X A} {r:A}
theorem aqi{c:CT X.ι}(h:c.one=true):CT.sz X c=1:=by cases c<;>first |rfl |cases h
theorem ajP{c:CT X.ι}(h:c.one=true)(x:CT.T X.toSE c):(CT.row X.toSE c x).map AV.t=[den (.c c x:DV X)]:=by
 obtain⟨t,h1,h2⟩:=row_one h x;simp only[den,h1,h2,TV.av,aF,map_nil]
theorem KJ{c:CT X.ι}(h:c.one=true)(l:U (CT.T X.toSE c)):bG (.da c l:bp X)=⟨1,eT (l.map λx=>den (.c c x:DV X))⟩:=by
 simp only[bG,aqi h,aL,eT,map_map];congr 1;exact map_congr_left λx _=>ajP h x
theorem DK{c:CT X.ι}(h:c.one=true):∀l:U (CT.T X.toSE c),((l.map (CT.row X.toSE c)).flatten).map AV.t=l.map λx=>den (.c c x:DV X)
 |[]=>rfl
 |x::l=>by simp only[aF,flatten_cons,map_append,ajP h,DK h l,List.singleton_append]
theorem XY{a:L5 X.toSE}{t:TypeId}(ha:X.ar t=some a){d:DV X}{l:U (CT.T X.toSE a.c)}(h:Nx a d=some l)(hc:(cellsD d).isSome=true):cellsOf (den d)=some (l.map λx=>den (.c a.c x:DV X)):=by
 obtain⟨h1,h2,h3⟩:=X.lR t a ha;cases hd:cellsD d with
 |none=>rw[hd]at hc;cases hc
 |some cs=>
  rw[zo hd];unfold Nx at h;split at h
  .rename_i b y;rw[ai]at h;obtain⟨y',h4,h⟩:=h;cases h;have⟨e,h4⟩:=mO h4;subst e;subst h4;simp only[cellsD,ay]at hd;subst hd;rw[nV];show some ((X.row a.i y').map AV.t)=_;rw[h2 y',DK h1]
  .rename_i cs';simp only[cellsD]at hd;split at hd
   .cases hd;rw[I8 h]
   .cases hd
  .cases h
theorem akU{c:CT X.ι}{l:U (CT.T X.toSE c)}{l':U Bool}(h:gF (.sl c) (.sl .bool) l=some l'):(l.map λx=>den (.c c x:DV X))=l'.map tB:=by
 have⟨e,h⟩:=mO h;cases e;subst h;rfl
theorem XZ{kk:Nat}{c:CT X.ι}{l:U (CT.T X.toSE c)}(hc:c.one=true)(h:GB get kk c=some l):∃o,get kk=some o/\bG o=⟨1,eT (l.map λx=>den (.c c x:DV X))⟩:=by
 unfold GB at h;rw[ai]at h;obtain⟨o,h1,h⟩:=h;split at h
 .rename_i b l0;have⟨e,h⟩:=mO h;cases e;subst h;exact⟨_,h1,KJ hc _⟩
 .cases h
theorem E8(n:Nat)(cs:U AV):(eT cs).take n=eT (cs.take n):=by simp[eT,map_take]
theorem E9(n:Nat)(cs:U AV):(eT cs).drop n=eT (cs.drop n):=by simp[eT,map_drop]
theorem T9(a b:U AV):eT (a++b)=eT a++eT b:=by simp[eT]
theorem I9(a:U AV):(eT a).length=a.length:=by simp[eT]
theorem amK(cs:U AV)(p n:Nat):Xj ⟨1,eT cs⟩ p n=(cs.drop p).take n:=by simp only[Xj,E9,E8,sM]
theorem X0{t:TypeId}{ti:m4}{a:L5 X.toSE}{kk aa:Nat}{l:U (CT.T X.toSE a.c)}{y:X.T a.i}{g:Nat->J aS}(h2:T t=some ti)(h1:X.ar t=some a)(hag:ti.agg=true)(hlen:(X.cX a.i).length=ti.size)
 (hk:g kk=some ⟨1,eT (l.map λx=>den (.c a.c x:DV X))⟩) (h4:a.g (sub l aa ti.size)=some y):ES T t (den (.ptr kk 0 aa:DV X)) g=some ⟨den (.c (.st a.i) y:DV X),[],[]⟩:=by
 obtain⟨ho,hr,hg⟩:=X.lR t a h1;have h7:=hg _ _ h4;have h8:den (.c (.st a.i) y:DV X)= .agg ((sub l aa ti.size).map λx=>den (.c a.c x:DV X)):=by
  show AV.agg ((X.row a.i y).map AV.t)=_;rw[hr y,DK ho,h7]
 have h9:((sub l aa ti.size).map λx=>den (.c a.c x:DV X)).length=ti.size:=by
  have:=congrArg List.length (DK ho (a.f y));rw[length_map,length_map,<- hr y]at this;have h10:=xS (X:=X) (.st a.i) y;rw[length_map,<- h7,<- this];exact h10.trans hlen
 simp only[ES,h2,af,den,hk,if_true,Nat.zero_add,amK,<- map_drop,<- map_take];show(part' ti.agg ti.size ((sub l aa ti.size).map λx=>den (.c a.c x:DV X))).bind pv=some ⟨den (.c (.st a.i) y:DV X),[],[]⟩;have hp:part' ti.agg ti.size ((sub l aa ti.size).map λx=>den (.c a.c x:DV X))=some (.agg ((sub l aa ti.size).map λx=>den (.c a.c x:DV X))):=by unfold part';rw[aT h9,aT hag]
 rw[hp,h8];rfl
theorem ah6(h:Wk T i o.op ρ get k=some r):cN P T i o ρ get k r:=by
 obtain⟨dst,op,ty,aq,after,guard⟩:=o;unfold Wk at h;simp only at h;split at h
 .rename_i e;rw[ai]at h;obtain⟨a,h1,h⟩:=h;rw[ai]at h;obtain⟨ti,h2,h⟩:=h;rw[ai]at h;obtain⟨l,h3,h⟩:=h;obtain⟨ho,_,_⟩:=X.lR e a h1;refine cN.q6 (n:=0) (rd:=[]) (wr:=[]) (upd:=[(cx i,some (.da a.c l))]) (dv:= .ptr (cx i) 0 0) (ab:=⟨.ptr (cx i) 0 0,[(cx i,some ⟨1,eT (ti.zero.map cv)⟩)],[]⟩) ?_ trivial rfl ?_ (by simp) h rfl rfl
  .simp only[lN,V9,h2,af]
  .simp only[iA,aF,map_nil,Option.map_some,KJ ho,<- I8 h3,zq]
 .rename_i e x;rw[ai]at h;obtain⟨a,h1,h⟩:=h;rw[ai]at h;obtain⟨l,h3,h⟩:=h;split at h
  .rename_i hc;obtain⟨ho,_,_⟩:=X.lR e a h1;refine cN.q6 (n:=0) (rd:=[]) (wr:=[]) (upd:=[(cx i,some (.da a.c l))]) (dv:= .ptr (cx i) 0 0) (ab:=⟨.ptr (cx i) 0 0,[(cx i,some ⟨1,eT (l.map λx=>den (.c a.c x:DV X))⟩)],[]⟩) ?_ trivial rfl ?_ (by simp) h rfl rfl
   .simp only[lN,Pl,XY h1 h3 hc,af]
   .simp only[iA,aF,map_nil,Option.map_some,KJ ho]
  .cases h
 .rename_i t a0;rw[ai]at h;obtain⟨ti,h2,h⟩:=h;split at h
  .rename_i kk aa hx;rw[ai]at h;obtain⟨a,h1,h⟩:=h;rw[ai]at h;obtain⟨l,h3,h⟩:=h;split at h
   .rename_i hc;rw[ai]at h;obtain⟨y,h4,h⟩:=h;obtain⟨ob,h5,h6⟩:=XZ (X.lR t a h1).1 h3;refine cN.q6 (n:=0) (rd:=[kk]) (wr:=[]) (upd:=[]) (dv:= .c (.st a.i) y) (ab:=⟨den (.c (.st a.i) y:DV X),[],[]⟩) ?_ trivial rfl rfl (by simp) h rfl rfl;simp only[lN,hx];exact X0 h2 h1 hc.1 hc.2 (by rw[dS (List.mem_singleton_self kk) h5,h6]) h4
   .cases h
  .cases h
 .rename_i t a0 x;rw[ai]at h;obtain⟨ti,h2,h⟩:=h;split at h
  .rename_i kk aa hx;rw[ai]at h;obtain⟨a,h1,h⟩:=h;rw[ai]at h;obtain⟨l,h3,h⟩:=h;rw[ai]at h;obtain⟨ao,h4,h⟩:=h;split at h
   .rename_i hc;have⟨h5,h⟩:=dL h;simp only[aG,be,kZ,aJ]at h5;obtain⟨ho,hr,hg⟩:=X.lR t a h1;have⟨ob,h6,h7⟩:=XZ ho h3;refine cN.q6 (n:=0) (rd:=[kk]) (wr:=[kk]) (upd:=[(kk,some (.da a.c (el l aa ao)))]) (dv:= .undef) (ab:=⟨.undef,[(kk,some ⟨1,eT ((el l aa ao).map λx=>den (.c a.c x:DV X))⟩)],[]⟩) ?_ trivial rfl ?_ (by simp) h rfl rfl
    .simp only[lN,Ob,h2,af,hx,den,XY h1 h4 hc,dS (List.mem_singleton_self kk) h6,h7];rw[aT ⟨trivial,by rw[length_map];exact h5.1,by rw[length_map,I9,length_map];omega⟩];simp only[el,map_append,map_take,map_drop,T9,E8,E9,length_map,Nat.zero_add]
    .simp only[iA,aF,map_nil,Option.map_some,KJ ho]
   .cases h
  .rename_i kk aa m n hx;rw[ai]at h;obtain⟨ob,h3,h⟩:=h;split at h
   .rename_i b l;split at h
    .rename_i c0 y0 hy;rw[ai]at h;obtain⟨y,h4,h⟩:=h;split at h
     .rename_i hb;have⟨h5,h⟩:=dL h;simp only[aG,kZ,aJ]at h5;have h6:cellsOf (den (.c c0 y0:DV X))=some [den (.c b y:DV X)]:=by
       rw[(jb h4).1];obtain⟨t',g1,g2⟩:=row_one hb.1 y;simp only[den,g2,TV.av];rfl
      refine cN.q6 (n:=0) (rd:=[kk]) (wr:=[kk]) (upd:=[(kk,some (.da b (l.set (aa+n.toNat) y)))]) (dv:= .undef) (ab:=⟨.undef,[(kk,some ⟨1,eT ((l.set (aa+n.toNat) y).map λx=>den (.c b x:DV X))⟩)],[]⟩) ?_ trivial rfl ?_ (by simp) h rfl rfl
      .simp only[lN,Ob,h2,af,hx,hy,h6];simp only[den,dS (List.mem_singleton_self kk) h3,KJ hb.1,af];rw[aT ⟨trivial,by rw[hb.2];rfl,by rw[I9,length_map];simp only[bn,List.length_nil];omega⟩];simp only[Nat.zero_add,bn,List.length_nil];rw[List.map_set,List.set_eq_take_append_cons_drop,aT (by rw[length_map];omega)];simp only[T9,E8,E9,aM];rfl
      .simp only[iA,aF,map_nil,Option.map_some,KJ hb.1]
     .cases h
    .cases h
   .cases h
  .cases h
 .rename_i t x lo hi;rw[ai]at h;obtain⟨ti,h2,h⟩:=h;split at h
  .rename_i m e kk aa hk hx;rw[ai]at h;obtain⟨ei,h3,h⟩:=h;rw[ai]at h;obtain⟨ob,h4,h⟩:=h;split at h
   .rename_i b l;split at h
    .rename_i hb;have⟨p,h5,h⟩:=ai.1 h;have⟨q,h6,h⟩:=ai.1 h;have⟨h7,h⟩:=dL h;simp only[aG,vQ,kZ,aJ]at h7;refine cN.q6 (n:=0) (rd:=[kk]) (wr:=[]) (upd:=[]) (dv:= .own kk (aa+p.toNat) (q.toNat -p.toNat)) (ab:=⟨.own kk (0+aa+p.toNat) (q.toNat -p.toNat),[],[0<=p/\p<=q/\q<=(m:Int)/\0+aa+m<=(bG (.da b l:bp X)).rows.length]⟩) ?_ ⟨h7.1.1.1,h7.1.1.2,h7.1.2,?_⟩ ?_ rfl (by simp) h rfl ?_
     .simp only[lN,Wh,h2,af,hk,hx,den,h3,dS (List.mem_singleton_self kk) h4];have e1:bnd 0 (lo.map λx=>den (ρ x))=some p:=(by rw[<- xh h5,Option.map_map];rfl);have e2:bnd (m:Int) (hi.map λx=>den (ρ x))=some q:=(by rw[<- xh h6,Option.map_map];rfl);rw[aT ⟨hb.1,hb.2⟩];simp only[e1,e2,af,kx]
     .simp only[bG,aL,length_map];omega
     .simp only[den,Nat.zero_add]
     .simp only[pO,Dz,h2,af,hk]
    .cases h
   .cases h
  .cases h
 .rename_i Wc t x y q0;rw[ai]at h;obtain⟨ti,h2,h⟩:=h;rw[ai]at h;obtain⟨a,h1,h⟩:=h;split at h
  .rename_i m0 e0 b u0 c v0 hk hx hy;rw[ai]at h;obtain⟨u,h3,h⟩:=h;rw[ai]at h;obtain⟨v,h4,h⟩:=h;rw[ai]at h;obtain⟨p,h5,h⟩:=h;rw[ai]at h;obtain⟨q,h6,h⟩:=h;split at h
   .rename_i hb;obtain⟨ho,hr,hg⟩:=X.lR t a h1;have key:∀(z:CT.T X.toSE (.st a.i)) (l:U Bool),gF (.sl a.c) (.sl .bool) (a.f z)=some l->den (.c (.st a.i) z:DV X)= .agg (l.map tB)/\l.length=ti.size:=by
     intro z l hl;have e1:den (.c (.st a.i) z:DV X)= .agg ((a.f z).map λx=>den (.c a.c x:DV X)):=by
      show AV.agg ((X.row a.i z).map AV.t)=_;rw[hr z,DK ho]
     have e2:((a.f z).map λx=>den (.c a.c x:DV X)).length=ti.size:=by
      have:=congrArg List.length (DK ho (a.f z));rw[length_map,<- hr z]at this;rw[<- this];exact(xS (X:=X) (.st a.i) z).trans hb.2.2
     rw[akU hl]at e1 e2;exact⟨e1,by rw[length_map]at e2;exact e2⟩
    have⟨k1,l1⟩:=key u p h5;have⟨k2,l2⟩:=key v q h6;cases Wc<;>simp only[reduceCtorEq]at h
    .refine cN.q6 (n:=if p=q then 1 else 0) (rd:=[]) (wr:=[]) (upd:=[]) (dv:= .c .bool (yq p q)) (ab:=⟨tB ((if p=q then(1:Int)else 0) !=0),[],[∃ z1 z2:U Bool,p.map tB=z1.map tB/\q.map tB=z2.map tB/\z1.length=ti.size/\z2.length=ti.size/\((if p=q then(1:Int)else 0)≠0↔z1=z2)]⟩) ?_ ⟨p,q,rfl,rfl,l1,l2,by split<;>simp_all⟩ ?_ rfl (by simp) h rfl ?_
     .simp only[lN,Lk,h2,af,hk,hx,hy,(jb h3).1,(jb h4).1,k1,k2];rw[aT ⟨hb.1,hb.2.1⟩];rfl
     .simp only[tB,den,CT.tv,TV.av,yq];by_cases hpq:p=q<;>simp[hpq]
     .simp only[pO,wj,h2,af,hk]
    .refine cN.q6 (n:=if p=q then 1 else 0) (rd:=[]) (wr:=[]) (upd:=[]) (dv:= .c .bool (!(yq p q))) (ab:=⟨tB (!((if p=q then(1:Int)else 0) !=0)),[],[∃ z1 z2:U Bool,p.map tB=z1.map tB/\q.map tB=z2.map tB/\z1.length=ti.size/\z2.length=ti.size/\((if p=q then(1:Int)else 0)≠0↔z1=z2)]⟩) ?_ ⟨p,q,rfl,rfl,l1,l2,by split<;>simp_all⟩ ?_ rfl (by simp) h rfl ?_
     .simp only[lN,Lk,h2,af,hk,hx,hy,(jb h3).1,(jb h4).1,k1,k2];rw[aT ⟨hb.1,hb.2.1⟩];rfl
     .simp only[tB,den,CT.tv,TV.av,yq];by_cases hpq:p=q<;>simp[hpq]
     .simp only[pO,wj,h2,af,hk]
   .cases h
  .cases h
 .cases h
end
section
variable {X:SX}
structure MA(X:SX) where
 nm:List (Nat×Nat)
 ek:List (DC X)
 ip:List Bool
def addN(m:MA X)(k' k:Nat):MA X:=if m.nm.contains (k',k)then m else⟨m.nm++[(k',k)],m.ek,m.ip⟩
section
variable (get:Nat->Option (bp X))
mutual
def mP:Pt X.ι->DV X->MA X->Option (MA X)
 | .v c,d,m=>(dat d c).bind λx=>some ⟨m.nm,m.ek++[⟨c,x⟩],m.ip⟩
 | .o k,d,m=>match d with
  | .own k' 0 len=>(get k').bind λo=>match o with
   | .da _ l=>some (addN ⟨m.nm,m.ek,m.ip++[be len l.length]⟩ k' k)
   |_=>none
  |_=>none
 | .oz k,d,m=>match d with
  | .own k' 0 len=>(get k').bind λo=>match o with
   | .da _ l=>some (addN ⟨m.nm,m.ek,m.ip++[!(len==0)&&be len l.length]⟩ k' k)
   |_=>none
  | .oz k' len=>(get k').bind λo=>match o with
   | .da _ l=>some (addN ⟨m.nm,m.ek,m.ip++[be len l.length]⟩ k' k)
   |_=>none
  |_=>none
 | .p k,d,m=>match d with
  | .ptr k' 0 0=>some (addN m k' k)
  |_=>none
 | .mp k,d,m=>match d with
  | .mp k'=>some (addN m k' k)
  |_=>none
 | .nil,d,m=>match d with
  | .nil=>some m
  |_=>none
 | .f F fs cs,d,m=>match d with
  | .fn F' first caps=>if F=F' then(sY fs first m).bind λm=>sY cs caps m else none
  |_=>none
 | .od k,d,m=>match d with
  | .own k' aa len=>(get k').bind λo=>match o with
   | .da _ l=>some (addN ⟨m.nm,m.ek++[⟨.int .i64,(aa:Int)⟩],m.ip++[be (aa+len) l.length]⟩ k' k)
   |_=>none
  |_=>none
 | .a ps,d,m=>match d with
  | .agg ds=>sY ps ds m
  |_=>none
def sY:List (Pt X.ι)->List (DV X)->MA X->Option (MA X)
 |[],[],m=>some m
 |p::ps,d::ds,m=>(mP p d m).bind λm=>sY ps ds m
 |_,_,_=>none
end
def Ja(env:Nat->DV X):U (Nat×Pt X.ι)->MA X->J (MA X)
 |[],m=>some m
 |(t,p)::r,m=>(mP get p (env t) m).bind λm=>Ja env r m
def Gt:U (List (Pt X.ι))->U (List (DV X))->MA X->J (MA X)
 |[],[],m=>some m
 |r::rs,q::qs,m=>(sY get r q m).bind λm=>Gt rs qs m
 |_,_,_=>none
def nameOf(m:MA X)(k:Nat):Nat:=match m.nm.find? (λ q=>q.2==k)with |some q=>q.1 |none=>k
def DL:U (Nat×OP X.ι)->MA X->J (MA X)
 |[],m=>some m
 |(k,op)::r,m=>(get (nameOf m k)).bind λo=>match op,o with
  | .l c,.da c' l=>(gF (.sl c') (.sl c) l).bind λl'=>DL r (addN ⟨m.nm,m.ek++[⟨.sl c,l'⟩],m.ip⟩ (nameOf m k) k)
  | .m kc vc,.map tS tI l=>(gF (.mp tS tI) (.mp kc vc) l).bind λl'=>DL r (addN ⟨m.nm,m.ek++[⟨.mp kc vc,l'⟩],m.ip⟩ (nameOf m k) k)
  | .c sz rows,.cells sz' rows'=>if sz=sz' then(Gt get rows rows' (addN m (nameOf m k) k)).bind λm=>DL r m else none
  |_,_=>none
end
end
section
variable {X:SX} {A:Type}
mutual
def m7(f:Nat->Nat):DV X->DV X
 | .own k aa len=> .own (f k) aa len
 | .ptr k row aa=> .ptr (f k) row aa
 | .qn k n aa=> .qn (f k) n aa
 | .so k row aa m n=> .so (f k) row aa m n
 | .mp k=> .mp (f k)
 | .oz k len=> .oz (f k) len
 | .agg cs=> .agg (Lc f cs)
 | .eC cs=> .eC (Lc f cs)
 | .fn F first caps=> .fn F (Lc f first) (Lc f caps)
 |x=>x
def Lc(f:Nat->Nat):List (DV X)->List (DV X)
 |[]=>[]
 |x::xs=>m7 f x::Lc f xs
end
theorem ah7(f:Nat->Nat):∀l:U Tree,Av f (l.map AV.t)=l.map AV.t
 |[]=>rfl
 |x::xs=>by simp only[aF,Av,fx,ah7 f xs]
mutual
theorem Bo(f:Nat->Nat):∀x:DV X,den (m7 f x)=fx f (den x)
 | .own _ _ _=>rfl
 | .ptr _ _ _=>rfl
 | .qn _ _ _=>rfl
 | .mp _=>rfl
 | .oz _ _=>rfl
 | .so _ _ _ _ _=>rfl
 | .agg cs=>by simp only[m7,den,fx,DR f cs]
 | .eC cs=>by simp only[m7,den,fx,DR f cs]
 | .fn F first caps=>by simp only[m7,den,fx,DR f first,DR f caps]
 | .c t x=>by
  simp only[m7,den];cases t<;>try rfl
  simp only[CT.tv,TV.av,fx,ah7]
 | .rp _ _ _=>rfl
 | .xi _ _ _ _ _=>rfl
 | .du _ _ _=>rfl
 | .raw v=>by
  simp only[m7,den,cv];split
  .rfl
  .split<;>rfl
 | .nil=>rfl
 | .ub=>rfl
 | .skip=>rfl
 | .undef=>rfl
theorem DR(f:Nat->Nat):∀l:List (DV X),bM (Lc f l)=Av f (bM l)
 |[]=>rfl
 |x::xs=>by simp only[Lc,bM,Av,Bo f x,DR f xs]
end
def ox(f:Nat->Nat):bp X->bp X
 | .cells sz rows=> .cells sz (rows.map (Lc f))
 |o=>o
def dE:bp X->U Nat
 | .cells _ rows=>(rows.map aR).flatten
 | .da _ _=>[]
 | .map _ _ _=>[]
def ON:CT X.ι->Bool
 | .int _ | .bool | .str=>true
 |_=>false
def yx:CT X.ι->Bool
 | .st i=>(X.cX i).all ON
 |c=>ON c
theorem Fa{c:CT X.ι}(h:ON c=true)(x:CT.T X.toSE c):∀t∈CT.row X.toSE c x,t.flat:=by cases c<;>first |(intro t ht;simp only[CT.row,aY]at ht;subst ht;exact trivial) |cases h
theorem ajR:∀(l:U (CT X.ι))(h:HL X.toSE l),l.all ON=true->∀t∈HL.row X.toSE l h,t.flat
 |[],_,_,t,ht=>by simp[HL.row]at ht
 |c::l,h,ha,t,ht=>by
  simp only[all_cons,aG]at ha;rcases bg.1 (show t∈CT.row X.toSE c h.1++HL.row X.toSE l h.2 from ht)with ht |ht
  .exact Fa ha.1 h.1 t ht
  .exact ajR l h.2 ha.2 t ht
theorem wo{c:CT X.ι}(h:yx c=true)(x:CT.T X.toSE c):∀t∈CT.row X.toSE c x,t.flat:=by
 cases c
 case st i=>intro t ht;exact ajR (X.cX i) (X.get i x) h t ((X.np i x) ▸ ht)
 case int k=>exact Fa (c:= .int k) h x
 case bool=>exact Fa (c:= .bool) h x
 case str=>exact Fa (c:= .str) h x
 case sl e=>cases h
 case any=>cases h
 case mp=>cases h
structure MG(X:SX) where
 nm:List (Nat×Nat)
 ek:List (DC X)
 ip:List Bool
 vr:List Nat
section
variable (get:Nat->Option (bp X))
mutual
def py:Pt X.ι->DV X->MG X->Option (MG X)
 | .v c,d,m=>(Gs get d c).bind λx=>some ⟨m.nm,m.ek++[⟨c,x.1⟩],m.ip++x.2,m.vr++bm d⟩
 | .o k,d,m=>match d with
  | .own k' 0 len=>(get k').bind λo=>match o with
   | .da _ l=>some ⟨m.nm++[(k',k)],m.ek,m.ip++[be len l.length],m.vr⟩
   |_=>none
  |_=>none
 | .od k,d,m=>match d with
  | .own k' aa len=>(get k').bind λo=>match o with
   | .da _ l=>some ⟨m.nm++[(k',k)],m.ek++[⟨.int .i64,(aa:Int)⟩],m.ip++[be (aa+len) l.length],m.vr⟩
   |_=>none
  |_=>none
 | .p k,d,m=>match d with
  | .ptr k' 0 0=>some ⟨m.nm++[(k',k)],m.ek,m.ip,m.vr⟩
  |_=>none
 | .nil,d,m=>match d with
  | .nil=>some m
  |_=>none
 | .f F fs cs,d,m=>match d with
  | .fn F' first caps=>if F=F' then(sg fs first m).bind λm=>sg cs caps m else none
  |_=>none
 | .mp k,d,m=>match d with
  | .mp k'=>some ⟨m.nm++[(k',k)],m.ek,m.ip,m.vr⟩
  |_=>none
 | .oz _,_,_=>none
 | .a ps,d,m=>match d with
  | .agg ds=>sg ps ds m
  |_=>none
def sg:List (Pt X.ι)->List (DV X)->MG X->Option (MG X)
 |[],[],m=>some m
 |p::ps,d::ds,m=>(py p d m).bind λm=>sg ps ds m
 |_,_,_=>none
end
def Gu:U (List (Pt X.ι))->U (List (DV X))->MG X->J (MG X)
 |[],[],m=>some m
 |r::rs,q::qs,m=>(sg get r q m).bind λm=>Gu rs qs m
 |_,_,_=>none
def qq(m:MG X)(k:Nat):Nat:=match m.nm.find? (λ q=>q.2==k)with |some q=>q.1 |none=>k
def stC:CT X.ι->Bool
 | .st _=>true
 |_=>false
def DT:U (Nat×OP X.ι)->MG X->J (MG X)
 |[],m=>some m
 |(k,op)::r,m=>(get (qq m k)).bind λo=>match op,o with
  | .l c,.da c' l=>(gF (.sl c') (.sl c) l).bind λl'=>DT r ⟨m.nm++[(qq m k,k)],m.ek++[⟨.sl c,l'⟩],m.ip,m.vr⟩
  | .m kc vc,.map tS tI l=>if (kc.one=true/\vc.one=true)\/stC kc=true then(gF (.mp tS tI) (.mp kc vc) l).bind λl'=>DT r ⟨m.nm++[(qq m k,k)],m.ek++[⟨.mp kc vc,l'⟩],m.ip,m.vr⟩else none
  | .c sz rows,.cells sz' rows'=>if sz=sz' then(Gu get rows rows' ⟨m.nm++[(qq m k,k)],m.ek,m.ip,m.vr⟩).bind λm=>DT r m else none
  |_,_=>none
end
mutual
def Pt.refs:Pt X.ι->List Nat
 | .o k | .od k | .p k | .mp k | .oz k=>[k]
 | .f _ fs cs=>Ck fs++Ck cs
 | .a ps=>Ck ps
 |_=>[]
def Ck:List (Pt X.ι)->List Nat
 |[]=>[]
 |p::ps=>p.refs++Ck ps
end
def OP.refs:OP X.ι->U Nat
 | .l _=>[]
 | .m _ _=>[]
 | .c _ rows=>rows.flatMap Ck
def HA(n k:Nat):Bool:=Nat.blt k n || (Nat.ble 1000 k&&Nat.blt k 1064)
def cH.ok(g:cH X):Bool:=
 decide (g.io.map (·.1)=List.range g.io.length)&&decide (g.io.length<=1000)&&(g.il.all λq=>HA g.io.length q.1&&q.2.refs.all λk=>HA g.io.length k)&&decide (g.il.map (·.1)).Nodup&&(Ck g.fj).all λk=>HA g.io.length k
def okG(m:MG X)(ae:U Nat):Bool:=
 decide ae.Nodup&&(m.nm.all λq=>match ae[q.2]? with |some k=>Nat.beq k q.1 |none=>false)&&m.vr.all λk=>!ae.contains k
def cH.flat(g:cH X):Bool:=(cI g.fj).all yx&&g.il.all λq=>match q.2 with
 | .l c=>yx c
 | .m _ _=>false
 | .c _ rows=>(xk rows).all yx
def tz:U (Nat×bp X)->Nat->J (bp X)
 |[],_=>none
 |(j,o)::r,k=>if j=k then some o else tz r k
def OK(i:Nat)(ae:U Nat)(os':U (Nat×bp X)):U (Nat×Option (bp X)):=
 (ae.zipIdx.map λp=>(p.1,(tz os' p.2).map (ox (cn i ae))))++(os'.filter λq=>decide (1000<=q.1)).map λq=>(cn i ae q.1,some (ox (cn i ae) q.2))
def ah8(g:cH X)(i:Nat)(ds:U (DV X))(get:Nat->J (bp X))(k:KK X A):J A:=
 (sg get g.pn ds ⟨[],[],[],[]⟩).bind λm=>(DT get g.io m).bind λm=>
  bif g.ok&&okG m ((List.range g.io.length).map (qq m))then(we (cI g.pn++cC g.io) m.ek).bind λv=>XE m.ip ((g.fn v).bind λr=>
   let ae:=(List.range g.io.length).map (qq m)
   k (m7 (cn i ae) (g.res r)) (OK i ae (g.outs r)++(if g.flat then []else m.vr.map λk=>(k,none))) (ae++m.vr) ((ae++(OK i ae (g.outs r)).map (·.1))++m.vr))
  else none
section
variable {P:Program} {get:Nat->Option (bp X)} {rd ae:List Nat} {dg:Nat->Nat}
def fp(m m':MG X):Prop:=(∀ q∈m.nm,q∈m'.nm)/\(∀ c∈m.ip,c∈m'.ip)/\∀k∈m.vr,k∈m'.vr
theorem fp.refl(m:MG X):fp m m:=⟨λ _ h=>h,λ_ h=>h,λ_ h=>h⟩
theorem fp.trans{a b c:MG X}(h:fp a b)(h':fp b c):fp a c:=⟨λ q hq=>h'.1 q (h.1 q hq),λq hq=>h'.2.1 q (h.2.1 q hq),λq hq=>h'.2.2 q (h.2.2 q hq)⟩
mutual
theorem amL:∀(p:Pt X.ι)(d:DV X)(m m':MG X),py get p d m=some m'->fp m m'/\∃ao,m'.ek=m.ek++ao/\ao.length=p.vars.length
 | .v c,d,m,m',h=>by
  simp only[py]at h;rw[ai]at h;obtain⟨x,h1,h⟩:=h;cases h;exact⟨⟨λ _ h=>h,λ_ h=>by simp[h],λ_ h=>by simp[h]⟩,[⟨c,x.1⟩],rfl,rfl⟩
 | .o k,d,m,m',h=>by
  simp only[py]at h;split at h
  .rw[ai]at h;obtain⟨o,h1,h⟩:=h;split at h
   .cases h;exact⟨⟨λ _ h=>by simp[h],λ_ h=>by simp[h],λ_ h=>h⟩,[],by simp,rfl⟩
   .cases h
  .cases h
 | .od k,d,m,m',h=>by
  simp only[py]at h;split at h
  .rename_i k' aa len;have⟨o,h1,h⟩:=ai.1 h;split at h
   .cases h;exact⟨⟨λ _ h=>by simp[h],λ_ h=>by simp[h],λ_ h=>h⟩,[⟨.int .i64,(aa:Int)⟩],rfl,rfl⟩
   .cases h
  .cases h
 | .p k,d,m,m',h=>by
  simp only[py]at h;split at h
  .cases h;exact⟨⟨λ _ h=>by simp[h],λ_ h=>h,λ_ h=>h⟩,[],by simp,rfl⟩
  .cases h
 | .nil,d,m,m',h=>by
  simp only[py]at h;split at h
  .cases h;exact⟨fp.refl _,[],by simp,rfl⟩
  .cases h
 | .f F fs cs,d,m,m',h=>by
  simp only[py]at h;split at h
  .split at h
   .have⟨m1,h1,h⟩:=ai.1 h;obtain⟨a1,n1,b1,c1⟩:=xA fs _ m m1 h1;obtain⟨a2,n2,b2,c2⟩:=xA cs _ m1 m' h;exact⟨a1.trans a2,n1++n2,by rw[b2,b1,aM],by simp[Pt.vars,c1,c2]⟩
   .cases h
  .cases h
 | .mp k,d,m,m',h=>by
  simp only[py]at h;split at h
  .cases h;exact⟨⟨λ _ h=>by simp[h],λ_ h=>h,λ_ h=>h⟩,[],by simp,rfl⟩
  .cases h
 | .oz _,_,_,_,h=>by simp[py]at h
 | .a ps,d,m,m',h=>by
  simp only[py]at h;split at h
  .exact xA ps _ m m' h
  .cases h
theorem xA:∀(ps:List (Pt X.ι))(ds:List (DV X))(m m':MG X),sg get ps ds m=some m'->fp m m'/\∃ao,m'.ek=m.ek++ao/\ao.length=(cI ps).length
 |[],[],m,m',h=>by
  simp only[sg,ay]at h;subst h;exact⟨fp.refl _,[],by simp,rfl⟩
 |p::ps,d::ds,m,m',h=>by
  simp only[sg]at h;have⟨m1,h1,h⟩:=ai.1 h;have⟨a1,n1,b1,c1⟩:=amL p d m m1 h1;have⟨a2,n2,b2,c2⟩:=xA ps ds m1 m' h;exact⟨a1.trans a2,n1++n2,by rw[b2,b1,aM],by simp[cI,c1,c2]⟩
 |[],_::_,m,m',h=>by simp[sg]at h
 |_::_,[],m,m',h=>by simp[sg]at h
end
def wx:AV->U LH->U LH
 | .agg _,hs=> .agd::hs
 |_,hs=>hs
theorem OA(x:AV)(a b:U LH):wx x (a++b)=wx x a++b:=by cases x<;>rfl
theorem zb{get':Nat->J aS}{x:AV}{hs:U LH}{p:AV×List LH×List Prop}(h:oM P get' x hs=some p)(hr:∀k∈refs x,k∉ae):qf P get' ae x (wx x hs)=some p:=by
 have hd:((refs x).all λk=>!ae.contains k)=true:=by
  simp only[all_eq_true,Bool.not_eq_true',List.contains_eq_mem,dD];exact hr
 cases x
 case agg cs=>
  simp only[refs]at hd;simp only[wx,qf,hd,if_true];exact h
 all_goals
  simp only[wx];unfold qf;split<;>first |(simp [oM]at h;done) |(rw [aT hd];exact h) |exact h |exact absurd hd ‹_› |(rename_i e;cases e;done)
variable {NM:List (Nat×Nat)} {pD:List Nat}
mutual
theorem akV(hi:∀q∈NM,ae[q.2]? =some q.1)(hv:∀k∈pD,k∉ae)(hrd:∀k,(∃ q,(k,q)∈NM)\/k∈pD->k∈rd)(ho:∀q∈NM,∀c l,get q.1=some (.da c l)->dg q.2=l.length):
 ∀(p:Pt X.ι)(d:DV X)(m m':MG X),py get p d m=some m'->(∀ q∈m'.nm,q∈NM)->(∀ c∈m'.ip,c=true)->(∀ k∈m'.vr,k∈pD)->
 ∃ao,m'.ek=m.ek++ao/\∃d',(∀ ag,eP dg p (ao++ag)=(d',ag))/\(∃ hs obs,(∀ p∈obs,p)/\∀ag,qf P (dJ rd (fE get)) ae (den d) (hs++ag)=some (den d',ag,obs))/\∀j∈bm d,(∃ q,(j,q)∈NM)\/j∈pD
 | .v c,d,m,m',h,hn,hc,hr=>by
  simp only[py]at h;rw[ai]at h;obtain⟨x,h1,h⟩:=h;cases h;have Bm:∀j∈bm d,j∈pD:=λj hj=>hr j (by simp[hj]);obtain⟨hs,obs,p1,q1⟩:=Bl (P:=P) (rd:=rd) h1 (λ b hb=>hc b (by simp[hb])) (λ j hj=>hrd j (.inr (Bm j hj)));refine⟨[⟨c,x.1⟩],rfl,.c c x.1,λag=>rfl,⟨wx (den d) hs,obs,p1,λag=>?_⟩,λj hj=> .inr (Bm j hj)⟩;rw[<- OA];exact zb (q1 ag) (λ k hk=>hv k (Bm k (by rwa [jc]at hk)))
 | .o k,d,m,m',h,hn,hc,hr=>by
  simp only[py]at h;split at h
  .rename_i k' len;rw[ai]at h;obtain⟨o,h1,h⟩:=h;split at h
   .rename_i c l;cases h;have hq:(k',k)∈NM:=hn _ (by simp);have he:len=l.length:=by
     have:=hc (be len l.length) (by simp);simpa[be]using this
    refine⟨[],by simp,.own k 0 (dg k),λag=>rfl,⟨[.mut k],[],by simp,λag=>?_⟩,λj hj=>?_⟩
    .simp only[den,cons_append,bI,qf,hi _ hq,if_true,ho _ hq c l h1,he]
    .simp only[bm,aY]at hj;subst hj;exact .inl ⟨k,hq⟩
   .cases h
  .cases h
 | .od k,d,m,m',h,hn,hc,hr=>by
  simp only[py]at h;split at h
  .rename_i k' aa len;rw[ai]at h;obtain⟨o,h1,h⟩:=h;split at h
   .rename_i c l;cases h;have hq:(k',k)∈NM:=hn _ (by simp);have he:aa+len=l.length:=by
     have:=hc (be (aa+len) l.length) (by simp);simpa[be]using this
    refine⟨[⟨.int .i64,(aa:Int)⟩],rfl,.own k aa (dg k -aa),λag=>?_,⟨[.mut k],[],by simp,λag=>?_⟩,λj hj=>?_⟩
    .have:G4 (X:=X) ⟨.int .i64,(aa:Int)⟩=aa:=by
      simp only[G4];rw[XQ];simp
     simp only[eP,cons_append,bI,this]
    .simp only[den,cons_append,bI,qf,hi _ hq,if_true,ho _ hq c l h1,show l.length -aa=len by omega]
    .simp only[bm,aY]at hj;subst hj;exact .inl ⟨k,hq⟩
   .cases h
  .cases h
 | .p k,d,m,m',h,hn,hc,hr=>by
  simp only[py]at h;split at h
  .rename_i k';cases h;have hq:(k',k)∈NM:=hn _ (by simp);refine⟨[],by simp,.ptr k 0 0,λag=>rfl,⟨[.mut k],[],by simp,λag=>?_⟩,λj hj=>?_⟩
   .simp only[den,cons_append,bI,qf,hi _ hq,if_true]
   .simp only[bm,aY]at hj;subst hj;exact .inl ⟨k,hq⟩
  .cases h
 | .nil,d,m,m',h,hn,hc,hr=>by
  simp only[py]at h;split at h
  .cases h;refine⟨[],by simp,.nil,λag=>rfl,⟨[.nil],[],by simp,λag=>?_⟩,by simp[bm]⟩;exact zb (by simp only[den,cons_append,bI,oM]) (by simp[den,refs])
  .cases h
 | .f F fs cs,d,m,m',h,hn,hc,hr=>by
  simp only[py]at h;split at h
  .rename_i F' first caps
   split at h
   .rename_i e;subst e;rw[ai]at h;obtain⟨m1,h1,h⟩:=h;have hm:=(xA cs _ m1 m' h).1;obtain⟨n1,a1,f',b1,⟨hs1,o1,p1,q1⟩,r1⟩:=ze hi hv hrd ho fs _ m m1 h1 (λ q hq=>hn q (hm.1 q hq)) (λ q hq=>hc q (hm.2.1 q hq)) (λ q hq=>hr q (hm.2.2 q hq));obtain⟨n2,a2,c',b2,⟨hs2,o2,p2,q2⟩,r2⟩:=ze hi hv hrd ho cs _ m1 m' h hn hc hr;refine⟨n1++n2,by rw[a2,a1,aM],.fn F f' c',λag=>by simp only[eP,aM,b1,b2],⟨.fnw::(hs1++hs2),o1++o2,gZ p1 p2,λag=>?_⟩,λj hj=>?_⟩
    .simp only[den,cons_append,aM,qf,q1,af,q2]
    .simp only[bm,bg]at hj;exact hj.elim (r1 j) (r2 j)
   .cases h
  .cases h
 | .mp k,d,m,m',h,hn,hc,hr=>by
  simp only[py]at h;split at h
  .rename_i k';cases h;have hq:(k',k)∈NM:=hn _ (by simp);refine⟨[],by simp,.mp k,λag=>rfl,⟨[.mut k],[],by simp,λag=>?_⟩,λj hj=>?_⟩
   .simp only[den,cons_append,bI,qf,hi _ hq,if_true]
   .simp only[bm,aY]at hj;subst hj;exact .inl ⟨k,hq⟩
  .cases h
 | .oz _,_,_,_,h,_,_,_=>by simp[py]at h
 | .a ps,d,m,m',h,hn,hc,hr=>by
  simp only[py]at h;split at h
  .rename_i ds;have⟨n1,a1,f',b1,⟨hs1,o1,p1,q1⟩,r1⟩:=ze hi hv hrd ho ps ds m m' h hn hc hr;refine⟨n1,a1,.agg f',λag=>by simp only[eP,b1],⟨.agw::hs1,o1,p1,λag=>?_⟩,λj hj=>r1 j (by simpa[bm]using hj)⟩;simp only[den,cons_append,qf,q1,af]
  .cases h
theorem ze(hi:∀q∈NM,ae[q.2]? =some q.1)(hv:∀k∈pD,k∉ae)(hrd:∀k,(∃ q,(k,q)∈NM)\/k∈pD->k∈rd)(ho:∀q∈NM,∀c l,get q.1=some (.da c l)->dg q.2=l.length):
 ∀(ps:List (Pt X.ι))(ds:List (DV X))(m m':MG X),sg get ps ds m=some m'->(∀ q∈m'.nm,q∈NM)->(∀ c∈m'.ip,c=true)->(∀ k∈m'.vr,k∈pD)->
 ∃ao,m'.ek=m.ek++ao/\∃ds',(∀ ag,k8 dg ps (ao++ag)=(ds',ag))/\(∃ hs obs,(∀ p∈obs,p)/\∀ag,mM P (dJ rd (fE get)) ae (bM ds) (hs++ag)=some (bM ds',ag,obs))/\∀j∈aR ds,(∃ q,(j,q)∈NM)\/j∈pD
 |[],[],m,m',h,_,_,_=>by
  simp only[sg,ay]at h;subst h;exact⟨[],by simp,[],λag=>rfl,⟨[],[],by simp,λag=>rfl⟩,by simp[aR]⟩
 |p::ps,d::ds,m,m',h,hn,hc,hr=>by
  simp only[sg]at h;have⟨m1,h1,h⟩:=ai.1 h;have hm:=(xA ps ds m1 m' h).1;obtain⟨n1,a1,d',b1,⟨hs1,o1,p1,q1⟩,r1⟩:=akV hi hv hrd ho p d m m1 h1 (λ q hq=>hn q (hm.1 q hq)) (λ q hq=>hc q (hm.2.1 q hq)) (λ q hq=>hr q (hm.2.2 q hq));have⟨n2,a2,ds',b2,⟨hs2,o2,p2,q2⟩,r2⟩:=ze hi hv hrd ho ps ds m1 m' h hn hc hr;refine⟨n1++n2,by rw[a2,a1,aM],d'::ds',λag=>by simp only[k8,aM,b1,b2],⟨hs1++hs2,o1++o2,gZ p1 p2,λag=>?_⟩,λj hj=>?_⟩
  .simp only[bM,aM,mM,q1,af,q2]
  .simp only[aR,bg]at hj;exact hj.elim (r1 j) (r2 j)
 |[],_::_,m,m',h,_,_,_=>by simp[sg]at h
 |_::_,[],m,m',h,_,_,_=>by simp[sg]at h
end
theorem zB:∀(rs:U (List (Pt X.ι)))(qs:U (List (DV X)))(m m':MG X),Gu get rs qs m=some m'->fp m m'/\∃ao,m'.ek=m.ek++ao/\ao.length=(xk rs).length
 |[],[],m,m',h=>by
  simp only[Gu,ay]at h;subst h;exact⟨fp.refl _,[],by simp,rfl⟩
 |r::rs,q::qs,m,m',h=>by
  simp only[Gu]at h;have⟨m1,h1,h⟩:=ai.1 h;have⟨a1,n1,b1,c1⟩:=xA r q m m1 h1;have⟨a2,n2,b2,c2⟩:=zB rs qs m1 m' h;exact⟨a1.trans a2,n1++n2,by rw[b2,b1,aM],by simp[xk,c1,c2]⟩
 |[],_::_,m,m',h=>by simp[Gu]at h
 |_::_,[],m,m',h=>by simp[Gu]at h
theorem Ua(hi:∀q∈NM,ae[q.2]? =some q.1)(hv:∀k∈pD,k∉ae)(hrd:∀k,(∃ q,(k,q)∈NM)\/k∈pD->k∈rd)(ho:∀q∈NM,∀c l,get q.1=some (.da c l)->dg q.2=l.length):
 ∀(rs:U (List (Pt X.ι)))(qs:U (List (DV X)))(m m':MG X),Gu get rs qs m=some m'->(∀ q∈m'.nm,q∈NM)->(∀ c∈m'.ip,c=true)->(∀ k∈m'.vr,k∈pD)->
 ∃ao,m'.ek=m.ek++ao/\∃E7,(∀ ag,xu dg rs (ao++ag)=(E7,ag))/\(∃ hs obs,(∀ p∈obs,p)/\zm P (dJ rd (fE get)) ae (qs.map bM) hs=some (E7.map bM,obs))/\∀j∈(qs.map aR).flatten,(∃ q,(j,q)∈NM)\/j∈pD
 |[],[],m,m',h,_,_,_=>by
  simp only[Gu,ay]at h;subst h;exact⟨[],by simp,[],λag=>rfl,⟨[],[],by simp,rfl⟩,by simp⟩
 |r::rs,q::qs,m,m',h,hn,hc,hr=>by
  simp only[Gu]at h;have⟨m1,h1,h⟩:=ai.1 h;have hm:=(zB rs qs m1 m' h).1;obtain⟨n1,a1,d',b1,⟨hs1,o1,p1,q1⟩,r1⟩:=ze (P:=P) hi hv hrd ho r q m m1 h1 (λ q hq=>hn q (hm.1 q hq)) (λ q hq=>hc q (hm.2.1 q hq)) (λ q hq=>hr q (hm.2.2 q hq));have⟨n2,a2,ds',b2,⟨hs2,o2,p2,q2⟩,r2⟩:=Ua hi hv hrd ho rs qs m1 m' h hn hc hr;refine⟨n1++n2,by rw[a2,a1,aM],d'::ds',λag=>by simp only[xu,aM,b1,b2],⟨hs1::hs2,o1++o2,gZ p1 p2,?_⟩,λj hj=>?_⟩
  .have:=q1 [];rw[append_nil]at this;simp only[aF,zm,this,af,q2]
  .simp only[aF,flatten_cons,bg]at hj;exact hj.elim (r1 j) (r2 j)
 |[],_::_,m,m',h,_,_,_=>by simp[Gu]at h
 |_::_,[],m,m',h,_,_,_=>by simp[Gu]at h
theorem mQ:∀(os:U (Nat×OP X.ι))(m m':MG X),DT get os m=some m'->fp m m'/\∃ao,m'.ek=m.ek++ao/\ao.length=(cC os).length
 |[],m,m',h=>by
  simp only[DT,ay]at h;subst h;exact⟨fp.refl _,[],by simp,rfl⟩
 |(k,op)::r,m,m',h=>by
  simp only[DT]at h;rw[ai]at h;obtain⟨o,h1,h⟩:=h;split at h
  .rename_i c c' l;rw[ai]at h;obtain⟨l',h2,h⟩:=h;obtain⟨a2,n2,b2,c2⟩:=mQ r _ m' h;refine⟨fp.trans (b:=⟨m.nm++[(qq m k,k)],m.ek++[⟨.sl c,l'⟩],m.ip,m.vr⟩) ⟨λ _ h=>by simp[h],λ_ h=>h,λ_ h=>h⟩ a2,[⟨.sl c,l'⟩]++n2,?_,by simp[cC,c2]⟩;rw[b2,aM]
  .rename_i kc vc tS tI l;split at h
   .rw[ai]at h;obtain⟨l',h2,h⟩:=h;obtain⟨a2,n2,b2,c2⟩:=mQ r _ m' h;refine⟨fp.trans (b:=⟨m.nm++[(qq m k,k)],m.ek++[⟨.mp kc vc,l'⟩],m.ip,m.vr⟩) ⟨λ _ h=>by simp[h],λ_ h=>h,λ_ h=>h⟩ a2,[⟨.mp kc vc,l'⟩]++n2,?_,by simp[cC,c2]⟩;rw[b2,aM]
   .cases h
  .rename_i sz rows sz' rows';split at h
   .rw[ai]at h;obtain⟨m1,h2,h⟩:=h;obtain⟨a1,n1,b1,c1⟩:=zB rows _ _ m1 h2;have⟨a2,n2,b2,c2⟩:=mQ r m1 m' h;refine⟨fp.trans (fp.trans (b:=⟨m.nm++[(qq m k,k)],m.ek,m.ip,m.vr⟩) ⟨λ _ h=>by simp[h],λ_ h=>h,λ_ h=>h⟩ a1) a2,n1++n2,?_,by simp[cC,c1,c2]⟩;rw[b2,b1,aM]
   .cases h
  .cases h
theorem Fb:∀(os:U (Nat×OP X.ι))(m m':MG X),DT get os m=some m'->(∀ q∈m'.nm,q∈NM)->∃ao,m'.ek=m.ek++ao/\∀ag,∀k∈os.map (·.1),∃k' o,(k',k)∈NM/\get k'=some o/\∀c l,o= .da c l->(k,List.length l)∈lens os (ao++ag)
 |[],m,m',h,_=>by
  simp only[DT,ay]at h;subst h;exact⟨[],by simp,λag k hk=>by simp at hk⟩
 |(k,op)::r,m,m',h,hn=>by
  simp only[DT]at h;rw[ai]at h;obtain⟨o,h1,h⟩:=h;split at h
  .rename_i c c' l;rw[ai]at h;obtain⟨l',h2,h⟩:=h;have hm:=(mQ r _ m' h).1;obtain⟨n2,b2,c2⟩:=Fb r _ m' h hn;refine⟨[⟨.sl c,l'⟩]++n2,by rw[b2,aM],λag j hj=>?_⟩;simp only[aF,aO]at hj;simp only[cons_append,bI,lens];by_cases hjk:j=k
   .subst hjk;refine⟨_,_,hn _ (hm.1 _ (by simp)),h1,λc2 l2 he=>?_⟩;injection he with e1 e2;subst e1;have e2:=eq_of_heq e2;subst e2;have:=congrArg List.length (jw h2).2;simp only[length_map]at this;rw[this];exact List.mem_cons_self
   .rcases hj with rfl |hj
    .exact(hjk rfl).elim
    .have⟨k',o',g1,g2,g3⟩:=c2 ag j hj;exact⟨k',o',g1,g2,λc l he=>fF _ (g3 c l he)⟩
  .rename_i kc vc tS tI l;split at h
   .rw[ai]at h;obtain⟨l',h2,h⟩:=h;have hm:=(mQ r _ m' h).1;obtain⟨n2,b2,c2⟩:=Fb r _ m' h hn;refine⟨[⟨.mp kc vc,l'⟩]++n2,by rw[b2,aM],λag j hj=>?_⟩;simp only[aF,aO]at hj;simp only[cons_append,bI,lens,List.drop_succ_cons,List.drop_zero];by_cases hjk:j=k
    .subst hjk;exact⟨_,_,hn _ (hm.1 _ (by simp)),h1,λc2 l2 he=>by cases he⟩
    .rcases hj with rfl |hj
     .exact(hjk rfl).elim
     .exact c2 ag j hj
   .cases h
  .rename_i sz rows sz' rows';split at h
   .have⟨m1,h2,h⟩:=ai.1 h;obtain⟨a1,n1,b1,c1⟩:=zB rows _ _ m1 h2;have hm:=(mQ r _ m' h).1;obtain⟨n2,b2,c2⟩:=Fb r _ m' h hn;refine⟨n1++n2,by rw[b2,b1,aM],λag j hj=>?_⟩;simp only[aF,aO]at hj;have hd:(n1++n2++ag).drop (xk rows).length=n2++ag:=(by rw[<- c1,aM,List.drop_left]);simp only[lens,hd];by_cases hjk:j=k
    .subst hjk;exact⟨_,_,hn _ (hm.1 _ (a1.1 _ (by simp))),h1,λc2 l2 he=>by cases he⟩
    .rcases hj with rfl |hj
     .exact(hjk rfl).elim
     .exact c2 ag j hj
   .cases h
  .cases h
theorem Fe:∀(os:U (Nat×OP X.ι))(L:U (DC X)),((lens os L).map (·.1)).Sublist (os.map (·.1))
 |[],_=>by simp[lens]
 |(k,.l c)::r,L=>by
  simp only[lens];split
  .exact(Fe r _).cons_cons _
  .exact List.nil_sublist _
 |(k,.m kc vc)::r,L=>by
  simp only[lens];exact(Fe r _).cons _
 |(k,.c sz rows)::r,L=>by
  simp only[lens];exact(Fe r _).cons _
def akW(get':Nat->J aS)(NM:U (Nat×Nat))(pD:U Nat)(bs:U OB)(ks:U Nat):Prop:=
 ∀(j:Nat) hs q o,bs[j]? =some (.DD hs)->ks[j]? =some q->get' q=some o->∀k∈QV o,(∃ z,(k,z)∈NM)\/k∈pD
theorem OC{sz:Nat}{rows:U (List (DV X))}{k:Nat}(h:k∈QV (bG (.cells sz rows))):k∈(rows.map aR).flatten:=by
 simp only[QV,bG,mem_flatMap,mem_map]at h;obtain⟨a,⟨r,hr,rfl⟩,hk⟩:=h;rw[iD]at hk;exact List.mem_flatten.2 ⟨_,mem_map.2 ⟨r,hr,rfl⟩,hk⟩
theorem adH:∀ts:U Tree,eX (ts.map AV.t)=[]
 |[]=>rfl
 |t::ts=>by simp only[aF,eX,refs,adH ts,append_nil]
theorem ajT{P:Program}{get:Nat->J aS}:∀(ts:U Tree)(hs:U LH),mZ P get (ts.map AV.t) hs=some (ts.map AV.t,hs,[])
 |[],hs=>rfl
 |t::ts,hs=>by simp only[aF,mZ,oM,af,ajT ts hs,append_nil]
theorem akX{P:Program}{get:Nat->J aS}{ae:U Nat}(v:TV):qf P get ae v.av []=some (v.av,[],[]):=by
 cases v with
 |s x=>rfl
 |a cs=>
  have h:refs (.agg (cs.map AV.t))=[]:=adH cs;simp only[TV.av,qf,h,List.all_nil,if_true,oM,ajT,af]
theorem aci{P:Program}{get:Nat->J aS}{ae:U Nat}:∀rows:U (TV×TV),zm P get ae (rows.map λq=>[q.1.av,q.2.av]) (rows.map λ_=>[])=some (rows.map λq=>[q.1.av,q.2.av],[])
 |[]=>rfl
 |q::rows=>by simp only[aF,zm,mM,akX,af,aci rows,append_nil]
theorem Bp(hi:∀q∈NM,ae[q.2]? =some q.1)(hv:∀k∈pD,k∉ae)(hrd:∀k,(∃ q,(k,q)∈NM)\/k∈pD->k∈rd)(ho:∀q∈NM,∀c l,get q.1=some (.da c l)->dg q.2=l.length):
 ∀(os:U (Nat×OP X.ι))(m m':MG X),DT get os m=some m'->(∀ q∈m'.nm,q∈NM)->(∀ c∈m'.ip,c=true)->(∀ k∈m'.vr,k∈pD)->
 ∃ao,m'.ek=m.ek++ao/\∃xs:U (Nat×bp X),(∀ ag,cB dg os (ao++ag)=xs.map λp=>(p.1,some p.2))/\
  ∃bs mo,(∀ p∈mo,p)/\Gr P (dJ rd (fE get)) ae (os.map λp=>(ae[p.1]?).getD 0) bs=some (xs.map λp=>bG p.2,mo)/\akW (dJ rd (fE get)) NM pD bs (os.map λp=>(ae[p.1]?).getD 0)
 |[],m,m',h,_,_,_=>by
  simp only[DT,ay]at h;subst h;exact⟨[],by simp,[],λag=>rfl,[],[],by simp,rfl,λj hs q o h=>by simp at h⟩
 |(k,op)::r,m,m',h,hn,hc,hr=>by
  simp only[DT]at h;rw[ai]at h;obtain⟨o,h1,h⟩:=h;split at h
  .rename_i c c' l;have⟨l',h2,h⟩:=ai.1 h;have hm:=(mQ r _ m' h).1;have hq:(qq m k,k)∈NM:=hn _ (hm.1 _ (by simp));have hid:(ae[k]?).getD 0=qq m k:=(by rw[hi _ hq];rfl);have hget:=dS (hrd (qq m k) (.inl ⟨k,hq⟩)) h1;have⟨h3,h4⟩:=jw h2;obtain⟨n2,a2,xs,b2,bs,mo,p2,q2,r2⟩:=Bp hi hv hrd ho r _ m' h hn hc hr;refine⟨[⟨.sl c,l'⟩]++n2,by rw[a2,aM],(k,.da c l')::xs,λag=>by simp only[cons_append,bI,cB,b2,aF],.dat (CT.sz X c,l'.map (CT.row X.toSE c))::bs,((bG (.da c' l)).sz=CT.sz X c/\eu ((bG (.da c' l)).rows.take (l'.map (CT.row X.toSE c)).length)=aL (l'.map (CT.row X.toSE c)))::mo,?_,?_,?_⟩
   .intro p hp;rcases aO.1 hp with rfl |hp
    .refine⟨h3,?_⟩;simp only[bG,h4];rw[take_of_length_le (by simp[aL])];simp[eu,aL,Function.comp_def,wk]
    .exact p2 p hp
   .simp only[aF,Gr,Xn,hid,hget,af,q2,cons_append,bI];rfl
   .intro j hs q o' hj hq' ho';cases j with
    |zero=>simp at hj
    |succ j=>exact r2 j hs q o' (by simpa using hj) (by simpa using hq') ho'
  .rename_i kc vc tS tI l;split at h
   .rename_i hone;have⟨l',h2,h⟩:=ai.1 h;have hm:=(mQ r _ m' h).1;have hq:(qq m k,k)∈NM:=hn _ (hm.1 _ (by simp));have hid:(ae[k]?).getD 0=qq m k:=(by rw[hi _ hq];rfl);have hget:=dS (hrd (qq m k) (.inl ⟨k,hq⟩)) h1;have hden:bG (.map tS tI l)=bG (.map kc vc l'):=by
     have⟨e,h2⟩:=mO h2;injection e with e1 e2;subst e1;subst e2;subst h2;rfl
    obtain⟨n2,a2,xs,b2,bs,mo,p2,q2,r2⟩:=Bp hi hv hrd ho r _ m' h hn hc hr;rcases hone with hone |_
    .have hab:bG (.map kc vc l')=gj (List.length l',l'.map λq=>CT.row X.toSE kc q.1++CT.row X.toSE vc q.2):=by
      simp only[bG,gj,aL,map_map];congr 1;refine map_congr_left λq _=>?_;obtain⟨t1,g1,g2⟩:=row_one hone.1 q.1;obtain⟨t2,g3,g4⟩:=row_one hone.2 q.2;simp[g1,g2,g3,g4,TV.av]
     refine⟨[⟨.mp kc vc,l'⟩]++n2,by rw[a2,aM],(k,.map kc vc l')::xs,λag=>by simp only[cons_append,bI,cB,b2,aF],.dat (List.length l',l'.map λq=>CT.row X.toSE kc q.1++CT.row X.toSE vc q.2)::bs,((bG (.map tS tI l)).sz=List.length l'/\eu ((bG (.map tS tI l)).rows.take (l'.map λq=>CT.row X.toSE kc q.1++CT.row X.toSE vc q.2).length)=aL (l'.map λq=>CT.row X.toSE kc q.1++CT.row X.toSE vc q.2))::mo,?_,?_,?_⟩
     .intro p hp;rcases aO.1 hp with rfl |hp
      .rw[hden,hab];refine⟨rfl,?_⟩;simp only[gj];rw[take_of_length_le (by simp[aL])];simp[eu,aL,Function.comp_def,wk]
      .exact p2 p hp
     .simp only[aF,Gr,Xn,hid,hget,af,q2,cons_append,bI,hab]
     .intro j hs q o' hj hq' ho';cases j with
      |zero=>simp at hj
      |succ j=>exact r2 j hs q o' (by simpa using hj) (by simpa using hq') ho'
    .refine⟨[⟨.mp kc vc,l'⟩]++n2,by rw[a2,aM],(k,.map kc vc l')::xs,λag=>by simp only[cons_append,bI,cB,b2,aF],.DD ((l'.map λq=>(CT.tv X.toSE kc q.1,CT.tv X.toSE vc q.2)).map λ_=>[])::bs,mo,p2,?_,?_⟩
     .have hlr:=aci (P:=P) (get:=dJ rd (fE get)) (ae:=ae) (l'.map λq=>(CT.tv X.toSE kc q.1,CT.tv X.toSE vc q.2));have hdr:(bG (.map kc vc l')).rows=(l'.map λq=>(CT.tv X.toSE kc q.1,CT.tv X.toSE vc q.2)).map λq=>[q.1.av,q.2.av]:=(by simp only[bG,map_map];rfl);simp only[aF,Gr,Xn,hid,hget,af,q2,hden,hdr,hlr,bI];rw[<- hdr]
     .intro j hs q o' hj hq' ho';cases j with
      |zero=>
       simp only[aF,List.getElem?_cons_zero,ay]at hq';subst hq';rw[hid,hget]at ho';injection ho' with ho';subst ho';intro k hk;rw[hden]at hk;simp only[QV,bG,mem_flatMap,mem_map]at hk;obtain⟨_,⟨q,_,rfl⟩,hk⟩:=hk;simp only[eX,Bj,append_nil,fM]at hk
      |succ j=>exact r2 j hs q o' (by simpa using hj) (by simpa using hq') ho'
   .cases h
  .rename_i sz rows sz' rows';split at h
   .rename_i hsz;have⟨m1,h2,h⟩:=ai.1 h;have hm1:=(zB rows _ _ m1 h2).1;have hm:=(mQ r _ m' h).1;have hq:(qq m k,k)∈NM:=hn _ (hm.1 _ (hm1.1 _ (by simp)));have hid:(ae[k]?).getD 0=qq m k:=(by rw[hi _ hq];rfl);have hget:=dS (hrd (qq m k) (.inl ⟨k,hq⟩)) h1;obtain⟨n1,a1,qs,b1,⟨hs1,o1,p1,q1⟩,r1⟩:=Ua (P:=P) hi hv hrd ho rows _ _ m1 h2 (λ q hq=>hn q (hm.1 q hq)) (λ q hq=>hc q (hm.2.1 q hq)) (λ q hq=>hr q (hm.2.2 q hq));obtain⟨n2,a2,xs,b2,bs,mo,p2,q2,r2⟩:=Bp hi hv hrd ho r _ m' h hn hc hr;subst hsz;refine⟨n1++n2,by rw[a2,a1,aM],(k,.cells sz qs)::xs,λag=>by simp only[aM,cB,b1,b2,aF],.DD hs1::bs,o1++mo,gZ p1 p2,?_,?_⟩
    .simp only[aF,Gr,Xn,hid,hget,af,bG,q1,q2]
    .intro j hs q o' hj hq' ho';cases j with
     |zero=>
      simp only[aF,List.getElem?_cons_zero,ay]at hq';rw[<- hq',hid,hget]at ho';injection ho' with ho';subst ho';exact λz hz=>r1 z (OC hz)
     |succ j=>exact r2 j hs q o' (by simpa using hj) (by simpa using hq') ho'
   .cases h
  .cases h
end
end
end Go.Gb
