import Derived.Test.YtnkhciolifefdaaGreatW1
import Derived.Maps.RangeRun
import Derived.ChangeSame
import Derived.Carry
import Derived.OpenShut
import Derived.SizedLaws
import Derived.WalkKit
import Derived.ProofKit
import Derived.Lib.LaidTab
open List (mem_map all_eq_true cons_append length_map append_nil map_map take_of_length_le map_congr_left map_nil all_cons map_take map_drop mem_flatMap)
namespace Go.Gb
open Go.RowKit
structure St where
 env:Nat->AV
 obj:Nat->Option aU
 ok:Nat->Option Bool
structure m8 where
 cL:j7
 rd:List Nat
 wr:List Nat
 sym:Bool
def jE(P:Program)(T:er)(i:Nat)(o:Oper)(cL:j7)(ρ:Operand->AV)(get:Nat->J aU):J Out:=
 match cL with
 | .ext n=>sW T i o n ρ get
 | .xv ae fr vi=>Hz P T i o ae fr vi ρ get
 |cL=>match o.op with
  | .call { callee:= .value f,args:=args,argTypes:=_ }=>kg P i (ρ f) (args.toList.map ρ) cL get
  |_=>ql T i o cL ρ get
def Bc{α:Type}(env:Nat->α)(dst:J Tmp)(v:α):Nat->α:=λt=>if dst=some t then v else env t
def St.app(σ:St)(dst:J Tmp)(p:Out×Option Bool):St:=⟨Bc σ.env dst p.1.v,dn σ.obj p.1.upd,Bc σ.ok dst p.2⟩
def want(al:Array Oper)(o:Oper)(env:Nat->AV)(ok:Nat->J Bool):J Bool:=
 match o.guard with
 |none=>some true
 |some (j,b)=>match (al[j]?).bind (·.dst)with
  |some t=>match env t,ok t with
   | .t (.sc (.bool v)),none=>some (v==b)
   | .t (.sc (.bool v)),some g=>some (g&&(v==b))
   | .undef,some false=>some false
   |_,_=>none
  |none=>none
def xE(ok:Nat->J Bool):Operand->U Prop
 | .tmp t=>match ok t with
  |none=>[]
  |some b=>[b=true]
 |_=>[]
def needs(env:Nat->AV)(ok:Nat->J Bool)(o:Op):U Prop:=
 match o with
 | .pick c a b=>match lR env c with
  | .t (.sc (.bool e))=>xE ok c++((xE ok a).map (λ p=>e=true->p)++(xE ok b).map (λ p=>e=false->p))
  |_=>[False]
 |o=>o.operands.toList.flatMap (xE ok)
def dO(rd:U Nat)(obj:Nat->J aU):Nat->J aU:=λk=>if k∈rd then obj k else none
section
variable (P:Program) (T:er) (al:Array Oper) (dt:Nat->m8)
def opAt(i:Nat)(σ:St):J (Out×Option Bool):=
 (al[i]?).bind λo=>(want al o σ.env σ.ok).bind λg=>match (dt i).sym with
  |true=>(jE P T i o (dt i).cL (lR σ.env) (dO (dt i).rd σ.obj)).bind λab=>
   if ab.upd.isEmpty then some (⟨ab.v,[],(needs σ.env σ.ok o.op++ab.obs).map λp=>g=true->p⟩,some g)else none
  |false=>match g with
   |true=>(jE P T i o (dt i).cL (lR σ.env) (dO (dt i).rd σ.obj)).bind λab=>
    if ab.upd.all (λ p=>H6 i p.1 || (dt i).wr.contains p.1)then some (⟨ab.v,ab.upd,needs σ.env σ.ok o.op++ab.obs⟩,none)else none
   |false=>some (⟨.undef,[],[]⟩,some false)
def xF(i:Nat)(K:St->Prop)(σ:St):Prop:=∃o ab,al[i]? =some o/\opAt P T al dt i σ=some ab/\ab.1.ob/\K (σ.app o.dst ab)
def SC(Q:St->Prop):U Nat->St->Prop
 |[],σ=>Q σ
 |i::r,σ=>xF P T al dt i (SC Q r) σ
def EE(md:Region.Mode)(Q:St->Prop):Nat->Array Bool->St->Prop
 | 0,listed,σ=>Region.ready md al listed=[]/\Q σ
 |fuel+1,listed,σ=>(Region.ready md al listed=[]->Q σ)/\∀i∈Region.ready md al listed,xF P T al dt i (EE md Q fuel (listed.setIfInBounds i true)) σ
end
def xJ(dt:Nat->m8)(i j:Nat):Bool:=
 (dt j).rd.all (λ k=>!H6 i k&&!(dt i).wr.contains k)&&(!Nat.beq i j&&(dt j).wr.all (λ k=>!H6 i k&&!(dt i).wr.contains k)&&(dt i).wr.all (λ k=>!H6 j k))&&(dt i).rd.all (λ k=>!H6 j k&&!(dt j).wr.contains k)
def PG(md:Region.Mode)(al:Array Oper)(i:Nat):U Nat:=
 (List.range al.size).foldl (λ D j=>match al[j]? with
  |some oj=>bif oj.after.any (λ e=>Region.binds md e&&(e.on==i || D.contains e.on))then j::D else D
  |none=>D) []
def Ok(md:Region.Mode)(al:Array Oper)(listed:Array Bool)(i j:Nat):Bool:=
 (PG md al i).contains j&&(PG md al i).all λd=>!listed.getD d true
def PI(md:Region.Mode)(al:Array Oper)(dt:Nat->m8)(listed:Array Bool)(i:Nat):Bool:=
 match al[i]? with
 |some oi=>(List.range al.size).all λj=>j==i || listed.getD j true || match al[j]? with
  |some oj=>oj.after.any (λ e=>Region.binds md e&&e.on==i) || (oi.apart al oj&&xJ dt i j) || Ok md al listed i j
  |none=>true
 |none=>false
def lexFrom'(md:Region.Mode)(al:Array Oper)(dt:Nat->m8):Nat->Nat->Array Bool->Bool
 | 0,_,listed=>(Region.ready md al listed).isEmpty
 |fuel+1,k,listed=>(Region.ready md al listed).contains k&&PI md al dt listed k&&lexFrom' md al dt fuel (k+1) (listed.setIfInBounds k true)
def Of(al:Array Oper)(dt:Nat->m8):Bool:=lexFrom' .any al dt al.size 0 (Array.replicate al.size false)
section
variable {P:Program} {T:er} {al:Array Oper} {dt:Nat->m8} {md:Region.Mode} {Q:St->Prop}
theorem ala{i:Nat}{K K':St->Prop}{σ:St}(h:∀ σ,K σ->K' σ)(hh:xF P T al dt i K σ):xF P T al dt i K' σ:=
 let ⟨o,ab,h1,h2,h3,h4⟩:=hh
 ⟨o,ab,h1,h2,h3,h _ h4⟩
theorem M6{i:Nat}{o:Oper}{cL:j7}{ρ ρ':Operand->AV}{get:Nat->J aU}(h:∀x∈o.op.operands,ρ x=ρ' x):jE P T i o cL ρ get=jE P T i o cL ρ' get:=by
 have hop:=Rq (T:=T) (i:=i) (cL:=cL) (get:=get) h;unfold jE;split
 .exact YD h
 .exact aa5 h
 .obtain⟨dst,op,ty,ao,after,guard⟩:=o;simp only at h ⊢;split
  .rename_i f args c7;simp only[Op.operands,Call.operands]at h;have h1:args.toList.map ρ=args.toList.map ρ':=map_congr_left λx hx=>h x (by simp;exact .inr (by simpa using hx));rw[h1,h f (by simp)]
  .exact hop
theorem ZM{i:Nat}{σ:St}{ab:Out×Option Bool}(h:opAt P T al dt i σ=some ab):∀p∈ab.1.upd,H6 i p.1=true\/p.1∈(dt i).wr:=by
 unfold opAt at h;cases ho:al[i]? with
 |none=>simp[ho]at h
 |some o=>
  simp only[ho,af]at h;cases hw:want al o σ.env σ.ok with
  |none=>simp[hw]at h
  |some g=>
   simp only[hw,af]at h;split at h
   .cases ha:jE P T i o (dt i).cL (lR σ.env) (dO (dt i).rd σ.obj)with
    |none=>simp[ha]at h
    |some out'=>
     simp only[ha,af]at h;split at h
     .cases h;simp
     .cases h
   .split at h
    .cases ha:jE P T i o (dt i).cL (lR σ.env) (dO (dt i).rd σ.obj)with
     |none=>simp[ha]at h
     |some out'=>
      simp only[ha,af]at h;split at h
      .rename_i hall;cases h;intro p hp;have:=all_eq_true.1 hall p hp;simpa using this
      .cases h
    .cases h;simp
theorem uV{obj:Nat->J aU}:∀(upd:U (Nat×Option aU))(k:Nat),(∀ p∈upd,p.1≠k)->dn obj upd k=obj k
 |[],_,_=>rfl
 |(j,o)::r,k,h=>by
  simp only[dn];rw[aT (λ e=>h (j,o) (by simp) e.symm),uV r k (λ p hp=>h p (by simp[hp]))]
theorem Ec{obj ov:Nat->J aU}:∀(upd:U (Nat×Option aU))(k:Nat),obj k=ov k->dn obj upd k=dn ov upd k
 |[],_,h=>h
 |(j,o)::r,k,h=>by simp only[dn,Ec r k h]
theorem adk{env env':Nat->AV}{ok ok':Nat->J Bool}{o:Op}(h:∀t,.tmp t∈o.operands->env t=env' t/\ok t=ok' t):needs env ok o=needs env' ok' o:=by
 have h1:∀x∈o.operands,xE ok x=xE ok' x:=λx hx=>by
  cases x with
  |tmp t=>simp only[xE,(h t hx).2]
  |_=>rfl
 unfold needs;split
 .rename_i c a b;have hc:lR env c=lR env' c:=by
   cases c with
   |tmp t=>exact(h t (by simp[Op.operands])).1
   |_=>rfl
  rw[hc,h1 c (by simp[Op.operands]),h1 a (by simp[Op.operands]),h1 b (by simp[Op.operands])]
 .have:∀l:U Operand,(∀ x∈l,xE ok x=xE ok' x)->l.flatMap (xE ok)=l.flatMap (xE ok'):=by
   intro l
   induction l with
   |nil=>intro _;rfl
   |cons x xs ih=>intro hx;simp only[List.flatMap_cons,hx x (by simp),ih (λ y hy=>hx y (by simp[hy]))]
  exact this _ λx hx=>h1 x (by simpa using hx)
theorem adl{j:Nat}{oi oj:Oper}{ab:Out×Option Bool}{σ:St}(hj:al[j]? =some oj)(hd:∀d,oi.dst=some d->d∉oj.looksAt al)(hk:∀p∈ab.1.upd,p.1∉(dt j).rd):
 opAt P T al dt j (σ.app oi.dst ab)=opAt P T al dt j σ:=by
 unfold opAt;simp only[hj,af];have rb:∀t,t∈oj.looksAt al->(σ.app oi.dst ab).env t=σ.env t:=λt ht=>by
  simp only[St.app,Bc];rw[aT (λ e=>hd t e ht)]
 have HN:∀t,t∈oj.looksAt al->(σ.app oi.dst ab).ok t=σ.ok t:=λt ht=>by
  simp only[St.app,Bc];rw[aT (λ e=>hd t e ht)]
 have hw:want al oj (σ.app oi.dst ab).env (σ.app oi.dst ab).ok=want al oj σ.env σ.ok:=by
  unfold want;cases hg:oj.guard with
  |none=>rfl
  |some gw=>
   obtain⟨g,b⟩:=gw;cases ht:(al[g]?).bind (·.dst)with
   |none=>simp only[ht]
   |some t=>simp only[ht,rb t (by simp[Oper.looksAt,hg,ht]),HN t (by simp[Oper.looksAt,hg,ht])]
 have hget:dO (dt j).rd (σ.app oi.dst ab).obj=dO (dt j).rd σ.obj:=by
  funext k;simp only[dO];split
  .rename_i hkr;exact uV _ _ (λ p hp e=>hk p hp (e ▸ hkr))
  .rfl
 have hin:∀t,.tmp t∈oj.op.operands->t∈oj.looksAt al:=λt ht=>by simp only[Oper.looksAt];exact List.mem_append_left _ (List.mem_filterMap.2 ⟨.tmp t,by simpa using ht,rfl⟩)
 have hρ:jE P T j oj (dt j).cL (lR (σ.app oi.dst ab).env) (dO (dt j).rd σ.obj)=jE P T j oj (dt j).cL (lR σ.env) (dO (dt j).rd σ.obj):=by
  refine M6 λx hx=>?_;cases x with
  |tmp t=>exact rb t (hin t hx)
  |_=>rfl
 have hnd:needs (σ.app oi.dst ab).env (σ.app oi.dst ab).ok oj.op=needs σ.env σ.ok oj.op:=adk λt ht=>⟨rb t (hin t ht),HN t (hin t ht)⟩;rw[hw,hget,hρ,hnd]
theorem alb{σ:St}{di dj:J Tmp}{a b:Out×Option Bool}(hd:∀d,di=some d->dj≠some d)(hk:∀p∈a.1.upd,∀q∈b.1.upd,p.1≠q.1):(σ.app di a).app dj b=(σ.app dj b).app di a:=by
 have slot:∀{α:Type} (e:Nat->α) (x y:α),Bc (Bc e di x) dj y=Bc (Bc e dj y) di x:=λe x y=>by
  funext t;simp only[Bc];by_cases h1:dj=some t
  .rw[aZ h1,aT (λ e=>hd t e h1),aZ h1]
  .rw[aT h1,aT h1]
 simp only[St.app,St.mk.injEq];refine⟨slot _ _ _,?_,slot _ _ _⟩;funext k;by_cases h1:∃p∈a.1.upd,p.1=k
 .obtain⟨p,hp,e⟩:=h1;rw[uV b.1.upd k (λ q hq e2=>hk p hp q hq (e.trans e2.symm))];exact Ec _ _ (uV b.1.upd k (λ q hq e2=>hk p hp q hq (e.trans e2.symm))).symm
 .have h2:∀p∈a.1.upd,p.1≠k:=λp hp e=>h1 ⟨p,hp,e⟩;rw[uV a.1.upd k h2];exact Ec _ _ (uV a.1.upd k h2)
theorem anA{i j:Nat}{oi oj:Oper}{ab:Out×Option Bool}{σ:St}{K:St->Prop}(hi:al[i]? =some oi)(hj:al[j]? =some oj)(hap:oi.apart al oj=true)(hfp:xJ dt i j=true)
 (hy:opAt P T al dt i σ=some ab) (h:xF P T al dt j K (σ.app oi.dst ab)):
 xF P T al dt j (λ σ'=>opAt P T al dt i σ'=some ab/\K (σ'.app oi.dst ab)) σ:=by
 obtain⟨a1,a2,a3⟩:=Oper.apart_spec hap;simp only[xJ,aN]at hfp;obtain⟨⟨f1,⟨f0,f2⟩,f2'⟩,f3⟩:=hfp;have hij:i≠j:=by intro e;subst e;rw[show Nat.beq i i=true from Nat.beq_refl i]at f0;cases f0
 have ki:=ZM hy;have no:∀(a:Nat)(l wr:U Nat)(k:Nat),(l.all λk=>!H6 a k&&!wr.contains k)=true->(H6 a k=true\/k∈wr)->k∈l->False:=by
  intro a l wr k h hk hl;have:=all_eq_true.1 h k hl;simp only[aN,Bool.not_eq_true']at this;rcases hk with hk |hk
  .rw[hk]at this;exact absurd this.1 (by simp)
  .have h2:=this.2;simp[hk]at h2
 obtain⟨o,Re,g1,g2,g3,g4⟩:=h;rw[hj]at g1;cases g1;rw[adl hj a1 (λ p hp hr=>no _ _ _ _ f1 (ki p hp) hr)]at g2;have kj:=ZM g2;have both:∀k,(H6 i k=true\/k∈(dt i).wr)->(H6 j k=true\/k∈(dt j).wr)->False:=by
  intro k h1 h2;rcases h2 with h2 |h2
  .rcases h1 with h1 |h1
   .simp only[H6,aN,beq_iff_eq]at h1 h2;exact hij (h1.2.symm.trans h2.2)
   .have:=all_eq_true.1 f2' k h1;rw[h2]at this;exact absurd this (by simp)
  .exact no _ _ _ _ f2 h1 h2
 refine⟨oj,Re,hj,g2,g3,?_,?_⟩
 .rw[adl hi a3 (λ p hp hr=>no _ _ _ _ f3 (kj p hp) hr)];exact hy
 .rw[<- alb a2 (λ p hp q hq e=>both p.1 (ki p hp) (e ▸ kj q hq))];exact g4
theorem adm{i:Nat}:∀d∈PG md al i,∃od,al[d]? =some od/\∃e∈od.after,Region.binds md e=true/\(e.on=i\/e.on∈PG md al i):=by
 have main:∀(l:U Nat)(D0:U Nat),(∀ d∈D0,∃od,al[d]? =some od/\∃e∈od.after,Region.binds md e=true/\(e.on=i\/e.on∈D0))->
  ∀d∈l.foldl (λ D j=>match al[j]? with
   |some oj=>bif oj.after.any (λ e=>Region.binds md e&&(e.on==i || D.contains e.on))then j::D else D
   |none=>D) D0,∃od,al[d]? =some od/\∃e∈od.after,Region.binds md e=true/\(e.on=i\/e.on∈l.foldl (λ D j=>match al[j]? with
   |some oj=>bif oj.after.any (λ e=>Region.binds md e&&(e.on==i || D.contains e.on))then j::D else D
   |none=>D) D0):=by
  intro l
  induction l with
  |nil=>intro D0 h;exact h
  |cons j l ih=>
   intro D0 h;simp only[List.foldl_cons];refine ih _ ?_;cases hj:al[j]? with
   |none=>exact h
   |some oj=>
    simp only;cases hb:oj.after.any (λ e=>Region.binds md e&&(e.on==i || D0.contains e.on))with
    |false=>simp only[ak];exact h
    |true=>
     simp only[aj];intro d hd;rcases aQ.1 hd with rfl |hd
     .obtain⟨e,he,hb'⟩:=Array.any_eq_true'.1 hb;simp only[aN,Bool.or_eq_true,beq_iff_eq,List.contains_iff_mem]at hb';exact⟨oj,hj,e,he,hb'.1,hb'.2.imp id λh=>eX _ h⟩
     .have⟨od,g1,e,g2,g3,g4⟩:=h d hd;exact⟨od,g1,e,g2,g3,g4.imp id λh=>eX _ h⟩
 exact main _ [] (λ d hd=>by simp at hd)
theorem Rx{i:Nat}{oi:Oper}{listed:Array Bool}(hi:al[i]? =some oi)(h:PI md al dt listed i=true)(j:Nat)(oj:Oper)(hj:al[j]? =some oj)(hne:j≠i)(hun:listed.getD j true=false)
 (hno:∀e∈oj.after,Region.binds md e=true->e.on≠i):(oi.apart al oj=true/\xJ dt i j=true)\/Ok md al listed i j=true:=by
 simp only[PI,hi,all_eq_true,List.mem_range]at h;have h1:=h j (Array.getElem?_eq_some_iff.1 hj).1;simp only[hj,Bool.or_eq_true,beq_iff_eq,hne,false_or,hun,Bool.false_eq_true,aN]at h1;rcases h1 with (h1 |h1) |h1
 .obtain⟨e,he,hb⟩:=Array.any_eq_true'.1 h1;simp only[aN,beq_iff_eq]at hb;exact absurd hb.2 (hno e he hb.1)
 .exact .inl h1
 .exact .inr h1
theorem Vq{i:Nat}{oi:Oper}{ab:Out×Option Bool}(D:U Nat)(hi:al[i]? =some oi)(hD:∀d∈D,∃od,al[d]? =some od/\∃e∈od.after,Region.binds md e=true/\(e.on=i\/e.on∈D)):
 ∀(fuel:Nat) (listed:Array Bool) (σ:St),(∀ d∈D,listed.getD d true=false)->
  (∀ j oj,al[j]? =some oj->j≠i->listed.getD j true=false->j∉D->(∀ e∈oj.after,Region.binds md e=true->e.on≠i)->oi.apart al oj=true/\xJ dt i j=true)->
  i∈Region.ready md al listed->opAt P T al dt i σ=some ab->ab.1.ob->
  EE P T al dt md Q fuel (listed.setIfInBounds i true) (σ.app oi.dst ab)->EE P T al dt md Q (fuel+1) listed σ:=by
 intro fuel
 induction fuel with
 |zero=>
  intro listed σ _ _ hr hy cW H;refine⟨λ h=>(by rw[h]at hr;cases hr),λj hj=>?_⟩;by_cases hji:j=i
  .subst hji;exact⟨oi,ab,hi,hy,cW,H⟩
  .have:=ready_mono hj hji;rw[H.1]at this;cases this
 |succ fuel ih=>
  intro listed σ hDu hfree hr hy cW H;refine⟨λ h=>(by rw[h]at hr;cases hr),λj hj=>?_⟩;by_cases hji:j=i
  .subst hji;exact⟨oi,ab,hi,hy,cW,H⟩
  .have h1:=H.2 j (ready_mono hj hji);obtain⟨hjun,oj,hoj,hall⟩:=mem_ready.1 hj;have hnl:∀k,listed.getD k true=false->∀e∈oj.after,Region.binds md e=true->e.on≠k:=λk h0 e he hb heq=>by
    have h1:=hall e he hb;rw[heq]at h1;rcases Nat.lt_or_ge k listed.size with h' |h'
    .simp[h']at h0 h1;rw[h0]at h1;cases h1
    .simp[Array.getElem?_eq_none h']at h1
   have hnot:∀e∈oj.after,Region.binds md e=true->e.on≠i:=hnl i (mem_ready.1 hr).1;have Mm:j∉D:=λhm=>by
    have⟨od,g1,e,g2,g3,g4⟩:=hD j hm;rw[hoj]at g1;cases g1;rcases g4 with g4 |g4
    .exact hnot e g2 g3 g4
    .exact hnl _ (hDu _ g4) e g2 g3 rfl
   have⟨hap,hfp⟩:=hfree j oj hoj hji hjun Mm hnot;have h2:=anA hi hoj hap hfp hy h1
   have hfree':∀k ok,al[k]? =some ok->k≠i->(listed.setIfInBounds j true).getD k true=false->k∉D->
    (∀ e∈ok.after,Region.binds md e=true->e.on≠i)->oi.apart al ok=true/\xJ dt i k=true:=λk ok hk hki hun hkD hno=>by
    refine hfree k ok hk hki ?_ hkD hno;by_cases hjk:j=k
    .subst hjk;exact hjun
    .rw[getD_set_ne true hjk]at hun;exact hun
   have T3:∀d∈D,(listed.setIfInBounds j true).getD d true=false:=λd hd=>by
    have hne:j≠d:=λe=>Mm (by rw[e];exact hd);rw[getD_set_ne true hne];exact hDu d hd
   refine ala (λ σ' h3=>ih (listed.setIfInBounds j true) σ' T3 hfree' (ready_mono hr (Ne.symm hji)) h3.1 cW ?_) h2;rw[Array.setIfInBounds_comm _ _ hji];exact h3.2
theorem adn:∀(n k:Nat) (listed:Array Bool) (σ:St),lexFrom' md al dt n k listed=true->SC P T al dt Q ((List.range n).map (k+ ·)) σ->EE P T al dt md Q n listed σ
 | 0,k,listed,σ,hB,h=>⟨by simpa[lexFrom']using hB,by simpa[SC]using h⟩
 |n+1,k,listed,σ,hB,h=>by
  simp only[lexFrom',aN]at hB;obtain⟨⟨hr,hfp⟩,hB'⟩:=hB;rw[List.range_succ_eq_map,aH,map_map]at h;simp only[SC,Nat.add_zero]at h;obtain⟨o,ab,h1,h2,h3,h4⟩:=h;have fin:EE P T al dt md Q n (listed.setIfInBounds k true) (σ.app o.dst ab)->EE P T al dt md Q (n+1) listed σ:=by
   intro H;cases hd:(PG md al k).all λd=>!listed.getD d true with
   |true=>
    refine Vq (PG md al k) h1 adm n listed σ (λ d hd'=>by simpa using all_eq_true.1 hd d hd') (λ j oj hj hne hun Mm hno=>?_) (by simpa using hr) h2 h3 H;rcases Rx h1 hfp j oj hj hne hun hno with h |h
    .exact h
    .simp only[Ok,aN,List.contains_iff_mem]at h;exact absurd h.1 Mm
   |false=>
    refine Vq [] h1 (λ d hd'=>by simp at hd') n listed σ (λ d hd'=>by simp at hd') (λ j oj hj hne hun _ hno=>?_) (by simpa using hr) h2 h3 H;rcases Rx h1 hfp j oj hj hne hun hno with h |h
    .exact h
    .simp only[Ok,aN]at h;rw[h.2]at hd;cases hd
  refine fin ?_;refine adn n (k+1) _ _ hB' ?_;have e:(λ x=>k+x)∘Nat.succ=λx=>k+1+x:=by funext x;simp only[Function.comp];omega
  rw[e]at h4;exact h4
end
def fg(P:Program)(β:Nat->J cV)(w:World)(I:Nat->Prop)(x:AV)(ok:J Bool)(v:Value):Prop:=
 match ok with
 |none=>VR P β w I x v
 |some b=>(b=true->VR P β w I x v)/\(b=false->v=undef)
theorem fg.mono{P:Program}{β β':Nat->J cV}{w w':World}{I I':Nat->Prop}(hb:∀k B,β k=some B->β' k=some B)(hs:Same I w w')(hi:∀b,I b->I' b){x:AV}{ok:J Bool}{v:Value}(h:fg P β w I x ok v):fg P β' w' I' x ok v:=by
 cases ok with
 |none=>exact VR.mono hb hs hi _ _ h
 |some b=>exact⟨λ hh=>VR.mono hb hs hi _ _ (h.1 hh),h.2⟩
structure Rel(P:Program)(w0:World)(O0:kx)(N:Nat)(β:Nat->Option cV)(I:Nat->Prop)(σ:St)(a:Act)(w:World):Prop where
 defers:a.defers=[]
 size:a.tmps.size=N
 env:∀t,fg P β w I (σ.env t) (σ.ok t) (a.tmps.getD t undef)
 mem:Mem P w0 O0 β I σ.obj w
section
variable {P:Program} {T:er} {w0:World} {O0:kx} {N:Nat} {β:Nat->Option cV} {I:Nat->Prop} {σ:St} {a:Act} {w:World} {al:Array Oper} {dt:Nat->m8}
def Fr(un:Nat->Prop)(β:Nat->J cV):Prop:=∀i k,un i->i7 (cT i) k->β k=none
theorem abg(hgv:j0 w I){x:Operand}(h:∀t,x= .tmp t->VR P β w I (σ.env t) (a.tmps.getD t undef)):VR P β w I (lR σ.env x) (a.eval x):=by
 cases x with
 |tmp t=>exact h t rfl
 |const v=>exact VR.cv
 |global g=>
  simp only[lR];split
  .rename_i row hg;simp only[VR,Act.eval];exact⟨g,0,rfl,(hgv.1 g row hg).1,(hgv.1 g row hg).2⟩
  .simp[VR]
 |func f=>simp only[lR,VR,Act.eval];exact⟨#[],#[],rfl,by simp[bj],by simp[bj]⟩
theorem Ab(hr:Rel P w0 O0 N β I σ a w){x:Operand}(h:∀p∈xE σ.ok x,p):VR P β w I (lR σ.env x) (a.eval x):=by
 refine abg hr.mem.vars λt hx=>?_;subst hx;have h1:=hr.env t;simp only[xE]at h;cases hk:σ.ok t with
 |none=>rw[hk]at h1;exact h1
 |some b=>rw[hk]at h1 h;exact h1.1 (h _ (by simp))
theorem af3(hT:fu P T){i:Nat}{o:Oper}{cL:j7}{rd:U Nat}{ab:Out}(hr:Rel P w0 O0 N β I σ a w)(hn:∀k,i7 (cT i) k->β k=none)(ha:jE P T i o cL (lR σ.env) (dO rd σ.obj)=some ab)
 (cW:ab.ob) (hnd:∀p∈needs σ.env σ.ok o.op,p):sq P w0 O0 β I σ.obj w i ab ((execOp a.eval o).run P w)\/Aa P w0 O0 β I σ.obj w i ab ((execOp a.eval o).run P w):=by
 have hg:∀k ob,dO rd σ.obj k=some ob->σ.obj k=some ob:=λk ob hk=>by
  simp only[dO]at hk;split at hk
  .exact hk
  .cases hk
 by_cases hp:∃c x y,o.op= .pick c x y
 .obtain⟨c,x,y,he⟩:=hp;obtain⟨dst,op,ty,ao,after,guard⟩:=o;simp only at he;subst he;have ha:ql T i ⟨dst,.pick c x y,ty,ao,after,guard⟩ cL (lR σ.env) (dO rd σ.obj)=some ab:=by
   unfold jE at ha;split at ha
   .cases ha
   .cases ha
   .exact ha
  simp only[ql]at ha;simp only[needs]at hnd;split at ha
  .rename_i t hc;rw[hc]at hnd;simp only[pv,aC]at ha;subst ha;have h1:=Ab hr (x:=c) (λ p hp=>hnd p (by simp[hp]));rw[hc]at h1;simp only[VR,TR]at h1;refine .inl ⟨if t then a.eval x else a.eval y,w,β,I,.inl ?_,Step.refl ..,hr.mem,?_⟩
   .simp only[execOp,h1.1,asBool];simp
   .rw[UZ];cases t
    .exact Ab hr λp hp=>hnd (false=false->p) (by simp only[bn,mem_map];exact .inr (.inr ⟨p,hp,rfl⟩)) rfl
    .exact Ab hr λp hp=>hnd (true=true->p) (by simp only[bn,mem_map];exact .inr (.inl ⟨p,hp,rfl⟩)) rfl
  .cases ha
 .have hnd':∀x∈o.op.operands,∀p∈xE σ.ok x,p:=λx hx p hp'=>hnd p (by
   unfold needs;split
   .rename_i c x y he;exact absurd ⟨c,x,y,he⟩ hp
   .exact mem_flatMap.2 ⟨x,by simpa using hx,hp'⟩)
  have hρ:∀x,VR P β w I ((λ x=>open Classical in if x∈o.op.operands then lR σ.env x else .undef) x) (a.eval x):=λx=>by
   by_cases hx:x∈o.op.operands
   .simp only[hx,if_true];exact Ab hr (hnd' x hx)
   .simp only[hx,if_false,VR]
  rw[M6 (ρ':=λx=>open Classical in if x∈o.op.operands then lR σ.env x else .undef) (λ x hx=>by simp only[hx,if_true])]at ha;generalize (λ x=>open Classical in if x∈o.op.operands then lR σ.env x else AV.undef)=ρ at ha hρ;unfold jE at ha;split at ha
  .exact .inl (YG hT hr.mem (hn _ (.inl rfl)) hg hρ ha cW)
  .exact .inl (aa8 hT hr.mem (hn _ (.inl rfl)) hg hρ ha cW)
  .split at ha
   .rename_i f args c7 heq;obtain⟨dst,op,ty,ao,after,guard⟩:=o;simp only at heq;subst heq;exact .inr (Vp hr.mem hn hg ha cW (hρ f) (by rw[Array.toList_map];exact bj.map hρ _) rfl rfl)
   .exact .inl (Ro hT hr.mem (hn _ (.inl rfl)) hg hρ ha cW)
theorem ajs(hr:Rel P w0 O0 N β I σ a w){o:Oper}{b:Bool}(hb:want al o σ.env σ.ok=some b):Region.wanted o (yielded al a.tmps)=b:=by
 unfold want at hb;unfold Region.wanted;cases hg:o.guard with
 |none=>simp only[hg,aC]at hb ⊢;exact hb
 |some gw=>
  obtain⟨g,bw⟩:=gw;simp only[hg]at hb ⊢;unfold yielded;cases ht:(al[g]?).bind (·.dst)with
  |none=>simp[ht]at hb
  |some t=>
   simp only[ht]at hb;have he:=hr.env t;have val:∀v:Bool,a.tmps.getD t undef= .bool v->a.tmps[t]? =some (.bool v):=λv hv=>by
    cases hh:a.tmps[t]? with
    |none=>simp[hh,undef]at hv
    |some u=>simp[hh]at hv;rw[hv]
   split at hb
   .rename_i v e1 e2;rw[e1,e2]at he;simp only[fg,VR,TR]at he;cases hb;simp only[af,val v he.1];cases v<;>cases bw<;>rfl
   .rename_i v q e1 e2;rw[e1,e2]at he;simp only[fg,VR,TR]at he;cases hb;cases q with
    |true=>
     simp only[af,val v (he.1 rfl).1];cases v<;>cases bw<;>rfl
    |false=>
     have h0:=he.2 rfl;simp only[af];cases hh:a.tmps[t]? with
     |none=>simp
     |some u=>simp[hh,undef]at h0;subst h0;simp
   .rename_i e1 e2;rw[e1,e2]at he;cases hb;have h0:=he.2 rfl;simp only[af];cases hh:a.tmps[t]? with
    |none=>simp
    |some u=>simp[hh,undef]at h0;subst h0;simp
   .cases hb
theorem M7:∀(l:U Prop),jq l->∀p∈l,p
 |[],_,_,hp=>by simp at hp
 |[q],h,p,hp=>by rw[aR]at hp;rw[hp];exact h
 |q::r::l,h,p,hp=>by
  rcases aQ.1 hp with e |hp
  .rw[e];exact h.1
  .exact M7 (r::l) h.2 p hp
theorem Ry(hT:fu P T){i:Nat}{K:St->Prop}{Q:Exit->Act->World->Prop}{K':Act->World->Prop}{un:Nat->Prop}(hd:∀(j:Nat)(o:Oper)(d:Tmp),al[j]? =some o->o.dst=some d->d<N)
 (hr:Rel P w0 O0 N β I σ a w) (hf:Fr un β) (hi:un i)
 (hK:∀ σ' a' w' β' I',Rel P w0 O0 N β' I' σ' a' w'->Fr (λ j=>un j/\j≠i) β'->K σ'->K' a' w') (h:xF P T al dt i K σ):wpOp P al Q i K' a w:=by
 obtain⟨o,⟨ab,Rg⟩,h1,h2,h3,h4⟩:=h;have put:∀(v':Value) (w':World) (β':Nat->J cV) (I':Nat->Prop),Step β I w (cT i) β' I' w'->Mem P w0 O0 β' I' (dn σ.obj ab.upd) w'->fg P β' w' I' ab.v Rg v'->K' (a.put o.dst v') w':=by
  intro v' w' β' I' k1 k2 k3;refine hK (σ.app o.dst (ab,Rg)) _ w' β' I' ⟨?_,?_,?_,k2⟩ ?_ h4
  .cases hdst:o.dst<;>simp[Act.put,hr.defers]
  .cases hdst:o.dst<;>simp[Act.put,hr.size]
  .intro t;have hold:=fg.mono k1.ext k1.same k1.inc (hr.env t);simp only[St.app,Bc];cases hdst:o.dst with
   |none=>simpa[Act.put]using hold
   |some d=>
    simp only[Act.put,aC];by_cases hdt:d=t
    .subst hdt;rw[aZ rfl,aZ rfl];have hlt:d<a.tmps.size:=Nat.lt_of_lt_of_eq (hd i o d h1 hdst) hr.size.symm;have e:(a.tmps.setIfInBounds d v').getD d undef=v':=(by simp[hlt]);rw[e];exact k3
    .rw[aT hdt,aT hdt];simpa[Array.getElem?_setIfInBounds_ne hdt]using hold
  .intro j k hj hk;rw[k1.other k (by have:=hj.2;simp only[i7,cT]at hk ⊢;omega)];exact hf j k hj.1 hk
 unfold opAt at h2;simp only[h1,af]at h2;unfold wpOp;simp only[h1];have hn:=λk=>hf i k hi;cases hw:want al o σ.env σ.ok with
 |none=>simp[hw]at h2
 |some g=>
  simp only[hw,af]at h2;rw[ajs hr hw]
  have run:∀(out':Out),jE P T i o (dt i).cL (lR σ.env) (dO (dt i).rd σ.obj)=some out'->(∀ p∈needs σ.env σ.ok o.op++out'.obs,p)->out'.v=ab.v->(out'.upd=ab.upd)->(∀ β' w' I' v',VR P β' w' I' ab.v v'->fg P β' w' I' ab.v Rg v')->
   o.wp P a w K' Q:=by
   intro out' ha cW e1 e2 sk;have T4:=af3 hT hr hn ha (q8 _ λp hp=>cW p (by simp[hp])) (λ p hp=>cW p (by simp[hp]));unfold Oper.wp;rcases T4 with ⟨v',w',β',I',hrun,k1,k2,k3⟩ |⟨F,args,hrun,B8⟩
   .rw[e1]at k3;rw[e2]at k2;rcases hrun with hrun |⟨hrun,rfl⟩
    .rw[hrun];exact put v' w' β' I' k1 k2 (sk _ _ _ _ k3)
    .rw[hrun];exact put _ w' β' I' k1 k2 (sk _ _ _ _ k3)
   .rw[hrun];refine B8.mono ?_;rintro e w' ⟨v',β',I',rfl,k1,k2,k3⟩;rw[e1]at k3;rw[e2]at k2;exact put v' w' β' I' k1 k2 (sk _ _ _ _ k3)
  split at h2
  .cases ha:jE P T i o (dt i).cL (lR σ.env) (dO (dt i).rd σ.obj)with
   |none=>simp[ha]at h2
   |some out'=>
    simp only[ha,af]at h2;split at h2
    .rename_i hem;simp only[aC,Prod.mk.injEq]at h2;obtain⟨rfl,rfl⟩:=h2;have B6:out'.upd=[]:=(by simpa using hem);have h3:=M7 _ h3;cases g with
     |true=>
      simp only[if_true];refine .inl (run out' ha (λ p hp=>h3 (true=true->p) (mem_map.2 ⟨p,hp,rfl⟩) rfl) rfl B6 λ_ _ _ _ hv=>⟨λ _=>hv,λh=>by cases h⟩)
     |false=>
      simp only[Bool.false_eq_true,if_false];exact put _ w β I (Step.refl ..) hr.mem ⟨λ h=>(by cases h),λ_=>rfl⟩
    .cases h2
  .split at h2
   .cases ha:jE P T i o (dt i).cL (lR σ.env) (dO (dt i).rd σ.obj)with
    |none=>simp[ha]at h2
    |some out'=>
     simp only[ha,af]at h2;split at h2
     .simp only[aC,Prod.mk.injEq]at h2;obtain⟨rfl,rfl⟩:=h2;simp only[if_true];exact .inl (run out' ha (M7 _ h3) rfl rfl λ_ _ _ _ hv=>hv)
     .cases h2
   .simp only[aC,Prod.mk.injEq]at h2;obtain⟨rfl,rfl⟩:=h2;simp only[Bool.false_eq_true,if_false];exact put _ w β I (Step.refl ..) hr.mem ⟨λ h=>(by cases h),λ_=>rfl⟩
theorem La(hT:fu P T){md:Region.Mode}{Q:St->Prop}{Q':Exit->Act->World->Prop}(hd:∀(j:Nat)(o:Oper)(d:Tmp),al[j]? =some o->o.dst=some d->d<N)
 (hQ:∀ σ a w β I,Rel P w0 O0 N β I σ a w->Q σ->Q' .normal a w):∀(fuel:Nat) (listed:Array Bool) (σ:St) (a:Act) (w:World) (β:Nat->J cV) (I:Nat->Prop),Rel P w0 O0 N β I σ a w->
  Fr (λ j=>listed.getD j true=false) β->EE P T al dt md Q fuel listed σ->wpAny P md al Q' fuel listed a w
 | 0,_,_,_,_,_,_,hr,_,h=>⟨h.1,hQ _ _ _ _ _ hr h.2⟩
 |fuel+1,listed,σ,a,w,β,I,hr,hf,h=>by
  refine⟨λ h0=>hQ _ _ _ _ _ hr (h.1 h0),λi hi=>?_⟩;have hun:listed.getD i true=false:=(mem_ready.1 hi).1;refine Ry hT hd hr hf hun (λ σ' a' w' β' I' hr' hf' hK=>?_) (h.2 i hi);refine La hT hd hQ fuel _ σ' a' w' β' I' hr' (λ j k hj hk=>hf' j k ?_ hk) hK;have hj:(listed.setIfInBounds i true).getD j true=false:=hj;by_cases hji:i=j
  .subst hji;rcases Nat.lt_or_ge i listed.size with h1 |h1
   .simp[h1]at hj
   .simp[Array.getElem?_eq_none h1]at hun
  .rw[getD_set_ne true hji]at hj;exact⟨hj,λe=>hji e.symm⟩
theorem Lb(hT:fu P T){Q:St->Prop}{Q':Exit->Act->World->Prop}(hd:∀(j:Nat)(o:Oper)(d:Tmp),al[j]? =some o->o.dst=some d->d<N)
 (hQ:∀ σ a w β I,Rel P w0 O0 N β I σ a w->Q σ->Q' .normal a w):∀(l:U Nat) (σ:St) (a:Act) (w:World) (β:Nat->J cV) (I:Nat->Prop),l.Nodup->Rel P w0 O0 N β I σ a w->
  Fr (λ j=>j∈l) β->SC P T al dt Q l σ->wpOps P al Q' l a w
 |[],_,_,_,_,_,_,hr,_,h=>hQ _ _ _ _ _ hr h
 |i::l,σ,a,w,β,I,hn,hr,hf,h=>by
  rw[wpOps_cons];refine Ry hT hd hr hf (by simp) (λ σ' a' w' β' I' hr' hf' hK=>?_) h;refine Lb hT hd hQ l σ' a' w' β' I' (List.nodup_cons.1 hn).2 hr' (λ j k hj hk=>hf' j k ⟨by simp[hj],λe=>?_⟩ hk) hK;subst e;exact(List.nodup_cons.1 hn).1 hj
def PJ(N:Nat)(al:Array Oper):Bool:=al.all λo=>match o.dst with |some d=>decide (d<N) |none=>true
theorem Rz(h:PJ N al=true)(j:Nat)(o:Oper)(d:Tmp)(hj:al[j]? =some o)(hd:o.dst=some d):d<N:=by
 have:=Array.all_eq_true_iff_forall_mem.1 h o (Array.mem_of_getElem? hj);simpa[hd]using this
structure tI(σ:St):Prop where
 env:∀t k,k∈refs (σ.env t)->k<1000000
 obj:∀k o,σ.obj k=some o->k<1000000/\∀r∈o.rows,∀x∈r,∀j∈refs x,j<1000000
mutual
theorem VR.restrict{β':Nat->Option cV}(h:∀k,k<1000000->β' k=β k):∀(x:AV)(v:Value),(∀ k∈refs x,k<1000000)->VR P β w I x v->VR P β' w I x v
 | .t _,_,_,hv=>by simpa[VR]using hv
 | .agg cs,_,hk,hv=>by
  simp only[VR]at hv ⊢;obtain⟨vs,h1,h2⟩:=hv;exact⟨vs,h1,bj.restrict h cs _ (by simpa[refs]using hk) h2⟩
 | .eV cs,_,hk,hv=>by
  simp only[VR]at hv ⊢;obtain⟨vs,h1,h2⟩:=hv;exact⟨vs,h1,bj.restrict h cs _ (by simpa[refs]using hk) h2⟩
 | .own k _ _,_,hk,hv=>by simp only[VR,h k (hk k (by simp[refs]))]at hv ⊢;exact hv
 | .ptr k _ _,_,hk,hv=>by simp only[VR,h k (hk k (by simp[refs]))]at hv ⊢;exact hv
 | .eM _ _,_,_,hv=>by simpa[VR]using hv
 | .fn f first caps,_,hk,hv=>by
  simp only[VR]at hv ⊢;obtain⟨fs,cs,h1,h2,h3⟩:=hv;exact⟨fs,cs,h1,bj.restrict h first _ (λ k hk'=>hk k (by simp[refs,hk'])) h2,bj.restrict h caps _ (λ k hk'=>hk k (by simp[refs,hk'])) h3⟩
 | .eo _,_,_,hv=>by simpa[VR]using hv
 | .mp k,_,hk,hv=>by simp only[VR,h k (hk k (by simp[refs]))]at hv ⊢;exact hv
 | .oz k _,_,hk,hv=>by simp only[VR,h k (hk k (by simp[refs]))]at hv ⊢;exact hv
 | .dc,_,_,hv=>by simpa[VR]using hv
 | .ub,_,_,hv=>by simpa[VR]using hv
 | .undef,_,_,_=>by simp[VR]
theorem bj.restrict{β':Nat->Option cV}(h:∀k,k<1000000->β' k=β k):∀(xs:List AV)(vs:List Value),(∀ k∈fe xs,k<1000000)->bj P β w I xs vs->bj P β' w I xs vs
 |[],[],_,_=>by simp[bj]
 |x::xs,v::vs,hk,hv=>by
  simp only[bj]at hv ⊢;exact⟨VR.restrict h x v (λ k hk'=>hk k (by simp[fe,hk'])) hv.1,bj.restrict h xs vs (λ k hk'=>hk k (by simp[fe,hk'])) hv.2⟩
 |[],_::_,_,hv=>by simp[bj]at hv
 |_::_,[],_,hv=>by simp[bj]at hv
end
theorem ZN:∀{xs:U AV}{k:Nat},k∈fe xs->∃x∈xs,k∈refs x
 |[],_,h=>by simp[fe]at h
 |x::xs,k,h=>by
  simp only[fe,bn]at h;rcases h with h |h
  .exact⟨x,by simp,h⟩
  .have⟨y,h1,h2⟩:=ZN h;exact⟨y,by simp[h1],h2⟩
theorem Rel.restrict(ho:tI σ)(hr:Rel P w0 O0 N β I σ a w):Rel P w0 O0 N (λ k=>if k<1000000 then β k else none) I σ a w:=by
 have hb:∀k,k<1000000->(λ k=>if k<1000000 then β k else none) k=β k:=λk hk=>by simp[hk]
 have sk:∀t,fg P (λ k=>if k<1000000 then β k else none) w I (σ.env t) (σ.ok t) (a.tmps.getD t undef):=λt=>by
  have h1:=hr.env t;cases hk:σ.ok t with
  |none=>rw[hk]at h1;exact VR.restrict hb _ _ (ho.env t) h1
  |some b=>rw[hk]at h1;exact⟨λ h=>VR.restrict hb _ _ (ho.env t) (h1.1 h),h1.2⟩
 refine⟨hr.defers,hr.size,sk,?_⟩;have hm:=hr.mem;constructor
 .intro k o hk;have⟨B,hB,hO⟩:=hm.cQ k o hk;have⟨h1,h2⟩:=ho.obj k o hk;refine⟨B,by simp only[h1,if_true];exact hB,?_⟩;cases B with
  |none=>exact hO
  | «at» b s n=>
   obtain⟨g1,c,e,g2,g3,g4⟩:=hO;refine⟨g1,c,e,g2,g3,?_⟩;rw[oG]at g4 ⊢;intro i r hir;have⟨q1,q2⟩:=g4 i r hir;refine⟨q1,?_⟩;rw[jy]at q2 ⊢;intro j x hx;have⟨v,p1,p2,p3⟩:=q2 j x hx;exact⟨v,p1,VR.restrict hb _ _ (h2 r (dD hir) x (dD hx)) p2,p3⟩
  |mp b=>
   obtain⟨es,cl,g1,gl,g2,g3⟩:=hO;refine⟨es,cl,g1,gl,λe=>cH.tell rfl (λ j r q' a b vs hv=>?_) (g2 e),g3⟩;rw[a]at b;cases b;exact bj.restrict hb _ _ (λ k hk=>by
    have⟨x,hx,hk⟩:=ZN hk;exact h2 r (dD a) x hx k hk) hv
 .intro k k' o o' B B' b h1 h2 h3 h4;simp only[(ho.obj k o h1).1,(ho.obj k' o' h2).1,if_true]at h3 h4;exact hm.gE k k' o o' B B' b h1 h2 h3 h4
 .intro k o B b h1 h2;simp only[(ho.obj k o h1).1,if_true]at h2;exact hm.ownB k o B b h1 h2
 .exact hm.lt
 .exact hm.up
 .exact hm.keep
 .exact hm.le
 .exact hm.os
 .exact hm.tape
 .exact hm.output
 .intro j B hj;have:=O0.lt j B hj;show(if j<1000000 then β j else none)=some B;rw[aZ (by omega)];exact hm.anch j B hj
 .exact hm.vars
theorem Rel.drew(hr:Rel P w0 O0 N β I σ a w):Rel P w0 O0 N β I σ a w.drew:=
 ⟨hr.defers,hr.size,λt=>fg.mono (w:=w) (w':=w.drew) (λ _ _ h=>h) (λ _ _=>rfl) (λ _ h=>h) (hr.env t),hr.mem.drew⟩
theorem ajt(hT:fu P T){id:Nat}{Q:St->Prop}(hd:PJ N al=true)(ho:tI σ)(h:SC P T al dt Q (List.range al.size) σ)(hr:Rel P w0 O0 N β I σ a w):
 (Code.region id al false).wp P (λ e a' w'=>∃ β' I' σ',Rel P w0 O0 N β' I' σ' a' w'/\e= .normal/\Q σ') a w:=by
 refine wp_region (Lb hT (Rz hd) (Q:=Q) (λ σ a w β I hr hq=>⟨β,I,σ,hr,rfl,hq⟩) _ σ a w _ I List.nodup_range (hr.restrict ho) (λ j k _ hk=>?_) h);exact aT (by simp only[i7,cT]at hk;omega)
theorem Vr(hT:fu P T)(hm:P.follows .mixedOrders=true){id:Nat}{Q:St->Prop}(hd:PJ N al=true)(hB:Of al dt=true)(ho:tI σ)(h:SC P T al dt Q (List.range al.size) σ)(hr:Rel P w0 O0 N β I σ a w):
 (Code.region id al true).wp P (λ e a' w'=>∃ β' I' σ',Rel P w0 O0 N β' I' σ' a' w'/\e= .normal/\Q σ') a w:=by
 refine wp_region_any hm (La hT (md:= .any) (dt:=dt) (Rz hd) (Q:=Q) (λ σ a w β I hr hq=>⟨β,I,σ,hr,rfl,hq⟩) _ _ σ a _ _ I (hr.restrict ho).drew (λ j k _ hk=>?_) ?_)
 .exact aT (by simp only[i7,cT]at hk;omega)
 .refine adn al.size 0 _ σ hB ?_;have e:(List.range al.size).map (λ x=>0+x)=List.range al.size:=by simp
  rw[e];exact h
end
def Ev(P:Program)(N:Nat)(c:Code)(Q:Exit->St->Prop)(σ:St):Prop:=
 ∀(w0:World) (O0:kx) (β:Nat->J cV) (I:Nat->Prop) (a:Act) (w:World),Rel P w0 O0 N β I σ a w->tI σ->
  c.wp P (λ e a' w'=>∃ β' I' σ',Rel P w0 O0 N β' I' σ' a' w'/\tI σ'/\Q e σ') a w
def aoY(K:St->Prop)(Q:Exit->St->Prop):Exit->St->Prop
 | .normal,σ=>K σ
 |e,σ=>Q e σ
def af4(id:Nat)(Q:Exit->St->Prop):Exit->St->Prop
 | .exit j,σ=>if j=id then Q .normal σ else Q (.exit j) σ
 |e,σ=>Q e σ
theorem ZO{P:Program}{c:Code}{Q:Exit->Act->World->Prop}(J:Nat->Act->World->Prop)(h0:∀a w,¬J 0 a w)(round:∀n a w,J (n+1) a w->c.wp P (Exit.then (J n) Q) a w)(n:Nat)(a:Act)(w:World)(h:J n a w):
 (Code.loop c).wp P Q a w:=by
 intro b k cs;have key:∀n a w,J n a w->∃e a' w',Q e a' w'/\Arrives P (lone (b.at a (.code c:: .inLoop c::k)) cs w) b k cs e a' w':=by
  intro n
  induction n with
  |zero=>intro a w h;exact(h0 a w h).elim
  |succ n ih=>
   intro a w hI;have⟨e,a₁,w₁,hq,harr⟩:=round n a w hI b (.inLoop c::k) cs;cases e with
   |normal=>
    have⟨e₂,a₂,w₂,hq₂,harr₂⟩:=ih a₁ w₁ hq;exact⟨e₂,a₂,w₂,hq₂,.of_steps (Steps.trans harr (.one step_inLoop)) harr₂⟩
   |exit id=>exact⟨_,a₁,w₁,hq,.pass (x:= .inLoop c) rfl (λ _ _=> .inl (by simp)) harr⟩
   |goto l=>exact⟨_,a₁,w₁,hq,.pass (x:= .inLoop c) rfl (λ _ _=> .inl (by simp)) harr⟩
   |ret=>exact⟨_,a₁,w₁,hq,.pass (x:= .inLoop c) rfl (λ _ _=> .inl (by simp)) harr⟩
   |panic ch=>exact⟨_,a₁,w₁,hq,.pass (x:= .inLoop c) rfl (λ _ _=> .inl (by simp)) harr⟩
   |outgrown=>exact⟨_,a₁,w₁,hq,.pass (x:= .inLoop c) rfl (λ _ _=> .inl (by simp)) harr⟩
 have⟨e,a',w',hq,harr⟩:=key n a w h;exact⟨e,a',w',hq,.of_steps (.one step_loop) harr⟩
section
variable {P:Program} {N:Nat} {Q:Exit->St->Prop} {σ:St}
theorem Ev.mono{c:Code}{Q':Exit->St->Prop}(h:Ev P N c Q σ)(hq:∀e σ,Q e σ->Q' e σ):Ev P N c Q' σ:=
 λw0 O0 β I a w hr ho=>wp_mono (h w0 O0 β I a w hr ho) λ_ _ _ ⟨β',I',σ',h1,h2,h3⟩=>⟨β',I',σ',h1,h2,hq _ _ h3⟩
theorem anB(h:Q .normal σ):Ev P N .skip Q σ:=λ_ _ β I _ _ hr ho=>wp_skip ⟨β,I,σ,hr,ho,h⟩
theorem anC{id:Nat}(h:Q (.exit id) σ):Ev P N (.exit id) Q σ:=λ_ _ β I _ _ hr ho=>wp_exit ⟨β,I,σ,hr,ho,h⟩
theorem apa(h:Q .ret σ):Ev P N .ret Q σ:=λ_ _ β I _ _ hr ho=>wp_ret ⟨β,I,σ,hr,ho,h⟩
theorem alc{l:Nat}(h:Q .normal σ):Ev P N (.label l) Q σ:=λ_ _ β I _ _ hr ho=>wp_label ⟨β,I,σ,hr,ho,h⟩
theorem apb{x y:Code}(h:Ev P N x (aoY (Ev P N y Q) Q) σ):Ev P N (.seq x y) Q σ:=by
 intro w0 O0 β I a w hr ho;refine wp_seq (wp_mono (h w0 O0 β I a w hr ho) ?_);rintro e a' w' ⟨β',I',σ',h1,h2,h3⟩;cases e<;>first |exact h3 w0 O0 β' I' a' w' h1 h2 |exact⟨β',I',σ',h1,h2,h3⟩
theorem anD{c:Operand}{x y:Code}(b:Bool)(hk:∀t,c= .tmp t->σ.ok t=none)(hc:lR σ.env c= .t (.sc (.bool b)))(h:Ev P N (bif b then x else y) Q σ):Ev P N (.cond c x y) Q σ:=by
 intro w0 O0 β I a w hr ho;have h1:=abg (P:=P) (β:=β) (w:=w) (I:=I) (σ:=σ) (a:=a) (x:=c) hr.mem.vars (λ t ht=>by
  have h1:=hr.env t;rw[hk t ht]at h1;exact h1)
 rw[hc]at h1;simp only[VR,TR]at h1;refine wp_cond (t:=b) h1.1 ?_;cases b<;>exact h w0 O0 β I a w hr ho
theorem af5{c:Operand}{x y:Code}(hk:∀t,c= .tmp t->σ.ok t=none)(hc:lR σ.env c= .ub)(h1:Ev P N x Q σ)(h2:Ev P N y Q σ):Ev P N (.cond c x y) Q σ:=by
 intro w0 O0 β I a w hr ho;have h3:=abg (P:=P) (β:=β) (w:=w) (I:=I) (σ:=σ) (a:=a) (x:=c) hr.mem.vars (λ t ht=>by
  have h1:=hr.env t;rw[hk t ht]at h1;exact h1)
 rw[hc]at h3;simp only[VR]at h3;obtain⟨b,hb⟩:=h3;refine wp_cond (t:=b) hb ?_;cases b
 .exact h2 w0 O0 β I a w hr ho
 .exact h1 w0 O0 β I a w hr ho
theorem ald{id:Nat}{c:Code}(h:Ev P N c (af4 id Q) σ):Ev P N (.block id c) Q σ:=by
 intro w0 O0 β I a w hr ho;refine wp_block (wp_mono (h w0 O0 β I a w hr ho) ?_);rintro e a' w' ⟨β',I',σ',h1,h2,h3⟩;cases e with
 |exit j=>
  simp only[af4]at h3;simp only[Exit.inBlock];split
  .rw[aZ ‹_›]at h3;exact⟨β',I',σ',h1,h2,h3⟩
  .rw[aT ‹_›]at h3;exact⟨β',I',σ',h1,h2,h3⟩
 |_=>exact⟨β',I',σ',h1,h2,h3⟩
theorem anE{c:Code}(J:Nat->St->Prop)(h0:∀ σ,¬J 0 σ)(round:∀n σ,J (n+1) σ->Ev P N c (aoY (J n) Q) σ)(n:Nat)(h:J n σ):Ev P N (.loop c) Q σ:=by
 intro w0 O0 β I a w hr ho;refine ZO (λ n a w=>∃ β I σ,Rel P w0 O0 N β I σ a w/\tI σ/\J n σ) (λ a w ⟨_,_,σ,_,_,h⟩=>h0 σ h) ?_ n a w ⟨β,I,σ,hr,ho,h⟩;rintro n a w ⟨β,I,σ,hr,ho,hJ⟩;refine wp_mono (round n σ hJ w0 O0 β I a w hr ho) ?_;rintro e a' w' ⟨β',I',σ',h1,h2,h3⟩;cases e<;>exact⟨β',I',σ',h1,h2,h3⟩
end
def lk{α:Type}:U (Nat×α)->Nat->J α
 |[],_=>none
 |(j,x)::r,k=>if j=k then some x else lk r k
structure rI where
 env:List (Nat×AV)
 cQ:List (Nat×aU)
def rI.st(L:rI):St:=⟨λ t=>(lk L.env t).getD .undef,λk=>lk L.cQ k,λ_=>none⟩
theorem rJ{α:Type}:∀{l:U (Nat×α)}{k:Nat}{x:α},lk l k=some x->(k,x)∈l
 |(j,y)::r,k,x,h=>by
  simp only[lk]at h;split at h
  .cases h;rename_i e;subst e;simp
  .exact eX _ (rJ h)
theorem uW{α:Type}:∀{l:U (Nat×α)}{k:Nat}{x:α},(l.map (·.1)).Nodup->(k,x)∈l->lk l k=some x
 |(j,y)::r,k,x,hn,h=>by
  simp only[aH,List.nodup_cons]at hn;simp only[lk];rcases aQ.1 h with h |h
  .injection h with h1 h2;subst h1;subst h2;simp
  .have hne:k≠j:=λe=>hn.1 (mem_map.2 ⟨(k,x),h,e⟩);rw[aT (Ne.symm hne)];exact uW hn.2 h
open Go.RowKit Go.MapKept
structure RgI where
 x:Operand
 t:TypeId
 a0:Nat
 it:Nat
 nn:Nat
 b:Nat
 e:Nat
 xx:Nat
 kv:Nat
 j:Nat
 j2:Nat
 body:Code
section
variable {P:Program} {w0:World} {O0:kx} {N:Nat} {β:Nat->Option cV} {I:Nat->Prop} {σ:St} {a:Act} {w:World}
def St.put(σ:St)(d:Nat)(x:AV):St:=⟨Bc σ.env (some d) x,σ.obj,Bc σ.ok (some d) none⟩
theorem Rel.put(hr:Rel P w0 O0 N β I σ a w){d:Nat}(hd:d<N){x:AV}{v:Value}(hv:VR P β w I x v):Rel P w0 O0 N β I (σ.put d x) (a.put (some d) v) w:=by
 refine⟨by simpa[Act.put]using hr.defers,by simpa[Act.put]using hr.size,λt=>?_,hr.mem⟩;have hold:=hr.env t;simp only[St.put,Bc,Act.put,aC];by_cases hdt:d=t
 .subst hdt;rw[aZ rfl,aZ rfl];have e:(a.tmps.setIfInBounds d v).getD d undef=v:=by simp[Nat.lt_of_lt_of_eq hd hr.size.symm]
  rw[e];exact hv
 .rw[aT hdt,aT hdt];simpa[Array.getElem?_setIfInBounds_ne hdt]using hold
structure tf(β:Nat->Option cV)(I:Nat->Prop)(obj:Nat->Option aU)(w:World)(r:Nat):Prop where
 lt:r<w.heap.size
 HG:¬I r
 obj:∀k o,obj k=some o->¬fx β k r
theorem Rel.world{w':World}(hr:Rel P w0 O0 N β I σ a w)(hs:Same I w w')(hm:Mem P w0 O0 β I σ.obj w'):Rel P w0 O0 N β I σ a w':=
 ⟨hr.defers,hr.size,λt=>fg.mono (λ _ _ h=>h) hs (λ _ h=>h) (hr.env t),hm⟩
end
def kept(os':U (Option fw))(j:Nat):Prop:=∃p,os'[j]? =some (some p)
def PK(get:Nat->J aU)(fk:J Nat)(os':U (Option fw)):AV->Tree->Prop
 | .t x,y=>y=x
 | .dc,y=>y= .sl []
 | .oz k len,y=>fk≠some k/\¬kept os' k/\∃o d7,get k=some o/\(o.rows.drop 0).take len=aK d7/\d7.length=len/\y= .sl d7
 | .own k aa len,y=>fk≠some k/\¬kept os' k/\∃o d7,get k=some o/\(o.rows.drop aa).take len=aK d7/\d7.length=len/\y= .sl d7
 |_,_=>False
def lp(get:Nat->J aU)(fk:J Nat)(os':U (Option fw)):U AV->U Tree->Prop
 |[],[]=>True
 |x::xs,y::ys=>PK get fk os' x y/\lp get fk os' xs ys
 |_,_=>False
def eK(get:Nat->J aU)(fk:J Nat)(os':U (Option fw)):U (List AV)->U (List Tree)->Prop
 |[],[]=>True
 |x::xs,y::ys=>lp get fk os' x y/\eK get fk os' xs ys
 |_,_=>False
def F0(get:Nat->J aU)(fk:J Nat)(os':U (Option fw)):AV->RC->Prop
 | .agg cs,.d (.a ts)=>lp get fk os' cs ts
 |x,.d (.s y)=>PK get fk os' x y
 | .dc,.fresh _ rows=>rows=[]
 | .own k aa len,.fresh sz rows=>fk=some k/\¬kept os' k/\aa=0/\∃o,get k=some o/\o.sz=sz/\eK get fk os' (o.rows.take len) rows/\rows.length=len
 | .own k aa len,.whole j len'=>k=j/\aa=0/\len'=len/\kept os' j
 |_,_=>False
def nw(get:Nat->J aU)(fk:J Nat)(os':U (Option fw)):U AV->U RC->Prop
 |[],[]=>True
 |x::xs,c::cs=>F0 get fk os' x c/\nw get fk os' xs cs
 |_,_=>False
def FG(get:Nat->J aU)(fk:J Nat)(os':U (Option fw)):U AV->RV->Prop
 |[x],.one c=>F0 get fk os' x c
 |x::y::r,.eV cs=>nw get fk os' (x::y::r) cs
 |[],.eV cs=>cs=[]
 |_,_=>False
def NO(get:Nat->J aU)(fk:J Nat)(os':U (Option fw)):Prop:=
 ∀(j:Nat) p,os'[j]? =some (some p)->fk≠some j/\∃o,get j=some o/\o.sz=p.1/\eK get fk os' (o.rows.take p.2.length) p.2
def Uu(T:er)(t:TypeId)(x:AV)(obj:Nat->J aU):J Out:=
 K6 T t x .none obj
def PL(T:er)(σ:St):ResultVar->J AV
 | .tmp t=>match σ.ok t with
  |none=>some (σ.env t)
  |some _=>none
 | .cell a t=>match σ.ok a with
  |none=>match Uu T t (σ.env a) σ.obj with
   |some ⟨v,[],[]⟩=>some v
   |_=>none
  |some _=>none
def nE(T:er)(σ:St):U ResultVar->J (List AV)
 |[]=>some []
 |r::rs=>(PL T σ r).bind λv=>(nE T σ rs).bind λvs=>some (v::vs)
def Vs(tmps:Array Value):ResultVar->Sem Value
 | .tmp t=>pure (tmps.getD t undef)
 | .cell a t=>do loadVar t (<- asAddr (tmps.getD a undef))
theorem Vt(fn:Func)(tmps:Array Value):results fn tmps=(fn.results.mapM (Vs tmps))>>=λvs=>pure (if h:vs.size=1 then vs[0]else .tuple vs):=by
 unfold results;congr 2
def aqy(T:er)(rs:U ResultVar)(rv:RV)(os':U (Option fw)):Exit->St->Prop
 | .normal,σ=>∃xs fk,nE T σ rs=some xs/\FG σ.obj fk os' xs rv/\NO σ.obj fk os'
 | .ret,σ=>∃xs fk,nE T σ rs=some xs/\FG σ.obj fk os' xs rv/\NO σ.obj fk os'
 |_,_=>False
section
variable {P:Program} {T:er} {w0:World} {O0:kx} {N:Nat} {β:Nat->Option cV} {I:Nat->Prop} {σ:St} {a:Act} {w:World}
theorem abj(hT:fu P T)(hr:Rel P w0 O0 N β I σ a w){r:ResultVar}{x:AV}(h:PL T σ r=some x):
 ∃v,(Vs a.tmps r).run P w= .ok v w/\VR P β w I x v:=by
 cases r with
 |tmp t=>
  simp only[PL]at h;have h1:=hr.env t;cases hk:σ.ok t with
  |some b=>rw[hk]at h;cases h
  |none=>
   rw[hk]at h h1;cases h;exact⟨_,by simp[Vs],h1⟩
 |cell ad t=>
  simp only[PL]at h;have hx:=hr.env ad;cases hk:σ.ok ad with
  |some b=>rw[hk]at h;cases h
  |none=>
  rw[hk]at h hx;simp only at h;have hx:VR P β w I (σ.env ad) (a.tmps.getD ad undef):=hx;split at h
  .rename_i v hl;injection h with h;subst h;obtain⟨u,h1,h2⟩:∃u,(Instr.loadAt t (a.tmps.getD ad undef)).run P w= .ok u w/\VR P β w I v u:=by
    obtain⟨u,h1,h2,_⟩:=Rn hT hr.mem (λ _ _ h=>h) hl trivial hx;exact⟨u,h1,h2⟩
   refine⟨u,?_,h2⟩;have hp:∃p,a.tmps.getD ad undef= .pointer (some p):=by
    unfold Uu at hl;unfold K6 at hl;cases hti:T t with
    |none=>simp[hti]at hl
    |some ti=>
     simp only[hti,af]at hl;split at hl
     .rename_i heq;rw[heq]at hx;simp only[VR]at hx;obtain⟨b,sz,n,_,h⟩:=hx;exact⟨_,h⟩
     .rename_i heq;rw[heq]at hx;simp only[VR]at hx;obtain⟨b,o,h,_⟩:=hx;exact⟨_,h⟩
     .cases hl
   obtain⟨p,hp⟩:=hp;rw[hp]at h1;simp only[Instr.loadAt,Instr.sureAddr,Sem.run_bind,Sem.run_pure,Result.andThen_ok]at h1;simp only[Vs,hp,asAddr,Sem.run_bind,Sem.run_pure,Result.andThen_ok];exact h1
  .cases h
theorem Bd(hT:fu P T)(hr:Rel P w0 O0 N β I σ a w):∀(rs:U ResultVar)(xs:U AV),nE T σ rs=some xs->
 ∃vs,(rs.mapM (Vs a.tmps)).run P w= .ok vs w/\bj P β w I xs vs
 |[],xs,h=>by simp only[nE,aC]at h;subst h;exact⟨[],by simp,by simp[bj]⟩
 |r::rs,xs,h=>by
  simp only[nE]at h;cases h1:PL T σ r with
  |none=>simp[h1]at h
  |some x=>
   cases h2:nE T σ rs with
   |none=>simp[h1,h2]at h
   |some ys=>
    simp only[h1,h2,af,aC]at h;subst h;have⟨v,g1,g2⟩:=abj hT hr h1;have⟨vs,g3,g4⟩:=Bd hT hr rs ys h2;exact⟨v::vs,by simp only[List.mapM_cons,Sem.run_bind,g1,Result.andThen_ok,g3,Sem.run_pure],by simp only[bj];exact⟨g2,g4⟩⟩
def M8(σ:St)(w0 w:World)(β:Nat->J cV)(I:Nat->Prop)(O0:kx)(fk:J Nat)(os':U (Option fw))(b:Nat):Prop:=
 (I b\/O0.HG b\/w0.heap.size<=b\/O0.own b)/\b<w.heap.size/\¬∃k,(fk=some k\/kept os' k)/\(∃ o,σ.obj k=some o)/\fx β k b
theorem ado(hr:Rel P w0 O0 N β I σ a w)(fk:J Nat)(os':U (Option fw)):∀b,I b->M8 σ w0 w β I O0 fk os' b:=λb hb=>
 ⟨.inl hb,hr.mem.lt b hb,λ⟨k,_,⟨o,ho⟩,hβ⟩=>(hr.mem.jn k o b ho hβ).1 hb⟩
theorem M9(hr:Rel P w0 O0 N β I σ a w){fk:J Nat}{os':U (Option fw)}{k aa len:Nat}{y:Tree}{v:Value}(h:fk≠some k/\¬kept os' k/\∃o d7,σ.obj k=some o/\(o.rows.drop aa).take len=aK d7/\d7.length=len/\y= .sl d7)(hv:VR P β w I (.own k aa len) v):TR w (M8 σ w0 w β I O0 fk os') y v:=by
 obtain⟨hne,hnk,o,d7,h1,h2,h3,rfl⟩:=h;simp only[VR]at hv;simp only[TR];rcases hv with ⟨_,rfl,_,h4⟩ |⟨b,sz,n,cap,ad,h4,rfl,h5,h6,h7⟩
 .exact .inl ⟨List.eq_nil_of_length_eq_zero (by omega),none,0,rfl,λ_=>rfl⟩
 .have⟨g1,g2,g3⟩:=hr.mem.own k o b sz n h1 h4;refine .inr ⟨b,ad,cap,sz,by rw[h3],by omega,⟨.inr (.inr (g3.elim .inr .inl)),g2,λ⟨k',e1,⟨o',e2⟩,e3⟩=>?_⟩,?_⟩
  .have:=hr.mem.ma k k' o o' b h1 e2 (.at h4) e3;subst this;exact e1.elim hne hnk
  .by_cases hc:cap=0
   .have:d7=[]:=List.eq_nil_of_length_eq_zero (by omega);subst this;simp[cJ]
   .rw[h7 hc];have⟨B,hB,sB⟩:=hr.mem.cQ k o h1;rw[h4]at hB;cases hB;obtain⟨hs,c,e,hc',_,sB⟩:=sB;have h8:=bp.take len _ _ _ _ (bp.drop aa _ _ _ _ sB);rw[h2]at h8;exact cJ.l4 (ado hr fk os') hc' d7 _ _ h8
theorem Ed(hr:Rel P w0 O0 N β I σ a w){fk:J Nat}{os':U (Option fw)}{x:AV}{y:Tree}{v:Value}(h:PK σ.obj fk os' x y)(hv:VR P β w I x v):TR w (M8 σ w0 w β I O0 fk os') y v:=by
 cases x<;>simp only[PK]at h
 case t x=>subst h;simp only[VR]at hv;exact TR.mono (λ _ _=>rfl) (ado hr fk os') _ _ hv
 case dc=>subst h;simp only[VR]at hv;simp only[TR];exact .inl ⟨trivial,none,0,hv,λ_=>rfl⟩
 case own k aa len=>exact M9 hr h hv
 case oz k len=>
  rcases hv.vh with ⟨rfl,rfl⟩ |⟨_,hv⟩
  .obtain⟨hne,hnk,o,d7,h1,h2,h3,rfl⟩:=h;simp only[TR];exact .inl ⟨List.eq_nil_of_length_eq_zero h3,none,0,rfl,λ_=>rfl⟩
  .exact M9 hr h hv
theorem Na(hr:Rel P w0 O0 N β I σ a w){fk:J Nat}{os':U (Option fw)}{β':Nat->J cV}:∀{r:U AV}{t:U Tree}{c:Array Value}{aa:Nat},lp σ.obj fk os' r t->de P β w I r c aa->de P β' w (M8 σ w0 w β I O0 fk os') (t.map AV.t) c aa
 |[],[],_,_,_,_=>trivial
 |x::xs,y::ys,c,aa,h,⟨⟨v,h1,h2,h3⟩,h4⟩=>⟨⟨v,h1,by simp only[VR];exact Ed hr h.1 h2,h3⟩,Na hr h.2 h4⟩
 |[],_::_,_,_,h,_=>h.elim
 |_::_,[],_,_,h,_=>h.elim
theorem lp.length{get:Nat->J aU}{fk:J Nat}{os':U (Option fw)}:∀{r:U AV}{t:U Tree},lp get fk os' r t->t.length=r.length
 |[],[],_=>rfl
 |_::_,_::_,h=>by simp[lp.length h.2]
 |[],_::_,h=>h.elim
 |_::_,[],h=>h.elim
theorem Be(hr:Rel P w0 O0 N β I σ a w){fk:J Nat}{os':U (Option fw)}{β':Nat->J cV}:∀{rs:U (List AV)}{ts:U (List Tree)}{c:Array Value}{aa sz:Nat},eK σ.obj fk os' rs ts->bp P β w I rs c aa sz->bp P β' w (M8 σ w0 w β I O0 fk os') (aK ts) c aa sz
 |[],[],_,_,_,_,_=>trivial
 |r::rs,t::ts,c,aa,sz,h,⟨h1,h2,h3⟩=>⟨by rw[length_map,h.1.length,h1],Na hr h.1 h2,Be hr h.2 h3⟩
 |[],_::_,_,_,_,h,_=>h.elim
 |_::_,[],_,_,_,h,_=>h.elim
theorem eK.length{get:Nat->J aU}{fk:J Nat}{os':U (Option fw)}:∀{rs:U (List AV)}{ts:U (List Tree)},eK get fk os' rs ts->rs.length=ts.length
 |[],[],_=>rfl
 |_::_,_::_,h=>by simp only[bG,h.2.length]
 |[],_::_,h=>h.elim
 |_::_,[],h=>h.elim
theorem Lc(hr:Rel P w0 O0 N β I σ a w){fk:J Nat}{os':U (Option fw)}{β':Nat->J cV}:∀{r:U AV}{t:U Tree}{vs:U Value},lp σ.obj fk os' r t->bj P β w I r vs->bj P β' w (M8 σ w0 w β I O0 fk os') (t.map AV.t) vs
 |[],[],[],_,_=>by simp[bj]
 |x::xs,y::ys,v::vs,h,hv=>by
  simp only[bj]at hv;simp only[aH,bj,VR];exact⟨Ed hr h.1 hv.1,Lc hr h.2 hv.2⟩
 |[],_::_,_,h,_=>h.elim
 |_::_,[],_,h,_=>h.elim
 |[],[],_::_,_,hv=>by simp[bj]at hv
 |_::_,_::_,[],_,hv=>by simp[bj]at hv
theorem H7(hr:Rel P w0 O0 N β I σ a w){fk:J Nat}{os':U (Option fw)}{β':Nat->J cV}:∀{rs:U (List AV)}{ts:U (List Tree)}{es:U MapEntry},eK σ.obj fk os' rs ts->cH P β w I rs es->cH P β' w (M8 σ w0 w β I O0 fk os') (aK ts) es
 |[],[],[],_,_=>trivial
 |_::_,_::_,_::_,h,hm=>⟨Lc hr h.1 hm.1,H7 hr h.2 hm.2⟩
 |[],_::_,_,h,_=>h.elim
 |_::_,[],_,h,_=>h.elim
 |[],[],_::_,_,hm=>hm.elim
 |_::_,_::_,[],_,hm=>hm.elim
theorem eK.nil{get:Nat->J aU}{fk:J Nat}{os':U (Option fw)}{t:U (List Tree)}(h:eK get fk os' [] t):t=[]:=by
 cases t with
 |nil=>rfl
 |cons=>exact h.elim
theorem Vu(hr:Rel P w0 O0 N β I σ a w){F:Nat->Prop}{βi:Nat->J cV}{fk:J Nat}{os':U (Option fw)}(hF:∀k o b,fk=some k->σ.obj k=some o->¬kept os' k->fx β k b->F b)(hi:∀j,kept os' j->β j=βi j){x:AV}{c:RC}{v:Value}
 (h:F0 σ.obj fk os' x c) (hv:VR P β w I x v):yq P F βi c w (M8 σ w0 w β I O0 fk os') v:=by
 unfold F0 at h;split at h
 .rename_i cs ts;simp only[VR]at hv;obtain⟨vs,rfl,hv⟩:=hv;refine⟨vs,rfl,?_⟩;have:∀(cs:U AV)(ts:U Tree)(vs:U Value),lp σ.obj fk os' cs ts->bj P β w I cs vs->ff w (M8 σ w0 w β I O0 fk os') ts vs:=by
   intro cs
   induction cs with
   |nil=>intro ts vs h hv;cases ts<;>cases vs<;>first |trivial |exact h.elim |(simp [bj]at hv)
   |cons x xs ih=>
    intro ts vs h hv;cases ts with
    |nil=>exact h.elim
    |cons t ts=>
     cases vs with
     |nil=>simp[bj]at hv
     |cons u us=>simp only[bj]at hv;exact⟨Ed hr h.1 hv.1,ih ts us h.2 hv.2⟩
  exact this cs ts vs.toList h hv
 .exact Ed hr h hv
 .subst h;simp only[VR]at hv;exact .inl ⟨rfl,hv⟩
 .rename_i k aa len sz rows;obtain⟨rfl,hnk,rfl,o,h1,rfl,h2,h3⟩:=h;simp only[VR]at hv;rcases hv with ⟨_,rfl,_,h4⟩ |⟨b,sz,n,cap,ad,h4,rfl,h5,h6,h7⟩
  .exact .inl ⟨List.eq_nil_of_length_eq_zero (by omega),rfl⟩
  .have⟨g1,g2,g3⟩:=hr.mem.own k o b sz n h1 h4;have⟨B,hB,sB⟩:=hr.mem.cQ k o h1;rw[h4]at hB;cases hB;obtain⟨hs,c,e,hc',hn,sB⟩:=sB;refine .inr ⟨b,c,e,cap,ad,n.s,by rw[h3],hF k o b rfl h1 hnk (.at h4),λhI=>hI.2.2 ⟨k,.inl rfl,⟨o,h1⟩,.at h4⟩,hc',by omega,?_,?_,λhc=>by simpa using h7 hc⟩
   .rw[<- hs,hn];simpa using h6
   .rw[<- hs];exact Be hr h2 (bp.take len _ _ _ _ sB)
 .rename_i k aa len j len';obtain⟨rfl,rfl,rfl,hk⟩:=h;show VR P βi w (M8 σ w0 w β I O0 fk os') (.own k 0 len') v;simp only[VR]at hv ⊢;rw[<- hi k hk];exact hv
 .exact h.elim
theorem Bf{α:Type}(l:U α)(t:Nat):lk ((List.range l.length).zip l) t=l[t]? :=by
 have qq:∀(l:U α)(s t:Nat),(lk ((List.range' s l.length).zip l) t)=if s<=t/\t<s+l.length then l[t -s]? else none:=by
  intro l
  induction l with
  |nil=>intro s t;simp[lk]
  |cons x xs ih=>
   intro s t;simp only[bG,List.range'_succ,List.zip_cons_cons,lk];by_cases hst:s=t
   .subst hst;simp
   .rw[aT hst,ih];by_cases hlt':s+1<=t/\t<s+1+xs.length
    .rw[aZ hlt',aZ (by omega),show t -s=(t -(s+1))+1 by omega];simp
    .rw[aT hlt',aT (by omega)]
 rw[List.range_eq_range',qq];by_cases ht:t<l.length
 .simp[ht]
 .rw[aT (by omega)];simp[List.getElem?_eq_none (Nat.le_of_not_lt ht)]
theorem PN{x:AV}:∀{l:U AV},x∈l->∀k∈refs x,k∈fe l
 |[],h,_,_=>by simp at h
 |y::ys,h,k,hk=>by
  simp only[fe,bn];rcases aQ.1 h with rfl |h
  .exact .inl hk
  .exact .inr (PN h k hk)
theorem ajw(hT : fu P T){f : FuncId}{fn : Func}{c : Code}{args : U AV}{os : U fw}{os' : U (Option fw)}{rv : RV}(hfn : P.funcs[f]? = some fn)(hb : fn.body = some c)(hname : (fn.name == "runtime.NumGoroutine") = false)(hN : args.length <= fn.ntmps)(hargs : ∀ k ∈ fe args, k < 1000)(hos : os.length <= 1000)(hlen : os'.length = os.length)
 (h:Ev P fn.ntmps c (aqy T fn.results.toList rv os') (rI.st ⟨(List.range args.length).zip args,(List.range (os.map ia).length).zip (os.map ia)⟩)):qt P f args os os' rv:=by
 refine⟨⟨fn,hfn,by rw[hb];rfl,hname⟩,λw β I vs hβ hM hv=>?_⟩;have hvl:=bj.length _ _ hv;simp only[Array.length_toList]at hvl;have gO:∀k,lk ((List.range (os.map ia).length).zip (os.map ia)) k=sd os k:=λk=>by rw[Bf];simp[sd]
 refine calls_of_wp hfn hb ?_;have hrel:Rel P w (nC β I) fn.ntmps β I (rI.st ⟨(List.range args.length).zip args,(List.range (os.map ia).length).zip (os.map ia)⟩) { tmps:=vs++Array.replicate (fn.ntmps -vs.size) undef,defers:=[] } w:=by
  refine⟨rfl,by simp;omega,λt=>?_,?_⟩
  .simp only[rI.st,Bf,fg];by_cases ht:t<args.length
   .obtain⟨v,g1,g2⟩:=bj.get _ _ t _ hv (dU ht);rw[dU ht];simp only[Option.getD_some];have:(vs++Array.replicate (fn.ntmps -vs.size) undef).getD t undef=v:=by
     rw[Array.getElem?_toList]at g1;simp only[Array.getD_eq_getD_getElem?,Array.getElem?_append,show t<vs.size by omega,if_true,g1,Option.getD_some]
    rw[this];exact g2
   .rw[List.getElem?_eq_none (Nat.le_of_not_lt ht)];simp[VR]
  .have:(rI.st ⟨(List.range args.length).zip args,(List.range (os.map ia).length).zip (os.map ia)⟩).obj=sd os:=funext gO;rw[this];exact hM
 have hold:tI (rI.st ⟨(List.range args.length).zip args,(List.range (os.map ia).length).zip (os.map ia)⟩):=by
  refine⟨λ t k hk=>?_,λk o hk=>?_⟩
  .simp only[rI.st,Bf]at hk;cases ht:args[t]? with
   |none=>rw[ht]at hk;simp[refs]at hk
   |some x=>rw[ht]at hk;have:=hargs k (PN (dD ht) k hk);omega
  .have hk:sd os k=some o:=(gO k).symm.trans hk;simp only[sd,dQ]at hk;obtain⟨p,hp,rfl⟩:=hk;refine⟨by have:=(dJ.1 hp).1;omega,λr hr x hx j hj=>?_⟩;simp only[ia,aK,mem_map]at hr;obtain⟨q,_,rfl⟩:=hr;simp only[mem_map]at hx;obtain⟨t,_,rfl⟩:=hx;simp[refs]at hj
 refine wp_mono (h w (nC β I) β I _ w hrel hold) ?_
 have fin:∀(a':Act) (w':World) (β':Nat->J cV) (I':Nat->Prop) (σ':St),Rel P w (nC β I) fn.ntmps β' I' σ' a' w'->(∃ xs fk,nE T σ' fn.results.toList=some xs/\FG σ'.obj fk os' xs rv/\NO σ'.obj fk os')->
  a'.defers=[]/\∃v,(results fn a'.tmps).run P w'= .ok v w'/\MT P w β I os' rv (.returned v) w':=by
  intro a' w' β' I' σ' hr ⟨xs,fk,hx,he,heo⟩;obtain⟨us,g1,g2⟩:=Bd hT hr _ _ hx;have Fk:=bj.length _ _ g2;have hm:=hr.mem;have hrun:(fn.results.mapM (Vs a'.tmps)).run P w'= .ok us.toArray w':=by rw[Array.mapM_eq_mapM_toList,Sem.run_map,g1];rfl
  have hko:∀j p,os'[j]? =some (some p)->∃B o,β j=some B/\β' j=some B/\σ'.obj j=some o/\OR P β' w' I' o B/\o.sz=p.1/\eK σ'.obj fk os' (o.rows.take p.2.length) p.2:=by
   intro j p hj;have⟨_,o,e1,e2,e3⟩:=heo j p hj;have hjl:j<os.length:=(by rw[<- hlen];exact(dJ.1 hj).1);obtain⟨B,hB,_⟩:=hM.cQ j (ia os[j]) (by simp[sd,hjl]);have hB':=hm.anch j B (by simp only[nC];rw[aZ (by omega)];exact hB);have⟨B',hB2,hO⟩:=hm.cQ j o e1;rw[hB']at hB2;cases hB2;exact⟨B,o,hB,hB',e1,hO,e2,e3⟩
  have hkept:∀j,kept os' j->β' j=β j:=λj ⟨p,hp⟩=>by
   have⟨B,o,h1,h2,_⟩:=hko j p hp;rw[h1,h2]
  have pn:∀j o,Cw os' j=some o->∃p,os'[j]? =some (some p)/\o=ia p:=by
   intro j o hj;simp only[Cw,dQ,Option.join_eq_some_iff]at hj;obtain⟨p,hp,rfl⟩:=hj;exact⟨p,hp,rfl⟩
  have qn:∀b,I b->¬U6 β b/\b<w.heap.size:=by
   intro b hb;refine⟨?_,hM.lt b hb⟩;rintro⟨j,B,hj,hB⟩;rcases Nat.lt_or_ge j os.length with hjl |hjl
   .exact(hM.ownB j (ia os[j]) B b (by simp[sd,hjl]) hj hB).1 hb
   .rw[hβ j hjl]at hj;cases hj
  have hOI:∀b,I b->M8 σ' w w' β' I' (nC β I) fk os' b:=by
   intro b hb;have⟨g1,g2⟩:=qn b hb;refine⟨.inr (.inl hb),Nat.lt_of_lt_of_le g2 hm.le,?_⟩;rintro⟨k,_,⟨o,ho⟩,hβk⟩;rcases (hm.jn k o b ho hβk).2.2 with g |g
   .exact g1 g
   .omega
  have hmem:Mem P w (nC β I) β (M8 σ' w w' β' I' (nC β I) fk os') (Cw os') w':=by
   constructor
   .intro j o hj;obtain⟨p,hp,rfl⟩:=pn j o hj;have⟨B,o1,b1,b2,b3,b4,b5,b6⟩:=hko j p hp;refine⟨B,b1,?_⟩;cases B with
    |none=>
     simp only[OR]at b4 ⊢;rw[b4]at b6;have:=eK.nil (by simpa using b6);simp[ia,aK,this]
    | «at» b s n=>
     obtain⟨c1,c,e,c2,c3,c4⟩:=b4;refine⟨by rw[c1,b5];rfl,c,e,c2,c3,?_⟩;exact Be hr b6 (bp.take _ _ _ _ _ c4)
    |mp b=>
     obtain⟨es,cl,c1,cl',c2,c3⟩:=b4;have hl:=b6.length;simp only[List.length_take]at hl;refine⟨es,cl,c1,by simp only[ia,aK,length_map];omega,λe=>?_,c3⟩;have e':p.1=p.2.length:=(by simpa[ia,aK]using e);rw[take_of_length_le (by omega)]at b6;exact H7 hr b6 (c2 (by omega))
   .intro j j' o o' B B' b h1 h2 h3 h4 h5 h6;obtain⟨p,hp,rfl⟩:=pn j o h1;obtain⟨p',hp',rfl⟩:=pn j' o' h2;have⟨_,o1,_,_,b3,_⟩:=hko j p hp;have⟨_,o1',_,_,b3',_⟩:=hko j' p' hp';rw[<- hkept j ⟨p,hp⟩]at h3;rw[<- hkept j' ⟨p',hp'⟩]at h4;exact hm.gE j j' o1 o1' B B' b b3 b3' h3 h4 h5 h6
   .intro j o B b h1 h2 h5;obtain⟨p,hp,rfl⟩:=pn j o h1;have⟨_,o1,_,_,b3,_⟩:=hko j p hp;rw[<- hkept j ⟨p,hp⟩]at h2;have⟨_,c2,c3⟩:=hm.ownB j o1 B b b3 h2 h5;exact⟨λ hb=>hb.2.2 ⟨j,.inr ⟨p,hp⟩,⟨o1,b3⟩,B,h2,h5⟩,c2,c3⟩
   .exact λb hb=>hb.2.1
   .intro b hb;rcases hb.1 with g |g |g |g
    .exact hm.up b g
    .exact .inl g
    .exact .inr (.inr g)
    .exact .inr (.inl g)
   .exact hm.keep
   .exact hm.le
   .exact hm.os
   .exact hm.tape
   .exact hm.output
   .intro j B hj;simp only[nC]at hj;split at hj
    .exact hj
    .cases hj
   .exact hM.vars.mono (λ b hb=>hm.keep b (qn b hb).2 (qn b hb).1) hOI
  have hF:∀k o b,fk=some k->σ'.obj k=some o->¬kept os' k->fx β' k b->AG w β os' b:=by
   intro k o b _ h2 h3 h4;refine⟨(hm.jn k o b h2 h4).2.2,λj o' h5 h6=>?_⟩;obtain⟨p,hp,rfl⟩:=pn j o' h5;have⟨_,o1,_,_,b3,_⟩:=hko j p hp;have h6':fx β' j b:=by
    obtain⟨B,e1,e2⟩:=h6;exact⟨B,by rw[hkept j ⟨p,hp⟩];exact e1,e2⟩
   have:=hm.ma k j o o1 b h2 b3 h4 h6';subst this;exact h3 ⟨p,hp⟩
  have ret:∀v,ry P (AG w β os') β rv w' (M8 σ' w w' β' I' (nC β I) fk os') v->MT P w β I os' rv (.returned v) w':=λv hv'=>⟨v,_,rfl,hmem,hOI,hv'⟩;refine⟨hr.defers,?_⟩;have hlist:∀(xs:U AV)(cs:U RC)(us:U Value),nw σ'.obj fk os' xs cs->bj P β' w' I' xs us->Sy P (AG w β os') β cs w' (M8 σ' w w' β' I' (nC β I) fk os') us:=by
   intro xs
   induction xs with
   |nil=>intro cs us h1 h2;cases cs<;>cases us<;>first |trivial |exact h1.elim |(simp [bj]at h2)
   |cons x xs ih=>
    intro cs us h1 h2;cases cs with
    |nil=>exact h1.elim
    |cons c cs=>
     cases us with
     |nil=>simp[bj]at h2
     |cons u us=>simp only[bj]at h2;exact⟨Vu hr hF hkept h1.1 h2.1,ih cs us h1.2 h2.2⟩
  simp only[Vt,Sem.run_bind,hrun,Result.andThen_ok,Sem.run_pure];refine⟨_,rfl,ret _ ?_⟩
  match xs,us,rv,he,g2 with
  |[x],[u],.one c,he,g2=>
   simp only[bj]at g2;simpa[ry]using Vu hr hF hkept he g2.1
  |x::y::r,u::u'::us,.eV cs,he,g2=>
   have:=hlist _ _ _ he g2;rw[dif_neg (by simp)];exact⟨_,rfl,by simpa using this⟩
  |[],[],.eV cs,he,g2=>
   simp only[FG]at he;subst he;rw[dif_neg (by simp)];exact⟨_,rfl,trivial⟩
  |[x],[u],.eV cs,he,_=>exact he.elim
  |[],_,.one c,he,_=>exact he.elim
  |x::y::r,_,.one c,he,_=>exact he.elim
  |[],_::_,.eV _,_,g2=>simp[bj]at g2
  |[_],[],_,_,g2=>simp[bj]at g2
  |[_],_::_::_,_,_,g2=>simp[bj]at g2
  |_::_::_,[],_,_,g2=>simp[bj]at g2
  |_::_::_,[_],_,_,g2=>simp[bj]at g2
 rintro e a' w' ⟨β',I',σ',h1,h2,h3⟩;cases e with
 |normal=>exact fin a' w' β' I' σ' h1 h3
 |ret=>exact fin a' w' β' I' σ' h1 h3
 |_=>exact h3.elim
def NL(P:Program)(get:Nat->J aU)(xs:U AV)(os':U (Nat×aU))(rv:AV):Prop:=
 ∀(w0:World) (O0:kx) (β:Nat->J cV) (I:Nat->Prop) (w:World) (vs:Array Value),Mem P w0 O0 β I get w->bj P β w I xs vs.toList->∃ β' I',Mem P w0 O0 β' I' (ot os') w/\(∀ b,I b->I' b)/\VR P β' w I' rv (if h:vs.size=1 then vs[0]else .tuple vs)
def apV(P:Program)(T:er)(rs:U ResultVar)(rv:AV)(os':U (Nat×aU)):Exit->St->Prop
 | .normal,σ=>∃xs,nE T σ rs=some xs/\NL P σ.obj xs os' rv
 | .ret,σ=>∃xs,nE T σ rs=some xs/\NL P σ.obj xs os' rv
 |_,_=>False
theorem ajx(hT : fu P T){f : FuncId}{fn : Func}{c : Code}{args : U AV}{os : U aU}{os' : U (Nat × aU)}{rv : AV}(hfn : P.funcs[f]? = some fn)(hb : fn.body = some c)(hname : (fn.name == "runtime.NumGoroutine") = false)(hN : args.length <= fn.ntmps)(hargs : ∀ k ∈ fe args, k < 1000)(hos : os.length <= 1000)
 (SP:∀o∈os,∀r∈o.rows,∀x∈r,∀j∈refs x,j<1000)
 (h:Ev P fn.ntmps c (apV P T fn.results.toList rv os') (rI.st ⟨(List.range args.length).zip args,(List.range os.length).zip os⟩)):yr P f args os os' rv:=by
 refine⟨⟨fn,hfn,by rw[hb];rfl,hname⟩,λw β I vs hβ hM hv=>?_⟩;have hvl:=bj.length _ _ hv;simp only[Array.length_toList]at hvl;have gO:∀k,lk ((List.range os.length).zip os) k=rS os k:=λk=>by rw[Bf];rfl
 refine calls_of_wp hfn hb ?_;have hrel:Rel P w (nC β I) fn.ntmps β I (rI.st ⟨(List.range args.length).zip args,(List.range os.length).zip os⟩) { tmps:=vs++Array.replicate (fn.ntmps -vs.size) undef,defers:=[] } w:=by
  refine⟨rfl,by simp;omega,λt=>?_,?_⟩
  .simp only[rI.st,Bf,fg];by_cases ht:t<args.length
   .obtain⟨v,g1,g2⟩:=bj.get _ _ t _ hv (dU ht);rw[dU ht];simp only[Option.getD_some];have:(vs++Array.replicate (fn.ntmps -vs.size) undef).getD t undef=v:=by
     rw[Array.getElem?_toList]at g1;simp only[Array.getD_eq_getD_getElem?,Array.getElem?_append,show t<vs.size by omega,if_true,g1,Option.getD_some]
    rw[this];exact g2
   .rw[List.getElem?_eq_none (Nat.le_of_not_lt ht)];simp[VR]
  .have:(rI.st ⟨(List.range args.length).zip args,(List.range os.length).zip os⟩).obj=rS os:=funext gO;rw[this];exact hM
 have hold:tI (rI.st ⟨(List.range args.length).zip args,(List.range os.length).zip os⟩):=by
  refine⟨λ t k hk=>?_,λk o hk=>?_⟩
  .simp only[rI.st,Bf]at hk;cases ht:args[t]? with
   |none=>rw[ht]at hk;simp[refs]at hk
   |some x=>rw[ht]at hk;have:=hargs k (PN (dD ht) k hk);omega
  .have hk:rS os k=some o:=(gO k).symm.trans hk;simp only[rS]at hk;refine⟨by have:=(dJ.1 hk).1;omega,λr hr x hx j hj=>?_⟩;have:=SP o (dD hk) r hr x hx j hj;omega
 refine wp_mono (h w (nC β I) β I _ w hrel hold) ?_
 have fin:∀(a':Act) (w':World) (β':Nat->J cV) (I':Nat->Prop) (σ':St),Rel P w (nC β I) fn.ntmps β' I' σ' a' w'->(∃ xs,nE T σ' fn.results.toList=some xs/\NL P σ'.obj xs os' rv)->
  a'.defers=[]/\∃v,(results fn a'.tmps).run P w'= .ok v w'/\W4 P w β I os' rv (.returned v) w':=by
  intro a' w' β' I' σ' hr ⟨xs,hx,he⟩;obtain⟨us,g1,g2⟩:=Bd hT hr _ _ hx;have hrun:(fn.results.mapM (Vs a'.tmps)).run P w'= .ok us.toArray w':=by rw[Array.mapM_eq_mapM_toList,Sem.run_map,g1];rfl
  have qn:∀b,I b->¬U6 β b/\b<w.heap.size:=by
   intro b hb;refine⟨?_,hM.lt b hb⟩;rintro⟨j,B,hj,hB⟩;rcases Nat.lt_or_ge j os.length with hjl |hjl
   .exact(hM.ownB j os[j] B b (by simp[rS,hjl]) hj hB).1 hb
   .rw[hβ j hjl]at hj;cases hj
  obtain⟨β2,I2,hm,hI2,hv2⟩:=he w (nC β I) β' I' w' us.toArray hr.mem (by simpa using g2);have hmem:Mem P w (nC β I) β2 (λ b=>I2 b\/I b) (ot os') w':=by
   constructor
   .intro k o hk;have⟨B,hB,hO⟩:=hm.cQ k o hk;exact⟨B,hB,OR.mono (λ _ _ h=>h) (λ _ _=>rfl) (λ b hb=> .inl hb) (λ _ _=>rfl) hO⟩
   .exact hm.gE
   .intro k o B b h1 h2 h3;have⟨a1,a2,a3⟩:=hm.ownB k o B b h1 h2 h3;refine⟨?_,a2,a3⟩;rintro (hb |hb)
    .exact a1 hb
    .have⟨c1,c2⟩:=qn b hb;rcases a3 with a3 |a3
     .exact c1 a3
     .omega
   .rintro b (hb |hb)
    .exact hm.lt b hb
    .exact Nat.lt_of_lt_of_le (qn b hb).2 hm.le
   .rintro b (hb |hb)
    .exact hm.up b hb
    .exact .inl hb
   .exact hm.keep
   .exact hm.le
   .exact hm.os
   .exact hm.tape
   .exact hm.output
   .exact hm.anch
   .exact hm.vars.mono (λ _ _=>rfl) (λ b hb=> .inl hb)
  refine⟨hr.defers,?_⟩;simp only[Vt,Sem.run_bind,hrun,Result.andThen_ok,Sem.run_pure];exact⟨_,rfl,_,β2,_,rfl,hmem,λb hb=> .inr hb,VR.mono (λ _ _ h=>h) (λ _ _=>rfl) (λ b hb=> .inl hb) _ _ hv2⟩
 rintro e a' w' ⟨β',I',σ',h1,h2,h3⟩;cases e with
 |normal=>exact fin a' w' β' I' σ' h1 h3
 |ret=>exact fin a' w' β' I' σ' h1 h3
 |_=>exact h3.elim
theorem ry.HD{F F':Nat->Prop}{βi:Nat->J cV}{w':World}{I':Nat->Prop}(hF:∀b,F b->F' b){rv:RV}{v:Value}(h:ry P F βi rv w' I' v):ry P F' βi rv w' I' v:=by
 have hc:∀(c:RC)(v:Value),yq P F βi c w' I' v->yq P F' βi c w' I' v:=by
  intro c v h;cases c with
  |d x=>exact h
  |fresh sz rows=>
   rcases h with h |⟨b,c,e,cap,o,s,h1,h2,h3⟩
   .exact .inl h
   .exact .inr ⟨b,c,e,cap,o,s,h1,hF b h2,h3⟩
  |whole j len=>exact h
 cases rv with
 |one c=>exact hc c v h
 |eV cs=>
  obtain⟨vs,rfl,h⟩:=h;refine⟨vs,rfl,?_⟩;have:∀(cs:U RC)(vs:U Value),Sy P F βi cs w' I' vs->Sy P F' βi cs w' I' vs:=by
   intro cs
   induction cs with
   |nil=>intro vs h;cases vs with
    |nil=>trivial
    |cons=>exact h.elim
   |cons c cs ih=>intro vs h;cases vs with
    |nil=>exact h.elim
    |cons v vs=>exact⟨hc c v h.1,ih vs h.2⟩
  exact this cs vs.toList h
theorem Nb{f:FuncId}{args:U AV}{rv:RV}(h:qt P f args [] [] rv):ri P f args rv:=by
 refine⟨h.1,λw I vs hlt hgv hv=>?_⟩;have hM:Mem P w (nC my I) my I (sd []) w:=by
  refine⟨λ k o hk=>by simp[sd]at hk,λk k' o o' B B' b hk=>by simp[sd]at hk,λk o B b hk=>by simp[sd]at hk,hlt,λb hb=> .inl hb,λ_ _ _=>rfl,aG _,rfl,rfl,rfl,λj B hj=>?_,hgv⟩;simp only[nC,my,ite_self]at hj;cases hj
 refine(h.2 w my I vs (λ _ _=>rfl) hM hv).mono ?_;rintro e w' ⟨v,I',rfl,g1,g2,g3⟩;have hno:∀b,¬(nC my I).own b:=λb ⟨j,B,hj,_⟩=>by cases hj
 refine⟨v,I',rfl,⟨g1.os,g1.tape,g1.output,g1.le,λb hb=>g1.keep b hb (hno b)⟩,g2,g1.lt,λb hb=>?_,ry.HD (λ b hb=>?_) g3⟩
 .rcases g1.up b hb with h |h |h
  .exact .inl h
  .exact(hno b h).elim
  .exact .inr h
 .rcases hb.1 with h |h
  .exact(hno b h).elim
  .exact h
end
open Go.RowKit Go.WideShapes Go.ChangeShapes
inductive CS where
 |int (k:IntKind)
 |bool
 |str
 |sl (row:List CS)
 |any
  |mu (row:List CS)
 |back
def aqz:CS->Tree->Prop
 | .int k,x=>∃n,x= .sc (.int k n)/\(Lit.int k n).wf=true
 | .bool,x=>∃b,x= .sc (.bool b)
 | .str,x=>∃s,x= .sc (.string s)/\s.size<=maxLen
 |_,_=>False
def apW:CS->Nat
 | .int .i64=>8
 | .int _=>1
 | .bool=>1
 | .str=>16
 |_=>24
def N6:CS->Nat
 | .int .i64=>8
 | .int _=>1
 | .bool=>1
 |_=>8
def WF:Nat->U CS->Nat
 |o,[]=>o
 |o,c::cs=>WF ((o+(N6 c -1))/N6 c*N6 c+apW c) cs
def NB(r:U CS):Nat:=bif r.any (λ c=>N6 c==8)then(WF 0 r+7)/8*8 else WF 0 r
mutual
inductive G4(row:List CS):Tree->Prop
 |mk (rows:List (List Tree)) (hl:rows.length<=maxLen) (h:pL row rows):G4 row (.sl rows)
inductive pL(row:List CS):List (List Tree)->Prop
 |nil:pL row []
 |cons {r:List Tree} {rs:List (List Tree)} (h:kh row row r) (t:pL row rs):pL row (r::rs)
inductive kh(row:List CS):List CS->List Tree->Prop
 |nil:kh row [] []
 |back {cs:List CS} {x:Tree} {xs:List Tree} (h:G4 row x) (t:kh row cs xs):kh row (.back::cs) (x::xs)
 |one {c:CS} {cs:List CS} {x:Tree} {xs:List Tree} (h:aqz c x) (t:kh row cs xs):kh row (c::cs) (x::xs)
end
mutual
def Fit:CS->Tree->Prop
 | .int k,x=>∃n,x= .sc (.int k n)/\(Lit.int k n).wf=true
 | .bool,x=>∃b,x= .sc (.bool b)
 | .str,x=>∃s,x= .sc (.string s)/\s.size<=maxLen
 | .sl row,x=>∃rows,x= .sl rows/\(rows.length<=maxLen/\rows.length*NB row<=reachBytes)/\∀r∈rows,dE row r
 | .any,_=>True
 | .mu row,x=>G4 row x
 | .back,_=>False
def dE:List CS->List Tree->Prop
 |[],[]=>True
 |c::cs,x::xs=>Fit c x/\dE cs xs
 |_,_=>False
end
mutual
def oA:Tree->Nat
 | .sc (.string s)=>s.size+1
 | .sc _=>1
 | .sl rows=>Bg rows+1
def Bg:List (List Tree)->Nat
 |[]=>0
 |r::rs=>kP r+Bg rs
def kP:List Tree->Nat
 |[]=>0
 |x::xs=>oA x+kP xs
end
theorem Ac:∀a b:U Tree,kP (a++b)=kP a+kP b
 |[],b=>by simp[kP]
 |x::a,b=>by simp only[cons_append,kP,Ac a b];omega
structure Bk(H:Type) where
 b:DataW H->Nat
 a:List (DataW H)->Nat
 str:∀l,b (.lit (.string l))=l.length+1
 int:∀k n,b (.lit (.int k n))=1
 bool:∀v,b (.lit (.bool v))=1
 nil:b .nil=1
 sl:∀e s,b (.slice e s)=a e+a s+1
 agg:∀p,b (.agg p)=a p+1
 a0:a []=0
 a1:∀d r,a (d::r)=b d+a r
theorem Bk.app{H:Type}(K:Bk H)(l r:U (DataW H)):K.a (l++r)=K.a l+K.a r:=by
 induction l with
 |nil=>simp[K.a0]
 |cons x l ih=>simp only[cons_append,K.a1,ih];omega
theorem Bk.drop{H:Type}(K:Bk H){l:U (DataW H×List MemPlace)}{j:Nat}{y:DataW H×List MemPlace}(h:l[j]? =some y):K.a ((l.map (·.1)).drop j)=K.b y.1+K.a ((l.map (·.1)).drop (j+1)):=by
 obtain⟨hj,rfl⟩:=dJ.1 h;rw[List.drop_eq_getElem_cons (by simpa using hj),K.a1];simp
def yl(P:Program)(go:TypeId->J (List CS)):Nat->U Field->J (List CS)
 |_,[]=>some []
 |o,f::fs=>(go f.type).bind λa=>if f.offset=o/\a.length=P.cellsOf f.type then(yl P go (o+a.length) fs).map (a++ ·)else none
def af6(P:Program)(t u:TypeId):J (List CS):=if u=t then some [.back]else match P.underlying u with
 |some (.int k)=>some [.int k]
 |some .bool=>some [.bool]
 |some .string=>some [.str]
 |_=>none
def N5(P:Program)(t e:TypeId):J (List CS):=match P.underlying e with
 |some (.struct fs)=>(yl P (af6 P t) 0 fs.toList).bind λr=>if r.length=P.cellsOf e/\0<r.length then some r else none
 |_=>none
def yz(P:Program)(cut:U TypeId):Nat->TypeId->J (List CS)
 | 0,_=>none
 |n+1,t=>match P.underlying t with
  |some (.int k)=>some [.int k]
  |some .bool=>some [.bool]
  |some .string=>some [.str]
  |some (.slice e)=>if cut.contains t then(match N5 P t e with |some row=>some [.mu row] |none=>some [.any])else(yz P cut n e).bind λr=>if r.length=P.cellsOf e/\0<r.length/\NB r<=P.bytesOf e then some [.sl r]else none
  |some (.struct fs)=>(yl P (yz P cut n) 0 fs.toList).bind λr=>if r.length=P.cellsOf t then some r else none
  |some (.array m e)=>(yz P cut n e).bind λr=>if r.length=P.cellsOf e/\m*r.length=P.cellsOf t then some (List.replicate m r).flatten else none
  |_=>none
theorem dE.length:∀(cs:U CS)(ts:U Tree),dE cs ts->ts.length=cs.length
 |[],[],_=>rfl
 |c::cs,x::xs,h=>by simp only[dE]at h;simp[dE.length cs xs h.2]
 |[],_::_,h=>by simp[dE]at h
 |_::_,[],h=>by simp[dE]at h
theorem dE.append:∀(cs:U CS)(ts:U Tree){cs':U CS}{ts':U Tree},dE cs ts->dE cs' ts'->dE (cs++cs') (ts++ts')
 |[],[],_,_,_,h=>h
 |c::cs,x::xs,_,_,h,h'=>by simp only[dE,cons_append]at h ⊢;exact⟨h.1,dE.append cs xs h.2 h'⟩
 |[],_::_,_,_,h,_=>by simp[dE]at h
 |_::_,[],_,_,h,_=>by simp[dE]at h
def Here(w:World)(b:Nat):Prop:=b<w.heap.size
section
variable {w:World} {I:Nat->Prop}
theorem ff.append:∀(ts:U Tree)(cs:U Value){ts':U Tree}{cs':U Value},ff w I ts cs->ff w I ts' cs'->ff w I (ts++ts') (cs++cs')
 |[],[],_,_,_,h=>h
 |_::xs,_::vs,_,_,h,h'=>⟨h.1,ff.append xs vs h.2 h'⟩
 |[],_::_,_,_,h,_=>h.elim
 |_::_,[],_,_,h,_=>h.elim
theorem ff.length:∀(ts:U Tree)(cs:U Value),ff w I ts cs->ts.length=cs.length
 |[],[],_=>rfl
 |_::xs,_::vs,h=>by simp[ff.length xs vs h.2]
 |[],_::_,h=>h.elim
 |_::_,[],h=>h.elim
theorem abl:∀(ts:U Tree)(cs:U Value)(b aa:Nat),ff w I ts cs->(∀ i,i<cs.length->w.cell? ⟨b,aa+i,none⟩=cs[i]?)->ea w I ts b aa
 |[],[],_,_,_,_=>by simp[ea]
 |x::xs,v::vs,b,aa,h,hc=>by
  simp only[ea];refine⟨⟨v,by simpa using hc 0 (by simp),h.1⟩,abl xs vs b (aa+1) h.2 λi hi=>?_⟩;have:=hc (i+1) (by simpa using hi);rw[show aa+(i+1)=aa+1+i by omega]at this;simpa using this
 |[],_::_,_,_,h,_=>h.elim
 |_::_,[],_,_,h,_=>h.elim
end
section
variable {H:Type} {enc:TypeId×Value->H} {P:Program} {w:World} {sp:Nat->Bool} {held:Bool}
theorem PO{a:Addr}{v:Value}(h:w.cell? a=some v):a.spot=none/\a.block<w.heap.size:=by
 simp only[World.cell?]at h;split at h
 .rename_i c e st hc;split at h
  .cases h
  .rename_i hs;exact⟨by simpa using hs,(Array.getElem?_eq_some_iff.1 hc).1⟩
 .cases h
def QQ(P:Program)(t:TypeId)(x:DataW H×List MemPlace):Prop:=∀k∈x.1.weights P t,k<=reachBytes
theorem yM{e:TypeId}:∀{l:U (DataW H)}{d:DataW H},d∈l->∀k∈d.weights P e,k∈DataW.weightsAll P e l
 |a::l,d,h,k,hk=>by
  simp only[DataW.weightsAll,bn];rcases aQ.1 h with rfl |h
  .exact .inl hk
  .exact .inr (yM h k hk)
theorem RA(m:Nat)(cs:U Value)(go:TypeId->J (List CS))(hgo:∀t sh,go t=some sh->∀cs x,DataW.trod enc P w 0 sp held m t cs=some x->QQ P t x->∃ts,ff w (Here w) ts cs/\dE sh ts/\∀K:Bk H,kP ts<=K.b x.1):
 ∀(fs:U Field)(l:U (DataW H×List MemPlace))(o:Nat)(sh:U CS),yl P go o fs=some sh->l.length=fs.length->(∀ (i:Nat) (f:Field) (x:DataW H×List MemPlace),fs[i]? =some f->l[i]? =some x->DataW.trod enc P w 0 sp held m f.type ((cs.drop f.offset).take (P.cellsOf f.type))=some x/\QQ P f.type x)->
  ∃ts,ff w (Here w) ts ((cs.drop o).take sh.length)/\dE sh ts/\∀K:Bk H,kP ts<=K.a (l.map (·.1))
 |[],l,o,sh,h,_,_=>by
  simp only[yl,aC]at h;subst h;exact⟨[],by simp[ff],by simp[dE],λK=>by simp[kP]⟩
 |f::fs,[],o,sh,h,hl,hf=>by simp at hl
 |f::fs,x::l,o,sh,h,hl,hf=>by
  simp only[yl,ai]at h;obtain⟨a,h1,h2⟩:=h;split at h2
  .rename_i hc;obtain⟨hc1,hc2⟩:=hc;simp only[dQ]at h2;obtain⟨r,h3,rfl⟩:=h2;have⟨hx,hz⟩:=hf 0 f x rfl rfl;obtain⟨ts,g1,g2,k1⟩:=hgo _ _ h1 _ _ hx hz;obtain⟨ts',g3,g4,k2⟩:=RA m cs go hgo fs l _ _ h3 (by simpa using hl) λi f' x' hf' hx'=>hf (i+1) f' x' hf' hx';refine⟨ts++ts',?_,dE.append _ _ g2 g4,λK=>by have:=k1 K;have:=k2 K;rw[Ac,aH,K.a1];omega⟩;rw[dP,List.take_add,List.drop_drop];rw[hc1,<- hc2]at g1;exact ff.append _ _ g1 g3
  .cases h2
theorem kh.append{row:U CS}:∀{a b:U CS}{x y:U Tree},kh row a x->kh row b y->kh row (a++b) (x++y)
 |_,_,_,_,.nil,h=>h
 |_,_,_,_,.back h t,h'=> .back h (t.append h')
 |_,_,_,_,.one h t,h'=> .one h (t.append h')
theorem Nc{row:U CS}(m:Nat)(cs:U Value)(go:TypeId->J (List CS))(hgo:∀t sh,go t=some sh->∀cs x,DataW.trod enc P w 0 sp held m t cs=some x->∃ts,ff w (Here w) ts cs/\kh row sh ts/\∀K:Bk H,kP ts<=K.b x.1):
 ∀(fs:U Field)(l:U (DataW H×List MemPlace))(o:Nat)(sh:U CS),yl P go o fs=some sh->l.length=fs.length->(∀ (i:Nat) (f:Field) (x:DataW H×List MemPlace),fs[i]? =some f->l[i]? =some x->DataW.trod enc P w 0 sp held m f.type ((cs.drop f.offset).take (P.cellsOf f.type))=some x)->
  ∃ts,ff w (Here w) ts ((cs.drop o).take sh.length)/\kh row sh ts/\∀K:Bk H,kP ts<=K.a (l.map (·.1))
 |[],l,o,sh,h,_,_=>by
  simp only[yl,aC]at h;subst h;exact⟨[],by simp[ff],.nil,λK=>by simp[kP]⟩
 |f::fs,[],o,sh,h,hl,hf=>by simp at hl
 |f::fs,x::l,o,sh,h,hl,hf=>by
  simp only[yl,ai]at h;obtain⟨a,h1,h2⟩:=h;split at h2
  .rename_i hc;obtain⟨hc1,hc2⟩:=hc;simp only[dQ]at h2;obtain⟨r,h3,rfl⟩:=h2;have hx:=hf 0 f x rfl rfl;obtain⟨ts,g1,g2,k1⟩:=hgo _ _ h1 _ _ hx;obtain⟨ts',g3,g4,k2⟩:=Nc m cs go hgo fs l _ _ h3 (by simpa using hl) λi f' x' hf' hx'=>hf (i+1) f' x' hf' hx';refine⟨ts++ts',?_,g2.append g4,λK=>by have:=k1 K;have:=k2 K;rw[Ac,aH,K.a1];omega⟩;rw[dP,List.take_add,List.drop_drop];rw[hc1,<- hc2]at g1;exact ff.append _ _ g1 g3
  .cases h2
theorem anI{t e:TypeId}{row:U CS}(hk:P.underlying t=some (.slice e))(hm:N5 P t e=some row):∀(fuel:Nat)(cs:U Value)(x:DataW H×List MemPlace),DataW.trod enc P w 0 sp held fuel t cs=some x->∃tr,ff w (Here w) [tr] cs/\G4 row tr/\∀K:Bk H,oA tr<=K.b x.1:=by
 intro fuel
 induction fuel using Nat.strongRecOn with
 |_ fuel ih=>
 intro cs x hx;have one:∀m,m<fuel->∀tB y,DataW.trod enc P w 0 sp held m e tB=some y->∃ts,ff w (Here w) ts tB/\kh row row ts/\ts.length=row.length/\∀K:Bk H,kP ts<=K.b y.1:=by
  intro m hmf tB y hy;unfold N5 at hm;split at hm
  .rename_i fs hke;simp only[ai]at hm;obtain⟨r,h1,h2⟩:=hm;split at h2
   .rename_i hr;injection h2 with h2;subst h2;obtain⟨xs,m',hm',rfl,hl,hxs,hf⟩:=DataW.trod_struct hke hy;obtain⟨ts,g1,g2,k1⟩:=Nc (row:=r) m' tB (af6 P t) (λ u sh hsh cs x hx=>by
     unfold af6 at hsh;split at hsh
     .rename_i hu;cases hsh;rw[hu]at hx;obtain⟨tr,a1,a2,a3⟩:=ih m' (by omega) cs x hx;exact⟨[tr],a1,.back a2 .nil,λK=>by have:=a3 K;simp only[kP];omega⟩
     .split at hsh
      .rename_i k BY;cases hsh;obtain⟨v,rfl,rfl,hw⟩:=DataW.trod_int BY hx;exact⟨[.sc (.int k v)],by simp[ff,TR,oneCell],.one ⟨v,rfl,hw⟩ .nil,λK=>by simp[kP,oA,K.int]⟩
      .rename_i BY;cases hsh;obtain⟨v,rfl,rfl⟩:=DataW.trod_bool BY hx;exact⟨[.sc (.bool v)],by simp[ff,TR,oneCell],.one ⟨v,rfl⟩ .nil,λK=>by simp[kP,oA,K.bool]⟩
      .rename_i BY;cases hsh;obtain⟨v,rfl,rfl,hw⟩:=DataW.trod_string BY hx;exact⟨[.sc (.string v)],by simp[ff,TR,oneCell],.one ⟨v,rfl,hw⟩ .nil,λK=>by simp[kP,oA,K.str]⟩
      .cases hsh) fs.toList xs 0 r h1 (by simpa using hxs) (λ i f x hi hxi=>by
     have hi':fs[i]? =some f:=(by simpa using hi);rw[hf i f hi',hxi])
    rw[List.drop_zero,take_of_length_le (by omega)]at g1;refine⟨ts,g1,g2,?_,λK=>by have:=k1 K;rw[K.agg];omega⟩;rw[ff.length _ _ g1];omega
   .cases h2
  .cases hm
 have rl:row.length=P.cellsOf e/\0<row.length:=by
  unfold N5 at hm;split at hm
  .simp only[ai]at hm;obtain⟨r,h1,h2⟩:=hm;split at h2
   .rename_i hr;cases h2;exact hr
   .cases h2
  .cases hm
 rcases DataW.trod_slice hk hx with ⟨rfl,rfl⟩ |⟨a,len,cap,elems,ag,m,hfm,rfl,rfl,_,hl,hmx,hlen,hel,_,_⟩
 .refine⟨.sl [],?_,.mk [] (by simp[maxLen]) .nil,λK=>by simp[oA,Bg,K.nil]⟩;simp only[ff,TR];exact⟨.inl ⟨trivial,none,0,rfl,λ_=>rfl⟩,trivial⟩
 .have each:∀i,i<len->∃tB y,w.cells? 0 (a.add (i*P.cellsOf e)) (P.cellsOf e)=some tB/\DataW.trod enc P w 0 sp held m e tB=some y/\elems[i]? =some y:=by
   intro i hi;have h3:=hel i hi;have h6:elems[i]? =some (elems[i]'(by omega)):=dU (by omega);rw[h6,ai]at h3;obtain⟨tB,h4,h5⟩:=h3;exact⟨tB,_,h4,h5,h6⟩
  by_cases h0:len=0
  .subst h0;refine⟨.sl [],?_,.mk [] (by simp[maxLen]) .nil,λK=>by simp[oA,Bg,K.sl]⟩;simp only[ff,TR];exact⟨.inl ⟨trivial,some a,cap,rfl,λh=>by cases h⟩,trivial⟩
  .obtain⟨cs0,y0,c0,_,_⟩:=each 0 (by omega);obtain⟨_,c1,c2⟩:=World.cells?_some c0;have c3:=c2 0 (by omega);rw[dU (by omega)]at c3;have c4:=PO c3;simp only[Nat.zero_mul,Addr.add,if_true]at c4;obtain⟨b,aa,s⟩:=a;simp only at c4;obtain⟨rfl,hb⟩:=c4;have rows:∀q j,j+q=len->∃rows:U (List Tree),rows.length=q/\cJ w (Here w) rows b (aa+j*P.cellsOf e) (P.cellsOf e)/\pL row rows/\∀K:Bk H,Bg rows<=K.a ((elems.map (·.1)).drop j):=by
    intro q
    induction q with
    |zero=>intro j _;exact⟨[],rfl,by simp[cJ],.nil,λK=>by simp[Bg]⟩
    |succ q ihq=>
     intro j hj;obtain⟨rows,g1,g2,g3,k3⟩:=ihq (j+1) (by omega);obtain⟨csj,y,g4,g5,gy⟩:=each j (by omega);obtain⟨ts,g6,g7,_,k6⟩:=one m (by omega) _ _ g5;obtain⟨_,g8,g9⟩:=World.cells?_some g4;refine⟨ts::rows,by simp[g1],?_,.cons g7 g3,λK=>by have:=k3 K;have:=k6 K;rw[K.drop gy,Bg];omega⟩;simp only[cJ];refine⟨(ff.length _ _ g6).trans g8,abl _ _ _ _ g6 λi hi=>?_,?_⟩
     .rw[<- g9 i (by omega),addr_add,addr_add]
     .rw[show aa+j*P.cellsOf e+P.cellsOf e=aa+(j+1)*P.cellsOf e by rw[Nat.add_mul];omega];exact g2
   obtain⟨rows,g1,g2,g3,k3⟩:=rows len 0 (by omega);refine⟨.sl rows,?_,.mk rows (by omega) g3,λK=>by have:=k3 K;rw[List.drop_zero]at this;rw[K.sl,oA];omega⟩;simp only[ff,TR];exact⟨.inr ⟨b,aa,cap,P.cellsOf e,by rw[g1],by omega,hb,by simpa using g2⟩,trivial⟩
theorem Ee{cut:U TypeId}:∀(n:Nat)(t:TypeId)(sh:U CS),yz P cut n t=some sh->∀(fuel:Nat)(cs:U Value)(x:DataW H×List MemPlace),DataW.trod enc P w 0 sp held fuel t cs=some x->QQ P t x->
 ∃ts,ff w (Here w) ts cs/\dE sh ts/\∀K:Bk H,kP ts<=K.b x.1
 | 0,_,_,h,_,_,_,_,_=>by simp[yz]at h
 |n+1,t,sh,h,fuel,cs,x,hx,hz=>by
  unfold yz at h;split at h
  .rename_i k hk;cases h;obtain⟨v,rfl,rfl,hw⟩:=DataW.trod_int hk hx;exact⟨[.sc (.int k v)],by simp[ff,TR,oneCell],by simp only[dE,Fit];exact⟨⟨v,rfl,hw⟩,trivial⟩,λK=>by simp[kP,oA,K.int]⟩
  .rename_i hk;cases h;obtain⟨v,rfl,rfl⟩:=DataW.trod_bool hk hx;exact⟨[.sc (.bool v)],by simp[ff,TR,oneCell],by simp only[dE,Fit];exact⟨⟨v,rfl⟩,trivial⟩,λK=>by simp[kP,oA,K.bool]⟩
  .rename_i hk;cases h;obtain⟨v,rfl,rfl,hw⟩:=DataW.trod_string hk hx;exact⟨[.sc (.string v)],by simp[ff,TR,oneCell],by simp only[dE,Fit];exact⟨⟨v,rfl,hw⟩,trivial⟩,λK=>by simp[kP,oA,K.str]⟩
  .rename_i e hk;split at h
   .split at h
    .rename_i row hmr;cases h;have⟨tr,g1,g2,k1⟩:=anI hk hmr fuel cs x hx;exact⟨[tr],g1,by simp only[dE,Fit];exact⟨g2,trivial⟩,λK=>by have:=k1 K;simp only[kP];omega⟩
    cases h;rcases DataW.trod_slice hk hx with ⟨rfl,rfl⟩ |⟨a,len,cap,elems,ag,m,_,rfl,rfl,_,hl,hm,hlen,hel,_,_⟩
    .exact⟨[.sc (.slice none 0 0)],by simp[ff,TR,oneCell],by simp[dE,Fit],λK=>by simp[kP,oA,K.nil]⟩
    .exact⟨[.sc (.slice (some a) len cap)],by simp[ff,TR,oneCell],by simp[dE,Fit],λK=>by simp[kP,oA,K.sl]⟩
   simp only[ai]at h;obtain⟨r,h1,h2⟩:=h;split at h2
   .rename_i hr;cases h2;rcases DataW.trod_slice hk hx with ⟨rfl,rfl⟩ |⟨a,len,cap,elems,ag,m,_,rfl,rfl,_,hl,hm,hlen,hel,_,_⟩
    .refine⟨[.sl []],?_,by simp only[dE,Fit];exact⟨⟨[],rfl,by simp[maxLen],by simp⟩,trivial⟩,λK=>by simp[kP,oA,Bg,K.nil]⟩;simp only[ff,TR];exact⟨.inl ⟨trivial,none,0,rfl,λ_=>rfl⟩,trivial⟩
    .have hzw:∀k,k=(elems.length+ag.length)*P.bytesOf e\/k∈DataW.weightsAll P e (elems.map (·.1))->k<=reachBytes:=by
      intro k hkk;refine hz k ?_;simp only[DataW.weights,hk,aQ,bn,length_map];rcases hkk with h |h
      .exact .inl h
      .exact .inr (.inl h)
     have each:∀i,i<len->∃tB y,w.cells? 0 (a.add (i*P.cellsOf e)) (P.cellsOf e)=some tB/\DataW.trod enc P w 0 sp held m e tB=some y/\QQ P e y/\elems[i]? =some y:=by
      intro i hi;have h3:=hel i hi;have h6:elems[i]? =some (elems[i]'(by omega)):=dU (by omega);rw[h6,ai]at h3;obtain⟨tB,h4,h5⟩:=h3;exact⟨tB,_,h4,h5,λk hk=>hzw k (.inr (yM (mem_map.2 ⟨_,List.getElem_mem (by omega),rfl⟩) k hk)),h6⟩
     have hbytes:len*NB r<=reachBytes:=by
      have h1:=hzw _ (.inl rfl);have h2:len*NB r<=(elems.length+ag.length)*P.bytesOf e:=Nat.mul_le_mul (by omega) hr.2.2;omega
     by_cases h0:len=0
     .subst h0;refine⟨[.sl []],?_,by simp only[dE,Fit];exact⟨⟨[],rfl,by simp[maxLen],by simp⟩,trivial⟩,λK=>by simp[kP,oA,Bg,K.sl]⟩;simp only[ff,TR];exact⟨.inl ⟨trivial,some a,cap,rfl,λh=>by cases h⟩,trivial⟩
     .obtain⟨cs0,y0,c0,_,_,_⟩:=each 0 (by omega);obtain⟨_,c1,c2⟩:=World.cells?_some c0;have c3:=c2 0 (by omega);rw[dU (by omega)]at c3;have c4:=PO c3;simp only[Nat.zero_mul,Addr.add,if_true]at c4;obtain⟨b,aa,s⟩:=a;simp only at c4;obtain⟨rfl,hb⟩:=c4;have rows:∀m j,j+m=len->∃rows:U (List Tree),rows.length=m/\cJ w (Here w) rows b (aa+j*P.cellsOf e) (P.cellsOf e)/\(∀ x∈rows,dE r x)/\∀K:Bk H,Bg rows<=K.a ((elems.map (·.1)).drop j):=by
       intro m
       induction m with
       |zero=>intro j _;exact⟨[],rfl,by simp[cJ],by simp,λK=>by simp[Bg]⟩
       |succ m ih=>
        intro j hj;obtain⟨rows,g1,g2,g3,k3⟩:=ih (j+1) (by omega);obtain⟨csj,y,g4,g5,g5z,gy⟩:=each j (by omega);obtain⟨ts,g6,g7,k6⟩:=Ee n e r h1 _ _ _ g5 g5z;obtain⟨_,g8,g9⟩:=World.cells?_some g4;refine⟨ts::rows,by simp[g1],?_,λx hx=>?_,λK=>by have:=k3 K;have:=k6 K;rw[K.drop gy,Bg];omega⟩
        .simp only[cJ];refine⟨(ff.length _ _ g6).trans g8,abl _ _ _ _ g6 λi hi=>?_,?_⟩
         .rw[<- g9 i (by omega),addr_add,addr_add]
         .rw[show aa+j*P.cellsOf e+P.cellsOf e=aa+(j+1)*P.cellsOf e by rw[Nat.add_mul];omega];exact g2
        .rcases aQ.1 hx with rfl |hx
         .exact g7
         .exact g3 x hx
      obtain⟨rows,g1,g2,g3,k3⟩:=rows len 0 (by omega);refine⟨[.sl rows],?_,by simp only[dE,Fit];exact⟨⟨rows,rfl,⟨by omega,by rw[g1];exact hbytes⟩,g3⟩,trivial⟩,λK=>by have:=k3 K;rw[List.drop_zero]at this;rw[K.sl];simp only[kP,oA];omega⟩;simp only[ff,TR];exact⟨.inr ⟨b,aa,cap,P.cellsOf e,by rw[g1],by omega,hb,by simpa using g2⟩,trivial⟩
   .cases h2
  .rename_i fs hk;simp only[ai]at h;obtain⟨r,h1,h2⟩:=h;split at h2
   .rename_i hr;injection h2 with h2;subst h2;obtain⟨xs,m,_,rfl,hl,hxs,hf⟩:=DataW.trod_struct hk hx;obtain⟨ts,g1,g2,k1⟩:=RA m cs (yz P cut n) (λ t sh hsh cs x hx hz=>Ee n t sh hsh m cs x hx hz) fs.toList xs 0 r h1 (by simpa using hxs) (λ i f x hi hxi=>by
     have hi':fs[i]? =some f:=(by simpa using hi);have:=hf i f hi';rw[hxi]at this;refine⟨this,λk hk'=>hz k ?_⟩;simp only[DataW.weights,hk];exact DataW.weights_mem_each (j:=i) (t:=f.type) (d:=x.1) (by simp[hi']) (by simp[hxi]) k hk')
    refine⟨ts,?_,g2,λK=>by have:=k1 K;rw[K.agg];omega⟩;rw[List.drop_zero,take_of_length_le (by omega)]at g1;exact g1
   .cases h2
  .rename_i m e hk;simp only[ai]at h;obtain⟨r,h1,h2⟩:=h;split at h2
   .rename_i hr;cases h2;obtain⟨xs,q,_,rfl,hl,hxs,hf⟩:=DataW.trod_array hk hx;have part:∀i j,j+i=m->∃ts,ff w (Here w) ts (cs.drop (j*P.cellsOf e))/\dE (List.replicate i r).flatten ts/\∀K:Bk H,kP ts<=K.a ((xs.map (·.1)).drop j):=by
     intro i
     induction i with
     |zero=>
      intro j hj;refine⟨[],?_,by simp[dE],λK=>by simp[kP]⟩;have:j=m:=(by omega);subst this;rw[List.drop_of_length_le (by rw[hl,<- hr.2,<- hr.1];omega)];simp[ff]
     |succ i ih=>
      intro j hj;obtain⟨ts,g1,g2,k1⟩:=ih (j+1) (by omega);have:=hf j (by omega);have hxj:xs[j]? =some (xs[j]'(by omega)):=dU (by omega);rw[hxj]at this;obtain⟨ts0,g3,g4,k3⟩:=Ee n e r h1 _ _ _ this (λ k hk'=>hz k (by
       simp only[DataW.weights,hk];exact yM (mem_map.2 ⟨_,List.getElem_mem (by omega),rfl⟩) k hk'))
      refine⟨ts0++ts,?_,?_,λK=>by have:=k1 K;have:=k3 K;rw[K.drop hxj,Ac];omega⟩
      .have:=ff.append _ _ g3 g1;rw[show (j+1)*P.cellsOf e=j*P.cellsOf e+P.cellsOf e by rw[Nat.add_mul];omega,<- List.drop_drop,List.take_append_drop]at this;exact this
      .rw[List.replicate_succ,List.flatten_cons];exact dE.append _ _ g4 g2
    obtain⟨ts,g1,g2,k1⟩:=part m 0 (by omega);exact⟨ts,by simpa using g1,g2,λK=>by have:=k1 K;rw[List.drop_zero]at this;rw[K.agg];omega⟩
   .cases h2
  .cases h
inductive VS where
 |one (c:CS)
 |agg (cs:List CS)
def KB(P:Program)(cut:U TypeId)(t:TypeId):J VS:=
 (yz P cut 12 t).bind λsh=>match P.underlying t with
  |some (.struct _) |some (.array _ _)=>some (.agg sh)
  |_=>match sh with
   |[c]=>some (.one c)
   |_=>none
def FF:VS->TV->Prop
 | .one c,x=>∃y,x= .s y/\Fit c y
 | .agg cs,x=>∃ys,x= .a ys/\dE cs ys
def Vv:U VS->U TV->Prop
 |[],[]=>True
 |s::ss,x::xs=>FF s x/\Vv ss xs
 |_,_=>False
def L5:TV->Nat
 | .s y=>oA y
 | .a ys=>kP ys
def yi:U TV->Nat
 |[]=>0
 |x::xs=>L5 x+yi xs
theorem alf{cut:U TypeId}{t:TypeId}{s:VS}{v:Value}{d:DataW H}{ps:U MemPlace}{b0:Nat}(hs:KB P cut t=some s)(hval:Value.okWide P w .any b0 t v)(hd:DataW.Trod enc P w 0 sp held t v d ps)(hz:∀k∈d.weights P t,k<=reachBytes):
 ∃x,rx w (Here w) x v/\FF s x/\∀K:Bk H,L5 x<=K.b d:=by
 obtain⟨fuel,hf⟩:=hd;simp only[KB,ai]at hs;obtain⟨sh,h1,h2⟩:=hs;obtain⟨ts,g1,g2,k1⟩:=Ee 12 t sh h1 _ _ _ hf hz;have hag:∀cs:Array Value,v= .agg cs->s= .agg sh->∃x,rx w (Here w) x v/\FF s x/\∀K:Bk H,L5 x<=K.b d:=by
  rintro cs rfl rfl;exact⟨.a ts,⟨cs,rfl,by simpa[Value.cells]using g1⟩,⟨ts,rfl,g2⟩,k1⟩
 unfold Value.okWide at hval;split at h2
 .rename_i hu;injection h2 with h2;rw[hu]at hval;obtain⟨cs,rfl,_⟩:=hval;exact hag cs rfl h2.symm
 .rename_i hu;injection h2 with h2;rw[hu]at hval;obtain⟨cs,rfl,_⟩:=hval;exact hag cs rfl h2.symm
 .rename_i hu1 hu2;split at h2
  .rename_i c;cases h2;have hone:v.cells.toList=[v]:=by
    cases hu:P.underlying t with
    |none=>rw[hu]at hval;simp[Cell.okWide,Cell.ok,hu]at hval
    |some d=>
     rw[hu]at hval;cases v<;>first |rfl |(exfalso;revert hval;cases d<;>simp_all [Cell.okWide,Cell.ok])
   rw[hone]at g1
   match ts,g1,g2,k1 with
   |[y],g1,g2,k1=>
    simp only[dE]at g2;exact⟨.s y,g1.1,⟨y,rfl,g2.1⟩,λK=>by have:=k1 K;simpa[kP,L5]using this⟩
   |[],g1,_,_=>exact g1.elim
   |_::_::_,g1,_,_=>exact g1.2.elim
  .cases h2
theorem ZP{cut:U TypeId}:∀{ts:U TypeId}{ss:U VS}{vs:U Value}{ds:U (DataW H)}{ps:U MemPlace}{b0:Nat},ts.mapM (KB P cut)=some ss->
 (∀ (j:Nat) t v,ts[j]? =some t->vs[j]? =some v->Value.okWide P w .any b0 t v)->DataW.TrodAll enc P w 0 sp held ts vs ds ps->(∀ k∈DataW.weightsEach P ts ds,k<=reachBytes)->∃xs,m6 w (Here w) xs vs/\Vv ss xs/\∀K:Bk H,yi xs<=K.a ds
 |[],ss,vs,ds,ps,b0,hs,_,hd,_=>by
  obtain⟨rfl,rfl,rfl⟩:=trodAll_nil hd;simp only[List.mapM_nil,Option.pure_def,aC]at hs;subst hs;exact⟨[],trivial,trivial,λK=>by simp[yi]⟩
 |t::ts,ss,vs,ds,ps,b0,hs,hval,hd,hz=>by
  obtain⟨v,vs',d,ds',p,q,rfl,rfl,rfl,h0,r0⟩:=trodAll_cons hd;simp only[List.mapM_cons,Option.bind_eq_bind,ai,Option.pure_def,aC]at hs;obtain⟨s,h1,ss',h2,rfl⟩:=hs;obtain⟨x,g1,g2,k1⟩:=alf h1 (hval 0 t v rfl rfl) h0 (λ k hk=>hz k (by simp only[DataW.weightsEach,bn];exact .inl hk));obtain⟨xs,g3,g4,k2⟩:=ZP h2 (λ j t v h h'=>hval (j+1) t v h h') r0 (λ k hk=>hz k (by simp only[DataW.weightsEach,bn];exact .inr hk));exact⟨x::xs,⟨g1,g3⟩,⟨g2,g4⟩,λK=>by have:=k1 K;have:=k2 K;rw[yi,K.a1];omega⟩
theorem RB{β:Nat->J cV}{I:Nat->Prop}:∀(xs:U TV)(vs:U Value),m6 w I xs vs->bj P β w I (xs.map TV.av) vs
 |[],[],_=>by simp[bj]
 |x::xs,v::vs,h=>by
  simp only[aH,bj];refine⟨?_,RB xs vs h.2⟩;have h1:=h.1;cases x with
  |s y=>simp only[TV.av,VR];exact h1
  |a cs=>
   obtain⟨us,rfl,h2⟩:=h1;simp only[TV.av,VR];refine⟨us,rfl,?_⟩;have:∀(cs:U Tree) (us:U Value),ff w I cs us->bj P β w I (cs.map AV.t) us:=by
    intro cs
    induction cs with
    |nil=>intro us h;cases us<;>first |(simp [bj];done) |exact h.elim
    |cons c cs ih=>intro us h;cases us with
     |nil=>exact h.elim
     |cons u us=>simp only[aH,bj,VR];exact⟨h.1,ih us h.2⟩
   exact this cs us.toList h2
 |[],_::_,h=>h.elim
 |_::_,[],h=>h.elim
end
section
variable {H:Type} {enc:TypeId×Value->H} {P:Program}
theorem af7{f:Func}{s:ChangeSpec}{apart fresh handsOn again:Bool}{W W':World}{args:Array Value}{v:Value}{ds gs:U (DataW H)}{before pa pv:U MemPlace}
 (hW:DataW.Whole enc P f.params.toList s.vars apart W args.toList ds gs before)
 (hres:∀(b:Nat)(sp:Nat->Bool)(hd:Bool),DataW.TrodAll enc P W' b sp hd f.resultTypes.toList (v.resultList f.resultTypes.size) (s.fn H (ds++gs)).results [])
 (hargs:∀sp:Nat->Bool,(∀ p∈before,sp p.block=true)->DataW.TrodAll enc P W' 0 sp true f.params.toList args.toList (s.fn H (ds++gs)).args pa)
 (hvars:∀sp:Nat->Bool,(∀ p∈before,sp p.block=true)->DataW.TrodVars enc P W' sp s.vars (s.fn H (ds++gs)).vars pv)
 (hps:before=pa++pv) (hb:Below W.heap.size W W')
 (hok:∀(j:Nat)(t:TypeId)(r:Value),f.resultTypes[j]? =some t->(v.resultList f.resultTypes.size)[j]? =some r->Value.okWide P W' .any 0 t r):
 s.post enc P f apart fresh handsOn again W args v W':=by
 have hlt:∀p∈before,p.block<W.heap.size:=λp hp=>hW.lt p hp;have hold:∀p∈before,(λ b=>decide (b<W.heap.size)) p.block=true:=λp hp=>by simpa using hlt p hp
 refine⟨ds,gs,before,[],pa,pv,hW,hres _ _ _,hargs _ hold,hvars _ hold,World.keptBut_mono (λ p hp=>⟨hp,?_⟩) (hb.frame (· ∈before)),λ_=>?_⟩
 .rw[hps,bn]at hp;exact Or.inr hp
 .obtain⟨_,_,_,_,_,hz,hn⟩:=hW;refine⟨hok,_,_,([]++pa)++pv,⟨[]++pa,pv,trodAll_append (hargs _ (λ _ _=>rfl)) (hres _ _ _),hvars _ (λ _ _=>rfl),rfl,?_,?_⟩,?_⟩
  .intro b aa hp;have hin:MemPlace.cell b aa∈before:=(by rw[hps];simpa using hp);rw[hb.frozen (hlt _ hin)];exact hz b aa hin
  .intro ha;have:=hn ha;rw[hps]at this;simpa using this
  .intro p hp _;rw[hps];simpa using hp
theorem Ld(hl:laidOutB P=true){W W':World}(hb:Below W.heap.size W W'):∀{ts:U TypeId}{vs:U Value}{ds:U (DataW H)}{ps:U MemPlace},(∀ t∈ts,P.readableRec t=true/\t<P.types.size)->
 DataW.TrodAll enc P W 0 (λ _=>true) true ts vs ds ps->(∀ x∈ps,x.block<W.heap.size)->∀sp:Nat->Bool,(∀ p∈ps,sp p.block=true)->DataW.TrodAll enc P W' 0 sp true ts vs ds ps
 |[],vs,ds,ps,_,hd,_,sp,_=>by
  obtain⟨rfl,rfl,rfl⟩:=trodAll_nil hd;exact trodAll_mk0
 |t::ts,vs,ds,ps,ht,hd,hlt,sp,hsp=>by
  obtain⟨v,vs',d,ds',p,q,rfl,rfl,rfl,h0,r0⟩:=trodAll_cons hd;obtain⟨h1,h2⟩:=ht t (by simp)
  exact trodAll_cons_mk (WideElems.Trod_stays hl h1 h2 h0 (λ x hx=>hb.same (hlt x (by simp[hx]))) (λ x hx=>hsp x (by simp[hx])))
   (Ld hl hb (λ t ht'=>ht t (by simp[ht'])) r0 (λ x hx=>hlt x (by simp[hx])) sp (λ x hx=>hsp x (by simp[hx])))
theorem RD{w:World}{base:Nat}{sp:Nat->Bool}{held:Bool}:∀{ts:U TypeId}{vs:U Value}{ds:U (DataW H)}{ps:U MemPlace},DataW.TrodAll enc P w base sp held ts vs ds ps->ds.length=ts.length
 |[],_,_,_,h=>by
  obtain⟨_,rfl,_⟩:=trodAll_nil h;rfl
 |_::_,_,_,_,h=>by
  obtain⟨_,_,_,_,_,_,_,rfl,_,_,h2⟩:=trodAll_cons h;simp[RD h2]
theorem adp:∀{ts:U TypeId}{ds:U (DataW H)}{vt:U TypeId}{gs:U (DataW H)},ds.length=ts.length->∀k∈DataW.weightsEach P ts ds,k∈DataW.weightsEach P (ts++vt) (ds++gs)
 |[],[],_,_,_,k,h=>by simp[DataW.weightsEach]at h
 |t::ts,d::ds,vt,gs,hl,k,h=>by
  simp only[DataW.weightsEach,bn,cons_append]at h ⊢;rcases h with h |h
  .exact .inl h
  .exact .inr (adp (by simpa using hl) k h)
 |[],_::_,_,_,h,_,_=>by simp at h
 |_::_,[],_,_,h,_,_=>by simp at h
theorem abn{cut:U TypeId}{C:Checked}{f:FuncId}{fn:Func}{s:ChangeSpec}{ss:U VS}{tb:TypeId}(hl:laidOutB C.prog=true)(hread:(fn.params.toList.all λt=>C.prog.readableRec t&&decide (t<C.prog.types.size))=true)
 (hss:fn.params.toList.mapM (KB C.prog cut)=some ss) (hvars:s.vars=[]) (hres:fn.resultTypes=#[tb]) (hb:C.prog.underlying tb=some .bool)
 (hs:∀ds:U (DataW H),ds.length=fn.params.toList.length->s.fn H ds={ results:=[.lit (.bool true)],args:=ds })
 {B:Nat->Prop} (BE:∀xs,Vv ss xs->(∀ n,B n->yi xs<=n)->ri C.prog f (xs.map TV.av) (.one (.d (.s (.sc (.bool true))))))
 {W:World} {base:Nat} {args:Array Value} {ds gs:U (DataW H)} {before:U MemPlace}
 (hval:∀(j:Nat) t v,fn.params[j]? =some t->args[j]? =some v->Value.okWide C.prog W .any base t v)
 (hW:DataW.Whole enc C.prog fn.params.toList s.vars false W args.toList ds gs before)
 {vt:U TypeId} (hz:(DataW.weightsEach C.prog (fn.params.toList++vt) (ds++gs)).all (· <=reachBytes)=true) (hv:j0 W (Here W)) (hB:∀n,B n->∃K:Bk H,K.a ds<=n):
 Calls C.prog f args W λe W'=>∃v,e= .returned v/\s.post enc C.prog fn false true false false W args v W':=by
 have hW':=hW;obtain⟨p,q,hA,hV,rfl,_,_⟩:=hW;rw[hvars]at hV;obtain⟨rfl,rfl⟩:=trodVars_none hV;have hlen:=RD hA;obtain⟨xs,g1,g2,g3⟩:=ZP hss (λ j t v h1 h2=>hval j t v (by simpa using h1) (by simpa using h2)) hA (λ k hk=>by
  have:=all_eq_true.1 hz k (adp hlen k hk);simpa using this)
 simp only[append_nil]at hW';have hlt:∀x∈p,x.block<W.heap.size:=λx hx=>hW'.lt x hx;refine((BE xs g2 (λ n hn=>by have⟨K,hK⟩:=hB n hn;exact Nat.le_trans (g3 K) hK)).2 W (Here W) args (λ _ h=>h) hv (RB _ _ g1)).mono λe W' ⟨v,I',he,hbel,_,_,_,hr⟩=>⟨v,he,?_⟩;simp only[ry,yq,rx,TR]at hr;obtain⟨rfl,_⟩:=hr;have hfn:s.fn H (ds++[])={ results:=[.lit (.bool true)],args:=ds }:=by rw[append_nil];exact hs ds hlen
 refine af7 (pa:=p) (pv:=[]) hW' (λ b sp hd=>?_) (λ sp hsp=>?_) (λ sp _=>?_) (by simp) hbel (ok_one (by rw[hres]) rfl (okWide_bool_mk hb _))
 .rw[hfn,hres];exact trodAll_mk1 (shut_bool hb _)
 .rw[hfn];refine Ld hl hbel (λ t ht=>?_) hA hlt sp hsp;have:=all_eq_true.1 hread t ht;simpa using this
 .rw[hfn,hvars];rfl
end
def WD:AI->TypeDesc->Bool
 | .slice e,.slice e'=>e==e'
 | .arr n e,.array n' e'=>n==n'&&e==e'
 | .struct fs,.struct fa=>fa.toList.map (λ f=>(f.offset,f.type))==fs
 | .bool,.bool=>true
 | .str,.string=>true
 | .int k,.int k'=>k==k'
 | .map k e,.map k' e'=>k==k'&&e==e'
 | .other,_=>true
 |_,_=>false
def ZZ:Value->Value->Bool
 | .int k a,.int k' b=>k==k'&&a==b
 | .bool a,.bool b=>a==b
 | .string a,.string b=>decide (a=b)
 | .slice none 0 0,.slice none 0 0=>true
 | .pointer none,.pointer none=>true
 | .nilFunc,.nilFunc=>true
 | .nilIface,.nilIface=>true
 | .map none,.map none=>true
 |_,_=>false
theorem adq{a b:Value}(h:ZZ a b=true):a=b:=by
 unfold ZZ at h;split at h<;>simp_all
def PS:U Value->U Value->Bool
 |[],[]=>true
 |a::as,b::bs=>ZZ a b&&PS as bs
 |_,_=>false
theorem Nf:∀{a b:U Value},PS a b=true->a=b
 |[],[],_=>rfl
 |a::as,b::bs,h=>by simp only[PS,aN]at h;rw[adq h.1,Nf h.2]
 |[],_::_,h=>by simp[PS]at h
 |_::_,[],h=>by simp[PS]at h
def ZS(P:Program)(t:TypeId)(ti:nr):Bool:=
 match P.info? t,P.underlying t with
 |some info,some d=>match info.zero with
  |some z=>info.size==ti.size&&info.bytes==ti.bytes&&s8 d==ti.agg&&WD ti.k d&&ti.zero.all kA&&ti.zero.length==ti.size&&
   (ti.cmp.isEmpty || match d with
    | .struct fa=>!P.stoodInHeld t&&!P.eqGuardType P.depth t&&gh P 0 fa.toList ti.cmp
    | .array _ _=>ti.cmp==[9]&&!P.eqGuardType P.depth t
    |_=>false)&&PS z.cells.toList ti.zero&&tg ti.agg z
  |none=>false
 |_,_=>false
theorem af8{k:AI}{d:TypeDesc}(h:WD k d=true):R0 k d:=by
 unfold WD at h;split at h
 .simp only[beq_iff_eq]at h;subst h;rfl
 .simp only[aN,beq_iff_eq]at h;obtain⟨rfl,rfl⟩:=h;rfl
 .rename_i fs fa;exact⟨fa,rfl,by simpa using h⟩
 .rfl
 .rfl
 .simp only[beq_iff_eq]at h;subst h;rfl
 .simp only[aN,beq_iff_eq]at h;obtain⟨rfl,rfl⟩:=h;rfl
 .trivial
 .cases h
theorem adr{P:Program}{t:TypeId}{ti:nr}(h:ZS P t ti=true):mj P t ti:=by
 unfold ZS at h;split at h
 .rename_i info d h1 h2;split at h
  .rename_i z h3;simp only[aN,beq_iff_eq]at h;obtain⟨⟨⟨⟨⟨⟨⟨⟨a1,a2⟩,a3⟩,a4⟩,a5⟩,a6⟩,a7⟩,a8⟩,a9⟩:=h;refine⟨⟨info,d,z,h1,h2,a1,a2,h3,Nf a8,a3,af8 a4⟩,a5,a6,λinfo' z' e1 e2=>by rw[h1]at e1;cases e1;rw[h3]at e2;cases e2;exact a9,λhne=>?_⟩;simp only[Bool.or_eq_true]at a7;rcases a7 with a7 |a7
   .exact absurd (List.isEmpty_iff.1 a7) hne
   .split at a7
    .rename_i fa;simp only[aN,Bool.not_eq_true']at a7;exact .inl ⟨fa,h2,a7.1.1,a7.1.2,a7.2⟩
    .simp only[aN,Bool.not_eq_true',beq_iff_eq]at a7;exact .inr a7
    .cases a7
  .cases h
 .cases h
def RF(l:U (TypeId×nr)):er:=λt=>(l.find? λp=>p.1==t).map (·.2)
theorem ali{P:Program}{l:U (TypeId×nr)}(h:(l.all λp=>ZS P p.1 p.2)=true):fu P (RF l):=by
 intro t ti ht;simp only[RF,dQ]at ht;obtain⟨p,hp,rfl⟩:=ht;have h1:=List.find?_some hp;simp only[beq_iff_eq]at h1;subst h1;exact adr (all_eq_true.1 h p (List.mem_of_find?_eq_some hp))
inductive CT(ι:Type) where
 |int (k:IntKind)
 |bool
 |str
 |sl (e:CT ι)
 |st (i:ι)
 |any
 |mp (k v:CT ι)
 deriving DecidableEq
structure SE where
 ι:Type
 dec:DecidableEq ι
 T:ι->Type
 row:(i:ι)->T i->List Tree
instance (E:SE):DecidableEq E.ι:=E.dec
section
variable (E:SE)
@[reducible] def CT.T:CT E.ι->Type
 | .int _=>Int
 | .bool=>Bool
 | .str=>ByteArray
 | .sl e=>U (CT.T e)
 | .st i=>E.T i
 | .any=>Tree
 | .mp k v=>U (CT.T k×CT.T v)
def CT.row:(c:CT E.ι)->CT.T E c->U Tree
 | .int k,n=>[.sc (.int k n)]
 | .bool,b=>[.sc (.bool b)]
 | .str,s=>[.sc (.string s)]
 | .sl e,l=>[.sl (List.map (CT.row e) l)]
 | .st i,x=>E.row i x
 | .any,x=>[x]
 | .mp _ _,_=>[.sl []]
def CT.one{ι:Type}:CT ι->Bool
 | .st _=>false
 |_=>true
def CT.tv:(c:CT E.ι)->CT.T E c->TV
 | .int k,n=> .s (.sc (.int k n))
 | .bool,b=> .s (.sc (.bool b))
 | .str,s=> .s (.sc (.string s))
 | .sl e,l=> .s (.sl (List.map (CT.row E e) l))
 | .st i,x=> .a (E.row i x)
 | .any,x=> .s x
 | .mp _ _,_=> .s (.sl [])
def HL:U (CT E.ι)->Type
 |[]=>Unit
 |c::l=>CT.T E c×HL l
def HL.row:(l:U (CT E.ι))->HL E l->U Tree
 |[],_=>[]
 |c::l,h=>CT.row E c h.1++HL.row l h.2
def HL.oc:(l:U (CT E.ι))->HL E l->U TV
 |[],_=>[]
 |c::l,h=>CT.tv E c h.1::HL.oc l h.2
end
structure Arr(E:SE) where
 i:E.ι
 c:CT E.ι
 f:E.T i->List (CT.T E c)
 g:List (CT.T E c)->Option (E.T i)
structure SX extends SE where
 c7:ι->List (CT ι)
 get:(i:ι)->T i->HL toSE (c7 i)
 make:(i:ι)->HL toSE (c7 i)->T i
 mw:∀i x,row i x=HL.row toSE (c7 i) (get i x)
 gp:∀i h,row i (make i h)=HL.row toSE (c7 i) h
 flat:∀i,(c7 i).all CT.one=true
 gv:Nat->Option ((c:CT ι)×CT.T toSE c)
 zj:∀g,(gv g).map (λ p=>CT.row toSE p.1 p.2)=(wc g).map λr=>r.map Tree.sc
 ar:TypeId->Option (Arr toSE):=λ_=>none
 aqK:∀t a,ar t=some a->a.c.one=true/\(∀ x,row a.i x=((a.f x).map (CT.row toSE a.c)).flatten)/\∀l x,a.g l=some x->a.f x=l:=by intro t a h;cases h
section
variable (X:SX)
abbrev SX.C:=CT X.ι
abbrev SX.t(c:CT X.ι):Type:=CT.T X.toSE c
def CT.sz:CT X.ι->Nat
 | .st i=>(X.c7 i).length
 |_=>1
inductive DV where
 |c (t:CT X.ι) (x:CT.T X.toSE t)
 |agg (cs:List DV)
 |eV (vs:List DV)
 |own (k aa len:Nat)
 |ptr (k row aa:Nat)
 |qv (k:Nat) (n:Int) (aa:Nat)
 |tt (k row aa m:Nat) (n:Int)
 |rp (t:CT X.ι) (x:CT.T X.toSE t) (aa:Nat)
 |xa (t:CT X.ι) (x:CT.T X.toSE t) (aa m:Nat) (n:Int)
 |fn (f:FuncId) (first caps:List DV)
 |eo (as:List (CT X.ι)) (r:CT X.ι) (φ:HL X.toSE as->Option (CT.T X.toSE r))
 |mp (k:Nat)
 |oz (k len:Nat)
 |raw (v:Value)
 |nil
 |ub
 |skip
 |undef
inductive bm where
 |cells (sz:Nat) (rows:List (List (DV X)))
 |ep (c:CT X.ι) (l:List (CT.T X.toSE c))
 |map (kc vc:CT X.ι) (l:List (CT.T X.toSE kc×CT.T X.toSE vc))
structure d5 where
 env:List (Nat×DV X)
 obj:List (Nat×Option (bm X))
 nx:Nat
 log:List Nat
variable {X}
mutual
def den:DV X->AV
 | .c t x=>(CT.tv X.toSE t x).av
 | .agg cs=> .agg (bS cs)
 | .eV vs=> .eV (bS vs)
 | .own k aa len=> .own k aa len
 | .ptr k row aa=> .ptr k row aa
 | .qv k n aa=> .ptr k n.toNat aa
 | .tt k row aa _ n=> .ptr k row (aa+n.toNat)
 | .rp t x aa=> .eM (CT.row X.toSE t x) aa
 | .xa t x aa _ n=> .eM (CT.row X.toSE t x) (aa+n.toNat)
 | .fn f first caps=> .fn f (bS first) (bS caps)
 | .eo as r φ=> .eo λts u=>∃h x,φ h=some x/\ts=HL.oc X.toSE as h/\u=CT.tv X.toSE r x
 | .mp k=> .mp k
 | .oz k len=> .oz k len
 | .raw v=>cv v
 | .nil=> .dc
 | .ub=> .ub
 | .skip=> .undef
 | .undef=> .undef
def bS:List (DV X)->List AV
 |[]=>[]
 |x::xs=>den x::bS xs
end
theorem nV:∀l:U (DV X),bS l=l.map den
 |[]=>rfl
 |x::xs=>by simp only[bS,aH,nV xs]
def bI:bm X->aU
 | .cells sz rows=>⟨sz,rows.map bS⟩
 | .ep c l=>⟨CT.sz X c,aK (l.map (CT.row X.toSE c))⟩
 | .map kc vc l=>⟨l.length,l.map λp=>[(CT.tv X.toSE kc p.1).av,(CT.tv X.toSE vc p.2).av]⟩
def iC(u:U (Nat×Option (bm X))):U (Nat×Option aU):=u.map λp=>(p.1,p.2.map bI)
def hZ(o:U (Nat×Option (bm X)))(k:Nat):J (bm X):=(lk o k).join
def fi(e:U (Nat×DV X))(t:Nat):DV X:=(lk e t).getD .undef
def d5.st(s:d5 X):St:=⟨λ t=>den (fi s.env t),λk=>(hZ s.obj k).map bI,λ_=>none⟩
def jA(a b:CT X.ι)(x:CT.T X.toSE a):J (CT.T X.toSE b):=
 match decEq a b with
 |isTrue h=>some (h ▸ x)
 |isFalse _=>none
theorem rM{a b:CT X.ι}{x:CT.T X.toSE a}{y:CT.T X.toSE b}(h:jA a b x=some y):∃e:a=b,y=e ▸ x:=by
 unfold jA at h;split at h
 .rename_i e _;injection h with h;exact⟨e,h.symm⟩
 .cases h
def HL.cells:(l:U (CT X.ι))->HL X.toSE l->U (DV X)
 |[],_=>[]
 |c::l,h=> .c c h.1::HL.cells l h.2
theorem row_one{c:CT X.ι}(h:c.one=true)(x:CT.T X.toSE c):∃t,CT.row X.toSE c x=[t]/\CT.tv X.toSE c x= .s t:=by cases c<;>first |exact⟨_,rfl,rfl⟩ |cases h
theorem HL.qr:∀(l:U (CT X.ι))(h:HL X.toSE l),l.all CT.one=true->bS (HL.cells l h)=(HL.row X.toSE l h).map AV.t
 |[],_,_=>rfl
 |c::l,h,ha=>by
  simp only[all_cons,aN]at ha;obtain⟨t,h1,h2⟩:=row_one ha.1 h.1;simp only[HL.cells,bS,den,HL.row,h1,h2,TV.av,HL.qr l h.2 ha.2,cons_append,bT,aH]
theorem HL.pb:∀(l:U (CT X.ι))(h:HL X.toSE l),l.all CT.one=true->(HL.row X.toSE l h).length=l.length
 |[],_,_=>rfl
 |c::l,h,ha=>by
  simp only[all_cons,aN]at ha;obtain⟨t,h1,_⟩:=row_one ha.1 h.1;simp only[HL.row,h1,cons_append,bT,bG,HL.pb l h.2 ha.2]
theorem Ef(c:CT X.ι)(x:CT.T X.toSE c):(CT.row X.toSE c x).length=CT.sz X c:=by
 cases c<;>try rfl
 rename_i i;exact(congrArg List.length (X.mw i x)).trans (HL.pb _ _ (X.flat i))
def uX:(c:CT X.ι)->CT.T X.toSE c->U (DV X)
 | .st i,x=>HL.cells (X.c7 i) (X.get i x)
 |c,x=>[.c c x]
theorem pu(c:CT X.ι)(x:CT.T X.toSE c):bS (uX c x)=(CT.row X.toSE c x).map AV.t:=by
 cases c<;>try rfl
 rename_i i;exact(HL.qr _ _ (X.flat i)).trans (congrArg (List.map AV.t) (X.mw i x).symm)
def vH:DV X->Bool
 | .agg _ | .eV _ | .undef | .skip | .raw _ | .c (.st _) _=>false
 |_=>true
theorem RG{x:DV X}(h:vH x=true):o8 (den x)=true:=by
 cases x<;>try rfl
 case c t x=>cases t<;>first |rfl |simp[vH]at h
 all_goals simp[vH]at h
def cellsD:DV X->J (List (DV X))
 | .agg cs=>if cs.all vH then some cs else none
 | .c (.st i) x=>some (uX (.st i) x)
 | .eV _ | .undef | .skip | .raw _=>none
 |x=>some [x]
theorem aiv{l:U (DV X)}(h:l.all vH=true):(bS l).all o8=true:=by
 rw[nV,List.all_map,all_eq_true];exact λx hx=>RG (all_eq_true.1 h x hx)
theorem Eg{x:DV X}{cs:U (DV X)}(h:cellsD x=some cs):cellsOf (den x)=some (bS cs):=by
 cases x
 case c t x=>
  cases t
  case st i=>
   simp only[cellsD,aC]at h;subst h;simp only[den,CT.tv,TV.av,cellsOf,pu];show(if ((X.row i x).map AV.t).all o8 then some ((X.row i x).map AV.t)else none)=some ((X.row i x).map AV.t);rw[aZ];rw[List.all_map,all_eq_true];exact λ_ _=>rfl
  all_goals simp only[cellsD,aC]at h;subst h;rfl
 case agg l=>
  simp only[cellsD]at h;split at h
  .cases h;simp only[den,cellsOf];rw[aZ (aiv ‹_›)]
  .cases h
 all_goals simp only[cellsD,aC,reduceCtorEq]at h;try (subst h;rfl)
def uc:Value->DV X
 | .slice none 0 0=> .nil
 | .int k n=> .c (.int k) n
 | .bool b=> .c .bool b
 | .string s=> .c .str s
 |v=> .raw v
theorem aiw(v:Value):den (uc (X:=X) v)=cv v:=by
 unfold uc;split<;>rfl
theorem Cz(l:U Value):bS (l.map (uc (X:=X)))=l.map cv:=by
 rw[nV,map_map];exact map_congr_left λv _=>aiw v
def YH(env:Nat->DV X):Operand->DV X
 | .tmp t=>env t
 | .const v=>uc v
 | .global g=>match X.gv g with
  |some p=> .rp p.1 p.2 0
  |none=> .undef
 | .func f=> .fn f [] []
theorem Vw(env:Nat->DV X)(x:Operand):den (YH env x)=lR (λ t=>den (env t)) x:=by
 cases x with
 |global g=>
  have h:=X.zj g;simp only[YH,lR];cases h1:X.gv g with
  |none=>
   rw[h1]at h;cases h2:wc g with
   |none=>rfl
   |some r=>rw[h2]at h;cases h
  |some p=>
   rw[h1]at h;cases h2:wc g with
   |none=>rw[h2]at h;cases h
   |some r=>
    rw[h2]at h;injection h with h;simp only[den,h]
 |const v=>exact aiw _
 |tmp t=>rfl
 |func f=>rfl
end
def bo{α:Type}(l:U α)(n:Int):J α:=bif decide (0<=n)then l[n.toNat]? else none
def sub{α:Type}(l:U α)(aa len:Nat):U α:=(l.drop aa).take len
def cN(n:Int)(len:Nat):Bool:=decide (0<=n)&&decide (n<(len:Int))
def gH{α β:Type}(a:α)(f:α->β):β:=f a
def bP(lo len ln n bytes:Nat):Bool:=decide (lo=len)&&decide (ln=n)&&decide ((len+n)*bytes<=140737488355328)&&decide (len+n<=maxLen)
def aE(a b:Nat):Bool:=decide (a=b)
def sZ(l h:Int)(len:Nat):Bool:=decide (0<=l)&&decide (l<=h)&&decide (h<=(len:Int))
def Vx(a b:ByteArray):Bool:=Op.bytesLess a.toList b.toList
def Vy(a b:ByteArray):Bool:=decide (a.size+b.size<=maxLen)
abbrev iN(n:Int):Int:=n
abbrev bN(b:Bool):Bool:=b
def Vz{A:Type}:U Bool->J A->J A
 |[],k=>k
 |c::cs,k=>bif c then Vz cs k else none
section
variable {X:SX} {A:Type}
abbrev KK(X:SX)(A:Type):=DV X->U (Nat×Option (bm X))->U Nat->U Nat->J A
def ZD(t:Bool)(x y:DV X):DV X:=
 match x,y with
 | .c a p,.c b q=>match decEq b a with
  |isTrue h=> .c a (bif t then p else h ▸ q)
  |isFalse _=>bif t then .c a p else .c b q
 |x,y=>bif t then x else y
def H8(agg:Bool)(size:Nat)(cs:U (DV X)):J (DV X):=
 if cs.length=size then(if agg then some (.agg cs)else match cs with |[x]=>if vH x then some x else none |_=>none)else none
def N4(agg:Bool)(size:Nat)(c:CT X.ι)(y:CT.T X.toSE c)(aa:Nat):J (DV X):=
 match c,y with
 | .st i,y=>if aa=0/\agg=true/\size=(X.c7 i).length then some (.c (.st i) y)else H8 agg size (((uX (.st i) y).drop aa).take size)
 |c,y=>H8 agg size (((uX c y).drop aa).take size)
def Ky(d:DV X)(c:CT X.ι):J (CT.T X.toSE c):=
 match d,c with
 | .c a x,c=>jA a c x
 | .nil,.sl _=>some []
 | .nil,.any=>some (.sl [])
 |_,_=>none
def yN:U (DV X)->(l:U (CT X.ι))->J (HL X.toSE l)
 |[],[]=>some ()
 |d::ds,c::l=>(Ky d c).bind λx=>(yN ds l).bind λh=>some (x,h)
 |_,_=>none
def Ek(d:DV X)(i:X.ι):J (CT.T X.toSE (.st i)):=
 match d with
 | .agg cs=>(yN cs (X.c7 i)).bind λh=>some (X.make i h)
 | .c a x=>jA a (.st i) x
 |_=>none
def dat(d:DV X)(c:CT X.ι):J (CT.T X.toSE c):=
 match c with
 | .st i=>Ek d i
 |c=>Ky d c
def mk1(c:CT X.ι):U (DV X)->J (CT.T X.toSE c)
 |[d]=>Ky d c
 |_=>none
def H9(c:CT X.ι)(ds:U (DV X)):J (CT.T X.toSE c):=
 match c with
 | .st i=>(yN ds (X.c7 i)).bind λh=>some (X.make i h)
 |c=>mk1 c ds
def Kx(r:U (DV X))(aa:Nat)(cs:U (DV X)):U (DV X):=r.take aa++cs++r.drop (aa+cs.length)
variable (T:er) (am:TypeId->Option (CT X.ι))
def RM(t:TypeId)(x:DV X)(get:Nat->J (bm X))(k:KK X A):J A:=
 (T t).bind λti=>match x with
 | .ptr kk row aa=>(get kk).bind λo=>match o with
  | .cells _ rows=>(rows[row]?).bind λr=>(H8 ti.agg ti.size ((r.drop aa).take ti.size)).bind λv=>k v [] [kk] []
  |_=>none
 | .qv kk n aa=>(get kk).bind λo=>match o with
  | .ep c l=>(bo l n).bind λy=>(N4 ti.agg ti.size c y aa).bind λv=>k v [] [kk] []
  |_=>none
 | .rp c y aa=>(N4 ti.agg ti.size c y aa).bind λv=>k v [] [] []
 |_=>none
def Q4(t:TypeId)(x y:DV X)(get:Nat->J (bm X))(k:KK X A):J A:=
 (T t).bind λti=>(cellsD y).bind λcs=>if cs.length=ti.size then match x with
 | .ptr kk row aa=>(get kk).bind λo=>match o with
  | .cells sz rows=>(rows[row]?).bind λr=>if aa+cs.length<=r.length then k .undef [(kk,some (.cells sz (rows.set row (Kx r aa cs))))] [kk] [kk]else none
  |_=>none
 | .qv kk n aa=>(get kk).bind λo=>match o with
  | .ep c l=>(bo l n).bind λy=>if aa+cs.length<=CT.sz X c then(H9 c (Kx (uX c y) aa cs)).bind λz=>k .undef [(kk,some (.ep c (l.set n.toNat z)))] [kk] [kk]else none
  |_=>none
 |_=>none else none
def LG(t:TypeId)(x:DV X)(f:Nat)(k:KK X A):J A:=
 (zY T t f).bind λp=>match x with
 | .ptr kk row aa=>k (.ptr kk row (aa+p.1)) [] [] []
 | .qv kk n aa=>k (.qv kk n (aa+p.1)) [] [] []
 | .rp c y aa=>k (.rp c y (aa+p.1)) [] [] []
 |_=>none
def aga(t:TypeId)(x:DV X)(f:Nat)(k:KK X A):J A:=
 (zY T t f).bind λp=>match x with
 | .agg cs=>(H8 p.2.agg p.2.size ((cs.drop p.1).take p.2.size)).bind λv=>k v [] [] []
 | .c (.st i) y=>(H8 p.2.agg p.2.size (((uX (.st i) y).drop p.1).take p.2.size)).bind λv=>k v [] [] []
 |_=>none
def LJ(t:TypeId)(x j:DV X)(get:Nat->J (bm X))(k:KK X A):J A:=
 (T t).bind λti=>match ti.k,j with
 | .slice e,.c (.int _) n=>(T e).bind λei=>match x with
  | .c (.sl c) l=>if CT.sz X c=ei.size then(bo l n).bind λy=>k (.rp c y 0) [] [] []else none
  | .own kk aa len=>(get kk).bind λo=>match o with
   | .ep c _=>if CT.sz X c=ei.size then bif cN n len then k (.qv kk ((aa:Int)+iN n) 0) [] [kk] []else none else none
   | .cells sz _=>if sz=ei.size then bif cN n len then k (.ptr kk (aa+n.toNat) 0) [] [kk] []else none else none
   | .map _ _ _=>none
  |_=>none
 | .arr m e,.c (.int _) n=>(T e).bind λei=>bif cN n m then match x with
  | .ptr kk row aa=>k (.ptr kk row (aa+n.toNat*ei.size)) [] [] []
  | .qv kk r aa=>k (.qv kk r (aa+n.toNat*ei.size)) [] [] []
  | .rp c y aa=>k (.rp c y (aa+n.toNat*ei.size)) [] [] []
  |_=>none
  else none
 |_,_=>none
def VA(x:DV X)(j:Nat)(k:KK X A):J A:=
 match x with
 | .eV vs=>(vs[j]?).bind λv=>k v [] [] []
 |_=>none
def Ia(op:BinOp)(kd:IntKind)(a b:Int):(DV X)×Option Bool:=
 match op with
 | .add=>(.c (.int kd) (kd.wrap (a+b)),none)
 | .sub=>(.c (.int kd) (kd.wrap (a -b)),none)
 | .mul=>(.c (.int kd) (kd.wrap (a*b)),none)
 | .quo=>(.c (.int kd) (kd.wrap (a.tdiv b)),some (b !=0))
 | .rem=>(.c (.int kd) (a.tmod b),some (b !=0))
 | .and=>(.c (.int kd) (bits .and kd a b),none)
 | .or=>(.c (.int kd) (bits .or kd a b),none)
 | .xor=>(.c (.int kd) (bits .xor kd a b),none)
 | .andNot=>(.c (.int kd) (bits .andNot kd a b),none)
 | .shl=>(.c (.int kd) (kd.wrap (a*2 ^ b.toNat)),some (decide (0<=b)&&decide (b<=kd.bits)))
 | .shr=>(.c (.int kd) (a/2 ^ b.toNat),some (decide (0<=b)&&decide (b<=kd.bits)))
 | .eql=>(.c .bool (a==b),none)
 | .neq=>(.c .bool (a !=b),none)
 | .lss=>(.c .bool (decide (a<b)),none)
 | .leq=>(.c .bool (decide (a<=b)),none)
 | .gtr=>(.c .bool (decide (a>b)),none)
 | .geq=>(.c .bool (decide (a>=b)),none)
def abo:Nat->DV X->DV X->J Bool
 | 0,.c (.int j) a,.c (.int k) b=>if j=k then some (iN a==iN b)else none
 | 1,.c .bool a,.c .bool b=>some (bN a==bN b)
 | 2,.c .str a,.c .str b=>some (a.toList==b.toList)
 |_,_,_=>none
def vY:U Nat->U (DV X)->U (DV X)->J Bool
 |[],[],[]=>some true
 |k::ks,x::xs,y::ys=>(abo k x y).bind λa=>(vY ks xs ys).bind λb=>some (a&&b)
 |_,_,_=>none
def Nx:DV X->J (List (DV X))
 | .agg cs=>some cs
 | .c (.st i) y=>some (uX (.st i) y)
 |_=>none
def Wr(op:BinOp)(t:TypeId)(x y:DV X)(k:KK X A):J A:=
 match x,y with
 | .c (.int kd) a,.c (.int yk) b=>if kd=yk\/op= .shl\/op= .shr then match (Ia op kd a b:DV X×Option Bool).2 with
  |none=>k (Ia op kd a b).1 [] [] []
  |some g=>bif g then k (Ia op kd a b).1 [] [] []else none
  else none
 | .c .str a,.c .str b=>match op with
  | .eql=>k (.c .bool (a.toList==b.toList)) [] [] []
  | .neq=>k (.c .bool (!(a.toList==b.toList))) [] [] []
  | .lss=>k (.c .bool (Vx a b)) [] [] []
  | .gtr=>k (.c .bool (!(Vx a b || a.toList==b.toList))) [] [] []
  | .add=>bif Vy a b then k (.c .str (a++b)) [] [] []else none
  |_=>none
 | .c .bool a,.c .bool b=>(T t).bind λti=>match ti.k,op with
  | .bool,.eql=>k (.c .bool (bN a==bN b)) [] [] []
  | .bool,.neq=>k (.c .bool (!(bN a==bN b))) [] [] []
  |_,_=>none
 |x,y=>(Nx x).bind λxs=>(Nx y).bind λys=>(T t).bind λti=>if ti.cmp=[]then none else(vY ti.cmp xs ys).bind λb=>match op with
  | .eql=>k (.c .bool b) [] [] []
  | .neq=>k (.c .bool (!b)) [] [] []
  |_=>none
def Q3(op:UnOp)(x:DV X)(k:KK X A):J A:=
 match op,x with
 | .not,.c .bool b=>k (.c .bool (!b)) [] [] []
 | .neg,.c (.int kd) n=>k (.c (.int kd) (kd.wrap (0 -iN n))) [] [] []
 |_,_=>none
def JS(mx:Bool)(kd:IntKind):Int->U (DV X)->J Int
 |a,[]=>some a
 |a,.c (.int k') b::r=>if k'=kd then JS mx kd (if mx then max a b else min a b) r else none
 |_,_=>none
def Mb(mx:Bool)(args:U (DV X))(k:KK X A):J A:=
 match args with
 | .c (.int kd) a::r=>(JS mx kd a r).bind λn=>k (.c (.int kd) n) [] [] []
 |_=>none
def Wk(t:TypeId)(x:DV X)(k:KK X A):J A:=
 (T t).bind λti=>match ti.k,x with
 | .slice _,.c (.sl _) l=>k (.c (.int .i64) (l.length:Int)) [] [] []
 | .slice _,.own _ _ len=>k (.c (.int .i64) (len:Int)) [] [] []
 | .slice _,.oz _ len=>k (.c (.int .i64) (len:Int)) [] [] []
 | .slice _,.nil=>k (.c (.int .i64) (0:Int)) [] [] []
 | .str,.c .str s=>k (.c (.int .i64) (s.size:Int)) [] [] []
 |_,_=>none
def ZQ(place:Nat->J (Nat×Nat)):U (DV X)->U (Nat×DV X)->J (List (DV X))
 |cells,[]=>some cells
 |cells,(j,x)::ag=>(place j).bind λp=>(cellsD x).bind λcs=>
  if cs.length=p.2/\p.1+cs.length<=cells.length then ZQ place (Kx cells p.1 cs) ag else none
def agb(t:TypeId)(parts:U (Nat×DV X))(k:KK X A):J A:=
 (T t).bind λti=>match ti.k with
 | .struct fs=>if fs.all (λ p=>(T p.2).isSome)then
  (ZQ (λ j=>(fs[j]?).bind λp=>(T p.2).bind λui=>some (p.1,ui.size)) (ti.zero.map uc) parts).bind λcells=>k (.agg cells) [] [] []else none
 | .arr _ e=>(T e).bind λei=>(ZQ (λ j=>some (j*ei.size,ei.size)) (ti.zero.map uc) parts).bind λcells=>k (.agg cells) [] [] []
 |_=>none
def Ks(c:CT X.ι):Nat->U (Nat×DV X)->J (List (CT.T X.toSE c))
 |_,[]=>some []
 |n,(j,x)::r=>if j=n then(dat x c).bind λy=>(Ks c (n+1) r).bind λl=>some (y::l)else none
def Ib(i:Nat)(t:TypeId)(len:Nat)(parts:U (Nat×DV X))(k:KK X A):J A:=
 (T t).bind λti=>match ti.k with
 | .slice e=>(T e).bind λei=>(am e).bind λc=>if ei.size=0\/len*ei.size>2 ^ 24\/CT.sz X c≠ei.size\/parts.length≠len then none else
  (Ks c 0 parts).bind λl=>k (.own (cT i) 0 len) [(cT i,some (.ep c l))] [] []
 |_=>none
def agc(i:Nat)(e:TypeId)(k:KK X A):J A:=
 (T e).bind λti=>k (.ptr (cT i) 0 0) [(cT i,some (.cells ti.size [ti.zero.map uc]))] [] []
def Wg(i:Nat)(x:DV X)(k:KK X A):J A:=
 (cellsD x).bind λcs=>k (.ptr (cT i) 0 0) [(cT i,some (.cells cs.length [cs]))] [] []
def At(d:Int):J (DV X)->J Int
 |none=>some d
 |some (.c (.int _) n)=>some n
 |_=>none
def agf(t:TypeId)(x:DV X)(lo hi:J (DV X))(get:Nat->J (bm X))(k:KK X A):J A:=
 (T t).bind λti=>match ti.k with
 | .slice e=>(T e).bind λei=>match x with
  | .own kk aa len=>(get kk).bind λo=>if (bI o).sz=ei.size then(At 0 lo).bind λl=>(At len hi).bind λh=>
   bif sZ l h len then k (.own kk (aa+l.toNat) (h.toNat -l.toNat)) [] [kk] []else none else none
  | .c (.sl c) xs=>if CT.sz X c=ei.size then(At 0 lo).bind λl=>(At xs.length hi).bind λh=>
   bif sZ l h xs.length then k (.c (.sl c) (sub xs l.toNat (h.toNat -l.toNat))) [] [] []else none else none
  |_=>none
 |_=>none
def Wf(y:DV X)(c:CT X.ι)(get:Nat->J (bm X)):J (Nat×List (CT.T X.toSE c)×List Nat):=
 match y with
 | .own kk aa len=>(get kk).bind λo=>match o with
  | .ep b l=>(jA (.sl b) (.sl c) l).bind λl=>some (len,sub l aa len,[kk])
  |_=>none
 | .c b l=>(jA b (.sl c) l).bind λ(l:List (CT.T X.toSE c))=>some (l.length,l,[])
 |_=>none
def VB{α:Type}:Nat->U α->U α
 | 0,l=>l
 |n+1,l=>l.drop (n+1)
def abp(i:Nat)(t:TypeId)(x y:DV X)(get:Nat->J (bm X))(k:KK X A):J A:=
 (T t).bind λti=>match ti.k with
 | .slice e=>(T e).bind λei=>(am e).bind λc=>if CT.sz X c=ei.size then(Wf y c get).bind λs=>match x with
  | .own kk aa len=>(get kk).bind λo=>match o with
   | .ep b l=>(jA (.sl b) (.sl c) l).bind λ(l:List (CT.T X.toSE c))=>bif bP (VB aa l).length len s.2.1.length s.1 ei.bytes then gH (VB aa l++s.2.1) λr=>k (.own (cT i) 0 r.length) [(cT i,some (.ep c r)),(kk,none)] (kk::s.2.2) [kk]else none
   |_=>none
  | .nil=>bif bP 0 0 s.2.1.length s.1 ei.bytes then gH s.2.1 λr=>k (.own (cT i) 0 r.length) [(cT i,some (.ep c r))] s.2.2 []else none
  |_=>none
  else none
 |_=>none
def VD(i:Nat)(b:Builtin)(args:U (DV X))(c7:U TypeId)(get:Nat->J (bm X))(k:KK X A):J A:=
 match b,args,c7 with
 | .len,[x],[t]=>Wk T t x k
 | .max,args,_=>Mb true args k
 | .min,args,_=>Mb false args k
 | .append,[x,y],[t,u]=>if t=u then abp T am i t x y get k else none
 |_,_,_=>none
def L7(i:Nat)(o:Op)(ρ:Operand->DV X)(get:Nat->J (bm X))(k:KK X A):J A:=
 match o with
 | .move x=>k (ρ x) [] [] []
 | .assign x=>k (ρ x) [] [] []
 | .pick c a b=>match ρ c with | .c .bool t=>k (ZD t (ρ a) (ρ b)) [] [] [] |_=>none
 | .alloc e=>agc T i e k
 | .box _ x=>Wg i (ρ x) k
 | .build t parts=>agb T t (parts.toList.map λp=>(p.1,ρ p.2)) k
 | .buildSlice t len parts=>Ib T am i t len (parts.toList.map λp=>(p.1,ρ p.2)) k
 | .load t a=>RM T t (ρ a) get k
 | .store t a x=>Q4 T t (ρ a) (ρ x) get k
 | .binOp op t x y _=>Wr T op t (ρ x) (ρ y) k
 | .unOp op _ x=>Q3 op (ρ x) k
 | .makeFunc (.func f) first caps=>k (.fn f (first.toList.map ρ) (caps.toList.map ρ)) [] [] []
 | .slice t x lo hi none=>agf T t (ρ x) (lo.map ρ) (hi.map ρ) get k
 | .fieldAddr t x f=>LG T t (ρ x) f k
 | .field t x f=>aga T t (ρ x) f k
 | .indexAddr t x j=>LJ T t (ρ x) (ρ j) get k
 | .extract x j=>VA (ρ x) j k
 | .call { callee:= .builtin b,args:=args,argTypes:=c7 }=>VD T am i b (args.toList.map ρ) c7.toList get k
 |_=>none
end
section
variable {X:SX} {A:Type} {T:er} {am:TypeId->Option (CT X.ι)} {get:Nat->Option (bm X)} {k:KK X A} {r:A} {i:Nat}
def fB(get:Nat->J (bm X)):Nat->J aU:=λj=>(get j).map bI
theorem eU{rd:U Nat}{j:Nat}{o:bm X}(hj:j∈rd)(h:get j=some o):dO rd (fB get) j=some (bI o):=by simp[dO,hj,fB,h]
theorem lq(l:U (DV X)):(bS l).length=l.length:=by simp[nV]
theorem ko(l:U (DV X))(a b:Nat):bS ((l.drop a).take b)=((bS l).drop a).take b:=by simp[nV,map_take,map_drop]
theorem Ng{α:Type}{l:U α}{n:Int}{x:α}(h:bo l n=some x):0<=n/\l[n.toNat]? =some x:=by
 unfold bo at h;by_cases hn:0<=n
 .simpa[hn]using h
 .simp[hn]at h
theorem ajz(t:Bool)(x y:DV X):den (ZD t x y)=L0 t (den x) (den y):=by
 rw[UZ];have base:∀x y:DV X,den (bif t then x else y)=if t=true then den x else den y:=λx y=>by cases t<;>rfl
 unfold ZD;split
 .rename_i a p b q;split
  .rename_i h _;subst h;cases t<;>rfl
  .exact base _ _
 .exact base _ _
theorem CB{agg:Bool}{size:Nat}{cs:U (DV X)}{v:DV X}(h:H8 agg size cs=some v):part' agg size (bS cs)=some (den v):=by
 unfold H8 at h;unfold part';rw[lq];split at h
 .rename_i hl;rw[aZ hl];cases agg with
  |true=>simp only[if_true,aC]at h ⊢;subst h;rfl
  |false=>
   simp only[Bool.false_eq_true,if_false]at h ⊢
   match cs,h with
   |[x],h=>
    simp only at h;split at h
    .rename_i hx;cases h;simp only[bS];rw[aZ (RG hx)]
    .cases h
   |[],h=>cases h
   |_::_::_,h=>cases h
 .cases h
theorem PU{agg:Bool}{size aa:Nat}{c:CT X.ι}{y:CT.T X.toSE c}{v:DV X}(h:H8 agg size (((uX c y).drop aa).take size)=some v):part' agg size ((((CT.row X.toSE c y).drop aa).take size).map AV.t)=some (den v):=by
 have:=CB h;rw[ko,pu]at this;rw[<- this,map_take,map_drop]
theorem ZR{agg:Bool}{size aa:Nat}{c:CT X.ι}{y:CT.T X.toSE c}{v:DV X}(h:N4 agg size c y aa=some v):part' agg size ((((CT.row X.toSE c y).drop aa).take size).map AV.t)=some (den v):=by
 cases c
 case st j=>
  simp only[N4]at h;split at h
  .rename_i hh;obtain⟨rfl,rfl,rfl⟩:=hh;cases h;have hl:(CT.row X.toSE (.st j) y).length=(X.c7 j).length:=Ef (.st j) y;rw[List.drop_zero,take_of_length_le (by omega)];unfold part';rw[aZ (by simpa using hl)];rfl
  .exact PU h
 all_goals exact PU h
theorem ajA{t:TypeId}{x:DV X}(h:RM T t x get k=some r):∃cL rd dv ab,K6 T t (den x) cL (dO rd (fB get))=some ab/\jq ab.obs/\ab.v=den dv/\ab.upd=[]/\k dv [] rd []=some r:=by
 unfold RM at h;unfold K6;rw[ai]at h;obtain⟨ti,h1,h⟩:=h;simp only[h1,af];split at h
 .rename_i kk row aa;rw[ai]at h;obtain⟨o,h2,h⟩:=h;split at h
  .rename_i sz rows;rw[ai]at h;obtain⟨rw',h3,h⟩:=h;rw[ai]at h;obtain⟨v,h4,h⟩:=h;refine⟨.none,[kk],v,⟨den v,[],[]⟩,?_,trivial,rfl,rfl,h⟩;have h5:=CB h4;rw[ko]at h5;simp[den,eU (List.mem_singleton_self kk) h2,bI,h3,h5,pv]
  .cases h
 .rename_i kk n aa;rw[ai]at h;obtain⟨o,h2,h⟩:=h;split at h
  .rename_i c l;rw[ai]at h;obtain⟨y,h3,h⟩:=h;rw[ai]at h;obtain⟨v,h4,h⟩:=h;have⟨_,h6⟩:=Ng h3;refine⟨.row ((CT.row X.toSE c y).map AV.t),[kk],v,⟨den v,[],[(aK (l.map (CT.row X.toSE c)))[n.toNat]? =some ((CT.row X.toSE c y).map AV.t)]⟩,?_,?_,rfl,rfl,h⟩
   .have h5:=ZR h4;rw[map_take,map_drop]at h5;simp only[den,eU (List.mem_singleton_self kk) h2,af,bI,h5,mT]
   .simp[jq,aK,h6]
  .cases h
 .rename_i c y aa;have⟨v,h4,h⟩:=ai.1 h;refine⟨.none,[],v,⟨den v,[],[]⟩,?_,trivial,rfl,rfl,h⟩;simp only[den,ZR h4,af,pv]
 .cases h
theorem VE(a:U (DV X))(aa:Nat)(cs:U (DV X)):bS (Kx a aa cs)=put' (bS a) aa (bS cs):=by simp[Kx,put',nV,map_take,map_drop]
theorem oH{a c:CT X.ι}{x:CT.T X.toSE a}{y:CT.T X.toSE c}(h:jA a c x=some y):den (.c a x)=den (.c c y)/\CT.row X.toSE a x=CT.row X.toSE c y:=by
 have⟨e,h⟩:=rM h;subst e;subst h;exact⟨rfl,rfl⟩
theorem PH{c:CT X.ι}(hc:c.one=true)(x:CT.T X.toSE c):[(CT.tv X.toSE c x).av]=(CT.row X.toSE c x).map AV.t:=by
 obtain⟨t,h1,h2⟩:=row_one hc x;rw[h1,h2];rfl
theorem aoZ{c:CT X.ι}(x:CT.T X.toSE c):wk (CT.tv X.toSE c x).av=(CT.tv X.toSE c x).av:=by cases c<;>rfl
theorem vZ{d:DV X}{c:CT X.ι}{x:CT.T X.toSE c}(h:Ky d c=some x):wk (den d)=(CT.tv X.toSE c x).av:=by
 unfold Ky at h;split at h
 .rw[(oH h).1];exact aoZ x
 .cases h;rfl
 .cases h;rfl
 .cases h
theorem abr{d:DV X}{c:CT X.ι}{x:CT.T X.toSE c}(hc:c.one=true)(h:Ky d c=some x):vH d=true:=by
 cases d
 case c a y=>
  obtain⟨e,_⟩:=rM (show jA a c y=some x by cases c<;>exact h);subst e;cases a<;>first |rfl |simp[CT.one]at hc
 case nil=>rfl
 all_goals cases c<;>cases h
theorem yO:∀{ds:U (DV X)}{l:U (CT X.ι)}{h:HL X.toSE l},yN ds l=some h->l.all CT.one=true->(bS ds).map wk=(HL.row X.toSE l h).map AV.t/\ds.all vH=true
 |[],[],h,_,_=>⟨rfl,rfl⟩
 |d::ds,c::l,h,hr,ha=>by
  simp only[yN]at hr;have⟨x,h1,hr⟩:=ai.1 hr;have⟨g,h2,hr⟩:=ai.1 hr;cases hr;simp only[all_cons,aN]at ha ⊢;have⟨i1,i2⟩:=yO h2 ha.2;simp only[bS,aH,HL.row,List.map_append,i1,vZ h1,i2,and_true,abr ha.1 h1];simp[<- PH ha.1 x]
 |[],_::_,_,hr,_=>by simp[yN]at hr
 |_::_,[],_,hr,_=>by simp[yN]at hr
theorem VF(j:X.ι)(h:HL X.toSE (X.c7 j)):CT.row X.toSE (.st j) (X.make j h)=HL.row X.toSE (X.c7 j) h:=X.gp j h
theorem anK{c:CT X.ι}(hc:c.one=true){ds:U (DV X)}{x:CT.T X.toSE c}(h:mk1 c ds=some x):(bS ds).map wk=(CT.row X.toSE c x).map AV.t:=by
 match ds,h with
 |[d],h=>
  rw[<- PH hc x];simp only[bS,aH,map_nil,vZ h]
 |[],h=>cases h
 |_::_::_,h=>cases h
theorem yD{c:CT X.ι}{ds:U (DV X)}{x:CT.T X.toSE c}(h:H9 c ds=some x):(bS ds).map wk=(CT.row X.toSE c x).map AV.t:=by
 cases c
 case st j=>
  simp only[H9]at h;have⟨g,h1,h⟩:=ai.1 h;cases h;rw[(yO h1 (X.flat j)).1,VF]
 all_goals exact anK rfl h
theorem agh{d:DV X}{c:CT X.ι}(hc:c.one=true){x:CT.T X.toSE c}(h:Ky d c=some x):∃cs,cellsOf (den d)=some cs/\cs.map wk=(CT.row X.toSE c x).map AV.t:=by
 have hk:=abr hc h;have hd:=vZ h;have he:cellsOf (den d)=some [den d]:=by
  have:=Eg (x:=d) (cs:=[d]) (by
   cases d
   case c t y=>cases t<;>first |rfl |simp[vH]at hk
   all_goals first |rfl |simp[vH]at hk)
  simpa[bS]using this
 exact⟨_,he,by rw[<- PH hc x];simp[hd]⟩
theorem ajB{d:DV X}{c:CT X.ι}{x:CT.T X.toSE c}(h:dat d c=some x):∃cs,cellsOf (den d)=some cs/\cs.map wk=(CT.row X.toSE c x).map AV.t:=by
 cases c
 case st j=>
  replace h:Ek d j=some x:=h
  cases d
  case agg cs=>
   simp only[Ek]at h;have⟨g,h1,h⟩:=ai.1 h;cases h;have⟨i1,i2⟩:=yO h1 (X.flat j);refine⟨bS cs,?_,by rw[i1,VF]⟩;simp only[den,cellsOf];rw[aZ (aiv i2)]
  case c a y=>
   replace h:jA a (.st j) y=some x:=h
   rw[(oH h).1];refine⟨(CT.row X.toSE (.st j) x).map AV.t,?_,?_⟩
   .show cellsOf (.agg _)=_;simp only[cellsOf];rw[aZ]
    .rfl
    .rw[List.all_map,all_eq_true];exact λ_ _=>rfl
   .rw[map_map];rfl
  all_goals cases h
 all_goals exact agh rfl h
theorem ajC{t:TypeId}{x y:DV X}(h:Q4 T t x y get k=some r):∃cL kk u ab,UQ T t (den x) (den y) cL (dO [kk] (fB get))=some ab/\jq ab.obs/\ab.v= .undef/\ab.upd=iC [(kk,u)]/\k .undef [(kk,u)] [kk] [kk]=some r:=by
 unfold Q4 at h;unfold UQ;rw[ai]at h;obtain⟨ti,h1,h⟩:=h;rw[ai]at h;obtain⟨cs,h2,h⟩:=h;simp only[h1,Eg h2,af];split at h
 .rename_i hl;have hdl:(bS cs).length=ti.size:=by rw[lq];exact hl
  simp only[hdl,if_true];split at h
  .rename_i kk row aa;rw[ai]at h;obtain⟨o,h3,h⟩:=h;split at h
   .rename_i sz rows;rw[ai]at h;obtain⟨rw',h4,h⟩:=h;split at h
    .rename_i hle;refine⟨.none,kk,_,⟨.undef,_,[]⟩,?_,trivial,rfl,rfl,h⟩;simp only[den,eU (List.mem_singleton_self kk) h3,af,bI,List.getElem?_map,h4,Option.map_some,lq];rw[aZ (by rw[<- hl];exact hle)];simp[VE]
    .cases h
   .cases h
  .rename_i kk n aa;rw[ai]at h;obtain⟨o,h3,h⟩:=h;split at h
   .rename_i c l;rw[ai]at h;obtain⟨z,h4,h⟩:=h;split at h
    .rename_i hle;have⟨z',h5,h⟩:=ai.1 h;have⟨_,h6⟩:=Ng h4;refine⟨.set ((CT.row X.toSE c z).map AV.t) (aK ((l.set n.toNat z').map (CT.row X.toSE c))),kk,_,⟨.undef,_,[(aK (l.map (CT.row X.toSE c)))[n.toNat]? =some ((CT.row X.toSE c z).map AV.t)/\aK ((l.set n.toNat z').map (CT.row X.toSE c))=eu ((aK (l.map (CT.row X.toSE c))).set n.toNat (put' ((CT.row X.toSE c z).map AV.t) aa (bS cs)))]⟩,?_,?_,rfl,rfl,h⟩
     .simp only[den,eU (List.mem_singleton_self kk) h3,af,bI];rw[aZ (by rw[length_map,Ef,<- hl];exact hle)];simp[bI]
     .refine⟨by simp[aK,h6],?_⟩;have h7:=yD h5;rw[VE,pu]at h7;have hid:eu (aK (l.map (CT.row X.toSE c)))=aK (l.map (CT.row X.toSE c)):=(by simp[eu,aK,Function.comp_def,wk]);simp only[eu,List.map_set,h7];have:(aK (l.map (CT.row X.toSE c))).map (List.map wk)=aK (l.map (CT.row X.toSE c)):=hid;rw[this];simp[aK]
    .cases h
   .cases h
  .cases h
 .cases h
theorem PV{t:TypeId}{x:DV X}{f:Nat}(h:LG T t x f k=some r):∃dv ab,yI T t (den x) f=some ab/\jq ab.obs/\ab.v=den dv/\ab.upd=[]/\k dv [] [] []=some r:=by
 unfold LG at h;unfold yI;rw[ai]at h;obtain⟨⟨d,u⟩,h1,h⟩:=h;simp only[h1,af];split at h
 .exact⟨_,_,rfl,trivial,rfl,rfl,h⟩
 .exact⟨_,_,rfl,trivial,rfl,rfl,h⟩
 .exact⟨_,_,rfl,trivial,rfl,rfl,h⟩
 .cases h
theorem abt{t:TypeId}{x:DV X}{f:Nat}(h:aga T t x f k=some r):∃dv ab,UR T t (den x) f=some ab/\jq ab.obs/\ab.v=den dv/\ab.upd=[]/\k dv [] [] []=some r:=by
 unfold aga at h;unfold UR;rw[ai]at h;obtain⟨⟨d,u⟩,h1,h⟩:=h;simp only[h1,af];split at h
 .rw[ai]at h;obtain⟨v,h2,h⟩:=h;have h3:=CB h2;rw[ko]at h3;exact⟨v,⟨den v,[],[]⟩,by simp only[den,h3,af,pv],trivial,rfl,rfl,h⟩
 .rename_i j y;have⟨v,h2,h⟩:=ai.1 h;have h3:=PU h2;rw[map_take,map_drop]at h3;refine⟨v,⟨den v,[],[]⟩,?_,trivial,rfl,rfl,h⟩;show(part' u.agg u.size (List.take u.size (List.drop d ((CT.row X.toSE (.st j) y).map AV.t)))).bind pv=_;rw[h3];rfl
 .cases h
theorem eH{α:Type}{b:Bool}{x:J α}{r:α}(h:(bif b then x else none)=some r):b=true/\x=some r:=by
 cases b with
 |true=>exact⟨rfl,h⟩
 |false=>cases h
theorem VG{n:Int}{len:Nat}(h:cN n len=true):0<=n/\n.toNat<len:=by simp only[cN,aN,aW]at h;omega
theorem pV{A:Type}:∀{cs:U Bool}{k:J A}{r:A},Vz cs k=some r->(∀ c∈cs,c=true)/\k=some r
 |[],_,_,h=>⟨by simp,h⟩
 |c::cs,k,r,h=>by
  have⟨h1,h2⟩:=eH h;have⟨h3,h4⟩:=pV h2;exact⟨λ x hx=>(aQ.1 hx).elim (λ e=>e ▸ h1) (h3 x),h4⟩
theorem PW{t:TypeId}{x j:DV X}(h:LJ T t x j get k=some r):∃cL rd dv ab,l8 T t (den x) (den j) cL (dO rd (fB get))=some ab/\jq ab.obs/\ab.v=den dv/\ab.upd=[]/\k dv [] rd []=some r:=by
 unfold LJ at h;unfold l8;rw[ai]at h;obtain⟨ti,h1,h⟩:=h;simp only[h1,af];split at h
 .rename_i e kd n hk;rw[ai]at h;obtain⟨ei,h2,h⟩:=h;simp only[hk,den,CT.tv,TV.av,h2,af];split at h
  .rename_i c l;split at h
   .rename_i hs;rw[ai]at h;obtain⟨y,h3,h⟩:=h;have⟨h4,h5⟩:=Ng h3;refine⟨.sL (CT.row X.toSE c y),[],_,⟨.eM (CT.row X.toSE c y) 0,[],[0<=n/\(l.map (CT.row X.toSE c))[n.toNat]? =some (CT.row X.toSE c y)]⟩,?_,?_,rfl,rfl,h⟩
    .simp only[den,CT.tv,TV.av];rw[aZ (by rw[Ef];exact hs)];rfl
    .exact⟨h4,by simp[h5]⟩
   .cases h
  .rename_i kk aa len;rw[ai]at h;obtain⟨o,h3,h⟩:=h;split at h
   .rename_i c l;split at h
    .rename_i hs;have⟨h4,h⟩:=eH h;have⟨h5,h6⟩:=VG h4;refine⟨.none,[kk],_,⟨.ptr kk (aa+n.toNat) 0,[],[0<=n/\n.toNat<len]⟩,?_,⟨h5,h6⟩,?_,rfl,h⟩
     .simp only[den,eU (List.mem_singleton_self kk) h3,af,bI];rw[aZ hs];rfl
     .simp only[den,iN];congr 1;show aa+Int.toNat n=Int.toNat ((aa:Int)+n);have:(0:Int)<=n:=h5;omega
    .cases h
   .rename_i sz rows;split at h
    .rename_i hs;have⟨h4,h⟩:=eH h;have⟨h5,h6⟩:=VG h4;refine⟨.none,[kk],_,⟨.ptr kk (aa+n.toNat) 0,[],[0<=n/\n.toNat<len]⟩,?_,⟨h5,h6⟩,rfl,rfl,h⟩;simp only[den,eU (List.mem_singleton_self kk) h3,af,bI];rw[aZ hs];rfl
    .cases h
   .cases h
  .cases h
 .rename_i m e kd n hk;have⟨ei,h2,h⟩:=ai.1 h;simp only[hk,den,CT.tv,TV.av,h2,af];have⟨h4,h⟩:=eH h;have⟨h5,h6⟩:=VG h4;split at h
  .exact⟨.none,[],_,_,rfl,⟨h5,h6⟩,rfl,rfl,h⟩
  .exact⟨.none,[],_,_,rfl,⟨h5,h6⟩,rfl,rfl,h⟩
  .exact⟨.none,[],_,_,rfl,⟨h5,h6⟩,rfl,rfl,h⟩
  .cases h
 .cases h
theorem VH{x:DV X}{j:Nat}(h:VA x j k=some r):∃dv ab,Ht (den x) j=some ab/\jq ab.obs/\ab.v=den dv/\ab.upd=[]/\k dv [] [] []=some r:=by
 unfold VA at h;split at h
 .have⟨v,h2,h⟩:=ai.1 h;refine⟨v,⟨den v,[],[]⟩,?_,trivial,rfl,rfl,h⟩;simp[Ht,den,nV,h2,pv]
 .cases h
end
section
variable {X:SX} {A:Type} {T:er} {am:TypeId->Option (CT X.ι)} {get:Nat->Option (bm X)} {k:KK X A} {r:A} {i:Nat}
theorem abu{op:BinOp}{kd:IntKind}{a b:Int}:∃v obs,UO op kd a b=some (v,obs)/\den (Ia (X:=X) op kd a b).1= .t (.sc v)/\(∀ g,(Ia (X:=X) op kd a b).2=some g->g=true->jq obs)/\((Ia (X:=X) op kd a b).2=none->jq obs):=by
 cases op<;>refine⟨_,_,rfl,rfl,λg hg ht=>?_,λhn=>?_⟩<;>simp only[Ia,aC,reduceCtorEq]at* <;>try trivial
 all_goals subst hg;simp_all [jq]
theorem adt{n:Nat}{x y:DV X}{b:Bool}(h:abo n x y=some b):LD n (den x) (den y)=some b:=by
 unfold abo at h;split at h
 .split at h
  .cases h;simp only[den,CT.tv,TV.av,LD];rw[aZ ‹_›]
  .cases h
 .exact h
 .exact h
 .cases h
theorem Nh:∀{ks:U Nat}{xs ys:U (DV X)}{b:Bool},vY ks xs ys=some b->sU ks (bS xs) (bS ys)=some b
 |[],[],[],b,h=>h
 |k::ks,x::xs,y::ys,b,h=>by
  simp only[vY]at h;rw[ai]at h;obtain⟨p,h1,h⟩:=h;rw[ai]at h;obtain⟨q,h2,h⟩:=h;simp only[bS,sU,adt h1,Nh h2,af,h]
 |[],_::_,_,_,h=>by simp[vY]at h
 |[],[],_::_,_,h=>by simp[vY]at h
 |_::_,[],_,_,h=>by simp[vY]at h
 |_::_,_::_,[],_,h=>by simp[vY]at h
theorem adu{x:DV X}{xs:U (DV X)}(h:Nx x=some xs):den x= .agg (bS xs):=by
 unfold Nx at h;split at h
 .cases h;rfl
 .rename_i j y;cases h;rw[pu];rfl
 .cases h
theorem agi{op:BinOp}{t:TypeId}{x y:DV X}(h:Wr T op t x y k=some r):∃dv ab,Yw T op t (den x) (den y)=some ab/\jq ab.obs/\ab.v=den dv/\ab.upd=[]/\k dv [] [] []=some r:=by
 unfold Wr at h;split at h
 .rename_i kd a yk b;split at h
  .rename_i hk;have⟨v,obs,h1,h2,h3,h4⟩:=abu (X:=X) (op:=op) (kd:=kd) (a:=a) (b:=b);have fin:jq obs->k (Ia op kd a b).1 [] [] []=some r->∃dv ab,Yw T op t (den (.c (.int kd) a:DV X)) (den (.c (.int yk) b:DV X))=some ab/\jq ab.obs/\ab.v=den dv/\ab.upd=[]/\k dv [] [] []=some r:=by
    intro ho hkk;refine⟨_,⟨.t (.sc v),[],obs⟩,?_,ho,h2.symm,rfl,hkk⟩;simp only[den,CT.tv,TV.av,Yw];rw[aZ hk,h1];rfl
   split at h
   .rename_i hn;exact fin (h4 hn) h
   .rename_i g hg;have⟨hgt,h⟩:=eH h;exact fin (h3 g hg hgt) h
  .cases h
 .split at h
  .exact⟨_,_,rfl,trivial,rfl,rfl,h⟩
  .exact⟨_,_,rfl,trivial,rfl,rfl,h⟩
  .exact⟨_,_,rfl,trivial,rfl,rfl,h⟩
  .exact⟨_,_,rfl,trivial,rfl,rfl,h⟩
  .have⟨hc,h⟩:=eH h;exact⟨_,_,rfl,show _<=maxLen from of_decide_eq_true hc,rfl,rfl,h⟩
  .cases h
 .rw[ai]at h;obtain⟨ti,h1,h⟩:=h;split at h
  .rename_i hk;refine⟨_,⟨.t (.sc (.bool _)),[],[]⟩,?_,trivial,rfl,rfl,h⟩;simp only[den,CT.tv,TV.av,Yw,h1,af,hk];rfl
  .rename_i hk;refine⟨_,⟨.t (.sc (.bool _)),[],[]⟩,?_,trivial,rfl,rfl,h⟩;simp only[den,CT.tv,TV.av,Yw,h1,af,hk];rfl
  .cases h
 .rw[ai]at h;obtain⟨xs,h1,h⟩:=h;rw[ai]at h;obtain⟨ys,h2,h⟩:=h;rw[ai]at h;obtain⟨ti,h3,h⟩:=h;split at h
  .cases h
  .rename_i hc;have⟨b,h4,h⟩:=ai.1 h;have h5:=Nh h4;rw[adu h1,adu h2];split at h
   .refine⟨_,⟨.t (.sc (.bool b)),[],[]⟩,?_,trivial,rfl,rfl,h⟩;simp only[Yw,h3,af];rw[aT hc,h5];rfl
   .refine⟨_,⟨.t (.sc (.bool (!b))),[],[]⟩,?_,trivial,rfl,rfl,h⟩;simp only[Yw,h3,af];rw[aT hc,h5];rfl
   .cases h
theorem ajD{op:UnOp}{x:DV X}(h:Q3 op x k=some r):∃dv ab,QP op (den x)=some ab/\jq ab.obs/\ab.v=den dv/\ab.upd=[]/\k dv [] [] []=some r:=by
 unfold Q3 at h;split at h
 .exact⟨_,_,rfl,trivial,rfl,rfl,h⟩
 .exact⟨_,_,rfl,trivial,rfl,rfl,h⟩
 .cases h
theorem RH(mx:Bool)(kd:IntKind):∀(l:U (DV X))(a n:Int),JS mx kd a l=some n->D8 mx kd a (bS l)=some n
 |[],a,n,h=>h
 |x::l,a,n,h=>by
  cases x
  case c t y=>
   cases t
   case int k'=>
    simp only[JS]at h;simp only[bS,den,CT.tv,TV.av,D8];split at h
    .rename_i hk;rw[aZ hk];exact RH mx kd l _ _ h
    .cases h
   all_goals simp[JS]at h
  all_goals simp[JS]at h
theorem ZT{mx:Bool}{args:U (DV X)}(h:Mb mx args k=some r):∃dv ab,G2 mx (bS args)=some ab/\jq ab.obs/\ab.v=den dv/\ab.upd=[]/\k dv [] [] []=some r:=by
 unfold Mb at h;split at h
 .rename_i kd a l;rw[ai]at h;obtain⟨n,h1,h⟩:=h;refine⟨_,⟨.t (.sc (.int kd n)),[],[]⟩,?_,trivial,rfl,rfl,h⟩;simp only[bS,den,CT.tv,TV.av,G2];have:=RH mx kd l a n h1;simp only[this];rfl
 .cases h
theorem agj{t:TypeId}{x:DV X}(h:Wk T t x k=some r):∃cL dv ab,AH T t (den x) cL=some ab/\jq ab.obs/\ab.v=den dv/\ab.upd=[]/\k dv [] [] []=some r:=by
 unfold Wk at h;unfold AH;rw[ai]at h;obtain⟨ti,h1,h⟩:=h;simp only[h1,af];split at h
 .rename_i e c l hk;simp only[hk];exact⟨.num (l.length:Int),_,⟨.t (.sc (.int .i64 (l.length:Int))),[],[(l.length:Int)=((l.map (CT.row X.toSE c)).length:Int)]⟩,rfl,by simp[jq],rfl,rfl,h⟩
 .rename_i hk;simp only[hk];exact⟨.none,_,_,rfl,trivial,rfl,rfl,h⟩
 .rename_i hk;simp only[hk];exact⟨.none,_,_,rfl,trivial,rfl,rfl,h⟩
 .rename_i hk;simp only[hk];exact⟨.none,_,_,rfl,trivial,rfl,rfl,h⟩
 .rename_i hk;simp only[hk];exact⟨.none,_,_,rfl,trivial,rfl,rfl,h⟩
 .cases h
theorem PX(place:Nat->J (Nat×Nat)):∀(parts:U (Nat×DV X))(cells ab:U (DV X)),ZQ place cells parts=some ab->FK place (bS cells) (parts.map λp=>(p.1,den p.2))=some (bS ab)
 |[],cells,ab,h=>by simp only[ZQ,aC]at h;subst h;rfl
 |(j,x)::ag,cells,ab,h=>by
  simp only[ZQ]at h;rw[ai]at h;obtain⟨⟨aa,size⟩,h1,h⟩:=h;rw[ai]at h;obtain⟨cs,h2,h⟩:=h;split at h
  .rename_i hl;simp only[aH,FK,h1,Eg h2,af,lq];rw[aZ hl,<- VE];exact PX place ag _ _ h
  .cases h
theorem abv{t:TypeId}{parts:U (Nat×DV X)}(h:agb T t parts k=some r):∃dv ab,UU T t (parts.map λp=>(p.1,den p.2))=some ab/\jq ab.obs/\ab.v=den dv/\ab.upd=[]/\k dv [] [] []=some r:=by
 unfold agb at h;unfold UU;rw[ai]at h;obtain⟨ti,h1,h⟩:=h;simp only[h1,af];split at h
 .rename_i fs hk;split at h
  .rename_i ha;rw[ai]at h;obtain⟨cells,h2,h⟩:=h;have h3:=PX _ _ _ _ h2;rw[Cz]at h3;refine⟨_,⟨.agg (bS cells),[],[]⟩,?_,trivial,rfl,rfl,h⟩;simp only[hk];rw[aZ ha,h3];rfl
  .cases h
 .rename_i m e hk;rw[ai]at h;obtain⟨ei,h2,h⟩:=h;rw[ai]at h;obtain⟨cells,h3,h⟩:=h;have h4:=PX _ _ _ _ h3;rw[Cz]at h4;refine⟨_,⟨.agg (bS cells),[],[]⟩,?_,trivial,rfl,rfl,h⟩;simp only[hk,h2,af,h4];rfl
 .cases h
theorem ZU(size:Nat)(c:CT X.ι)(hs:CT.sz X c=size)(z:U AV):∀(parts:U (Nat×DV X))(n:Nat)(l:U (CT.T X.toSE c))(done:U (List AV)),Ks c n parts=some l->done.length=n->
 ∃css:U (List AV),ML size (done++List.replicate parts.length z) (parts.map λp=>(p.1,den p.2))=some (done++css)/\css.map (λ r=>r.map wk)=aK (l.map (CT.row X.toSE c))
 |[],n,l,done,h,_=>by
  simp only[Ks,aC]at h;subst h;exact⟨[],by simp[ML],rfl⟩
 |(j,x)::ag,n,l,done,h,hd=>by
  simp only[Ks]at h;split at h
  .rename_i hj;subst hj;have⟨y,h1,h⟩:=ai.1 h;have⟨l',h2,h⟩:=ai.1 h;cases h;have⟨cs,g1,g2⟩:=ajB h1;have hl:cs.length=size:=by
    have:=congrArg List.length g2;simp only[length_map,Ef]at this;omega
   obtain⟨css,i1,i2⟩:=ZU size c hs z ag (j+1) l' (done++[cs]) h2 (by simp[hd]);refine⟨cs::css,?_,?_⟩
   .simp only[aH,ML,g1,af];rw[aZ ⟨hl,by simp;omega⟩];have:(done++List.replicate (ag.length+1) z).set j cs=done++[cs]++List.replicate ag.length z:=by
     rw[List.set_append_right _ _ (by omega),hd];simp[List.replicate_succ]
    simp only[bG,this,i1];simp
   .simp only[aH,i2,g2,aK,aH]
  .cases h
theorem Ni{t:TypeId}{len:Nat}{parts:U (Nat×DV X)}(h:Ib T am i t len parts k=some r):∃dv u ab,vW T i t len (parts.map λp=>(p.1,den p.2))=some ab/\jq ab.obs/\ab.v=den dv/\ab.upd=iC [(cT i,u)]/\k dv [(cT i,u)] [] []=some r:=by
 unfold Ib at h;unfold vW;rw[ai]at h;obtain⟨ti,h1,h⟩:=h;simp only[h1,af];split at h
 .rename_i e hk;rw[ai]at h;obtain⟨ei,h2,h⟩:=h;rw[ai]at h;obtain⟨c,h3,h⟩:=h;simp only[hk,h2,af];split at h
  .cases h
  .rename_i hno;simp only[not_or,Decidable.not_not]at hno;obtain⟨n1,n2,n3,n4⟩:=hno;have⟨l,h4,h⟩:=ai.1 h;have⟨css,g1,g2⟩:=ZU ei.size c n3 (ei.zero.map cv) parts 0 l [] h4 rfl;simp only[bT,n4]at g1;refine⟨_,_,⟨.own (cT i) 0 len,[(cT i,some ⟨ei.size,eu css⟩)],[]⟩,?_,trivial,rfl,?_,h⟩
   .rw[aT (by simp only[not_or];exact⟨n1,n2⟩),g1];rfl
   .simp only[iC,bI,aH,map_nil,Option.map_some,n3];rw[show eu css=aK (l.map (CT.row X.toSE c))from g2]
 .cases h
theorem abw{e:TypeId}(h:agc T i e k=some r):∃dv u ab,UW T i e=some ab/\jq ab.obs/\ab.v=den dv/\ab.upd=iC [(cT i,u)]/\k dv [(cT i,u)] [] []=some r:=by
 unfold agc at h;unfold UW;have⟨ti,h1,h⟩:=ai.1 h;exact⟨_,_,⟨_,[(cT i,some ⟨ti.size,[ti.zero.map cv]⟩)],[]⟩,by simp only[h1,af];rfl,trivial,rfl,by simp[iC,bI,Cz],h⟩
theorem agk{x:DV X}(h:Wg i x k=some r):∃dv u ab,Lo i (den x)=some ab/\jq ab.obs/\ab.v=den dv/\ab.upd=iC [(cT i,u)]/\k dv [(cT i,u)] [] []=some r:=by
 unfold Wg at h;unfold Lo;rw[ai]at h;obtain⟨cs,h1,h⟩:=h;exact⟨_,_,⟨_,[(cT i,some ⟨(bS cs).length,[bS cs]⟩)],[]⟩,by simp only[Eg h1,af];rfl,trivial,rfl,by simp[iC,bI,lq],h⟩
theorem CF{d n:Int}{x:J (DV X)}(h:At d x=some n):bnd d (x.map den)=some n:=by
 unfold At at h;split at h
 .exact h
 .exact h
 .cases h
theorem ZV{l h:Int}{len:Nat}(hh:sZ l h len=true):0<=l/\l<=h/\h<=(len:Int):=by simpa[sZ,and_assoc]using hh
theorem abx{t:TypeId}{x:DV X}{lo hi:J (DV X)}(h:agf T t x lo hi get k=some r):∃cL rd dv ab,UX T t (den x) (lo.map den) (hi.map den) cL (dO rd (fB get))=some ab/\jq ab.obs/\ab.v=den dv/\ab.upd=[]/\k dv [] rd []=some r:=by
 unfold agf at h;unfold UX;rw[ai]at h;obtain⟨ti,h1,h⟩:=h;simp only[h1,af];split at h
 .rename_i e hk;rw[ai]at h;obtain⟨ei,h2,h⟩:=h;simp only[hk,h2,af];split at h
  .rename_i kk aa len;rw[ai]at h;obtain⟨o,h3,h⟩:=h;split at h
   .rename_i hs;rw[ai]at h;obtain⟨l,h4,h⟩:=h;rw[ai]at h;obtain⟨hh,h5,h⟩:=h;have⟨h6,h⟩:=eH h;refine⟨.none,[kk],_,⟨.own kk (aa+l.toNat) (hh.toNat -l.toNat),[],[0<=l/\l<=hh/\hh<=(len:Int)]⟩,?_,ZV h6,rfl,rfl,h⟩;simp only[den,eU (List.mem_singleton_self kk) h3,af];rw[aZ hs,CF h4,af,CF h5];rfl
   .cases h
  .rename_i c xs;split at h
   .rename_i hs;have⟨l,h4,h⟩:=ai.1 h;have⟨hh,h5,h⟩:=ai.1 h;have⟨h6,h⟩:=eH h;refine⟨.AS ((sub xs l.toNat (hh.toNat -l.toNat)).map (CT.row X.toSE c)),[],_,⟨.t (.sl ((sub xs l.toNat (hh.toNat -l.toNat)).map (CT.row X.toSE c))),[],[0<=l/\l<=hh/\hh<=((xs.map (CT.row X.toSE c)).length:Int)/\(sub xs l.toNat (hh.toNat -l.toNat)).map (CT.row X.toSE c)=((xs.map (CT.row X.toSE c)).drop l.toNat).take (hh.toNat -l.toNat)/\(∀ q∈xs.map (CT.row X.toSE c),q.length=ei.size)]⟩,?_,?_,rfl,rfl,h⟩
    .simp only[den,CT.tv,TV.av,CF h4,af];have h7:bnd ((xs.map (CT.row X.toSE c)).length:Int) (hi.map den)=some hh:=by
      have:=CF h5;simpa using this
     rw[h7];rfl
    .have⟨a1,a2,a3⟩:=ZV h6;refine⟨a1,a2,by simpa using a3,by simp[sub,map_take,map_drop],λq hq=>?_⟩;obtain⟨y,_,rfl⟩:=mem_map.1 hq;rw[Ef];exact hs
   .cases h
  .cases h
 .cases h
end
section
variable {X:SX} {A:Type} {T:er} {am:TypeId->Option (CT X.ι)} {get:Nat->Option (bm X)} {k:KK X A} {r:A} {i:Nat}
theorem jf{b c:CT X.ι}{l:U (CT.T X.toSE b)}{l':U (CT.T X.toSE c)}(h:jA (.sl b) (.sl c) l=some l'):CT.sz X b=CT.sz X c/\l.map (CT.row X.toSE b)=l'.map (CT.row X.toSE c):=by
 have⟨e,h⟩:=rM h;cases e;subst h;exact⟨rfl,rfl⟩
theorem adv{y:DV X}{c:CT X.ι}{n:Nat}{l:U (CT.T X.toSE c)}{rd:U Nat}(h:Wf y c get=some (n,l,rd))(hl:l.length=n)(rd':U Nat)(hrd:∀j∈rd,j∈rd'):
 ∃ob,UY (CT.sz X c) (den y) (dO rd' (fB get))=some (n,ob,aK (l.map (CT.row X.toSE c)))/\ob:=by
 unfold Wf at h;split at h
 .rename_i kk aa len;rw[ai]at h;obtain⟨o,h1,h⟩:=h;split at h
  .rename_i b l0;rw[ai]at h;obtain⟨l1,h2,h⟩:=h;injection h with h;simp only[Prod.mk.injEq]at h;obtain⟨rfl,rfl,rfl⟩:=h;have⟨h3,h4⟩:=jf h2;refine⟨True,?_,trivial⟩;simp only[den,UY,eU (hrd kk (by simp)) h1,af,bI];rw[aZ h3];simp only[h4,aC,Prod.mk.injEq,true_and];simp[aK,sub,map_take,map_drop]
  .cases h
 .rename_i b l0;have⟨l1,h2,h⟩:=ai.1 h;injection h with h;simp only[Prod.mk.injEq]at h;obtain⟨rfl,rfl,rfl⟩:=h;refine⟨∀ q∈l1.map (CT.row X.toSE c),q.length=CT.sz X c,?_,?_⟩
  .rw[(oH h2).1];simp only[den,CT.tv,TV.av,UY,length_map]
  .intro q hq;obtain⟨z,_,rfl⟩:=mem_map.1 hq;exact Ef c z
 .cases h
theorem VI{lo len ln n bytes:Nat}(h:bP lo len ln n bytes=true):lo=len/\ln=n/\(len+n)*bytes<=140737488355328/\len+n<=maxLen:=by simpa[bP,and_assoc]using h
theorem py{α:Type}(n:Nat)(l:U α):VB n l=l.drop n:=by cases n<;>rfl
theorem YI{t:TypeId}{x y:DV X}(h:abp T am i t x y get k=some r):∃cL rd wr dv upd ab,zZ T i t (den x) (den y) cL (dO rd (fB get))=some ab/\jq ab.obs/\ab.v=den dv/\ab.upd=iC upd/\(∀ p∈upd,p.1=cT i\/p.1∈wr)/\k dv upd rd wr=some r:=by
 unfold abp at h;unfold zZ;rw[ai]at h;obtain⟨ti,h1,h⟩:=h;simp only[h1,af];split at h
 .rename_i e hk;rw[ai]at h;obtain⟨ei,h2,h⟩:=h;rw[ai]at h;obtain⟨c,h3,h⟩:=h;simp only[hk,h2,af];split at h
  .rename_i hs;rw[ai]at h;obtain⟨⟨n,l,rd⟩,h4,h⟩:=h;split at h
   .rename_i kk aa len;rw[ai]at h;obtain⟨o,h5,h⟩:=h;split at h
    .rename_i b l0;have⟨l1,h6,h⟩:=ai.1 h;have⟨h7,h⟩:=eH h;rw[py]at h7 h;have hd:(aK (l1.map (CT.row X.toSE c))).drop aa=aK ((l1.drop aa).map (CT.row X.toSE c)):=(by simp[aK]);have⟨g1,g2,g3,g4⟩:=VI h7;have⟨h8,h9⟩:=jf h6;obtain⟨ob,i1,i2⟩:=adv h4 g2 (kk::rd) (λ j hj=>by simp[hj]);have i3:=eU (rd:=kk::rd) (by simp) h5
     refine⟨.rows (aK ((l1.drop aa++l).map (CT.row X.toSE c))),kk::rd,[kk],_,_,⟨.own (cT i) 0 (aK ((l1.drop aa++l).map (CT.row X.toSE c))).length,[(cT i,some ⟨ei.size,aK ((l1.drop aa++l).map (CT.row X.toSE c))⟩),(kk,none)],
      [ob/\(aK ((l1.drop aa).map (CT.row X.toSE c))).length=len/\(aK (l.map (CT.row X.toSE c))).length=n/\aK ((l1.drop aa++l).map (CT.row X.toSE c))=aK ((l1.drop aa).map (CT.row X.toSE c))++aK (l.map (CT.row X.toSE c))/\(len+n)*ei.bytes<=140737488355328/\len+n<=maxLen]⟩,?_,?_,?_,?_,?_,h⟩
     .rw[hs]at i1;simp only[i1,af,den,i3,bI,h9,hd];rw[aZ (by rw[h8,hs])]
     .exact⟨i2,by simpa[aK]using g1,by simpa[aK]using g2,by simp[aK],g3,g4⟩
     .simp[den,aK]
     .simp[iC,bI,hs]
     .intro p hp;simp only[aQ,gG,or_false]at hp;rcases hp with rfl |rfl
      .exact .inl rfl
      .exact .inr (by simp)
    .cases h
   .have⟨h7,h⟩:=eH h;have⟨g1,g2,g3,g4⟩:=VI h7;obtain⟨ob,i1,i2⟩:=adv h4 g2 rd (λ j hj=>hj)
    refine⟨.rows (aK (l.map (CT.row X.toSE c))),rd,[],_,_,⟨.own (cT i) 0 (aK (l.map (CT.row X.toSE c))).length,[(cT i,some ⟨ei.size,aK (l.map (CT.row X.toSE c))⟩)],
     [ob/\(aK (l.map (CT.row X.toSE c))).length=n/\aK (l.map (CT.row X.toSE c))=aK (l.map (CT.row X.toSE c))/\n*ei.bytes<=140737488355328/\n<=maxLen]⟩,?_,?_,?_,?_,?_,h⟩
    .rw[hs]at i1;simp only[i1,af,den]
    .exact⟨i2,by simpa[aK]using g2,rfl,by simpa using g3,by simpa using g4⟩
    .simp[den,aK]
    .simp[iC,bI,hs]
    .intro p hp;simp only[aQ,gG,or_false]at hp;rcases hp with rfl;exact .inl rfl
   .cases h
  .cases h
 .cases h
def apX(T:er)(i:Nat)(o:Oper)(ρ:Operand->DV X)(get:Nat->J (bm X))(k:KK X A)(r:A):Prop:=
 ∃cL rd wr dv upd ab,ql T i o cL (λ x=>den (ρ x)) (dO rd (fB get))=some ab/\jq ab.obs/\ab.v=den dv/\ab.upd=iC upd/\(∀ p∈upd,p.1=cT i\/p.1∈wr)/\k dv upd rd wr=some r
theorem VJ{b:Builtin}{args:U (DV X)}{c7:U TypeId}(h:VD T am i b args c7 get k=some r):∃cL rd wr dv upd ab,Cv T i b (bS args) c7 cL (dO rd (fB get))=some ab/\jq ab.obs/\ab.v=den dv/\ab.upd=iC upd/\(∀ p∈upd,p.1=cT i\/p.1∈wr)/\k dv upd rd wr=some r:=by
 unfold VD at h;unfold Cv;split at h
 .have⟨cL,dv,ab,h1,h2,h3,h4,h5⟩:=agj h;exact⟨cL,[],[],dv,[],ab,h1,h2,h3,h4,by simp,h5⟩
 .have⟨dv,ab,h1,h2,h3,h4,h5⟩:=ZT h;exact⟨.none,[],[],dv,[],ab,h1,h2,h3,h4,by simp,h5⟩
 .have⟨dv,ab,h1,h2,h3,h4,h5⟩:=ZT h;exact⟨.none,[],[],dv,[],ab,h1,h2,h3,h4,by simp,h5⟩
 .split at h
  .rename_i htu;have⟨cL,rd,wr,dv,upd,ab,h1,h2⟩:=YI h;refine⟨cL,rd,wr,dv,upd,ab,?_,h2⟩;simp only[bS];rw[aZ htu];exact h1
  .cases h
 .cases h
theorem Uv(ρ:Operand->DV X)(l:U Operand):l.map (λ x=>den (ρ x))=bS (l.map ρ):=by rw[nV,map_map];rfl
theorem ZW{o:Oper}{ρ:Operand->DV X}(h:L7 T am i o.op ρ get k=some r):apX T i o ρ get k r:=by
 obtain⟨dst,op,ty,ao,after,guard⟩:=o;unfold apX ql;simp only at h;unfold L7 at h;split at h
 .exact⟨.none,[],[],_,[],_,rfl,trivial,rfl,rfl,by simp,h⟩
 .exact⟨.none,[],[],_,[],_,rfl,trivial,rfl,rfl,by simp,h⟩
 .rename_i c a b;split at h
  .rename_i t hc;refine⟨.none,[],[],_,[],⟨L0 t (den (ρ a)) (den (ρ b)),[],[]⟩,?_,trivial,(ajz t _ _).symm,rfl,by simp,h⟩;simp only[hc,den,CT.tv,TV.av,pv]
  .cases h
 .have⟨dv,u,ab,h1,h2,h3,h4,h5⟩:=abw h;exact⟨.none,[],[],dv,_,ab,h1,h2,h3,h4,by simp,h5⟩
 .have⟨dv,u,ab,h1,h2,h3,h4,h5⟩:=agk h;exact⟨.none,[],[],dv,_,ab,h1,h2,h3,h4,by simp,h5⟩
 .rename_i t parts;have⟨dv,ab,h1,h2,h3,h4,h5⟩:=abv h;refine⟨.none,[],[],dv,[],ab,?_,h2,h3,h4,by simp,h5⟩;rw[map_map]at h1;exact h1
 .rename_i t len parts;have⟨dv,u,ab,h1,h2,h3,h4,h5⟩:=Ni h;refine⟨.none,[],[],dv,_,ab,?_,h2,h3,h4,by simp,h5⟩;rw[map_map]at h1;exact h1
 .have⟨cL,rd,dv,ab,h1,h2,h3,h4,h5⟩:=ajA h;exact⟨cL,rd,[],dv,[],ab,h1,h2,h3,h4,by simp,h5⟩
 .have⟨cL,kk,u,ab,h1,h2,h3,h4,h5⟩:=ajC h;exact⟨cL,[kk],[kk],.undef,_,ab,h1,h2,h3,h4,by simp,h5⟩
 .have⟨dv,ab,h1,h2,h3,h4,h5⟩:=agi h;exact⟨.none,[],[],dv,[],ab,h1,h2,h3,h4,by simp,h5⟩
 .have⟨dv,ab,h1,h2,h3,h4,h5⟩:=ajD h;exact⟨.none,[],[],dv,[],ab,h1,h2,h3,h4,by simp,h5⟩
 .rename_i f first caps
  refine⟨.none,[],[],_,[],⟨.fn f (first.toList.map λx=>den (ρ x)) (caps.toList.map λx=>den (ρ x)),[],[]⟩,rfl,trivial,?_,rfl,by simp,h⟩;simp only[den,Uv]
 .rename_i t x lo hi;have⟨cL,rd,dv,ab,h1,h2,h3,h4,h5⟩:=abx h;refine⟨cL,rd,[],dv,[],ab,?_,h2,h3,h4,by simp,h5⟩;simp only[Option.map_map]at h1;exact h1
 .have⟨dv,ab,h1,h2,h3,h4,h5⟩:=PV h;exact⟨.none,[],[],dv,[],ab,h1,h2,h3,h4,by simp,h5⟩
 .have⟨dv,ab,h1,h2,h3,h4,h5⟩:=abt h;exact⟨.none,[],[],dv,[],ab,h1,h2,h3,h4,by simp,h5⟩
 .have⟨cL,rd,dv,ab,h1,h2,h3,h4,h5⟩:=PW h;exact⟨cL,rd,[],dv,[],ab,h1,h2,h3,h4,by simp,h5⟩
 .have⟨dv,ab,h1,h2,h3,h4,h5⟩:=VH h;exact⟨.none,[],[],dv,[],ab,h1,h2,h3,h4,by simp,h5⟩
 .rename_i b args c7;have⟨cL,rd,wr,dv,upd,ab,h1,h2⟩:=VJ h;refine⟨cL,rd,wr,dv,upd,ab,?_,h2⟩;simp only[Uv];exact h1
 .cases h
end
inductive Pt(ι:Type) where
 |v (c:CT ι)
 |o (k:Nat)
 |p (k:Nat)
 |nil
 |f (F:FuncId) (fs cs:List (Pt ι))
 |od (k:Nat)
 |mp (k:Nat)
 |oz (k:Nat)
 |a (ps:List (Pt ι))
inductive OP(ι:Type) where
 |l (c:CT ι)
 |m (k v:CT ι)
 |c (sz:Nat) (rows:List (List (Pt ι)))
section
variable {ι:Type}
mutual
def Pt.vars:Pt ι->List (CT ι)
 | .v c=>[c]
 | .a ps=>cX ps
 | .f _ fs cs=>cX fs++cX cs
 | .od _=>[.int .i64]
 |_=>[]
def cX:List (Pt ι)->List (CT ι)
 |[]=>[]
 |p::ps=>p.vars++cX ps
end
def ir:U (Nat×Pt ι)->U (CT ι)
 |[]=>[]
 |p::ps=>p.2.vars++ir ps
def wh:U (List (Pt ι))->U (CT ι)
 |[]=>[]
 |r::rs=>cX r++wh rs
def cR:U (Nat×OP ι)->U (CT ι)
 |[]=>[]
 |(_,.l c)::r=> .sl c::cR r
 |(_,.m k v)::r=> .mp k v::cR r
 |(_,.c _ rows)::r=>wh rows++cR r
end
section
variable {X:SX}
structure DC(X:SX) where
 c:CT X.ι
 x:CT.T X.toSE c
@[reducible] def VT:U (CT X.ι)->Type
 |[]=>Unit
 |[c]=>CT.T X.toSE c
 |c::c'::l=>CT.T X.toSE c×VT (c'::l)
def YJ:(l:U (CT X.ι))->U (DC X)->J (VT (X:=X) l)
 |[],[]=>some ()
 |[c],[d]=>jA d.c c d.x
 |c::c'::l,d::ds=>(jA d.c c d.x).bind λx=>(YJ (c'::l) ds).bind λv=>some (x,v)
 |_,_=>none
def wm:(l:U (CT X.ι))->VT (X:=X) l->U (DC X)
 |[],_=>[]
 |[c],x=>[⟨c,x⟩]
 |c::c'::l,v=>⟨c,v.1⟩::wm (c'::l) v.2
theorem adw{d:DC X}{c:CT X.ι}{x:CT.T X.toSE c}(h:jA d.c c d.x=some x):(⟨c,x⟩:DC X)=d:=by
 obtain⟨a,y⟩:=d;have⟨e,h⟩:=rM h;simp only at e;subst e;subst h;rfl
theorem VK:∀{l:U (CT X.ι)}{ds:U (DC X)}{v:VT (X:=X) l},YJ l ds=some v->wm l v=ds
 |[],[],_,_=>rfl
 |[c],[d],v,h=>by simp only[YJ]at h;simp only[wm,adw h]
 |c::c'::l,d::ds,v,h=>by
  simp only[YJ]at h;rw[ai]at h;obtain⟨x,h1,h⟩:=h;rw[ai]at h;obtain⟨v',h2,h⟩:=h;cases h;simp only[wm,adw h1,VK h2]
 |[],_::_,_,h=>by simp[YJ]at h
 |[_],[],_,h=>by simp[YJ]at h
 |[_],_::_::_,_,h=>by simp[YJ]at h
 |_::_::_,[],_,h=>by simp[YJ]at h
theorem VL{c:CT X.ι}(x:CT.T X.toSE c):jA c c x=some x:=by
 unfold jA;split
 .rfl
 .rename_i h _;exact absurd rfl h
def ZX(d:DC X):Nat:=match jA d.c (.int .i64) d.x with |some x=>Int.toNat x |none=>0
section
variable (ec:Nat->Nat)
mutual
def eP:Pt X.ι->List (DC X)->DV X×List (DC X)
 | .v _,L=>match L with
  |d::r=>(.c d.c d.x,r)
  |[]=>(.undef,[])
 | .o k,L=>(.own k 0 (ec k),L)
 | .p k,L=>(.ptr k 0 0,L)
 | .mp k,L=>(.mp k,L)
 | .oz k,L=>(.oz k (ec k),L)
 | .nil,L=>(.nil,L)
 | .f F fs cs,L=>(.fn F (lE fs L).1 (lE cs (lE fs L).2).1,(lE cs (lE fs L).2).2)
 | .od k,L=>match L with
  |d::r=>(.own k (ZX d) (ec k -ZX d),r)
  |[]=>(.undef,[])
 | .a ps,L=>(.agg (lE ps L).1,(lE ps L).2)
def lE:List (Pt X.ι)->List (DC X)->List (DV X)×List (DC X)
 |[],L=>([],L)
 |p::ps,L=>((eP p L).1::(lE ps (eP p L).2).1,(lE ps (eP p L).2).2)
end
def LK:U (Nat×Pt X.ι)->U (DC X)->U (Nat×DV X)
 |[],_=>[]
 |(t,p)::r,L=>(t,(eP ec p L).1)::LK r (eP ec p L).2
def wo:U (List (Pt X.ι))->U (DC X)->U (List (DV X))×List (DC X)
 |[],L=>([],L)
 |r::rs,L=>((lE ec r L).1::(wo rs (lE ec r L).2).1,(wo rs (lE ec r L).2).2)
def dG:U (Nat×OP X.ι)->U (DC X)->U (Nat×Option (bm X))
 |[],_=>[]
 |(k,.l _)::r,L=>match L with
  |⟨.sl c',x⟩::L=>(k,some (.ep c' x))::dG r L
  |_=>[]
 |(k,.m _ _)::r,L=>match L with
  |⟨.mp kc vc,x⟩::L=>(k,some (.map kc vc x))::dG r L
  |_=>[]
 |(k,.c sz rows)::r,L=>(k,some (.cells sz (wo ec rows L).1))::dG r (wo ec rows L).2
end
def lens:U (Nat×OP X.ι)->U (DC X)->U (Nat×Nat)
 |[],_=>[]
 |(k,.l _)::r,L=>match L with
  |⟨.sl _,x⟩::L=>(k,List.length x)::lens r L
  |_=>[]
 |(_,.m _ _)::r,L=>lens r (L.drop 1)
 |(_,.c _ rows)::r,L=>lens r (L.drop (wh rows).length)
def lO:Nat->U (Pt X.ι)->U (Nat×Pt X.ι)
 |_,[]=>[]
 |n,p::ps=>(n,p)::lO (n+1) ps
theorem PY:∀(n:Nat)(ps:U (Pt X.ι)),ir (lO n ps)=cX ps
 |_,[]=>rfl
 |n,p::ps=>by simp only[lO,ir,cX,PY (n+1) ps]
structure dg(X:SX) where
 pP:List (Pt X.ι)
 jt:List (Nat×OP X.ι)
 fX:List (Pt X.ι)
 jp:List (Nat×OP X.ι)
 fn:VT (X:=X) (cX pP++cR jt)->Option (VT (X:=X) (ir (lO 0 fX)++cR jp))
def Eh(O:U (Nat×OP X.ι))(L:U (DC X))(k:Nat):Nat:=(lk (lens O L) k).getD 0
def VN(ps:U (Pt X.ι))(O:U (Nat×OP X.ι))(L:U (DC X)):U (DV X):=(lE (Eh O (L.drop (cX ps).length)) ps (L.take (cX ps).length)).1
def LO(ps:U (Pt X.ι))(O:U (Nat×OP X.ι))(L:U (DC X)):U (Nat×Option (bm X)):=dG (Eh O (L.drop (cX ps).length)) O (L.drop (cX ps).length)
def yP:U (DV X)->DV X
 |[d]=>d
 |ds=> .eV ds
def dM:U (Nat×Option (bm X))->U (Nat×bm X)
 |[]=>[]
 |(k,some o)::r=>(k,o)::dM r
 |(_,none)::r=>dM r
def tq(l:U (Nat×bm X)):U (Nat×aU):=l.map λp=>(p.1,bI p.2)
def dg.args(g:dg X)(v:VT (X:=X) (cX g.pP++cR g.jt)):U (DV X):=VN g.pP g.jt (wm _ v)
def dg.cQ(g:dg X)(v:VT (X:=X) (cX g.pP++cR g.jt)):U (Nat×bm X):=dM (LO g.pP g.jt (wm _ v))
def dg.res(g:dg X)(r:VT (X:=X) (ir (lO 0 g.fX)++cR g.jp)):DV X:=yP (VN g.fX g.jp (wm _ r))
def dg.outs(g:dg X)(r:VT (X:=X) (ir (lO 0 g.fX)++cR g.jp)):U (Nat×bm X):=dM (LO g.fX g.jp (wm _ r))
def GG(P:Program)(f:FuncId)(g:dg X):Prop:=∀v r,g.fn v=some r->yr P f (bS (g.args v)) ((g.cQ v).map λp=>bI p.2) (tq (g.outs r)) (den (g.res r))
end
inductive AT(ι:Type) where
 |d (c:CT ι)
 |ref (c:CT ι)
 |eo (as:List (CT ι)) (r:CT ι)
 |mut (c:CT ι)
 |js (c:CT ι)
 |nil
 deriving DecidableEq
def AT.im{ι:Type}:AT ι->Bool
 | .mut _ | .js _=>true
 |_=>false
def AT.pl{ι:Type}:AT ι->Bool
 | .mut _ | .js _ | .nil=>false
 |_=>true
inductive RT(ι:Type) where
 |d (c:CT ι)
 |fresh (e:CT ι)
 |whole (j:Nat)
 |mu (c:CT ι)
 |mr (c:CT ι)
 |mv
def RT.out{ι:Type}:RT ι->Bool
 | .mu _ | .mr _ | .mv=>true
 |_=>false
section
variable (X:SX)
@[reducible] def AT.T:AT X.ι->Type
 | .d c=>CT.T X.toSE c
 | .ref c=>CT.T X.toSE c
 | .eo as r=>HL X.toSE as->J (CT.T X.toSE r)
 | .mut c=>U (CT.T X.toSE c)
 | .js c=>CT.T X.toSE c
 | .nil=>Unit
@[reducible] def RT.T:RT X.ι->Type
 | .d c=>CT.T X.toSE c
 | .fresh e=>U (CT.T X.toSE e)
 | .whole _=>Unit
 | .mu c=>U (CT.T X.toSE c)
 | .mr c=>CT.T X.toSE c
 | .mv=>Unit
@[reducible] def iH:U (AT X.ι)->Type
 |[]=>Unit
 |a::l=>AT.T X a×iH l
@[reducible] def sQ:U (RT X.ι)->Type
 |[]=>Unit
 |[r]=>RT.T X r
 |r::r'::l=>RT.T X r×sQ (r'::l)
structure cp where
 args:List (AT X.ι)
 res:List (RT X.ι)
 fn:iH X args->Option (sQ X res)
 gen:Option (dg X):=none
variable {X}
def dV:Nat->(l:U (AT X.ι))->iH X l->U AV
 |_,[],_=>[]
 |n,.d c::l,a=>(CT.tv X.toSE c a.1).av::dV n l a.2
 |n,.ref c::l,a=> .eM (CT.row X.toSE c a.1) 0::dV n l a.2
 |n,.eo as r::l,a=>den (.eo as r a.1:DV X)::dV n l a.2
 |n,.mut _::l,a=> .own n 0 (List.length a.1)::dV (n+1) l a.2
 |n,.js _::l,a=> .ptr n 0 0::dV (n+1) l a.2
 |n,.nil::l,a=> .dc::dV n l a.2
abbrev wu(l:U (AT X.ι))(a:iH X l):U AV:=dV 0 l a
def rO(c:CT X.ι)(l:U (CT.T X.toSE c)):fw:=(CT.sz X c,l.map (CT.row X.toSE c))
def qp:(l:U (AT X.ι))->iH X l->U fw
 |[],_=>[]
 | .mut c::l,a=>rO c a.1::qp l a.2
 | .js c::l,a=>rO c [a.1]::qp l a.2
 | .d _::l,a=>qp l a.2
 | .ref _::l,a=>qp l a.2
 | .eo _ _::l,a=>qp l a.2
 | .nil::l,a=>qp l a.2
def qw:(r:RT X.ι)->RT.T X r->U (Option fw)
 | .mu c,x=>[some (rO c x)]
 | .mr c,x=>[some (rO c [x])]
 | .mv,_=>[none]
 |_,_=>[]
def nW:(l:U (RT X.ι))->sQ X l->U (Option fw)
 |[],_=>[]
 |[r],x=>qw r x
 |r::r'::l,x=>qw r x.1++nW (r'::l) x.2
def YK:(r:RT X.ι)->RT.T X r->U Nat
 | .mu _,x=>[List.length x]
 | .mr _,_=>[1]
 | .mv,_=>[0]
 |_,_=>[]
def yf:(l:U (RT X.ι))->sQ X l->U Nat
 |[],_=>[]
 |[r],x=>YK r x
 |r::r'::l,x=>YK r x.1++yf (r'::l) x.2
def VO(ns:U Nat):(r:RT X.ι)->RT.T X r->U RC
 | .d c,x=>[.d (CT.tv X.toSE c x)]
 | .fresh e,l=>[.fresh (CT.sz X e) (l.map (CT.row X.toSE e))]
 | .whole j,_=>[.whole j (ns.getD j 0)]
 |_,_=>[]
def Bh(ns:U Nat):(l:U (RT X.ι))->sQ X l->U RC
 |[],_=>[]
 |[r],x=>VO ns r x
 |r::r'::l,x=>VO ns r x.1++Bh ns (r'::l) x.2
def tu(l:U (RT X.ι))(x:sQ X l):RV:=
 match Bh (yf l x) l x with
 |[c]=> .one c
 |cs=> .eV cs
def sE(P:Program)(Γ:FuncId->J (cp X)):Prop:=
 ∀f s,Γ f=some s->eZ P f/\(∀ a r,s.fn a=some r->qt P f (wu s.args a) (qp s.args a) (nW s.res r) (tu s.res r))/\∀g,s.gen=some g->GG P f g
theorem apY:∀{l:U (AT X.ι)},(l.all λq=>q.pl)=true->(l.all λq=>!q.im)=true:=λ{l} h=>by
 rw[all_eq_true]at h ⊢;intro q hq;have:=h q hq;cases q<;>simp_all [AT.pl,AT.im]
theorem wz:∀{l:U (AT X.ι)}{a:iH X l},(l.all λq=>!q.im)=true->qp l a=[]
 |[],_,_=>rfl
 | .d _::l,a,h=>wz (l:=l) (by simpa[AT.im]using h)
 | .ref _::l,a,h=>wz (l:=l) (by simpa[AT.im]using h)
 | .eo _ _::l,a,h=>wz (l:=l) (by simpa[AT.im]using h)
 | .mut _::l,a,h=>by simp[AT.im]at h
 | .js _::l,a,h=>by simp[AT.im]at h
 | .nil::l,a,h=>wz (l:=l) (by simpa[AT.im]using h)
theorem ady{r:RT X.ι}{x:RT.T X r}(h:(!r.out)=true):qw r x=[]:=by cases r<;>first |rfl |simp[RT.out]at h
theorem adz:∀{l:U (RT X.ι)}{x:sQ X l},(l.all λq=>!q.out)=true->nW l x=[]
 |[],_,_=>rfl
 |[r],x,h=>ady (by simpa using h)
 |r::r'::l,x,h=>by
  simp only[all_cons,aN]at h;simp only[nW,ady h.1,bT];exact adz (l:=r'::l) (by simp only[all_cons,aN];exact h.2)
mutual
def bk:DV X->List Nat
 | .own k _ _=>[k]
 | .ptr k _ _=>[k]
 | .qv k _ _=>[k]
 | .tt k _ _ _ _=>[k]
 | .mp k=>[k]
 | .oz k _=>[k]
 | .agg cs=>aS cs
 | .eV cs=>aS cs
 | .fn _ first caps=>aS first++aS caps
 |_=>[]
def aS:List (DV X)->List Nat
 |[]=>[]
 |x::xs=>bk x++aS xs
end
theorem Ad(c:CT X.ι)(x:CT.T X.toSE c):refs (CT.tv X.toSE c x).av=[]:=by
 cases c<;>try rfl
 rename_i i;show fe ((X.row i x).map AV.t)=[];generalize X.row i x=l
 induction l with
 |nil=>rfl
 |cons y ys ih=>simp only[aH,fe,refs,ih,bT]
mutual
theorem iO:∀x:DV X,refs (den x)=bk x
 | .c t x=>Ad t x
 | .agg cs=>by simp only[den,refs,bk,gZ cs]
 | .eV cs=>by simp only[den,refs,bk,gZ cs]
 | .own _ _ _=>rfl
 | .ptr _ _ _=>rfl
 | .qv _ _ _=>rfl
 | .mp _=>rfl
 | .oz _ _=>rfl
 | .tt _ _ _ _ _=>rfl
 | .rp _ _ _=>rfl
 | .xa _ _ _ _ _=>rfl
 | .fn f first caps=>by simp only[den,refs,bk,gZ first,gZ caps]
 | .eo _ _ _=>rfl
 | .raw v=>by
  simp only[den,bk,cv];split
  .rfl
  .split<;>rfl
 | .nil=>rfl
 | .ub=>rfl
 | .skip=>rfl
 | .undef=>rfl
theorem gZ:∀l:List (DV X),fe (bS l)=aS l
 |[]=>rfl
 |x::xs=>by simp only[bS,fe,aS,iO x,gZ xs]
end
def RI(get:Nat->J (bm X))(d:DV X)(c:CT X.ι):J (CT.T X.toSE c×List Bool):=
 match d,c with
 | .own kk aa len,.sl e=>(get kk).bind λo=>match o with
  | .ep b l=>(jA (.sl b) (.sl e) l).bind λ(l:List (CT.T X.toSE e))=>some (sub l aa len,[aE (sub l aa len).length len])
  |_=>none
 | .own kk aa len,.any=>(get kk).bind λo=>match o with
  | .ep b l=>some (.sl (List.map (CT.row X.toSE b) (sub l aa len)),[aE (sub l aa len).length len])
  |_=>none
 | .oz kk len,.sl e=>(get kk).bind λo=>match o with
  | .ep b l=>(jA (.sl b) (.sl e) l).bind λ(l:List (CT.T X.toSE e))=>some (sub l 0 len,[aE (sub l 0 len).length len])
  |_=>none
 |d,c=>(Ky d c).bind λx=>some (x,[])
def wY(get:Nat->J (bm X)):U (DV X)->(l:U (CT X.ι))->J (HL X.toSE l×List Bool)
 |[],[]=>some ((),[])
 |d::ds,c::l=>(RI get d c).bind λx=>(wY get ds l).bind λh=>some ((x.1,h.1),x.2++h.2)
 |_,_=>none
def ZY(get:Nat->J (bm X))(d:DV X)(i:X.ι):J (CT.T X.toSE (.st i)×List Bool):=
 match d with
 | .agg cs=>(wY get cs (X.c7 i)).bind λh=>some (X.make i h.1,h.2)
 | .c a x=>(jA a (.st i) x).bind λx=>some (x,[])
 |_=>none
def FP(get:Nat->J (bm X))(d:DV X)(c:CT X.ι):J (CT.T X.toSE c×List Bool):=
 match c with
 | .st i=>ZY get d i
 |c=>RI get d c
def Zs(get:Nat->J (bm X))(d:DV X)(c:CT X.ι):J (CT.T X.toSE c):=
 match d with
 | .ptr kk row 0=>(get kk).bind λo=>match o with
  | .cells _ rows=>(rows[row]?).bind λq=>if q.all (λ x=>match x with | .c _ _=>true |_=>false)then H9 c q else none
  |_=>none
 | .rp a x 0=>jA a c x
 |_=>none
def uA:(l l':U (AT X.ι))->iH X l->iH X l'->iH X (l++l')
 |[],_,_,b=>b
 |_::l,l',a,b=>(a.1,uA l l' a.2 b)
def hlA:(as:U (CT X.ι))->HL X.toSE as->iH X (as.map AT.d)
 |[],_=>()
 |_::l,h=>(h.1,hlA l h.2)
def qx:U (AT X.ι)->Nat
 |[]=>0
 |q::l=>(if q.im then 1 else 0)+qx l
theorem lu:∀(n:Nat)(l l':U (AT X.ι))(a:iH X l)(b:iH X l'),dV n (l++l') (uA l l' a b)=dV n l a++dV (n+qx l) l' b
 |n,[],_,_,_=>rfl
 |n,.d c::l,l',a,b=>by simp[dV,uA,lu n l l' a.2 b,qx,AT.im]
 |n,.ref c::l,l',a,b=>by simp[dV,uA,lu n l l' a.2 b,qx,AT.im]
 |n,.eo as r::l,l',a,b=>by simp[dV,uA,lu n l l' a.2 b,qx,AT.im]
 |n,.mut c::l,l',a,b=>by simp[dV,uA,lu (n+1) l l' a.2 b,qx,AT.im,Nat.add_assoc]
 |n,.js c::l,l',a,b=>by simp[dV,uA,lu (n+1) l l' a.2 b,qx,AT.im,Nat.add_assoc]
 |n,.nil::l,l',a,b=>by simp[dV,uA,lu n l l' a.2 b,qx,AT.im]
theorem JU:∀(n:Nat)(as:U (CT X.ι))(h:HL X.toSE as),dV n (as.map AT.d) (hlA as h)=(HL.oc X.toSE as h).map TV.av
 |_,[],_=>rfl
 |n,c::l,h=>congrArg ((CT.tv X.toSE c h.1).av:: ·) (JU n l h.2)
def ao0{a b:CT X.ι}(h:a=b)(o:J (CT.T X.toSE a)):J (CT.T X.toSE b):=h ▸ o
def kr(get:Nat->J (bm X))(pD:FuncId->U (DV X)->U (DV X)->(as:U (CT X.ι))->(r:CT X.ι)->J ((HL X.toSE as->J (CT.T X.toSE r))×List Bool)):U (DV X)->(l:U (AT X.ι))->J (iH X l×List Bool)
 |[],[]=>some ((),[])
 |d::ds,.d c::l=>(FP get d c).bind λx=>(kr get pD ds l).bind λh=>some ((x.1,h.1),x.2++h.2)
 |d::ds,.ref c::l=>(Zs get d c).bind λx=>(kr get pD ds l).bind λh=>some ((x,h.1),h.2)
 |d::ds,.eo as r::l=>(match d with
  | .eo as' r' φ=>if h:as'=as/\r'=r then some (λ x=>ao0 h.2 (φ (h.1 ▸ x)),[])else none
  | .fn f first caps=>pD f first caps as r
  |_=>none).bind λφ=>(kr get pD ds l).bind λq=>some ((φ.1,q.1),φ.2++q.2)
 |_,_=>none
def RJ(Γ:FuncId->J (cp X))(get:Nat->J (bm X)):Nat->U (DV X)->(l:U (AT X.ι))->J (iH X l×List Bool)
 | 0,ds,l=>kr get (λ _ _ _ _ _=>none) ds l
 |n+1,ds,l=>kr get (λ f first caps as r=>(Γ f).bind λs=>match s with
   |⟨sa,[.d r'],fn,_⟩=>
    if h:r'=r/\sa=sa.take first.length++(as.map AT.d++sa.drop (first.length+as.length))/\first.length=0 then
     (RJ Γ get n first (sa.take first.length)).bind λhf=>(RJ Γ get n caps (sa.drop (first.length+as.length))).bind λhc=>
      some (λ x=>ao0 h.1 (fn (h.2.1 ▸ uA _ _ hf.1 (uA _ _ (hlA as x) hc.1))),hf.2++hc.2)
    else none
   |_=>none) ds l
section
variable {P:Program} {Γ:FuncId->Option (cp X)} {get:Nat->Option (bm X)} {rd:List Nat}
theorem gQ{a b:U Prop}(h:∀p∈a,p)(h':∀p∈b,p):∀p∈a++b,p:=λp hp=>(bn.1 hp).elim (h p) (h' p)
theorem Ic{d:DV X}{c:CT X.ι}{x:CT.T X.toSE c×List Bool}(h:RI get d c=some x)(hc:∀b∈x.2,b=true)(hrd:∀j∈bk d,j∈rd):∃hs obs,(∀ p∈obs,p)/\∀ag,nU P (dO rd (fB get)) (den d) (hs++ag)=some ((CT.tv X.toSE c x.1).av,ag,obs):=by
 have base:∀{d:DV X}{c:CT X.ι}{x:CT.T X.toSE c},Ky d c=some x->∃hs obs,(∀ p∈obs,p)/\∀ag,nU P (dO rd (fB get)) (den d) (hs++ag)=some ((CT.tv X.toSE c x).av,ag,obs):=by
  intro d c x h;unfold Ky at h;split at h
  .rw[(oH h).1];refine⟨[],[],by simp,λag=>?_⟩;simp only[bT,den];cases c<;>try rfl
   rename_i j;show nU P _ (.agg ((X.row j x).map AV.t)) ag=_;have:∀(l:U Tree) (hs:U LH),mI P (dO rd (fB get)) (l.map AV.t) hs=some (l.map AV.t,hs,[]):=by
    intro l
    induction l with
    |nil=>intro hs;rfl
    |cons y ys ih=>intro hs;simp only[aH,mI,nU,af,ih,bT]
   simp only[nU,this,af];rfl
  .cases h;exact⟨[.emp],[],by simp,λag=>rfl⟩
  .cases h;exact⟨[.emp],[],by simp,λag=>rfl⟩
  .cases h
 unfold RI at h;split at h
 .rename_i kk aa len e;rw[ai]at h;obtain⟨o,h1,h⟩:=h;split at h
  .rename_i b l0;rw[ai]at h;obtain⟨l,h2,h⟩:=h;cases h;have h3:(sub l aa len).length=len:=(by simpa[aE]using hc (aE (sub l aa len).length len) (by simp));have⟨h4,h5⟩:=jf h2;refine⟨[.rows ((sub l aa len).map (CT.row X.toSE e))],[(((bI (.ep b l0):aU).rows.drop aa).take len=aK ((sub l aa len).map (CT.row X.toSE e))/\((sub l aa len).map (CT.row X.toSE e)).length=len)],?_,λag=>?_⟩
   .intro p hp;simp only[aR]at hp;subst hp;refine⟨?_,by simpa using h3⟩;simp only[bI,h5];simp[aK,sub,map_take]
   .simp only[cons_append,bT,den,nU,eU (hrd kk (by simp[bk])) h1,af];rfl
  .cases h
 .rename_i kk aa len;rw[ai]at h;obtain⟨o,h1,h⟩:=h;split at h
  .rename_i b l0;cases h;have h3:(sub l0 aa len).length=len:=(by simpa[aE]using hc (aE (sub l0 aa len).length len) (by simp));refine⟨[.rows ((sub l0 aa len).map (CT.row X.toSE b))],[(((bI (.ep b l0):aU).rows.drop aa).take len=aK ((sub l0 aa len).map (CT.row X.toSE b))/\((sub l0 aa len).map (CT.row X.toSE b)).length=len)],?_,λag=>?_⟩
   .intro p hp;simp only[aR]at hp;subst hp;refine⟨?_,by simpa using h3⟩;simp only[bI];simp[aK,sub,map_take,map_drop]
   .simp only[cons_append,bT,den,nU,eU (hrd kk (by simp[bk])) h1,af];rfl
  .cases h
 .rename_i kk len e;rw[ai]at h;obtain⟨o,h1,h⟩:=h;split at h
  .rename_i b l0;have⟨l,h2,h⟩:=ai.1 h;cases h;have h3:(sub l 0 len).length=len:=(by simpa[aE]using hc (aE (sub l 0 len).length len) (by simp));have⟨h4,h5⟩:=jf h2;refine⟨[.rows ((sub l 0 len).map (CT.row X.toSE e))],[(((bI (.ep b l0):aU).rows.drop 0).take len=aK ((sub l 0 len).map (CT.row X.toSE e))/\((sub l 0 len).map (CT.row X.toSE e)).length=len)],?_,λag=>?_⟩
   .intro p hp;simp only[aR]at hp;subst hp;refine⟨?_,by simpa using h3⟩;simp only[bI,h5];simp[aK,sub,map_take,map_drop]
   .simp only[cons_append,bT,den,nU,eU (hrd kk (by simp[bk])) h1,af];rfl
  .cases h
 .have⟨y,h1,h⟩:=ai.1 h;cases h;exact base h1
theorem Nj:∀{ds:U (DV X)}{l:U (CT X.ι)}{h:HL X.toSE l×List Bool},wY get ds l=some h->(∀ b∈h.2,b=true)->l.all CT.one=true->(∀ j∈aS ds,j∈rd)->
 ∃hs obs,(∀ p∈obs,p)/\∀ag,mI P (dO rd (fB get)) (bS ds) (hs++ag)=some ((HL.row X.toSE l h.1).map AV.t,ag,obs)
 |[],[],h,_,_,_,_=>⟨[],[],by simp,λag=>rfl⟩
 |d::ds,c::l,h,hr,hc,ha,hrd=>by
  simp only[wY]at hr;have⟨x,h1,hr⟩:=ai.1 hr;have⟨g,h2,hr⟩:=ai.1 hr;cases hr;simp only[all_cons,aN]at ha;obtain⟨hs1,o1,p1,q1⟩:=Ic (P:=P) (rd:=rd) h1 (λ b hb=>hc b (by simp[hb])) (λ j hj=>hrd j (by simp[aS,hj]));obtain⟨hs2,o2,p2,q2⟩:=Nj h2 (λ b hb=>hc b (by simp[hb])) ha.2 (λ j hj=>hrd j (by simp[aS,hj]));refine⟨hs1++hs2,o1++o2,gQ p1 p2,λag=>?_⟩;simp only[bS,mI,aO,q1,af,q2];show _=some ((CT.row X.toSE c x.1++HL.row X.toSE l g.1).map AV.t,ag,o1++o2);rw[List.map_append,<- PH ha.1 x.1];rfl
 |[],_::_,_,hr,_,_,_=>by simp[wY]at hr
 |_::_,[],_,hr,_,_,_=>by simp[wY]at hr
theorem Ae{d:DV X}{c:CT X.ι}{x:CT.T X.toSE c×List Bool}(h:FP get d c=some x)(hc:∀b∈x.2,b=true)(hrd:∀j∈bk d,j∈rd):∃hs obs,(∀ p∈obs,p)/\∀ag,nU P (dO rd (fB get)) (den d) (hs++ag)=some ((CT.tv X.toSE c x.1).av,ag,obs):=by
 cases c
 case st i=>
  replace h:ZY get d i=some x:=h
  cases d
  case agg cs=>
   simp only[ZY]at h;rw[ai]at h;obtain⟨g,h1,h⟩:=h;cases h;obtain⟨hs,obs,p1,q1⟩:=Nj (P:=P) (rd:=rd) h1 hc (X.flat i) (λ j hj=>hrd j (by simpa[bk]using hj));refine⟨hs,obs,p1,λag=>?_⟩;simp only[den,nU,q1,af,CT.tv,TV.av];rw[X.gp]
  case c a y=>exact Ic (c:= .st i) (x:=x) (by unfold RI;exact h) hc hrd
  all_goals cases h
 all_goals exact Ic h hc hrd
theorem adA{d:DV X}{c:CT X.ι}{x:CT.T X.toSE c}(h:Zs get d c=some x)(hrd:∀j∈bk d,j∈rd):∃hs obs,(∀ p∈obs,p)/\∀ag,nU P (dO rd (fB get)) (den d) (hs++ag)=some (.eM (CT.row X.toSE c x) 0,ag,obs):=by
 unfold Zs at h;split at h
 .rename_i kk row;rw[ai]at h;obtain⟨o,h1,h⟩:=h;split at h
  .rename_i sz rows;rw[ai]at h;obtain⟨q,h2,h⟩:=h;split at h
   .rename_i hq;refine⟨[.row (CT.row X.toSE c x)],[(bI (.cells sz rows):aU).rows[row]? =some ((CT.row X.toSE c x).map AV.t)],?_,λag=>?_⟩
    .intro p hp;simp only[aR]at hp;subst hp;simp only[bI,List.getElem?_map,h2,Option.map_some];rw[<- yD h,nV,map_map];congr 1;refine map_congr_left λy hy=>?_;have:=all_eq_true.1 hq y hy;cases y<;>first |exact(aoZ _).symm |simp at this
    .simp only[cons_append,bT,den,nU,eU (hrd kk (by simp[bk])) h1,af]
   .cases h
  .cases h
 .rename_i a y;refine⟨[],[],by simp,λag=>?_⟩;simp only[den,(oH h).2];rfl
 .cases h
theorem agl{n:Nat}{l l':U (AT X.ι)}(e:l=l')(b:iH X l):dV n l' (e ▸ b)=dV n l b:=by subst e;rfl
theorem CG{pD:FuncId->U (DV X)->U (DV X)->(as:U (CT X.ι))->(r:CT X.ι)->J ((HL X.toSE as->J (CT.T X.toSE r))×List Bool)}:∀{ds:U (DV X)}{l:U (AT X.ι)}{a:iH X l×List Bool},kr get pD ds l=some a->(l.all λq=>!q.im)=true
 |[],[],_,_=>rfl
 |d::ds,.d c::l,a,h=>by
  simp only[kr]at h;have⟨x,h1,h⟩:=ai.1 h;have⟨q,h2,h⟩:=ai.1 h;simpa[AT.im]using CG h2
 |d::ds,.ref c::l,a,h=>by
  simp only[kr]at h;have⟨x,h1,h⟩:=ai.1 h;have⟨q,h2,h⟩:=ai.1 h;simpa[AT.im]using CG h2
 |d::ds,.eo as r::l,a,h=>by
  simp only[kr]at h;have⟨x,h1,h⟩:=ai.1 h;have⟨q,h2,h⟩:=ai.1 h;simpa[AT.im]using CG h2
 |_::_,.mut _::_,_,h=>by simp[kr]at h
 |_::_,.js _::_,_,h=>by simp[kr]at h
 |_::_,.nil::_,_,h=>by simp[kr]at h
 |[],_::_,_,h=>by simp[kr]at h
 |_::_,[],_,h=>by simp[kr]at h
theorem adB:∀{n:Nat}{ds:U (DV X)}{l:U (AT X.ι)}{a:iH X l×List Bool},RJ Γ get n ds l=some a->(l.all λq=>!q.im)=true
 | 0,_,_,_,h=>CG h
 |_+1,_,_,_,h=>CG h
theorem Uw:∀as:U (CT X.ι),((as.map AT.d).all λq=>!q.im)=true
 |[]=>rfl
 |_::l=>Uw l
def apZ(P:Program)(get:Nat->J (bm X))(pD:FuncId->U (DV X)->U (DV X)->(as:U (CT X.ι))->(r:CT X.ι)->J ((HL X.toSE as->J (CT.T X.toSE r))×List Bool)):Prop:=
 ∀f first caps as r φ rd,pD f first caps as r=some φ->(∀ b∈φ.2,b=true)->(∀ j∈aS first++aS caps,j∈rd)->∃hs obs,(∀ p∈obs,p)/\∀ag,nU P (dO rd (fB get)) (.fn f (bS first) (bS caps)) (hs++ag)=some (den (.eo as r φ.1:DV X),ag,obs)
theorem tC{n:Nat}{pD:FuncId->U (DV X)->U (DV X)->(as:U (CT X.ι))->(r:CT X.ι)->J ((HL X.toSE as->J (CT.T X.toSE r))×List Bool)}(t7:apZ P get pD):∀{ds:U (DV X)}{l:U (AT X.ι)}{a:iH X l×List Bool},kr get pD ds l=some a->(∀ b∈a.2,b=true)->(∀ j∈aS ds,j∈rd)->
 ∃hs obs,(∀ p∈obs,p)/\∀ag,mI P (dO rd (fB get)) (bS ds) (hs++ag)=some (dV n l a.1,ag,obs)
 |[],[],_,_,_,_=>⟨[],[],by simp,λag=>rfl⟩
 |d::ds,.d c::l,a,h,hc,hrd=>by
  simp only[kr]at h;have⟨x,h1,h⟩:=ai.1 h;have⟨q,h2,h⟩:=ai.1 h;cases h;obtain⟨hs1,o1,p1,q1⟩:=Ae (P:=P) (rd:=rd) h1 (λ b hb=>hc b (by simp[hb])) (λ j hj=>hrd j (by simp[aS,hj]));obtain⟨hs2,o2,p2,q2⟩:=tC (n:=n) t7 h2 (λ b hb=>hc b (by simp[hb])) (λ j hj=>hrd j (by simp[aS,hj]));refine⟨hs1++hs2,o1++o2,gQ p1 p2,λag=>?_⟩;simp only[bS,mI,aO,q1,af,q2,dV]
 |d::ds,.ref c::l,a,h,hc,hrd=>by
  simp only[kr]at h;rw[ai]at h;obtain⟨x,h1,h⟩:=h;rw[ai]at h;obtain⟨q,h2,h⟩:=h;cases h;obtain⟨hs1,o1,p1,q1⟩:=adA (P:=P) (rd:=rd) h1 (λ j hj=>hrd j (by simp[aS,hj]));obtain⟨hs2,o2,p2,q2⟩:=tC (n:=n) t7 h2 hc (λ j hj=>hrd j (by simp[aS,hj]));refine⟨hs1++hs2,o1++o2,gQ p1 p2,λag=>?_⟩;simp only[bS,mI,aO,q1,af,q2,dV]
 |d::ds,.eo as r::l,a,h,hc,hrd=>by
  simp only[kr]at h;rw[ai]at h;obtain⟨φ,h1,h⟩:=h;rw[ai]at h;obtain⟨q,h2,h⟩:=h;cases h;have hd:∃hs obs,(∀ p∈obs,p)/\∀ag,nU P (dO rd (fB get)) (den d) (hs++ag)=some (den (.eo as r φ.1:DV X),ag,obs):=by
   cases d
   case eo as' r' ψ=>
    simp only at h1;split at h1
    .rename_i e;obtain⟨rfl,rfl⟩:=e;cases h1;exact⟨[],[],by simp,λag=>rfl⟩
    .cases h1
   case fn f first caps=>
    obtain⟨hs,obs,g1,g2⟩:=t7 f first caps as r φ rd h1 (λ b hb=>hc b (by simp[hb])) (λ j hj=>hrd j (by simp only[aS,bk,bn]at hj ⊢;exact .inl hj))
    exact⟨hs,obs,g1,λag=>by simp only[den];exact g2 ag⟩
   all_goals simp at h1
  obtain⟨hs1,o1,p1,q1⟩:=hd;obtain⟨hs2,o2,p2,q2⟩:=tC (n:=n) t7 h2 (λ b hb=>hc b (by simp[hb])) (λ j hj=>hrd j (by simp[aS,hj]));refine⟨hs1++hs2,o1++o2,gQ p1 p2,λag=>?_⟩;simp only[bS,mI,aO,q1,af,q2,dV]
 |_::_,.mut _::_,_,h,_,_=>by simp[kr]at h
 |_::_,.js _::_,_,h,_,_=>by simp[kr]at h
 |_::_,.nil::_,_,h,_,_=>by simp[kr]at h
 |[],_::_,_,h,_,_=>by simp[kr]at h
 |_::_,[],_,h,_,_=>by simp[kr]at h
theorem agm{n:Nat}:∀{l:U (AT X.ι)}(a:iH X l),l=[]->dV n l a=[]
 |_,_,rfl=>rfl
theorem rZ(hΓ:sE P Γ):∀(m:Nat){n:Nat}{ds:U (DV X)}{l:U (AT X.ι)}{a:iH X l×List Bool}{rd:U Nat},RJ Γ get m ds l=some a->(∀ b∈a.2,b=true)->(∀ j∈aS ds,j∈rd)->
 ∃hs obs,(∀ p∈obs,p)/\∀ag,mI P (dO rd (fB get)) (bS ds) (hs++ag)=some (dV n l a.1,ag,obs)
 | 0,n,ds,l,a,rd,h,hcs,hrd=>tC (λ _ _ _ _ _ _ _ h=>by cases h) h hcs hrd
 |m+1,n,ds,l,a,rd,h,hcs,hrd=>by
  refine tC (λ f first caps as r φ rd' hc hb HM=>?_) h hcs hrd;rw[ai]at hc;obtain⟨s,h1,hc⟩:=hc;split at hc
  .rename_i sa r' fn _;split at hc
   .rename_i e;obtain⟨rfl,e2,e3⟩:=e;have⟨hf,h2,hc⟩:=ai.1 hc;have⟨hcap,h3,hc⟩:=ai.1 hc;injection hc with hc;rw[<- hc]at hb;obtain⟨g1,g2,_⟩:=hΓ f _ h1;obtain⟨hs1,o1,p1,q1⟩:=rZ hΓ m h2 (n:=0) (rd:=rd') (λ b hb'=>hb b (by simp[hb'])) (λ j hj=>HM j (by simp[hj]));obtain⟨hs2,o2,p2,q2⟩:=rZ hΓ m h3 (n:=0+qx (sa.take first.length)+qx (as.map AT.d)) (rd:=rd') (λ b hb'=>hb b (by simp[hb'])) (λ j hj=>HM j (by simp[hj]));refine⟨.eo (λ ts u=>∃h x,φ.1 h=some x/\ts=HL.oc X.toSE as h/\u=CT.tv X.toSE r' x)::(hs1++hs2),o1++(o2++[dV 0 _ hf.1=[]/\eZ P f/\∀args r,(∃ h x,φ.1 h=some x/\args=HL.oc X.toSE as h/\r=CT.tv X.toSE r' x)->ri P f (dV 0 _ hf.1++args.map TV.av++dV (0+qx (sa.take first.length)+qx (as.map AT.d)) _ hcap.1) (.one (.d r))]),?_,λag=>?_⟩
    .intro p hp;simp only[bn,aR]at hp;rcases hp with hp |hp |hp
     .exact p1 p hp
     .exact p2 p hp
     .subst hp;refine⟨agm _ (by rw[e3];rfl),g1,?_⟩;rintro args r ⟨x,y,hxy,rfl,rfl⟩;rw[<- hc]at hxy;have hxy':fn (e2 ▸ uA _ _ hf.1 (uA _ _ (hlA as x) hcap.1))=some y:=hxy;have:=g2 _ _ hxy';have hnm:(sa.all λq=>!q.im)=true:=(by rw[e2,List.all_append,List.all_append,adB h2,adB h3,Uw];rfl);rw[wz hnm,wu,agl e2.symm,lu,lu,JU,<- aO]at this;exact Nb this
    .simp only[cons_append,aO,nU,q1,af,q2];rfl
   .cases hc
  .cases hc
end
end
def RL(s:ByteArray)(n:Int):J Int:=bif decide (0<=n)then(s[n.toNat]?).map λb=>(b.toNat:Int)else none
def xK(m:Int)(bytes:Nat):Bool:=decide (0<=m)&&decide (m.toNat*bytes<=140737488355328)&&decide (m.toNat<=maxLen)
def fG{K V:Type}(eq:K->K->Bool)(k:K):U (K×V)->J V
 |[]=>none
 |p::r=>bif eq k p.1 then some p.2 else fG eq k r
def nG{K V:Type}(eq:K->K->Bool)(k:K)(v:V):U (K×V)->U (K×V)
 |[]=>[(k,v)]
 |p::r=>bif eq k p.1 then(k,v)::r else p::nG eq k v r
def io(a b:Int):Bool:=a==b
def lw(a b:ByteArray):Bool:=a.toList==b.toList
def bEq(a b:Bool):Bool:=a==b
section
variable {X:SX} {A:Type}
def Nk:(c:CT X.ι)->J (CT.T X.toSE c->CT.T X.toSE c->Bool)
 | .int _=>some io
 | .str=>some lw
 | .bool=>some bEq
 |_=>none
def DO{ι:Type}:AI->CT ι->Bool
 | .int a,.int b=>decide (a=b)
 | .str,.str=>true
 | .bool,.bool=>true
 |_,_=>false
def No{ι:Type}:CT ι->Bool
 | .st _=>true
 |_=>false
theorem iE(a b:U (DV X)):bS (a++b)=bS a++bS b:=by simp[nV]
theorem sj(a b:U (Nat×Option (bm X))):iC (a++b)=iC a++iC b:=by simp[iC]
def Nl(ae:U Nat):U (Nat×Option (bm X)):=ae.map λj=>(j,none)
theorem CJ(ae:U Nat):iC (Nl (X:=X) ae)=ae.map λk=>(k,none):=by simp[iC,Nl]
theorem JV{ae:U Nat}{p:Nat×Option (bm X)}(h:p∈Nl ae):p.1∈ae:=by
 simp only[Nl,mem_map]at h;obtain⟨j,hj,rfl⟩:=h;exact hj
variable (T:er) (am:TypeId->Option (CT X.ι))
def agp:DV X->Bool
 | .nil=>true
 |_=>false
def GF(op:BinOp)(b:DV X)(yes:Bool)(k:KK X A):J A:=
 match op with
 | .eql=>bif yes then k b [] [] []else k (.c .bool false) [] [] []
 | .neq=>bif yes then k b [] [] []else k (.c .bool true) [] [] []
 |_=>none
def We(op:BinOp)(t:TypeId)(x:DV X)(k:KK X A):J A:=
 (T t).bind λti=>match ti.k,x with
 | .slice _,.c (.sl _) l=>GF op .ub (List.isEmpty l) k
 | .slice _,.own _ _ len=>GF op .ub (len==0) k
 | .slice _,.oz _ len=>GF op (.c .bool (op== .eql)) (len==0) k
 | .slice _,.nil=>GF op (.c .bool (op== .eql)) true k
 |_,_=>none
def ao1(s d:TypeId)(x:DV X)(k:KK X A):J A:=
 (T s).bind λ_=>(T d).bind λdi=>match di.k,x with
 | .int kd,.c (.int _) n=>k (.c (.int kd) (kd.wrap (iN n))) [] [] []
 |_,_=>none
def alo(t:TypeId)(x j:DV X)(k:KK X A):J A:=
 (T t).bind λti=>match ti.k,x,j with
 | .str,.c .str s,.c (.int _) n=>(RL s n).bind λb=>k (.c (.int .u8) b) [] [] []
 | .arr m e,.agg cs,.c (.int _) q=>(T e).bind λei=>bif cN q m then(H8 ei.agg ei.size ((cs.drop (q.toNat*ei.size)).take ei.size)).bind λv=>k v [] [] []else none
 |_,_,_=>none
def Z0(t:TypeId)(x:DV X)(lo hi:J (DV X))(k:KK X A):J A:=
 (T t).bind λti=>match ti.k,x with
 | .slice e,.nil=>(T e).bind λ_=>(At 0 lo).bind λl=>(At 0 hi).bind λh=>bif decide (l=0)&&decide (h=0)then k .nil [] [] []else none
 |_,_=>none
def PZ(i:Nat)(b:Builtin)(args:U (DV X))(c7:U TypeId)(get:Nat->J (bm X))(k:KK X A):J A:=
 match b,args,c7 with
 | .cap,[.nil],[t]=>(T t).bind λti=>match ti.k with
  | .slice _=>k (.c (.int .i64) (0:Int)) [] [] []
  |_=>none
 | .clear,[.own kk aa _],[t]=>(T t).bind λti=>match ti.k with
  | .slice e=>(T e).bind λei=>(get kk).bind λo=>match o with
   | .ep c l=>if CT.sz X c=ei.size then k (.eV []) [(kk,some (.ep c (l.take aa)))] [kk] [kk]else none
   |_=>none
  |_=>none
 | .append,[.nil,.c (.int _) m],[t,u]=>(T t).bind λti=>(T u).bind λui=>match ti.k,ui.k with
  | .slice e,.int _=>(T e).bind λei=>(am e).bind λc=>if CT.sz X c=ei.size/\0<ei.size then(H9 c (ei.zero.map uc)).bind λz=>
   bif xK (iN m) ei.bytes then k (.own (cT i) 0 m.toNat) [(cT i,some (.ep c (List.replicate m.toNat z)))] [] []else none else none
  |_,_=>none
 |_,_,_=>none
def P5(x:DV X)(k:KK X A):J A:=
 match x with
 | .ptr kk r f=>k (.ptr kk r f) [] [] []
 | .qv kk n f=>k (.qv kk n f) [] [] []
 | .tt kk r f m n=>k (.tt kk r f m n) [] [] []
 | .rp c y f=>k (.rp c y f) [] [] []
 |_=>none
def YY(i:Nat)(t:TypeId)(l c:DV X)(k:KK X A):J A:=
 (T t).bind λti=>match ti.k,l,c with
 | .slice e,.c (.int _) n,.c (.int _) m=>(T e).bind λei=>(am e).bind λc=>if CT.sz X c=ei.size/\0<ei.size then(H9 c (ei.zero.map uc)).bind λz=>
  bif decide (iN n<=iN m)&&(decide (0<=iN n)&&xK (iN m) ei.bytes)then k (.own (cT i) 0 n.toNat) [(cT i,some (.ep c (List.replicate n.toNat z)))] [] []else none else none
 |_,_,_=>none
def VP(i:Nat)(t:TypeId)(k:KK X A):J A:=
 (T t).bind λti=>match ti.k with
 | .map kt et=>(am kt).bind λkc=>(am et).bind λvc=>k (.mp (cT i)) [(cT i,some (.map kc vc []))] [] []
 |_=>none
def Ux(t:TypeId)(x key:DV X)(ok:Bool)(get:Nat->J (bm X))(k:KK X A):J A:=
 (T t).bind λti=>match ti.k,x with
 | .map kt et,.mp kk=>(T kt).bind λki=>(T et).bind λei=>(get kk).bind λo=>match o with
  | .map kc vc l=>(Nk kc).bind λeq=>(Ky key kc).bind λkv=>if DO ki.k kc=true/\ei.agg=No vc/\ei.size=CT.sz X vc then(H9 vc (ei.zero.map uc)).bind λz=>
   bif ok then k (.eV [.c vc ((fG eq kv l).getD z),.c .bool (fG eq kv l).isSome]) [] [kk] []else k (.c vc ((fG eq kv l).getD z)) [] [kk] []else none
  |_=>none
 |_,_=>none
def Uy(t:TypeId)(x key y:DV X)(get:Nat->J (bm X))(k:KK X A):J A:=
 (T t).bind λti=>match ti.k,x with
 | .map kt _,.mp kk=>(T kt).bind λki=>(get kk).bind λo=>match o with
  | .map kc vc l=>(Nk kc).bind λeq=>(Ky key kc).bind λkv=>(dat y vc).bind λv=>if DO ki.k kc=true then k .undef [(kk,some (.map kc vc (nG eq kv v l)))] [kk] [kk]else none
  |_=>none
 |_,_=>none
def mW:(l:U (CT X.ι))->HL X.toSE l->U Int
 |[],_=>[]
 | .int _::l,h=>h.1::mW l h.2
 |_::l,h=>mW l h.2
def CK(i:X.ι)(a b:CT.T X.toSE (.st i)):Bool:=decide (mW (X.c7 i) (X.get i a)=mW (X.c7 i) (X.get i b))
def Ei{ι:Type}(k:IntKind):U (CT ι)->Bool
 |[]=>true
 | .int k'::l=>decide (k'=k)&&Ei k l
 |_=>false
def Nn(t:TypeId)(x key:DV X)(ok:Bool)(get:Nat->J (bm X))(k:KK X A):J A:=
 (T t).bind λti=>match ti.k,x with
 | .map kt et,.mp kk=>(F1 T kt).bind λmk=>(T et).bind λei=>(get kk).bind λo=>match o with
  | .map (.st i) vc l=>(dat key (.st i)).bind λkv=>if (X.c7 i).length=mk.1/\Ei mk.2 (X.c7 i)=true/\ei.agg=No vc/\ei.size=CT.sz X vc then(H9 vc (ei.zero.map uc)).bind λz=>
   bif ok then k (.eV [.c vc ((fG (CK i) kv l).getD z),.c .bool (fG (CK i) kv l).isSome]) [] [kk] []else k (.c vc ((fG (CK i) kv l).getD z)) [] [kk] []else none
  |_=>none
 |_,_=>none
def Np(t:TypeId)(x key y:DV X)(get:Nat->J (bm X))(k:KK X A):J A:=
 (T t).bind λti=>match ti.k,x with
 | .map kt _,.mp kk=>(F1 T kt).bind λmk=>(get kk).bind λo=>match o with
  | .map (.st i) vc l=>(dat key (.st i)).bind λkv=>(dat y vc).bind λv=>if (X.c7 i).length=mk.1/\Ei mk.2 (X.c7 i)=true then k .undef [(kk,some (.map (.st i) vc (nG (CK i) kv v l)))] [kk] [kk]else none
  |_=>none
 |_,_=>none
def Z4(x:DV X)(get:Nat->J (bm X)):Bool:=match x with
 | .mp kk=>match get kk with
  |some (.map (.st _) _ _)=>true
  |_=>false
 |_=>false
def ap2(o:Op)(ρ:Operand->DV X):Bool:=
 match o with
 | .binOp _ _ _ y _=>agp (ρ y)
 | .convert _ _ _=>true
 | .index _ _ _=>true
 | .nilCheck _=>true
 | .makeSlice _ _ _=>true
 | .makeMap _ none=>true
 | .lookup _ _ _ _=>true
 | .mapUpdate _ _ _ _=>true
 | .slice _ x _ _ none=>agp (ρ x)
 | .call { callee:= .builtin b,args:=args,argTypes:=_ }=>match b,args.toList.map ρ with
  | .cap,_=>true
  | .clear,_=>true
  | .append,[_,.c (.int _) _]=>true
  |_,_=>false
 |_=>false
def Wc(i:Nat)(o:Op)(ρ:Operand->DV X)(get:Nat->J (bm X))(k:KK X A):J A:=
 match o with
 | .binOp op t x y _=>if agp (ρ y)then We T op t (ρ x) k else none
 | .convert s d x=>ao1 T s d (ρ x) k
 | .index t x j=>alo T t (ρ x) (ρ j) k
 | .slice t x lo hi none=>Z0 T t (ρ x) (lo.map ρ) (hi.map ρ) k
 | .nilCheck x=>P5 (ρ x) k
 | .makeSlice t l c=>YY T am i t (ρ l) (ρ c) k
 | .makeMap t none=>VP T am i t k
 | .lookup t m x ok=>bif Z4 (ρ m) get then Nn T t (ρ m) (ρ x) ok get k else Ux T t (ρ m) (ρ x) ok get k
 | .mapUpdate t m x v=>bif Z4 (ρ m) get then Np T t (ρ m) (ρ x) (ρ v) get k else Uy T t (ρ m) (ρ x) (ρ v) get k
 | .call { callee:= .builtin b,args:=args,argTypes:=c7 }=>PZ T am i b (args.toList.map ρ) c7.toList get k
 |_=>none
def Kf(get:Nat->J (bm X))(c:CT X.ι)(ρ:Operand->DV X)(x:Operand):DV X:=
 match FP get (ρ x) c with
 |some y=> .c c y.1
 |none=>ρ x
def Nm(get:Nat->J (bm X))(c:CT X.ι)(ρ:Operand->DV X):U Operand->U Bool
 |[]=>[]
 |x::xs=>(match FP get (ρ x) c with |some y=>y.2 |none=>[])++Nm get c ρ xs
def AD(get:Nat->J (bm X))(c:CT X.ι)(ρ:Operand->DV X):U Operand->U Nat
 |[]=>[]
 |x::xs=>(match FP get (ρ x) c with |some _=>bk (ρ x) |none=>[])++AD get c ρ xs
def anN(o:Op)(ρ:Operand->DV X)(get:Nat->J (bm X)):J (CT X.ι):=
 match o with
 | .box t _=>am t
 | .assign x | .move x=>match ρ x with
  | .own kk _ _=>(get kk).bind λo=>match o with
   | .ep c _=>some (.sl c)
   |_=>none
  |_=>none
 | .buildSlice t _ _=>(T t).bind λti=>match ti.k with
  | .slice e=>am e
  |_=>none
 | .store t _ _=>am t
 |_=>none
def ap3(o:Op)(ρ:Operand->DV X):Bool:=
 match o with
 | .buildSlice _ _ parts=>!(aS (parts.toList.map λp=>ρ p.2)).isEmpty
 | .store _ a x=>match ρ a with
  | .qv _ _ _=>!(bk (ρ x)).isEmpty
  |_=>false
 |_=>false
def Wa(i:Nat)(o:Op)(ρ:Operand->DV X)(get:Nat->J (bm X))(k:KK X A):J A:=
 if afY o then none else(anN T am o ρ get).bind λc=>Vz (Nm get c ρ o.operands.toList)
  (L7 T am i o (Kf get c ρ) (λ j=>if j∈AD get c ρ o.operands.toList then none else get j) λdv upd rd wr=>
   k dv (upd++Nl (AD get c ρ o.operands.toList)) (rd++AD get c ρ o.operands.toList) (wr++AD get c ρ o.operands.toList))
def ap4(o:Op)(ρ:Operand->DV X):Bool:=
 match o with
 | .indexAddr t x (.tmp _)=>match ρ x,T t with
  | .ptr _ _ _,some ti | .rp _ _ _,some ti=>match ti.k with
   | .arr _ e=>match T e with
    |some ei=>ei.size==1
    |none=>false
   |_=>false
  |_,_=>false
 | .load _ a=>match ρ a with
  | .tt _ _ _ _ _ | .xa _ _ _ _ _=>true
  |_=>false
 |_=>false
def zO(c:CT X.ι):U (DV X)->J (List (CT.T X.toSE c))
 |[]=>some []
 | .c a x::r=>(jA a c x).bind λy=>(zO c r).bind λl=>some (y::l)
 |_=>none
def V2(o:Op)(ρ:Operand->DV X)(get:Nat->J (bm X))(k:KK X A):J A:=
 match o with
 | .indexAddr t x j=>(T t).bind λti=>match ti.k,ρ x,ρ j with
  | .arr m e,.ptr kk row aa,.c (.int _) n=>(T e).bind λei=>if ei.size=1 then bif cN n m then k (.tt kk row aa m n) [] [] []else none else none
  | .arr m e,.rp c y aa,.c (.int _) n=>(T e).bind λei=>if ei.size=1 then bif cN n m then k (.xa c y aa m n) [] [] []else none else none
  |_,_,_=>none
 | .load t a=>(T t).bind λti=>match ρ a with
  | .tt kk row aa m n=>if ti.size=1/\ti.agg=false then(am t).bind λc=>if c.one=true then(get kk).bind λo=>match o with
   | .cells _ rows=>(rows[row]?).bind λq=>(zO c ((q.drop aa).take m)).bind λ(xs:List (CT.T X.toSE c))=>(bo xs n).bind λy=>k (.c c y) [] [kk] []
   | .ep _ _=>none
   |_=>none
   else none else none
  | .xa b y aa m n=>if ti.size=1/\ti.agg=false then(am t).bind λc=>if c.one=true then(zO c (((uX b y).drop aa).take m)).bind λ(xs:List (CT.T X.toSE c))=>(bo xs n).bind λy=>k (.c c y) [] [] []
   else none else none
  |_=>none
 |_=>none
variable {T am}
def en(P:Program)(T:er)(i:Nat)(o:Oper)(ρ:Operand->DV X)(get:Nat->J (bm X))(k:KK X A)(r:A):Prop:=
 ∃cL rd wr dv upd ab,jE P T i o cL (λ x=>den (ρ x)) (dO rd (fB get))=some ab/\jq ab.obs/\ab.v=den dv/\ab.upd=iC upd/\(∀ p∈upd,p.1=cT i\/p.1∈wr)/\k dv upd rd wr=some r
section
variable {P:Program} {get:Nat->Option (bm X)} {k:KK X A} {r:A} {i:Nat} {o:Oper} {ρ:Operand->DV X}
theorem alr{t:TypeId}{x:AV}{cL:j7}(h:(∃ n,cL= .ext n)\/∃ae fr q,cL= .xv ae fr q):AH T t x .none=AH T t x cL:=by
 unfold AH;cases T t with
 |none=>rfl
 |some ti=>
  simp only[af];generalize ti.k=kk;rcases h with ⟨n,rfl⟩ |⟨ae,fr,q,rfl⟩<;>cases kk<;>try rfl
  all_goals cases x<;>try rfl
  all_goals (rename_i y;cases y<;>try rfl)
  all_goals (rename_i y;cases y<;>rfl)
theorem VQ{t:TypeId}{x j:AV}{cL:j7}{get:Nat->J aU}(h:(∃ n,cL= .ext n)\/∃ae fr q,cL= .xv ae fr q):l8 T t x j .none get=l8 T t x j cL get:=by
 unfold l8;cases T t with
 |none=>rfl
 |some ti=>
  simp only[af];generalize ti.k=kk;cases kk<;>try rfl
  case arr m e=>
   cases j<;>try rfl
   rename_i y;cases y<;>try rfl
   rename_i y;cases y<;>rfl
  cases j<;>try rfl
  rename_i e y;cases y<;>try rfl
  rename_i y;cases y<;>try rfl
  simp only;cases T e with
  |none=>rfl
  |some ei=>
   simp only[af];rcases h with ⟨n,rfl⟩ |⟨ae,fr,q,rfl⟩<;>cases x<;>try rfl
   all_goals (rename_i z;cases z<;>rfl)
theorem adD{t:TypeId}{x y:AV}{cL:j7}{get:Nat->J aU}(h:(∃ n,cL= .ext n)\/∃ae fr q,cL= .xv ae fr q):zZ T i t x y .none get=zZ T i t x y cL get:=by
 unfold zZ;rcases h with ⟨n,rfl⟩ |⟨ae,fr,q,rfl⟩<;>rfl
theorem ajG{cL:j7}{ρ:Operand->AV}{get:Nat->J aU}(h:(∃ n,cL= .ext n)\/∃ae fr q,cL= .xv ae fr q):ql T i o .none ρ get=ql T i o cL ρ get:=by
 obtain⟨dst,op,ty,ao,after,guard⟩:=o;cases op
 case call c=>
  obtain⟨callee,args,c7⟩:=c;cases callee<;>try rfl
  rename_i b;simp only[ql,Cv];split
  .exact alr h
  .rfl
  .rfl
  .rw[adD h]
  .rfl
 case slice t x lo hi mx=>cases mx<;>rcases h with ⟨n,rfl⟩ |⟨ae,fr,q,rfl⟩<;>rfl
 case makeFunc fn a b=>cases fn<;>rfl
 case indexAddr t x j=>exact VQ h
 all_goals (rcases h with ⟨n,rfl⟩ |⟨ae,fr,q,rfl⟩<;>rfl)
theorem en.ext{n:Int}{rd wr:U Nat}{dv:DV X}{upd:U (Nat×Option (bm X))}{ab:Out}(h:sV T i o n (λ x=>den (ρ x)) (dO rd (fB get))=some ab)(h1:jq ab.obs)(h2:ab.v=den dv)(h3:ab.upd=iC upd)(h4:∀p∈upd,p.1=cT i\/p.1∈wr)(h5:k dv upd rd wr=some r)(hx:Ln o.op=false:=by rfl):en P T i o ρ get k r:=
 ⟨.ext n,rd,wr,dv,upd,ab,by show sW T i o n _ _=some ab;unfold sW;rw[hx];simp only[ak,h],h1,h2,h3,h4,h5⟩
theorem en.we{n:Int}{rd wr:U Nat}{dv:DV X}{upd:U (Nat×Option (bm X))}{ab:Out}(h:Eb T i o n (λ x=>den (ρ x)) (dO rd (fB get))=some ab)(h1:jq ab.obs)(h2:ab.v=den dv)(h3:ab.upd=iC upd)(h4:∀p∈upd,p.1=cT i\/p.1∈wr)(h5:k dv upd rd wr=some r)(hx:Ln o.op=true:=by rfl):en P T i o ρ get k r:=
 ⟨.ext n,rd,wr,dv,upd,ab,by show sW T i o n _ _=some ab;unfold sW;rw[hx];simp only[aj,h],h1,h2,h3,h4,h5⟩
theorem SF{x:DV X}(h:P5 x k=some r):∃dv,PD (den x)=some ⟨den dv,[],[]⟩/\k dv [] [] []=some r:=by cases x<;>simp only[P5]at h<;>first |cases h |exact⟨_,rfl,h⟩
theorem Z5{cL:j7}{ρ:Operand->AV}{get:Nat->J aU}(hne:∀f args c7,o.op≠ .call { callee:= .value f,args:=args,argTypes:=c7 })(ho:∀n,cL≠ .ext n)(hf:∀ae fr q,cL≠ .xv ae fr q):jE P T i o cL ρ get=ql T i o cL ρ get:=by
 have e:∀(α:Type) (a:Operand->Array Operand->Array TypeId->α) (b:α),(match o.op with | .call { callee:= .value f,args:=args,argTypes:=c7 }=>a f args c7 |_=>b)=b:=by
  intro α a b;split
  .rename_i f args c7 heq;exact(hne f args c7 heq).elim
  .rfl
 cases cL<;>first |exact(ho _ rfl).elim |exact(hf _ _ _ rfl).elim |exact e _ _ _
theorem en.op{cL:j7}{rd wr:U Nat}{dv:DV X}{upd:U (Nat×Option (bm X))}{ab:Out}(hne:∀f args c7,o.op≠ .call { callee:= .value f,args:=args,argTypes:=c7 })
 (h:ql T i o cL (λ x=>den (ρ x)) (dO rd (fB get))=some ab) (h1:jq ab.obs/\ab.v=den dv/\ab.upd=iC upd/\(∀ p∈upd,p.1=cT i\/p.1∈wr)/\k dv upd rd wr=some r):en P T i o ρ get k r:=by
 obtain⟨vi,h'⟩:∃vi,jE P T i o vi (λ x=>den (ρ x)) (dO rd (fB get))=some ab:=by
  by_cases hx:(∃ n,cL= .ext n)\/∃ae fr q,cL= .xv ae fr q
  .refine⟨.none,?_⟩;rw[Z5 hne (by simp) (by simp),ajG hx,h]
  .simp only[not_or,not_exists]at hx;exact⟨cL,by rw[Z5 hne hx.1 (λ ae fr q=>hx.2 ae fr q),h]⟩
 exact⟨vi,rd,wr,dv,upd,ab,h',h1⟩
theorem en.call{dst:J Tmp}{f:Operand}{args:Array Operand}{c7:Array TypeId}{ty:TypeId}{ao:String}{after:Array Edge}{guard:J (Nat×Bool)}{cL:j7}{rd wr:U Nat}{dv:DV X}{upd:U (Nat×Option (bm X))}{ab:Out}
 (h:kg P i (den (ρ f)) (args.toList.map λx=>den (ρ x)) cL (dO rd (fB get))=some ab) (h1:jq ab.obs/\ab.v=den dv/\ab.upd=iC upd/\(∀ p∈upd,p.1=cT i\/p.1∈wr)/\k dv upd rd wr=some r):
 en P T i ⟨dst,.call { callee:= .value f,args:=args,argTypes:=c7 },ty,ao,after,guard⟩ ρ get k r:=by
 refine⟨cL,rd,wr,dv,upd,ab,?_,h1⟩;unfold jE;split
 .unfold kg pq xI at h;simp only at h;split at h<;>first |cases h |(rename_i e;cases e)
 .unfold kg pq xI at h;simp only at h;split at h<;>first |cases h |(rename_i e;cases e)
 .exact h
theorem JW{op:BinOp}{b:DV X}{yes:Bool}(h:GF op b yes k=some r):∃dv ab,D4 op (den b) yes=some ab/\jq ab.obs/\ab.v=den dv/\ab.upd=[]/\k dv [] [] []=some r:=by
 unfold GF at h;split at h
 .cases yes with
  |true=>exact⟨b,_,rfl,trivial,rfl,rfl,h⟩
  |false=>exact⟨.c .bool false,_,rfl,trivial,rfl,rfl,h⟩
 .cases yes with
  |true=>exact⟨b,_,rfl,trivial,rfl,rfl,h⟩
  |false=>exact⟨.c .bool true,_,rfl,trivial,rfl,rfl,h⟩
 .cases h
theorem agq{op:BinOp}{t:TypeId}{x:DV X}(h:We T op t x k=some r):∃dv ab,AF T op t (den x) .dc=some ab/\jq ab.obs/\ab.v=den dv/\ab.upd=[]/\k dv [] [] []=some r:=by
 unfold We at h;rw[ai]at h;obtain⟨ti,h1,h⟩:=h;split at h
 .rename_i e c l hk;have⟨dv,ab,g1,g2⟩:=JW h;refine⟨dv,ab,?_,g2⟩;simp only[AF,h1,af,hk,den,CT.tv,TV.av];rw[<- g1];congr 1;cases l<;>rfl
 .rename_i e kk aa len hk;have⟨dv,ab,g1,g2⟩:=JW h;exact⟨dv,ab,by simp only[AF,h1,af,hk,den];exact g1,g2⟩
 .rename_i e kk len hk;have⟨dv,ab,g1,g2⟩:=JW h;exact⟨dv,ab,by simp only[AF,h1,af,hk,den];exact g1,g2⟩
 .rename_i e hk;have⟨dv,ab,g1,g2⟩:=JW h;exact⟨dv,ab,by simp only[AF,h1,af,hk,den];exact g1,g2⟩
 .cases h
theorem agr{s:ByteArray}{n b:Int}(h:RL s n=some b):0<=n/\∃c,s[n.toNat]? =some c/\b=c.toNat:=by
 unfold RL at h;by_cases hn:0<=n
 .simp only[hn,decide_true,aj,dQ]at h;obtain⟨c,h1,h2⟩:=h;exact⟨hn,c,h1,h2.symm⟩
 .simp[hn]at h
theorem Z6{m:Int}{bytes:Nat}(h:xK m bytes=true):0<=m/\m.toNat*bytes<=140737488355328/\m.toNat<=maxLen:=by simpa[xK,and_assoc]using h
theorem SG{b:Builtin}{args:U (DV X)}{c7:U TypeId}(h:PZ T am i b args c7 get k=some r):
 ∃rd wr dv upd ab,uT T i b (bS args) c7 (dO rd (fB get))=some ab/\jq ab.obs/\ab.v=den dv/\ab.upd=iC upd/\(∀ p∈upd,p.1=cT i\/p.1∈wr)/\k dv upd rd wr=some r:=by
 unfold PZ at h;split at h
 .rename_i t;rw[ai]at h;obtain⟨ti,h1,h⟩:=h;split at h
  .rename_i e hk;refine⟨[],[],_,[],⟨.t (.sc (.int .i64 0)),[],[]⟩,?_,trivial,rfl,rfl,by simp,h⟩;simp only[uT,bS,den,h1,af,hk];rfl
  .cases h
 .rename_i kk aa len t;rw[ai]at h;obtain⟨ti,h1,h⟩:=h;split at h
  .rename_i e hk;rw[ai]at h;obtain⟨ei,h2,h⟩:=h;rw[ai]at h;obtain⟨o,h3,h⟩:=h;split at h
   .rename_i c l;split at h
    .rename_i hs;refine⟨[kk],[kk],_,_,⟨.eV [],[(kk,some ⟨CT.sz X c,(aK (l.map (CT.row X.toSE c))).take aa⟩)],[]⟩,?_,trivial,rfl,?_,by simp,h⟩
     .simp only[uT,bS,den,h1,af,hk,h2,eU (List.mem_singleton_self kk) h3,bI];rw[aZ hs]
     .simp[iC,bI,aK,map_take]
    .cases h
   .cases h
  .cases h
 .rename_i kd m t u;rw[ai]at h;obtain⟨ti,h1,h⟩:=h;rw[ai]at h;obtain⟨ui,h2,h⟩:=h;split at h
  .rename_i e kn hk hk';rw[ai]at h;obtain⟨ei,h3,h⟩:=h;rw[ai]at h;obtain⟨c,h4,h⟩:=h;split at h
   .rename_i hs;have⟨z,h5,h⟩:=ai.1 h;have⟨h6,h⟩:=eH h;have⟨m1,m2,m3⟩:=Z6 h6;have hz:=yD h5;rw[Cz]at hz;refine⟨[],[],_,_,⟨.own (cT i) 0 m.toNat,[(cT i,some ⟨ei.size,eu (List.replicate m.toNat (ei.zero.map cv))⟩)],[0<=m/\m.toNat*ei.bytes<=140737488355328/\m.toNat<=maxLen/\0<ei.size]⟩,?_,?_,rfl,?_,by simp,h⟩
    .simp only[uT,bS,den,CT.tv,TV.av,h1,h2,h3,af,hk,hk']
    .exact⟨m1,m2,m3,hs.2⟩
    .simp only[iC,aH,map_nil,Option.map_some,bI,hs.1,aK,eu,List.map_replicate];rw[hz]
   .cases h
  .cases h
 .cases h
theorem adE{t:TypeId}{l c:DV X}(h:YY T am i t l c k=some r):∃dv upd ab,LR T i t (den l) (den c)=some ab/\jq ab.obs/\ab.v=den dv/\ab.upd=iC upd/\(∀ p∈upd,p.1=cT i)/\k dv upd [] []=some r:=by
 unfold YY at h;rw[ai]at h;obtain⟨ti,h1,h⟩:=h;split at h
 .rename_i e kl n kc m hk;rw[ai]at h;obtain⟨ei,h3,h⟩:=h;rw[ai]at h;obtain⟨c,h4,h⟩:=h;split at h
  .rename_i hs;have⟨z,h5,h⟩:=ai.1 h;have⟨h6,h⟩:=eH h;simp only[aN,aW]at h6;obtain⟨h7,h8,h9⟩:=h6;have⟨m1,m2,m3⟩:=Z6 h9;have hz:=yD h5;rw[Cz]at hz;refine⟨_,_,⟨.own (cT i) 0 n.toNat,[(cT i,some ⟨ei.size,eu (List.replicate n.toNat (ei.zero.map cv))⟩)],[0<=n/\n<=m/\m.toNat*ei.bytes<=140737488355328/\m.toNat<=maxLen/\0<ei.size]⟩,?_,?_,rfl,?_,by simp,h⟩
   .simp only[LR,den,CT.tv,TV.av,h1,h3,af,hk]
   .exact⟨h8,h7,m2,m3,hs.2⟩
   .simp only[iC,aH,map_nil,Option.map_some,bI,hs.1,aK,eu,List.map_replicate];rw[hz]
  .cases h
 .cases h
theorem VU{t:TypeId}(h:VP T am i t k=some r):∃dv upd ab,HV T i t=some ab/\jq ab.obs/\ab.v=den dv/\ab.upd=iC upd/\(∀ p∈upd,p.1=cT i)/\k dv upd [] []=some r:=by
 unfold VP at h;rw[ai]at h;obtain⟨ti,h1,h⟩:=h;split at h
 .rename_i kt et hk;have⟨kc,h2,h⟩:=ai.1 h;have⟨vc,h3,h⟩:=ai.1 h;exact⟨_,_,⟨.mp (cT i),[(cT i,some ⟨0,[]⟩)],[]⟩,by simp only[HV,h1,af,hk],trivial,rfl,rfl,by simp,h⟩
 .cases h
theorem als{ki:nr}{kc:CT X.ι}(h:DO ki.k kc=true)(x:CT.T X.toSE kc):∃v,(CT.tv X.toSE kc x).av= .t (.sc v)/\MV ki.k v=true:=by
 cases kc
 case int b=>
  refine⟨.int b x,rfl,?_⟩;cases hk:ki.k<;>rw[hk]at h<;>simp only[DO,aW,Bool.false_eq_true]at h;subst h;simp[MV]
 case str=>
  refine⟨.string x,rfl,?_⟩;cases hk:ki.k<;>rw[hk]at h<;>simp only[DO,Bool.false_eq_true]at h;rfl
 case bool=>
  refine⟨.bool x,rfl,?_⟩;cases hk:ki.k<;>rw[hk]at h<;>simp only[DO,Bool.false_eq_true]at h;rfl
 all_goals (cases hk:ki.k<;>rw[hk]at h<;>simp[DO]at h)
theorem adF{kc:CT X.ι}{eq:CT.T X.toSE kc->CT.T X.toSE kc->Bool}(h:Nk kc=some eq){a b:CT.T X.toSE kc}{va:Value}(ha:(CT.tv X.toSE kc a).av= .t (.sc va)):∃vb,(CT.tv X.toSE kc b).av= .t (.sc vb)/\Rs va vb=some (eq a b):=by
 cases kc
 case int q=>
  simp only[Nk,aC]at h;subst h;simp only[CT.tv,TV.av,AV.t.injEq,Tree.sc.injEq]at ha;subst ha;exact⟨_,rfl,by simp[Rs,io]⟩
 case str=>
  simp only[Nk,aC]at h;subst h;simp only[CT.tv,TV.av,AV.t.injEq,Tree.sc.injEq]at ha;subst ha;exact⟨_,rfl,by simp[Rs,lw]⟩
 case bool=>
  simp only[Nk,aC]at h;subst h;simp only[CT.tv,TV.av,AV.t.injEq,Tree.sc.injEq]at ha;subst ha;exact⟨_,rfl,by simp[Rs,bEq]⟩
 all_goals simp[Nk]at h
theorem Z7{kc vc:CT X.ι}{eq:CT.T X.toSE kc->CT.T X.toSE kc->Bool}(h:Nk kc=some eq){a:CT.T X.toSE kc}{va:Value}(ha:(CT.tv X.toSE kc a).av= .t (.sc va)):∀l:U (CT.T X.toSE kc×CT.T X.toSE vc),
 ∃r,Rt va (bI (.map kc vc l:bm X)).rows=some r/\r.map (·.2)=(fG eq a l).map λv=>(CT.tv X.toSE vc v).av
 |[]=>⟨none,rfl,rfl⟩
 |p::l=>by
  have⟨vb,h1,h2⟩:=adF h (b:=p.1) ha;have⟨r,g1,g2⟩:=Z7 h ha l;have g1':Rt va (l.map λp=>[(CT.tv X.toSE kc p.1).av,(CT.tv X.toSE vc p.2).av])=some r:=g1;simp only[bI,aH,h1,Rt,h2,af,fG];cases eq a p.1 with
  |true=>exact⟨_,rfl,rfl⟩
  |false=>
   simp only[Bool.false_eq_true,if_false,g1',Option.map_some,ak];exact⟨_,rfl,by rw[<- g2,Option.map_map];rfl⟩
theorem adG{kc vc:CT X.ι}{eq:CT.T X.toSE kc->CT.T X.toSE kc->Bool}(h:Nk kc=some eq){a:CT.T X.toSE kc}{va:Value}(ha:(CT.tv X.toSE kc a).av= .t (.sc va))(y:CT.T X.toSE vc):∀l:U (CT.T X.toSE kc×CT.T X.toSE vc),
 yn va (CT.tv X.toSE vc y).av (bI (.map kc vc l:bm X)).rows=some (bI (.map kc vc (nG eq a y l):bm X)).rows
 |[]=>by simp only[bI,map_nil,yn,nG,aH,ha]
 |p::l=>by
  have⟨vb,h1,h2⟩:=adF h (b:=p.1) ha;have g:=adG h ha y l;have g':yn va (CT.tv X.toSE vc y).av (l.map λp=>[(CT.tv X.toSE kc p.1).av,(CT.tv X.toSE vc p.2).av])=some ((nG eq a y l).map λp=>[(CT.tv X.toSE kc p.1).av,(CT.tv X.toSE vc p.2).av]):=g;simp only[bI,aH,h1,yn,h2,af,nG];cases eq a p.1 with
  |true=>simp only[if_true,aj,aH,ha]
  |false=>simp only[Bool.false_eq_true,if_false,g',Option.map_some,ak,aH,h1]
theorem zero_den{vc:CT X.ι}{ei:nr}{z:CT.T X.toSE vc}(h:H9 vc (ei.zero.map uc)=some z)(ha:ei.agg=No vc)(hs:ei.size=CT.sz X vc):part' ei.agg ei.size ((ei.zero.map cv).map wk)=some (CT.tv X.toSE vc z).av:=by
 have hz:=yD h;rw[Cz]at hz;rw[hz,ha,hs];have hl:((CT.row X.toSE vc z).map AV.t).length=CT.sz X vc:=by rw[length_map,Ef]
 unfold part';rw[aZ hl];cases vc<;>rfl
theorem abz{d:DV X}{c:CT X.ι}{x:CT.T X.toSE c}(h:dat d c=some x):yv (den d)=(CT.tv X.toSE c x).av:=by
 cases c
 case st j=>
  replace h:Ek d j=some x:=h
  cases d
  case agg cs=>
   simp only[Ek]at h;rw[ai]at h;obtain⟨g,h1,h⟩:=h;cases h;simp only[den,yv,(yO h1 (X.flat j)).1];rw[<- VF];rfl
  case c a y=>
   replace h:jA a (.st j) y=some x:=h
   rw[(oH h).1];simp only[den,CT.tv,TV.av,yv,map_map];congr 1
  all_goals cases h
 all_goals
  (have h':Ky d _=some x:=h
   have hd:=vZ h';cases d
   case agg=>cases h
   case c a y=>
    obtain⟨e,_⟩:=rM (show jA a _ y=some x from h);subst e;exact hd
   all_goals first |exact hd |(cases h))
theorem YL{t:TypeId}{x key:DV X}{ok:Bool}(h:Ux T t x key ok get k=some r):∃rd dv ab,qK T t (den x) (den key) ok (dO rd (fB get))=some ab/\jq ab.obs/\ab.v=den dv/\ab.upd=[]/\k dv [] rd []=some r:=by
 unfold Ux at h;rw[ai]at h;obtain⟨ti,h1,h⟩:=h;split at h
 .rename_i kt et kk hk;rw[ai]at h;obtain⟨ki,h2,h⟩:=h;rw[ai]at h;obtain⟨ei,h3,h⟩:=h;rw[ai]at h;obtain⟨o,h4,h⟩:=h;split at h
  .rename_i kc vc l;rw[ai]at h;obtain⟨eq,h5,h⟩:=h;rw[ai]at h;obtain⟨kv,h6,h⟩:=h;split at h
   .rename_i hc;have⟨z,h7,h⟩:=ai.1 h;have⟨va,g1,g2⟩:=als hc.1 kv;have⟨q,g3,g4⟩:=Z7 (vc:=vc) h5 g1 l;have hkey:den key= .t (.sc va):=by
     have:=vZ h6;rw[g1]at this;cases hd:den key<;>rw[hd]at this<;>simp only[wk,AV.t.injEq,reduceCtorEq]at this;subst this;rfl
    have hv:∀q:J (Nat×AV),q.map (·.2)=(fG eq kv l).map (λ v=>(CT.tv X.toSE vc v).av)->wi q (part' ei.agg ei.size ((ei.zero.map cv).map wk))=some (CT.tv X.toSE vc ((fG eq kv l).getD z)).av:=by
     intro q g;cases hm:fG eq kv l with
     |none=>
      rw[hm]at g;cases q with
      |none=>exact zero_den h7 hc.2.1 hc.2.2
      |some p=>simp at g
     |some v=>
      rw[hm]at g;cases q with
      |none=>simp at g
      |some p=>simp only[Option.map_some,aC]at g;simp only[wi,g,Option.getD_some]
    have hi:q.isSome=(fG eq kv l).isSome:=by
     have:=congrArg Option.isSome g4;simpa using this
    have hb:qK T t (den (.mp kk:DV X)) (den key) ok (dO [kk] (fB get))=pv (if ok then .eV [den (.c vc ((fG eq kv l).getD z):DV X),.t (.sc (.bool q.isSome))]else den (.c vc ((fG eq kv l).getD z):DV X)):=by
     simp only[qK,Us,h1,af,hk,den,hkey,h2,h3,eU (List.mem_singleton_self kk) h4];rw[aZ ⟨g2,by simp[bI]⟩];rw[g3,af,hv q g4,af]
    cases ok with
    |true=>exact⟨[kk],_,_,hb,trivial,by simp only[if_true,den,bS,hi];rfl,rfl,h⟩
    |false=>exact⟨[kk],_,_,hb,trivial,rfl,rfl,h⟩
   .cases h
  .cases h
 .cases h
theorem YM{t:TypeId}{x key y:DV X}(h:Uy T t x key y get k=some r):∃rd wr dv upd ab,vX T t (den x) (den key) (den y) (dO rd (fB get))=some ab/\jq ab.obs/\ab.v=den dv/\ab.upd=iC upd/\(∀ p∈upd,p.1∈wr)/\k dv upd rd wr=some r:=by
 unfold Uy at h;rw[ai]at h;obtain⟨ti,h1,h⟩:=h;split at h
 .rename_i kt et kk hk;rw[ai]at h;obtain⟨ki,h2,h⟩:=h;rw[ai]at h;obtain⟨o,h4,h⟩:=h;split at h
  .rename_i kc vc l;rw[ai]at h;obtain⟨eq,h5,h⟩:=h;rw[ai]at h;obtain⟨kv,h6,h⟩:=h;rw[ai]at h;obtain⟨v,h7,h⟩:=h;split at h
   .rename_i hc;have⟨va,g1,g2⟩:=als hc kv;have g3:=adG (vc:=vc) h5 g1 v l;have hkey:den key= .t (.sc va):=by
     have:=vZ h6;rw[g1]at this;cases hd:den key<;>rw[hd]at this<;>simp only[wk,AV.t.injEq,reduceCtorEq]at this;subst this;rfl
    refine⟨[kk],[kk],_,_,⟨.undef,[(kk,some ⟨(bI (.map kc vc (nG eq kv v l):bm X)).rows.length,(bI (.map kc vc (nG eq kv v l):bm X)).rows⟩)],[]⟩,?_,trivial,rfl,?_,by simp,h⟩
    .simp only[vX,Ut,h1,af,hk,den,hkey,h2,eU (List.mem_singleton_self kk) h4];rw[aZ ⟨g2,by simp[bI]⟩,abz h7,g3];rfl
    .simp[iC,bI]
   .cases h
  .cases h
 .cases h
theorem adH{k:IntKind}:∀{l:U (CT X.ι)}(h:HL X.toSE l),Ei k l=true->qm k ((HL.row X.toSE l h).map AV.t)=some (mW l h)/\(mW l h).length=l.length
 |[],_,_=>⟨rfl,rfl⟩
 | .int k'::l,h,hi=>by
  simp only[Ei,aN,aW]at hi;obtain⟨rfl,hi⟩:=hi;have⟨g1,g2⟩:=adH (l:=l) h.2 hi;exact⟨by simp only[HL.row,CT.row,cons_append,bT,aH,qm,if_true,g1,Option.map_some,mW],by simp only[mW,bG,g2]⟩
theorem aiy{k:IntKind}:∀{cs:U AV}{c:U Int},qm k cs=some c->HY k c= .agg cs
 |[],c,h=>by simp only[qm,aC]at h;subst h;rfl
 |x::cs,c,h=>by
  unfold qm at h;split at h
  .rename_i heq;cases heq
  .rename_i k' n r heq;injection heq with e1 e2;subst e1;subst e2;split at h
   .rename_i hk;subst hk;rw[dQ]at h;obtain⟨c',h1,rfl⟩:=h;have:=aiy h1;simp only[HY,AV.agg.injEq]at this ⊢;rw[aH,this]
   .cases h
  .cases h
theorem sw{k:IntKind}{i:X.ι}(hi:Ei k (X.c7 i)=true)(x:CT.T X.toSE (.st i)):qm k ((X.row i x).map AV.t)=some (mW (X.c7 i) (X.get i x))/\(mW (X.c7 i) (X.get i x)).length=(X.c7 i).length:=by
 have:=adH (X.get i x) hi;rw[<- X.mw]at this;exact this
theorem adI{k:IntKind}:∀{cs:U AV}{c:U Int},qm k (cs.map wk)=some c->qm k cs=some c
 |[],c,h=>h
 |x::cs,c,h=>by
  cases x
  case t y=>
   cases y
   case sc v=>
    cases v
    case int k' n=>
     simp only[aH,wk,qm]at h ⊢;split at h
     .rename_i hk;rw[aZ hk];rw[dQ]at h ⊢;obtain⟨c',h1,rfl⟩:=h;exact⟨c',adI h1,rfl⟩
     .cases h
    all_goals (simp [wk,qm]at h)
   all_goals (simp [wk,qm]at h)
  all_goals (simp [wk,qm]at h)
theorem alu{key:DV X}{i:X.ι}{kv:CT.T X.toSE (.st i)}{k:IntKind}(h:dat key (.st i)=some kv)(hi:Ei k (X.c7 i)=true):∃cs,den key= .agg cs/\qm k cs=some (mW (X.c7 i) (X.get i kv)):=by
 have h1:=abz h;cases hd:den key<;>rw[hd]at h1<;>simp only[yv,wk,CT.tv,TV.av,reduceCtorEq,AV.agg.injEq]at h1;rename_i cs;exact⟨cs,rfl,adI (by rw[h1];exact(sw hi kv).1)⟩
theorem VW{vc:CT X.ι}{i:X.ι}{k:IntKind}(hi:Ei k (X.c7 i)=true)(a:CT.T X.toSE (.st i)):∀l:U (CT.T X.toSE (.st i)×CT.T X.toSE vc),
 ∃r,Bb k (mW (X.c7 i) (X.get i a)) (bI (.map (.st i) vc l:bm X)).rows=some r/\r.map (·.2)=(fG (CK i) a l).map λv=>(CT.tv X.toSE vc v).av
 |[]=>⟨none,rfl,rfl⟩
 |p::l=>by
  have⟨h1,h2⟩:=sw hi p.1;have h3:=(sw hi a).2;have⟨r,g1,g2⟩:=VW hi a l;have g1':Bb k (mW (X.c7 i) (X.get i a)) (l.map λp=>[(CT.tv X.toSE (.st i) p.1).av,(CT.tv X.toSE vc p.2).av])=some r:=g1;have e:(CT.tv X.toSE (.st i) p.1).av= .agg ((X.row i p.1).map AV.t):=rfl;simp only[bI,aH,e,Bb,h1,af,fG,CK];rw[aZ (by rw[h2,h3])];by_cases hc:mW (X.c7 i) (X.get i a)=mW (X.c7 i) (X.get i p.1)
  .rw[aZ hc,decide_eq_true hc];exact⟨_,rfl,rfl⟩
  .rw[aT hc,decide_eq_false hc];refine⟨r.map λp=>(p.1+1,p.2),?_,?_⟩
   .exact congrArg (Option.map λr:Option (Nat×AV)=>r.map λp=>(p.1+1,p.2)) g1'
   .rw[ak,<- g2,Option.map_map];rfl
theorem ajH{vc:CT X.ι}{i:X.ι}{k:IntKind}(hi:Ei k (X.c7 i)=true)(a:CT.T X.toSE (.st i))(y:CT.T X.toSE vc):∀l:U (CT.T X.toSE (.st i)×CT.T X.toSE vc),
 MX k (mW (X.c7 i) (X.get i a)) (CT.tv X.toSE vc y).av (bI (.map (.st i) vc l:bm X)).rows=some (bI (.map (.st i) vc (nG (CK i) a y l):bm X)).rows:=by
 have hA:HY k (mW (X.c7 i) (X.get i a))=(CT.tv X.toSE (.st i) a).av:=aiy (sw hi a).1;intro l
 induction l with
 |nil=>simp only[bI,map_nil,MX,nG,aH,hA]
 |cons p l ih=>
  have⟨h1,h2⟩:=sw hi p.1;have h3:=(sw hi a).2;have e:(CT.tv X.toSE (.st i) p.1).av= .agg ((X.row i p.1).map AV.t):=rfl;have ih':MX k (mW (X.c7 i) (X.get i a)) (CT.tv X.toSE vc y).av (l.map λp=>[(CT.tv X.toSE (.st i) p.1).av,(CT.tv X.toSE vc p.2).av])=some ((nG (CK i) a y l).map λp=>[(CT.tv X.toSE (.st i) p.1).av,(CT.tv X.toSE vc p.2).av]):=ih;simp only[bI,aH,e,MX,h1,af,nG];rw[aZ (by rw[h2,h3])];by_cases hc:mW (X.c7 i) (X.get i a)=mW (X.c7 i) (X.get i p.1)
  .rw[aZ hc,show CK i a p.1=true from decide_eq_true hc,hA];rfl
  .rw[aT hc,show CK i a p.1=false from decide_eq_false hc,ih'];rfl
theorem anO{vc:CT X.ι}{ei:nr}{z:CT.T X.toSE vc}(h7:H9 vc (ei.zero.map uc)=some z)(hc1:ei.agg=No vc)(hc2:ei.size=CT.sz X vc){q:J (Nat×AV)}{m:J (CT.T X.toSE vc)}(g:q.map (·.2)=m.map λv=>(CT.tv X.toSE vc v).av):
 wi q (part' ei.agg ei.size ((ei.zero.map cv).map wk))=some (CT.tv X.toSE vc (m.getD z)).av:=by
 cases m with
 |none=>
  cases q with
  |none=>exact zero_den h7 hc1 hc2
  |some p=>simp at g
 |some v=>
  cases q with
  |none=>simp at g
  |some p=>simp only[Option.map_some,aC]at g;simp only[wi,g,Option.getD_some]
theorem VX{t:TypeId}{x key:DV X}{ok:Bool}(h:Nn T t x key ok get k=some r):∃rd dv ab,qK T t (den x) (den key) ok (dO rd (fB get))=some ab/\jq ab.obs/\ab.v=den dv/\ab.upd=[]/\k dv [] rd []=some r:=by
 unfold Nn at h;rw[ai]at h;obtain⟨ti,h1,h⟩:=h;split at h
 .rename_i kt et kk hk;rw[ai]at h;obtain⟨mk,h2,h⟩:=h;rw[ai]at h;obtain⟨ei,h3,h⟩:=h;rw[ai]at h;obtain⟨o,h4,h⟩:=h;split at h
  .rename_i i vc l;rw[ai]at h;obtain⟨kv,h6,h⟩:=h;split at h
   .rename_i hc;have⟨z,h7,h⟩:=ai.1 h;have⟨cs,g1,g2⟩:=alu h6 hc.2.1;have⟨q,g3,g4⟩:=VW (vc:=vc) hc.2.1 kv l;have hi:q.isSome=(fG (CK i) kv l).isSome:=by
     have:=congrArg Option.isSome g4;simpa using this
    have hb:qK T t (den (.mp kk:DV X)) (den key) ok (dO [kk] (fB get))=pv (if ok then .eV [den (.c vc ((fG (CK i) kv l).getD z):DV X),.t (.sc (.bool q.isSome))]else den (.c vc ((fG (CK i) kv l).getD z):DV X)):=by
     simp only[g1,qK,MZ,h1,af,hk,den,h2,h3,eU (List.mem_singleton_self kk) h4,g2];rw[aZ ⟨(sw hc.2.1 kv).2.trans hc.1,by simp[bI]⟩];rw[g3,af,anO h7 hc.2.2.1 hc.2.2.2 g4,af]
    cases ok with
    |true=>exact⟨[kk],_,_,hb,trivial,by simp only[if_true,den,bS,hi];rfl,rfl,h⟩
    |false=>exact⟨[kk],_,_,hb,trivial,rfl,rfl,h⟩
   .cases h
  .cases h
 .cases h
theorem VY{t:TypeId}{x key y:DV X}(h:Np T t x key y get k=some r):∃rd wr dv upd ab,vX T t (den x) (den key) (den y) (dO rd (fB get))=some ab/\jq ab.obs/\ab.v=den dv/\ab.upd=iC upd/\(∀ p∈upd,p.1∈wr)/\k dv upd rd wr=some r:=by
 unfold Np at h;rw[ai]at h;obtain⟨ti,h1,h⟩:=h;split at h
 .rename_i kt et kk hk;rw[ai]at h;obtain⟨mk,h2,h⟩:=h;rw[ai]at h;obtain⟨o,h4,h⟩:=h;split at h
  .rename_i i vc l;rw[ai]at h;obtain⟨kv,h6,h⟩:=h;rw[ai]at h;obtain⟨v,h7,h⟩:=h;split at h
   .rename_i hc;have⟨cs,g1,g2⟩:=alu h6 hc.2;have g3:=ajH (vc:=vc) hc.2 kv v l;refine⟨[kk],[kk],_,_,⟨.undef,[(kk,some ⟨(bI (.map (.st i) vc (nG (CK i) kv v l):bm X)).rows.length,(bI (.map (.st i) vc (nG (CK i) kv v l):bm X)).rows⟩)],[]⟩,?_,trivial,rfl,?_,by simp,h⟩
    .simp only[g1,vX,M0,h1,af,hk,den,h2,eU (List.mem_singleton_self kk) h4,g2];rw[aZ ⟨(sw hc.2 kv).2.trans hc.1,by simp[bI]⟩,abz h7,g3];rfl
    .simp[iC,bI]
   .cases h
  .cases h
 .cases h
theorem VZ{t:TypeId}{x key:DV X}{ok:Bool}(h:(bif Z4 x get then Nn T t x key ok get k else Ux T t x key ok get k)=some r):∃rd dv ab,qK T t (den x) (den key) ok (dO rd (fB get))=some ab/\jq ab.obs/\ab.v=den dv/\ab.upd=[]/\k dv [] rd []=some r:=by
 cases hs:Z4 x get<;>rw[hs]at h
 .exact YL h
 .exact VX h
theorem V3{t:TypeId}{x key y:DV X}(h:(bif Z4 x get then Np T t x key y get k else Uy T t x key y get k)=some r):∃rd wr dv upd ab,vX T t (den x) (den key) (den y) (dO rd (fB get))=some ab/\jq ab.obs/\ab.v=den dv/\ab.upd=iC upd/\(∀ p∈upd,p.1∈wr)/\k dv upd rd wr=some r:=by
 cases hs:Z4 x get<;>rw[hs]at h
 .exact YM h
 .exact VY h
theorem ags(h:Wc T am i o.op ρ get k=some r):en P T i o ρ get k r:=by
 obtain⟨dst,op,ty,ao,after,guard⟩:=o;unfold Wc at h;simp only at h;split at h
 .rename_i op t x y q;split at h
  .rename_i hn;have⟨dv,ab,g1,g2,g3,g4,g5⟩:=agq h;have hy:den (ρ y)= .dc:=(by cases hρ:ρ y<;>rw[hρ]at hn<;>first |rfl |cases hn);exact en.ext (n:=0) (rd:=[]) (wr:=[]) (upd:=[]) (by simp only[sV,hy];exact g1) g2 g3 g4 (by simp) g5
  .cases h
 .rename_i s d x;unfold ao1 at h;rw[ai]at h;obtain⟨si,h1,h⟩:=h;rw[ai]at h;obtain⟨di,h2,h⟩:=h;split at h
  .rename_i kd k' n hk hx;refine en.ext (n:=0) (rd:=[]) (wr:=[]) (upd:=[]) (ab:=⟨.t (.sc (.int kd (kd.wrap n))),[],[]⟩) ?_ trivial rfl rfl (by simp) h;simp only[sV,On,h1,h2,af,hk,hx];rfl
  .cases h
 .rename_i t x j;unfold alo at h;rw[ai]at h;obtain⟨ti,h1,h⟩:=h;split at h
  .rename_i s kk n hk hx hj;rw[ai]at h;obtain⟨b,h2,h⟩:=h;refine en.ext (n:=b) (rd:=[]) (wr:=[]) (upd:=[]) (ab:=⟨.t (.sc (.int .u8 b)),[],[0<=n/\∃c,s[n.toNat]? =some c/\b=c.toNat]⟩) ?_ (agr h2) rfl rfl (by simp) h;simp only[sV,Va,h1,af,hk,hx,hj];rfl
  .rename_i m e cs kd q hk hx hj;rw[ai]at h;obtain⟨ei,h2,h⟩:=h;have⟨h3,h⟩:=eH h;rw[ai]at h;obtain⟨v,h4,h⟩:=h;simp only[cN,aN,aW]at h3;refine en.ext (n:=0) (rd:=[]) (wr:=[]) (upd:=[]) (ab:=⟨den v,[],[0<=q/\q<(m:Int)]⟩) ?_ h3 rfl rfl (by simp) h;have h5:=CB h4;rw[ko]at h5;simp only[sV,Va,h1,af,hk,hx,hj,h2,den,CT.tv,TV.av,h5];rfl
  .cases h
 .rename_i t x lo hi;unfold Z0 at h;rw[ai]at h;obtain⟨ti,h1,h⟩:=h;split at h
  .rename_i e hk hx;rw[ai]at h;obtain⟨ei,h2,h⟩:=h;rw[ai]at h;obtain⟨l,h3,h⟩:=h;rw[ai]at h;obtain⟨hh,h4,h⟩:=h;have⟨h5,h⟩:=eH h;refine en.ext (n:=0) (rd:=[]) (wr:=[]) (upd:=[]) (ab:=⟨.dc,[],[l=0/\hh=0]⟩) ?_ (show l=0/\hh=0 by simpa using h5) rfl rfl (by simp) h;have e1:=CF h3;have e2:=CF h4;rw[Option.map_map]at e1 e2;simp only[sV,JQ,h1,af,hk,hx,h2,den];have My:bnd 0 (lo.map λx=>den (ρ x))=some l:=e1;have e2':bnd 0 (hi.map λx=>den (ρ x))=some hh:=e2;rw[My,af,e2'];rfl
  .cases h
 .rename_i x;have⟨dv,g1,g2⟩:=SF h;exact en.we (n:=0) (rd:=[]) (wr:=[]) (upd:=[]) g1 trivial rfl rfl (by simp) g2
 .rename_i t l c;have⟨dv,upd,ab,g1,g2,g3,g4,g5,g6⟩:=adE h;exact en.we (n:=0) (rd:=[]) (wr:=[]) (upd:=upd) g1 g2 g3 g4 (λ p hp=> .inl (g5 p hp)) g6
 .rename_i t;have⟨dv,upd,ab,g1,g2,g3,g4,g5,g6⟩:=VU h;exact en.we (n:=0) (rd:=[]) (wr:=[]) (upd:=upd) g1 g2 g3 g4 (λ p hp=> .inl (g5 p hp)) g6
 .rename_i t m x ok;have⟨rd,dv,ab,g1,g2,g3,g4,g6⟩:=VZ h;exact en.we (n:=0) (rd:=rd) (wr:=[]) (upd:=[]) g1 g2 g3 g4 (by simp) g6
 .rename_i t m x v;have⟨rd,wr,dv,upd,ab,g1,g2,g3,g4,g5,g6⟩:=V3 h;exact en.we (n:=0) (rd:=rd) (wr:=wr) (upd:=upd) g1 g2 g3 g4 (λ p hp=> .inr (g5 p hp)) g6
 .rename_i b args c7;have⟨rd,wr,dv,upd,ab,g1,g2,g3,g4,g5,g6⟩:=SG h;refine en.ext (n:=0) (rd:=rd) (wr:=wr) (upd:=upd) ?_ g2 g3 g4 g5 g6;simp only[sV,Uv];exact g1
 .cases h
theorem adJ{c:CT X.ι}:∀{xs:U Operand}{x:Operand}{y:CT.T X.toSE c×List Bool},x∈xs->FP get (ρ x) c=some y->∀j∈bk (ρ x),j∈AD get c ρ xs
 |z::xs,x,y,hx,h,j,hj=>by
  simp only[AD,bn];rcases aQ.1 hx with rfl |hx
  .left;rw[h];exact hj
  .exact .inr (adJ hx h j hj)
 |[],_,_,hx,_,_,_=>by simp at hx
theorem adK{c:CT X.ι}:∀{xs:U Operand}{x:Operand}{y:CT.T X.toSE c×List Bool},x∈xs->FP get (ρ x) c=some y->∀b∈y.2,b∈Nm get c ρ xs
 |z::xs,x,y,hx,h,b,hb=>by
  simp only[Nm,bn];rcases aQ.1 hx with rfl |hx
  .left;rw[h];exact hb
  .exact .inr (adK hx h b hb)
 |[],_,_,hx,_,_,_=>by simp at hx
theorem agt(h:Wa T am i o.op ρ get k=some r):en P T i o ρ get k r:=by
 unfold Wa at h;split at h
 .cases h
 rename_i hpick;have⟨c,h1,h⟩:=ai.1 h;have⟨hcs,h⟩:=pV h;have⟨cL,rd,wr,dv,upd,ab,g1,g2,g3,g4,g5,g6⟩:=ZW h;generalize kO:AD get c ρ o.op.operands.toList=ae at*;refine⟨.xv ae (λ x=>den (Kf get c ρ x)) cL,rd++ae,wr++ae,dv,upd++Nl ae,⟨ab.v,ab.upd++ae.map (λ k=>(k,none)),ab.obs++[∀ x∈o.op.operands,(fW P (dO (rd++ae) (fB get)) (den (ρ x)) (den (Kf get c ρ x))/\∀k∈refs (den (ρ x)),k∈ae)\/den (Kf get c ρ x)=den (ρ x)]⟩,?_,?_,g3,?_,?_,g6⟩
 .unfold jE Hz;simp only;rw[aT hpick];have e:(λ k=>if k∈ae then none else dO (rd++ae) (fB get) k)=dO rd (fB λj=>if j∈ae then none else get j):=by
   funext j;simp only[dO,fB,bn];by_cases hj:j∈ae
   .simp[hj]
   .simp[hj]
  rw[e,g1];rfl
 .refine q8 _ λp hp=>?_;rcases bn.1 hp with hp |hp
  .exact qJ _ g2 p hp
  .rw[aR]at hp;subst hp;intro x hx;unfold Kf;cases hl:FP get (ρ x) c with
   |none=>exact .inr rfl
   |some y=>
    left;have hx':x∈o.op.operands.toList:=(by simpa using hx);have hin:∀j∈bk (ρ x),j∈ae:=λj hj=>kO ▸ adJ hx' hl j hj;obtain⟨hs,obs,p1,p2⟩:=Ae (P:=P) (rd:=rd++ae) hl (λ b hb=>hcs b (adK hx' hl b hb)) (λ j hj=>List.mem_append_right _ (hin j hj));refine⟨?_,λj hj=>hin j (by rwa [iO]at hj)⟩;have:=p2 [];exact D9 _ _ _ this p1
 .simp only[sj,CJ,g4]
 .intro p hp;rcases bn.1 hp with hp |hp
  .exact(g5 p hp).imp id (λ h=>List.mem_append_left _ h)
  .exact .inr (List.mem_append_right _ (JV hp))
theorem V4{c:CT X.ι}:∀{ds:U (DV X)}{xs:U (CT.T X.toSE c)},zO c ds=some xs->bS ds=xs.map λy=>den (.c c y:DV X)
 |[],xs,h=>by simp only[zO,aC]at h;subst h;rfl
 | .c a x::ds,xs,h=>by
  simp only[zO]at h;have⟨y,h1,h⟩:=ai.1 h;have⟨l,h2,h⟩:=ai.1 h;cases h;simp only[bS,aH,V4 h2,(oH h1).1]
 | .agg _::_,_,h=>by simp[zO]at h
 | .eV _::_,_,h=>by simp[zO]at h
 | .own _ _ _::_,_,h=>by simp[zO]at h
 | .ptr _ _ _::_,_,h=>by simp[zO]at h
 | .qv _ _ _::_,_,h=>by simp[zO]at h
 | .mp _::_,_,h=>by simp[zO]at h
 | .tt _ _ _ _ _::_,_,h=>by simp[zO]at h
 | .rp _ _ _::_,_,h=>by simp[zO]at h
 | .xa _ _ _ _ _::_,_,h=>by simp[zO]at h
 | .fn _ _ _::_,_,h=>by simp[zO]at h
 | .eo _ _ _::_,_,h=>by simp[zO]at h
 | .raw _::_,_,h=>by simp[zO]at h
 | .nil::_,_,h=>by simp[zO]at h
 | .ub::_,_,h=>by simp[zO]at h
 | .skip::_,_,h=>by simp[zO]at h
 | .undef::_,_,h=>by simp[zO]at h
theorem agu(h:V2 T am o.op ρ get k=some r):en P T i o ρ get k r:=by
 obtain⟨dst,op,ty,ao,after,guard⟩:=o;unfold V2 at h;simp only at h;split at h
 .rename_i t x j;rw[ai]at h;obtain⟨ti,h1,h⟩:=h;split at h
  .rename_i m e kk row aa kd n hk hx hj;rw[ai]at h;obtain⟨ei,h2,h⟩:=h;split at h
   .rename_i hs;have⟨h3,h⟩:=eH h;refine en.op (cL:= .none) (rd:=[]) (wr:=[]) (upd:=[]) (λ _ _ _ e=>by cases e) (ab:=⟨.ptr kk row (aa+n.toNat*1),[],[0<=n/\n.toNat<m]⟩) ?_ ⟨?_,?_,rfl,by simp,h⟩
    .simp only[ql,l8,h1,af,hk,hx,hj,den,CT.tv,TV.av,h2,hs];rfl
    .simp only[cN,aN,aW]at h3;exact⟨h3.1,by omega⟩
    .simp only[den,Nat.mul_one]
   .cases h
  .rename_i m e c y aa kd n hk hx hj;rw[ai]at h;obtain⟨ei,h2,h⟩:=h;split at h
   .rename_i hs;have⟨h3,h⟩:=eH h;refine en.op (cL:= .none) (rd:=[]) (wr:=[]) (upd:=[]) (λ _ _ _ e=>by cases e) (ab:=⟨.eM (CT.row X.toSE c y) (aa+n.toNat*1),[],[0<=n/\n.toNat<m]⟩) ?_ ⟨?_,?_,rfl,by simp,h⟩
    .simp only[ql,l8,h1,af,hk,hx,hj,den,CT.tv,TV.av,h2,hs];rfl
    .simp only[cN,aN,aW]at h3;exact⟨h3.1,by omega⟩
    .simp only[den,Nat.mul_one]
   .cases h
  .cases h
 .rename_i t a;rw[ai]at h;obtain⟨ti,h1,h⟩:=h;split at h
  .rename_i kk row aa m n hx;split at h
   .rename_i hs;rw[ai]at h;obtain⟨c,h2,h⟩:=h;split at h
    .rename_i hc;rw[ai]at h;obtain⟨ob,h3,h⟩:=h;split at h
     .rename_i sz rows;have⟨q,h4,h⟩:=ai.1 h;have⟨xs,h5,h⟩:=ai.1 h;have⟨y,h6,h⟩:=ai.1 h;have⟨_,h7⟩:=Ng h6;have h8:=V4 h5;have h9:((bS q).drop (aa+n.toNat)).take 1=[den (.c c y:DV X)]:=by
       have e1:(bS ((q.drop aa).take m))[n.toNat]? =some (den (.c c y:DV X)):=(by rw[h8,List.getElem?_map,h7];rfl);rw[ko,List.getElem?_take]at e1;split at e1
       .rw[List.getElem?_drop]at e1;have⟨g1,g2⟩:=dJ.1 e1;rw[List.drop_eq_getElem_cons g1,List.take_succ_cons,List.take_zero,g2]
       .cases e1
      refine en.op (cL:= .none) (rd:=[kk]) (wr:=[]) (upd:=[]) (λ _ _ _ e=>by cases e) (ab:=⟨den (.c c y:DV X),[],[]⟩) ?_ ⟨trivial,rfl,rfl,by simp,h⟩;simp only[ql,K6,h1,af,hx,den,eU (List.mem_singleton_self kk) h3,bI,List.getElem?_map,h4,Option.map_some,hs.1,hs.2];rw[h9];obtain⟨t',g1,g2⟩:=row_one hc y;simp only[den,g2,TV.av];rfl
     .cases h
     .cases h
    .cases h
   .cases h
  .rename_i b y0 aa m n hx;split at h
   .rename_i hs;rw[ai]at h;obtain⟨c,h2,h⟩:=h;split at h
    .rename_i hc;have⟨xs,h5,h⟩:=ai.1 h;have⟨y,h6,h⟩:=ai.1 h;have⟨_,h7⟩:=Ng h6;have h8:=V4 h5;have h9:(((CT.row X.toSE b y0).drop (aa+n.toNat)).take 1).map AV.t=[den (.c c y:DV X)]:=by
      have e1:(bS (((uX b y0).drop aa).take m))[n.toNat]? =some (den (.c c y:DV X)):=(by rw[h8,List.getElem?_map,h7];rfl);rw[ko,pu,List.getElem?_take]at e1;split at e1
      .rw[List.getElem?_drop]at e1;have⟨g1,g2⟩:=dJ.1 e1;rw[map_take,map_drop,List.drop_eq_getElem_cons g1,List.take_succ_cons,List.take_zero,g2]
      .cases e1
     refine en.op (cL:= .none) (rd:=[]) (wr:=[]) (upd:=[]) (λ _ _ _ e=>by cases e) (ab:=⟨den (.c c y:DV X),[],[]⟩) ?_ ⟨trivial,rfl,rfl,by simp,h⟩;simp only[ql,K6,h1,af,hx,den,hs.1,hs.2];rw[h9];obtain⟨t',g1,g2⟩:=row_one hc y;simp only[den,g2,TV.av];rfl
    .cases h
   .cases h
  .cases h
 .cases h
end
end
section
variable {X:SX}
structure MA(X:SX) where
 nm:List (Nat×Nat)
 eR:List (DC X)
 ju:List Bool
def addN(m:MA X)(k' k:Nat):MA X:=if m.nm.contains (k',k)then m else⟨m.nm++[(k',k)],m.eR,m.ju⟩
section
variable (get:Nat->Option (bm X))
mutual
def mP:Pt X.ι->DV X->MA X->Option (MA X)
 | .v c,d,m=>(dat d c).bind λx=>some ⟨m.nm,m.eR++[⟨c,x⟩],m.ju⟩
 | .o k,d,m=>match d with
  | .own k' 0 len=>(get k').bind λo=>match o with
   | .ep _ l=>some (addN ⟨m.nm,m.eR,m.ju++[aE len l.length]⟩ k' k)
   |_=>none
  |_=>none
 | .oz k,d,m=>match d with
  | .own k' 0 len=>(get k').bind λo=>match o with
   | .ep _ l=>some (addN ⟨m.nm,m.eR,m.ju++[!(len==0)&&aE len l.length]⟩ k' k)
   |_=>none
  | .oz k' len=>(get k').bind λo=>match o with
   | .ep _ l=>some (addN ⟨m.nm,m.eR,m.ju++[aE len l.length]⟩ k' k)
   |_=>none
  |_=>none
 | .p k,d,m=>match d with
  | .ptr k' 0 0=>some (addN m k' k)
  |_=>none
 | .mp k,d,m=>match d with
  | .mp k'=>some (addN m k' k)
  |_=>none
 | .nil,d,m=>match d with
  | .nil=>some m
  |_=>none
 | .f F fs cs,d,m=>match d with
  | .fn F' first caps=>if F=F' then(sY fs first m).bind λm=>sY cs caps m else none
  |_=>none
 | .od k,d,m=>match d with
  | .own k' aa len=>(get k').bind λo=>match o with
   | .ep _ l=>some (addN ⟨m.nm,m.eR++[⟨.int .i64,(aa:Int)⟩],m.ju++[aE (aa+len) l.length]⟩ k' k)
   |_=>none
  |_=>none
 | .a ps,d,m=>match d with
  | .agg ds=>sY ps ds m
  |_=>none
def sY:List (Pt X.ι)->List (DV X)->MA X->Option (MA X)
 |[],[],m=>some m
 |p::ps,d::ds,m=>(mP p d m).bind λm=>sY ps ds m
 |_,_,_=>none
end
def Ie(env:Nat->DV X):U (Nat×Pt X.ι)->MA X->J (MA X)
 |[],m=>some m
 |(t,p)::r,m=>(mP get p (env t) m).bind λm=>Ie env r m
def FQ:U (List (Pt X.ι))->U (List (DV X))->MA X->J (MA X)
 |[],[],m=>some m
 |r::rs,q::qs,m=>(sY get r q m).bind λm=>FQ rs qs m
 |_,_,_=>none
def nameOf(m:MA X)(k:Nat):Nat:=match m.nm.find? (λ q=>q.2==k)with |some q=>q.1 |none=>k
def CO:U (Nat×OP X.ι)->MA X->J (MA X)
 |[],m=>some m
 |(k,op)::r,m=>(get (nameOf m k)).bind λo=>match op,o with
  | .l c,.ep c' l=>(jA (.sl c') (.sl c) l).bind λl'=>CO r (addN ⟨m.nm,m.eR++[⟨.sl c,l'⟩],m.ju⟩ (nameOf m k) k)
  | .m kc vc,.map t6 tM l=>(jA (.mp t6 tM) (.mp kc vc) l).bind λl'=>CO r (addN ⟨m.nm,m.eR++[⟨.mp kc vc,l'⟩],m.ju⟩ (nameOf m k) k)
  | .c sz rows,.cells sz' rows'=>if sz=sz' then(FQ get rows rows' (addN m (nameOf m k) k)).bind λm=>CO r m else none
  |_,_=>none
end
end
section
variable {X:SX} {A:Type}
mutual
def oe(f:Nat->Nat):DV X->DV X
 | .own k aa len=> .own (f k) aa len
 | .ptr k row aa=> .ptr (f k) row aa
 | .qv k n aa=> .qv (f k) n aa
 | .tt k row aa m n=> .tt (f k) row aa m n
 | .mp k=> .mp (f k)
 | .oz k len=> .oz (f k) len
 | .agg cs=> .agg (Kz f cs)
 | .eV cs=> .eV (Kz f cs)
 | .fn F first caps=> .fn F (Kz f first) (Kz f caps)
 |x=>x
def Kz(f:Nat->Nat):List (DV X)->List (DV X)
 |[]=>[]
 |x::xs=>oe f x::Kz f xs
end
theorem agv(f:Nat->Nat):∀l:U Tree,zN f (l.map AV.t)=l.map AV.t
 |[]=>rfl
 |x::xs=>by simp only[aH,zN,gc,agv f xs]
mutual
theorem Af(f:Nat->Nat):∀x:DV X,den (oe f x)=gc f (den x)
 | .own _ _ _=>rfl
 | .ptr _ _ _=>rfl
 | .qv _ _ _=>rfl
 | .mp _=>rfl
 | .oz _ _=>rfl
 | .tt _ _ _ _ _=>rfl
 | .agg cs=>by simp only[oe,den,gc,CP f cs]
 | .eV cs=>by simp only[oe,den,gc,CP f cs]
 | .fn F first caps=>by simp only[oe,den,gc,CP f first,CP f caps]
 | .c t x=>by
  simp only[oe,den];cases t<;>try rfl
  simp only[CT.tv,TV.av,gc,agv]
 | .rp _ _ _=>rfl
 | .xa _ _ _ _ _=>rfl
 | .eo _ _ _=>rfl
 | .raw v=>by
  simp only[oe,den,cv];split
  .rfl
  .split<;>rfl
 | .nil=>rfl
 | .ub=>rfl
 | .skip=>rfl
 | .undef=>rfl
theorem CP(f:Nat->Nat):∀l:List (DV X),bS (Kz f l)=zN f (bS l)
 |[]=>rfl
 |x::xs=>by simp only[Kz,bS,zN,Af f x,CP f xs]
end
def pc(f:Nat->Nat):bm X->bm X
 | .cells sz rows=> .cells sz (rows.map (Kz f))
 |o=>o
def ek:bm X->U Nat
 | .cells _ rows=>(rows.map aS).flatten
 | .ep _ _=>[]
 | .map _ _ _=>[]
def N3:CT X.ι->Bool
 | .int _ | .bool | .str=>true
 |_=>false
def xG:CT X.ι->Bool
 | .st i=>(X.c7 i).all N3
 |c=>N3 c
theorem Ej{c:CT X.ι}(h:N3 c=true)(x:CT.T X.toSE c):∀t∈CT.row X.toSE c x,t.flat:=by cases c<;>first |(intro t ht;simp only[CT.row,aR]at ht;subst ht;exact trivial) |cases h
theorem aiA:∀(l:U (CT X.ι))(h:HL X.toSE l),l.all N3=true->∀t∈HL.row X.toSE l h,t.flat
 |[],_,_,t,ht=>by simp[HL.row]at ht
 |c::l,h,ha,t,ht=>by
  simp only[all_cons,aN]at ha;rcases bn.1 (show t∈CT.row X.toSE c h.1++HL.row X.toSE l h.2 from ht)with ht |ht
  .exact Ej ha.1 h.1 t ht
  .exact aiA l h.2 ha.2 t ht
theorem uY{c:CT X.ι}(h:xG c=true)(x:CT.T X.toSE c):∀t∈CT.row X.toSE c x,t.flat:=by
 cases c
 case st i=>intro t ht;exact aiA (X.c7 i) (X.get i x) h t ((X.mw i x) ▸ ht)
 case int k=>exact Ej (c:= .int k) h x
 case bool=>exact Ej (c:= .bool) h x
 case str=>exact Ej (c:= .str) h x
 case sl e=>cases h
 case any=>cases h
 case mp=>cases h
structure MG(X:SX) where
 nm:List (Nat×Nat)
 eR:List (DC X)
 ju:List Bool
 vr:List Nat
section
variable (get:Nat->Option (bm X))
mutual
def p0:Pt X.ι->DV X->MG X->Option (MG X)
 | .v c,d,m=>(FP get d c).bind λx=>some ⟨m.nm,m.eR++[⟨c,x.1⟩],m.ju++x.2,m.vr++bk d⟩
 | .o k,d,m=>match d with
  | .own k' 0 len=>(get k').bind λo=>match o with
   | .ep _ l=>some ⟨m.nm++[(k',k)],m.eR,m.ju++[aE len l.length],m.vr⟩
   |_=>none
  |_=>none
 | .od k,d,m=>match d with
  | .own k' aa len=>(get k').bind λo=>match o with
   | .ep _ l=>some ⟨m.nm++[(k',k)],m.eR++[⟨.int .i64,(aa:Int)⟩],m.ju++[aE (aa+len) l.length],m.vr⟩
   |_=>none
  |_=>none
 | .p k,d,m=>match d with
  | .ptr k' 0 0=>some ⟨m.nm++[(k',k)],m.eR,m.ju,m.vr⟩
  |_=>none
 | .nil,d,m=>match d with
  | .nil=>some m
  |_=>none
 | .f F fs cs,d,m=>match d with
  | .fn F' first caps=>if F=F' then(sm fs first m).bind λm=>sm cs caps m else none
  |_=>none
 | .mp k,d,m=>match d with
  | .mp k'=>some ⟨m.nm++[(k',k)],m.eR,m.ju,m.vr⟩
  |_=>none
 | .oz _,_,_=>none
 | .a ps,d,m=>match d with
  | .agg ds=>sm ps ds m
  |_=>none
def sm:List (Pt X.ι)->List (DV X)->MG X->Option (MG X)
 |[],[],m=>some m
 |p::ps,d::ds,m=>(p0 p d m).bind λm=>sm ps ds m
 |_,_,_=>none
end
def FR:U (List (Pt X.ι))->U (List (DV X))->MG X->J (MG X)
 |[],[],m=>some m
 |r::rs,q::qs,m=>(sm get r q m).bind λm=>FR rs qs m
 |_,_,_=>none
def qS(m:MG X)(k:Nat):Nat:=match m.nm.find? (λ q=>q.2==k)with |some q=>q.1 |none=>k
def stC:CT X.ι->Bool
 | .st _=>true
 |_=>false
def CQ:U (Nat×OP X.ι)->MG X->J (MG X)
 |[],m=>some m
 |(k,op)::r,m=>(get (qS m k)).bind λo=>match op,o with
  | .l c,.ep c' l=>(jA (.sl c') (.sl c) l).bind λl'=>CQ r ⟨m.nm++[(qS m k,k)],m.eR++[⟨.sl c,l'⟩],m.ju,m.vr⟩
  | .m kc vc,.map t6 tM l=>if (kc.one=true/\vc.one=true)\/stC kc=true then(jA (.mp t6 tM) (.mp kc vc) l).bind λl'=>CQ r ⟨m.nm++[(qS m k,k)],m.eR++[⟨.mp kc vc,l'⟩],m.ju,m.vr⟩else none
  | .c sz rows,.cells sz' rows'=>if sz=sz' then(FR get rows rows' ⟨m.nm++[(qS m k,k)],m.eR,m.ju,m.vr⟩).bind λm=>CQ r m else none
  |_,_=>none
end
mutual
def Pt.refs:Pt X.ι->List Nat
 | .o k | .od k | .p k | .mp k | .oz k=>[k]
 | .f _ fs cs=>Bj fs++Bj cs
 | .a ps=>Bj ps
 |_=>[]
def Bj:List (Pt X.ι)->List Nat
 |[]=>[]
 |p::ps=>p.refs++Bj ps
end
def OP.refs:OP X.ι->U Nat
 | .l _=>[]
 | .m _ _=>[]
 | .c _ rows=>rows.flatMap Bj
def HB(n k:Nat):Bool:=Nat.blt k n || (Nat.ble 1000 k&&Nat.blt k 1064)
def dg.ok(g:dg X):Bool:=
 decide (g.jt.map (·.1)=List.range g.jt.length)&&decide (g.jt.length<=1000)&&(g.jp.all λq=>HB g.jt.length q.1&&q.2.refs.all λk=>HB g.jt.length k)&&decide (g.jp.map (·.1)).Nodup&&(Bj g.fX).all λk=>HB g.jt.length k
def okG(m:MG X)(ae:U Nat):Bool:=
 decide ae.Nodup&&(m.nm.all λq=>match ae[q.2]? with |some k=>Nat.beq k q.1 |none=>false)&&m.vr.all λk=>!ae.contains k
def dg.flat(g:dg X):Bool:=(cX g.fX).all xG&&g.jp.all λq=>match q.2 with
 | .l c=>xG c
 | .m _ _=>false
 | .c _ rows=>(wh rows).all xG
def tA:U (Nat×bm X)->Nat->J (bm X)
 |[],_=>none
 |(j,o)::r,k=>if j=k then some o else tA r k
def Pl(i:Nat)(ae:U Nat)(os':U (Nat×bm X)):U (Nat×Option (bm X)):=
 (ae.zipIdx.map λp=>(p.1,(tA os' p.2).map (pc (cn i ae))))++(os'.filter λq=>decide (1000<=q.1)).map λq=>(cn i ae q.1,some (pc (cn i ae) q.2))
def agx(g:dg X)(i:Nat)(ds:U (DV X))(get:Nat->J (bm X))(k:KK X A):J A:=
 (sm get g.pP ds ⟨[],[],[],[]⟩).bind λm=>(CQ get g.jt m).bind λm=>
  bif g.ok&&okG m ((List.range g.jt.length).map (qS m))then(YJ (cX g.pP++cR g.jt) m.eR).bind λv=>Vz m.ju ((g.fn v).bind λr=>
   let ae:=(List.range g.jt.length).map (qS m)
   k (oe (cn i ae) (g.res r)) (Pl i ae (g.outs r)++(if g.flat then []else m.vr.map λk=>(k,none))) (ae++m.vr) ((ae++(Pl i ae (g.outs r)).map (·.1))++m.vr))
  else none
section
variable {P:Program} {get:Nat->Option (bm X)} {rd ae:List Nat} {ec:Nat->Nat}
def ga(m m':MG X):Prop:=(∀ q∈m.nm,q∈m'.nm)/\(∀ c∈m.ju,c∈m'.ju)/\∀k∈m.vr,k∈m'.vr
theorem ga.refl(m:MG X):ga m m:=⟨λ _ h=>h,λ_ h=>h,λ_ h=>h⟩
theorem ga.trans{a b c:MG X}(h:ga a b)(h':ga b c):ga a c:=⟨λ q hq=>h'.1 q (h.1 q hq),λq hq=>h'.2.1 q (h.2.1 q hq),λq hq=>h'.2.2 q (h.2.2 q hq)⟩
mutual
theorem alv:∀(p:Pt X.ι)(d:DV X)(m m':MG X),p0 get p d m=some m'->ga m m'/\∃an,m'.eR=m.eR++an/\an.length=p.vars.length
 | .v c,d,m,m',h=>by
  simp only[p0]at h;rw[ai]at h;obtain⟨x,h1,h⟩:=h;cases h;exact⟨⟨λ _ h=>h,λ_ h=>by simp[h],λ_ h=>by simp[h]⟩,[⟨c,x.1⟩],rfl,rfl⟩
 | .o k,d,m,m',h=>by
  simp only[p0]at h;split at h
  .rw[ai]at h;obtain⟨o,h1,h⟩:=h;split at h
   .cases h;exact⟨⟨λ _ h=>by simp[h],λ_ h=>by simp[h],λ_ h=>h⟩,[],by simp,rfl⟩
   .cases h
  .cases h
 | .od k,d,m,m',h=>by
  simp only[p0]at h;split at h
  .rename_i k' aa len;have⟨o,h1,h⟩:=ai.1 h;split at h
   .cases h;exact⟨⟨λ _ h=>by simp[h],λ_ h=>by simp[h],λ_ h=>h⟩,[⟨.int .i64,(aa:Int)⟩],rfl,rfl⟩
   .cases h
  .cases h
 | .p k,d,m,m',h=>by
  simp only[p0]at h;split at h
  .cases h;exact⟨⟨λ _ h=>by simp[h],λ_ h=>h,λ_ h=>h⟩,[],by simp,rfl⟩
  .cases h
 | .nil,d,m,m',h=>by
  simp only[p0]at h;split at h
  .cases h;exact⟨ga.refl _,[],by simp,rfl⟩
  .cases h
 | .f F fs cs,d,m,m',h=>by
  simp only[p0]at h;split at h
  .split at h
   .have⟨m1,h1,h⟩:=ai.1 h;obtain⟨a1,n1,b1,c1⟩:=wB fs _ m m1 h1;obtain⟨a2,n2,b2,c2⟩:=wB cs _ m1 m' h;exact⟨a1.trans a2,n1++n2,by rw[b2,b1,aO],by simp[Pt.vars,c1,c2]⟩
   .cases h
  .cases h
 | .mp k,d,m,m',h=>by
  simp only[p0]at h;split at h
  .cases h;exact⟨⟨λ _ h=>by simp[h],λ_ h=>h,λ_ h=>h⟩,[],by simp,rfl⟩
  .cases h
 | .oz _,_,_,_,h=>by simp[p0]at h
 | .a ps,d,m,m',h=>by
  simp only[p0]at h;split at h
  .exact wB ps _ m m' h
  .cases h
theorem wB:∀(ps:List (Pt X.ι))(ds:List (DV X))(m m':MG X),sm get ps ds m=some m'->ga m m'/\∃an,m'.eR=m.eR++an/\an.length=(cX ps).length
 |[],[],m,m',h=>by
  simp only[sm,aC]at h;subst h;exact⟨ga.refl _,[],by simp,rfl⟩
 |p::ps,d::ds,m,m',h=>by
  simp only[sm]at h;have⟨m1,h1,h⟩:=ai.1 h;have⟨a1,n1,b1,c1⟩:=alv p d m m1 h1;have⟨a2,n2,b2,c2⟩:=wB ps ds m1 m' h;exact⟨a1.trans a2,n1++n2,by rw[b2,b1,aO],by simp[cX,c1,c2]⟩
 |[],_::_,m,m',h=>by simp[sm]at h
 |_::_,[],m,m',h=>by simp[sm]at h
end
def YN:AV->U LH->U LH
 | .agg _,hs=> .agd::hs
 |_,hs=>hs
theorem Nq(x:AV)(a b:U LH):YN x (a++b)=YN x a++b:=by cases x<;>rfl
theorem yE{get':Nat->J aU}{x:AV}{hs:U LH}{p:AV×List LH×List Prop}(h:nU P get' x hs=some p)(hr:∀k∈refs x,k∉ae):o9 P get' ae x (YN x hs)=some p:=by
 have hd:((refs x).all λk=>!ae.contains k)=true:=by
  simp only[all_eq_true,Bool.not_eq_true',List.contains_eq_mem,dL];exact hr
 cases x
 case agg cs=>
  simp only[refs]at hd;simp only[YN,o9,hd,if_true];exact h
 all_goals
  simp only[YN];unfold o9;split<;>first |(simp [nU]at h;done) |(rw [aZ hd];exact h) |exact h |exact absurd hd ‹_› |(rename_i e;cases e;done)
variable {NM:List (Nat×Nat)} {p5:List Nat}
mutual
theorem ajI(hi:∀q∈NM,ae[q.2]? =some q.1)(hv:∀k∈p5,k∉ae)(hrd:∀k,(∃ q,(k,q)∈NM)\/k∈p5->k∈rd)(ho:∀q∈NM,∀c l,get q.1=some (.ep c l)->ec q.2=l.length):
 ∀(p:Pt X.ι)(d:DV X)(m m':MG X),p0 get p d m=some m'->(∀ q∈m'.nm,q∈NM)->(∀ c∈m'.ju,c=true)->(∀ k∈m'.vr,k∈p5)->
 ∃an,m'.eR=m.eR++an/\∃d',(∀ ag,eP ec p (an++ag)=(d',ag))/\(∃ hs obs,(∀ p∈obs,p)/\∀ag,o9 P (dO rd (fB get)) ae (den d) (hs++ag)=some (den d',ag,obs))/\∀j∈bk d,(∃ q,(j,q)∈NM)\/j∈p5
 | .v c,d,m,m',h,hn,hc,hr=>by
  simp only[p0]at h;rw[ai]at h;obtain⟨x,h1,h⟩:=h;cases h;have A5:∀j∈bk d,j∈p5:=λj hj=>hr j (by simp[hj]);obtain⟨hs,obs,p1,q1⟩:=Ae (P:=P) (rd:=rd) h1 (λ b hb=>hc b (by simp[hb])) (λ j hj=>hrd j (.inr (A5 j hj)));refine⟨[⟨c,x.1⟩],rfl,.c c x.1,λag=>rfl,⟨YN (den d) hs,obs,p1,λag=>?_⟩,λj hj=> .inr (A5 j hj)⟩;rw[<- Nq];exact yE (q1 ag) (λ k hk=>hv k (A5 k (by rwa [iO]at hk)))
 | .o k,d,m,m',h,hn,hc,hr=>by
  simp only[p0]at h;split at h
  .rename_i k' len;rw[ai]at h;obtain⟨o,h1,h⟩:=h;split at h
   .rename_i c l;cases h;have hq:(k',k)∈NM:=hn _ (by simp);have he:len=l.length:=by
     have:=hc (aE len l.length) (by simp);simpa[aE]using this
    refine⟨[],by simp,.own k 0 (ec k),λag=>rfl,⟨[.mut k],[],by simp,λag=>?_⟩,λj hj=>?_⟩
    .simp only[den,cons_append,bT,o9,hi _ hq,if_true,ho _ hq c l h1,he]
    .simp only[bk,aR]at hj;subst hj;exact .inl ⟨k,hq⟩
   .cases h
  .cases h
 | .od k,d,m,m',h,hn,hc,hr=>by
  simp only[p0]at h;split at h
  .rename_i k' aa len;rw[ai]at h;obtain⟨o,h1,h⟩:=h;split at h
   .rename_i c l;cases h;have hq:(k',k)∈NM:=hn _ (by simp);have he:aa+len=l.length:=by
     have:=hc (aE (aa+len) l.length) (by simp);simpa[aE]using this
    refine⟨[⟨.int .i64,(aa:Int)⟩],rfl,.own k aa (ec k -aa),λag=>?_,⟨[.mut k],[],by simp,λag=>?_⟩,λj hj=>?_⟩
    .have:ZX (X:=X) ⟨.int .i64,(aa:Int)⟩=aa:=by
      simp only[ZX];rw[VL];simp
     simp only[eP,cons_append,bT,this]
    .simp only[den,cons_append,bT,o9,hi _ hq,if_true,ho _ hq c l h1,show l.length -aa=len by omega]
    .simp only[bk,aR]at hj;subst hj;exact .inl ⟨k,hq⟩
   .cases h
  .cases h
 | .p k,d,m,m',h,hn,hc,hr=>by
  simp only[p0]at h;split at h
  .rename_i k';cases h;have hq:(k',k)∈NM:=hn _ (by simp);refine⟨[],by simp,.ptr k 0 0,λag=>rfl,⟨[.mut k],[],by simp,λag=>?_⟩,λj hj=>?_⟩
   .simp only[den,cons_append,bT,o9,hi _ hq,if_true]
   .simp only[bk,aR]at hj;subst hj;exact .inl ⟨k,hq⟩
  .cases h
 | .nil,d,m,m',h,hn,hc,hr=>by
  simp only[p0]at h;split at h
  .cases h;refine⟨[],by simp,.nil,λag=>rfl,⟨[.nil],[],by simp,λag=>?_⟩,by simp[bk]⟩;exact yE (by simp only[den,cons_append,bT,nU]) (by simp[den,refs])
  .cases h
 | .f F fs cs,d,m,m',h,hn,hc,hr=>by
  simp only[p0]at h;split at h
  .rename_i F' first caps
   split at h
   .rename_i e;subst e;rw[ai]at h;obtain⟨m1,h1,h⟩:=h;have hm:=(wB cs _ m1 m' h).1;obtain⟨n1,a1,f',b1,⟨hs1,o1,p1,q1⟩,r1⟩:=yF hi hv hrd ho fs _ m m1 h1 (λ q hq=>hn q (hm.1 q hq)) (λ q hq=>hc q (hm.2.1 q hq)) (λ q hq=>hr q (hm.2.2 q hq));obtain⟨n2,a2,c',b2,⟨hs2,o2,p2,q2⟩,r2⟩:=yF hi hv hrd ho cs _ m1 m' h hn hc hr;refine⟨n1++n2,by rw[a2,a1,aO],.fn F f' c',λag=>by simp only[eP,aO,b1,b2],⟨.fnw::(hs1++hs2),o1++o2,gQ p1 p2,λag=>?_⟩,λj hj=>?_⟩
    .simp only[den,cons_append,aO,o9,q1,af,q2]
    .simp only[bk,bn]at hj;exact hj.elim (r1 j) (r2 j)
   .cases h
  .cases h
 | .mp k,d,m,m',h,hn,hc,hr=>by
  simp only[p0]at h;split at h
  .rename_i k';cases h;have hq:(k',k)∈NM:=hn _ (by simp);refine⟨[],by simp,.mp k,λag=>rfl,⟨[.mut k],[],by simp,λag=>?_⟩,λj hj=>?_⟩
   .simp only[den,cons_append,bT,o9,hi _ hq,if_true]
   .simp only[bk,aR]at hj;subst hj;exact .inl ⟨k,hq⟩
  .cases h
 | .oz _,_,_,_,h,_,_,_=>by simp[p0]at h
 | .a ps,d,m,m',h,hn,hc,hr=>by
  simp only[p0]at h;split at h
  .rename_i ds;have⟨n1,a1,f',b1,⟨hs1,o1,p1,q1⟩,r1⟩:=yF hi hv hrd ho ps ds m m' h hn hc hr;refine⟨n1,a1,.agg f',λag=>by simp only[eP,b1],⟨.agw::hs1,o1,p1,λag=>?_⟩,λj hj=>r1 j (by simpa[bk]using hj)⟩;simp only[den,cons_append,o9,q1,af]
  .cases h
theorem yF(hi:∀q∈NM,ae[q.2]? =some q.1)(hv:∀k∈p5,k∉ae)(hrd:∀k,(∃ q,(k,q)∈NM)\/k∈p5->k∈rd)(ho:∀q∈NM,∀c l,get q.1=some (.ep c l)->ec q.2=l.length):
 ∀(ps:List (Pt X.ι))(ds:List (DV X))(m m':MG X),sm get ps ds m=some m'->(∀ q∈m'.nm,q∈NM)->(∀ c∈m'.ju,c=true)->(∀ k∈m'.vr,k∈p5)->
 ∃an,m'.eR=m.eR++an/\∃ds',(∀ ag,lE ec ps (an++ag)=(ds',ag))/\(∃ hs obs,(∀ p∈obs,p)/\∀ag,l9 P (dO rd (fB get)) ae (bS ds) (hs++ag)=some (bS ds',ag,obs))/\∀j∈aS ds,(∃ q,(j,q)∈NM)\/j∈p5
 |[],[],m,m',h,_,_,_=>by
  simp only[sm,aC]at h;subst h;exact⟨[],by simp,[],λag=>rfl,⟨[],[],by simp,λag=>rfl⟩,by simp[aS]⟩
 |p::ps,d::ds,m,m',h,hn,hc,hr=>by
  simp only[sm]at h;have⟨m1,h1,h⟩:=ai.1 h;have hm:=(wB ps ds m1 m' h).1;obtain⟨n1,a1,d',b1,⟨hs1,o1,p1,q1⟩,r1⟩:=ajI hi hv hrd ho p d m m1 h1 (λ q hq=>hn q (hm.1 q hq)) (λ q hq=>hc q (hm.2.1 q hq)) (λ q hq=>hr q (hm.2.2 q hq));have⟨n2,a2,ds',b2,⟨hs2,o2,p2,q2⟩,r2⟩:=yF hi hv hrd ho ps ds m1 m' h hn hc hr;refine⟨n1++n2,by rw[a2,a1,aO],d'::ds',λag=>by simp only[lE,aO,b1,b2],⟨hs1++hs2,o1++o2,gQ p1 p2,λag=>?_⟩,λj hj=>?_⟩
  .simp only[bS,aO,l9,q1,af,q2]
  .simp only[aS,bn]at hj;exact hj.elim (r1 j) (r2 j)
 |[],_::_,m,m',h,_,_,_=>by simp[sm]at h
 |_::_,[],m,m',h,_,_,_=>by simp[sm]at h
end
theorem yQ:∀(rs:U (List (Pt X.ι)))(qs:U (List (DV X)))(m m':MG X),FR get rs qs m=some m'->ga m m'/\∃an,m'.eR=m.eR++an/\an.length=(wh rs).length
 |[],[],m,m',h=>by
  simp only[FR,aC]at h;subst h;exact⟨ga.refl _,[],by simp,rfl⟩
 |r::rs,q::qs,m,m',h=>by
  simp only[FR]at h;have⟨m1,h1,h⟩:=ai.1 h;have⟨a1,n1,b1,c1⟩:=wB r q m m1 h1;have⟨a2,n2,b2,c2⟩:=yQ rs qs m1 m' h;exact⟨a1.trans a2,n1++n2,by rw[b2,b1,aO],by simp[wh,c1,c2]⟩
 |[],_::_,m,m',h=>by simp[FR]at h
 |_::_,[],m,m',h=>by simp[FR]at h
theorem RN(hi:∀q∈NM,ae[q.2]? =some q.1)(hv:∀k∈p5,k∉ae)(hrd:∀k,(∃ q,(k,q)∈NM)\/k∈p5->k∈rd)(ho:∀q∈NM,∀c l,get q.1=some (.ep c l)->ec q.2=l.length):
 ∀(rs:U (List (Pt X.ι)))(qs:U (List (DV X)))(m m':MG X),FR get rs qs m=some m'->(∀ q∈m'.nm,q∈NM)->(∀ c∈m'.ju,c=true)->(∀ k∈m'.vr,k∈p5)->
 ∃an,m'.eR=m.eR++an/\∃E4,(∀ ag,wo ec rs (an++ag)=(E4,ag))/\(∃ hs obs,(∀ p∈obs,p)/\yK P (dO rd (fB get)) ae (qs.map bS) hs=some (E4.map bS,obs))/\∀j∈(qs.map aS).flatten,(∃ q,(j,q)∈NM)\/j∈p5
 |[],[],m,m',h,_,_,_=>by
  simp only[FR,aC]at h;subst h;exact⟨[],by simp,[],λag=>rfl,⟨[],[],by simp,rfl⟩,by simp⟩
 |r::rs,q::qs,m,m',h,hn,hc,hr=>by
  simp only[FR]at h;have⟨m1,h1,h⟩:=ai.1 h;have hm:=(yQ rs qs m1 m' h).1;obtain⟨n1,a1,d',b1,⟨hs1,o1,p1,q1⟩,r1⟩:=yF (P:=P) hi hv hrd ho r q m m1 h1 (λ q hq=>hn q (hm.1 q hq)) (λ q hq=>hc q (hm.2.1 q hq)) (λ q hq=>hr q (hm.2.2 q hq));have⟨n2,a2,ds',b2,⟨hs2,o2,p2,q2⟩,r2⟩:=RN hi hv hrd ho rs qs m1 m' h hn hc hr;refine⟨n1++n2,by rw[a2,a1,aO],d'::ds',λag=>by simp only[wo,aO,b1,b2],⟨hs1::hs2,o1++o2,gQ p1 p2,?_⟩,λj hj=>?_⟩
  .have:=q1 [];rw[append_nil]at this;simp only[aH,yK,this,af,q2]
  .simp only[aH,List.flatten_cons,bn]at hj;exact hj.elim (r1 j) (r2 j)
 |[],_::_,m,m',h,_,_,_=>by simp[FR]at h
 |_::_,[],m,m',h,_,_,_=>by simp[FR]at h
theorem mh:∀(os:U (Nat×OP X.ι))(m m':MG X),CQ get os m=some m'->ga m m'/\∃an,m'.eR=m.eR++an/\an.length=(cR os).length
 |[],m,m',h=>by
  simp only[CQ,aC]at h;subst h;exact⟨ga.refl _,[],by simp,rfl⟩
 |(k,op)::r,m,m',h=>by
  simp only[CQ]at h;rw[ai]at h;obtain⟨o,h1,h⟩:=h;split at h
  .rename_i c c' l;rw[ai]at h;obtain⟨l',h2,h⟩:=h;obtain⟨a2,n2,b2,c2⟩:=mh r _ m' h;refine⟨ga.trans (b:=⟨m.nm++[(qS m k,k)],m.eR++[⟨.sl c,l'⟩],m.ju,m.vr⟩) ⟨λ _ h=>by simp[h],λ_ h=>h,λ_ h=>h⟩ a2,[⟨.sl c,l'⟩]++n2,?_,by simp[cR,c2]⟩;rw[b2,aO]
  .rename_i kc vc t6 tM l;split at h
   .rw[ai]at h;obtain⟨l',h2,h⟩:=h;obtain⟨a2,n2,b2,c2⟩:=mh r _ m' h;refine⟨ga.trans (b:=⟨m.nm++[(qS m k,k)],m.eR++[⟨.mp kc vc,l'⟩],m.ju,m.vr⟩) ⟨λ _ h=>by simp[h],λ_ h=>h,λ_ h=>h⟩ a2,[⟨.mp kc vc,l'⟩]++n2,?_,by simp[cR,c2]⟩;rw[b2,aO]
   .cases h
  .rename_i sz rows sz' rows';split at h
   .rw[ai]at h;obtain⟨m1,h2,h⟩:=h;obtain⟨a1,n1,b1,c1⟩:=yQ rows _ _ m1 h2;have⟨a2,n2,b2,c2⟩:=mh r m1 m' h;refine⟨ga.trans (ga.trans (b:=⟨m.nm++[(qS m k,k)],m.eR,m.ju,m.vr⟩) ⟨λ _ h=>by simp[h],λ_ h=>h,λ_ h=>h⟩ a1) a2,n1++n2,?_,by simp[cR,c1,c2]⟩;rw[b2,b1,aO]
   .cases h
  .cases h
theorem El:∀(os:U (Nat×OP X.ι))(m m':MG X),CQ get os m=some m'->(∀ q∈m'.nm,q∈NM)->∃an,m'.eR=m.eR++an/\∀ag,∀k∈os.map (·.1),∃k' o,(k',k)∈NM/\get k'=some o/\∀c l,o= .ep c l->(k,List.length l)∈lens os (an++ag)
 |[],m,m',h,_=>by
  simp only[CQ,aC]at h;subst h;exact⟨[],by simp,λag k hk=>by simp at hk⟩
 |(k,op)::r,m,m',h,hn=>by
  simp only[CQ]at h;rw[ai]at h;obtain⟨o,h1,h⟩:=h;split at h
  .rename_i c c' l;rw[ai]at h;obtain⟨l',h2,h⟩:=h;have hm:=(mh r _ m' h).1;obtain⟨n2,b2,c2⟩:=El r _ m' h hn;refine⟨[⟨.sl c,l'⟩]++n2,by rw[b2,aO],λag j hj=>?_⟩;simp only[aH,aQ]at hj;simp only[cons_append,bT,lens];by_cases hjk:j=k
   .subst hjk;refine⟨_,_,hn _ (hm.1 _ (by simp)),h1,λc2 l2 he=>?_⟩;injection he with e1 e2;subst e1;have e2:=eq_of_heq e2;subst e2;have:=congrArg List.length (jf h2).2;simp only[length_map]at this;rw[this];exact List.mem_cons_self
   .rcases hj with rfl |hj
    .exact(hjk rfl).elim
    .have⟨k',o',g1,g2,g3⟩:=c2 ag j hj;exact⟨k',o',g1,g2,λc l he=>eX _ (g3 c l he)⟩
  .rename_i kc vc t6 tM l;split at h
   .rw[ai]at h;obtain⟨l',h2,h⟩:=h;have hm:=(mh r _ m' h).1;obtain⟨n2,b2,c2⟩:=El r _ m' h hn;refine⟨[⟨.mp kc vc,l'⟩]++n2,by rw[b2,aO],λag j hj=>?_⟩;simp only[aH,aQ]at hj;simp only[cons_append,bT,lens,List.drop_succ_cons,List.drop_zero];by_cases hjk:j=k
    .subst hjk;exact⟨_,_,hn _ (hm.1 _ (by simp)),h1,λc2 l2 he=>by cases he⟩
    .rcases hj with rfl |hj
     .exact(hjk rfl).elim
     .exact c2 ag j hj
   .cases h
  .rename_i sz rows sz' rows';split at h
   .have⟨m1,h2,h⟩:=ai.1 h;obtain⟨a1,n1,b1,c1⟩:=yQ rows _ _ m1 h2;have hm:=(mh r _ m' h).1;obtain⟨n2,b2,c2⟩:=El r _ m' h hn;refine⟨n1++n2,by rw[b2,b1,aO],λag j hj=>?_⟩;simp only[aH,aQ]at hj;have hd:(n1++n2++ag).drop (wh rows).length=n2++ag:=(by rw[<- c1,aO,List.drop_left]);simp only[lens,hd];by_cases hjk:j=k
    .subst hjk;exact⟨_,_,hn _ (hm.1 _ (a1.1 _ (by simp))),h1,λc2 l2 he=>by cases he⟩
    .rcases hj with rfl |hj
     .exact(hjk rfl).elim
     .exact c2 ag j hj
   .cases h
  .cases h
theorem Em:∀(os:U (Nat×OP X.ι))(L:U (DC X)),((lens os L).map (·.1)).Sublist (os.map (·.1))
 |[],_=>by simp[lens]
 |(k,.l c)::r,L=>by
  simp only[lens];split
  .exact(Em r _).cons_cons _
  .exact List.nil_sublist _
 |(k,.m kc vc)::r,L=>by
  simp only[lens];exact(Em r _).cons _
 |(k,.c sz rows)::r,L=>by
  simp only[lens];exact(Em r _).cons _
def ajJ(get':Nat->J aU)(NM:U (Nat×Nat))(p5:U Nat)(bs:U OB)(ks:U Nat):Prop:=
 ∀(j:Nat) hs q o,bs[j]? =some (.DD hs)->ks[j]? =some q->get' q=some o->∀k∈PE o,(∃ z,(k,z)∈NM)\/k∈p5
theorem Ns{sz:Nat}{rows:U (List (DV X))}{k:Nat}(h:k∈PE (bI (.cells sz rows))):k∈(rows.map aS).flatten:=by
 simp only[PE,bI,mem_flatMap,mem_map]at h;obtain⟨a,⟨r,hr,rfl⟩,hk⟩:=h;rw[gZ]at hk;exact List.mem_flatten.2 ⟨_,mem_map.2 ⟨r,hr,rfl⟩,hk⟩
theorem abA:∀ts:U Tree,fe (ts.map AV.t)=[]
 |[]=>rfl
 |t::ts=>by simp only[aH,fe,refs,abA ts,append_nil]
theorem aiC{P:Program}{get:Nat->J aU}:∀(ts:U Tree)(hs:U LH),mI P get (ts.map AV.t) hs=some (ts.map AV.t,hs,[])
 |[],hs=>rfl
 |t::ts,hs=>by simp only[aH,mI,nU,af,aiC ts hs,append_nil]
theorem ajK{P:Program}{get:Nat->J aU}{ae:U Nat}(v:TV):o9 P get ae v.av []=some (v.av,[],[]):=by
 cases v with
 |s x=>rfl
 |a cs=>
  have h:refs (.agg (cs.map AV.t))=[]:=abA cs;simp only[TV.av,o9,h,List.all_nil,if_true,nU,aiC,af]
theorem Z8{P:Program}{get:Nat->J aU}{ae:U Nat}:∀rows:U (TV×TV),yK P get ae (rows.map λq=>[q.1.av,q.2.av]) (rows.map λ_=>[])=some (rows.map λq=>[q.1.av,q.2.av],[])
 |[]=>rfl
 |q::rows=>by simp only[aH,yK,l9,ajK,af,Z8 rows,append_nil]
theorem Ag(hi:∀q∈NM,ae[q.2]? =some q.1)(hv:∀k∈p5,k∉ae)(hrd:∀k,(∃ q,(k,q)∈NM)\/k∈p5->k∈rd)(ho:∀q∈NM,∀c l,get q.1=some (.ep c l)->ec q.2=l.length):
 ∀(os:U (Nat×OP X.ι))(m m':MG X),CQ get os m=some m'->(∀ q∈m'.nm,q∈NM)->(∀ c∈m'.ju,c=true)->(∀ k∈m'.vr,k∈p5)->
 ∃an,m'.eR=m.eR++an/\∃xs:U (Nat×bm X),(∀ ag,dG ec os (an++ag)=xs.map λp=>(p.1,some p.2))/\
  ∃bs mo,(∀ p∈mo,p)/\FO P (dO rd (fB get)) ae (os.map λp=>(ae[p.1]?).getD 0) bs=some (xs.map λp=>bI p.2,mo)/\ajJ (dO rd (fB get)) NM p5 bs (os.map λp=>(ae[p.1]?).getD 0)
 |[],m,m',h,_,_,_=>by
  simp only[CQ,aC]at h;subst h;exact⟨[],by simp,[],λag=>rfl,[],[],by simp,rfl,λj hs q o h=>by simp at h⟩
 |(k,op)::r,m,m',h,hn,hc,hr=>by
  simp only[CQ]at h;rw[ai]at h;obtain⟨o,h1,h⟩:=h;split at h
  .rename_i c c' l;have⟨l',h2,h⟩:=ai.1 h;have hm:=(mh r _ m' h).1;have hq:(qS m k,k)∈NM:=hn _ (hm.1 _ (by simp));have hid:(ae[k]?).getD 0=qS m k:=(by rw[hi _ hq];rfl);have hget:=eU (hrd (qS m k) (.inl ⟨k,hq⟩)) h1;have⟨h3,h4⟩:=jf h2;obtain⟨n2,a2,xs,b2,bs,mo,p2,q2,r2⟩:=Ag hi hv hrd ho r _ m' h hn hc hr;refine⟨[⟨.sl c,l'⟩]++n2,by rw[a2,aO],(k,.ep c l')::xs,λag=>by simp only[cons_append,bT,dG,b2,aH],.dat (CT.sz X c,l'.map (CT.row X.toSE c))::bs,((bI (.ep c' l)).sz=CT.sz X c/\eu ((bI (.ep c' l)).rows.take (l'.map (CT.row X.toSE c)).length)=aK (l'.map (CT.row X.toSE c)))::mo,?_,?_,?_⟩
   .intro p hp;rcases aQ.1 hp with rfl |hp
    .refine⟨h3,?_⟩;simp only[bI,h4];rw[take_of_length_le (by simp[aK])];simp[eu,aK,Function.comp_def,wk]
    .exact p2 p hp
   .simp only[aH,FO,Vk,hid,hget,af,q2,cons_append,bT];rfl
   .intro j hs q o' hj hq' ho';cases j with
    |zero=>simp at hj
    |succ j=>exact r2 j hs q o' (by simpa using hj) (by simpa using hq') ho'
  .rename_i kc vc t6 tM l;split at h
   .rename_i hone;have⟨l',h2,h⟩:=ai.1 h;have hm:=(mh r _ m' h).1;have hq:(qS m k,k)∈NM:=hn _ (hm.1 _ (by simp));have hid:(ae[k]?).getD 0=qS m k:=(by rw[hi _ hq];rfl);have hget:=eU (hrd (qS m k) (.inl ⟨k,hq⟩)) h1;have hden:bI (.map t6 tM l)=bI (.map kc vc l'):=by
     have⟨e,h2⟩:=rM h2;injection e with e1 e2;subst e1;subst e2;subst h2;rfl
    obtain⟨n2,a2,xs,b2,bs,mo,p2,q2,r2⟩:=Ag hi hv hrd ho r _ m' h hn hc hr;rcases hone with hone |_
    .have hab:bI (.map kc vc l')=ia (List.length l',l'.map λq=>CT.row X.toSE kc q.1++CT.row X.toSE vc q.2):=by
      simp only[bI,ia,aK,map_map];congr 1;refine map_congr_left λq _=>?_;obtain⟨t1,g1,g2⟩:=row_one hone.1 q.1;obtain⟨t2,g3,g4⟩:=row_one hone.2 q.2;simp[g1,g2,g3,g4,TV.av]
     refine⟨[⟨.mp kc vc,l'⟩]++n2,by rw[a2,aO],(k,.map kc vc l')::xs,λag=>by simp only[cons_append,bT,dG,b2,aH],.dat (List.length l',l'.map λq=>CT.row X.toSE kc q.1++CT.row X.toSE vc q.2)::bs,((bI (.map t6 tM l)).sz=List.length l'/\eu ((bI (.map t6 tM l)).rows.take (l'.map λq=>CT.row X.toSE kc q.1++CT.row X.toSE vc q.2).length)=aK (l'.map λq=>CT.row X.toSE kc q.1++CT.row X.toSE vc q.2))::mo,?_,?_,?_⟩
     .intro p hp;rcases aQ.1 hp with rfl |hp
      .rw[hden,hab];refine⟨rfl,?_⟩;simp only[ia];rw[take_of_length_le (by simp[aK])];simp[eu,aK,Function.comp_def,wk]
      .exact p2 p hp
     .simp only[aH,FO,Vk,hid,hget,af,q2,cons_append,bT,hab]
     .intro j hs q o' hj hq' ho';cases j with
      |zero=>simp at hj
      |succ j=>exact r2 j hs q o' (by simpa using hj) (by simpa using hq') ho'
    .refine⟨[⟨.mp kc vc,l'⟩]++n2,by rw[a2,aO],(k,.map kc vc l')::xs,λag=>by simp only[cons_append,bT,dG,b2,aH],.DD ((l'.map λq=>(CT.tv X.toSE kc q.1,CT.tv X.toSE vc q.2)).map λ_=>[])::bs,mo,p2,?_,?_⟩
     .have hlr:=Z8 (P:=P) (get:=dO rd (fB get)) (ae:=ae) (l'.map λq=>(CT.tv X.toSE kc q.1,CT.tv X.toSE vc q.2));have hdr:(bI (.map kc vc l')).rows=(l'.map λq=>(CT.tv X.toSE kc q.1,CT.tv X.toSE vc q.2)).map λq=>[q.1.av,q.2.av]:=(by simp only[bI,map_map];rfl);simp only[aH,FO,Vk,hid,hget,af,q2,hden,hdr,hlr,bT];rw[<- hdr]
     .intro j hs q o' hj hq' ho';cases j with
      |zero=>
       simp only[aH,List.getElem?_cons_zero,aC]at hq';subst hq';rw[hid,hget]at ho';injection ho' with ho';subst ho';intro k hk;rw[hden]at hk;simp only[PE,bI,mem_flatMap,mem_map]at hk;obtain⟨_,⟨q,_,rfl⟩,hk⟩:=hk;simp only[fe,Ad,append_nil,gG]at hk
      |succ j=>exact r2 j hs q o' (by simpa using hj) (by simpa using hq') ho'
   .cases h
  .rename_i sz rows sz' rows';split at h
   .rename_i hsz;have⟨m1,h2,h⟩:=ai.1 h;have hm1:=(yQ rows _ _ m1 h2).1;have hm:=(mh r _ m' h).1;have hq:(qS m k,k)∈NM:=hn _ (hm.1 _ (hm1.1 _ (by simp)));have hid:(ae[k]?).getD 0=qS m k:=(by rw[hi _ hq];rfl);have hget:=eU (hrd (qS m k) (.inl ⟨k,hq⟩)) h1;obtain⟨n1,a1,qs,b1,⟨hs1,o1,p1,q1⟩,r1⟩:=RN (P:=P) hi hv hrd ho rows _ _ m1 h2 (λ q hq=>hn q (hm.1 q hq)) (λ q hq=>hc q (hm.2.1 q hq)) (λ q hq=>hr q (hm.2.2 q hq));obtain⟨n2,a2,xs,b2,bs,mo,p2,q2,r2⟩:=Ag hi hv hrd ho r _ m' h hn hc hr;subst hsz;refine⟨n1++n2,by rw[a2,a1,aO],(k,.cells sz qs)::xs,λag=>by simp only[aO,dG,b1,b2,aH],.DD hs1::bs,o1++mo,gQ p1 p2,?_,?_⟩
    .simp only[aH,FO,Vk,hid,hget,af,bI,q1,q2]
    .intro j hs q o' hj hq' ho';cases j with
     |zero=>
      simp only[aH,List.getElem?_cons_zero,aC]at hq';rw[<- hq',hid,hget]at ho';injection ho' with ho';subst ho';exact λz hz=>r1 z (Ns hz)
     |succ j=>exact r2 j hs q o' (by simpa using hj) (by simpa using hq') ho'
   .cases h
  .cases h
end
end
end Go.Gb
