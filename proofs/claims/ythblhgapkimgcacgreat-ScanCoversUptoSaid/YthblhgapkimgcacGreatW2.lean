import Derived.Test.YthblhgapkimgcacGreatW1
import Derived.Maps.RangeRun
import Derived.ChangeSame
import Derived.Carry
import Derived.OpenShut
import Derived.SizedLaws
import Derived.WalkKit
import Derived.ProofKit
import Derived.Lib.LaidTab
open List (mem_map all_eq_true cons_append length_map append_nil map_map take_of_length_le map_congr_left map_nil all_cons map_take map_drop mem_flatMap)
namespace Go.Gb
open Go.RowKit
structure St where
 env:Nat->AV
 obj:Nat->Option aT
 ok:Nat->Option Bool
structure m6 where
 cL:ka
 rd:List Nat
 wr:List Nat
 sym:Bool
def jy(P:Program)(T:eo)(i:Nat)(o:Oper)(cL:ka)(ρ:Operand->AV)(get:Nat->J aT):J Out:=
 match cL with
 | .ext n=>sS T i o n ρ get
 | .xt ae fr vd=>Hq P T i o ae fr vd ρ get
 |cL=>match o.op with
  | .call { callee:= .value f,args:=args,argTypes:=_ }=>j3 P i (ρ f) (args.toList.map ρ) cL get
  |_=>qg T i o cL ρ get
def A8{α:Type}(env:Nat->α)(dst:J Tmp)(v:α):Nat->α:=λt=>if dst=some t then v else env t
def St.app(σ:St)(dst:J Tmp)(p:Out×Option Bool):St:=⟨A8 σ.env dst p.1.v,dm σ.obj p.1.upd,A8 σ.ok dst p.2⟩
def want(al:Array Oper)(o:Oper)(env:Nat->AV)(ok:Nat->J Bool):J Bool:=
 match o.guard with
 |none=>some true
 |some (j,b)=>match (al[j]?).bind (·.dst)with
  |some t=>match env t,ok t with
   | .t (.sc (.bool v)),none=>some (v==b)
   | .t (.sc (.bool v)),some g=>some (g&&(v==b))
   | .undef,some false=>some false
   |_,_=>none
  |none=>none
def xw(ok:Nat->J Bool):Operand->U Prop
 | .tmp t=>match ok t with
  |none=>[]
  |some b=>[b=true]
 |_=>[]
def needs(env:Nat->AV)(ok:Nat->J Bool)(o:Op):U Prop:=
 match o with
 | .pick c a b=>match lL env c with
  | .t (.sc (.bool e))=>xw ok c++((xw ok a).map (λ p=>e=true->p)++(xw ok b).map (λ p=>e=false->p))
  |_=>[False]
 |o=>o.operands.toList.flatMap (xw ok)
def dL(rd:U Nat)(obj:Nat->J aT):Nat->J aT:=λk=>if k∈rd then obj k else none
section
variable (P:Program) (T:eo) (al:Array Oper) (dp:Nat->m6)
def opAt(i:Nat)(σ:St):J (Out×Option Bool):=
 (al[i]?).bind λo=>(want al o σ.env σ.ok).bind λg=>match (dp i).sym with
  |true=>(jy P T i o (dp i).cL (lL σ.env) (dL (dp i).rd σ.obj)).bind λab=>
   if ab.upd.isEmpty then some (⟨ab.v,[],(needs σ.env σ.ok o.op++ab.obs).map λp=>g=true->p⟩,some g)else none
  |false=>match g with
   |true=>(jy P T i o (dp i).cL (lL σ.env) (dL (dp i).rd σ.obj)).bind λab=>
    if ab.upd.all (λ p=>Hw i p.1 || (dp i).wr.contains p.1)then some (⟨ab.v,ab.upd,needs σ.env σ.ok o.op++ab.obs⟩,none)else none
   |false=>some (⟨.undef,[],[]⟩,some false)
def xz(i:Nat)(K:St->Prop)(σ:St):Prop:=∃o ab,al[i]? =some o/\opAt P T al dp i σ=some ab/\ab.1.ob/\K (σ.app o.dst ab)
def SB(Q:St->Prop):U Nat->St->Prop
 |[],σ=>Q σ
 |i::r,σ=>xz P T al dp i (SB Q r) σ
def D4(md:Region.Mode)(Q:St->Prop):Nat->Array Bool->St->Prop
 | 0,listed,σ=>Region.ready md al listed=[]/\Q σ
 |fuel+1,listed,σ=>(Region.ready md al listed=[]->Q σ)/\∀i∈Region.ready md al listed,xz P T al dp i (D4 md Q fuel (listed.setIfInBounds i true)) σ
end
def xD(dp:Nat->m6)(i j:Nat):Bool:=
 (dp j).rd.all (λ k=>!Hw i k&&!(dp i).wr.contains k)&&(!Nat.beq i j&&(dp j).wr.all (λ k=>!Hw i k&&!(dp i).wr.contains k)&&(dp i).wr.all (λ k=>!Hw j k))&&(dp i).rd.all (λ k=>!Hw j k&&!(dp j).wr.contains k)
def Pv(md:Region.Mode)(al:Array Oper)(i:Nat):U Nat:=
 (List.range al.size).foldl (λ D j=>match al[j]? with
  |some oj=>bif oj.after.any (λ e=>Region.binds md e&&(e.on==i || D.contains e.on))then j::D else D
  |none=>D) []
def N4(md:Region.Mode)(al:Array Oper)(listed:Array Bool)(i j:Nat):Bool:=
 (Pv md al i).contains j&&(Pv md al i).all λd=>!listed.getD d true
def Pw(md:Region.Mode)(al:Array Oper)(dp:Nat->m6)(listed:Array Bool)(i:Nat):Bool:=
 match al[i]? with
 |some oi=>(List.range al.size).all λj=>j==i || listed.getD j true || match al[j]? with
  |some oj=>oj.after.any (λ e=>Region.binds md e&&e.on==i) || (oi.apart al oj&&xD dp i j) || N4 md al listed i j
  |none=>true
 |none=>false
def lexFrom'(md:Region.Mode)(al:Array Oper)(dp:Nat->m6):Nat->Nat->Array Bool->Bool
 | 0,_,listed=>(Region.ready md al listed).isEmpty
 |fuel+1,k,listed=>(Region.ready md al listed).contains k&&Pw md al dp listed k&&lexFrom' md al dp fuel (k+1) (listed.setIfInBounds k true)
def N3(al:Array Oper)(dp:Nat->m6):Bool:=lexFrom' .any al dp al.size 0 (Array.replicate al.size false)
section
variable {P:Program} {T:eo} {al:Array Oper} {dp:Nat->m6} {md:Region.Mode} {Q:St->Prop}
theorem ak4{i:Nat}{K K':St->Prop}{σ:St}(h:∀ σ,K σ->K' σ)(hh:xz P T al dp i K σ):xz P T al dp i K' σ:=
 let ⟨o,ab,h1,h2,h3,h4⟩:=hh
 ⟨o,ab,h1,h2,h3,h _ h4⟩
theorem MO{i:Nat}{o:Oper}{cL:ka}{ρ ρ':Operand->AV}{get:Nat->J aT}(h:∀x∈o.op.operands,ρ x=ρ' x):jy P T i o cL ρ get=jy P T i o cL ρ' get:=by
 have hop:=Ro (T:=T) (i:=i) (cL:=cL) (get:=get) h;unfold jy;split
 .exact YH h
 .exact aa7 h
 .obtain⟨dst,op,ty,ao,after,guard⟩:=o;simp only at h ⊢;split
  .rename_i f args cX;simp only[Op.operands,Call.operands]at h;have h1:args.toList.map ρ=args.toList.map ρ':=map_congr_left λx hx=>h x (by simp;exact .inr (by simpa using hx));rw[h1,h f (by simp)]
  .exact hop
theorem ZN{i:Nat}{σ:St}{ab:Out×Option Bool}(h:opAt P T al dp i σ=some ab):∀p∈ab.1.upd,Hw i p.1=true\/p.1∈(dp i).wr:=by
 unfold opAt at h;cases ho:al[i]? with
 |none=>simp[ho]at h
 |some o=>
  simp only[ho,af]at h;cases hw:want al o σ.env σ.ok with
  |none=>simp[hw]at h
  |some g=>
   simp only[hw,af]at h;split at h
   .cases ha:jy P T i o (dp i).cL (lL σ.env) (dL (dp i).rd σ.obj)with
    |none=>simp[ha]at h
    |some out'=>
     simp only[ha,af]at h;split at h
     .cases h;simp
     .cases h
   .split at h
    .cases ha:jy P T i o (dp i).cL (lL σ.env) (dL (dp i).rd σ.obj)with
     |none=>simp[ha]at h
     |some out'=>
      simp only[ha,af]at h;split at h
      .rename_i hall;cases h;intro p hp;have:=all_eq_true.1 hall p hp;simpa using this
      .cases h
    .cases h;simp
theorem uT{obj:Nat->J aT}:∀(upd:U (Nat×Option aT))(k:Nat),(∀ p∈upd,p.1≠k)->dm obj upd k=obj k
 |[],_,_=>rfl
 |(j,o)::r,k,h=>by
  simp only[dm];rw[aS (λ e=>h (j,o) (by simp) e.symm),uT r k (λ p hp=>h p (by simp[hp]))]
theorem D9{obj oe:Nat->J aT}:∀(upd:U (Nat×Option aT))(k:Nat),obj k=oe k->dm obj upd k=dm oe upd k
 |[],_,h=>h
 |(j,o)::r,k,h=>by simp only[dm,D9 r k h]
theorem adm{env env':Nat->AV}{ok ok':Nat->J Bool}{o:Op}(h:∀t,.tmp t∈o.operands->env t=env' t/\ok t=ok' t):needs env ok o=needs env' ok' o:=by
 have h1:∀x∈o.operands,xw ok x=xw ok' x:=λx hx=>by
  cases x with
  |tmp t=>simp only[xw,(h t hx).2]
  |_=>rfl
 unfold needs;split
 .rename_i c a b;have hc:lL env c=lL env' c:=by
   cases c with
   |tmp t=>exact(h t (by simp[Op.operands])).1
   |_=>rfl
  rw[hc,h1 c (by simp[Op.operands]),h1 a (by simp[Op.operands]),h1 b (by simp[Op.operands])]
 .have:∀l:U Operand,(∀ x∈l,xw ok x=xw ok' x)->l.flatMap (xw ok)=l.flatMap (xw ok'):=by
   intro l
   induction l with
   |nil=>intro _;rfl
   |cons x xs ih=>intro hx;simp only[List.flatMap_cons,hx x (by simp),ih (λ y hy=>hx y (by simp[hy]))]
  exact this _ λx hx=>h1 x (by simpa using hx)
theorem adn{j:Nat}{oi oj:Oper}{ab:Out×Option Bool}{σ:St}(hj:al[j]? =some oj)(hd:∀d,oi.dst=some d->d∉oj.looksAt al)(hk:∀p∈ab.1.upd,p.1∉(dp j).rd):
 opAt P T al dp j (σ.app oi.dst ab)=opAt P T al dp j σ:=by
 unfold opAt;simp only[hj,af];have ra:∀t,t∈oj.looksAt al->(σ.app oi.dst ab).env t=σ.env t:=λt ht=>by
  simp only[St.app,A8];rw[aS (λ e=>hd t e ht)]
 have HO:∀t,t∈oj.looksAt al->(σ.app oi.dst ab).ok t=σ.ok t:=λt ht=>by
  simp only[St.app,A8];rw[aS (λ e=>hd t e ht)]
 have hw:want al oj (σ.app oi.dst ab).env (σ.app oi.dst ab).ok=want al oj σ.env σ.ok:=by
  unfold want;cases hg:oj.guard with
  |none=>rfl
  |some gw=>
   obtain⟨g,b⟩:=gw;cases ht:(al[g]?).bind (·.dst)with
   |none=>simp only[ht]
   |some t=>simp only[ht,ra t (by simp[Oper.looksAt,hg,ht]),HO t (by simp[Oper.looksAt,hg,ht])]
 have hget:dL (dp j).rd (σ.app oi.dst ab).obj=dL (dp j).rd σ.obj:=by
  funext k;simp only[dL];split
  .rename_i hkr;exact uT _ _ (λ p hp e=>hk p hp (e ▸ hkr))
  .rfl
 have hin:∀t,.tmp t∈oj.op.operands->t∈oj.looksAt al:=λt ht=>by simp only[Oper.looksAt];exact List.mem_append_left _ (List.mem_filterMap.2 ⟨.tmp t,by simpa using ht,rfl⟩)
 have hρ:jy P T j oj (dp j).cL (lL (σ.app oi.dst ab).env) (dL (dp j).rd σ.obj)=jy P T j oj (dp j).cL (lL σ.env) (dL (dp j).rd σ.obj):=by
  refine MO λx hx=>?_;cases x with
  |tmp t=>exact ra t (hin t hx)
  |_=>rfl
 have hnd:needs (σ.app oi.dst ab).env (σ.app oi.dst ab).ok oj.op=needs σ.env σ.ok oj.op:=adm λt ht=>⟨ra t (hin t ht),HO t (hin t ht)⟩;rw[hw,hget,hρ,hnd]
theorem ak5{σ:St}{di dj:J Tmp}{a b:Out×Option Bool}(hd:∀d,di=some d->dj≠some d)(hk:∀p∈a.1.upd,∀q∈b.1.upd,p.1≠q.1):(σ.app di a).app dj b=(σ.app dj b).app di a:=by
 have slot:∀{α:Type} (e:Nat->α) (x y:α),A8 (A8 e di x) dj y=A8 (A8 e dj y) di x:=λe x y=>by
  funext t;simp only[A8];by_cases h1:dj=some t
  .rw[aX h1,aS (λ e=>hd t e h1),aX h1]
  .rw[aS h1,aS h1]
 simp only[St.app,St.mk.injEq];refine⟨slot _ _ _,?_,slot _ _ _⟩;funext k;by_cases h1:∃p∈a.1.upd,p.1=k
 .obtain⟨p,hp,e⟩:=h1;rw[uT b.1.upd k (λ q hq e2=>hk p hp q hq (e.trans e2.symm))];exact D9 _ _ (uT b.1.upd k (λ q hq e2=>hk p hp q hq (e.trans e2.symm))).symm
 .have h2:∀p∈a.1.upd,p.1≠k:=λp hp e=>h1 ⟨p,hp,e⟩;rw[uT a.1.upd k h2];exact D9 _ _ (uT a.1.upd k h2)
theorem anx{i j:Nat}{oi oj:Oper}{ab:Out×Option Bool}{σ:St}{K:St->Prop}(hi:al[i]? =some oi)(hj:al[j]? =some oj)(hap:oi.apart al oj=true)(hfp:xD dp i j=true)
 (hy:opAt P T al dp i σ=some ab) (h:xz P T al dp j K (σ.app oi.dst ab)):
 xz P T al dp j (λ σ'=>opAt P T al dp i σ'=some ab/\K (σ'.app oi.dst ab)) σ:=by
 obtain⟨a1,a2,a3⟩:=Oper.apart_spec hap;simp only[xD,aL]at hfp;obtain⟨⟨f1,⟨f0,f2⟩,f2'⟩,f3⟩:=hfp;have hij:i≠j:=by intro e;subst e;rw[show Nat.beq i i=true from Nat.beq_refl i]at f0;cases f0
 have ki:=ZN hy;have no:∀(a:Nat)(l wr:U Nat)(k:Nat),(l.all λk=>!Hw a k&&!wr.contains k)=true->(Hw a k=true\/k∈wr)->k∈l->False:=by
  intro a l wr k h hk hl;have:=all_eq_true.1 h k hl;simp only[aL,Bool.not_eq_true']at this;rcases hk with hk |hk
  .rw[hk]at this;exact absurd this.1 (by simp)
  .have h2:=this.2;simp[hk]at h2
 obtain⟨o,Q3,g1,g2,g3,g4⟩:=h;rw[hj]at g1;cases g1;rw[adn hj a1 (λ p hp hr=>no _ _ _ _ f1 (ki p hp) hr)]at g2;have kj:=ZN g2;have both:∀k,(Hw i k=true\/k∈(dp i).wr)->(Hw j k=true\/k∈(dp j).wr)->False:=by
  intro k h1 h2;rcases h2 with h2 |h2
  .rcases h1 with h1 |h1
   .simp only[Hw,aL,beq_iff_eq]at h1 h2;exact hij (h1.2.symm.trans h2.2)
   .have:=all_eq_true.1 f2' k h1;rw[h2]at this;exact absurd this (by simp)
  .exact no _ _ _ _ f2 h1 h2
 refine⟨oj,Q3,hj,g2,g3,?_,?_⟩
 .rw[adn hi a3 (λ p hp hr=>no _ _ _ _ f3 (kj p hp) hr)];exact hy
 .rw[<- ak5 a2 (λ p hp q hq e=>both p.1 (ki p hp) (e ▸ kj q hq))];exact g4
theorem ado{i:Nat}:∀d∈Pv md al i,∃od,al[d]? =some od/\∃e∈od.after,Region.binds md e=true/\(e.on=i\/e.on∈Pv md al i):=by
 have main:∀(l:U Nat)(D0:U Nat),(∀ d∈D0,∃od,al[d]? =some od/\∃e∈od.after,Region.binds md e=true/\(e.on=i\/e.on∈D0))->
  ∀d∈l.foldl (λ D j=>match al[j]? with
   |some oj=>bif oj.after.any (λ e=>Region.binds md e&&(e.on==i || D.contains e.on))then j::D else D
   |none=>D) D0,∃od,al[d]? =some od/\∃e∈od.after,Region.binds md e=true/\(e.on=i\/e.on∈l.foldl (λ D j=>match al[j]? with
   |some oj=>bif oj.after.any (λ e=>Region.binds md e&&(e.on==i || D.contains e.on))then j::D else D
   |none=>D) D0):=by
  intro l
  induction l with
  |nil=>intro D0 h;exact h
  |cons j l ih=>
   intro D0 h;simp only[List.foldl_cons];refine ih _ ?_;cases hj:al[j]? with
   |none=>exact h
   |some oj=>
    simp only;cases hb:oj.after.any (λ e=>Region.binds md e&&(e.on==i || D0.contains e.on))with
    |false=>simp only[ak];exact h
    |true=>
     simp only[aj];intro d hd;rcases aO.1 hd with rfl |hd
     .obtain⟨e,he,hb'⟩:=Array.any_eq_true'.1 hb;simp only[aL,Bool.or_eq_true,beq_iff_eq,List.contains_iff_mem]at hb';exact⟨oj,hj,e,he,hb'.1,hb'.2.imp id λh=>eH _ h⟩
     .have⟨od,g1,e,g2,g3,g4⟩:=h d hd;exact⟨od,g1,e,g2,g3,g4.imp id λh=>eH _ h⟩
 exact main _ [] (λ d hd=>by simp at hd)
theorem Rv{i:Nat}{oi:Oper}{listed:Array Bool}(hi:al[i]? =some oi)(h:Pw md al dp listed i=true)(j:Nat)(oj:Oper)(hj:al[j]? =some oj)(hne:j≠i)(hun:listed.getD j true=false)
 (hno:∀e∈oj.after,Region.binds md e=true->e.on≠i):(oi.apart al oj=true/\xD dp i j=true)\/N4 md al listed i j=true:=by
 simp only[Pw,hi,all_eq_true,List.mem_range]at h;have h1:=h j (Array.getElem?_eq_some_iff.1 hj).1;simp only[hj,Bool.or_eq_true,beq_iff_eq,hne,false_or,hun,Bool.false_eq_true,aL]at h1;rcases h1 with (h1 |h1) |h1
 .obtain⟨e,he,hb⟩:=Array.any_eq_true'.1 h1;simp only[aL,beq_iff_eq]at hb;exact absurd hb.2 (hno e he hb.1)
 .exact .inl h1
 .exact .inr h1
theorem Vs{i:Nat}{oi:Oper}{ab:Out×Option Bool}(D:U Nat)(hi:al[i]? =some oi)(hD:∀d∈D,∃od,al[d]? =some od/\∃e∈od.after,Region.binds md e=true/\(e.on=i\/e.on∈D)):
 ∀(fuel:Nat) (listed:Array Bool) (σ:St),(∀ d∈D,listed.getD d true=false)->
  (∀ j oj,al[j]? =some oj->j≠i->listed.getD j true=false->j∉D->(∀ e∈oj.after,Region.binds md e=true->e.on≠i)->oi.apart al oj=true/\xD dp i j=true)->
  i∈Region.ready md al listed->opAt P T al dp i σ=some ab->ab.1.ob->
  D4 P T al dp md Q fuel (listed.setIfInBounds i true) (σ.app oi.dst ab)->D4 P T al dp md Q (fuel+1) listed σ:=by
 intro fuel
 induction fuel with
 |zero=>
  intro listed σ _ _ hr hy cV H;refine⟨λ h=>(by rw[h]at hr;cases hr),λj hj=>?_⟩;by_cases hji:j=i
  .subst hji;exact⟨oi,ab,hi,hy,cV,H⟩
  .have:=ready_mono hj hji;rw[H.1]at this;cases this
 |succ fuel ih=>
  intro listed σ hDu hfree hr hy cV H;refine⟨λ h=>(by rw[h]at hr;cases hr),λj hj=>?_⟩;by_cases hji:j=i
  .subst hji;exact⟨oi,ab,hi,hy,cV,H⟩
  .have h1:=H.2 j (ready_mono hj hji);obtain⟨hjun,oj,hoj,hall⟩:=mem_ready.1 hj;have hnl:∀k,listed.getD k true=false->∀e∈oj.after,Region.binds md e=true->e.on≠k:=λk h0 e he hb heq=>by
    have h1:=hall e he hb;rw[heq]at h1;rcases Nat.lt_or_ge k listed.size with h' |h'
    .simp[h']at h0 h1;rw[h0]at h1;cases h1
    .simp[Array.getElem?_eq_none h']at h1
   have hnot:∀e∈oj.after,Region.binds md e=true->e.on≠i:=hnl i (mem_ready.1 hr).1;have Mb:j∉D:=λhm=>by
    have⟨od,g1,e,g2,g3,g4⟩:=hD j hm;rw[hoj]at g1;cases g1;rcases g4 with g4 |g4
    .exact hnot e g2 g3 g4
    .exact hnl _ (hDu _ g4) e g2 g3 rfl
   have⟨hap,hfp⟩:=hfree j oj hoj hji hjun Mb hnot;have h2:=anx hi hoj hap hfp hy h1
   have hfree':∀k ok,al[k]? =some ok->k≠i->(listed.setIfInBounds j true).getD k true=false->k∉D->
    (∀ e∈ok.after,Region.binds md e=true->e.on≠i)->oi.apart al ok=true/\xD dp i k=true:=λk ok hk hki hun hkD hno=>by
    refine hfree k ok hk hki ?_ hkD hno;by_cases hjk:j=k
    .subst hjk;exact hjun
    .rw[getD_set_ne true hjk]at hun;exact hun
   have TO:∀d∈D,(listed.setIfInBounds j true).getD d true=false:=λd hd=>by
    have hne:j≠d:=λe=>Mb (by rw[e];exact hd);rw[getD_set_ne true hne];exact hDu d hd
   refine ak4 (λ σ' h3=>ih (listed.setIfInBounds j true) σ' TO hfree' (ready_mono hr (Ne.symm hji)) h3.1 cV ?_) h2;rw[Array.setIfInBounds_comm _ _ hji];exact h3.2
theorem adp:∀(n k:Nat) (listed:Array Bool) (σ:St),lexFrom' md al dp n k listed=true->SB P T al dp Q ((List.range n).map (k+ ·)) σ->D4 P T al dp md Q n listed σ
 | 0,k,listed,σ,hB,h=>⟨by simpa[lexFrom']using hB,by simpa[SB]using h⟩
 |n+1,k,listed,σ,hB,h=>by
  simp only[lexFrom',aL]at hB;obtain⟨⟨hr,hfp⟩,hB'⟩:=hB;rw[List.range_succ_eq_map,aF,map_map]at h;simp only[SB,Nat.add_zero]at h;obtain⟨o,ab,h1,h2,h3,h4⟩:=h;have fin:D4 P T al dp md Q n (listed.setIfInBounds k true) (σ.app o.dst ab)->D4 P T al dp md Q (n+1) listed σ:=by
   intro H;cases hd:(Pv md al k).all λd=>!listed.getD d true with
   |true=>
    refine Vs (Pv md al k) h1 ado n listed σ (λ d hd'=>by simpa using all_eq_true.1 hd d hd') (λ j oj hj hne hun Mb hno=>?_) (by simpa using hr) h2 h3 H;rcases Rv h1 hfp j oj hj hne hun hno with h |h
    .exact h
    .simp only[N4,aL,List.contains_iff_mem]at h;exact absurd h.1 Mb
   |false=>
    refine Vs [] h1 (λ d hd'=>by simp at hd') n listed σ (λ d hd'=>by simp at hd') (λ j oj hj hne hun _ hno=>?_) (by simpa using hr) h2 h3 H;rcases Rv h1 hfp j oj hj hne hun hno with h |h
    .exact h
    .simp only[N4,aL]at h;rw[h.2]at hd;cases hd
  refine fin ?_;refine adp n (k+1) _ _ hB' ?_;have e:(λ x=>k+x)∘Nat.succ=λx=>k+1+x:=by funext x;simp only[Function.comp];omega
  rw[e]at h4;exact h4
end
def fg(P:Program)(β:Nat->J cT)(w:World)(I:Nat->Prop)(x:AV)(ok:J Bool)(v:Value):Prop:=
 match ok with
 |none=>VR P β w I x v
 |some b=>(b=true->VR P β w I x v)/\(b=false->v=undef)
theorem fg.mono{P:Program}{β β':Nat->J cT}{w w':World}{I I':Nat->Prop}(hb:∀k B,β k=some B->β' k=some B)(hs:Same I w w')(hi:∀b,I b->I' b){x:AV}{ok:J Bool}{v:Value}(h:fg P β w I x ok v):fg P β' w' I' x ok v:=by
 cases ok with
 |none=>exact VR.mono hb hs hi _ _ h
 |some b=>exact⟨λ hh=>VR.mono hb hs hi _ _ (h.1 hh),h.2⟩
structure Rel(P:Program)(w0:World)(O0:ky)(N:Nat)(β:Nat->Option cT)(I:Nat->Prop)(σ:St)(a:Act)(w:World):Prop where
 defers:a.defers=[]
 size:a.tmps.size=N
 env:∀t,fg P β w I (σ.env t) (σ.ok t) (a.tmps.getD t undef)
 mem:Mem P w0 O0 β I σ.obj w
section
variable {P:Program} {T:eo} {w0:World} {O0:ky} {N:Nat} {β:Nat->Option cT} {I:Nat->Prop} {σ:St} {a:Act} {w:World} {al:Array Oper} {dp:Nat->m6}
def Fr(un:Nat->Prop)(β:Nat->J cT):Prop:=∀i k,un i->jj (cR i) k->β k=none
theorem abj(hgv:j9 w I){x:Operand}(h:∀t,x= .tmp t->VR P β w I (σ.env t) (a.tmps.getD t undef)):VR P β w I (lL σ.env x) (a.eval x):=by
 cases x with
 |tmp t=>exact h t rfl
 |const v=>exact VR.cv
 |global g=>
  simp only[lL];split
  .rename_i row hg;simp only[VR,Act.eval];exact⟨g,0,rfl,(hgv.1 g row hg).1,(hgv.1 g row hg).2⟩
  .simp[VR]
 |func f=>simp only[lL,VR,Act.eval];exact⟨#[],#[],rfl,by simp[bj],by simp[bj]⟩
theorem zX(hr:Rel P w0 O0 N β I σ a w){x:Operand}(h:∀p∈xw σ.ok x,p):VR P β w I (lL σ.env x) (a.eval x):=by
 refine abj hr.mem.vars λt hx=>?_;subst hx;have h1:=hr.env t;simp only[xw]at h;cases hk:σ.ok t with
 |none=>rw[hk]at h1;exact h1
 |some b=>rw[hk]at h1 h;exact h1.1 (h _ (by simp))
theorem af6(hT:fe P T){i:Nat}{o:Oper}{cL:ka}{rd:U Nat}{ab:Out}(hr:Rel P w0 O0 N β I σ a w)(hn:∀k,jj (cR i) k->β k=none)(ha:jy P T i o cL (lL σ.env) (dL rd σ.obj)=some ab)
 (cV:ab.ob) (hnd:∀p∈needs σ.env σ.ok o.op,p):so P w0 O0 β I σ.obj w i ab ((execOp a.eval o).run P w)\/zW P w0 O0 β I σ.obj w i ab ((execOp a.eval o).run P w):=by
 have hg:∀k ob,dL rd σ.obj k=some ob->σ.obj k=some ob:=λk ob hk=>by
  simp only[dL]at hk;split at hk
  .exact hk
  .cases hk
 by_cases hp:∃c x y,o.op= .pick c x y
 .obtain⟨c,x,y,he⟩:=hp;obtain⟨dst,op,ty,ao,after,guard⟩:=o;simp only at he;subst he;have ha:qg T i ⟨dst,.pick c x y,ty,ao,after,guard⟩ cL (lL σ.env) (dL rd σ.obj)=some ab:=by
   unfold jy at ha;split at ha
   .cases ha
   .cases ha
   .exact ha
  simp only[qg]at ha;simp only[needs]at hnd;split at ha
  .rename_i t hc;rw[hc]at hnd;simp only[pv,aA]at ha;subst ha;have h1:=zX hr (x:=c) (λ p hp=>hnd p (by simp[hp]));rw[hc]at h1;simp only[VR,TR]at h1;refine .inl ⟨if t then a.eval x else a.eval y,w,β,I,.inl ?_,Step.refl ..,hr.mem,?_⟩
   .simp only[execOp,h1.1,asBool];simp
   .rw[U1];cases t
    .exact zX hr λp hp=>hnd (false=false->p) (by simp only[aZ,mem_map];exact .inr (.inr ⟨p,hp,rfl⟩)) rfl
    .exact zX hr λp hp=>hnd (true=true->p) (by simp only[aZ,mem_map];exact .inr (.inl ⟨p,hp,rfl⟩)) rfl
  .cases ha
 .have hnd':∀x∈o.op.operands,∀p∈xw σ.ok x,p:=λx hx p hp'=>hnd p (by
   unfold needs;split
   .rename_i c x y he;exact absurd ⟨c,x,y,he⟩ hp
   .exact mem_flatMap.2 ⟨x,by simpa using hx,hp'⟩)
  have hρ:∀x,VR P β w I ((λ x=>open Classical in if x∈o.op.operands then lL σ.env x else .undef) x) (a.eval x):=λx=>by
   by_cases hx:x∈o.op.operands
   .simp only[hx,if_true];exact zX hr (hnd' x hx)
   .simp only[hx,if_false,VR]
  rw[MO (ρ':=λx=>open Classical in if x∈o.op.operands then lL σ.env x else .undef) (λ x hx=>by simp only[hx,if_true])]at ha;generalize (λ x=>open Classical in if x∈o.op.operands then lL σ.env x else AV.undef)=ρ at ha hρ;unfold jy at ha;split at ha
  .exact .inl (YK hT hr.mem (hn _ (.inl rfl)) hg hρ ha cV)
  .exact .inl (abb hT hr.mem (hn _ (.inl rfl)) hg hρ ha cV)
  .split at ha
   .rename_i f args cX heq;obtain⟨dst,op,ty,ao,after,guard⟩:=o;simp only at heq;subst heq;exact .inr (Vr hr.mem hn hg ha cV (hρ f) (by rw[Array.toList_map];exact bj.map hρ _) rfl rfl)
   .exact .inl (Rm hT hr.mem (hn _ (.inl rfl)) hg hρ ha cV)
theorem aji(hr:Rel P w0 O0 N β I σ a w){o:Oper}{b:Bool}(hb:want al o σ.env σ.ok=some b):Region.wanted o (yielded al a.tmps)=b:=by
 unfold want at hb;unfold Region.wanted;cases hg:o.guard with
 |none=>simp only[hg,aA]at hb ⊢;exact hb
 |some gw=>
  obtain⟨g,bw⟩:=gw;simp only[hg]at hb ⊢;unfold yielded;cases ht:(al[g]?).bind (·.dst)with
  |none=>simp[ht]at hb
  |some t=>
   simp only[ht]at hb;have he:=hr.env t;have val:∀v:Bool,a.tmps.getD t undef= .bool v->a.tmps[t]? =some (.bool v):=λv hv=>by
    cases hh:a.tmps[t]? with
    |none=>simp[hh,undef]at hv
    |some u=>simp[hh]at hv;rw[hv]
   split at hb
   .rename_i v e1 e2;rw[e1,e2]at he;simp only[fg,VR,TR]at he;cases hb;simp only[af,val v he.1];cases v<;>cases bw<;>rfl
   .rename_i v q e1 e2;rw[e1,e2]at he;simp only[fg,VR,TR]at he;cases hb;cases q with
    |true=>
     simp only[af,val v (he.1 rfl).1];cases v<;>cases bw<;>rfl
    |false=>
     have h0:=he.2 rfl;simp only[af];cases hh:a.tmps[t]? with
     |none=>simp
     |some u=>simp[hh,undef]at h0;subst h0;simp
   .rename_i e1 e2;rw[e1,e2]at he;cases hb;have h0:=he.2 rfl;simp only[af];cases hh:a.tmps[t]? with
    |none=>simp
    |some u=>simp[hh,undef]at h0;subst h0;simp
   .cases hb
theorem MP:∀(l:U Prop),jk l->∀p∈l,p
 |[],_,_,hp=>by simp at hp
 |[q],h,p,hp=>by rw[aP]at hp;rw[hp];exact h
 |q::r::l,h,p,hp=>by
  rcases aO.1 hp with e |hp
  .rw[e];exact h.1
  .exact MP (r::l) h.2 p hp
theorem Rw(hT:fe P T){i:Nat}{K:St->Prop}{Q:Exit->Act->World->Prop}{K':Act->World->Prop}{un:Nat->Prop}(hd:∀(j:Nat)(o:Oper)(d:Tmp),al[j]? =some o->o.dst=some d->d<N)
 (hr:Rel P w0 O0 N β I σ a w) (hf:Fr un β) (hi:un i)
 (hK:∀ σ' a' w' β' I',Rel P w0 O0 N β' I' σ' a' w'->Fr (λ j=>un j/\j≠i) β'->K σ'->K' a' w') (h:xz P T al dp i K σ):wpOp P al Q i K' a w:=by
 obtain⟨o,⟨ab,Q4⟩,h1,h2,h3,h4⟩:=h;have put:∀(v':Value) (w':World) (β':Nat->J cT) (I':Nat->Prop),Step β I w (cR i) β' I' w'->Mem P w0 O0 β' I' (dm σ.obj ab.upd) w'->fg P β' w' I' ab.v Q4 v'->K' (a.put o.dst v') w':=by
  intro v' w' β' I' k1 k2 k3;refine hK (σ.app o.dst (ab,Q4)) _ w' β' I' ⟨?_,?_,?_,k2⟩ ?_ h4
  .cases hdst:o.dst<;>simp[Act.put,hr.defers]
  .cases hdst:o.dst<;>simp[Act.put,hr.size]
  .intro t;have hold:=fg.mono k1.ext k1.same k1.inc (hr.env t);simp only[St.app,A8];cases hdst:o.dst with
   |none=>simpa[Act.put]using hold
   |some d=>
    simp only[Act.put,aA];by_cases hdt:d=t
    .subst hdt;rw[aX rfl,aX rfl];have hlt:d<a.tmps.size:=Nat.lt_of_lt_of_eq (hd i o d h1 hdst) hr.size.symm;have e:(a.tmps.setIfInBounds d v').getD d undef=v':=(by simp[hlt]);rw[e];exact k3
    .rw[aS hdt,aS hdt];simpa[Array.getElem?_setIfInBounds_ne hdt]using hold
  .intro j k hj hk;rw[k1.other k (by have:=hj.2;simp only[jj,cR]at hk ⊢;omega)];exact hf j k hj.1 hk
 unfold opAt at h2;simp only[h1,af]at h2;unfold wpOp;simp only[h1];have hn:=λk=>hf i k hi;cases hw:want al o σ.env σ.ok with
 |none=>simp[hw]at h2
 |some g=>
  simp only[hw,af]at h2;rw[aji hr hw]
  have run:∀(out':Out),jy P T i o (dp i).cL (lL σ.env) (dL (dp i).rd σ.obj)=some out'->(∀ p∈needs σ.env σ.ok o.op++out'.obs,p)->out'.v=ab.v->(out'.upd=ab.upd)->(∀ β' w' I' v',VR P β' w' I' ab.v v'->fg P β' w' I' ab.v Q4 v')->
   o.wp P a w K' Q:=by
   intro out' ha cV e1 e2 sg;have TX:=af6 hT hr hn ha (qW _ λp hp=>cV p (by simp[hp])) (λ p hp=>cV p (by simp[hp]));unfold Oper.wp;rcases TX with ⟨v',w',β',I',hrun,k1,k2,k3⟩ |⟨F,args,hrun,B6⟩
   .rw[e1]at k3;rw[e2]at k2;rcases hrun with hrun |⟨hrun,rfl⟩
    .rw[hrun];exact put v' w' β' I' k1 k2 (sg _ _ _ _ k3)
    .rw[hrun];exact put _ w' β' I' k1 k2 (sg _ _ _ _ k3)
   .rw[hrun];refine B6.mono ?_;rintro e w' ⟨v',β',I',rfl,k1,k2,k3⟩;rw[e1]at k3;rw[e2]at k2;exact put v' w' β' I' k1 k2 (sg _ _ _ _ k3)
  split at h2
  .cases ha:jy P T i o (dp i).cL (lL σ.env) (dL (dp i).rd σ.obj)with
   |none=>simp[ha]at h2
   |some out'=>
    simp only[ha,af]at h2;split at h2
    .rename_i hem;simp only[aA,Prod.mk.injEq]at h2;obtain⟨rfl,rfl⟩:=h2;have B4:out'.upd=[]:=(by simpa using hem);have h3:=MP _ h3;cases g with
     |true=>
      simp only[if_true];refine .inl (run out' ha (λ p hp=>h3 (true=true->p) (mem_map.2 ⟨p,hp,rfl⟩) rfl) rfl B4 λ_ _ _ _ hv=>⟨λ _=>hv,λh=>by cases h⟩)
     |false=>
      simp only[Bool.false_eq_true,if_false];exact put _ w β I (Step.refl ..) hr.mem ⟨λ h=>(by cases h),λ_=>rfl⟩
    .cases h2
  .split at h2
   .cases ha:jy P T i o (dp i).cL (lL σ.env) (dL (dp i).rd σ.obj)with
    |none=>simp[ha]at h2
    |some out'=>
     simp only[ha,af]at h2;split at h2
     .simp only[aA,Prod.mk.injEq]at h2;obtain⟨rfl,rfl⟩:=h2;simp only[if_true];exact .inl (run out' ha (MP _ h3) rfl rfl λ_ _ _ _ hv=>hv)
     .cases h2
   .simp only[aA,Prod.mk.injEq]at h2;obtain⟨rfl,rfl⟩:=h2;simp only[Bool.false_eq_true,if_false];exact put _ w β I (Step.refl ..) hr.mem ⟨λ h=>(by cases h),λ_=>rfl⟩
theorem KV(hT:fe P T){md:Region.Mode}{Q:St->Prop}{Q':Exit->Act->World->Prop}(hd:∀(j:Nat)(o:Oper)(d:Tmp),al[j]? =some o->o.dst=some d->d<N)
 (hQ:∀ σ a w β I,Rel P w0 O0 N β I σ a w->Q σ->Q' .normal a w):∀(fuel:Nat) (listed:Array Bool) (σ:St) (a:Act) (w:World) (β:Nat->J cT) (I:Nat->Prop),Rel P w0 O0 N β I σ a w->
  Fr (λ j=>listed.getD j true=false) β->D4 P T al dp md Q fuel listed σ->wpAny P md al Q' fuel listed a w
 | 0,_,_,_,_,_,_,hr,_,h=>⟨h.1,hQ _ _ _ _ _ hr h.2⟩
 |fuel+1,listed,σ,a,w,β,I,hr,hf,h=>by
  refine⟨λ h0=>hQ _ _ _ _ _ hr (h.1 h0),λi hi=>?_⟩;have hun:listed.getD i true=false:=(mem_ready.1 hi).1;refine Rw hT hd hr hf hun (λ σ' a' w' β' I' hr' hf' hK=>?_) (h.2 i hi);refine KV hT hd hQ fuel _ σ' a' w' β' I' hr' (λ j k hj hk=>hf' j k ?_ hk) hK;have hj:(listed.setIfInBounds i true).getD j true=false:=hj;by_cases hji:i=j
  .subst hji;rcases Nat.lt_or_ge i listed.size with h1 |h1
   .simp[h1]at hj
   .simp[Array.getElem?_eq_none h1]at hun
  .rw[getD_set_ne true hji]at hj;exact⟨hj,λe=>hji e.symm⟩
theorem KW(hT:fe P T){Q:St->Prop}{Q':Exit->Act->World->Prop}(hd:∀(j:Nat)(o:Oper)(d:Tmp),al[j]? =some o->o.dst=some d->d<N)
 (hQ:∀ σ a w β I,Rel P w0 O0 N β I σ a w->Q σ->Q' .normal a w):∀(l:U Nat) (σ:St) (a:Act) (w:World) (β:Nat->J cT) (I:Nat->Prop),l.Nodup->Rel P w0 O0 N β I σ a w->
  Fr (λ j=>j∈l) β->SB P T al dp Q l σ->wpOps P al Q' l a w
 |[],_,_,_,_,_,_,hr,_,h=>hQ _ _ _ _ _ hr h
 |i::l,σ,a,w,β,I,hn,hr,hf,h=>by
  rw[wpOps_cons];refine Rw hT hd hr hf (by simp) (λ σ' a' w' β' I' hr' hf' hK=>?_) h;refine KW hT hd hQ l σ' a' w' β' I' (List.nodup_cons.1 hn).2 hr' (λ j k hj hk=>hf' j k ⟨by simp[hj],λe=>?_⟩ hk) hK;subst e;exact(List.nodup_cons.1 hn).1 hj
def PC(N:Nat)(al:Array Oper):Bool:=al.all λo=>match o.dst with |some d=>decide (d<N) |none=>true
theorem Rx(h:PC N al=true)(j:Nat)(o:Oper)(d:Tmp)(hj:al[j]? =some o)(hd:o.dst=some d):d<N:=by
 have:=Array.all_eq_true_iff_forall_mem.1 h o (Array.mem_of_getElem? hj);simpa[hd]using this
structure tG(σ:St):Prop where
 env:∀t k,k∈refs (σ.env t)->k<1000000
 obj:∀k o,σ.obj k=some o->k<1000000/\∀r∈o.rows,∀x∈r,∀j∈refs x,j<1000000
mutual
theorem VR.restrict{β':Nat->Option cT}(h:∀k,k<1000000->β' k=β k):∀(x:AV)(v:Value),(∀ k∈refs x,k<1000000)->VR P β w I x v->VR P β' w I x v
 | .t _,_,_,hv=>by simpa[VR]using hv
 | .agg cs,_,hk,hv=>by
  simp only[VR]at hv ⊢;obtain⟨vs,h1,h2⟩:=hv;exact⟨vs,h1,bj.restrict h cs _ (by simpa[refs]using hk) h2⟩
 | .eV cs,_,hk,hv=>by
  simp only[VR]at hv ⊢;obtain⟨vs,h1,h2⟩:=hv;exact⟨vs,h1,bj.restrict h cs _ (by simpa[refs]using hk) h2⟩
 | .own k _ _,_,hk,hv=>by simp only[VR,h k (hk k (by simp[refs]))]at hv ⊢;exact hv
 | .ptr k _ _,_,hk,hv=>by simp only[VR,h k (hk k (by simp[refs]))]at hv ⊢;exact hv
 | .eM _ _,_,_,hv=>by simpa[VR]using hv
 | .fn f first caps,_,hk,hv=>by
  simp only[VR]at hv ⊢;obtain⟨fs,cs,h1,h2,h3⟩:=hv;exact⟨fs,cs,h1,bj.restrict h first _ (λ k hk'=>hk k (by simp[refs,hk'])) h2,bj.restrict h caps _ (λ k hk'=>hk k (by simp[refs,hk'])) h3⟩
 | .ek _,_,_,hv=>by simpa[VR]using hv
 | .mp k,_,hk,hv=>by simp only[VR,h k (hk k (by simp[refs]))]at hv ⊢;exact hv
 | .oz k _,_,hk,hv=>by simp only[VR,h k (hk k (by simp[refs]))]at hv ⊢;exact hv
 | .da,_,_,hv=>by simpa[VR]using hv
 | .ub,_,_,hv=>by simpa[VR]using hv
 | .undef,_,_,_=>by simp[VR]
theorem bj.restrict{β':Nat->Option cT}(h:∀k,k<1000000->β' k=β k):∀(xs:List AV)(vs:List Value),(∀ k∈eX xs,k<1000000)->bj P β w I xs vs->bj P β' w I xs vs
 |[],[],_,_=>by simp[bj]
 |x::xs,v::vs,hk,hv=>by
  simp only[bj]at hv ⊢;exact⟨VR.restrict h x v (λ k hk'=>hk k (by simp[eX,hk'])) hv.1,bj.restrict h xs vs (λ k hk'=>hk k (by simp[eX,hk'])) hv.2⟩
 |[],_::_,_,hv=>by simp[bj]at hv
 |_::_,[],_,hv=>by simp[bj]at hv
end
theorem ZO:∀{xs:U AV}{k:Nat},k∈eX xs->∃x∈xs,k∈refs x
 |[],_,h=>by simp[eX]at h
 |x::xs,k,h=>by
  simp only[eX,aZ]at h;rcases h with h |h
  .exact⟨x,by simp,h⟩
  .have⟨y,h1,h2⟩:=ZO h;exact⟨y,by simp[h1],h2⟩
theorem Rel.restrict(ho:tG σ)(hr:Rel P w0 O0 N β I σ a w):Rel P w0 O0 N (λ k=>if k<1000000 then β k else none) I σ a w:=by
 have hb:∀k,k<1000000->(λ k=>if k<1000000 then β k else none) k=β k:=λk hk=>by simp[hk]
 have sg:∀t,fg P (λ k=>if k<1000000 then β k else none) w I (σ.env t) (σ.ok t) (a.tmps.getD t undef):=λt=>by
  have h1:=hr.env t;cases hk:σ.ok t with
  |none=>rw[hk]at h1;exact VR.restrict hb _ _ (ho.env t) h1
  |some b=>rw[hk]at h1;exact⟨λ h=>VR.restrict hb _ _ (ho.env t) (h1.1 h),h1.2⟩
 refine⟨hr.defers,hr.size,sg,?_⟩;have hm:=hr.mem;constructor
 .intro k o hk;have⟨B,hB,hO⟩:=hm.cP k o hk;have⟨h1,h2⟩:=ho.obj k o hk;refine⟨B,by simp only[h1,if_true];exact hB,?_⟩;cases B with
  |none=>exact hO
  | «at» b s n=>
   obtain⟨g1,c,e,g2,g3,g4⟩:=hO;refine⟨g1,c,e,g2,g3,?_⟩;rw[ow]at g4 ⊢;intro i r hir;have⟨q1,q2⟩:=g4 i r hir;refine⟨q1,?_⟩;rw[jo]at q2 ⊢;intro j x hx;have⟨v,p1,p2,p3⟩:=q2 j x hx;exact⟨v,p1,VR.restrict hb _ _ (h2 r (dw hir) x (dw hx)) p2,p3⟩
  |mp b=>
   obtain⟨es,cl,g1,gl,g2,g3⟩:=hO;refine⟨es,cl,g1,gl,λe=>cH.tell rfl (λ j r q' a b vs hv=>?_) (g2 e),g3⟩;rw[a]at b;cases b;exact bj.restrict hb _ _ (λ k hk=>by
    have⟨x,hx,hk⟩:=ZO hk;exact h2 r (dw a) x hx k hk) hv
 .intro k k' o o' B B' b h1 h2 h3 h4;simp only[(ho.obj k o h1).1,(ho.obj k' o' h2).1,if_true]at h3 h4;exact hm.gS k k' o o' B B' b h1 h2 h3 h4
 .intro k o B b h1 h2;simp only[(ho.obj k o h1).1,if_true]at h2;exact hm.ownB k o B b h1 h2
 .exact hm.lt
 .exact hm.up
 .exact hm.keep
 .exact hm.le
 .exact hm.os
 .exact hm.tape
 .exact hm.output
 .intro j B hj;have:=O0.lt j B hj;show(if j<1000000 then β j else none)=some B;rw[aX (by omega)];exact hm.anch j B hj
 .exact hm.vars
theorem Rel.drew(hr:Rel P w0 O0 N β I σ a w):Rel P w0 O0 N β I σ a w.drew:=
 ⟨hr.defers,hr.size,λt=>fg.mono (w:=w) (w':=w.drew) (λ _ _ h=>h) (λ _ _=>rfl) (λ _ h=>h) (hr.env t),hr.mem.drew⟩
theorem ajj(hT:fe P T){id:Nat}{Q:St->Prop}(hd:PC N al=true)(ho:tG σ)(h:SB P T al dp Q (List.range al.size) σ)(hr:Rel P w0 O0 N β I σ a w):
 (Code.region id al false).wp P (λ e a' w'=>∃ β' I' σ',Rel P w0 O0 N β' I' σ' a' w'/\e= .normal/\Q σ') a w:=by
 refine wp_region (KW hT (Rx hd) (Q:=Q) (λ σ a w β I hr hq=>⟨β,I,σ,hr,rfl,hq⟩) _ σ a w _ I List.nodup_range (hr.restrict ho) (λ j k _ hk=>?_) h);exact aS (by simp only[jj,cR]at hk;omega)
theorem Vt(hT:fe P T)(hm:P.follows .mixedOrders=true){id:Nat}{Q:St->Prop}(hd:PC N al=true)(hB:N3 al dp=true)(ho:tG σ)(h:SB P T al dp Q (List.range al.size) σ)(hr:Rel P w0 O0 N β I σ a w):
 (Code.region id al true).wp P (λ e a' w'=>∃ β' I' σ',Rel P w0 O0 N β' I' σ' a' w'/\e= .normal/\Q σ') a w:=by
 refine wp_region_any hm (KV hT (md:= .any) (dp:=dp) (Rx hd) (Q:=Q) (λ σ a w β I hr hq=>⟨β,I,σ,hr,rfl,hq⟩) _ _ σ a _ _ I (hr.restrict ho).drew (λ j k _ hk=>?_) ?_)
 .exact aS (by simp only[jj,cR]at hk;omega)
 .refine adp al.size 0 _ σ hB ?_;have e:(List.range al.size).map (λ x=>0+x)=List.range al.size:=by simp
  rw[e];exact h
end
def Ev(P:Program)(N:Nat)(c:Code)(Q:Exit->St->Prop)(σ:St):Prop:=
 ∀(w0:World) (O0:ky) (β:Nat->J cT) (I:Nat->Prop) (a:Act) (w:World),Rel P w0 O0 N β I σ a w->tG σ->
  c.wp P (λ e a' w'=>∃ β' I' σ',Rel P w0 O0 N β' I' σ' a' w'/\tG σ'/\Q e σ') a w
def aoY(K:St->Prop)(Q:Exit->St->Prop):Exit->St->Prop
 | .normal,σ=>K σ
 |e,σ=>Q e σ
def af7(id:Nat)(Q:Exit->St->Prop):Exit->St->Prop
 | .exit j,σ=>if j=id then Q .normal σ else Q (.exit j) σ
 |e,σ=>Q e σ
theorem ZP{P:Program}{c:Code}{Q:Exit->Act->World->Prop}(J:Nat->Act->World->Prop)(h0:∀a w,¬J 0 a w)(round:∀n a w,J (n+1) a w->c.wp P (Exit.then (J n) Q) a w)(n:Nat)(a:Act)(w:World)(h:J n a w):
 (Code.loop c).wp P Q a w:=by
 intro b k cs;have key:∀n a w,J n a w->∃e a' w',Q e a' w'/\Arrives P (lone (b.at a (.code c:: .inLoop c::k)) cs w) b k cs e a' w':=by
  intro n
  induction n with
  |zero=>intro a w h;exact(h0 a w h).elim
  |succ n ih=>
   intro a w hI;have⟨e,a₁,w₁,hq,harr⟩:=round n a w hI b (.inLoop c::k) cs;cases e with
   |normal=>
    have⟨e₂,a₂,w₂,hq₂,harr₂⟩:=ih a₁ w₁ hq;exact⟨e₂,a₂,w₂,hq₂,.of_steps (Steps.trans harr (.one step_inLoop)) harr₂⟩
   |exit id=>exact⟨_,a₁,w₁,hq,.pass (x:= .inLoop c) rfl (λ _ _=> .inl (by simp)) harr⟩
   |goto l=>exact⟨_,a₁,w₁,hq,.pass (x:= .inLoop c) rfl (λ _ _=> .inl (by simp)) harr⟩
   |ret=>exact⟨_,a₁,w₁,hq,.pass (x:= .inLoop c) rfl (λ _ _=> .inl (by simp)) harr⟩
   |panic ch=>exact⟨_,a₁,w₁,hq,.pass (x:= .inLoop c) rfl (λ _ _=> .inl (by simp)) harr⟩
   |outgrown=>exact⟨_,a₁,w₁,hq,.pass (x:= .inLoop c) rfl (λ _ _=> .inl (by simp)) harr⟩
 have⟨e,a',w',hq,harr⟩:=key n a w h;exact⟨e,a',w',hq,.of_steps (.one step_loop) harr⟩
section
variable {P:Program} {N:Nat} {Q:Exit->St->Prop} {σ:St}
theorem Ev.mono{c:Code}{Q':Exit->St->Prop}(h:Ev P N c Q σ)(hq:∀e σ,Q e σ->Q' e σ):Ev P N c Q' σ:=
 λw0 O0 β I a w hr ho=>wp_mono (h w0 O0 β I a w hr ho) λ_ _ _ ⟨β',I',σ',h1,h2,h3⟩=>⟨β',I',σ',h1,h2,hq _ _ h3⟩
theorem anz(h:Q .normal σ):Ev P N .skip Q σ:=λ_ _ β I _ _ hr ho=>wp_skip ⟨β,I,σ,hr,ho,h⟩
theorem anA{id:Nat}(h:Q (.exit id) σ):Ev P N (.exit id) Q σ:=λ_ _ β I _ _ hr ho=>wp_exit ⟨β,I,σ,hr,ho,h⟩
theorem apb(h:Q .ret σ):Ev P N .ret Q σ:=λ_ _ β I _ _ hr ho=>wp_ret ⟨β,I,σ,hr,ho,h⟩
theorem ak6{l:Nat}(h:Q .normal σ):Ev P N (.label l) Q σ:=λ_ _ β I _ _ hr ho=>wp_label ⟨β,I,σ,hr,ho,h⟩
theorem apc{x y:Code}(h:Ev P N x (aoY (Ev P N y Q) Q) σ):Ev P N (.seq x y) Q σ:=by
 intro w0 O0 β I a w hr ho;refine wp_seq (wp_mono (h w0 O0 β I a w hr ho) ?_);rintro e a' w' ⟨β',I',σ',h1,h2,h3⟩;cases e<;>first |exact h3 w0 O0 β' I' a' w' h1 h2 |exact⟨β',I',σ',h1,h2,h3⟩
theorem anB{c:Operand}{x y:Code}(b:Bool)(hk:∀t,c= .tmp t->σ.ok t=none)(hc:lL σ.env c= .t (.sc (.bool b)))(h:Ev P N (bif b then x else y) Q σ):Ev P N (.cond c x y) Q σ:=by
 intro w0 O0 β I a w hr ho;have h1:=abj (P:=P) (β:=β) (w:=w) (I:=I) (σ:=σ) (a:=a) (x:=c) hr.mem.vars (λ t ht=>by
  have h1:=hr.env t;rw[hk t ht]at h1;exact h1)
 rw[hc]at h1;simp only[VR,TR]at h1;refine wp_cond (t:=b) h1.1 ?_;cases b<;>exact h w0 O0 β I a w hr ho
theorem af8{c:Operand}{x y:Code}(hk:∀t,c= .tmp t->σ.ok t=none)(hc:lL σ.env c= .ub)(h1:Ev P N x Q σ)(h2:Ev P N y Q σ):Ev P N (.cond c x y) Q σ:=by
 intro w0 O0 β I a w hr ho;have h3:=abj (P:=P) (β:=β) (w:=w) (I:=I) (σ:=σ) (a:=a) (x:=c) hr.mem.vars (λ t ht=>by
  have h1:=hr.env t;rw[hk t ht]at h1;exact h1)
 rw[hc]at h3;simp only[VR]at h3;obtain⟨b,hb⟩:=h3;refine wp_cond (t:=b) hb ?_;cases b
 .exact h2 w0 O0 β I a w hr ho
 .exact h1 w0 O0 β I a w hr ho
theorem ak7{id:Nat}{c:Code}(h:Ev P N c (af7 id Q) σ):Ev P N (.block id c) Q σ:=by
 intro w0 O0 β I a w hr ho;refine wp_block (wp_mono (h w0 O0 β I a w hr ho) ?_);rintro e a' w' ⟨β',I',σ',h1,h2,h3⟩;cases e with
 |exit j=>
  simp only[af7]at h3;simp only[Exit.inBlock];split
  .rw[aX ‹_›]at h3;exact⟨β',I',σ',h1,h2,h3⟩
  .rw[aS ‹_›]at h3;exact⟨β',I',σ',h1,h2,h3⟩
 |_=>exact⟨β',I',σ',h1,h2,h3⟩
theorem anC{c:Code}(J:Nat->St->Prop)(h0:∀ σ,¬J 0 σ)(round:∀n σ,J (n+1) σ->Ev P N c (aoY (J n) Q) σ)(n:Nat)(h:J n σ):Ev P N (.loop c) Q σ:=by
 intro w0 O0 β I a w hr ho;refine ZP (λ n a w=>∃ β I σ,Rel P w0 O0 N β I σ a w/\tG σ/\J n σ) (λ a w ⟨_,_,σ,_,_,h⟩=>h0 σ h) ?_ n a w ⟨β,I,σ,hr,ho,h⟩;rintro n a w ⟨β,I,σ,hr,ho,hJ⟩;refine wp_mono (round n σ hJ w0 O0 β I a w hr ho) ?_;rintro e a' w' ⟨β',I',σ',h1,h2,h3⟩;cases e<;>exact⟨β',I',σ',h1,h2,h3⟩
end
def lk{α:Type}:U (Nat×α)->Nat->J α
 |[],_=>none
 |(j,x)::r,k=>if j=k then some x else lk r k
structure ry where
 env:List (Nat×AV)
 cP:List (Nat×aT)
def ry.st(L:ry):St:=⟨λ t=>(lk L.env t).getD .undef,λk=>lk L.cP k,λ_=>none⟩
theorem rE{α:Type}:∀{l:U (Nat×α)}{k:Nat}{x:α},lk l k=some x->(k,x)∈l
 |(j,y)::r,k,x,h=>by
  simp only[lk]at h;split at h
  .cases h;rename_i e;subst e;simp
  .exact eH _ (rE h)
theorem uU{α:Type}:∀{l:U (Nat×α)}{k:Nat}{x:α},(l.map (·.1)).Nodup->(k,x)∈l->lk l k=some x
 |(j,y)::r,k,x,hn,h=>by
  simp only[aF,List.nodup_cons]at hn;simp only[lk];rcases aO.1 h with h |h
  .injection h with h1 h2;subst h1;subst h2;simp
  .have hne:k≠j:=λe=>hn.1 (mem_map.2 ⟨(k,x),h,e⟩);rw[aS (Ne.symm hne)];exact uU hn.2 h
open Go.RowKit Go.MapKept
structure RgI where
 x:Operand
 t:TypeId
 a0:Nat
 it:Nat
 nn:Nat
 b:Nat
 e:Nat
 xx:Nat
 kv:Nat
 j:Nat
 j2:Nat
 body:Code
section
variable {P:Program} {w0:World} {O0:ky} {N:Nat} {β:Nat->Option cT} {I:Nat->Prop} {σ:St} {a:Act} {w:World}
def St.put(σ:St)(d:Nat)(x:AV):St:=⟨A8 σ.env (some d) x,σ.obj,A8 σ.ok (some d) none⟩
theorem Rel.put(hr:Rel P w0 O0 N β I σ a w){d:Nat}(hd:d<N){x:AV}{v:Value}(hv:VR P β w I x v):Rel P w0 O0 N β I (σ.put d x) (a.put (some d) v) w:=by
 refine⟨by simpa[Act.put]using hr.defers,by simpa[Act.put]using hr.size,λt=>?_,hr.mem⟩;have hold:=hr.env t;simp only[St.put,A8,Act.put,aA];by_cases hdt:d=t
 .subst hdt;rw[aX rfl,aX rfl];have e:(a.tmps.setIfInBounds d v).getD d undef=v:=by simp[Nat.lt_of_lt_of_eq hd hr.size.symm]
  rw[e];exact hv
 .rw[aS hdt,aS hdt];simpa[Array.getElem?_setIfInBounds_ne hdt]using hold
structure tf(β:Nat->Option cT)(I:Nat->Prop)(obj:Nat->Option aT)(w:World)(r:Nat):Prop where
 lt:r<w.heap.size
 HH:¬I r
 obj:∀k o,obj k=some o->¬fL β k r
theorem Rel.world{w':World}(hr:Rel P w0 O0 N β I σ a w)(hs:Same I w w')(hm:Mem P w0 O0 β I σ.obj w'):Rel P w0 O0 N β I σ a w':=
 ⟨hr.defers,hr.size,λt=>fg.mono (λ _ _ h=>h) hs (λ _ h=>h) (hr.env t),hm⟩
end
def kept(os':U (Option fu))(j:Nat):Prop:=∃p,os'[j]? =some (some p)
def Px(get:Nat->J aT)(fk:J Nat)(os':U (Option fu)):AV->Tree->Prop
 | .t x,y=>y=x
 | .da,y=>y= .sl []
 | .oz k len,y=>fk≠some k/\¬kept os' k/\∃o d6,get k=some o/\(o.rows.drop 0).take len=aI d6/\d6.length=len/\y= .sl d6
 | .own k aa len,y=>fk≠some k/\¬kept os' k/\∃o d6,get k=some o/\(o.rows.drop aa).take len=aI d6/\d6.length=len/\y= .sl d6
 |_,_=>False
def ll(get:Nat->J aT)(fk:J Nat)(os':U (Option fu)):U AV->U Tree->Prop
 |[],[]=>True
 |x::xs,y::ys=>Px get fk os' x y/\ll get fk os' xs ys
 |_,_=>False
def eJ(get:Nat->J aT)(fk:J Nat)(os':U (Option fu)):U (List AV)->U (List Tree)->Prop
 |[],[]=>True
 |x::xs,y::ys=>ll get fk os' x y/\eJ get fk os' xs ys
 |_,_=>False
def F1(get:Nat->J aT)(fk:J Nat)(os':U (Option fu)):AV->RC->Prop
 | .agg cs,.d (.a ts)=>ll get fk os' cs ts
 |x,.d (.s y)=>Px get fk os' x y
 | .da,.fresh _ rows=>rows=[]
 | .own k aa len,.fresh sz rows=>fk=some k/\¬kept os' k/\aa=0/\∃o,get k=some o/\o.sz=sz/\eJ get fk os' (o.rows.take len) rows/\rows.length=len
 | .own k aa len,.whole j len'=>k=j/\aa=0/\len'=len/\kept os' j
 |_,_=>False
def nq(get:Nat->J aT)(fk:J Nat)(os':U (Option fu)):U AV->U RC->Prop
 |[],[]=>True
 |x::xs,c::cs=>F1 get fk os' x c/\nq get fk os' xs cs
 |_,_=>False
def F0(get:Nat->J aT)(fk:J Nat)(os':U (Option fu)):U AV->RV->Prop
 |[x],.one c=>F1 get fk os' x c
 |x::y::r,.eV cs=>nq get fk os' (x::y::r) cs
 |[],.eV cs=>cs=[]
 |_,_=>False
def NB(get:Nat->J aT)(fk:J Nat)(os':U (Option fu)):Prop:=
 ∀(j:Nat) p,os'[j]? =some (some p)->fk≠some j/\∃o,get j=some o/\o.sz=p.1/\eJ get fk os' (o.rows.take p.2.length) p.2
def Uu(T:eo)(t:TypeId)(x:AV)(obj:Nat->J aT):J Out:=
 KR T t x .none obj
def Py(T:eo)(σ:St):ResultVar->J AV
 | .tmp t=>match σ.ok t with
  |none=>some (σ.env t)
  |some _=>none
 | .cell a t=>match σ.ok a with
  |none=>match Uu T t (σ.env a) σ.obj with
   |some ⟨v,[],[]⟩=>some v
   |_=>none
  |some _=>none
def nD(T:eo)(σ:St):U ResultVar->J (List AV)
 |[]=>some []
 |r::rs=>(Py T σ r).bind λv=>(nD T σ rs).bind λvs=>some (v::vs)
def Vu(tmps:Array Value):ResultVar->Sem Value
 | .tmp t=>pure (tmps.getD t undef)
 | .cell a t=>do loadVar t (<- asAddr (tmps.getD a undef))
theorem Vv(fn:Func)(tmps:Array Value):results fn tmps=(fn.results.mapM (Vu tmps))>>=λvs=>pure (if h:vs.size=1 then vs[0]else .tuple vs):=by
 unfold results;congr 2
def aqw(T:eo)(rs:U ResultVar)(rv:RV)(os':U (Option fu)):Exit->St->Prop
 | .normal,σ=>∃xs fk,nD T σ rs=some xs/\F0 σ.obj fk os' xs rv/\NB σ.obj fk os'
 | .ret,σ=>∃xs fk,nD T σ rs=some xs/\F0 σ.obj fk os' xs rv/\NB σ.obj fk os'
 |_,_=>False
section
variable {P:Program} {T:eo} {w0:World} {O0:ky} {N:Nat} {β:Nat->Option cT} {I:Nat->Prop} {σ:St} {a:Act} {w:World}
theorem abl(hT:fe P T)(hr:Rel P w0 O0 N β I σ a w){r:ResultVar}{x:AV}(h:Py T σ r=some x):
 ∃v,(Vu a.tmps r).run P w= .ok v w/\VR P β w I x v:=by
 cases r with
 |tmp t=>
  simp only[Py]at h;have h1:=hr.env t;cases hk:σ.ok t with
  |some b=>rw[hk]at h;cases h
  |none=>
   rw[hk]at h h1;cases h;exact⟨_,by simp[Vu],h1⟩
 |cell ad t=>
  simp only[Py]at h;have hx:=hr.env ad;cases hk:σ.ok ad with
  |some b=>rw[hk]at h;cases h
  |none=>
  rw[hk]at h hx;simp only at h;have hx:VR P β w I (σ.env ad) (a.tmps.getD ad undef):=hx;split at h
  .rename_i v hl;injection h with h;subst h;obtain⟨u,h1,h2⟩:∃u,(Instr.loadAt t (a.tmps.getD ad undef)).run P w= .ok u w/\VR P β w I v u:=by
    obtain⟨u,h1,h2,_⟩:=Rl hT hr.mem (λ _ _ h=>h) hl trivial hx;exact⟨u,h1,h2⟩
   refine⟨u,?_,h2⟩;have hp:∃p,a.tmps.getD ad undef= .pointer (some p):=by
    unfold Uu at hl;unfold KR at hl;cases hti:T t with
    |none=>simp[hti]at hl
    |some ti=>
     simp only[hti,af]at hl;split at hl
     .rename_i heq;rw[heq]at hx;simp only[VR]at hx;obtain⟨b,sz,n,_,h⟩:=hx;exact⟨_,h⟩
     .rename_i heq;rw[heq]at hx;simp only[VR]at hx;obtain⟨b,o,h,_⟩:=hx;exact⟨_,h⟩
     .cases hl
   obtain⟨p,hp⟩:=hp;rw[hp]at h1;simp only[Instr.loadAt,Instr.sureAddr,Sem.run_bind,Sem.run_pure,Result.andThen_ok]at h1;simp only[Vu,hp,asAddr,Sem.run_bind,Sem.run_pure,Result.andThen_ok];exact h1
  .cases h
theorem A9(hT:fe P T)(hr:Rel P w0 O0 N β I σ a w):∀(rs:U ResultVar)(xs:U AV),nD T σ rs=some xs->
 ∃vs,(rs.mapM (Vu a.tmps)).run P w= .ok vs w/\bj P β w I xs vs
 |[],xs,h=>by simp only[nD,aA]at h;subst h;exact⟨[],by simp,by simp[bj]⟩
 |r::rs,xs,h=>by
  simp only[nD]at h;cases h1:Py T σ r with
  |none=>simp[h1]at h
  |some x=>
   cases h2:nD T σ rs with
   |none=>simp[h1,h2]at h
   |some ys=>
    simp only[h1,h2,af,aA]at h;subst h;have⟨v,g1,g2⟩:=abl hT hr h1;have⟨vs,g3,g4⟩:=A9 hT hr rs ys h2;exact⟨v::vs,by simp only[List.mapM_cons,Sem.run_bind,g1,Result.andThen_ok,g3,Sem.run_pure],by simp only[bj];exact⟨g2,g4⟩⟩
def MQ(σ:St)(w0 w:World)(β:Nat->J cT)(I:Nat->Prop)(O0:ky)(fk:J Nat)(os':U (Option fu))(b:Nat):Prop:=
 (I b\/O0.HH b\/w0.heap.size<=b\/O0.own b)/\b<w.heap.size/\¬∃k,(fk=some k\/kept os' k)/\(∃ o,σ.obj k=some o)/\fL β k b
theorem adq(hr:Rel P w0 O0 N β I σ a w)(fk:J Nat)(os':U (Option fu)):∀b,I b->MQ σ w0 w β I O0 fk os' b:=λb hb=>
 ⟨.inl hb,hr.mem.lt b hb,λ⟨k,_,⟨o,ho⟩,hβ⟩=>(hr.mem.jt k o b ho hβ).1 hb⟩
theorem MR(hr:Rel P w0 O0 N β I σ a w){fk:J Nat}{os':U (Option fu)}{k aa len:Nat}{y:Tree}{v:Value}(h:fk≠some k/\¬kept os' k/\∃o d6,σ.obj k=some o/\(o.rows.drop aa).take len=aI d6/\d6.length=len/\y= .sl d6)(hv:VR P β w I (.own k aa len) v):TR w (MQ σ w0 w β I O0 fk os') y v:=by
 obtain⟨hne,hnk,o,d6,h1,h2,h3,rfl⟩:=h;simp only[VR]at hv;simp only[TR];rcases hv with ⟨_,rfl,_,h4⟩ |⟨b,sz,n,cap,ad,h4,rfl,h5,h6,h7⟩
 .exact .inl ⟨List.eq_nil_of_length_eq_zero (by omega),none,0,rfl,λ_=>rfl⟩
 .have⟨g1,g2,g3⟩:=hr.mem.own k o b sz n h1 h4;refine .inr ⟨b,ad,cap,sz,by rw[h3],by omega,⟨.inr (.inr (g3.elim .inr .inl)),g2,λ⟨k',e1,⟨o',e2⟩,e3⟩=>?_⟩,?_⟩
  .have:=hr.mem.lP k k' o o' b h1 e2 (.at h4) e3;subst this;exact e1.elim hne hnk
  .by_cases hc:cap=0
   .have:d6=[]:=List.eq_nil_of_length_eq_zero (by omega);subst this;simp[cJ]
   .rw[h7 hc];have⟨B,hB,sA⟩:=hr.mem.cP k o h1;rw[h4]at hB;cases hB;obtain⟨hs,c,e,hc',_,sA⟩:=sA;have h8:=bp.take len _ _ _ _ (bp.drop aa _ _ _ _ sA);rw[h2]at h8;exact cJ.lO (adq hr fk os') hc' d6 _ _ h8
theorem Ea(hr:Rel P w0 O0 N β I σ a w){fk:J Nat}{os':U (Option fu)}{x:AV}{y:Tree}{v:Value}(h:Px σ.obj fk os' x y)(hv:VR P β w I x v):TR w (MQ σ w0 w β I O0 fk os') y v:=by
 cases x<;>simp only[Px]at h
 case t x=>subst h;simp only[VR]at hv;exact TR.mono (λ _ _=>rfl) (adq hr fk os') _ _ hv
 case da=>subst h;simp only[VR]at hv;simp only[TR];exact .inl ⟨trivial,none,0,hv,λ_=>rfl⟩
 case own k aa len=>exact MR hr h hv
 case oz k len=>
  rcases hv.u9 with ⟨rfl,rfl⟩ |⟨_,hv⟩
  .obtain⟨hne,hnk,o,d6,h1,h2,h3,rfl⟩:=h;simp only[TR];exact .inl ⟨List.eq_nil_of_length_eq_zero h3,none,0,rfl,λ_=>rfl⟩
  .exact MR hr h hv
theorem MS(hr:Rel P w0 O0 N β I σ a w){fk:J Nat}{os':U (Option fu)}{β':Nat->J cT}:∀{r:U AV}{t:U Tree}{c:Array Value}{aa:Nat},ll σ.obj fk os' r t->dc P β w I r c aa->dc P β' w (MQ σ w0 w β I O0 fk os') (t.map AV.t) c aa
 |[],[],_,_,_,_=>trivial
 |x::xs,y::ys,c,aa,h,⟨⟨v,h1,h2,h3⟩,h4⟩=>⟨⟨v,h1,by simp only[VR];exact Ea hr h.1 h2,h3⟩,MS hr h.2 h4⟩
 |[],_::_,_,_,h,_=>h.elim
 |_::_,[],_,_,h,_=>h.elim
theorem ll.length{get:Nat->J aT}{fk:J Nat}{os':U (Option fu)}:∀{r:U AV}{t:U Tree},ll get fk os' r t->t.length=r.length
 |[],[],_=>rfl
 |_::_,_::_,h=>by simp[ll.length h.2]
 |[],_::_,h=>h.elim
 |_::_,[],h=>h.elim
theorem Ba(hr:Rel P w0 O0 N β I σ a w){fk:J Nat}{os':U (Option fu)}{β':Nat->J cT}:∀{rs:U (List AV)}{ts:U (List Tree)}{c:Array Value}{aa sz:Nat},eJ σ.obj fk os' rs ts->bp P β w I rs c aa sz->bp P β' w (MQ σ w0 w β I O0 fk os') (aI ts) c aa sz
 |[],[],_,_,_,_,_=>trivial
 |r::rs,t::ts,c,aa,sz,h,⟨h1,h2,h3⟩=>⟨by rw[length_map,h.1.length,h1],MS hr h.1 h2,Ba hr h.2 h3⟩
 |[],_::_,_,_,_,h,_=>h.elim
 |_::_,[],_,_,_,h,_=>h.elim
theorem eJ.length{get:Nat->J aT}{fk:J Nat}{os':U (Option fu)}:∀{rs:U (List AV)}{ts:U (List Tree)},eJ get fk os' rs ts->rs.length=ts.length
 |[],[],_=>rfl
 |_::_,_::_,h=>by simp only[bC,h.2.length]
 |[],_::_,h=>h.elim
 |_::_,[],h=>h.elim
theorem KX(hr:Rel P w0 O0 N β I σ a w){fk:J Nat}{os':U (Option fu)}{β':Nat->J cT}:∀{r:U AV}{t:U Tree}{vs:U Value},ll σ.obj fk os' r t->bj P β w I r vs->bj P β' w (MQ σ w0 w β I O0 fk os') (t.map AV.t) vs
 |[],[],[],_,_=>by simp[bj]
 |x::xs,y::ys,v::vs,h,hv=>by
  simp only[bj]at hv;simp only[aF,bj,VR];exact⟨Ea hr h.1 hv.1,KX hr h.2 hv.2⟩
 |[],_::_,_,h,_=>h.elim
 |_::_,[],_,h,_=>h.elim
 |[],[],_::_,_,hv=>by simp[bj]at hv
 |_::_,_::_,[],_,hv=>by simp[bj]at hv
theorem Hy(hr:Rel P w0 O0 N β I σ a w){fk:J Nat}{os':U (Option fu)}{β':Nat->J cT}:∀{rs:U (List AV)}{ts:U (List Tree)}{es:U MapEntry},eJ σ.obj fk os' rs ts->cH P β w I rs es->cH P β' w (MQ σ w0 w β I O0 fk os') (aI ts) es
 |[],[],[],_,_=>trivial
 |_::_,_::_,_::_,h,hm=>⟨KX hr h.1 hm.1,Hy hr h.2 hm.2⟩
 |[],_::_,_,h,_=>h.elim
 |_::_,[],_,h,_=>h.elim
 |[],[],_::_,_,hm=>hm.elim
 |_::_,_::_,[],_,hm=>hm.elim
theorem eJ.nil{get:Nat->J aT}{fk:J Nat}{os':U (Option fu)}{t:U (List Tree)}(h:eJ get fk os' [] t):t=[]:=by
 cases t with
 |nil=>rfl
 |cons=>exact h.elim
theorem Vw(hr:Rel P w0 O0 N β I σ a w){F:Nat->Prop}{βi:Nat->J cT}{fk:J Nat}{os':U (Option fu)}(hF:∀k o b,fk=some k->σ.obj k=some o->¬kept os' k->fL β k b->F b)(hi:∀j,kept os' j->β j=βi j){x:AV}{c:RC}{v:Value}
 (h:F1 σ.obj fk os' x c) (hv:VR P β w I x v):yn P F βi c w (MQ σ w0 w β I O0 fk os') v:=by
 unfold F1 at h;split at h
 .rename_i cs ts;simp only[VR]at hv;obtain⟨vs,rfl,hv⟩:=hv;refine⟨vs,rfl,?_⟩;have:∀(cs:U AV)(ts:U Tree)(vs:U Value),ll σ.obj fk os' cs ts->bj P β w I cs vs->ff w (MQ σ w0 w β I O0 fk os') ts vs:=by
   intro cs
   induction cs with
   |nil=>intro ts vs h hv;cases ts<;>cases vs<;>first |trivial |exact h.elim |(simp [bj]at hv)
   |cons x xs ih=>
    intro ts vs h hv;cases ts with
    |nil=>exact h.elim
    |cons t ts=>
     cases vs with
     |nil=>simp[bj]at hv
     |cons u us=>simp only[bj]at hv;exact⟨Ea hr h.1 hv.1,ih ts us h.2 hv.2⟩
  exact this cs ts vs.toList h hv
 .exact Ea hr h hv
 .subst h;simp only[VR]at hv;exact .inl ⟨rfl,hv⟩
 .rename_i k aa len sz rows;obtain⟨rfl,hnk,rfl,o,h1,rfl,h2,h3⟩:=h;simp only[VR]at hv;rcases hv with ⟨_,rfl,_,h4⟩ |⟨b,sz,n,cap,ad,h4,rfl,h5,h6,h7⟩
  .exact .inl ⟨List.eq_nil_of_length_eq_zero (by omega),rfl⟩
  .have⟨g1,g2,g3⟩:=hr.mem.own k o b sz n h1 h4;have⟨B,hB,sA⟩:=hr.mem.cP k o h1;rw[h4]at hB;cases hB;obtain⟨hs,c,e,hc',hn,sA⟩:=sA;refine .inr ⟨b,c,e,cap,ad,n.s,by rw[h3],hF k o b rfl h1 hnk (.at h4),λhI=>hI.2.2 ⟨k,.inl rfl,⟨o,h1⟩,.at h4⟩,hc',by omega,?_,?_,λhc=>by simpa using h7 hc⟩
   .rw[<- hs,hn];simpa using h6
   .rw[<- hs];exact Ba hr h2 (bp.take len _ _ _ _ sA)
 .rename_i k aa len j len';obtain⟨rfl,rfl,rfl,hk⟩:=h;show VR P βi w (MQ σ w0 w β I O0 fk os') (.own k 0 len') v;simp only[VR]at hv ⊢;rw[<- hi k hk];exact hv
 .exact h.elim
theorem Bb{α:Type}(l:U α)(t:Nat):lk ((List.range l.length).zip l) t=l[t]? :=by
 have qk:∀(l:U α)(s t:Nat),(lk ((List.range' s l.length).zip l) t)=if s<=t/\t<s+l.length then l[t -s]? else none:=by
  intro l
  induction l with
  |nil=>intro s t;simp[lk]
  |cons x xs ih=>
   intro s t;simp only[bC,List.range'_succ,List.zip_cons_cons,lk];by_cases hst:s=t
   .subst hst;simp
   .rw[aS hst,ih];by_cases hlt':s+1<=t/\t<s+1+xs.length
    .rw[aX hlt',aX (by omega),show t -s=(t -(s+1))+1 by omega];simp
    .rw[aS hlt',aS (by omega)]
 rw[List.range_eq_range',qk];by_cases ht:t<l.length
 .simp[ht]
 .rw[aS (by omega)];simp[List.getElem?_eq_none (Nat.le_of_not_lt ht)]
theorem Pz{x:AV}:∀{l:U AV},x∈l->∀k∈refs x,k∈eX l
 |[],h,_,_=>by simp at h
 |y::ys,h,k,hk=>by
  simp only[eX,aZ];rcases aO.1 h with rfl |h
  .exact .inl hk
  .exact .inr (Pz h k hk)
theorem ajm(hT : fe P T){f : FuncId}{fn : Func}{c : Code}{args : U AV}{os : U fu}{os' : U (Option fu)}{rv : RV}(hfn : P.funcs[f]? = some fn)(hb : fn.body = some c)(hname : (fn.name == "runtime.NumGoroutine") = false)(hN : args.length <= fn.ntmps)(hargs : ∀ k ∈ eX args, k < 1000)(hos : os.length <= 1000)(hlen : os'.length = os.length)
 (h:Ev P fn.ntmps c (aqw T fn.results.toList rv os') (ry.st ⟨(List.range args.length).zip args,(List.range (os.map ii).length).zip (os.map ii)⟩)):qq P f args os os' rv:=by
 refine⟨⟨fn,hfn,by rw[hb];rfl,hname⟩,λw β I vs hβ hM hv=>?_⟩;have hvl:=bj.length _ _ hv;simp only[Array.length_toList]at hvl;have hZ:∀k,lk ((List.range (os.map ii).length).zip (os.map ii)) k=rS os k:=λk=>by rw[Bb];simp[rS]
 refine calls_of_wp hfn hb ?_;have hrel:Rel P w (ny β I) fn.ntmps β I (ry.st ⟨(List.range args.length).zip args,(List.range (os.map ii).length).zip (os.map ii)⟩) { tmps:=vs++Array.replicate (fn.ntmps -vs.size) undef,defers:=[] } w:=by
  refine⟨rfl,by simp;omega,λt=>?_,?_⟩
  .simp only[ry.st,Bb,fg];by_cases ht:t<args.length
   .obtain⟨v,g1,g2⟩:=bj.get _ _ t _ hv (dQ ht);rw[dQ ht];simp only[Option.getD_some];have:(vs++Array.replicate (fn.ntmps -vs.size) undef).getD t undef=v:=by
     rw[Array.getElem?_toList]at g1;simp only[Array.getD_eq_getD_getElem?,Array.getElem?_append,show t<vs.size by omega,if_true,g1,Option.getD_some]
    rw[this];exact g2
   .rw[List.getElem?_eq_none (Nat.le_of_not_lt ht)];simp[VR]
  .have:(ry.st ⟨(List.range args.length).zip args,(List.range (os.map ii).length).zip (os.map ii)⟩).obj=rS os:=funext hZ;rw[this];exact hM
 have hold:tG (ry.st ⟨(List.range args.length).zip args,(List.range (os.map ii).length).zip (os.map ii)⟩):=by
  refine⟨λ t k hk=>?_,λk o hk=>?_⟩
  .simp only[ry.st,Bb]at hk;cases ht:args[t]? with
   |none=>rw[ht]at hk;simp[refs]at hk
   |some x=>rw[ht]at hk;have:=hargs k (Pz (dw ht) k hk);omega
  .have hk:rS os k=some o:=(hZ k).symm.trans hk;simp only[rS,dN]at hk;obtain⟨p,hp,rfl⟩:=hk;refine⟨by have:=(dH.1 hp).1;omega,λr hr x hx j hj=>?_⟩;simp only[ii,aI,mem_map]at hr;obtain⟨q,_,rfl⟩:=hr;simp only[mem_map]at hx;obtain⟨t,_,rfl⟩:=hx;simp[refs]at hj
 refine wp_mono (h w (ny β I) β I _ w hrel hold) ?_
 have fin:∀(a':Act) (w':World) (β':Nat->J cT) (I':Nat->Prop) (σ':St),Rel P w (ny β I) fn.ntmps β' I' σ' a' w'->(∃ xs fk,nD T σ' fn.results.toList=some xs/\F0 σ'.obj fk os' xs rv/\NB σ'.obj fk os')->
  a'.defers=[]/\∃v,(results fn a'.tmps).run P w'= .ok v w'/\MD P w β I os' rv (.returned v) w':=by
  intro a' w' β' I' σ' hr ⟨xs,fk,hx,he,heo⟩;obtain⟨us,g1,g2⟩:=A9 hT hr _ _ hx;have Fi:=bj.length _ _ g2;have hm:=hr.mem;have hrun:(fn.results.mapM (Vu a'.tmps)).run P w'= .ok us.toArray w':=by rw[Array.mapM_eq_mapM_toList,Sem.run_map,g1];rfl
  have hko:∀j p,os'[j]? =some (some p)->∃B o,β j=some B/\β' j=some B/\σ'.obj j=some o/\OR P β' w' I' o B/\o.sz=p.1/\eJ σ'.obj fk os' (o.rows.take p.2.length) p.2:=by
   intro j p hj;have⟨_,o,e1,e2,e3⟩:=heo j p hj;have hjl:j<os.length:=(by rw[<- hlen];exact(dH.1 hj).1);obtain⟨B,hB,_⟩:=hM.cP j (ii os[j]) (by simp[rS,hjl]);have hB':=hm.anch j B (by simp only[ny];rw[aX (by omega)];exact hB);have⟨B',hB2,hO⟩:=hm.cP j o e1;rw[hB']at hB2;cases hB2;exact⟨B,o,hB,hB',e1,hO,e2,e3⟩
  have hkept:∀j,kept os' j->β' j=β j:=λj ⟨p,hp⟩=>by
   have⟨B,o,h1,h2,_⟩:=hko j p hp;rw[h1,h2]
  have pj:∀j o,Cs os' j=some o->∃p,os'[j]? =some (some p)/\o=ii p:=by
   intro j o hj;simp only[Cs,dN,Option.join_eq_some_iff]at hj;obtain⟨p,hp,rfl⟩:=hj;exact⟨p,hp,rfl⟩
  have qe:∀b,I b->¬U8 β b/\b<w.heap.size:=by
   intro b hb;refine⟨?_,hM.lt b hb⟩;rintro⟨j,B,hj,hB⟩;rcases Nat.lt_or_ge j os.length with hjl |hjl
   .exact(hM.ownB j (ii os[j]) B b (by simp[rS,hjl]) hj hB).1 hb
   .rw[hβ j hjl]at hj;cases hj
  have hOI:∀b,I b->MQ σ' w w' β' I' (ny β I) fk os' b:=by
   intro b hb;have⟨g1,g2⟩:=qe b hb;refine⟨.inr (.inl hb),Nat.lt_of_lt_of_le g2 hm.le,?_⟩;rintro⟨k,_,⟨o,ho⟩,hβk⟩;rcases (hm.jt k o b ho hβk).2.2 with g |g
   .exact g1 g
   .omega
  have hmem:Mem P w (ny β I) β (MQ σ' w w' β' I' (ny β I) fk os') (Cs os') w':=by
   constructor
   .intro j o hj;obtain⟨p,hp,rfl⟩:=pj j o hj;have⟨B,o1,b1,b2,b3,b4,b5,b6⟩:=hko j p hp;refine⟨B,b1,?_⟩;cases B with
    |none=>
     simp only[OR]at b4 ⊢;rw[b4]at b6;have:=eJ.nil (by simpa using b6);simp[ii,aI,this]
    | «at» b s n=>
     obtain⟨c1,c,e,c2,c3,c4⟩:=b4;refine⟨by rw[c1,b5];rfl,c,e,c2,c3,?_⟩;exact Ba hr b6 (bp.take _ _ _ _ _ c4)
    |mp b=>
     obtain⟨es,cl,c1,cl',c2,c3⟩:=b4;have hl:=b6.length;simp only[List.length_take]at hl;refine⟨es,cl,c1,by simp only[ii,aI,length_map];omega,λe=>?_,c3⟩;have e':p.1=p.2.length:=(by simpa[ii,aI]using e);rw[take_of_length_le (by omega)]at b6;exact Hy hr b6 (c2 (by omega))
   .intro j j' o o' B B' b h1 h2 h3 h4 h5 h6;obtain⟨p,hp,rfl⟩:=pj j o h1;obtain⟨p',hp',rfl⟩:=pj j' o' h2;have⟨_,o1,_,_,b3,_⟩:=hko j p hp;have⟨_,o1',_,_,b3',_⟩:=hko j' p' hp';rw[<- hkept j ⟨p,hp⟩]at h3;rw[<- hkept j' ⟨p',hp'⟩]at h4;exact hm.gS j j' o1 o1' B B' b b3 b3' h3 h4 h5 h6
   .intro j o B b h1 h2 h5;obtain⟨p,hp,rfl⟩:=pj j o h1;have⟨_,o1,_,_,b3,_⟩:=hko j p hp;rw[<- hkept j ⟨p,hp⟩]at h2;have⟨_,c2,c3⟩:=hm.ownB j o1 B b b3 h2 h5;exact⟨λ hb=>hb.2.2 ⟨j,.inr ⟨p,hp⟩,⟨o1,b3⟩,B,h2,h5⟩,c2,c3⟩
   .exact λb hb=>hb.2.1
   .intro b hb;rcases hb.1 with g |g |g |g
    .exact hm.up b g
    .exact .inl g
    .exact .inr (.inr g)
    .exact .inr (.inl g)
   .exact hm.keep
   .exact hm.le
   .exact hm.os
   .exact hm.tape
   .exact hm.output
   .intro j B hj;simp only[ny]at hj;split at hj
    .exact hj
    .cases hj
   .exact hM.vars.mono (λ b hb=>hm.keep b (qe b hb).2 (qe b hb).1) hOI
  have hF:∀k o b,fk=some k->σ'.obj k=some o->¬kept os' k->fL β' k b->AE w β os' b:=by
   intro k o b _ h2 h3 h4;refine⟨(hm.jt k o b h2 h4).2.2,λj o' h5 h6=>?_⟩;obtain⟨p,hp,rfl⟩:=pj j o' h5;have⟨_,o1,_,_,b3,_⟩:=hko j p hp;have h6':fL β' j b:=by
    obtain⟨B,e1,e2⟩:=h6;exact⟨B,by rw[hkept j ⟨p,hp⟩];exact e1,e2⟩
   have:=hm.lP k j o o1 b h2 b3 h4 h6';subst this;exact h3 ⟨p,hp⟩
  have ret:∀v,rx P (AE w β os') β rv w' (MQ σ' w w' β' I' (ny β I) fk os') v->MD P w β I os' rv (.returned v) w':=λv hv'=>⟨v,_,rfl,hmem,hOI,hv'⟩;refine⟨hr.defers,?_⟩;have hlist:∀(xs:U AV)(cs:U RC)(us:U Value),nq σ'.obj fk os' xs cs->bj P β' w' I' xs us->Sw P (AE w β os') β cs w' (MQ σ' w w' β' I' (ny β I) fk os') us:=by
   intro xs
   induction xs with
   |nil=>intro cs us h1 h2;cases cs<;>cases us<;>first |trivial |exact h1.elim |(simp [bj]at h2)
   |cons x xs ih=>
    intro cs us h1 h2;cases cs with
    |nil=>exact h1.elim
    |cons c cs=>
     cases us with
     |nil=>simp[bj]at h2
     |cons u us=>simp only[bj]at h2;exact⟨Vw hr hF hkept h1.1 h2.1,ih cs us h1.2 h2.2⟩
  simp only[Vv,Sem.run_bind,hrun,Result.andThen_ok,Sem.run_pure];refine⟨_,rfl,ret _ ?_⟩
  match xs,us,rv,he,g2 with
  |[x],[u],.one c,he,g2=>
   simp only[bj]at g2;simpa[rx]using Vw hr hF hkept he g2.1
  |x::y::r,u::u'::us,.eV cs,he,g2=>
   have:=hlist _ _ _ he g2;rw[dif_neg (by simp)];exact⟨_,rfl,by simpa using this⟩
  |[],[],.eV cs,he,g2=>
   simp only[F0]at he;subst he;rw[dif_neg (by simp)];exact⟨_,rfl,trivial⟩
  |[x],[u],.eV cs,he,_=>exact he.elim
  |[],_,.one c,he,_=>exact he.elim
  |x::y::r,_,.one c,he,_=>exact he.elim
  |[],_::_,.eV _,_,g2=>simp[bj]at g2
  |[_],[],_,_,g2=>simp[bj]at g2
  |[_],_::_::_,_,_,g2=>simp[bj]at g2
  |_::_::_,[],_,_,g2=>simp[bj]at g2
  |_::_::_,[_],_,_,g2=>simp[bj]at g2
 rintro e a' w' ⟨β',I',σ',h1,h2,h3⟩;cases e with
 |normal=>exact fin a' w' β' I' σ' h1 h3
 |ret=>exact fin a' w' β' I' σ' h1 h3
 |_=>exact h3.elim
def Nx(P:Program)(get:Nat->J aT)(xs:U AV)(os':U (Nat×aT))(rv:AV):Prop:=
 ∀(w0:World) (O0:ky) (β:Nat->J cT) (I:Nat->Prop) (w:World) (vs:Array Value),Mem P w0 O0 β I get w->bj P β w I xs vs.toList->∃ β' I',Mem P w0 O0 β' I' (oc os') w/\(∀ b,I b->I' b)/\VR P β' w I' rv (if h:vs.size=1 then vs[0]else .tuple vs)
def apU(P:Program)(T:eo)(rs:U ResultVar)(rv:AV)(os':U (Nat×aT)):Exit->St->Prop
 | .normal,σ=>∃xs,nD T σ rs=some xs/\Nx P σ.obj xs os' rv
 | .ret,σ=>∃xs,nD T σ rs=some xs/\Nx P σ.obj xs os' rv
 |_,_=>False
theorem ajn(hT : fe P T){f : FuncId}{fn : Func}{c : Code}{args : U AV}{os : U aT}{os' : U (Nat × aT)}{rv : AV}(hfn : P.funcs[f]? = some fn)(hb : fn.body = some c)(hname : (fn.name == "runtime.NumGoroutine") = false)(hN : args.length <= fn.ntmps)(hargs : ∀ k ∈ eX args, k < 1000)(hos : os.length <= 1000)
 (Sx:∀o∈os,∀r∈o.rows,∀x∈r,∀j∈refs x,j<1000)
 (h:Ev P fn.ntmps c (apU P T fn.results.toList rv os') (ry.st ⟨(List.range args.length).zip args,(List.range os.length).zip os⟩)):yp P f args os os' rv:=by
 refine⟨⟨fn,hfn,by rw[hb];rfl,hname⟩,λw β I vs hβ hM hv=>?_⟩;have hvl:=bj.length _ _ hv;simp only[Array.length_toList]at hvl;have hZ:∀k,lk ((List.range os.length).zip os) k=rN os k:=λk=>by rw[Bb];rfl
 refine calls_of_wp hfn hb ?_;have hrel:Rel P w (ny β I) fn.ntmps β I (ry.st ⟨(List.range args.length).zip args,(List.range os.length).zip os⟩) { tmps:=vs++Array.replicate (fn.ntmps -vs.size) undef,defers:=[] } w:=by
  refine⟨rfl,by simp;omega,λt=>?_,?_⟩
  .simp only[ry.st,Bb,fg];by_cases ht:t<args.length
   .obtain⟨v,g1,g2⟩:=bj.get _ _ t _ hv (dQ ht);rw[dQ ht];simp only[Option.getD_some];have:(vs++Array.replicate (fn.ntmps -vs.size) undef).getD t undef=v:=by
     rw[Array.getElem?_toList]at g1;simp only[Array.getD_eq_getD_getElem?,Array.getElem?_append,show t<vs.size by omega,if_true,g1,Option.getD_some]
    rw[this];exact g2
   .rw[List.getElem?_eq_none (Nat.le_of_not_lt ht)];simp[VR]
  .have:(ry.st ⟨(List.range args.length).zip args,(List.range os.length).zip os⟩).obj=rN os:=funext hZ;rw[this];exact hM
 have hold:tG (ry.st ⟨(List.range args.length).zip args,(List.range os.length).zip os⟩):=by
  refine⟨λ t k hk=>?_,λk o hk=>?_⟩
  .simp only[ry.st,Bb]at hk;cases ht:args[t]? with
   |none=>rw[ht]at hk;simp[refs]at hk
   |some x=>rw[ht]at hk;have:=hargs k (Pz (dw ht) k hk);omega
  .have hk:rN os k=some o:=(hZ k).symm.trans hk;simp only[rN]at hk;refine⟨by have:=(dH.1 hk).1;omega,λr hr x hx j hj=>?_⟩;have:=Sx o (dw hk) r hr x hx j hj;omega
 refine wp_mono (h w (ny β I) β I _ w hrel hold) ?_
 have fin:∀(a':Act) (w':World) (β':Nat->J cT) (I':Nat->Prop) (σ':St),Rel P w (ny β I) fn.ntmps β' I' σ' a' w'->(∃ xs,nD T σ' fn.results.toList=some xs/\Nx P σ'.obj xs os' rv)->
  a'.defers=[]/\∃v,(results fn a'.tmps).run P w'= .ok v w'/\Wg P w β I os' rv (.returned v) w':=by
  intro a' w' β' I' σ' hr ⟨xs,hx,he⟩;obtain⟨us,g1,g2⟩:=A9 hT hr _ _ hx;have hrun:(fn.results.mapM (Vu a'.tmps)).run P w'= .ok us.toArray w':=by rw[Array.mapM_eq_mapM_toList,Sem.run_map,g1];rfl
  have qe:∀b,I b->¬U8 β b/\b<w.heap.size:=by
   intro b hb;refine⟨?_,hM.lt b hb⟩;rintro⟨j,B,hj,hB⟩;rcases Nat.lt_or_ge j os.length with hjl |hjl
   .exact(hM.ownB j os[j] B b (by simp[rN,hjl]) hj hB).1 hb
   .rw[hβ j hjl]at hj;cases hj
  obtain⟨β2,I2,hm,hI2,hv2⟩:=he w (ny β I) β' I' w' us.toArray hr.mem (by simpa using g2);have hmem:Mem P w (ny β I) β2 (λ b=>I2 b\/I b) (oc os') w':=by
   constructor
   .intro k o hk;have⟨B,hB,hO⟩:=hm.cP k o hk;exact⟨B,hB,OR.mono (λ _ _ h=>h) (λ _ _=>rfl) (λ b hb=> .inl hb) (λ _ _=>rfl) hO⟩
   .exact hm.gS
   .intro k o B b h1 h2 h3;have⟨a1,a2,a3⟩:=hm.ownB k o B b h1 h2 h3;refine⟨?_,a2,a3⟩;rintro (hb |hb)
    .exact a1 hb
    .have⟨c1,c2⟩:=qe b hb;rcases a3 with a3 |a3
     .exact c1 a3
     .omega
   .rintro b (hb |hb)
    .exact hm.lt b hb
    .exact Nat.lt_of_lt_of_le (qe b hb).2 hm.le
   .rintro b (hb |hb)
    .exact hm.up b hb
    .exact .inl hb
   .exact hm.keep
   .exact hm.le
   .exact hm.os
   .exact hm.tape
   .exact hm.output
   .exact hm.anch
   .exact hm.vars.mono (λ _ _=>rfl) (λ b hb=> .inl hb)
  refine⟨hr.defers,?_⟩;simp only[Vv,Sem.run_bind,hrun,Result.andThen_ok,Sem.run_pure];exact⟨_,rfl,_,β2,_,rfl,hmem,λb hb=> .inr hb,VR.mono (λ _ _ h=>h) (λ _ _=>rfl) (λ b hb=> .inl hb) _ _ hv2⟩
 rintro e a' w' ⟨β',I',σ',h1,h2,h3⟩;cases e with
 |normal=>exact fin a' w' β' I' σ' h1 h3
 |ret=>exact fin a' w' β' I' σ' h1 h3
 |_=>exact h3.elim
theorem rx.HC{F F':Nat->Prop}{βi:Nat->J cT}{w':World}{I':Nat->Prop}(hF:∀b,F b->F' b){rv:RV}{v:Value}(h:rx P F βi rv w' I' v):rx P F' βi rv w' I' v:=by
 have hc:∀(c:RC)(v:Value),yn P F βi c w' I' v->yn P F' βi c w' I' v:=by
  intro c v h;cases c with
  |d x=>exact h
  |fresh sz rows=>
   rcases h with h |⟨b,c,e,cap,o,s,h1,h2,h3⟩
   .exact .inl h
   .exact .inr ⟨b,c,e,cap,o,s,h1,hF b h2,h3⟩
  |whole j len=>exact h
 cases rv with
 |one c=>exact hc c v h
 |eV cs=>
  obtain⟨vs,rfl,h⟩:=h;refine⟨vs,rfl,?_⟩;have:∀(cs:U RC)(vs:U Value),Sw P F βi cs w' I' vs->Sw P F' βi cs w' I' vs:=by
   intro cs
   induction cs with
   |nil=>intro vs h;cases vs with
    |nil=>trivial
    |cons=>exact h.elim
   |cons c cs ih=>intro vs h;cases vs with
    |nil=>exact h.elim
    |cons v vs=>exact⟨hc c v h.1,ih vs h.2⟩
  exact this cs vs.toList h
theorem MU{f:FuncId}{args:U AV}{rv:RV}(h:qq P f args [] [] rv):rh P f args rv:=by
 refine⟨h.1,λw I vs hlt hgv hv=>?_⟩;have hM:Mem P w (ny mm I) mm I (rS []) w:=by
  refine⟨λ k o hk=>by simp[rS]at hk,λk k' o o' B B' b hk=>by simp[rS]at hk,λk o B b hk=>by simp[rS]at hk,hlt,λb hb=> .inl hb,λ_ _ _=>rfl,aD _,rfl,rfl,rfl,λj B hj=>?_,hgv⟩;simp only[ny,mm,ite_self]at hj;cases hj
 refine(h.2 w mm I vs (λ _ _=>rfl) hM hv).mono ?_;rintro e w' ⟨v,I',rfl,g1,g2,g3⟩;have hno:∀b,¬(ny mm I).own b:=λb ⟨j,B,hj,_⟩=>by cases hj
 refine⟨v,I',rfl,⟨g1.os,g1.tape,g1.output,g1.le,λb hb=>g1.keep b hb (hno b)⟩,g2,g1.lt,λb hb=>?_,rx.HC (λ b hb=>?_) g3⟩
 .rcases g1.up b hb with h |h |h
  .exact .inl h
  .exact(hno b h).elim
  .exact .inr h
 .rcases hb.1 with h |h
  .exact(hno b h).elim
  .exact h
end
open Go.RowKit Go.WideShapes Go.ChangeShapes
inductive CS where
 |int (k:IntKind)
 |bool
 |str
 |sl (row:List CS)
 |any
  |mu (row:List CS)
 |back
def aqx:CS->Tree->Prop
 | .int k,x=>∃n,x= .sc (.int k n)/\(Lit.int k n).wf=true
 | .bool,x=>∃b,x= .sc (.bool b)
 | .str,x=>∃s,x= .sc (.string s)/\s.size<=maxLen
 |_,_=>False
def apV:CS->Nat
 | .int .i64=>8
 | .int _=>1
 | .bool=>1
 | .str=>16
 |_=>24
def N2:CS->Nat
 | .int .i64=>8
 | .int _=>1
 | .bool=>1
 |_=>8
def Wf:Nat->U CS->Nat
 |o,[]=>o
 |o,c::cs=>Wf ((o+(N2 c -1))/N2 c*N2 c+apV c) cs
def No(r:U CS):Nat:=bif r.any (λ c=>N2 c==8)then(Wf 0 r+7)/8*8 else Wf 0 r
mutual
inductive G3(row:List CS):Tree->Prop
 |mk (rows:List (List Tree)) (hl:rows.length<=maxLen) (h:pD row rows):G3 row (.sl rows)
inductive pD(row:List CS):List (List Tree)->Prop
 |nil:pD row []
 |cons {r:List Tree} {rs:List (List Tree)} (h:km row row r) (t:pD row rs):pD row (r::rs)
inductive km(row:List CS):List CS->List Tree->Prop
 |nil:km row [] []
 |back {cs:List CS} {x:Tree} {xs:List Tree} (h:G3 row x) (t:km row cs xs):km row (.back::cs) (x::xs)
 |one {c:CS} {cs:List CS} {x:Tree} {xs:List Tree} (h:aqx c x) (t:km row cs xs):km row (c::cs) (x::xs)
end
mutual
def Fit:CS->Tree->Prop
 | .int k,x=>∃n,x= .sc (.int k n)/\(Lit.int k n).wf=true
 | .bool,x=>∃b,x= .sc (.bool b)
 | .str,x=>∃s,x= .sc (.string s)/\s.size<=maxLen
 | .sl row,x=>∃rows,x= .sl rows/\(rows.length<=maxLen/\rows.length*No row<=reachBytes)/\∀r∈rows,dC row r
 | .any,_=>True
 | .mu row,x=>G3 row x
 | .back,_=>False
def dC:List CS->List Tree->Prop
 |[],[]=>True
 |c::cs,x::xs=>Fit c x/\dC cs xs
 |_,_=>False
end
mutual
def ox:Tree->Nat
 | .sc (.string s)=>s.size+1
 | .sc _=>1
 | .sl rows=>Bc rows+1
def Bc:List (List Tree)->Nat
 |[]=>0
 |r::rs=>kI r+Bc rs
def kI:List Tree->Nat
 |[]=>0
 |x::xs=>ox x+kI xs
end
theorem zY:∀a b:U Tree,kI (a++b)=kI a+kI b
 |[],b=>by simp[kI]
 |x::a,b=>by simp only[cons_append,kI,zY a b];omega
structure Bk(H:Type) where
 b:DataW H->Nat
 a:List (DataW H)->Nat
 str:∀l,b (.lit (.string l))=l.length+1
 int:∀k n,b (.lit (.int k n))=1
 bool:∀v,b (.lit (.bool v))=1
 nil:b .nil=1
 sl:∀e s,b (.slice e s)=a e+a s+1
 agg:∀p,b (.agg p)=a p+1
 a0:a []=0
 a1:∀d r,a (d::r)=b d+a r
theorem Bk.app{H:Type}(K:Bk H)(l r:U (DataW H)):K.a (l++r)=K.a l+K.a r:=by
 induction l with
 |nil=>simp[K.a0]
 |cons x l ih=>simp only[cons_append,K.a1,ih];omega
theorem Bk.drop{H:Type}(K:Bk H){l:U (DataW H×List MemPlace)}{j:Nat}{y:DataW H×List MemPlace}(h:l[j]? =some y):K.a ((l.map (·.1)).drop j)=K.b y.1+K.a ((l.map (·.1)).drop (j+1)):=by
 obtain⟨hj,rfl⟩:=dH.1 h;rw[List.drop_eq_getElem_cons (by simpa using hj),K.a1];simp
def ye(P:Program)(go:TypeId->J (List CS)):Nat->U Field->J (List CS)
 |_,[]=>some []
 |o,f::fs=>(go f.type).bind λa=>if f.offset=o/\a.length=P.cellsOf f.type then(ye P go (o+a.length) fs).map (a++ ·)else none
def af9(P:Program)(t u:TypeId):J (List CS):=if u=t then some [.back]else match P.underlying u with
 |some (.int k)=>some [.int k]
 |some .bool=>some [.bool]
 |some .string=>some [.str]
 |_=>none
def N1(P:Program)(t e:TypeId):J (List CS):=match P.underlying e with
 |some (.struct fs)=>(ye P (af9 P t) 0 fs.toList).bind λr=>if r.length=P.cellsOf e/\0<r.length then some r else none
 |_=>none
def yv(P:Program)(cut:U TypeId):Nat->TypeId->J (List CS)
 | 0,_=>none
 |n+1,t=>match P.underlying t with
  |some (.int k)=>some [.int k]
  |some .bool=>some [.bool]
  |some .string=>some [.str]
  |some (.slice e)=>if cut.contains t then(match N1 P t e with |some row=>some [.mu row] |none=>some [.any])else(yv P cut n e).bind λr=>if r.length=P.cellsOf e/\0<r.length/\No r<=P.bytesOf e then some [.sl r]else none
  |some (.struct fs)=>(ye P (yv P cut n) 0 fs.toList).bind λr=>if r.length=P.cellsOf t then some r else none
  |some (.array m e)=>(yv P cut n e).bind λr=>if r.length=P.cellsOf e/\m*r.length=P.cellsOf t then some (List.replicate m r).flatten else none
  |_=>none
theorem dC.length:∀(cs:U CS)(ts:U Tree),dC cs ts->ts.length=cs.length
 |[],[],_=>rfl
 |c::cs,x::xs,h=>by simp only[dC]at h;simp[dC.length cs xs h.2]
 |[],_::_,h=>by simp[dC]at h
 |_::_,[],h=>by simp[dC]at h
theorem dC.append:∀(cs:U CS)(ts:U Tree){cs':U CS}{ts':U Tree},dC cs ts->dC cs' ts'->dC (cs++cs') (ts++ts')
 |[],[],_,_,_,h=>h
 |c::cs,x::xs,_,_,h,h'=>by simp only[dC,cons_append]at h ⊢;exact⟨h.1,dC.append cs xs h.2 h'⟩
 |[],_::_,_,_,h,_=>by simp[dC]at h
 |_::_,[],_,_,h,_=>by simp[dC]at h
def Here(w:World)(b:Nat):Prop:=b<w.heap.size
section
variable {w:World} {I:Nat->Prop}
theorem ff.append:∀(ts:U Tree)(cs:U Value){ts':U Tree}{cs':U Value},ff w I ts cs->ff w I ts' cs'->ff w I (ts++ts') (cs++cs')
 |[],[],_,_,_,h=>h
 |_::xs,_::vs,_,_,h,h'=>⟨h.1,ff.append xs vs h.2 h'⟩
 |[],_::_,_,_,h,_=>h.elim
 |_::_,[],_,_,h,_=>h.elim
theorem ff.length:∀(ts:U Tree)(cs:U Value),ff w I ts cs->ts.length=cs.length
 |[],[],_=>rfl
 |_::xs,_::vs,h=>by simp[ff.length xs vs h.2]
 |[],_::_,h=>h.elim
 |_::_,[],h=>h.elim
theorem abn:∀(ts:U Tree)(cs:U Value)(b aa:Nat),ff w I ts cs->(∀ i,i<cs.length->w.cell? ⟨b,aa+i,none⟩=cs[i]?)->d8 w I ts b aa
 |[],[],_,_,_,_=>by simp[d8]
 |x::xs,v::vs,b,aa,h,hc=>by
  simp only[d8];refine⟨⟨v,by simpa using hc 0 (by simp),h.1⟩,abn xs vs b (aa+1) h.2 λi hi=>?_⟩;have:=hc (i+1) (by simpa using hi);rw[show aa+(i+1)=aa+1+i by omega]at this;simpa using this
 |[],_::_,_,_,h,_=>h.elim
 |_::_,[],_,_,h,_=>h.elim
end
section
variable {H:Type} {enc:TypeId×Value->H} {P:Program} {w:World} {sp:Nat->Bool} {held:Bool}
theorem PD{a:Addr}{v:Value}(h:w.cell? a=some v):a.spot=none/\a.block<w.heap.size:=by
 simp only[World.cell?]at h;split at h
 .rename_i c e st hc;split at h
  .cases h
  .rename_i hs;exact⟨by simpa using hs,(Array.getElem?_eq_some_iff.1 hc).1⟩
 .cases h
def P3(P:Program)(t:TypeId)(x:DataW H×List MemPlace):Prop:=∀k∈x.1.weights P t,k<=reachBytes
theorem yF{e:TypeId}:∀{l:U (DataW H)}{d:DataW H},d∈l->∀k∈d.weights P e,k∈DataW.weightsAll P e l
 |a::l,d,h,k,hk=>by
  simp only[DataW.weightsAll,aZ];rcases aO.1 h with rfl |h
  .exact .inl hk
  .exact .inr (yF h k hk)
theorem Ry(m:Nat)(cs:U Value)(go:TypeId->J (List CS))(hgo:∀t sh,go t=some sh->∀cs x,DataW.trod enc P w 0 sp held m t cs=some x->P3 P t x->∃ts,ff w (Here w) ts cs/\dC sh ts/\∀K:Bk H,kI ts<=K.b x.1):
 ∀(fs:U Field)(l:U (DataW H×List MemPlace))(o:Nat)(sh:U CS),ye P go o fs=some sh->l.length=fs.length->(∀ (i:Nat) (f:Field) (x:DataW H×List MemPlace),fs[i]? =some f->l[i]? =some x->DataW.trod enc P w 0 sp held m f.type ((cs.drop f.offset).take (P.cellsOf f.type))=some x/\P3 P f.type x)->
  ∃ts,ff w (Here w) ts ((cs.drop o).take sh.length)/\dC sh ts/\∀K:Bk H,kI ts<=K.a (l.map (·.1))
 |[],l,o,sh,h,_,_=>by
  simp only[ye,aA]at h;subst h;exact⟨[],by simp[ff],by simp[dC],λK=>by simp[kI]⟩
 |f::fs,[],o,sh,h,hl,hf=>by simp at hl
 |f::fs,x::l,o,sh,h,hl,hf=>by
  simp only[ye,ai]at h;obtain⟨a,h1,h2⟩:=h;split at h2
  .rename_i hc;obtain⟨hc1,hc2⟩:=hc;simp only[dN]at h2;obtain⟨r,h3,rfl⟩:=h2;have⟨hx,hz⟩:=hf 0 f x rfl rfl;obtain⟨ts,g1,g2,k1⟩:=hgo _ _ h1 _ _ hx hz;obtain⟨ts',g3,g4,k2⟩:=Ry m cs go hgo fs l _ _ h3 (by simpa using hl) λi f' x' hf' hx'=>hf (i+1) f' x' hf' hx';refine⟨ts++ts',?_,dC.append _ _ g2 g4,λK=>by have:=k1 K;have:=k2 K;rw[zY,aF,K.a1];omega⟩;rw[dM,List.take_add,List.drop_drop];rw[hc1,<- hc2]at g1;exact ff.append _ _ g1 g3
  .cases h2
theorem km.append{row:U CS}:∀{a b:U CS}{x y:U Tree},km row a x->km row b y->km row (a++b) (x++y)
 |_,_,_,_,.nil,h=>h
 |_,_,_,_,.back h t,h'=> .back h (t.append h')
 |_,_,_,_,.one h t,h'=> .one h (t.append h')
theorem MV{row:U CS}(m:Nat)(cs:U Value)(go:TypeId->J (List CS))(hgo:∀t sh,go t=some sh->∀cs x,DataW.trod enc P w 0 sp held m t cs=some x->∃ts,ff w (Here w) ts cs/\km row sh ts/\∀K:Bk H,kI ts<=K.b x.1):
 ∀(fs:U Field)(l:U (DataW H×List MemPlace))(o:Nat)(sh:U CS),ye P go o fs=some sh->l.length=fs.length->(∀ (i:Nat) (f:Field) (x:DataW H×List MemPlace),fs[i]? =some f->l[i]? =some x->DataW.trod enc P w 0 sp held m f.type ((cs.drop f.offset).take (P.cellsOf f.type))=some x)->
  ∃ts,ff w (Here w) ts ((cs.drop o).take sh.length)/\km row sh ts/\∀K:Bk H,kI ts<=K.a (l.map (·.1))
 |[],l,o,sh,h,_,_=>by
  simp only[ye,aA]at h;subst h;exact⟨[],by simp[ff],.nil,λK=>by simp[kI]⟩
 |f::fs,[],o,sh,h,hl,hf=>by simp at hl
 |f::fs,x::l,o,sh,h,hl,hf=>by
  simp only[ye,ai]at h;obtain⟨a,h1,h2⟩:=h;split at h2
  .rename_i hc;obtain⟨hc1,hc2⟩:=hc;simp only[dN]at h2;obtain⟨r,h3,rfl⟩:=h2;have hx:=hf 0 f x rfl rfl;obtain⟨ts,g1,g2,k1⟩:=hgo _ _ h1 _ _ hx;obtain⟨ts',g3,g4,k2⟩:=MV m cs go hgo fs l _ _ h3 (by simpa using hl) λi f' x' hf' hx'=>hf (i+1) f' x' hf' hx';refine⟨ts++ts',?_,g2.append g4,λK=>by have:=k1 K;have:=k2 K;rw[zY,aF,K.a1];omega⟩;rw[dM,List.take_add,List.drop_drop];rw[hc1,<- hc2]at g1;exact ff.append _ _ g1 g3
  .cases h2
theorem anG{t e:TypeId}{row:U CS}(hk:P.underlying t=some (.slice e))(hm:N1 P t e=some row):∀(fuel:Nat)(cs:U Value)(x:DataW H×List MemPlace),DataW.trod enc P w 0 sp held fuel t cs=some x->∃tr,ff w (Here w) [tr] cs/\G3 row tr/\∀K:Bk H,ox tr<=K.b x.1:=by
 intro fuel
 induction fuel using Nat.strongRecOn with
 |_ fuel ih=>
 intro cs x hx;have one:∀m,m<fuel->∀tA y,DataW.trod enc P w 0 sp held m e tA=some y->∃ts,ff w (Here w) ts tA/\km row row ts/\ts.length=row.length/\∀K:Bk H,kI ts<=K.b y.1:=by
  intro m hmf tA y hy;unfold N1 at hm;split at hm
  .rename_i fs hke;simp only[ai]at hm;obtain⟨r,h1,h2⟩:=hm;split at h2
   .rename_i hr;injection h2 with h2;subst h2;obtain⟨xs,m',hm',rfl,hl,hxs,hf⟩:=DataW.trod_struct hke hy;obtain⟨ts,g1,g2,k1⟩:=MV (row:=r) m' tA (af9 P t) (λ u sh hsh cs x hx=>by
     unfold af9 at hsh;split at hsh
     .rename_i hu;cases hsh;rw[hu]at hx;obtain⟨tr,a1,a2,a3⟩:=ih m' (by omega) cs x hx;exact⟨[tr],a1,.back a2 .nil,λK=>by have:=a3 K;simp only[kI];omega⟩
     .split at hsh
      .rename_i k BT;cases hsh;obtain⟨v,rfl,rfl,hw⟩:=DataW.trod_int BT hx;exact⟨[.sc (.int k v)],by simp[ff,TR,oneCell],.one ⟨v,rfl,hw⟩ .nil,λK=>by simp[kI,ox,K.int]⟩
      .rename_i BT;cases hsh;obtain⟨v,rfl,rfl⟩:=DataW.trod_bool BT hx;exact⟨[.sc (.bool v)],by simp[ff,TR,oneCell],.one ⟨v,rfl⟩ .nil,λK=>by simp[kI,ox,K.bool]⟩
      .rename_i BT;cases hsh;obtain⟨v,rfl,rfl,hw⟩:=DataW.trod_string BT hx;exact⟨[.sc (.string v)],by simp[ff,TR,oneCell],.one ⟨v,rfl,hw⟩ .nil,λK=>by simp[kI,ox,K.str]⟩
      .cases hsh) fs.toList xs 0 r h1 (by simpa using hxs) (λ i f x hi hxi=>by
     have hi':fs[i]? =some f:=(by simpa using hi);rw[hf i f hi',hxi])
    rw[List.drop_zero,take_of_length_le (by omega)]at g1;refine⟨ts,g1,g2,?_,λK=>by have:=k1 K;rw[K.agg];omega⟩;rw[ff.length _ _ g1];omega
   .cases h2
  .cases hm
 have rl:row.length=P.cellsOf e/\0<row.length:=by
  unfold N1 at hm;split at hm
  .simp only[ai]at hm;obtain⟨r,h1,h2⟩:=hm;split at h2
   .rename_i hr;cases h2;exact hr
   .cases h2
  .cases hm
 rcases DataW.trod_slice hk hx with ⟨rfl,rfl⟩ |⟨a,len,cap,elems,ag,m,hfm,rfl,rfl,_,hl,hmx,hlen,hel,_,_⟩
 .refine⟨.sl [],?_,.mk [] (by simp[maxLen]) .nil,λK=>by simp[ox,Bc,K.nil]⟩;simp only[ff,TR];exact⟨.inl ⟨trivial,none,0,rfl,λ_=>rfl⟩,trivial⟩
 .have each:∀i,i<len->∃tA y,w.cells? 0 (a.add (i*P.cellsOf e)) (P.cellsOf e)=some tA/\DataW.trod enc P w 0 sp held m e tA=some y/\elems[i]? =some y:=by
   intro i hi;have h3:=hel i hi;have h6:elems[i]? =some (elems[i]'(by omega)):=dQ (by omega);rw[h6,ai]at h3;obtain⟨tA,h4,h5⟩:=h3;exact⟨tA,_,h4,h5,h6⟩
  by_cases h0:len=0
  .subst h0;refine⟨.sl [],?_,.mk [] (by simp[maxLen]) .nil,λK=>by simp[ox,Bc,K.sl]⟩;simp only[ff,TR];exact⟨.inl ⟨trivial,some a,cap,rfl,λh=>by cases h⟩,trivial⟩
  .obtain⟨cs0,y0,c0,_,_⟩:=each 0 (by omega);obtain⟨_,c1,c2⟩:=World.cells?_some c0;have c3:=c2 0 (by omega);rw[dQ (by omega)]at c3;have c4:=PD c3;simp only[Nat.zero_mul,Addr.add,if_true]at c4;obtain⟨b,aa,s⟩:=a;simp only at c4;obtain⟨rfl,hb⟩:=c4;have rows:∀q j,j+q=len->∃rows:U (List Tree),rows.length=q/\cJ w (Here w) rows b (aa+j*P.cellsOf e) (P.cellsOf e)/\pD row rows/\∀K:Bk H,Bc rows<=K.a ((elems.map (·.1)).drop j):=by
    intro q
    induction q with
    |zero=>intro j _;exact⟨[],rfl,by simp[cJ],.nil,λK=>by simp[Bc]⟩
    |succ q ihq=>
     intro j hj;obtain⟨rows,g1,g2,g3,k3⟩:=ihq (j+1) (by omega);obtain⟨csj,y,g4,g5,gy⟩:=each j (by omega);obtain⟨ts,g6,g7,_,k6⟩:=one m (by omega) _ _ g5;obtain⟨_,g8,g9⟩:=World.cells?_some g4;refine⟨ts::rows,by simp[g1],?_,.cons g7 g3,λK=>by have:=k3 K;have:=k6 K;rw[K.drop gy,Bc];omega⟩;simp only[cJ];refine⟨(ff.length _ _ g6).trans g8,abn _ _ _ _ g6 λi hi=>?_,?_⟩
     .rw[<- g9 i (by omega),addr_add,addr_add]
     .rw[show aa+j*P.cellsOf e+P.cellsOf e=aa+(j+1)*P.cellsOf e by rw[Nat.add_mul];omega];exact g2
   obtain⟨rows,g1,g2,g3,k3⟩:=rows len 0 (by omega);refine⟨.sl rows,?_,.mk rows (by omega) g3,λK=>by have:=k3 K;rw[List.drop_zero]at this;rw[K.sl,ox];omega⟩;simp only[ff,TR];exact⟨.inr ⟨b,aa,cap,P.cellsOf e,by rw[g1],by omega,hb,by simpa using g2⟩,trivial⟩
theorem Eb{cut:U TypeId}:∀(n:Nat)(t:TypeId)(sh:U CS),yv P cut n t=some sh->∀(fuel:Nat)(cs:U Value)(x:DataW H×List MemPlace),DataW.trod enc P w 0 sp held fuel t cs=some x->P3 P t x->
 ∃ts,ff w (Here w) ts cs/\dC sh ts/\∀K:Bk H,kI ts<=K.b x.1
 | 0,_,_,h,_,_,_,_,_=>by simp[yv]at h
 |n+1,t,sh,h,fuel,cs,x,hx,hz=>by
  unfold yv at h;split at h
  .rename_i k hk;cases h;obtain⟨v,rfl,rfl,hw⟩:=DataW.trod_int hk hx;exact⟨[.sc (.int k v)],by simp[ff,TR,oneCell],by simp only[dC,Fit];exact⟨⟨v,rfl,hw⟩,trivial⟩,λK=>by simp[kI,ox,K.int]⟩
  .rename_i hk;cases h;obtain⟨v,rfl,rfl⟩:=DataW.trod_bool hk hx;exact⟨[.sc (.bool v)],by simp[ff,TR,oneCell],by simp only[dC,Fit];exact⟨⟨v,rfl⟩,trivial⟩,λK=>by simp[kI,ox,K.bool]⟩
  .rename_i hk;cases h;obtain⟨v,rfl,rfl,hw⟩:=DataW.trod_string hk hx;exact⟨[.sc (.string v)],by simp[ff,TR,oneCell],by simp only[dC,Fit];exact⟨⟨v,rfl,hw⟩,trivial⟩,λK=>by simp[kI,ox,K.str]⟩
  .rename_i e hk;split at h
   .split at h
    .rename_i row hmr;cases h;have⟨tr,g1,g2,k1⟩:=anG hk hmr fuel cs x hx;exact⟨[tr],g1,by simp only[dC,Fit];exact⟨g2,trivial⟩,λK=>by have:=k1 K;simp only[kI];omega⟩
    cases h;rcases DataW.trod_slice hk hx with ⟨rfl,rfl⟩ |⟨a,len,cap,elems,ag,m,_,rfl,rfl,_,hl,hm,hlen,hel,_,_⟩
    .exact⟨[.sc (.slice none 0 0)],by simp[ff,TR,oneCell],by simp[dC,Fit],λK=>by simp[kI,ox,K.nil]⟩
    .exact⟨[.sc (.slice (some a) len cap)],by simp[ff,TR,oneCell],by simp[dC,Fit],λK=>by simp[kI,ox,K.sl]⟩
   simp only[ai]at h;obtain⟨r,h1,h2⟩:=h;split at h2
   .rename_i hr;cases h2;rcases DataW.trod_slice hk hx with ⟨rfl,rfl⟩ |⟨a,len,cap,elems,ag,m,_,rfl,rfl,_,hl,hm,hlen,hel,_,_⟩
    .refine⟨[.sl []],?_,by simp only[dC,Fit];exact⟨⟨[],rfl,by simp[maxLen],by simp⟩,trivial⟩,λK=>by simp[kI,ox,Bc,K.nil]⟩;simp only[ff,TR];exact⟨.inl ⟨trivial,none,0,rfl,λ_=>rfl⟩,trivial⟩
    .have hzw:∀k,k=(elems.length+ag.length)*P.bytesOf e\/k∈DataW.weightsAll P e (elems.map (·.1))->k<=reachBytes:=by
      intro k hkk;refine hz k ?_;simp only[DataW.weights,hk,aO,aZ,length_map];rcases hkk with h |h
      .exact .inl h
      .exact .inr (.inl h)
     have each:∀i,i<len->∃tA y,w.cells? 0 (a.add (i*P.cellsOf e)) (P.cellsOf e)=some tA/\DataW.trod enc P w 0 sp held m e tA=some y/\P3 P e y/\elems[i]? =some y:=by
      intro i hi;have h3:=hel i hi;have h6:elems[i]? =some (elems[i]'(by omega)):=dQ (by omega);rw[h6,ai]at h3;obtain⟨tA,h4,h5⟩:=h3;exact⟨tA,_,h4,h5,λk hk=>hzw k (.inr (yF (mem_map.2 ⟨_,List.getElem_mem (by omega),rfl⟩) k hk)),h6⟩
     have hbytes:len*No r<=reachBytes:=by
      have h1:=hzw _ (.inl rfl);have h2:len*No r<=(elems.length+ag.length)*P.bytesOf e:=Nat.mul_le_mul (by omega) hr.2.2;omega
     by_cases h0:len=0
     .subst h0;refine⟨[.sl []],?_,by simp only[dC,Fit];exact⟨⟨[],rfl,by simp[maxLen],by simp⟩,trivial⟩,λK=>by simp[kI,ox,Bc,K.sl]⟩;simp only[ff,TR];exact⟨.inl ⟨trivial,some a,cap,rfl,λh=>by cases h⟩,trivial⟩
     .obtain⟨cs0,y0,c0,_,_,_⟩:=each 0 (by omega);obtain⟨_,c1,c2⟩:=World.cells?_some c0;have c3:=c2 0 (by omega);rw[dQ (by omega)]at c3;have c4:=PD c3;simp only[Nat.zero_mul,Addr.add,if_true]at c4;obtain⟨b,aa,s⟩:=a;simp only at c4;obtain⟨rfl,hb⟩:=c4;have rows:∀m j,j+m=len->∃rows:U (List Tree),rows.length=m/\cJ w (Here w) rows b (aa+j*P.cellsOf e) (P.cellsOf e)/\(∀ x∈rows,dC r x)/\∀K:Bk H,Bc rows<=K.a ((elems.map (·.1)).drop j):=by
       intro m
       induction m with
       |zero=>intro j _;exact⟨[],rfl,by simp[cJ],by simp,λK=>by simp[Bc]⟩
       |succ m ih=>
        intro j hj;obtain⟨rows,g1,g2,g3,k3⟩:=ih (j+1) (by omega);obtain⟨csj,y,g4,g5,g5z,gy⟩:=each j (by omega);obtain⟨ts,g6,g7,k6⟩:=Eb n e r h1 _ _ _ g5 g5z;obtain⟨_,g8,g9⟩:=World.cells?_some g4;refine⟨ts::rows,by simp[g1],?_,λx hx=>?_,λK=>by have:=k3 K;have:=k6 K;rw[K.drop gy,Bc];omega⟩
        .simp only[cJ];refine⟨(ff.length _ _ g6).trans g8,abn _ _ _ _ g6 λi hi=>?_,?_⟩
         .rw[<- g9 i (by omega),addr_add,addr_add]
         .rw[show aa+j*P.cellsOf e+P.cellsOf e=aa+(j+1)*P.cellsOf e by rw[Nat.add_mul];omega];exact g2
        .rcases aO.1 hx with rfl |hx
         .exact g7
         .exact g3 x hx
      obtain⟨rows,g1,g2,g3,k3⟩:=rows len 0 (by omega);refine⟨[.sl rows],?_,by simp only[dC,Fit];exact⟨⟨rows,rfl,⟨by omega,by rw[g1];exact hbytes⟩,g3⟩,trivial⟩,λK=>by have:=k3 K;rw[List.drop_zero]at this;rw[K.sl];simp only[kI,ox];omega⟩;simp only[ff,TR];exact⟨.inr ⟨b,aa,cap,P.cellsOf e,by rw[g1],by omega,hb,by simpa using g2⟩,trivial⟩
   .cases h2
  .rename_i fs hk;simp only[ai]at h;obtain⟨r,h1,h2⟩:=h;split at h2
   .rename_i hr;injection h2 with h2;subst h2;obtain⟨xs,m,_,rfl,hl,hxs,hf⟩:=DataW.trod_struct hk hx;obtain⟨ts,g1,g2,k1⟩:=Ry m cs (yv P cut n) (λ t sh hsh cs x hx hz=>Eb n t sh hsh m cs x hx hz) fs.toList xs 0 r h1 (by simpa using hxs) (λ i f x hi hxi=>by
     have hi':fs[i]? =some f:=(by simpa using hi);have:=hf i f hi';rw[hxi]at this;refine⟨this,λk hk'=>hz k ?_⟩;simp only[DataW.weights,hk];exact DataW.weights_mem_each (j:=i) (t:=f.type) (d:=x.1) (by simp[hi']) (by simp[hxi]) k hk')
    refine⟨ts,?_,g2,λK=>by have:=k1 K;rw[K.agg];omega⟩;rw[List.drop_zero,take_of_length_le (by omega)]at g1;exact g1
   .cases h2
  .rename_i m e hk;simp only[ai]at h;obtain⟨r,h1,h2⟩:=h;split at h2
   .rename_i hr;cases h2;obtain⟨xs,q,_,rfl,hl,hxs,hf⟩:=DataW.trod_array hk hx;have part:∀i j,j+i=m->∃ts,ff w (Here w) ts (cs.drop (j*P.cellsOf e))/\dC (List.replicate i r).flatten ts/\∀K:Bk H,kI ts<=K.a ((xs.map (·.1)).drop j):=by
     intro i
     induction i with
     |zero=>
      intro j hj;refine⟨[],?_,by simp[dC],λK=>by simp[kI]⟩;have:j=m:=(by omega);subst this;rw[List.drop_of_length_le (by rw[hl,<- hr.2,<- hr.1];omega)];simp[ff]
     |succ i ih=>
      intro j hj;obtain⟨ts,g1,g2,k1⟩:=ih (j+1) (by omega);have:=hf j (by omega);have hxj:xs[j]? =some (xs[j]'(by omega)):=dQ (by omega);rw[hxj]at this;obtain⟨ts0,g3,g4,k3⟩:=Eb n e r h1 _ _ _ this (λ k hk'=>hz k (by
       simp only[DataW.weights,hk];exact yF (mem_map.2 ⟨_,List.getElem_mem (by omega),rfl⟩) k hk'))
      refine⟨ts0++ts,?_,?_,λK=>by have:=k1 K;have:=k3 K;rw[K.drop hxj,zY];omega⟩
      .have:=ff.append _ _ g3 g1;rw[show (j+1)*P.cellsOf e=j*P.cellsOf e+P.cellsOf e by rw[Nat.add_mul];omega,<- List.drop_drop,List.take_append_drop]at this;exact this
      .rw[List.replicate_succ,List.flatten_cons];exact dC.append _ _ g4 g2
    obtain⟨ts,g1,g2,k1⟩:=part m 0 (by omega);exact⟨ts,by simpa using g1,g2,λK=>by have:=k1 K;rw[List.drop_zero]at this;rw[K.agg];omega⟩
   .cases h2
  .cases h
inductive VS where
 |one (c:CS)
 |agg (cs:List CS)
def KB(P:Program)(cut:U TypeId)(t:TypeId):J VS:=
 (yv P cut 12 t).bind λsh=>match P.underlying t with
  |some (.struct _) |some (.array _ _)=>some (.agg sh)
  |_=>match sh with
   |[c]=>some (.one c)
   |_=>none
def FG:VS->TV->Prop
 | .one c,x=>∃y,x= .s y/\Fit c y
 | .agg cs,x=>∃ys,x= .a ys/\dC cs ys
def Vx:U VS->U TV->Prop
 |[],[]=>True
 |s::ss,x::xs=>FG s x/\Vx ss xs
 |_,_=>False
def L4:TV->Nat
 | .s y=>ox y
 | .a ys=>kI ys
def yd:U TV->Nat
 |[]=>0
 |x::xs=>L4 x+yd xs
theorem ak9{cut:U TypeId}{t:TypeId}{s:VS}{v:Value}{d:DataW H}{ps:U MemPlace}{b0:Nat}(hs:KB P cut t=some s)(hval:Value.okWide P w .any b0 t v)(hd:DataW.Trod enc P w 0 sp held t v d ps)(hz:∀k∈d.weights P t,k<=reachBytes):
 ∃x,ro w (Here w) x v/\FG s x/\∀K:Bk H,L4 x<=K.b d:=by
 obtain⟨fuel,hf⟩:=hd;simp only[KB,ai]at hs;obtain⟨sh,h1,h2⟩:=hs;obtain⟨ts,g1,g2,k1⟩:=Eb 12 t sh h1 _ _ _ hf hz;have hag:∀cs:Array Value,v= .agg cs->s= .agg sh->∃x,ro w (Here w) x v/\FG s x/\∀K:Bk H,L4 x<=K.b d:=by
  rintro cs rfl rfl;exact⟨.a ts,⟨cs,rfl,by simpa[Value.cells]using g1⟩,⟨ts,rfl,g2⟩,k1⟩
 unfold Value.okWide at hval;split at h2
 .rename_i hu;injection h2 with h2;rw[hu]at hval;obtain⟨cs,rfl,_⟩:=hval;exact hag cs rfl h2.symm
 .rename_i hu;injection h2 with h2;rw[hu]at hval;obtain⟨cs,rfl,_⟩:=hval;exact hag cs rfl h2.symm
 .rename_i hu1 hu2;split at h2
  .rename_i c;cases h2;have hone:v.cells.toList=[v]:=by
    cases hu:P.underlying t with
    |none=>rw[hu]at hval;simp[Cell.okWide,Cell.ok,hu]at hval
    |some d=>
     rw[hu]at hval;cases v<;>first |rfl |(exfalso;revert hval;cases d<;>simp_all [Cell.okWide,Cell.ok])
   rw[hone]at g1
   match ts,g1,g2,k1 with
   |[y],g1,g2,k1=>
    simp only[dC]at g2;exact⟨.s y,g1.1,⟨y,rfl,g2.1⟩,λK=>by have:=k1 K;simpa[kI,L4]using this⟩
   |[],g1,_,_=>exact g1.elim
   |_::_::_,g1,_,_=>exact g1.2.elim
  .cases h2
theorem ZQ{cut:U TypeId}:∀{ts:U TypeId}{ss:U VS}{vs:U Value}{ds:U (DataW H)}{ps:U MemPlace}{b0:Nat},ts.mapM (KB P cut)=some ss->
 (∀ (j:Nat) t v,ts[j]? =some t->vs[j]? =some v->Value.okWide P w .any b0 t v)->DataW.TrodAll enc P w 0 sp held ts vs ds ps->(∀ k∈DataW.weightsEach P ts ds,k<=reachBytes)->∃xs,m4 w (Here w) xs vs/\Vx ss xs/\∀K:Bk H,yd xs<=K.a ds
 |[],ss,vs,ds,ps,b0,hs,_,hd,_=>by
  obtain⟨rfl,rfl,rfl⟩:=trodAll_nil hd;simp only[List.mapM_nil,Option.pure_def,aA]at hs;subst hs;exact⟨[],trivial,trivial,λK=>by simp[yd]⟩
 |t::ts,ss,vs,ds,ps,b0,hs,hval,hd,hz=>by
  obtain⟨v,vs',d,ds',p,q,rfl,rfl,rfl,h0,r0⟩:=trodAll_cons hd;simp only[List.mapM_cons,Option.bind_eq_bind,ai,Option.pure_def,aA]at hs;obtain⟨s,h1,ss',h2,rfl⟩:=hs;obtain⟨x,g1,g2,k1⟩:=ak9 h1 (hval 0 t v rfl rfl) h0 (λ k hk=>hz k (by simp only[DataW.weightsEach,aZ];exact .inl hk));obtain⟨xs,g3,g4,k2⟩:=ZQ h2 (λ j t v h h'=>hval (j+1) t v h h') r0 (λ k hk=>hz k (by simp only[DataW.weightsEach,aZ];exact .inr hk));exact⟨x::xs,⟨g1,g3⟩,⟨g2,g4⟩,λK=>by have:=k1 K;have:=k2 K;rw[yd,K.a1];omega⟩
theorem Rz{β:Nat->J cT}{I:Nat->Prop}:∀(xs:U TV)(vs:U Value),m4 w I xs vs->bj P β w I (xs.map TV.av) vs
 |[],[],_=>by simp[bj]
 |x::xs,v::vs,h=>by
  simp only[aF,bj];refine⟨?_,Rz xs vs h.2⟩;have h1:=h.1;cases x with
  |s y=>simp only[TV.av,VR];exact h1
  |a cs=>
   obtain⟨us,rfl,h2⟩:=h1;simp only[TV.av,VR];refine⟨us,rfl,?_⟩;have:∀(cs:U Tree) (us:U Value),ff w I cs us->bj P β w I (cs.map AV.t) us:=by
    intro cs
    induction cs with
    |nil=>intro us h;cases us<;>first |(simp [bj];done) |exact h.elim
    |cons c cs ih=>intro us h;cases us with
     |nil=>exact h.elim
     |cons u us=>simp only[aF,bj,VR];exact⟨h.1,ih us h.2⟩
   exact this cs us.toList h2
 |[],_::_,h=>h.elim
 |_::_,[],h=>h.elim
end
section
variable {H:Type} {enc:TypeId×Value->H} {P:Program}
theorem aga{f:Func}{s:ChangeSpec}{apart fresh handsOn again:Bool}{W W':World}{args:Array Value}{v:Value}{ds gs:U (DataW H)}{before pa pv:U MemPlace}
 (hW:DataW.Whole enc P f.params.toList s.vars apart W args.toList ds gs before)
 (hres:∀(b:Nat)(sp:Nat->Bool)(hd:Bool),DataW.TrodAll enc P W' b sp hd f.resultTypes.toList (v.resultList f.resultTypes.size) (s.fn H (ds++gs)).results [])
 (hargs:∀sp:Nat->Bool,(∀ p∈before,sp p.block=true)->DataW.TrodAll enc P W' 0 sp true f.params.toList args.toList (s.fn H (ds++gs)).args pa)
 (hvars:∀sp:Nat->Bool,(∀ p∈before,sp p.block=true)->DataW.TrodVars enc P W' sp s.vars (s.fn H (ds++gs)).vars pv)
 (hps:before=pa++pv) (hb:Below W.heap.size W W')
 (hok:∀(j:Nat)(t:TypeId)(r:Value),f.resultTypes[j]? =some t->(v.resultList f.resultTypes.size)[j]? =some r->Value.okWide P W' .any 0 t r):
 s.post enc P f apart fresh handsOn again W args v W':=by
 have hlt:∀p∈before,p.block<W.heap.size:=λp hp=>hW.lt p hp;have hold:∀p∈before,(λ b=>decide (b<W.heap.size)) p.block=true:=λp hp=>by simpa using hlt p hp
 refine⟨ds,gs,before,[],pa,pv,hW,hres _ _ _,hargs _ hold,hvars _ hold,World.keptBut_mono (λ p hp=>⟨hp,?_⟩) (hb.frame (· ∈before)),λ_=>?_⟩
 .rw[hps,aZ]at hp;exact Or.inr hp
 .obtain⟨_,_,_,_,_,hz,hn⟩:=hW;refine⟨hok,_,_,([]++pa)++pv,⟨[]++pa,pv,trodAll_append (hargs _ (λ _ _=>rfl)) (hres _ _ _),hvars _ (λ _ _=>rfl),rfl,?_,?_⟩,?_⟩
  .intro b aa hp;have hin:MemPlace.cell b aa∈before:=(by rw[hps];simpa using hp);rw[hb.frozen (hlt _ hin)];exact hz b aa hin
  .intro ha;have:=hn ha;rw[hps]at this;simpa using this
  .intro p hp _;rw[hps];simpa using hp
theorem KY(hl:laidOutB P=true){W W':World}(hb:Below W.heap.size W W'):∀{ts:U TypeId}{vs:U Value}{ds:U (DataW H)}{ps:U MemPlace},(∀ t∈ts,P.readableRec t=true/\t<P.types.size)->
 DataW.TrodAll enc P W 0 (λ _=>true) true ts vs ds ps->(∀ x∈ps,x.block<W.heap.size)->∀sp:Nat->Bool,(∀ p∈ps,sp p.block=true)->DataW.TrodAll enc P W' 0 sp true ts vs ds ps
 |[],vs,ds,ps,_,hd,_,sp,_=>by
  obtain⟨rfl,rfl,rfl⟩:=trodAll_nil hd;exact trodAll_mk0
 |t::ts,vs,ds,ps,ht,hd,hlt,sp,hsp=>by
  obtain⟨v,vs',d,ds',p,q,rfl,rfl,rfl,h0,r0⟩:=trodAll_cons hd;obtain⟨h1,h2⟩:=ht t (by simp)
  exact trodAll_cons_mk (WideElems.Trod_stays hl h1 h2 h0 (λ x hx=>hb.same (hlt x (by simp[hx]))) (λ x hx=>hsp x (by simp[hx])))
   (KY hl hb (λ t ht'=>ht t (by simp[ht'])) r0 (λ x hx=>hlt x (by simp[hx])) sp (λ x hx=>hsp x (by simp[hx])))
theorem RA{w:World}{base:Nat}{sp:Nat->Bool}{held:Bool}:∀{ts:U TypeId}{vs:U Value}{ds:U (DataW H)}{ps:U MemPlace},DataW.TrodAll enc P w base sp held ts vs ds ps->ds.length=ts.length
 |[],_,_,_,h=>by
  obtain⟨_,rfl,_⟩:=trodAll_nil h;rfl
 |_::_,_,_,_,h=>by
  obtain⟨_,_,_,_,_,_,_,rfl,_,_,h2⟩:=trodAll_cons h;simp[RA h2]
theorem adr:∀{ts:U TypeId}{ds:U (DataW H)}{vt:U TypeId}{gs:U (DataW H)},ds.length=ts.length->∀k∈DataW.weightsEach P ts ds,k∈DataW.weightsEach P (ts++vt) (ds++gs)
 |[],[],_,_,_,k,h=>by simp[DataW.weightsEach]at h
 |t::ts,d::ds,vt,gs,hl,k,h=>by
  simp only[DataW.weightsEach,aZ,cons_append]at h ⊢;rcases h with h |h
  .exact .inl h
  .exact .inr (adr (by simpa using hl) k h)
 |[],_::_,_,_,h,_,_=>by simp at h
 |_::_,[],_,_,h,_,_=>by simp at h
theorem abp{cut:U TypeId}{C:Checked}{f:FuncId}{fn:Func}{s:ChangeSpec}{ss:U VS}{tb:TypeId}(hl:laidOutB C.prog=true)(hread:(fn.params.toList.all λt=>C.prog.readableRec t&&decide (t<C.prog.types.size))=true)
 (hss:fn.params.toList.mapM (KB C.prog cut)=some ss) (hvars:s.vars=[]) (hres:fn.resultTypes=#[tb]) (hb:C.prog.underlying tb=some .bool)
 (hs:∀ds:U (DataW H),ds.length=fn.params.toList.length->s.fn H ds={ results:=[.lit (.bool true)],args:=ds })
 {B:Nat->Prop} (By:∀xs,Vx ss xs->(∀ n,B n->yd xs<=n)->rh C.prog f (xs.map TV.av) (.one (.d (.s (.sc (.bool true))))))
 {W:World} {base:Nat} {args:Array Value} {ds gs:U (DataW H)} {before:U MemPlace}
 (hval:∀(j:Nat) t v,fn.params[j]? =some t->args[j]? =some v->Value.okWide C.prog W .any base t v)
 (hW:DataW.Whole enc C.prog fn.params.toList s.vars false W args.toList ds gs before)
 {vt:U TypeId} (hz:(DataW.weightsEach C.prog (fn.params.toList++vt) (ds++gs)).all (· <=reachBytes)=true) (hv:j9 W (Here W)) (hB:∀n,B n->∃K:Bk H,K.a ds<=n):
 Calls C.prog f args W λe W'=>∃v,e= .returned v/\s.post enc C.prog fn false true false false W args v W':=by
 have hW':=hW;obtain⟨p,q,hA,hV,rfl,_,_⟩:=hW;rw[hvars]at hV;obtain⟨rfl,rfl⟩:=trodVars_none hV;have hlen:=RA hA;obtain⟨xs,g1,g2,g3⟩:=ZQ hss (λ j t v h1 h2=>hval j t v (by simpa using h1) (by simpa using h2)) hA (λ k hk=>by
  have:=all_eq_true.1 hz k (adr hlen k hk);simpa using this)
 simp only[append_nil]at hW';have hlt:∀x∈p,x.block<W.heap.size:=λx hx=>hW'.lt x hx;refine((By xs g2 (λ n hn=>by have⟨K,hK⟩:=hB n hn;exact Nat.le_trans (g3 K) hK)).2 W (Here W) args (λ _ h=>h) hv (Rz _ _ g1)).mono λe W' ⟨v,I',he,hbel,_,_,_,hr⟩=>⟨v,he,?_⟩;simp only[rx,yn,ro,TR]at hr;obtain⟨rfl,_⟩:=hr;have hfn:s.fn H (ds++[])={ results:=[.lit (.bool true)],args:=ds }:=by rw[append_nil];exact hs ds hlen
 refine aga (pa:=p) (pv:=[]) hW' (λ b sp hd=>?_) (λ sp hsp=>?_) (λ sp _=>?_) (by simp) hbel (ok_one (by rw[hres]) rfl (okWide_bool_mk hb _))
 .rw[hfn,hres];exact trodAll_mk1 (shut_bool hb _)
 .rw[hfn];refine KY hl hbel (λ t ht=>?_) hA hlt sp hsp;have:=all_eq_true.1 hread t ht;simpa using this
 .rw[hfn,hvars];rfl
end
def We:AG->TypeDesc->Bool
 | .slice e,.slice e'=>e==e'
 | .arr n e,.array n' e'=>n==n'&&e==e'
 | .struct fs,.struct fa=>fa.toList.map (λ f=>(f.offset,f.type))==fs
 | .bool,.bool=>true
 | .str,.string=>true
 | .int k,.int k'=>k==k'
 | .map k e,.map k' e'=>k==k'&&e==e'
 | .other,_=>true
 |_,_=>false
def YY:Value->Value->Bool
 | .int k a,.int k' b=>k==k'&&a==b
 | .bool a,.bool b=>a==b
 | .string a,.string b=>decide (a=b)
 | .slice none 0 0,.slice none 0 0=>true
 | .pointer none,.pointer none=>true
 | .nilFunc,.nilFunc=>true
 | .nilIface,.nilIface=>true
 | .map none,.map none=>true
 |_,_=>false
theorem ads{a b:Value}(h:YY a b=true):a=b:=by
 unfold YY at h;split at h<;>simp_all
def PE:U Value->U Value->Bool
 |[],[]=>true
 |a::as,b::bs=>YY a b&&PE as bs
 |_,_=>false
theorem MW:∀{a b:U Value},PE a b=true->a=b
 |[],[],_=>rfl
 |a::as,b::bs,h=>by simp only[PE,aL]at h;rw[ads h.1,MW h.2]
 |[],_::_,h=>by simp[PE]at h
 |_::_,[],h=>by simp[PE]at h
def Ys(P:Program)(t:TypeId)(ti:np):Bool:=
 match P.info? t,P.underlying t with
 |some info,some d=>match info.zero with
  |some z=>info.size==ti.size&&info.bytes==ti.bytes&&s8 d==ti.agg&&We ti.k d&&ti.zero.all kB&&ti.zero.length==ti.size&&
   (ti.cmp.isEmpty || match d with
    | .struct fa=>!P.stoodInHeld t&&!P.eqGuardType P.depth t&&gp P 0 fa.toList ti.cmp
    | .array _ _=>ti.cmp==[9]&&!P.eqGuardType P.depth t
    |_=>false)&&PE z.cells.toList ti.zero&&tg ti.agg z
  |none=>false
 |_,_=>false
theorem agb{k:AG}{d:TypeDesc}(h:We k d=true):RM k d:=by
 unfold We at h;split at h
 .simp only[beq_iff_eq]at h;subst h;rfl
 .simp only[aL,beq_iff_eq]at h;obtain⟨rfl,rfl⟩:=h;rfl
 .rename_i fs fa;exact⟨fa,rfl,by simpa using h⟩
 .rfl
 .rfl
 .simp only[beq_iff_eq]at h;subst h;rfl
 .simp only[aL,beq_iff_eq]at h;obtain⟨rfl,rfl⟩:=h;rfl
 .trivial
 .cases h
theorem adt{P:Program}{t:TypeId}{ti:np}(h:Ys P t ti=true):ma P t ti:=by
 unfold Ys at h;split at h
 .rename_i info d h1 h2;split at h
  .rename_i z h3;simp only[aL,beq_iff_eq]at h;obtain⟨⟨⟨⟨⟨⟨⟨⟨a1,a2⟩,a3⟩,a4⟩,a5⟩,a6⟩,a7⟩,a8⟩,a9⟩:=h;refine⟨⟨info,d,z,h1,h2,a1,a2,h3,MW a8,a3,agb a4⟩,a5,a6,λinfo' z' e1 e2=>by rw[h1]at e1;cases e1;rw[h3]at e2;cases e2;exact a9,λhne=>?_⟩;simp only[Bool.or_eq_true]at a7;rcases a7 with a7 |a7
   .exact absurd (List.isEmpty_iff.1 a7) hne
   .split at a7
    .rename_i fa;simp only[aL,Bool.not_eq_true']at a7;exact .inl ⟨fa,h2,a7.1.1,a7.1.2,a7.2⟩
    .simp only[aL,Bool.not_eq_true',beq_iff_eq]at a7;exact .inr a7
    .cases a7
  .cases h
 .cases h
def RB(l:U (TypeId×np)):eo:=λt=>(l.find? λp=>p.1==t).map (·.2)
theorem alc{P:Program}{l:U (TypeId×np)}(h:(l.all λp=>Ys P p.1 p.2)=true):fe P (RB l):=by
 intro t ti ht;simp only[RB,dN]at ht;obtain⟨p,hp,rfl⟩:=ht;have h1:=List.find?_some hp;simp only[beq_iff_eq]at h1;subst h1;exact adt (all_eq_true.1 h p (List.mem_of_find?_eq_some hp))
inductive CT(ι:Type) where
 |int (k:IntKind)
 |bool
 |str
 |sl (e:CT ι)
 |st (i:ι)
 |any
 |mp (k v:CT ι)
 deriving DecidableEq
structure SE where
 ι:Type
 dec:DecidableEq ι
 T:ι->Type
 row:(i:ι)->T i->List Tree
instance (E:SE):DecidableEq E.ι:=E.dec
section
variable (E:SE)
@[reducible] def CT.T:CT E.ι->Type
 | .int _=>Int
 | .bool=>Bool
 | .str=>ByteArray
 | .sl e=>U (CT.T e)
 | .st i=>E.T i
 | .any=>Tree
 | .mp k v=>U (CT.T k×CT.T v)
def CT.row:(c:CT E.ι)->CT.T E c->U Tree
 | .int k,n=>[.sc (.int k n)]
 | .bool,b=>[.sc (.bool b)]
 | .str,s=>[.sc (.string s)]
 | .sl e,l=>[.sl (List.map (CT.row e) l)]
 | .st i,x=>E.row i x
 | .any,x=>[x]
 | .mp _ _,_=>[.sl []]
def CT.one{ι:Type}:CT ι->Bool
 | .st _=>false
 |_=>true
def CT.tv:(c:CT E.ι)->CT.T E c->TV
 | .int k,n=> .s (.sc (.int k n))
 | .bool,b=> .s (.sc (.bool b))
 | .str,s=> .s (.sc (.string s))
 | .sl e,l=> .s (.sl (List.map (CT.row E e) l))
 | .st i,x=> .a (E.row i x)
 | .any,x=> .s x
 | .mp _ _,_=> .s (.sl [])
def HL:U (CT E.ι)->Type
 |[]=>Unit
 |c::l=>CT.T E c×HL l
def HL.row:(l:U (CT E.ι))->HL E l->U Tree
 |[],_=>[]
 |c::l,h=>CT.row E c h.1++HL.row l h.2
def HL.nw:(l:U (CT E.ι))->HL E l->U TV
 |[],_=>[]
 |c::l,h=>CT.tv E c h.1::HL.nw l h.2
end
structure Arr(E:SE) where
 i:E.ι
 c:CT E.ι
 f:E.T i->List (CT.T E c)
 g:List (CT.T E c)->Option (E.T i)
structure SX extends SE where
 cX:ι->List (CT ι)
 get:(i:ι)->T i->HL toSE (cX i)
 make:(i:ι)->HL toSE (cX i)->T i
 ml:∀i x,row i x=HL.row toSE (cX i) (get i x)
 gC:∀i h,row i (make i h)=HL.row toSE (cX i) h
 flat:∀i,(cX i).all CT.one=true
 gv:Nat->Option ((c:CT ι)×CT.T toSE c)
 zc:∀g,(gv g).map (λ p=>CT.row toSE p.1 p.2)=(vy g).map λr=>r.map Tree.sc
 ar:TypeId->Option (Arr toSE):=λ_=>none
 aqI:∀t a,ar t=some a->a.c.one=true/\(∀ x,row a.i x=((a.f x).map (CT.row toSE a.c)).flatten)/\∀l x,a.g l=some x->a.f x=l:=by intro t a h;cases h
section
variable (X:SX)
abbrev SX.C:=CT X.ι
abbrev SX.t(c:CT X.ι):Type:=CT.T X.toSE c
def CT.sz:CT X.ι->Nat
 | .st i=>(X.cX i).length
 |_=>1
inductive DV where
 |c (t:CT X.ι) (x:CT.T X.toSE t)
 |agg (cs:List DV)
 |eV (vs:List DV)
 |own (k aa len:Nat)
 |ptr (k row aa:Nat)
 |qt (k:Nat) (n:Int) (aa:Nat)
 |tj (k row aa m:Nat) (n:Int)
 |rp (t:CT X.ι) (x:CT.T X.toSE t) (aa:Nat)
 |wy (t:CT X.ι) (x:CT.T X.toSE t) (aa m:Nat) (n:Int)
 |fn (f:FuncId) (first caps:List DV)
 |ek (as:List (CT X.ι)) (r:CT X.ι) (φ:HL X.toSE as->Option (CT.T X.toSE r))
 |mp (k:Nat)
 |oz (k len:Nat)
 |raw (v:Value)
 |nil
 |ub
 |skip
 |undef
inductive bm where
 |cells (sz:Nat) (rows:List (List (DV X)))
 |en (c:CT X.ι) (l:List (CT.T X.toSE c))
 |map (kc vc:CT X.ι) (l:List (CT.T X.toSE kc×CT.T X.toSE vc))
structure dE where
 env:List (Nat×DV X)
 obj:List (Nat×Option (bm X))
 nx:Nat
 log:List Nat
variable {X}
mutual
def den:DV X->AV
 | .c t x=>(CT.tv X.toSE t x).av
 | .agg cs=> .agg (bQ cs)
 | .eV vs=> .eV (bQ vs)
 | .own k aa len=> .own k aa len
 | .ptr k row aa=> .ptr k row aa
 | .qt k n aa=> .ptr k n.toNat aa
 | .tj k row aa _ n=> .ptr k row (aa+n.toNat)
 | .rp t x aa=> .eM (CT.row X.toSE t x) aa
 | .wy t x aa _ n=> .eM (CT.row X.toSE t x) (aa+n.toNat)
 | .fn f first caps=> .fn f (bQ first) (bQ caps)
 | .ek as r φ=> .ek λts u=>∃h x,φ h=some x/\ts=HL.nw X.toSE as h/\u=CT.tv X.toSE r x
 | .mp k=> .mp k
 | .oz k len=> .oz k len
 | .raw v=>cv v
 | .nil=> .da
 | .ub=> .ub
 | .skip=> .undef
 | .undef=> .undef
def bQ:List (DV X)->List AV
 |[]=>[]
 |x::xs=>den x::bQ xs
end
theorem nU:∀l:U (DV X),bQ l=l.map den
 |[]=>rfl
 |x::xs=>by simp only[bQ,aF,nU xs]
def bG:bm X->aT
 | .cells sz rows=>⟨sz,rows.map bQ⟩
 | .en c l=>⟨CT.sz X c,aI (l.map (CT.row X.toSE c))⟩
 | .map kc vc l=>⟨l.length,l.map λp=>[(CT.tv X.toSE kc p.1).av,(CT.tv X.toSE vc p.2).av]⟩
def iw(u:U (Nat×Option (bm X))):U (Nat×Option aT):=u.map λp=>(p.1,p.2.map bG)
def ie(o:U (Nat×Option (bm X)))(k:Nat):J (bm X):=(lk o k).join
def fi(e:U (Nat×DV X))(t:Nat):DV X:=(lk e t).getD .undef
def dE.st(s:dE X):St:=⟨λ t=>den (fi s.env t),λk=>(ie s.obj k).map bG,λ_=>none⟩
def jq(a b:CT X.ι)(x:CT.T X.toSE a):J (CT.T X.toSE b):=
 match decEq a b with
 |isTrue h=>some (h ▸ x)
 |isFalse _=>none
theorem rF{a b:CT X.ι}{x:CT.T X.toSE a}{y:CT.T X.toSE b}(h:jq a b x=some y):∃e:a=b,y=e ▸ x:=by
 unfold jq at h;split at h
 .rename_i e _;injection h with h;exact⟨e,h.symm⟩
 .cases h
def HL.cells:(l:U (CT X.ι))->HL X.toSE l->U (DV X)
 |[],_=>[]
 |c::l,h=> .c c h.1::HL.cells l h.2
theorem row_one{c:CT X.ι}(h:c.one=true)(x:CT.T X.toSE c):∃t,CT.row X.toSE c x=[t]/\CT.tv X.toSE c x= .s t:=by cases c<;>first |exact⟨_,rfl,rfl⟩ |cases h
theorem HL.qn:∀(l:U (CT X.ι))(h:HL X.toSE l),l.all CT.one=true->bQ (HL.cells l h)=(HL.row X.toSE l h).map AV.t
 |[],_,_=>rfl
 |c::l,h,ha=>by
  simp only[all_cons,aL]at ha;obtain⟨t,h1,h2⟩:=row_one ha.1 h.1;simp only[HL.cells,bQ,den,HL.row,h1,h2,TV.av,HL.qn l h.2 ha.2,cons_append,bT,aF]
theorem HL.oX:∀(l:U (CT X.ι))(h:HL X.toSE l),l.all CT.one=true->(HL.row X.toSE l h).length=l.length
 |[],_,_=>rfl
 |c::l,h,ha=>by
  simp only[all_cons,aL]at ha;obtain⟨t,h1,_⟩:=row_one ha.1 h.1;simp only[HL.row,h1,cons_append,bT,bC,HL.oX l h.2 ha.2]
theorem Ec(c:CT X.ι)(x:CT.T X.toSE c):(CT.row X.toSE c x).length=CT.sz X c:=by
 cases c<;>try rfl
 rename_i i;exact(congrArg List.length (X.ml i x)).trans (HL.oX _ _ (X.flat i))
def uV:(c:CT X.ι)->CT.T X.toSE c->U (DV X)
 | .st i,x=>HL.cells (X.cX i) (X.get i x)
 |c,x=>[.c c x]
theorem oZ(c:CT X.ι)(x:CT.T X.toSE c):bQ (uV c x)=(CT.row X.toSE c x).map AV.t:=by
 cases c<;>try rfl
 rename_i i;exact(HL.qn _ _ (X.flat i)).trans (congrArg (List.map AV.t) (X.ml i x).symm)
def vG:DV X->Bool
 | .agg _ | .eV _ | .undef | .skip | .raw _ | .c (.st _) _=>false
 |_=>true
theorem RD{x:DV X}(h:vG x=true):oU (den x)=true:=by
 cases x<;>try rfl
 case c t x=>cases t<;>first |rfl |simp[vG]at h
 all_goals simp[vG]at h
def cellsD:DV X->J (List (DV X))
 | .agg cs=>if cs.all vG then some cs else none
 | .c (.st i) x=>some (uV (.st i) x)
 | .eV _ | .undef | .skip | .raw _=>none
 |x=>some [x]
theorem aio{l:U (DV X)}(h:l.all vG=true):(bQ l).all oU=true:=by
 rw[nU,List.all_map,all_eq_true];exact λx hx=>RD (all_eq_true.1 h x hx)
theorem Ed{x:DV X}{cs:U (DV X)}(h:cellsD x=some cs):cellsOf (den x)=some (bQ cs):=by
 cases x
 case c t x=>
  cases t
  case st i=>
   simp only[cellsD,aA]at h;subst h;simp only[den,CT.tv,TV.av,cellsOf,oZ];show(if ((X.row i x).map AV.t).all oU then some ((X.row i x).map AV.t)else none)=some ((X.row i x).map AV.t);rw[aX];rw[List.all_map,all_eq_true];exact λ_ _=>rfl
  all_goals simp only[cellsD,aA]at h;subst h;rfl
 case agg l=>
  simp only[cellsD]at h;split at h
  .cases h;simp only[den,cellsOf];rw[aX (aio ‹_›)]
  .cases h
 all_goals simp only[cellsD,aA,reduceCtorEq]at h;try (subst h;rfl)
def t7:Value->DV X
 | .slice none 0 0=> .nil
 | .int k n=> .c (.int k) n
 | .bool b=> .c .bool b
 | .string s=> .c .str s
 |v=> .raw v
theorem aip(v:Value):den (t7 (X:=X) v)=cv v:=by
 unfold t7;split<;>rfl
theorem Cv(l:U Value):bQ (l.map (t7 (X:=X)))=l.map cv:=by
 rw[nU,map_map];exact map_congr_left λv _=>aip v
def YL(env:Nat->DV X):Operand->DV X
 | .tmp t=>env t
 | .const v=>t7 v
 | .global g=>match X.gv g with
  |some p=> .rp p.1 p.2 0
  |none=> .undef
 | .func f=> .fn f [] []
theorem Vy(env:Nat->DV X)(x:Operand):den (YL env x)=lL (λ t=>den (env t)) x:=by
 cases x with
 |global g=>
  have h:=X.zc g;simp only[YL,lL];cases h1:X.gv g with
  |none=>
   rw[h1]at h;cases h2:vy g with
   |none=>rfl
   |some r=>rw[h2]at h;cases h
  |some p=>
   rw[h1]at h;cases h2:vy g with
   |none=>rw[h2]at h;cases h
   |some r=>
    rw[h2]at h;injection h with h;simp only[den,h]
 |const v=>exact aip _
 |tmp t=>rfl
 |func f=>rfl
end
def bo{α:Type}(l:U α)(n:Int):J α:=bif decide (0<=n)then l[n.toNat]? else none
def sub{α:Type}(l:U α)(aa len:Nat):U α:=(l.drop aa).take len
def cN(n:Int)(len:Nat):Bool:=decide (0<=n)&&decide (n<(len:Int))
def gV{α β:Type}(a:α)(f:α->β):β:=f a
def bP(lo len ln n bytes:Nat):Bool:=decide (lo=len)&&decide (ln=n)&&decide ((len+n)*bytes<=140737488355328)&&decide (len+n<=maxLen)
def aE(a b:Nat):Bool:=decide (a=b)
def yG(l h:Int)(len:Nat):Bool:=decide (0<=l)&&decide (l<=h)&&decide (h<=(len:Int))
def Vz(a b:ByteArray):Bool:=Op.bytesLess a.toList b.toList
def VA(a b:ByteArray):Bool:=decide (a.size+b.size<=maxLen)
abbrev iN(n:Int):Int:=n
abbrev bN(b:Bool):Bool:=b
def VB{A:Type}:U Bool->J A->J A
 |[],k=>k
 |c::cs,k=>bif c then VB cs k else none
section
variable {X:SX} {A:Type}
abbrev KK(X:SX)(A:Type):=DV X->U (Nat×Option (bm X))->U Nat->U Nat->J A
def X2(t:Bool)(x y:DV X):DV X:=
 match x,y with
 | .c a p,.c b q=>match decEq b a with
  |isTrue h=> .c a (bif t then p else h ▸ q)
  |isFalse _=>bif t then .c a p else .c b q
 |x,y=>bif t then x else y
def Hz(agg:Bool)(size:Nat)(cs:U (DV X)):J (DV X):=
 if cs.length=size then(if agg then some (.agg cs)else match cs with |[x]=>if vG x then some x else none |_=>none)else none
def N0(agg:Bool)(size:Nat)(c:CT X.ι)(y:CT.T X.toSE c)(aa:Nat):J (DV X):=
 match c,y with
 | .st i,y=>if aa=0/\agg=true/\size=(X.cX i).length then some (.c (.st i) y)else Hz agg size (((uV (.st i) y).drop aa).take size)
 |c,y=>Hz agg size (((uV c y).drop aa).take size)
def Kj(d:DV X)(c:CT X.ι):J (CT.T X.toSE c):=
 match d,c with
 | .c a x,c=>jq a c x
 | .nil,.sl _=>some []
 | .nil,.any=>some (.sl [])
 |_,_=>none
def yH:U (DV X)->(l:U (CT X.ι))->J (HL X.toSE l)
 |[],[]=>some ()
 |d::ds,c::l=>(Kj d c).bind λx=>(yH ds l).bind λh=>some (x,h)
 |_,_=>none
def DO(d:DV X)(i:X.ι):J (CT.T X.toSE (.st i)):=
 match d with
 | .agg cs=>(yH cs (X.cX i)).bind λh=>some (X.make i h)
 | .c a x=>jq a (.st i) x
 |_=>none
def dat(d:DV X)(c:CT X.ι):J (CT.T X.toSE c):=
 match c with
 | .st i=>DO d i
 |c=>Kj d c
def mk1(c:CT X.ι):U (DV X)->J (CT.T X.toSE c)
 |[d]=>Kj d c
 |_=>none
def HV(c:CT X.ι)(ds:U (DV X)):J (CT.T X.toSE c):=
 match c with
 | .st i=>(yH ds (X.cX i)).bind λh=>some (X.make i h)
 |c=>mk1 c ds
def Ks(r:U (DV X))(aa:Nat)(cs:U (DV X)):U (DV X):=r.take aa++cs++r.drop (aa+cs.length)
variable (T:eo) (am:TypeId->Option (CT X.ι))
def Rr(t:TypeId)(x:DV X)(get:Nat->J (bm X))(k:KK X A):J A:=
 (T t).bind λti=>match x with
 | .ptr kk row aa=>(get kk).bind λo=>match o with
  | .cells _ rows=>(rows[row]?).bind λr=>(Hz ti.agg ti.size ((r.drop aa).take ti.size)).bind λv=>k v [] [kk] []
  |_=>none
 | .qt kk n aa=>(get kk).bind λo=>match o with
  | .en c l=>(bo l n).bind λy=>(N0 ti.agg ti.size c y aa).bind λv=>k v [] [kk] []
  |_=>none
 | .rp c y aa=>(N0 ti.agg ti.size c y aa).bind λv=>k v [] [] []
 |_=>none
def Q1(t:TypeId)(x y:DV X)(get:Nat->J (bm X))(k:KK X A):J A:=
 (T t).bind λti=>(cellsD y).bind λcs=>if cs.length=ti.size then match x with
 | .ptr kk row aa=>(get kk).bind λo=>match o with
  | .cells sz rows=>(rows[row]?).bind λr=>if aa+cs.length<=r.length then k .undef [(kk,some (.cells sz (rows.set row (Ks r aa cs))))] [kk] [kk]else none
  |_=>none
 | .qt kk n aa=>(get kk).bind λo=>match o with
  | .en c l=>(bo l n).bind λy=>if aa+cs.length<=CT.sz X c then(HV c (Ks (uV c y) aa cs)).bind λz=>k .undef [(kk,some (.en c (l.set n.toNat z)))] [kk] [kk]else none
  |_=>none
 |_=>none else none
def Ll(t:TypeId)(x:DV X)(f:Nat)(k:KK X A):J A:=
 (zT T t f).bind λp=>match x with
 | .ptr kk row aa=>k (.ptr kk row (aa+p.1)) [] [] []
 | .qt kk n aa=>k (.qt kk n (aa+p.1)) [] [] []
 | .rp c y aa=>k (.rp c y (aa+p.1)) [] [] []
 |_=>none
def Z3(t:TypeId)(x:DV X)(f:Nat)(k:KK X A):J A:=
 (zT T t f).bind λp=>match x with
 | .agg cs=>(Hz p.2.agg p.2.size ((cs.drop p.1).take p.2.size)).bind λv=>k v [] [] []
 | .c (.st i) y=>(Hz p.2.agg p.2.size (((uV (.st i) y).drop p.1).take p.2.size)).bind λv=>k v [] [] []
 |_=>none
def Lm(t:TypeId)(x j:DV X)(get:Nat->J (bm X))(k:KK X A):J A:=
 (T t).bind λti=>match ti.k,j with
 | .slice e,.c (.int _) n=>(T e).bind λei=>match x with
  | .c (.sl c) l=>if CT.sz X c=ei.size then(bo l n).bind λy=>k (.rp c y 0) [] [] []else none
  | .own kk aa len=>(get kk).bind λo=>match o with
   | .en c _=>if CT.sz X c=ei.size then bif cN n len then k (.qt kk ((aa:Int)+iN n) 0) [] [kk] []else none else none
   | .cells sz _=>if sz=ei.size then bif cN n len then k (.ptr kk (aa+n.toNat) 0) [] [kk] []else none else none
   | .map _ _ _=>none
  |_=>none
 | .arr m e,.c (.int _) n=>(T e).bind λei=>bif cN n m then match x with
  | .ptr kk row aa=>k (.ptr kk row (aa+n.toNat*ei.size)) [] [] []
  | .qt kk r aa=>k (.qt kk r (aa+n.toNat*ei.size)) [] [] []
  | .rp c y aa=>k (.rp c y (aa+n.toNat*ei.size)) [] [] []
  |_=>none
  else none
 |_,_=>none
def VD(x:DV X)(j:Nat)(k:KK X A):J A:=
 match x with
 | .eV vs=>(vs[j]?).bind λv=>k v [] [] []
 |_=>none
def HY(op:BinOp)(kd:IntKind)(a b:Int):(DV X)×Option Bool:=
 match op with
 | .add=>(.c (.int kd) (kd.wrap (a+b)),none)
 | .sub=>(.c (.int kd) (kd.wrap (a -b)),none)
 | .mul=>(.c (.int kd) (kd.wrap (a*b)),none)
 | .quo=>(.c (.int kd) (kd.wrap (a.tdiv b)),some (b !=0))
 | .rem=>(.c (.int kd) (a.tmod b),some (b !=0))
 | .and=>(.c (.int kd) (bits .and kd a b),none)
 | .or=>(.c (.int kd) (bits .or kd a b),none)
 | .xor=>(.c (.int kd) (bits .xor kd a b),none)
 | .andNot=>(.c (.int kd) (bits .andNot kd a b),none)
 | .shl=>(.c (.int kd) (kd.wrap (a*2 ^ b.toNat)),some (decide (0<=b)&&decide (b<=kd.bits)))
 | .shr=>(.c (.int kd) (a/2 ^ b.toNat),some (decide (0<=b)&&decide (b<=kd.bits)))
 | .eql=>(.c .bool (a==b),none)
 | .neq=>(.c .bool (a !=b),none)
 | .lss=>(.c .bool (decide (a<b)),none)
 | .leq=>(.c .bool (decide (a<=b)),none)
 | .gtr=>(.c .bool (decide (a>b)),none)
 | .geq=>(.c .bool (decide (a>=b)),none)
def abq:Nat->DV X->DV X->J Bool
 | 0,.c (.int j) a,.c (.int k) b=>if j=k then some (iN a==iN b)else none
 | 1,.c .bool a,.c .bool b=>some (bN a==bN b)
 | 2,.c .str a,.c .str b=>some (a.toList==b.toList)
 |_,_,_=>none
def vW:U Nat->U (DV X)->U (DV X)->J Bool
 |[],[],[]=>some true
 |k::ks,x::xs,y::ys=>(abq k x y).bind λa=>(vW ks xs ys).bind λb=>some (a&&b)
 |_,_,_=>none
def Nm:DV X->J (List (DV X))
 | .agg cs=>some cs
 | .c (.st i) y=>some (uV (.st i) y)
 |_=>none
def Wc(op:BinOp)(t:TypeId)(x y:DV X)(k:KK X A):J A:=
 match x,y with
 | .c (.int kd) a,.c (.int yk) b=>if kd=yk\/op= .shl\/op= .shr then match (HY op kd a b:DV X×Option Bool).2 with
  |none=>k (HY op kd a b).1 [] [] []
  |some g=>bif g then k (HY op kd a b).1 [] [] []else none
  else none
 | .c .str a,.c .str b=>match op with
  | .eql=>k (.c .bool (a.toList==b.toList)) [] [] []
  | .neq=>k (.c .bool (!(a.toList==b.toList))) [] [] []
  | .lss=>k (.c .bool (Vz a b)) [] [] []
  | .gtr=>k (.c .bool (!(Vz a b || a.toList==b.toList))) [] [] []
  | .add=>bif VA a b then k (.c .str (a++b)) [] [] []else none
  |_=>none
 | .c .bool a,.c .bool b=>(T t).bind λti=>match ti.k,op with
  | .bool,.eql=>k (.c .bool (bN a==bN b)) [] [] []
  | .bool,.neq=>k (.c .bool (!(bN a==bN b))) [] [] []
  |_,_=>none
 |x,y=>(Nm x).bind λxs=>(Nm y).bind λys=>(T t).bind λti=>if ti.cmp=[]then none else(vW ti.cmp xs ys).bind λb=>match op with
  | .eql=>k (.c .bool b) [] [] []
  | .neq=>k (.c .bool (!b)) [] [] []
  |_=>none
def QQ(op:UnOp)(x:DV X)(k:KK X A):J A:=
 match op,x with
 | .not,.c .bool b=>k (.c .bool (!b)) [] [] []
 | .neg,.c (.int kd) n=>k (.c (.int kd) (kd.wrap (0 -iN n))) [] [] []
 |_,_=>none
def JH(mx:Bool)(kd:IntKind):Int->U (DV X)->J Int
 |a,[]=>some a
 |a,.c (.int k') b::r=>if k'=kd then JH mx kd (if mx then max a b else min a b) r else none
 |_,_=>none
def L7(mx:Bool)(args:U (DV X))(k:KK X A):J A:=
 match args with
 | .c (.int kd) a::r=>(JH mx kd a r).bind λn=>k (.c (.int kd) n) [] [] []
 |_=>none
def Wa(t:TypeId)(x:DV X)(k:KK X A):J A:=
 (T t).bind λti=>match ti.k,x with
 | .slice _,.c (.sl _) l=>k (.c (.int .i64) (l.length:Int)) [] [] []
 | .slice _,.own _ _ len=>k (.c (.int .i64) (len:Int)) [] [] []
 | .slice _,.oz _ len=>k (.c (.int .i64) (len:Int)) [] [] []
 | .slice _,.nil=>k (.c (.int .i64) (0:Int)) [] [] []
 | .str,.c .str s=>k (.c (.int .i64) (s.size:Int)) [] [] []
 |_,_=>none
def ZR(place:Nat->J (Nat×Nat)):U (DV X)->U (Nat×DV X)->J (List (DV X))
 |cells,[]=>some cells
 |cells,(j,x)::ag=>(place j).bind λp=>(cellsD x).bind λcs=>
  if cs.length=p.2/\p.1+cs.length<=cells.length then ZR place (Ks cells p.1 cs) ag else none
def Z2(t:TypeId)(parts:U (Nat×DV X))(k:KK X A):J A:=
 (T t).bind λti=>match ti.k with
 | .struct fs=>if fs.all (λ p=>(T p.2).isSome)then
  (ZR (λ j=>(fs[j]?).bind λp=>(T p.2).bind λui=>some (p.1,ui.size)) (ti.zero.map t7) parts).bind λcells=>k (.agg cells) [] [] []else none
 | .arr _ e=>(T e).bind λei=>(ZR (λ j=>some (j*ei.size,ei.size)) (ti.zero.map t7) parts).bind λcells=>k (.agg cells) [] [] []
 |_=>none
def Kf(c:CT X.ι):Nat->U (Nat×DV X)->J (List (CT.T X.toSE c))
 |_,[]=>some []
 |n,(j,x)::r=>if j=n then(dat x c).bind λy=>(Kf c (n+1) r).bind λl=>some (y::l)else none
def HZ(i:Nat)(t:TypeId)(len:Nat)(parts:U (Nat×DV X))(k:KK X A):J A:=
 (T t).bind λti=>match ti.k with
 | .slice e=>(T e).bind λei=>(am e).bind λc=>if ei.size=0\/len*ei.size>2 ^ 24\/CT.sz X c≠ei.size\/parts.length≠len then none else
  (Kf c 0 parts).bind λl=>k (.own (cR i) 0 len) [(cR i,some (.en c l))] [] []
 |_=>none
def Z1(i:Nat)(e:TypeId)(k:KK X A):J A:=
 (T e).bind λti=>k (.ptr (cR i) 0 0) [(cR i,some (.cells ti.size [ti.zero.map t7]))] [] []
def V2(i:Nat)(x:DV X)(k:KK X A):J A:=
 (cellsD x).bind λcs=>k (.ptr (cR i) 0 0) [(cR i,some (.cells cs.length [cs]))] [] []
def As(d:Int):J (DV X)->J Int
 |none=>some d
 |some (.c (.int _) n)=>some n
 |_=>none
def ZZ(t:TypeId)(x:DV X)(lo hi:J (DV X))(get:Nat->J (bm X))(k:KK X A):J A:=
 (T t).bind λti=>match ti.k with
 | .slice e=>(T e).bind λei=>match x with
  | .own kk aa len=>(get kk).bind λo=>if (bG o).sz=ei.size then(As 0 lo).bind λl=>(As len hi).bind λh=>
   bif yG l h len then k (.own kk (aa+l.toNat) (h.toNat -l.toNat)) [] [kk] []else none else none
  | .c (.sl c) xs=>if CT.sz X c=ei.size then(As 0 lo).bind λl=>(As xs.length hi).bind λh=>
   bif yG l h xs.length then k (.c (.sl c) (sub xs l.toNat (h.toNat -l.toNat))) [] [] []else none else none
  |_=>none
 |_=>none
def V1(y:DV X)(c:CT X.ι)(get:Nat->J (bm X)):J (Nat×List (CT.T X.toSE c)×List Nat):=
 match y with
 | .own kk aa len=>(get kk).bind λo=>match o with
  | .en b l=>(jq (.sl b) (.sl c) l).bind λl=>some (len,sub l aa len,[kk])
  |_=>none
 | .c b l=>(jq b (.sl c) l).bind λ(l:List (CT.T X.toSE c))=>some (l.length,l,[])
 |_=>none
def VE{α:Type}:Nat->U α->U α
 | 0,l=>l
 |n+1,l=>l.drop (n+1)
def abr(i:Nat)(t:TypeId)(x y:DV X)(get:Nat->J (bm X))(k:KK X A):J A:=
 (T t).bind λti=>match ti.k with
 | .slice e=>(T e).bind λei=>(am e).bind λc=>if CT.sz X c=ei.size then(V1 y c get).bind λs=>match x with
  | .own kk aa len=>(get kk).bind λo=>match o with
   | .en b l=>(jq (.sl b) (.sl c) l).bind λ(l:List (CT.T X.toSE c))=>bif bP (VE aa l).length len s.2.1.length s.1 ei.bytes then gV (VE aa l++s.2.1) λr=>k (.own (cR i) 0 r.length) [(cR i,some (.en c r)),(kk,none)] (kk::s.2.2) [kk]else none
   |_=>none
  | .nil=>bif bP 0 0 s.2.1.length s.1 ei.bytes then gV s.2.1 λr=>k (.own (cR i) 0 r.length) [(cR i,some (.en c r))] s.2.2 []else none
  |_=>none
  else none
 |_=>none
def VF(i:Nat)(b:Builtin)(args:U (DV X))(cX:U TypeId)(get:Nat->J (bm X))(k:KK X A):J A:=
 match b,args,cX with
 | .len,[x],[t]=>Wa T t x k
 | .max,args,_=>L7 true args k
 | .min,args,_=>L7 false args k
 | .append,[x,y],[t,u]=>if t=u then abr T am i t x y get k else none
 |_,_,_=>none
def L5(i:Nat)(o:Op)(ρ:Operand->DV X)(get:Nat->J (bm X))(k:KK X A):J A:=
 match o with
 | .move x=>k (ρ x) [] [] []
 | .assign x=>k (ρ x) [] [] []
 | .pick c a b=>match ρ c with | .c .bool t=>k (X2 t (ρ a) (ρ b)) [] [] [] |_=>none
 | .alloc e=>Z1 T i e k
 | .box _ x=>V2 i (ρ x) k
 | .build t parts=>Z2 T t (parts.toList.map λp=>(p.1,ρ p.2)) k
 | .buildSlice t len parts=>HZ T am i t len (parts.toList.map λp=>(p.1,ρ p.2)) k
 | .load t a=>Rr T t (ρ a) get k
 | .store t a x=>Q1 T t (ρ a) (ρ x) get k
 | .binOp op t x y _=>Wc T op t (ρ x) (ρ y) k
 | .unOp op _ x=>QQ op (ρ x) k
 | .makeFunc (.func f) first caps=>k (.fn f (first.toList.map ρ) (caps.toList.map ρ)) [] [] []
 | .slice t x lo hi none=>ZZ T t (ρ x) (lo.map ρ) (hi.map ρ) get k
 | .fieldAddr t x f=>Ll T t (ρ x) f k
 | .field t x f=>Z3 T t (ρ x) f k
 | .indexAddr t x j=>Lm T t (ρ x) (ρ j) get k
 | .extract x j=>VD (ρ x) j k
 | .call { callee:= .builtin b,args:=args,argTypes:=cX }=>VF T am i b (args.toList.map ρ) cX.toList get k
 |_=>none
end
section
variable {X:SX} {A:Type} {T:eo} {am:TypeId->Option (CT X.ι)} {get:Nat->Option (bm X)} {k:KK X A} {r:A} {i:Nat}
def fw(get:Nat->J (bm X)):Nat->J aT:=λj=>(get j).map bG
theorem eD{rd:U Nat}{j:Nat}{o:bm X}(hj:j∈rd)(h:get j=some o):dL rd (fw get) j=some (bG o):=by simp[dL,hj,fw,h]
theorem kV(l:U (DV X)):(bQ l).length=l.length:=by simp[nU]
theorem j4(l:U (DV X))(a b:Nat):bQ ((l.drop a).take b)=((bQ l).drop a).take b:=by simp[nU,map_take,map_drop]
theorem MX{α:Type}{l:U α}{n:Int}{x:α}(h:bo l n=some x):0<=n/\l[n.toNat]? =some x:=by
 unfold bo at h;by_cases hn:0<=n
 .simpa[hn]using h
 .simp[hn]at h
theorem ajp(t:Bool)(x y:DV X):den (X2 t x y)=LS t (den x) (den y):=by
 rw[U1];have base:∀x y:DV X,den (bif t then x else y)=if t=true then den x else den y:=λx y=>by cases t<;>rfl
 unfold X2;split
 .rename_i a p b q;split
  .rename_i h _;subst h;cases t<;>rfl
  .exact base _ _
 .exact base _ _
theorem Cw{agg:Bool}{size:Nat}{cs:U (DV X)}{v:DV X}(h:Hz agg size cs=some v):part' agg size (bQ cs)=some (den v):=by
 unfold Hz at h;unfold part';rw[kV];split at h
 .rename_i hl;rw[aX hl];cases agg with
  |true=>simp only[if_true,aA]at h ⊢;subst h;rfl
  |false=>
   simp only[Bool.false_eq_true,if_false]at h ⊢
   match cs,h with
   |[x],h=>
    simp only at h;split at h
    .rename_i hx;cases h;simp only[bQ];rw[aX (RD hx)]
    .cases h
   |[],h=>cases h
   |_::_::_,h=>cases h
 .cases h
theorem PG{agg:Bool}{size aa:Nat}{c:CT X.ι}{y:CT.T X.toSE c}{v:DV X}(h:Hz agg size (((uV c y).drop aa).take size)=some v):part' agg size ((((CT.row X.toSE c y).drop aa).take size).map AV.t)=some (den v):=by
 have:=Cw h;rw[j4,oZ]at this;rw[<- this,map_take,map_drop]
theorem ZT{agg:Bool}{size aa:Nat}{c:CT X.ι}{y:CT.T X.toSE c}{v:DV X}(h:N0 agg size c y aa=some v):part' agg size ((((CT.row X.toSE c y).drop aa).take size).map AV.t)=some (den v):=by
 cases c
 case st j=>
  simp only[N0]at h;split at h
  .rename_i hh;obtain⟨rfl,rfl,rfl⟩:=hh;cases h;have hl:(CT.row X.toSE (.st j) y).length=(X.cX j).length:=Ec (.st j) y;rw[List.drop_zero,take_of_length_le (by omega)];unfold part';rw[aX (by simpa using hl)];rfl
  .exact PG h
 all_goals exact PG h
theorem ajq{t:TypeId}{x:DV X}(h:Rr T t x get k=some r):∃cL rd dv ab,KR T t (den x) cL (dL rd (fw get))=some ab/\jk ab.obs/\ab.v=den dv/\ab.upd=[]/\k dv [] rd []=some r:=by
 unfold Rr at h;unfold KR;rw[ai]at h;obtain⟨ti,h1,h⟩:=h;simp only[h1,af];split at h
 .rename_i kk row aa;rw[ai]at h;obtain⟨o,h2,h⟩:=h;split at h
  .rename_i sz rows;rw[ai]at h;obtain⟨rw',h3,h⟩:=h;rw[ai]at h;obtain⟨v,h4,h⟩:=h;refine⟨.none,[kk],v,⟨den v,[],[]⟩,?_,trivial,rfl,rfl,h⟩;have h5:=Cw h4;rw[j4]at h5;simp[den,eD (List.mem_singleton_self kk) h2,bG,h3,h5,pv]
  .cases h
 .rename_i kk n aa;rw[ai]at h;obtain⟨o,h2,h⟩:=h;split at h
  .rename_i c l;rw[ai]at h;obtain⟨y,h3,h⟩:=h;rw[ai]at h;obtain⟨v,h4,h⟩:=h;have⟨_,h6⟩:=MX h3;refine⟨.row ((CT.row X.toSE c y).map AV.t),[kk],v,⟨den v,[],[(aI (l.map (CT.row X.toSE c)))[n.toNat]? =some ((CT.row X.toSE c y).map AV.t)]⟩,?_,?_,rfl,rfl,h⟩
   .have h5:=ZT h4;rw[map_take,map_drop]at h5;simp only[den,eD (List.mem_singleton_self kk) h2,af,bG,h5,mN]
   .simp[jk,aI,h6]
  .cases h
 .rename_i c y aa;have⟨v,h4,h⟩:=ai.1 h;refine⟨.none,[],v,⟨den v,[],[]⟩,?_,trivial,rfl,rfl,h⟩;simp only[den,ZT h4,af,pv]
 .cases h
theorem VG(a:U (DV X))(aa:Nat)(cs:U (DV X)):bQ (Ks a aa cs)=put' (bQ a) aa (bQ cs):=by simp[Ks,put',nU,map_take,map_drop]
theorem oC{a c:CT X.ι}{x:CT.T X.toSE a}{y:CT.T X.toSE c}(h:jq a c x=some y):den (.c a x)=den (.c c y)/\CT.row X.toSE a x=CT.row X.toSE c y:=by
 have⟨e,h⟩:=rF h;subst e;subst h;exact⟨rfl,rfl⟩
theorem PB{c:CT X.ι}(hc:c.one=true)(x:CT.T X.toSE c):[(CT.tv X.toSE c x).av]=(CT.row X.toSE c x).map AV.t:=by
 obtain⟨t,h1,h2⟩:=row_one hc x;rw[h1,h2];rfl
theorem aoZ{c:CT X.ι}(x:CT.T X.toSE c):wk (CT.tv X.toSE c x).av=(CT.tv X.toSE c x).av:=by cases c<;>rfl
theorem vX{d:DV X}{c:CT X.ι}{x:CT.T X.toSE c}(h:Kj d c=some x):wk (den d)=(CT.tv X.toSE c x).av:=by
 unfold Kj at h;split at h
 .rw[(oC h).1];exact aoZ x
 .cases h;rfl
 .cases h;rfl
 .cases h
theorem abu{d:DV X}{c:CT X.ι}{x:CT.T X.toSE c}(hc:c.one=true)(h:Kj d c=some x):vG d=true:=by
 cases d
 case c a y=>
  obtain⟨e,_⟩:=rF (show jq a c y=some x by cases c<;>exact h);subst e;cases a<;>first |rfl |simp[CT.one]at hc
 case nil=>rfl
 all_goals cases c<;>cases h
theorem yI:∀{ds:U (DV X)}{l:U (CT X.ι)}{h:HL X.toSE l},yH ds l=some h->l.all CT.one=true->(bQ ds).map wk=(HL.row X.toSE l h).map AV.t/\ds.all vG=true
 |[],[],h,_,_=>⟨rfl,rfl⟩
 |d::ds,c::l,h,hr,ha=>by
  simp only[yH]at hr;have⟨x,h1,hr⟩:=ai.1 hr;have⟨g,h2,hr⟩:=ai.1 hr;cases hr;simp only[all_cons,aL]at ha ⊢;have⟨i1,i2⟩:=yI h2 ha.2;simp only[bQ,aF,HL.row,List.map_append,i1,vX h1,i2,and_true,abu ha.1 h1];simp[<- PB ha.1 x]
 |[],_::_,_,hr,_=>by simp[yH]at hr
 |_::_,[],_,hr,_=>by simp[yH]at hr
theorem VH(j:X.ι)(h:HL X.toSE (X.cX j)):CT.row X.toSE (.st j) (X.make j h)=HL.row X.toSE (X.cX j) h:=X.gC j h
theorem anI{c:CT X.ι}(hc:c.one=true){ds:U (DV X)}{x:CT.T X.toSE c}(h:mk1 c ds=some x):(bQ ds).map wk=(CT.row X.toSE c x).map AV.t:=by
 match ds,h with
 |[d],h=>
  rw[<- PB hc x];simp only[bQ,aF,map_nil,vX h]
 |[],h=>cases h
 |_::_::_,h=>cases h
theorem yj{c:CT X.ι}{ds:U (DV X)}{x:CT.T X.toSE c}(h:HV c ds=some x):(bQ ds).map wk=(CT.row X.toSE c x).map AV.t:=by
 cases c
 case st j=>
  simp only[HV]at h;have⟨g,h1,h⟩:=ai.1 h;cases h;rw[(yI h1 (X.flat j)).1,VH]
 all_goals exact anI rfl h
theorem agk{d:DV X}{c:CT X.ι}(hc:c.one=true){x:CT.T X.toSE c}(h:Kj d c=some x):∃cs,cellsOf (den d)=some cs/\cs.map wk=(CT.row X.toSE c x).map AV.t:=by
 have hk:=abu hc h;have hd:=vX h;have he:cellsOf (den d)=some [den d]:=by
  have:=Ed (x:=d) (cs:=[d]) (by
   cases d
   case c t y=>cases t<;>first |rfl |simp[vG]at hk
   all_goals first |rfl |simp[vG]at hk)
  simpa[bQ]using this
 exact⟨_,he,by rw[<- PB hc x];simp[hd]⟩
theorem ajr{d:DV X}{c:CT X.ι}{x:CT.T X.toSE c}(h:dat d c=some x):∃cs,cellsOf (den d)=some cs/\cs.map wk=(CT.row X.toSE c x).map AV.t:=by
 cases c
 case st j=>
  replace h:DO d j=some x:=h
  cases d
  case agg cs=>
   simp only[DO]at h;have⟨g,h1,h⟩:=ai.1 h;cases h;have⟨i1,i2⟩:=yI h1 (X.flat j);refine⟨bQ cs,?_,by rw[i1,VH]⟩;simp only[den,cellsOf];rw[aX (aio i2)]
  case c a y=>
   replace h:jq a (.st j) y=some x:=h
   rw[(oC h).1];refine⟨(CT.row X.toSE (.st j) x).map AV.t,?_,?_⟩
   .show cellsOf (.agg _)=_;simp only[cellsOf];rw[aX]
    .rfl
    .rw[List.all_map,all_eq_true];exact λ_ _=>rfl
   .rw[map_map];rfl
  all_goals cases h
 all_goals exact agk rfl h
theorem ajs{t:TypeId}{x y:DV X}(h:Q1 T t x y get k=some r):∃cL kk u ab,UU T t (den x) (den y) cL (dL [kk] (fw get))=some ab/\jk ab.obs/\ab.v= .undef/\ab.upd=iw [(kk,u)]/\k .undef [(kk,u)] [kk] [kk]=some r:=by
 unfold Q1 at h;unfold UU;rw[ai]at h;obtain⟨ti,h1,h⟩:=h;rw[ai]at h;obtain⟨cs,h2,h⟩:=h;simp only[h1,Ed h2,af];split at h
 .rename_i hl;have hdl:(bQ cs).length=ti.size:=by rw[kV];exact hl
  simp only[hdl,if_true];split at h
  .rename_i kk row aa;rw[ai]at h;obtain⟨o,h3,h⟩:=h;split at h
   .rename_i sz rows;rw[ai]at h;obtain⟨rw',h4,h⟩:=h;split at h
    .rename_i hle;refine⟨.none,kk,_,⟨.undef,_,[]⟩,?_,trivial,rfl,rfl,h⟩;simp only[den,eD (List.mem_singleton_self kk) h3,af,bG,List.getElem?_map,h4,Option.map_some,kV];rw[aX (by rw[<- hl];exact hle)];simp[VG]
    .cases h
   .cases h
  .rename_i kk n aa;rw[ai]at h;obtain⟨o,h3,h⟩:=h;split at h
   .rename_i c l;rw[ai]at h;obtain⟨z,h4,h⟩:=h;split at h
    .rename_i hle;have⟨z',h5,h⟩:=ai.1 h;have⟨_,h6⟩:=MX h4;refine⟨.set ((CT.row X.toSE c z).map AV.t) (aI ((l.set n.toNat z').map (CT.row X.toSE c))),kk,_,⟨.undef,_,[(aI (l.map (CT.row X.toSE c)))[n.toNat]? =some ((CT.row X.toSE c z).map AV.t)/\aI ((l.set n.toNat z').map (CT.row X.toSE c))=dX ((aI (l.map (CT.row X.toSE c))).set n.toNat (put' ((CT.row X.toSE c z).map AV.t) aa (bQ cs)))]⟩,?_,?_,rfl,rfl,h⟩
     .simp only[den,eD (List.mem_singleton_self kk) h3,af,bG];rw[aX (by rw[length_map,Ec,<- hl];exact hle)];simp[bG]
     .refine⟨by simp[aI,h6],?_⟩;have h7:=yj h5;rw[VG,oZ]at h7;have hid:dX (aI (l.map (CT.row X.toSE c)))=aI (l.map (CT.row X.toSE c)):=(by simp[dX,aI,Function.comp_def,wk]);simp only[dX,List.map_set,h7];have:(aI (l.map (CT.row X.toSE c))).map (List.map wk)=aI (l.map (CT.row X.toSE c)):=hid;rw[this];simp[aI]
    .cases h
   .cases h
  .cases h
 .cases h
theorem PI{t:TypeId}{x:DV X}{f:Nat}(h:Ll T t x f k=some r):∃dv ab,yB T t (den x) f=some ab/\jk ab.obs/\ab.v=den dv/\ab.upd=[]/\k dv [] [] []=some r:=by
 unfold Ll at h;unfold yB;rw[ai]at h;obtain⟨⟨d,u⟩,h1,h⟩:=h;simp only[h1,af];split at h
 .exact⟨_,_,rfl,trivial,rfl,rfl,h⟩
 .exact⟨_,_,rfl,trivial,rfl,rfl,h⟩
 .exact⟨_,_,rfl,trivial,rfl,rfl,h⟩
 .cases h
theorem abv{t:TypeId}{x:DV X}{f:Nat}(h:Z3 T t x f k=some r):∃dv ab,UW T t (den x) f=some ab/\jk ab.obs/\ab.v=den dv/\ab.upd=[]/\k dv [] [] []=some r:=by
 unfold Z3 at h;unfold UW;rw[ai]at h;obtain⟨⟨d,u⟩,h1,h⟩:=h;simp only[h1,af];split at h
 .rw[ai]at h;obtain⟨v,h2,h⟩:=h;have h3:=Cw h2;rw[j4]at h3;exact⟨v,⟨den v,[],[]⟩,by simp only[den,h3,af,pv],trivial,rfl,rfl,h⟩
 .rename_i j y;have⟨v,h2,h⟩:=ai.1 h;have h3:=PG h2;rw[map_take,map_drop]at h3;refine⟨v,⟨den v,[],[]⟩,?_,trivial,rfl,rfl,h⟩;show(part' u.agg u.size (List.take u.size (List.drop d ((CT.row X.toSE (.st j) y).map AV.t)))).bind pv=_;rw[h3];rfl
 .cases h
theorem d9{α:Type}{b:Bool}{x:J α}{r:α}(h:(bif b then x else none)=some r):b=true/\x=some r:=by
 cases b with
 |true=>exact⟨rfl,h⟩
 |false=>cases h
theorem VI{n:Int}{len:Nat}(h:cN n len=true):0<=n/\n.toNat<len:=by simp only[cN,aL,aV]at h;omega
theorem pR{A:Type}:∀{cs:U Bool}{k:J A}{r:A},VB cs k=some r->(∀ c∈cs,c=true)/\k=some r
 |[],_,_,h=>⟨by simp,h⟩
 |c::cs,k,r,h=>by
  have⟨h1,h2⟩:=d9 h;have⟨h3,h4⟩:=pR h2;exact⟨λ x hx=>(aO.1 hx).elim (λ e=>e ▸ h1) (h3 x),h4⟩
theorem PK{t:TypeId}{x j:DV X}(h:Lm T t x j get k=some r):∃cL rd dv ab,l5 T t (den x) (den j) cL (dL rd (fw get))=some ab/\jk ab.obs/\ab.v=den dv/\ab.upd=[]/\k dv [] rd []=some r:=by
 unfold Lm at h;unfold l5;rw[ai]at h;obtain⟨ti,h1,h⟩:=h;simp only[h1,af];split at h
 .rename_i e kd n hk;rw[ai]at h;obtain⟨ei,h2,h⟩:=h;simp only[hk,den,CT.tv,TV.av,h2,af];split at h
  .rename_i c l;split at h
   .rename_i hs;rw[ai]at h;obtain⟨y,h3,h⟩:=h;have⟨h4,h5⟩:=MX h3;refine⟨.sL (CT.row X.toSE c y),[],_,⟨.eM (CT.row X.toSE c y) 0,[],[0<=n/\(l.map (CT.row X.toSE c))[n.toNat]? =some (CT.row X.toSE c y)]⟩,?_,?_,rfl,rfl,h⟩
    .simp only[den,CT.tv,TV.av];rw[aX (by rw[Ec];exact hs)];rfl
    .exact⟨h4,by simp[h5]⟩
   .cases h
  .rename_i kk aa len;rw[ai]at h;obtain⟨o,h3,h⟩:=h;split at h
   .rename_i c l;split at h
    .rename_i hs;have⟨h4,h⟩:=d9 h;have⟨h5,h6⟩:=VI h4;refine⟨.none,[kk],_,⟨.ptr kk (aa+n.toNat) 0,[],[0<=n/\n.toNat<len]⟩,?_,⟨h5,h6⟩,?_,rfl,h⟩
     .simp only[den,eD (List.mem_singleton_self kk) h3,af,bG];rw[aX hs];rfl
     .simp only[den,iN];congr 1;show aa+Int.toNat n=Int.toNat ((aa:Int)+n);have:(0:Int)<=n:=h5;omega
    .cases h
   .rename_i sz rows;split at h
    .rename_i hs;have⟨h4,h⟩:=d9 h;have⟨h5,h6⟩:=VI h4;refine⟨.none,[kk],_,⟨.ptr kk (aa+n.toNat) 0,[],[0<=n/\n.toNat<len]⟩,?_,⟨h5,h6⟩,rfl,rfl,h⟩;simp only[den,eD (List.mem_singleton_self kk) h3,af,bG];rw[aX hs];rfl
    .cases h
   .cases h
  .cases h
 .rename_i m e kd n hk;have⟨ei,h2,h⟩:=ai.1 h;simp only[hk,den,CT.tv,TV.av,h2,af];have⟨h4,h⟩:=d9 h;have⟨h5,h6⟩:=VI h4;split at h
  .exact⟨.none,[],_,_,rfl,⟨h5,h6⟩,rfl,rfl,h⟩
  .exact⟨.none,[],_,_,rfl,⟨h5,h6⟩,rfl,rfl,h⟩
  .exact⟨.none,[],_,_,rfl,⟨h5,h6⟩,rfl,rfl,h⟩
  .cases h
 .cases h
theorem VJ{x:DV X}{j:Nat}(h:VD x j k=some r):∃dv ab,Hf (den x) j=some ab/\jk ab.obs/\ab.v=den dv/\ab.upd=[]/\k dv [] [] []=some r:=by
 unfold VD at h;split at h
 .have⟨v,h2,h⟩:=ai.1 h;refine⟨v,⟨den v,[],[]⟩,?_,trivial,rfl,rfl,h⟩;simp[Hf,den,nU,h2,pv]
 .cases h
end
section
variable {X:SX} {A:Type} {T:eo} {am:TypeId->Option (CT X.ι)} {get:Nat->Option (bm X)} {k:KK X A} {r:A} {i:Nat}
theorem abw{op:BinOp}{kd:IntKind}{a b:Int}:∃v obs,UR op kd a b=some (v,obs)/\den (HY (X:=X) op kd a b).1= .t (.sc v)/\(∀ g,(HY (X:=X) op kd a b).2=some g->g=true->jk obs)/\((HY (X:=X) op kd a b).2=none->jk obs):=by
 cases op<;>refine⟨_,_,rfl,rfl,λg hg ht=>?_,λhn=>?_⟩<;>simp only[HY,aA,reduceCtorEq]at* <;>try trivial
 all_goals subst hg;simp_all [jk]
theorem adv{n:Nat}{x y:DV X}{b:Bool}(h:abq n x y=some b):Li n (den x) (den y)=some b:=by
 unfold abq at h;split at h
 .split at h
  .cases h;simp only[den,CT.tv,TV.av,Li];rw[aX ‹_›]
  .cases h
 .exact h
 .exact h
 .cases h
theorem MZ:∀{ks:U Nat}{xs ys:U (DV X)}{b:Bool},vW ks xs ys=some b->sP ks (bQ xs) (bQ ys)=some b
 |[],[],[],b,h=>h
 |k::ks,x::xs,y::ys,b,h=>by
  simp only[vW]at h;rw[ai]at h;obtain⟨p,h1,h⟩:=h;rw[ai]at h;obtain⟨q,h2,h⟩:=h;simp only[bQ,sP,adv h1,MZ h2,af,h]
 |[],_::_,_,_,h=>by simp[vW]at h
 |[],[],_::_,_,h=>by simp[vW]at h
 |_::_,[],_,_,h=>by simp[vW]at h
 |_::_,_::_,[],_,h=>by simp[vW]at h
theorem adw{x:DV X}{xs:U (DV X)}(h:Nm x=some xs):den x= .agg (bQ xs):=by
 unfold Nm at h;split at h
 .cases h;rfl
 .rename_i j y;cases h;rw[oZ];rfl
 .cases h
theorem agl{op:BinOp}{t:TypeId}{x y:DV X}(h:Wc T op t x y k=some r):∃dv ab,YA T op t (den x) (den y)=some ab/\jk ab.obs/\ab.v=den dv/\ab.upd=[]/\k dv [] [] []=some r:=by
 unfold Wc at h;split at h
 .rename_i kd a yk b;split at h
  .rename_i hk;have⟨v,obs,h1,h2,h3,h4⟩:=abw (X:=X) (op:=op) (kd:=kd) (a:=a) (b:=b);have fin:jk obs->k (HY op kd a b).1 [] [] []=some r->∃dv ab,YA T op t (den (.c (.int kd) a:DV X)) (den (.c (.int yk) b:DV X))=some ab/\jk ab.obs/\ab.v=den dv/\ab.upd=[]/\k dv [] [] []=some r:=by
    intro ho hkk;refine⟨_,⟨.t (.sc v),[],obs⟩,?_,ho,h2.symm,rfl,hkk⟩;simp only[den,CT.tv,TV.av,YA];rw[aX hk,h1];rfl
   split at h
   .rename_i hn;exact fin (h4 hn) h
   .rename_i g hg;have⟨hgt,h⟩:=d9 h;exact fin (h3 g hg hgt) h
  .cases h
 .split at h
  .exact⟨_,_,rfl,trivial,rfl,rfl,h⟩
  .exact⟨_,_,rfl,trivial,rfl,rfl,h⟩
  .exact⟨_,_,rfl,trivial,rfl,rfl,h⟩
  .exact⟨_,_,rfl,trivial,rfl,rfl,h⟩
  .have⟨hc,h⟩:=d9 h;exact⟨_,_,rfl,show _<=maxLen from of_decide_eq_true hc,rfl,rfl,h⟩
  .cases h
 .rw[ai]at h;obtain⟨ti,h1,h⟩:=h;split at h
  .rename_i hk;refine⟨_,⟨.t (.sc (.bool _)),[],[]⟩,?_,trivial,rfl,rfl,h⟩;simp only[den,CT.tv,TV.av,YA,h1,af,hk];rfl
  .rename_i hk;refine⟨_,⟨.t (.sc (.bool _)),[],[]⟩,?_,trivial,rfl,rfl,h⟩;simp only[den,CT.tv,TV.av,YA,h1,af,hk];rfl
  .cases h
 .rw[ai]at h;obtain⟨xs,h1,h⟩:=h;rw[ai]at h;obtain⟨ys,h2,h⟩:=h;rw[ai]at h;obtain⟨ti,h3,h⟩:=h;split at h
  .cases h
  .rename_i hc;have⟨b,h4,h⟩:=ai.1 h;have h5:=MZ h4;rw[adw h1,adw h2];split at h
   .refine⟨_,⟨.t (.sc (.bool b)),[],[]⟩,?_,trivial,rfl,rfl,h⟩;simp only[YA,h3,af];rw[aS hc,h5];rfl
   .refine⟨_,⟨.t (.sc (.bool (!b))),[],[]⟩,?_,trivial,rfl,rfl,h⟩;simp only[YA,h3,af];rw[aS hc,h5];rfl
   .cases h
theorem ajt{op:UnOp}{x:DV X}(h:QQ op x k=some r):∃dv ab,P2 op (den x)=some ab/\jk ab.obs/\ab.v=den dv/\ab.upd=[]/\k dv [] [] []=some r:=by
 unfold QQ at h;split at h
 .exact⟨_,_,rfl,trivial,rfl,rfl,h⟩
 .exact⟨_,_,rfl,trivial,rfl,rfl,h⟩
 .cases h
theorem RF(mx:Bool)(kd:IntKind):∀(l:U (DV X))(a n:Int),JH mx kd a l=some n->D5 mx kd a (bQ l)=some n
 |[],a,n,h=>h
 |x::l,a,n,h=>by
  cases x
  case c t y=>
   cases t
   case int k'=>
    simp only[JH]at h;simp only[bQ,den,CT.tv,TV.av,D5];split at h
    .rename_i hk;rw[aX hk];exact RF mx kd l _ _ h
    .cases h
   all_goals simp[JH]at h
  all_goals simp[JH]at h
theorem ZU{mx:Bool}{args:U (DV X)}(h:L7 mx args k=some r):∃dv ab,G2 mx (bQ args)=some ab/\jk ab.obs/\ab.v=den dv/\ab.upd=[]/\k dv [] [] []=some r:=by
 unfold L7 at h;split at h
 .rename_i kd a l;rw[ai]at h;obtain⟨n,h1,h⟩:=h;refine⟨_,⟨.t (.sc (.int kd n)),[],[]⟩,?_,trivial,rfl,rfl,h⟩;simp only[bQ,den,CT.tv,TV.av,G2];have:=RF mx kd l a n h1;simp only[this];rfl
 .cases h
theorem agm{t:TypeId}{x:DV X}(h:Wa T t x k=some r):∃cL dv ab,AF T t (den x) cL=some ab/\jk ab.obs/\ab.v=den dv/\ab.upd=[]/\k dv [] [] []=some r:=by
 unfold Wa at h;unfold AF;rw[ai]at h;obtain⟨ti,h1,h⟩:=h;simp only[h1,af];split at h
 .rename_i e c l hk;simp only[hk];exact⟨.num (l.length:Int),_,⟨.t (.sc (.int .i64 (l.length:Int))),[],[(l.length:Int)=((l.map (CT.row X.toSE c)).length:Int)]⟩,rfl,by simp[jk],rfl,rfl,h⟩
 .rename_i hk;simp only[hk];exact⟨.none,_,_,rfl,trivial,rfl,rfl,h⟩
 .rename_i hk;simp only[hk];exact⟨.none,_,_,rfl,trivial,rfl,rfl,h⟩
 .rename_i hk;simp only[hk];exact⟨.none,_,_,rfl,trivial,rfl,rfl,h⟩
 .rename_i hk;simp only[hk];exact⟨.none,_,_,rfl,trivial,rfl,rfl,h⟩
 .cases h
theorem PL(place:Nat->J (Nat×Nat)):∀(parts:U (Nat×DV X))(cells ab:U (DV X)),ZR place cells parts=some ab->FD place (bQ cells) (parts.map λp=>(p.1,den p.2))=some (bQ ab)
 |[],cells,ab,h=>by simp only[ZR,aA]at h;subst h;rfl
 |(j,x)::ag,cells,ab,h=>by
  simp only[ZR]at h;rw[ai]at h;obtain⟨⟨aa,size⟩,h1,h⟩:=h;rw[ai]at h;obtain⟨cs,h2,h⟩:=h;split at h
  .rename_i hl;simp only[aF,FD,h1,Ed h2,af,kV];rw[aX hl,<- VG];exact PL place ag _ _ h
  .cases h
theorem abx{t:TypeId}{parts:U (Nat×DV X)}(h:Z2 T t parts k=some r):∃dv ab,UX T t (parts.map λp=>(p.1,den p.2))=some ab/\jk ab.obs/\ab.v=den dv/\ab.upd=[]/\k dv [] [] []=some r:=by
 unfold Z2 at h;unfold UX;rw[ai]at h;obtain⟨ti,h1,h⟩:=h;simp only[h1,af];split at h
 .rename_i fs hk;split at h
  .rename_i ha;rw[ai]at h;obtain⟨cells,h2,h⟩:=h;have h3:=PL _ _ _ _ h2;rw[Cv]at h3;refine⟨_,⟨.agg (bQ cells),[],[]⟩,?_,trivial,rfl,rfl,h⟩;simp only[hk];rw[aX ha,h3];rfl
  .cases h
 .rename_i m e hk;rw[ai]at h;obtain⟨ei,h2,h⟩:=h;rw[ai]at h;obtain⟨cells,h3,h⟩:=h;have h4:=PL _ _ _ _ h3;rw[Cv]at h4;refine⟨_,⟨.agg (bQ cells),[],[]⟩,?_,trivial,rfl,rfl,h⟩;simp only[hk,h2,af,h4];rfl
 .cases h
theorem ZV(size:Nat)(c:CT X.ι)(hs:CT.sz X c=size)(z:U AV):∀(parts:U (Nat×DV X))(n:Nat)(l:U (CT.T X.toSE c))(done:U (List AV)),Kf c n parts=some l->done.length=n->
 ∃css:U (List AV),Ms size (done++List.replicate parts.length z) (parts.map λp=>(p.1,den p.2))=some (done++css)/\css.map (λ r=>r.map wk)=aI (l.map (CT.row X.toSE c))
 |[],n,l,done,h,_=>by
  simp only[Kf,aA]at h;subst h;exact⟨[],by simp[Ms],rfl⟩
 |(j,x)::ag,n,l,done,h,hd=>by
  simp only[Kf]at h;split at h
  .rename_i hj;subst hj;have⟨y,h1,h⟩:=ai.1 h;have⟨l',h2,h⟩:=ai.1 h;cases h;have⟨cs,g1,g2⟩:=ajr h1;have hl:cs.length=size:=by
    have:=congrArg List.length g2;simp only[length_map,Ec]at this;omega
   obtain⟨css,i1,i2⟩:=ZV size c hs z ag (j+1) l' (done++[cs]) h2 (by simp[hd]);refine⟨cs::css,?_,?_⟩
   .simp only[aF,Ms,g1,af];rw[aX ⟨hl,by simp;omega⟩];have:(done++List.replicate (ag.length+1) z).set j cs=done++[cs]++List.replicate ag.length z:=by
     rw[List.set_append_right _ _ (by omega),hd];simp[List.replicate_succ]
    simp only[bC,this,i1];simp
   .simp only[aF,i2,g2,aI,aF]
  .cases h
theorem M0{t:TypeId}{len:Nat}{parts:U (Nat×DV X)}(h:HZ T am i t len parts k=some r):∃dv u ab,vU T i t len (parts.map λp=>(p.1,den p.2))=some ab/\jk ab.obs/\ab.v=den dv/\ab.upd=iw [(cR i,u)]/\k dv [(cR i,u)] [] []=some r:=by
 unfold HZ at h;unfold vU;rw[ai]at h;obtain⟨ti,h1,h⟩:=h;simp only[h1,af];split at h
 .rename_i e hk;rw[ai]at h;obtain⟨ei,h2,h⟩:=h;rw[ai]at h;obtain⟨c,h3,h⟩:=h;simp only[hk,h2,af];split at h
  .cases h
  .rename_i hno;simp only[not_or,Decidable.not_not]at hno;obtain⟨n1,n2,n3,n4⟩:=hno;have⟨l,h4,h⟩:=ai.1 h;have⟨css,g1,g2⟩:=ZV ei.size c n3 (ei.zero.map cv) parts 0 l [] h4 rfl;simp only[bT,n4]at g1;refine⟨_,_,⟨.own (cR i) 0 len,[(cR i,some ⟨ei.size,dX css⟩)],[]⟩,?_,trivial,rfl,?_,h⟩
   .rw[aS (by simp only[not_or];exact⟨n1,n2⟩),g1];rfl
   .simp only[iw,bG,aF,map_nil,Option.map_some,n3];rw[show dX css=aI (l.map (CT.row X.toSE c))from g2]
 .cases h
theorem aby{e:TypeId}(h:Z1 T i e k=some r):∃dv u ab,UY T i e=some ab/\jk ab.obs/\ab.v=den dv/\ab.upd=iw [(cR i,u)]/\k dv [(cR i,u)] [] []=some r:=by
 unfold Z1 at h;unfold UY;have⟨ti,h1,h⟩:=ai.1 h;exact⟨_,_,⟨_,[(cR i,some ⟨ti.size,[ti.zero.map cv]⟩)],[]⟩,by simp only[h1,af];rfl,trivial,rfl,by simp[iw,bG,Cv],h⟩
theorem agn{x:DV X}(h:V2 i x k=some r):∃dv u ab,Lk i (den x)=some ab/\jk ab.obs/\ab.v=den dv/\ab.upd=iw [(cR i,u)]/\k dv [(cR i,u)] [] []=some r:=by
 unfold V2 at h;unfold Lk;rw[ai]at h;obtain⟨cs,h1,h⟩:=h;exact⟨_,_,⟨_,[(cR i,some ⟨(bQ cs).length,[bQ cs]⟩)],[]⟩,by simp only[Ed h1,af];rfl,trivial,rfl,by simp[iw,bG,kV],h⟩
theorem Cx{d n:Int}{x:J (DV X)}(h:As d x=some n):bnd d (x.map den)=some n:=by
 unfold As at h;split at h
 .exact h
 .exact h
 .cases h
theorem ZW{l h:Int}{len:Nat}(hh:yG l h len=true):0<=l/\l<=h/\h<=(len:Int):=by simpa[yG,and_assoc]using hh
theorem abz{t:TypeId}{x:DV X}{lo hi:J (DV X)}(h:ZZ T t x lo hi get k=some r):∃cL rd dv ab,UZ T t (den x) (lo.map den) (hi.map den) cL (dL rd (fw get))=some ab/\jk ab.obs/\ab.v=den dv/\ab.upd=[]/\k dv [] rd []=some r:=by
 unfold ZZ at h;unfold UZ;rw[ai]at h;obtain⟨ti,h1,h⟩:=h;simp only[h1,af];split at h
 .rename_i e hk;rw[ai]at h;obtain⟨ei,h2,h⟩:=h;simp only[hk,h2,af];split at h
  .rename_i kk aa len;rw[ai]at h;obtain⟨o,h3,h⟩:=h;split at h
   .rename_i hs;rw[ai]at h;obtain⟨l,h4,h⟩:=h;rw[ai]at h;obtain⟨hh,h5,h⟩:=h;have⟨h6,h⟩:=d9 h;refine⟨.none,[kk],_,⟨.own kk (aa+l.toNat) (hh.toNat -l.toNat),[],[0<=l/\l<=hh/\hh<=(len:Int)]⟩,?_,ZW h6,rfl,rfl,h⟩;simp only[den,eD (List.mem_singleton_self kk) h3,af];rw[aX hs,Cx h4,af,Cx h5];rfl
   .cases h
  .rename_i c xs;split at h
   .rename_i hs;have⟨l,h4,h⟩:=ai.1 h;have⟨hh,h5,h⟩:=ai.1 h;have⟨h6,h⟩:=d9 h;refine⟨.AM ((sub xs l.toNat (hh.toNat -l.toNat)).map (CT.row X.toSE c)),[],_,⟨.t (.sl ((sub xs l.toNat (hh.toNat -l.toNat)).map (CT.row X.toSE c))),[],[0<=l/\l<=hh/\hh<=((xs.map (CT.row X.toSE c)).length:Int)/\(sub xs l.toNat (hh.toNat -l.toNat)).map (CT.row X.toSE c)=((xs.map (CT.row X.toSE c)).drop l.toNat).take (hh.toNat -l.toNat)/\(∀ q∈xs.map (CT.row X.toSE c),q.length=ei.size)]⟩,?_,?_,rfl,rfl,h⟩
    .simp only[den,CT.tv,TV.av,Cx h4,af];have h7:bnd ((xs.map (CT.row X.toSE c)).length:Int) (hi.map den)=some hh:=by
      have:=Cx h5;simpa using this
     rw[h7];rfl
    .have⟨a1,a2,a3⟩:=ZW h6;refine⟨a1,a2,by simpa using a3,by simp[sub,map_take,map_drop],λq hq=>?_⟩;obtain⟨y,_,rfl⟩:=mem_map.1 hq;rw[Ec];exact hs
   .cases h
  .cases h
 .cases h
end
section
variable {X:SX} {A:Type} {T:eo} {am:TypeId->Option (CT X.ι)} {get:Nat->Option (bm X)} {k:KK X A} {r:A} {i:Nat}
theorem jb{b c:CT X.ι}{l:U (CT.T X.toSE b)}{l':U (CT.T X.toSE c)}(h:jq (.sl b) (.sl c) l=some l'):CT.sz X b=CT.sz X c/\l.map (CT.row X.toSE b)=l'.map (CT.row X.toSE c):=by
 have⟨e,h⟩:=rF h;cases e;subst h;exact⟨rfl,rfl⟩
theorem adx{y:DV X}{c:CT X.ι}{n:Nat}{l:U (CT.T X.toSE c)}{rd:U Nat}(h:V1 y c get=some (n,l,rd))(hl:l.length=n)(rd':U Nat)(hrd:∀j∈rd,j∈rd'):
 ∃ob,U0 (CT.sz X c) (den y) (dL rd' (fw get))=some (n,ob,aI (l.map (CT.row X.toSE c)))/\ob:=by
 unfold V1 at h;split at h
 .rename_i kk aa len;rw[ai]at h;obtain⟨o,h1,h⟩:=h;split at h
  .rename_i b l0;rw[ai]at h;obtain⟨l1,h2,h⟩:=h;injection h with h;simp only[Prod.mk.injEq]at h;obtain⟨rfl,rfl,rfl⟩:=h;have⟨h3,h4⟩:=jb h2;refine⟨True,?_,trivial⟩;simp only[den,U0,eD (hrd kk (by simp)) h1,af,bG];rw[aX h3];simp only[h4,aA,Prod.mk.injEq,true_and];simp[aI,sub,map_take,map_drop]
  .cases h
 .rename_i b l0;have⟨l1,h2,h⟩:=ai.1 h;injection h with h;simp only[Prod.mk.injEq]at h;obtain⟨rfl,rfl,rfl⟩:=h;refine⟨∀ q∈l1.map (CT.row X.toSE c),q.length=CT.sz X c,?_,?_⟩
  .rw[(oC h2).1];simp only[den,CT.tv,TV.av,U0,length_map]
  .intro q hq;obtain⟨z,_,rfl⟩:=mem_map.1 hq;exact Ec c z
 .cases h
theorem VK{lo len ln n bytes:Nat}(h:bP lo len ln n bytes=true):lo=len/\ln=n/\(len+n)*bytes<=140737488355328/\len+n<=maxLen:=by simpa[bP,and_assoc]using h
theorem pw{α:Type}(n:Nat)(l:U α):VE n l=l.drop n:=by cases n<;>rfl
theorem YM{t:TypeId}{x y:DV X}(h:abr T am i t x y get k=some r):∃cL rd wr dv upd ab,zU T i t (den x) (den y) cL (dL rd (fw get))=some ab/\jk ab.obs/\ab.v=den dv/\ab.upd=iw upd/\(∀ p∈upd,p.1=cR i\/p.1∈wr)/\k dv upd rd wr=some r:=by
 unfold abr at h;unfold zU;rw[ai]at h;obtain⟨ti,h1,h⟩:=h;simp only[h1,af];split at h
 .rename_i e hk;rw[ai]at h;obtain⟨ei,h2,h⟩:=h;rw[ai]at h;obtain⟨c,h3,h⟩:=h;simp only[hk,h2,af];split at h
  .rename_i hs;rw[ai]at h;obtain⟨⟨n,l,rd⟩,h4,h⟩:=h;split at h
   .rename_i kk aa len;rw[ai]at h;obtain⟨o,h5,h⟩:=h;split at h
    .rename_i b l0;have⟨l1,h6,h⟩:=ai.1 h;have⟨h7,h⟩:=d9 h;rw[pw]at h7 h;have hd:(aI (l1.map (CT.row X.toSE c))).drop aa=aI ((l1.drop aa).map (CT.row X.toSE c)):=(by simp[aI]);have⟨g1,g2,g3,g4⟩:=VK h7;have⟨h8,h9⟩:=jb h6;obtain⟨ob,i1,i2⟩:=adx h4 g2 (kk::rd) (λ j hj=>by simp[hj]);have i3:=eD (rd:=kk::rd) (by simp) h5
     refine⟨.rows (aI ((l1.drop aa++l).map (CT.row X.toSE c))),kk::rd,[kk],_,_,⟨.own (cR i) 0 (aI ((l1.drop aa++l).map (CT.row X.toSE c))).length,[(cR i,some ⟨ei.size,aI ((l1.drop aa++l).map (CT.row X.toSE c))⟩),(kk,none)],
      [ob/\(aI ((l1.drop aa).map (CT.row X.toSE c))).length=len/\(aI (l.map (CT.row X.toSE c))).length=n/\aI ((l1.drop aa++l).map (CT.row X.toSE c))=aI ((l1.drop aa).map (CT.row X.toSE c))++aI (l.map (CT.row X.toSE c))/\(len+n)*ei.bytes<=140737488355328/\len+n<=maxLen]⟩,?_,?_,?_,?_,?_,h⟩
     .rw[hs]at i1;simp only[i1,af,den,i3,bG,h9,hd];rw[aX (by rw[h8,hs])]
     .exact⟨i2,by simpa[aI]using g1,by simpa[aI]using g2,by simp[aI],g3,g4⟩
     .simp[den,aI]
     .simp[iw,bG,hs]
     .intro p hp;simp only[aO,gB,or_false]at hp;rcases hp with rfl |rfl
      .exact .inl rfl
      .exact .inr (by simp)
    .cases h
   .have⟨h7,h⟩:=d9 h;have⟨g1,g2,g3,g4⟩:=VK h7;obtain⟨ob,i1,i2⟩:=adx h4 g2 rd (λ j hj=>hj)
    refine⟨.rows (aI (l.map (CT.row X.toSE c))),rd,[],_,_,⟨.own (cR i) 0 (aI (l.map (CT.row X.toSE c))).length,[(cR i,some ⟨ei.size,aI (l.map (CT.row X.toSE c))⟩)],
     [ob/\(aI (l.map (CT.row X.toSE c))).length=n/\aI (l.map (CT.row X.toSE c))=aI (l.map (CT.row X.toSE c))/\n*ei.bytes<=140737488355328/\n<=maxLen]⟩,?_,?_,?_,?_,?_,h⟩
    .rw[hs]at i1;simp only[i1,af,den]
    .exact⟨i2,by simpa[aI]using g2,rfl,by simpa using g3,by simpa using g4⟩
    .simp[den,aI]
    .simp[iw,bG,hs]
    .intro p hp;simp only[aO,gB,or_false]at hp;rcases hp with rfl;exact .inl rfl
   .cases h
  .cases h
 .cases h
def apW(T:eo)(i:Nat)(o:Oper)(ρ:Operand->DV X)(get:Nat->J (bm X))(k:KK X A)(r:A):Prop:=
 ∃cL rd wr dv upd ab,qg T i o cL (λ x=>den (ρ x)) (dL rd (fw get))=some ab/\jk ab.obs/\ab.v=den dv/\ab.upd=iw upd/\(∀ p∈upd,p.1=cR i\/p.1∈wr)/\k dv upd rd wr=some r
theorem VL{b:Builtin}{args:U (DV X)}{cX:U TypeId}(h:VF T am i b args cX get k=some r):∃cL rd wr dv upd ab,Cr T i b (bQ args) cX cL (dL rd (fw get))=some ab/\jk ab.obs/\ab.v=den dv/\ab.upd=iw upd/\(∀ p∈upd,p.1=cR i\/p.1∈wr)/\k dv upd rd wr=some r:=by
 unfold VF at h;unfold Cr;split at h
 .have⟨cL,dv,ab,h1,h2,h3,h4,h5⟩:=agm h;exact⟨cL,[],[],dv,[],ab,h1,h2,h3,h4,by simp,h5⟩
 .have⟨dv,ab,h1,h2,h3,h4,h5⟩:=ZU h;exact⟨.none,[],[],dv,[],ab,h1,h2,h3,h4,by simp,h5⟩
 .have⟨dv,ab,h1,h2,h3,h4,h5⟩:=ZU h;exact⟨.none,[],[],dv,[],ab,h1,h2,h3,h4,by simp,h5⟩
 .split at h
  .rename_i htu;have⟨cL,rd,wr,dv,upd,ab,h1,h2⟩:=YM h;refine⟨cL,rd,wr,dv,upd,ab,?_,h2⟩;simp only[bQ];rw[aX htu];exact h1
  .cases h
 .cases h
theorem Uv(ρ:Operand->DV X)(l:U Operand):l.map (λ x=>den (ρ x))=bQ (l.map ρ):=by rw[nU,map_map];rfl
theorem ZX{o:Oper}{ρ:Operand->DV X}(h:L5 T am i o.op ρ get k=some r):apW T i o ρ get k r:=by
 obtain⟨dst,op,ty,ao,after,guard⟩:=o;unfold apW qg;simp only at h;unfold L5 at h;split at h
 .exact⟨.none,[],[],_,[],_,rfl,trivial,rfl,rfl,by simp,h⟩
 .exact⟨.none,[],[],_,[],_,rfl,trivial,rfl,rfl,by simp,h⟩
 .rename_i c a b;split at h
  .rename_i t hc;refine⟨.none,[],[],_,[],⟨LS t (den (ρ a)) (den (ρ b)),[],[]⟩,?_,trivial,(ajp t _ _).symm,rfl,by simp,h⟩;simp only[hc,den,CT.tv,TV.av,pv]
  .cases h
 .have⟨dv,u,ab,h1,h2,h3,h4,h5⟩:=aby h;exact⟨.none,[],[],dv,_,ab,h1,h2,h3,h4,by simp,h5⟩
 .have⟨dv,u,ab,h1,h2,h3,h4,h5⟩:=agn h;exact⟨.none,[],[],dv,_,ab,h1,h2,h3,h4,by simp,h5⟩
 .rename_i t parts;have⟨dv,ab,h1,h2,h3,h4,h5⟩:=abx h;refine⟨.none,[],[],dv,[],ab,?_,h2,h3,h4,by simp,h5⟩;rw[map_map]at h1;exact h1
 .rename_i t len parts;have⟨dv,u,ab,h1,h2,h3,h4,h5⟩:=M0 h;refine⟨.none,[],[],dv,_,ab,?_,h2,h3,h4,by simp,h5⟩;rw[map_map]at h1;exact h1
 .have⟨cL,rd,dv,ab,h1,h2,h3,h4,h5⟩:=ajq h;exact⟨cL,rd,[],dv,[],ab,h1,h2,h3,h4,by simp,h5⟩
 .have⟨cL,kk,u,ab,h1,h2,h3,h4,h5⟩:=ajs h;exact⟨cL,[kk],[kk],.undef,_,ab,h1,h2,h3,h4,by simp,h5⟩
 .have⟨dv,ab,h1,h2,h3,h4,h5⟩:=agl h;exact⟨.none,[],[],dv,[],ab,h1,h2,h3,h4,by simp,h5⟩
 .have⟨dv,ab,h1,h2,h3,h4,h5⟩:=ajt h;exact⟨.none,[],[],dv,[],ab,h1,h2,h3,h4,by simp,h5⟩
 .rename_i f first caps
  refine⟨.none,[],[],_,[],⟨.fn f (first.toList.map λx=>den (ρ x)) (caps.toList.map λx=>den (ρ x)),[],[]⟩,rfl,trivial,?_,rfl,by simp,h⟩;simp only[den,Uv]
 .rename_i t x lo hi;have⟨cL,rd,dv,ab,h1,h2,h3,h4,h5⟩:=abz h;refine⟨cL,rd,[],dv,[],ab,?_,h2,h3,h4,by simp,h5⟩;simp only[Option.map_map]at h1;exact h1
 .have⟨dv,ab,h1,h2,h3,h4,h5⟩:=PI h;exact⟨.none,[],[],dv,[],ab,h1,h2,h3,h4,by simp,h5⟩
 .have⟨dv,ab,h1,h2,h3,h4,h5⟩:=abv h;exact⟨.none,[],[],dv,[],ab,h1,h2,h3,h4,by simp,h5⟩
 .have⟨cL,rd,dv,ab,h1,h2,h3,h4,h5⟩:=PK h;exact⟨cL,rd,[],dv,[],ab,h1,h2,h3,h4,by simp,h5⟩
 .have⟨dv,ab,h1,h2,h3,h4,h5⟩:=VJ h;exact⟨.none,[],[],dv,[],ab,h1,h2,h3,h4,by simp,h5⟩
 .rename_i b args cX;have⟨cL,rd,wr,dv,upd,ab,h1,h2⟩:=VL h;refine⟨cL,rd,wr,dv,upd,ab,?_,h2⟩;simp only[Uv];exact h1
 .cases h
end
inductive Pt(ι:Type) where
 |v (c:CT ι)
 |o (k:Nat)
 |p (k:Nat)
 |nil
 |f (F:FuncId) (fs cs:List (Pt ι))
 |od (k:Nat)
 |mp (k:Nat)
 |oz (k:Nat)
 |a (ps:List (Pt ι))
inductive OP(ι:Type) where
 |l (c:CT ι)
 |m (k v:CT ι)
 |c (sz:Nat) (rows:List (List (Pt ι)))
section
variable {ι:Type}
mutual
def Pt.vars:Pt ι->List (CT ι)
 | .v c=>[c]
 | .a ps=>cW ps
 | .f _ fs cs=>cW fs++cW cs
 | .od _=>[.int .i64]
 |_=>[]
def cW:List (Pt ι)->List (CT ι)
 |[]=>[]
 |p::ps=>p.vars++cW ps
end
def ir:U (Nat×Pt ι)->U (CT ι)
 |[]=>[]
 |p::ps=>p.2.vars++ir ps
def vY:U (List (Pt ι))->U (CT ι)
 |[]=>[]
 |r::rs=>cW r++vY rs
def cQ:U (Nat×OP ι)->U (CT ι)
 |[]=>[]
 |(_,.l c)::r=> .sl c::cQ r
 |(_,.m k v)::r=> .mp k v::cQ r
 |(_,.c _ rows)::r=>vY rows++cQ r
end
section
variable {X:SX}
structure DC(X:SX) where
 c:CT X.ι
 x:CT.T X.toSE c
@[reducible] def VT:U (CT X.ι)->Type
 |[]=>Unit
 |[c]=>CT.T X.toSE c
 |c::c'::l=>CT.T X.toSE c×VT (c'::l)
def YN:(l:U (CT X.ι))->U (DC X)->J (VT (X:=X) l)
 |[],[]=>some ()
 |[c],[d]=>jq d.c c d.x
 |c::c'::l,d::ds=>(jq d.c c d.x).bind λx=>(YN (c'::l) ds).bind λv=>some (x,v)
 |_,_=>none
def vZ:(l:U (CT X.ι))->VT (X:=X) l->U (DC X)
 |[],_=>[]
 |[c],x=>[⟨c,x⟩]
 |c::c'::l,v=>⟨c,v.1⟩::vZ (c'::l) v.2
theorem ady{d:DC X}{c:CT X.ι}{x:CT.T X.toSE c}(h:jq d.c c d.x=some x):(⟨c,x⟩:DC X)=d:=by
 obtain⟨a,y⟩:=d;have⟨e,h⟩:=rF h;simp only at e;subst e;subst h;rfl
theorem VN:∀{l:U (CT X.ι)}{ds:U (DC X)}{v:VT (X:=X) l},YN l ds=some v->vZ l v=ds
 |[],[],_,_=>rfl
 |[c],[d],v,h=>by simp only[YN]at h;simp only[vZ,ady h]
 |c::c'::l,d::ds,v,h=>by
  simp only[YN]at h;rw[ai]at h;obtain⟨x,h1,h⟩:=h;rw[ai]at h;obtain⟨v',h2,h⟩:=h;cases h;simp only[vZ,ady h1,VN h2]
 |[],_::_,_,h=>by simp[YN]at h
 |[_],[],_,h=>by simp[YN]at h
 |[_],_::_::_,_,h=>by simp[YN]at h
 |_::_::_,[],_,h=>by simp[YN]at h
theorem VO{c:CT X.ι}(x:CT.T X.toSE c):jq c c x=some x:=by
 unfold jq;split
 .rfl
 .rename_i h _;exact absurd rfl h
def ZY(d:DC X):Nat:=match jq d.c (.int .i64) d.x with |some x=>Int.toNat x |none=>0
section
variable (ea:Nat->Nat)
mutual
def eP:Pt X.ι->List (DC X)->DV X×List (DC X)
 | .v _,L=>match L with
  |d::r=>(.c d.c d.x,r)
  |[]=>(.undef,[])
 | .o k,L=>(.own k 0 (ea k),L)
 | .p k,L=>(.ptr k 0 0,L)
 | .mp k,L=>(.mp k,L)
 | .oz k,L=>(.oz k (ea k),L)
 | .nil,L=>(.nil,L)
 | .f F fs cs,L=>(.fn F (ly fs L).1 (ly cs (ly fs L).2).1,(ly cs (ly fs L).2).2)
 | .od k,L=>match L with
  |d::r=>(.own k (ZY d) (ea k -ZY d),r)
  |[]=>(.undef,[])
 | .a ps,L=>(.agg (ly ps L).1,(ly ps L).2)
def ly:List (Pt X.ι)->List (DC X)->List (DV X)×List (DC X)
 |[],L=>([],L)
 |p::ps,L=>((eP p L).1::(ly ps (eP p L).2).1,(ly ps (eP p L).2).2)
end
def Lp:U (Nat×Pt X.ι)->U (DC X)->U (Nat×DV X)
 |[],_=>[]
 |(t,p)::r,L=>(t,(eP ea p L).1)::Lp r (eP ea p L).2
def wh:U (List (Pt X.ι))->U (DC X)->U (List (DV X))×List (DC X)
 |[],L=>([],L)
 |r::rs,L=>((ly ea r L).1::(wh rs (ly ea r L).2).1,(wh rs (ly ea r L).2).2)
def dD:U (Nat×OP X.ι)->U (DC X)->U (Nat×Option (bm X))
 |[],_=>[]
 |(k,.l _)::r,L=>match L with
  |⟨.sl c',x⟩::L=>(k,some (.en c' x))::dD r L
  |_=>[]
 |(k,.m _ _)::r,L=>match L with
  |⟨.mp kc vc,x⟩::L=>(k,some (.map kc vc x))::dD r L
  |_=>[]
 |(k,.c sz rows)::r,L=>(k,some (.cells sz (wh ea rows L).1))::dD r (wh ea rows L).2
end
def lens:U (Nat×OP X.ι)->U (DC X)->U (Nat×Nat)
 |[],_=>[]
 |(k,.l _)::r,L=>match L with
  |⟨.sl _,x⟩::L=>(k,List.length x)::lens r L
  |_=>[]
 |(_,.m _ _)::r,L=>lens r (L.drop 1)
 |(_,.c _ rows)::r,L=>lens r (L.drop (vY rows).length)
def lE:Nat->U (Pt X.ι)->U (Nat×Pt X.ι)
 |_,[]=>[]
 |n,p::ps=>(n,p)::lE (n+1) ps
theorem PN:∀(n:Nat)(ps:U (Pt X.ι)),ir (lE n ps)=cW ps
 |_,[]=>rfl
 |n,p::ps=>by simp only[lE,ir,cW,PN (n+1) ps]
structure df(X:SX) where
 pL:List (Pt X.ι)
 j0:List (Nat×OP X.ι)
 ga:List (Pt X.ι)
 ju:List (Nat×OP X.ι)
 fn:VT (X:=X) (cW pL++cQ j0)->Option (VT (X:=X) (ir (lE 0 ga)++cQ ju))
def Ee(O:U (Nat×OP X.ι))(L:U (DC X))(k:Nat):Nat:=(lk (lens O L) k).getD 0
def VP(ps:U (Pt X.ι))(O:U (Nat×OP X.ι))(L:U (DC X)):U (DV X):=(ly (Ee O (L.drop (cW ps).length)) ps (L.take (cW ps).length)).1
def LN(ps:U (Pt X.ι))(O:U (Nat×OP X.ι))(L:U (DC X)):U (Nat×Option (bm X)):=dD (Ee O (L.drop (cW ps).length)) O (L.drop (cW ps).length)
def yJ:U (DV X)->DV X
 |[d]=>d
 |ds=> .eV ds
def dK:U (Nat×Option (bm X))->U (Nat×bm X)
 |[]=>[]
 |(k,some o)::r=>(k,o)::dK r
 |(_,none)::r=>dK r
def sU(l:U (Nat×bm X)):U (Nat×aT):=l.map λp=>(p.1,bG p.2)
def df.args(g:df X)(v:VT (X:=X) (cW g.pL++cQ g.j0)):U (DV X):=VP g.pL g.j0 (vZ _ v)
def df.cP(g:df X)(v:VT (X:=X) (cW g.pL++cQ g.j0)):U (Nat×bm X):=dK (LN g.pL g.j0 (vZ _ v))
def df.res(g:df X)(r:VT (X:=X) (ir (lE 0 g.ga)++cQ g.ju)):DV X:=yJ (VP g.ga g.ju (vZ _ r))
def df.outs(g:df X)(r:VT (X:=X) (ir (lE 0 g.ga)++cQ g.ju)):U (Nat×bm X):=dK (LN g.ga g.ju (vZ _ r))
def FF(P:Program)(f:FuncId)(g:df X):Prop:=∀v r,g.fn v=some r->yp P f (bQ (g.args v)) ((g.cP v).map λp=>bG p.2) (sU (g.outs r)) (den (g.res r))
end
inductive AT(ι:Type) where
 |d (c:CT ι)
 |ref (c:CT ι)
 |ek (as:List (CT ι)) (r:CT ι)
 |mut (c:CT ι)
 |jz (c:CT ι)
 |nil
 deriving DecidableEq
def AT.im{ι:Type}:AT ι->Bool
 | .mut _ | .jz _=>true
 |_=>false
def AT.pl{ι:Type}:AT ι->Bool
 | .mut _ | .jz _ | .nil=>false
 |_=>true
inductive RT(ι:Type) where
 |d (c:CT ι)
 |fresh (e:CT ι)
 |whole (j:Nat)
 |mu (c:CT ι)
 |mr (c:CT ι)
 |mv
def RT.out{ι:Type}:RT ι->Bool
 | .mu _ | .mr _ | .mv=>true
 |_=>false
section
variable (X:SX)
@[reducible] def AT.T:AT X.ι->Type
 | .d c=>CT.T X.toSE c
 | .ref c=>CT.T X.toSE c
 | .ek as r=>HL X.toSE as->J (CT.T X.toSE r)
 | .mut c=>U (CT.T X.toSE c)
 | .jz c=>CT.T X.toSE c
 | .nil=>Unit
@[reducible] def RT.T:RT X.ι->Type
 | .d c=>CT.T X.toSE c
 | .fresh e=>U (CT.T X.toSE e)
 | .whole _=>Unit
 | .mu c=>U (CT.T X.toSE c)
 | .mr c=>CT.T X.toSE c
 | .mv=>Unit
@[reducible] def iD:U (AT X.ι)->Type
 |[]=>Unit
 |a::l=>AT.T X a×iD l
@[reducible] def sM:U (RT X.ι)->Type
 |[]=>Unit
 |[r]=>RT.T X r
 |r::r'::l=>RT.T X r×sM (r'::l)
structure cp where
 args:List (AT X.ι)
 res:List (RT X.ι)
 fn:iD X args->Option (sM X res)
 gen:Option (df X):=none
variable {X}
def dR:Nat->(l:U (AT X.ι))->iD X l->U AV
 |_,[],_=>[]
 |n,.d c::l,a=>(CT.tv X.toSE c a.1).av::dR n l a.2
 |n,.ref c::l,a=> .eM (CT.row X.toSE c a.1) 0::dR n l a.2
 |n,.ek as r::l,a=>den (.ek as r a.1:DV X)::dR n l a.2
 |n,.mut _::l,a=> .own n 0 (List.length a.1)::dR (n+1) l a.2
 |n,.jz _::l,a=> .ptr n 0 0::dR (n+1) l a.2
 |n,.nil::l,a=> .da::dR n l a.2
abbrev wm(l:U (AT X.ι))(a:iD X l):U AV:=dR 0 l a
def rG(c:CT X.ι)(l:U (CT.T X.toSE c)):fu:=(CT.sz X c,l.map (CT.row X.toSE c))
def qj:(l:U (AT X.ι))->iD X l->U fu
 |[],_=>[]
 | .mut c::l,a=>rG c a.1::qj l a.2
 | .jz c::l,a=>rG c [a.1]::qj l a.2
 | .d _::l,a=>qj l a.2
 | .ref _::l,a=>qj l a.2
 | .ek _ _::l,a=>qj l a.2
 | .nil::l,a=>qj l a.2
def ql:(r:RT X.ι)->RT.T X r->U (Option fu)
 | .mu c,x=>[some (rG c x)]
 | .mr c,x=>[some (rG c [x])]
 | .mv,_=>[none]
 |_,_=>[]
def nV:(l:U (RT X.ι))->sM X l->U (Option fu)
 |[],_=>[]
 |[r],x=>ql r x
 |r::r'::l,x=>ql r x.1++nV (r'::l) x.2
def YO:(r:RT X.ι)->RT.T X r->U Nat
 | .mu _,x=>[List.length x]
 | .mr _,_=>[1]
 | .mv,_=>[0]
 |_,_=>[]
def yl:(l:U (RT X.ι))->sM X l->U Nat
 |[],_=>[]
 |[r],x=>YO r x
 |r::r'::l,x=>YO r x.1++yl (r'::l) x.2
def VQ(ns:U Nat):(r:RT X.ι)->RT.T X r->U RC
 | .d c,x=>[.d (CT.tv X.toSE c x)]
 | .fresh e,l=>[.fresh (CT.sz X e) (l.map (CT.row X.toSE e))]
 | .whole j,_=>[.whole j (ns.getD j 0)]
 |_,_=>[]
def Bd(ns:U Nat):(l:U (RT X.ι))->sM X l->U RC
 |[],_=>[]
 |[r],x=>VQ ns r x
 |r::r'::l,x=>VQ ns r x.1++Bd ns (r'::l) x.2
def sV(l:U (RT X.ι))(x:sM X l):RV:=
 match Bd (yl l x) l x with
 |[c]=> .one c
 |cs=> .eV cs
def sC(P:Program)(Γ:FuncId->J (cp X)):Prop:=
 ∀f s,Γ f=some s->eU P f/\(∀ a r,s.fn a=some r->qq P f (wm s.args a) (qj s.args a) (nV s.res r) (sV s.res r))/\∀g,s.gen=some g->FF P f g
theorem apX:∀{l:U (AT X.ι)},(l.all λq=>q.pl)=true->(l.all λq=>!q.im)=true:=λ{l} h=>by
 rw[all_eq_true]at h ⊢;intro q hq;have:=h q hq;cases q<;>simp_all [AT.pl,AT.im]
theorem wo:∀{l:U (AT X.ι)}{a:iD X l},(l.all λq=>!q.im)=true->qj l a=[]
 |[],_,_=>rfl
 | .d _::l,a,h=>wo (l:=l) (by simpa[AT.im]using h)
 | .ref _::l,a,h=>wo (l:=l) (by simpa[AT.im]using h)
 | .ek _ _::l,a,h=>wo (l:=l) (by simpa[AT.im]using h)
 | .mut _::l,a,h=>by simp[AT.im]at h
 | .jz _::l,a,h=>by simp[AT.im]at h
 | .nil::l,a,h=>wo (l:=l) (by simpa[AT.im]using h)
theorem adA{r:RT X.ι}{x:RT.T X r}(h:(!r.out)=true):ql r x=[]:=by cases r<;>first |rfl |simp[RT.out]at h
theorem adB:∀{l:U (RT X.ι)}{x:sM X l},(l.all λq=>!q.out)=true->nV l x=[]
 |[],_,_=>rfl
 |[r],x,h=>adA (by simpa using h)
 |r::r'::l,x,h=>by
  simp only[all_cons,aL]at h;simp only[nV,adA h.1,bT];exact adB (l:=r'::l) (by simp only[all_cons,aL];exact h.2)
mutual
def bk:DV X->List Nat
 | .own k _ _=>[k]
 | .ptr k _ _=>[k]
 | .qt k _ _=>[k]
 | .tj k _ _ _ _=>[k]
 | .mp k=>[k]
 | .oz k _=>[k]
 | .agg cs=>aR cs
 | .eV cs=>aR cs
 | .fn _ first caps=>aR first++aR caps
 |_=>[]
def aR:List (DV X)->List Nat
 |[]=>[]
 |x::xs=>bk x++aR xs
end
theorem zZ(c:CT X.ι)(x:CT.T X.toSE c):refs (CT.tv X.toSE c x).av=[]:=by
 cases c<;>try rfl
 rename_i i;show eX ((X.row i x).map AV.t)=[];generalize X.row i x=l
 induction l with
 |nil=>rfl
 |cons y ys ih=>simp only[aF,eX,refs,ih,bT]
mutual
theorem iK:∀x:DV X,refs (den x)=bk x
 | .c t x=>zZ t x
 | .agg cs=>by simp only[den,refs,bk,gX cs]
 | .eV cs=>by simp only[den,refs,bk,gX cs]
 | .own _ _ _=>rfl
 | .ptr _ _ _=>rfl
 | .qt _ _ _=>rfl
 | .mp _=>rfl
 | .oz _ _=>rfl
 | .tj _ _ _ _ _=>rfl
 | .rp _ _ _=>rfl
 | .wy _ _ _ _ _=>rfl
 | .fn f first caps=>by simp only[den,refs,bk,gX first,gX caps]
 | .ek _ _ _=>rfl
 | .raw v=>by
  simp only[den,bk,cv];split
  .rfl
  .split<;>rfl
 | .nil=>rfl
 | .ub=>rfl
 | .skip=>rfl
 | .undef=>rfl
theorem gX:∀l:List (DV X),eX (bQ l)=aR l
 |[]=>rfl
 |x::xs=>by simp only[bQ,eX,aR,iK x,gX xs]
end
def RG(get:Nat->J (bm X))(d:DV X)(c:CT X.ι):J (CT.T X.toSE c×List Bool):=
 match d,c with
 | .own kk aa len,.sl e=>(get kk).bind λo=>match o with
  | .en b l=>(jq (.sl b) (.sl e) l).bind λ(l:List (CT.T X.toSE e))=>some (sub l aa len,[aE (sub l aa len).length len])
  |_=>none
 | .own kk aa len,.any=>(get kk).bind λo=>match o with
  | .en b l=>some (.sl (List.map (CT.row X.toSE b) (sub l aa len)),[aE (sub l aa len).length len])
  |_=>none
 | .oz kk len,.sl e=>(get kk).bind λo=>match o with
  | .en b l=>(jq (.sl b) (.sl e) l).bind λ(l:List (CT.T X.toSE e))=>some (sub l 0 len,[aE (sub l 0 len).length len])
  |_=>none
 |d,c=>(Kj d c).bind λx=>some (x,[])
def wU(get:Nat->J (bm X)):U (DV X)->(l:U (CT X.ι))->J (HL X.toSE l×List Bool)
 |[],[]=>some ((),[])
 |d::ds,c::l=>(RG get d c).bind λx=>(wU get ds l).bind λh=>some ((x.1,h.1),x.2++h.2)
 |_,_=>none
def Z0(get:Nat->J (bm X))(d:DV X)(i:X.ι):J (CT.T X.toSE (.st i)×List Bool):=
 match d with
 | .agg cs=>(wU get cs (X.cX i)).bind λh=>some (X.make i h.1,h.2)
 | .c a x=>(jq a (.st i) x).bind λx=>some (x,[])
 |_=>none
def FK(get:Nat->J (bm X))(d:DV X)(c:CT X.ι):J (CT.T X.toSE c×List Bool):=
 match c with
 | .st i=>Z0 get d i
 |c=>RG get d c
def X1(get:Nat->J (bm X))(d:DV X)(c:CT X.ι):J (CT.T X.toSE c):=
 match d with
 | .ptr kk row 0=>(get kk).bind λo=>match o with
  | .cells _ rows=>(rows[row]?).bind λq=>if q.all (λ x=>match x with | .c _ _=>true |_=>false)then HV c q else none
  |_=>none
 | .rp a x 0=>jq a c x
 |_=>none
def uu:(l l':U (AT X.ι))->iD X l->iD X l'->iD X (l++l')
 |[],_,_,b=>b
 |_::l,l',a,b=>(a.1,uu l l' a.2 b)
def hlA:(as:U (CT X.ι))->HL X.toSE as->iD X (as.map AT.d)
 |[],_=>()
 |_::l,h=>(h.1,hlA l h.2)
def qm:U (AT X.ι)->Nat
 |[]=>0
 |q::l=>(if q.im then 1 else 0)+qm l
theorem kW:∀(n:Nat)(l l':U (AT X.ι))(a:iD X l)(b:iD X l'),dR n (l++l') (uu l l' a b)=dR n l a++dR (n+qm l) l' b
 |n,[],_,_,_=>rfl
 |n,.d c::l,l',a,b=>by simp[dR,uu,kW n l l' a.2 b,qm,AT.im]
 |n,.ref c::l,l',a,b=>by simp[dR,uu,kW n l l' a.2 b,qm,AT.im]
 |n,.ek as r::l,l',a,b=>by simp[dR,uu,kW n l l' a.2 b,qm,AT.im]
 |n,.mut c::l,l',a,b=>by simp[dR,uu,kW (n+1) l l' a.2 b,qm,AT.im,Nat.add_assoc]
 |n,.jz c::l,l',a,b=>by simp[dR,uu,kW (n+1) l l' a.2 b,qm,AT.im,Nat.add_assoc]
 |n,.nil::l,l',a,b=>by simp[dR,uu,kW n l l' a.2 b,qm,AT.im]
theorem JI:∀(n:Nat)(as:U (CT X.ι))(h:HL X.toSE as),dR n (as.map AT.d) (hlA as h)=(HL.nw X.toSE as h).map TV.av
 |_,[],_=>rfl
 |n,c::l,h=>congrArg ((CT.tv X.toSE c h.1).av:: ·) (JI n l h.2)
def ao0{a b:CT X.ι}(h:a=b)(o:J (CT.T X.toSE a)):J (CT.T X.toSE b):=h ▸ o
def j5(get:Nat->J (bm X))(py:FuncId->U (DV X)->U (DV X)->(as:U (CT X.ι))->(r:CT X.ι)->J ((HL X.toSE as->J (CT.T X.toSE r))×List Bool)):U (DV X)->(l:U (AT X.ι))->J (iD X l×List Bool)
 |[],[]=>some ((),[])
 |d::ds,.d c::l=>(FK get d c).bind λx=>(j5 get py ds l).bind λh=>some ((x.1,h.1),x.2++h.2)
 |d::ds,.ref c::l=>(X1 get d c).bind λx=>(j5 get py ds l).bind λh=>some ((x,h.1),h.2)
 |d::ds,.ek as r::l=>(match d with
  | .ek as' r' φ=>if h:as'=as/\r'=r then some (λ x=>ao0 h.2 (φ (h.1 ▸ x)),[])else none
  | .fn f first caps=>py f first caps as r
  |_=>none).bind λφ=>(j5 get py ds l).bind λq=>some ((φ.1,q.1),φ.2++q.2)
 |_,_=>none
def RH(Γ:FuncId->J (cp X))(get:Nat->J (bm X)):Nat->U (DV X)->(l:U (AT X.ι))->J (iD X l×List Bool)
 | 0,ds,l=>j5 get (λ _ _ _ _ _=>none) ds l
 |n+1,ds,l=>j5 get (λ f first caps as r=>(Γ f).bind λs=>match s with
   |⟨sa,[.d r'],fn,_⟩=>
    if h:r'=r/\sa=sa.take first.length++(as.map AT.d++sa.drop (first.length+as.length))/\first.length=0 then
     (RH Γ get n first (sa.take first.length)).bind λhf=>(RH Γ get n caps (sa.drop (first.length+as.length))).bind λhc=>
      some (λ x=>ao0 h.1 (fn (h.2.1 ▸ uu _ _ hf.1 (uu _ _ (hlA as x) hc.1))),hf.2++hc.2)
    else none
   |_=>none) ds l
section
variable {P:Program} {Γ:FuncId->Option (cp X)} {get:Nat->Option (bm X)} {rd:List Nat}
theorem gL{a b:U Prop}(h:∀p∈a,p)(h':∀p∈b,p):∀p∈a++b,p:=λp hp=>(aZ.1 hp).elim (h p) (h' p)
theorem H6{d:DV X}{c:CT X.ι}{x:CT.T X.toSE c×List Bool}(h:RG get d c=some x)(hc:∀b∈x.2,b=true)(hrd:∀j∈bk d,j∈rd):∃hs obs,(∀ p∈obs,p)/\∀ag,nT P (dL rd (fw get)) (den d) (hs++ag)=some ((CT.tv X.toSE c x.1).av,ag,obs):=by
 have base:∀{d:DV X}{c:CT X.ι}{x:CT.T X.toSE c},Kj d c=some x->∃hs obs,(∀ p∈obs,p)/\∀ag,nT P (dL rd (fw get)) (den d) (hs++ag)=some ((CT.tv X.toSE c x).av,ag,obs):=by
  intro d c x h;unfold Kj at h;split at h
  .rw[(oC h).1];refine⟨[],[],by simp,λag=>?_⟩;simp only[bT,den];cases c<;>try rfl
   rename_i j;show nT P _ (.agg ((X.row j x).map AV.t)) ag=_;have:∀(l:U Tree) (hs:U LH),mG P (dL rd (fw get)) (l.map AV.t) hs=some (l.map AV.t,hs,[]):=by
    intro l
    induction l with
    |nil=>intro hs;rfl
    |cons y ys ih=>intro hs;simp only[aF,mG,nT,af,ih,bT]
   simp only[nT,this,af];rfl
  .cases h;exact⟨[.emp],[],by simp,λag=>rfl⟩
  .cases h;exact⟨[.emp],[],by simp,λag=>rfl⟩
  .cases h
 unfold RG at h;split at h
 .rename_i kk aa len e;rw[ai]at h;obtain⟨o,h1,h⟩:=h;split at h
  .rename_i b l0;rw[ai]at h;obtain⟨l,h2,h⟩:=h;cases h;have h3:(sub l aa len).length=len:=(by simpa[aE]using hc (aE (sub l aa len).length len) (by simp));have⟨h4,h5⟩:=jb h2;refine⟨[.rows ((sub l aa len).map (CT.row X.toSE e))],[(((bG (.en b l0):aT).rows.drop aa).take len=aI ((sub l aa len).map (CT.row X.toSE e))/\((sub l aa len).map (CT.row X.toSE e)).length=len)],?_,λag=>?_⟩
   .intro p hp;simp only[aP]at hp;subst hp;refine⟨?_,by simpa using h3⟩;simp only[bG,h5];simp[aI,sub,map_take]
   .simp only[cons_append,bT,den,nT,eD (hrd kk (by simp[bk])) h1,af];rfl
  .cases h
 .rename_i kk aa len;rw[ai]at h;obtain⟨o,h1,h⟩:=h;split at h
  .rename_i b l0;cases h;have h3:(sub l0 aa len).length=len:=(by simpa[aE]using hc (aE (sub l0 aa len).length len) (by simp));refine⟨[.rows ((sub l0 aa len).map (CT.row X.toSE b))],[(((bG (.en b l0):aT).rows.drop aa).take len=aI ((sub l0 aa len).map (CT.row X.toSE b))/\((sub l0 aa len).map (CT.row X.toSE b)).length=len)],?_,λag=>?_⟩
   .intro p hp;simp only[aP]at hp;subst hp;refine⟨?_,by simpa using h3⟩;simp only[bG];simp[aI,sub,map_take,map_drop]
   .simp only[cons_append,bT,den,nT,eD (hrd kk (by simp[bk])) h1,af];rfl
  .cases h
 .rename_i kk len e;rw[ai]at h;obtain⟨o,h1,h⟩:=h;split at h
  .rename_i b l0;have⟨l,h2,h⟩:=ai.1 h;cases h;have h3:(sub l 0 len).length=len:=(by simpa[aE]using hc (aE (sub l 0 len).length len) (by simp));have⟨h4,h5⟩:=jb h2;refine⟨[.rows ((sub l 0 len).map (CT.row X.toSE e))],[(((bG (.en b l0):aT).rows.drop 0).take len=aI ((sub l 0 len).map (CT.row X.toSE e))/\((sub l 0 len).map (CT.row X.toSE e)).length=len)],?_,λag=>?_⟩
   .intro p hp;simp only[aP]at hp;subst hp;refine⟨?_,by simpa using h3⟩;simp only[bG,h5];simp[aI,sub,map_take,map_drop]
   .simp only[cons_append,bT,den,nT,eD (hrd kk (by simp[bk])) h1,af];rfl
  .cases h
 .have⟨y,h1,h⟩:=ai.1 h;cases h;exact base h1
theorem M4:∀{ds:U (DV X)}{l:U (CT X.ι)}{h:HL X.toSE l×List Bool},wU get ds l=some h->(∀ b∈h.2,b=true)->l.all CT.one=true->(∀ j∈aR ds,j∈rd)->
 ∃hs obs,(∀ p∈obs,p)/\∀ag,mG P (dL rd (fw get)) (bQ ds) (hs++ag)=some ((HL.row X.toSE l h.1).map AV.t,ag,obs)
 |[],[],h,_,_,_,_=>⟨[],[],by simp,λag=>rfl⟩
 |d::ds,c::l,h,hr,hc,ha,hrd=>by
  simp only[wU]at hr;have⟨x,h1,hr⟩:=ai.1 hr;have⟨g,h2,hr⟩:=ai.1 hr;cases hr;simp only[all_cons,aL]at ha;obtain⟨hs1,o1,p1,q1⟩:=H6 (P:=P) (rd:=rd) h1 (λ b hb=>hc b (by simp[hb])) (λ j hj=>hrd j (by simp[aR,hj]));obtain⟨hs2,o2,p2,q2⟩:=M4 h2 (λ b hb=>hc b (by simp[hb])) ha.2 (λ j hj=>hrd j (by simp[aR,hj]));refine⟨hs1++hs2,o1++o2,gL p1 p2,λag=>?_⟩;simp only[bQ,mG,aM,q1,af,q2];show _=some ((CT.row X.toSE c x.1++HL.row X.toSE l g.1).map AV.t,ag,o1++o2);rw[List.map_append,<- PB ha.1 x.1];rfl
 |[],_::_,_,hr,_,_,_=>by simp[wU]at hr
 |_::_,[],_,hr,_,_,_=>by simp[wU]at hr
theorem z8{d:DV X}{c:CT X.ι}{x:CT.T X.toSE c×List Bool}(h:FK get d c=some x)(hc:∀b∈x.2,b=true)(hrd:∀j∈bk d,j∈rd):∃hs obs,(∀ p∈obs,p)/\∀ag,nT P (dL rd (fw get)) (den d) (hs++ag)=some ((CT.tv X.toSE c x.1).av,ag,obs):=by
 cases c
 case st i=>
  replace h:Z0 get d i=some x:=h
  cases d
  case agg cs=>
   simp only[Z0]at h;rw[ai]at h;obtain⟨g,h1,h⟩:=h;cases h;obtain⟨hs,obs,p1,q1⟩:=M4 (P:=P) (rd:=rd) h1 hc (X.flat i) (λ j hj=>hrd j (by simpa[bk]using hj));refine⟨hs,obs,p1,λag=>?_⟩;simp only[den,nT,q1,af,CT.tv,TV.av];rw[X.gC]
  case c a y=>exact H6 (c:= .st i) (x:=x) (by unfold RG;exact h) hc hrd
  all_goals cases h
 all_goals exact H6 h hc hrd
theorem adC{d:DV X}{c:CT X.ι}{x:CT.T X.toSE c}(h:X1 get d c=some x)(hrd:∀j∈bk d,j∈rd):∃hs obs,(∀ p∈obs,p)/\∀ag,nT P (dL rd (fw get)) (den d) (hs++ag)=some (.eM (CT.row X.toSE c x) 0,ag,obs):=by
 unfold X1 at h;split at h
 .rename_i kk row;rw[ai]at h;obtain⟨o,h1,h⟩:=h;split at h
  .rename_i sz rows;rw[ai]at h;obtain⟨q,h2,h⟩:=h;split at h
   .rename_i hq;refine⟨[.row (CT.row X.toSE c x)],[(bG (.cells sz rows):aT).rows[row]? =some ((CT.row X.toSE c x).map AV.t)],?_,λag=>?_⟩
    .intro p hp;simp only[aP]at hp;subst hp;simp only[bG,List.getElem?_map,h2,Option.map_some];rw[<- yj h,nU,map_map];congr 1;refine map_congr_left λy hy=>?_;have:=all_eq_true.1 hq y hy;cases y<;>first |exact(aoZ _).symm |simp at this
    .simp only[cons_append,bT,den,nT,eD (hrd kk (by simp[bk])) h1,af]
   .cases h
  .cases h
 .rename_i a y;refine⟨[],[],by simp,λag=>?_⟩;simp only[den,(oC h).2];rfl
 .cases h
theorem agp{n:Nat}{l l':U (AT X.ι)}(e:l=l')(b:iD X l):dR n l' (e ▸ b)=dR n l b:=by subst e;rfl
theorem Cy{py:FuncId->U (DV X)->U (DV X)->(as:U (CT X.ι))->(r:CT X.ι)->J ((HL X.toSE as->J (CT.T X.toSE r))×List Bool)}:∀{ds:U (DV X)}{l:U (AT X.ι)}{a:iD X l×List Bool},j5 get py ds l=some a->(l.all λq=>!q.im)=true
 |[],[],_,_=>rfl
 |d::ds,.d c::l,a,h=>by
  simp only[j5]at h;have⟨x,h1,h⟩:=ai.1 h;have⟨q,h2,h⟩:=ai.1 h;simpa[AT.im]using Cy h2
 |d::ds,.ref c::l,a,h=>by
  simp only[j5]at h;have⟨x,h1,h⟩:=ai.1 h;have⟨q,h2,h⟩:=ai.1 h;simpa[AT.im]using Cy h2
 |d::ds,.ek as r::l,a,h=>by
  simp only[j5]at h;have⟨x,h1,h⟩:=ai.1 h;have⟨q,h2,h⟩:=ai.1 h;simpa[AT.im]using Cy h2
 |_::_,.mut _::_,_,h=>by simp[j5]at h
 |_::_,.jz _::_,_,h=>by simp[j5]at h
 |_::_,.nil::_,_,h=>by simp[j5]at h
 |[],_::_,_,h=>by simp[j5]at h
 |_::_,[],_,h=>by simp[j5]at h
theorem adD:∀{n:Nat}{ds:U (DV X)}{l:U (AT X.ι)}{a:iD X l×List Bool},RH Γ get n ds l=some a->(l.all λq=>!q.im)=true
 | 0,_,_,_,h=>Cy h
 |_+1,_,_,_,h=>Cy h
theorem Uw:∀as:U (CT X.ι),((as.map AT.d).all λq=>!q.im)=true
 |[]=>rfl
 |_::l=>Uw l
def apY(P:Program)(get:Nat->J (bm X))(py:FuncId->U (DV X)->U (DV X)->(as:U (CT X.ι))->(r:CT X.ι)->J ((HL X.toSE as->J (CT.T X.toSE r))×List Bool)):Prop:=
 ∀f first caps as r φ rd,py f first caps as r=some φ->(∀ b∈φ.2,b=true)->(∀ j∈aR first++aR caps,j∈rd)->∃hs obs,(∀ p∈obs,p)/\∀ag,nT P (dL rd (fw get)) (.fn f (bQ first) (bQ caps)) (hs++ag)=some (den (.ek as r φ.1:DV X),ag,obs)
theorem sW{n:Nat}{py:FuncId->U (DV X)->U (DV X)->(as:U (CT X.ι))->(r:CT X.ι)->J ((HL X.toSE as->J (CT.T X.toSE r))×List Bool)}(tU:apY P get py):∀{ds:U (DV X)}{l:U (AT X.ι)}{a:iD X l×List Bool},j5 get py ds l=some a->(∀ b∈a.2,b=true)->(∀ j∈aR ds,j∈rd)->
 ∃hs obs,(∀ p∈obs,p)/\∀ag,mG P (dL rd (fw get)) (bQ ds) (hs++ag)=some (dR n l a.1,ag,obs)
 |[],[],_,_,_,_=>⟨[],[],by simp,λag=>rfl⟩
 |d::ds,.d c::l,a,h,hc,hrd=>by
  simp only[j5]at h;have⟨x,h1,h⟩:=ai.1 h;have⟨q,h2,h⟩:=ai.1 h;cases h;obtain⟨hs1,o1,p1,q1⟩:=z8 (P:=P) (rd:=rd) h1 (λ b hb=>hc b (by simp[hb])) (λ j hj=>hrd j (by simp[aR,hj]));obtain⟨hs2,o2,p2,q2⟩:=sW (n:=n) tU h2 (λ b hb=>hc b (by simp[hb])) (λ j hj=>hrd j (by simp[aR,hj]));refine⟨hs1++hs2,o1++o2,gL p1 p2,λag=>?_⟩;simp only[bQ,mG,aM,q1,af,q2,dR]
 |d::ds,.ref c::l,a,h,hc,hrd=>by
  simp only[j5]at h;rw[ai]at h;obtain⟨x,h1,h⟩:=h;rw[ai]at h;obtain⟨q,h2,h⟩:=h;cases h;obtain⟨hs1,o1,p1,q1⟩:=adC (P:=P) (rd:=rd) h1 (λ j hj=>hrd j (by simp[aR,hj]));obtain⟨hs2,o2,p2,q2⟩:=sW (n:=n) tU h2 hc (λ j hj=>hrd j (by simp[aR,hj]));refine⟨hs1++hs2,o1++o2,gL p1 p2,λag=>?_⟩;simp only[bQ,mG,aM,q1,af,q2,dR]
 |d::ds,.ek as r::l,a,h,hc,hrd=>by
  simp only[j5]at h;rw[ai]at h;obtain⟨φ,h1,h⟩:=h;rw[ai]at h;obtain⟨q,h2,h⟩:=h;cases h;have hd:∃hs obs,(∀ p∈obs,p)/\∀ag,nT P (dL rd (fw get)) (den d) (hs++ag)=some (den (.ek as r φ.1:DV X),ag,obs):=by
   cases d
   case ek as' r' ψ=>
    simp only at h1;split at h1
    .rename_i e;obtain⟨rfl,rfl⟩:=e;cases h1;exact⟨[],[],by simp,λag=>rfl⟩
    .cases h1
   case fn f first caps=>
    obtain⟨hs,obs,g1,g2⟩:=tU f first caps as r φ rd h1 (λ b hb=>hc b (by simp[hb])) (λ j hj=>hrd j (by simp only[aR,bk,aZ]at hj ⊢;exact .inl hj))
    exact⟨hs,obs,g1,λag=>by simp only[den];exact g2 ag⟩
   all_goals simp at h1
  obtain⟨hs1,o1,p1,q1⟩:=hd;obtain⟨hs2,o2,p2,q2⟩:=sW (n:=n) tU h2 (λ b hb=>hc b (by simp[hb])) (λ j hj=>hrd j (by simp[aR,hj]));refine⟨hs1++hs2,o1++o2,gL p1 p2,λag=>?_⟩;simp only[bQ,mG,aM,q1,af,q2,dR]
 |_::_,.mut _::_,_,h,_,_=>by simp[j5]at h
 |_::_,.jz _::_,_,h,_,_=>by simp[j5]at h
 |_::_,.nil::_,_,h,_,_=>by simp[j5]at h
 |[],_::_,_,h,_,_=>by simp[j5]at h
 |_::_,[],_,h,_,_=>by simp[j5]at h
theorem agq{n:Nat}:∀{l:U (AT X.ι)}(a:iD X l),l=[]->dR n l a=[]
 |_,_,rfl=>rfl
theorem rV(hΓ:sC P Γ):∀(m:Nat){n:Nat}{ds:U (DV X)}{l:U (AT X.ι)}{a:iD X l×List Bool}{rd:U Nat},RH Γ get m ds l=some a->(∀ b∈a.2,b=true)->(∀ j∈aR ds,j∈rd)->
 ∃hs obs,(∀ p∈obs,p)/\∀ag,mG P (dL rd (fw get)) (bQ ds) (hs++ag)=some (dR n l a.1,ag,obs)
 | 0,n,ds,l,a,rd,h,hcs,hrd=>sW (λ _ _ _ _ _ _ _ h=>by cases h) h hcs hrd
 |m+1,n,ds,l,a,rd,h,hcs,hrd=>by
  refine sW (λ f first caps as r φ rd' hc hb HN=>?_) h hcs hrd;rw[ai]at hc;obtain⟨s,h1,hc⟩:=hc;split at hc
  .rename_i sa r' fn _;split at hc
   .rename_i e;obtain⟨rfl,e2,e3⟩:=e;have⟨hf,h2,hc⟩:=ai.1 hc;have⟨hcap,h3,hc⟩:=ai.1 hc;injection hc with hc;rw[<- hc]at hb;obtain⟨g1,g2,_⟩:=hΓ f _ h1;obtain⟨hs1,o1,p1,q1⟩:=rV hΓ m h2 (n:=0) (rd:=rd') (λ b hb'=>hb b (by simp[hb'])) (λ j hj=>HN j (by simp[hj]));obtain⟨hs2,o2,p2,q2⟩:=rV hΓ m h3 (n:=0+qm (sa.take first.length)+qm (as.map AT.d)) (rd:=rd') (λ b hb'=>hb b (by simp[hb'])) (λ j hj=>HN j (by simp[hj]));refine⟨.ek (λ ts u=>∃h x,φ.1 h=some x/\ts=HL.nw X.toSE as h/\u=CT.tv X.toSE r' x)::(hs1++hs2),o1++(o2++[dR 0 _ hf.1=[]/\eU P f/\∀args r,(∃ h x,φ.1 h=some x/\args=HL.nw X.toSE as h/\r=CT.tv X.toSE r' x)->rh P f (dR 0 _ hf.1++args.map TV.av++dR (0+qm (sa.take first.length)+qm (as.map AT.d)) _ hcap.1) (.one (.d r))]),?_,λag=>?_⟩
    .intro p hp;simp only[aZ,aP]at hp;rcases hp with hp |hp |hp
     .exact p1 p hp
     .exact p2 p hp
     .subst hp;refine⟨agq _ (by rw[e3];rfl),g1,?_⟩;rintro args r ⟨x,y,hxy,rfl,rfl⟩;rw[<- hc]at hxy;have hxy':fn (e2 ▸ uu _ _ hf.1 (uu _ _ (hlA as x) hcap.1))=some y:=hxy;have:=g2 _ _ hxy';have hnm:(sa.all λq=>!q.im)=true:=(by rw[e2,List.all_append,List.all_append,adD h2,adD h3,Uw];rfl);rw[wo hnm,wm,agp e2.symm,kW,kW,JI,<- aM]at this;exact MU this
    .simp only[cons_append,aM,nT,q1,af,q2];rfl
   .cases hc
  .cases hc
end
end
def RI(s:ByteArray)(n:Int):J Int:=bif decide (0<=n)then(s[n.toNat]?).map λb=>(b.toNat:Int)else none
def xE(m:Int)(bytes:Nat):Bool:=decide (0<=m)&&decide (m.toNat*bytes<=140737488355328)&&decide (m.toNat<=maxLen)
def eY{K V:Type}(eq:K->K->Bool)(k:K):U (K×V)->J V
 |[]=>none
 |p::r=>bif eq k p.1 then some p.2 else eY eq k r
def o6{K V:Type}(eq:K->K->Bool)(k:K)(v:V):U (K×V)->U (K×V)
 |[]=>[(k,v)]
 |p::r=>bif eq k p.1 then(k,v)::r else p::o6 eq k v r
def gj(a b:Int):Bool:=a==b
def lv(a b:ByteArray):Bool:=a.toList==b.toList
def bEq(a b:Bool):Bool:=a==b
section
variable {X:SX} {A:Type}
def M5:(c:CT X.ι)->J (CT.T X.toSE c->CT.T X.toSE c->Bool)
 | .int _=>some gj
 | .str=>some lv
 | .bool=>some bEq
 |_=>none
def DM{ι:Type}:AG->CT ι->Bool
 | .int a,.int b=>decide (a=b)
 | .str,.str=>true
 | .bool,.bool=>true
 |_,_=>false
def Nd{ι:Type}:CT ι->Bool
 | .st _=>true
 |_=>false
theorem iA(a b:U (DV X)):bQ (a++b)=bQ a++bQ b:=by simp[nU]
theorem rW(a b:U (Nat×Option (bm X))):iw (a++b)=iw a++iw b:=by simp[iw]
def M6(ae:U Nat):U (Nat×Option (bm X)):=ae.map λj=>(j,none)
theorem Cz(ae:U Nat):iw (M6 (X:=X) ae)=ae.map λk=>(k,none):=by simp[iw,M6]
theorem JJ{ae:U Nat}{p:Nat×Option (bm X)}(h:p∈M6 ae):p.1∈ae:=by
 simp only[M6,mem_map]at h;obtain⟨j,hj,rfl⟩:=h;exact hj
variable (T:eo) (am:TypeId->Option (CT X.ι))
def ZS:DV X->Bool
 | .nil=>true
 |_=>false
def FA(op:BinOp)(b:DV X)(yes:Bool)(k:KK X A):J A:=
 match op with
 | .eql=>bif yes then k b [] [] []else k (.c .bool false) [] [] []
 | .neq=>bif yes then k b [] [] []else k (.c .bool true) [] [] []
 |_=>none
def V0(op:BinOp)(t:TypeId)(x:DV X)(k:KK X A):J A:=
 (T t).bind λti=>match ti.k,x with
 | .slice _,.c (.sl _) l=>FA op .ub (List.isEmpty l) k
 | .slice _,.own _ _ len=>FA op .ub (len==0) k
 | .slice _,.oz _ len=>FA op (.c .bool (op== .eql)) (len==0) k
 | .slice _,.nil=>FA op (.c .bool (op== .eql)) true k
 |_,_=>none
def ao1(s d:TypeId)(x:DV X)(k:KK X A):J A:=
 (T s).bind λ_=>(T d).bind λdi=>match di.k,x with
 | .int kd,.c (.int _) n=>k (.c (.int kd) (kd.wrap (iN n))) [] [] []
 |_,_=>none
def alh(t:TypeId)(x j:DV X)(k:KK X A):J A:=
 (T t).bind λti=>match ti.k,x,j with
 | .str,.c .str s,.c (.int _) n=>(RI s n).bind λb=>k (.c (.int .u8) b) [] [] []
 | .arr m e,.agg cs,.c (.int _) q=>(T e).bind λei=>bif cN q m then(Hz ei.agg ei.size ((cs.drop (q.toNat*ei.size)).take ei.size)).bind λv=>k v [] [] []else none
 |_,_,_=>none
def Z4(t:TypeId)(x:DV X)(lo hi:J (DV X))(k:KK X A):J A:=
 (T t).bind λti=>match ti.k,x with
 | .slice e,.nil=>(T e).bind λ_=>(As 0 lo).bind λl=>(As 0 hi).bind λh=>bif decide (l=0)&&decide (h=0)then k .nil [] [] []else none
 |_,_=>none
def PO(i:Nat)(b:Builtin)(args:U (DV X))(cX:U TypeId)(get:Nat->J (bm X))(k:KK X A):J A:=
 match b,args,cX with
 | .cap,[.nil],[t]=>(T t).bind λti=>match ti.k with
  | .slice _=>k (.c (.int .i64) (0:Int)) [] [] []
  |_=>none
 | .clear,[.own kk aa _],[t]=>(T t).bind λti=>match ti.k with
  | .slice e=>(T e).bind λei=>(get kk).bind λo=>match o with
   | .en c l=>if CT.sz X c=ei.size then k (.eV []) [(kk,some (.en c (l.take aa)))] [kk] [kk]else none
   |_=>none
  |_=>none
 | .append,[.nil,.c (.int _) m],[t,u]=>(T t).bind λti=>(T u).bind λui=>match ti.k,ui.k with
  | .slice e,.int _=>(T e).bind λei=>(am e).bind λc=>if CT.sz X c=ei.size/\0<ei.size then(HV c (ei.zero.map t7)).bind λz=>
   bif xE (iN m) ei.bytes then k (.own (cR i) 0 m.toNat) [(cR i,some (.en c (List.replicate m.toNat z)))] [] []else none else none
  |_,_=>none
 |_,_,_=>none
def PS(x:DV X)(k:KK X A):J A:=
 match x with
 | .ptr kk r f=>k (.ptr kk r f) [] [] []
 | .qt kk n f=>k (.qt kk n f) [] [] []
 | .tj kk r f m n=>k (.tj kk r f m n) [] [] []
 | .rp c y f=>k (.rp c y f) [] [] []
 |_=>none
def XX(i:Nat)(t:TypeId)(l c:DV X)(k:KK X A):J A:=
 (T t).bind λti=>match ti.k,l,c with
 | .slice e,.c (.int _) n,.c (.int _) m=>(T e).bind λei=>(am e).bind λc=>if CT.sz X c=ei.size/\0<ei.size then(HV c (ei.zero.map t7)).bind λz=>
  bif decide (iN n<=iN m)&&(decide (0<=iN n)&&xE (iN m) ei.bytes)then k (.own (cR i) 0 n.toNat) [(cR i,some (.en c (List.replicate n.toNat z)))] [] []else none else none
 |_,_,_=>none
def VU(i:Nat)(t:TypeId)(k:KK X A):J A:=
 (T t).bind λti=>match ti.k with
 | .map kt et=>(am kt).bind λkc=>(am et).bind λvc=>k (.mp (cR i)) [(cR i,some (.map kc vc []))] [] []
 |_=>none
def Ux(t:TypeId)(x key:DV X)(ok:Bool)(get:Nat->J (bm X))(k:KK X A):J A:=
 (T t).bind λti=>match ti.k,x with
 | .map kt et,.mp kk=>(T kt).bind λki=>(T et).bind λei=>(get kk).bind λo=>match o with
  | .map kc vc l=>(M5 kc).bind λeq=>(Kj key kc).bind λkv=>if DM ki.k kc=true/\ei.agg=Nd vc/\ei.size=CT.sz X vc then(HV vc (ei.zero.map t7)).bind λz=>
   bif ok then k (.eV [.c vc ((eY eq kv l).getD z),.c .bool (eY eq kv l).isSome]) [] [kk] []else k (.c vc ((eY eq kv l).getD z)) [] [kk] []else none
  |_=>none
 |_,_=>none
def Uy(t:TypeId)(x key y:DV X)(get:Nat->J (bm X))(k:KK X A):J A:=
 (T t).bind λti=>match ti.k,x with
 | .map kt _,.mp kk=>(T kt).bind λki=>(get kk).bind λo=>match o with
  | .map kc vc l=>(M5 kc).bind λeq=>(Kj key kc).bind λkv=>(dat y vc).bind λv=>if DM ki.k kc=true then k .undef [(kk,some (.map kc vc (o6 eq kv v l)))] [kk] [kk]else none
  |_=>none
 |_,_=>none
def mU:(l:U (CT X.ι))->HL X.toSE l->U Int
 |[],_=>[]
 | .int _::l,h=>h.1::mU l h.2
 |_::l,h=>mU l h.2
def H7(i:X.ι)(a b:CT.T X.toSE (.st i)):Bool:=decide (mU (X.cX i) (X.get i a)=mU (X.cX i) (X.get i b))
def Ef{ι:Type}(k:IntKind):U (CT ι)->Bool
 |[]=>true
 | .int k'::l=>decide (k'=k)&&Ef k l
 |_=>false
def M7(t:TypeId)(x key:DV X)(ok:Bool)(get:Nat->J (bm X))(k:KK X A):J A:=
 (T t).bind λti=>match ti.k,x with
 | .map kt et,.mp kk=>(Ge T kt).bind λmk=>(T et).bind λei=>(get kk).bind λo=>match o with
  | .map (.st i) vc l=>(dat key (.st i)).bind λkv=>if (X.cX i).length=mk.1/\Ef mk.2 (X.cX i)=true/\ei.agg=Nd vc/\ei.size=CT.sz X vc then(HV vc (ei.zero.map t7)).bind λz=>
   bif ok then k (.eV [.c vc ((eY (H7 i) kv l).getD z),.c .bool (eY (H7 i) kv l).isSome]) [] [kk] []else k (.c vc ((eY (H7 i) kv l).getD z)) [] [kk] []else none
  |_=>none
 |_,_=>none
def M8(t:TypeId)(x key y:DV X)(get:Nat->J (bm X))(k:KK X A):J A:=
 (T t).bind λti=>match ti.k,x with
 | .map kt _,.mp kk=>(Ge T kt).bind λmk=>(get kk).bind λo=>match o with
  | .map (.st i) vc l=>(dat key (.st i)).bind λkv=>(dat y vc).bind λv=>if (X.cX i).length=mk.1/\Ef mk.2 (X.cX i)=true then k .undef [(kk,some (.map (.st i) vc (o6 (H7 i) kv v l)))] [kk] [kk]else none
  |_=>none
 |_,_=>none
def Z5(x:DV X)(get:Nat->J (bm X)):Bool:=match x with
 | .mp kk=>match get kk with
  |some (.map (.st _) _ _)=>true
  |_=>false
 |_=>false
def apZ(o:Op)(ρ:Operand->DV X):Bool:=
 match o with
 | .binOp _ _ _ y _=>ZS (ρ y)
 | .convert _ _ _=>true
 | .index _ _ _=>true
 | .nilCheck _=>true
 | .makeSlice _ _ _=>true
 | .makeMap _ none=>true
 | .lookup _ _ _ _=>true
 | .mapUpdate _ _ _ _=>true
 | .slice _ x _ _ none=>ZS (ρ x)
 | .call { callee:= .builtin b,args:=args,argTypes:=_ }=>match b,args.toList.map ρ with
  | .cap,_=>true
  | .clear,_=>true
  | .append,[_,.c (.int _) _]=>true
  |_,_=>false
 |_=>false
def VV(i:Nat)(o:Op)(ρ:Operand->DV X)(get:Nat->J (bm X))(k:KK X A):J A:=
 match o with
 | .binOp op t x y _=>if ZS (ρ y)then V0 T op t (ρ x) k else none
 | .convert s d x=>ao1 T s d (ρ x) k
 | .index t x j=>alh T t (ρ x) (ρ j) k
 | .slice t x lo hi none=>Z4 T t (ρ x) (lo.map ρ) (hi.map ρ) k
 | .nilCheck x=>PS (ρ x) k
 | .makeSlice t l c=>XX T am i t (ρ l) (ρ c) k
 | .makeMap t none=>VU T am i t k
 | .lookup t m x ok=>bif Z5 (ρ m) get then M7 T t (ρ m) (ρ x) ok get k else Ux T t (ρ m) (ρ x) ok get k
 | .mapUpdate t m x v=>bif Z5 (ρ m) get then M8 T t (ρ m) (ρ x) (ρ v) get k else Uy T t (ρ m) (ρ x) (ρ v) get k
 | .call { callee:= .builtin b,args:=args,argTypes:=cX }=>PO T am i b (args.toList.map ρ) cX.toList get k
 |_=>none
def Kd(get:Nat->J (bm X))(c:CT X.ι)(ρ:Operand->DV X)(x:Operand):DV X:=
 match FK get (ρ x) c with
 |some y=> .c c y.1
 |none=>ρ x
def M3(get:Nat->J (bm X))(c:CT X.ι)(ρ:Operand->DV X):U Operand->U Bool
 |[]=>[]
 |x::xs=>(match FK get (ρ x) c with |some y=>y.2 |none=>[])++M3 get c ρ xs
def AD(get:Nat->J (bm X))(c:CT X.ι)(ρ:Operand->DV X):U Operand->U Nat
 |[]=>[]
 |x::xs=>(match FK get (ρ x) c with |some _=>bk (ρ x) |none=>[])++AD get c ρ xs
def anL(o:Op)(ρ:Operand->DV X)(get:Nat->J (bm X)):J (CT X.ι):=
 match o with
 | .box t _=>am t
 | .assign x | .move x=>match ρ x with
  | .own kk _ _=>(get kk).bind λo=>match o with
   | .en c _=>some (.sl c)
   |_=>none
  |_=>none
 | .buildSlice t _ _=>(T t).bind λti=>match ti.k with
  | .slice e=>am e
  |_=>none
 | .store t _ _=>am t
 |_=>none
def ap2(o:Op)(ρ:Operand->DV X):Bool:=
 match o with
 | .buildSlice _ _ parts=>!(aR (parts.toList.map λp=>ρ p.2)).isEmpty
 | .store _ a x=>match ρ a with
  | .qt _ _ _=>!(bk (ρ x)).isEmpty
  |_=>false
 |_=>false
def VM(i:Nat)(o:Op)(ρ:Operand->DV X)(get:Nat->J (bm X))(k:KK X A):J A:=
 if af2 o then none else(anL T am o ρ get).bind λc=>VB (M3 get c ρ o.operands.toList)
  (L5 T am i o (Kd get c ρ) (λ j=>if j∈AD get c ρ o.operands.toList then none else get j) λdv upd rd wr=>
   k dv (upd++M6 (AD get c ρ o.operands.toList)) (rd++AD get c ρ o.operands.toList) (wr++AD get c ρ o.operands.toList))
def ap3(o:Op)(ρ:Operand->DV X):Bool:=
 match o with
 | .indexAddr t x (.tmp _)=>match ρ x,T t with
  | .ptr _ _ _,some ti | .rp _ _ _,some ti=>match ti.k with
   | .arr _ e=>match T e with
    |some ei=>ei.size==1
    |none=>false
   |_=>false
  |_,_=>false
 | .load _ a=>match ρ a with
  | .tj _ _ _ _ _ | .wy _ _ _ _ _=>true
  |_=>false
 |_=>false
def zI(c:CT X.ι):U (DV X)->J (List (CT.T X.toSE c))
 |[]=>some []
 | .c a x::r=>(jq a c x).bind λy=>(zI c r).bind λl=>some (y::l)
 |_=>none
def VC(o:Op)(ρ:Operand->DV X)(get:Nat->J (bm X))(k:KK X A):J A:=
 match o with
 | .indexAddr t x j=>(T t).bind λti=>match ti.k,ρ x,ρ j with
  | .arr m e,.ptr kk row aa,.c (.int _) n=>(T e).bind λei=>if ei.size=1 then bif cN n m then k (.tj kk row aa m n) [] [] []else none else none
  | .arr m e,.rp c y aa,.c (.int _) n=>(T e).bind λei=>if ei.size=1 then bif cN n m then k (.wy c y aa m n) [] [] []else none else none
  |_,_,_=>none
 | .load t a=>(T t).bind λti=>match ρ a with
  | .tj kk row aa m n=>if ti.size=1/\ti.agg=false then(am t).bind λc=>if c.one=true then(get kk).bind λo=>match o with
   | .cells _ rows=>(rows[row]?).bind λq=>(zI c ((q.drop aa).take m)).bind λ(xs:List (CT.T X.toSE c))=>(bo xs n).bind λy=>k (.c c y) [] [kk] []
   | .en _ _=>none
   |_=>none
   else none else none
  | .wy b y aa m n=>if ti.size=1/\ti.agg=false then(am t).bind λc=>if c.one=true then(zI c (((uV b y).drop aa).take m)).bind λ(xs:List (CT.T X.toSE c))=>(bo xs n).bind λy=>k (.c c y) [] [] []
   else none else none
  |_=>none
 |_=>none
variable {T am}
def ej(P:Program)(T:eo)(i:Nat)(o:Oper)(ρ:Operand->DV X)(get:Nat->J (bm X))(k:KK X A)(r:A):Prop:=
 ∃cL rd wr dv upd ab,jy P T i o cL (λ x=>den (ρ x)) (dL rd (fw get))=some ab/\jk ab.obs/\ab.v=den dv/\ab.upd=iw upd/\(∀ p∈upd,p.1=cR i\/p.1∈wr)/\k dv upd rd wr=some r
section
variable {P:Program} {get:Nat->Option (bm X)} {k:KK X A} {r:A} {i:Nat} {o:Oper} {ρ:Operand->DV X}
theorem alk{t:TypeId}{x:AV}{cL:ka}(h:(∃ n,cL= .ext n)\/∃ae fr q,cL= .xt ae fr q):AF T t x .none=AF T t x cL:=by
 unfold AF;cases T t with
 |none=>rfl
 |some ti=>
  simp only[af];generalize ti.k=kk;rcases h with ⟨n,rfl⟩ |⟨ae,fr,q,rfl⟩<;>cases kk<;>try rfl
  all_goals cases x<;>try rfl
  all_goals (rename_i y;cases y<;>try rfl)
  all_goals (rename_i y;cases y<;>rfl)
theorem VW{t:TypeId}{x j:AV}{cL:ka}{get:Nat->J aT}(h:(∃ n,cL= .ext n)\/∃ae fr q,cL= .xt ae fr q):l5 T t x j .none get=l5 T t x j cL get:=by
 unfold l5;cases T t with
 |none=>rfl
 |some ti=>
  simp only[af];generalize ti.k=kk;cases kk<;>try rfl
  case arr m e=>
   cases j<;>try rfl
   rename_i y;cases y<;>try rfl
   rename_i y;cases y<;>rfl
  cases j<;>try rfl
  rename_i e y;cases y<;>try rfl
  rename_i y;cases y<;>try rfl
  simp only;cases T e with
  |none=>rfl
  |some ei=>
   simp only[af];rcases h with ⟨n,rfl⟩ |⟨ae,fr,q,rfl⟩<;>cases x<;>try rfl
   all_goals (rename_i z;cases z<;>rfl)
theorem adF{t:TypeId}{x y:AV}{cL:ka}{get:Nat->J aT}(h:(∃ n,cL= .ext n)\/∃ae fr q,cL= .xt ae fr q):zU T i t x y .none get=zU T i t x y cL get:=by
 unfold zU;rcases h with ⟨n,rfl⟩ |⟨ae,fr,q,rfl⟩<;>rfl
theorem ajw{cL:ka}{ρ:Operand->AV}{get:Nat->J aT}(h:(∃ n,cL= .ext n)\/∃ae fr q,cL= .xt ae fr q):qg T i o .none ρ get=qg T i o cL ρ get:=by
 obtain⟨dst,op,ty,ao,after,guard⟩:=o;cases op
 case call c=>
  obtain⟨callee,args,cX⟩:=c;cases callee<;>try rfl
  rename_i b;simp only[qg,Cr];split
  .exact alk h
  .rfl
  .rfl
  .rw[adF h]
  .rfl
 case slice t x lo hi mx=>cases mx<;>rcases h with ⟨n,rfl⟩ |⟨ae,fr,q,rfl⟩<;>rfl
 case makeFunc fn a b=>cases fn<;>rfl
 case indexAddr t x j=>exact VW h
 all_goals (rcases h with ⟨n,rfl⟩ |⟨ae,fr,q,rfl⟩<;>rfl)
theorem ej.ext{n:Int}{rd wr:U Nat}{dv:DV X}{upd:U (Nat×Option (bm X))}{ab:Out}(h:sQ T i o n (λ x=>den (ρ x)) (dL rd (fw get))=some ab)(h1:jk ab.obs)(h2:ab.v=den dv)(h3:ab.upd=iw upd)(h4:∀p∈upd,p.1=cR i\/p.1∈wr)(h5:k dv upd rd wr=some r)(hx:K0 o.op=false:=by rfl):ej P T i o ρ get k r:=
 ⟨.ext n,rd,wr,dv,upd,ab,by show sS T i o n _ _=some ab;unfold sS;rw[hx];simp only[ak,h],h1,h2,h3,h4,h5⟩
theorem ej.wa{n:Int}{rd wr:U Nat}{dv:DV X}{upd:U (Nat×Option (bm X))}{ab:Out}(h:D8 T i o n (λ x=>den (ρ x)) (dL rd (fw get))=some ab)(h1:jk ab.obs)(h2:ab.v=den dv)(h3:ab.upd=iw upd)(h4:∀p∈upd,p.1=cR i\/p.1∈wr)(h5:k dv upd rd wr=some r)(hx:K0 o.op=true:=by rfl):ej P T i o ρ get k r:=
 ⟨.ext n,rd,wr,dv,upd,ab,by show sS T i o n _ _=some ab;unfold sS;rw[hx];simp only[aj,h],h1,h2,h3,h4,h5⟩
theorem SC{x:DV X}(h:PS x k=some r):∃dv,Pq (den x)=some ⟨den dv,[],[]⟩/\k dv [] [] []=some r:=by cases x<;>simp only[PS]at h<;>first |cases h |exact⟨_,rfl,h⟩
theorem Z6{cL:ka}{ρ:Operand->AV}{get:Nat->J aT}(hne:∀f args cX,o.op≠ .call { callee:= .value f,args:=args,argTypes:=cX })(ho:∀n,cL≠ .ext n)(hf:∀ae fr q,cL≠ .xt ae fr q):jy P T i o cL ρ get=qg T i o cL ρ get:=by
 have e:∀(α:Type) (a:Operand->Array Operand->Array TypeId->α) (b:α),(match o.op with | .call { callee:= .value f,args:=args,argTypes:=cX }=>a f args cX |_=>b)=b:=by
  intro α a b;split
  .rename_i f args cX heq;exact(hne f args cX heq).elim
  .rfl
 cases cL<;>first |exact(ho _ rfl).elim |exact(hf _ _ _ rfl).elim |exact e _ _ _
theorem ej.op{cL:ka}{rd wr:U Nat}{dv:DV X}{upd:U (Nat×Option (bm X))}{ab:Out}(hne:∀f args cX,o.op≠ .call { callee:= .value f,args:=args,argTypes:=cX })
 (h:qg T i o cL (λ x=>den (ρ x)) (dL rd (fw get))=some ab) (h1:jk ab.obs/\ab.v=den dv/\ab.upd=iw upd/\(∀ p∈upd,p.1=cR i\/p.1∈wr)/\k dv upd rd wr=some r):ej P T i o ρ get k r:=by
 obtain⟨vd,h'⟩:∃vd,jy P T i o vd (λ x=>den (ρ x)) (dL rd (fw get))=some ab:=by
  by_cases hx:(∃ n,cL= .ext n)\/∃ae fr q,cL= .xt ae fr q
  .refine⟨.none,?_⟩;rw[Z6 hne (by simp) (by simp),ajw hx,h]
  .simp only[not_or,not_exists]at hx;exact⟨cL,by rw[Z6 hne hx.1 (λ ae fr q=>hx.2 ae fr q),h]⟩
 exact⟨vd,rd,wr,dv,upd,ab,h',h1⟩
theorem ej.call{dst:J Tmp}{f:Operand}{args:Array Operand}{cX:Array TypeId}{ty:TypeId}{ao:String}{after:Array Edge}{guard:J (Nat×Bool)}{cL:ka}{rd wr:U Nat}{dv:DV X}{upd:U (Nat×Option (bm X))}{ab:Out}
 (h:j3 P i (den (ρ f)) (args.toList.map λx=>den (ρ x)) cL (dL rd (fw get))=some ab) (h1:jk ab.obs/\ab.v=den dv/\ab.upd=iw upd/\(∀ p∈upd,p.1=cR i\/p.1∈wr)/\k dv upd rd wr=some r):
 ej P T i ⟨dst,.call { callee:= .value f,args:=args,argTypes:=cX },ty,ao,after,guard⟩ ρ get k r:=by
 refine⟨cL,rd,wr,dv,upd,ab,?_,h1⟩;unfold jy;split
 .unfold j3 oW xC at h;simp only at h;split at h<;>first |cases h |(rename_i e;cases e)
 .unfold j3 oW xC at h;simp only at h;split at h<;>first |cases h |(rename_i e;cases e)
 .exact h
theorem JK{op:BinOp}{b:DV X}{yes:Bool}(h:FA op b yes k=some r):∃dv ab,EE op (den b) yes=some ab/\jk ab.obs/\ab.v=den dv/\ab.upd=[]/\k dv [] [] []=some r:=by
 unfold FA at h;split at h
 .cases yes with
  |true=>exact⟨b,_,rfl,trivial,rfl,rfl,h⟩
  |false=>exact⟨.c .bool false,_,rfl,trivial,rfl,rfl,h⟩
 .cases yes with
  |true=>exact⟨b,_,rfl,trivial,rfl,rfl,h⟩
  |false=>exact⟨.c .bool true,_,rfl,trivial,rfl,rfl,h⟩
 .cases h
theorem agt{op:BinOp}{t:TypeId}{x:DV X}(h:V0 T op t x k=some r):∃dv ab,Ax T op t (den x) .da=some ab/\jk ab.obs/\ab.v=den dv/\ab.upd=[]/\k dv [] [] []=some r:=by
 unfold V0 at h;rw[ai]at h;obtain⟨ti,h1,h⟩:=h;split at h
 .rename_i e c l hk;have⟨dv,ab,g1,g2⟩:=JK h;refine⟨dv,ab,?_,g2⟩;simp only[Ax,h1,af,hk,den,CT.tv,TV.av];rw[<- g1];congr 1;cases l<;>rfl
 .rename_i e kk aa len hk;have⟨dv,ab,g1,g2⟩:=JK h;exact⟨dv,ab,by simp only[Ax,h1,af,hk,den];exact g1,g2⟩
 .rename_i e kk len hk;have⟨dv,ab,g1,g2⟩:=JK h;exact⟨dv,ab,by simp only[Ax,h1,af,hk,den];exact g1,g2⟩
 .rename_i e hk;have⟨dv,ab,g1,g2⟩:=JK h;exact⟨dv,ab,by simp only[Ax,h1,af,hk,den];exact g1,g2⟩
 .cases h
theorem agu{s:ByteArray}{n b:Int}(h:RI s n=some b):0<=n/\∃c,s[n.toNat]? =some c/\b=c.toNat:=by
 unfold RI at h;by_cases hn:0<=n
 .simp only[hn,decide_true,aj,dN]at h;obtain⟨c,h1,h2⟩:=h;exact⟨hn,c,h1,h2.symm⟩
 .simp[hn]at h
theorem Z7{m:Int}{bytes:Nat}(h:xE m bytes=true):0<=m/\m.toNat*bytes<=140737488355328/\m.toNat<=maxLen:=by simpa[xE,and_assoc]using h
theorem SF{b:Builtin}{args:U (DV X)}{cX:U TypeId}(h:PO T am i b args cX get k=some r):
 ∃rd wr dv upd ab,uR T i b (bQ args) cX (dL rd (fw get))=some ab/\jk ab.obs/\ab.v=den dv/\ab.upd=iw upd/\(∀ p∈upd,p.1=cR i\/p.1∈wr)/\k dv upd rd wr=some r:=by
 unfold PO at h;split at h
 .rename_i t;rw[ai]at h;obtain⟨ti,h1,h⟩:=h;split at h
  .rename_i e hk;refine⟨[],[],_,[],⟨.t (.sc (.int .i64 0)),[],[]⟩,?_,trivial,rfl,rfl,by simp,h⟩;simp only[uR,bQ,den,h1,af,hk];rfl
  .cases h
 .rename_i kk aa len t;rw[ai]at h;obtain⟨ti,h1,h⟩:=h;split at h
  .rename_i e hk;rw[ai]at h;obtain⟨ei,h2,h⟩:=h;rw[ai]at h;obtain⟨o,h3,h⟩:=h;split at h
   .rename_i c l;split at h
    .rename_i hs;refine⟨[kk],[kk],_,_,⟨.eV [],[(kk,some ⟨CT.sz X c,(aI (l.map (CT.row X.toSE c))).take aa⟩)],[]⟩,?_,trivial,rfl,?_,by simp,h⟩
     .simp only[uR,bQ,den,h1,af,hk,h2,eD (List.mem_singleton_self kk) h3,bG];rw[aX hs]
     .simp[iw,bG,aI,map_take]
    .cases h
   .cases h
  .cases h
 .rename_i kd m t u;rw[ai]at h;obtain⟨ti,h1,h⟩:=h;rw[ai]at h;obtain⟨ui,h2,h⟩:=h;split at h
  .rename_i e kn hk hk';rw[ai]at h;obtain⟨ei,h3,h⟩:=h;rw[ai]at h;obtain⟨c,h4,h⟩:=h;split at h
   .rename_i hs;have⟨z,h5,h⟩:=ai.1 h;have⟨h6,h⟩:=d9 h;have⟨m1,m2,m3⟩:=Z7 h6;have hz:=yj h5;rw[Cv]at hz;refine⟨[],[],_,_,⟨.own (cR i) 0 m.toNat,[(cR i,some ⟨ei.size,dX (List.replicate m.toNat (ei.zero.map cv))⟩)],[0<=m/\m.toNat*ei.bytes<=140737488355328/\m.toNat<=maxLen/\0<ei.size]⟩,?_,?_,rfl,?_,by simp,h⟩
    .simp only[uR,bQ,den,CT.tv,TV.av,h1,h2,h3,af,hk,hk']
    .exact⟨m1,m2,m3,hs.2⟩
    .simp only[iw,aF,map_nil,Option.map_some,bG,hs.1,aI,dX,List.map_replicate];rw[hz]
   .cases h
  .cases h
 .cases h
theorem adG{t:TypeId}{l c:DV X}(h:XX T am i t l c k=some r):∃dv upd ab,LO T i t (den l) (den c)=some ab/\jk ab.obs/\ab.v=den dv/\ab.upd=iw upd/\(∀ p∈upd,p.1=cR i)/\k dv upd [] []=some r:=by
 unfold XX at h;rw[ai]at h;obtain⟨ti,h1,h⟩:=h;split at h
 .rename_i e kl n kc m hk;rw[ai]at h;obtain⟨ei,h3,h⟩:=h;rw[ai]at h;obtain⟨c,h4,h⟩:=h;split at h
  .rename_i hs;have⟨z,h5,h⟩:=ai.1 h;have⟨h6,h⟩:=d9 h;simp only[aL,aV]at h6;obtain⟨h7,h8,h9⟩:=h6;have⟨m1,m2,m3⟩:=Z7 h9;have hz:=yj h5;rw[Cv]at hz;refine⟨_,_,⟨.own (cR i) 0 n.toNat,[(cR i,some ⟨ei.size,dX (List.replicate n.toNat (ei.zero.map cv))⟩)],[0<=n/\n<=m/\m.toNat*ei.bytes<=140737488355328/\m.toNat<=maxLen/\0<ei.size]⟩,?_,?_,rfl,?_,by simp,h⟩
   .simp only[LO,den,CT.tv,TV.av,h1,h3,af,hk]
   .exact⟨h8,h7,m2,m3,hs.2⟩
   .simp only[iw,aF,map_nil,Option.map_some,bG,hs.1,aI,dX,List.map_replicate];rw[hz]
  .cases h
 .cases h
theorem VX{t:TypeId}(h:VU T am i t k=some r):∃dv upd ab,Hr T i t=some ab/\jk ab.obs/\ab.v=den dv/\ab.upd=iw upd/\(∀ p∈upd,p.1=cR i)/\k dv upd [] []=some r:=by
 unfold VU at h;rw[ai]at h;obtain⟨ti,h1,h⟩:=h;split at h
 .rename_i kt et hk;have⟨kc,h2,h⟩:=ai.1 h;have⟨vc,h3,h⟩:=ai.1 h;exact⟨_,_,⟨.mp (cR i),[(cR i,some ⟨0,[]⟩)],[]⟩,by simp only[Hr,h1,af,hk],trivial,rfl,rfl,by simp,h⟩
 .cases h
theorem alm{ki:np}{kc:CT X.ι}(h:DM ki.k kc=true)(x:CT.T X.toSE kc):∃v,(CT.tv X.toSE kc x).av= .t (.sc v)/\MF ki.k v=true:=by
 cases kc
 case int b=>
  refine⟨.int b x,rfl,?_⟩;cases hk:ki.k<;>rw[hk]at h<;>simp only[DM,aV,Bool.false_eq_true]at h;subst h;simp[MF]
 case str=>
  refine⟨.string x,rfl,?_⟩;cases hk:ki.k<;>rw[hk]at h<;>simp only[DM,Bool.false_eq_true]at h;rfl
 case bool=>
  refine⟨.bool x,rfl,?_⟩;cases hk:ki.k<;>rw[hk]at h<;>simp only[DM,Bool.false_eq_true]at h;rfl
 all_goals (cases hk:ki.k<;>rw[hk]at h<;>simp[DM]at h)
theorem adH{kc:CT X.ι}{eq:CT.T X.toSE kc->CT.T X.toSE kc->Bool}(h:M5 kc=some eq){a b:CT.T X.toSE kc}{va:Value}(ha:(CT.tv X.toSE kc a).av= .t (.sc va)):∃vb,(CT.tv X.toSE kc b).av= .t (.sc vb)/\Rp va vb=some (eq a b):=by
 cases kc
 case int q=>
  simp only[M5,aA]at h;subst h;simp only[CT.tv,TV.av,AV.t.injEq,Tree.sc.injEq]at ha;subst ha;exact⟨_,rfl,by simp[Rp,gj]⟩
 case str=>
  simp only[M5,aA]at h;subst h;simp only[CT.tv,TV.av,AV.t.injEq,Tree.sc.injEq]at ha;subst ha;exact⟨_,rfl,by simp[Rp,lv]⟩
 case bool=>
  simp only[M5,aA]at h;subst h;simp only[CT.tv,TV.av,AV.t.injEq,Tree.sc.injEq]at ha;subst ha;exact⟨_,rfl,by simp[Rp,bEq]⟩
 all_goals simp[M5]at h
theorem Z8{kc vc:CT X.ι}{eq:CT.T X.toSE kc->CT.T X.toSE kc->Bool}(h:M5 kc=some eq){a:CT.T X.toSE kc}{va:Value}(ha:(CT.tv X.toSE kc a).av= .t (.sc va)):∀l:U (CT.T X.toSE kc×CT.T X.toSE vc),
 ∃r,Rq va (bG (.map kc vc l:bm X)).rows=some r/\r.map (·.2)=(eY eq a l).map λv=>(CT.tv X.toSE vc v).av
 |[]=>⟨none,rfl,rfl⟩
 |p::l=>by
  have⟨vb,h1,h2⟩:=adH h (b:=p.1) ha;have⟨r,g1,g2⟩:=Z8 h ha l;have g1':Rq va (l.map λp=>[(CT.tv X.toSE kc p.1).av,(CT.tv X.toSE vc p.2).av])=some r:=g1;simp only[bG,aF,h1,Rq,h2,af,eY];cases eq a p.1 with
  |true=>exact⟨_,rfl,rfl⟩
  |false=>
   simp only[Bool.false_eq_true,if_false,g1',Option.map_some,ak];exact⟨_,rfl,by rw[<- g2,Option.map_map];rfl⟩
theorem adI{kc vc:CT X.ι}{eq:CT.T X.toSE kc->CT.T X.toSE kc->Bool}(h:M5 kc=some eq){a:CT.T X.toSE kc}{va:Value}(ha:(CT.tv X.toSE kc a).av= .t (.sc va))(y:CT.T X.toSE vc):∀l:U (CT.T X.toSE kc×CT.T X.toSE vc),
 yi va (CT.tv X.toSE vc y).av (bG (.map kc vc l:bm X)).rows=some (bG (.map kc vc (o6 eq a y l):bm X)).rows
 |[]=>by simp only[bG,map_nil,yi,o6,aF,ha]
 |p::l=>by
  have⟨vb,h1,h2⟩:=adH h (b:=p.1) ha;have g:=adI h ha y l;have g':yi va (CT.tv X.toSE vc y).av (l.map λp=>[(CT.tv X.toSE kc p.1).av,(CT.tv X.toSE vc p.2).av])=some ((o6 eq a y l).map λp=>[(CT.tv X.toSE kc p.1).av,(CT.tv X.toSE vc p.2).av]):=g;simp only[bG,aF,h1,yi,h2,af,o6];cases eq a p.1 with
  |true=>simp only[if_true,aj,aF,ha]
  |false=>simp only[Bool.false_eq_true,if_false,g',Option.map_some,ak,aF,h1]
theorem zero_den{vc:CT X.ι}{ei:np}{z:CT.T X.toSE vc}(h:HV vc (ei.zero.map t7)=some z)(ha:ei.agg=Nd vc)(hs:ei.size=CT.sz X vc):part' ei.agg ei.size ((ei.zero.map cv).map wk)=some (CT.tv X.toSE vc z).av:=by
 have hz:=yj h;rw[Cv]at hz;rw[hz,ha,hs];have hl:((CT.row X.toSE vc z).map AV.t).length=CT.sz X vc:=by rw[length_map,Ec]
 unfold part';rw[aX hl];cases vc<;>rfl
theorem abB{d:DV X}{c:CT X.ι}{x:CT.T X.toSE c}(h:dat d c=some x):yq (den d)=(CT.tv X.toSE c x).av:=by
 cases c
 case st j=>
  replace h:DO d j=some x:=h
  cases d
  case agg cs=>
   simp only[DO]at h;rw[ai]at h;obtain⟨g,h1,h⟩:=h;cases h;simp only[den,yq,(yI h1 (X.flat j)).1];rw[<- VH];rfl
  case c a y=>
   replace h:jq a (.st j) y=some x:=h
   rw[(oC h).1];simp only[den,CT.tv,TV.av,yq,map_map];congr 1
  all_goals cases h
 all_goals
  (have h':Kj d _=some x:=h
   have hd:=vX h';cases d
   case agg=>cases h
   case c a y=>
    obtain⟨e,_⟩:=rF (show jq a _ y=some x from h);subst e;exact hd
   all_goals first |exact hd |(cases h))
theorem YP{t:TypeId}{x key:DV X}{ok:Bool}(h:Ux T t x key ok get k=some r):∃rd dv ab,qF T t (den x) (den key) ok (dL rd (fw get))=some ab/\jk ab.obs/\ab.v=den dv/\ab.upd=[]/\k dv [] rd []=some r:=by
 unfold Ux at h;rw[ai]at h;obtain⟨ti,h1,h⟩:=h;split at h
 .rename_i kt et kk hk;rw[ai]at h;obtain⟨ki,h2,h⟩:=h;rw[ai]at h;obtain⟨ei,h3,h⟩:=h;rw[ai]at h;obtain⟨o,h4,h⟩:=h;split at h
  .rename_i kc vc l;rw[ai]at h;obtain⟨eq,h5,h⟩:=h;rw[ai]at h;obtain⟨kv,h6,h⟩:=h;split at h
   .rename_i hc;have⟨z,h7,h⟩:=ai.1 h;have⟨va,g1,g2⟩:=alm hc.1 kv;have⟨q,g3,g4⟩:=Z8 (vc:=vc) h5 g1 l;have hkey:den key= .t (.sc va):=by
     have:=vX h6;rw[g1]at this;cases hd:den key<;>rw[hd]at this<;>simp only[wk,AV.t.injEq,reduceCtorEq]at this;subst this;rfl
    have hv:∀q:J (Nat×AV),q.map (·.2)=(eY eq kv l).map (λ v=>(CT.tv X.toSE vc v).av)->wg q (part' ei.agg ei.size ((ei.zero.map cv).map wk))=some (CT.tv X.toSE vc ((eY eq kv l).getD z)).av:=by
     intro q g;cases hm:eY eq kv l with
     |none=>
      rw[hm]at g;cases q with
      |none=>exact zero_den h7 hc.2.1 hc.2.2
      |some p=>simp at g
     |some v=>
      rw[hm]at g;cases q with
      |none=>simp at g
      |some p=>simp only[Option.map_some,aA]at g;simp only[wg,g,Option.getD_some]
    have hi:q.isSome=(eY eq kv l).isSome:=by
     have:=congrArg Option.isSome g4;simpa using this
    have hb:qF T t (den (.mp kk:DV X)) (den key) ok (dL [kk] (fw get))=pv (if ok then .eV [den (.c vc ((eY eq kv l).getD z):DV X),.t (.sc (.bool q.isSome))]else den (.c vc ((eY eq kv l).getD z):DV X)):=by
     simp only[qF,Us,h1,af,hk,den,hkey,h2,h3,eD (List.mem_singleton_self kk) h4];rw[aX ⟨g2,by simp[bG]⟩];rw[g3,af,hv q g4,af]
    cases ok with
    |true=>exact⟨[kk],_,_,hb,trivial,by simp only[if_true,den,bQ,hi];rfl,rfl,h⟩
    |false=>exact⟨[kk],_,_,hb,trivial,rfl,rfl,h⟩
   .cases h
  .cases h
 .cases h
theorem YQ{t:TypeId}{x key y:DV X}(h:Uy T t x key y get k=some r):∃rd wr dv upd ab,vV T t (den x) (den key) (den y) (dL rd (fw get))=some ab/\jk ab.obs/\ab.v=den dv/\ab.upd=iw upd/\(∀ p∈upd,p.1∈wr)/\k dv upd rd wr=some r:=by
 unfold Uy at h;rw[ai]at h;obtain⟨ti,h1,h⟩:=h;split at h
 .rename_i kt et kk hk;rw[ai]at h;obtain⟨ki,h2,h⟩:=h;rw[ai]at h;obtain⟨o,h4,h⟩:=h;split at h
  .rename_i kc vc l;rw[ai]at h;obtain⟨eq,h5,h⟩:=h;rw[ai]at h;obtain⟨kv,h6,h⟩:=h;rw[ai]at h;obtain⟨v,h7,h⟩:=h;split at h
   .rename_i hc;have⟨va,g1,g2⟩:=alm hc kv;have g3:=adI (vc:=vc) h5 g1 v l;have hkey:den key= .t (.sc va):=by
     have:=vX h6;rw[g1]at this;cases hd:den key<;>rw[hd]at this<;>simp only[wk,AV.t.injEq,reduceCtorEq]at this;subst this;rfl
    refine⟨[kk],[kk],_,_,⟨.undef,[(kk,some ⟨(bG (.map kc vc (o6 eq kv v l):bm X)).rows.length,(bG (.map kc vc (o6 eq kv v l):bm X)).rows⟩)],[]⟩,?_,trivial,rfl,?_,by simp,h⟩
    .simp only[vV,Ut,h1,af,hk,den,hkey,h2,eD (List.mem_singleton_self kk) h4];rw[aX ⟨g2,by simp[bG]⟩,abB h7,g3];rfl
    .simp[iw,bG]
   .cases h
  .cases h
 .cases h
theorem adJ{k:IntKind}:∀{l:U (CT X.ι)}(h:HL X.toSE l),Ef k l=true->qh k ((HL.row X.toSE l h).map AV.t)=some (mU l h)/\(mU l h).length=l.length
 |[],_,_=>⟨rfl,rfl⟩
 | .int k'::l,h,hi=>by
  simp only[Ef,aL,aV]at hi;obtain⟨rfl,hi⟩:=hi;have⟨g1,g2⟩:=adJ (l:=l) h.2 hi;exact⟨by simp only[HL.row,CT.row,cons_append,bT,aF,qh,if_true,g1,Option.map_some,mU],by simp only[mU,bC,g2]⟩
theorem air{k:IntKind}:∀{cs:U AV}{c:U Int},qh k cs=some c->Ht k c= .agg cs
 |[],c,h=>by simp only[qh,aA]at h;subst h;rfl
 |x::cs,c,h=>by
  unfold qh at h;split at h
  .rename_i heq;cases heq
  .rename_i k' n r heq;injection heq with e1 e2;subst e1;subst e2;split at h
   .rename_i hk;subst hk;rw[dN]at h;obtain⟨c',h1,rfl⟩:=h;have:=air h1;simp only[Ht,AV.agg.injEq]at this ⊢;rw[aF,this]
   .cases h
  .cases h
theorem rX{k:IntKind}{i:X.ι}(hi:Ef k (X.cX i)=true)(x:CT.T X.toSE (.st i)):qh k ((X.row i x).map AV.t)=some (mU (X.cX i) (X.get i x))/\(mU (X.cX i) (X.get i x)).length=(X.cX i).length:=by
 have:=adJ (X.get i x) hi;rw[<- X.ml]at this;exact this
theorem adK{k:IntKind}:∀{cs:U AV}{c:U Int},qh k (cs.map wk)=some c->qh k cs=some c
 |[],c,h=>h
 |x::cs,c,h=>by
  cases x
  case t y=>
   cases y
   case sc v=>
    cases v
    case int k' n=>
     simp only[aF,wk,qh]at h ⊢;split at h
     .rename_i hk;rw[aX hk];rw[dN]at h ⊢;obtain⟨c',h1,rfl⟩:=h;exact⟨c',adK h1,rfl⟩
     .cases h
    all_goals (simp [wk,qh]at h)
   all_goals (simp [wk,qh]at h)
  all_goals (simp [wk,qh]at h)
theorem aln{key:DV X}{i:X.ι}{kv:CT.T X.toSE (.st i)}{k:IntKind}(h:dat key (.st i)=some kv)(hi:Ef k (X.cX i)=true):∃cs,den key= .agg cs/\qh k cs=some (mU (X.cX i) (X.get i kv)):=by
 have h1:=abB h;cases hd:den key<;>rw[hd]at h1<;>simp only[yq,wk,CT.tv,TV.av,reduceCtorEq,AV.agg.injEq]at h1;rename_i cs;exact⟨cs,rfl,adK (by rw[h1];exact(rX hi kv).1)⟩
theorem VY{vc:CT X.ι}{i:X.ι}{k:IntKind}(hi:Ef k (X.cX i)=true)(a:CT.T X.toSE (.st i)):∀l:U (CT.T X.toSE (.st i)×CT.T X.toSE vc),
 ∃r,A7 k (mU (X.cX i) (X.get i a)) (bG (.map (.st i) vc l:bm X)).rows=some r/\r.map (·.2)=(eY (H7 i) a l).map λv=>(CT.tv X.toSE vc v).av
 |[]=>⟨none,rfl,rfl⟩
 |p::l=>by
  have⟨h1,h2⟩:=rX hi p.1;have h3:=(rX hi a).2;have⟨r,g1,g2⟩:=VY hi a l;have g1':A7 k (mU (X.cX i) (X.get i a)) (l.map λp=>[(CT.tv X.toSE (.st i) p.1).av,(CT.tv X.toSE vc p.2).av])=some r:=g1;have e:(CT.tv X.toSE (.st i) p.1).av= .agg ((X.row i p.1).map AV.t):=rfl;simp only[bG,aF,e,A7,h1,af,eY,H7];rw[aX (by rw[h2,h3])];by_cases hc:mU (X.cX i) (X.get i a)=mU (X.cX i) (X.get i p.1)
  .rw[aX hc,decide_eq_true hc];exact⟨_,rfl,rfl⟩
  .rw[aS hc,decide_eq_false hc];refine⟨r.map λp=>(p.1+1,p.2),?_,?_⟩
   .exact congrArg (Option.map λr:Option (Nat×AV)=>r.map λp=>(p.1+1,p.2)) g1'
   .rw[ak,<- g2,Option.map_map];rfl
theorem ajx{vc:CT X.ι}{i:X.ι}{k:IntKind}(hi:Ef k (X.cX i)=true)(a:CT.T X.toSE (.st i))(y:CT.T X.toSE vc):∀l:U (CT.T X.toSE (.st i)×CT.T X.toSE vc),
 MI k (mU (X.cX i) (X.get i a)) (CT.tv X.toSE vc y).av (bG (.map (.st i) vc l:bm X)).rows=some (bG (.map (.st i) vc (o6 (H7 i) a y l):bm X)).rows:=by
 have hA:Ht k (mU (X.cX i) (X.get i a))=(CT.tv X.toSE (.st i) a).av:=air (rX hi a).1;intro l
 induction l with
 |nil=>simp only[bG,map_nil,MI,o6,aF,hA]
 |cons p l ih=>
  have⟨h1,h2⟩:=rX hi p.1;have h3:=(rX hi a).2;have e:(CT.tv X.toSE (.st i) p.1).av= .agg ((X.row i p.1).map AV.t):=rfl;have ih':MI k (mU (X.cX i) (X.get i a)) (CT.tv X.toSE vc y).av (l.map λp=>[(CT.tv X.toSE (.st i) p.1).av,(CT.tv X.toSE vc p.2).av])=some ((o6 (H7 i) a y l).map λp=>[(CT.tv X.toSE (.st i) p.1).av,(CT.tv X.toSE vc p.2).av]):=ih;simp only[bG,aF,e,MI,h1,af,o6];rw[aX (by rw[h2,h3])];by_cases hc:mU (X.cX i) (X.get i a)=mU (X.cX i) (X.get i p.1)
  .rw[aX hc,show H7 i a p.1=true from decide_eq_true hc,hA];rfl
  .rw[aS hc,show H7 i a p.1=false from decide_eq_false hc,ih'];rfl
theorem anM{vc:CT X.ι}{ei:np}{z:CT.T X.toSE vc}(h7:HV vc (ei.zero.map t7)=some z)(hc1:ei.agg=Nd vc)(hc2:ei.size=CT.sz X vc){q:J (Nat×AV)}{m:J (CT.T X.toSE vc)}(g:q.map (·.2)=m.map λv=>(CT.tv X.toSE vc v).av):
 wg q (part' ei.agg ei.size ((ei.zero.map cv).map wk))=some (CT.tv X.toSE vc (m.getD z)).av:=by
 cases m with
 |none=>
  cases q with
  |none=>exact zero_den h7 hc1 hc2
  |some p=>simp at g
 |some v=>
  cases q with
  |none=>simp at g
  |some p=>simp only[Option.map_some,aA]at g;simp only[wg,g,Option.getD_some]
theorem VZ{t:TypeId}{x key:DV X}{ok:Bool}(h:M7 T t x key ok get k=some r):∃rd dv ab,qF T t (den x) (den key) ok (dL rd (fw get))=some ab/\jk ab.obs/\ab.v=den dv/\ab.upd=[]/\k dv [] rd []=some r:=by
 unfold M7 at h;rw[ai]at h;obtain⟨ti,h1,h⟩:=h;split at h
 .rename_i kt et kk hk;rw[ai]at h;obtain⟨mk,h2,h⟩:=h;rw[ai]at h;obtain⟨ei,h3,h⟩:=h;rw[ai]at h;obtain⟨o,h4,h⟩:=h;split at h
  .rename_i i vc l;rw[ai]at h;obtain⟨kv,h6,h⟩:=h;split at h
   .rename_i hc;have⟨z,h7,h⟩:=ai.1 h;have⟨cs,g1,g2⟩:=aln h6 hc.2.1;have⟨q,g3,g4⟩:=VY (vc:=vc) hc.2.1 kv l;have hi:q.isSome=(eY (H7 i) kv l).isSome:=by
     have:=congrArg Option.isSome g4;simpa using this
    have hb:qF T t (den (.mp kk:DV X)) (den key) ok (dL [kk] (fw get))=pv (if ok then .eV [den (.c vc ((eY (H7 i) kv l).getD z):DV X),.t (.sc (.bool q.isSome))]else den (.c vc ((eY (H7 i) kv l).getD z):DV X)):=by
     simp only[g1,qF,MJ,h1,af,hk,den,h2,h3,eD (List.mem_singleton_self kk) h4,g2];rw[aX ⟨(rX hc.2.1 kv).2.trans hc.1,by simp[bG]⟩];rw[g3,af,anM h7 hc.2.2.1 hc.2.2.2 g4,af]
    cases ok with
    |true=>exact⟨[kk],_,_,hb,trivial,by simp only[if_true,den,bQ,hi];rfl,rfl,h⟩
    |false=>exact⟨[kk],_,_,hb,trivial,rfl,rfl,h⟩
   .cases h
  .cases h
 .cases h
theorem V3{t:TypeId}{x key y:DV X}(h:M8 T t x key y get k=some r):∃rd wr dv upd ab,vV T t (den x) (den key) (den y) (dL rd (fw get))=some ab/\jk ab.obs/\ab.v=den dv/\ab.upd=iw upd/\(∀ p∈upd,p.1∈wr)/\k dv upd rd wr=some r:=by
 unfold M8 at h;rw[ai]at h;obtain⟨ti,h1,h⟩:=h;split at h
 .rename_i kt et kk hk;rw[ai]at h;obtain⟨mk,h2,h⟩:=h;rw[ai]at h;obtain⟨o,h4,h⟩:=h;split at h
  .rename_i i vc l;rw[ai]at h;obtain⟨kv,h6,h⟩:=h;rw[ai]at h;obtain⟨v,h7,h⟩:=h;split at h
   .rename_i hc;have⟨cs,g1,g2⟩:=aln h6 hc.2;have g3:=ajx (vc:=vc) hc.2 kv v l;refine⟨[kk],[kk],_,_,⟨.undef,[(kk,some ⟨(bG (.map (.st i) vc (o6 (H7 i) kv v l):bm X)).rows.length,(bG (.map (.st i) vc (o6 (H7 i) kv v l):bm X)).rows⟩)],[]⟩,?_,trivial,rfl,?_,by simp,h⟩
    .simp only[g1,vV,MK,h1,af,hk,den,h2,eD (List.mem_singleton_self kk) h4,g2];rw[aX ⟨(rX hc.2 kv).2.trans hc.1,by simp[bG]⟩,abB h7,g3];rfl
    .simp[iw,bG]
   .cases h
  .cases h
 .cases h
theorem V4{t:TypeId}{x key:DV X}{ok:Bool}(h:(bif Z5 x get then M7 T t x key ok get k else Ux T t x key ok get k)=some r):∃rd dv ab,qF T t (den x) (den key) ok (dL rd (fw get))=some ab/\jk ab.obs/\ab.v=den dv/\ab.upd=[]/\k dv [] rd []=some r:=by
 cases hs:Z5 x get<;>rw[hs]at h
 .exact YP h
 .exact VZ h
theorem V5{t:TypeId}{x key y:DV X}(h:(bif Z5 x get then M8 T t x key y get k else Uy T t x key y get k)=some r):∃rd wr dv upd ab,vV T t (den x) (den key) (den y) (dL rd (fw get))=some ab/\jk ab.obs/\ab.v=den dv/\ab.upd=iw upd/\(∀ p∈upd,p.1∈wr)/\k dv upd rd wr=some r:=by
 cases hs:Z5 x get<;>rw[hs]at h
 .exact YQ h
 .exact V3 h
theorem agv(h:VV T am i o.op ρ get k=some r):ej P T i o ρ get k r:=by
 obtain⟨dst,op,ty,ao,after,guard⟩:=o;unfold VV at h;simp only at h;split at h
 .rename_i op t x y q;split at h
  .rename_i hn;have⟨dv,ab,g1,g2,g3,g4,g5⟩:=agt h;have hy:den (ρ y)= .da:=(by cases hρ:ρ y<;>rw[hρ]at hn<;>first |rfl |cases hn);exact ej.ext (n:=0) (rd:=[]) (wr:=[]) (upd:=[]) (by simp only[sQ,hy];exact g1) g2 g3 g4 (by simp) g5
  .cases h
 .rename_i s d x;unfold ao1 at h;rw[ai]at h;obtain⟨si,h1,h⟩:=h;rw[ai]at h;obtain⟨di,h2,h⟩:=h;split at h
  .rename_i kd k' n hk hx;refine ej.ext (n:=0) (rd:=[]) (wr:=[]) (upd:=[]) (ab:=⟨.t (.sc (.int kd (kd.wrap n))),[],[]⟩) ?_ trivial rfl rfl (by simp) h;simp only[sQ,N5,h1,h2,af,hk,hx];rfl
  .cases h
 .rename_i t x j;unfold alh at h;rw[ai]at h;obtain⟨ti,h1,h⟩:=h;split at h
  .rename_i s kk n hk hx hj;rw[ai]at h;obtain⟨b,h2,h⟩:=h;refine ej.ext (n:=b) (rd:=[]) (wr:=[]) (upd:=[]) (ab:=⟨.t (.sc (.int .u8 b)),[],[0<=n/\∃c,s[n.toNat]? =some c/\b=c.toNat]⟩) ?_ (agu h2) rfl rfl (by simp) h;simp only[sQ,Vd,h1,af,hk,hx,hj];rfl
  .rename_i m e cs kd q hk hx hj;rw[ai]at h;obtain⟨ei,h2,h⟩:=h;have⟨h3,h⟩:=d9 h;rw[ai]at h;obtain⟨v,h4,h⟩:=h;simp only[cN,aL,aV]at h3;refine ej.ext (n:=0) (rd:=[]) (wr:=[]) (upd:=[]) (ab:=⟨den v,[],[0<=q/\q<(m:Int)]⟩) ?_ h3 rfl rfl (by simp) h;have h5:=Cw h4;rw[j4]at h5;simp only[sQ,Vd,h1,af,hk,hx,hj,h2,den,CT.tv,TV.av,h5];rfl
  .cases h
 .rename_i t x lo hi;unfold Z4 at h;rw[ai]at h;obtain⟨ti,h1,h⟩:=h;split at h
  .rename_i e hk hx;rw[ai]at h;obtain⟨ei,h2,h⟩:=h;rw[ai]at h;obtain⟨l,h3,h⟩:=h;rw[ai]at h;obtain⟨hh,h4,h⟩:=h;have⟨h5,h⟩:=d9 h;refine ej.ext (n:=0) (rd:=[]) (wr:=[]) (upd:=[]) (ab:=⟨.da,[],[l=0/\hh=0]⟩) ?_ (show l=0/\hh=0 by simpa using h5) rfl rfl (by simp) h;have e1:=Cx h3;have e2:=Cx h4;rw[Option.map_map]at e1 e2;simp only[sQ,JF,h1,af,hk,hx,h2,den];have Mp:bnd 0 (lo.map λx=>den (ρ x))=some l:=e1;have e2':bnd 0 (hi.map λx=>den (ρ x))=some hh:=e2;rw[Mp,af,e2'];rfl
  .cases h
 .rename_i x;have⟨dv,g1,g2⟩:=SC h;exact ej.wa (n:=0) (rd:=[]) (wr:=[]) (upd:=[]) g1 trivial rfl rfl (by simp) g2
 .rename_i t l c;have⟨dv,upd,ab,g1,g2,g3,g4,g5,g6⟩:=adG h;exact ej.wa (n:=0) (rd:=[]) (wr:=[]) (upd:=upd) g1 g2 g3 g4 (λ p hp=> .inl (g5 p hp)) g6
 .rename_i t;have⟨dv,upd,ab,g1,g2,g3,g4,g5,g6⟩:=VX h;exact ej.wa (n:=0) (rd:=[]) (wr:=[]) (upd:=upd) g1 g2 g3 g4 (λ p hp=> .inl (g5 p hp)) g6
 .rename_i t m x ok;have⟨rd,dv,ab,g1,g2,g3,g4,g6⟩:=V4 h;exact ej.wa (n:=0) (rd:=rd) (wr:=[]) (upd:=[]) g1 g2 g3 g4 (by simp) g6
 .rename_i t m x v;have⟨rd,wr,dv,upd,ab,g1,g2,g3,g4,g5,g6⟩:=V5 h;exact ej.wa (n:=0) (rd:=rd) (wr:=wr) (upd:=upd) g1 g2 g3 g4 (λ p hp=> .inr (g5 p hp)) g6
 .rename_i b args cX;have⟨rd,wr,dv,upd,ab,g1,g2,g3,g4,g5,g6⟩:=SF h;refine ej.ext (n:=0) (rd:=rd) (wr:=wr) (upd:=upd) ?_ g2 g3 g4 g5 g6;simp only[sQ,Uv];exact g1
 .cases h
theorem adL{c:CT X.ι}:∀{xs:U Operand}{x:Operand}{y:CT.T X.toSE c×List Bool},x∈xs->FK get (ρ x) c=some y->∀j∈bk (ρ x),j∈AD get c ρ xs
 |z::xs,x,y,hx,h,j,hj=>by
  simp only[AD,aZ];rcases aO.1 hx with rfl |hx
  .left;rw[h];exact hj
  .exact .inr (adL hx h j hj)
 |[],_,_,hx,_,_,_=>by simp at hx
theorem adM{c:CT X.ι}:∀{xs:U Operand}{x:Operand}{y:CT.T X.toSE c×List Bool},x∈xs->FK get (ρ x) c=some y->∀b∈y.2,b∈M3 get c ρ xs
 |z::xs,x,y,hx,h,b,hb=>by
  simp only[M3,aZ];rcases aO.1 hx with rfl |hx
  .left;rw[h];exact hb
  .exact .inr (adM hx h b hb)
 |[],_,_,hx,_,_,_=>by simp at hx
theorem agx(h:VM T am i o.op ρ get k=some r):ej P T i o ρ get k r:=by
 unfold VM at h;split at h
 .cases h
 rename_i hpick;have⟨c,h1,h⟩:=ai.1 h;have⟨hcs,h⟩:=pR h;have⟨cL,rd,wr,dv,upd,ab,g1,g2,g3,g4,g5,g6⟩:=ZX h;generalize k5:AD get c ρ o.op.operands.toList=ae at*;refine⟨.xt ae (λ x=>den (Kd get c ρ x)) cL,rd++ae,wr++ae,dv,upd++M6 ae,⟨ab.v,ab.upd++ae.map (λ k=>(k,none)),ab.obs++[∀ x∈o.op.operands,(fY P (dL (rd++ae) (fw get)) (den (ρ x)) (den (Kd get c ρ x))/\∀k∈refs (den (ρ x)),k∈ae)\/den (Kd get c ρ x)=den (ρ x)]⟩,?_,?_,g3,?_,?_,g6⟩
 .unfold jy Hq;simp only;rw[aS hpick];have e:(λ k=>if k∈ae then none else dL (rd++ae) (fw get) k)=dL rd (fw λj=>if j∈ae then none else get j):=by
   funext j;simp only[dL,fw,aZ];by_cases hj:j∈ae
   .simp[hj]
   .simp[hj]
  rw[e,g1];rfl
 .refine qW _ λp hp=>?_;rcases aZ.1 hp with hp |hp
  .exact qE _ g2 p hp
  .rw[aP]at hp;subst hp;intro x hx;unfold Kd;cases hl:FK get (ρ x) c with
   |none=>exact .inr rfl
   |some y=>
    left;have hx':x∈o.op.operands.toList:=(by simpa using hx);have hin:∀j∈bk (ρ x),j∈ae:=λj hj=>k5 ▸ adL hx' hl j hj;obtain⟨hs,obs,p1,p2⟩:=z8 (P:=P) (rd:=rd++ae) hl (λ b hb=>hcs b (adM hx' hl b hb)) (λ j hj=>List.mem_append_right _ (hin j hj));refine⟨?_,λj hj=>hin j (by rwa [iK]at hj)⟩;have:=p2 [];exact D6 _ _ _ this p1
 .simp only[rW,Cz,g4]
 .intro p hp;rcases aZ.1 hp with hp |hp
  .exact(g5 p hp).imp id (λ h=>List.mem_append_left _ h)
  .exact .inr (List.mem_append_right _ (JJ hp))
theorem V6{c:CT X.ι}:∀{ds:U (DV X)}{xs:U (CT.T X.toSE c)},zI c ds=some xs->bQ ds=xs.map λy=>den (.c c y:DV X)
 |[],xs,h=>by simp only[zI,aA]at h;subst h;rfl
 | .c a x::ds,xs,h=>by
  simp only[zI]at h;have⟨y,h1,h⟩:=ai.1 h;have⟨l,h2,h⟩:=ai.1 h;cases h;simp only[bQ,aF,V6 h2,(oC h1).1]
 | .agg _::_,_,h=>by simp[zI]at h
 | .eV _::_,_,h=>by simp[zI]at h
 | .own _ _ _::_,_,h=>by simp[zI]at h
 | .ptr _ _ _::_,_,h=>by simp[zI]at h
 | .qt _ _ _::_,_,h=>by simp[zI]at h
 | .mp _::_,_,h=>by simp[zI]at h
 | .tj _ _ _ _ _::_,_,h=>by simp[zI]at h
 | .rp _ _ _::_,_,h=>by simp[zI]at h
 | .wy _ _ _ _ _::_,_,h=>by simp[zI]at h
 | .fn _ _ _::_,_,h=>by simp[zI]at h
 | .ek _ _ _::_,_,h=>by simp[zI]at h
 | .raw _::_,_,h=>by simp[zI]at h
 | .nil::_,_,h=>by simp[zI]at h
 | .ub::_,_,h=>by simp[zI]at h
 | .skip::_,_,h=>by simp[zI]at h
 | .undef::_,_,h=>by simp[zI]at h
theorem agy(h:VC T am o.op ρ get k=some r):ej P T i o ρ get k r:=by
 obtain⟨dst,op,ty,ao,after,guard⟩:=o;unfold VC at h;simp only at h;split at h
 .rename_i t x j;rw[ai]at h;obtain⟨ti,h1,h⟩:=h;split at h
  .rename_i m e kk row aa kd n hk hx hj;rw[ai]at h;obtain⟨ei,h2,h⟩:=h;split at h
   .rename_i hs;have⟨h3,h⟩:=d9 h;refine ej.op (cL:= .none) (rd:=[]) (wr:=[]) (upd:=[]) (λ _ _ _ e=>by cases e) (ab:=⟨.ptr kk row (aa+n.toNat*1),[],[0<=n/\n.toNat<m]⟩) ?_ ⟨?_,?_,rfl,by simp,h⟩
    .simp only[qg,l5,h1,af,hk,hx,hj,den,CT.tv,TV.av,h2,hs];rfl
    .simp only[cN,aL,aV]at h3;exact⟨h3.1,by omega⟩
    .simp only[den,Nat.mul_one]
   .cases h
  .rename_i m e c y aa kd n hk hx hj;rw[ai]at h;obtain⟨ei,h2,h⟩:=h;split at h
   .rename_i hs;have⟨h3,h⟩:=d9 h;refine ej.op (cL:= .none) (rd:=[]) (wr:=[]) (upd:=[]) (λ _ _ _ e=>by cases e) (ab:=⟨.eM (CT.row X.toSE c y) (aa+n.toNat*1),[],[0<=n/\n.toNat<m]⟩) ?_ ⟨?_,?_,rfl,by simp,h⟩
    .simp only[qg,l5,h1,af,hk,hx,hj,den,CT.tv,TV.av,h2,hs];rfl
    .simp only[cN,aL,aV]at h3;exact⟨h3.1,by omega⟩
    .simp only[den,Nat.mul_one]
   .cases h
  .cases h
 .rename_i t a;rw[ai]at h;obtain⟨ti,h1,h⟩:=h;split at h
  .rename_i kk row aa m n hx;split at h
   .rename_i hs;rw[ai]at h;obtain⟨c,h2,h⟩:=h;split at h
    .rename_i hc;rw[ai]at h;obtain⟨ob,h3,h⟩:=h;split at h
     .rename_i sz rows;have⟨q,h4,h⟩:=ai.1 h;have⟨xs,h5,h⟩:=ai.1 h;have⟨y,h6,h⟩:=ai.1 h;have⟨_,h7⟩:=MX h6;have h8:=V6 h5;have h9:((bQ q).drop (aa+n.toNat)).take 1=[den (.c c y:DV X)]:=by
       have e1:(bQ ((q.drop aa).take m))[n.toNat]? =some (den (.c c y:DV X)):=(by rw[h8,List.getElem?_map,h7];rfl);rw[j4,List.getElem?_take]at e1;split at e1
       .rw[List.getElem?_drop]at e1;have⟨g1,g2⟩:=dH.1 e1;rw[List.drop_eq_getElem_cons g1,List.take_succ_cons,List.take_zero,g2]
       .cases e1
      refine ej.op (cL:= .none) (rd:=[kk]) (wr:=[]) (upd:=[]) (λ _ _ _ e=>by cases e) (ab:=⟨den (.c c y:DV X),[],[]⟩) ?_ ⟨trivial,rfl,rfl,by simp,h⟩;simp only[qg,KR,h1,af,hx,den,eD (List.mem_singleton_self kk) h3,bG,List.getElem?_map,h4,Option.map_some,hs.1,hs.2];rw[h9];obtain⟨t',g1,g2⟩:=row_one hc y;simp only[den,g2,TV.av];rfl
     .cases h
     .cases h
    .cases h
   .cases h
  .rename_i b y0 aa m n hx;split at h
   .rename_i hs;rw[ai]at h;obtain⟨c,h2,h⟩:=h;split at h
    .rename_i hc;have⟨xs,h5,h⟩:=ai.1 h;have⟨y,h6,h⟩:=ai.1 h;have⟨_,h7⟩:=MX h6;have h8:=V6 h5;have h9:(((CT.row X.toSE b y0).drop (aa+n.toNat)).take 1).map AV.t=[den (.c c y:DV X)]:=by
      have e1:(bQ (((uV b y0).drop aa).take m))[n.toNat]? =some (den (.c c y:DV X)):=(by rw[h8,List.getElem?_map,h7];rfl);rw[j4,oZ,List.getElem?_take]at e1;split at e1
      .rw[List.getElem?_drop]at e1;have⟨g1,g2⟩:=dH.1 e1;rw[map_take,map_drop,List.drop_eq_getElem_cons g1,List.take_succ_cons,List.take_zero,g2]
      .cases e1
     refine ej.op (cL:= .none) (rd:=[]) (wr:=[]) (upd:=[]) (λ _ _ _ e=>by cases e) (ab:=⟨den (.c c y:DV X),[],[]⟩) ?_ ⟨trivial,rfl,rfl,by simp,h⟩;simp only[qg,KR,h1,af,hx,den,hs.1,hs.2];rw[h9];obtain⟨t',g1,g2⟩:=row_one hc y;simp only[den,g2,TV.av];rfl
    .cases h
   .cases h
  .cases h
 .cases h
end
end
section
variable {X:SX}
structure MA(X:SX) where
 nm:List (Nat×Nat)
 eR:List (DC X)
 j7:List Bool
def addN(m:MA X)(k' k:Nat):MA X:=if m.nm.contains (k',k)then m else⟨m.nm++[(k',k)],m.eR,m.j7⟩
section
variable (get:Nat->Option (bm X))
mutual
def mP:Pt X.ι->DV X->MA X->Option (MA X)
 | .v c,d,m=>(dat d c).bind λx=>some ⟨m.nm,m.eR++[⟨c,x⟩],m.j7⟩
 | .o k,d,m=>match d with
  | .own k' 0 len=>(get k').bind λo=>match o with
   | .en _ l=>some (addN ⟨m.nm,m.eR,m.j7++[aE len l.length]⟩ k' k)
   |_=>none
  |_=>none
 | .oz k,d,m=>match d with
  | .own k' 0 len=>(get k').bind λo=>match o with
   | .en _ l=>some (addN ⟨m.nm,m.eR,m.j7++[!(len==0)&&aE len l.length]⟩ k' k)
   |_=>none
  | .oz k' len=>(get k').bind λo=>match o with
   | .en _ l=>some (addN ⟨m.nm,m.eR,m.j7++[aE len l.length]⟩ k' k)
   |_=>none
  |_=>none
 | .p k,d,m=>match d with
  | .ptr k' 0 0=>some (addN m k' k)
  |_=>none
 | .mp k,d,m=>match d with
  | .mp k'=>some (addN m k' k)
  |_=>none
 | .nil,d,m=>match d with
  | .nil=>some m
  |_=>none
 | .f F fs cs,d,m=>match d with
  | .fn F' first caps=>if F=F' then(sY fs first m).bind λm=>sY cs caps m else none
  |_=>none
 | .od k,d,m=>match d with
  | .own k' aa len=>(get k').bind λo=>match o with
   | .en _ l=>some (addN ⟨m.nm,m.eR++[⟨.int .i64,(aa:Int)⟩],m.j7++[aE (aa+len) l.length]⟩ k' k)
   |_=>none
  |_=>none
 | .a ps,d,m=>match d with
  | .agg ds=>sY ps ds m
  |_=>none
def sY:List (Pt X.ι)->List (DV X)->MA X->Option (MA X)
 |[],[],m=>some m
 |p::ps,d::ds,m=>(mP p d m).bind λm=>sY ps ds m
 |_,_,_=>none
end
def H8(env:Nat->DV X):U (Nat×Pt X.ι)->MA X->J (MA X)
 |[],m=>some m
 |(t,p)::r,m=>(mP get p (env t) m).bind λm=>H8 env r m
def FL:U (List (Pt X.ι))->U (List (DV X))->MA X->J (MA X)
 |[],[],m=>some m
 |r::rs,q::qs,m=>(sY get r q m).bind λm=>FL rs qs m
 |_,_,_=>none
def nameOf(m:MA X)(k:Nat):Nat:=match m.nm.find? (λ q=>q.2==k)with |some q=>q.1 |none=>k
def CB:U (Nat×OP X.ι)->MA X->J (MA X)
 |[],m=>some m
 |(k,op)::r,m=>(get (nameOf m k)).bind λo=>match op,o with
  | .l c,.en c' l=>(jq (.sl c') (.sl c) l).bind λl'=>CB r (addN ⟨m.nm,m.eR++[⟨.sl c,l'⟩],m.j7⟩ (nameOf m k) k)
  | .m kc vc,.map tS tI l=>(jq (.mp tS tI) (.mp kc vc) l).bind λl'=>CB r (addN ⟨m.nm,m.eR++[⟨.mp kc vc,l'⟩],m.j7⟩ (nameOf m k) k)
  | .c sz rows,.cells sz' rows'=>if sz=sz' then(FL get rows rows' (addN m (nameOf m k) k)).bind λm=>CB r m else none
  |_,_=>none
end
end
section
variable {X:SX} {A:Type}
mutual
def oa(f:Nat->Nat):DV X->DV X
 | .own k aa len=> .own (f k) aa len
 | .ptr k row aa=> .ptr (f k) row aa
 | .qt k n aa=> .qt (f k) n aa
 | .tj k row aa m n=> .tj (f k) row aa m n
 | .mp k=> .mp (f k)
 | .oz k len=> .oz (f k) len
 | .agg cs=> .agg (Kk f cs)
 | .eV cs=> .eV (Kk f cs)
 | .fn F first caps=> .fn F (Kk f first) (Kk f caps)
 |x=>x
def Kk(f:Nat->Nat):List (DV X)->List (DV X)
 |[]=>[]
 |x::xs=>oa f x::Kk f xs
end
theorem ZD(f:Nat->Nat):∀l:U Tree,zH f (l.map AV.t)=l.map AV.t
 |[]=>rfl
 |x::xs=>by simp only[aF,zH,gh,ZD f xs]
mutual
theorem Aa(f:Nat->Nat):∀x:DV X,den (oa f x)=gh f (den x)
 | .own _ _ _=>rfl
 | .ptr _ _ _=>rfl
 | .qt _ _ _=>rfl
 | .mp _=>rfl
 | .oz _ _=>rfl
 | .tj _ _ _ _ _=>rfl
 | .agg cs=>by simp only[oa,den,gh,CF f cs]
 | .eV cs=>by simp only[oa,den,gh,CF f cs]
 | .fn F first caps=>by simp only[oa,den,gh,CF f first,CF f caps]
 | .c t x=>by
  simp only[oa,den];cases t<;>try rfl
  simp only[CT.tv,TV.av,gh,ZD]
 | .rp _ _ _=>rfl
 | .wy _ _ _ _ _=>rfl
 | .ek _ _ _=>rfl
 | .raw v=>by
  simp only[oa,den,cv];split
  .rfl
  .split<;>rfl
 | .nil=>rfl
 | .ub=>rfl
 | .skip=>rfl
 | .undef=>rfl
theorem CF(f:Nat->Nat):∀l:List (DV X),bQ (Kk f l)=zH f (bQ l)
 |[]=>rfl
 |x::xs=>by simp only[Kk,bQ,zH,Aa f x,CF f xs]
end
def oY(f:Nat->Nat):bm X->bm X
 | .cells sz rows=> .cells sz (rows.map (Kk f))
 |o=>o
def eh:bm X->U Nat
 | .cells _ rows=>(rows.map aR).flatten
 | .en _ _=>[]
 | .map _ _ _=>[]
def NX:CT X.ι->Bool
 | .int _ | .bool | .str=>true
 |_=>false
def xA:CT X.ι->Bool
 | .st i=>(X.cX i).all NX
 |c=>NX c
theorem Eg{c:CT X.ι}(h:NX c=true)(x:CT.T X.toSE c):∀t∈CT.row X.toSE c x,t.flat:=by cases c<;>first |(intro t ht;simp only[CT.row,aP]at ht;subst ht;exact trivial) |cases h
theorem ait:∀(l:U (CT X.ι))(h:HL X.toSE l),l.all NX=true->∀t∈HL.row X.toSE l h,t.flat
 |[],_,_,t,ht=>by simp[HL.row]at ht
 |c::l,h,ha,t,ht=>by
  simp only[all_cons,aL]at ha;rcases aZ.1 (show t∈CT.row X.toSE c h.1++HL.row X.toSE l h.2 from ht)with ht |ht
  .exact Eg ha.1 h.1 t ht
  .exact ait l h.2 ha.2 t ht
theorem uW{c:CT X.ι}(h:xA c=true)(x:CT.T X.toSE c):∀t∈CT.row X.toSE c x,t.flat:=by
 cases c
 case st i=>intro t ht;exact ait (X.cX i) (X.get i x) h t ((X.ml i x) ▸ ht)
 case int k=>exact Eg (c:= .int k) h x
 case bool=>exact Eg (c:= .bool) h x
 case str=>exact Eg (c:= .str) h x
 case sl e=>cases h
 case any=>cases h
 case mp=>cases h
structure MG(X:SX) where
 nm:List (Nat×Nat)
 eR:List (DC X)
 j7:List Bool
 vr:List Nat
section
variable (get:Nat->Option (bm X))
mutual
def pT:Pt X.ι->DV X->MG X->Option (MG X)
 | .v c,d,m=>(FK get d c).bind λx=>some ⟨m.nm,m.eR++[⟨c,x.1⟩],m.j7++x.2,m.vr++bk d⟩
 | .o k,d,m=>match d with
  | .own k' 0 len=>(get k').bind λo=>match o with
   | .en _ l=>some ⟨m.nm++[(k',k)],m.eR,m.j7++[aE len l.length],m.vr⟩
   |_=>none
  |_=>none
 | .od k,d,m=>match d with
  | .own k' aa len=>(get k').bind λo=>match o with
   | .en _ l=>some ⟨m.nm++[(k',k)],m.eR++[⟨.int .i64,(aa:Int)⟩],m.j7++[aE (aa+len) l.length],m.vr⟩
   |_=>none
  |_=>none
 | .p k,d,m=>match d with
  | .ptr k' 0 0=>some ⟨m.nm++[(k',k)],m.eR,m.j7,m.vr⟩
  |_=>none
 | .nil,d,m=>match d with
  | .nil=>some m
  |_=>none
 | .f F fs cs,d,m=>match d with
  | .fn F' first caps=>if F=F' then(sk fs first m).bind λm=>sk cs caps m else none
  |_=>none
 | .mp k,d,m=>match d with
  | .mp k'=>some ⟨m.nm++[(k',k)],m.eR,m.j7,m.vr⟩
  |_=>none
 | .oz _,_,_=>none
 | .a ps,d,m=>match d with
  | .agg ds=>sk ps ds m
  |_=>none
def sk:List (Pt X.ι)->List (DV X)->MG X->Option (MG X)
 |[],[],m=>some m
 |p::ps,d::ds,m=>(pT p d m).bind λm=>sk ps ds m
 |_,_,_=>none
end
def FM:U (List (Pt X.ι))->U (List (DV X))->MG X->J (MG X)
 |[],[],m=>some m
 |r::rs,q::qs,m=>(sk get r q m).bind λm=>FM rs qs m
 |_,_,_=>none
def qu(m:MG X)(k:Nat):Nat:=match m.nm.find? (λ q=>q.2==k)with |some q=>q.1 |none=>k
def stC:CT X.ι->Bool
 | .st _=>true
 |_=>false
def CG:U (Nat×OP X.ι)->MG X->J (MG X)
 |[],m=>some m
 |(k,op)::r,m=>(get (qu m k)).bind λo=>match op,o with
  | .l c,.en c' l=>(jq (.sl c') (.sl c) l).bind λl'=>CG r ⟨m.nm++[(qu m k,k)],m.eR++[⟨.sl c,l'⟩],m.j7,m.vr⟩
  | .m kc vc,.map tS tI l=>if (kc.one=true/\vc.one=true)\/stC kc=true then(jq (.mp tS tI) (.mp kc vc) l).bind λl'=>CG r ⟨m.nm++[(qu m k,k)],m.eR++[⟨.mp kc vc,l'⟩],m.j7,m.vr⟩else none
  | .c sz rows,.cells sz' rows'=>if sz=sz' then(FM get rows rows' ⟨m.nm++[(qu m k,k)],m.eR,m.j7,m.vr⟩).bind λm=>CG r m else none
  |_,_=>none
end
mutual
def Pt.refs:Pt X.ι->List Nat
 | .o k | .od k | .p k | .mp k | .oz k=>[k]
 | .f _ fs cs=>Be fs++Be cs
 | .a ps=>Be ps
 |_=>[]
def Be:List (Pt X.ι)->List Nat
 |[]=>[]
 |p::ps=>p.refs++Be ps
end
def OP.refs:OP X.ι->U Nat
 | .l _=>[]
 | .m _ _=>[]
 | .c _ rows=>rows.flatMap Be
def HA(n k:Nat):Bool:=Nat.blt k n || (Nat.ble 1000 k&&Nat.blt k 1064)
def df.ok(g:df X):Bool:=
 decide (g.j0.map (·.1)=List.range g.j0.length)&&decide (g.j0.length<=1000)&&(g.ju.all λq=>HA g.j0.length q.1&&q.2.refs.all λk=>HA g.j0.length k)&&decide (g.ju.map (·.1)).Nodup&&(Be g.ga).all λk=>HA g.j0.length k
def okG(m:MG X)(ae:U Nat):Bool:=
 decide ae.Nodup&&(m.nm.all λq=>match ae[q.2]? with |some k=>Nat.beq k q.1 |none=>false)&&m.vr.all λk=>!ae.contains k
def df.flat(g:df X):Bool:=(cW g.ga).all xA&&g.ju.all λq=>match q.2 with
 | .l c=>xA c
 | .m _ _=>false
 | .c _ rows=>(vY rows).all xA
def tz:U (Nat×bm X)->Nat->J (bm X)
 |[],_=>none
 |(j,o)::r,k=>if j=k then some o else tz r k
def NO(i:Nat)(ae:U Nat)(os':U (Nat×bm X)):U (Nat×Option (bm X)):=
 (ae.zipIdx.map λp=>(p.1,(tz os' p.2).map (oY (cn i ae))))++(os'.filter λq=>decide (1000<=q.1)).map λq=>(cn i ae q.1,some (oY (cn i ae) q.2))
def agA(g:df X)(i:Nat)(ds:U (DV X))(get:Nat->J (bm X))(k:KK X A):J A:=
 (sk get g.pL ds ⟨[],[],[],[]⟩).bind λm=>(CG get g.j0 m).bind λm=>
  bif g.ok&&okG m ((List.range g.j0.length).map (qu m))then(YN (cW g.pL++cQ g.j0) m.eR).bind λv=>VB m.j7 ((g.fn v).bind λr=>
   let ae:=(List.range g.j0.length).map (qu m)
   k (oa (cn i ae) (g.res r)) (NO i ae (g.outs r)++(if g.flat then []else m.vr.map λk=>(k,none))) (ae++m.vr) ((ae++(NO i ae (g.outs r)).map (·.1))++m.vr))
  else none
section
variable {P:Program} {get:Nat->Option (bm X)} {rd ae:List Nat} {ea:Nat->Nat}
def gc(m m':MG X):Prop:=(∀ q∈m.nm,q∈m'.nm)/\(∀ c∈m.j7,c∈m'.j7)/\∀k∈m.vr,k∈m'.vr
theorem gc.refl(m:MG X):gc m m:=⟨λ _ h=>h,λ_ h=>h,λ_ h=>h⟩
theorem gc.trans{a b c:MG X}(h:gc a b)(h':gc b c):gc a c:=⟨λ q hq=>h'.1 q (h.1 q hq),λq hq=>h'.2.1 q (h.2.1 q hq),λq hq=>h'.2.2 q (h.2.2 q hq)⟩
mutual
theorem alo:∀(p:Pt X.ι)(d:DV X)(m m':MG X),pT get p d m=some m'->gc m m'/\∃an,m'.eR=m.eR++an/\an.length=p.vars.length
 | .v c,d,m,m',h=>by
  simp only[pT]at h;rw[ai]at h;obtain⟨x,h1,h⟩:=h;cases h;exact⟨⟨λ _ h=>h,λ_ h=>by simp[h],λ_ h=>by simp[h]⟩,[⟨c,x.1⟩],rfl,rfl⟩
 | .o k,d,m,m',h=>by
  simp only[pT]at h;split at h
  .rw[ai]at h;obtain⟨o,h1,h⟩:=h;split at h
   .cases h;exact⟨⟨λ _ h=>by simp[h],λ_ h=>by simp[h],λ_ h=>h⟩,[],by simp,rfl⟩
   .cases h
  .cases h
 | .od k,d,m,m',h=>by
  simp only[pT]at h;split at h
  .rename_i k' aa len;have⟨o,h1,h⟩:=ai.1 h;split at h
   .cases h;exact⟨⟨λ _ h=>by simp[h],λ_ h=>by simp[h],λ_ h=>h⟩,[⟨.int .i64,(aa:Int)⟩],rfl,rfl⟩
   .cases h
  .cases h
 | .p k,d,m,m',h=>by
  simp only[pT]at h;split at h
  .cases h;exact⟨⟨λ _ h=>by simp[h],λ_ h=>h,λ_ h=>h⟩,[],by simp,rfl⟩
  .cases h
 | .nil,d,m,m',h=>by
  simp only[pT]at h;split at h
  .cases h;exact⟨gc.refl _,[],by simp,rfl⟩
  .cases h
 | .f F fs cs,d,m,m',h=>by
  simp only[pT]at h;split at h
  .split at h
   .have⟨m1,h1,h⟩:=ai.1 h;obtain⟨a1,n1,b1,c1⟩:=wu fs _ m m1 h1;obtain⟨a2,n2,b2,c2⟩:=wu cs _ m1 m' h;exact⟨a1.trans a2,n1++n2,by rw[b2,b1,aM],by simp[Pt.vars,c1,c2]⟩
   .cases h
  .cases h
 | .mp k,d,m,m',h=>by
  simp only[pT]at h;split at h
  .cases h;exact⟨⟨λ _ h=>by simp[h],λ_ h=>h,λ_ h=>h⟩,[],by simp,rfl⟩
  .cases h
 | .oz _,_,_,_,h=>by simp[pT]at h
 | .a ps,d,m,m',h=>by
  simp only[pT]at h;split at h
  .exact wu ps _ m m' h
  .cases h
theorem wu:∀(ps:List (Pt X.ι))(ds:List (DV X))(m m':MG X),sk get ps ds m=some m'->gc m m'/\∃an,m'.eR=m.eR++an/\an.length=(cW ps).length
 |[],[],m,m',h=>by
  simp only[sk,aA]at h;subst h;exact⟨gc.refl _,[],by simp,rfl⟩
 |p::ps,d::ds,m,m',h=>by
  simp only[sk]at h;have⟨m1,h1,h⟩:=ai.1 h;have⟨a1,n1,b1,c1⟩:=alo p d m m1 h1;have⟨a2,n2,b2,c2⟩:=wu ps ds m1 m' h;exact⟨a1.trans a2,n1++n2,by rw[b2,b1,aM],by simp[cW,c1,c2]⟩
 |[],_::_,m,m',h=>by simp[sk]at h
 |_::_,[],m,m',h=>by simp[sk]at h
end
def YR:AV->U LH->U LH
 | .agg _,hs=> .agd::hs
 |_,hs=>hs
theorem M9(x:AV)(a b:U LH):YR x (a++b)=YR x a++b:=by cases x<;>rfl
theorem yu{get':Nat->J aT}{x:AV}{hs:U LH}{p:AV×List LH×List Prop}(h:nT P get' x hs=some p)(hr:∀k∈refs x,k∉ae):oV P get' ae x (YR x hs)=some p:=by
 have hd:((refs x).all λk=>!ae.contains k)=true:=by
  simp only[all_eq_true,Bool.not_eq_true',List.contains_eq_mem,dP];exact hr
 cases x
 case agg cs=>
  simp only[refs]at hd;simp only[YR,oV,hd,if_true];exact h
 all_goals
  simp only[YR];unfold oV;split<;>first |(simp [nT]at h;done) |(rw [aX hd];exact h) |exact h |exact absurd hd ‹_› |(rename_i e;cases e;done)
variable {NM:List (Nat×Nat)} {pZ:List Nat}
mutual
theorem ajy(hi:∀q∈NM,ae[q.2]? =some q.1)(hv:∀k∈pZ,k∉ae)(hrd:∀k,(∃ q,(k,q)∈NM)\/k∈pZ->k∈rd)(ho:∀q∈NM,∀c l,get q.1=some (.en c l)->ea q.2=l.length):
 ∀(p:Pt X.ι)(d:DV X)(m m':MG X),pT get p d m=some m'->(∀ q∈m'.nm,q∈NM)->(∀ c∈m'.j7,c=true)->(∀ k∈m'.vr,k∈pZ)->
 ∃an,m'.eR=m.eR++an/\∃d',(∀ ag,eP ea p (an++ag)=(d',ag))/\(∃ hs obs,(∀ p∈obs,p)/\∀ag,oV P (dL rd (fw get)) ae (den d) (hs++ag)=some (den d',ag,obs))/\∀j∈bk d,(∃ q,(j,q)∈NM)\/j∈pZ
 | .v c,d,m,m',h,hn,hc,hr=>by
  simp only[pT]at h;rw[ai]at h;obtain⟨x,h1,h⟩:=h;cases h;have A3:∀j∈bk d,j∈pZ:=λj hj=>hr j (by simp[hj]);obtain⟨hs,obs,p1,q1⟩:=z8 (P:=P) (rd:=rd) h1 (λ b hb=>hc b (by simp[hb])) (λ j hj=>hrd j (.inr (A3 j hj)));refine⟨[⟨c,x.1⟩],rfl,.c c x.1,λag=>rfl,⟨YR (den d) hs,obs,p1,λag=>?_⟩,λj hj=> .inr (A3 j hj)⟩;rw[<- M9];exact yu (q1 ag) (λ k hk=>hv k (A3 k (by rwa [iK]at hk)))
 | .o k,d,m,m',h,hn,hc,hr=>by
  simp only[pT]at h;split at h
  .rename_i k' len;rw[ai]at h;obtain⟨o,h1,h⟩:=h;split at h
   .rename_i c l;cases h;have hq:(k',k)∈NM:=hn _ (by simp);have he:len=l.length:=by
     have:=hc (aE len l.length) (by simp);simpa[aE]using this
    refine⟨[],by simp,.own k 0 (ea k),λag=>rfl,⟨[.mut k],[],by simp,λag=>?_⟩,λj hj=>?_⟩
    .simp only[den,cons_append,bT,oV,hi _ hq,if_true,ho _ hq c l h1,he]
    .simp only[bk,aP]at hj;subst hj;exact .inl ⟨k,hq⟩
   .cases h
  .cases h
 | .od k,d,m,m',h,hn,hc,hr=>by
  simp only[pT]at h;split at h
  .rename_i k' aa len;rw[ai]at h;obtain⟨o,h1,h⟩:=h;split at h
   .rename_i c l;cases h;have hq:(k',k)∈NM:=hn _ (by simp);have he:aa+len=l.length:=by
     have:=hc (aE (aa+len) l.length) (by simp);simpa[aE]using this
    refine⟨[⟨.int .i64,(aa:Int)⟩],rfl,.own k aa (ea k -aa),λag=>?_,⟨[.mut k],[],by simp,λag=>?_⟩,λj hj=>?_⟩
    .have:ZY (X:=X) ⟨.int .i64,(aa:Int)⟩=aa:=by
      simp only[ZY];rw[VO];simp
     simp only[eP,cons_append,bT,this]
    .simp only[den,cons_append,bT,oV,hi _ hq,if_true,ho _ hq c l h1,show l.length -aa=len by omega]
    .simp only[bk,aP]at hj;subst hj;exact .inl ⟨k,hq⟩
   .cases h
  .cases h
 | .p k,d,m,m',h,hn,hc,hr=>by
  simp only[pT]at h;split at h
  .rename_i k';cases h;have hq:(k',k)∈NM:=hn _ (by simp);refine⟨[],by simp,.ptr k 0 0,λag=>rfl,⟨[.mut k],[],by simp,λag=>?_⟩,λj hj=>?_⟩
   .simp only[den,cons_append,bT,oV,hi _ hq,if_true]
   .simp only[bk,aP]at hj;subst hj;exact .inl ⟨k,hq⟩
  .cases h
 | .nil,d,m,m',h,hn,hc,hr=>by
  simp only[pT]at h;split at h
  .cases h;refine⟨[],by simp,.nil,λag=>rfl,⟨[.nil],[],by simp,λag=>?_⟩,by simp[bk]⟩;exact yu (by simp only[den,cons_append,bT,nT]) (by simp[den,refs])
  .cases h
 | .f F fs cs,d,m,m',h,hn,hc,hr=>by
  simp only[pT]at h;split at h
  .rename_i F' first caps
   split at h
   .rename_i e;subst e;rw[ai]at h;obtain⟨m1,h1,h⟩:=h;have hm:=(wu cs _ m1 m' h).1;obtain⟨n1,a1,f',b1,⟨hs1,o1,p1,q1⟩,r1⟩:=yw hi hv hrd ho fs _ m m1 h1 (λ q hq=>hn q (hm.1 q hq)) (λ q hq=>hc q (hm.2.1 q hq)) (λ q hq=>hr q (hm.2.2 q hq));obtain⟨n2,a2,c',b2,⟨hs2,o2,p2,q2⟩,r2⟩:=yw hi hv hrd ho cs _ m1 m' h hn hc hr;refine⟨n1++n2,by rw[a2,a1,aM],.fn F f' c',λag=>by simp only[eP,aM,b1,b2],⟨.fnw::(hs1++hs2),o1++o2,gL p1 p2,λag=>?_⟩,λj hj=>?_⟩
    .simp only[den,cons_append,aM,oV,q1,af,q2]
    .simp only[bk,aZ]at hj;exact hj.elim (r1 j) (r2 j)
   .cases h
  .cases h
 | .mp k,d,m,m',h,hn,hc,hr=>by
  simp only[pT]at h;split at h
  .rename_i k';cases h;have hq:(k',k)∈NM:=hn _ (by simp);refine⟨[],by simp,.mp k,λag=>rfl,⟨[.mut k],[],by simp,λag=>?_⟩,λj hj=>?_⟩
   .simp only[den,cons_append,bT,oV,hi _ hq,if_true]
   .simp only[bk,aP]at hj;subst hj;exact .inl ⟨k,hq⟩
  .cases h
 | .oz _,_,_,_,h,_,_,_=>by simp[pT]at h
 | .a ps,d,m,m',h,hn,hc,hr=>by
  simp only[pT]at h;split at h
  .rename_i ds;have⟨n1,a1,f',b1,⟨hs1,o1,p1,q1⟩,r1⟩:=yw hi hv hrd ho ps ds m m' h hn hc hr;refine⟨n1,a1,.agg f',λag=>by simp only[eP,b1],⟨.agw::hs1,o1,p1,λag=>?_⟩,λj hj=>r1 j (by simpa[bk]using hj)⟩;simp only[den,cons_append,oV,q1,af]
  .cases h
theorem yw(hi:∀q∈NM,ae[q.2]? =some q.1)(hv:∀k∈pZ,k∉ae)(hrd:∀k,(∃ q,(k,q)∈NM)\/k∈pZ->k∈rd)(ho:∀q∈NM,∀c l,get q.1=some (.en c l)->ea q.2=l.length):
 ∀(ps:List (Pt X.ι))(ds:List (DV X))(m m':MG X),sk get ps ds m=some m'->(∀ q∈m'.nm,q∈NM)->(∀ c∈m'.j7,c=true)->(∀ k∈m'.vr,k∈pZ)->
 ∃an,m'.eR=m.eR++an/\∃ds',(∀ ag,ly ea ps (an++ag)=(ds',ag))/\(∃ hs obs,(∀ p∈obs,p)/\∀ag,l6 P (dL rd (fw get)) ae (bQ ds) (hs++ag)=some (bQ ds',ag,obs))/\∀j∈aR ds,(∃ q,(j,q)∈NM)\/j∈pZ
 |[],[],m,m',h,_,_,_=>by
  simp only[sk,aA]at h;subst h;exact⟨[],by simp,[],λag=>rfl,⟨[],[],by simp,λag=>rfl⟩,by simp[aR]⟩
 |p::ps,d::ds,m,m',h,hn,hc,hr=>by
  simp only[sk]at h;have⟨m1,h1,h⟩:=ai.1 h;have hm:=(wu ps ds m1 m' h).1;obtain⟨n1,a1,d',b1,⟨hs1,o1,p1,q1⟩,r1⟩:=ajy hi hv hrd ho p d m m1 h1 (λ q hq=>hn q (hm.1 q hq)) (λ q hq=>hc q (hm.2.1 q hq)) (λ q hq=>hr q (hm.2.2 q hq));have⟨n2,a2,ds',b2,⟨hs2,o2,p2,q2⟩,r2⟩:=yw hi hv hrd ho ps ds m1 m' h hn hc hr;refine⟨n1++n2,by rw[a2,a1,aM],d'::ds',λag=>by simp only[ly,aM,b1,b2],⟨hs1++hs2,o1++o2,gL p1 p2,λag=>?_⟩,λj hj=>?_⟩
  .simp only[bQ,aM,l6,q1,af,q2]
  .simp only[aR,aZ]at hj;exact hj.elim (r1 j) (r2 j)
 |[],_::_,m,m',h,_,_,_=>by simp[sk]at h
 |_::_,[],m,m',h,_,_,_=>by simp[sk]at h
end
theorem yK:∀(rs:U (List (Pt X.ι)))(qs:U (List (DV X)))(m m':MG X),FM get rs qs m=some m'->gc m m'/\∃an,m'.eR=m.eR++an/\an.length=(vY rs).length
 |[],[],m,m',h=>by
  simp only[FM,aA]at h;subst h;exact⟨gc.refl _,[],by simp,rfl⟩
 |r::rs,q::qs,m,m',h=>by
  simp only[FM]at h;have⟨m1,h1,h⟩:=ai.1 h;have⟨a1,n1,b1,c1⟩:=wu r q m m1 h1;have⟨a2,n2,b2,c2⟩:=yK rs qs m1 m' h;exact⟨a1.trans a2,n1++n2,by rw[b2,b1,aM],by simp[vY,c1,c2]⟩
 |[],_::_,m,m',h=>by simp[FM]at h
 |_::_,[],m,m',h=>by simp[FM]at h
theorem RJ(hi:∀q∈NM,ae[q.2]? =some q.1)(hv:∀k∈pZ,k∉ae)(hrd:∀k,(∃ q,(k,q)∈NM)\/k∈pZ->k∈rd)(ho:∀q∈NM,∀c l,get q.1=some (.en c l)->ea q.2=l.length):
 ∀(rs:U (List (Pt X.ι)))(qs:U (List (DV X)))(m m':MG X),FM get rs qs m=some m'->(∀ q∈m'.nm,q∈NM)->(∀ c∈m'.j7,c=true)->(∀ k∈m'.vr,k∈pZ)->
 ∃an,m'.eR=m.eR++an/\∃E3,(∀ ag,wh ea rs (an++ag)=(E3,ag))/\(∃ hs obs,(∀ p∈obs,p)/\yD P (dL rd (fw get)) ae (qs.map bQ) hs=some (E3.map bQ,obs))/\∀j∈(qs.map aR).flatten,(∃ q,(j,q)∈NM)\/j∈pZ
 |[],[],m,m',h,_,_,_=>by
  simp only[FM,aA]at h;subst h;exact⟨[],by simp,[],λag=>rfl,⟨[],[],by simp,rfl⟩,by simp⟩
 |r::rs,q::qs,m,m',h,hn,hc,hr=>by
  simp only[FM]at h;have⟨m1,h1,h⟩:=ai.1 h;have hm:=(yK rs qs m1 m' h).1;obtain⟨n1,a1,d',b1,⟨hs1,o1,p1,q1⟩,r1⟩:=yw (P:=P) hi hv hrd ho r q m m1 h1 (λ q hq=>hn q (hm.1 q hq)) (λ q hq=>hc q (hm.2.1 q hq)) (λ q hq=>hr q (hm.2.2 q hq));have⟨n2,a2,ds',b2,⟨hs2,o2,p2,q2⟩,r2⟩:=RJ hi hv hrd ho rs qs m1 m' h hn hc hr;refine⟨n1++n2,by rw[a2,a1,aM],d'::ds',λag=>by simp only[wh,aM,b1,b2],⟨hs1::hs2,o1++o2,gL p1 p2,?_⟩,λj hj=>?_⟩
  .have:=q1 [];rw[append_nil]at this;simp only[aF,yD,this,af,q2]
  .simp only[aF,List.flatten_cons,aZ]at hj;exact hj.elim (r1 j) (r2 j)
 |[],_::_,m,m',h,_,_,_=>by simp[FM]at h
 |_::_,[],m,m',h,_,_,_=>by simp[FM]at h
theorem l7:∀(os:U (Nat×OP X.ι))(m m':MG X),CG get os m=some m'->gc m m'/\∃an,m'.eR=m.eR++an/\an.length=(cQ os).length
 |[],m,m',h=>by
  simp only[CG,aA]at h;subst h;exact⟨gc.refl _,[],by simp,rfl⟩
 |(k,op)::r,m,m',h=>by
  simp only[CG]at h;rw[ai]at h;obtain⟨o,h1,h⟩:=h;split at h
  .rename_i c c' l;rw[ai]at h;obtain⟨l',h2,h⟩:=h;obtain⟨a2,n2,b2,c2⟩:=l7 r _ m' h;refine⟨gc.trans (b:=⟨m.nm++[(qu m k,k)],m.eR++[⟨.sl c,l'⟩],m.j7,m.vr⟩) ⟨λ _ h=>by simp[h],λ_ h=>h,λ_ h=>h⟩ a2,[⟨.sl c,l'⟩]++n2,?_,by simp[cQ,c2]⟩;rw[b2,aM]
  .rename_i kc vc tS tI l;split at h
   .rw[ai]at h;obtain⟨l',h2,h⟩:=h;obtain⟨a2,n2,b2,c2⟩:=l7 r _ m' h;refine⟨gc.trans (b:=⟨m.nm++[(qu m k,k)],m.eR++[⟨.mp kc vc,l'⟩],m.j7,m.vr⟩) ⟨λ _ h=>by simp[h],λ_ h=>h,λ_ h=>h⟩ a2,[⟨.mp kc vc,l'⟩]++n2,?_,by simp[cQ,c2]⟩;rw[b2,aM]
   .cases h
  .rename_i sz rows sz' rows';split at h
   .rw[ai]at h;obtain⟨m1,h2,h⟩:=h;obtain⟨a1,n1,b1,c1⟩:=yK rows _ _ m1 h2;have⟨a2,n2,b2,c2⟩:=l7 r m1 m' h;refine⟨gc.trans (gc.trans (b:=⟨m.nm++[(qu m k,k)],m.eR,m.j7,m.vr⟩) ⟨λ _ h=>by simp[h],λ_ h=>h,λ_ h=>h⟩ a1) a2,n1++n2,?_,by simp[cQ,c1,c2]⟩;rw[b2,b1,aM]
   .cases h
  .cases h
theorem Eh:∀(os:U (Nat×OP X.ι))(m m':MG X),CG get os m=some m'->(∀ q∈m'.nm,q∈NM)->∃an,m'.eR=m.eR++an/\∀ag,∀k∈os.map (·.1),∃k' o,(k',k)∈NM/\get k'=some o/\∀c l,o= .en c l->(k,List.length l)∈lens os (an++ag)
 |[],m,m',h,_=>by
  simp only[CG,aA]at h;subst h;exact⟨[],by simp,λag k hk=>by simp at hk⟩
 |(k,op)::r,m,m',h,hn=>by
  simp only[CG]at h;rw[ai]at h;obtain⟨o,h1,h⟩:=h;split at h
  .rename_i c c' l;rw[ai]at h;obtain⟨l',h2,h⟩:=h;have hm:=(l7 r _ m' h).1;obtain⟨n2,b2,c2⟩:=Eh r _ m' h hn;refine⟨[⟨.sl c,l'⟩]++n2,by rw[b2,aM],λag j hj=>?_⟩;simp only[aF,aO]at hj;simp only[cons_append,bT,lens];by_cases hjk:j=k
   .subst hjk;refine⟨_,_,hn _ (hm.1 _ (by simp)),h1,λc2 l2 he=>?_⟩;injection he with e1 e2;subst e1;have e2:=eq_of_heq e2;subst e2;have:=congrArg List.length (jb h2).2;simp only[length_map]at this;rw[this];exact List.mem_cons_self
   .rcases hj with rfl |hj
    .exact(hjk rfl).elim
    .have⟨k',o',g1,g2,g3⟩:=c2 ag j hj;exact⟨k',o',g1,g2,λc l he=>eH _ (g3 c l he)⟩
  .rename_i kc vc tS tI l;split at h
   .rw[ai]at h;obtain⟨l',h2,h⟩:=h;have hm:=(l7 r _ m' h).1;obtain⟨n2,b2,c2⟩:=Eh r _ m' h hn;refine⟨[⟨.mp kc vc,l'⟩]++n2,by rw[b2,aM],λag j hj=>?_⟩;simp only[aF,aO]at hj;simp only[cons_append,bT,lens,List.drop_succ_cons,List.drop_zero];by_cases hjk:j=k
    .subst hjk;exact⟨_,_,hn _ (hm.1 _ (by simp)),h1,λc2 l2 he=>by cases he⟩
    .rcases hj with rfl |hj
     .exact(hjk rfl).elim
     .exact c2 ag j hj
   .cases h
  .rename_i sz rows sz' rows';split at h
   .have⟨m1,h2,h⟩:=ai.1 h;obtain⟨a1,n1,b1,c1⟩:=yK rows _ _ m1 h2;have hm:=(l7 r _ m' h).1;obtain⟨n2,b2,c2⟩:=Eh r _ m' h hn;refine⟨n1++n2,by rw[b2,b1,aM],λag j hj=>?_⟩;simp only[aF,aO]at hj;have hd:(n1++n2++ag).drop (vY rows).length=n2++ag:=(by rw[<- c1,aM,List.drop_left]);simp only[lens,hd];by_cases hjk:j=k
    .subst hjk;exact⟨_,_,hn _ (hm.1 _ (a1.1 _ (by simp))),h1,λc2 l2 he=>by cases he⟩
    .rcases hj with rfl |hj
     .exact(hjk rfl).elim
     .exact c2 ag j hj
   .cases h
  .cases h
theorem Ei:∀(os:U (Nat×OP X.ι))(L:U (DC X)),((lens os L).map (·.1)).Sublist (os.map (·.1))
 |[],_=>by simp[lens]
 |(k,.l c)::r,L=>by
  simp only[lens];split
  .exact(Ei r _).cons_cons _
  .exact List.nil_sublist _
 |(k,.m kc vc)::r,L=>by
  simp only[lens];exact(Ei r _).cons _
 |(k,.c sz rows)::r,L=>by
  simp only[lens];exact(Ei r _).cons _
def ajz(get':Nat->J aT)(NM:U (Nat×Nat))(pZ:U Nat)(bs:U OB)(ks:U Nat):Prop:=
 ∀(j:Nat) hs q o,bs[j]? =some (.DD hs)->ks[j]? =some q->get' q=some o->∀k∈Ps o,(∃ z,(k,z)∈NM)\/k∈pZ
theorem Na{sz:Nat}{rows:U (List (DV X))}{k:Nat}(h:k∈Ps (bG (.cells sz rows))):k∈(rows.map aR).flatten:=by
 simp only[Ps,bG,mem_flatMap,mem_map]at h;obtain⟨a,⟨r,hr,rfl⟩,hk⟩:=h;rw[gX]at hk;exact List.mem_flatten.2 ⟨_,mem_map.2 ⟨r,hr,rfl⟩,hk⟩
theorem abC:∀ts:U Tree,eX (ts.map AV.t)=[]
 |[]=>rfl
 |t::ts=>by simp only[aF,eX,refs,abC ts,append_nil]
theorem aiv{P:Program}{get:Nat->J aT}:∀(ts:U Tree)(hs:U LH),mG P get (ts.map AV.t) hs=some (ts.map AV.t,hs,[])
 |[],hs=>rfl
 |t::ts,hs=>by simp only[aF,mG,nT,af,aiv ts hs,append_nil]
theorem ajA{P:Program}{get:Nat->J aT}{ae:U Nat}(v:TV):oV P get ae v.av []=some (v.av,[],[]):=by
 cases v with
 |s x=>rfl
 |a cs=>
  have h:refs (.agg (cs.map AV.t))=[]:=abC cs;simp only[TV.av,oV,h,List.all_nil,if_true,nT,aiv,af]
theorem Z9{P:Program}{get:Nat->J aT}{ae:U Nat}:∀rows:U (TV×TV),yD P get ae (rows.map λq=>[q.1.av,q.2.av]) (rows.map λ_=>[])=some (rows.map λq=>[q.1.av,q.2.av],[])
 |[]=>rfl
 |q::rows=>by simp only[aF,yD,l6,ajA,af,Z9 rows,append_nil]
theorem Ab(hi:∀q∈NM,ae[q.2]? =some q.1)(hv:∀k∈pZ,k∉ae)(hrd:∀k,(∃ q,(k,q)∈NM)\/k∈pZ->k∈rd)(ho:∀q∈NM,∀c l,get q.1=some (.en c l)->ea q.2=l.length):
 ∀(os:U (Nat×OP X.ι))(m m':MG X),CG get os m=some m'->(∀ q∈m'.nm,q∈NM)->(∀ c∈m'.j7,c=true)->(∀ k∈m'.vr,k∈pZ)->
 ∃an,m'.eR=m.eR++an/\∃xs:U (Nat×bm X),(∀ ag,dD ea os (an++ag)=xs.map λp=>(p.1,some p.2))/\
  ∃bs mo,(∀ p∈mo,p)/\FJ P (dL rd (fw get)) ae (os.map λp=>(ae[p.1]?).getD 0) bs=some (xs.map λp=>bG p.2,mo)/\ajz (dL rd (fw get)) NM pZ bs (os.map λp=>(ae[p.1]?).getD 0)
 |[],m,m',h,_,_,_=>by
  simp only[CG,aA]at h;subst h;exact⟨[],by simp,[],λag=>rfl,[],[],by simp,rfl,λj hs q o h=>by simp at h⟩
 |(k,op)::r,m,m',h,hn,hc,hr=>by
  simp only[CG]at h;rw[ai]at h;obtain⟨o,h1,h⟩:=h;split at h
  .rename_i c c' l;have⟨l',h2,h⟩:=ai.1 h;have hm:=(l7 r _ m' h).1;have hq:(qu m k,k)∈NM:=hn _ (hm.1 _ (by simp));have hid:(ae[k]?).getD 0=qu m k:=(by rw[hi _ hq];rfl);have hget:=eD (hrd (qu m k) (.inl ⟨k,hq⟩)) h1;have⟨h3,h4⟩:=jb h2;obtain⟨n2,a2,xs,b2,bs,mo,p2,q2,r2⟩:=Ab hi hv hrd ho r _ m' h hn hc hr;refine⟨[⟨.sl c,l'⟩]++n2,by rw[a2,aM],(k,.en c l')::xs,λag=>by simp only[cons_append,bT,dD,b2,aF],.dat (CT.sz X c,l'.map (CT.row X.toSE c))::bs,((bG (.en c' l)).sz=CT.sz X c/\dX ((bG (.en c' l)).rows.take (l'.map (CT.row X.toSE c)).length)=aI (l'.map (CT.row X.toSE c)))::mo,?_,?_,?_⟩
   .intro p hp;rcases aO.1 hp with rfl |hp
    .refine⟨h3,?_⟩;simp only[bG,h4];rw[take_of_length_le (by simp[aI])];simp[dX,aI,Function.comp_def,wk]
    .exact p2 p hp
   .simp only[aF,FJ,Vm,hid,hget,af,q2,cons_append,bT];rfl
   .intro j hs q o' hj hq' ho';cases j with
    |zero=>simp at hj
    |succ j=>exact r2 j hs q o' (by simpa using hj) (by simpa using hq') ho'
  .rename_i kc vc tS tI l;split at h
   .rename_i hone;have⟨l',h2,h⟩:=ai.1 h;have hm:=(l7 r _ m' h).1;have hq:(qu m k,k)∈NM:=hn _ (hm.1 _ (by simp));have hid:(ae[k]?).getD 0=qu m k:=(by rw[hi _ hq];rfl);have hget:=eD (hrd (qu m k) (.inl ⟨k,hq⟩)) h1;have hden:bG (.map tS tI l)=bG (.map kc vc l'):=by
     have⟨e,h2⟩:=rF h2;injection e with e1 e2;subst e1;subst e2;subst h2;rfl
    obtain⟨n2,a2,xs,b2,bs,mo,p2,q2,r2⟩:=Ab hi hv hrd ho r _ m' h hn hc hr;rcases hone with hone |_
    .have hab:bG (.map kc vc l')=ii (List.length l',l'.map λq=>CT.row X.toSE kc q.1++CT.row X.toSE vc q.2):=by
      simp only[bG,ii,aI,map_map];congr 1;refine map_congr_left λq _=>?_;obtain⟨t1,g1,g2⟩:=row_one hone.1 q.1;obtain⟨t2,g3,g4⟩:=row_one hone.2 q.2;simp[g1,g2,g3,g4,TV.av]
     refine⟨[⟨.mp kc vc,l'⟩]++n2,by rw[a2,aM],(k,.map kc vc l')::xs,λag=>by simp only[cons_append,bT,dD,b2,aF],.dat (List.length l',l'.map λq=>CT.row X.toSE kc q.1++CT.row X.toSE vc q.2)::bs,((bG (.map tS tI l)).sz=List.length l'/\dX ((bG (.map tS tI l)).rows.take (l'.map λq=>CT.row X.toSE kc q.1++CT.row X.toSE vc q.2).length)=aI (l'.map λq=>CT.row X.toSE kc q.1++CT.row X.toSE vc q.2))::mo,?_,?_,?_⟩
     .intro p hp;rcases aO.1 hp with rfl |hp
      .rw[hden,hab];refine⟨rfl,?_⟩;simp only[ii];rw[take_of_length_le (by simp[aI])];simp[dX,aI,Function.comp_def,wk]
      .exact p2 p hp
     .simp only[aF,FJ,Vm,hid,hget,af,q2,cons_append,bT,hab]
     .intro j hs q o' hj hq' ho';cases j with
      |zero=>simp at hj
      |succ j=>exact r2 j hs q o' (by simpa using hj) (by simpa using hq') ho'
    .refine⟨[⟨.mp kc vc,l'⟩]++n2,by rw[a2,aM],(k,.map kc vc l')::xs,λag=>by simp only[cons_append,bT,dD,b2,aF],.DD ((l'.map λq=>(CT.tv X.toSE kc q.1,CT.tv X.toSE vc q.2)).map λ_=>[])::bs,mo,p2,?_,?_⟩
     .have hlr:=Z9 (P:=P) (get:=dL rd (fw get)) (ae:=ae) (l'.map λq=>(CT.tv X.toSE kc q.1,CT.tv X.toSE vc q.2));have hdr:(bG (.map kc vc l')).rows=(l'.map λq=>(CT.tv X.toSE kc q.1,CT.tv X.toSE vc q.2)).map λq=>[q.1.av,q.2.av]:=(by simp only[bG,map_map];rfl);simp only[aF,FJ,Vm,hid,hget,af,q2,hden,hdr,hlr,bT];rw[<- hdr]
     .intro j hs q o' hj hq' ho';cases j with
      |zero=>
       simp only[aF,List.getElem?_cons_zero,aA]at hq';subst hq';rw[hid,hget]at ho';injection ho' with ho';subst ho';intro k hk;rw[hden]at hk;simp only[Ps,bG,mem_flatMap,mem_map]at hk;obtain⟨_,⟨q,_,rfl⟩,hk⟩:=hk;simp only[eX,zZ,append_nil,gB]at hk
      |succ j=>exact r2 j hs q o' (by simpa using hj) (by simpa using hq') ho'
   .cases h
  .rename_i sz rows sz' rows';split at h
   .rename_i hsz;have⟨m1,h2,h⟩:=ai.1 h;have hm1:=(yK rows _ _ m1 h2).1;have hm:=(l7 r _ m' h).1;have hq:(qu m k,k)∈NM:=hn _ (hm.1 _ (hm1.1 _ (by simp)));have hid:(ae[k]?).getD 0=qu m k:=(by rw[hi _ hq];rfl);have hget:=eD (hrd (qu m k) (.inl ⟨k,hq⟩)) h1;obtain⟨n1,a1,qs,b1,⟨hs1,o1,p1,q1⟩,r1⟩:=RJ (P:=P) hi hv hrd ho rows _ _ m1 h2 (λ q hq=>hn q (hm.1 q hq)) (λ q hq=>hc q (hm.2.1 q hq)) (λ q hq=>hr q (hm.2.2 q hq));obtain⟨n2,a2,xs,b2,bs,mo,p2,q2,r2⟩:=Ab hi hv hrd ho r _ m' h hn hc hr;subst hsz;refine⟨n1++n2,by rw[a2,a1,aM],(k,.cells sz qs)::xs,λag=>by simp only[aM,dD,b1,b2,aF],.DD hs1::bs,o1++mo,gL p1 p2,?_,?_⟩
    .simp only[aF,FJ,Vm,hid,hget,af,bG,q1,q2]
    .intro j hs q o' hj hq' ho';cases j with
     |zero=>
      simp only[aF,List.getElem?_cons_zero,aA]at hq';rw[<- hq',hid,hget]at ho';injection ho' with ho';subst ho';exact λz hz=>r1 z (Na hz)
     |succ j=>exact r2 j hs q o' (by simpa using hj) (by simpa using hq') ho'
   .cases h
  .cases h
end
end
end Go.Gb
