import Derived.Test.YthblhgapkimgcaaGreatW1
import Derived.Maps.RangeRun
import Derived.ChangeSame
import Derived.Carry
import Derived.OpenShut
import Derived.SizedLaws
import Derived.WalkKit
import Derived.ProofKit
import Derived.Lib.LaidTab
open List (mem_map all_eq_true cons_append length_map append_nil map_map take_of_length_le map_congr_left map_nil all_cons map_take map_drop mem_flatMap)
namespace Go.Gb
open Go.RowKit
structure St where
 env:Nat->AV
 obj:Nat->Option aR
 ok:Nat->Option Bool
structure mT where
 cx:i8
 rd:List Nat
 wr:List Nat
 sym:Bool
def jC(P:Program)(T:ea)(i:Nat)(o:Oper)(cx:i8)(ρ:Operand->AV)(get:Nat->Option aR):Option Out:=
 match cx with
 | .ext n=>sS T i o n ρ get
 | .xm ae fr uA=>GQ P T i o ae fr uA ρ get
 |cx=>match o.op with
  | .call { callee:= .value f,args:=args,argTypes:=_ }=>j3 P i (ρ f) (args.toList.map ρ) cx get
  |_=>qa T i o cx ρ get
def AP{α:Type}(env:Nat->α)(dst:Option Tmp)(v:α):Nat->α:=λt=>if dst=some t then v else env t
def St.app(σ:St)(dst:Option Tmp)(p:Out×Option Bool):St:=⟨AP σ.env dst p.1.v,cO σ.obj p.1.upd,AP σ.ok dst p.2⟩
def want(al:Array Oper)(o:Oper)(env:Nat->AV)(ok:Nat->Option Bool):Option Bool:=
 match o.guard with
 |none=>some true
 |some (j,b)=>match (al[j]?).bind (·.dst)with
  |some t=>match env t,ok t with
   | .t (.sc (.bool v)),none=>some (v==b)
   | .t (.sc (.bool v)),some g=>some (g&&(v==b))
   | .undef,some false=>some false
   |_,_=>none
  |none=>none
def xq(ok:Nat->Option Bool):Operand->List Prop
 | .tmp t=>match ok t with
  |none=>[]
  |some b=>[b=true]
 |_=>[]
def needs(env:Nat->AV)(ok:Nat->Option Bool)(o:Op):List Prop:=
 match o with
 | .pick c a b=>match ll env c with
  | .t (.sc (.bool e))=>xq ok c++((xq ok a).map (λ p=>e=true->p)++(xq ok b).map (λ p=>e=false->p))
  |_=>[False]
 |o=>o.operands.toList.flatMap (xq ok)
def dI(rd:List Nat)(obj:Nat->Option aR):Nat->Option aR:=λk=>if k∈rd then obj k else none
section
variable (P:Program) (T:ea) (al:Array Oper) (c7:Nat->mT)
def opAt(i:Nat)(σ:St):Option (Out×Option Bool):=
 (al[i]?).bind λo=>(want al o σ.env σ.ok).bind λg=>match (c7 i).sym with
  |true=>(jC P T i o (c7 i).cx (ll σ.env) (dI (c7 i).rd σ.obj)).bind λab=>
   if ab.upd.isEmpty then some (⟨ab.v,[],(needs σ.env σ.ok o.op++ab.obs).map λp=>g=true->p⟩,some g)else none
  |false=>match g with
   |true=>(jC P T i o (c7 i).cx (ll σ.env) (dI (c7 i).rd σ.obj)).bind λab=>
    if ab.upd.all (λ p=>GX i p.1 || (c7 i).wr.contains p.1)then some (⟨ab.v,ab.upd,needs σ.env σ.ok o.op++ab.obs⟩,none)else none
   |false=>some (⟨.undef,[],[]⟩,some false)
def xp(i:Nat)(K:St->Prop)(σ:St):Prop:=∃o ab,al[i]? =some o/\opAt P T al c7 i σ=some ab/\ab.1.ob/\K (σ.app o.dst ab)
def Sj(Q:St->Prop):List Nat->St->Prop
 |[],σ=>Q σ
 |i::r,σ=>xp P T al c7 i (Sj Q r) σ
def DM(md:Region.Mode)(Q:St->Prop):Nat->Array Bool->St->Prop
 | 0,listed,σ=>Region.ready md al listed=[]/\Q σ
 |fuel+1,listed,σ=>(Region.ready md al listed=[]->Q σ)/\∀i∈Region.ready md al listed,xp P T al c7 i (DM md Q fuel (listed.setIfInBounds i true)) σ
end
def xC(c7:Nat->mT)(i j:Nat):Bool:=
 (c7 j).rd.all (λ k=>!GX i k&&!(c7 i).wr.contains k)&&(!Nat.beq i j&&(c7 j).wr.all (λ k=>!GX i k&&!(c7 i).wr.contains k)&&(c7 i).wr.all (λ k=>!GX j k))&&(c7 i).rd.all (λ k=>!GX j k&&!(c7 j).wr.contains k)
def Pm(md:Region.Mode)(al:Array Oper)(i:Nat):List Nat:=
 (List.range al.size).foldl (λ D j=>match al[j]? with
  |some oj=>bif oj.after.any (λ e=>Region.binds md e&&(e.on==i || D.contains e.on))then j::D else D
  |none=>D) []
def NX(md:Region.Mode)(al:Array Oper)(listed:Array Bool)(i j:Nat):Bool:=
 (Pm md al i).contains j&&(Pm md al i).all λd=>!listed.getD d true
def Pn(md:Region.Mode)(al:Array Oper)(c7:Nat->mT)(listed:Array Bool)(i:Nat):Bool:=
 match al[i]? with
 |some oi=>(List.range al.size).all λj=>j==i || listed.getD j true || match al[j]? with
  |some oj=>oj.after.any (λ e=>Region.binds md e&&e.on==i) || (oi.apart al oj&&xC c7 i j) || NX md al listed i j
  |none=>true
 |none=>false
def lexFrom'(md:Region.Mode)(al:Array Oper)(c7:Nat->mT):Nat->Nat->Array Bool->Bool
 | 0,_,listed=>(Region.ready md al listed).isEmpty
 |fuel+1,k,listed=>(Region.ready md al listed).contains k&&Pn md al c7 listed k&&lexFrom' md al c7 fuel (k+1) (listed.setIfInBounds k true)
def NO(al:Array Oper)(c7:Nat->mT):Bool:=lexFrom' .any al c7 al.size 0 (Array.replicate al.size false)
section
variable {P:Program} {T:ea} {al:Array Oper} {c7:Nat->mT} {md:Region.Mode} {Q:St->Prop}
theorem akp{i:Nat}{K K':St->Prop}{σ:St}(h:∀ σ,K σ->K' σ)(hh:xp P T al c7 i K σ):xp P T al c7 i K' σ:=
 let ⟨o,ab,h1,h2,h3,h4⟩:=hh
 ⟨o,ab,h1,h2,h3,h _ h4⟩
theorem Mt{i:Nat}{o:Oper}{cx:i8}{ρ ρ':Operand->AV}{get:Nat->Option aR}(h:∀x∈o.op.operands,ρ x=ρ' x):jC P T i o cx ρ get=jC P T i o cx ρ' get:=by
 have hop:=Q9 (T:=T) (i:=i) (cx:=cx) (get:=get) h;unfold jC;split
 ·exact YA h
 ·exact aaU h
 ·obtain⟨dst,op,ty,ao,after,guard⟩:=o;simp only at h ⊢;split
  ·rename_i f args cQ;simp only[Op.operands,Call.operands]at h;have h1:args.toList.map ρ=args.toList.map ρ':=map_congr_left λx hx=>h x (by simp;exact .inr (by simpa using hx));rw[h1,h f (by simp)]
  ·exact hop
theorem ZC{i:Nat}{σ:St}{ab:Out×Option Bool}(h:opAt P T al c7 i σ=some ab):∀p∈ab.1.upd,GX i p.1=true\/p.1∈(c7 i).wr:=by
 unfold opAt at h;cases ho:al[i]? with
 |none=>simp[ho]at h
 |some o=>
  simp only[ho,af]at h;cases hw:want al o σ.env σ.ok with
  |none=>simp[hw]at h
  |some g=>
   simp only[hw,af]at h;split at h
   ·cases ha:jC P T i o (c7 i).cx (ll σ.env) (dI (c7 i).rd σ.obj)with
    |none=>simp[ha]at h
    |some out'=>
     simp only[ha,af]at h;split at h
     ·cases h;simp
     ·cases h
   ·split at h
    ·cases ha:jC P T i o (c7 i).cx (ll σ.env) (dI (c7 i).rd σ.obj)with
     |none=>simp[ha]at h
     |some out'=>
      simp only[ha,af]at h;split at h
      ·rename_i hall;cases h;intro p hp;have:=all_eq_true.1 hall p hp;simpa using this
      ·cases h
    ·cases h;simp
theorem uT{obj:Nat->Option aR}:∀(upd:List (Nat×Option aR))(k:Nat),(∀ p∈upd,p.1≠k)->cO obj upd k=obj k
 |[],_,_=>rfl
 |(j,o)::r,k,h=>by
  simp only[cO];rw[aQ (λ e=>h (j,o) (by simp) e.symm),uT r k (λ p hp=>h p (by simp[hp]))]
theorem DI{obj oa:Nat->Option aR}:∀(upd:List (Nat×Option aR))(k:Nat),obj k=oa k->cO obj upd k=cO oa upd k
 |[],_,h=>h
 |(j,o)::r,k,h=>by simp only[cO,DI r k h]
theorem ac0{env env':Nat->AV}{ok ok':Nat->Option Bool}{o:Op}(h:∀t,.tmp t∈o.operands->env t=env' t/\ok t=ok' t):needs env ok o=needs env' ok' o:=by
 have h1:∀x∈o.operands,xq ok x=xq ok' x:=λx hx=>by
  cases x with
  |tmp t=>simp only[xq,(h t hx).2]
  |_=>rfl
 unfold needs;split
 ·rename_i c a b;have hc:ll env c=ll env' c:=by
   cases c with
   |tmp t=>exact(h t (by simp[Op.operands])).1
   |_=>rfl
  rw[hc,h1 c (by simp[Op.operands]),h1 a (by simp[Op.operands]),h1 b (by simp[Op.operands])]
 ·have:∀l:List Operand,(∀ x∈l,xq ok x=xq ok' x)->l.flatMap (xq ok)=l.flatMap (xq ok'):=by
   intro l
   induction l with
   |nil=>intro _;rfl
   |cons x xs ih=>intro hx;simp only[List.flatMap_cons,hx x (by simp),ih (λ y hy=>hx y (by simp[hy]))]
  exact this _ λx hx=>h1 x (by simpa using hx)
theorem ac1{j:Nat}{oi oj:Oper}{ab:Out×Option Bool}{σ:St}(hj:al[j]? =some oj)(hd:∀d,oi.dst=some d->d∉oj.looksAt al)(hk:∀p∈ab.1.upd,p.1∉(c7 j).rd):
 opAt P T al c7 j (σ.app oi.dst ab)=opAt P T al c7 j σ:=by
 unfold opAt;simp only[hj,af];have q7:∀t,t∈oj.looksAt al->(σ.app oi.dst ab).env t=σ.env t:=λt ht=>by
  simp only[St.app,AP];rw[aQ (λ e=>hd t e ht)]
 have Hx:∀t,t∈oj.looksAt al->(σ.app oi.dst ab).ok t=σ.ok t:=λt ht=>by
  simp only[St.app,AP];rw[aQ (λ e=>hd t e ht)]
 have hw:want al oj (σ.app oi.dst ab).env (σ.app oi.dst ab).ok=want al oj σ.env σ.ok:=by
  unfold want;cases hg:oj.guard with
  |none=>rfl
  |some gw=>
   obtain⟨g,b⟩:=gw;cases ht:(al[g]?).bind (·.dst)with
   |none=>simp only[ht]
   |some t=>simp only[ht,q7 t (by simp[Oper.looksAt,hg,ht]),Hx t (by simp[Oper.looksAt,hg,ht])]
 have hget:dI (c7 j).rd (σ.app oi.dst ab).obj=dI (c7 j).rd σ.obj:=by
  funext k;simp only[dI];split
  ·rename_i hkr;exact uT _ _ (λ p hp e=>hk p hp (e ▸ hkr))
  ·rfl
 have hin:∀t,.tmp t∈oj.op.operands->t∈oj.looksAt al:=λt ht=>by simp only[Oper.looksAt];exact List.mem_append_left _ (List.mem_filterMap.2 ⟨.tmp t,by simpa using ht,rfl⟩)
 have hρ:jC P T j oj (c7 j).cx (ll (σ.app oi.dst ab).env) (dI (c7 j).rd σ.obj)=jC P T j oj (c7 j).cx (ll σ.env) (dI (c7 j).rd σ.obj):=by
  refine Mt λx hx=>?_;cases x with
  |tmp t=>exact q7 t (hin t hx)
  |_=>rfl
 have hnd:needs (σ.app oi.dst ab).env (σ.app oi.dst ab).ok oj.op=needs σ.env σ.ok oj.op:=ac0 λt ht=>⟨q7 t (hin t ht),Hx t (hin t ht)⟩;rw[hw,hget,hρ,hnd]
theorem akq{σ:St}{di dj:Option Tmp}{a b:Out×Option Bool}(hd:∀d,di=some d->dj≠some d)(hk:∀p∈a.1.upd,∀q∈b.1.upd,p.1≠q.1):(σ.app di a).app dj b=(σ.app dj b).app di a:=by
 have slot:∀{α:Type} (e:Nat->α) (x y:α),AP (AP e di x) dj y=AP (AP e dj y) di x:=λe x y=>by
  funext t;simp only[AP];by_cases h1:dj=some t
  ·rw[aX h1,aQ (λ e=>hd t e h1),aX h1]
  ·rw[aQ h1,aQ h1]
 simp only[St.app,St.mk.injEq];refine⟨slot _ _ _,?_,slot _ _ _⟩;funext k;by_cases h1:∃p∈a.1.upd,p.1=k
 ·obtain⟨p,hp,e⟩:=h1;rw[uT b.1.upd k (λ q hq e2=>hk p hp q hq (e.trans e2.symm))];exact DI _ _ (uT b.1.upd k (λ q hq e2=>hk p hp q hq (e.trans e2.symm))).symm
 ·have h2:∀p∈a.1.upd,p.1≠k:=λp hp e=>h1 ⟨p,hp,e⟩;rw[uT a.1.upd k h2];exact DI _ _ (uT a.1.upd k h2)
theorem amv{i j:Nat}{oi oj:Oper}{ab:Out×Option Bool}{σ:St}{K:St->Prop}(hi:al[i]? =some oi)(hj:al[j]? =some oj)(hap:oi.apart al oj=true)(hfp:xC c7 i j=true)
 (hy:opAt P T al c7 i σ=some ab) (h:xp P T al c7 j K (σ.app oi.dst ab)):
 xp P T al c7 j (λ σ'=>opAt P T al c7 i σ'=some ab/\K (σ'.app oi.dst ab)) σ:=by
 obtain⟨a1,a2,a3⟩:=Oper.apart_spec hap;simp only[xC,aK]at hfp;obtain⟨⟨f1,⟨f0,f2⟩,f2'⟩,f3⟩:=hfp;have hij:i≠j:=by intro e;subst e;rw[show Nat.beq i i=true from Nat.beq_refl i]at f0;cases f0
 have ki:=ZC hy;have no:∀(a:Nat)(l wr:List Nat)(k:Nat),(l.all λk=>!GX a k&&!wr.contains k)=true->(GX a k=true\/k∈wr)->k∈l->False:=by
  intro a l wr k h hk hl;have:=all_eq_true.1 h k hl;simp only[aK,Bool.not_eq_true']at this;rcases hk with hk |hk
  ·rw[hk]at this;exact absurd this.1 (by simp)
  ·have h2:=this.2;simp[hk]at h2
 obtain⟨o,PP,g1,g2,g3,g4⟩:=h;rw[hj]at g1;cases g1;rw[ac1 hj a1 (λ p hp hr=>no _ _ _ _ f1 (ki p hp) hr)]at g2;have kj:=ZC g2;have both:∀k,(GX i k=true\/k∈(c7 i).wr)->(GX j k=true\/k∈(c7 j).wr)->False:=by
  intro k h1 h2;rcases h2 with h2 |h2
  ·rcases h1 with h1 |h1
   ·simp only[GX,aK,beq_iff_eq]at h1 h2;exact hij (h1.2.symm.trans h2.2)
   ·have:=all_eq_true.1 f2' k h1;rw[h2]at this;exact absurd this (by simp)
  ·exact no _ _ _ _ f2 h1 h2
 refine⟨oj,PP,hj,g2,g3,?_,?_⟩
 ·rw[ac1 hi a3 (λ p hp hr=>no _ _ _ _ f3 (kj p hp) hr)];exact hy
 ·rw[<- akq a2 (λ p hp q hq e=>both p.1 (ki p hp) (e ▸ kj q hq))];exact g4
theorem ac2{i:Nat}:∀d∈Pm md al i,∃od,al[d]? =some od/\∃e∈od.after,Region.binds md e=true/\(e.on=i\/e.on∈Pm md al i):=by
 have main:∀(l:List Nat)(D0:List Nat),(∀ d∈D0,∃od,al[d]? =some od/\∃e∈od.after,Region.binds md e=true/\(e.on=i\/e.on∈D0))->
  ∀d∈l.foldl (λ D j=>match al[j]? with
   |some oj=>bif oj.after.any (λ e=>Region.binds md e&&(e.on==i || D.contains e.on))then j::D else D
   |none=>D) D0,∃od,al[d]? =some od/\∃e∈od.after,Region.binds md e=true/\(e.on=i\/e.on∈l.foldl (λ D j=>match al[j]? with
   |some oj=>bif oj.after.any (λ e=>Region.binds md e&&(e.on==i || D.contains e.on))then j::D else D
   |none=>D) D0):=by
  intro l
  induction l with
  |nil=>intro D0 h;exact h
  |cons j l ih=>
   intro D0 h;simp only[List.foldl_cons];refine ih _ ?_;cases hj:al[j]? with
   |none=>exact h
   |some oj=>
    simp only;cases hb:oj.after.any (λ e=>Region.binds md e&&(e.on==i || D0.contains e.on))with
    |false=>simp only[ak];exact h
    |true=>
     simp only[aj];intro d hd;rcases aN.1 hd with rfl |hd
     ·obtain⟨e,he,hb'⟩:=Array.any_eq_true'.1 hb;simp only[aK,Bool.or_eq_true,beq_iff_eq,List.contains_iff_mem]at hb';exact⟨oj,hj,e,he,hb'.1,hb'.2.imp id λh=>eG _ h⟩
     ·have⟨od,g1,e,g2,g3,g4⟩:=h d hd;exact⟨od,g1,e,g2,g3,g4.imp id λh=>eG _ h⟩
 exact main _ [] (λ d hd=>by simp at hd)
theorem Ri{i:Nat}{oi:Oper}{listed:Array Bool}(hi:al[i]? =some oi)(h:Pn md al c7 listed i=true)(j:Nat)(oj:Oper)(hj:al[j]? =some oj)(hne:j≠i)(hun:listed.getD j true=false)
 (hno:∀e∈oj.after,Region.binds md e=true->e.on≠i):(oi.apart al oj=true/\xC c7 i j=true)\/NX md al listed i j=true:=by
 simp only[Pn,hi,all_eq_true,List.mem_range]at h;have h1:=h j (Array.getElem?_eq_some_iff.1 hj).1;simp only[hj,Bool.or_eq_true,beq_iff_eq,hne,false_or,hun,Bool.false_eq_true,aK]at h1;rcases h1 with (h1 |h1) |h1
 ·obtain⟨e,he,hb⟩:=Array.any_eq_true'.1 h1;simp only[aK,beq_iff_eq]at hb;exact absurd hb.2 (hno e he hb.1)
 ·exact .inl h1
 ·exact .inr h1
theorem Vk{i:Nat}{oi:Oper}{ab:Out×Option Bool}(D:List Nat)(hi:al[i]? =some oi)(hD:∀d∈D,∃od,al[d]? =some od/\∃e∈od.after,Region.binds md e=true/\(e.on=i\/e.on∈D)):
 ∀(fuel:Nat) (listed:Array Bool) (σ:St),(∀ d∈D,listed.getD d true=false)->
  (∀ j oj,al[j]? =some oj->j≠i->listed.getD j true=false->j∉D->(∀ e∈oj.after,Region.binds md e=true->e.on≠i)->oi.apart al oj=true/\xC c7 i j=true)->
  i∈Region.ready md al listed->opAt P T al c7 i σ=some ab->ab.1.ob->
  DM P T al c7 md Q fuel (listed.setIfInBounds i true) (σ.app oi.dst ab)->DM P T al c7 md Q (fuel+1) listed σ:=by
 intro fuel
 induction fuel with
 |zero=>
  intro listed σ _ _ hr hy cM H;refine⟨λ h=>(by rw[h]at hr;cases hr),λj hj=>?_⟩;by_cases hji:j=i
  ·subst hji;exact⟨oi,ab,hi,hy,cM,H⟩
  ·have:=ready_mono hj hji;rw[H.1]at this;cases this
 |succ fuel ih=>
  intro listed σ hDu hfree hr hy cM H;refine⟨λ h=>(by rw[h]at hr;cases hr),λj hj=>?_⟩;by_cases hji:j=i
  ·subst hji;exact⟨oi,ab,hi,hy,cM,H⟩
  ·have h1:=H.2 j (ready_mono hj hji);obtain⟨hjun,oj,hoj,hall⟩:=mem_ready.1 hj;have hnl:∀k,listed.getD k true=false->∀e∈oj.after,Region.binds md e=true->e.on≠k:=λk h0 e he hb heq=>by
    have h1:=hall e he hb;rw[heq]at h1;rcases Nat.lt_or_ge k listed.size with h' |h'
    ·simp[h']at h0 h1;rw[h0]at h1;cases h1
    ·simp[Array.getElem?_eq_none h']at h1
   have hnot:∀e∈oj.after,Region.binds md e=true->e.on≠i:=hnl i (mem_ready.1 hr).1;have Lz:j∉D:=λhm=>by
    have⟨od,g1,e,g2,g3,g4⟩:=hD j hm;rw[hoj]at g1;cases g1;rcases g4 with g4 |g4
    ·exact hnot e g2 g3 g4
    ·exact hnl _ (hDu _ g4) e g2 g3 rfl
   have⟨hap,hfp⟩:=hfree j oj hoj hji hjun Lz hnot;have h2:=amv hi hoj hap hfp hy h1
   have hfree':∀k ok,al[k]? =some ok->k≠i->(listed.setIfInBounds j true).getD k true=false->k∉D->
    (∀ e∈ok.after,Region.binds md e=true->e.on≠i)->oi.apart al ok=true/\xC c7 i k=true:=λk ok hk hki hun hkD hno=>by
    refine hfree k ok hk hki ?_ hkD hno;by_cases hjk:j=k
    ·subst hjk;exact hjun
    ·rw[getD_set_ne true hjk]at hun;exact hun
   have Tl:∀d∈D,(listed.setIfInBounds j true).getD d true=false:=λd hd=>by
    have hne:j≠d:=λe=>Lz (by rw[e];exact hd);rw[getD_set_ne true hne];exact hDu d hd
   refine akp (λ σ' h3=>ih (listed.setIfInBounds j true) σ' Tl hfree' (ready_mono hr (Ne.symm hji)) h3.1 cM ?_) h2;rw[Array.setIfInBounds_comm _ _ hji];exact h3.2
theorem ac3:∀(n k:Nat) (listed:Array Bool) (σ:St),lexFrom' md al c7 n k listed=true->Sj P T al c7 Q ((List.range n).map (k+ ·)) σ->DM P T al c7 md Q n listed σ
 | 0,k,listed,σ,hB,h=>⟨by simpa[lexFrom']using hB,by simpa[Sj]using h⟩
 |n+1,k,listed,σ,hB,h=>by
  simp only[lexFrom',aK]at hB;obtain⟨⟨hr,hfp⟩,hB'⟩:=hB;rw[List.range_succ_eq_map,aF,map_map]at h;simp only[Sj,Nat.add_zero]at h;obtain⟨o,ab,h1,h2,h3,h4⟩:=h;have fin:DM P T al c7 md Q n (listed.setIfInBounds k true) (σ.app o.dst ab)->DM P T al c7 md Q (n+1) listed σ:=by
   intro H;cases hd:(Pm md al k).all λd=>!listed.getD d true with
   |true=>
    refine Vk (Pm md al k) h1 ac2 n listed σ (λ d hd'=>by simpa using all_eq_true.1 hd d hd') (λ j oj hj hne hun Lz hno=>?_) (by simpa using hr) h2 h3 H;rcases Ri h1 hfp j oj hj hne hun hno with h |h
    ·exact h
    ·simp only[NX,aK,List.contains_iff_mem]at h;exact absurd h.1 Lz
   |false=>
    refine Vk [] h1 (λ d hd'=>by simp at hd') n listed σ (λ d hd'=>by simp at hd') (λ j oj hj hne hun _ hno=>?_) (by simpa using hr) h2 h3 H;rcases Ri h1 hfp j oj hj hne hun hno with h |h
    ·exact h
    ·simp only[NX,aK]at h;rw[h.2]at hd;cases hd
  refine fin ?_;refine ac3 n (k+1) _ _ hB' ?_;have e:(λ x=>k+x)∘Nat.succ=λx=>k+1+x:=by funext x;simp only[Function.comp];omega
  rw[e]at h4;exact h4
end
def eI(P:Program)(β:Nat->Option cL)(w:World)(I:Nat->Prop)(x:AV)(ok:Option Bool)(v:Value):Prop:=
 match ok with
 |none=>VR P β w I x v
 |some b=>(b=true->VR P β w I x v)/\(b=false->v=undef)
theorem eI.mono{P:Program}{β β':Nat->Option cL}{w w':World}{I I':Nat->Prop}(hb:∀k B,β k=some B->β' k=some B)(hs:Same I w w')(hi:∀b,I b->I' b){x:AV}{ok:Option Bool}{v:Value}(h:eI P β w I x ok v):eI P β' w' I' x ok v:=by
 cases ok with
 |none=>exact VR.mono hb hs hi _ _ h
 |some b=>exact⟨λ hh=>VR.mono hb hs hi _ _ (h.1 hh),h.2⟩
structure Rel(P:Program)(w0:World)(O0:j8)(N:Nat)(β:Nat->Option cL)(I:Nat->Prop)(σ:St)(a:Act)(w:World):Prop where
 defers:a.defers=[]
 size:a.tmps.size=N
 env:∀t,eI P β w I (σ.env t) (σ.ok t) (a.tmps.getD t undef)
 mem:Mem P w0 O0 β I σ.obj w
section
variable {P:Program} {T:ea} {w0:World} {O0:j8} {N:Nat} {β:Nat->Option cL} {I:Nat->Prop} {σ:St} {a:Act} {w:World} {al:Array Oper} {c7:Nat->mT}
def Fr(un:Nat->Prop)(β:Nat->Option cL):Prop:=∀i k,un i->ij (cJ i) k->β k=none
theorem aa3(hgv:i7 w I){x:Operand}(h:∀t,x= .tmp t->VR P β w I (σ.env t) (a.tmps.getD t undef)):VR P β w I (ll σ.env x) (a.eval x):=by
 cases x with
 |tmp t=>exact h t rfl
 |const v=>exact VR.cv
 |global g=>
  simp only[ll];split
  ·rename_i row hg;simp only[VR,Act.eval];exact⟨g,0,rfl,(hgv.1 g row hg).1,(hgv.1 g row hg).2⟩
  ·simp[VR]
 |func f=>simp only[ll,VR,Act.eval];exact⟨#[],#[],rfl,by simp[bj],by simp[bj]⟩
theorem zV(hr:Rel P w0 O0 N β I σ a w){x:Operand}(h:∀p∈xq σ.ok x,p):VR P β w I (ll σ.env x) (a.eval x):=by
 refine aa3 hr.mem.vars λt hx=>?_;subst hx;have h1:=hr.env t;simp only[xq]at h;cases hk:σ.ok t with
 |none=>rw[hk]at h1;exact h1
 |some b=>rw[hk]at h1 h;exact h1.1 (h _ (by simp))
theorem afB(hT:eY P T){i:Nat}{o:Oper}{cx:i8}{rd:List Nat}{ab:Out}(hr:Rel P w0 O0 N β I σ a w)(hn:∀k,ij (cJ i) k->β k=none)(ha:jC P T i o cx (ll σ.env) (dI rd σ.obj)=some ab)
 (cM:ab.ob) (hnd:∀p∈needs σ.env σ.ok o.op,p):sm P w0 O0 β I σ.obj w i ab ((execOp a.eval o).run P w)\/zU P w0 O0 β I σ.obj w i ab ((execOp a.eval o).run P w):=by
 have hg:∀k ob,dI rd σ.obj k=some ob->σ.obj k=some ob:=λk ob hk=>by
  simp only[dI]at hk;split at hk
  ·exact hk
  ·cases hk
 by_cases hp:∃c x y,o.op= .pick c x y
 ·obtain⟨c,x,y,he⟩:=hp;obtain⟨dst,op,ty,ao,after,guard⟩:=o;simp only at he;subst he;have ha:qa T i ⟨dst,.pick c x y,ty,ao,after,guard⟩ cx (ll σ.env) (dI rd σ.obj)=some ab:=by
   unfold jC at ha;split at ha
   ·cases ha
   ·cases ha
   ·exact ha
  simp only[qa]at ha;simp only[needs]at hnd;split at ha
  ·rename_i t hc;rw[hc]at hnd;simp only[pv,aA]at ha;subst ha;have h1:=zV hr (x:=c) (λ p hp=>hnd p (by simp[hp]));rw[hc]at h1;simp only[VR,TR]at h1;refine .inl ⟨if t then a.eval x else a.eval y,w,β,I,.inl ?_,Step.refl ..,hr.mem,?_⟩
   ·simp only[execOp,h1.1,asBool];simp
   ·rw[UQ];cases t
    ·exact zV hr λp hp=>hnd (false=false->p) (by simp only[bf,mem_map];exact .inr (.inr ⟨p,hp,rfl⟩)) rfl
    ·exact zV hr λp hp=>hnd (true=true->p) (by simp only[bf,mem_map];exact .inr (.inl ⟨p,hp,rfl⟩)) rfl
  ·cases ha
 ·have hnd':∀x∈o.op.operands,∀p∈xq σ.ok x,p:=λx hx p hp'=>hnd p (by
   unfold needs;split
   ·rename_i c x y he;exact absurd ⟨c,x,y,he⟩ hp
   ·exact mem_flatMap.2 ⟨x,by simpa using hx,hp'⟩)
  have hρ:∀x,VR P β w I ((λ x=>open Classical in if x∈o.op.operands then ll σ.env x else .undef) x) (a.eval x):=λx=>by
   by_cases hx:x∈o.op.operands
   ·simp only[hx,if_true];exact zV hr (hnd' x hx)
   ·simp only[hx,if_false,VR]
  rw[Mt (ρ':=λx=>open Classical in if x∈o.op.operands then ll σ.env x else .undef) (λ x hx=>by simp only[hx,if_true])]at ha;generalize (λ x=>open Classical in if x∈o.op.operands then ll σ.env x else AV.undef)=ρ at ha hρ;unfold jC at ha;split at ha
  ·exact .inl (YD hT hr.mem (hn _ (.inl rfl)) hg hρ ha cM)
  ·exact .inl (aaX hT hr.mem (hn _ (.inl rfl)) hg hρ ha cM)
  ·split at ha
   ·rename_i f args cQ heq;obtain⟨dst,op,ty,ao,after,guard⟩:=o;simp only at heq;subst heq;exact .inr (Vj hr.mem hn hg ha cM (hρ f) (by rw[Array.toList_map];exact bj.map hρ _) rfl rfl)
   ·exact .inl (Q7 hT hr.mem (hn _ (.inl rfl)) hg hρ ha cM)
theorem aiG(hr:Rel P w0 O0 N β I σ a w){o:Oper}{b:Bool}(hb:want al o σ.env σ.ok=some b):Region.wanted o (yielded al a.tmps)=b:=by
 unfold want at hb;unfold Region.wanted;cases hg:o.guard with
 |none=>simp only[hg,aA]at hb ⊢;exact hb
 |some gw=>
  obtain⟨g,bw⟩:=gw;simp only[hg]at hb ⊢;unfold yielded;cases ht:(al[g]?).bind (·.dst)with
  |none=>simp[ht]at hb
  |some t=>
   simp only[ht]at hb;have he:=hr.env t;have val:∀v:Bool,a.tmps.getD t undef= .bool v->a.tmps[t]? =some (.bool v):=λv hv=>by
    cases hh:a.tmps[t]? with
    |none=>simp[hh,undef]at hv
    |some u=>simp[hh]at hv;rw[hv]
   split at hb
   ·rename_i v e1 e2;rw[e1,e2]at he;simp only[eI,VR,TR]at he;cases hb;simp only[af,val v he.1];cases v<;>cases bw<;>rfl
   ·rename_i v q e1 e2;rw[e1,e2]at he;simp only[eI,VR,TR]at he;cases hb;cases q with
    |true=>
     simp only[af,val v (he.1 rfl).1];cases v<;>cases bw<;>rfl
    |false=>
     have h0:=he.2 rfl;simp only[af];cases hh:a.tmps[t]? with
     |none=>simp
     |some u=>simp[hh,undef]at h0;subst h0;simp
   ·rename_i e1 e2;rw[e1,e2]at he;cases hb;have h0:=he.2 rfl;simp only[af];cases hh:a.tmps[t]? with
    |none=>simp
    |some u=>simp[hh,undef]at h0;subst h0;simp
   ·cases hb
theorem Mv:∀(l:List Prop),jq l->∀p∈l,p
 |[],_,_,hp=>by simp at hp
 |[q],h,p,hp=>by rw[aW]at hp;rw[hp];exact h
 |q::r::l,h,p,hp=>by
  rcases aN.1 hp with e |hp
  ·rw[e];exact h.1
  ·exact Mv (r::l) h.2 p hp
theorem Rj(hT:eY P T){i:Nat}{K:St->Prop}{Q:Exit->Act->World->Prop}{K':Act->World->Prop}{un:Nat->Prop}(hd:∀(j:Nat)(o:Oper)(d:Tmp),al[j]? =some o->o.dst=some d->d<N)
 (hr:Rel P w0 O0 N β I σ a w) (hf:Fr un β) (hi:un i)
 (hK:∀ σ' a' w' β' I',Rel P w0 O0 N β' I' σ' a' w'->Fr (λ j=>un j/\j≠i) β'->K σ'->K' a' w') (h:xp P T al c7 i K σ):wpOp P al Q i K' a w:=by
 obtain⟨o,⟨ab,PQ⟩,h1,h2,h3,h4⟩:=h;have put:∀(v':Value) (w':World) (β':Nat->Option cL) (I':Nat->Prop),Step β I w (cJ i) β' I' w'->Mem P w0 O0 β' I' (cO σ.obj ab.upd) w'->eI P β' w' I' ab.v PQ v'->K' (a.put o.dst v') w':=by
  intro v' w' β' I' k1 k2 k3;refine hK (σ.app o.dst (ab,PQ)) _ w' β' I' ⟨?_,?_,?_,k2⟩ ?_ h4
  ·cases hdst:o.dst<;>simp[Act.put,hr.defers]
  ·cases hdst:o.dst<;>simp[Act.put,hr.size]
  ·intro t;have hold:=eI.mono k1.ext k1.same k1.inc (hr.env t);simp only[St.app,AP];cases hdst:o.dst with
   |none=>simpa[Act.put]using hold
   |some d=>
    simp only[Act.put,aA];by_cases hdt:d=t
    ·subst hdt;rw[aX rfl,aX rfl];have hlt:d<a.tmps.size:=Nat.lt_of_lt_of_eq (hd i o d h1 hdst) hr.size.symm;have e:(a.tmps.setIfInBounds d v').getD d undef=v':=(by simp[hlt]);rw[e];exact k3
    ·rw[aQ hdt,aQ hdt];simpa[Array.getElem?_setIfInBounds_ne hdt]using hold
  ·intro j k hj hk;rw[k1.other k (by have:=hj.2;simp only[ij,cJ]at hk ⊢;omega)];exact hf j k hj.1 hk
 unfold opAt at h2;simp only[h1,af]at h2;unfold wpOp;simp only[h1];have hn:=λk=>hf i k hi;cases hw:want al o σ.env σ.ok with
 |none=>simp[hw]at h2
 |some g=>
  simp only[hw,af]at h2;rw[aiG hr hw]
  have run:∀(out':Out),jC P T i o (c7 i).cx (ll σ.env) (dI (c7 i).rd σ.obj)=some out'->(∀ p∈needs σ.env σ.ok o.op++out'.obs,p)->out'.v=ab.v->(out'.upd=ab.upd)->(∀ β' w' I' v',VR P β' w' I' ab.v v'->eI P β' w' I' ab.v PQ v')->
   o.wp P a w K' Q:=by
   intro out' ha cM e1 e2 sf;have To:=afB hT hr hn ha (qR _ λp hp=>cM p (by simp[hp])) (λ p hp=>cM p (by simp[hp]));unfold Oper.wp;rcases To with ⟨v',w',β',I',hrun,k1,k2,k3⟩ |⟨F,args,hrun,BE⟩
   ·rw[e1]at k3;rw[e2]at k2;rcases hrun with hrun |⟨hrun,rfl⟩
    ·rw[hrun];exact put v' w' β' I' k1 k2 (sf _ _ _ _ k3)
    ·rw[hrun];exact put _ w' β' I' k1 k2 (sf _ _ _ _ k3)
   ·rw[hrun];refine BE.mono ?_;rintro e w' ⟨v',β',I',rfl,k1,k2,k3⟩;rw[e1]at k3;rw[e2]at k2;exact put v' w' β' I' k1 k2 (sf _ _ _ _ k3)
  split at h2
  ·cases ha:jC P T i o (c7 i).cx (ll σ.env) (dI (c7 i).rd σ.obj)with
   |none=>simp[ha]at h2
   |some out'=>
    simp only[ha,af]at h2;split at h2
    ·rename_i hem;simp only[aA,Prod.mk.injEq]at h2;obtain⟨rfl,rfl⟩:=h2;have By:out'.upd=[]:=(by simpa using hem);have h3:=Mv _ h3;cases g with
     |true=>
      simp only[if_true];refine .inl (run out' ha (λ p hp=>h3 (true=true->p) (mem_map.2 ⟨p,hp,rfl⟩) rfl) rfl By λ_ _ _ _ hv=>⟨λ _=>hv,λh=>by cases h⟩)
     |false=>
      simp only[Bool.false_eq_true,if_false];exact put _ w β I (Step.refl ..) hr.mem ⟨λ h=>(by cases h),λ_=>rfl⟩
    ·cases h2
  ·split at h2
   ·cases ha:jC P T i o (c7 i).cx (ll σ.env) (dI (c7 i).rd σ.obj)with
    |none=>simp[ha]at h2
    |some out'=>
     simp only[ha,af]at h2;split at h2
     ·simp only[aA,Prod.mk.injEq]at h2;obtain⟨rfl,rfl⟩:=h2;simp only[if_true];exact .inl (run out' ha (Mv _ h3) rfl rfl λ_ _ _ _ hv=>hv)
     ·cases h2
   ·simp only[aA,Prod.mk.injEq]at h2;obtain⟨rfl,rfl⟩:=h2;simp only[Bool.false_eq_true,if_false];exact put _ w β I (Step.refl ..) hr.mem ⟨λ h=>(by cases h),λ_=>rfl⟩
theorem Kq(hT:eY P T){md:Region.Mode}{Q:St->Prop}{Q':Exit->Act->World->Prop}(hd:∀(j:Nat)(o:Oper)(d:Tmp),al[j]? =some o->o.dst=some d->d<N)
 (hQ:∀ σ a w β I,Rel P w0 O0 N β I σ a w->Q σ->Q' .normal a w):∀(fuel:Nat) (listed:Array Bool) (σ:St) (a:Act) (w:World) (β:Nat->Option cL) (I:Nat->Prop),Rel P w0 O0 N β I σ a w->
  Fr (λ j=>listed.getD j true=false) β->DM P T al c7 md Q fuel listed σ->wpAny P md al Q' fuel listed a w
 | 0,_,_,_,_,_,_,hr,_,h=>⟨h.1,hQ _ _ _ _ _ hr h.2⟩
 |fuel+1,listed,σ,a,w,β,I,hr,hf,h=>by
  refine⟨λ h0=>hQ _ _ _ _ _ hr (h.1 h0),λi hi=>?_⟩;have hun:listed.getD i true=false:=(mem_ready.1 hi).1;refine Rj hT hd hr hf hun (λ σ' a' w' β' I' hr' hf' hK=>?_) (h.2 i hi);refine Kq hT hd hQ fuel _ σ' a' w' β' I' hr' (λ j k hj hk=>hf' j k ?_ hk) hK;have hj:(listed.setIfInBounds i true).getD j true=false:=hj;by_cases hji:i=j
  ·subst hji;rcases Nat.lt_or_ge i listed.size with h1 |h1
   ·simp[h1]at hj
   ·simp[Array.getElem?_eq_none h1]at hun
  ·rw[getD_set_ne true hji]at hj;exact⟨hj,λe=>hji e.symm⟩
theorem Kr(hT:eY P T){Q:St->Prop}{Q':Exit->Act->World->Prop}(hd:∀(j:Nat)(o:Oper)(d:Tmp),al[j]? =some o->o.dst=some d->d<N)
 (hQ:∀ σ a w β I,Rel P w0 O0 N β I σ a w->Q σ->Q' .normal a w):∀(l:List Nat) (σ:St) (a:Act) (w:World) (β:Nat->Option cL) (I:Nat->Prop),l.Nodup->Rel P w0 O0 N β I σ a w->
  Fr (λ j=>j∈l) β->Sj P T al c7 Q l σ->wpOps P al Q' l a w
 |[],_,_,_,_,_,_,hr,_,h=>hQ _ _ _ _ _ hr h
 |i::l,σ,a,w,β,I,hn,hr,hf,h=>by
  rw[wpOps_cons];refine Rj hT hd hr hf (by simp) (λ σ' a' w' β' I' hr' hf' hK=>?_) h;refine Kr hT hd hQ l σ' a' w' β' I' (List.nodup_cons.1 hn).2 hr' (λ j k hj hk=>hf' j k ⟨by simp[hj],λe=>?_⟩ hk) hK;subst e;exact(List.nodup_cons.1 hn).1 hj
def Pi(N:Nat)(al:Array Oper):Bool:=al.all λo=>match o.dst with |some d=>decide (d<N) |none=>true
theorem Rk(h:Pi N al=true)(j:Nat)(o:Oper)(d:Tmp)(hj:al[j]? =some o)(hd:o.dst=some d):d<N:=by
 have:=Array.all_eq_true_iff_forall_mem.1 h o (Array.mem_of_getElem? hj);simpa[hd]using this
structure tB(σ:St):Prop where
 env:∀t k,k∈refs (σ.env t)->k<1000000
 obj:∀k o,σ.obj k=some o->k<1000000/\∀r∈o.rows,∀x∈r,∀j∈refs x,j<1000000
mutual
theorem VR.restrict{β':Nat->Option cL}(h:∀k,k<1000000->β' k=β k):∀(x:AV)(v:Value),(∀ k∈refs x,k<1000000)->VR P β w I x v->VR P β' w I x v
 | .t _,_,_,hv=>by simpa[VR]using hv
 | .agg cs,_,hk,hv=>by
  simp only[VR]at hv ⊢;obtain⟨vs,h1,h2⟩:=hv;exact⟨vs,h1,bj.restrict h cs _ (by simpa[refs]using hk) h2⟩
 | .ez cs,_,hk,hv=>by
  simp only[VR]at hv ⊢;obtain⟨vs,h1,h2⟩:=hv;exact⟨vs,h1,bj.restrict h cs _ (by simpa[refs]using hk) h2⟩
 | .own k _ _,_,hk,hv=>by simp only[VR,h k (hk k (by simp[refs]))]at hv ⊢;exact hv
 | .ptr k _ _,_,hk,hv=>by simp only[VR,h k (hk k (by simp[refs]))]at hv ⊢;exact hv
 | .ep _ _,_,_,hv=>by simpa[VR]using hv
 | .fn f first caps,_,hk,hv=>by
  simp only[VR]at hv ⊢;obtain⟨fs,cs,h1,h2,h3⟩:=hv;exact⟨fs,cs,h1,bj.restrict h first _ (λ k hk'=>hk k (by simp[refs,hk'])) h2,bj.restrict h caps _ (λ k hk'=>hk k (by simp[refs,hk'])) h3⟩
 | .d7 _,_,_,hv=>by simpa[VR]using hv
 | .mp k,_,hk,hv=>by simp only[VR,h k (hk k (by simp[refs]))]at hv ⊢;exact hv
 | .oz k _,_,hk,hv=>by simp only[VR,h k (hk k (by simp[refs]))]at hv ⊢;exact hv
 | .cV,_,_,hv=>by simpa[VR]using hv
 | .ub,_,_,hv=>by simpa[VR]using hv
 | .undef,_,_,_=>by simp[VR]
theorem bj.restrict{β':Nat->Option cL}(h:∀k,k<1000000->β' k=β k):∀(xs:List AV)(vs:List Value),(∀ k∈eT xs,k<1000000)->bj P β w I xs vs->bj P β' w I xs vs
 |[],[],_,_=>by simp[bj]
 |x::xs,v::vs,hk,hv=>by
  simp only[bj]at hv ⊢;exact⟨VR.restrict h x v (λ k hk'=>hk k (by simp[eT,hk'])) hv.1,bj.restrict h xs vs (λ k hk'=>hk k (by simp[eT,hk'])) hv.2⟩
 |[],_::_,_,hv=>by simp[bj]at hv
 |_::_,[],_,hv=>by simp[bj]at hv
end
theorem ZE:∀{xs:List AV}{k:Nat},k∈eT xs->∃x∈xs,k∈refs x
 |[],_,h=>by simp[eT]at h
 |x::xs,k,h=>by
  simp only[eT,bf]at h;rcases h with h |h
  ·exact⟨x,by simp,h⟩
  ·have⟨y,h1,h2⟩:=ZE h;exact⟨y,by simp[h1],h2⟩
theorem Rel.restrict(ho:tB σ)(hr:Rel P w0 O0 N β I σ a w):Rel P w0 O0 N (λ k=>if k<1000000 then β k else none) I σ a w:=by
 have hb:∀k,k<1000000->(λ k=>if k<1000000 then β k else none) k=β k:=λk hk=>by simp[hk]
 have sf:∀t,eI P (λ k=>if k<1000000 then β k else none) w I (σ.env t) (σ.ok t) (a.tmps.getD t undef):=λt=>by
  have h1:=hr.env t;cases hk:σ.ok t with
  |none=>rw[hk]at h1;exact VR.restrict hb _ _ (ho.env t) h1
  |some b=>rw[hk]at h1;exact⟨λ h=>VR.restrict hb _ _ (ho.env t) (h1.1 h),h1.2⟩
 refine⟨hr.defers,hr.size,sf,?_⟩;have hm:=hr.mem;constructor
 ·intro k o hk;have⟨B,hB,hO⟩:=hm.cE k o hk;have⟨h1,h2⟩:=ho.obj k o hk;refine⟨B,by simp only[h1,if_true];exact hB,?_⟩;cases B with
  |none=>exact hO
  | «at» b s n=>
   obtain⟨g1,c,e,g2,g3,g4⟩:=hO;refine⟨g1,c,e,g2,g3,?_⟩;rw[oh]at g4 ⊢;intro i r hir;have⟨q1,q2⟩:=g4 i r hir;refine⟨q1,?_⟩;rw[jv]at q2 ⊢;intro j x hx;have⟨v,p1,p2,p3⟩:=q2 j x hx;exact⟨v,p1,VR.restrict hb _ _ (h2 r (dm hir) x (dm hx)) p2,p3⟩
  |mp b=>
   obtain⟨es,cl,g1,gl,g2,g3⟩:=hO;refine⟨es,cl,g1,gl,λe=>cp.tell rfl (λ j r q' a b vs hv=>?_) (g2 e),g3⟩;rw[a]at b;cases b;exact bj.restrict hb _ _ (λ k hk=>by
    have⟨x,hx,hk⟩:=ZE hk;exact h2 r (dm a) x hx k hk) hv
 ·intro k k' o o' B B' b h1 h2 h3 h4;simp only[(ho.obj k o h1).1,(ho.obj k' o' h2).1,if_true]at h3 h4;exact hm.gp k k' o o' B B' b h1 h2 h3 h4
 ·intro k o B b h1 h2;simp only[(ho.obj k o h1).1,if_true]at h2;exact hm.ownB k o B b h1 h2
 ·exact hm.lt
 ·exact hm.up
 ·exact hm.keep
 ·exact hm.le
 ·exact hm.os
 ·exact hm.tape
 ·exact hm.output
 ·intro j B hj;have:=O0.lt j B hj;show(if j<1000000 then β j else none)=some B;rw[aX (by omega)];exact hm.anch j B hj
 ·exact hm.vars
theorem Rel.drew(hr:Rel P w0 O0 N β I σ a w):Rel P w0 O0 N β I σ a w.drew:=
 ⟨hr.defers,hr.size,λt=>eI.mono (w:=w) (w':=w.drew) (λ _ _ h=>h) (λ _ _=>rfl) (λ _ h=>h) (hr.env t),hr.mem.drew⟩
theorem aiH(hT:eY P T){id:Nat}{Q:St->Prop}(hd:Pi N al=true)(ho:tB σ)(h:Sj P T al c7 Q (List.range al.size) σ)(hr:Rel P w0 O0 N β I σ a w):
 (Code.region id al false).wp P (λ e a' w'=>∃ β' I' σ',Rel P w0 O0 N β' I' σ' a' w'/\e= .normal/\Q σ') a w:=by
 refine wp_region (Kr hT (Rk hd) (Q:=Q) (λ σ a w β I hr hq=>⟨β,I,σ,hr,rfl,hq⟩) _ σ a w _ I List.nodup_range (hr.restrict ho) (λ j k _ hk=>?_) h);exact aQ (by simp only[ij,cJ]at hk;omega)
theorem Vl(hT:eY P T)(hm:P.follows .mixedOrders=true){id:Nat}{Q:St->Prop}(hd:Pi N al=true)(hB:NO al c7=true)(ho:tB σ)(h:Sj P T al c7 Q (List.range al.size) σ)(hr:Rel P w0 O0 N β I σ a w):
 (Code.region id al true).wp P (λ e a' w'=>∃ β' I' σ',Rel P w0 O0 N β' I' σ' a' w'/\e= .normal/\Q σ') a w:=by
 refine wp_region_any hm (Kq hT (md:= .any) (c7:=c7) (Rk hd) (Q:=Q) (λ σ a w β I hr hq=>⟨β,I,σ,hr,rfl,hq⟩) _ _ σ a _ _ I (hr.restrict ho).drew (λ j k _ hk=>?_) ?_)
 ·exact aQ (by simp only[ij,cJ]at hk;omega)
 ·refine ac3 al.size 0 _ σ hB ?_;have e:(List.range al.size).map (λ x=>0+x)=List.range al.size:=by simp
  rw[e];exact h
end
def Ev(P:Program)(N:Nat)(c:Code)(Q:Exit->St->Prop)(σ:St):Prop:=
 ∀(w0:World) (O0:j8) (β:Nat->Option cL) (I:Nat->Prop) (a:Act) (w:World),Rel P w0 O0 N β I σ a w->tB σ->
  c.wp P (λ e a' w'=>∃ β' I' σ',Rel P w0 O0 N β' I' σ' a' w'/\tB σ'/\Q e σ') a w
def anT(K:St->Prop)(Q:Exit->St->Prop):Exit->St->Prop
 | .normal,σ=>K σ
 |e,σ=>Q e σ
def ZS(id:Nat)(Q:Exit->St->Prop):Exit->St->Prop
 | .exit j,σ=>if j=id then Q .normal σ else Q (.exit j) σ
 |e,σ=>Q e σ
theorem ZF{P:Program}{c:Code}{Q:Exit->Act->World->Prop}(J:Nat->Act->World->Prop)(h0:∀a w,¬J 0 a w)(round:∀n a w,J (n+1) a w->c.wp P (Exit.then (J n) Q) a w)(n:Nat)(a:Act)(w:World)(h:J n a w):
 (Code.loop c).wp P Q a w:=by
 intro b k cs;have key:∀n a w,J n a w->∃e a' w',Q e a' w'/\Arrives P (lone (b.at a (.code c:: .inLoop c::k)) cs w) b k cs e a' w':=by
  intro n
  induction n with
  |zero=>intro a w h;exact(h0 a w h).elim
  |succ n ih=>
   intro a w hI;have⟨e,a₁,w₁,hq,harr⟩:=round n a w hI b (.inLoop c::k) cs;cases e with
   |normal=>
    have⟨e₂,a₂,w₂,hq₂,harr₂⟩:=ih a₁ w₁ hq;exact⟨e₂,a₂,w₂,hq₂,.of_steps (Steps.trans harr (.one step_inLoop)) harr₂⟩
   |exit id=>exact⟨_,a₁,w₁,hq,.pass (x:= .inLoop c) rfl (λ _ _=> .inl (by simp)) harr⟩
   |goto l=>exact⟨_,a₁,w₁,hq,.pass (x:= .inLoop c) rfl (λ _ _=> .inl (by simp)) harr⟩
   |ret=>exact⟨_,a₁,w₁,hq,.pass (x:= .inLoop c) rfl (λ _ _=> .inl (by simp)) harr⟩
   |panic ch=>exact⟨_,a₁,w₁,hq,.pass (x:= .inLoop c) rfl (λ _ _=> .inl (by simp)) harr⟩
   |outgrown=>exact⟨_,a₁,w₁,hq,.pass (x:= .inLoop c) rfl (λ _ _=> .inl (by simp)) harr⟩
 have⟨e,a',w',hq,harr⟩:=key n a w h;exact⟨e,a',w',hq,.of_steps (.one step_loop) harr⟩
section
variable {P:Program} {N:Nat} {Q:Exit->St->Prop} {σ:St}
theorem Ev.mono{c:Code}{Q':Exit->St->Prop}(h:Ev P N c Q σ)(hq:∀e σ,Q e σ->Q' e σ):Ev P N c Q' σ:=
 λw0 O0 β I a w hr ho=>wp_mono (h w0 O0 β I a w hr ho) λ_ _ _ ⟨β',I',σ',h1,h2,h3⟩=>⟨β',I',σ',h1,h2,hq _ _ h3⟩
theorem amw(h:Q .normal σ):Ev P N .skip Q σ:=λ_ _ β I _ _ hr ho=>wp_skip ⟨β,I,σ,hr,ho,h⟩
theorem amx{id:Nat}(h:Q (.exit id) σ):Ev P N (.exit id) Q σ:=λ_ _ β I _ _ hr ho=>wp_exit ⟨β,I,σ,hr,ho,h⟩
theorem an9(h:Q .ret σ):Ev P N .ret Q σ:=λ_ _ β I _ _ hr ho=>wp_ret ⟨β,I,σ,hr,ho,h⟩
theorem akr{l:Nat}(h:Q .normal σ):Ev P N (.label l) Q σ:=λ_ _ β I _ _ hr ho=>wp_label ⟨β,I,σ,hr,ho,h⟩
theorem aoa{x y:Code}(h:Ev P N x (anT (Ev P N y Q) Q) σ):Ev P N (.seq x y) Q σ:=by
 intro w0 O0 β I a w hr ho;refine wp_seq (wp_mono (h w0 O0 β I a w hr ho) ?_);rintro e a' w' ⟨β',I',σ',h1,h2,h3⟩;cases e<;>first |exact h3 w0 O0 β' I' a' w' h1 h2 |exact⟨β',I',σ',h1,h2,h3⟩
theorem amy{c:Operand}{x y:Code}(b:Bool)(hk:∀t,c= .tmp t->σ.ok t=none)(hc:ll σ.env c= .t (.sc (.bool b)))(h:Ev P N (bif b then x else y) Q σ):Ev P N (.cond c x y) Q σ:=by
 intro w0 O0 β I a w hr ho;have h1:=aa3 (P:=P) (β:=β) (w:=w) (I:=I) (σ:=σ) (a:=a) (x:=c) hr.mem.vars (λ t ht=>by
  have h1:=hr.env t;rw[hk t ht]at h1;exact h1)
 rw[hc]at h1;simp only[VR,TR]at h1;refine wp_cond (t:=b) h1.1 ?_;cases b<;>exact h w0 O0 β I a w hr ho
theorem afD{c:Operand}{x y:Code}(hk:∀t,c= .tmp t->σ.ok t=none)(hc:ll σ.env c= .ub)(h1:Ev P N x Q σ)(h2:Ev P N y Q σ):Ev P N (.cond c x y) Q σ:=by
 intro w0 O0 β I a w hr ho;have h3:=aa3 (P:=P) (β:=β) (w:=w) (I:=I) (σ:=σ) (a:=a) (x:=c) hr.mem.vars (λ t ht=>by
  have h1:=hr.env t;rw[hk t ht]at h1;exact h1)
 rw[hc]at h3;simp only[VR]at h3;obtain⟨b,hb⟩:=h3;refine wp_cond (t:=b) hb ?_;cases b
 ·exact h2 w0 O0 β I a w hr ho
 ·exact h1 w0 O0 β I a w hr ho
theorem aks{id:Nat}{c:Code}(h:Ev P N c (ZS id Q) σ):Ev P N (.block id c) Q σ:=by
 intro w0 O0 β I a w hr ho;refine wp_block (wp_mono (h w0 O0 β I a w hr ho) ?_);rintro e a' w' ⟨β',I',σ',h1,h2,h3⟩;cases e with
 |exit j=>
  simp only[ZS]at h3;simp only[Exit.inBlock];split
  ·rw[aX ‹_›]at h3;exact⟨β',I',σ',h1,h2,h3⟩
  ·rw[aQ ‹_›]at h3;exact⟨β',I',σ',h1,h2,h3⟩
 |_=>exact⟨β',I',σ',h1,h2,h3⟩
theorem amz{c:Code}(J:Nat->St->Prop)(h0:∀ σ,¬J 0 σ)(round:∀n σ,J (n+1) σ->Ev P N c (anT (J n) Q) σ)(n:Nat)(h:J n σ):Ev P N (.loop c) Q σ:=by
 intro w0 O0 β I a w hr ho;refine ZF (λ n a w=>∃ β I σ,Rel P w0 O0 N β I σ a w/\tB σ/\J n σ) (λ a w ⟨_,_,σ,_,_,h⟩=>h0 σ h) ?_ n a w ⟨β,I,σ,hr,ho,h⟩;rintro n a w ⟨β,I,σ,hr,ho,hJ⟩;refine wp_mono (round n σ hJ w0 O0 β I a w hr ho) ?_;rintro e a' w' ⟨β',I',σ',h1,h2,h3⟩;cases e<;>exact⟨β',I',σ',h1,h2,h3⟩
end
def lk{α:Type}:List (Nat×α)->Nat->Option α
 |[],_=>none
 |(j,x)::r,k=>if j=k then some x else lk r k
structure rx where
 env:List (Nat×AV)
 cE:List (Nat×aR)
def rx.st(L:rx):St:=⟨λ t=>(lk L.env t).getD .undef,λk=>lk L.cE k,λ_=>none⟩
theorem rD{α:Type}:∀{l:List (Nat×α)}{k:Nat}{x:α},lk l k=some x->(k,x)∈l
 |(j,y)::r,k,x,h=>by
  simp only[lk]at h;split at h
  ·cases h;rename_i e;subst e;simp
  ·exact eG _ (rD h)
theorem uU{α:Type}:∀{l:List (Nat×α)}{k:Nat}{x:α},(l.map (·.1)).Nodup->(k,x)∈l->lk l k=some x
 |(j,y)::r,k,x,hn,h=>by
  simp only[aF,List.nodup_cons]at hn;simp only[lk];rcases aN.1 h with h |h
  ·injection h with h1 h2;subst h1;subst h2;simp
  ·have hne:k≠j:=λe=>hn.1 (mem_map.2 ⟨(k,x),h,e⟩);rw[aQ (Ne.symm hne)];exact uU hn.2 h
open Go.RowKit Go.MapKept
structure RgI where
 x:Operand
 t:TypeId
 a0:Nat
 it:Nat
 nn:Nat
 b:Nat
 e:Nat
 xx:Nat
 kv:Nat
 j:Nat
 j2:Nat
 body:Code
section
variable {P:Program} {w0:World} {O0:j8} {N:Nat} {β:Nat->Option cL} {I:Nat->Prop} {σ:St} {a:Act} {w:World}
def St.put(σ:St)(d:Nat)(x:AV):St:=⟨AP σ.env (some d) x,σ.obj,AP σ.ok (some d) none⟩
theorem Rel.put(hr:Rel P w0 O0 N β I σ a w){d:Nat}(hd:d<N){x:AV}{v:Value}(hv:VR P β w I x v):Rel P w0 O0 N β I (σ.put d x) (a.put (some d) v) w:=by
 refine⟨by simpa[Act.put]using hr.defers,by simpa[Act.put]using hr.size,λt=>?_,hr.mem⟩;have hold:=hr.env t;simp only[St.put,AP,Act.put,aA];by_cases hdt:d=t
 ·subst hdt;rw[aX rfl,aX rfl];have e:(a.tmps.setIfInBounds d v).getD d undef=v:=by simp[Nat.lt_of_lt_of_eq hd hr.size.symm]
  rw[e];exact hv
 ·rw[aQ hdt,aQ hdt];simpa[Array.getElem?_setIfInBounds_ne hdt]using hold
structure tc(β:Nat->Option cL)(I:Nat->Prop)(obj:Nat->Option aR)(w:World)(r:Nat):Prop where
 lt:r<w.heap.size
 Hj:¬I r
 obj:∀k o,obj k=some o->¬fg β k r
theorem Rel.world{w':World}(hr:Rel P w0 O0 N β I σ a w)(hs:Same I w w')(hm:Mem P w0 O0 β I σ.obj w'):Rel P w0 O0 N β I σ a w':=
 ⟨hr.defers,hr.size,λt=>eI.mono (λ _ _ h=>h) hs (λ _ h=>h) (hr.env t),hm⟩
end
def kept(os':List (Option eZ))(j:Nat):Prop:=∃p,os'[j]? =some (some p)
def Po(get:Nat->Option aR)(fk:Option Nat)(os':List (Option eZ)):AV->Tree->Prop
 | .t x,y=>y=x
 | .cV,y=>y= .sl []
 | .oz k len,y=>fk≠some k/\¬kept os' k/\∃o df,get k=some o/\(o.rows.drop 0).take len=aI df/\df.length=len/\y= .sl df
 | .own k aa len,y=>fk≠some k/\¬kept os' k/\∃o df,get k=some o/\(o.rows.drop aa).take len=aI df/\df.length=len/\y= .sl df
 |_,_=>False
def k8(get:Nat->Option aR)(fk:Option Nat)(os':List (Option eZ)):List AV->List Tree->Prop
 |[],[]=>True
 |x::xs,y::ys=>Po get fk os' x y/\k8 get fk os' xs ys
 |_,_=>False
def ek(get:Nat->Option aR)(fk:Option Nat)(os':List (Option eZ)):List (List AV)->List (List Tree)->Prop
 |[],[]=>True
 |x::xs,y::ys=>k8 get fk os' x y/\ek get fk os' xs ys
 |_,_=>False
def Fm(get:Nat->Option aR)(fk:Option Nat)(os':List (Option eZ)):AV->RC->Prop
 | .agg cs,.d (.a ts)=>k8 get fk os' cs ts
 |x,.d (.s y)=>Po get fk os' x y
 | .cV,.fresh _ rows=>rows=[]
 | .own k aa len,.fresh sz rows=>fk=some k/\¬kept os' k/\aa=0/\∃o,get k=some o/\o.sz=sz/\ek get fk os' (o.rows.take len) rows/\rows.length=len
 | .own k aa len,.whole j len'=>k=j/\aa=0/\len'=len/\kept os' j
 |_,_=>False
def nj(get:Nat->Option aR)(fk:Option Nat)(os':List (Option eZ)):List AV->List RC->Prop
 |[],[]=>True
 |x::xs,c::cs=>Fm get fk os' x c/\nj get fk os' xs cs
 |_,_=>False
def Fl(get:Nat->Option aR)(fk:Option Nat)(os':List (Option eZ)):List AV->RV->Prop
 |[x],.one c=>Fm get fk os' x c
 |x::y::r,.ez cs=>nj get fk os' (x::y::r) cs
 |[],.ez cs=>cs=[]
 |_,_=>False
def Mu(get:Nat->Option aR)(fk:Option Nat)(os':List (Option eZ)):Prop:=
 ∀(j:Nat) p,os'[j]? =some (some p)->fk≠some j/\∃o,get j=some o/\o.sz=p.1/\ek get fk os' (o.rows.take p.2.length) p.2
def Uo(T:ea)(t:TypeId)(x:AV)(obj:Nat->Option aR):Option Out:=
 Kl T t x .none obj
def Pp(T:ea)(σ:St):ResultVar->Option AV
 | .tmp t=>match σ.ok t with
  |none=>some (σ.env t)
  |some _=>none
 | .cell a t=>match σ.ok a with
  |none=>match Uo T t (σ.env a) σ.obj with
   |some ⟨v,[],[]⟩=>some v
   |_=>none
  |some _=>none
def nk(T:ea)(σ:St):List ResultVar->Option (List AV)
 |[]=>some []
 |r::rs=>(Pp T σ r).bind λv=>(nk T σ rs).bind λvs=>some (v::vs)
def Vm(tmps:Array Value):ResultVar->Sem Value
 | .tmp t=>pure (tmps.getD t undef)
 | .cell a t=>do loadVar t (<- asAddr (tmps.getD a undef))
theorem Vn(fn:Func)(tmps:Array Value):results fn tmps=(fn.results.mapM (Vm tmps))>>=λvs=>pure (if h:vs.size=1 then vs[0]else .tuple vs):=by
 unfold results;congr 2
def aph(T:ea)(rs:List ResultVar)(rv:RV)(os':List (Option eZ)):Exit->St->Prop
 | .normal,σ=>∃xs fk,nk T σ rs=some xs/\Fl σ.obj fk os' xs rv/\Mu σ.obj fk os'
 | .ret,σ=>∃xs fk,nk T σ rs=some xs/\Fl σ.obj fk os' xs rv/\Mu σ.obj fk os'
 |_,_=>False
section
variable {P:Program} {T:ea} {w0:World} {O0:j8} {N:Nat} {β:Nat->Option cL} {I:Nat->Prop} {σ:St} {a:Act} {w:World}
theorem aa5(hT:eY P T)(hr:Rel P w0 O0 N β I σ a w){r:ResultVar}{x:AV}(h:Pp T σ r=some x):
 ∃v,(Vm a.tmps r).run P w= .ok v w/\VR P β w I x v:=by
 cases r with
 |tmp t=>
  simp only[Pp]at h;have h1:=hr.env t;cases hk:σ.ok t with
  |some b=>rw[hk]at h;cases h
  |none=>
   rw[hk]at h h1;cases h;exact⟨_,by simp[Vm],h1⟩
 |cell ad t=>
  simp only[Pp]at h;have hx:=hr.env ad;cases hk:σ.ok ad with
  |some b=>rw[hk]at h;cases h
  |none=>
  rw[hk]at h hx;simp only at h;have hx:VR P β w I (σ.env ad) (a.tmps.getD ad undef):=hx;split at h
  ·rename_i v hl;injection h with h;subst h;obtain⟨u,h1,h2⟩:∃u,(Instr.loadAt t (a.tmps.getD ad undef)).run P w= .ok u w/\VR P β w I v u:=by
    obtain⟨u,h1,h2,_⟩:=Q6 hT hr.mem (λ _ _ h=>h) hl trivial hx;exact⟨u,h1,h2⟩
   refine⟨u,?_,h2⟩;have hp:∃p,a.tmps.getD ad undef= .pointer (some p):=by
    unfold Uo at hl;unfold Kl at hl;cases hti:T t with
    |none=>simp[hti]at hl
    |some ti=>
     simp only[hti,af]at hl;split at hl
     ·rename_i heq;rw[heq]at hx;simp only[VR]at hx;obtain⟨b,sz,n,_,h⟩:=hx;exact⟨_,h⟩
     ·rename_i heq;rw[heq]at hx;simp only[VR]at hx;obtain⟨b,o,h,_⟩:=hx;exact⟨_,h⟩
     ·cases hl
   obtain⟨p,hp⟩:=hp;rw[hp]at h1;simp only[Instr.loadAt,Instr.sureAddr,Sem.run_bind,Sem.run_pure,Result.andThen_ok]at h1;simp only[Vm,hp,asAddr,Sem.run_bind,Sem.run_pure,Result.andThen_ok];exact h1
  ·cases h
theorem AQ(hT:eY P T)(hr:Rel P w0 O0 N β I σ a w):∀(rs:List ResultVar)(xs:List AV),nk T σ rs=some xs->
 ∃vs,(rs.mapM (Vm a.tmps)).run P w= .ok vs w/\bj P β w I xs vs
 |[],xs,h=>by simp only[nk,aA]at h;subst h;exact⟨[],by simp,by simp[bj]⟩
 |r::rs,xs,h=>by
  simp only[nk]at h;cases h1:Pp T σ r with
  |none=>simp[h1]at h
  |some x=>
   cases h2:nk T σ rs with
   |none=>simp[h1,h2]at h
   |some ys=>
    simp only[h1,h2,af,aA]at h;subst h;have⟨v,g1,g2⟩:=aa5 hT hr h1;have⟨vs,g3,g4⟩:=AQ hT hr rs ys h2;exact⟨v::vs,by simp only[List.mapM_cons,Sem.run_bind,g1,Result.andThen_ok,g3,Sem.run_pure],by simp only[bj];exact⟨g2,g4⟩⟩
def Mw(σ:St)(w0 w:World)(β:Nat->Option cL)(I:Nat->Prop)(O0:j8)(fk:Option Nat)(os':List (Option eZ))(b:Nat):Prop:=
 (I b\/O0.Hj b\/w0.heap.size<=b\/O0.own b)/\b<w.heap.size/\¬∃k,(fk=some k\/kept os' k)/\(∃ o,σ.obj k=some o)/\fg β k b
theorem ac4(hr:Rel P w0 O0 N β I σ a w)(fk:Option Nat)(os':List (Option eZ)):∀b,I b->Mw σ w0 w β I O0 fk os' b:=λb hb=>
 ⟨.inl hb,hr.mem.lt b hb,λ⟨k,_,⟨o,ho⟩,hβ⟩=>(hr.mem.iv k o b ho hβ).1 hb⟩
theorem Mx(hr:Rel P w0 O0 N β I σ a w){fk:Option Nat}{os':List (Option eZ)}{k aa len:Nat}{y:Tree}{v:Value}(h:fk≠some k/\¬kept os' k/\∃o df,σ.obj k=some o/\(o.rows.drop aa).take len=aI df/\df.length=len/\y= .sl df)(hv:VR P β w I (.own k aa len) v):TR w (Mw σ w0 w β I O0 fk os') y v:=by
 obtain⟨hne,hnk,o,df,h1,h2,h3,rfl⟩:=h;simp only[VR]at hv;simp only[TR];rcases hv with ⟨_,rfl,_,h4⟩ |⟨b,sz,n,cap,ad,h4,rfl,h5,h6,h7⟩
 ·exact .inl ⟨List.eq_nil_of_length_eq_zero (by omega),none,0,rfl,λ_=>rfl⟩
 ·have⟨g1,g2,g3⟩:=hr.mem.own k o b sz n h1 h4;refine .inr ⟨b,ad,cap,sz,by rw[h3],by omega,⟨.inr (.inr (g3.elim .inr .inl)),g2,λ⟨k',e1,⟨o',e2⟩,e3⟩=>?_⟩,?_⟩
  ·have:=hr.mem.lr k k' o o' b h1 e2 (.at h4) e3;subst this;exact e1.elim hne hnk
  ·by_cases hc:cap=0
   ·have:df=[]:=List.eq_nil_of_length_eq_zero (by omega);subst this;simp[cw]
   ·rw[h7 hc];have⟨B,hB,sA⟩:=hr.mem.cE k o h1;rw[h4]at hB;cases hB;obtain⟨hs,c,e,hc',_,sA⟩:=sA;have h8:=bp.take len _ _ _ _ (bp.drop aa _ _ _ _ sA);rw[h2]at h8;exact cw.lp (ac4 hr fk os') hc' df _ _ h8
theorem DJ(hr:Rel P w0 O0 N β I σ a w){fk:Option Nat}{os':List (Option eZ)}{x:AV}{y:Tree}{v:Value}(h:Po σ.obj fk os' x y)(hv:VR P β w I x v):TR w (Mw σ w0 w β I O0 fk os') y v:=by
 cases x<;>simp only[Po]at h
 case t x=>subst h;simp only[VR]at hv;exact TR.mono (λ _ _=>rfl) (ac4 hr fk os') _ _ hv
 case cV=>subst h;simp only[VR]at hv;simp only[TR];exact .inl ⟨trivial,none,0,hv,λ_=>rfl⟩
 case own k aa len=>exact Mx hr h hv
 case oz k len=>
  rcases hv.ux with ⟨rfl,rfl⟩ |⟨_,hv⟩
  ·obtain⟨hne,hnk,o,df,h1,h2,h3,rfl⟩:=h;simp only[TR];exact .inl ⟨List.eq_nil_of_length_eq_zero h3,none,0,rfl,λ_=>rfl⟩
  ·exact Mx hr h hv
theorem MB(hr:Rel P w0 O0 N β I σ a w){fk:Option Nat}{os':List (Option eZ)}{β':Nat->Option cL}:∀{r:List AV}{t:List Tree}{c:Array Value}{aa:Nat},k8 σ.obj fk os' r t->cW P β w I r c aa->cW P β' w (Mw σ w0 w β I O0 fk os') (t.map AV.t) c aa
 |[],[],_,_,_,_=>trivial
 |x::xs,y::ys,c,aa,h,⟨⟨v,h1,h2,h3⟩,h4⟩=>⟨⟨v,h1,by simp only[VR];exact DJ hr h.1 h2,h3⟩,MB hr h.2 h4⟩
 |[],_::_,_,_,h,_=>h.elim
 |_::_,[],_,_,h,_=>h.elim
theorem k8.length{get:Nat->Option aR}{fk:Option Nat}{os':List (Option eZ)}:∀{r:List AV}{t:List Tree},k8 get fk os' r t->t.length=r.length
 |[],[],_=>rfl
 |_::_,_::_,h=>by simp[k8.length h.2]
 |[],_::_,h=>h.elim
 |_::_,[],h=>h.elim
theorem AR(hr:Rel P w0 O0 N β I σ a w){fk:Option Nat}{os':List (Option eZ)}{β':Nat->Option cL}:∀{rs:List (List AV)}{ts:List (List Tree)}{c:Array Value}{aa sz:Nat},ek σ.obj fk os' rs ts->bp P β w I rs c aa sz->bp P β' w (Mw σ w0 w β I O0 fk os') (aI ts) c aa sz
 |[],[],_,_,_,_,_=>trivial
 |r::rs,t::ts,c,aa,sz,h,⟨h1,h2,h3⟩=>⟨by rw[length_map,h.1.length,h1],MB hr h.1 h2,AR hr h.2 h3⟩
 |[],_::_,_,_,_,h,_=>h.elim
 |_::_,[],_,_,_,h,_=>h.elim
theorem ek.length{get:Nat->Option aR}{fk:Option Nat}{os':List (Option eZ)}:∀{rs:List (List AV)}{ts:List (List Tree)},ek get fk os' rs ts->rs.length=ts.length
 |[],[],_=>rfl
 |_::_,_::_,h=>by simp only[bG,h.2.length]
 |[],_::_,h=>h.elim
 |_::_,[],h=>h.elim
theorem Kt(hr:Rel P w0 O0 N β I σ a w){fk:Option Nat}{os':List (Option eZ)}{β':Nat->Option cL}:∀{r:List AV}{t:List Tree}{vs:List Value},k8 σ.obj fk os' r t->bj P β w I r vs->bj P β' w (Mw σ w0 w β I O0 fk os') (t.map AV.t) vs
 |[],[],[],_,_=>by simp[bj]
 |x::xs,y::ys,v::vs,h,hv=>by
  simp only[bj]at hv;simp only[aF,bj,VR];exact⟨DJ hr h.1 hv.1,Kt hr h.2 hv.2⟩
 |[],_::_,_,h,_=>h.elim
 |_::_,[],_,h,_=>h.elim
 |[],[],_::_,_,hv=>by simp[bj]at hv
 |_::_,_::_,[],_,hv=>by simp[bj]at hv
theorem GY(hr:Rel P w0 O0 N β I σ a w){fk:Option Nat}{os':List (Option eZ)}{β':Nat->Option cL}:∀{rs:List (List AV)}{ts:List (List Tree)}{es:List MapEntry},ek σ.obj fk os' rs ts->cp P β w I rs es->cp P β' w (Mw σ w0 w β I O0 fk os') (aI ts) es
 |[],[],[],_,_=>trivial
 |_::_,_::_,_::_,h,hm=>⟨Kt hr h.1 hm.1,GY hr h.2 hm.2⟩
 |[],_::_,_,h,_=>h.elim
 |_::_,[],_,h,_=>h.elim
 |[],[],_::_,_,hm=>hm.elim
 |_::_,_::_,[],_,hm=>hm.elim
theorem ek.nil{get:Nat->Option aR}{fk:Option Nat}{os':List (Option eZ)}{t:List (List Tree)}(h:ek get fk os' [] t):t=[]:=by
 cases t with
 |nil=>rfl
 |cons=>exact h.elim
theorem Vo(hr:Rel P w0 O0 N β I σ a w){F:Nat->Prop}{βi:Nat->Option cL}{fk:Option Nat}{os':List (Option eZ)}(hF:∀k o b,fk=some k->σ.obj k=some o->¬kept os' k->fg β k b->F b)(hi:∀j,kept os' j->β j=βi j){x:AV}{c:RC}{v:Value}
 (h:Fm σ.obj fk os' x c) (hv:VR P β w I x v):yd P F βi c w (Mw σ w0 w β I O0 fk os') v:=by
 unfold Fm at h;split at h
 ·rename_i cs ts;simp only[VR]at hv;obtain⟨vs,rfl,hv⟩:=hv;refine⟨vs,rfl,?_⟩;have:∀(cs:List AV)(ts:List Tree)(vs:List Value),k8 σ.obj fk os' cs ts->bj P β w I cs vs->eE w (Mw σ w0 w β I O0 fk os') ts vs:=by
   intro cs
   induction cs with
   |nil=>intro ts vs h hv;cases ts<;>cases vs<;>first |trivial |exact h.elim |(simp [bj]at hv)
   |cons x xs ih=>
    intro ts vs h hv;cases ts with
    |nil=>exact h.elim
    |cons t ts=>
     cases vs with
     |nil=>simp[bj]at hv
     |cons u us=>simp only[bj]at hv;exact⟨DJ hr h.1 hv.1,ih ts us h.2 hv.2⟩
  exact this cs ts vs.toList h hv
 ·exact DJ hr h hv
 ·subst h;simp only[VR]at hv;exact .inl ⟨rfl,hv⟩
 ·rename_i k aa len sz rows;obtain⟨rfl,hnk,rfl,o,h1,rfl,h2,h3⟩:=h;simp only[VR]at hv;rcases hv with ⟨_,rfl,_,h4⟩ |⟨b,sz,n,cap,ad,h4,rfl,h5,h6,h7⟩
  ·exact .inl ⟨List.eq_nil_of_length_eq_zero (by omega),rfl⟩
  ·have⟨g1,g2,g3⟩:=hr.mem.own k o b sz n h1 h4;have⟨B,hB,sA⟩:=hr.mem.cE k o h1;rw[h4]at hB;cases hB;obtain⟨hs,c,e,hc',hn,sA⟩:=sA;refine .inr ⟨b,c,e,cap,ad,n.s,by rw[h3],hF k o b rfl h1 hnk (.at h4),λhI=>hI.2.2 ⟨k,.inl rfl,⟨o,h1⟩,.at h4⟩,hc',by omega,?_,?_,λhc=>by simpa using h7 hc⟩
   ·rw[<- hs,hn];simpa using h6
   ·rw[<- hs];exact AR hr h2 (bp.take len _ _ _ _ sA)
 ·rename_i k aa len j len';obtain⟨rfl,rfl,rfl,hk⟩:=h;show VR P βi w (Mw σ w0 w β I O0 fk os') (.own k 0 len') v;simp only[VR]at hv ⊢;rw[<- hi k hk];exact hv
 ·exact h.elim
theorem AU{α:Type}(l:List α)(t:Nat):lk ((List.range l.length).zip l) t=l[t]? :=by
 have qk:∀(l:List α)(s t:Nat),(lk ((List.range' s l.length).zip l) t)=if s<=t/\t<s+l.length then l[t -s]? else none:=by
  intro l
  induction l with
  |nil=>intro s t;simp[lk]
  |cons x xs ih=>
   intro s t;simp only[bG,List.range'_succ,List.zip_cons_cons,lk];by_cases hst:s=t
   ·subst hst;simp
   ·rw[aQ hst,ih];by_cases hlt':s+1<=t/\t<s+1+xs.length
    ·rw[aX hlt',aX (by omega),show t -s=(t -(s+1))+1 by omega];simp
    ·rw[aQ hlt',aQ (by omega)]
 rw[List.range_eq_range',qk];by_cases ht:t<l.length
 ·simp[ht]
 ·rw[aQ (by omega)];simp[List.getElem?_eq_none (Nat.le_of_not_lt ht)]
theorem Pq{x:AV}:∀{l:List AV},x∈l->∀k∈refs x,k∈eT l
 |[],h,_,_=>by simp at h
 |y::ys,h,k,hk=>by
  simp only[eT,bf];rcases aN.1 h with rfl |h
  ·exact .inl hk
  ·exact .inr (Pq h k hk)
theorem aiK(hT : eY P T){f : FuncId}{fn : Func}{c : Code}{args : List AV}{os : List eZ}{os' : List (Option eZ)}{rv : RV}(hfn : P.funcs[f]? = some fn)(hb : fn.body = some c)(hname : (fn.name == "runtime.NumGoroutine") = false)(hN : args.length <= fn.ntmps)(hargs : ∀ k ∈ eT args, k < 1000)(hos : os.length <= 1000)(hlen : os'.length = os.length)
 (h:Ev P fn.ntmps c (aph T fn.results.toList rv os') (rx.st ⟨(List.range args.length).zip args,(List.range (os.map gC).length).zip (os.map gC)⟩)):qq P f args os os' rv:=by
 refine⟨⟨fn,hfn,by rw[hb];rfl,hname⟩,λw β I vs hβ hM hv=>?_⟩;have hvl:=bj.length _ _ hv;simp only[Array.length_toList]at hvl;have gx:∀k,lk ((List.range (os.map gC).length).zip (os.map gC)) k=rN os k:=λk=>by rw[AU];simp[rN]
 refine calls_of_wp hfn hb ?_;have hrel:Rel P w (ng β I) fn.ntmps β I (rx.st ⟨(List.range args.length).zip args,(List.range (os.map gC).length).zip (os.map gC)⟩) { tmps:=vs++Array.replicate (fn.ntmps -vs.size) undef,defers:=[] } w:=by
  refine⟨rfl,by simp;omega,λt=>?_,?_⟩
  ·simp only[rx.st,AU,eI];by_cases ht:t<args.length
   ·obtain⟨v,g1,g2⟩:=bj.get _ _ t _ hv (dJ ht);rw[dJ ht];simp only[Option.getD_some];have:(vs++Array.replicate (fn.ntmps -vs.size) undef).getD t undef=v:=by
     rw[Array.getElem?_toList]at g1;simp only[Array.getD_eq_getD_getElem?,Array.getElem?_append,show t<vs.size by omega,if_true,g1,Option.getD_some]
    rw[this];exact g2
   ·rw[List.getElem?_eq_none (Nat.le_of_not_lt ht)];simp[VR]
  ·have:(rx.st ⟨(List.range args.length).zip args,(List.range (os.map gC).length).zip (os.map gC)⟩).obj=rN os:=funext gx;rw[this];exact hM
 have hold:tB (rx.st ⟨(List.range args.length).zip args,(List.range (os.map gC).length).zip (os.map gC)⟩):=by
  refine⟨λ t k hk=>?_,λk o hk=>?_⟩
  ·simp only[rx.st,AU]at hk;cases ht:args[t]? with
   |none=>rw[ht]at hk;simp[refs]at hk
   |some x=>rw[ht]at hk;have:=hargs k (Pq (dm ht) k hk);omega
  ·have hk:rN os k=some o:=(gx k).symm.trans hk;simp only[rN,dM]at hk;obtain⟨p,hp,rfl⟩:=hk;refine⟨by have:=(dD.1 hp).1;omega,λr hr x hx j hj=>?_⟩;simp only[gC,aI,mem_map]at hr;obtain⟨q,_,rfl⟩:=hr;simp only[mem_map]at hx;obtain⟨t,_,rfl⟩:=hx;simp[refs]at hj
 refine wp_mono (h w (ng β I) β I _ w hrel hold) ?_
 have fin:∀(a':Act) (w':World) (β':Nat->Option cL) (I':Nat->Prop) (σ':St),Rel P w (ng β I) fn.ntmps β' I' σ' a' w'->(∃ xs fk,nk T σ' fn.results.toList=some xs/\Fl σ'.obj fk os' xs rv/\Mu σ'.obj fk os')->
  a'.defers=[]/\∃v,(results fn a'.tmps).run P w'= .ok v w'/\L0 P w β I os' rv (.returned v) w':=by
  intro a' w' β' I' σ' hr ⟨xs,fk,hx,he,heo⟩;obtain⟨us,g1,g2⟩:=AQ hT hr _ _ hx;have EV:=bj.length _ _ g2;have hm:=hr.mem;have hrun:(fn.results.mapM (Vm a'.tmps)).run P w'= .ok us.toArray w':=by rw[Array.mapM_eq_mapM_toList,Sem.run_map,g1];rfl
  have hko:∀j p,os'[j]? =some (some p)->∃B o,β j=some B/\β' j=some B/\σ'.obj j=some o/\OR P β' w' I' o B/\o.sz=p.1/\ek σ'.obj fk os' (o.rows.take p.2.length) p.2:=by
   intro j p hj;have⟨_,o,e1,e2,e3⟩:=heo j p hj;have hjl:j<os.length:=(by rw[<- hlen];exact(dD.1 hj).1);obtain⟨B,hB,_⟩:=hM.cE j (gC os[j]) (by simp[rN,hjl]);have hB':=hm.anch j B (by simp only[ng];rw[aX (by omega)];exact hB);have⟨B',hB2,hO⟩:=hm.cE j o e1;rw[hB']at hB2;cases hB2;exact⟨B,o,hB,hB',e1,hO,e2,e3⟩
  have hkept:∀j,kept os' j->β' j=β j:=λj ⟨p,hp⟩=>by
   have⟨B,o,h1,h2,_⟩:=hko j p hp;rw[h1,h2]
  have pc:∀j o,Ci os' j=some o->∃p,os'[j]? =some (some p)/\o=gC p:=by
   intro j o hj;simp only[Ci,dM,Option.join_eq_some_iff]at hj;obtain⟨p,hp,rfl⟩:=hj;exact⟨p,hp,rfl⟩
  have qe:∀b,I b->¬U0 β b/\b<w.heap.size:=by
   intro b hb;refine⟨?_,hM.lt b hb⟩;rintro⟨j,B,hj,hB⟩;rcases Nat.lt_or_ge j os.length with hjl |hjl
   ·exact(hM.ownB j (gC os[j]) B b (by simp[rN,hjl]) hj hB).1 hb
   ·rw[hβ j hjl]at hj;cases hj
  have hOI:∀b,I b->Mw σ' w w' β' I' (ng β I) fk os' b:=by
   intro b hb;have⟨g1,g2⟩:=qe b hb;refine⟨.inr (.inl hb),Nat.lt_of_lt_of_le g2 hm.le,?_⟩;rintro⟨k,_,⟨o,ho⟩,hβk⟩;rcases (hm.iv k o b ho hβk).2.2 with g |g
   ·exact g1 g
   ·omega
  have hmem:Mem P w (ng β I) β (Mw σ' w w' β' I' (ng β I) fk os') (Ci os') w':=by
   constructor
   ·intro j o hj;obtain⟨p,hp,rfl⟩:=pc j o hj;have⟨B,o1,b1,b2,b3,b4,b5,b6⟩:=hko j p hp;refine⟨B,b1,?_⟩;cases B with
    |none=>
     simp only[OR]at b4 ⊢;rw[b4]at b6;have:=ek.nil (by simpa using b6);simp[gC,aI,this]
    | «at» b s n=>
     obtain⟨c1,c,e,c2,c3,c4⟩:=b4;refine⟨by rw[c1,b5];rfl,c,e,c2,c3,?_⟩;exact AR hr b6 (bp.take _ _ _ _ _ c4)
    |mp b=>
     obtain⟨es,cl,c1,cl',c2,c3⟩:=b4;have hl:=b6.length;simp only[List.length_take]at hl;refine⟨es,cl,c1,by simp only[gC,aI,length_map];omega,λe=>?_,c3⟩;have e':p.1=p.2.length:=(by simpa[gC,aI]using e);rw[take_of_length_le (by omega)]at b6;exact GY hr b6 (c2 (by omega))
   ·intro j j' o o' B B' b h1 h2 h3 h4 h5 h6;obtain⟨p,hp,rfl⟩:=pc j o h1;obtain⟨p',hp',rfl⟩:=pc j' o' h2;have⟨_,o1,_,_,b3,_⟩:=hko j p hp;have⟨_,o1',_,_,b3',_⟩:=hko j' p' hp';rw[<- hkept j ⟨p,hp⟩]at h3;rw[<- hkept j' ⟨p',hp'⟩]at h4;exact hm.gp j j' o1 o1' B B' b b3 b3' h3 h4 h5 h6
   ·intro j o B b h1 h2 h5;obtain⟨p,hp,rfl⟩:=pc j o h1;have⟨_,o1,_,_,b3,_⟩:=hko j p hp;rw[<- hkept j ⟨p,hp⟩]at h2;have⟨_,c2,c3⟩:=hm.ownB j o1 B b b3 h2 h5;exact⟨λ hb=>hb.2.2 ⟨j,.inr ⟨p,hp⟩,⟨o1,b3⟩,B,h2,h5⟩,c2,c3⟩
   ·exact λb hb=>hb.2.1
   ·intro b hb;rcases hb.1 with g |g |g |g
    ·exact hm.up b g
    ·exact .inl g
    ·exact .inr (.inr g)
    ·exact .inr (.inl g)
   ·exact hm.keep
   ·exact hm.le
   ·exact hm.os
   ·exact hm.tape
   ·exact hm.output
   ·intro j B hj;simp only[ng]at hj;split at hj
    ·exact hj
    ·cases hj
   ·exact hM.vars.mono (λ b hb=>hm.keep b (qe b hb).2 (qe b hb).1) hOI
  have hF:∀k o b,fk=some k->σ'.obj k=some o->¬kept os' k->fg β' k b->An w β os' b:=by
   intro k o b _ h2 h3 h4;refine⟨(hm.iv k o b h2 h4).2.2,λj o' h5 h6=>?_⟩;obtain⟨p,hp,rfl⟩:=pc j o' h5;have⟨_,o1,_,_,b3,_⟩:=hko j p hp;have h6':fg β' j b:=by
    obtain⟨B,e1,e2⟩:=h6;exact⟨B,by rw[hkept j ⟨p,hp⟩];exact e1,e2⟩
   have:=hm.lr k j o o1 b h2 b3 h4 h6';subst this;exact h3 ⟨p,hp⟩
  have ret:∀v,ro P (An w β os') β rv w' (Mw σ' w w' β' I' (ng β I) fk os') v->L0 P w β I os' rv (.returned v) w':=λv hv'=>⟨v,_,rfl,hmem,hOI,hv'⟩;refine⟨hr.defers,?_⟩;have hlist:∀(xs:List AV)(cs:List RC)(us:List Value),nj σ'.obj fk os' xs cs->bj P β' w' I' xs us->Sc P (An w β os') β cs w' (Mw σ' w w' β' I' (ng β I) fk os') us:=by
   intro xs
   induction xs with
   |nil=>intro cs us h1 h2;cases cs<;>cases us<;>first |trivial |exact h1.elim |(simp [bj]at h2)
   |cons x xs ih=>
    intro cs us h1 h2;cases cs with
    |nil=>exact h1.elim
    |cons c cs=>
     cases us with
     |nil=>simp[bj]at h2
     |cons u us=>simp only[bj]at h2;exact⟨Vo hr hF hkept h1.1 h2.1,ih cs us h1.2 h2.2⟩
  simp only[Vn,Sem.run_bind,hrun,Result.andThen_ok,Sem.run_pure];refine⟨_,rfl,ret _ ?_⟩
  match xs,us,rv,he,g2 with
  |[x],[u],.one c,he,g2=>
   simp only[bj]at g2;simpa[ro]using Vo hr hF hkept he g2.1
  |x::y::r,u::u'::us,.ez cs,he,g2=>
   have:=hlist _ _ _ he g2;rw[dif_neg (by simp)];exact⟨_,rfl,by simpa using this⟩
  |[],[],.ez cs,he,g2=>
   simp only[Fl]at he;subst he;rw[dif_neg (by simp)];exact⟨_,rfl,trivial⟩
  |[x],[u],.ez cs,he,_=>exact he.elim
  |[],_,.one c,he,_=>exact he.elim
  |x::y::r,_,.one c,he,_=>exact he.elim
  |[],_::_,.ez _,_,g2=>simp[bj]at g2
  |[_],[],_,_,g2=>simp[bj]at g2
  |[_],_::_::_,_,_,g2=>simp[bj]at g2
  |_::_::_,[],_,_,g2=>simp[bj]at g2
  |_::_::_,[_],_,_,g2=>simp[bj]at g2
 rintro e a' w' ⟨β',I',σ',h1,h2,h3⟩;cases e with
 |normal=>exact fin a' w' β' I' σ' h1 h3
 |ret=>exact fin a' w' β' I' σ' h1 h3
 |_=>exact h3.elim
def Mp(P:Program)(get:Nat->Option aR)(xs:List AV)(os':List (Nat×aR))(rv:AV):Prop:=
 ∀(w0:World) (O0:j8) (β:Nat->Option cL) (I:Nat->Prop) (w:World) (vs:Array Value),Mem P w0 O0 β I get w->bj P β w I xs vs.toList->∃ β' I',Mem P w0 O0 β' I' (nw os') w/\(∀ b,I b->I' b)/\VR P β' w I' rv (if h:vs.size=1 then vs[0]else .tuple vs)
def aoN(P:Program)(T:ea)(rs:List ResultVar)(rv:AV)(os':List (Nat×aR)):Exit->St->Prop
 | .normal,σ=>∃xs,nk T σ rs=some xs/\Mp P σ.obj xs os' rv
 | .ret,σ=>∃xs,nk T σ rs=some xs/\Mp P σ.obj xs os' rv
 |_,_=>False
theorem aiL(hT : eY P T){f : FuncId}{fn : Func}{c : Code}{args : List AV}{os : List aR}{os' : List (Nat × aR)}{rv : AV}(hfn : P.funcs[f]? = some fn)(hb : fn.body = some c)(hname : (fn.name == "runtime.NumGoroutine") = false)(hN : args.length <= fn.ntmps)(hargs : ∀ k ∈ eT args, k < 1000)(hos : os.length <= 1000)
 (RW:∀o∈os,∀r∈o.rows,∀x∈r,∀j∈refs x,j<1000)
 (h:Ev P fn.ntmps c (aoN P T fn.results.toList rv os') (rx.st ⟨(List.range args.length).zip args,(List.range os.length).zip os⟩)):ye P f args os os' rv:=by
 refine⟨⟨fn,hfn,by rw[hb];rfl,hname⟩,λw β I vs hβ hM hv=>?_⟩;have hvl:=bj.length _ _ hv;simp only[Array.length_toList]at hvl;have gx:∀k,lk ((List.range os.length).zip os) k=rL os k:=λk=>by rw[AU];rfl
 refine calls_of_wp hfn hb ?_;have hrel:Rel P w (ng β I) fn.ntmps β I (rx.st ⟨(List.range args.length).zip args,(List.range os.length).zip os⟩) { tmps:=vs++Array.replicate (fn.ntmps -vs.size) undef,defers:=[] } w:=by
  refine⟨rfl,by simp;omega,λt=>?_,?_⟩
  ·simp only[rx.st,AU,eI];by_cases ht:t<args.length
   ·obtain⟨v,g1,g2⟩:=bj.get _ _ t _ hv (dJ ht);rw[dJ ht];simp only[Option.getD_some];have:(vs++Array.replicate (fn.ntmps -vs.size) undef).getD t undef=v:=by
     rw[Array.getElem?_toList]at g1;simp only[Array.getD_eq_getD_getElem?,Array.getElem?_append,show t<vs.size by omega,if_true,g1,Option.getD_some]
    rw[this];exact g2
   ·rw[List.getElem?_eq_none (Nat.le_of_not_lt ht)];simp[VR]
  ·have:(rx.st ⟨(List.range args.length).zip args,(List.range os.length).zip os⟩).obj=rL os:=funext gx;rw[this];exact hM
 have hold:tB (rx.st ⟨(List.range args.length).zip args,(List.range os.length).zip os⟩):=by
  refine⟨λ t k hk=>?_,λk o hk=>?_⟩
  ·simp only[rx.st,AU]at hk;cases ht:args[t]? with
   |none=>rw[ht]at hk;simp[refs]at hk
   |some x=>rw[ht]at hk;have:=hargs k (Pq (dm ht) k hk);omega
  ·have hk:rL os k=some o:=(gx k).symm.trans hk;simp only[rL]at hk;refine⟨by have:=(dD.1 hk).1;omega,λr hr x hx j hj=>?_⟩;have:=RW o (dm hk) r hr x hx j hj;omega
 refine wp_mono (h w (ng β I) β I _ w hrel hold) ?_
 have fin:∀(a':Act) (w':World) (β':Nat->Option cL) (I':Nat->Prop) (σ':St),Rel P w (ng β I) fn.ntmps β' I' σ' a' w'->(∃ xs,nk T σ' fn.results.toList=some xs/\Mp P σ'.obj xs os' rv)->
  a'.defers=[]/\∃v,(results fn a'.tmps).run P w'= .ok v w'/\V2 P w β I os' rv (.returned v) w':=by
  intro a' w' β' I' σ' hr ⟨xs,hx,he⟩;obtain⟨us,g1,g2⟩:=AQ hT hr _ _ hx;have hrun:(fn.results.mapM (Vm a'.tmps)).run P w'= .ok us.toArray w':=by rw[Array.mapM_eq_mapM_toList,Sem.run_map,g1];rfl
  have qe:∀b,I b->¬U0 β b/\b<w.heap.size:=by
   intro b hb;refine⟨?_,hM.lt b hb⟩;rintro⟨j,B,hj,hB⟩;rcases Nat.lt_or_ge j os.length with hjl |hjl
   ·exact(hM.ownB j os[j] B b (by simp[rL,hjl]) hj hB).1 hb
   ·rw[hβ j hjl]at hj;cases hj
  obtain⟨β2,I2,hm,hI2,hv2⟩:=he w (ng β I) β' I' w' us.toArray hr.mem (by simpa using g2);have hmem:Mem P w (ng β I) β2 (λ b=>I2 b\/I b) (nw os') w':=by
   constructor
   ·intro k o hk;have⟨B,hB,hO⟩:=hm.cE k o hk;exact⟨B,hB,OR.mono (λ _ _ h=>h) (λ _ _=>rfl) (λ b hb=> .inl hb) (λ _ _=>rfl) hO⟩
   ·exact hm.gp
   ·intro k o B b h1 h2 h3;have⟨a1,a2,a3⟩:=hm.ownB k o B b h1 h2 h3;refine⟨?_,a2,a3⟩;rintro (hb |hb)
    ·exact a1 hb
    ·have⟨c1,c2⟩:=qe b hb;rcases a3 with a3 |a3
     ·exact c1 a3
     ·omega
   ·rintro b (hb |hb)
    ·exact hm.lt b hb
    ·exact Nat.lt_of_lt_of_le (qe b hb).2 hm.le
   ·rintro b (hb |hb)
    ·exact hm.up b hb
    ·exact .inl hb
   ·exact hm.keep
   ·exact hm.le
   ·exact hm.os
   ·exact hm.tape
   ·exact hm.output
   ·exact hm.anch
   ·exact hm.vars.mono (λ _ _=>rfl) (λ b hb=> .inl hb)
  refine⟨hr.defers,?_⟩;simp only[Vn,Sem.run_bind,hrun,Result.andThen_ok,Sem.run_pure];exact⟨_,rfl,_,β2,_,rfl,hmem,λb hb=> .inr hb,VR.mono (λ _ _ h=>h) (λ _ _=>rfl) (λ b hb=> .inl hb) _ _ hv2⟩
 rintro e a' w' ⟨β',I',σ',h1,h2,h3⟩;cases e with
 |normal=>exact fin a' w' β' I' σ' h1 h3
 |ret=>exact fin a' w' β' I' σ' h1 h3
 |_=>exact h3.elim
theorem ro.Hd{F F':Nat->Prop}{βi:Nat->Option cL}{w':World}{I':Nat->Prop}(hF:∀b,F b->F' b){rv:RV}{v:Value}(h:ro P F βi rv w' I' v):ro P F' βi rv w' I' v:=by
 have hc:∀(c:RC)(v:Value),yd P F βi c w' I' v->yd P F' βi c w' I' v:=by
  intro c v h;cases c with
  |d x=>exact h
  |fresh sz rows=>
   rcases h with h |⟨b,c,e,cap,o,s,h1,h2,h3⟩
   ·exact .inl h
   ·exact .inr ⟨b,c,e,cap,o,s,h1,hF b h2,h3⟩
  |whole j len=>exact h
 cases rv with
 |one c=>exact hc c v h
 |ez cs=>
  obtain⟨vs,rfl,h⟩:=h;refine⟨vs,rfl,?_⟩;have:∀(cs:List RC)(vs:List Value),Sc P F βi cs w' I' vs->Sc P F' βi cs w' I' vs:=by
   intro cs
   induction cs with
   |nil=>intro vs h;cases vs with
    |nil=>trivial
    |cons=>exact h.elim
   |cons c cs ih=>intro vs h;cases vs with
    |nil=>exact h.elim
    |cons v vs=>exact⟨hc c v h.1,ih vs h.2⟩
  exact this cs vs.toList h
theorem MC{f:FuncId}{args:List AV}{rv:RV}(h:qq P f args [] [] rv):rb P f args rv:=by
 refine⟨h.1,λw I vs hlt hgv hv=>?_⟩;have hM:Mem P w (ng l4 I) l4 I (rN []) w:=by
  refine⟨λ k o hk=>by simp[rN]at hk,λk k' o o' B B' b hk=>by simp[rN]at hk,λk o B b hk=>by simp[rN]at hk,hlt,λb hb=> .inl hb,λ_ _ _=>rfl,aC _,rfl,rfl,rfl,λj B hj=>?_,hgv⟩;simp only[ng,l4,ite_self]at hj;cases hj
 refine(h.2 w l4 I vs (λ _ _=>rfl) hM hv).mono ?_;rintro e w' ⟨v,I',rfl,g1,g2,g3⟩;have hno:∀b,¬(ng l4 I).own b:=λb ⟨j,B,hj,_⟩=>by cases hj
 refine⟨v,I',rfl,⟨g1.os,g1.tape,g1.output,g1.le,λb hb=>g1.keep b hb (hno b)⟩,g2,g1.lt,λb hb=>?_,ro.Hd (λ b hb=>?_) g3⟩
 ·rcases g1.up b hb with h |h |h
  ·exact .inl h
  ·exact(hno b h).elim
  ·exact .inr h
 ·rcases hb.1 with h |h
  ·exact(hno b h).elim
  ·exact h
end
open Go.RowKit Go.WideShapes Go.ChangeShapes
inductive CS where
 |int (k:IntKind)
 |bool
 |str
 |sl (row:List CS)
 |any
  |mu (row:List CS)
 |back
def apj:CS->Tree->Prop
 | .int k,x=>∃n,x= .sc (.int k n)/\(Lit.int k n).wf=true
 | .bool,x=>∃b,x= .sc (.bool b)
 | .str,x=>∃s,x= .sc (.string s)/\s.size<=maxLen
 |_,_=>False
def aoO:CS->Nat
 | .int .i64=>8
 | .int _=>1
 | .bool=>1
 | .str=>16
 |_=>24
def NL:CS->Nat
 | .int .i64=>8
 | .int _=>1
 | .bool=>1
 |_=>8
def VV:Nat->List CS->Nat
 |o,[]=>o
 |o,c::cs=>VV ((o+(NL c -1))/NL c*NL c+aoO c) cs
def Mo(r:List CS):Nat:=bif r.any (λ c=>NL c==8)then(VV 0 r+7)/8*8 else VV 0 r
mutual
inductive GC(row:List CS):Tree->Prop
 |mk (rows:List (List Tree)) (hl:rows.length<=maxLen) (h:pw row rows):GC row (.sl rows)
inductive pw(row:List CS):List (List Tree)->Prop
 |nil:pw row []
 |cons {r:List Tree} {rs:List (List Tree)} (h:jt row row r) (t:pw row rs):pw row (r::rs)
inductive jt(row:List CS):List CS->List Tree->Prop
 |nil:jt row [] []
 |back {cs:List CS} {x:Tree} {xs:List Tree} (h:GC row x) (t:jt row cs xs):jt row (.back::cs) (x::xs)
 |one {c:CS} {cs:List CS} {x:Tree} {xs:List Tree} (h:apj c x) (t:jt row cs xs):jt row (c::cs) (x::xs)
end
mutual
def Fit:CS->Tree->Prop
 | .int k,x=>∃n,x= .sc (.int k n)/\(Lit.int k n).wf=true
 | .bool,x=>∃b,x= .sc (.bool b)
 | .str,x=>∃s,x= .sc (.string s)/\s.size<=maxLen
 | .sl row,x=>∃rows,x= .sl rows/\(rows.length<=maxLen/\rows.length*Mo row<=reachBytes)/\∀r∈rows,dc row r
 | .any,_=>True
 | .mu row,x=>GC row x
 | .back,_=>False
def dc:List CS->List Tree->Prop
 |[],[]=>True
 |c::cs,x::xs=>Fit c x/\dc cs xs
 |_,_=>False
end
mutual
def mw:Tree->Nat
 | .sc (.string s)=>s.size+1
 | .sc _=>1
 | .sl rows=>xD rows+1
def xD:List (List Tree)->Nat
 |[]=>0
 |r::rs=>iZ r+xD rs
def iZ:List Tree->Nat
 |[]=>0
 |x::xs=>mw x+iZ xs
end
theorem zW:∀a b:List Tree,iZ (a++b)=iZ a+iZ b
 |[],b=>by simp[iZ]
 |x::a,b=>by simp only[cons_append,iZ,zW a b];omega
structure Bk(H:Type) where
 b:DataW H->Nat
 a:List (DataW H)->Nat
 str:∀l,b (.lit (.string l))=l.length+1
 int:∀k n,b (.lit (.int k n))=1
 bool:∀v,b (.lit (.bool v))=1
 nil:b .nil=1
 sl:∀e s,b (.slice e s)=a e+a s+1
 agg:∀p,b (.agg p)=a p+1
 a0:a []=0
 a1:∀d r,a (d::r)=b d+a r
theorem Bk.app{H:Type}(K:Bk H)(l r:List (DataW H)):K.a (l++r)=K.a l+K.a r:=by
 induction l with
 |nil=>simp[K.a0]
 |cons x l ih=>simp only[cons_append,K.a1,ih];omega
theorem Bk.drop{H:Type}(K:Bk H){l:List (DataW H×List MemPlace)}{j:Nat}{y:DataW H×List MemPlace}(h:l[j]? =some y):K.a ((l.map (·.1)).drop j)=K.b y.1+K.a ((l.map (·.1)).drop (j+1)):=by
 obtain⟨hj,rfl⟩:=dD.1 h;rw[List.drop_eq_getElem_cons (by simpa using hj),K.a1];simp
def xz(P:Program)(go:TypeId->Option (List CS)):Nat->List Field->Option (List CS)
 |_,[]=>some []
 |o,f::fs=>(go f.type).bind λa=>if f.offset=o/\a.length=P.cellsOf f.type then(xz P go (o+a.length) fs).map (a++ ·)else none
def ZD(P:Program)(t u:TypeId):Option (List CS):=if u=t then some [.back]else match P.underlying u with
 |some (.int k)=>some [.int k]
 |some .bool=>some [.bool]
 |some .string=>some [.str]
 |_=>none
def NB(P:Program)(t e:TypeId):Option (List CS):=match P.underlying e with
 |some (.struct fs)=>(xz P (ZD P t) 0 fs.toList).bind λr=>if r.length=P.cellsOf e/\0<r.length then some r else none
 |_=>none
def yl(P:Program)(cut:List TypeId):Nat->TypeId->Option (List CS)
 | 0,_=>none
 |n+1,t=>match P.underlying t with
  |some (.int k)=>some [.int k]
  |some .bool=>some [.bool]
  |some .string=>some [.str]
  |some (.slice e)=>if cut.contains t then(match NB P t e with |some row=>some [.mu row] |none=>some [.any])else(yl P cut n e).bind λr=>if r.length=P.cellsOf e/\0<r.length/\Mo r<=P.bytesOf e then some [.sl r]else none
  |some (.struct fs)=>(xz P (yl P cut n) 0 fs.toList).bind λr=>if r.length=P.cellsOf t then some r else none
  |some (.array m e)=>(yl P cut n e).bind λr=>if r.length=P.cellsOf e/\m*r.length=P.cellsOf t then some (List.replicate m r).flatten else none
  |_=>none
theorem dc.length:∀(cs:List CS)(ts:List Tree),dc cs ts->ts.length=cs.length
 |[],[],_=>rfl
 |c::cs,x::xs,h=>by simp only[dc]at h;simp[dc.length cs xs h.2]
 |[],_::_,h=>by simp[dc]at h
 |_::_,[],h=>by simp[dc]at h
theorem dc.append:∀(cs:List CS)(ts:List Tree){cs':List CS}{ts':List Tree},dc cs ts->dc cs' ts'->dc (cs++cs') (ts++ts')
 |[],[],_,_,_,h=>h
 |c::cs,x::xs,_,_,h,h'=>by simp only[dc,cons_append]at h ⊢;exact⟨h.1,dc.append cs xs h.2 h'⟩
 |[],_::_,_,_,h,_=>by simp[dc]at h
 |_::_,[],_,_,h,_=>by simp[dc]at h
def Here(w:World)(b:Nat):Prop:=b<w.heap.size
section
variable {w:World} {I:Nat->Prop}
theorem eE.append:∀(ts:List Tree)(cs:List Value){ts':List Tree}{cs':List Value},eE w I ts cs->eE w I ts' cs'->eE w I (ts++ts') (cs++cs')
 |[],[],_,_,_,h=>h
 |_::xs,_::vs,_,_,h,h'=>⟨h.1,eE.append xs vs h.2 h'⟩
 |[],_::_,_,_,h,_=>h.elim
 |_::_,[],_,_,h,_=>h.elim
theorem eE.length:∀(ts:List Tree)(cs:List Value),eE w I ts cs->ts.length=cs.length
 |[],[],_=>rfl
 |_::xs,_::vs,h=>by simp[eE.length xs vs h.2]
 |[],_::_,h=>h.elim
 |_::_,[],h=>h.elim
theorem aa7:∀(ts:List Tree)(cs:List Value)(b aa:Nat),eE w I ts cs->(∀ i,i<cs.length->w.cell? ⟨b,aa+i,none⟩=cs[i]?)->dp w I ts b aa
 |[],[],_,_,_,_=>by simp[dp]
 |x::xs,v::vs,b,aa,h,hc=>by
  simp only[dp];refine⟨⟨v,by simpa using hc 0 (by simp),h.1⟩,aa7 xs vs b (aa+1) h.2 λi hi=>?_⟩;have:=hc (i+1) (by simpa using hi);rw[show aa+(i+1)=aa+1+i by omega]at this;simpa using this
 |[],_::_,_,_,h,_=>h.elim
 |_::_,[],_,_,h,_=>h.elim
end
section
variable {H:Type} {enc:TypeId×Value->H} {P:Program} {w:World} {sp:Nat->Bool} {held:Bool}
theorem Ps{a:Addr}{v:Value}(h:w.cell? a=some v):a.spot=none/\a.block<w.heap.size:=by
 simp only[World.cell?]at h;split at h
 ·rename_i c e st hc;split at h
  ·cases h
  ·rename_i hs;exact⟨by simpa using hs,(Array.getElem?_eq_some_iff.1 hc).1⟩
 ·cases h
def Pr(P:Program)(t:TypeId)(x:DataW H×List MemPlace):Prop:=∀k∈x.1.weights P t,k<=reachBytes
theorem yG{e:TypeId}:∀{l:List (DataW H)}{d:DataW H},d∈l->∀k∈d.weights P e,k∈DataW.weightsAll P e l
 |a::l,d,h,k,hk=>by
  simp only[DataW.weightsAll,bf];rcases aN.1 h with rfl |h
  ·exact .inl hk
  ·exact .inr (yG h k hk)
theorem Rl(m:Nat)(cs:List Value)(go:TypeId->Option (List CS))(hgo:∀t sh,go t=some sh->∀cs x,DataW.trod enc P w 0 sp held m t cs=some x->Pr P t x->∃ts,eE w (Here w) ts cs/\dc sh ts/\∀K:Bk H,iZ ts<=K.b x.1):
 ∀(fs:List Field)(l:List (DataW H×List MemPlace))(o:Nat)(sh:List CS),xz P go o fs=some sh->l.length=fs.length->(∀ (i:Nat) (f:Field) (x:DataW H×List MemPlace),fs[i]? =some f->l[i]? =some x->DataW.trod enc P w 0 sp held m f.type ((cs.drop f.offset).take (P.cellsOf f.type))=some x/\Pr P f.type x)->
  ∃ts,eE w (Here w) ts ((cs.drop o).take sh.length)/\dc sh ts/\∀K:Bk H,iZ ts<=K.a (l.map (·.1))
 |[],l,o,sh,h,_,_=>by
  simp only[xz,aA]at h;subst h;exact⟨[],by simp[eE],by simp[dc],λK=>by simp[iZ]⟩
 |f::fs,[],o,sh,h,hl,hf=>by simp at hl
 |f::fs,x::l,o,sh,h,hl,hf=>by
  simp only[xz,ai]at h;obtain⟨a,h1,h2⟩:=h;split at h2
  ·rename_i hc;obtain⟨hc1,hc2⟩:=hc;simp only[dM]at h2;obtain⟨r,h3,rfl⟩:=h2;have⟨hx,hz⟩:=hf 0 f x rfl rfl;obtain⟨ts,g1,g2,k1⟩:=hgo _ _ h1 _ _ hx hz;obtain⟨ts',g3,g4,k2⟩:=Rl m cs go hgo fs l _ _ h3 (by simpa using hl) λi f' x' hf' hx'=>hf (i+1) f' x' hf' hx';refine⟨ts++ts',?_,dc.append _ _ g2 g4,λK=>by have:=k1 K;have:=k2 K;rw[zW,aF,K.a1];omega⟩;rw[dL,List.take_add,List.drop_drop];rw[hc1,<- hc2]at g1;exact eE.append _ _ g1 g3
  ·cases h2
theorem jt.append{row:List CS}:∀{a b:List CS}{x y:List Tree},jt row a x->jt row b y->jt row (a++b) (x++y)
 |_,_,_,_,.nil,h=>h
 |_,_,_,_,.back h t,h'=> .back h (t.append h')
 |_,_,_,_,.one h t,h'=> .one h (t.append h')
theorem ME{row:List CS}(m:Nat)(cs:List Value)(go:TypeId->Option (List CS))(hgo:∀t sh,go t=some sh->∀cs x,DataW.trod enc P w 0 sp held m t cs=some x->∃ts,eE w (Here w) ts cs/\jt row sh ts/\∀K:Bk H,iZ ts<=K.b x.1):
 ∀(fs:List Field)(l:List (DataW H×List MemPlace))(o:Nat)(sh:List CS),xz P go o fs=some sh->l.length=fs.length->(∀ (i:Nat) (f:Field) (x:DataW H×List MemPlace),fs[i]? =some f->l[i]? =some x->DataW.trod enc P w 0 sp held m f.type ((cs.drop f.offset).take (P.cellsOf f.type))=some x)->
  ∃ts,eE w (Here w) ts ((cs.drop o).take sh.length)/\jt row sh ts/\∀K:Bk H,iZ ts<=K.a (l.map (·.1))
 |[],l,o,sh,h,_,_=>by
  simp only[xz,aA]at h;subst h;exact⟨[],by simp[eE],.nil,λK=>by simp[iZ]⟩
 |f::fs,[],o,sh,h,hl,hf=>by simp at hl
 |f::fs,x::l,o,sh,h,hl,hf=>by
  simp only[xz,ai]at h;obtain⟨a,h1,h2⟩:=h;split at h2
  ·rename_i hc;obtain⟨hc1,hc2⟩:=hc;simp only[dM]at h2;obtain⟨r,h3,rfl⟩:=h2;have hx:=hf 0 f x rfl rfl;obtain⟨ts,g1,g2,k1⟩:=hgo _ _ h1 _ _ hx;obtain⟨ts',g3,g4,k2⟩:=ME m cs go hgo fs l _ _ h3 (by simpa using hl) λi f' x' hf' hx'=>hf (i+1) f' x' hf' hx';refine⟨ts++ts',?_,g2.append g4,λK=>by have:=k1 K;have:=k2 K;rw[zW,aF,K.a1];omega⟩;rw[dL,List.take_add,List.drop_drop];rw[hc1,<- hc2]at g1;exact eE.append _ _ g1 g3
  ·cases h2
theorem amD{t e:TypeId}{row:List CS}(hk:P.underlying t=some (.slice e))(hm:NB P t e=some row):∀(fuel:Nat)(cs:List Value)(x:DataW H×List MemPlace),DataW.trod enc P w 0 sp held fuel t cs=some x->∃tr,eE w (Here w) [tr] cs/\GC row tr/\∀K:Bk H,mw tr<=K.b x.1:=by
 intro fuel
 induction fuel using Nat.strongRecOn with
 |_ fuel ih=>
 intro cs x hx;have one:∀m,m<fuel->∀tw y,DataW.trod enc P w 0 sp held m e tw=some y->∃ts,eE w (Here w) ts tw/\jt row row ts/\ts.length=row.length/\∀K:Bk H,iZ ts<=K.b y.1:=by
  intro m hmf tw y hy;unfold NB at hm;split at hm
  ·rename_i fs hke;simp only[ai]at hm;obtain⟨r,h1,h2⟩:=hm;split at h2
   ·rename_i hr;injection h2 with h2;subst h2;obtain⟨xs,m',hm',rfl,hl,hxs,hf⟩:=DataW.trod_struct hke hy;obtain⟨ts,g1,g2,k1⟩:=ME (row:=r) m' tw (ZD P t) (λ u sh hsh cs x hx=>by
     unfold ZD at hsh;split at hsh
     ·rename_i hu;cases hsh;rw[hu]at hx;obtain⟨tr,a1,a2,a3⟩:=ih m' (by omega) cs x hx;exact⟨[tr],a1,.back a2 .nil,λK=>by have:=a3 K;simp only[iZ];omega⟩
     ·split at hsh
      ·rename_i k A6;cases hsh;obtain⟨v,rfl,rfl,hw⟩:=DataW.trod_int A6 hx;exact⟨[.sc (.int k v)],by simp[eE,TR,oneCell],.one ⟨v,rfl,hw⟩ .nil,λK=>by simp[iZ,mw,K.int]⟩
      ·rename_i A6;cases hsh;obtain⟨v,rfl,rfl⟩:=DataW.trod_bool A6 hx;exact⟨[.sc (.bool v)],by simp[eE,TR,oneCell],.one ⟨v,rfl⟩ .nil,λK=>by simp[iZ,mw,K.bool]⟩
      ·rename_i A6;cases hsh;obtain⟨v,rfl,rfl,hw⟩:=DataW.trod_string A6 hx;exact⟨[.sc (.string v)],by simp[eE,TR,oneCell],.one ⟨v,rfl,hw⟩ .nil,λK=>by simp[iZ,mw,K.str]⟩
      ·cases hsh) fs.toList xs 0 r h1 (by simpa using hxs) (λ i f x hi hxi=>by
     have hi':fs[i]? =some f:=(by simpa using hi);rw[hf i f hi',hxi])
    rw[List.drop_zero,take_of_length_le (by omega)]at g1;refine⟨ts,g1,g2,?_,λK=>by have:=k1 K;rw[K.agg];omega⟩;rw[eE.length _ _ g1];omega
   ·cases h2
  ·cases hm
 have rl:row.length=P.cellsOf e/\0<row.length:=by
  unfold NB at hm;split at hm
  ·simp only[ai]at hm;obtain⟨r,h1,h2⟩:=hm;split at h2
   ·rename_i hr;cases h2;exact hr
   ·cases h2
  ·cases hm
 rcases DataW.trod_slice hk hx with ⟨rfl,rfl⟩ |⟨a,len,cap,elems,ag,m,hfm,rfl,rfl,_,hl,hmx,hlen,hel,_,_⟩
 ·refine⟨.sl [],?_,.mk [] (by simp[maxLen]) .nil,λK=>by simp[mw,xD,K.nil]⟩;simp only[eE,TR];exact⟨.inl ⟨trivial,none,0,rfl,λ_=>rfl⟩,trivial⟩
 ·have each:∀i,i<len->∃tw y,w.cells? 0 (a.add (i*P.cellsOf e)) (P.cellsOf e)=some tw/\DataW.trod enc P w 0 sp held m e tw=some y/\elems[i]? =some y:=by
   intro i hi;have h3:=hel i hi;have h6:elems[i]? =some (elems[i]'(by omega)):=dJ (by omega);rw[h6,ai]at h3;obtain⟨tw,h4,h5⟩:=h3;exact⟨tw,_,h4,h5,h6⟩
  by_cases h0:len=0
  ·subst h0;refine⟨.sl [],?_,.mk [] (by simp[maxLen]) .nil,λK=>by simp[mw,xD,K.sl]⟩;simp only[eE,TR];exact⟨.inl ⟨trivial,some a,cap,rfl,λh=>by cases h⟩,trivial⟩
  ·obtain⟨cs0,y0,c0,_,_⟩:=each 0 (by omega);obtain⟨_,c1,c2⟩:=World.cells?_some c0;have c3:=c2 0 (by omega);rw[dJ (by omega)]at c3;have c4:=Ps c3;simp only[Nat.zero_mul,Addr.add,if_true]at c4;obtain⟨b,aa,s⟩:=a;simp only at c4;obtain⟨rfl,hb⟩:=c4;have rows:∀q j,j+q=len->∃rows:List (List Tree),rows.length=q/\cw w (Here w) rows b (aa+j*P.cellsOf e) (P.cellsOf e)/\pw row rows/\∀K:Bk H,xD rows<=K.a ((elems.map (·.1)).drop j):=by
    intro q
    induction q with
    |zero=>intro j _;exact⟨[],rfl,by simp[cw],.nil,λK=>by simp[xD]⟩
    |succ q ihq=>
     intro j hj;obtain⟨rows,g1,g2,g3,k3⟩:=ihq (j+1) (by omega);obtain⟨csj,y,g4,g5,gy⟩:=each j (by omega);obtain⟨ts,g6,g7,_,k6⟩:=one m (by omega) _ _ g5;obtain⟨_,g8,g9⟩:=World.cells?_some g4;refine⟨ts::rows,by simp[g1],?_,.cons g7 g3,λK=>by have:=k3 K;have:=k6 K;rw[K.drop gy,xD];omega⟩;simp only[cw];refine⟨(eE.length _ _ g6).trans g8,aa7 _ _ _ _ g6 λi hi=>?_,?_⟩
     ·rw[<- g9 i (by omega),addr_add,addr_add]
     ·rw[show aa+j*P.cellsOf e+P.cellsOf e=aa+(j+1)*P.cellsOf e by rw[Nat.add_mul];omega];exact g2
   obtain⟨rows,g1,g2,g3,k3⟩:=rows len 0 (by omega);refine⟨.sl rows,?_,.mk rows (by omega) g3,λK=>by have:=k3 K;rw[List.drop_zero]at this;rw[K.sl,mw];omega⟩;simp only[eE,TR];exact⟨.inr ⟨b,aa,cap,P.cellsOf e,by rw[g1],by omega,hb,by simpa using g2⟩,trivial⟩
theorem DK{cut:List TypeId}:∀(n:Nat)(t:TypeId)(sh:List CS),yl P cut n t=some sh->∀(fuel:Nat)(cs:List Value)(x:DataW H×List MemPlace),DataW.trod enc P w 0 sp held fuel t cs=some x->Pr P t x->
 ∃ts,eE w (Here w) ts cs/\dc sh ts/\∀K:Bk H,iZ ts<=K.b x.1
 | 0,_,_,h,_,_,_,_,_=>by simp[yl]at h
 |n+1,t,sh,h,fuel,cs,x,hx,hz=>by
  unfold yl at h;split at h
  ·rename_i k hk;cases h;obtain⟨v,rfl,rfl,hw⟩:=DataW.trod_int hk hx;exact⟨[.sc (.int k v)],by simp[eE,TR,oneCell],by simp only[dc,Fit];exact⟨⟨v,rfl,hw⟩,trivial⟩,λK=>by simp[iZ,mw,K.int]⟩
  ·rename_i hk;cases h;obtain⟨v,rfl,rfl⟩:=DataW.trod_bool hk hx;exact⟨[.sc (.bool v)],by simp[eE,TR,oneCell],by simp only[dc,Fit];exact⟨⟨v,rfl⟩,trivial⟩,λK=>by simp[iZ,mw,K.bool]⟩
  ·rename_i hk;cases h;obtain⟨v,rfl,rfl,hw⟩:=DataW.trod_string hk hx;exact⟨[.sc (.string v)],by simp[eE,TR,oneCell],by simp only[dc,Fit];exact⟨⟨v,rfl,hw⟩,trivial⟩,λK=>by simp[iZ,mw,K.str]⟩
  ·rename_i e hk;split at h
   ·split at h
    ·rename_i row hmr;cases h;have⟨tr,g1,g2,k1⟩:=amD hk hmr fuel cs x hx;exact⟨[tr],g1,by simp only[dc,Fit];exact⟨g2,trivial⟩,λK=>by have:=k1 K;simp only[iZ];omega⟩
    cases h;rcases DataW.trod_slice hk hx with ⟨rfl,rfl⟩ |⟨a,len,cap,elems,ag,m,_,rfl,rfl,_,hl,hm,hlen,hel,_,_⟩
    ·exact⟨[.sc (.slice none 0 0)],by simp[eE,TR,oneCell],by simp[dc,Fit],λK=>by simp[iZ,mw,K.nil]⟩
    ·exact⟨[.sc (.slice (some a) len cap)],by simp[eE,TR,oneCell],by simp[dc,Fit],λK=>by simp[iZ,mw,K.sl]⟩
   simp only[ai]at h;obtain⟨r,h1,h2⟩:=h;split at h2
   ·rename_i hr;cases h2;rcases DataW.trod_slice hk hx with ⟨rfl,rfl⟩ |⟨a,len,cap,elems,ag,m,_,rfl,rfl,_,hl,hm,hlen,hel,_,_⟩
    ·refine⟨[.sl []],?_,by simp only[dc,Fit];exact⟨⟨[],rfl,by simp[maxLen],by simp⟩,trivial⟩,λK=>by simp[iZ,mw,xD,K.nil]⟩;simp only[eE,TR];exact⟨.inl ⟨trivial,none,0,rfl,λ_=>rfl⟩,trivial⟩
    ·have hzw:∀k,k=(elems.length+ag.length)*P.bytesOf e\/k∈DataW.weightsAll P e (elems.map (·.1))->k<=reachBytes:=by
      intro k hkk;refine hz k ?_;simp only[DataW.weights,hk,aN,bf,length_map];rcases hkk with h |h
      ·exact .inl h
      ·exact .inr (.inl h)
     have each:∀i,i<len->∃tw y,w.cells? 0 (a.add (i*P.cellsOf e)) (P.cellsOf e)=some tw/\DataW.trod enc P w 0 sp held m e tw=some y/\Pr P e y/\elems[i]? =some y:=by
      intro i hi;have h3:=hel i hi;have h6:elems[i]? =some (elems[i]'(by omega)):=dJ (by omega);rw[h6,ai]at h3;obtain⟨tw,h4,h5⟩:=h3;exact⟨tw,_,h4,h5,λk hk=>hzw k (.inr (yG (mem_map.2 ⟨_,List.getElem_mem (by omega),rfl⟩) k hk)),h6⟩
     have hbytes:len*Mo r<=reachBytes:=by
      have h1:=hzw _ (.inl rfl);have h2:len*Mo r<=(elems.length+ag.length)*P.bytesOf e:=Nat.mul_le_mul (by omega) hr.2.2;omega
     by_cases h0:len=0
     ·subst h0;refine⟨[.sl []],?_,by simp only[dc,Fit];exact⟨⟨[],rfl,by simp[maxLen],by simp⟩,trivial⟩,λK=>by simp[iZ,mw,xD,K.sl]⟩;simp only[eE,TR];exact⟨.inl ⟨trivial,some a,cap,rfl,λh=>by cases h⟩,trivial⟩
     ·obtain⟨cs0,y0,c0,_,_,_⟩:=each 0 (by omega);obtain⟨_,c1,c2⟩:=World.cells?_some c0;have c3:=c2 0 (by omega);rw[dJ (by omega)]at c3;have c4:=Ps c3;simp only[Nat.zero_mul,Addr.add,if_true]at c4;obtain⟨b,aa,s⟩:=a;simp only at c4;obtain⟨rfl,hb⟩:=c4;have rows:∀m j,j+m=len->∃rows:List (List Tree),rows.length=m/\cw w (Here w) rows b (aa+j*P.cellsOf e) (P.cellsOf e)/\(∀ x∈rows,dc r x)/\∀K:Bk H,xD rows<=K.a ((elems.map (·.1)).drop j):=by
       intro m
       induction m with
       |zero=>intro j _;exact⟨[],rfl,by simp[cw],by simp,λK=>by simp[xD]⟩
       |succ m ih=>
        intro j hj;obtain⟨rows,g1,g2,g3,k3⟩:=ih (j+1) (by omega);obtain⟨csj,y,g4,g5,g5z,gy⟩:=each j (by omega);obtain⟨ts,g6,g7,k6⟩:=DK n e r h1 _ _ _ g5 g5z;obtain⟨_,g8,g9⟩:=World.cells?_some g4;refine⟨ts::rows,by simp[g1],?_,λx hx=>?_,λK=>by have:=k3 K;have:=k6 K;rw[K.drop gy,xD];omega⟩
        ·simp only[cw];refine⟨(eE.length _ _ g6).trans g8,aa7 _ _ _ _ g6 λi hi=>?_,?_⟩
         ·rw[<- g9 i (by omega),addr_add,addr_add]
         ·rw[show aa+j*P.cellsOf e+P.cellsOf e=aa+(j+1)*P.cellsOf e by rw[Nat.add_mul];omega];exact g2
        ·rcases aN.1 hx with rfl |hx
         ·exact g7
         ·exact g3 x hx
      obtain⟨rows,g1,g2,g3,k3⟩:=rows len 0 (by omega);refine⟨[.sl rows],?_,by simp only[dc,Fit];exact⟨⟨rows,rfl,⟨by omega,by rw[g1];exact hbytes⟩,g3⟩,trivial⟩,λK=>by have:=k3 K;rw[List.drop_zero]at this;rw[K.sl];simp only[iZ,mw];omega⟩;simp only[eE,TR];exact⟨.inr ⟨b,aa,cap,P.cellsOf e,by rw[g1],by omega,hb,by simpa using g2⟩,trivial⟩
   ·cases h2
  ·rename_i fs hk;simp only[ai]at h;obtain⟨r,h1,h2⟩:=h;split at h2
   ·rename_i hr;injection h2 with h2;subst h2;obtain⟨xs,m,_,rfl,hl,hxs,hf⟩:=DataW.trod_struct hk hx;obtain⟨ts,g1,g2,k1⟩:=Rl m cs (yl P cut n) (λ t sh hsh cs x hx hz=>DK n t sh hsh m cs x hx hz) fs.toList xs 0 r h1 (by simpa using hxs) (λ i f x hi hxi=>by
     have hi':fs[i]? =some f:=(by simpa using hi);have:=hf i f hi';rw[hxi]at this;refine⟨this,λk hk'=>hz k ?_⟩;simp only[DataW.weights,hk];exact DataW.weights_mem_each (j:=i) (t:=f.type) (d:=x.1) (by simp[hi']) (by simp[hxi]) k hk')
    refine⟨ts,?_,g2,λK=>by have:=k1 K;rw[K.agg];omega⟩;rw[List.drop_zero,take_of_length_le (by omega)]at g1;exact g1
   ·cases h2
  ·rename_i m e hk;simp only[ai]at h;obtain⟨r,h1,h2⟩:=h;split at h2
   ·rename_i hr;cases h2;obtain⟨xs,q,_,rfl,hl,hxs,hf⟩:=DataW.trod_array hk hx;have part:∀i j,j+i=m->∃ts,eE w (Here w) ts (cs.drop (j*P.cellsOf e))/\dc (List.replicate i r).flatten ts/\∀K:Bk H,iZ ts<=K.a ((xs.map (·.1)).drop j):=by
     intro i
     induction i with
     |zero=>
      intro j hj;refine⟨[],?_,by simp[dc],λK=>by simp[iZ]⟩;have:j=m:=(by omega);subst this;rw[List.drop_of_length_le (by rw[hl,<- hr.2,<- hr.1];omega)];simp[eE]
     |succ i ih=>
      intro j hj;obtain⟨ts,g1,g2,k1⟩:=ih (j+1) (by omega);have:=hf j (by omega);have hxj:xs[j]? =some (xs[j]'(by omega)):=dJ (by omega);rw[hxj]at this;obtain⟨ts0,g3,g4,k3⟩:=DK n e r h1 _ _ _ this (λ k hk'=>hz k (by
       simp only[DataW.weights,hk];exact yG (mem_map.2 ⟨_,List.getElem_mem (by omega),rfl⟩) k hk'))
      refine⟨ts0++ts,?_,?_,λK=>by have:=k1 K;have:=k3 K;rw[K.drop hxj,zW];omega⟩
      ·have:=eE.append _ _ g3 g1;rw[show (j+1)*P.cellsOf e=j*P.cellsOf e+P.cellsOf e by rw[Nat.add_mul];omega,<- List.drop_drop,List.take_append_drop]at this;exact this
      ·rw[List.replicate_succ,List.flatten_cons];exact dc.append _ _ g4 g2
    obtain⟨ts,g1,g2,k1⟩:=part m 0 (by omega);exact⟨ts,by simpa using g1,g2,λK=>by have:=k1 K;rw[List.drop_zero]at this;rw[K.agg];omega⟩
   ·cases h2
  ·cases h
inductive VS where
 |one (c:CS)
 |agg (cs:List CS)
def IS(P:Program)(cut:List TypeId)(t:TypeId):Option VS:=
 (yl P cut 12 t).bind λsh=>match P.underlying t with
  |some (.struct _) |some (.array _ _)=>some (.agg sh)
  |_=>match sh with
   |[c]=>some (.one c)
   |_=>none
def Fk:VS->TV->Prop
 | .one c,x=>∃y,x= .s y/\Fit c y
 | .agg cs,x=>∃ys,x= .a ys/\dc cs ys
def Vp:List VS->List TV->Prop
 |[],[]=>True
 |s::ss,x::xs=>Fk s x/\Vp ss xs
 |_,_=>False
def Lq:TV->Nat
 | .s y=>mw y
 | .a ys=>iZ ys
def xy:List TV->Nat
 |[]=>0
 |x::xs=>Lq x+xy xs
theorem aku{cut:List TypeId}{t:TypeId}{s:VS}{v:Value}{d:DataW H}{ps:List MemPlace}{b0:Nat}(hs:IS P cut t=some s)(hval:Value.okWide P w .any b0 t v)(hd:DataW.Trod enc P w 0 sp held t v d ps)(hz:∀k∈d.weights P t,k<=reachBytes):
 ∃x,rm w (Here w) x v/\Fk s x/\∀K:Bk H,Lq x<=K.b d:=by
 obtain⟨fuel,hf⟩:=hd;simp only[IS,ai]at hs;obtain⟨sh,h1,h2⟩:=hs;obtain⟨ts,g1,g2,k1⟩:=DK 12 t sh h1 _ _ _ hf hz;have hag:∀cs:Array Value,v= .agg cs->s= .agg sh->∃x,rm w (Here w) x v/\Fk s x/\∀K:Bk H,Lq x<=K.b d:=by
  rintro cs rfl rfl;exact⟨.a ts,⟨cs,rfl,by simpa[Value.cells]using g1⟩,⟨ts,rfl,g2⟩,k1⟩
 unfold Value.okWide at hval;split at h2
 ·rename_i hu;injection h2 with h2;rw[hu]at hval;obtain⟨cs,rfl,_⟩:=hval;exact hag cs rfl h2.symm
 ·rename_i hu;injection h2 with h2;rw[hu]at hval;obtain⟨cs,rfl,_⟩:=hval;exact hag cs rfl h2.symm
 ·rename_i hu1 hu2;split at h2
  ·rename_i c;cases h2;have hone:v.cells.toList=[v]:=by
    cases hu:P.underlying t with
    |none=>rw[hu]at hval;simp[Cell.okWide,Cell.ok,hu]at hval
    |some d=>
     rw[hu]at hval;cases v<;>first |rfl |(exfalso;revert hval;cases d<;>simp_all [Cell.okWide,Cell.ok])
   rw[hone]at g1
   match ts,g1,g2,k1 with
   |[y],g1,g2,k1=>
    simp only[dc]at g2;exact⟨.s y,g1.1,⟨y,rfl,g2.1⟩,λK=>by have:=k1 K;simpa[iZ,Lq]using this⟩
   |[],g1,_,_=>exact g1.elim
   |_::_::_,g1,_,_=>exact g1.2.elim
  ·cases h2
theorem ZG{cut:List TypeId}:∀{ts:List TypeId}{ss:List VS}{vs:List Value}{ds:List (DataW H)}{ps:List MemPlace}{b0:Nat},ts.mapM (IS P cut)=some ss->
 (∀ (j:Nat) t v,ts[j]? =some t->vs[j]? =some v->Value.okWide P w .any b0 t v)->DataW.TrodAll enc P w 0 sp held ts vs ds ps->(∀ k∈DataW.weightsEach P ts ds,k<=reachBytes)->∃xs,mN w (Here w) xs vs/\Vp ss xs/\∀K:Bk H,xy xs<=K.a ds
 |[],ss,vs,ds,ps,b0,hs,_,hd,_=>by
  obtain⟨rfl,rfl,rfl⟩:=trodAll_nil hd;simp only[List.mapM_nil,Option.pure_def,aA]at hs;subst hs;exact⟨[],trivial,trivial,λK=>by simp[xy]⟩
 |t::ts,ss,vs,ds,ps,b0,hs,hval,hd,hz=>by
  obtain⟨v,vs',d,ds',p,q,rfl,rfl,rfl,h0,r0⟩:=trodAll_cons hd;simp only[List.mapM_cons,Option.bind_eq_bind,ai,Option.pure_def,aA]at hs;obtain⟨s,h1,ss',h2,rfl⟩:=hs;obtain⟨x,g1,g2,k1⟩:=aku h1 (hval 0 t v rfl rfl) h0 (λ k hk=>hz k (by simp only[DataW.weightsEach,bf];exact .inl hk));obtain⟨xs,g3,g4,k2⟩:=ZG h2 (λ j t v h h'=>hval (j+1) t v h h') r0 (λ k hk=>hz k (by simp only[DataW.weightsEach,bf];exact .inr hk));exact⟨x::xs,⟨g1,g3⟩,⟨g2,g4⟩,λK=>by have:=k1 K;have:=k2 K;rw[xy,K.a1];omega⟩
theorem Rm{β:Nat->Option cL}{I:Nat->Prop}:∀(xs:List TV)(vs:List Value),mN w I xs vs->bj P β w I (xs.map TV.av) vs
 |[],[],_=>by simp[bj]
 |x::xs,v::vs,h=>by
  simp only[aF,bj];refine⟨?_,Rm xs vs h.2⟩;have h1:=h.1;cases x with
  |s y=>simp only[TV.av,VR];exact h1
  |a cs=>
   obtain⟨us,rfl,h2⟩:=h1;simp only[TV.av,VR];refine⟨us,rfl,?_⟩;have:∀(cs:List Tree) (us:List Value),eE w I cs us->bj P β w I (cs.map AV.t) us:=by
    intro cs
    induction cs with
    |nil=>intro us h;cases us<;>first |(simp [bj];done) |exact h.elim
    |cons c cs ih=>intro us h;cases us with
     |nil=>exact h.elim
     |cons u us=>simp only[aF,bj,VR];exact⟨h.1,ih us h.2⟩
   exact this cs us.toList h2
 |[],_::_,h=>h.elim
 |_::_,[],h=>h.elim
end
section
variable {H:Type} {enc:TypeId×Value->H} {P:Program}
theorem afF{f:Func}{s:ChangeSpec}{apart fresh handsOn again:Bool}{W W':World}{args:Array Value}{v:Value}{ds gs:List (DataW H)}{before pa pv:List MemPlace}
 (hW:DataW.Whole enc P f.params.toList s.vars apart W args.toList ds gs before)
 (hres:∀(b:Nat)(sp:Nat->Bool)(hd:Bool),DataW.TrodAll enc P W' b sp hd f.resultTypes.toList (v.resultList f.resultTypes.size) (s.fn H (ds++gs)).results [])
 (hargs:∀sp:Nat->Bool,(∀ p∈before,sp p.block=true)->DataW.TrodAll enc P W' 0 sp true f.params.toList args.toList (s.fn H (ds++gs)).args pa)
 (hvars:∀sp:Nat->Bool,(∀ p∈before,sp p.block=true)->DataW.TrodVars enc P W' sp s.vars (s.fn H (ds++gs)).vars pv)
 (hps:before=pa++pv) (hb:Below W.heap.size W W')
 (hok:∀(j:Nat)(t:TypeId)(r:Value),f.resultTypes[j]? =some t->(v.resultList f.resultTypes.size)[j]? =some r->Value.okWide P W' .any 0 t r):
 s.post enc P f apart fresh handsOn again W args v W':=by
 have hlt:∀p∈before,p.block<W.heap.size:=λp hp=>hW.lt p hp;have hold:∀p∈before,(λ b=>decide (b<W.heap.size)) p.block=true:=λp hp=>by simpa using hlt p hp
 refine⟨ds,gs,before,[],pa,pv,hW,hres _ _ _,hargs _ hold,hvars _ hold,World.keptBut_mono (λ p hp=>⟨hp,?_⟩) (hb.frame (· ∈before)),λ_=>?_⟩
 ·rw[hps,bf]at hp;exact Or.inr hp
 ·obtain⟨_,_,_,_,_,hz,hn⟩:=hW;refine⟨hok,_,_,([]++pa)++pv,⟨[]++pa,pv,trodAll_append (hargs _ (λ _ _=>rfl)) (hres _ _ _),hvars _ (λ _ _=>rfl),rfl,?_,?_⟩,?_⟩
  ·intro b aa hp;have hin:MemPlace.cell b aa∈before:=(by rw[hps];simpa using hp);rw[hb.frozen (hlt _ hin)];exact hz b aa hin
  ·intro ha;have:=hn ha;rw[hps]at this;simpa using this
  ·intro p hp _;rw[hps];simpa using hp
theorem Ku(hl:laidOutB P=true){W W':World}(hb:Below W.heap.size W W'):∀{ts:List TypeId}{vs:List Value}{ds:List (DataW H)}{ps:List MemPlace},(∀ t∈ts,P.readableRec t=true/\t<P.types.size)->
 DataW.TrodAll enc P W 0 (λ _=>true) true ts vs ds ps->(∀ x∈ps,x.block<W.heap.size)->∀sp:Nat->Bool,(∀ p∈ps,sp p.block=true)->DataW.TrodAll enc P W' 0 sp true ts vs ds ps
 |[],vs,ds,ps,_,hd,_,sp,_=>by
  obtain⟨rfl,rfl,rfl⟩:=trodAll_nil hd;exact trodAll_mk0
 |t::ts,vs,ds,ps,ht,hd,hlt,sp,hsp=>by
  obtain⟨v,vs',d,ds',p,q,rfl,rfl,rfl,h0,r0⟩:=trodAll_cons hd;obtain⟨h1,h2⟩:=ht t (by simp)
  exact trodAll_cons_mk (WideElems.Trod_stays hl h1 h2 h0 (λ x hx=>hb.same (hlt x (by simp[hx]))) (λ x hx=>hsp x (by simp[hx])))
   (Ku hl hb (λ t ht'=>ht t (by simp[ht'])) r0 (λ x hx=>hlt x (by simp[hx])) sp (λ x hx=>hsp x (by simp[hx])))
theorem Rn{w:World}{base:Nat}{sp:Nat->Bool}{held:Bool}:∀{ts:List TypeId}{vs:List Value}{ds:List (DataW H)}{ps:List MemPlace},DataW.TrodAll enc P w base sp held ts vs ds ps->ds.length=ts.length
 |[],_,_,_,h=>by
  obtain⟨_,rfl,_⟩:=trodAll_nil h;rfl
 |_::_,_,_,_,h=>by
  obtain⟨_,_,_,_,_,_,_,rfl,_,_,h2⟩:=trodAll_cons h;simp[Rn h2]
theorem ac5:∀{ts:List TypeId}{ds:List (DataW H)}{vt:List TypeId}{gs:List (DataW H)},ds.length=ts.length->∀k∈DataW.weightsEach P ts ds,k∈DataW.weightsEach P (ts++vt) (ds++gs)
 |[],[],_,_,_,k,h=>by simp[DataW.weightsEach]at h
 |t::ts,d::ds,vt,gs,hl,k,h=>by
  simp only[DataW.weightsEach,bf,cons_append]at h ⊢;rcases h with h |h
  ·exact .inl h
  ·exact .inr (ac5 (by simpa using hl) k h)
 |[],_::_,_,_,h,_,_=>by simp at h
 |_::_,[],_,_,h,_,_=>by simp at h
theorem aa9{cut:List TypeId}{C:Checked}{f:FuncId}{fn:Func}{s:ChangeSpec}{ss:List VS}{tb:TypeId}(hl:laidOutB C.prog=true)(hread:(fn.params.toList.all λt=>C.prog.readableRec t&&decide (t<C.prog.types.size))=true)
 (hss:fn.params.toList.mapM (IS C.prog cut)=some ss) (hvars:s.vars=[]) (hres:fn.resultTypes=#[tb]) (hb:C.prog.underlying tb=some .bool)
 (hs:∀ds:List (DataW H),ds.length=fn.params.toList.length->s.fn H ds={ results:=[.lit (.bool true)],args:=ds })
 {B:Nat->Prop} (Sp:∀xs,Vp ss xs->(∀ n,B n->xy xs<=n)->rb C.prog f (xs.map TV.av) (.one (.d (.s (.sc (.bool true))))))
 {W:World} {base:Nat} {args:Array Value} {ds gs:List (DataW H)} {before:List MemPlace}
 (hval:∀(j:Nat) t v,fn.params[j]? =some t->args[j]? =some v->Value.okWide C.prog W .any base t v)
 (hW:DataW.Whole enc C.prog fn.params.toList s.vars false W args.toList ds gs before)
 {vt:List TypeId} (hz:(DataW.weightsEach C.prog (fn.params.toList++vt) (ds++gs)).all (· <=reachBytes)=true) (hv:i7 W (Here W)) (hB:∀n,B n->∃K:Bk H,K.a ds<=n):
 Calls C.prog f args W λe W'=>∃v,e= .returned v/\s.post enc C.prog fn false true false false W args v W':=by
 have hW':=hW;obtain⟨p,q,hA,hV,rfl,_,_⟩:=hW;rw[hvars]at hV;obtain⟨rfl,rfl⟩:=trodVars_none hV;have hlen:=Rn hA;obtain⟨xs,g1,g2,g3⟩:=ZG hss (λ j t v h1 h2=>hval j t v (by simpa using h1) (by simpa using h2)) hA (λ k hk=>by
  have:=all_eq_true.1 hz k (ac5 hlen k hk);simpa using this)
 simp only[append_nil]at hW';have hlt:∀x∈p,x.block<W.heap.size:=λx hx=>hW'.lt x hx;refine((Sp xs g2 (λ n hn=>by have⟨K,hK⟩:=hB n hn;exact Nat.le_trans (g3 K) hK)).2 W (Here W) args (λ _ h=>h) hv (Rm _ _ g1)).mono λe W' ⟨v,I',he,hbel,_,_,_,hr⟩=>⟨v,he,?_⟩;simp only[ro,yd,rm,TR]at hr;obtain⟨rfl,_⟩:=hr;have hfn:s.fn H (ds++[])={ results:=[.lit (.bool true)],args:=ds }:=by rw[append_nil];exact hs ds hlen
 refine afF (pa:=p) (pv:=[]) hW' (λ b sp hd=>?_) (λ sp hsp=>?_) (λ sp _=>?_) (by simp) hbel (ok_one (by rw[hres]) rfl (okWide_bool_mk hb _))
 ·rw[hfn,hres];exact trodAll_mk1 (shut_bool hb _)
 ·rw[hfn];refine Ku hl hbel (λ t ht=>?_) hA hlt sp hsp;have:=all_eq_true.1 hread t ht;simpa using this
 ·rw[hfn,hvars];rfl
end
def VM:Ax->TypeDesc->Bool
 | .slice e,.slice e'=>e==e'
 | .arr n e,.array n' e'=>n==n'&&e==e'
 | .struct fs,.struct fa=>fa.toList.map (λ f=>(f.offset,f.type))==fs
 | .bool,.bool=>true
 | .str,.string=>true
 | .int k,.int k'=>k==k'
 | .map k e,.map k' e'=>k==k'&&e==e'
 | .other,_=>true
 |_,_=>false
def W0:Value->Value->Bool
 | .int k a,.int k' b=>k==k'&&a==b
 | .bool a,.bool b=>a==b
 | .string a,.string b=>decide (a=b)
 | .slice none 0 0,.slice none 0 0=>true
 | .pointer none,.pointer none=>true
 | .nilFunc,.nilFunc=>true
 | .nilIface,.nilIface=>true
 | .map none,.map none=>true
 |_,_=>false
theorem ac6{a b:Value}(h:W0 a b=true):a=b:=by
 unfold W0 at h;split at h<;>simp_all
def Pv:List Value->List Value->Bool
 |[],[]=>true
 |a::as,b::bs=>W0 a b&&Pv as bs
 |_,_=>false
theorem MF:∀{a b:List Value},Pv a b=true->a=b
 |[],[],_=>rfl
 |a::as,b::bs,h=>by simp only[Pv,aK]at h;rw[ac6 h.1,MF h.2]
 |[],_::_,h=>by simp[Pv]at h
 |_::_,[],h=>by simp[Pv]at h
def WP(P:Program)(t:TypeId)(ti:nh):Bool:=
 match P.info? t,P.underlying t with
 |some info,some d=>match info.zero with
  |some z=>info.size==ti.size&&info.bytes==ti.bytes&&s7 d==ti.agg&&VM ti.k d&&ti.zero.all kh&&ti.zero.length==ti.size&&
   (ti.cmp.isEmpty || match d with
    | .struct fa=>!P.stoodInHeld t&&!P.eqGuardType P.depth t&&ga P 0 fa.toList ti.cmp
    | .array _ _=>ti.cmp==[9]&&!P.eqGuardType P.depth t
    |_=>false)&&Pv z.cells.toList ti.zero&&td ti.agg z
  |none=>false
 |_,_=>false
theorem afG{k:Ax}{d:TypeDesc}(h:VM k d=true):P4 k d:=by
 unfold VM at h;split at h
 ·simp only[beq_iff_eq]at h;subst h;rfl
 ·simp only[aK,beq_iff_eq]at h;obtain⟨rfl,rfl⟩:=h;rfl
 ·rename_i fs fa;exact⟨fa,rfl,by simpa using h⟩
 ·rfl
 ·rfl
 ·simp only[beq_iff_eq]at h;subst h;rfl
 ·simp only[aK,beq_iff_eq]at h;obtain⟨rfl,rfl⟩:=h;rfl
 ·trivial
 ·cases h
theorem ac7{P:Program}{t:TypeId}{ti:nh}(h:WP P t ti=true):lz P t ti:=by
 unfold WP at h;split at h
 ·rename_i info d h1 h2;split at h
  ·rename_i z h3;simp only[aK,beq_iff_eq]at h;obtain⟨⟨⟨⟨⟨⟨⟨⟨a1,a2⟩,a3⟩,a4⟩,a5⟩,a6⟩,a7⟩,a8⟩,a9⟩:=h;refine⟨⟨info,d,z,h1,h2,a1,a2,h3,MF a8,a3,afG a4⟩,a5,a6,λinfo' z' e1 e2=>by rw[h1]at e1;cases e1;rw[h3]at e2;cases e2;exact a9,λhne=>?_⟩;simp only[Bool.or_eq_true]at a7;rcases a7 with a7 |a7
   ·exact absurd (List.isEmpty_iff.1 a7) hne
   ·split at a7
    ·rename_i fa;simp only[aK,Bool.not_eq_true']at a7;exact .inl ⟨fa,h2,a7.1.1,a7.1.2,a7.2⟩
    ·simp only[aK,Bool.not_eq_true',beq_iff_eq]at a7;exact .inr a7
    ·cases a7
  ·cases h
 ·cases h
def Ro(l:List (TypeId×nh)):ea:=λt=>(l.find? λp=>p.1==t).map (·.2)
theorem akx{P:Program}{l:List (TypeId×nh)}(h:(l.all λp=>WP P p.1 p.2)=true):eY P (Ro l):=by
 intro t ti ht;simp only[Ro,dM]at ht;obtain⟨p,hp,rfl⟩:=ht;have h1:=List.find?_some hp;simp only[beq_iff_eq]at h1;subst h1;exact ac7 (all_eq_true.1 h p (List.mem_of_find?_eq_some hp))
inductive CT(ι:Type) where
 |int (k:IntKind)
 |bool
 |str
 |sl (e:CT ι)
 |st (i:ι)
 |any
 |mp (k v:CT ι)
 deriving DecidableEq
structure SE where
 ι:Type
 dec:DecidableEq ι
 T:ι->Type
 row:(i:ι)->T i->List Tree
instance (E:SE):DecidableEq E.ι:=E.dec
section
variable (E:SE)
@[reducible] def CT.T:CT E.ι->Type
 | .int _=>Int
 | .bool=>Bool
 | .str=>ByteArray
 | .sl e=>List (CT.T e)
 | .st i=>E.T i
 | .any=>Tree
 | .mp k v=>List (CT.T k×CT.T v)
def CT.row:(c:CT E.ι)->CT.T E c->List Tree
 | .int k,n=>[.sc (.int k n)]
 | .bool,b=>[.sc (.bool b)]
 | .str,s=>[.sc (.string s)]
 | .sl e,l=>[.sl (List.map (CT.row e) l)]
 | .st i,x=>E.row i x
 | .any,x=>[x]
 | .mp _ _,_=>[.sl []]
def CT.one{ι:Type}:CT ι->Bool
 | .st _=>false
 |_=>true
def CT.tv:(c:CT E.ι)->CT.T E c->TV
 | .int k,n=> .s (.sc (.int k n))
 | .bool,b=> .s (.sc (.bool b))
 | .str,s=> .s (.sc (.string s))
 | .sl e,l=> .s (.sl (List.map (CT.row E e) l))
 | .st i,x=> .a (E.row i x)
 | .any,x=> .s x
 | .mp _ _,_=> .s (.sl [])
def HL:List (CT E.ι)->Type
 |[]=>Unit
 |c::l=>CT.T E c×HL l
def HL.row:(l:List (CT E.ι))->HL E l->List Tree
 |[],_=>[]
 |c::l,h=>CT.row E c h.1++HL.row l h.2
def HL.nq:(l:List (CT E.ι))->HL E l->List TV
 |[],_=>[]
 |c::l,h=>CT.tv E c h.1::HL.nq l h.2
end
structure Arr(E:SE) where
 i:E.ι
 c:CT E.ι
 f:E.T i->List (CT.T E c)
 g:List (CT.T E c)->Option (E.T i)
structure SX extends SE where
 cQ:ι->List (CT ι)
 get:(i:ι)->T i->HL toSE (cQ i)
 make:(i:ι)->HL toSE (cQ i)->T i
 lR:∀i x,row i x=HL.row toSE (cQ i) (get i x)
 gd:∀i h,row i (make i h)=HL.row toSE (cQ i) h
 flat:∀i,(cQ i).all CT.one=true
 gv:Nat->Option ((c:CT ι)×CT.T toSE c)
 yv:∀g,(gv g).map (λ p=>CT.row toSE p.1 p.2)=(vn g).map λr=>r.map Tree.sc
 ar:TypeId->Option (Arr toSE):=λ_=>none
 apv:∀t a,ar t=some a->a.c.one=true/\(∀ x,row a.i x=((a.f x).map (CT.row toSE a.c)).flatten)/\∀l x,a.g l=some x->a.f x=l:=by intro t a h;cases h
section
variable (X:SX)
abbrev SX.C:=CT X.ι
abbrev SX.t(c:CT X.ι):Type:=CT.T X.toSE c
def CT.sz:CT X.ι->Nat
 | .st i=>(X.cQ i).length
 |_=>1
inductive DV where
 |c (t:CT X.ι) (x:CT.T X.toSE t)
 |agg (cs:List DV)
 |ez (vs:List DV)
 |own (k aa len:Nat)
 |ptr (k row aa:Nat)
 |qt (k:Nat) (n:Int) (aa:Nat)
 |tf (k row aa m:Nat) (n:Int)
 |rp (t:CT X.ι) (x:CT.T X.toSE t) (aa:Nat)
 |ws (t:CT X.ι) (x:CT.T X.toSE t) (aa m:Nat) (n:Int)
 |fn (f:FuncId) (first caps:List DV)
 |d7 (as:List (CT X.ι)) (r:CT X.ι) (φ:HL X.toSE as->Option (CT.T X.toSE r))
 |mp (k:Nat)
 |oz (k len:Nat)
 |raw (v:Value)
 |nil
 |ub
 |skip
 |undef
inductive bm where
 |cells (sz:Nat) (rows:List (List (DV X)))
 |d8 (c:CT X.ι) (l:List (CT.T X.toSE c))
 |map (kc vc:CT X.ι) (l:List (CT.T X.toSE kc×CT.T X.toSE vc))
structure de where
 env:List (Nat×DV X)
 obj:List (Nat×Option (bm X))
 nx:Nat
 log:List Nat
variable {X}
mutual
def den:DV X->AV
 | .c t x=>(CT.tv X.toSE t x).av
 | .agg cs=> .agg (bP cs)
 | .ez vs=> .ez (bP vs)
 | .own k aa len=> .own k aa len
 | .ptr k row aa=> .ptr k row aa
 | .qt k n aa=> .ptr k n.toNat aa
 | .tf k row aa _ n=> .ptr k row (aa+n.toNat)
 | .rp t x aa=> .ep (CT.row X.toSE t x) aa
 | .ws t x aa _ n=> .ep (CT.row X.toSE t x) (aa+n.toNat)
 | .fn f first caps=> .fn f (bP first) (bP caps)
 | .d7 as r φ=> .d7 λts u=>∃h x,φ h=some x/\ts=HL.nq X.toSE as h/\u=CT.tv X.toSE r x
 | .mp k=> .mp k
 | .oz k len=> .oz k len
 | .raw v=>cv v
 | .nil=> .cV
 | .ub=> .ub
 | .skip=> .undef
 | .undef=> .undef
def bP:List (DV X)->List AV
 |[]=>[]
 |x::xs=>den x::bP xs
end
theorem nQ:∀l:List (DV X),bP l=l.map den
 |[]=>rfl
 |x::xs=>by simp only[bP,aF,nQ xs]
def bI:bm X->aR
 | .cells sz rows=>⟨sz,rows.map bP⟩
 | .d8 c l=>⟨CT.sz X c,aI (l.map (CT.row X.toSE c))⟩
 | .map kc vc l=>⟨l.length,l.map λp=>[(CT.tv X.toSE kc p.1).av,(CT.tv X.toSE vc p.2).av]⟩
def iy(u:List (Nat×Option (bm X))):List (Nat×Option aR):=u.map λp=>(p.1,p.2.map bI)
def gA(o:List (Nat×Option (bm X)))(k:Nat):Option (bm X):=(lk o k).join
def eL(e:List (Nat×DV X))(t:Nat):DV X:=(lk e t).getD .undef
def de.st(s:de X):St:=⟨λ t=>den (eL s.env t),λk=>(gA s.obj k).map bI,λ_=>none⟩
def jw(a b:CT X.ι)(x:CT.T X.toSE a):Option (CT.T X.toSE b):=
 match decEq a b with
 |isTrue h=>some (h ▸ x)
 |isFalse _=>none
theorem rE{a b:CT X.ι}{x:CT.T X.toSE a}{y:CT.T X.toSE b}(h:jw a b x=some y):∃e:a=b,y=e ▸ x:=by
 unfold jw at h;split at h
 ·rename_i e _;injection h with h;exact⟨e,h.symm⟩
 ·cases h
def HL.cells:(l:List (CT X.ι))->HL X.toSE l->List (DV X)
 |[],_=>[]
 |c::l,h=> .c c h.1::HL.cells l h.2
theorem row_one{c:CT X.ι}(h:c.one=true)(x:CT.T X.toSE c):∃t,CT.row X.toSE c x=[t]/\CT.tv X.toSE c x= .s t:=by cases c<;>first |exact⟨_,rfl,rfl⟩ |cases h
theorem HL.qn:∀(l:List (CT X.ι))(h:HL X.toSE l),l.all CT.one=true->bP (HL.cells l h)=(HL.row X.toSE l h).map AV.t
 |[],_,_=>rfl
 |c::l,h,ha=>by
  simp only[all_cons,aK]at ha;obtain⟨t,h1,h2⟩:=row_one ha.1 h.1;simp only[HL.cells,bP,den,HL.row,h1,h2,TV.av,HL.qn l h.2 ha.2,cons_append,bR,aF]
theorem HL.oE:∀(l:List (CT X.ι))(h:HL X.toSE l),l.all CT.one=true->(HL.row X.toSE l h).length=l.length
 |[],_,_=>rfl
 |c::l,h,ha=>by
  simp only[all_cons,aK]at ha;obtain⟨t,h1,_⟩:=row_one ha.1 h.1;simp only[HL.row,h1,cons_append,bR,bG,HL.oE l h.2 ha.2]
theorem DL(c:CT X.ι)(x:CT.T X.toSE c):(CT.row X.toSE c x).length=CT.sz X c:=by
 cases c<;>try rfl
 rename_i i;exact(congrArg List.length (X.lR i x)).trans (HL.oE _ _ (X.flat i))
def uV:(c:CT X.ι)->CT.T X.toSE c->List (DV X)
 | .st i,x=>HL.cells (X.cQ i) (X.get i x)
 |c,x=>[.c c x]
theorem oO(c:CT X.ι)(x:CT.T X.toSE c):bP (uV c x)=(CT.row X.toSE c x).map AV.t:=by
 cases c<;>try rfl
 rename_i i;exact(HL.qn _ _ (X.flat i)).trans (congrArg (List.map AV.t) (X.lR i x).symm)
def vF:DV X->Bool
 | .agg _ | .ez _ | .undef | .skip | .raw _ | .c (.st _) _=>false
 |_=>true
theorem Rp{x:DV X}(h:vF x=true):oL (den x)=true:=by
 cases x<;>try rfl
 case c t x=>cases t<;>first |rfl |simp[vF]at h
 all_goals simp[vF]at h
def cellsD:DV X->Option (List (DV X))
 | .agg cs=>if cs.all vF then some cs else none
 | .c (.st i) x=>some (uV (.st i) x)
 | .ez _ | .undef | .skip | .raw _=>none
 |x=>some [x]
theorem ahM{l:List (DV X)}(h:l.all vF=true):(bP l).all oL=true:=by
 rw[nQ,List.all_map,all_eq_true];exact λx hx=>Rp (all_eq_true.1 h x hx)
theorem DR{x:DV X}{cs:List (DV X)}(h:cellsD x=some cs):cellsOf (den x)=some (bP cs):=by
 cases x
 case c t x=>
  cases t
  case st i=>
   simp only[cellsD,aA]at h;subst h;simp only[den,CT.tv,TV.av,cellsOf,oO];show(if ((X.row i x).map AV.t).all oL then some ((X.row i x).map AV.t)else none)=some ((X.row i x).map AV.t);rw[aX];rw[List.all_map,all_eq_true];exact λ_ _=>rfl
  all_goals simp only[cellsD,aA]at h;subst h;rfl
 case agg l=>
  simp only[cellsD]at h;split at h
  ·cases h;simp only[den,cellsOf];rw[aX (ahM ‹_›)]
  ·cases h
 all_goals simp only[cellsD,aA,reduceCtorEq]at h;try (subst h;rfl)
def tW:Value->DV X
 | .slice none 0 0=> .nil
 | .int k n=> .c (.int k) n
 | .bool b=> .c .bool b
 | .string s=> .c .str s
 |v=> .raw v
theorem ahN(v:Value):den (tW (X:=X) v)=cv v:=by
 unfold tW;split<;>rfl
theorem Cm(l:List Value):bP (l.map (tW (X:=X)))=l.map cv:=by
 rw[nQ,map_map];exact map_congr_left λv _=>ahN v
def YE(env:Nat->DV X):Operand->DV X
 | .tmp t=>env t
 | .const v=>tW v
 | .global g=>match X.gv g with
  |some p=> .rp p.1 p.2 0
  |none=> .undef
 | .func f=> .fn f [] []
theorem Vq(env:Nat->DV X)(x:Operand):den (YE env x)=ll (λ t=>den (env t)) x:=by
 cases x with
 |global g=>
  have h:=X.yv g;simp only[YE,ll];cases h1:X.gv g with
  |none=>
   rw[h1]at h;cases h2:vn g with
   |none=>rfl
   |some r=>rw[h2]at h;cases h
  |some p=>
   rw[h1]at h;cases h2:vn g with
   |none=>rw[h2]at h;cases h
   |some r=>
    rw[h2]at h;injection h with h;simp only[den,h]
 |const v=>exact ahN _
 |tmp t=>rfl
 |func f=>rfl
end
def bo{α:Type}(l:List α)(n:Int):Option α:=bif decide (0<=n)then l[n.toNat]? else none
def sub{α:Type}(l:List α)(aa len:Nat):List α:=(l.drop aa).take len
def cC(n:Int)(len:Nat):Bool:=decide (0<=n)&&decide (n<(len:Int))
def iA{α β:Type}(a:α)(f:α->β):β:=f a
def bQ(lo len ln n bytes:Nat):Bool:=decide (lo=len)&&decide (ln=n)&&decide ((len+n)*bytes<=140737488355328)&&decide (len+n<=maxLen)
def az(a b:Nat):Bool:=decide (a=b)
def AX(l h:Int)(len:Nat):Bool:=decide (0<=l)&&decide (l<=h)&&decide (h<=(len:Int))
def Vr(a b:ByteArray):Bool:=Op.bytesLess a.toList b.toList
def Vs(a b:ByteArray):Bool:=decide (a.size+b.size<=maxLen)
abbrev iN(n:Int):Int:=n
abbrev bN(b:Bool):Bool:=b
def Vt{A:Type}:List Bool->Option A->Option A
 |[],k=>k
 |c::cs,k=>bif c then Vt cs k else none
section
variable {X:SX} {A:Type}
abbrev KK(X:SX)(A:Type):=DV X->List (Nat×Option (bm X))->List Nat->List Nat->Option A
def WF(t:Bool)(x y:DV X):DV X:=
 match x,y with
 | .c a p,.c b q=>match decEq b a with
  |isTrue h=> .c a (bif t then p else h ▸ q)
  |isFalse _=>bif t then .c a p else .c b q
 |x,y=>bif t then x else y
def GZ(agg:Bool)(size:Nat)(cs:List (DV X)):Option (DV X):=
 if cs.length=size then(if agg then some (.agg cs)else match cs with |[x]=>if vF x then some x else none |_=>none)else none
def Nx(agg:Bool)(size:Nat)(c:CT X.ι)(y:CT.T X.toSE c)(aa:Nat):Option (DV X):=
 match c,y with
 | .st i,y=>if aa=0/\agg=true/\size=(X.cQ i).length then some (.c (.st i) y)else GZ agg size (((uV (.st i) y).drop aa).take size)
 |c,y=>GZ agg size (((uV c y).drop aa).take size)
def JR(d:DV X)(c:CT X.ι):Option (CT.T X.toSE c):=
 match d,c with
 | .c a x,c=>jw a c x
 | .nil,.sl _=>some []
 | .nil,.any=>some (.sl [])
 |_,_=>none
def yH:List (DV X)->(l:List (CT X.ι))->Option (HL X.toSE l)
 |[],[]=>some ()
 |d::ds,c::l=>(JR d c).bind λx=>(yH ds l).bind λh=>some (x,h)
 |_,_=>none
def DH(d:DV X)(i:X.ι):Option (CT.T X.toSE (.st i)):=
 match d with
 | .agg cs=>(yH cs (X.cQ i)).bind λh=>some (X.make i h)
 | .c a x=>jw a (.st i) x
 |_=>none
def dat(d:DV X)(c:CT X.ι):Option (CT.T X.toSE c):=
 match c with
 | .st i=>DH d i
 |c=>JR d c
def mk1(c:CT X.ι):List (DV X)->Option (CT.T X.toSE c)
 |[d]=>JR d c
 |_=>none
def G5(c:CT X.ι)(ds:List (DV X)):Option (CT.T X.toSE c):=
 match c with
 | .st i=>(yH ds (X.cQ i)).bind λh=>some (X.make i h)
 |c=>mk1 c ds
def IR(r:List (DV X))(aa:Nat)(cs:List (DV X)):List (DV X):=r.take aa++cs++r.drop (aa+cs.length)
variable (T:ea) (am:TypeId->Option (CT X.ι))
def P1(t:TypeId)(x:DV X)(get:Nat->Option (bm X))(k:KK X A):Option A:=
 (T t).bind λti=>match x with
 | .ptr kk row aa=>(get kk).bind λo=>match o with
  | .cells _ rows=>(rows[row]?).bind λr=>(GZ ti.agg ti.size ((r.drop aa).take ti.size)).bind λv=>k v [] [kk] []
  |_=>none
 | .qt kk n aa=>(get kk).bind λo=>match o with
  | .d8 c l=>(bo l n).bind λy=>(Nx ti.agg ti.size c y aa).bind λv=>k v [] [kk] []
  |_=>none
 | .rp c y aa=>(Nx ti.agg ti.size c y aa).bind λv=>k v [] [] []
 |_=>none
def PJ(t:TypeId)(x y:DV X)(get:Nat->Option (bm X))(k:KK X A):Option A:=
 (T t).bind λti=>(cellsD y).bind λcs=>if cs.length=ti.size then match x with
 | .ptr kk row aa=>(get kk).bind λo=>match o with
  | .cells sz rows=>(rows[row]?).bind λr=>if aa+cs.length<=r.length then k .undef [(kk,some (.cells sz (rows.set row (IR r aa cs))))] [kk] [kk]else none
  |_=>none
 | .qt kk n aa=>(get kk).bind λo=>match o with
  | .d8 c l=>(bo l n).bind λy=>if aa+cs.length<=CT.sz X c then(G5 c (IR (uV c y) aa cs)).bind λz=>k .undef [(kk,some (.d8 c (l.set n.toNat z)))] [kk] [kk]else none
  |_=>none
 |_=>none else none
def KP(t:TypeId)(x:DV X)(f:Nat)(k:KK X A):Option A:=
 (zR T t f).bind λp=>match x with
 | .ptr kk row aa=>k (.ptr kk row (aa+p.1)) [] [] []
 | .qt kk n aa=>k (.qt kk n (aa+p.1)) [] [] []
 | .rp c y aa=>k (.rp c y (aa+p.1)) [] [] []
 |_=>none
def Zs(t:TypeId)(x:DV X)(f:Nat)(k:KK X A):Option A:=
 (zR T t f).bind λp=>match x with
 | .agg cs=>(GZ p.2.agg p.2.size ((cs.drop p.1).take p.2.size)).bind λv=>k v [] [] []
 | .c (.st i) y=>(GZ p.2.agg p.2.size (((uV (.st i) y).drop p.1).take p.2.size)).bind λv=>k v [] [] []
 |_=>none
def KQ(t:TypeId)(x j:DV X)(get:Nat->Option (bm X))(k:KK X A):Option A:=
 (T t).bind λti=>match ti.k,j with
 | .slice e,.c (.int _) n=>(T e).bind λei=>match x with
  | .c (.sl c) l=>if CT.sz X c=ei.size then(bo l n).bind λy=>k (.rp c y 0) [] [] []else none
  | .own kk aa len=>(get kk).bind λo=>match o with
   | .d8 c _=>if CT.sz X c=ei.size then bif cC n len then k (.qt kk ((aa:Int)+iN n) 0) [] [kk] []else none else none
   | .cells sz _=>if sz=ei.size then bif cC n len then k (.ptr kk (aa+n.toNat) 0) [] [kk] []else none else none
   | .map _ _ _=>none
  |_=>none
 | .arr m e,.c (.int _) n=>(T e).bind λei=>bif cC n m then match x with
  | .ptr kk row aa=>k (.ptr kk row (aa+n.toNat*ei.size)) [] [] []
  | .qt kk r aa=>k (.qt kk r (aa+n.toNat*ei.size)) [] [] []
  | .rp c y aa=>k (.rp c y (aa+n.toNat*ei.size)) [] [] []
  |_=>none
  else none
 |_,_=>none
def Vu(x:DV X)(j:Nat)(k:KK X A):Option A:=
 match x with
 | .ez vs=>(vs[j]?).bind λv=>k v [] [] []
 |_=>none
def G6(op:BinOp)(kd:IntKind)(a b:Int):(DV X)×Option Bool:=
 match op with
 | .add=>(.c (.int kd) (kd.wrap (a+b)),none)
 | .sub=>(.c (.int kd) (kd.wrap (a -b)),none)
 | .mul=>(.c (.int kd) (kd.wrap (a*b)),none)
 | .quo=>(.c (.int kd) (kd.wrap (a.tdiv b)),some (b !=0))
 | .rem=>(.c (.int kd) (a.tmod b),some (b !=0))
 | .and=>(.c (.int kd) (bits .and kd a b),none)
 | .or=>(.c (.int kd) (bits .or kd a b),none)
 | .xor=>(.c (.int kd) (bits .xor kd a b),none)
 | .andNot=>(.c (.int kd) (bits .andNot kd a b),none)
 | .shl=>(.c (.int kd) (kd.wrap (a*2 ^ b.toNat)),some (decide (0<=b)&&decide (b<=kd.bits)))
 | .shr=>(.c (.int kd) (a/2 ^ b.toNat),some (decide (0<=b)&&decide (b<=kd.bits)))
 | .eql=>(.c .bool (a==b),none)
 | .neq=>(.c .bool (a !=b),none)
 | .lss=>(.c .bool (decide (a<b)),none)
 | .leq=>(.c .bool (decide (a<=b)),none)
 | .gtr=>(.c .bool (decide (a>b)),none)
 | .geq=>(.c .bool (decide (a>=b)),none)
def abb:Nat->DV X->DV X->Option Bool
 | 0,.c (.int j) a,.c (.int k) b=>if j=k then some (iN a==iN b)else none
 | 1,.c .bool a,.c .bool b=>some (bN a==bN b)
 | 2,.c .str a,.c .str b=>some (a.toList==b.toList)
 |_,_,_=>none
def vV:List Nat->List (DV X)->List (DV X)->Option Bool
 |[],[],[]=>some true
 |k::ks,x::xs,y::ys=>(abb k x y).bind λa=>(vV ks xs ys).bind λb=>some (a&&b)
 |_,_,_=>none
def Mn:DV X->Option (List (DV X))
 | .agg cs=>some cs
 | .c (.st i) y=>some (uV (.st i) y)
 |_=>none
def VC(op:BinOp)(t:TypeId)(x y:DV X)(k:KK X A):Option A:=
 match x,y with
 | .c (.int kd) a,.c (.int yk) b=>if kd=yk\/op= .shl\/op= .shr then match (G6 op kd a b:DV X×Option Bool).2 with
  |none=>k (G6 op kd a b).1 [] [] []
  |some g=>bif g then k (G6 op kd a b).1 [] [] []else none
  else none
 | .c .str a,.c .str b=>match op with
  | .eql=>k (.c .bool (a.toList==b.toList)) [] [] []
  | .neq=>k (.c .bool (!(a.toList==b.toList))) [] [] []
  | .lss=>k (.c .bool (Vr a b)) [] [] []
  | .gtr=>k (.c .bool (!(Vr a b || a.toList==b.toList))) [] [] []
  | .add=>bif Vs a b then k (.c .str (a++b)) [] [] []else none
  |_=>none
 | .c .bool a,.c .bool b=>(T t).bind λti=>match ti.k,op with
  | .bool,.eql=>k (.c .bool (bN a==bN b)) [] [] []
  | .bool,.neq=>k (.c .bool (!(bN a==bN b))) [] [] []
  |_,_=>none
 |x,y=>(Mn x).bind λxs=>(Mn y).bind λys=>(T t).bind λti=>if ti.cmp=[]then none else(vV ti.cmp xs ys).bind λb=>match op with
  | .eql=>k (.c .bool b) [] [] []
  | .neq=>k (.c .bool (!b)) [] [] []
  |_=>none
def PF(op:UnOp)(x:DV X)(k:KK X A):Option A:=
 match op,x with
 | .not,.c .bool b=>k (.c .bool (!b)) [] [] []
 | .neg,.c (.int kd) n=>k (.c (.int kd) (kd.wrap (0 -iN n))) [] [] []
 |_,_=>none
def Jm(mx:Bool)(kd:IntKind):Int->List (DV X)->Option Int
 |a,[]=>some a
 |a,.c (.int k') b::r=>if k'=kd then Jm mx kd (if mx then max a b else min a b) r else none
 |_,_=>none
def Ly(mx:Bool)(args:List (DV X))(k:KK X A):Option A:=
 match args with
 | .c (.int kd) a::r=>(Jm mx kd a r).bind λn=>k (.c (.int kd) n) [] [] []
 |_=>none
def Vc(t:TypeId)(x:DV X)(k:KK X A):Option A:=
 (T t).bind λti=>match ti.k,x with
 | .slice _,.c (.sl _) l=>k (.c (.int .i64) (l.length:Int)) [] [] []
 | .slice _,.own _ _ len=>k (.c (.int .i64) (len:Int)) [] [] []
 | .slice _,.oz _ len=>k (.c (.int .i64) (len:Int)) [] [] []
 | .slice _,.nil=>k (.c (.int .i64) (0:Int)) [] [] []
 | .str,.c .str s=>k (.c (.int .i64) (s.size:Int)) [] [] []
 |_,_=>none
def ZH(place:Nat->Option (Nat×Nat)):List (DV X)->List (Nat×DV X)->Option (List (DV X))
 |cells,[]=>some cells
 |cells,(j,x)::ag=>(place j).bind λp=>(cellsD x).bind λcs=>
  if cs.length=p.2/\p.1+cs.length<=cells.length then ZH place (IR cells p.1 cs) ag else none
def YY(t:TypeId)(parts:List (Nat×DV X))(k:KK X A):Option A:=
 (T t).bind λti=>match ti.k with
 | .struct fs=>if fs.all (λ p=>(T p.2).isSome)then
  (ZH (λ j=>(fs[j]?).bind λp=>(T p.2).bind λui=>some (p.1,ui.size)) (ti.zero.map tW) parts).bind λcells=>k (.agg cells) [] [] []else none
 | .arr _ e=>(T e).bind λei=>(ZH (λ j=>some (j*ei.size,ei.size)) (ti.zero.map tW) parts).bind λcells=>k (.agg cells) [] [] []
 |_=>none
def Jx(c:CT X.ι):Nat->List (Nat×DV X)->Option (List (CT.T X.toSE c))
 |_,[]=>some []
 |n,(j,x)::r=>if j=n then(dat x c).bind λy=>(Jx c (n+1) r).bind λl=>some (y::l)else none
def G7(i:Nat)(t:TypeId)(len:Nat)(parts:List (Nat×DV X))(k:KK X A):Option A:=
 (T t).bind λti=>match ti.k with
 | .slice e=>(T e).bind λei=>(am e).bind λc=>if ei.size=0\/len*ei.size>2 ^ 24\/CT.sz X c≠ei.size\/parts.length≠len then none else
  (Jx c 0 parts).bind λl=>k (.own (cJ i) 0 len) [(cJ i,some (.d8 c l))] [] []
 |_=>none
def Ys(i:Nat)(e:TypeId)(k:KK X A):Option A:=
 (T e).bind λti=>k (.ptr (cJ i) 0 0) [(cJ i,some (.cells ti.size [ti.zero.map tW]))] [] []
def UV(i:Nat)(x:DV X)(k:KK X A):Option A:=
 (cellsD x).bind λcs=>k (.ptr (cJ i) 0 0) [(cJ i,some (.cells cs.length [cs]))] [] []
def At(d:Int):Option (DV X)->Option Int
 |none=>some d
 |some (.c (.int _) n)=>some n
 |_=>none
def X2(t:TypeId)(x:DV X)(lo hi:Option (DV X))(get:Nat->Option (bm X))(k:KK X A):Option A:=
 (T t).bind λti=>match ti.k with
 | .slice e=>(T e).bind λei=>match x with
  | .own kk aa len=>(get kk).bind λo=>if (bI o).sz=ei.size then(At 0 lo).bind λl=>(At len hi).bind λh=>
   bif AX l h len then k (.own kk (aa+l.toNat) (h.toNat -l.toNat)) [] [kk] []else none else none
  | .c (.sl c) xs=>if CT.sz X c=ei.size then(At 0 lo).bind λl=>(At xs.length hi).bind λh=>
   bif AX l h xs.length then k (.c (.sl c) (sub xs l.toNat (h.toNat -l.toNat))) [] [] []else none else none
  |_=>none
 |_=>none
def UT(y:DV X)(c:CT X.ι)(get:Nat->Option (bm X)):Option (Nat×List (CT.T X.toSE c)×List Nat):=
 match y with
 | .own kk aa len=>(get kk).bind λo=>match o with
  | .d8 b l=>(jw (.sl b) (.sl c) l).bind λl=>some (len,sub l aa len,[kk])
  |_=>none
 | .c b l=>(jw b (.sl c) l).bind λ(l:List (CT.T X.toSE c))=>some (l.length,l,[])
 |_=>none
def Vv{α:Type}:Nat->List α->List α
 | 0,l=>l
 |n+1,l=>l.drop (n+1)
def abd(i:Nat)(t:TypeId)(x y:DV X)(get:Nat->Option (bm X))(k:KK X A):Option A:=
 (T t).bind λti=>match ti.k with
 | .slice e=>(T e).bind λei=>(am e).bind λc=>if CT.sz X c=ei.size then(UT y c get).bind λs=>match x with
  | .own kk aa len=>(get kk).bind λo=>match o with
   | .d8 b l=>(jw (.sl b) (.sl c) l).bind λ(l:List (CT.T X.toSE c))=>bif bQ (Vv aa l).length len s.2.1.length s.1 ei.bytes then iA (Vv aa l++s.2.1) λr=>k (.own (cJ i) 0 r.length) [(cJ i,some (.d8 c r)),(kk,none)] (kk::s.2.2) [kk]else none
   |_=>none
  | .nil=>bif bQ 0 0 s.2.1.length s.1 ei.bytes then iA s.2.1 λr=>k (.own (cJ i) 0 r.length) [(cJ i,some (.d8 c r))] s.2.2 []else none
  |_=>none
  else none
 |_=>none
def Vw(i:Nat)(b:Builtin)(args:List (DV X))(cQ:List TypeId)(get:Nat->Option (bm X))(k:KK X A):Option A:=
 match b,args,cQ with
 | .len,[x],[t]=>Vc T t x k
 | .max,args,_=>Ly true args k
 | .min,args,_=>Ly false args k
 | .append,[x,y],[t,u]=>if t=u then abd T am i t x y get k else none
 |_,_,_=>none
def Lw(i:Nat)(o:Op)(ρ:Operand->DV X)(get:Nat->Option (bm X))(k:KK X A):Option A:=
 match o with
 | .move x=>k (ρ x) [] [] []
 | .assign x=>k (ρ x) [] [] []
 | .pick c a b=>match ρ c with | .c .bool t=>k (WF t (ρ a) (ρ b)) [] [] [] |_=>none
 | .alloc e=>Ys T i e k
 | .box _ x=>UV i (ρ x) k
 | .build t parts=>YY T t (parts.toList.map λp=>(p.1,ρ p.2)) k
 | .buildSlice t len parts=>G7 T am i t len (parts.toList.map λp=>(p.1,ρ p.2)) k
 | .load t a=>P1 T t (ρ a) get k
 | .store t a x=>PJ T t (ρ a) (ρ x) get k
 | .binOp op t x y _=>VC T op t (ρ x) (ρ y) k
 | .unOp op _ x=>PF op (ρ x) k
 | .makeFunc (.func f) first caps=>k (.fn f (first.toList.map ρ) (caps.toList.map ρ)) [] [] []
 | .slice t x lo hi none=>X2 T t (ρ x) (lo.map ρ) (hi.map ρ) get k
 | .fieldAddr t x f=>KP T t (ρ x) f k
 | .field t x f=>Zs T t (ρ x) f k
 | .indexAddr t x j=>KQ T t (ρ x) (ρ j) get k
 | .extract x j=>Vu (ρ x) j k
 | .call { callee:= .builtin b,args:=args,argTypes:=cQ }=>Vw T am i b (args.toList.map ρ) cQ.toList get k
 |_=>none
end
section
variable {X:SX} {A:Type} {T:ea} {am:TypeId->Option (CT X.ι)} {get:Nat->Option (bm X)} {k:KK X A} {r:A} {i:Nat}
def fu(get:Nat->Option (bm X)):Nat->Option aR:=λj=>(get j).map bI
theorem eD{rd:List Nat}{j:Nat}{o:bm X}(hj:j∈rd)(h:get j=some o):dI rd (fu get) j=some (bI o):=by simp[dI,hj,fu,h]
theorem kW(l:List (DV X)):(bP l).length=l.length:=by simp[nQ]
theorem j4(l:List (DV X))(a b:Nat):bP ((l.drop a).take b)=((bP l).drop a).take b:=by simp[nQ,map_take,map_drop]
theorem MH{α:Type}{l:List α}{n:Int}{x:α}(h:bo l n=some x):0<=n/\l[n.toNat]? =some x:=by
 unfold bo at h;by_cases hn:0<=n
 ·simpa[hn]using h
 ·simp[hn]at h
theorem aiN(t:Bool)(x y:DV X):den (WF t x y)=K0 t (den x) (den y):=by
 rw[UQ];have base:∀x y:DV X,den (bif t then x else y)=if t=true then den x else den y:=λx y=>by cases t<;>rfl
 unfold WF;split
 ·rename_i a p b q;split
  ·rename_i h _;subst h;cases t<;>rfl
  ·exact base _ _
 ·exact base _ _
theorem Cn{agg:Bool}{size:Nat}{cs:List (DV X)}{v:DV X}(h:GZ agg size cs=some v):part' agg size (bP cs)=some (den v):=by
 unfold GZ at h;unfold part';rw[kW];split at h
 ·rename_i hl;rw[aX hl];cases agg with
  |true=>simp only[if_true,aA]at h ⊢;subst h;rfl
  |false=>
   simp only[Bool.false_eq_true,if_false]at h ⊢
   match cs,h with
   |[x],h=>
    simp only at h;split at h
    ·rename_i hx;cases h;simp only[bP];rw[aX (Rp hx)]
    ·cases h
   |[],h=>cases h
   |_::_::_,h=>cases h
 ·cases h
theorem Pw{agg:Bool}{size aa:Nat}{c:CT X.ι}{y:CT.T X.toSE c}{v:DV X}(h:GZ agg size (((uV c y).drop aa).take size)=some v):part' agg size ((((CT.row X.toSE c y).drop aa).take size).map AV.t)=some (den v):=by
 have:=Cn h;rw[j4,oO]at this;rw[<- this,map_take,map_drop]
theorem ZI{agg:Bool}{size aa:Nat}{c:CT X.ι}{y:CT.T X.toSE c}{v:DV X}(h:Nx agg size c y aa=some v):part' agg size ((((CT.row X.toSE c y).drop aa).take size).map AV.t)=some (den v):=by
 cases c
 case st j=>
  simp only[Nx]at h;split at h
  ·rename_i hh;obtain⟨rfl,rfl,rfl⟩:=hh;cases h;have hl:(CT.row X.toSE (.st j) y).length=(X.cQ j).length:=DL (.st j) y;rw[List.drop_zero,take_of_length_le (by omega)];unfold part';rw[aX (by simpa using hl)];rfl
  ·exact Pw h
 all_goals exact Pw h
theorem aiO{t:TypeId}{x:DV X}(h:P1 T t x get k=some r):∃cx rd dv ab,Kl T t (den x) cx (dI rd (fu get))=some ab/\jq ab.obs/\ab.v=den dv/\ab.upd=[]/\k dv [] rd []=some r:=by
 unfold P1 at h;unfold Kl;rw[ai]at h;obtain⟨ti,h1,h⟩:=h;simp only[h1,af];split at h
 ·rename_i kk row aa;rw[ai]at h;obtain⟨o,h2,h⟩:=h;split at h
  ·rename_i sz rows;rw[ai]at h;obtain⟨rw',h3,h⟩:=h;rw[ai]at h;obtain⟨v,h4,h⟩:=h;refine⟨.none,[kk],v,⟨den v,[],[]⟩,?_,trivial,rfl,rfl,h⟩;have h5:=Cn h4;rw[j4]at h5;simp[den,eD (List.mem_singleton_self kk) h2,bI,h3,h5,pv]
  ·cases h
 ·rename_i kk n aa;rw[ai]at h;obtain⟨o,h2,h⟩:=h;split at h
  ·rename_i c l;rw[ai]at h;obtain⟨y,h3,h⟩:=h;rw[ai]at h;obtain⟨v,h4,h⟩:=h;have⟨_,h6⟩:=MH h3;refine⟨.row ((CT.row X.toSE c y).map AV.t),[kk],v,⟨den v,[],[(aI (l.map (CT.row X.toSE c)))[n.toNat]? =some ((CT.row X.toSE c y).map AV.t)]⟩,?_,?_,rfl,rfl,h⟩
   ·have h5:=ZI h4;rw[map_take,map_drop]at h5;simp only[den,eD (List.mem_singleton_self kk) h2,af,bI,h5,my]
   ·simp[jq,aI,h6]
  ·cases h
 ·rename_i c y aa;have⟨v,h4,h⟩:=ai.1 h;refine⟨.none,[],v,⟨den v,[],[]⟩,?_,trivial,rfl,rfl,h⟩;simp only[den,ZI h4,af,pv]
 ·cases h
theorem Vx(a:List (DV X))(aa:Nat)(cs:List (DV X)):bP (IR a aa cs)=put' (bP a) aa (bP cs):=by simp[IR,put',nQ,map_take,map_drop]
theorem om{a c:CT X.ι}{x:CT.T X.toSE a}{y:CT.T X.toSE c}(h:jw a c x=some y):den (.c a x)=den (.c c y)/\CT.row X.toSE a x=CT.row X.toSE c y:=by
 have⟨e,h⟩:=rE h;subst e;subst h;exact⟨rfl,rfl⟩
theorem N6{c:CT X.ι}(hc:c.one=true)(x:CT.T X.toSE c):[(CT.tv X.toSE c x).av]=(CT.row X.toSE c x).map AV.t:=by
 obtain⟨t,h1,h2⟩:=row_one hc x;rw[h1,h2];rfl
theorem anU{c:CT X.ι}(x:CT.T X.toSE c):wk (CT.tv X.toSE c x).av=(CT.tv X.toSE c x).av:=by cases c<;>rfl
theorem vW{d:DV X}{c:CT X.ι}{x:CT.T X.toSE c}(h:JR d c=some x):wk (den d)=(CT.tv X.toSE c x).av:=by
 unfold JR at h;split at h
 ·rw[(om h).1];exact anU x
 ·cases h;rfl
 ·cases h;rfl
 ·cases h
theorem abf{d:DV X}{c:CT X.ι}{x:CT.T X.toSE c}(hc:c.one=true)(h:JR d c=some x):vF d=true:=by
 cases d
 case c a y=>
  obtain⟨e,_⟩:=rE (show jw a c y=some x by cases c<;>exact h);subst e;cases a<;>first |rfl |simp[CT.one]at hc
 case nil=>rfl
 all_goals cases c<;>cases h
theorem yI:∀{ds:List (DV X)}{l:List (CT X.ι)}{h:HL X.toSE l},yH ds l=some h->l.all CT.one=true->(bP ds).map wk=(HL.row X.toSE l h).map AV.t/\ds.all vF=true
 |[],[],h,_,_=>⟨rfl,rfl⟩
 |d::ds,c::l,h,hr,ha=>by
  simp only[yH]at hr;have⟨x,h1,hr⟩:=ai.1 hr;have⟨g,h2,hr⟩:=ai.1 hr;cases hr;simp only[all_cons,aK]at ha ⊢;have⟨i1,i2⟩:=yI h2 ha.2;simp only[bP,aF,HL.row,List.map_append,i1,vW h1,i2,and_true,abf ha.1 h1];simp[<- N6 ha.1 x]
 |[],_::_,_,hr,_=>by simp[yH]at hr
 |_::_,[],_,hr,_=>by simp[yH]at hr
theorem Vy(j:X.ι)(h:HL X.toSE (X.cQ j)):CT.row X.toSE (.st j) (X.make j h)=HL.row X.toSE (X.cQ j) h:=X.gd j h
theorem amF{c:CT X.ι}(hc:c.one=true){ds:List (DV X)}{x:CT.T X.toSE c}(h:mk1 c ds=some x):(bP ds).map wk=(CT.row X.toSE c x).map AV.t:=by
 match ds,h with
 |[d],h=>
  rw[<- N6 hc x];simp only[bP,aF,map_nil,vW h]
 |[],h=>cases h
 |_::_::_,h=>cases h
theorem yj{c:CT X.ι}{ds:List (DV X)}{x:CT.T X.toSE c}(h:G5 c ds=some x):(bP ds).map wk=(CT.row X.toSE c x).map AV.t:=by
 cases c
 case st j=>
  simp only[G5]at h;have⟨g,h1,h⟩:=ai.1 h;cases h;rw[(yI h1 (X.flat j)).1,Vy]
 all_goals exact amF rfl h
theorem afM{d:DV X}{c:CT X.ι}(hc:c.one=true){x:CT.T X.toSE c}(h:JR d c=some x):∃cs,cellsOf (den d)=some cs/\cs.map wk=(CT.row X.toSE c x).map AV.t:=by
 have hk:=abf hc h;have hd:=vW h;have he:cellsOf (den d)=some [den d]:=by
  have:=DR (x:=d) (cs:=[d]) (by
   cases d
   case c t y=>cases t<;>first |rfl |simp[vF]at hk
   all_goals first |rfl |simp[vF]at hk)
  simpa[bP]using this
 exact⟨_,he,by rw[<- N6 hc x];simp[hd]⟩
theorem aiP{d:DV X}{c:CT X.ι}{x:CT.T X.toSE c}(h:dat d c=some x):∃cs,cellsOf (den d)=some cs/\cs.map wk=(CT.row X.toSE c x).map AV.t:=by
 cases c
 case st j=>
  replace h:DH d j=some x:=h
  cases d
  case agg cs=>
   simp only[DH]at h;have⟨g,h1,h⟩:=ai.1 h;cases h;have⟨i1,i2⟩:=yI h1 (X.flat j);refine⟨bP cs,?_,by rw[i1,Vy]⟩;simp only[den,cellsOf];rw[aX (ahM i2)]
  case c a y=>
   replace h:jw a (.st j) y=some x:=h
   rw[(om h).1];refine⟨(CT.row X.toSE (.st j) x).map AV.t,?_,?_⟩
   ·show cellsOf (.agg _)=_;simp only[cellsOf];rw[aX]
    ·rfl
    ·rw[List.all_map,all_eq_true];exact λ_ _=>rfl
   ·rw[map_map];rfl
  all_goals cases h
 all_goals exact afM rfl h
theorem aiQ{t:TypeId}{x y:DV X}(h:PJ T t x y get k=some r):∃cx kk u ab,UJ T t (den x) (den y) cx (dI [kk] (fu get))=some ab/\jq ab.obs/\ab.v= .undef/\ab.upd=iy [(kk,u)]/\k .undef [(kk,u)] [kk] [kk]=some r:=by
 unfold PJ at h;unfold UJ;rw[ai]at h;obtain⟨ti,h1,h⟩:=h;rw[ai]at h;obtain⟨cs,h2,h⟩:=h;simp only[h1,DR h2,af];split at h
 ·rename_i hl;have hdl:(bP cs).length=ti.size:=by rw[kW];exact hl
  simp only[hdl,if_true];split at h
  ·rename_i kk row aa;rw[ai]at h;obtain⟨o,h3,h⟩:=h;split at h
   ·rename_i sz rows;rw[ai]at h;obtain⟨rw',h4,h⟩:=h;split at h
    ·rename_i hle;refine⟨.none,kk,_,⟨.undef,_,[]⟩,?_,trivial,rfl,rfl,h⟩;simp only[den,eD (List.mem_singleton_self kk) h3,af,bI,List.getElem?_map,h4,Option.map_some,kW];rw[aX (by rw[<- hl];exact hle)];simp[Vx]
    ·cases h
   ·cases h
  ·rename_i kk n aa;rw[ai]at h;obtain⟨o,h3,h⟩:=h;split at h
   ·rename_i c l;rw[ai]at h;obtain⟨z,h4,h⟩:=h;split at h
    ·rename_i hle;have⟨z',h5,h⟩:=ai.1 h;have⟨_,h6⟩:=MH h4;refine⟨.set ((CT.row X.toSE c z).map AV.t) (aI ((l.set n.toNat z').map (CT.row X.toSE c))),kk,_,⟨.undef,_,[(aI (l.map (CT.row X.toSE c)))[n.toNat]? =some ((CT.row X.toSE c z).map AV.t)/\aI ((l.set n.toNat z').map (CT.row X.toSE c))=dW ((aI (l.map (CT.row X.toSE c))).set n.toNat (put' ((CT.row X.toSE c z).map AV.t) aa (bP cs)))]⟩,?_,?_,rfl,rfl,h⟩
     ·simp only[den,eD (List.mem_singleton_self kk) h3,af,bI];rw[aX (by rw[length_map,DL,<- hl];exact hle)];simp[bI]
     ·refine⟨by simp[aI,h6],?_⟩;have h7:=yj h5;rw[Vx,oO]at h7;have hid:dW (aI (l.map (CT.row X.toSE c)))=aI (l.map (CT.row X.toSE c)):=(by simp[dW,aI,Function.comp_def,wk]);simp only[dW,List.map_set,h7];have:(aI (l.map (CT.row X.toSE c))).map (List.map wk)=aI (l.map (CT.row X.toSE c)):=hid;rw[this];simp[aI]
    ·cases h
   ·cases h
  ·cases h
 ·cases h
theorem Px{t:TypeId}{x:DV X}{f:Nat}(h:KP T t x f k=some r):∃dv ab,yC T t (den x) f=some ab/\jq ab.obs/\ab.v=den dv/\ab.upd=[]/\k dv [] [] []=some r:=by
 unfold KP at h;unfold yC;rw[ai]at h;obtain⟨⟨d,u⟩,h1,h⟩:=h;simp only[h1,af];split at h
 ·exact⟨_,_,rfl,trivial,rfl,rfl,h⟩
 ·exact⟨_,_,rfl,trivial,rfl,rfl,h⟩
 ·exact⟨_,_,rfl,trivial,rfl,rfl,h⟩
 ·cases h
theorem abg{t:TypeId}{x:DV X}{f:Nat}(h:Zs T t x f k=some r):∃dv ab,UK T t (den x) f=some ab/\jq ab.obs/\ab.v=den dv/\ab.upd=[]/\k dv [] [] []=some r:=by
 unfold Zs at h;unfold UK;rw[ai]at h;obtain⟨⟨d,u⟩,h1,h⟩:=h;simp only[h1,af];split at h
 ·rw[ai]at h;obtain⟨v,h2,h⟩:=h;have h3:=Cn h2;rw[j4]at h3;exact⟨v,⟨den v,[],[]⟩,by simp only[den,h3,af,pv],trivial,rfl,rfl,h⟩
 ·rename_i j y;have⟨v,h2,h⟩:=ai.1 h;have h3:=Pw h2;rw[map_take,map_drop]at h3;refine⟨v,⟨den v,[],[]⟩,?_,trivial,rfl,rfl,h⟩;show(part' u.agg u.size (List.take u.size (List.drop d ((CT.row X.toSE (.st j) y).map AV.t)))).bind pv=_;rw[h3];rfl
 ·cases h
theorem dZ{α:Type}{b:Bool}{x:Option α}{r:α}(h:(bif b then x else none)=some r):b=true/\x=some r:=by
 cases b with
 |true=>exact⟨rfl,h⟩
 |false=>cases h
theorem Vz{n:Int}{len:Nat}(h:cC n len=true):0<=n/\n.toNat<len:=by simp only[cC,aK,aS]at h;omega
theorem pF{A:Type}:∀{cs:List Bool}{k:Option A}{r:A},Vt cs k=some r->(∀ c∈cs,c=true)/\k=some r
 |[],_,_,h=>⟨by simp,h⟩
 |c::cs,k,r,h=>by
  have⟨h1,h2⟩:=dZ h;have⟨h3,h4⟩:=pF h2;exact⟨λ x hx=>(aN.1 hx).elim (λ e=>e ▸ h1) (h3 x),h4⟩
theorem Py{t:TypeId}{x j:DV X}(h:KQ T t x j get k=some r):∃cx rd dv ab,lX T t (den x) (den j) cx (dI rd (fu get))=some ab/\jq ab.obs/\ab.v=den dv/\ab.upd=[]/\k dv [] rd []=some r:=by
 unfold KQ at h;unfold lX;rw[ai]at h;obtain⟨ti,h1,h⟩:=h;simp only[h1,af];split at h
 ·rename_i e kd n hk;rw[ai]at h;obtain⟨ei,h2,h⟩:=h;simp only[hk,den,CT.tv,TV.av,h2,af];split at h
  ·rename_i c l;split at h
   ·rename_i hs;rw[ai]at h;obtain⟨y,h3,h⟩:=h;have⟨h4,h5⟩:=MH h3;refine⟨.sE (CT.row X.toSE c y),[],_,⟨.ep (CT.row X.toSE c y) 0,[],[0<=n/\(l.map (CT.row X.toSE c))[n.toNat]? =some (CT.row X.toSE c y)]⟩,?_,?_,rfl,rfl,h⟩
    ·simp only[den,CT.tv,TV.av];rw[aX (by rw[DL];exact hs)];rfl
    ·exact⟨h4,by simp[h5]⟩
   ·cases h
  ·rename_i kk aa len;rw[ai]at h;obtain⟨o,h3,h⟩:=h;split at h
   ·rename_i c l;split at h
    ·rename_i hs;have⟨h4,h⟩:=dZ h;have⟨h5,h6⟩:=Vz h4;refine⟨.none,[kk],_,⟨.ptr kk (aa+n.toNat) 0,[],[0<=n/\n.toNat<len]⟩,?_,⟨h5,h6⟩,?_,rfl,h⟩
     ·simp only[den,eD (List.mem_singleton_self kk) h3,af,bI];rw[aX hs];rfl
     ·simp only[den,iN];congr 1;show aa+Int.toNat n=Int.toNat ((aa:Int)+n);have:(0:Int)<=n:=h5;omega
    ·cases h
   ·rename_i sz rows;split at h
    ·rename_i hs;have⟨h4,h⟩:=dZ h;have⟨h5,h6⟩:=Vz h4;refine⟨.none,[kk],_,⟨.ptr kk (aa+n.toNat) 0,[],[0<=n/\n.toNat<len]⟩,?_,⟨h5,h6⟩,rfl,rfl,h⟩;simp only[den,eD (List.mem_singleton_self kk) h3,af,bI];rw[aX hs];rfl
    ·cases h
   ·cases h
  ·cases h
 ·rename_i m e kd n hk;have⟨ei,h2,h⟩:=ai.1 h;simp only[hk,den,CT.tv,TV.av,h2,af];have⟨h4,h⟩:=dZ h;have⟨h5,h6⟩:=Vz h4;split at h
  ·exact⟨.none,[],_,_,rfl,⟨h5,h6⟩,rfl,rfl,h⟩
  ·exact⟨.none,[],_,_,rfl,⟨h5,h6⟩,rfl,rfl,h⟩
  ·exact⟨.none,[],_,_,rfl,⟨h5,h6⟩,rfl,rfl,h⟩
  ·cases h
 ·cases h
theorem VA{x:DV X}{j:Nat}(h:Vu x j k=some r):∃dv ab,GJ (den x) j=some ab/\jq ab.obs/\ab.v=den dv/\ab.upd=[]/\k dv [] [] []=some r:=by
 unfold Vu at h;split at h
 ·have⟨v,h2,h⟩:=ai.1 h;refine⟨v,⟨den v,[],[]⟩,?_,trivial,rfl,rfl,h⟩;simp[GJ,den,nQ,h2,pv]
 ·cases h
end
section
variable {X:SX} {A:Type} {T:ea} {am:TypeId->Option (CT X.ι)} {get:Nat->Option (bm X)} {k:KK X A} {r:A} {i:Nat}
theorem abh{op:BinOp}{kd:IntKind}{a b:Int}:∃v obs,UI op kd a b=some (v,obs)/\den (G6 (X:=X) op kd a b).1= .t (.sc v)/\(∀ g,(G6 (X:=X) op kd a b).2=some g->g=true->jq obs)/\((G6 (X:=X) op kd a b).2=none->jq obs):=by
 cases op<;>refine⟨_,_,rfl,rfl,λg hg ht=>?_,λhn=>?_⟩<;>simp only[G6,aA,reduceCtorEq]at* <;>try trivial
 all_goals subst hg;simp_all [jq]
theorem ac9{n:Nat}{x y:DV X}{b:Bool}(h:abb n x y=some b):KN n (den x) (den y)=some b:=by
 unfold abb at h;split at h
 ·split at h
  ·cases h;simp only[den,CT.tv,TV.av,KN];rw[aX ‹_›]
  ·cases h
 ·exact h
 ·exact h
 ·cases h
theorem MI:∀{ks:List Nat}{xs ys:List (DV X)}{b:Bool},vV ks xs ys=some b->sP ks (bP xs) (bP ys)=some b
 |[],[],[],b,h=>h
 |k::ks,x::xs,y::ys,b,h=>by
  simp only[vV]at h;rw[ai]at h;obtain⟨p,h1,h⟩:=h;rw[ai]at h;obtain⟨q,h2,h⟩:=h;simp only[bP,sP,ac9 h1,MI h2,af,h]
 |[],_::_,_,_,h=>by simp[vV]at h
 |[],[],_::_,_,h=>by simp[vV]at h
 |_::_,[],_,_,h=>by simp[vV]at h
 |_::_,_::_,[],_,h=>by simp[vV]at h
theorem ada{x:DV X}{xs:List (DV X)}(h:Mn x=some xs):den x= .agg (bP xs):=by
 unfold Mn at h;split at h
 ·cases h;rfl
 ·rename_i j y;cases h;rw[oO];rfl
 ·cases h
theorem afN{op:BinOp}{t:TypeId}{x y:DV X}(h:VC T op t x y k=some r):∃dv ab,Yt T op t (den x) (den y)=some ab/\jq ab.obs/\ab.v=den dv/\ab.upd=[]/\k dv [] [] []=some r:=by
 unfold VC at h;split at h
 ·rename_i kd a yk b;split at h
  ·rename_i hk;have⟨v,obs,h1,h2,h3,h4⟩:=abh (X:=X) (op:=op) (kd:=kd) (a:=a) (b:=b);have fin:jq obs->k (G6 op kd a b).1 [] [] []=some r->∃dv ab,Yt T op t (den (.c (.int kd) a:DV X)) (den (.c (.int yk) b:DV X))=some ab/\jq ab.obs/\ab.v=den dv/\ab.upd=[]/\k dv [] [] []=some r:=by
    intro ho hkk;refine⟨_,⟨.t (.sc v),[],obs⟩,?_,ho,h2.symm,rfl,hkk⟩;simp only[den,CT.tv,TV.av,Yt];rw[aX hk,h1];rfl
   split at h
   ·rename_i hn;exact fin (h4 hn) h
   ·rename_i g hg;have⟨hgt,h⟩:=dZ h;exact fin (h3 g hg hgt) h
  ·cases h
 ·split at h
  ·exact⟨_,_,rfl,trivial,rfl,rfl,h⟩
  ·exact⟨_,_,rfl,trivial,rfl,rfl,h⟩
  ·exact⟨_,_,rfl,trivial,rfl,rfl,h⟩
  ·exact⟨_,_,rfl,trivial,rfl,rfl,h⟩
  ·have⟨hc,h⟩:=dZ h;exact⟨_,_,rfl,show _<=maxLen from of_decide_eq_true hc,rfl,rfl,h⟩
  ·cases h
 ·rw[ai]at h;obtain⟨ti,h1,h⟩:=h;split at h
  ·rename_i hk;refine⟨_,⟨.t (.sc (.bool _)),[],[]⟩,?_,trivial,rfl,rfl,h⟩;simp only[den,CT.tv,TV.av,Yt,h1,af,hk];rfl
  ·rename_i hk;refine⟨_,⟨.t (.sc (.bool _)),[],[]⟩,?_,trivial,rfl,rfl,h⟩;simp only[den,CT.tv,TV.av,Yt,h1,af,hk];rfl
  ·cases h
 ·rw[ai]at h;obtain⟨xs,h1,h⟩:=h;rw[ai]at h;obtain⟨ys,h2,h⟩:=h;rw[ai]at h;obtain⟨ti,h3,h⟩:=h;split at h
  ·cases h
  ·rename_i hc;have⟨b,h4,h⟩:=ai.1 h;have h5:=MI h4;rw[ada h1,ada h2];split at h
   ·refine⟨_,⟨.t (.sc (.bool b)),[],[]⟩,?_,trivial,rfl,rfl,h⟩;simp only[Yt,h3,af];rw[aQ hc,h5];rfl
   ·refine⟨_,⟨.t (.sc (.bool (!b))),[],[]⟩,?_,trivial,rfl,rfl,h⟩;simp only[Yt,h3,af];rw[aQ hc,h5];rfl
   ·cases h
theorem aiR{op:UnOp}{x:DV X}(h:PF op x k=some r):∃dv ab,Pl op (den x)=some ab/\jq ab.obs/\ab.v=den dv/\ab.upd=[]/\k dv [] [] []=some r:=by
 unfold PF at h;split at h
 ·exact⟨_,_,rfl,trivial,rfl,rfl,h⟩
 ·exact⟨_,_,rfl,trivial,rfl,rfl,h⟩
 ·cases h
theorem Rq(mx:Bool)(kd:IntKind):∀(l:List (DV X))(a n:Int),Jm mx kd a l=some n->Dx mx kd a (bP l)=some n
 |[],a,n,h=>h
 |x::l,a,n,h=>by
  cases x
  case c t y=>
   cases t
   case int k'=>
    simp only[Jm]at h;simp only[bP,den,CT.tv,TV.av,Dx];split at h
    ·rename_i hk;rw[aX hk];exact Rq mx kd l _ _ h
    ·cases h
   all_goals simp[Jm]at h
  all_goals simp[Jm]at h
theorem ZJ{mx:Bool}{args:List (DV X)}(h:Ly mx args k=some r):∃dv ab,GB mx (bP args)=some ab/\jq ab.obs/\ab.v=den dv/\ab.upd=[]/\k dv [] [] []=some r:=by
 unfold Ly at h;split at h
 ·rename_i kd a l;rw[ai]at h;obtain⟨n,h1,h⟩:=h;refine⟨_,⟨.t (.sc (.int kd n)),[],[]⟩,?_,trivial,rfl,rfl,h⟩;simp only[bP,den,CT.tv,TV.av,GB];have:=Rq mx kd l a n h1;simp only[this];rfl
 ·cases h
theorem afO{t:TypeId}{x:DV X}(h:Vc T t x k=some r):∃cx dv ab,As T t (den x) cx=some ab/\jq ab.obs/\ab.v=den dv/\ab.upd=[]/\k dv [] [] []=some r:=by
 unfold Vc at h;unfold As;rw[ai]at h;obtain⟨ti,h1,h⟩:=h;simp only[h1,af];split at h
 ·rename_i e c l hk;simp only[hk];exact⟨.num (l.length:Int),_,⟨.t (.sc (.int .i64 (l.length:Int))),[],[(l.length:Int)=((l.map (CT.row X.toSE c)).length:Int)]⟩,rfl,by simp[jq],rfl,rfl,h⟩
 ·rename_i hk;simp only[hk];exact⟨.none,_,_,rfl,trivial,rfl,rfl,h⟩
 ·rename_i hk;simp only[hk];exact⟨.none,_,_,rfl,trivial,rfl,rfl,h⟩
 ·rename_i hk;simp only[hk];exact⟨.none,_,_,rfl,trivial,rfl,rfl,h⟩
 ·rename_i hk;simp only[hk];exact⟨.none,_,_,rfl,trivial,rfl,rfl,h⟩
 ·cases h
theorem Pz(place:Nat->Option (Nat×Nat)):∀(parts:List (Nat×DV X))(cells ab:List (DV X)),ZH place cells parts=some ab->Fb place (bP cells) (parts.map λp=>(p.1,den p.2))=some (bP ab)
 |[],cells,ab,h=>by simp only[ZH,aA]at h;subst h;rfl
 |(j,x)::ag,cells,ab,h=>by
  simp only[ZH]at h;rw[ai]at h;obtain⟨⟨aa,size⟩,h1,h⟩:=h;rw[ai]at h;obtain⟨cs,h2,h⟩:=h;split at h
  ·rename_i hl;simp only[aF,Fb,h1,DR h2,af,kW];rw[aX hl,<- Vx];exact Pz place ag _ _ h
  ·cases h
theorem abj{t:TypeId}{parts:List (Nat×DV X)}(h:YY T t parts k=some r):∃dv ab,UL T t (parts.map λp=>(p.1,den p.2))=some ab/\jq ab.obs/\ab.v=den dv/\ab.upd=[]/\k dv [] [] []=some r:=by
 unfold YY at h;unfold UL;rw[ai]at h;obtain⟨ti,h1,h⟩:=h;simp only[h1,af];split at h
 ·rename_i fs hk;split at h
  ·rename_i ha;rw[ai]at h;obtain⟨cells,h2,h⟩:=h;have h3:=Pz _ _ _ _ h2;rw[Cm]at h3;refine⟨_,⟨.agg (bP cells),[],[]⟩,?_,trivial,rfl,rfl,h⟩;simp only[hk];rw[aX ha,h3];rfl
  ·cases h
 ·rename_i m e hk;rw[ai]at h;obtain⟨ei,h2,h⟩:=h;rw[ai]at h;obtain⟨cells,h3,h⟩:=h;have h4:=Pz _ _ _ _ h3;rw[Cm]at h4;refine⟨_,⟨.agg (bP cells),[],[]⟩,?_,trivial,rfl,rfl,h⟩;simp only[hk,h2,af,h4];rfl
 ·cases h
theorem ZK(size:Nat)(c:CT X.ι)(hs:CT.sz X c=size)(z:List AV):∀(parts:List (Nat×DV X))(n:Nat)(l:List (CT.T X.toSE c))(done:List (List AV)),Jx c n parts=some l->done.length=n->
 ∃css:List (List AV),L9 size (done++List.replicate parts.length z) (parts.map λp=>(p.1,den p.2))=some (done++css)/\css.map (λ r=>r.map wk)=aI (l.map (CT.row X.toSE c))
 |[],n,l,done,h,_=>by
  simp only[Jx,aA]at h;subst h;exact⟨[],by simp[L9],rfl⟩
 |(j,x)::ag,n,l,done,h,hd=>by
  simp only[Jx]at h;split at h
  ·rename_i hj;subst hj;have⟨y,h1,h⟩:=ai.1 h;have⟨l',h2,h⟩:=ai.1 h;cases h;have⟨cs,g1,g2⟩:=aiP h1;have hl:cs.length=size:=by
    have:=congrArg List.length g2;simp only[length_map,DL]at this;omega
   obtain⟨css,i1,i2⟩:=ZK size c hs z ag (j+1) l' (done++[cs]) h2 (by simp[hd]);refine⟨cs::css,?_,?_⟩
   ·simp only[aF,L9,g1,af];rw[aX ⟨hl,by simp;omega⟩];have:(done++List.replicate (ag.length+1) z).set j cs=done++[cs]++List.replicate ag.length z:=by
     rw[List.set_append_right _ _ (by omega),hd];simp[List.replicate_succ]
    simp only[bG,this,i1];simp
   ·simp only[aF,i2,g2,aI,aF]
  ·cases h
theorem MJ{t:TypeId}{len:Nat}{parts:List (Nat×DV X)}(h:G7 T am i t len parts k=some r):∃dv u ab,vT T i t len (parts.map λp=>(p.1,den p.2))=some ab/\jq ab.obs/\ab.v=den dv/\ab.upd=iy [(cJ i,u)]/\k dv [(cJ i,u)] [] []=some r:=by
 unfold G7 at h;unfold vT;rw[ai]at h;obtain⟨ti,h1,h⟩:=h;simp only[h1,af];split at h
 ·rename_i e hk;rw[ai]at h;obtain⟨ei,h2,h⟩:=h;rw[ai]at h;obtain⟨c,h3,h⟩:=h;simp only[hk,h2,af];split at h
  ·cases h
  ·rename_i hno;simp only[not_or,Decidable.not_not]at hno;obtain⟨n1,n2,n3,n4⟩:=hno;have⟨l,h4,h⟩:=ai.1 h;have⟨css,g1,g2⟩:=ZK ei.size c n3 (ei.zero.map cv) parts 0 l [] h4 rfl;simp only[bR,n4]at g1;refine⟨_,_,⟨.own (cJ i) 0 len,[(cJ i,some ⟨ei.size,dW css⟩)],[]⟩,?_,trivial,rfl,?_,h⟩
   ·rw[aQ (by simp only[not_or];exact⟨n1,n2⟩),g1];rfl
   ·simp only[iy,bI,aF,map_nil,Option.map_some,n3];rw[show dW css=aI (l.map (CT.row X.toSE c))from g2]
 ·cases h
theorem abk{e:TypeId}(h:Ys T i e k=some r):∃dv u ab,UM T i e=some ab/\jq ab.obs/\ab.v=den dv/\ab.upd=iy [(cJ i,u)]/\k dv [(cJ i,u)] [] []=some r:=by
 unfold Ys at h;unfold UM;have⟨ti,h1,h⟩:=ai.1 h;exact⟨_,_,⟨_,[(cJ i,some ⟨ti.size,[ti.zero.map cv]⟩)],[]⟩,by simp only[h1,af];rfl,trivial,rfl,by simp[iy,bI,Cm],h⟩
theorem afP{x:DV X}(h:UV i x k=some r):∃dv u ab,I0 i (den x)=some ab/\jq ab.obs/\ab.v=den dv/\ab.upd=iy [(cJ i,u)]/\k dv [(cJ i,u)] [] []=some r:=by
 unfold UV at h;unfold I0;rw[ai]at h;obtain⟨cs,h1,h⟩:=h;exact⟨_,_,⟨_,[(cJ i,some ⟨(bP cs).length,[bP cs]⟩)],[]⟩,by simp only[DR h1,af];rfl,trivial,rfl,by simp[iy,bI,kW],h⟩
theorem Co{d n:Int}{x:Option (DV X)}(h:At d x=some n):bnd d (x.map den)=some n:=by
 unfold At at h;split at h
 ·exact h
 ·exact h
 ·cases h
theorem ZL{l h:Int}{len:Nat}(hh:AX l h len=true):0<=l/\l<=h/\h<=(len:Int):=by simpa[AX,and_assoc]using hh
theorem abl{t:TypeId}{x:DV X}{lo hi:Option (DV X)}(h:X2 T t x lo hi get k=some r):∃cx rd dv ab,UN T t (den x) (lo.map den) (hi.map den) cx (dI rd (fu get))=some ab/\jq ab.obs/\ab.v=den dv/\ab.upd=[]/\k dv [] rd []=some r:=by
 unfold X2 at h;unfold UN;rw[ai]at h;obtain⟨ti,h1,h⟩:=h;simp only[h1,af];split at h
 ·rename_i e hk;rw[ai]at h;obtain⟨ei,h2,h⟩:=h;simp only[hk,h2,af];split at h
  ·rename_i kk aa len;rw[ai]at h;obtain⟨o,h3,h⟩:=h;split at h
   ·rename_i hs;rw[ai]at h;obtain⟨l,h4,h⟩:=h;rw[ai]at h;obtain⟨hh,h5,h⟩:=h;have⟨h6,h⟩:=dZ h;refine⟨.none,[kk],_,⟨.own kk (aa+l.toNat) (hh.toNat -l.toNat),[],[0<=l/\l<=hh/\hh<=(len:Int)]⟩,?_,ZL h6,rfl,rfl,h⟩;simp only[den,eD (List.mem_singleton_self kk) h3,af];rw[aX hs,Co h4,af,Co h5];rfl
   ·cases h
  ·rename_i c xs;split at h
   ·rename_i hs;have⟨l,h4,h⟩:=ai.1 h;have⟨hh,h5,h⟩:=ai.1 h;have⟨h6,h⟩:=dZ h;refine⟨.AD ((sub xs l.toNat (hh.toNat -l.toNat)).map (CT.row X.toSE c)),[],_,⟨.t (.sl ((sub xs l.toNat (hh.toNat -l.toNat)).map (CT.row X.toSE c))),[],[0<=l/\l<=hh/\hh<=((xs.map (CT.row X.toSE c)).length:Int)/\(sub xs l.toNat (hh.toNat -l.toNat)).map (CT.row X.toSE c)=((xs.map (CT.row X.toSE c)).drop l.toNat).take (hh.toNat -l.toNat)/\(∀ q∈xs.map (CT.row X.toSE c),q.length=ei.size)]⟩,?_,?_,rfl,rfl,h⟩
    ·simp only[den,CT.tv,TV.av,Co h4,af];have h7:bnd ((xs.map (CT.row X.toSE c)).length:Int) (hi.map den)=some hh:=by
      have:=Co h5;simpa using this
     rw[h7];rfl
    ·have⟨a1,a2,a3⟩:=ZL h6;refine⟨a1,a2,by simpa using a3,by simp[sub,map_take,map_drop],λq hq=>?_⟩;obtain⟨y,_,rfl⟩:=mem_map.1 hq;rw[DL];exact hs
   ·cases h
  ·cases h
 ·cases h
end
section
variable {X:SX} {A:Type} {T:ea} {am:TypeId->Option (CT X.ι)} {get:Nat->Option (bm X)} {k:KK X A} {r:A} {i:Nat}
theorem jf{b c:CT X.ι}{l:List (CT.T X.toSE b)}{l':List (CT.T X.toSE c)}(h:jw (.sl b) (.sl c) l=some l'):CT.sz X b=CT.sz X c/\l.map (CT.row X.toSE b)=l'.map (CT.row X.toSE c):=by
 have⟨e,h⟩:=rE h;cases e;subst h;exact⟨rfl,rfl⟩
theorem adb{y:DV X}{c:CT X.ι}{n:Nat}{l:List (CT.T X.toSE c)}{rd:List Nat}(h:UT y c get=some (n,l,rd))(hl:l.length=n)(rd':List Nat)(hrd:∀j∈rd,j∈rd'):
 ∃ob,UO (CT.sz X c) (den y) (dI rd' (fu get))=some (n,ob,aI (l.map (CT.row X.toSE c)))/\ob:=by
 unfold UT at h;split at h
 ·rename_i kk aa len;rw[ai]at h;obtain⟨o,h1,h⟩:=h;split at h
  ·rename_i b l0;rw[ai]at h;obtain⟨l1,h2,h⟩:=h;injection h with h;simp only[Prod.mk.injEq]at h;obtain⟨rfl,rfl,rfl⟩:=h;have⟨h3,h4⟩:=jf h2;refine⟨True,?_,trivial⟩;simp only[den,UO,eD (hrd kk (by simp)) h1,af,bI];rw[aX h3];simp only[h4,aA,Prod.mk.injEq,true_and];simp[aI,sub,map_take,map_drop]
  ·cases h
 ·rename_i b l0;have⟨l1,h2,h⟩:=ai.1 h;injection h with h;simp only[Prod.mk.injEq]at h;obtain⟨rfl,rfl,rfl⟩:=h;refine⟨∀ q∈l1.map (CT.row X.toSE c),q.length=CT.sz X c,?_,?_⟩
  ·rw[(om h2).1];simp only[den,CT.tv,TV.av,UO,length_map]
  ·intro q hq;obtain⟨z,_,rfl⟩:=mem_map.1 hq;exact DL c z
 ·cases h
theorem VB{lo len ln n bytes:Nat}(h:bQ lo len ln n bytes=true):lo=len/\ln=n/\(len+n)*bytes<=140737488355328/\len+n<=maxLen:=by simpa[bQ,and_assoc]using h
theorem pj{α:Type}(n:Nat)(l:List α):Vv n l=l.drop n:=by cases n<;>rfl
theorem YF{t:TypeId}{x y:DV X}(h:abd T am i t x y get k=some r):∃cx rd wr dv upd ab,zS T i t (den x) (den y) cx (dI rd (fu get))=some ab/\jq ab.obs/\ab.v=den dv/\ab.upd=iy upd/\(∀ p∈upd,p.1=cJ i\/p.1∈wr)/\k dv upd rd wr=some r:=by
 unfold abd at h;unfold zS;rw[ai]at h;obtain⟨ti,h1,h⟩:=h;simp only[h1,af];split at h
 ·rename_i e hk;rw[ai]at h;obtain⟨ei,h2,h⟩:=h;rw[ai]at h;obtain⟨c,h3,h⟩:=h;simp only[hk,h2,af];split at h
  ·rename_i hs;rw[ai]at h;obtain⟨⟨n,l,rd⟩,h4,h⟩:=h;split at h
   ·rename_i kk aa len;rw[ai]at h;obtain⟨o,h5,h⟩:=h;split at h
    ·rename_i b l0;have⟨l1,h6,h⟩:=ai.1 h;have⟨h7,h⟩:=dZ h;rw[pj]at h7 h;have hd:(aI (l1.map (CT.row X.toSE c))).drop aa=aI ((l1.drop aa).map (CT.row X.toSE c)):=(by simp[aI]);have⟨g1,g2,g3,g4⟩:=VB h7;have⟨h8,h9⟩:=jf h6;obtain⟨ob,i1,i2⟩:=adb h4 g2 (kk::rd) (λ j hj=>by simp[hj]);have i3:=eD (rd:=kk::rd) (by simp) h5
     refine⟨.rows (aI ((l1.drop aa++l).map (CT.row X.toSE c))),kk::rd,[kk],_,_,⟨.own (cJ i) 0 (aI ((l1.drop aa++l).map (CT.row X.toSE c))).length,[(cJ i,some ⟨ei.size,aI ((l1.drop aa++l).map (CT.row X.toSE c))⟩),(kk,none)],
      [ob/\(aI ((l1.drop aa).map (CT.row X.toSE c))).length=len/\(aI (l.map (CT.row X.toSE c))).length=n/\aI ((l1.drop aa++l).map (CT.row X.toSE c))=aI ((l1.drop aa).map (CT.row X.toSE c))++aI (l.map (CT.row X.toSE c))/\(len+n)*ei.bytes<=140737488355328/\len+n<=maxLen]⟩,?_,?_,?_,?_,?_,h⟩
     ·rw[hs]at i1;simp only[i1,af,den,i3,bI,h9,hd];rw[aX (by rw[h8,hs])]
     ·exact⟨i2,by simpa[aI]using g1,by simpa[aI]using g2,by simp[aI],g3,g4⟩
     ·simp[den,aI]
     ·simp[iy,bI,hs]
     ·intro p hp;simp only[aN,fq,or_false]at hp;rcases hp with rfl |rfl
      ·exact .inl rfl
      ·exact .inr (by simp)
    ·cases h
   ·have⟨h7,h⟩:=dZ h;have⟨g1,g2,g3,g4⟩:=VB h7;obtain⟨ob,i1,i2⟩:=adb h4 g2 rd (λ j hj=>hj)
    refine⟨.rows (aI (l.map (CT.row X.toSE c))),rd,[],_,_,⟨.own (cJ i) 0 (aI (l.map (CT.row X.toSE c))).length,[(cJ i,some ⟨ei.size,aI (l.map (CT.row X.toSE c))⟩)],
     [ob/\(aI (l.map (CT.row X.toSE c))).length=n/\aI (l.map (CT.row X.toSE c))=aI (l.map (CT.row X.toSE c))/\n*ei.bytes<=140737488355328/\n<=maxLen]⟩,?_,?_,?_,?_,?_,h⟩
    ·rw[hs]at i1;simp only[i1,af,den]
    ·exact⟨i2,by simpa[aI]using g2,rfl,by simpa using g3,by simpa using g4⟩
    ·simp[den,aI]
    ·simp[iy,bI,hs]
    ·intro p hp;simp only[aN,fq,or_false]at hp;rcases hp with rfl;exact .inl rfl
   ·cases h
  ·cases h
 ·cases h
def aoP(T:ea)(i:Nat)(o:Oper)(ρ:Operand->DV X)(get:Nat->Option (bm X))(k:KK X A)(r:A):Prop:=
 ∃cx rd wr dv upd ab,qa T i o cx (λ x=>den (ρ x)) (dI rd (fu get))=some ab/\jq ab.obs/\ab.v=den dv/\ab.upd=iy upd/\(∀ p∈upd,p.1=cJ i\/p.1∈wr)/\k dv upd rd wr=some r
theorem VD{b:Builtin}{args:List (DV X)}{cQ:List TypeId}(h:Vw T am i b args cQ get k=some r):∃cx rd wr dv upd ab,Ch T i b (bP args) cQ cx (dI rd (fu get))=some ab/\jq ab.obs/\ab.v=den dv/\ab.upd=iy upd/\(∀ p∈upd,p.1=cJ i\/p.1∈wr)/\k dv upd rd wr=some r:=by
 unfold Vw at h;unfold Ch;split at h
 ·have⟨cx,dv,ab,h1,h2,h3,h4,h5⟩:=afO h;exact⟨cx,[],[],dv,[],ab,h1,h2,h3,h4,by simp,h5⟩
 ·have⟨dv,ab,h1,h2,h3,h4,h5⟩:=ZJ h;exact⟨.none,[],[],dv,[],ab,h1,h2,h3,h4,by simp,h5⟩
 ·have⟨dv,ab,h1,h2,h3,h4,h5⟩:=ZJ h;exact⟨.none,[],[],dv,[],ab,h1,h2,h3,h4,by simp,h5⟩
 ·split at h
  ·rename_i htu;have⟨cx,rd,wr,dv,upd,ab,h1,h2⟩:=YF h;refine⟨cx,rd,wr,dv,upd,ab,?_,h2⟩;simp only[bP];rw[aX htu];exact h1
  ·cases h
 ·cases h
theorem Uq(ρ:Operand->DV X)(l:List Operand):l.map (λ x=>den (ρ x))=bP (l.map ρ):=by rw[nQ,map_map];rfl
theorem ZM{o:Oper}{ρ:Operand->DV X}(h:Lw T am i o.op ρ get k=some r):aoP T i o ρ get k r:=by
 obtain⟨dst,op,ty,ao,after,guard⟩:=o;unfold aoP qa;simp only at h;unfold Lw at h;split at h
 ·exact⟨.none,[],[],_,[],_,rfl,trivial,rfl,rfl,by simp,h⟩
 ·exact⟨.none,[],[],_,[],_,rfl,trivial,rfl,rfl,by simp,h⟩
 ·rename_i c a b;split at h
  ·rename_i t hc;refine⟨.none,[],[],_,[],⟨K0 t (den (ρ a)) (den (ρ b)),[],[]⟩,?_,trivial,(aiN t _ _).symm,rfl,by simp,h⟩;simp only[hc,den,CT.tv,TV.av,pv]
  ·cases h
 ·have⟨dv,u,ab,h1,h2,h3,h4,h5⟩:=abk h;exact⟨.none,[],[],dv,_,ab,h1,h2,h3,h4,by simp,h5⟩
 ·have⟨dv,u,ab,h1,h2,h3,h4,h5⟩:=afP h;exact⟨.none,[],[],dv,_,ab,h1,h2,h3,h4,by simp,h5⟩
 ·rename_i t parts;have⟨dv,ab,h1,h2,h3,h4,h5⟩:=abj h;refine⟨.none,[],[],dv,[],ab,?_,h2,h3,h4,by simp,h5⟩;rw[map_map]at h1;exact h1
 ·rename_i t len parts;have⟨dv,u,ab,h1,h2,h3,h4,h5⟩:=MJ h;refine⟨.none,[],[],dv,_,ab,?_,h2,h3,h4,by simp,h5⟩;rw[map_map]at h1;exact h1
 ·have⟨cx,rd,dv,ab,h1,h2,h3,h4,h5⟩:=aiO h;exact⟨cx,rd,[],dv,[],ab,h1,h2,h3,h4,by simp,h5⟩
 ·have⟨cx,kk,u,ab,h1,h2,h3,h4,h5⟩:=aiQ h;exact⟨cx,[kk],[kk],.undef,_,ab,h1,h2,h3,h4,by simp,h5⟩
 ·have⟨dv,ab,h1,h2,h3,h4,h5⟩:=afN h;exact⟨.none,[],[],dv,[],ab,h1,h2,h3,h4,by simp,h5⟩
 ·have⟨dv,ab,h1,h2,h3,h4,h5⟩:=aiR h;exact⟨.none,[],[],dv,[],ab,h1,h2,h3,h4,by simp,h5⟩
 ·rename_i f first caps
  refine⟨.none,[],[],_,[],⟨.fn f (first.toList.map λx=>den (ρ x)) (caps.toList.map λx=>den (ρ x)),[],[]⟩,rfl,trivial,?_,rfl,by simp,h⟩;simp only[den,Uq]
 ·rename_i t x lo hi;have⟨cx,rd,dv,ab,h1,h2,h3,h4,h5⟩:=abl h;refine⟨cx,rd,[],dv,[],ab,?_,h2,h3,h4,by simp,h5⟩;simp only[Option.map_map]at h1;exact h1
 ·have⟨dv,ab,h1,h2,h3,h4,h5⟩:=Px h;exact⟨.none,[],[],dv,[],ab,h1,h2,h3,h4,by simp,h5⟩
 ·have⟨dv,ab,h1,h2,h3,h4,h5⟩:=abg h;exact⟨.none,[],[],dv,[],ab,h1,h2,h3,h4,by simp,h5⟩
 ·have⟨cx,rd,dv,ab,h1,h2,h3,h4,h5⟩:=Py h;exact⟨cx,rd,[],dv,[],ab,h1,h2,h3,h4,by simp,h5⟩
 ·have⟨dv,ab,h1,h2,h3,h4,h5⟩:=VA h;exact⟨.none,[],[],dv,[],ab,h1,h2,h3,h4,by simp,h5⟩
 ·rename_i b args cQ;have⟨cx,rd,wr,dv,upd,ab,h1,h2⟩:=VD h;refine⟨cx,rd,wr,dv,upd,ab,?_,h2⟩;simp only[Uq];exact h1
 ·cases h
end
inductive Pt(ι:Type) where
 |v (c:CT ι)
 |o (k:Nat)
 |p (k:Nat)
 |nil
 |f (F:FuncId) (fs cs:List (Pt ι))
 |od (k:Nat)
 |mp (k:Nat)
 |oz (k:Nat)
 |a (ps:List (Pt ι))
inductive OP(ι:Type) where
 |l (c:CT ι)
 |m (k v:CT ι)
 |c (sz:Nat) (rows:List (List (Pt ι)))
section
variable {ι:Type}
mutual
def Pt.vars:Pt ι->List (CT ι)
 | .v c=>[c]
 | .a ps=>cP ps
 | .f _ fs cs=>cP fs++cP cs
 | .od _=>[.int .i64]
 |_=>[]
def cP:List (Pt ι)->List (CT ι)
 |[]=>[]
 |p::ps=>p.vars++cP ps
end
def gO:List (Nat×Pt ι)->List (CT ι)
 |[]=>[]
 |p::ps=>p.2.vars++gO ps
def vX:List (List (Pt ι))->List (CT ι)
 |[]=>[]
 |r::rs=>cP r++vX rs
def cH:List (Nat×OP ι)->List (CT ι)
 |[]=>[]
 |(_,.l c)::r=> .sl c::cH r
 |(_,.m k v)::r=> .mp k v::cH r
 |(_,.c _ rows)::r=>vX rows++cH r
end
section
variable {X:SX}
structure DC(X:SX) where
 c:CT X.ι
 x:CT.T X.toSE c
@[reducible] def VT:List (CT X.ι)->Type
 |[]=>Unit
 |[c]=>CT.T X.toSE c
 |c::c'::l=>CT.T X.toSE c×VT (c'::l)
def YG:(l:List (CT X.ι))->List (DC X)->Option (VT (X:=X) l)
 |[],[]=>some ()
 |[c],[d]=>jw d.c c d.x
 |c::c'::l,d::ds=>(jw d.c c d.x).bind λx=>(YG (c'::l) ds).bind λv=>some (x,v)
 |_,_=>none
def vY:(l:List (CT X.ι))->VT (X:=X) l->List (DC X)
 |[],_=>[]
 |[c],x=>[⟨c,x⟩]
 |c::c'::l,v=>⟨c,v.1⟩::vY (c'::l) v.2
theorem ade{d:DC X}{c:CT X.ι}{x:CT.T X.toSE c}(h:jw d.c c d.x=some x):(⟨c,x⟩:DC X)=d:=by
 obtain⟨a,y⟩:=d;have⟨e,h⟩:=rE h;simp only at e;subst e;subst h;rfl
theorem VE:∀{l:List (CT X.ι)}{ds:List (DC X)}{v:VT (X:=X) l},YG l ds=some v->vY l v=ds
 |[],[],_,_=>rfl
 |[c],[d],v,h=>by simp only[YG]at h;simp only[vY,ade h]
 |c::c'::l,d::ds,v,h=>by
  simp only[YG]at h;rw[ai]at h;obtain⟨x,h1,h⟩:=h;rw[ai]at h;obtain⟨v',h2,h⟩:=h;cases h;simp only[vY,ade h1,VE h2]
 |[],_::_,_,h=>by simp[YG]at h
 |[_],[],_,h=>by simp[YG]at h
 |[_],_::_::_,_,h=>by simp[YG]at h
 |_::_::_,[],_,h=>by simp[YG]at h
theorem VF{c:CT X.ι}(x:CT.T X.toSE c):jw c c x=some x:=by
 unfold jw;split
 ·rfl
 ·rename_i h _;exact absurd rfl h
def ZN(d:DC X):Nat:=match jw d.c (.int .i64) d.x with |some x=>Int.toNat x |none=>0
section
variable (dt:Nat->Nat)
mutual
def eP:Pt X.ι->List (DC X)->DV X×List (DC X)
 | .v _,L=>match L with
  |d::r=>(.c d.c d.x,r)
  |[]=>(.undef,[])
 | .o k,L=>(.own k 0 (dt k),L)
 | .p k,L=>(.ptr k 0 0,L)
 | .mp k,L=>(.mp k,L)
 | .oz k,L=>(.oz k (dt k),L)
 | .nil,L=>(.nil,L)
 | .f F fs cs,L=>(.fn F (lh fs L).1 (lh cs (lh fs L).2).1,(lh cs (lh fs L).2).2)
 | .od k,L=>match L with
  |d::r=>(.own k (ZN d) (dt k -ZN d),r)
  |[]=>(.undef,[])
 | .a ps,L=>(.agg (lh ps L).1,(lh ps L).2)
def lh:List (Pt X.ι)->List (DC X)->List (DV X)×List (DC X)
 |[],L=>([],L)
 |p::ps,L=>((eP p L).1::(lh ps (eP p L).2).1,(lh ps (eP p L).2).2)
end
def KR:List (Nat×Pt X.ι)->List (DC X)->List (Nat×DV X)
 |[],_=>[]
 |(t,p)::r,L=>(t,(eP dt p L).1)::KR r (eP dt p L).2
def vZ:List (List (Pt X.ι))->List (DC X)->List (List (DV X))×List (DC X)
 |[],L=>([],L)
 |r::rs,L=>((lh dt r L).1::(vZ rs (lh dt r L).2).1,(vZ rs (lh dt r L).2).2)
def dn:List (Nat×OP X.ι)->List (DC X)->List (Nat×Option (bm X))
 |[],_=>[]
 |(k,.l _)::r,L=>match L with
  |⟨.sl c',x⟩::L=>(k,some (.d8 c' x))::dn r L
  |_=>[]
 |(k,.m _ _)::r,L=>match L with
  |⟨.mp kc vc,x⟩::L=>(k,some (.map kc vc x))::dn r L
  |_=>[]
 |(k,.c sz rows)::r,L=>(k,some (.cells sz (vZ dt rows L).1))::dn r (vZ dt rows L).2
end
def lens:List (Nat×OP X.ι)->List (DC X)->List (Nat×Nat)
 |[],_=>[]
 |(k,.l _)::r,L=>match L with
  |⟨.sl _,x⟩::L=>(k,List.length x)::lens r L
  |_=>[]
 |(_,.m _ _)::r,L=>lens r (L.drop 1)
 |(_,.c _ rows)::r,L=>lens r (L.drop (vX rows).length)
def lj:Nat->List (Pt X.ι)->List (Nat×Pt X.ι)
 |_,[]=>[]
 |n,p::ps=>(n,p)::lj (n+1) ps
theorem PD:∀(n:Nat)(ps:List (Pt X.ι)),gO (lj n ps)=cP ps
 |_,[]=>rfl
 |n,p::ps=>by simp only[lj,gO,cP,PD (n+1) ps]
structure cX(X:SX) where
 py:List (Pt X.ι)
 iz:List (Nat×OP X.ι)
 fx:List (Pt X.ι)
 ix:List (Nat×OP X.ι)
 fn:VT (X:=X) (cP py++cH iz)->Option (VT (X:=X) (gO (lj 0 fx)++cH ix))
def DT(O:List (Nat×OP X.ι))(L:List (DC X))(k:Nat):Nat:=(lk (lens O L) k).getD 0
def VG(ps:List (Pt X.ι))(O:List (Nat×OP X.ι))(L:List (DC X)):List (DV X):=(lh (DT O (L.drop (cP ps).length)) ps (L.take (cP ps).length)).1
def Kf(ps:List (Pt X.ι))(O:List (Nat×OP X.ι))(L:List (DC X)):List (Nat×Option (bm X)):=dn (DT O (L.drop (cP ps).length)) O (L.drop (cP ps).length)
def yJ:List (DV X)->DV X
 |[d]=>d
 |ds=> .ez ds
def dF:List (Nat×Option (bm X))->List (Nat×bm X)
 |[]=>[]
 |(k,some o)::r=>(k,o)::dF r
 |(_,none)::r=>dF r
def sU(l:List (Nat×bm X)):List (Nat×aR):=l.map λp=>(p.1,bI p.2)
def cX.args(g:cX X)(v:VT (X:=X) (cP g.py++cH g.iz)):List (DV X):=VG g.py g.iz (vY _ v)
def cX.cE(g:cX X)(v:VT (X:=X) (cP g.py++cH g.iz)):List (Nat×bm X):=dF (Kf g.py g.iz (vY _ v))
def cX.res(g:cX X)(r:VT (X:=X) (gO (lj 0 g.fx)++cH g.ix)):DV X:=yJ (VG g.fx g.ix (vY _ r))
def cX.outs(g:cX X)(r:VT (X:=X) (gO (lj 0 g.fx)++cH g.ix)):List (Nat×bm X):=dF (Kf g.fx g.ix (vY _ r))
def Fi(P:Program)(f:FuncId)(g:cX X):Prop:=∀v r,g.fn v=some r->ye P f (bP (g.args v)) ((g.cE v).map λp=>bI p.2) (sU (g.outs r)) (den (g.res r))
end
inductive AT(ι:Type) where
 |d (c:CT ι)
 |ref (c:CT ι)
 |d7 (as:List (CT ι)) (r:CT ι)
 |mut (c:CT ι)
 |jz (c:CT ι)
 |nil
 deriving DecidableEq
def AT.im{ι:Type}:AT ι->Bool
 | .mut _ | .jz _=>true
 |_=>false
def AT.pl{ι:Type}:AT ι->Bool
 | .mut _ | .jz _ | .nil=>false
 |_=>true
inductive RT(ι:Type) where
 |d (c:CT ι)
 |fresh (e:CT ι)
 |whole (j:Nat)
 |mu (c:CT ι)
 |mr (c:CT ι)
 |mv
def RT.out{ι:Type}:RT ι->Bool
 | .mu _ | .mr _ | .mv=>true
 |_=>false
section
variable (X:SX)
@[reducible] def AT.T:AT X.ι->Type
 | .d c=>CT.T X.toSE c
 | .ref c=>CT.T X.toSE c
 | .d7 as r=>HL X.toSE as->Option (CT.T X.toSE r)
 | .mut c=>List (CT.T X.toSE c)
 | .jz c=>CT.T X.toSE c
 | .nil=>Unit
@[reducible] def RT.T:RT X.ι->Type
 | .d c=>CT.T X.toSE c
 | .fresh e=>List (CT.T X.toSE e)
 | .whole _=>Unit
 | .mu c=>List (CT.T X.toSE c)
 | .mr c=>CT.T X.toSE c
 | .mv=>Unit
@[reducible] def iG:List (AT X.ι)->Type
 |[]=>Unit
 |a::l=>AT.T X a×iG l
@[reducible] def sN:List (RT X.ι)->Type
 |[]=>Unit
 |[r]=>RT.T X r
 |r::r'::l=>RT.T X r×sN (r'::l)
structure bz where
 args:List (AT X.ι)
 res:List (RT X.ι)
 fn:iG X args->Option (sN X res)
 gen:Option (cX X):=none
variable {X}
def dP:Nat->(l:List (AT X.ι))->iG X l->List AV
 |_,[],_=>[]
 |n,.d c::l,a=>(CT.tv X.toSE c a.1).av::dP n l a.2
 |n,.ref c::l,a=> .ep (CT.row X.toSE c a.1) 0::dP n l a.2
 |n,.d7 as r::l,a=>den (.d7 as r a.1:DV X)::dP n l a.2
 |n,.mut _::l,a=> .own n 0 (List.length a.1)::dP (n+1) l a.2
 |n,.jz _::l,a=> .ptr n 0 0::dP (n+1) l a.2
 |n,.nil::l,a=> .cV::dP n l a.2
abbrev wh(l:List (AT X.ι))(a:iG X l):List AV:=dP 0 l a
def rF(c:CT X.ι)(l:List (CT.T X.toSE c)):eZ:=(CT.sz X c,l.map (CT.row X.toSE c))
def qd:(l:List (AT X.ι))->iG X l->List eZ
 |[],_=>[]
 | .mut c::l,a=>rF c a.1::qd l a.2
 | .jz c::l,a=>rF c [a.1]::qd l a.2
 | .d _::l,a=>qd l a.2
 | .ref _::l,a=>qd l a.2
 | .d7 _ _::l,a=>qd l a.2
 | .nil::l,a=>qd l a.2
def qf:(r:RT X.ι)->RT.T X r->List (Option eZ)
 | .mu c,x=>[some (rF c x)]
 | .mr c,x=>[some (rF c [x])]
 | .mv,_=>[none]
 |_,_=>[]
def nR:(l:List (RT X.ι))->sN X l->List (Option eZ)
 |[],_=>[]
 |[r],x=>qf r x
 |r::r'::l,x=>qf r x.1++nR (r'::l) x.2
def YH:(r:RT X.ι)->RT.T X r->List Nat
 | .mu _,x=>[List.length x]
 | .mr _,_=>[1]
 | .mv,_=>[0]
 |_,_=>[]
def xr:(l:List (RT X.ι))->sN X l->List Nat
 |[],_=>[]
 |[r],x=>YH r x
 |r::r'::l,x=>YH r x.1++xr (r'::l) x.2
def VH(ns:List Nat):(r:RT X.ι)->RT.T X r->List RC
 | .d c,x=>[.d (CT.tv X.toSE c x)]
 | .fresh e,l=>[.fresh (CT.sz X e) (l.map (CT.row X.toSE e))]
 | .whole j,_=>[.whole j (ns.getD j 0)]
 |_,_=>[]
def AY(ns:List Nat):(l:List (RT X.ι))->sN X l->List RC
 |[],_=>[]
 |[r],x=>VH ns r x
 |r::r'::l,x=>VH ns r x.1++AY ns (r'::l) x.2
def sV(l:List (RT X.ι))(x:sN X l):RV:=
 match AY (xr l x) l x with
 |[c]=> .one c
 |cs=> .ez cs
def sC(P:Program)(Γ:FuncId->Option (bz X)):Prop:=
 ∀f s,Γ f=some s->eO P f/\(∀ a r,s.fn a=some r->qq P f (wh s.args a) (qd s.args a) (nR s.res r) (sV s.res r))/\∀g,s.gen=some g->Fi P f g
theorem aoQ:∀{l:List (AT X.ι)},(l.all λq=>q.pl)=true->(l.all λq=>!q.im)=true:=λ{l} h=>by
 rw[all_eq_true]at h ⊢;intro q hq;have:=h q hq;cases q<;>simp_all [AT.pl,AT.im]
theorem wm:∀{l:List (AT X.ι)}{a:iG X l},(l.all λq=>!q.im)=true->qd l a=[]
 |[],_,_=>rfl
 | .d _::l,a,h=>wm (l:=l) (by simpa[AT.im]using h)
 | .ref _::l,a,h=>wm (l:=l) (by simpa[AT.im]using h)
 | .d7 _ _::l,a,h=>wm (l:=l) (by simpa[AT.im]using h)
 | .mut _::l,a,h=>by simp[AT.im]at h
 | .jz _::l,a,h=>by simp[AT.im]at h
 | .nil::l,a,h=>wm (l:=l) (by simpa[AT.im]using h)
theorem adg{r:RT X.ι}{x:RT.T X r}(h:(!r.out)=true):qf r x=[]:=by cases r<;>first |rfl |simp[RT.out]at h
theorem adh:∀{l:List (RT X.ι)}{x:sN X l},(l.all λq=>!q.out)=true->nR l x=[]
 |[],_,_=>rfl
 |[r],x,h=>adg (by simpa using h)
 |r::r'::l,x,h=>by
  simp only[all_cons,aK]at h;simp only[nR,adg h.1,bR];exact adh (l:=r'::l) (by simp only[all_cons,aK];exact h.2)
mutual
def bk:DV X->List Nat
 | .own k _ _=>[k]
 | .ptr k _ _=>[k]
 | .qt k _ _=>[k]
 | .tf k _ _ _ _=>[k]
 | .mp k=>[k]
 | .oz k _=>[k]
 | .agg cs=>aP cs
 | .ez cs=>aP cs
 | .fn _ first caps=>aP first++aP caps
 |_=>[]
def aP:List (DV X)->List Nat
 |[]=>[]
 |x::xs=>bk x++aP xs
end
theorem zX(c:CT X.ι)(x:CT.T X.toSE c):refs (CT.tv X.toSE c x).av=[]:=by
 cases c<;>try rfl
 rename_i i;show eT ((X.row i x).map AV.t)=[];generalize X.row i x=l
 induction l with
 |nil=>rfl
 |cons y ys ih=>simp only[aF,eT,refs,ih,bR]
mutual
theorem iO:∀x:DV X,refs (den x)=bk x
 | .c t x=>zX t x
 | .agg cs=>by simp only[den,refs,bk,gZ cs]
 | .ez cs=>by simp only[den,refs,bk,gZ cs]
 | .own _ _ _=>rfl
 | .ptr _ _ _=>rfl
 | .qt _ _ _=>rfl
 | .mp _=>rfl
 | .oz _ _=>rfl
 | .tf _ _ _ _ _=>rfl
 | .rp _ _ _=>rfl
 | .ws _ _ _ _ _=>rfl
 | .fn f first caps=>by simp only[den,refs,bk,gZ first,gZ caps]
 | .d7 _ _ _=>rfl
 | .raw v=>by
  simp only[den,bk,cv];split
  ·rfl
  ·split<;>rfl
 | .nil=>rfl
 | .ub=>rfl
 | .skip=>rfl
 | .undef=>rfl
theorem gZ:∀l:List (DV X),eT (bP l)=aP l
 |[]=>rfl
 |x::xs=>by simp only[bP,eT,aP,iO x,gZ xs]
end
def Rs(get:Nat->Option (bm X))(d:DV X)(c:CT X.ι):Option (CT.T X.toSE c×List Bool):=
 match d,c with
 | .own kk aa len,.sl e=>(get kk).bind λo=>match o with
  | .d8 b l=>(jw (.sl b) (.sl e) l).bind λ(l:List (CT.T X.toSE e))=>some (sub l aa len,[az (sub l aa len).length len])
  |_=>none
 | .own kk aa len,.any=>(get kk).bind λo=>match o with
  | .d8 b l=>some (.sl (List.map (CT.row X.toSE b) (sub l aa len)),[az (sub l aa len).length len])
  |_=>none
 | .oz kk len,.sl e=>(get kk).bind λo=>match o with
  | .d8 b l=>(jw (.sl b) (.sl e) l).bind λ(l:List (CT.T X.toSE e))=>some (sub l 0 len,[az (sub l 0 len).length len])
  |_=>none
 |d,c=>(JR d c).bind λx=>some (x,[])
def wS(get:Nat->Option (bm X)):List (DV X)->(l:List (CT X.ι))->Option (HL X.toSE l×List Bool)
 |[],[]=>some ((),[])
 |d::ds,c::l=>(Rs get d c).bind λx=>(wS get ds l).bind λh=>some ((x.1,h.1),x.2++h.2)
 |_,_=>none
def ZO(get:Nat->Option (bm X))(d:DV X)(i:X.ι):Option (CT.T X.toSE (.st i)×List Bool):=
 match d with
 | .agg cs=>(wS get cs (X.cQ i)).bind λh=>some (X.make i h.1,h.2)
 | .c a x=>(jw a (.st i) x).bind λx=>some (x,[])
 |_=>none
def Fj(get:Nat->Option (bm X))(d:DV X)(c:CT X.ι):Option (CT.T X.toSE c×List Bool):=
 match c with
 | .st i=>ZO get d i
 |c=>Rs get d c
def W6(get:Nat->Option (bm X))(d:DV X)(c:CT X.ι):Option (CT.T X.toSE c):=
 match d with
 | .ptr kk row 0=>(get kk).bind λo=>match o with
  | .cells _ rows=>(rows[row]?).bind λq=>if q.all (λ x=>match x with | .c _ _=>true |_=>false)then G5 c q else none
  |_=>none
 | .rp a x 0=>jw a c x
 |_=>none
def ue:(l l':List (AT X.ι))->iG X l->iG X l'->iG X (l++l')
 |[],_,_,b=>b
 |_::l,l',a,b=>(a.1,ue l l' a.2 b)
def hlA:(as:List (CT X.ι))->HL X.toSE as->iG X (as.map AT.d)
 |[],_=>()
 |_::l,h=>(h.1,hlA l h.2)
def qg:List (AT X.ι)->Nat
 |[]=>0
 |q::l=>(if q.im then 1 else 0)+qg l
theorem kX:∀(n:Nat)(l l':List (AT X.ι))(a:iG X l)(b:iG X l'),dP n (l++l') (ue l l' a b)=dP n l a++dP (n+qg l) l' b
 |n,[],_,_,_=>rfl
 |n,.d c::l,l',a,b=>by simp[dP,ue,kX n l l' a.2 b,qg,AT.im]
 |n,.ref c::l,l',a,b=>by simp[dP,ue,kX n l l' a.2 b,qg,AT.im]
 |n,.d7 as r::l,l',a,b=>by simp[dP,ue,kX n l l' a.2 b,qg,AT.im]
 |n,.mut c::l,l',a,b=>by simp[dP,ue,kX (n+1) l l' a.2 b,qg,AT.im,Nat.add_assoc]
 |n,.jz c::l,l',a,b=>by simp[dP,ue,kX (n+1) l l' a.2 b,qg,AT.im,Nat.add_assoc]
 |n,.nil::l,l',a,b=>by simp[dP,ue,kX n l l' a.2 b,qg,AT.im]
theorem Jo:∀(n:Nat)(as:List (CT X.ι))(h:HL X.toSE as),dP n (as.map AT.d) (hlA as h)=(HL.nq X.toSE as h).map TV.av
 |_,[],_=>rfl
 |n,c::l,h=>congrArg ((CT.tv X.toSE c h.1).av:: ·) (Jo n l h.2)
def anV{a b:CT X.ι}(h:a=b)(o:Option (CT.T X.toSE a)):Option (CT.T X.toSE b):=h ▸ o
def j5(get:Nat->Option (bm X))(pn:FuncId->List (DV X)->List (DV X)->(as:List (CT X.ι))->(r:CT X.ι)->Option ((HL X.toSE as->Option (CT.T X.toSE r))×List Bool)):List (DV X)->(l:List (AT X.ι))->Option (iG X l×List Bool)
 |[],[]=>some ((),[])
 |d::ds,.d c::l=>(Fj get d c).bind λx=>(j5 get pn ds l).bind λh=>some ((x.1,h.1),x.2++h.2)
 |d::ds,.ref c::l=>(W6 get d c).bind λx=>(j5 get pn ds l).bind λh=>some ((x,h.1),h.2)
 |d::ds,.d7 as r::l=>(match d with
  | .d7 as' r' φ=>if h:as'=as/\r'=r then some (λ x=>anV h.2 (φ (h.1 ▸ x)),[])else none
  | .fn f first caps=>pn f first caps as r
  |_=>none).bind λφ=>(j5 get pn ds l).bind λq=>some ((φ.1,q.1),φ.2++q.2)
 |_,_=>none
def Rt(Γ:FuncId->Option (bz X))(get:Nat->Option (bm X)):Nat->List (DV X)->(l:List (AT X.ι))->Option (iG X l×List Bool)
 | 0,ds,l=>j5 get (λ _ _ _ _ _=>none) ds l
 |n+1,ds,l=>j5 get (λ f first caps as r=>(Γ f).bind λs=>match s with
   |⟨sa,[.d r'],fn,_⟩=>
    if h:r'=r/\sa=sa.take first.length++(as.map AT.d++sa.drop (first.length+as.length))/\first.length=0 then
     (Rt Γ get n first (sa.take first.length)).bind λhf=>(Rt Γ get n caps (sa.drop (first.length+as.length))).bind λhc=>
      some (λ x=>anV h.1 (fn (h.2.1 ▸ ue _ _ hf.1 (ue _ _ (hlA as x) hc.1))),hf.2++hc.2)
    else none
   |_=>none) ds l
section
variable {P:Program} {Γ:FuncId->Option (bz X)} {get:Nat->Option (bm X)} {rd:List Nat}
theorem gM{a b:List Prop}(h:∀p∈a,p)(h':∀p∈b,p):∀p∈a++b,p:=λp hp=>(bf.1 hp).elim (h p) (h' p)
theorem G8{d:DV X}{c:CT X.ι}{x:CT.T X.toSE c×List Bool}(h:Rs get d c=some x)(hc:∀b∈x.2,b=true)(hrd:∀j∈bk d,j∈rd):∃hs obs,(∀ p∈obs,p)/\∀ag,nP P (dI rd (fu get)) (den d) (hs++ag)=some ((CT.tv X.toSE c x.1).av,ag,obs):=by
 have base:∀{d:DV X}{c:CT X.ι}{x:CT.T X.toSE c},JR d c=some x->∃hs obs,(∀ p∈obs,p)/\∀ag,nP P (dI rd (fu get)) (den d) (hs++ag)=some ((CT.tv X.toSE c x).av,ag,obs):=by
  intro d c x h;unfold JR at h;split at h
  ·rw[(om h).1];refine⟨[],[],by simp,λag=>?_⟩;simp only[bR,den];cases c<;>try rfl
   rename_i j;show nP P _ (.agg ((X.row j x).map AV.t)) ag=_;have:∀(l:List Tree) (hs:List LH),mq P (dI rd (fu get)) (l.map AV.t) hs=some (l.map AV.t,hs,[]):=by
    intro l
    induction l with
    |nil=>intro hs;rfl
    |cons y ys ih=>intro hs;simp only[aF,mq,nP,af,ih,bR]
   simp only[nP,this,af];rfl
  ·cases h;exact⟨[.emp],[],by simp,λag=>rfl⟩
  ·cases h;exact⟨[.emp],[],by simp,λag=>rfl⟩
  ·cases h
 unfold Rs at h;split at h
 ·rename_i kk aa len e;rw[ai]at h;obtain⟨o,h1,h⟩:=h;split at h
  ·rename_i b l0;rw[ai]at h;obtain⟨l,h2,h⟩:=h;cases h;have h3:(sub l aa len).length=len:=(by simpa[az]using hc (az (sub l aa len).length len) (by simp));have⟨h4,h5⟩:=jf h2;refine⟨[.rows ((sub l aa len).map (CT.row X.toSE e))],[(((bI (.d8 b l0):aR).rows.drop aa).take len=aI ((sub l aa len).map (CT.row X.toSE e))/\((sub l aa len).map (CT.row X.toSE e)).length=len)],?_,λag=>?_⟩
   ·intro p hp;simp only[aW]at hp;subst hp;refine⟨?_,by simpa using h3⟩;simp only[bI,h5];simp[aI,sub,map_take]
   ·simp only[cons_append,bR,den,nP,eD (hrd kk (by simp[bk])) h1,af];rfl
  ·cases h
 ·rename_i kk aa len;rw[ai]at h;obtain⟨o,h1,h⟩:=h;split at h
  ·rename_i b l0;cases h;have h3:(sub l0 aa len).length=len:=(by simpa[az]using hc (az (sub l0 aa len).length len) (by simp));refine⟨[.rows ((sub l0 aa len).map (CT.row X.toSE b))],[(((bI (.d8 b l0):aR).rows.drop aa).take len=aI ((sub l0 aa len).map (CT.row X.toSE b))/\((sub l0 aa len).map (CT.row X.toSE b)).length=len)],?_,λag=>?_⟩
   ·intro p hp;simp only[aW]at hp;subst hp;refine⟨?_,by simpa using h3⟩;simp only[bI];simp[aI,sub,map_take,map_drop]
   ·simp only[cons_append,bR,den,nP,eD (hrd kk (by simp[bk])) h1,af];rfl
  ·cases h
 ·rename_i kk len e;rw[ai]at h;obtain⟨o,h1,h⟩:=h;split at h
  ·rename_i b l0;have⟨l,h2,h⟩:=ai.1 h;cases h;have h3:(sub l 0 len).length=len:=(by simpa[az]using hc (az (sub l 0 len).length len) (by simp));have⟨h4,h5⟩:=jf h2;refine⟨[.rows ((sub l 0 len).map (CT.row X.toSE e))],[(((bI (.d8 b l0):aR).rows.drop 0).take len=aI ((sub l 0 len).map (CT.row X.toSE e))/\((sub l 0 len).map (CT.row X.toSE e)).length=len)],?_,λag=>?_⟩
   ·intro p hp;simp only[aW]at hp;subst hp;refine⟨?_,by simpa using h3⟩;simp only[bI,h5];simp[aI,sub,map_take,map_drop]
   ·simp only[cons_append,bR,den,nP,eD (hrd kk (by simp[bk])) h1,af];rfl
  ·cases h
 ·have⟨y,h1,h⟩:=ai.1 h;cases h;exact base h1
theorem MK:∀{ds:List (DV X)}{l:List (CT X.ι)}{h:HL X.toSE l×List Bool},wS get ds l=some h->(∀ b∈h.2,b=true)->l.all CT.one=true->(∀ j∈aP ds,j∈rd)->
 ∃hs obs,(∀ p∈obs,p)/\∀ag,mq P (dI rd (fu get)) (bP ds) (hs++ag)=some ((HL.row X.toSE l h.1).map AV.t,ag,obs)
 |[],[],h,_,_,_,_=>⟨[],[],by simp,λag=>rfl⟩
 |d::ds,c::l,h,hr,hc,ha,hrd=>by
  simp only[wS]at hr;have⟨x,h1,hr⟩:=ai.1 hr;have⟨g,h2,hr⟩:=ai.1 hr;cases hr;simp only[all_cons,aK]at ha;obtain⟨hs1,o1,p1,q1⟩:=G8 (P:=P) (rd:=rd) h1 (λ b hb=>hc b (by simp[hb])) (λ j hj=>hrd j (by simp[aP,hj]));obtain⟨hs2,o2,p2,q2⟩:=MK h2 (λ b hb=>hc b (by simp[hb])) ha.2 (λ j hj=>hrd j (by simp[aP,hj]));refine⟨hs1++hs2,o1++o2,gM p1 p2,λag=>?_⟩;simp only[bP,mq,aM,q1,af,q2];show _=some ((CT.row X.toSE c x.1++HL.row X.toSE l g.1).map AV.t,ag,o1++o2);rw[List.map_append,<- N6 ha.1 x.1];rfl
 |[],_::_,_,hr,_,_,_=>by simp[wS]at hr
 |_::_,[],_,hr,_,_,_=>by simp[wS]at hr
theorem zY{d:DV X}{c:CT X.ι}{x:CT.T X.toSE c×List Bool}(h:Fj get d c=some x)(hc:∀b∈x.2,b=true)(hrd:∀j∈bk d,j∈rd):∃hs obs,(∀ p∈obs,p)/\∀ag,nP P (dI rd (fu get)) (den d) (hs++ag)=some ((CT.tv X.toSE c x.1).av,ag,obs):=by
 cases c
 case st i=>
  replace h:ZO get d i=some x:=h
  cases d
  case agg cs=>
   simp only[ZO]at h;rw[ai]at h;obtain⟨g,h1,h⟩:=h;cases h;obtain⟨hs,obs,p1,q1⟩:=MK (P:=P) (rd:=rd) h1 hc (X.flat i) (λ j hj=>hrd j (by simpa[bk]using hj));refine⟨hs,obs,p1,λag=>?_⟩;simp only[den,nP,q1,af,CT.tv,TV.av];rw[X.gd]
  case c a y=>exact G8 (c:= .st i) (x:=x) (by unfold Rs;exact h) hc hrd
  all_goals cases h
 all_goals exact G8 h hc hrd
theorem adi{d:DV X}{c:CT X.ι}{x:CT.T X.toSE c}(h:W6 get d c=some x)(hrd:∀j∈bk d,j∈rd):∃hs obs,(∀ p∈obs,p)/\∀ag,nP P (dI rd (fu get)) (den d) (hs++ag)=some (.ep (CT.row X.toSE c x) 0,ag,obs):=by
 unfold W6 at h;split at h
 ·rename_i kk row;rw[ai]at h;obtain⟨o,h1,h⟩:=h;split at h
  ·rename_i sz rows;rw[ai]at h;obtain⟨q,h2,h⟩:=h;split at h
   ·rename_i hq;refine⟨[.row (CT.row X.toSE c x)],[(bI (.cells sz rows):aR).rows[row]? =some ((CT.row X.toSE c x).map AV.t)],?_,λag=>?_⟩
    ·intro p hp;simp only[aW]at hp;subst hp;simp only[bI,List.getElem?_map,h2,Option.map_some];rw[<- yj h,nQ,map_map];congr 1;refine map_congr_left λy hy=>?_;have:=all_eq_true.1 hq y hy;cases y<;>first |exact(anU _).symm |simp at this
    ·simp only[cons_append,bR,den,nP,eD (hrd kk (by simp[bk])) h1,af]
   ·cases h
  ·cases h
 ·rename_i a y;refine⟨[],[],by simp,λag=>?_⟩;simp only[den,(om h).2];rfl
 ·cases h
theorem afQ{n:Nat}{l l':List (AT X.ι)}(e:l=l')(b:iG X l):dP n l' (e ▸ b)=dP n l b:=by subst e;rfl
theorem Cq{pn:FuncId->List (DV X)->List (DV X)->(as:List (CT X.ι))->(r:CT X.ι)->Option ((HL X.toSE as->Option (CT.T X.toSE r))×List Bool)}:∀{ds:List (DV X)}{l:List (AT X.ι)}{a:iG X l×List Bool},j5 get pn ds l=some a->(l.all λq=>!q.im)=true
 |[],[],_,_=>rfl
 |d::ds,.d c::l,a,h=>by
  simp only[j5]at h;have⟨x,h1,h⟩:=ai.1 h;have⟨q,h2,h⟩:=ai.1 h;simpa[AT.im]using Cq h2
 |d::ds,.ref c::l,a,h=>by
  simp only[j5]at h;have⟨x,h1,h⟩:=ai.1 h;have⟨q,h2,h⟩:=ai.1 h;simpa[AT.im]using Cq h2
 |d::ds,.d7 as r::l,a,h=>by
  simp only[j5]at h;have⟨x,h1,h⟩:=ai.1 h;have⟨q,h2,h⟩:=ai.1 h;simpa[AT.im]using Cq h2
 |_::_,.mut _::_,_,h=>by simp[j5]at h
 |_::_,.jz _::_,_,h=>by simp[j5]at h
 |_::_,.nil::_,_,h=>by simp[j5]at h
 |[],_::_,_,h=>by simp[j5]at h
 |_::_,[],_,h=>by simp[j5]at h
theorem adj:∀{n:Nat}{ds:List (DV X)}{l:List (AT X.ι)}{a:iG X l×List Bool},Rt Γ get n ds l=some a->(l.all λq=>!q.im)=true
 | 0,_,_,_,h=>Cq h
 |_+1,_,_,_,h=>Cq h
theorem Ur:∀as:List (CT X.ι),((as.map AT.d).all λq=>!q.im)=true
 |[]=>rfl
 |_::l=>Ur l
def aoR(P:Program)(get:Nat->Option (bm X))(pn:FuncId->List (DV X)->List (DV X)->(as:List (CT X.ι))->(r:CT X.ι)->Option ((HL X.toSE as->Option (CT.T X.toSE r))×List Bool)):Prop:=
 ∀f first caps as r φ rd,pn f first caps as r=some φ->(∀ b∈φ.2,b=true)->(∀ j∈aP first++aP caps,j∈rd)->∃hs obs,(∀ p∈obs,p)/\∀ag,nP P (dI rd (fu get)) (.fn f (bP first) (bP caps)) (hs++ag)=some (den (.d7 as r φ.1:DV X),ag,obs)
theorem sW{n:Nat}{pn:FuncId->List (DV X)->List (DV X)->(as:List (CT X.ι))->(r:CT X.ι)->Option ((HL X.toSE as->Option (CT.T X.toSE r))×List Bool)}(tP:aoR P get pn):∀{ds:List (DV X)}{l:List (AT X.ι)}{a:iG X l×List Bool},j5 get pn ds l=some a->(∀ b∈a.2,b=true)->(∀ j∈aP ds,j∈rd)->
 ∃hs obs,(∀ p∈obs,p)/\∀ag,mq P (dI rd (fu get)) (bP ds) (hs++ag)=some (dP n l a.1,ag,obs)
 |[],[],_,_,_,_=>⟨[],[],by simp,λag=>rfl⟩
 |d::ds,.d c::l,a,h,hc,hrd=>by
  simp only[j5]at h;have⟨x,h1,h⟩:=ai.1 h;have⟨q,h2,h⟩:=ai.1 h;cases h;obtain⟨hs1,o1,p1,q1⟩:=zY (P:=P) (rd:=rd) h1 (λ b hb=>hc b (by simp[hb])) (λ j hj=>hrd j (by simp[aP,hj]));obtain⟨hs2,o2,p2,q2⟩:=sW (n:=n) tP h2 (λ b hb=>hc b (by simp[hb])) (λ j hj=>hrd j (by simp[aP,hj]));refine⟨hs1++hs2,o1++o2,gM p1 p2,λag=>?_⟩;simp only[bP,mq,aM,q1,af,q2,dP]
 |d::ds,.ref c::l,a,h,hc,hrd=>by
  simp only[j5]at h;rw[ai]at h;obtain⟨x,h1,h⟩:=h;rw[ai]at h;obtain⟨q,h2,h⟩:=h;cases h;obtain⟨hs1,o1,p1,q1⟩:=adi (P:=P) (rd:=rd) h1 (λ j hj=>hrd j (by simp[aP,hj]));obtain⟨hs2,o2,p2,q2⟩:=sW (n:=n) tP h2 hc (λ j hj=>hrd j (by simp[aP,hj]));refine⟨hs1++hs2,o1++o2,gM p1 p2,λag=>?_⟩;simp only[bP,mq,aM,q1,af,q2,dP]
 |d::ds,.d7 as r::l,a,h,hc,hrd=>by
  simp only[j5]at h;rw[ai]at h;obtain⟨φ,h1,h⟩:=h;rw[ai]at h;obtain⟨q,h2,h⟩:=h;cases h;have hd:∃hs obs,(∀ p∈obs,p)/\∀ag,nP P (dI rd (fu get)) (den d) (hs++ag)=some (den (.d7 as r φ.1:DV X),ag,obs):=by
   cases d
   case d7 as' r' ψ=>
    simp only at h1;split at h1
    ·rename_i e;obtain⟨rfl,rfl⟩:=e;cases h1;exact⟨[],[],by simp,λag=>rfl⟩
    ·cases h1
   case fn f first caps=>
    obtain⟨hs,obs,g1,g2⟩:=tP f first caps as r φ rd h1 (λ b hb=>hc b (by simp[hb])) (λ j hj=>hrd j (by simp only[aP,bk,bf]at hj ⊢;exact .inl hj))
    exact⟨hs,obs,g1,λag=>by simp only[den];exact g2 ag⟩
   all_goals simp at h1
  obtain⟨hs1,o1,p1,q1⟩:=hd;obtain⟨hs2,o2,p2,q2⟩:=sW (n:=n) tP h2 (λ b hb=>hc b (by simp[hb])) (λ j hj=>hrd j (by simp[aP,hj]));refine⟨hs1++hs2,o1++o2,gM p1 p2,λag=>?_⟩;simp only[bP,mq,aM,q1,af,q2,dP]
 |_::_,.mut _::_,_,h,_,_=>by simp[j5]at h
 |_::_,.jz _::_,_,h,_,_=>by simp[j5]at h
 |_::_,.nil::_,_,h,_,_=>by simp[j5]at h
 |[],_::_,_,h,_,_=>by simp[j5]at h
 |_::_,[],_,h,_,_=>by simp[j5]at h
theorem afR{n:Nat}:∀{l:List (AT X.ι)}(a:iG X l),l=[]->dP n l a=[]
 |_,_,rfl=>rfl
theorem rX(hΓ:sC P Γ):∀(m:Nat){n:Nat}{ds:List (DV X)}{l:List (AT X.ι)}{a:iG X l×List Bool}{rd:List Nat},Rt Γ get m ds l=some a->(∀ b∈a.2,b=true)->(∀ j∈aP ds,j∈rd)->
 ∃hs obs,(∀ p∈obs,p)/\∀ag,mq P (dI rd (fu get)) (bP ds) (hs++ag)=some (dP n l a.1,ag,obs)
 | 0,n,ds,l,a,rd,h,hcs,hrd=>sW (λ _ _ _ _ _ _ _ h=>by cases h) h hcs hrd
 |m+1,n,ds,l,a,rd,h,hcs,hrd=>by
  refine sW (λ f first caps as r φ rd' hc hb Hv=>?_) h hcs hrd;rw[ai]at hc;obtain⟨s,h1,hc⟩:=hc;split at hc
  ·rename_i sa r' fn _;split at hc
   ·rename_i e;obtain⟨rfl,e2,e3⟩:=e;have⟨hf,h2,hc⟩:=ai.1 hc;have⟨hcap,h3,hc⟩:=ai.1 hc;injection hc with hc;rw[<- hc]at hb;obtain⟨g1,g2,_⟩:=hΓ f _ h1;obtain⟨hs1,o1,p1,q1⟩:=rX hΓ m h2 (n:=0) (rd:=rd') (λ b hb'=>hb b (by simp[hb'])) (λ j hj=>Hv j (by simp[hj]));obtain⟨hs2,o2,p2,q2⟩:=rX hΓ m h3 (n:=0+qg (sa.take first.length)+qg (as.map AT.d)) (rd:=rd') (λ b hb'=>hb b (by simp[hb'])) (λ j hj=>Hv j (by simp[hj]));refine⟨.d7 (λ ts u=>∃h x,φ.1 h=some x/\ts=HL.nq X.toSE as h/\u=CT.tv X.toSE r' x)::(hs1++hs2),o1++(o2++[dP 0 _ hf.1=[]/\eO P f/\∀args r,(∃ h x,φ.1 h=some x/\args=HL.nq X.toSE as h/\r=CT.tv X.toSE r' x)->rb P f (dP 0 _ hf.1++args.map TV.av++dP (0+qg (sa.take first.length)+qg (as.map AT.d)) _ hcap.1) (.one (.d r))]),?_,λag=>?_⟩
    ·intro p hp;simp only[bf,aW]at hp;rcases hp with hp |hp |hp
     ·exact p1 p hp
     ·exact p2 p hp
     ·subst hp;refine⟨afR _ (by rw[e3];rfl),g1,?_⟩;rintro args r ⟨x,y,hxy,rfl,rfl⟩;rw[<- hc]at hxy;have hxy':fn (e2 ▸ ue _ _ hf.1 (ue _ _ (hlA as x) hcap.1))=some y:=hxy;have:=g2 _ _ hxy';have hnm:(sa.all λq=>!q.im)=true:=(by rw[e2,List.all_append,List.all_append,adj h2,adj h3,Ur];rfl);rw[wm hnm,wh,afQ e2.symm,kX,kX,Jo,<- aM]at this;exact MC this
    ·simp only[cons_append,aM,nP,q1,af,q2];rfl
   ·cases hc
  ·cases hc
end
end
def Ru(s:ByteArray)(n:Int):Option Int:=bif decide (0<=n)then(s[n.toNat]?).map λb=>(b.toNat:Int)else none
def zG(m:Int)(bytes:Nat):Bool:=decide (0<=m)&&decide (m.toNat*bytes<=140737488355328)&&decide (m.toNat<=maxLen)
def fO{K V:Type}(eq:K->K->Bool)(k:K):List (K×V)->Option V
 |[]=>none
 |p::r=>bif eq k p.1 then some p.2 else fO eq k r
def rG{K V:Type}(eq:K->K->Bool)(k:K)(v:V):List (K×V)->List (K×V)
 |[]=>[(k,v)]
 |p::r=>bif eq k p.1 then(k,v)::r else p::rG eq k v r
def js(a b:Int):Bool:=a==b
def lf(a b:ByteArray):Bool:=a.toList==b.toList
def bEq(a b:Bool):Bool:=a==b
section
variable {X:SX} {A:Type}
def ML:(c:CT X.ι)->Option (CT.T X.toSE c->CT.T X.toSE c->Bool)
 | .int _=>some js
 | .str=>some lf
 | .bool=>some bEq
 |_=>none
def DG{ι:Type}:Ax->CT ι->Bool
 | .int a,.int b=>decide (a=b)
 | .str,.str=>true
 | .bool,.bool=>true
 |_,_=>false
def Mm{ι:Type}:CT ι->Bool
 | .st _=>true
 |_=>false
theorem iC(a b:List (DV X)):bP (a++b)=bP a++bP b:=by simp[nQ]
theorem rY(a b:List (Nat×Option (bm X))):iy (a++b)=iy a++iy b:=by simp[iy]
def MN(ae:List Nat):List (Nat×Option (bm X)):=ae.map λj=>(j,none)
theorem Cr(ae:List Nat):iy (MN (X:=X) ae)=ae.map λk=>(k,none):=by simp[iy,MN]
theorem Jp{ae:List Nat}{p:Nat×Option (bm X)}(h:p∈MN ae):p.1∈ae:=by
 simp only[MN,mem_map]at h;obtain⟨j,hj,rfl⟩:=h;exact hj
variable (T:ea) (am:TypeId->Option (CT X.ι))
def X1:DV X->Bool
 | .nil=>true
 |_=>false
def Fc(op:BinOp)(b:DV X)(yes:Bool)(k:KK X A):Option A:=
 match op with
 | .eql=>bif yes then k b [] [] []else k (.c .bool false) [] [] []
 | .neq=>bif yes then k b [] [] []else k (.c .bool true) [] [] []
 |_=>none
def US(op:BinOp)(t:TypeId)(x:DV X)(k:KK X A):Option A:=
 (T t).bind λti=>match ti.k,x with
 | .slice _,.c (.sl _) l=>Fc op .ub (List.isEmpty l) k
 | .slice _,.own _ _ len=>Fc op .ub (len==0) k
 | .slice _,.oz _ len=>Fc op (.c .bool (op== .eql)) (len==0) k
 | .slice _,.nil=>Fc op (.c .bool (op== .eql)) true k
 |_,_=>none
def anW(s d:TypeId)(x:DV X)(k:KK X A):Option A:=
 (T s).bind λ_=>(T d).bind λdi=>match di.k,x with
 | .int kd,.c (.int _) n=>k (.c (.int kd) (kd.wrap (iN n))) [] [] []
 |_,_=>none
def akC(t:TypeId)(x j:DV X)(k:KK X A):Option A:=
 (T t).bind λti=>match ti.k,x,j with
 | .str,.c .str s,.c (.int _) n=>(Ru s n).bind λb=>k (.c (.int .u8) b) [] [] []
 | .arr m e,.agg cs,.c (.int _) q=>(T e).bind λei=>bif cC q m then(GZ ei.agg ei.size ((cs.drop (q.toNat*ei.size)).take ei.size)).bind λv=>k v [] [] []else none
 |_,_,_=>none
def ZP(t:TypeId)(x:DV X)(lo hi:Option (DV X))(k:KK X A):Option A:=
 (T t).bind λti=>match ti.k,x with
 | .slice e,.nil=>(T e).bind λ_=>(At 0 lo).bind λl=>(At 0 hi).bind λh=>bif decide (l=0)&&decide (h=0)then k .nil [] [] []else none
 |_,_=>none
def PE(i:Nat)(b:Builtin)(args:List (DV X))(cQ:List TypeId)(get:Nat->Option (bm X))(k:KK X A):Option A:=
 match b,args,cQ with
 | .cap,[.nil],[t]=>(T t).bind λti=>match ti.k with
  | .slice _=>k (.c (.int .i64) (0:Int)) [] [] []
  |_=>none
 | .clear,[.own kk aa _],[t]=>(T t).bind λti=>match ti.k with
  | .slice e=>(T e).bind λei=>(get kk).bind λo=>match o with
   | .d8 c l=>if CT.sz X c=ei.size then k (.ez []) [(kk,some (.d8 c (l.take aa)))] [kk] [kk]else none
   |_=>none
  |_=>none
 | .append,[.nil,.c (.int _) m],[t,u]=>(T t).bind λti=>(T u).bind λui=>match ti.k,ui.k with
  | .slice e,.int _=>(T e).bind λei=>(am e).bind λc=>if CT.sz X c=ei.size/\0<ei.size then(G5 c (ei.zero.map tW)).bind λz=>
   bif zG (iN m) ei.bytes then k (.own (cJ i) 0 m.toNat) [(cJ i,some (.d8 c (List.replicate m.toNat z)))] [] []else none else none
  |_,_=>none
 |_,_,_=>none
def PG(x:DV X)(k:KK X A):Option A:=
 match x with
 | .ptr kk r f=>k (.ptr kk r f) [] [] []
 | .qt kk n f=>k (.qt kk n f) [] [] []
 | .tf kk r f m n=>k (.tf kk r f m n) [] [] []
 | .rp c y f=>k (.rp c y f) [] [] []
 |_=>none
def W5(i:Nat)(t:TypeId)(l c:DV X)(k:KK X A):Option A:=
 (T t).bind λti=>match ti.k,l,c with
 | .slice e,.c (.int _) n,.c (.int _) m=>(T e).bind λei=>(am e).bind λc=>if CT.sz X c=ei.size/\0<ei.size then(G5 c (ei.zero.map tW)).bind λz=>
  bif decide (iN n<=iN m)&&(decide (0<=iN n)&&zG (iN m) ei.bytes)then k (.own (cJ i) 0 n.toNat) [(cJ i,some (.d8 c (List.replicate n.toNat z)))] [] []else none else none
 |_,_,_=>none
def VI(i:Nat)(t:TypeId)(k:KK X A):Option A:=
 (T t).bind λti=>match ti.k with
 | .map kt et=>(am kt).bind λkc=>(am et).bind λvc=>k (.mp (cJ i)) [(cJ i,some (.map kc vc []))] [] []
 |_=>none
def Us(t:TypeId)(x key:DV X)(ok:Bool)(get:Nat->Option (bm X))(k:KK X A):Option A:=
 (T t).bind λti=>match ti.k,x with
 | .map kt et,.mp kk=>(T kt).bind λki=>(T et).bind λei=>(get kk).bind λo=>match o with
  | .map kc vc l=>(ML kc).bind λeq=>(JR key kc).bind λkv=>if DG ki.k kc=true/\ei.agg=Mm vc/\ei.size=CT.sz X vc then(G5 vc (ei.zero.map tW)).bind λz=>
   bif ok then k (.ez [.c vc ((fO eq kv l).getD z),.c .bool (fO eq kv l).isSome]) [] [kk] []else k (.c vc ((fO eq kv l).getD z)) [] [kk] []else none
  |_=>none
 |_,_=>none
def Ut(t:TypeId)(x key y:DV X)(get:Nat->Option (bm X))(k:KK X A):Option A:=
 (T t).bind λti=>match ti.k,x with
 | .map kt _,.mp kk=>(T kt).bind λki=>(get kk).bind λo=>match o with
  | .map kc vc l=>(ML kc).bind λeq=>(JR key kc).bind λkv=>(dat y vc).bind λv=>if DG ki.k kc=true then k .undef [(kk,some (.map kc vc (rG eq kv v l)))] [kk] [kk]else none
  |_=>none
 |_,_=>none
def mM:(l:List (CT X.ι))->HL X.toSE l->List Int
 |[],_=>[]
 | .int _::l,h=>h.1::mM l h.2
 |_::l,h=>mM l h.2
def G9(i:X.ι)(a b:CT.T X.toSE (.st i)):Bool:=decide (mM (X.cQ i) (X.get i a)=mM (X.cQ i) (X.get i b))
def DU{ι:Type}(k:IntKind):List (CT ι)->Bool
 |[]=>true
 | .int k'::l=>decide (k'=k)&&DU k l
 |_=>false
def MO(t:TypeId)(x key:DV X)(ok:Bool)(get:Nat->Option (bm X))(k:KK X A):Option A:=
 (T t).bind λti=>match ti.k,x with
 | .map kt et,.mp kk=>(Fo T kt).bind λmk=>(T et).bind λei=>(get kk).bind λo=>match o with
  | .map (.st i) vc l=>(dat key (.st i)).bind λkv=>if (X.cQ i).length=mk.1/\DU mk.2 (X.cQ i)=true/\ei.agg=Mm vc/\ei.size=CT.sz X vc then(G5 vc (ei.zero.map tW)).bind λz=>
   bif ok then k (.ez [.c vc ((fO (G9 i) kv l).getD z),.c .bool (fO (G9 i) kv l).isSome]) [] [kk] []else k (.c vc ((fO (G9 i) kv l).getD z)) [] [kk] []else none
  |_=>none
 |_,_=>none
def MP(t:TypeId)(x key y:DV X)(get:Nat->Option (bm X))(k:KK X A):Option A:=
 (T t).bind λti=>match ti.k,x with
 | .map kt _,.mp kk=>(Fo T kt).bind λmk=>(get kk).bind λo=>match o with
  | .map (.st i) vc l=>(dat key (.st i)).bind λkv=>(dat y vc).bind λv=>if (X.cQ i).length=mk.1/\DU mk.2 (X.cQ i)=true then k .undef [(kk,some (.map (.st i) vc (rG (G9 i) kv v l)))] [kk] [kk]else none
  |_=>none
 |_,_=>none
def ZQ(x:DV X)(get:Nat->Option (bm X)):Bool:=match x with
 | .mp kk=>match get kk with
  |some (.map (.st _) _ _)=>true
  |_=>false
 |_=>false
def aoS(o:Op)(ρ:Operand->DV X):Bool:=
 match o with
 | .binOp _ _ _ y _=>X1 (ρ y)
 | .convert _ _ _=>true
 | .index _ _ _=>true
 | .nilCheck _=>true
 | .makeSlice _ _ _=>true
 | .makeMap _ none=>true
 | .lookup _ _ _ _=>true
 | .mapUpdate _ _ _ _=>true
 | .slice _ x _ _ none=>X1 (ρ x)
 | .call { callee:= .builtin b,args:=args,argTypes:=_ }=>match b,args.toList.map ρ with
  | .cap,_=>true
  | .clear,_=>true
  | .append,[_,.c (.int _) _]=>true
  |_,_=>false
 |_=>false
def UP(i:Nat)(o:Op)(ρ:Operand->DV X)(get:Nat->Option (bm X))(k:KK X A):Option A:=
 match o with
 | .binOp op t x y _=>if X1 (ρ y)then US T op t (ρ x) k else none
 | .convert s d x=>anW T s d (ρ x) k
 | .index t x j=>akC T t (ρ x) (ρ j) k
 | .slice t x lo hi none=>ZP T t (ρ x) (lo.map ρ) (hi.map ρ) k
 | .nilCheck x=>PG (ρ x) k
 | .makeSlice t l c=>W5 T am i t (ρ l) (ρ c) k
 | .makeMap t none=>VI T am i t k
 | .lookup t m x ok=>bif ZQ (ρ m) get then MO T t (ρ m) (ρ x) ok get k else Us T t (ρ m) (ρ x) ok get k
 | .mapUpdate t m x v=>bif ZQ (ρ m) get then MP T t (ρ m) (ρ x) (ρ v) get k else Ut T t (ρ m) (ρ x) (ρ v) get k
 | .call { callee:= .builtin b,args:=args,argTypes:=cQ }=>PE T am i b (args.toList.map ρ) cQ.toList get k
 |_=>none
def Jn(get:Nat->Option (bm X))(c:CT X.ι)(ρ:Operand->DV X)(x:Operand):DV X:=
 match Fj get (ρ x) c with
 |some y=> .c c y.1
 |none=>ρ x
def Mb(get:Nat->Option (bm X))(c:CT X.ι)(ρ:Operand->DV X):List Operand->List Bool
 |[]=>[]
 |x::xs=>(match Fj get (ρ x) c with |some y=>y.2 |none=>[])++Mb get c ρ xs
def zv(get:Nat->Option (bm X))(c:CT X.ι)(ρ:Operand->DV X):List Operand->List Nat
 |[]=>[]
 |x::xs=>(match Fj get (ρ x) c with |some _=>bk (ρ x) |none=>[])++zv get c ρ xs
def amI(o:Op)(ρ:Operand->DV X)(get:Nat->Option (bm X)):Option (CT X.ι):=
 match o with
 | .box t _=>am t
 | .assign x | .move x=>match ρ x with
  | .own kk _ _=>(get kk).bind λo=>match o with
   | .d8 c _=>some (.sl c)
   |_=>none
  |_=>none
 | .buildSlice t _ _=>(T t).bind λti=>match ti.k with
  | .slice e=>am e
  |_=>none
 | .store t _ _=>am t
 |_=>none
def aoT(o:Op)(ρ:Operand->DV X):Bool:=
 match o with
 | .buildSlice _ _ parts=>!(aP (parts.toList.map λp=>ρ p.2)).isEmpty
 | .store _ a x=>match ρ a with
  | .qt _ _ _=>!(bk (ρ x)).isEmpty
  |_=>false
 |_=>false
def Up(i:Nat)(o:Op)(ρ:Operand->DV X)(get:Nat->Option (bm X))(k:KK X A):Option A:=
 if XS o then none else(amI T am o ρ get).bind λc=>Vt (Mb get c ρ o.operands.toList)
  (Lw T am i o (Jn get c ρ) (λ j=>if j∈zv get c ρ o.operands.toList then none else get j) λdv upd rd wr=>
   k dv (upd++MN (zv get c ρ o.operands.toList)) (rd++zv get c ρ o.operands.toList) (wr++zv get c ρ o.operands.toList))
def aoU(o:Op)(ρ:Operand->DV X):Bool:=
 match o with
 | .indexAddr t x (.tmp _)=>match ρ x,T t with
  | .ptr _ _ _,some ti | .rp _ _ _,some ti=>match ti.k with
   | .arr _ e=>match T e with
    |some ei=>ei.size==1
    |none=>false
   |_=>false
  |_,_=>false
 | .load _ a=>match ρ a with
  | .tf _ _ _ _ _ | .ws _ _ _ _ _=>true
  |_=>false
 |_=>false
def zH(c:CT X.ι):List (DV X)->Option (List (CT.T X.toSE c))
 |[]=>some []
 | .c a x::r=>(jw a c x).bind λy=>(zH c r).bind λl=>some (y::l)
 |_=>none
def T8(o:Op)(ρ:Operand->DV X)(get:Nat->Option (bm X))(k:KK X A):Option A:=
 match o with
 | .indexAddr t x j=>(T t).bind λti=>match ti.k,ρ x,ρ j with
  | .arr m e,.ptr kk row aa,.c (.int _) n=>(T e).bind λei=>if ei.size=1 then bif cC n m then k (.tf kk row aa m n) [] [] []else none else none
  | .arr m e,.rp c y aa,.c (.int _) n=>(T e).bind λei=>if ei.size=1 then bif cC n m then k (.ws c y aa m n) [] [] []else none else none
  |_,_,_=>none
 | .load t a=>(T t).bind λti=>match ρ a with
  | .tf kk row aa m n=>if ti.size=1/\ti.agg=false then(am t).bind λc=>if c.one=true then(get kk).bind λo=>match o with
   | .cells _ rows=>(rows[row]?).bind λq=>(zH c ((q.drop aa).take m)).bind λ(xs:List (CT.T X.toSE c))=>(bo xs n).bind λy=>k (.c c y) [] [kk] []
   | .d8 _ _=>none
   |_=>none
   else none else none
  | .ws b y aa m n=>if ti.size=1/\ti.agg=false then(am t).bind λc=>if c.one=true then(zH c (((uV b y).drop aa).take m)).bind λ(xs:List (CT.T X.toSE c))=>(bo xs n).bind λy=>k (.c c y) [] [] []
   else none else none
  |_=>none
 |_=>none
variable {T am}
def d6(P:Program)(T:ea)(i:Nat)(o:Oper)(ρ:Operand->DV X)(get:Nat->Option (bm X))(k:KK X A)(r:A):Prop:=
 ∃cx rd wr dv upd ab,jC P T i o cx (λ x=>den (ρ x)) (dI rd (fu get))=some ab/\jq ab.obs/\ab.v=den dv/\ab.upd=iy upd/\(∀ p∈upd,p.1=cJ i\/p.1∈wr)/\k dv upd rd wr=some r
section
variable {P:Program} {get:Nat->Option (bm X)} {k:KK X A} {r:A} {i:Nat} {o:Oper} {ρ:Operand->DV X}
theorem akF{t:TypeId}{x:AV}{cx:i8}(h:(∃ n,cx= .ext n)\/∃ae fr q,cx= .xm ae fr q):As T t x .none=As T t x cx:=by
 unfold As;cases T t with
 |none=>rfl
 |some ti=>
  simp only[af];generalize ti.k=kk;rcases h with ⟨n,rfl⟩ |⟨ae,fr,q,rfl⟩<;>cases kk<;>try rfl
  all_goals cases x<;>try rfl
  all_goals (rename_i y;cases y<;>try rfl)
  all_goals (rename_i y;cases y<;>rfl)
theorem VJ{t:TypeId}{x j:AV}{cx:i8}{get:Nat->Option aR}(h:(∃ n,cx= .ext n)\/∃ae fr q,cx= .xm ae fr q):lX T t x j .none get=lX T t x j cx get:=by
 unfold lX;cases T t with
 |none=>rfl
 |some ti=>
  simp only[af];generalize ti.k=kk;cases kk<;>try rfl
  case arr m e=>
   cases j<;>try rfl
   rename_i y;cases y<;>try rfl
   rename_i y;cases y<;>rfl
  cases j<;>try rfl
  rename_i e y;cases y<;>try rfl
  rename_i y;cases y<;>try rfl
  simp only;cases T e with
  |none=>rfl
  |some ei=>
   simp only[af];rcases h with ⟨n,rfl⟩ |⟨ae,fr,q,rfl⟩<;>cases x<;>try rfl
   all_goals (rename_i z;cases z<;>rfl)
theorem adl{t:TypeId}{x y:AV}{cx:i8}{get:Nat->Option aR}(h:(∃ n,cx= .ext n)\/∃ae fr q,cx= .xm ae fr q):zS T i t x y .none get=zS T i t x y cx get:=by
 unfold zS;rcases h with ⟨n,rfl⟩ |⟨ae,fr,q,rfl⟩<;>rfl
theorem aiU{cx:i8}{ρ:Operand->AV}{get:Nat->Option aR}(h:(∃ n,cx= .ext n)\/∃ae fr q,cx= .xm ae fr q):qa T i o .none ρ get=qa T i o cx ρ get:=by
 obtain⟨dst,op,ty,ao,after,guard⟩:=o;cases op
 case call c=>
  obtain⟨callee,args,cQ⟩:=c;cases callee<;>try rfl
  rename_i b;simp only[qa,Ch];split
  ·exact akF h
  ·rfl
  ·rfl
  ·rw[adl h]
  ·rfl
 case slice t x lo hi mx=>cases mx<;>rcases h with ⟨n,rfl⟩ |⟨ae,fr,q,rfl⟩<;>rfl
 case makeFunc fn a b=>cases fn<;>rfl
 case indexAddr t x j=>exact VJ h
 all_goals (rcases h with ⟨n,rfl⟩ |⟨ae,fr,q,rfl⟩<;>rfl)
theorem d6.ext{n:Int}{rd wr:List Nat}{dv:DV X}{upd:List (Nat×Option (bm X))}{ab:Out}(h:sQ T i o n (λ x=>den (ρ x)) (dI rd (fu get))=some ab)(h1:jq ab.obs)(h2:ab.v=den dv)(h3:ab.upd=iy upd)(h4:∀p∈upd,p.1=cJ i\/p.1∈wr)(h5:k dv upd rd wr=some r)(hx:IT o.op=false:=by rfl):d6 P T i o ρ get k r:=
 ⟨.ext n,rd,wr,dv,upd,ab,by show sS T i o n _ _=some ab;unfold sS;rw[hx];simp only[ak,h],h1,h2,h3,h4,h5⟩
theorem d6.vq{n:Int}{rd wr:List Nat}{dv:DV X}{upd:List (Nat×Option (bm X))}{ab:Out}(h:DF T i o n (λ x=>den (ρ x)) (dI rd (fu get))=some ab)(h1:jq ab.obs)(h2:ab.v=den dv)(h3:ab.upd=iy upd)(h4:∀p∈upd,p.1=cJ i\/p.1∈wr)(h5:k dv upd rd wr=some r)(hx:IT o.op=true:=by rfl):d6 P T i o ρ get k r:=
 ⟨.ext n,rd,wr,dv,upd,ab,by show sS T i o n _ _=some ab;unfold sS;rw[hx];simp only[aj,h],h1,h2,h3,h4,h5⟩
theorem Sk{x:DV X}(h:PG x k=some r):∃dv,Pj (den x)=some ⟨den dv,[],[]⟩/\k dv [] [] []=some r:=by cases x<;>simp only[PG]at h<;>first |cases h |exact⟨_,rfl,h⟩
theorem ZR{cx:i8}{ρ:Operand->AV}{get:Nat->Option aR}(hne:∀f args cQ,o.op≠ .call { callee:= .value f,args:=args,argTypes:=cQ })(ho:∀n,cx≠ .ext n)(hf:∀ae fr q,cx≠ .xm ae fr q):jC P T i o cx ρ get=qa T i o cx ρ get:=by
 have e:∀(α:Type) (a:Operand->Array Operand->Array TypeId->α) (b:α),(match o.op with | .call { callee:= .value f,args:=args,argTypes:=cQ }=>a f args cQ |_=>b)=b:=by
  intro α a b;split
  ·rename_i f args cQ heq;exact(hne f args cQ heq).elim
  ·rfl
 cases cx<;>first |exact(ho _ rfl).elim |exact(hf _ _ _ rfl).elim |exact e _ _ _
theorem d6.op{cx:i8}{rd wr:List Nat}{dv:DV X}{upd:List (Nat×Option (bm X))}{ab:Out}(hne:∀f args cQ,o.op≠ .call { callee:= .value f,args:=args,argTypes:=cQ })
 (h:qa T i o cx (λ x=>den (ρ x)) (dI rd (fu get))=some ab) (h1:jq ab.obs/\ab.v=den dv/\ab.upd=iy upd/\(∀ p∈upd,p.1=cJ i\/p.1∈wr)/\k dv upd rd wr=some r):d6 P T i o ρ get k r:=by
 obtain⟨uA,h'⟩:∃uA,jC P T i o uA (λ x=>den (ρ x)) (dI rd (fu get))=some ab:=by
  by_cases hx:(∃ n,cx= .ext n)\/∃ae fr q,cx= .xm ae fr q
  ·refine⟨.none,?_⟩;rw[ZR hne (by simp) (by simp),aiU hx,h]
  ·simp only[not_or,not_exists]at hx;exact⟨cx,by rw[ZR hne hx.1 (λ ae fr q=>hx.2 ae fr q),h]⟩
 exact⟨uA,rd,wr,dv,upd,ab,h',h1⟩
theorem d6.call{dst:Option Tmp}{f:Operand}{args:Array Operand}{cQ:Array TypeId}{ty:TypeId}{ao:String}{after:Array Edge}{guard:Option (Nat×Bool)}{cx:i8}{rd wr:List Nat}{dv:DV X}{upd:List (Nat×Option (bm X))}{ab:Out}
 (h:j3 P i (den (ρ f)) (args.toList.map λx=>den (ρ x)) cx (dI rd (fu get))=some ab) (h1:jq ab.obs/\ab.v=den dv/\ab.upd=iy upd/\(∀ p∈upd,p.1=cJ i\/p.1∈wr)/\k dv upd rd wr=some r):
 d6 P T i ⟨dst,.call { callee:= .value f,args:=args,argTypes:=cQ },ty,ao,after,guard⟩ ρ get k r:=by
 refine⟨cx,rd,wr,dv,upd,ab,?_,h1⟩;unfold jC;split
 ·unfold j3 oN xB at h;simp only at h;split at h<;>first |cases h |(rename_i e;cases e)
 ·unfold j3 oN xB at h;simp only at h;split at h<;>first |cases h |(rename_i e;cases e)
 ·exact h
theorem Jq{op:BinOp}{b:DV X}{yes:Bool}(h:Fc op b yes k=some r):∃dv ab,DD op (den b) yes=some ab/\jq ab.obs/\ab.v=den dv/\ab.upd=[]/\k dv [] [] []=some r:=by
 unfold Fc at h;split at h
 ·cases yes with
  |true=>exact⟨b,_,rfl,trivial,rfl,rfl,h⟩
  |false=>exact⟨.c .bool false,_,rfl,trivial,rfl,rfl,h⟩
 ·cases yes with
  |true=>exact⟨b,_,rfl,trivial,rfl,rfl,h⟩
  |false=>exact⟨.c .bool true,_,rfl,trivial,rfl,rfl,h⟩
 ·cases h
theorem afU{op:BinOp}{t:TypeId}{x:DV X}(h:US T op t x k=some r):∃dv ab,z7 T op t (den x) .cV=some ab/\jq ab.obs/\ab.v=den dv/\ab.upd=[]/\k dv [] [] []=some r:=by
 unfold US at h;rw[ai]at h;obtain⟨ti,h1,h⟩:=h;split at h
 ·rename_i e c l hk;have⟨dv,ab,g1,g2⟩:=Jq h;refine⟨dv,ab,?_,g2⟩;simp only[z7,h1,af,hk,den,CT.tv,TV.av];rw[<- g1];congr 1;cases l<;>rfl
 ·rename_i e kk aa len hk;have⟨dv,ab,g1,g2⟩:=Jq h;exact⟨dv,ab,by simp only[z7,h1,af,hk,den];exact g1,g2⟩
 ·rename_i e kk len hk;have⟨dv,ab,g1,g2⟩:=Jq h;exact⟨dv,ab,by simp only[z7,h1,af,hk,den];exact g1,g2⟩
 ·rename_i e hk;have⟨dv,ab,g1,g2⟩:=Jq h;exact⟨dv,ab,by simp only[z7,h1,af,hk,den];exact g1,g2⟩
 ·cases h
theorem afV{s:ByteArray}{n b:Int}(h:Ru s n=some b):0<=n/\∃c,s[n.toNat]? =some c/\b=c.toNat:=by
 unfold Ru at h;by_cases hn:0<=n
 ·simp only[hn,decide_true,aj,dM]at h;obtain⟨c,h1,h2⟩:=h;exact⟨hn,c,h1,h2.symm⟩
 ·simp[hn]at h
theorem ZT{m:Int}{bytes:Nat}(h:zG m bytes=true):0<=m/\m.toNat*bytes<=140737488355328/\m.toNat<=maxLen:=by simpa[zG,and_assoc]using h
theorem Sl{b:Builtin}{args:List (DV X)}{cQ:List TypeId}(h:PE T am i b args cQ get k=some r):
 ∃rd wr dv upd ab,uR T i b (bP args) cQ (dI rd (fu get))=some ab/\jq ab.obs/\ab.v=den dv/\ab.upd=iy upd/\(∀ p∈upd,p.1=cJ i\/p.1∈wr)/\k dv upd rd wr=some r:=by
 unfold PE at h;split at h
 ·rename_i t;rw[ai]at h;obtain⟨ti,h1,h⟩:=h;split at h
  ·rename_i e hk;refine⟨[],[],_,[],⟨.t (.sc (.int .i64 0)),[],[]⟩,?_,trivial,rfl,rfl,by simp,h⟩;simp only[uR,bP,den,h1,af,hk];rfl
  ·cases h
 ·rename_i kk aa len t;rw[ai]at h;obtain⟨ti,h1,h⟩:=h;split at h
  ·rename_i e hk;rw[ai]at h;obtain⟨ei,h2,h⟩:=h;rw[ai]at h;obtain⟨o,h3,h⟩:=h;split at h
   ·rename_i c l;split at h
    ·rename_i hs;refine⟨[kk],[kk],_,_,⟨.ez [],[(kk,some ⟨CT.sz X c,(aI (l.map (CT.row X.toSE c))).take aa⟩)],[]⟩,?_,trivial,rfl,?_,by simp,h⟩
     ·simp only[uR,bP,den,h1,af,hk,h2,eD (List.mem_singleton_self kk) h3,bI];rw[aX hs]
     ·simp[iy,bI,aI,map_take]
    ·cases h
   ·cases h
  ·cases h
 ·rename_i kd m t u;rw[ai]at h;obtain⟨ti,h1,h⟩:=h;rw[ai]at h;obtain⟨ui,h2,h⟩:=h;split at h
  ·rename_i e kn hk hk';rw[ai]at h;obtain⟨ei,h3,h⟩:=h;rw[ai]at h;obtain⟨c,h4,h⟩:=h;split at h
   ·rename_i hs;have⟨z,h5,h⟩:=ai.1 h;have⟨h6,h⟩:=dZ h;have⟨m1,m2,m3⟩:=ZT h6;have hz:=yj h5;rw[Cm]at hz;refine⟨[],[],_,_,⟨.own (cJ i) 0 m.toNat,[(cJ i,some ⟨ei.size,dW (List.replicate m.toNat (ei.zero.map cv))⟩)],[0<=m/\m.toNat*ei.bytes<=140737488355328/\m.toNat<=maxLen/\0<ei.size]⟩,?_,?_,rfl,?_,by simp,h⟩
    ·simp only[uR,bP,den,CT.tv,TV.av,h1,h2,h3,af,hk,hk']
    ·exact⟨m1,m2,m3,hs.2⟩
    ·simp only[iy,aF,map_nil,Option.map_some,bI,hs.1,aI,dW,List.map_replicate];rw[hz]
   ·cases h
  ·cases h
 ·cases h
theorem adm{t:TypeId}{l c:DV X}(h:W5 T am i t l c k=some r):∃dv upd ab,KB T i t (den l) (den c)=some ab/\jq ab.obs/\ab.v=den dv/\ab.upd=iy upd/\(∀ p∈upd,p.1=cJ i)/\k dv upd [] []=some r:=by
 unfold W5 at h;rw[ai]at h;obtain⟨ti,h1,h⟩:=h;split at h
 ·rename_i e kl n kc m hk;rw[ai]at h;obtain⟨ei,h3,h⟩:=h;rw[ai]at h;obtain⟨c,h4,h⟩:=h;split at h
  ·rename_i hs;have⟨z,h5,h⟩:=ai.1 h;have⟨h6,h⟩:=dZ h;simp only[aK,aS]at h6;obtain⟨h7,h8,h9⟩:=h6;have⟨m1,m2,m3⟩:=ZT h9;have hz:=yj h5;rw[Cm]at hz;refine⟨_,_,⟨.own (cJ i) 0 n.toNat,[(cJ i,some ⟨ei.size,dW (List.replicate n.toNat (ei.zero.map cv))⟩)],[0<=n/\n<=m/\m.toNat*ei.bytes<=140737488355328/\m.toNat<=maxLen/\0<ei.size]⟩,?_,?_,rfl,?_,by simp,h⟩
   ·simp only[KB,den,CT.tv,TV.av,h1,h3,af,hk]
   ·exact⟨h8,h7,m2,m3,hs.2⟩
   ·simp only[iy,aF,map_nil,Option.map_some,bI,hs.1,aI,dW,List.map_replicate];rw[hz]
  ·cases h
 ·cases h
theorem VK{t:TypeId}(h:VI T am i t k=some r):∃dv upd ab,GR T i t=some ab/\jq ab.obs/\ab.v=den dv/\ab.upd=iy upd/\(∀ p∈upd,p.1=cJ i)/\k dv upd [] []=some r:=by
 unfold VI at h;rw[ai]at h;obtain⟨ti,h1,h⟩:=h;split at h
 ·rename_i kt et hk;have⟨kc,h2,h⟩:=ai.1 h;have⟨vc,h3,h⟩:=ai.1 h;exact⟨_,_,⟨.mp (cJ i),[(cJ i,some ⟨0,[]⟩)],[]⟩,by simp only[GR,h1,af,hk],trivial,rfl,rfl,by simp,h⟩
 ·cases h
theorem akG{ki:nh}{kc:CT X.ι}(h:DG ki.k kc=true)(x:CT.T X.toSE kc):∃v,(CT.tv X.toSE kc x).av= .t (.sc v)/\Mi ki.k v=true:=by
 cases kc
 case int b=>
  refine⟨.int b x,rfl,?_⟩;cases hk:ki.k<;>rw[hk]at h<;>simp only[DG,aS,Bool.false_eq_true]at h;subst h;simp[Mi]
 case str=>
  refine⟨.string x,rfl,?_⟩;cases hk:ki.k<;>rw[hk]at h<;>simp only[DG,Bool.false_eq_true]at h;rfl
 case bool=>
  refine⟨.bool x,rfl,?_⟩;cases hk:ki.k<;>rw[hk]at h<;>simp only[DG,Bool.false_eq_true]at h;rfl
 all_goals (cases hk:ki.k<;>rw[hk]at h<;>simp[DG]at h)
theorem adn{kc:CT X.ι}{eq:CT.T X.toSE kc->CT.T X.toSE kc->Bool}(h:ML kc=some eq){a b:CT.T X.toSE kc}{va:Value}(ha:(CT.tv X.toSE kc a).av= .t (.sc va)):∃vb,(CT.tv X.toSE kc b).av= .t (.sc vb)/\Ra va vb=some (eq a b):=by
 cases kc
 case int q=>
  simp only[ML,aA]at h;subst h;simp only[CT.tv,TV.av,AV.t.injEq,Tree.sc.injEq]at ha;subst ha;exact⟨_,rfl,by simp[Ra,js]⟩
 case str=>
  simp only[ML,aA]at h;subst h;simp only[CT.tv,TV.av,AV.t.injEq,Tree.sc.injEq]at ha;subst ha;exact⟨_,rfl,by simp[Ra,lf]⟩
 case bool=>
  simp only[ML,aA]at h;subst h;simp only[CT.tv,TV.av,AV.t.injEq,Tree.sc.injEq]at ha;subst ha;exact⟨_,rfl,by simp[Ra,bEq]⟩
 all_goals simp[ML]at h
theorem ZU{kc vc:CT X.ι}{eq:CT.T X.toSE kc->CT.T X.toSE kc->Bool}(h:ML kc=some eq){a:CT.T X.toSE kc}{va:Value}(ha:(CT.tv X.toSE kc a).av= .t (.sc va)):∀l:List (CT.T X.toSE kc×CT.T X.toSE vc),
 ∃r,Rb va (bI (.map kc vc l:bm X)).rows=some r/\r.map (·.2)=(fO eq a l).map λv=>(CT.tv X.toSE vc v).av
 |[]=>⟨none,rfl,rfl⟩
 |p::l=>by
  have⟨vb,h1,h2⟩:=adn h (b:=p.1) ha;have⟨r,g1,g2⟩:=ZU h ha l;have g1':Rb va (l.map λp=>[(CT.tv X.toSE kc p.1).av,(CT.tv X.toSE vc p.2).av])=some r:=g1;simp only[bI,aF,h1,Rb,h2,af,fO];cases eq a p.1 with
  |true=>exact⟨_,rfl,rfl⟩
  |false=>
   simp only[Bool.false_eq_true,if_false,g1',Option.map_some,ak];exact⟨_,rfl,by rw[<- g2,Option.map_map];rfl⟩
theorem ado{kc vc:CT X.ι}{eq:CT.T X.toSE kc->CT.T X.toSE kc->Bool}(h:ML kc=some eq){a:CT.T X.toSE kc}{va:Value}(ha:(CT.tv X.toSE kc a).av= .t (.sc va))(y:CT.T X.toSE vc):∀l:List (CT.T X.toSE kc×CT.T X.toSE vc),
 xv va (CT.tv X.toSE vc y).av (bI (.map kc vc l:bm X)).rows=some (bI (.map kc vc (rG eq a y l):bm X)).rows
 |[]=>by simp only[bI,map_nil,xv,rG,aF,ha]
 |p::l=>by
  have⟨vb,h1,h2⟩:=adn h (b:=p.1) ha;have g:=ado h ha y l;have g':xv va (CT.tv X.toSE vc y).av (l.map λp=>[(CT.tv X.toSE kc p.1).av,(CT.tv X.toSE vc p.2).av])=some ((rG eq a y l).map λp=>[(CT.tv X.toSE kc p.1).av,(CT.tv X.toSE vc p.2).av]):=g;simp only[bI,aF,h1,xv,h2,af,rG];cases eq a p.1 with
  |true=>simp only[if_true,aj,aF,ha]
  |false=>simp only[Bool.false_eq_true,if_false,g',Option.map_some,ak,aF,h1]
theorem zero_den{vc:CT X.ι}{ei:nh}{z:CT.T X.toSE vc}(h:G5 vc (ei.zero.map tW)=some z)(ha:ei.agg=Mm vc)(hs:ei.size=CT.sz X vc):part' ei.agg ei.size ((ei.zero.map cv).map wk)=some (CT.tv X.toSE vc z).av:=by
 have hz:=yj h;rw[Cm]at hz;rw[hz,ha,hs];have hl:((CT.row X.toSE vc z).map AV.t).length=CT.sz X vc:=by rw[length_map,DL]
 unfold part';rw[aX hl];cases vc<;>rfl
theorem abn{d:DV X}{c:CT X.ι}{x:CT.T X.toSE c}(h:dat d c=some x):yf (den d)=(CT.tv X.toSE c x).av:=by
 cases c
 case st j=>
  replace h:DH d j=some x:=h
  cases d
  case agg cs=>
   simp only[DH]at h;rw[ai]at h;obtain⟨g,h1,h⟩:=h;cases h;simp only[den,yf,(yI h1 (X.flat j)).1];rw[<- Vy];rfl
  case c a y=>
   replace h:jw a (.st j) y=some x:=h
   rw[(om h).1];simp only[den,CT.tv,TV.av,yf,map_map];congr 1
  all_goals cases h
 all_goals
  (have h':JR d _=some x:=h
   have hd:=vW h';cases d
   case agg=>cases h
   case c a y=>
    obtain⟨e,_⟩:=rE (show jw a _ y=some x from h);subst e;exact hd
   all_goals first |exact hd |(cases h))
theorem YI{t:TypeId}{x key:DV X}{ok:Bool}(h:Us T t x key ok get k=some r):∃rd dv ab,qz T t (den x) (den key) ok (dI rd (fu get))=some ab/\jq ab.obs/\ab.v=den dv/\ab.upd=[]/\k dv [] rd []=some r:=by
 unfold Us at h;rw[ai]at h;obtain⟨ti,h1,h⟩:=h;split at h
 ·rename_i kt et kk hk;rw[ai]at h;obtain⟨ki,h2,h⟩:=h;rw[ai]at h;obtain⟨ei,h3,h⟩:=h;rw[ai]at h;obtain⟨o,h4,h⟩:=h;split at h
  ·rename_i kc vc l;rw[ai]at h;obtain⟨eq,h5,h⟩:=h;rw[ai]at h;obtain⟨kv,h6,h⟩:=h;split at h
   ·rename_i hc;have⟨z,h7,h⟩:=ai.1 h;have⟨va,g1,g2⟩:=akG hc.1 kv;have⟨q,g3,g4⟩:=ZU (vc:=vc) h5 g1 l;have hkey:den key= .t (.sc va):=by
     have:=vW h6;rw[g1]at this;cases hd:den key<;>rw[hd]at this<;>simp only[wk,AV.t.injEq,reduceCtorEq]at this;subst this;rfl
    have hv:∀q:Option (Nat×AV),q.map (·.2)=(fO eq kv l).map (λ v=>(CT.tv X.toSE vc v).av)->vA q (part' ei.agg ei.size ((ei.zero.map cv).map wk))=some (CT.tv X.toSE vc ((fO eq kv l).getD z)).av:=by
     intro q g;cases hm:fO eq kv l with
     |none=>
      rw[hm]at g;cases q with
      |none=>exact zero_den h7 hc.2.1 hc.2.2
      |some p=>simp at g
     |some v=>
      rw[hm]at g;cases q with
      |none=>simp at g
      |some p=>simp only[Option.map_some,aA]at g;simp only[vA,g,Option.getD_some]
    have hi:q.isSome=(fO eq kv l).isSome:=by
     have:=congrArg Option.isSome g4;simpa using this
    have hb:qz T t (den (.mp kk:DV X)) (den key) ok (dI [kk] (fu get))=pv (if ok then .ez [den (.c vc ((fO eq kv l).getD z):DV X),.t (.sc (.bool q.isSome))]else den (.c vc ((fO eq kv l).getD z):DV X)):=by
     simp only[qz,Um,h1,af,hk,den,hkey,h2,h3,eD (List.mem_singleton_self kk) h4];rw[aX ⟨g2,by simp[bI]⟩];rw[g3,af,hv q g4,af]
    cases ok with
    |true=>exact⟨[kk],_,_,hb,trivial,by simp only[if_true,den,bP,hi];rfl,rfl,h⟩
    |false=>exact⟨[kk],_,_,hb,trivial,rfl,rfl,h⟩
   ·cases h
  ·cases h
 ·cases h
theorem YJ{t:TypeId}{x key y:DV X}(h:Ut T t x key y get k=some r):∃rd wr dv upd ab,vU T t (den x) (den key) (den y) (dI rd (fu get))=some ab/\jq ab.obs/\ab.v=den dv/\ab.upd=iy upd/\(∀ p∈upd,p.1∈wr)/\k dv upd rd wr=some r:=by
 unfold Ut at h;rw[ai]at h;obtain⟨ti,h1,h⟩:=h;split at h
 ·rename_i kt et kk hk;rw[ai]at h;obtain⟨ki,h2,h⟩:=h;rw[ai]at h;obtain⟨o,h4,h⟩:=h;split at h
  ·rename_i kc vc l;rw[ai]at h;obtain⟨eq,h5,h⟩:=h;rw[ai]at h;obtain⟨kv,h6,h⟩:=h;rw[ai]at h;obtain⟨v,h7,h⟩:=h;split at h
   ·rename_i hc;have⟨va,g1,g2⟩:=akG hc kv;have g3:=ado (vc:=vc) h5 g1 v l;have hkey:den key= .t (.sc va):=by
     have:=vW h6;rw[g1]at this;cases hd:den key<;>rw[hd]at this<;>simp only[wk,AV.t.injEq,reduceCtorEq]at this;subst this;rfl
    refine⟨[kk],[kk],_,_,⟨.undef,[(kk,some ⟨(bI (.map kc vc (rG eq kv v l):bm X)).rows.length,(bI (.map kc vc (rG eq kv v l):bm X)).rows⟩)],[]⟩,?_,trivial,rfl,?_,by simp,h⟩
    ·simp only[vU,Un,h1,af,hk,den,hkey,h2,eD (List.mem_singleton_self kk) h4];rw[aX ⟨g2,by simp[bI]⟩,abn h7,g3];rfl
    ·simp[iy,bI]
   ·cases h
  ·cases h
 ·cases h
theorem adp{k:IntKind}:∀{l:List (CT X.ι)}(h:HL X.toSE l),DU k l=true->qb k ((HL.row X.toSE l h).map AV.t)=some (mM l h)/\(mM l h).length=l.length
 |[],_,_=>⟨rfl,rfl⟩
 | .int k'::l,h,hi=>by
  simp only[DU,aK,aS]at hi;obtain⟨rfl,hi⟩:=hi;have⟨g1,g2⟩:=adp (l:=l) h.2 hi;exact⟨by simp only[HL.row,CT.row,cons_append,bR,aF,qb,if_true,g1,Option.map_some,mM],by simp only[mM,bG,g2]⟩
theorem ahP{k:IntKind}:∀{cs:List AV}{c:List Int},qb k cs=some c->GU k c= .agg cs
 |[],c,h=>by simp only[qb,aA]at h;subst h;rfl
 |x::cs,c,h=>by
  unfold qb at h;split at h
  ·rename_i heq;cases heq
  ·rename_i k' n r heq;injection heq with e1 e2;subst e1;subst e2;split at h
   ·rename_i hk;subst hk;rw[dM]at h;obtain⟨c',h1,rfl⟩:=h;have:=ahP h1;simp only[GU,AV.agg.injEq]at this ⊢;rw[aF,this]
   ·cases h
  ·cases h
theorem rZ{k:IntKind}{i:X.ι}(hi:DU k (X.cQ i)=true)(x:CT.T X.toSE (.st i)):qb k ((X.row i x).map AV.t)=some (mM (X.cQ i) (X.get i x))/\(mM (X.cQ i) (X.get i x)).length=(X.cQ i).length:=by
 have:=adp (X.get i x) hi;rw[<- X.lR]at this;exact this
theorem adq{k:IntKind}:∀{cs:List AV}{c:List Int},qb k (cs.map wk)=some c->qb k cs=some c
 |[],c,h=>h
 |x::cs,c,h=>by
  cases x
  case t y=>
   cases y
   case sc v=>
    cases v
    case int k' n=>
     simp only[aF,wk,qb]at h ⊢;split at h
     ·rename_i hk;rw[aX hk];rw[dM]at h ⊢;obtain⟨c',h1,rfl⟩:=h;exact⟨c',adq h1,rfl⟩
     ·cases h
    all_goals (simp [wk,qb]at h)
   all_goals (simp [wk,qb]at h)
  all_goals (simp [wk,qb]at h)
theorem akH{key:DV X}{i:X.ι}{kv:CT.T X.toSE (.st i)}{k:IntKind}(h:dat key (.st i)=some kv)(hi:DU k (X.cQ i)=true):∃cs,den key= .agg cs/\qb k cs=some (mM (X.cQ i) (X.get i kv)):=by
 have h1:=abn h;cases hd:den key<;>rw[hd]at h1<;>simp only[yf,wk,CT.tv,TV.av,reduceCtorEq,AV.agg.injEq]at h1;rename_i cs;exact⟨cs,rfl,adq (by rw[h1];exact(rZ hi kv).1)⟩
theorem VL{vc:CT X.ι}{i:X.ι}{k:IntKind}(hi:DU k (X.cQ i)=true)(a:CT.T X.toSE (.st i)):∀l:List (CT.T X.toSE (.st i)×CT.T X.toSE vc),
 ∃r,AO k (mM (X.cQ i) (X.get i a)) (bI (.map (.st i) vc l:bm X)).rows=some r/\r.map (·.2)=(fO (G9 i) a l).map λv=>(CT.tv X.toSE vc v).av
 |[]=>⟨none,rfl,rfl⟩
 |p::l=>by
  have⟨h1,h2⟩:=rZ hi p.1;have h3:=(rZ hi a).2;have⟨r,g1,g2⟩:=VL hi a l;have g1':AO k (mM (X.cQ i) (X.get i a)) (l.map λp=>[(CT.tv X.toSE (.st i) p.1).av,(CT.tv X.toSE vc p.2).av])=some r:=g1;have e:(CT.tv X.toSE (.st i) p.1).av= .agg ((X.row i p.1).map AV.t):=rfl;simp only[bI,aF,e,AO,h1,af,fO,G9];rw[aX (by rw[h2,h3])];by_cases hc:mM (X.cQ i) (X.get i a)=mM (X.cQ i) (X.get i p.1)
  ·rw[aX hc,decide_eq_true hc];exact⟨_,rfl,rfl⟩
  ·rw[aQ hc,decide_eq_false hc];refine⟨r.map λp=>(p.1+1,p.2),?_,?_⟩
   ·exact congrArg (Option.map λr:Option (Nat×AV)=>r.map λp=>(p.1+1,p.2)) g1'
   ·rw[ak,<- g2,Option.map_map];rfl
theorem aiV{vc:CT X.ι}{i:X.ι}{k:IntKind}(hi:DU k (X.cQ i)=true)(a:CT.T X.toSE (.st i))(y:CT.T X.toSE vc):∀l:List (CT.T X.toSE (.st i)×CT.T X.toSE vc),
 Mk k (mM (X.cQ i) (X.get i a)) (CT.tv X.toSE vc y).av (bI (.map (.st i) vc l:bm X)).rows=some (bI (.map (.st i) vc (rG (G9 i) a y l):bm X)).rows:=by
 have hA:GU k (mM (X.cQ i) (X.get i a))=(CT.tv X.toSE (.st i) a).av:=ahP (rZ hi a).1;intro l
 induction l with
 |nil=>simp only[bI,map_nil,Mk,rG,aF,hA]
 |cons p l ih=>
  have⟨h1,h2⟩:=rZ hi p.1;have h3:=(rZ hi a).2;have e:(CT.tv X.toSE (.st i) p.1).av= .agg ((X.row i p.1).map AV.t):=rfl;have ih':Mk k (mM (X.cQ i) (X.get i a)) (CT.tv X.toSE vc y).av (l.map λp=>[(CT.tv X.toSE (.st i) p.1).av,(CT.tv X.toSE vc p.2).av])=some ((rG (G9 i) a y l).map λp=>[(CT.tv X.toSE (.st i) p.1).av,(CT.tv X.toSE vc p.2).av]):=ih;simp only[bI,aF,e,Mk,h1,af,rG];rw[aX (by rw[h2,h3])];by_cases hc:mM (X.cQ i) (X.get i a)=mM (X.cQ i) (X.get i p.1)
  ·rw[aX hc,show G9 i a p.1=true from decide_eq_true hc,hA];rfl
  ·rw[aQ hc,show G9 i a p.1=false from decide_eq_false hc,ih'];rfl
theorem amJ{vc:CT X.ι}{ei:nh}{z:CT.T X.toSE vc}(h7:G5 vc (ei.zero.map tW)=some z)(hc1:ei.agg=Mm vc)(hc2:ei.size=CT.sz X vc){q:Option (Nat×AV)}{m:Option (CT.T X.toSE vc)}(g:q.map (·.2)=m.map λv=>(CT.tv X.toSE vc v).av):
 vA q (part' ei.agg ei.size ((ei.zero.map cv).map wk))=some (CT.tv X.toSE vc (m.getD z)).av:=by
 cases m with
 |none=>
  cases q with
  |none=>exact zero_den h7 hc1 hc2
  |some p=>simp at g
 |some v=>
  cases q with
  |none=>simp at g
  |some p=>simp only[Option.map_some,aA]at g;simp only[vA,g,Option.getD_some]
theorem VN{t:TypeId}{x key:DV X}{ok:Bool}(h:MO T t x key ok get k=some r):∃rd dv ab,qz T t (den x) (den key) ok (dI rd (fu get))=some ab/\jq ab.obs/\ab.v=den dv/\ab.upd=[]/\k dv [] rd []=some r:=by
 unfold MO at h;rw[ai]at h;obtain⟨ti,h1,h⟩:=h;split at h
 ·rename_i kt et kk hk;rw[ai]at h;obtain⟨mk,h2,h⟩:=h;rw[ai]at h;obtain⟨ei,h3,h⟩:=h;rw[ai]at h;obtain⟨o,h4,h⟩:=h;split at h
  ·rename_i i vc l;rw[ai]at h;obtain⟨kv,h6,h⟩:=h;split at h
   ·rename_i hc;have⟨z,h7,h⟩:=ai.1 h;have⟨cs,g1,g2⟩:=akH h6 hc.2.1;have⟨q,g3,g4⟩:=VL (vc:=vc) hc.2.1 kv l;have hi:q.isSome=(fO (G9 i) kv l).isSome:=by
     have:=congrArg Option.isSome g4;simpa using this
    have hb:qz T t (den (.mp kk:DV X)) (den key) ok (dI [kk] (fu get))=pv (if ok then .ez [den (.c vc ((fO (G9 i) kv l).getD z):DV X),.t (.sc (.bool q.isSome))]else den (.c vc ((fO (G9 i) kv l).getD z):DV X)):=by
     simp only[g1,qz,Ml,h1,af,hk,den,h2,h3,eD (List.mem_singleton_self kk) h4,g2];rw[aX ⟨(rZ hc.2.1 kv).2.trans hc.1,by simp[bI]⟩];rw[g3,af,amJ h7 hc.2.2.1 hc.2.2.2 g4,af]
    cases ok with
    |true=>exact⟨[kk],_,_,hb,trivial,by simp only[if_true,den,bP,hi];rfl,rfl,h⟩
    |false=>exact⟨[kk],_,_,hb,trivial,rfl,rfl,h⟩
   ·cases h
  ·cases h
 ·cases h
theorem VO{t:TypeId}{x key y:DV X}(h:MP T t x key y get k=some r):∃rd wr dv upd ab,vU T t (den x) (den key) (den y) (dI rd (fu get))=some ab/\jq ab.obs/\ab.v=den dv/\ab.upd=iy upd/\(∀ p∈upd,p.1∈wr)/\k dv upd rd wr=some r:=by
 unfold MP at h;rw[ai]at h;obtain⟨ti,h1,h⟩:=h;split at h
 ·rename_i kt et kk hk;rw[ai]at h;obtain⟨mk,h2,h⟩:=h;rw[ai]at h;obtain⟨o,h4,h⟩:=h;split at h
  ·rename_i i vc l;rw[ai]at h;obtain⟨kv,h6,h⟩:=h;rw[ai]at h;obtain⟨v,h7,h⟩:=h;split at h
   ·rename_i hc;have⟨cs,g1,g2⟩:=akH h6 hc.2;have g3:=aiV (vc:=vc) hc.2 kv v l;refine⟨[kk],[kk],_,_,⟨.undef,[(kk,some ⟨(bI (.map (.st i) vc (rG (G9 i) kv v l):bm X)).rows.length,(bI (.map (.st i) vc (rG (G9 i) kv v l):bm X)).rows⟩)],[]⟩,?_,trivial,rfl,?_,by simp,h⟩
    ·simp only[g1,vU,Mq,h1,af,hk,den,h2,eD (List.mem_singleton_self kk) h4,g2];rw[aX ⟨(rZ hc.2 kv).2.trans hc.1,by simp[bI]⟩,abn h7,g3];rfl
    ·simp[iy,bI]
   ·cases h
  ·cases h
 ·cases h
theorem VP{t:TypeId}{x key:DV X}{ok:Bool}(h:(bif ZQ x get then MO T t x key ok get k else Us T t x key ok get k)=some r):∃rd dv ab,qz T t (den x) (den key) ok (dI rd (fu get))=some ab/\jq ab.obs/\ab.v=den dv/\ab.upd=[]/\k dv [] rd []=some r:=by
 cases hs:ZQ x get<;>rw[hs]at h
 ·exact YI h
 ·exact VN h
theorem VQ{t:TypeId}{x key y:DV X}(h:(bif ZQ x get then MP T t x key y get k else Ut T t x key y get k)=some r):∃rd wr dv upd ab,vU T t (den x) (den key) (den y) (dI rd (fu get))=some ab/\jq ab.obs/\ab.v=den dv/\ab.upd=iy upd/\(∀ p∈upd,p.1∈wr)/\k dv upd rd wr=some r:=by
 cases hs:ZQ x get<;>rw[hs]at h
 ·exact YJ h
 ·exact VO h
theorem afW(h:UP T am i o.op ρ get k=some r):d6 P T i o ρ get k r:=by
 obtain⟨dst,op,ty,ao,after,guard⟩:=o;unfold UP at h;simp only at h;split at h
 ·rename_i op t x y q;split at h
  ·rename_i hn;have⟨dv,ab,g1,g2,g3,g4,g5⟩:=afU h;have hy:den (ρ y)= .cV:=(by cases hρ:ρ y<;>rw[hρ]at hn<;>first |rfl |cases hn);exact d6.ext (n:=0) (rd:=[]) (wr:=[]) (upd:=[]) (by simp only[sQ,hy];exact g1) g2 g3 g4 (by simp) g5
  ·cases h
 ·rename_i s d x;unfold anW at h;rw[ai]at h;obtain⟨si,h1,h⟩:=h;rw[ai]at h;obtain⟨di,h2,h⟩:=h;split at h
  ·rename_i kd k' n hk hx;refine d6.ext (n:=0) (rd:=[]) (wr:=[]) (upd:=[]) (ab:=⟨.t (.sc (.int kd (kd.wrap n))),[],[]⟩) ?_ trivial rfl rfl (by simp) h;simp only[sQ,N0,h1,h2,af,hk,hx];rfl
  ·cases h
 ·rename_i t x j;unfold akC at h;rw[ai]at h;obtain⟨ti,h1,h⟩:=h;split at h
  ·rename_i s kk n hk hx hj;rw[ai]at h;obtain⟨b,h2,h⟩:=h;refine d6.ext (n:=b) (rd:=[]) (wr:=[]) (upd:=[]) (ab:=⟨.t (.sc (.int .u8 b)),[],[0<=n/\∃c,s[n.toNat]? =some c/\b=c.toNat]⟩) ?_ (afV h2) rfl rfl (by simp) h;simp only[sQ,U4,h1,af,hk,hx,hj];rfl
  ·rename_i m e cs kd q hk hx hj;rw[ai]at h;obtain⟨ei,h2,h⟩:=h;have⟨h3,h⟩:=dZ h;rw[ai]at h;obtain⟨v,h4,h⟩:=h;simp only[cC,aK,aS]at h3;refine d6.ext (n:=0) (rd:=[]) (wr:=[]) (upd:=[]) (ab:=⟨den v,[],[0<=q/\q<(m:Int)]⟩) ?_ h3 rfl rfl (by simp) h;have h5:=Cn h4;rw[j4]at h5;simp only[sQ,U4,h1,af,hk,hx,hj,h2,den,CT.tv,TV.av,h5];rfl
  ·cases h
 ·rename_i t x lo hi;unfold ZP at h;rw[ai]at h;obtain⟨ti,h1,h⟩:=h;split at h
  ·rename_i e hk hx;rw[ai]at h;obtain⟨ei,h2,h⟩:=h;rw[ai]at h;obtain⟨l,h3,h⟩:=h;rw[ai]at h;obtain⟨hh,h4,h⟩:=h;have⟨h5,h⟩:=dZ h;refine d6.ext (n:=0) (rd:=[]) (wr:=[]) (upd:=[]) (ab:=⟨.cV,[],[l=0/\hh=0]⟩) ?_ (show l=0/\hh=0 by simpa using h5) rfl rfl (by simp) h;have e1:=Co h3;have e2:=Co h4;rw[Option.map_map]at e1 e2;simp only[sQ,Jk,h1,af,hk,hx,h2,den];have E2:bnd 0 (lo.map λx=>den (ρ x))=some l:=e1;have e2':bnd 0 (hi.map λx=>den (ρ x))=some hh:=e2;rw[E2,af,e2'];rfl
  ·cases h
 ·rename_i x;have⟨dv,g1,g2⟩:=Sk h;exact d6.vq (n:=0) (rd:=[]) (wr:=[]) (upd:=[]) g1 trivial rfl rfl (by simp) g2
 ·rename_i t l c;have⟨dv,upd,ab,g1,g2,g3,g4,g5,g6⟩:=adm h;exact d6.vq (n:=0) (rd:=[]) (wr:=[]) (upd:=upd) g1 g2 g3 g4 (λ p hp=> .inl (g5 p hp)) g6
 ·rename_i t;have⟨dv,upd,ab,g1,g2,g3,g4,g5,g6⟩:=VK h;exact d6.vq (n:=0) (rd:=[]) (wr:=[]) (upd:=upd) g1 g2 g3 g4 (λ p hp=> .inl (g5 p hp)) g6
 ·rename_i t m x ok;have⟨rd,dv,ab,g1,g2,g3,g4,g6⟩:=VP h;exact d6.vq (n:=0) (rd:=rd) (wr:=[]) (upd:=[]) g1 g2 g3 g4 (by simp) g6
 ·rename_i t m x v;have⟨rd,wr,dv,upd,ab,g1,g2,g3,g4,g5,g6⟩:=VQ h;exact d6.vq (n:=0) (rd:=rd) (wr:=wr) (upd:=upd) g1 g2 g3 g4 (λ p hp=> .inr (g5 p hp)) g6
 ·rename_i b args cQ;have⟨rd,wr,dv,upd,ab,g1,g2,g3,g4,g5,g6⟩:=Sl h;refine d6.ext (n:=0) (rd:=rd) (wr:=wr) (upd:=upd) ?_ g2 g3 g4 g5 g6;simp only[sQ,Uq];exact g1
 ·cases h
theorem adr{c:CT X.ι}:∀{xs:List Operand}{x:Operand}{y:CT.T X.toSE c×List Bool},x∈xs->Fj get (ρ x) c=some y->∀j∈bk (ρ x),j∈zv get c ρ xs
 |z::xs,x,y,hx,h,j,hj=>by
  simp only[zv,bf];rcases aN.1 hx with rfl |hx
  ·left;rw[h];exact hj
  ·exact .inr (adr hx h j hj)
 |[],_,_,hx,_,_,_=>by simp at hx
theorem ads{c:CT X.ι}:∀{xs:List Operand}{x:Operand}{y:CT.T X.toSE c×List Bool},x∈xs->Fj get (ρ x) c=some y->∀b∈y.2,b∈Mb get c ρ xs
 |z::xs,x,y,hx,h,b,hb=>by
  simp only[Mb,bf];rcases aN.1 hx with rfl |hx
  ·left;rw[h];exact hb
  ·exact .inr (ads hx h b hb)
 |[],_,_,hx,_,_,_=>by simp at hx
theorem afX(h:Up T am i o.op ρ get k=some r):d6 P T i o ρ get k r:=by
 unfold Up at h;split at h
 ·cases h
 rename_i hpick;have⟨c,h1,h⟩:=ai.1 h;have⟨hcs,h⟩:=pF h;have⟨cx,rd,wr,dv,upd,ab,g1,g2,g3,g4,g5,g6⟩:=ZM h;generalize kq:zv get c ρ o.op.operands.toList=ae at*;refine⟨.xm ae (λ x=>den (Jn get c ρ x)) cx,rd++ae,wr++ae,dv,upd++MN ae,⟨ab.v,ab.upd++ae.map (λ k=>(k,none)),ab.obs++[∀ x∈o.op.operands,(ft P (dI (rd++ae) (fu get)) (den (ρ x)) (den (Jn get c ρ x))/\∀k∈refs (den (ρ x)),k∈ae)\/den (Jn get c ρ x)=den (ρ x)]⟩,?_,?_,g3,?_,?_,g6⟩
 ·unfold jC GQ;simp only;rw[aQ hpick];have e:(λ k=>if k∈ae then none else dI (rd++ae) (fu get) k)=dI rd (fu λj=>if j∈ae then none else get j):=by
   funext j;simp only[dI,fu,bf];by_cases hj:j∈ae
   ·simp[hj]
   ·simp[hj]
  rw[e,g1];rfl
 ·refine qR _ λp hp=>?_;rcases bf.1 hp with hp |hp
  ·exact qy _ g2 p hp
  ·rw[aW]at hp;subst hp;intro x hx;unfold Jn;cases hl:Fj get (ρ x) c with
   |none=>exact .inr rfl
   |some y=>
    left;have hx':x∈o.op.operands.toList:=(by simpa using hx);have hin:∀j∈bk (ρ x),j∈ae:=λj hj=>kq ▸ adr hx' hl j hj;obtain⟨hs,obs,p1,p2⟩:=zY (P:=P) (rd:=rd++ae) hl (λ b hb=>hcs b (ads hx' hl b hb)) (λ j hj=>List.mem_append_right _ (hin j hj));refine⟨?_,λj hj=>hin j (by rwa [iO]at hj)⟩;have:=p2 [];exact Dy _ _ _ this p1
 ·simp only[rY,Cr,g4]
 ·intro p hp;rcases bf.1 hp with hp |hp
  ·exact(g5 p hp).imp id (λ h=>List.mem_append_left _ h)
  ·exact .inr (List.mem_append_right _ (Jp hp))
theorem VU{c:CT X.ι}:∀{ds:List (DV X)}{xs:List (CT.T X.toSE c)},zH c ds=some xs->bP ds=xs.map λy=>den (.c c y:DV X)
 |[],xs,h=>by simp only[zH,aA]at h;subst h;rfl
 | .c a x::ds,xs,h=>by
  simp only[zH]at h;have⟨y,h1,h⟩:=ai.1 h;have⟨l,h2,h⟩:=ai.1 h;cases h;simp only[bP,aF,VU h2,(om h1).1]
 | .agg _::_,_,h=>by simp[zH]at h
 | .ez _::_,_,h=>by simp[zH]at h
 | .own _ _ _::_,_,h=>by simp[zH]at h
 | .ptr _ _ _::_,_,h=>by simp[zH]at h
 | .qt _ _ _::_,_,h=>by simp[zH]at h
 | .mp _::_,_,h=>by simp[zH]at h
 | .tf _ _ _ _ _::_,_,h=>by simp[zH]at h
 | .rp _ _ _::_,_,h=>by simp[zH]at h
 | .ws _ _ _ _ _::_,_,h=>by simp[zH]at h
 | .fn _ _ _::_,_,h=>by simp[zH]at h
 | .d7 _ _ _::_,_,h=>by simp[zH]at h
 | .raw _::_,_,h=>by simp[zH]at h
 | .nil::_,_,h=>by simp[zH]at h
 | .ub::_,_,h=>by simp[zH]at h
 | .skip::_,_,h=>by simp[zH]at h
 | .undef::_,_,h=>by simp[zH]at h
theorem afY(h:T8 T am o.op ρ get k=some r):d6 P T i o ρ get k r:=by
 obtain⟨dst,op,ty,ao,after,guard⟩:=o;unfold T8 at h;simp only at h;split at h
 ·rename_i t x j;rw[ai]at h;obtain⟨ti,h1,h⟩:=h;split at h
  ·rename_i m e kk row aa kd n hk hx hj;rw[ai]at h;obtain⟨ei,h2,h⟩:=h;split at h
   ·rename_i hs;have⟨h3,h⟩:=dZ h;refine d6.op (cx:= .none) (rd:=[]) (wr:=[]) (upd:=[]) (λ _ _ _ e=>by cases e) (ab:=⟨.ptr kk row (aa+n.toNat*1),[],[0<=n/\n.toNat<m]⟩) ?_ ⟨?_,?_,rfl,by simp,h⟩
    ·simp only[qa,lX,h1,af,hk,hx,hj,den,CT.tv,TV.av,h2,hs];rfl
    ·simp only[cC,aK,aS]at h3;exact⟨h3.1,by omega⟩
    ·simp only[den,Nat.mul_one]
   ·cases h
  ·rename_i m e c y aa kd n hk hx hj;rw[ai]at h;obtain⟨ei,h2,h⟩:=h;split at h
   ·rename_i hs;have⟨h3,h⟩:=dZ h;refine d6.op (cx:= .none) (rd:=[]) (wr:=[]) (upd:=[]) (λ _ _ _ e=>by cases e) (ab:=⟨.ep (CT.row X.toSE c y) (aa+n.toNat*1),[],[0<=n/\n.toNat<m]⟩) ?_ ⟨?_,?_,rfl,by simp,h⟩
    ·simp only[qa,lX,h1,af,hk,hx,hj,den,CT.tv,TV.av,h2,hs];rfl
    ·simp only[cC,aK,aS]at h3;exact⟨h3.1,by omega⟩
    ·simp only[den,Nat.mul_one]
   ·cases h
  ·cases h
 ·rename_i t a;rw[ai]at h;obtain⟨ti,h1,h⟩:=h;split at h
  ·rename_i kk row aa m n hx;split at h
   ·rename_i hs;rw[ai]at h;obtain⟨c,h2,h⟩:=h;split at h
    ·rename_i hc;rw[ai]at h;obtain⟨ob,h3,h⟩:=h;split at h
     ·rename_i sz rows;have⟨q,h4,h⟩:=ai.1 h;have⟨xs,h5,h⟩:=ai.1 h;have⟨y,h6,h⟩:=ai.1 h;have⟨_,h7⟩:=MH h6;have h8:=VU h5;have h9:((bP q).drop (aa+n.toNat)).take 1=[den (.c c y:DV X)]:=by
       have e1:(bP ((q.drop aa).take m))[n.toNat]? =some (den (.c c y:DV X)):=(by rw[h8,List.getElem?_map,h7];rfl);rw[j4,List.getElem?_take]at e1;split at e1
       ·rw[List.getElem?_drop]at e1;have⟨g1,g2⟩:=dD.1 e1;rw[List.drop_eq_getElem_cons g1,List.take_succ_cons,List.take_zero,g2]
       ·cases e1
      refine d6.op (cx:= .none) (rd:=[kk]) (wr:=[]) (upd:=[]) (λ _ _ _ e=>by cases e) (ab:=⟨den (.c c y:DV X),[],[]⟩) ?_ ⟨trivial,rfl,rfl,by simp,h⟩;simp only[qa,Kl,h1,af,hx,den,eD (List.mem_singleton_self kk) h3,bI,List.getElem?_map,h4,Option.map_some,hs.1,hs.2];rw[h9];obtain⟨t',g1,g2⟩:=row_one hc y;simp only[den,g2,TV.av];rfl
     ·cases h
     ·cases h
    ·cases h
   ·cases h
  ·rename_i b y0 aa m n hx;split at h
   ·rename_i hs;rw[ai]at h;obtain⟨c,h2,h⟩:=h;split at h
    ·rename_i hc;have⟨xs,h5,h⟩:=ai.1 h;have⟨y,h6,h⟩:=ai.1 h;have⟨_,h7⟩:=MH h6;have h8:=VU h5;have h9:(((CT.row X.toSE b y0).drop (aa+n.toNat)).take 1).map AV.t=[den (.c c y:DV X)]:=by
      have e1:(bP (((uV b y0).drop aa).take m))[n.toNat]? =some (den (.c c y:DV X)):=(by rw[h8,List.getElem?_map,h7];rfl);rw[j4,oO,List.getElem?_take]at e1;split at e1
      ·rw[List.getElem?_drop]at e1;have⟨g1,g2⟩:=dD.1 e1;rw[map_take,map_drop,List.drop_eq_getElem_cons g1,List.take_succ_cons,List.take_zero,g2]
      ·cases e1
     refine d6.op (cx:= .none) (rd:=[]) (wr:=[]) (upd:=[]) (λ _ _ _ e=>by cases e) (ab:=⟨den (.c c y:DV X),[],[]⟩) ?_ ⟨trivial,rfl,rfl,by simp,h⟩;simp only[qa,Kl,h1,af,hx,den,hs.1,hs.2];rw[h9];obtain⟨t',g1,g2⟩:=row_one hc y;simp only[den,g2,TV.av];rfl
    ·cases h
   ·cases h
  ·cases h
 ·cases h
end
end
section
variable {X:SX}
structure MA(X:SX) where
 nm:List (Nat×Nat)
 ey:List (DC X)
 iS:List Bool
def addN(m:MA X)(k' k:Nat):MA X:=if m.nm.contains (k',k)then m else⟨m.nm++[(k',k)],m.ey,m.iS⟩
section
variable (get:Nat->Option (bm X))
mutual
def mP:Pt X.ι->DV X->MA X->Option (MA X)
 | .v c,d,m=>(dat d c).bind λx=>some ⟨m.nm,m.ey++[⟨c,x⟩],m.iS⟩
 | .o k,d,m=>match d with
  | .own k' 0 len=>(get k').bind λo=>match o with
   | .d8 _ l=>some (addN ⟨m.nm,m.ey,m.iS++[az len l.length]⟩ k' k)
   |_=>none
  |_=>none
 | .oz k,d,m=>match d with
  | .own k' 0 len=>(get k').bind λo=>match o with
   | .d8 _ l=>some (addN ⟨m.nm,m.ey,m.iS++[!(len==0)&&az len l.length]⟩ k' k)
   |_=>none
  | .oz k' len=>(get k').bind λo=>match o with
   | .d8 _ l=>some (addN ⟨m.nm,m.ey,m.iS++[az len l.length]⟩ k' k)
   |_=>none
  |_=>none
 | .p k,d,m=>match d with
  | .ptr k' 0 0=>some (addN m k' k)
  |_=>none
 | .mp k,d,m=>match d with
  | .mp k'=>some (addN m k' k)
  |_=>none
 | .nil,d,m=>match d with
  | .nil=>some m
  |_=>none
 | .f F fs cs,d,m=>match d with
  | .fn F' first caps=>if F=F' then(sX fs first m).bind λm=>sX cs caps m else none
  |_=>none
 | .od k,d,m=>match d with
  | .own k' aa len=>(get k').bind λo=>match o with
   | .d8 _ l=>some (addN ⟨m.nm,m.ey++[⟨.int .i64,(aa:Int)⟩],m.iS++[az (aa+len) l.length]⟩ k' k)
   |_=>none
  |_=>none
 | .a ps,d,m=>match d with
  | .agg ds=>sX ps ds m
  |_=>none
def sX:List (Pt X.ι)->List (DV X)->MA X->Option (MA X)
 |[],[],m=>some m
 |p::ps,d::ds,m=>(mP p d m).bind λm=>sX ps ds m
 |_,_,_=>none
end
def He(env:Nat->DV X):List (Nat×Pt X.ι)->MA X->Option (MA X)
 |[],m=>some m
 |(t,p)::r,m=>(mP get p (env t) m).bind λm=>He env r m
def Fp:List (List (Pt X.ι))->List (List (DV X))->MA X->Option (MA X)
 |[],[],m=>some m
 |r::rs,q::qs,m=>(sX get r q m).bind λm=>Fp rs qs m
 |_,_,_=>none
def nameOf(m:MA X)(k:Nat):Nat:=match m.nm.find? (λ q=>q.2==k)with |some q=>q.1 |none=>k
def Cs:List (Nat×OP X.ι)->MA X->Option (MA X)
 |[],m=>some m
 |(k,op)::r,m=>(get (nameOf m k)).bind λo=>match op,o with
  | .l c,.d8 c' l=>(jw (.sl c') (.sl c) l).bind λl'=>Cs r (addN ⟨m.nm,m.ey++[⟨.sl c,l'⟩],m.iS⟩ (nameOf m k) k)
  | .m kc vc,.map tM tD l=>(jw (.mp tM tD) (.mp kc vc) l).bind λl'=>Cs r (addN ⟨m.nm,m.ey++[⟨.mp kc vc,l'⟩],m.iS⟩ (nameOf m k) k)
  | .c sz rows,.cells sz' rows'=>if sz=sz' then(Fp get rows rows' (addN m (nameOf m k) k)).bind λm=>Cs r m else none
  |_,_=>none
end
end
section
variable {X:SX} {A:Type}
mutual
def nr(f:Nat->Nat):DV X->DV X
 | .own k aa len=> .own (f k) aa len
 | .ptr k row aa=> .ptr (f k) row aa
 | .qt k n aa=> .qt (f k) n aa
 | .tf k row aa m n=> .tf (f k) row aa m n
 | .mp k=> .mp (f k)
 | .oz k len=> .oz (f k) len
 | .agg cs=> .agg (JS f cs)
 | .ez cs=> .ez (JS f cs)
 | .fn F first caps=> .fn F (JS f first) (JS f caps)
 |x=>x
def JS(f:Nat->Nat):List (DV X)->List (DV X)
 |[]=>[]
 |x::xs=>nr f x::JS f xs
end
theorem XX(f:Nat->Nat):∀l:List Tree,zF f (l.map AV.t)=l.map AV.t
 |[]=>rfl
 |x::xs=>by simp only[aF,zF,fX,XX f xs]
mutual
theorem zZ(f:Nat->Nat):∀x:DV X,den (nr f x)=fX f (den x)
 | .own _ _ _=>rfl
 | .ptr _ _ _=>rfl
 | .qt _ _ _=>rfl
 | .mp _=>rfl
 | .oz _ _=>rfl
 | .tf _ _ _ _ _=>rfl
 | .agg cs=>by simp only[nr,den,fX,Ct f cs]
 | .ez cs=>by simp only[nr,den,fX,Ct f cs]
 | .fn F first caps=>by simp only[nr,den,fX,Ct f first,Ct f caps]
 | .c t x=>by
  simp only[nr,den];cases t<;>try rfl
  simp only[CT.tv,TV.av,fX,XX]
 | .rp _ _ _=>rfl
 | .ws _ _ _ _ _=>rfl
 | .d7 _ _ _=>rfl
 | .raw v=>by
  simp only[nr,den,cv];split
  ·rfl
  ·split<;>rfl
 | .nil=>rfl
 | .ub=>rfl
 | .skip=>rfl
 | .undef=>rfl
theorem Ct(f:Nat->Nat):∀l:List (DV X),bP (JS f l)=zF f (bP l)
 |[]=>rfl
 |x::xs=>by simp only[JS,bP,zF,zZ f x,Ct f xs]
end
def oR(f:Nat->Nat):bm X->bm X
 | .cells sz rows=> .cells sz (rows.map (JS f))
 |o=>o
def d5:bm X->List Nat
 | .cells _ rows=>(rows.map aP).flatten
 | .d8 _ _=>[]
 | .map _ _ _=>[]
def No:CT X.ι->Bool
 | .int _ | .bool | .str=>true
 |_=>false
def xu:CT X.ι->Bool
 | .st i=>(X.cQ i).all No
 |c=>No c
theorem DW{c:CT X.ι}(h:No c=true)(x:CT.T X.toSE c):∀t∈CT.row X.toSE c x,t.flat:=by cases c<;>first |(intro t ht;simp only[CT.row,aW]at ht;subst ht;exact trivial) |cases h
theorem ahR:∀(l:List (CT X.ι))(h:HL X.toSE l),l.all No=true->∀t∈HL.row X.toSE l h,t.flat
 |[],_,_,t,ht=>by simp[HL.row]at ht
 |c::l,h,ha,t,ht=>by
  simp only[all_cons,aK]at ha;rcases bf.1 (show t∈CT.row X.toSE c h.1++HL.row X.toSE l h.2 from ht)with ht |ht
  ·exact DW ha.1 h.1 t ht
  ·exact ahR l h.2 ha.2 t ht
theorem uW{c:CT X.ι}(h:xu c=true)(x:CT.T X.toSE c):∀t∈CT.row X.toSE c x,t.flat:=by
 cases c
 case st i=>intro t ht;exact ahR (X.cQ i) (X.get i x) h t ((X.lR i x) ▸ ht)
 case int k=>exact DW (c:= .int k) h x
 case bool=>exact DW (c:= .bool) h x
 case str=>exact DW (c:= .str) h x
 case sl e=>cases h
 case any=>cases h
 case mp=>cases h
structure MG(X:SX) where
 nm:List (Nat×Nat)
 ey:List (DC X)
 iS:List Bool
 vr:List Nat
section
variable (get:Nat->Option (bm X))
mutual
def pL:Pt X.ι->DV X->MG X->Option (MG X)
 | .v c,d,m=>(Fj get d c).bind λx=>some ⟨m.nm,m.ey++[⟨c,x.1⟩],m.iS++x.2,m.vr++bk d⟩
 | .o k,d,m=>match d with
  | .own k' 0 len=>(get k').bind λo=>match o with
   | .d8 _ l=>some ⟨m.nm++[(k',k)],m.ey,m.iS++[az len l.length],m.vr⟩
   |_=>none
  |_=>none
 | .od k,d,m=>match d with
  | .own k' aa len=>(get k').bind λo=>match o with
   | .d8 _ l=>some ⟨m.nm++[(k',k)],m.ey++[⟨.int .i64,(aa:Int)⟩],m.iS++[az (aa+len) l.length],m.vr⟩
   |_=>none
  |_=>none
 | .p k,d,m=>match d with
  | .ptr k' 0 0=>some ⟨m.nm++[(k',k)],m.ey,m.iS,m.vr⟩
  |_=>none
 | .nil,d,m=>match d with
  | .nil=>some m
  |_=>none
 | .f F fs cs,d,m=>match d with
  | .fn F' first caps=>if F=F' then(sg fs first m).bind λm=>sg cs caps m else none
  |_=>none
 | .mp k,d,m=>match d with
  | .mp k'=>some ⟨m.nm++[(k',k)],m.ey,m.iS,m.vr⟩
  |_=>none
 | .oz _,_,_=>none
 | .a ps,d,m=>match d with
  | .agg ds=>sg ps ds m
  |_=>none
def sg:List (Pt X.ι)->List (DV X)->MG X->Option (MG X)
 |[],[],m=>some m
 |p::ps,d::ds,m=>(pL p d m).bind λm=>sg ps ds m
 |_,_,_=>none
end
def Fq:List (List (Pt X.ι))->List (List (DV X))->MG X->Option (MG X)
 |[],[],m=>some m
 |r::rs,q::qs,m=>(sg get r q m).bind λm=>Fq rs qs m
 |_,_,_=>none
def qu(m:MG X)(k:Nat):Nat:=match m.nm.find? (λ q=>q.2==k)with |some q=>q.1 |none=>k
def stC:CT X.ι->Bool
 | .st _=>true
 |_=>false
def Cu:List (Nat×OP X.ι)->MG X->Option (MG X)
 |[],m=>some m
 |(k,op)::r,m=>(get (qu m k)).bind λo=>match op,o with
  | .l c,.d8 c' l=>(jw (.sl c') (.sl c) l).bind λl'=>Cu r ⟨m.nm++[(qu m k,k)],m.ey++[⟨.sl c,l'⟩],m.iS,m.vr⟩
  | .m kc vc,.map tM tD l=>if (kc.one=true/\vc.one=true)\/stC kc=true then(jw (.mp tM tD) (.mp kc vc) l).bind λl'=>Cu r ⟨m.nm++[(qu m k,k)],m.ey++[⟨.mp kc vc,l'⟩],m.iS,m.vr⟩else none
  | .c sz rows,.cells sz' rows'=>if sz=sz' then(Fq get rows rows' ⟨m.nm++[(qu m k,k)],m.ey,m.iS,m.vr⟩).bind λm=>Cu r m else none
  |_,_=>none
end
mutual
def Pt.refs:Pt X.ι->List Nat
 | .o k | .od k | .p k | .mp k | .oz k=>[k]
 | .f _ fs cs=>AZ fs++AZ cs
 | .a ps=>AZ ps
 |_=>[]
def AZ:List (Pt X.ι)->List Nat
 |[]=>[]
 |p::ps=>p.refs++AZ ps
end
def OP.refs:OP X.ι->List Nat
 | .l _=>[]
 | .m _ _=>[]
 | .c _ rows=>rows.flatMap AZ
def Hb(n k:Nat):Bool:=Nat.blt k n || (Nat.ble 1000 k&&Nat.blt k 1064)
def cX.ok(g:cX X):Bool:=
 decide (g.iz.map (·.1)=List.range g.iz.length)&&decide (g.iz.length<=1000)&&(g.ix.all λq=>Hb g.iz.length q.1&&q.2.refs.all λk=>Hb g.iz.length k)&&decide (g.ix.map (·.1)).Nodup&&(AZ g.fx).all λk=>Hb g.iz.length k
def okG(m:MG X)(ae:List Nat):Bool:=
 decide ae.Nodup&&(m.nm.all λq=>match ae[q.2]? with |some k=>Nat.beq k q.1 |none=>false)&&m.vr.all λk=>!ae.contains k
def cX.flat(g:cX X):Bool:=(cP g.fx).all xu&&g.ix.all λq=>match q.2 with
 | .l c=>xu c
 | .m _ _=>false
 | .c _ rows=>(vX rows).all xu
def tt:List (Nat×bm X)->Nat->Option (bm X)
 |[],_=>none
 |(j,o)::r,k=>if j=k then some o else tt r k
def Nm(i:Nat)(ae:List Nat)(os':List (Nat×bm X)):List (Nat×Option (bm X)):=
 (ae.zipIdx.map λp=>(p.1,(tt os' p.2).map (oR (cn i ae))))++(os'.filter λq=>decide (1000<=q.1)).map λq=>(cn i ae q.1,some (oR (cn i ae) q.2))
def af0(g:cX X)(i:Nat)(ds:List (DV X))(get:Nat->Option (bm X))(k:KK X A):Option A:=
 (sg get g.py ds ⟨[],[],[],[]⟩).bind λm=>(Cu get g.iz m).bind λm=>
  bif g.ok&&okG m ((List.range g.iz.length).map (qu m))then(YG (cP g.py++cH g.iz) m.ey).bind λv=>Vt m.iS ((g.fn v).bind λr=>
   let ae:=(List.range g.iz.length).map (qu m)
   k (nr (cn i ae) (g.res r)) (Nm i ae (g.outs r)++(if g.flat then []else m.vr.map λk=>(k,none))) (ae++m.vr) ((ae++(Nm i ae (g.outs r)).map (·.1))++m.vr))
  else none
section
variable {P:Program} {get:Nat->Option (bm X)} {rd ae:List Nat} {dt:Nat->Nat}
def fR(m m':MG X):Prop:=(∀ q∈m.nm,q∈m'.nm)/\(∀ c∈m.iS,c∈m'.iS)/\∀k∈m.vr,k∈m'.vr
theorem fR.refl(m:MG X):fR m m:=⟨λ _ h=>h,λ_ h=>h,λ_ h=>h⟩
theorem fR.trans{a b c:MG X}(h:fR a b)(h':fR b c):fR a c:=⟨λ q hq=>h'.1 q (h.1 q hq),λq hq=>h'.2.1 q (h.2.1 q hq),λq hq=>h'.2.2 q (h.2.2 q hq)⟩
mutual
theorem akI:∀(p:Pt X.ι)(d:DV X)(m m':MG X),pL get p d m=some m'->fR m m'/\∃an,m'.ey=m.ey++an/\an.length=p.vars.length
 | .v c,d,m,m',h=>by
  simp only[pL]at h;rw[ai]at h;obtain⟨x,h1,h⟩:=h;cases h;exact⟨⟨λ _ h=>h,λ_ h=>by simp[h],λ_ h=>by simp[h]⟩,[⟨c,x.1⟩],rfl,rfl⟩
 | .o k,d,m,m',h=>by
  simp only[pL]at h;split at h
  ·rw[ai]at h;obtain⟨o,h1,h⟩:=h;split at h
   ·cases h;exact⟨⟨λ _ h=>by simp[h],λ_ h=>by simp[h],λ_ h=>h⟩,[],by simp,rfl⟩
   ·cases h
  ·cases h
 | .od k,d,m,m',h=>by
  simp only[pL]at h;split at h
  ·rename_i k' aa len;have⟨o,h1,h⟩:=ai.1 h;split at h
   ·cases h;exact⟨⟨λ _ h=>by simp[h],λ_ h=>by simp[h],λ_ h=>h⟩,[⟨.int .i64,(aa:Int)⟩],rfl,rfl⟩
   ·cases h
  ·cases h
 | .p k,d,m,m',h=>by
  simp only[pL]at h;split at h
  ·cases h;exact⟨⟨λ _ h=>by simp[h],λ_ h=>h,λ_ h=>h⟩,[],by simp,rfl⟩
  ·cases h
 | .nil,d,m,m',h=>by
  simp only[pL]at h;split at h
  ·cases h;exact⟨fR.refl _,[],by simp,rfl⟩
  ·cases h
 | .f F fs cs,d,m,m',h=>by
  simp only[pL]at h;split at h
  ·split at h
   ·have⟨m1,h1,h⟩:=ai.1 h;obtain⟨a1,n1,b1,c1⟩:=wo fs _ m m1 h1;obtain⟨a2,n2,b2,c2⟩:=wo cs _ m1 m' h;exact⟨a1.trans a2,n1++n2,by rw[b2,b1,aM],by simp[Pt.vars,c1,c2]⟩
   ·cases h
  ·cases h
 | .mp k,d,m,m',h=>by
  simp only[pL]at h;split at h
  ·cases h;exact⟨⟨λ _ h=>by simp[h],λ_ h=>h,λ_ h=>h⟩,[],by simp,rfl⟩
  ·cases h
 | .oz _,_,_,_,h=>by simp[pL]at h
 | .a ps,d,m,m',h=>by
  simp only[pL]at h;split at h
  ·exact wo ps _ m m' h
  ·cases h
theorem wo:∀(ps:List (Pt X.ι))(ds:List (DV X))(m m':MG X),sg get ps ds m=some m'->fR m m'/\∃an,m'.ey=m.ey++an/\an.length=(cP ps).length
 |[],[],m,m',h=>by
  simp only[sg,aA]at h;subst h;exact⟨fR.refl _,[],by simp,rfl⟩
 |p::ps,d::ds,m,m',h=>by
  simp only[sg]at h;have⟨m1,h1,h⟩:=ai.1 h;have⟨a1,n1,b1,c1⟩:=akI p d m m1 h1;have⟨a2,n2,b2,c2⟩:=wo ps ds m1 m' h;exact⟨a1.trans a2,n1++n2,by rw[b2,b1,aM],by simp[cP,c1,c2]⟩
 |[],_::_,m,m',h=>by simp[sg]at h
 |_::_,[],m,m',h=>by simp[sg]at h
end
def YK:AV->List LH->List LH
 | .agg _,hs=> .agd::hs
 |_,hs=>hs
theorem MQ(x:AV)(a b:List LH):YK x (a++b)=YK x a++b:=by cases x<;>rfl
theorem yu{get':Nat->Option aR}{x:AV}{hs:List LH}{p:AV×List LH×List Prop}(h:nP P get' x hs=some p)(hr:∀k∈refs x,k∉ae):oM P get' ae x (YK x hs)=some p:=by
 have hd:((refs x).all λk=>!ae.contains k)=true:=by
  simp only[all_eq_true,Bool.not_eq_true',List.contains_eq_mem,dK];exact hr
 cases x
 case agg cs=>
  simp only[refs]at hd;simp only[YK,oM,hd,if_true];exact h
 all_goals
  simp only[YK];unfold oM;split<;>first |(simp [nP]at h;done) |(rw [aX hd];exact h) |exact h |exact absurd hd ‹_› |(rename_i e;cases e;done)
variable {NM:List (Nat×Nat)} {pN:List Nat}
mutual
theorem aiW(hi:∀q∈NM,ae[q.2]? =some q.1)(hv:∀k∈pN,k∉ae)(hrd:∀k,(∃ q,(k,q)∈NM)\/k∈pN->k∈rd)(ho:∀q∈NM,∀c l,get q.1=some (.d8 c l)->dt q.2=l.length):
 ∀(p:Pt X.ι)(d:DV X)(m m':MG X),pL get p d m=some m'->(∀ q∈m'.nm,q∈NM)->(∀ c∈m'.iS,c=true)->(∀ k∈m'.vr,k∈pN)->
 ∃an,m'.ey=m.ey++an/\∃d',(∀ ag,eP dt p (an++ag)=(d',ag))/\(∃ hs obs,(∀ p∈obs,p)/\∀ag,oM P (dI rd (fu get)) ae (den d) (hs++ag)=some (den d',ag,obs))/\∀j∈bk d,(∃ q,(j,q)∈NM)\/j∈pN
 | .v c,d,m,m',h,hn,hc,hr=>by
  simp only[pL]at h;rw[ai]at h;obtain⟨x,h1,h⟩:=h;cases h;have AN:∀j∈bk d,j∈pN:=λj hj=>hr j (by simp[hj]);obtain⟨hs,obs,p1,q1⟩:=zY (P:=P) (rd:=rd) h1 (λ b hb=>hc b (by simp[hb])) (λ j hj=>hrd j (.inr (AN j hj)));refine⟨[⟨c,x.1⟩],rfl,.c c x.1,λag=>rfl,⟨YK (den d) hs,obs,p1,λag=>?_⟩,λj hj=> .inr (AN j hj)⟩;rw[<- MQ];exact yu (q1 ag) (λ k hk=>hv k (AN k (by rwa [iO]at hk)))
 | .o k,d,m,m',h,hn,hc,hr=>by
  simp only[pL]at h;split at h
  ·rename_i k' len;rw[ai]at h;obtain⟨o,h1,h⟩:=h;split at h
   ·rename_i c l;cases h;have hq:(k',k)∈NM:=hn _ (by simp);have he:len=l.length:=by
     have:=hc (az len l.length) (by simp);simpa[az]using this
    refine⟨[],by simp,.own k 0 (dt k),λag=>rfl,⟨[.mut k],[],by simp,λag=>?_⟩,λj hj=>?_⟩
    ·simp only[den,cons_append,bR,oM,hi _ hq,if_true,ho _ hq c l h1,he]
    ·simp only[bk,aW]at hj;subst hj;exact .inl ⟨k,hq⟩
   ·cases h
  ·cases h
 | .od k,d,m,m',h,hn,hc,hr=>by
  simp only[pL]at h;split at h
  ·rename_i k' aa len;rw[ai]at h;obtain⟨o,h1,h⟩:=h;split at h
   ·rename_i c l;cases h;have hq:(k',k)∈NM:=hn _ (by simp);have he:aa+len=l.length:=by
     have:=hc (az (aa+len) l.length) (by simp);simpa[az]using this
    refine⟨[⟨.int .i64,(aa:Int)⟩],rfl,.own k aa (dt k -aa),λag=>?_,⟨[.mut k],[],by simp,λag=>?_⟩,λj hj=>?_⟩
    ·have:ZN (X:=X) ⟨.int .i64,(aa:Int)⟩=aa:=by
      simp only[ZN];rw[VF];simp
     simp only[eP,cons_append,bR,this]
    ·simp only[den,cons_append,bR,oM,hi _ hq,if_true,ho _ hq c l h1,show l.length -aa=len by omega]
    ·simp only[bk,aW]at hj;subst hj;exact .inl ⟨k,hq⟩
   ·cases h
  ·cases h
 | .p k,d,m,m',h,hn,hc,hr=>by
  simp only[pL]at h;split at h
  ·rename_i k';cases h;have hq:(k',k)∈NM:=hn _ (by simp);refine⟨[],by simp,.ptr k 0 0,λag=>rfl,⟨[.mut k],[],by simp,λag=>?_⟩,λj hj=>?_⟩
   ·simp only[den,cons_append,bR,oM,hi _ hq,if_true]
   ·simp only[bk,aW]at hj;subst hj;exact .inl ⟨k,hq⟩
  ·cases h
 | .nil,d,m,m',h,hn,hc,hr=>by
  simp only[pL]at h;split at h
  ·cases h;refine⟨[],by simp,.nil,λag=>rfl,⟨[.nil],[],by simp,λag=>?_⟩,by simp[bk]⟩;exact yu (by simp only[den,cons_append,bR,nP]) (by simp[den,refs])
  ·cases h
 | .f F fs cs,d,m,m',h,hn,hc,hr=>by
  simp only[pL]at h;split at h
  ·rename_i F' first caps
   split at h
   ·rename_i e;subst e;rw[ai]at h;obtain⟨m1,h1,h⟩:=h;have hm:=(wo cs _ m1 m' h).1;obtain⟨n1,a1,f',b1,⟨hs1,o1,p1,q1⟩,r1⟩:=yw hi hv hrd ho fs _ m m1 h1 (λ q hq=>hn q (hm.1 q hq)) (λ q hq=>hc q (hm.2.1 q hq)) (λ q hq=>hr q (hm.2.2 q hq));obtain⟨n2,a2,c',b2,⟨hs2,o2,p2,q2⟩,r2⟩:=yw hi hv hrd ho cs _ m1 m' h hn hc hr;refine⟨n1++n2,by rw[a2,a1,aM],.fn F f' c',λag=>by simp only[eP,aM,b1,b2],⟨.fnw::(hs1++hs2),o1++o2,gM p1 p2,λag=>?_⟩,λj hj=>?_⟩
    ·simp only[den,cons_append,aM,oM,q1,af,q2]
    ·simp only[bk,bf]at hj;exact hj.elim (r1 j) (r2 j)
   ·cases h
  ·cases h
 | .mp k,d,m,m',h,hn,hc,hr=>by
  simp only[pL]at h;split at h
  ·rename_i k';cases h;have hq:(k',k)∈NM:=hn _ (by simp);refine⟨[],by simp,.mp k,λag=>rfl,⟨[.mut k],[],by simp,λag=>?_⟩,λj hj=>?_⟩
   ·simp only[den,cons_append,bR,oM,hi _ hq,if_true]
   ·simp only[bk,aW]at hj;subst hj;exact .inl ⟨k,hq⟩
  ·cases h
 | .oz _,_,_,_,h,_,_,_=>by simp[pL]at h
 | .a ps,d,m,m',h,hn,hc,hr=>by
  simp only[pL]at h;split at h
  ·rename_i ds;have⟨n1,a1,f',b1,⟨hs1,o1,p1,q1⟩,r1⟩:=yw hi hv hrd ho ps ds m m' h hn hc hr;refine⟨n1,a1,.agg f',λag=>by simp only[eP,b1],⟨.agw::hs1,o1,p1,λag=>?_⟩,λj hj=>r1 j (by simpa[bk]using hj)⟩;simp only[den,cons_append,oM,q1,af]
  ·cases h
theorem yw(hi:∀q∈NM,ae[q.2]? =some q.1)(hv:∀k∈pN,k∉ae)(hrd:∀k,(∃ q,(k,q)∈NM)\/k∈pN->k∈rd)(ho:∀q∈NM,∀c l,get q.1=some (.d8 c l)->dt q.2=l.length):
 ∀(ps:List (Pt X.ι))(ds:List (DV X))(m m':MG X),sg get ps ds m=some m'->(∀ q∈m'.nm,q∈NM)->(∀ c∈m'.iS,c=true)->(∀ k∈m'.vr,k∈pN)->
 ∃an,m'.ey=m.ey++an/\∃ds',(∀ ag,lh dt ps (an++ag)=(ds',ag))/\(∃ hs obs,(∀ p∈obs,p)/\∀ag,lY P (dI rd (fu get)) ae (bP ds) (hs++ag)=some (bP ds',ag,obs))/\∀j∈aP ds,(∃ q,(j,q)∈NM)\/j∈pN
 |[],[],m,m',h,_,_,_=>by
  simp only[sg,aA]at h;subst h;exact⟨[],by simp,[],λag=>rfl,⟨[],[],by simp,λag=>rfl⟩,by simp[aP]⟩
 |p::ps,d::ds,m,m',h,hn,hc,hr=>by
  simp only[sg]at h;have⟨m1,h1,h⟩:=ai.1 h;have hm:=(wo ps ds m1 m' h).1;obtain⟨n1,a1,d',b1,⟨hs1,o1,p1,q1⟩,r1⟩:=aiW hi hv hrd ho p d m m1 h1 (λ q hq=>hn q (hm.1 q hq)) (λ q hq=>hc q (hm.2.1 q hq)) (λ q hq=>hr q (hm.2.2 q hq));have⟨n2,a2,ds',b2,⟨hs2,o2,p2,q2⟩,r2⟩:=yw hi hv hrd ho ps ds m1 m' h hn hc hr;refine⟨n1++n2,by rw[a2,a1,aM],d'::ds',λag=>by simp only[lh,aM,b1,b2],⟨hs1++hs2,o1++o2,gM p1 p2,λag=>?_⟩,λj hj=>?_⟩
  ·simp only[bP,aM,lY,q1,af,q2]
  ·simp only[aP,bf]at hj;exact hj.elim (r1 j) (r2 j)
 |[],_::_,m,m',h,_,_,_=>by simp[sg]at h
 |_::_,[],m,m',h,_,_,_=>by simp[sg]at h
end
theorem yK:∀(rs:List (List (Pt X.ι)))(qs:List (List (DV X)))(m m':MG X),Fq get rs qs m=some m'->fR m m'/\∃an,m'.ey=m.ey++an/\an.length=(vX rs).length
 |[],[],m,m',h=>by
  simp only[Fq,aA]at h;subst h;exact⟨fR.refl _,[],by simp,rfl⟩
 |r::rs,q::qs,m,m',h=>by
  simp only[Fq]at h;have⟨m1,h1,h⟩:=ai.1 h;have⟨a1,n1,b1,c1⟩:=wo r q m m1 h1;have⟨a2,n2,b2,c2⟩:=yK rs qs m1 m' h;exact⟨a1.trans a2,n1++n2,by rw[b2,b1,aM],by simp[vX,c1,c2]⟩
 |[],_::_,m,m',h=>by simp[Fq]at h
 |_::_,[],m,m',h=>by simp[Fq]at h
theorem Rv(hi:∀q∈NM,ae[q.2]? =some q.1)(hv:∀k∈pN,k∉ae)(hrd:∀k,(∃ q,(k,q)∈NM)\/k∈pN->k∈rd)(ho:∀q∈NM,∀c l,get q.1=some (.d8 c l)->dt q.2=l.length):
 ∀(rs:List (List (Pt X.ι)))(qs:List (List (DV X)))(m m':MG X),Fq get rs qs m=some m'->(∀ q∈m'.nm,q∈NM)->(∀ c∈m'.iS,c=true)->(∀ k∈m'.vr,k∈pN)->
 ∃an,m'.ey=m.ey++an/\∃D2,(∀ ag,vZ dt rs (an++ag)=(D2,ag))/\(∃ hs obs,(∀ p∈obs,p)/\yE P (dI rd (fu get)) ae (qs.map bP) hs=some (D2.map bP,obs))/\∀j∈(qs.map aP).flatten,(∃ q,(j,q)∈NM)\/j∈pN
 |[],[],m,m',h,_,_,_=>by
  simp only[Fq,aA]at h;subst h;exact⟨[],by simp,[],λag=>rfl,⟨[],[],by simp,rfl⟩,by simp⟩
 |r::rs,q::qs,m,m',h,hn,hc,hr=>by
  simp only[Fq]at h;have⟨m1,h1,h⟩:=ai.1 h;have hm:=(yK rs qs m1 m' h).1;obtain⟨n1,a1,d',b1,⟨hs1,o1,p1,q1⟩,r1⟩:=yw (P:=P) hi hv hrd ho r q m m1 h1 (λ q hq=>hn q (hm.1 q hq)) (λ q hq=>hc q (hm.2.1 q hq)) (λ q hq=>hr q (hm.2.2 q hq));have⟨n2,a2,ds',b2,⟨hs2,o2,p2,q2⟩,r2⟩:=Rv hi hv hrd ho rs qs m1 m' h hn hc hr;refine⟨n1++n2,by rw[a2,a1,aM],d'::ds',λag=>by simp only[vZ,aM,b1,b2],⟨hs1::hs2,o1++o2,gM p1 p2,?_⟩,λj hj=>?_⟩
  ·have:=q1 [];rw[append_nil]at this;simp only[aF,yE,this,af,q2]
  ·simp only[aF,List.flatten_cons,bf]at hj;exact hj.elim (r1 j) (r2 j)
 |[],_::_,m,m',h,_,_,_=>by simp[Fq]at h
 |_::_,[],m,m',h,_,_,_=>by simp[Fq]at h
theorem lZ:∀(os:List (Nat×OP X.ι))(m m':MG X),Cu get os m=some m'->fR m m'/\∃an,m'.ey=m.ey++an/\an.length=(cH os).length
 |[],m,m',h=>by
  simp only[Cu,aA]at h;subst h;exact⟨fR.refl _,[],by simp,rfl⟩
 |(k,op)::r,m,m',h=>by
  simp only[Cu]at h;rw[ai]at h;obtain⟨o,h1,h⟩:=h;split at h
  ·rename_i c c' l;rw[ai]at h;obtain⟨l',h2,h⟩:=h;obtain⟨a2,n2,b2,c2⟩:=lZ r _ m' h;refine⟨fR.trans (b:=⟨m.nm++[(qu m k,k)],m.ey++[⟨.sl c,l'⟩],m.iS,m.vr⟩) ⟨λ _ h=>by simp[h],λ_ h=>h,λ_ h=>h⟩ a2,[⟨.sl c,l'⟩]++n2,?_,by simp[cH,c2]⟩;rw[b2,aM]
  ·rename_i kc vc tM tD l;split at h
   ·rw[ai]at h;obtain⟨l',h2,h⟩:=h;obtain⟨a2,n2,b2,c2⟩:=lZ r _ m' h;refine⟨fR.trans (b:=⟨m.nm++[(qu m k,k)],m.ey++[⟨.mp kc vc,l'⟩],m.iS,m.vr⟩) ⟨λ _ h=>by simp[h],λ_ h=>h,λ_ h=>h⟩ a2,[⟨.mp kc vc,l'⟩]++n2,?_,by simp[cH,c2]⟩;rw[b2,aM]
   ·cases h
  ·rename_i sz rows sz' rows';split at h
   ·rw[ai]at h;obtain⟨m1,h2,h⟩:=h;obtain⟨a1,n1,b1,c1⟩:=yK rows _ _ m1 h2;have⟨a2,n2,b2,c2⟩:=lZ r m1 m' h;refine⟨fR.trans (fR.trans (b:=⟨m.nm++[(qu m k,k)],m.ey,m.iS,m.vr⟩) ⟨λ _ h=>by simp[h],λ_ h=>h,λ_ h=>h⟩ a1) a2,n1++n2,?_,by simp[cH,c1,c2]⟩;rw[b2,b1,aM]
   ·cases h
  ·cases h
theorem DX:∀(os:List (Nat×OP X.ι))(m m':MG X),Cu get os m=some m'->(∀ q∈m'.nm,q∈NM)->∃an,m'.ey=m.ey++an/\∀ag,∀k∈os.map (·.1),∃k' o,(k',k)∈NM/\get k'=some o/\∀c l,o= .d8 c l->(k,List.length l)∈lens os (an++ag)
 |[],m,m',h,_=>by
  simp only[Cu,aA]at h;subst h;exact⟨[],by simp,λag k hk=>by simp at hk⟩
 |(k,op)::r,m,m',h,hn=>by
  simp only[Cu]at h;rw[ai]at h;obtain⟨o,h1,h⟩:=h;split at h
  ·rename_i c c' l;rw[ai]at h;obtain⟨l',h2,h⟩:=h;have hm:=(lZ r _ m' h).1;obtain⟨n2,b2,c2⟩:=DX r _ m' h hn;refine⟨[⟨.sl c,l'⟩]++n2,by rw[b2,aM],λag j hj=>?_⟩;simp only[aF,aN]at hj;simp only[cons_append,bR,lens];by_cases hjk:j=k
   ·subst hjk;refine⟨_,_,hn _ (hm.1 _ (by simp)),h1,λc2 l2 he=>?_⟩;injection he with e1 e2;subst e1;have e2:=eq_of_heq e2;subst e2;have:=congrArg List.length (jf h2).2;simp only[length_map]at this;rw[this];exact List.mem_cons_self
   ·rcases hj with rfl |hj
    ·exact(hjk rfl).elim
    ·have⟨k',o',g1,g2,g3⟩:=c2 ag j hj;exact⟨k',o',g1,g2,λc l he=>eG _ (g3 c l he)⟩
  ·rename_i kc vc tM tD l;split at h
   ·rw[ai]at h;obtain⟨l',h2,h⟩:=h;have hm:=(lZ r _ m' h).1;obtain⟨n2,b2,c2⟩:=DX r _ m' h hn;refine⟨[⟨.mp kc vc,l'⟩]++n2,by rw[b2,aM],λag j hj=>?_⟩;simp only[aF,aN]at hj;simp only[cons_append,bR,lens,List.drop_succ_cons,List.drop_zero];by_cases hjk:j=k
    ·subst hjk;exact⟨_,_,hn _ (hm.1 _ (by simp)),h1,λc2 l2 he=>by cases he⟩
    ·rcases hj with rfl |hj
     ·exact(hjk rfl).elim
     ·exact c2 ag j hj
   ·cases h
  ·rename_i sz rows sz' rows';split at h
   ·have⟨m1,h2,h⟩:=ai.1 h;obtain⟨a1,n1,b1,c1⟩:=yK rows _ _ m1 h2;have hm:=(lZ r _ m' h).1;obtain⟨n2,b2,c2⟩:=DX r _ m' h hn;refine⟨n1++n2,by rw[b2,b1,aM],λag j hj=>?_⟩;simp only[aF,aN]at hj;have hd:(n1++n2++ag).drop (vX rows).length=n2++ag:=(by rw[<- c1,aM,List.drop_left]);simp only[lens,hd];by_cases hjk:j=k
    ·subst hjk;exact⟨_,_,hn _ (hm.1 _ (a1.1 _ (by simp))),h1,λc2 l2 he=>by cases he⟩
    ·rcases hj with rfl |hj
     ·exact(hjk rfl).elim
     ·exact c2 ag j hj
   ·cases h
  ·cases h
theorem DY:∀(os:List (Nat×OP X.ι))(L:List (DC X)),((lens os L).map (·.1)).Sublist (os.map (·.1))
 |[],_=>by simp[lens]
 |(k,.l c)::r,L=>by
  simp only[lens];split
  ·exact(DY r _).cons_cons _
  ·exact List.nil_sublist _
 |(k,.m kc vc)::r,L=>by
  simp only[lens];exact(DY r _).cons _
 |(k,.c sz rows)::r,L=>by
  simp only[lens];exact(DY r _).cons _
def aiX(get':Nat->Option aR)(NM:List (Nat×Nat))(pN:List Nat)(bs:List OB)(ks:List Nat):Prop:=
 ∀(j:Nat) hs q o,bs[j]? =some (.C4 hs)->ks[j]? =some q->get' q=some o->∀k∈Pk o,(∃ z,(k,z)∈NM)\/k∈pN
theorem MR{sz:Nat}{rows:List (List (DV X))}{k:Nat}(h:k∈Pk (bI (.cells sz rows))):k∈(rows.map aP).flatten:=by
 simp only[Pk,bI,mem_flatMap,mem_map]at h;obtain⟨a,⟨r,hr,rfl⟩,hk⟩:=h;rw[gZ]at hk;exact List.mem_flatten.2 ⟨_,mem_map.2 ⟨r,hr,rfl⟩,hk⟩
theorem abo:∀ts:List Tree,eT (ts.map AV.t)=[]
 |[]=>rfl
 |t::ts=>by simp only[aF,eT,refs,abo ts,append_nil]
theorem ahT{P:Program}{get:Nat->Option aR}:∀(ts:List Tree)(hs:List LH),mq P get (ts.map AV.t) hs=some (ts.map AV.t,hs,[])
 |[],hs=>rfl
 |t::ts,hs=>by simp only[aF,mq,nP,af,ahT ts hs,append_nil]
theorem aiY{P:Program}{get:Nat->Option aR}{ae:List Nat}(v:TV):oM P get ae v.av []=some (v.av,[],[]):=by
 cases v with
 |s x=>rfl
 |a cs=>
  have h:refs (.agg (cs.map AV.t))=[]:=abo cs;simp only[TV.av,oM,h,List.all_nil,if_true,nP,ahT,af]
theorem ZV{P:Program}{get:Nat->Option aR}{ae:List Nat}:∀rows:List (TV×TV),yE P get ae (rows.map λq=>[q.1.av,q.2.av]) (rows.map λ_=>[])=some (rows.map λq=>[q.1.av,q.2.av],[])
 |[]=>rfl
 |q::rows=>by simp only[aF,yE,lY,aiY,af,ZV rows,append_nil]
theorem z8(hi:∀q∈NM,ae[q.2]? =some q.1)(hv:∀k∈pN,k∉ae)(hrd:∀k,(∃ q,(k,q)∈NM)\/k∈pN->k∈rd)(ho:∀q∈NM,∀c l,get q.1=some (.d8 c l)->dt q.2=l.length):
 ∀(os:List (Nat×OP X.ι))(m m':MG X),Cu get os m=some m'->(∀ q∈m'.nm,q∈NM)->(∀ c∈m'.iS,c=true)->(∀ k∈m'.vr,k∈pN)->
 ∃an,m'.ey=m.ey++an/\∃xs:List (Nat×bm X),(∀ ag,dn dt os (an++ag)=xs.map λp=>(p.1,some p.2))/\
  ∃bs mo,(∀ p∈mo,p)/\Fh P (dI rd (fu get)) ae (os.map λp=>(ae[p.1]?).getD 0) bs=some (xs.map λp=>bI p.2,mo)/\aiX (dI rd (fu get)) NM pN bs (os.map λp=>(ae[p.1]?).getD 0)
 |[],m,m',h,_,_,_=>by
  simp only[Cu,aA]at h;subst h;exact⟨[],by simp,[],λag=>rfl,[],[],by simp,rfl,λj hs q o h=>by simp at h⟩
 |(k,op)::r,m,m',h,hn,hc,hr=>by
  simp only[Cu]at h;rw[ai]at h;obtain⟨o,h1,h⟩:=h;split at h
  ·rename_i c c' l;have⟨l',h2,h⟩:=ai.1 h;have hm:=(lZ r _ m' h).1;have hq:(qu m k,k)∈NM:=hn _ (hm.1 _ (by simp));have hid:(ae[k]?).getD 0=qu m k:=(by rw[hi _ hq];rfl);have hget:=eD (hrd (qu m k) (.inl ⟨k,hq⟩)) h1;have⟨h3,h4⟩:=jf h2;obtain⟨n2,a2,xs,b2,bs,mo,p2,q2,r2⟩:=z8 hi hv hrd ho r _ m' h hn hc hr;refine⟨[⟨.sl c,l'⟩]++n2,by rw[a2,aM],(k,.d8 c l')::xs,λag=>by simp only[cons_append,bR,dn,b2,aF],.dat (CT.sz X c,l'.map (CT.row X.toSE c))::bs,((bI (.d8 c' l)).sz=CT.sz X c/\dW ((bI (.d8 c' l)).rows.take (l'.map (CT.row X.toSE c)).length)=aI (l'.map (CT.row X.toSE c)))::mo,?_,?_,?_⟩
   ·intro p hp;rcases aN.1 hp with rfl |hp
    ·refine⟨h3,?_⟩;simp only[bI,h4];rw[take_of_length_le (by simp[aI])];simp[dW,aI,Function.comp_def,wk]
    ·exact p2 p hp
   ·simp only[aF,Fh,Ve,hid,hget,af,q2,cons_append,bR];rfl
   ·intro j hs q o' hj hq' ho';cases j with
    |zero=>simp at hj
    |succ j=>exact r2 j hs q o' (by simpa using hj) (by simpa using hq') ho'
  ·rename_i kc vc tM tD l;split at h
   ·rename_i hone;have⟨l',h2,h⟩:=ai.1 h;have hm:=(lZ r _ m' h).1;have hq:(qu m k,k)∈NM:=hn _ (hm.1 _ (by simp));have hid:(ae[k]?).getD 0=qu m k:=(by rw[hi _ hq];rfl);have hget:=eD (hrd (qu m k) (.inl ⟨k,hq⟩)) h1;have hden:bI (.map tM tD l)=bI (.map kc vc l'):=by
     have⟨e,h2⟩:=rE h2;injection e with e1 e2;subst e1;subst e2;subst h2;rfl
    obtain⟨n2,a2,xs,b2,bs,mo,p2,q2,r2⟩:=z8 hi hv hrd ho r _ m' h hn hc hr;rcases hone with hone |_
    ·have hab:bI (.map kc vc l')=gC (List.length l',l'.map λq=>CT.row X.toSE kc q.1++CT.row X.toSE vc q.2):=by
      simp only[bI,gC,aI,map_map];congr 1;refine map_congr_left λq _=>?_;obtain⟨t1,g1,g2⟩:=row_one hone.1 q.1;obtain⟨t2,g3,g4⟩:=row_one hone.2 q.2;simp[g1,g2,g3,g4,TV.av]
     refine⟨[⟨.mp kc vc,l'⟩]++n2,by rw[a2,aM],(k,.map kc vc l')::xs,λag=>by simp only[cons_append,bR,dn,b2,aF],.dat (List.length l',l'.map λq=>CT.row X.toSE kc q.1++CT.row X.toSE vc q.2)::bs,((bI (.map tM tD l)).sz=List.length l'/\dW ((bI (.map tM tD l)).rows.take (l'.map λq=>CT.row X.toSE kc q.1++CT.row X.toSE vc q.2).length)=aI (l'.map λq=>CT.row X.toSE kc q.1++CT.row X.toSE vc q.2))::mo,?_,?_,?_⟩
     ·intro p hp;rcases aN.1 hp with rfl |hp
      ·rw[hden,hab];refine⟨rfl,?_⟩;simp only[gC];rw[take_of_length_le (by simp[aI])];simp[dW,aI,Function.comp_def,wk]
      ·exact p2 p hp
     ·simp only[aF,Fh,Ve,hid,hget,af,q2,cons_append,bR,hab]
     ·intro j hs q o' hj hq' ho';cases j with
      |zero=>simp at hj
      |succ j=>exact r2 j hs q o' (by simpa using hj) (by simpa using hq') ho'
    ·refine⟨[⟨.mp kc vc,l'⟩]++n2,by rw[a2,aM],(k,.map kc vc l')::xs,λag=>by simp only[cons_append,bR,dn,b2,aF],.C4 ((l'.map λq=>(CT.tv X.toSE kc q.1,CT.tv X.toSE vc q.2)).map λ_=>[])::bs,mo,p2,?_,?_⟩
     ·have hlr:=ZV (P:=P) (get:=dI rd (fu get)) (ae:=ae) (l'.map λq=>(CT.tv X.toSE kc q.1,CT.tv X.toSE vc q.2));have hdr:(bI (.map kc vc l')).rows=(l'.map λq=>(CT.tv X.toSE kc q.1,CT.tv X.toSE vc q.2)).map λq=>[q.1.av,q.2.av]:=(by simp only[bI,map_map];rfl);simp only[aF,Fh,Ve,hid,hget,af,q2,hden,hdr,hlr,bR];rw[<- hdr]
     ·intro j hs q o' hj hq' ho';cases j with
      |zero=>
       simp only[aF,List.getElem?_cons_zero,aA]at hq';subst hq';rw[hid,hget]at ho';injection ho' with ho';subst ho';intro k hk;rw[hden]at hk;simp only[Pk,bI,mem_flatMap,mem_map]at hk;obtain⟨_,⟨q,_,rfl⟩,hk⟩:=hk;simp only[eT,zX,append_nil,fq]at hk
      |succ j=>exact r2 j hs q o' (by simpa using hj) (by simpa using hq') ho'
   ·cases h
  ·rename_i sz rows sz' rows';split at h
   ·rename_i hsz;have⟨m1,h2,h⟩:=ai.1 h;have hm1:=(yK rows _ _ m1 h2).1;have hm:=(lZ r _ m' h).1;have hq:(qu m k,k)∈NM:=hn _ (hm.1 _ (hm1.1 _ (by simp)));have hid:(ae[k]?).getD 0=qu m k:=(by rw[hi _ hq];rfl);have hget:=eD (hrd (qu m k) (.inl ⟨k,hq⟩)) h1;obtain⟨n1,a1,qs,b1,⟨hs1,o1,p1,q1⟩,r1⟩:=Rv (P:=P) hi hv hrd ho rows _ _ m1 h2 (λ q hq=>hn q (hm.1 q hq)) (λ q hq=>hc q (hm.2.1 q hq)) (λ q hq=>hr q (hm.2.2 q hq));obtain⟨n2,a2,xs,b2,bs,mo,p2,q2,r2⟩:=z8 hi hv hrd ho r _ m' h hn hc hr;subst hsz;refine⟨n1++n2,by rw[a2,a1,aM],(k,.cells sz qs)::xs,λag=>by simp only[aM,dn,b1,b2,aF],.C4 hs1::bs,o1++mo,gM p1 p2,?_,?_⟩
    ·simp only[aF,Fh,Ve,hid,hget,af,bI,q1,q2]
    ·intro j hs q o' hj hq' ho';cases j with
     |zero=>
      simp only[aF,List.getElem?_cons_zero,aA]at hq';rw[<- hq',hid,hget]at ho';injection ho' with ho';subst ho';exact λz hz=>r1 z (MR hz)
     |succ j=>exact r2 j hs q o' (by simpa using hj) (by simpa using hq') ho'
   ·cases h
  ·cases h
end
end
end Go.Gb
