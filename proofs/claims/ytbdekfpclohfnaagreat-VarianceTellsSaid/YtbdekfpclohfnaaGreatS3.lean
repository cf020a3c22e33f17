import Derived.Test.YtbdekfpclohfnaaGreatS2
open Go.IntKind (i64)
open List (length_take mem_map all_eq_true getElem_mem length_map append_nil length_nil foldl_cons take_of_length_le map_congr_left any_eq_true length_singleton pairwise_cons map_nil filter_append length_filter_le map_append)
namespace Go.Proofs
open Go.Gb Go.RowKit
variable {n:Nat}
theorem agb{V O:Type}{step:V->Option (V⊕O)}(Inv:V->Prop)(Q:O->Prop)(m:V->Nat)
 (h:∀v,Inv v->(∃ v',step v=some (.inl v')/\Inv v'/\m v'<m v)\/∃o,step v=some (.inr o)/\Q o):
 ∀n v,Inv v->m v<n->∃o,iter step n v=some o/\Q o:=by
 intro n
 induction n with
 |zero=>intro v _ hm;omega
 |succ n ih=>
  intro v hv hm;rcases h v hv with ⟨v',h1,h2,h3⟩ |⟨o,h1,h2⟩
  ·obtain⟨o,h4,h5⟩:=ih v' h2 (by omega);exact⟨o,by rw[dw h1];exact h4,h5⟩
  ·exact⟨o,bn h1,h2⟩
theorem dz{V O:Type}{step:V->Option (V⊕O)}(f:Nat->V){s:V}(N:Nat)(o:O)(h0:s=f 0)
 (h1:∀i,i<N->step (f i)=some (.inl (f (i+1)))) (h2:step (f N)=some (.inr o)) (n:Nat) (hn:N<n):iter step n s=some o:=by rw[h0];exact jK f N o h1 h2 n hn
def tb(f:Nat->Nat->Bool):List Bool:=(List.range 144).map λi=>f (i/12) (i%12)
theorem mD(f:Nat->Nat->Bool):(tb f).length=144:=by simp[tb]
theorem WW(f:Nat->Nat->Bool){a b:Nat}(ha:a<12)(hb:b<12):(tb f)[a*12+b]? =some (f a b):=by
 simp only[tb,List.getElem?_map];rw[List.getElem?_range (by omega)];simp only[Option.map_some,aC];rw[show (a*12+b)/12=a by omega,show(a*12+b)%12=b by omega]
theorem oz{f g:Nat->Nat->Bool}(h:∀a b,a<12->b<12->f a b=g a b):tb f=tb g:=by
 refine map_congr_left λi hi=>h _ _ ?_ ?_
 ·have:=List.mem_range.1 hi;omega
 ·omega
theorem Rg{f g:Nat->Nat->Bool}(h:tb f=tb g){a b:Nat}(ha:a<12)(hb:b<12):f a b=g a b:=by
 have:=congrArg (λ l=>l[a*12+b]?) h;simpa[WW f ha hb,WW g ha hb]using this
def upd(f:Nat->Nat->Bool)(a b:Nat)(v:Bool):Nat->Nat->Bool:=λx y=>if x=a/\y=b then v else f x y
theorem aoK(f:Nat->Nat->Bool){a b:Nat}(ha:a<12)(hb:b<12)(v:Bool):(tb f).set (a*12+b) v=tb (upd f a b v):=by
 apply List.ext_getElem?;intro i;rw[List.getElem?_set];simp only[tb,List.getElem?_map,length_map,List.length_range];by_cases hi:i<144
 ·rw[List.getElem?_range hi];by_cases e:a*12+b=i
  ·rw[aP e,aP (by omega)];have e1:i/12=a:=(by omega);have e2:i%12=b:=(by omega);simp[upd,e1,e2]
  ·rw[aM e];have:¬(i/12=a/\i%12=b):=(by omega);simp[upd,this]
 ·rw[List.getElem?_eq_none (by simp;omega)];by_cases e:a*12+b=i
  ·omega
  ·rw[aM e];rfl
def iH(f:Nat->Nat->Bool):dP:=⟨tb f,mD f⟩
theorem Jm(f:Nat->Nat->Bool):dK (sub (tb f) 0 144)=some (iH f):=by
 have h:sub (tb f) 0 144=tb f:=by rw[YB,take_of_length_le (by rw[mD];omega)]
 unfold dK;rw[dif_pos (by rw[h];exact mD f)];simp[iH,h]
theorem rU{l:List Bool}(f:Nat->Nat->Bool)(h:l.length=144):mY l 0 (tb f)=tb f:=by
 simp only[mY,List.take_zero,bI,Nat.zero_add,mD];rw[List.drop_of_length_le (by omega),append_nil]
theorem Cf:(List.replicate 144 false).length=144:=by simp
theorem ql:List.replicate 144 false=tb λ_ _=>false:=by
 apply List.ext_getElem?;intro i;simp only[tb,List.getElem?_map,List.getElem?_replicate];by_cases hi:i<144
 ·rw[aP hi,List.getElem?_range hi];rfl
 ·rw[aM hi,List.getElem?_eq_none (by simp;omega)];rfl
theorem lM(f g:Nat->Nat->Bool):(bb (tb f).length 144&&ja 0 (tb f).length (tb g).length)=true:=by simp[mD,bb,ja]
theorem Jo(f:Nat->Nat->Bool){a b:Nat}(ha:a<12)(hb:b<12):nt (tb f) (0+(a:Int).toNat*12) (b:Int)=some (f a b):=by
 simp only[nt,Nat.zero_add,Int.toNat_natCast,show decide ((0:Int)<=(b:Int))=true by simp,ai];exact WW f ha hb
theorem Y9(f:Nat->Nat->Bool){a b:Nat}(ha:a<12)(hb:b<12):(decide ((0:Int)<=(b:Int))&&ja ((0+(a:Int).toNat*12)+(b:Int).toNat) 1 (tb f).length)=true:=by simp only[ja,mD,Int.toNat_natCast,aD,aG];omega
theorem Re(f:Nat->Nat->Bool){a b:Nat}(ha:a<12)(hb:b<12)(v:Bool):List.set (tb f) ((0+(a:Int).toNat*12)+(b:Int).toNat) v=tb (upd f a b v):=by simp only[Nat.zero_add,Int.toNat_natCast];exact aoK f ha hb v
def HH(p:Nat->Bool):Bool:=(List.range 12).any p
theorem GQ{p:Nat->Bool}:HH p=true↔∃b,b<12/\p b=true:=by simp only[HH,any_eq_true,List.mem_range]
def oy(w:Nat->Nat->Bool):Nat->Nat->Bool:=λa c=>w a c || HH λb=>w a b&&w b c
theorem agc(hn:100<=n){v2:List Bool}(h2:v2.length=144)(w f:Nat->Nat->Bool){a b:Nat}(ha:a<12)(hb:b<12):
 iter (sw v2 (iH w) (a:Int) (b:Int)) n ((0:Int),tb f)=some (tb λx y=>if x=a then f x y || (w a b&&w b y)else f x y):=by
 refine dz (λ i=>((i:Int),tb λx y=>if x=a/\y<i then f x y || (w a b&&w b y)else f x y)) 12 _ (by simp) (λ i hi=>?_) ?_ n (by omega)
 ·have e:decide ((i:Int)<12)=true:=by simp;omega
  have hw:mY v2 0 (iH w).l=tb w:=rU w h2;simp only[sw,e,ai,xN,ha,hb,hi,decide_true,hw];generalize hF:(λ x y=>if x=a/\y<i then f x y || (w a b&&w b y)else f x y:Nat->Nat->Bool)=F;have hFa:F a i=f a i:=by rw[<- hF];simp
  have fin:∀v,v=(f a i || (w a b&&w b i))->tb (upd F a i v)=tb λx y=>if x=a/\y<i+1 then f x y || (w a b&&w b y)else f x y:=by
   intro v hv;refine oz λx y _ _=>?_;simp only[upd,<- hF];by_cases h1:x=a
   ·subst h1;by_cases h3:y=i
    ·subst h3;simp[hv]
    ·by_cases h4:y<i
     ·simp[h3,h4,show y<i+1 by omega]
     ·simp[h3,h4,show ¬y<i+1 by omega]
   ·simp[h1]
  simp only[Jo F ha hi,Jo w ha hb,Jo w hb hi,Y9 F ha hi,Re F ha hi,ah,ai,hFa,aR i];cases h1:f a i with
  |true=>simp only[ai,ah];rw[fin true (by simp[h1])]
  |false=>
   simp only[ak];cases h3:w a b with
   |true=>simp only[ai,ah];rw[fin (w b i) (by simp[h1,h3]),h3]
   |false=>simp only[ak,ah];rw[fin false (by simp[h1,h3]),h3]
 ·have e:decide (((12:Nat):Int)<12)=false:=by decide
  simp only[sw,e,ak];rw[oz λx y _ hy=>?_];by_cases h1:x=a<;>simp[h1,hy]
theorem agf(hn:100<=n){v2:List Bool}(h2:v2.length=144)(w f:Nat->Nat->Bool){a:Nat}(ha:a<12):
 iter (sD n v2 (iH w) (a:Int)) n ((0:Int),tb f)=some (tb λx y=>if x=a then f x y || HH (λ b=>w a b&&w b y)else f x y):=by
 refine dz (λ i=>((i:Int),tb λx y=>if x=a then f x y || (List.range i).any (λ b=>w a b&&w b y)else f x y)) 12 _ (by simp) (λ i hi=>?_) ?_ n (by omega)
 ·have e:decide ((i:Int)<12)=true:=by simp;omega
  simp only[sD,e,ai];rw[agc hn h2 w _ ha hi];simp only[ah,aR i];rw[oz λx y _ _=>?_];by_cases h1:x=a
  ·simp[h1,List.range_succ,Bool.or_assoc]
  ·simp[h1]
 ·have e:decide (((12:Nat):Int)<12)=false:=by decide
  simp only[sD,e,ak];rfl
theorem agh(hn:100<=n){v2:List Bool}(h2:v2.length=144)(w:Nat->Nat->Bool):
 iter (sF n v2 (iH w)) n ((0:Int),tb w)=some (tb (oy w)):=by
 refine dz (λ i=>((i:Int),tb λx y=>if x<i then oy w x y else w x y)) 12 _ (by simp) (λ i hi=>?_) ?_ n (by omega)
 ·have e:decide ((i:Int)<12)=true:=by simp;omega
  simp only[sF,e,ai];rw[agf hn h2 w _ hi];simp only[ah,aR i];rw[oz λx y _ _=>?_];by_cases h1:x=i
  ·subst h1;simp[oy]
  ·by_cases h3:x<i
   ·simp[h1,h3,show x<i+1 by omega]
   ·simp[h1,h3,show ¬x<i+1 by omega]
 ·have e:decide (((12:Nat):Int)<12)=false:=by decide
  simp only[sF,e,ak];rw[oz λx y hx _=>?_];simp[hx]
def cnt(l:List Bool):Nat:=l.countP id
theorem VM(l:List Bool):cnt l<=l.length:=List.countP_le_length
theorem cnt_lt:∀{l m:List Bool},l.length=m.length->(∀ (i:Nat) (h:i<l.length) (h':i<m.length),l[i]=true->m[i]=true)->l≠m->cnt l<cnt m
 |[],[],_,_,h=>absurd rfl h
 |x::l,y::m,hl,hs,hne=>by
  have h0:=hs 0 (by simp) (by simp);have ht:∀(i:Nat)(h:i<l.length)(h':i<m.length),l[i]=true->m[i]=true:=λi h h'=>by
   have:=hs (i+1) (by simpa using h) (by simpa using h');simp only[List.getElem_cons_succ]at this;exact this
  simp only[List.getElem_cons_zero]at h0;have hl':l.length=m.length:=by simpa using hl
  have hle:cnt l<=cnt m:=by
   by_cases e:l=m
   ·rw[e];exact aT _
   ·exact Nat.le_of_lt (cnt_lt hl' ht e)
  simp only[cnt,List.countP_cons,id]at hle ⊢;by_cases e:l=m
  ·subst e;have:x≠y:=λe=>hne (by rw[e]);cases x<;>cases y<;>simp_all
  ·have:=cnt_lt hl' ht e;simp only[cnt]at this;cases x<;>cases y<;>simp_all<;>omega
 |[],_::_,h,_,_=>by simp at h
 |_::_,[],h,_,_=>by simp at h
theorem aoL{w:Nat->Nat->Bool}(h:tb w≠tb (oy w)):cnt (tb w)<cnt (tb (oy w)):=by
 refine cnt_lt (by rw[mD,mD]) (λ i h1 h2 hi=>?_) h;simp only[tb,List.getElem_map,List.getElem_range,oy]at hi ⊢;simp[hi]
inductive Tc(e:Nat->Nat->Bool):Nat->Nat->Prop
 |one {a b:Nat}:a<12->b<12->e a b=true->Tc e a b
 |trans {a b c:Nat}:Tc e a b->Tc e b c->Tc e a c
theorem Tc.lt{e:Nat->Nat->Bool}{a b:Nat}(h:Tc e a b):a<12/\b<12:=by
 induction h with
 |one h1 h2 _=>exact⟨h1,h2⟩
 |trans _ _ i1 i2=>exact⟨i1.1,i2.2⟩
theorem Rp(hn:400<=n)(m0:Nat->Nat->Bool):∃r:Nat->Nat->Bool,uL n (iH m0)=some (iH r)/\(∀ a b,a<12->b<12->(r a b=true↔Tc m0 a b)):=by
 unfold uL;simp only[ql,lM,ai,rU _ (mD _)]
 obtain⟨o,h1,r,rfl,hr1,hr2,hr3⟩:=agb (step:=zn n)
  (λ v=>∃m w:Nat->Nat->Bool,v=(tb m,tb w)/\(∀ a b,a<12->b<12->m0 a b=true->m a b=true)/\(∀ a b,a<12->b<12->m a b=true->Tc m0 a b)/\(tb m=tb (oy w)\/tb w=tb λ_ _=>false))
  (λ o=>∃r:Nat->Nat->Bool,o=tb r/\(∀ a b,a<12->b<12->m0 a b=true->r a b=true)/\(∀ a b,a<12->b<12->r a b=true->Tc m0 a b)/\tb r=tb (oy r))
  (λ v=>2*(144 -cnt v.1)+(if v.2=v.1 then 0 else 1)) (by
   rintro v ⟨m,w,rfl,h1,h2,h3⟩;simp only[zn,Jm,ah];by_cases he:tb w=tb m
   ·refine .inr ⟨tb m,?_,m,rfl,h1,h2,?_⟩
    ·have:tD (iH w).l (iH m).l=true:=(by show decide (tb w=tb m)=true;simp[he]);simp[this]
    ·rcases h3 with h3 |h3
     ·rw[h3];refine oz λa b ha hb=>?_;have CH:∀x y,x<12->y<12->w x y=m x y:=λx y hx hy=>Rg he hx hy;simp only[oy,CH a b ha hb];congr 1;rw[eu,GQ,GQ];constructor
      ·rintro⟨c,hc,h⟩;exact⟨c,hc,by rw[<- CH a c ha hc,<- CH c b hc hb];exact h⟩
      ·rintro⟨c,hc,h⟩;exact⟨c,hc,by rw[CH a c ha hc,CH c b hc hb];exact h⟩
     ·have hm0:∀x y,x<12->y<12->m x y=false:=λx y hx hy=>Rg (he.symm.trans h3) hx hy;refine oz λa b ha hb=>?_;simp only[oy,hm0 a b ha hb,Bool.false_or];symm;rw[Bool.eq_false_iff];intro h;have⟨c,hc,h⟩:=GQ.1 h;rw[hm0 a c ha hc]at h;simp at h
   ·refine .inl ⟨(tb (oy m),tb m),?_,⟨oy m,m,rfl,λa b ha hb h=>by simp[oy,h1 a b ha hb h],λa b ha hb h=>?_,.inl rfl⟩,?_⟩
    ·have:tD (iH w).l (iH m).l=false:=(by show decide (tb w=tb m)=false;simp[he]);simp only[this,Bool.not_false,ai,ah];have e1:(bb (iH m).l.length 144&&ja 0 (iH m).l.length (tb w).length)=true:=lM m w;have e2:mY (tb w) 0 (iH m).l=tb m:=rU m (mD w);simp only[e1,ai,agh (show 100<=n by omega) (mD w) m,ah,e2,Jm];have e3:(bb (iH m).l.length 144&&ja 0 (iH m).l.length (List.replicate 144 false).length)=true:=(by rw[ql];exact lM m _);have e4:mY (List.replicate 144 false) 0 (iH m).l=tb m:=rU m Cf;simp only[e3,e4,ai]
    ·simp only[oy,Bool.or_eq_true]at h;rcases h with h |h
     ·exact h2 a b ha hb h
     ·have⟨c,hc,h⟩:=GQ.1 h;simp only[aD]at h;exact .trans (h2 a c ha hc h.1) (h2 c b hc hb h.2)
    ·simp only;have hc:=VM (tb m);rw[mD]at hc;rw[aM he];by_cases hr:tb m=tb (oy m)
     ·rw[aP hr,<- hr];omega
     ·have:=aoL hr;have hc2:=VM (tb (oy m));rw[mD]at hc2;rw[aM hr];omega)
  n (tb m0,tb λ_ _=>false) ⟨m0,λ_ _=>false,rfl,λ_ _ _ _ h=>h,λa b ha hb h=> .one ha hb h,.inr rfl⟩ (by
    simp only;split<;>omega)
 have e0:(iH m0).l=tb m0:=rfl;simp only[e0,h1,ah,Jm];have e3:(bb (iH r).l.length 144&&ja 0 (iH r).l.length (tb λ_ _=>false).length)=true:=lM r _;have e4:mY (tb λ_ _=>false) 0 (iH r).l=tb r:=rU r (mD _);simp only[e3,e4,ai,Jm,ah];refine⟨r,rfl,λa b ha hb=>⟨hr2 a b ha hb,λh=>?_⟩⟩
 induction h with
 |one h1 h2 h3=>exact hr1 _ _ h1 h2 h3
 | @trans x y z p q i1 i2=>
  have:=Rg hr3 p.lt.1 q.lt.2;rw[this];simp only[oy,Bool.or_eq_true];exact .inr (GQ.2 ⟨y,p.lt.2,by rw[i1 p.lt.1 p.lt.2,i2 q.lt.1 q.lt.2];rfl⟩)
def vE(o:aU)(p:ny):Bool:=decide (0<=min p.a0 p.a1)&&decide (max p.a0 p.a1<o.values)
def gq(o:aU):Bool:=decide (1<=o.values)&&decide (o.values<=12)&&decide (o.pairs.length<=144)&&o.pairs.all (vE o)
theorem Nf{α:Type}(p:α->Bool)(l:List α):(match kK (λ x=>!(p x)) l with |some _=>false |none=>true)=l.all p:=by
 have h:=jf (λ x=>!(p x)) l;cases hf:kK (λ x=>!(p x)) l with
 |some i=>
  rw[hf]at h;simp only[Option.isSome_some]at h;have:l.all p=false:=by rw[List.all_eq_not_any_not];rw[<- h];rfl
  rw[this]
 |none=>
  rw[hf]at h;simp only[Option.isSome_none]at h;have:l.all p=true:=by rw[List.all_eq_not_any_not];rw[<- h];rfl
  rw[this]
theorem JY(hn:200<=n)(o:aU):uJ n o=some (gq o):=by
 unfold uJ gq;by_cases h1:o.values<1
 ·have:decide (1<=o.values)=false:=by simp;omega
  simp[h1,this]
 ·have e1:decide (1<=o.values)=true:=by simp;omega
  by_cases h2:o.values>12
  ·have:decide (o.values<=12)=false:=(by simp;omega);simp[h1,h2,this]
  ·have e2:decide (o.values<=12)=true:=(by simp;omega);by_cases h3:(o.pairs.length:Int)>144
   ·have:decide (o.pairs.length<=144)=false:=(by simp;omega);simp[h1,h2,h3,this]
   ·have e3:decide (o.pairs.length<=144)=true:=(by simp;omega);have hl:o.pairs.length<=144:=(by omega);simp only[h1,h2,h3,e1,e2,e3,decide_false,ak,ah,Bool.true_and];have:=iK (l:=o.pairs) (step:=sj o) (λ i=>(i:Int)) (λ p=>!(vE o p)) () (λ _=>false) (λ i hi=>by
     have e:decide ((i:Int)<(o.pairs.length:Int))=true:=(by simpa using hi);simp only[sj,e,ai,aZ hi,ah,vE,aR i];by_cases h4:min o.pairs[i].a0 o.pairs[i].a1<0
     ·have:decide (0<=min o.pairs[i].a0 o.pairs[i].a1)=false:=(by simpa using h4);simp only[h4,this,decide_true,ai,ah,Bool.false_and,Bool.not_false,Option.map_some]
     ·have:decide (0<=min o.pairs[i].a0 o.pairs[i].a1)=true:=(by simpa using h4);simp only[h4,this,decide_false,ak,ah,Bool.true_and];by_cases h5:max o.pairs[i].a0 o.pairs[i].a1>=o.values
      ·have:decide (max o.pairs[i].a0 o.pairs[i].a1<o.values)=false:=(by simpa using h5);simp only[h5,this,decide_true,ai,Bool.not_false,Option.map_some]
      ·have:decide (max o.pairs[i].a0 o.pairs[i].a1<o.values)=true:=(by simp only[aG];omega);simp only[h5,this,decide_false,ak,Bool.not_true]) (by
     have e:decide ((o.pairs.length:Int)<(o.pairs.length:Int))=false:=(by simp);simp only[sj,e,ak]) n (by omega)
    rw[show ((0:Nat):Int)=0 from rfl]at this;rw[this];have hf:=Nf (vE o) o.pairs;cases hx:kK (λ p=>!(vE o p)) o.pairs with
    |some i=>rw[hx]at hf;simp only[nZ];rw[<- hf]
    |none=>rw[hx]at hf;simp only[fB];rw[<- hf]
def eO(o:aU)(a b:Nat):Bool:=o.pairs.any λp=>decide (p.a0=(a:Int))&&decide (p.a1=(b:Int))
theorem aoM(l:List ny)(x y:Nat)(p:ny)(h0:p.a0=(x:Int))(h1:p.a1=(y:Int)):upd (λ (a b:Nat)=>l.any λp=>decide (p.a0=(a:Int))&&decide (p.a1=(b:Int))) x y true=λ(a b:Nat)=>(l++[p]).any λp=>decide (p.a0=(a:Int))&&decide (p.a1=(b:Int)):=by
 funext a b;simp only[upd,List.any_append,List.any_cons,List.any_nil,Bool.or_false,h0,h1];by_cases h:a=x/\b=y
 ·obtain⟨rfl,rfl⟩:=h;simp
 ·rw[aM h];have:(decide ((x:Int)=(a:Int))&&decide ((y:Int)=(b:Int)))=false:=by
   simp only[Bool.and_eq_false_iff,dn];omega
  rw[this,Bool.or_false]
theorem Za{o:aU}(hv:gq o=true){p:ny}(hp:p∈o.pairs):∃x y:Nat,p.a0=(x:Int)/\p.a1=(y:Int)/\(x:Int)<o.values/\(y:Int)<o.values/\x<12/\y<12:=by
 simp only[gq,aD,aG,all_eq_true]at hv;obtain⟨⟨⟨h1,h2⟩,h3⟩,h4⟩:=hv;have:=h4 p hp;simp only[vE,aD,aG]at this;refine⟨p.a0.toNat,p.a1.toNat,?_,?_,?_,?_,?_,?_⟩<;>omega
theorem JZ(hn:200<=n){o:aU}(hv:gq o=true):uK n o=some (iH (eO o)):=by
 have hl:o.pairs.length<=144:=by simp only[gq,aD,aG]at hv;exact hv.1.2
 have:=dz (step:=su o) (λ i=>((i:Int),tb λa b=>(o.pairs.take i).any λp=>decide (p.a0=(a:Int))&&decide (p.a1=(b:Int)))) (s:=((0:Int),List.replicate 144 false)) o.pairs.length (tb (eO o)) (by
  simp only[List.take_zero,List.any_nil,ql];rfl) (λ i hi=>by
  have e:decide ((i:Int)<(o.pairs.length:Int))=true:=by simpa using hi
  obtain⟨x,y,h0,h1,_,_,hx,hy⟩:=Za hv (getElem_mem hi);have e2:o.pairs.take (i+1)=o.pairs.take i++[o.pairs[i]]:=by rw[dG hi]
  simp only[su,e,ai,aZ hi,ah,h0,h1,xN,hx,hy,decide_true,aR i];rw[Y9 _ hx hy,Re _ hx hy,e2,aoM _ x y _ h0 h1];simp only[ai]) (by
  have e:decide ((o.pairs.length:Int)<(o.pairs.length:Int))=false:=by simp
  simp only[su,e,ak,List.take_length];rfl) n (by omega)
 unfold uK;rw[this];have e3:(bb (iH (eO o)).l.length 144&&ja 0 (iH (eO o)).l.length (List.replicate 144 false).length)=true:=by rw[ql];exact lM _ _
 have e4:mY (List.replicate 144 false) 0 (iH (eO o)).l=tb (eO o):=rU _ Cf;simp only[ah,Jm,e3,e4,ai]
open Classical in
noncomputable def np(e:Nat->Nat->Bool)(a b:Nat):Bool:=decide (Tc e a b)
theorem Rq{e:Nat->Nat->Bool}{a b:Nat}:np e a b=true↔Tc e a b:=by simp[np]
theorem VL(hn:400<=n)(m0:Nat->Nat->Bool):uL n (iH m0)=some (iH (np m0)):=by
 have⟨r,h1,h2⟩:=Rp hn m0;rw[h1];have:tb r=tb (np m0):=oz λa b ha hb=>by rw[eu,Rq];exact h2 a b ha hb
 simp only[iH,this]
open Classical in
noncomputable def Pf(o:aU):Bool:=decide (∃ a,Tc (eO o) a a)
theorem Rs{o:aU}:Pf o=true↔∃a,Tc (eO o) a a:=by simp[Pf]
noncomputable def io(o:aU)(a b:Nat):Bool:=np (eO o) a b || (decide (a=b)&&decide ((a:Int)<o.values))
def ix:dP:=iH λ_ _=>false
theorem agi:(ck (bb (List.replicate 144 false).length 144&&ja 0 (List.replicate 144 false).length (List.replicate 144 false).length) ((dK (sub (mY (List.replicate 144 false) 0 (List.replicate 144 false)) 0 144)).bind λz1=>some (z1,false)))=some (ix,false):=by simp only[ql,lM,ai,rU _ (mD _),Jm,ah];rfl
theorem GR(hn:400<=n)(o:aU):rD n o=some (bif gq o&&!(Pf o)then(iH (io o),true)else(ix,false)):=by
 unfold rD;rw[JY (by omega),agi];simp only[ah];cases hv:gq o with
 |false=>simp
 |true=>
  have hb:1<=o.values/\o.values<=12:=by simp only[gq,aD,aG]at hv;exact⟨hv.1.1.1,hv.1.1.2⟩
  simp only[Bool.not_true,ak,JZ (show 200<=n by omega) hv,ah,VL hn,Bool.true_and];have e3:(bb (iH (np (eO o))).l.length 144&&ja 0 (iH (np (eO o))).l.length (List.replicate 144 false).length)=true:=by rw[ql];exact lM _ _
  have e4:mY (List.replicate 144 false) 0 (iH (np (eO o))).l=tb (np (eO o)):=rU _ Cf;simp only[e3,e4,ai];have h1:=iK (l:=List.range 12) (step:=pX (iH (np (eO o)))) (λ i=>(i:Int)) (λ a=>np (eO o) a a) () (λ _=>(ix,false)) (λ i hi=>by
   rw[List.length_range]at hi;have e:decide ((i:Int)<12)=true:=(by simp;omega);simp only[pX,e,ai,xN,hi,decide_true,e4,Jo _ hi hi,ah,List.getElem_range,aR i];cases np (eO o) i i with
   |false=>rfl
   |true=>
    have:=agi;have e5:(bb (List.replicate 144 false).length 144&&ja 0 (List.replicate 144 false).length (List.replicate 144 false).length)=true:=(by rw[ql];exact lM _ _);simp only[e5,ai]at this ⊢;rw[this];rfl) (by
   rw[List.length_range];have e:decide (((12:Nat):Int)<12)=false:=(by decide);simp only[pX,e,ak]) n (by simp;omega)
  rw[show ((0:Nat):Int)=0 from rfl]at h1;rw[h1];have hs:=jf (λ a=>np (eO o) a a) (List.range 12);have hcy:Pf o=(List.range 12).any λa=>np (eO o) a a:=by
   rw[eu,Rs,any_eq_true];constructor
   ·rintro⟨a,ha⟩;exact⟨a,List.mem_range.2 ha.lt.1,Rq.2 ha⟩
   ·rintro⟨a,_,ha⟩;exact⟨a,Rq.1 ha⟩
  rw[hcy,<- hs];cases hf:kK (λ a=>np (eO o) a a) (List.range 12)with
  |some i=>simp only[nZ,Option.isSome_some,Bool.not_true,ak]
  |none=>
   simp only[fB,Option.isSome_none,Bool.not_false,ai];obtain⟨m,hm⟩:∃m:Nat,o.values=(m:Int):=⟨o.values.toNat,by omega⟩;have h2:=dz (step:=pY o) (λ i=>((i:Int),tb λa b=>np (eO o) a b || (decide (a=b)&&decide (a<i)))) (s:=((0:Int),tb (np (eO o)))) m (tb (io o)) (by simp) (λ i hi=>by
    have e:decide ((i:Int)<o.values)=true:=(by simp;omega);have m6:i<12:=(by omega);simp only[pY,e,ai,xN,m6,decide_true,aR i];rw[Y9 _ m6 m6,Re _ m6 m6];simp only[ai];rw[oz λa b _ _=>?_];simp only[upd];by_cases h:a=i/\b=i
    ·obtain⟨rfl,rfl⟩:=h;simp
    ·rw[aM h];by_cases h4:a=b
     ·subst h4;have:¬a=i:=λh5=>h ⟨h5,h5⟩;have e6:decide (a<i+1)=decide (a<i):=(by simp only[decide_eq_decide];omega);rw[e6]
     ·simp[h4]) (by
    have e:decide ((m:Int)<o.values)=false:=(by simp;omega);simp only[pY,e,ak];rw[oz λa b _ _=>?_];simp only[io,hm,Int.ofNat_lt]) n (by omega)
   rw[h2];have e7:(bb (iH (io o)).l.length 144&&ja 0 (iH (io o)).l.length (List.replicate 144 false).length)=true:=(by rw[ql];exact lM _ _);have e8:mY (List.replicate 144 false) 0 (iH (io o)).l=tb (io o):=rU _ Cf;simp only[ah,Jm,e7,e8,ai]
def vl(d:Nat->Nat):List Int:=(List.range 12).map λi=>((d i:Nat):Int)
theorem TU(d:Nat->Nat):(vl d).length=12:=by simp[vl]
theorem apT(d:Nat->Nat){x:Nat}(hx:x<12):(vl d)[x]? =some ((d x:Nat):Int):=by
 simp only[vl,List.getElem?_map];rw[List.getElem?_range (by omega)];rfl
theorem agj{d d':Nat->Nat}(h:∀x,x<12->d x=d' x):vl d=vl d':=by
 refine map_congr_left λi hi=>?_;rw[h i (List.mem_range.1 hi)]
def tI(d:Nat->Nat)(x v:Nat):Nat->Nat:=λy=>if y=x then v else d y
theorem apU(d:Nat->Nat){x:Nat}(hx:x<12)(v:Nat):(vl d).set x (v:Int)=vl (tI d x v):=by
 apply List.ext_getElem?;intro i;rw[List.getElem?_set];simp only[vl,List.getElem?_map,length_map,List.length_range];by_cases hi:i<12
 ·rw[List.getElem?_range hi];by_cases e:x=i
  ·subst e;simp[tI,hx]
  ·rw[aM e];simp[tI,show ¬i=x from λh=>e h.symm]
 ·rw[List.getElem?_eq_none (by simp;omega)];by_cases e:x=i
  ·omega
  ·rw[aM e];rfl
def oS(d:Nat->Nat):yD:=⟨vl d,TU d⟩
theorem aqF(d:Nat->Nat):wP (sub (vl d) 0 12)=some (oS d):=by
 have h:sub (vl d) 0 12=vl d:=by rw[YB,take_of_length_le (by rw[TU];omega)]
 unfold wP;rw[dif_pos (by rw[h];exact TU d)];simp[oS,h]
theorem Rd{l:List Int}(d:Nat->Nat)(h:l.length=12):mY l 0 (vl d)=vl d:=by
 simp only[mY,List.take_zero,bI,Nat.zero_add,TU];rw[List.drop_of_length_le (by omega),append_nil]
theorem TW:(List.replicate 12 (0:Int)).length=12:=by simp
theorem Q4(d:Nat->Nat):(bb (vl d).length 12&&ja 0 (vl d).length (List.replicate 12 (0:Int)).length)=true:=by simp[TU,bb,ja]
theorem HO(d:Nat->Nat){x:Nat}(hx:x<12):nt (vl d) 0 (x:Int)=some ((d x:Nat):Int):=by
 simp only[nt,Nat.zero_add,Int.toNat_natCast,show decide ((0:Int)<=(x:Int))=true by simp,ai];exact apT d hx
theorem Q3(d:Nat->Nat){x:Nat}(hx:x<12):(decide ((0:Int)<=(x:Int))&&ja (0+(x:Int).toNat) 1 (vl d).length)=true:=by simp only[ja,TU,Int.toNat_natCast,aD,aG];omega
theorem OF(d:Nat->Nat){x:Nat}(hx:x<12)(v:Nat):List.set (vl d) (0+(x:Int).toNat) (v:Int)=vl (tI d x v):=by simp only[Nat.zero_add,Int.toNat_natCast];exact apU d hx v
theorem apV:List.replicate 12 (0:Int)=vl λ_=>0:=by
 apply List.ext_getElem?;intro i;simp only[vl,List.getElem?_map,List.getElem?_replicate];by_cases hi:i<12
 ·rw[aP hi,List.getElem?_range hi];rfl
 ·rw[aM hi,List.getElem?_eq_none (by simp;omega)];rfl
def rel(e:Nat->Nat->Bool)(a x y:Nat)(d:Nat->Nat):Nat->Nat:=if e x y=true/\x≠a then tI d x (min (d x) (d y+1))else d
def Jp(e:Nat->Nat->Bool)(a x k:Nat)(d:Nat->Nat):Nat->Nat:=(List.range' a k).foldl (λ d y=>rel e a x y d) d
def Pg(e:Nat->Nat->Bool)(a k:Nat)(d:Nat->Nat):Nat->Nat:=(List.range' a k).foldl (λ d x=>Jp e a x (12 -a) d) d
def J2(e:Nat->Nat->Bool)(a k:Nat):Nat->Nat:=(List.range k).foldl (λ d _=>Pg e a (12 -a) d) (λ x=>if x=a then 0 else 13)
def iQ(e:Nat->Nat->Bool)(a:Nat):Nat->Nat:=J2 e a 12
theorem VC(e:Nat->Nat->Bool)(a x y:Nat)(d:Nat->Nat)(z:Nat):rel e a x y d z<=d z:=by
 unfold rel;split
 ·simp only[tI];split
  ·rename_i h;subst h;exact Nat.min_le_left _ _
  ·exact aT _
 ·exact aT _
theorem GU{α:Type}(f:(Nat->Nat)->α->Nat->Nat)(hf:∀d x z,f d x z<=d z):∀(l:List α)(d:Nat->Nat)(z:Nat),l.foldl f d z<=d z
 |[],_,_=>aT _
 |x::l,d,z=>Nat.le_trans (GU f hf l _ z) (hf d x z)
theorem TY(e:Nat->Nat->Bool)(a x k:Nat)(d:Nat->Nat)(z:Nat):Jp e a x k d z<=d z:=GU _ (λ d y z=>VC e a x y d z) _ d z
theorem T9(e:Nat->Nat->Bool)(a k:Nat)(d:Nat->Nat)(z:Nat):Pg e a k d z<=d z:=GU _ (λ d x z=>TY e a x _ d z) _ d z
theorem agk(e:Nat->Nat->Bool)(a k:Nat)(z:Nat):J2 e a k z<=13:=by
 refine Nat.le_trans (GU _ (λ d _ z=>T9 e a _ d z) _ _ z) ?_;split<;>omega
theorem range'_succ(a k:Nat):List.range' a (k+1)=List.range' a k++[a+k]:=by rw[List.range'_concat];simp
theorem aio(hn:100<=n)(e:Nat->Nat->Bool){a x:Nat}(ha:a<12)(hx:x<12)(d:Nat->Nat)(hd:∀z,d z<=13):
 iter (uU (iH e) (a:Int) (x:Int)) n ((a:Int),vl d)=some (vl (Jp e a x (12 -a) d)):=by
 refine dz (λ i=>(((a+i:Nat):Int),vl (Jp e a x i d))) (12 -a) _ (by simp[Jp]) (λ i hi=>?_) ?_ n (by omega)
 ·have e1:decide (((a+i:Nat):Int)<12)=true:=by simp only[aG];omega
  have h12:a+i<12:=by omega
  generalize hD:Jp e a x i d=D;have Lw:∀z,D z<=13:=λz=>by rw[<- hD];exact Nat.le_trans (TY _ _ _ _ _ _) (hd z)
  have hN:Jp e a x (i+1) d=rel e a x (a+i) D:=by rw[<- hD];simp[Jp,range'_succ,List.foldl_append]
  have hM:(iH e).l=tb e:=rfl;simp only[uU,e1,ai,xN,hx,h12,decide_true,hM,Jo e hx h12,ah,aO (show a+i<9223372036854775807 by omega)];rw[hN,show a+(i+1)=a+i+1 by omega];cases h1:e x (a+i)with
  |false=>simp only[ak,ah,rel,h1];simp
  |true=>
   simp only[ai,ah];by_cases h2:x=a
   ·have:((x:Int) !=(a:Int))=false:=(by subst h2;simp);simp only[this,ak,ah,rel];simp[h2]
   ·have:((x:Int) !=(a:Int))=true:=(by simp;omega);simp only[this,ai,HO D hx,HO D h12,ah];have e2:min ((D x:Nat):Int) (i64.wrap (((D (a+i):Nat):Int)+1))=((min (D x) (D (a+i)+1):Nat):Int):=(by rw[aO (by have:=Lw (a+i);omega)];omega);simp only[e2,Q3 D hx,OF D hx,ai,ah];simp only[rel,h1,ne_eq,h2,not_false_eq_true,and_self,if_true]
 ·have e1:decide (((a+(12 -a):Nat):Int)<12)=false:=by simp only[dn];omega
  simp only[uU,e1,ak]
theorem aip(hn:100<=n)(e:Nat->Nat->Bool){a:Nat}(ha:a<12)(d:Nat->Nat)(hd:∀z,d z<=13):
 iter (uV n (iH e) (a:Int)) n ((a:Int),vl d)=some (vl (Pg e a (12 -a) d)):=by
 refine dz (λ i=>(((a+i:Nat):Int),vl (Pg e a i d))) (12 -a) _ (by simp[Pg]) (λ i hi=>?_) ?_ n (by omega)
 ·have e1:decide (((a+i:Nat):Int)<12)=true:=by simp only[aG];omega
  simp only[uV,e1,ai];rw[aio hn e ha (show a+i<12 by omega) _ λz=>Nat.le_trans (T9 _ _ _ _ _) (hd z)];simp only[ah,aO (show a+i<9223372036854775807 by omega)];rw[show a+(i+1)=a+i+1 by omega];simp[Pg,range'_succ,List.foldl_append]
 ·have e1:decide (((a+(12 -a):Nat):Int)<12)=false:=by simp only[dn];omega
  simp only[uV,e1,ak]
theorem aiq(hn:100<=n)(e:Nat->Nat->Bool){a:Nat}(ha:a<12):
 iter (uW n (iH e) (a:Int)) n ((0:Int),vl λx=>if x=a then 0 else 13)=some (vl (iQ e a)):=by
 refine dz (λ i=>((i:Int),vl (J2 e a i))) 12 _ (by simp[J2]) (λ i hi=>?_) ?_ n (by omega)
 ·have e1:decide ((i:Int)<12)=true:=by simp only[aG];omega
  simp only[uW,e1,ai];rw[aip hn e ha _ λz=>agk _ _ _ z];simp only[ah,aR i];simp[J2,List.range_succ,List.foldl_append]
 ·have e1:decide (((12:Nat):Int)<12)=false:=by decide
  simp only[uW,e1,ak];rfl
theorem L8(hn:100<=n)(e:Nat->Nat->Bool){a:Nat}(ha:a<12):yL n (iH e) (a:Int)=some (oS (iQ e a)):=by
 have h1:iter uT n ((0:Int),List.replicate 12 (0:Int))=some (vl λ_=>13):=by
  refine dz (λ i=>((i:Int),vl λx=>if x<i then 13 else 0)) 12 _ (by rw[apV];simp) (λ i hi=>?_) ?_ n (by omega)
  ·have e1:decide ((i:Int)<12)=true:=(by simp only[aG];omega);have e2:(13:Int)=((13:Nat):Int):=rfl;simp only[uT,e1,ai,xN,hi,decide_true,aR i,Q3 _ hi];rw[e2,OF _ hi 13];rw[agj λx _=>?_];simp only[tI];by_cases h:x=i
   ·subst h;simp
   ·rw[aM h];by_cases h3:x<i
    ·simp[h3,show x<i+1 by omega]
    ·simp[h3,show ¬x<i+1 by omega]
  ·have e1:decide (((12:Nat):Int)<12)=false:=(by decide);simp only[uT,e1,ak];rw[agj λx hx=>?_];rw[aP hx]
 unfold yL;rw[h1];have e0:(0:Int)=((0:Nat):Int):=rfl;have e5:List.set (vl λ_=>13) (0+(a:Int).toNat) (0:Int)=vl λx=>if x=a then 0 else 13:=by rw[e0,OF _ ha 0];rfl
 have e7:(bb (oS (iQ e a)).l.length 12&&ja 0 (oS (iQ e a)).l.length (List.replicate 12 (0:Int)).length)=true:=Q4 _;have e8:mY (List.replicate 12 (0:Int)) 0 (oS (iQ e a)).l=vl (iQ e a):=Rd _ TW;simp only[ah,xN,ha,decide_true,ai,Q3 _ ha,e5,aiq hn e ha,aqF,e7,e8]
inductive Wy(e:Nat->Nat->Bool)(a:Nat):Nat->Nat->Prop
 |nil:Wy e a a 0
 |step {x y k:Nat}:a<=x->x<12->x≠a->a<=y->y<12->e x y=true->Wy e a y k->Wy e a x (k+1)
theorem jq{a k x:Nat}:x∈List.range' a k↔a<=x/\x<a+k:=by
 rw[List.mem_range'];constructor
 ·rintro⟨i,h1,h2⟩;omega
 ·rintro⟨h1,h2⟩;exact⟨x -a,by omega,by omega⟩
theorem Ba{α β:Type}(P:β->Prop)(f:β->α->β):∀(l:List α)(b:β),P b->(∀ b,P b->∀x∈l,P (f b x))->P (l.foldl f b)
 |[],_,h,_=>h
 |x::l,b,h,hf=>Ba P f l _ (hf b h x (by simp)) λb hb y hy=>hf b hb y (by simp[hy])
def Sa(e:Nat->Nat->Bool)(a:Nat)(d:Nat->Nat):Prop:=∀x,d x<13->Wy e a x (d x)
theorem aoN{e:Nat->Nat->Bool}{a x y:Nat}{d:Nat->Nat}(hx:a<=x/\x<12)(hy:a<=y/\y<12)(h:Sa e a d):Sa e a (rel e a x y d):=by
 unfold rel;split
 ·rename_i h1;intro z hz;simp only[tI]at hz ⊢;split at hz
  ·rename_i h2;subst h2;rw[aP rfl];by_cases h3:d z<=d y+1
   ·rw[Nat.min_eq_left h3]at hz ⊢;exact h z hz
   ·rw[Nat.min_eq_right (by omega)]at hz ⊢;exact .step hx.1 hx.2 h1.2 hy.1 hy.2 h1.1 (h y (by omega))
  ·rename_i h2;rw[aM h2];exact h z hz
 ·exact h
theorem agl(e:Nat->Nat->Bool){a:Nat}(ha:a<12)(k:Nat):Sa e a (J2 e a k):=by
 refine Ba _ _ _ _ (λ x hx=>?_) λd hd _ _=>Ba _ _ _ _ hd λd hd x hx=>Ba _ _ _ _ hd λd hd y hy=>?_
 ·split at hx
  ·rename_i h;subst h;rw[aP rfl];exact .nil
  ·omega
 ·rw[jq]at hx hy;exact aoN (by omega) (by omega) hd
theorem agm{α:Type}(f:(Nat->Nat)->α->Nat->Nat)(hf:∀d x z,f d x z<=d z)(l:List α)(x:α)(hx:x∈l)(P:(Nat->Nat)->Prop)(hP:∀d d',P d->(∀ z,d' z<=d z)->P d')(Q:(Nat->Nat)->Prop)(hQ:∀d d',Q d->(∀ z,d' z<=d z)->Q d')(h:∀d,P d->Q (f d x))(d:Nat->Nat)(hd:P d):Q (l.foldl f d):=by
 obtain⟨l1,l2,rfl⟩:=List.append_of_mem hx;rw[List.foldl_append,foldl_cons];exact hQ _ _ (h _ (hP _ _ hd λz=>GU f hf l1 d z)) λz=>GU f hf l2 _ z
theorem agn(e:Nat->Nat->Bool){a:Nat}(ha:a<12):∀k x j,Wy e a x j->j<=k->J2 e a k x<=j:=by
 intro k
 induction k with
 |zero=>
  intro x j h hj;cases h with
  |nil=>simp[J2]
  |step=>omega
 |succ k ih=>
  intro x j h hj;have e1:J2 e a (k+1)=Pg e a (12 -a) (J2 e a k):=by simp[J2,List.range_succ,List.foldl_append]
  rw[e1];cases h with
  |nil=>exact Nat.le_trans (T9 _ _ _ _ _) (ih _ _ .nil (by omega))
  | @step _ y j h1 h2 h3 h4 h5 h6 h7=>
   refine agm (λ d x=>Jp e a x (12 -a) d) (λ d x z=>TY e a x _ d z) (List.range' a (12 -a)) x (jq.2 (by omega)) (λ d=>d y<=j) (λ d d' h h'=>Nat.le_trans (h' y) h) (λ d=>d x<=j+1) (λ d d' h h'=>Nat.le_trans (h' x) h) (λ d hd=>?_) _ (ih y j h7 (by omega));refine agm (λ d y=>rel e a x y d) (λ d y z=>VC e a x y d z) (List.range' a (12 -a)) y (jq.2 (by omega)) (λ d=>d y<=j) (λ d d' h h'=>Nat.le_trans (h' y) h) (λ d=>d x<=j+1) (λ d d' h h'=>Nat.le_trans (h' x) h) (λ d hd=>?_) _ hd;simp only[rel,h6,ne_eq,h3,not_false_eq_true,and_self,if_true,tI];omega
def Mn(e:Nat->Nat->Bool)(a x k:Nat):Prop:=Wy e a x k/\∀j,Wy e a x j->k<=j
theorem aj7{e:Nat->Nat->Bool}{a x k:Nat}(h:Mn e a x (k+1)):∃y,a<=y/\y<12/\e x y=true/\Mn e a y k:=by
 obtain⟨h,hm⟩:=h;cases h with
 | @step _ y _ h1 h2 h3 h4 h5 h6 h7=>
  refine⟨y,h4,h5,h6,h7,λj hj=>?_⟩;have:=hm _ (.step h1 h2 h3 h4 h5 h6 hj);omega
theorem aoO{e:Nat->Nat->Bool}{a:Nat}(ha:a<12):∀k x,Mn e a x k->∃l:List Nat,l.length=k+1/\l.Nodup/\∀y∈l,y<12/\∃j,j<=k/\Mn e a y j:=by
 intro k
 induction k with
 |zero=>
  intro x h;refine⟨[x],rfl,by simp,λy hy=>?_⟩;simp only[aW]at hy;subst hy;refine⟨?_,0,aT _,h⟩;cases h.1;exact ha
 |succ k ih=>
  intro x h;have⟨y,h1,h2,h3,h4⟩:=aj7 h;have⟨l,h5,h6,h7⟩:=ih y h4;refine⟨x::l,by simp[h5],?_,λz hz=>?_⟩
  ·rw[List.nodup_cons];refine⟨λ hx=>?_,h6⟩;have⟨_,j,hj,hm⟩:=h7 x hx;have:=h.2 _ hm.1;omega
  ·rcases aK.1 hz with rfl |hz
   ·refine⟨?_,k+1,aT _,h⟩;cases h.1 with
    |step _ h=>exact h
   ·have⟨h8,j,hj,hm⟩:=h7 z hz;exact⟨h8,j,by omega,hm⟩
theorem L9:∀(N:Nat)(l:List Nat),l.Nodup->(∀ y∈l,y<N)->l.length<=N
 | 0,[],_,_=>aT _
 | 0,x::l,_,h=>absurd (h x (by simp)) (by omega)
 |N+1,l,hn,h=>by
  have h1:=L9 N (l.filter λy=>decide (y≠N)) (hn.filter _) (λ y hy=>by
   rw[List.mem_filter]at hy;have:=h y hy.1;have:=hy.2;simp only[aG]at this;omega)
  have h2:=List.length_eq_countP_add_countP (λ y=>decide (y≠N)) (l:=l);rw[List.countP_eq_length_filter]at h2;have h3:List.countP (λ a=>decide ¬(decide (a≠N)=true)) l=l.count N:=by
   rw[List.count];refine List.countP_congr λy _=>?_;simp
  have h4:=List.nodup_iff_count.1 hn N;omega
theorem aqG{e:Nat->Nat->Bool}{a:Nat}(ha:a<12){k x:Nat}(h:Mn e a x k):k<=11:=by
 have⟨l,h1,h2,h3⟩:=aoO ha k x h;have:=L9 12 l h2 λy hy=>(h3 y hy).1;omega
theorem aqH{e:Nat->Nat->Bool}{a:Nat}:∀k x,Wy e a x k->∃j,Mn e a x j:=by
 intro k
 induction k using Nat.strongRecOn with
 |ind k ih=>
  intro x h;by_cases hm:∀j,Wy e a x j->k<=j
  ·exact⟨k,h,hm⟩
  ·simp only[Classical.not_forall,Nat.not_le]at hm;obtain⟨j,hj,hlt⟩:=hm;exact ih j hlt x hj
theorem aj8(e:Nat->Nat->Bool){a:Nat}(ha:a<12){x k:Nat}(h:Mn e a x k):iQ e a x=k:=by
 have h1:=aqG ha h;have h2:=agn e ha 12 x k h.1 (by omega);have h3:=agl e ha 12 x (by omega);have:=h.2 _ h3;show J2 e a 12 x=k;omega
theorem aoP(e:Nat->Nat->Bool){a:Nat}(ha:a<12){x:Nat}(h:iQ e a x<13):Mn e a x (iQ e a x):=by
 obtain⟨j,hj⟩:=aqH _ _ (agl e ha 12 x h);rw[aj8 e ha hj];exact hj
def A1(e:Nat->Nat->Bool)(d:Nat->Nat)(x:Nat)(s:Nat×Nat)(y:Nat):Nat×Nat:=if e x y=true/\d y+1<s.1 then(d y+1,x)else s
def tG(e:Nat->Nat->Bool)(x k:Nat)(s:Nat×Nat):Nat×Nat:=(List.range' x k).foldl (A1 e (iQ e x) x) s
def J3(e:Nat->Nat->Bool)(k:Nat):Nat×Nat:=(List.range k).foldl (λ s x=>tG e x (12 -x) s) (13,0)
theorem air(hn:100<=n)(e:Nat->Nat->Bool){x:Nat}(hx:x<12)(s:Nat×Nat):
 iter (qc (iH e) (x:Int) (oS (iQ e x))) n ((s.1:Int),(s.2:Int),(x:Int))=some (((tG e x (12 -x) s).1:Int),((tG e x (12 -x) s).2:Int)):=by
 refine dz (λ i=>(((tG e x i s).1:Int),((tG e x i s).2:Int),((x+i:Nat):Int))) (12 -x) _ (by simp[tG]) (λ i hi=>?_) ?_ n (by omega)
 ·have e1:decide (((x+i:Nat):Int)<12)=true:=by simp only[aG];omega
  have h12:x+i<12:=by omega
  generalize hD:tG e x i s=D;have hN:tG e x (i+1) s=A1 e (iQ e x) x D (x+i):=by rw[<- hD];simp[tG,range'_succ,List.foldl_append]
  have hM:(iH e).l=tb e:=rfl;have hV:mY (List.replicate 12 (0:Int)) 0 (oS (iQ e x)).l=vl (iQ e x):=Rd _ TW;have hle:=agk e x 12 (x+i);have hle:iQ e x (x+i)<=13:=hle;simp only[qc,e1,ai,xN,hx,h12,decide_true,hM,hV,Jo e hx h12,HO _ h12,ah,aO (show x+i<9223372036854775807 by omega),aO (show iQ e x (x+i)<9223372036854775807 by omega)];rw[hN,show x+(i+1)=x+i+1 by omega];cases h1:e x (x+i)with
  |false=>simp only[ak,ah,A1,h1];simp
  |true=>
   simp only[ai,ah];by_cases h2:iQ e x (x+i)+1<D.1
   ·have:decide (((iQ e x (x+i)+1:Nat):Int)<(D.1:Int))=true:=(by simp only[aG];omega);simp only[this,ai,ah,A1,h1,h2,and_self,if_true]
   ·have:decide (((iQ e x (x+i)+1:Nat):Int)<(D.1:Int))=false:=(by simp only[dn];omega);simp only[this,ak,ah,A1,h1,h2,and_false,if_false]
 ·have e1:decide (((x+(12 -x):Nat):Int)<12)=false:=by simp only[dn];omega
  simp only[qc,e1,ak]
theorem ais(hn:100<=n)(e:Nat->Nat->Bool):
 iter (qd n (iH e)) n ((13:Int),(0:Int),(0:Int))=some (((J3 e 12).1:Int),((J3 e 12).2:Int)):=by
 refine dz (λ i=>(((J3 e i).1:Int),((J3 e i).2:Int),(i:Int))) 12 _ (by simp[J3]) (λ i hi=>?_) ?_ n (by omega)
 ·have e1:decide ((i:Int)<12)=true:=by simp only[aG];omega
  have hM:(iH e).l=tb e:=rfl;have hV:(bb (oS (iQ e i)).l.length 12&&ja 0 (oS (iQ e i)).l.length (List.replicate 12 (0:Int)).length)=true:=Q4 _;simp only[qd,e1,ai,hM,Jm,ah,L8 hn e hi,hV,air hn e hi,aR i];simp[J3,List.range_succ,List.foldl_append]
 ·have e1:decide (((12:Nat):Int)<12)=false:=by decide
  simp only[qd,e1,ak]
def OkC(e:Nat->Nat->Bool)(s:Nat×Nat):Prop:=s=(13,0)\/s.2<12/\s.1<=12/\∃y,s.2<=y/\y<12/\e s.2 y=true/\iQ e s.2 y+1=s.1
theorem ant(e:Nat->Nat->Bool){k:Nat}(hk:k<=12):OkC e (J3 e k):=by
 refine Ba _ _ _ _ (.inl rfl) λs hs x hx=>Ba _ _ _ _ hs λs hs y hy=>?_;rw[List.mem_range]at hx;rw[jq]at hy;unfold A1;split
 ·rename_i h;refine .inr ⟨by show x<12;omega,?_,y,hy.1,by omega,h.1,rfl⟩;show iQ e x y+1<=12;rcases hs with rfl |⟨_,h2,_⟩
  ·have:=h.2;simp only at this;omega
  ·omega
 ·exact hs
def A0(e:Nat->Nat->Bool)(w x k:Nat):Option Nat:=(List.range' w (12 -w)).find? λv=>e x v&&decide (iQ e w v=k)
def FS(e:Nat->Nat->Bool)(w:Nat):Nat->Nat->List Nat
 | 0,x=>[x]
 |k+1,x=>x::match A0 e w x (k+1)with
  |some v=>FS e w k v
  |none=>[]
def RW(e:Nat->Nat->Bool):List Nat:=if (J3 e 12).1=13 then []else FS e (J3 e 12).2 ((J3 e 12).1 -1) (J3 e 12).2
theorem Zb{e:Nat->Nat->Bool}{w x k v:Nat}(h:A0 e w x k=some v):w<=v/\v<12/\e x v=true/\iQ e w v=k:=by
 have h1:=List.mem_of_find?_eq_some h;have h2:=List.find?_some h;rw[jq]at h1;simp only[aD,aG]at h2;by_cases hw:w<=12
 ·exact⟨h1.1,by omega,h2⟩
 ·omega
theorem anu{e:Nat->Nat->Bool}{w x k y:Nat}(h1:w<=y)(h2:y<12)(h3:e x y=true)(h4:iQ e w y=k):∃v,A0 e w x k=some v:=by
 cases h:A0 e w x k with
 |some v=>exact⟨v,rfl⟩
 |none=>
  unfold A0 at h;rw[List.find?_eq_none]at h;exact absurd (by simp[h3,h4]) (h y (jq.2 (by omega)))
theorem ait{p:Nat->Bool}{w k v:Nat}(h:(List.range' w k).find? p=some v):w<=v/\p v=true/\∀i,w<=i->i<v->p i=false:=by
 have h1:=List.mem_of_find?_eq_some h;rw[jq]at h1;refine⟨h1.1,List.find?_some h,λi hi hv=>?_⟩;rw[List.find?_eq_some_iff_append]at h;obtain⟨_,l1,l2,h2,h3⟩:=h;have h4:i∈l1:=by
  have hm:i∈List.range' w k:=jq.2 (by omega);rw[h2]at hm;rcases bf.1 hm with hm |hm
  ·exact hm
  ·have hp:(List.range' w k).Pairwise (· < ·):=List.pairwise_lt_range';rw[h2,List.pairwise_append]at hp;rcases aK.1 hm with rfl |hm
   ·omega
   ·have:=(pairwise_cons.1 hp.2.1).1 i hm;omega
 have:=h3 i h4;simpa using this
theorem aiu(hn:100<=n)(e:Nat->Nat->Bool){w x v:Nat}(hx:x<12)(b k:Nat)(hb:b<=12)(pre:List Int)(hk:pre.length+1+k=b)(hv:A0 e w x k=some v):
 iter (qf (iH e) (b:Int) (oS (iQ e w))) n ((w:Int),pre++[(x:Int)])=some (pre++[(x:Int)]++[(v:Int)]):=by
 have hv2:=Zb hv;have⟨h1,h2,h3⟩:=ait hv;have hM:(iH e).l=tb e:=rfl;have hV:mY (List.replicate 12 (0:Int)) 0 (oS (iQ e w)).l=vl (iQ e w):=Rd _ TW;have hlen:(pre++[(x:Int)]).length=pre.length+1:=by simp
 have hlast:bh (pre++[(x:Int)]) (((0:Nat):Int)+(pre.length:Int))=some (x:Int):=by rw[iT];simp
 have hw1:i64.wrap (((pre.length+1:Nat):Int) -1)=(pre.length:Int):=by rw[iJ (by omega) (by omega)];congr 1
 have hw2:i64.wrap ((b:Int) -((pre.length+1:Nat):Int))=(k:Int):=by rw[cB]<;>omega
 have body:∀i:Nat,i<12->qf (iH e) (b:Int) (oS (iQ e w)) ((i:Int),pre++[(x:Int)])=some (bif e x i&&decide (iQ e w i=k)then .inr (pre++[(x:Int)]++[(i:Int)])else .inl (((i+1:Nat):Int),pre++[(x:Int)])):=by
  intro i hi;have hin:decide (pre.length<pre.length+1)=true:=by simp
  have hs1:sub ([(i:Int)]:List Int) 0 1=[(i:Int)]:=rfl;have hap:bD (pre.length+1) (pre.length+1) 1 1 8=true:=bB (by omega) (by simp only[maxLen];omega);simp only[qf,hlen,hw1,hw2,xN,hin,hlast,ai,ah,hx,hi,decide_true,hM,hV,Jo e hx hi,HO _ hi,hs1,length_singleton,hap,dH,aB,aR i];cases h1:e x i with
  |false=>simp only[ak,ah,Bool.false_and]
  |true=>
   have:(((iQ e w i:Nat):Int)==(k:Int))=decide (iQ e w i=k):=(by rw[eu,beq_iff_eq,aG];omega);simp only[ai,ah,Bool.true_and,this];cases decide (iQ e w i=k)<;>rfl
 refine dz (λ i=>(((w+i:Nat):Int),pre++[(x:Int)])) (v -w) _ (by simp) (λ i hi=>?_) ?_ n (by omega)
 ·rw[body _ (by omega),h3 (w+i) (by omega) (by omega),show w+(i+1)=w+i+1 by omega];rfl
 ·rw[show w+(v -w)=v by omega,body _ hv2.2.1,h2];rfl
theorem Zc{m:Nat}(hm:100<=m)(e:Nat->Nat->Bool){w:Nat}(hw:w<12)(b:Nat)(hb:b<=12):∀k n x (pre:List Int),k<n->x<12->pre.length+1+k=b->(k=0\/∃y,w<=y/\y<12/\e x y=true/\iQ e w y=k)->
 iter (qg m (iH e) (b:Int) (w:Int) (oS (iQ e w))) n (pre++[(x:Int)])=some (pre++(FS e w k x).map λi:Nat=>(i:Int))
 | 0,n,x,pre,hn,hx,hl,_=>by
  obtain⟨n,rfl⟩:∃k,n=k+1:=⟨n -1,by omega⟩;have e1:decide ((((pre++[(x:Int)]).length:Nat):Int)<(b:Int))=false:=by simp only[dn,bW,length_singleton];omega
  refine bn ?_;simp only[qg,e1,ak,aB,ai,FS,aF,map_nil]
 |k+1,n,x,pre,hn,hx,hl,hy=>by
  obtain⟨n,rfl⟩:∃k,n=k+1:=⟨n -1,by omega⟩;have e1:decide ((((pre++[(x:Int)]).length:Nat):Int)<(b:Int))=true:=by simp only[aG,bW,length_singleton];omega
  rcases hy with hy |⟨y,h1,h2,h3,h4⟩
  ·omega
  ·have⟨v,hv⟩:=anu h1 h2 h3 h4;have hv2:=Zb hv;rw[dw (v':=pre++[(x:Int)]++[(v:Int)])]
   ·rw[Zc hm e hw b hb k n v (pre++[(x:Int)]) (by omega) hv2.2.1 (by simp;omega) ?_]
    ·simp only[FS,hv,aF,aN,List.singleton_append]
    ·by_cases hk:k=0
     ·exact .inl hk
     ·refine .inr ?_;have hl:=aoP e hw (x:=v) (by omega);rw[hv2.2.2.2]at hl;have⟨z,h5,h6,h7,h8⟩:=aj7 hl;exact⟨z,h5,h6,h7,by rw[aj8 e hw h8]⟩
   ·simp only[qg,e1,ai,aB,aiu hm e hx b (k+1) hb pre hl hv,ah]
theorem Ua(hn:100<=n)(e:Nat->Nat->Bool):xQ n (iH e)=some ((RW e).map λi:Nat=>(i:Int)):=by
 unfold xQ RW;rw[ais hn];simp only[ah];rcases ant e (aT 12)with h |⟨h1,h2,y,h3,h4,h5,h6⟩
 ·rw[h];simp
 ·generalize J3 e 12=s at h1 h2 h3 h4 h5 h6;obtain⟨b,w⟩:=s;simp only at h1 h2 h3 h4 h5 h6 ⊢;have e1:((b:Int)==13)=false:=by simp;omega
  have hM:(iH e).l=tb e:=rfl;have hV:(bb (oS (iQ e w)).l.length 12&&ja 0 (oS (iQ e w)).l.length (List.replicate 12 (0:Int)).length)=true:=Q4 _;have:=Zc hn e h1 b h2 (b -1) n w [] (by omega) h1 (by simp;omega) (.inr ⟨y,h3,h4,h5,by omega⟩);simp only[bI]at this;simp only[e1,ak,hM,Jm,ah,L8 hn e h1,hV,ai,length_singleton,aB,this,bG];rw[aM (by omega)]
theorem Ub{l:List Bool}(h:l.length<1099511627776):Fg l=some l:=yB (b:=1) (by omega) (by simp only[maxLen];omega)
noncomputable def gu(o:aU):List (List Bool):=(List.range o.values.toNat).map λa=>(List.range o.values.toNat).map λb=>io o a b
noncomputable def Cg(o:aU):List (List Bool)×List Int×Int:=
 bif !(gq o)then([],[],1)else bif Pf o then([],(RW (eO o)).map (λ i:Nat=>(i:Int)),16)else(gu o,[],0)
theorem aoQ(f:Nat->Nat->Bool){a m:Nat}(ha:a<12)(hm:m<=12):sub (tb f) (0+a*12) m=(List.range m).map (f a):=by
 apply List.ext_getElem?;intro i;simp only[sub,List.getElem?_take,List.getElem?_drop,List.getElem?_map];by_cases hi:i<m
 ·rw[aP hi,show 0+a*12+i=a*12+i by omega,WW f ha (by omega),List.getElem?_range hi];rfl
 ·rw[aM hi,List.getElem?_eq_none (by simp;omega)];rfl
theorem Rt(hn:400<=n)(o:aU):uX n o=some (Cg o):=by
 unfold uX Cg;rw[GR hn,JY (by omega)];simp only[ah];cases hv:gq o with
 |false=>
  have e1:(bb ix.l.length 144&&ja 0 ix.l.length (List.replicate 144 false).length)=true:=by rw[ql];exact lM (λ _ _=>false) _
  simp only[Bool.false_and,ak,e1,ai,Bool.not_false]
 |true=>
  cases hc:Pf o with
  |true=>
   have e1:(bb ix.l.length 144&&ja 0 ix.l.length (List.replicate 144 false).length)=true:=(by rw[ql];exact lM (λ _ _=>false) _);simp only[Bool.true_and,Bool.not_true,ak,e1,ai,Bool.not_false,JZ (show 200<=n by omega) hv,ah,Ua (show 100<=n by omega),bG,aB]
  |false=>
   have e1:(bb (iH (io o)).l.length 144&&ja 0 (iH (io o)).l.length (List.replicate 144 false).length)=true:=(by rw[ql];exact lM _ _);have e2:mY (List.replicate 144 false) 0 (iH (io o)).l=tb (io o):=rU _ Cf;have hb:1<=o.values/\o.values<=12:=(by simp only[gq,aD,aG]at hv;exact⟨hv.1.1.1,hv.1.1.2⟩);obtain⟨m,hm⟩:∃m:Nat,o.values=(m:Int):=⟨o.values.toNat,by omega⟩;have hz:bb 0 ([]:List (List Bool)).length=true:=rfl;have key:iter (oI o (iH (io o),true)) n ((0:Int),([]:List (List Bool)))=some (gu o):=by
    refine dz (λ i=>((i:Int),(List.range i).map λa=>(List.range m).map λb=>io o a b)) m _ (by simp) (λ i hi=>?_) ?_ n (by omega)
    ·have e:decide ((i:Int)<o.values)=true:=(by simp;omega);have m6:i<12:=(by omega);have CN:q8 0 o.values 12=true:=wM (by omega) (by omega) (by omega);have hfit:ja (0+i*12) 12 (tb (io o)).length=true:=(by simp only[ja,mD,aG];omega);have hmt:o.values.toNat=m:=(by omega);have hrl:((List.range m).map (io o i)).length=m:=(by simp);have hs1:∀r:List Bool,sub ([r]:List (List Bool)) 0 1=[r]:=λ_=>rfl;have hap:∀k:Nat,k<12->bD k k 1 1 24=true:=λk hk=>bB (by omega) (by simp only[maxLen];omega);simp only[oI,e,ai,xN,m6,decide_true,e2,Int.toNat_natCast,CN,hfit,hmt,aoQ (io o) m6 (show m<=12 by omega),hrl,aB,Bool.and_self,Ub (l:=(List.range m).map (io o i)) (by rw[hrl];omega),ah,bG,hs1,length_singleton,length_map,List.length_range,hap i m6,dH,aR i];have e3:sub (List.map (io o i) (List.range m)) 0 m=List.map (io o i) (List.range m):=(by rw[YB,take_of_length_le (by simp)]);simp[e3,List.range_succ]
    ·have e:decide ((m:Int)<o.values)=false:=(by simp;omega);simp only[oI,e,ak,aB,ai];simp only[gu,hm,Int.toNat_natCast]
   simp only[Bool.not_false,Bool.and_self,ai,e1,Bool.not_true,ak,hz,key,ah,bG,aB]
def okO(o:aU):Prop:=gq o=true/\Pf o=false
noncomputable def l8(o:aU):Bool:=gq o&&!(Pf o)
theorem aiv{o:aU}(h:l8 o=true):Cg o=(gu o,[],0):=by
 simp only[l8,aD,Bool.not_eq_true']at h;simp[Cg,h.1,h.2]
theorem agq{o:aU}(h:l8 o=false):(Cg o).2.2≠0:=by
 unfold l8 at h;unfold Cg;cases hv:gq o with
 |false=>simp
 |true=>rw[hv]at h;simp only[Bool.true_and,Bool.not_eq_false']at h;rw[h];simp
abbrev Mx:=List (List (List Bool))
noncomputable def Ch(os:List aU):Option Mx:=if os.length<=12/\os.all l8=true then some (os.map gu)else none
def No:Option Mx->Mx×Bool
 |some M=>(M,true)
 |none=>([],false)
theorem aoR(hn:400<=n)(os:List aU):uY n os=some (No (Ch os)):=by
 unfold uY Ch;by_cases hl:os.length<=12
 ·have e1:decide ((os.length:Int)>12)=false:=by simp;omega
  have hz:bb 0 ([]:Mx).length=true:=rfl;have key:=iK (l:=os) (step:=oJ n os) (λ i=>((i:Int),(os.take i).map gu)) (λ o=>!(l8 o)) (os.map gu) (λ _=>(([]:Mx),false)) (λ i hi=>by
   have e:decide ((i:Int)<(os.length:Int))=true:=(by simpa using hi);have h1:((os.take i).map gu).length=i:=(by simp;omega);have hs1:∀r:List (List Bool),sub ([r]:Mx) 0 1=[r]:=λ_=>rfl;have hap:bD i i 1 1 24=true:=bB (by omega) (by simp only[maxLen];omega);simp only[oJ,e,ai,aZ hi,ah,Rt hn];cases hk:l8 os[i]with
   |true=>
    simp only[aiv hk,bne_self_eq_false,ak,bG,aB,ai,h1,hs1,length_singleton,hap,dH,Bool.not_true,aR i];rw[dG hi,map_append];rfl
   |false=>
    have:((Cg os[i]).2.2 !=0)=true:=(by simpa using agq hk);simp only[this,ai,Bool.not_false,Option.map_some]) (by
   have e:decide ((os.length:Int)<(os.length:Int))=false:=(by simp);simp only[oJ,e,ak,aB,ai,List.take_length]) n (by omega)
  simp only[List.take_zero,map_nil]at key;rw[show ((0:Nat):Int)=0 from rfl]at key;simp only[e1,ak,hz,ai,key];have hf:=Nf l8 os;cases hx:kK (λ o=>!(l8 o)) os with
  |some i=>rw[hx]at hf;simp only at hf;simp only[nZ];rw[aM (by rw[<- hf];simp)];rfl
  |none=>rw[hx]at hf;simp only at hf;simp only[fB,bG,aB,ai];rw[aP ⟨hl,hf.symm⟩];rfl
 ·have e1:decide ((os.length:Int)>12)=true:=by simp;omega
  simp only[e1,ai];rw[aM (by omega)];rfl
def Ma(M:Mx)(v:List Int)(i:Nat):Bool:=match v[i]?,M[i]? with
 |some x,some R=>decide (0<=x)&&decide (x<(R.length:Int))
 |_,_=>false
def qR(M:Mx)(v:List Int):Bool:=decide (v.length=M.length)&&(List.range M.length).all (Ma M v)
theorem Vl(M:Mx)(v:List Int)(hn:M.length<n)(hm:M.length<9223372036854775807):dY n M v=some (qR M v):=by
 unfold dY qR;by_cases hl:v.length=M.length
 ·have e1:((v.length:Int) !=(M.length:Int))=false:=by simp;omega
  have key:=iK (l:=List.range M.length) (step:=gD M v) (λ i=>(i:Int)) (λ i=>!(Ma M v i)) () (λ _=>false) (λ i hi=>by
   rw[List.length_range]at hi;have hv:i<v.length:=(by omega);have e:decide ((i:Int)<(v.length:Int))=true:=(by simpa using hv);simp only[gD,e,ai,aZ hv,aZ hi,ah,List.getElem_range,Ma,dI hv,dI hi,aR i];by_cases h1:v[i] <0
   ·have:decide (0<=v[i])=false:=(by simpa using h1);simp only[h1,this,decide_true,ai,ah,Bool.false_and,Bool.not_false,Option.map_some]
   ·have:decide (0<=v[i])=true:=(by simpa using h1);simp only[h1,this,decide_false,ak,ah,Bool.true_and];by_cases h2:v[i]>=(M[i].length:Int)
    ·have:decide (v[i] <(M[i].length:Int))=false:=(by simpa using h2);simp only[h2,this,decide_true,ai,Bool.not_false,Option.map_some]
    ·have:decide (v[i] <(M[i].length:Int))=true:=(by simp only[aG];omega);simp only[h2,this,decide_false,ak,Bool.not_true]) (by
   rw[List.length_range];have e:decide ((M.length:Int)<(v.length:Int))=false:=(by simp;omega);simp only[gD,e,ak]) n (by simpa using hn)
  rw[show ((0:Nat):Int)=0 from rfl]at key;simp only[e1,ak,key];simp only[hl,decide_true,Bool.true_and];have hf:=Nf (Ma M v) (List.range M.length);cases hx:kK (λ i=>!(Ma M v i)) (List.range M.length)with
  |some i=>rw[hx]at hf;simp only at hf;simp only[nZ];rw[<- hf]
  |none=>rw[hx]at hf;simp only at hf;simp only[fB];rw[<- hf]
 ·have e1:((v.length:Int) !=(M.length:Int))=true:=by simp;omega
  simp[e1,hl]
theorem agr{V:Type}(k k':Int)(v:V):∀l:List (Int×V),iA mB k (vO mB k' v l)=if k=k' then some v else iA mB k l
 |[]=>by
  by_cases h:k=k'
  ·simp[iA,vO,mB,h]
  ·have h':(k==k')=false:=(by simpa using h);simp[iA,vO,mB,h,h']
 |p::r=>by
  have ih:=agr k k' v r;by_cases h1:k'=p.1
  ·subst h1;by_cases h2:k=p.1
   ·simp[vO,iA,mB,h2]
   ·have h2':(k==p.1)=false:=(by simpa using h2);simp[vO,iA,mB,h2,h2']
  ·have h1':(k'==p.1)=false:=(by simpa using h1);by_cases h2:k=p.1
   ·have h3:¬p.1=k':=λh=>h1 h.symm;simp[vO,iA,mB,h1',h2,h3]
   ·have h2':(k==p.1)=false:=(by simpa using h2);simp only[vO,mB,h1',ak,iA,h2'];simpa only[mB]using ih
def Zd(l:List aH):List (Int×Bool):=l.foldl (λ m c=>vO mB c.id true m) []
theorem aiw(k:Int)(l:List aH):(iA mB k (Zd l)).getD false=l.any λc=>decide (k=c.id):=by
 have main:∀(l:List aH)(m:List (Int×Bool)),(iA mB k (l.foldl (λ m c=>vO mB c.id true m) m)).getD false=((l.any λc=>decide (k=c.id)) || (iA mB k m).getD false):=by
  intro l
  induction l with
  |nil=>intro m;simp
  |cons c l ih=>
   intro m;rw[foldl_cons,ih,agr,List.any_cons];by_cases h:k=c.id
   ·simp[h]
   ·rw[aM h];simp[h]
 have:=main l [];simpa[Zd,iA]using this
def Jq(M:Mx)(base:List aH)(i:Nat):Bool:=match base[i]? with
 |some c=>!((base.take i).any λb=>decide (c.id=b.id))&&qR M c.values
 |none=>false
def gA(M:Mx)(base:List aH):Bool:=(List.range base.length).all (Jq M base)
noncomputable def dW(os:List aU)(base:List aH):Mx×Bool:=match Ch os with
 |some M=>if gA M base=true then(M,decide (base.length<=2000))else([],false)
 |none=>([],false)
theorem Ru{os:List aU}{M:Mx}(h:Ch os=some M):M.length=os.length/\os.length<=12:=by
 unfold Ch at h;split at h
 ·rename_i h1;cases h;simp[h1.1]
 ·cases h
theorem ags(hn:400<=n)(os:List aU)(base:List aH)(hb:base.length<n)(hb2:base.length<9223372036854775807):nT n os base=some (dW os base):=by
 unfold nT dW;rw[aoR hn];simp only[ah];cases hr:Ch os with
 |none=>
  simp only[No];cases hbase:base with
  |nil=>
   have h1:iter (gH n [] (([]:Mx),false)) n ((0:Int),([]:List (Int×Bool)))=some (.inl ()):=by
    obtain⟨m,rfl⟩:∃m,n=m+1:=⟨n -1,by omega⟩;exact bn rfl
   rw[h1];rfl
  |cons c r=>
   have h1:iter (gH n (c::r) (([]:Mx),false)) n ((0:Int),([]:List (Int×Bool)))=some (.inr ([],false)):=by
    obtain⟨m,rfl⟩:∃m,n=m+1:=⟨n -1,by omega⟩;refine bn ?_;have e:decide ((0:Int)<(((c::r).length:Nat):Int))=true:=(by simp only[bH,aG];omega);simp only[gH,e,ai,aoC (l:=c::r) (by simp),ah,Bool.not_false,Option.map_some]
   rw[h1];rfl
 |some M=>
  have⟨hM1,hM2⟩:=Ru hr;simp only[No];have key:=iK (l:=List.range base.length) (step:=gH n base (M,true)) (λ i=>((i:Int),Zd (base.take i))) (λ i=>!(Jq M base i)) () (λ _=>(([]:Mx),false)) (λ i hi=>by
   rw[List.length_range]at hi;have e:decide ((i:Int)<(base.length:Int))=true:=(by simpa using hi);simp only[gH,e,ai,aZ hi,ah,Bool.not_true,ak,aiw,List.getElem_range,Jq,dI hi,bG,aB,Vl (n:=n) M _ (by omega) (by omega),aR i];have e4:Zd (base.take (i+1))=vO mB base[i].id true (Zd (base.take i)):=(by rw[dG hi];simp only[Zd,List.foldl_append,foldl_cons,List.foldl_nil]);rw[e4];cases (base.take i).any λc=>decide (base[i].id=c.id)with
   |true=>simp only[ai,ah,Bool.not_true,Bool.false_and,Bool.not_false,Option.map_some]
   |false=>
    simp only[ak,ah,Bool.not_false,Bool.true_and];cases qR M base[i].values<;>rfl) (by
   rw[List.length_range];have e:decide ((base.length:Int)<(base.length:Int))=false:=(by simp);simp only[gH,e,ak]) n (by simpa using hb)
  simp only[List.take_zero]at key;rw[show ((0:Nat):Int)=0 from rfl,show Zd []=[]from rfl]at key;rw[key];have hf:=Nf (Jq M base) (List.range base.length);have e5:decide ((base.length:Int)<=2000)=decide (base.length<=2000):=by simp only[decide_eq_decide];omega
  cases hx:kK (λ i=>!(Jq M base i)) (List.range base.length)with
  |some i=>rw[hx]at hf;simp only at hf;simp only[nZ];rw[aM (by unfold gA;rw[<- hf];simp)]
  |none=>rw[hx]at hf;simp only at hf;simp only[fB,bG,aB,ai,e5];rw[aP (by unfold gA;exact hf.symm)]
def zc(M:Mx):Prop:=∀R∈M,∀r∈R,r.length=R.length
theorem WX{os:List aU}{M:Mx}(h:Ch os=some M):zc M:=by
 unfold Ch at h;split at h
 ·cases h;intro R hR r hr;obtain⟨o,_,rfl⟩:=mem_map.1 hR;unfold gu at hr ⊢;obtain⟨a,_,rfl⟩:=mem_map.1 hr;simp
 ·cases h
def Jr(M:Mx)(a b:List Int)(i:Nat):Bool:=match M[i]?,a[i]?,b[i]? with
 |some R,some x,some y=>((R[x.toNat]?).bind λr=>r[y.toNat]?).getD false
 |_,_,_=>false
def Js(M:Mx)(a b:List Int):List Int:=((List.range M.length).filter λi=>!(Jr M a b i)).map λi:Nat=>(i:Int)
theorem H0{M:Mx}{v:List Int}(h:qR M v=true){i:Nat}(hi:i<M.length):∃(x:Nat),v[i]? =some (x:Int)/\x<(M[i]'hi).length:=by
 simp only[qR,aD,aG,all_eq_true,List.mem_range]at h;have h2:=h.2 i hi;have hv:i<v.length:=by omega
 simp only[Ma,dI hv,dI hi,aD,aG]at h2;exact⟨v[i].toNat,by rw[dI hv];congr 1;omega,by omega⟩
theorem acD{M:Mx}(hq:zc M){a b:List Int}(ha:qR M a=true)(hb:qR M b=true)(hn:M.length<n)(hm:M.length<=12):gW n M a b=some (Js M a b):=by
 unfold gW Js;have key:=dz (step:=iE M a b) (λ i=>((i:Int),((List.range i).filter λi=>!(Jr M a b i)).map λi:Nat=>(i:Int))) (s:=((0:Int),([]:List Int))) M.length (((List.range M.length).filter λi=>!(Jr M a b i)).map λi:Nat=>(i:Int)) (by simp) (λ i hi=>by
  have e:decide ((i:Int)<(M.length:Int))=true:=by simpa using hi
  have⟨x,hx1,hx2⟩:=H0 ha hi;have⟨y,hy1,hy2⟩:=H0 hb hi;have hr:(M[i][x]'hx2).length=M[i].length:=hq _ (getElem_mem hi) _ (getElem_mem hx2);have hle:Jr M a b i=(M[i][x]'hx2)[y]'(by rw[hr];exact hy2):=by
   simp only[Jr,dI hi,hx1,hy1,Int.toNat_natCast,dI hx2,ah];rw[dI (by rw[hr];exact hy2)];rfl
  have hs1:sub ([(i:Int)]:List Int) 0 1=[(i:Int)]:=rfl;generalize hL:((List.range i).filter λi=>!(Jr M a b i)).map (λ i:Nat=>(i:Int))=L;have hlen:L.length<=i:=by
   rw[<- hL,length_map];exact Nat.le_trans (length_filter_le _ _) (by simp)
  have hap:bD L.length L.length 1 1 8=true:=bB (by omega) (by simp only[maxLen];omega);have hN:((List.range (i+1)).filter λi=>!(Jr M a b i)).map (λ i:Nat=>(i:Int))=L++(if Jr M a b i=true then []else [(i:Int)]):=by
   rw[List.range_succ,filter_append,map_append,hL];cases h:Jr M a b i<;>simp[h]
  rw[hN];simp only[iE,e,ai,aZ hi,ah,YA,hx1,hy1,dI hx2];rw[dI (show y<(M[i][x]'hx2).length by rw[hr];exact hy2),<- hle];simp only[ah,aR i];cases Jr M a b i with
  |true=>simp only[Bool.not_true,ak,aB,ai,ah,if_true,append_nil]
  |false=>simp only[Bool.not_false,ai,hs1,length_singleton,hap,dH,aB,ah];rfl) (by
  have e:decide ((M.length:Int)<(M.length:Int))=false:=by simp
  simp only[iE,e,ak,aB,ai]) n hn
 have hz:bb 0 ([]:List Int).length=true:=rfl;simp only[hz,ai,key,ah,bG,aB]
def Mc(M:Mx)(c:aH)(w:List Int):List Int:=bif c.grant then Js M c.values w else Js M w c.values
theorem agt{M:Mx}(hq:zc M){c:aH}{w:List Int}(ha:qR M c.values=true)(hb:qR M w=true)(hn:M.length<n)(hm:M.length<=12):iF n M c w=some (Mc M c w):=by
 unfold iF Mc;cases c.grant with
 |true=>simp only[ai,acD hq ha hb hn hm,ah,bG,aB]
 |false=>simp only[ak,acD hq hb ha hn hm,ah,bG,aB,ai]
def gy(M:Mx)(w:List Int)(c:aH):Bool:=(Mc M c w).isEmpty
theorem Rv(M:Mx)(w:List Int)(c:aH):((((Mc M c w).length:Nat):Int)==0)=gy M w c:=by
 unfold gy;cases Mc M c w with
 |nil=>rfl
 |cons x l=>simp only[bH,List.isEmpty_cons];simp;omega
def sE(l:List aH):List (Bool×Bool):=l.foldl (λ m c=>vO mm c.grant true m) []
theorem agu(k k' v:Bool):∀l:List (Bool×Bool),iA mm k (vO mm k' v l)=if k=k' then some v else iA mm k l
 |[]=>by cases k<;>cases k'<;>rfl
 |p::r=>by
  have ih:=agu k k' v r;obtain⟨p1,p2⟩:=p;by_cases h1:k'=p1
  ·subst h1;by_cases h2:k=k'
   ·simp[vO,iA,mm,h2]
   ·have h2':(k==k')=false:=(by simpa using h2);simp[vO,iA,mm,h2,h2']
  ·have h1':(k'==p1)=false:=(by simpa using h1);by_cases h2:k=p1
   ·have h3:¬p1=k':=λh=>h1 h.symm;simp[vO,iA,mm,h1',h2,h3]
   ·have h2':(k==p1)=false:=(by simpa using h2);simp only[vO,mm,h1',ak,iA,h2'];simpa only[mm]using ih
theorem alg(k:Bool)(l:List aH):(iA mm k (sE l)).getD false=l.any λc=>decide (k=c.grant):=by
 have main:∀(l:List aH)(m:List (Bool×Bool)),(iA mm k (l.foldl (λ m c=>vO mm c.grant true m) m)).getD false=((l.any λc=>decide (k=c.grant)) || (iA mm k m).getD false):=by
  intro l
  induction l with
  |nil=>intro m;simp
  |cons c l ih=>
   intro m;rw[foldl_cons,ih,agu,List.any_cons];by_cases h:k=c.grant
   ·simp[h]
   ·rw[aM h];simp[h]
 have:=main l [];simpa[sE,iA]using this
def mj(M:Mx)(base:List aH)(w:List Int)(g:Bool):Bool:=base.any λc=>gy M w c&&decide (g=c.grant)
def GV(M:Mx)(base:List aH)(w:List Int):Int:=bif mj M base w true&&mj M base w false then 3 else bif mj M base w true then 1 else bif mj M base w false then 2 else 0
def jr(M:Mx)(base:List aH)(w:List Int)(i:Nat):Bool:=match base[i]? with
 |some c=>gy M w c
 |none=>false
def rV(M:Mx)(base:List aH)(w:List Int):List Int:=((List.range base.length).filter (jr M base w)).map λi:Nat=>(i:Int)
theorem zF(M:Mx)(base:List aH)(w:List Int)(g:Bool):((base.filter (gy M w)).any λc=>decide (g=c.grant))=mj M base w g:=by rw[List.any_filter];rfl
theorem alh{M:Mx}(hq:zc M){base:List aH}{w:List Int}(hv:∀c∈base,qR M c.values=true)(hw:qR M w=true)(hn:M.length<n)(hm:M.length<=12)(hb:base.length<n)(hb2:base.length<=2000):
 jA n M base w=some (GV M base w,rV M base w):=by
 unfold jA;have key:=dz (step:=iG n M base w) (λ i=>((i:Int),sE ((base.take i).filter (gy M w)),((List.range i).filter (jr M base w)).map λi:Nat=>(i:Int))) (s:=((0:Int),([]:List (Bool×Bool)),([]:List Int))) base.length (sE (base.filter (gy M w)),rV M base w) (by simp[sE]) (λ i hi=>by
  have e:decide ((i:Int)<(base.length:Int))=true:=by simpa using hi
  have hs1:sub ([(i:Int)]:List Int) 0 1=[(i:Int)]:=rfl;have hra:jr M base w i=gy M w base[i]:=by simp[jr,hi]
  generalize hL:((List.range i).filter (jr M base w)).map (λ i:Nat=>(i:Int))=L;have hlen:L.length<=i:=by
   rw[<- hL,length_map];exact Nat.le_trans (length_filter_le _ _) (by simp)
  have hap:bD L.length L.length 1 1 8=true:=bB (by omega) (by simp only[maxLen];omega);have hN:((List.range (i+1)).filter (jr M base w)).map (λ i:Nat=>(i:Int))=L++(if gy M w base[i]=true then [(i:Int)]else []):=by
   rw[List.range_succ,filter_append,map_append,hL,<- hra];cases h:jr M base w i<;>simp[h]
  have hB:sE ((base.take (i+1)).filter (gy M w))=bif gy M w base[i]then vO mm base[i].grant true (sE ((base.take i).filter (gy M w)))else sE ((base.take i).filter (gy M w)):=by
   rw[dG hi,filter_append];cases h:gy M w base[i]with
   |true=>simp only[sE,List.filter_cons,h,if_true,List.filter_nil,List.foldl_append,foldl_cons,List.foldl_nil,ai]
   |false=>simp only[sE,List.filter_cons,h,List.filter_nil,append_nil,ak,Bool.false_eq_true,if_false]
  rw[hN,hB];simp only[iG,e,ai,aZ hi,ah,agt hq (hv _ (getElem_mem hi)) hw hn hm,Rv,aR i];cases gy M w base[i]with
  |true=>simp only[ai,hs1,length_singleton,hap,dH,aB,ah,if_true]
  |false=>simp only[ak,aB,ai,ah,Bool.false_eq_true,if_false,append_nil]) (by
  have e:decide ((base.length:Int)<(base.length:Int))=false:=by simp
  simp only[iG,e,ak,aB,ai,List.take_length];rfl) n hb
 have hz:bb 0 ([]:List Int).length=true:=rfl;simp only[hz,ai,key,ah,alg,zF];unfold GV;cases h1:mj M base w true with
 |true=>
  cases h2:mj M base w false with
  |true=>simp only[ai,ah,bG,aB,Bool.and_self]
  |false=>simp only[ai,ah,ak,bG,aB,Bool.and_false]
 |false=>
  cases h2:mj M base w false with
  |true=>simp only[ai,ah,ak,bG,aB,Bool.false_and]
  |false=>
   simp only[ak,ah,Bool.false_and];have:rV M base w=[]:=by
    unfold rV;have:(List.range base.length).filter (jr M base w)=[]:=by
     rw[List.filter_eq_nil_iff];intro i hi hr;rw[List.mem_range]at hi;simp only[jr,dI hi]at hr;cases hg:base[i].grant with
     |true=>
      have:mj M base w true=true:=(by unfold mj;rw[any_eq_true];exact⟨_,getElem_mem hi,by simp[hr,hg]⟩);rw[h1]at this;cases this
     |false=>
      have:mj M base w false=true:=(by unfold mj;rw[any_eq_true];exact⟨_,getElem_mem hi,by simp[hr,hg]⟩);rw[h2]at this;cases this
    rw[this];rfl
   rw[this]
theorem Rw{M:Mx}{base:List aH}(h:gA M base=true):∀c∈base,qR M c.values=true:=by
 intro c hc;obtain⟨i,hi,rfl⟩:=List.mem_iff_getElem.1 hc;simp only[gA,all_eq_true,List.mem_range]at h;have:=h i hi;simp only[Jq,dI hi,aD]at this;exact this.2
theorem Jt{os:List aU}{base:List aH}(h:(dW os base).2=true):∃M,dW os base=(M,true)/\Ch os=some M/\gA M base=true/\base.length<=2000:=by
 unfold dW at h ⊢;cases hr:Ch os with
 |none=>rw[hr]at h;cases h
 |some M=>
  rw[hr]at h;simp only at h ⊢;split at h
  ·rename_i h1;rw[aP h1];simp only at h;exact⟨M,by rw[h],rfl,h1,of_decide_eq_true h⟩
  ·cases h
noncomputable def bZ(os:List aU)(base:List aH)(w:List Int):Int×List Int×Int:=
 bif(dW os base).2&&qR (dW os base).1 w then(GV (dW os base).1 base w,rV (dW os base).1 base w,0)else(0,[],1)
theorem aj9(hn:400<=n){os:List aU}{base:List aH}{w:List Int}(r:Mx×Bool)(hr:r=dW os base):
 ((bif (!r.2)then some true else(ck (bb (sub r.1 0 r.1.length).length r.1.length) ((dY n (sub r.1 0 r.1.length) w).bind λr2=>some (!r2)))):Option Bool)=some (!((dW os base).2&&qR (dW os base).1 w)):=by
 subst hr;cases h:(dW os base).2 with
 |false=>simp
 |true=>
  have⟨M,h1,h2,h3,h4⟩:=Jt h;rw[h1];have:=Ru h2;simp only[Bool.not_true,ak,bG,aB,ai,Vl (n:=n) M w (by omega) (by omega),ah,Bool.true_and]
theorem ali(hn:400<=n)(os:List aU)(base:List aH)(w:List Int)(hb:base.length<n)(hb2:base.length<9223372036854775807):qh n os base w=some (bZ os base w):=by
 unfold qh bZ;rw[ags hn os base hb hb2];simp only[ah];rw[aj9 hn _ rfl];simp only[ah];cases h:(dW os base).2&&qR (dW os base).1 w with
 |false=>simp
 |true=>
  simp only[aD]at h;have⟨M,h1,h2,h3,h4⟩:=Jt h.1;rw[h1]at h ⊢;have:=Ru h2;simp only[Bool.not_true,ak,bG,aB,ai,alh (WX h2) (Rw h3) h.2 (n:=n) (by omega) (by omega) hb h4,ah]
theorem Uc{l:List aH}(h:l.length<1099511627776):Fh l=some l:=yB (b:=40) (by omega) (by simp only[maxLen];omega)
theorem Md{l:List aH}{φ:(aH×Unit)->Option Bool}(p:aH->Bool)(h:∀x∈l,φ (x,())=some (p x))(hl:l.length<1099511627776)(hn:l.length<n):uZ n l φ=some (sq p l):=JV p h hl hn
theorem GX{l:List aH}{φ:(aH×Unit)->Option Bool}(p:aH->Bool)(h:∀x∈l,φ (x,())=some (p x))(hl:l.length<1099511627776)(hn:l.length<n):lu n l φ=some (l.any p):=by
 unfold lu;rw[Md p h hl hn];simp only[ah,PT]
def Ci(l:List aH):Prop:=l.length<1000/\∀c∈l,c.values.length<1000
theorem acE{c:aH}(h:c.values.length<1000):nU c=some c:=by
 unfold nU;rw[zB (by omega)];simp only[ah,bG,aB,ai]
theorem alj{l:List aH}(h:Ci l)(hn:1000<=n):mK n l=some l:=by
 unfold mK;obtain⟨h1,h2⟩:=h;rw[Uc (by omega)];have key:=dz (step:=oK l) (λ i=>((i:Int),l)) (s:=((0:Int),l)) l.length l rfl (λ i hi=>by
  have e:decide ((i:Int)<(l.length:Int))=true:=by simpa using hi
  have hv:=h2 _ (getElem_mem hi);have hs:l.set (((0:Nat):Int)+(i:Int)).toNat (aH.mk l[i].id l[i].values l[i].grant)=l:=by
   have:(((0:Nat):Int)+(i:Int)).toNat=i:=(by omega);rw[this];exact List.set_getElem_self hi
  simp only[oK,e,ai,bS hi,eY hi,ah,zB (show l[i].values.length<1099511627776 by omega),bG,aB,hs,aR i]) (by
  have e:decide ((l.length:Int)<(l.length:Int))=false:=by simp
  simp only[oK,e,ak]) n (by omega)
 simp only[ah,key,bG,aB,ai]
def At(M:Mx)(base:List aH)(c:aH):List aH×Int:=
 bif base.any (λ d=>d.id==c.id)then([],5)else bif base.any (λ d=>!(d.grant==c.grant)&&gy M c.values d)then([],25)else(base++[c],0)
noncomputable def Ph(os:List aU)(base:List aH)(c:aH):List aH×Int:=
 bif(dW os base).2&&qR (dW os base).1 c.values then At (dW os base).1 base c else([],1)
theorem apX(hn:1000<=n)(os:List aU){base:List aH}(hb:Ci base){c:aH}(hc:c.values.length<1000):xR n os base c=some (Ph os base c):=by
 obtain⟨hb1,hb2⟩:=hb;unfold xR Ph;rw[ags (by omega) os base (by omega) (by omega)];simp only[ah];rw[aj9 (by omega) _ rfl];simp only[ah];cases h:(dW os base).2&&qR (dW os base).1 c.values with
 |false=>rfl
 |true=>
  simp only[aD]at h;have⟨M,g1,g2,g3,g4⟩:=Jt h.1;rw[g1]at h ⊢;have hl:=Ru g2;have hz:bb 0 ([]:List aH).length=true:=rfl;simp only[Bool.not_true,ak,ai];rw[GX (λ d=>d.id==c.id) (λ x _=>rfl) (by omega) (by omega)];have e1:decide ((base.length:Int)>=2000)=false:=by simp;omega
  simp only[ah,e1,ak,hz,ai];unfold At;cases base.any (λ d=>d.id==c.id)with
  |true=>rfl
  |false=>
   simp only[ak];have key:=iK (l:=base) (step:=qi n base c (M,true)) (λ i=>((i:Int),base.take i)) (λ d=>!(d.grant==c.grant)&&gy M c.values d) base (λ _=>(([]:List aH),(25:Int))) (λ i hi=>by
    have e:decide ((i:Int)<(base.length:Int))=true:=(by simpa using hi);have hs1:sub ([base[i]]:List aH) 0 1=[base[i]]:=rfl;have hlen:(base.take i).length=i:=(by simp;omega);have hap:bD i i 1 1 40=true:=bB (by omega) (by simp only[maxLen];omega);simp only[qi,e,ai,aZ hi,ah,bG,aB,agt (WX g2) (Rw g3 _ (getElem_mem hi)) h.2 (n:=n) (by omega) (by omega),Rv,acE (hb2 _ (getElem_mem hi)),hs1,length_singleton,hlen,hap,dH,aR i];rw[dG hi];cases base[i].grant==c.grant with
    |true=>simp only[Bool.not_true,ak,ah,Bool.false_and]
    |false=>
     simp only[Bool.not_false,ai,ah,Bool.true_and];cases gy M c.values base[i]<;>rfl) (by
    have e:decide ((base.length:Int)<(base.length:Int))=false:=(by simp);simp only[qi,e,ak,aB,ai,List.take_length]) n (by omega)
   simp only[List.take_zero]at key;rw[show ((0:Nat):Int)=0 from rfl]at key;rw[key,<- jf];have hs1:sub ([c]:List aH) 0 1=[c]:=rfl;have hap:bD base.length base.length 1 1 40=true:=bB (by omega) (by simp only[maxLen];omega);cases kK (λ d=>!(d.grant==c.grant)&&gy M c.values d) base with
   |some i=>rfl
   |none=>simp only[fB,acE hc,ah,hs1,length_singleton,hap,ai,dH,bG,aB,Option.isSome_none,ak]
noncomputable def jl(os:List aU)(base:List aH)(id:Int)(values:List Int)(cm:Bool):Bool×List aH×Int:=
 bif(bZ os base values).2.2 !=0 then(false,base,1)else bif(bZ os base values).1==3 then(false,base,25)else
  bif(Ph os base (aH.mk id values (bif (bZ os base values).1==1 then true else bif(bZ os base values).1==2 then false else cm))).2 !=0 then(false,base,(Ph os base (aH.mk id values (bif (bZ os base values).1==1 then true else bif(bZ os base values).1==2 then false else cm))).2)
  else((bif (bZ os base values).1==1 then true else bif(bZ os base values).1==2 then false else cm),(Ph os base (aH.mk id values (bif (bZ os base values).1==1 then true else bif(bZ os base values).1==2 then false else cm))).1,0)
theorem Bb(hn:1000<=n)(os:List aU){base:List aH}(hb:Ci base)(id:Int){values:List Int}(hv:values.length<1000)(cm:Bool):gG n os base id values cm=some (jl os base id values cm):=by
 have hg:∀f:Int,((bif f==1 then some true else(bif f==2 then some false else some cm)):Option Bool)=some (bif f==1 then true else bif f==2 then false else cm):=λf=>by cases f==1<;>cases f==2<;>rfl
 unfold gG jl;rw[ali (by omega) os base values (by have:=hb.1;omega) (by have:=hb.1;omega)];simp only[ah,alj hb hn,bG,aB,ai,hg,zB (show values.length<1099511627776 by omega)];generalize (bif (bZ os base values).1==1 then true else bif(bZ os base values).1==2 then false else cm)=g;rw[apX hn os hb (c:=aH.mk id values g) hv];simp only[ah];cases (bZ os base values).2.2 !=0 with
 |true=>rfl
 |false=>
  cases (bZ os base values).1==3 with
  |true=>rfl
  |false=>
   simp only[ak];cases (Ph os base (aH.mk id values g)).2 !=0<;>rfl
def dZ(v:aQ):ay:=ay.mk v.bz v.cg v.bx v.cf
def okV(v:aQ):Bool:=cL (dZ v)&&(decide (0<=v.dy)&&(decide (v.dy<v.dg)&&(decide (v.dg<=4096)&&((decide (v.use=0) || decide (v.units=0))&&(decide (0<=v.use)&&(decide (v.use<6)&&(decide (0<=v.units)&&decide (v.units<=1048576))))))))
theorem Cj(v:aQ):iL v=some (okV v):=by
 unfold iL okV;rw[nN];have e1:decide (v.dy<0)=!decide (0<=v.dy):=by rw[<- decide_not,decide_eq_decide];omega
 have e2:decide (v.dy>=v.dg)=!decide (v.dy<v.dg):=by rw[<- decide_not,decide_eq_decide];omega
 have e3:decide (v.dg>4096)=!decide (v.dg<=4096):=by rw[<- decide_not,decide_eq_decide];omega
 have e4:(v.use !=0)=!decide (v.use=0):=by by_cases h:v.use=0<;>simp[h]
 have e5:(v.units !=0)=!decide (v.units=0):=by by_cases h:v.units=0<;>simp[h]
 rw[e1,e2,e3,e4,e5,show ay.mk v.bz v.cg v.bx v.cf=dZ v from rfl];simp only[ge_iff_le];generalize cL (dZ v)=a1;generalize decide (0<=v.dy)=a2;generalize decide (v.dy<v.dg)=a3;generalize decide (v.dg<=4096)=a4;generalize decide (v.use=0)=a5;generalize decide (v.units=0)=a6;generalize decide (0<=v.use)=a7;generalize decide (v.use<6)=a8;generalize decide (0<=v.units)=a9;generalize decide (v.units<=1048576)=gR;cases a1<;>cases a2<;>cases a3<;>cases a4<;>cases a5<;>cases a6<;>cases a7<;>cases a8<;>cases a9<;>rfl
theorem Me{v:aQ}(h:okV v=true):cL (dZ v)=true:=by rw[okV,aD]at h;exact h.1
def EI(d:bi):List aQ:=d.phases.flatMap (·.cp)
theorem Ze{l:List zm}(h:∀p∈l,p.cp.length<=1000):(l.flatMap (·.cp)).length<=l.length*1000:=by
 induction l with
 |nil=>simp
 |cons p l ih=>
  have h1:=h p (by simp);have h2:=ih λq hq=>h q (by simp[hq]);simp only[List.flatMap_cons,bW,bH];omega
def yi(d:bi):Prop:=d.phases.length<=1000/\∀p∈d.phases,p.cp.length<=1000
theorem aiy{d:bi}(h:yi d)(hn:1001<=n):sH n d 0 (d.phases.length:Int)=some (EI d):=by
 obtain⟨h1,h2⟩:=h;unfold sH;have key:=dz (step:=nE d 0 (d.phases.length:Int)) (λ i=>((i:Int),(d.phases.take i).flatMap (·.cp))) (s:=((0:Int),([]:List aQ))) d.phases.length (EI d) rfl (λ i hi=>by
  have e2:decide ((i:Int)>=0)=true:=by simp
  have hl:=Ze (l:=d.phases.take i) λp hp=>h2 p (List.mem_of_mem_take hp);rw[length_take]at hl;have hv:=h2 _ (getElem_mem hi);generalize hL:(d.phases.take i).flatMap (·.cp)=L at hl;have hap:bD L.length L.length d.phases[i].cp.length d.phases[i].cp.length 72=true:=bB (by omega) (by simp only[maxLen];omega);simp only[nE,dm hi,ai,aZ hi,ah,e2,hap,dH,aB,aR i];rw[dG hi,List.flatMap_append,hL];simp only[List.flatMap_cons,List.flatMap_nil,append_nil]) (by simp only[nE,bT,ak,aB,ai,List.take_length,EI]) n (by omega)
 have hz:bb 0 ([]:List aQ).length=true:=rfl;simp only[hz,ai,key,ah,bG,aB]
def N0(v:aQ):Int:=(kS v).getD 0
theorem Zf(v:aQ):kS v=some (N0 v):=by
 unfold N0 kS;rw[Cj];cases v.extra<;>cases okV v<;>rfl
def HX(v:aQ):Int:=(oo v).getD 0
theorem agv(v:aQ):oo v=some (HX v):=by
 unfold HX oo;rw[Cj,Zf];cases h:okV v with
 |false=>rfl
 |true=>
  have e:=TN (Me h);unfold dZ at e;simp only[ah,Bool.not_true,ak,e,Option.getD_some]
theorem apY(a0:List qI)(a1:List fH)(a2:List jG)(a3:List dL)(a4:List qJ)(a5:List jH)(a6:List eZ)(a7:Int)(a8:List ay){a9:List aQ}(hl:a9.length<=1000)(hn:1001<=n):∃r,kH n a0 a1 a2 a3 a4 a5 a6 a7 a8 a9=some (r,a0,a1,a2,a3,a4,a5,a6,a7,a8,a9):=by
 have key:=kR (l:=a9) (step:=jM a9) (λ i (s:Int)=>(s,(i:Int))) (λ v s=>i64.wrap (s+HX v)) (λ s=>s) (λ i hi s=>by simp only[jM,dm hi,ai,bS hi,eY hi,ah,agv,aR i]) (λ s=>by simp only[jM,bT,ak]) n (by omega) 0;rw[show ((0:Nat):Int)=0 from rfl]at key;unfold kH qM;simp only[key,ah,aB,ai];exact⟨_,rfl⟩
theorem apZ(a0:List qI)(a1:List fH)(a2:List jG)(a3:List dL)(a4:List qJ)(a5:List jH)(a6:List eZ)(a7:Int)(a8:List ay){a9:List aQ}(hl:a9.length<=1000)(hn:1001<=n):∃r,kI n a0 a1 a2 a3 a4 a5 a6 a7 a8 a9=some (r,a0,a1,a2,a3,a4,a5,a6,a7,a8,a9):=by
 have key:=kR (l:=a9) (step:=jP a9) (λ i (s:Int)=>(s,(i:Int))) (λ v s=>i64.wrap (s+v.units)) (λ s=>s) (λ i hi s=>by simp only[jP,dm hi,ai,bS hi,eY hi,ah,oF,aR i]) (λ s=>by simp only[jP,bT,ak]) n (by omega) 0;rw[show ((0:Nat):Int)=0 from rfl]at key;unfold kI qN;simp only[key,ah,aB,ai];exact⟨_,rfl⟩
theorem anw(a0:List qI)(a1:List fH)(a2:List jG)(a3:List dL)(a4:List qJ)(a5:List jH)(a6:List eZ)(a7:Int)(a8:List ay){a9:List aQ}(hl:a9.length<=1000)(hn:1001<=n):∃r,jN n a0 a1 a2 a3 a4 a5 a6 a7 a8 a9=some (r,a0,a1,a2,a3,a4,a5,a6,a7,a8,a9):=by
 have key:=kR (l:=a9) (step:=ic a9) (λ i (s:Int)=>(s,(i:Int))) (λ v s=>max s (N0 v)) (λ s=>s) (λ i hi s=>by simp only[ic,dm hi,ai,bS hi,eY hi,ah,Zf,aR i]) (λ s=>by simp only[ic,bT,ak]) n (by omega) 0;rw[show ((0:Nat):Int)=0 from rfl]at key;unfold jN lZ;simp only[key,ah,aB,ai];exact⟨_,rfl⟩
theorem anx(a0:List qI)(a1:List fH)(a2:List jG)(a3:List dL)(a4:List qJ)(a5:List jH)(a6:List eZ)(a7:Int)(a8:List ay){a9:List aQ}(hl:a9.length<=1000)(hn:1001<=n):∃r,jO n a0 a1 a2 a3 a4 a5 a6 a7 a8 a9=some (r,a0,a1,a2,a3,a4,a5,a6,a7,a8,a9):=by
 have key:=kR (l:=a9) (step:=ig a9) (λ i (s:Int)=>(s,(i:Int))) (λ v s=>max s v.dg) (λ s=>s) (λ i hi s=>by simp only[ig,dm hi,ai,bS hi,eY hi,ah,nH,aR i]) (λ s=>by simp only[ig,bT,ak]) n (by omega) 0;rw[show ((0:Nat):Int)=0 from rfl]at key;unfold jO l5;simp only[key,ah,aB,ai];exact⟨_,rfl⟩
theorem alm(e:bQ)(a:MU){u:Int}(h0:0<=u)(h6:u<6):∃b,kr e a u=some b:=by
 obtain⟨k,rfl⟩:∃k:Nat,u=(k:Int):=⟨u.toNat,by omega⟩;have hk:k<6:=by omega
 unfold kr;rw[bS hk,aZ (l:=[a.a0,a.a1,a.a2,a.a3,a.a4,a.a5]) hk];exact⟨_,rfl⟩
theorem Ju{l:List bQ}{φ:(bQ×Unit)->Option Bool}(p:bQ->Bool)(h:∀x∈l,φ (x,())=some (p x))(hl:l.length<=9223372036854775807)(hn:l.length<n):sW n l φ=some (sq p l):=JU p h hl hn
theorem ap0(p:gQ){u:Int}(h0:0<=u)(h6:u<6)(ht:p.tables.length<n)(ht2:p.tables.length<=9223372036854775807)(hr:∀t∈p.tables,t.rows.length<n/\t.rows.length<=9223372036854775807):∃r,Eh n p u=some r:=by
 have key:∃o,iter (ku n p u) n (0:Int)=some o/\True:=by
  have step:∀i (hi:i<p.tables.length),ku n p u (i:Int)=some (.inl ((i+1:Nat):Int))\/∃z,ku n p u (i:Int)=some (.inr (.inr z)):=by
   intro i hi;obtain⟨r1,r2⟩:=hr _ (getElem_mem hi);simp only[ku,dm hi,ai,aZ hi,ah,aR i];cases ByteArray.toList p.tables[i].name==ByteArray.toList ⟨#[116,114,97,102,102,105,99]⟩with
   |false=>exact Or.inl rfl
   |true=>
    right;simp only[Bool.not_true,ak];generalize MU.mk _ _ _ _ _ _=A;have hx:=Ju (n:=n) (l:=p.tables[i].rows) (φ:=λy1=>kr y1.1 A u) (λ e=>(kr e A u).getD false) (λ e _=>by have⟨b,hb⟩:=alm e A h0 h6;simp[hb]) r2 r1;rw[hx];simp only[ah,PT];cases hany:p.tables[i].rows.any λe=>(kr e A u).getD false with
    |false=>exact⟨_,rfl⟩
    |true=>
     have⟨j,hj,h1,_⟩:=am3 hany;rw[h1];simp only[ai,aZ hj,ah];exact⟨_,rfl⟩
  have main:∀k i m,i+k=p.tables.length->k<m->∃o,iter (ku n p u) m (i:Int)=some o/\True:=by
   intro k
   induction k with
   |zero=>
    intro i m hi hm;obtain⟨q,rfl⟩:∃q,m=q+1:=⟨m -1,by omega⟩;have:i=p.tables.length:=(by omega);subst this;exact⟨.inl (),bn (by simp only[ku,bT,ak]),trivial⟩
   |succ k ih=>
    intro i m hi hm;obtain⟨q,rfl⟩:∃q,m=q+1:=⟨m -1,by omega⟩;rcases step i (by omega)with h |⟨z,h⟩
    ·rw[dw h];exact ih (i+1) q (by omega) (by omega)
    ·exact⟨_,bn h,trivial⟩
  exact main p.tables.length 0 n (by omega) ht
 obtain⟨o,h1,_⟩:=key;unfold Eh;rw[h1];cases o with
 |inl w=>exact⟨_,rfl⟩
 |inr r=>exact⟨_,rfl⟩
theorem aiz(p:gQ){v:aQ}(hv:okV v=true)(ht:p.tables.length<n)(ht2:p.tables.length<=9223372036854775807)(hr:∀t∈p.tables,t.rows.length<n/\t.rows.length<=9223372036854775807):∃r,nS n p v=some r:=by
 simp only[okV,aD,aG]at hv;have⟨r,h1⟩:=ap0 (n:=n) p (u:=v.use) hv.2.2.2.2.2.1 hv.2.2.2.2.2.2.1 ht ht2 hr;unfold nS;rw[h1,agv];simp only[ah];have e100:((100:Int) !=0)=true:=rfl;by_cases h:r>0
 ·have e:(r !=0)=true:=by simp only[bne_iff_ne,ne_eq];omega
  have e2:decide (r>0)=true:=by simpa using h
  rw[e,e2];simp only[ai,ah,e100];cases decide (HX v>i64.wrap (Int.tdiv 109951162777600 r))<;>exact⟨_,rfl⟩
 ·have e2:decide (r>0)=false:=by simpa using h
  rw[e2];exact⟨_,rfl⟩
theorem ap3(a0:List qI)(a1:List fH)(a2:List jG)(a3:List dL)(a4:List qJ)(a5:List jH)(a6:List eZ)(a7:Int)(a8:List ay){a9:List aQ}(hl:a9.length<=1000)(hn:1001<=n)(hv:∀v∈a9,okV v=true)(ht:a1.length<n)(ht2:a1.length<=9223372036854775807)(hr:∀t∈a1,t.rows.length<n/\t.rows.length<=9223372036854775807):∃r,jy n a0 a1 a2 a3 a4 a5 a6 a7 a8 a9=some (r,a0,a1,a2,a3,a4,a5,a6,a7,a8,a9):=by
 have key:=j6 (l:=a9) (step:=jR n a9) (λ i (s:Int)=>(s,(i:Int),a0,a1,a2,a3,a4,a5,a6,a7,a8,a9)) (λ v s=>i64.wrap (s+(nS n (gQ.mk a0 a1 a2 a3 a4 a5 a6 a7) v).getD 0)) (λ s=>(s,a0,a1,a2,a3,a4,a5,a6,a7,a8,a9)) (λ _ _=>True) (λ i hi s _=>⟨by
  obtain⟨r,h1⟩:=aiz (n:=n) (gQ.mk a0 a1 a2 a3 a4 a5 a6 a7) (hv _ (getElem_mem hi)) ht ht2 hr;simp only[jR,dm hi,ai,bS hi,eY hi,ah,kz,h1,aB,aR i,Option.getD_some],trivial⟩) (λ s _=>by simp only[jR,bT,ak,aB,ai]) n (by omega) 0 trivial
 rw[show ((0:Nat):Int)=0 from rfl]at key;unfold jy qO;simp only[key,ah,aB,ai];exact⟨_,rfl⟩
theorem anz{α β:Type}(l:List α)(f:α->β)(z:β){i:Nat}(hi:i<l.length):((l.take i).map f++List.replicate (l.length -i) z).set i (f l[i])=(l.take (i+1)).map f++List.replicate (l.length -(i+1)) z:=by
 have h1:((l.take i).map f).length=i:=by simp;omega
 rw[List.set_append_right _ _ (by omega),h1,Nat.sub_self,show l.length -i=(l.length -(i+1))+1 by omega,List.replicate_succ,List.set_cons_zero,dG hi,map_append,aN];rfl
theorem anA{α β:Type}(l:List α)(f:α->β)(z:β){i:Nat}(hi:i<=l.length):((l.take i).map f++List.replicate (l.length -i) z).length=l.length:=by simp;omega
theorem anB{α β:Type}(l:List α)(f:α->β)(z:β){i:Nat}(hi:i<l.length):((l.take (i+1)).map f++List.replicate (l.length -(i+1)) z)[i]? =some (f l[i]):=by rw[List.getElem?_append_left (by simp;omega)];simp[hi]
theorem anC{l:List aQ}(hl:l.length<=1000)(hn:1001<=n):iter (gm l) n ((0:Int),List.replicate l.length (ay.mk 0 0 0 0),([]:List Int))=some (l.map dZ,l.flatMap λv=>[v.bz,v.bx]):=by
 refine dz (step:=gm l) (λ i=>((i:Int),(l.take i).map dZ++List.replicate (l.length -i) (ay.mk 0 0 0 0),(l.take i).flatMap λv=>[v.bz,v.bx])) l.length _ ?_ (λ i hi=>?_) ?_ n (by omega)
 ·simp
 ·have h1:=anA l dZ (ay.mk 0 0 0 0) (Nat.le_of_lt hi);have h2:=anz l dZ (ay.mk 0 0 0 0) hi;have h3:=anB l dZ (ay.mk 0 0 0 0) hi;have h4:((l.take i).flatMap λv=>[v.bz,v.bx]).length=2*i:=by
   have:∀m:List aQ,(m.flatMap λv=>[v.bz,v.bx]).length=2*m.length:=by
    intro m;induction m with
    |nil=>rfl
    |cons a m ih=>simp only[List.flatMap_cons,bW,ih,bH,length_nil];omega
   rw[this,length_take];omega
  generalize (l.take i).map dZ++List.replicate (l.length -i) (ay.mk 0 0 0 0)=B at h1 h2;have e0:(((0:Nat):Int)+(i:Int)).toNat=i:=by omega
  have et:((l.length:Int):Int).toNat=l.length:=by omega
  have hb:ay.mk l[i].bz l[i].cg l[i].bx l[i].cf=dZ l[i]:=rfl;have hiB:i<B.length:=by omega
  rw[<- h2]at h3;have g3:bh (B.set i (dZ l[i])) (((0:Nat):Int)+(i:Int))=some (dZ l[i]):=by rw[iT];exact h3
  have hs:sub ([(dZ l[i]).x0,(dZ l[i]).x1]:List Int) 0 2=[(dZ l[i]).x0,(dZ l[i]).x1]:=rfl;have hap:bD (2*i) (2*i) 2 2 8=true:=bB (by omega) (by simp only[maxLen];omega);have hl2:([(dZ l[i]).x0,(dZ l[i]).x1]:List Int).length=2:=rfl;simp only[gm,dm hi,ai,bS hi,eY hi,ah,et,eY hiB,e0,hb,g3,hs,hl2,h4,hap,dH,aB,aR i];rw[<- h2,dG hi,List.flatMap_append];rfl
 ·simp only[gm,bT,ak,aB,ai,List.take_length];simp
theorem anD{l:List aQ}{R:List ay}{X:List Int}(w2:List Int)(hR:R.length=l.length)(hX:X.length=w2.length)(hl:l.length<=1000)(hn:1001<=n){k:Nat}(hk:k+1<w2.length)(hw:w2.length<=10000)(s:Int):∃o,iter (ji l w2 R X (k:Int)) n (s,(0:Int),(0:Int))=some o/\True:=by
 refine Rh (λ i (v:Int×Int×Int)=>v.2.2=(i:Int)) l.length (λ _=>True) (λ i v hi hv=>?_) (λ v hv=>?_) n (by omega) _ rfl
 ·obtain⟨a,b,c⟩:=v;simp only at hv;subst hv;have et:(((l.length:Int):Int).toNat)=l.length:=by omega
  have ew:i64.wrap ((k:Int)+1)=((k+1:Nat):Int):=aO (by omega);simp only[ji,et,dm hi,ai,bS hi,eY (show i<R.length by omega),ah,bS (show k<w2.length by omega),eY (show k<X.length by omega),ew,bS hk,eY (show k+1<X.length by omega),aR i];cases decide ((R[i]'(by omega)).x0<=X[k]'(by omega))with
  |false=>exact⟨_,rfl,rfl⟩
  |true=>
   simp only[ai,ah];cases decide (X[k]'(by omega)<(R[i]'(by omega)).x1)with
   |false=>exact⟨_,rfl,rfl⟩
   |true=>
    simp only[ai,ah];cases decide ((R[i]'(by omega)).y1>b)<;>exact⟨_,rfl,rfl⟩
 ·obtain⟨a,b,c⟩:=v;simp only at hv;subst hv;have et:(((l.length:Int):Int).toNat)=l.length:=by omega
  simp only[ji,et,bT,ak];exact⟨_,rfl,trivial⟩
theorem anE(a0:List qI)(a1:List fH)(a2:List jG)(a3:List dL)(a4:List qJ)(a5:List jH)(a6:List eZ)(a7:Int)(a8:List ay){a9:List aQ}(hl:a9.length<=1000)(hn:10000<=n):∃r,iW n a0 a1 a2 a3 a4 a5 a6 a7 a8 a9=some (r,a0,a1,a2,a3,a4,a5,a6,a7,a8,a9):=by
 have et:(((a9.length:Int):Int).toNat)=a9.length:=by omega
 have mk:J9 (a9.length:Int) 32=true:=Rr (by omega) (by simp only[maxLen];omega);have d1:decide ((a9.length:Int)<=(a9.length:Int))=true:=by simp
 have d2:decide (0<=(a9.length:Int))=true:=by simp
 have hz:bb 0 ([]:List Int).length=true:=rfl;have hx:(a9.flatMap λv=>[v.bz,v.bx]).length<=2000:=by
  have:∀m:List aQ,(m.flatMap λv=>[v.bz,v.bx]).length=2*m.length:=by
   intro m;induction m with
   |nil=>rfl
   |cons a m ih=>simp only[List.flatMap_cons,bW,ih,bH,length_nil];omega
  rw[this];omega
 unfold iW;rw[et,anC hl (by omega)];generalize (a9.flatMap λv=>[v.bz,v.bx])=W at hx;have srt:=Ns (n:=n) (l:=a9.map dZ) (φ:=λy1=>iV y1.1 y1.2.1) (λ x y=>if x.y0<y.y0 then -1 else if y.y0<x.y0 then 1 else 0) (λ x y=>by
  show iV x y=_;unfold iV;rw[BZ];rfl) (λ x y=>by
  unfold sf;rw[decide_eq_decide];constructor
  ·intro h;split at h
   ·assumption
   ·split at h<;>omega
  ·intro h;rw[aP h];decide) (by simp;omega) (by simp;omega)
 have hm:bb a9.length (a9.map dZ).length=true:=by simp
 have hR:(wz sf (a9.map dZ)).length=a9.length:=by rw[IJ aj2];simp
 have hX:(mH nr W).length=W.length:=(O7 nr W).length_eq;simp only[d1,d2,mk,Bool.and_self,ai,hz,ah,hm,srt,aB,Ca (show W.length<1099511627776 by omega) (show W.length<n by omega)];generalize wz sf (a9.map dZ)=R at hR;generalize mH nr W=X at hX;have key:∃o,iter (jk n a9 W R X) n ((0:Int),(0:Int))=some o/\True:=by
  have eN:max (0:Int) (i64.wrap ((W.length:Int) -1))=((W.length -1:Nat):Int):=by
   cases h:W.length with
   |zero=>rfl
   |succ k=>rw[iJ (by omega) (by omega)];omega
  refine Rh (λ i (v:Int×Int)=>v.2=(i:Int)) (W.length -1) (λ _=>True) (λ i v hi hv=>?_) (λ v hv=>?_) n (by omega) _ rfl
  ·obtain⟨a,b⟩:=v;simp only at hv;subst hv;obtain⟨o,ho,_⟩:=anD (n:=n) (l:=a9) (R:=R) (X:=X) W hR hX hl (by omega) (k:=i) (by omega) (by omega) a;simp only[jk,eN,dm hi,ai,ho,ah,aR i];exact⟨_,rfl,rfl⟩
  ·obtain⟨a,b⟩:=v;simp only at hv;subst hv;simp only[jk,eN,bT,ak];exact⟨_,rfl,trivial⟩
 obtain⟨o,ho,_⟩:=key;rw[ho];exact⟨o,rfl⟩
def pM(b:ay)(k:Int):ay:=⟨b.x0 -k,b.y0 -k,b.x1+k,b.y1+k⟩
def mE(area:List ay)(b:ay)(k:Int):Bool:=cL (pM b k)&&decide (area.foldl (λ s y=>sR (pM b k) s y) 0=JX (pM b k))
theorem aln(b:ay)(k:Int)(a2:List qI)(a3:List fH)(a4:List jG)(a5:List dL)(a6:List qJ)(a7:List jH)(a8:List eZ)(a9:Int){gR:List ay}(pn:List aQ)(hb:cL b=true)(h0:0<=k)(h1:k<=1048576)(hl:gR.length<=1000)(hn:1001<=n):
 jQ n b k a2 a3 a4 a5 a6 a7 a8 a9 gR pn=some (mE gR b k,a2,a3,a4,a5,a6,a7,a8,a9,gR,pn):=by
 rw[sO]at hb;unfold jQ Ff mE;rw[cB (x:=b.x0 -k),cB (x:=b.y0 -k),cB (x:=b.x1+k),cB (x:=b.y1+k),show ay.mk (b.x0 -k) (b.y0 -k) (b.x1+k) (b.y1+k)=pM b k from rfl,nN];generalize pM b k=g;simp only[ah];cases hg:cL g with
 |false=>simp only[Bool.not_false,ai,aB,Bool.false_and]
 |true=>
  have key:=kR (l:=gR) (step:=iU gR (g,true)) (λ i (s:Int)=>(s,(i:Int))) (λ y s=>sR g s y) (λ s=>s) (λ i hi s=>by
   simp only[iU,dm hi,ai,aZ hi,ah,Y1,aR i,sR];cases h1:cL g with
   |false=>rfl
   |true=>
    cases h2:cL gR[i]with
    |false=>rfl
    |true=>
     cases h3:cL (oM g gR[i])with
     |false=>rfl
     |true=>simp only[Bool.and_self,ai,TN h3,ah]) (λ s=>by simp only[iU,bT,ak]) n (by omega) 0
  rw[show ((0:Nat):Int)=0 from rfl]at key;simp only[Bool.not_true,ak,key,ah,TN hg,aB,ai,Bool.true_and];congr 2
def zG(p:Int->Bool):Nat->Int->Int->Int
 | 0,lo,_=>lo
 |k+1,lo,hi=>bif decide (lo<hi)then(bif p ((lo+hi+1)/2)then zG p k ((lo+hi+1)/2) hi else zG p k lo ((lo+hi+1)/2 -1))else lo
theorem Rx(p:Int->Bool):∀k lo hi,lo<=hi->lo<=zG p k lo hi/\zG p k lo hi<=hi
 | 0,lo,hi,h=>by simp only[zG];omega
 |k+1,lo,hi,h=>by
  simp only[zG];by_cases h1:lo<hi
  ·have e:decide (lo<hi)=true:=(by simpa using h1);rw[e,ai];cases p ((lo+hi+1)/2)with
   |true=>have:=Rx p k ((lo+hi+1)/2) hi (by omega);simp only[ai];omega
   |false=>have:=Rx p k lo ((lo+hi+1)/2 -1) (by omega);simp only[ak];omega
  ·have e:decide (lo<hi)=false:=(by simpa using h1);rw[e,ak];omega
theorem Ud(p:Int->Bool):∀(k:Nat) lo hi,lo<=hi->hi -lo<2 ^ k->(zG p k lo hi=lo\/p (zG p k lo hi)=true)/\(zG p k lo hi=hi\/p (zG p k lo hi+1)=false)
 | 0,lo,hi,h,h2=>by simp only[zG];exact⟨Or.inl trivial,Or.inl (by simp at h2;omega)⟩
 |k+1,lo,hi,h,h2=>by
  simp only[zG];by_cases h1:lo<hi
  ·have e:decide (lo<hi)=true:=(by simpa using h1);rw[e,ai];have hp:(2:Int) ^ (k+1)=2*2 ^ k:=(by rw[Int.pow_succ];omega);generalize (2:Int) ^ k=P at hp;rw[hp]at h2;cases hm:p ((lo+hi+1)/2)with
   |true=>
    obtain⟨a,b⟩:=Ud p k ((lo+hi+1)/2) hi (by omega) (by omega);simp only[ai];refine⟨Or.inr ?_,b⟩;rcases a with a |a
    ·rw[a];exact hm
    ·exact a
   |false=>
    obtain⟨a,b⟩:=Ud p k lo ((lo+hi+1)/2 -1) (by omega) (by omega);simp only[ak];refine⟨a,Or.inr ?_⟩;rcases b with b |b
    ·rw[b,show(lo+hi+1)/2 -1+1=(lo+hi+1)/2 by omega];exact hm
    ·exact b
  ·have e:decide (lo<hi)=false:=(by simpa using h1);rw[e,ak];exact⟨Or.inl rfl,Or.inl (by omega)⟩
theorem aiA{v:aQ}(hv:cL (dZ v)=true)(a2:List qI)(a3:List fH)(a4:List jG)(a5:List dL)(a6:List qJ)(a7:List jH)(a8:List eZ)(a9:Int){gR:List ay}(pn:List aQ)(hl:gR.length<=1000)(hn:1001<=n):
 ∀(k:Nat) lo hi m,0<=lo->lo<=hi->hi<=1048576->hi -lo<2 ^ k->k<m->iter (fC n v) m (lo,hi,a2,a3,a4,a5,a6,a7,a8,a9,gR,pn)=some (zG (mE gR (dZ v)) k lo hi,a2,a3,a4,a5,a6,a7,a8,a9,gR,pn):=by
 intro k
 induction k with
 |zero=>
  intro lo hi m h0 h1 h2 h3 hm;obtain⟨q,rfl⟩:∃q,m=q+1:=⟨m -1,by omega⟩;have:lo=hi:=by simp at h3;omega
  subst this;refine bn ?_;have e:decide (lo<lo)=false:=by simp
  simp only[fC,e,ak,aB,ai,zG]
 |succ k ih=>
  intro lo hi m h0 h1 h2 h3 hm;obtain⟨q,rfl⟩:∃q,m=q+1:=⟨m -1,by omega⟩;have hp:(2:Int) ^ (k+1)=2*2 ^ k:=by rw[Int.pow_succ];omega
  rw[hp]at h3;by_cases hlt:lo<hi
  ·have e:decide (lo<hi)=true:=(by simpa using hlt);have e2:((2:Nat) !=0)=true:=rfl;have em:i64.wrap (Int.tdiv (i64.wrap (i64.wrap (lo+hi)+1)) 2)=(lo+hi+1)/2:=(by rw[cB (x:=lo+hi),cB (x:=lo+hi+1),Int.tdiv_eq_ediv_of_nonneg (by omega),cB (by omega) (by omega)]);have hi2:=aln (n:=n) (dZ v) ((lo+hi+1)/2) a2 a3 a4 a5 a6 a7 a8 a9 (gR:=gR) pn hv (by omega) (by omega) hl hn;unfold dZ at hi2;cases hc:mE gR (dZ v) ((lo+hi+1)/2)with
   |true=>
    rw[dw (v':=((lo+hi+1)/2,hi,a2,a3,a4,a5,a6,a7,a8,a9,gR,pn)) (by
     unfold dZ at hc;simp only[fC,e,ai,e2,aB,em,hi2,ah,hc]),ih _ _ _ (by omega) (by omega) (by omega) (by omega) (by omega)]
    simp only[zG,e,ai,hc]
   |false=>
    rw[dw (v':=(lo,(lo+hi+1)/2 -1,a2,a3,a4,a5,a6,a7,a8,a9,gR,pn)) (by
     unfold dZ at hc;simp only[fC,e,ai,e2,aB,em,hi2,ah,hc,ak,cB (x:=(lo+hi+1)/2 -1)]),ih _ _ _ (by omega) (by omega) (by omega) (by omega) (by omega)]
    simp only[zG,e,ai,hc,ak]
  ·have e:decide (lo<hi)=false:=(by simpa using hlt);refine bn ?_;simp only[fC,e,ak,aB,ai,zG]
def nY(area:List ay)(l:List aQ):Int:=l.foldl (λ b v=>zG (mE area (dZ v)) 21 0 b) 1048576
theorem agx(area:List ay)(l:List aQ):0<=nY area l/\nY area l<=1048576:=by
 have:∀(l:List aQ)(b:Int),0<=b->b<=1048576->0<=l.foldl (λ b v=>zG (mE area (dZ v)) 21 0 b) b/\l.foldl (λ b v=>zG (mE area (dZ v)) 21 0 b) b<=1048576:=by
  intro l
  induction l with
  |nil=>intro b h1 h2;exact⟨h1,h2⟩
  |cons v l ih=>intro b h1 h2;have:=Rx (mE area (dZ v)) 21 0 b h1;exact ih _ this.1 (Int.le_trans this.2 h2)
 exact this l _ (by omega) (by omega)
theorem aiB(a0:List qI)(a1:List fH)(a2:List jG)(a3:List dL)(a4:List qJ)(a5:List jH)(a6:List eZ)(a7:Int){a8:List ay}{a9:List aQ}(hv:∀v∈a9,okV v=true)(hl:a9.length<=1000)(h8:a8.length<=1000)(hn:1001<=n):jw n a0 a1 a2 a3 a4 a5 a6 a7 a8 a9=some (nY a8 a9,a0,a1,a2,a3,a4,a5,a6,a7,a8,a9):=by
 have key:=j6 (l:=a9) (step:=iD n a9) (λ i (s:Int)=>(s,(i:Int),a0,a1,a2,a3,a4,a5,a6,a7,a8,a9)) (λ v s=>zG (mE a8 (dZ v)) 21 0 s) (λ s=>(s,a0,a1,a2,a3,a4,a5,a6,a7,a8,a9)) (λ _ s=>0<=s/\s<=1048576) (λ i hi s hs=>by
  have h1:=aiA (n:=n) (Me (hv _ (getElem_mem hi))) a0 a1 a2 a3 a4 a5 a6 a7 (gR:=a8) a9 h8 hn 21 0 s n (by omega) hs.1 hs.2 (by have:(2:Int) ^ 21=2097152:=rfl;omega) (by omega);have h2:=Rx (mE a8 (dZ a9[i])) 21 0 s hs.1;refine⟨?_,by omega,by omega⟩;simp only[iD,dm hi,ai,bS hi,eY hi,ah,aB,h1,aR i]) (λ s _=>by simp only[iD,bT,ak,aB,ai]) n (by omega) 1048576 (by omega)
 rw[show ((0:Nat):Int)=0 from rfl]at key;unfold jw;simp only[aB,ai,key,ah];rfl
def dV(d:bi):List aQ:=((EI d).take 40).filter okV
theorem Jv(d:bi):∀v∈dV d,okV v=true:=λv hv=>(List.mem_filter.1 hv).2
theorem Ol(d:bi):(dV d).length<=40:=Nat.le_trans (length_filter_le _ _) (by rw[length_take];omega)
def kF(lot:fU):List ay:=bif cD lot.area then lot.area else []
theorem aqI{l:List aQ}(a0:List qI)(a1:List fH)(a2:List jG)(a3:List dL)(a4:List qJ)(a5:List jH)(a6:List eZ)(a7:Int)(a8:List ay)(hl:l.length<=9223372036854775807)(hn:l.length<n):
 iter (rH l) n ((0:Int),a0,a1,a2,a3,a4,a5,a6,a7,a8,([]:List aQ))=some (a0,a1,a2,a3,a4,a5,a6,a7,a8,(l.take 40).filter okV):=by
 refine dz (step:=rH l) (λ i=>((i:Int),a0,a1,a2,a3,a4,a5,a6,a7,a8,((l.take i).take 40).filter okV)) l.length _ (by simp) (λ i hi=>?_) ?_ n hn
 ·have hlen:(((l.take i).take 40).filter okV).length<=40:=Nat.le_trans (length_filter_le _ _) (by rw[length_take];omega);have e40:decide ((i:Int)<40)=decide (i<40):=by rw[decide_eq_decide];omega
  have hs:sub ([l[i]]:List aQ) 0 1=[l[i]]:=rfl;have hN:((l.take (i+1)).take 40).filter okV=((l.take i).take 40).filter okV++(bif decide (i<40)&&okV l[i]then [l[i]]else []):=by
   by_cases h:i<40
   ·have h1:(l.take i).take 40=l.take i:=take_of_length_le (by rw[length_take];omega);have h2:(l.take (i+1)).take 40=l.take (i+1):=take_of_length_le (by rw[length_take];omega);have h3:decide (i<40)=true:=(by simpa using h);rw[h1,h2,dG hi,filter_append,h3];cases h4:okV l[i]<;>simp[h4]
   ·have h3:decide (i<40)=false:=(by simpa using h);rw[List.take_take,List.take_take,h3,show min 40 (i+1)=40 by omega,show min 40 i=40 by omega];simp
  rw[hN];generalize ((l.take i).take 40).filter okV=L at hlen;have hap:bD L.length L.length 1 1 72=true:=bB (by omega) (by simp only[maxLen];omega);simp only[rH,dm hi,ai,bS hi,eY hi,ah,e40,Cj,aR i];cases decide (i<40)with
  |false=>simp only[ak,ah,aB,ai,Bool.false_and,append_nil]
  |true=>
   simp only[ai,ah,Bool.true_and];cases okV l[i]with
   |false=>simp only[ak,aB,ai,ah,append_nil]
   |true=>simp only[ai,hs,length_singleton,hap,dH,aB,ah]
 ·simp only[rH,bT,ak,aB,ai,List.take_length]
def HW(n:Nat)(p:gQ):Prop:=p.tables.length<n/\p.tables.length<=9223372036854775807/\∀t∈p.tables,t.rows.length<n/\t.rows.length<=9223372036854775807
def alo:ByteArray:=⟨#[115,101,116,98,97,99,107]⟩
theorem aqJ{p:gQ}{lot:fU}{d:bi}(hp:HW n p)(hl:lot.area.length<=900)(hd:yi d)(hn:2000000<=n):∃e1 e2 e3 e4 e5 e6 e7 e8:Int,IW n p lot d=some [⟨⟨#[97,114,101,97]⟩,e1⟩,⟨⟨#[99,111,118,101,114]⟩,e2⟩,⟨⟨#[102,108,111,111,114]⟩,e3⟩,⟨⟨#[102,108,111,111,114,115]⟩,e4⟩,⟨⟨#[104,101,105,103,104,116]⟩,e5⟩,⟨⟨#[104,111,109,101,115]⟩,e6⟩,⟨⟨#[114,117,110,111,102,102]⟩,e7⟩,⟨alo,nY (kF lot) (dV d)⟩,⟨⟨#[116,114,97,102,102,105,99]⟩,e8⟩]:=by
 have hs1:kF lot=(bif cD lot.area then lot.area else []):=rfl;have hsl:(kF lot).length<=900:=by unfold kF;cases cD lot.area<;>simp[hl]
 have hvl:=Ol d;have z5:=Jv d;have hfl:=Ze hd.2;have hd1:=hd.1;obtain⟨hp1,hp2,hp3⟩:=hp;have hz:bb 0 ([]:List aQ).length=true:=rfl;have C0:((bif cD lot.area then some (p.defs,p.tables,p.zones,p.rules,p.caps,p.views,p.ot,p.hours,lot.area)else some (p.defs,p.tables,p.zones,p.rules,p.caps,p.views,p.ot,p.hours,([]:(List ay)))):Option ((List qI)×(List fH)×(List jG)×(List dL)×(List qJ)×(List jH)×(List eZ)×Int×(List ay)))=some (p.defs,p.tables,p.zones,p.rules,p.caps,p.views,p.ot,p.hours,kF lot):=by rw[hs1];cases cD lot.area<;>rfl
 obtain⟨e2,h2⟩:=anE (n:=n) p.defs p.tables p.zones p.rules p.caps p.views p.ot p.hours (kF lot) (a9:=dV d) (by omega) (by omega);obtain⟨e3,h3⟩:=apY (n:=n) p.defs p.tables p.zones p.rules p.caps p.views p.ot p.hours (kF lot) (a9:=dV d) (by omega) (by omega);obtain⟨e4,h4⟩:=anw (n:=n) p.defs p.tables p.zones p.rules p.caps p.views p.ot p.hours (kF lot) (a9:=dV d) (by omega) (by omega);obtain⟨e5,h5⟩:=anx (n:=n) p.defs p.tables p.zones p.rules p.caps p.views p.ot p.hours (kF lot) (a9:=dV d) (by omega) (by omega);obtain⟨e6,h6⟩:=apZ (n:=n) p.defs p.tables p.zones p.rules p.caps p.views p.ot p.hours (kF lot) (a9:=dV d) (by omega) (by omega);have h8:=aiB (n:=n) p.defs p.tables p.zones p.rules p.caps p.views p.ot p.hours (a8:=kF lot) (a9:=dV d) z5 (by omega) (by omega) (by omega);obtain⟨e9,h9⟩:=ap3 (n:=n) p.defs p.tables p.zones p.rules p.caps p.views p.ot p.hours (kF lot) (a9:=dV d) (by omega) (by omega) z5 hp1 hp2 hp3;refine⟨bif cD (kF lot)then Rf (kF lot)else 0,e2,e3,e4,e5,e6,e2,e9,?_⟩;unfold IW;rw[Ez (by omega) (by omega) (by omega),aiy hd (by omega)];simp only[ah,C0,hz,ai];rw[aqI (n:=n) p.defs p.tables p.zones p.rules p.caps p.views p.ot p.hours (kF lot) (by show(EI d).length<=_;unfold EI;omega) (by show(EI d).length<_;unfold EI;omega)];have hr:((EI d).take 40).filter okV=dV d:=rfl;have s1:∀e:bQ,sub ([e]:List bQ) 0 1=[e]:=λ_=>rfl;have ap:∀k,k<=20->bD k k 1 1 24=true:=λk hk=>bB (by omega) (by simp only[maxLen];omega);have lot:mg n p.defs p.tables p.zones p.rules p.caps p.views p.ot p.hours (kF lot) (dV d)=some (bif cD (kF lot)then Rf (kF lot)else 0,p.defs,p.tables,p.zones,p.rules,p.caps,p.views,p.ot,p.hours,kF lot,dV d):=by
  unfold mg;rw[aid (by omega) (by omega)];simp only[ah,aB,ai]
 simp only[hr,ah,aB,ai,lot,s1,length_singleton,ap 0 (by omega),dH,h2,ap 1 (by omega),bW,ap 2 (by omega),h3,ap 3 (by omega),h4,ap 4 (by omega),h5,ap 5 (by omega),h6,ap 6 (by omega),h8,ap 7 (by omega),h9,ap 8 (by omega),Nat.reduceAdd,Nat.zero_add,bG];rfl
theorem acF:∀x:List UInt8,Op.bytesLess x x=false
 |[]=>rfl
 |a::x=>by rw[Op.bytesLess,acF x];simp
theorem Zg:∀x y z:List UInt8,Op.bytesLess x y=true->Op.bytesLess y z=true->Op.bytesLess x z=true
 |_,_,[],_,h=>by cases h':(‹List UInt8›)<;>simp_all [Op.bytesLess]
 |_,[],_::_,h,_=>by simp[Op.bytesLess]at h
 |[],_::_,_::_,_,_=>rfl
 |a::x,b::y,c::z,h1,h2=>by
  simp only[Op.bytesLess,Bool.or_eq_true,aG,aD,beq_iff_eq]at h1 h2 ⊢;rcases h1 with h1 |⟨rfl,h1⟩
  ·rcases h2 with h2 |⟨rfl,_⟩
   ·exact Or.inl (UInt8.lt_trans h1 h2)
   ·exact Or.inl h1
  ·rcases h2 with h2 |⟨rfl,h2⟩
   ·exact Or.inl h2
   ·exact Or.inr ⟨rfl,Zg x y z h1 h2⟩
theorem O2:∀x y:List UInt8,Op.bytesLess x y=false->Op.bytesLess y x=false->x=y
 |[],[],_,_=>rfl
 |[],_::_,h,_=>by simp[Op.bytesLess]at h
 |_::_,[],_,h=>by simp[Op.bytesLess]at h
 |a::x,b::y,h1,h2=>by
  simp only[Op.bytesLess,Bool.or_eq_false_iff,dn,Bool.and_eq_false_iff,beq_eq_false_iff_ne]at h1 h2;have:a=b:=UInt8.le_antisymm (UInt8.not_lt.1 h2.1) (UInt8.not_lt.1 h1.1);subst this;rw[O2 x y (h1.2.resolve_left (by simp)) (h2.2.resolve_left (by simp))]
theorem GY:Go.Sort.SWO D8 where
 irrefl x:=acF _
 trans x y z h1 h2:=Zg _ _ _ h1 h2
 ntrans x y z h1 h2:=by
  unfold D8 at*;cases h:Op.bytesLess x.toList z.toList with
  |false=>rfl
  |true=>
   cases h3:Op.bytesLess z.toList y.toList with
   |true=>rw[Zg _ _ _ h h3]at h1;cases h1
   |false=>rw[O2 _ _ h2 h3,h]at h1;cases h1
theorem Pj(a b:ByteArray):cmp_Less_string a b=some (D8 a b):=by
 have h:(a.toList==a.toList)=true:=by simp
 unfold cmp_Less_string cmp_isNaN_string;rw[h];rfl
theorem Vm(n:Nat):∀m,fM n m=fT cmp_Less_string (λ r=>r) aY bg n m
 | 0=>rfl
 |m+1=>by
  show ko n (fM n m)=jc cmp_Less_string (λ r=>r) aY bg n (fT cmp_Less_string (λ r=>r) aY bg n m);rw[Vm n m];generalize fT cmp_Less_string (λ r=>r) aY bg n m=rc
  kernel_rfl
theorem Ry{l:List ByteArray}(hl:l.length<1099511627776)(hn:l.length<n):uM n l=some (wz D8 l):=by
 unfold uM lX;rw[oh (by omega),yS (by omega),Vm];simp only[ah,aB,ai];rw[uI (lt:=D8) GY (f:=D8) (q:=λr=>r) Pj (λ _ _=>rfl) HJ HI (by omega) hn hn];rfl
def rk(x y:ByteArray):Bool:=!(x.toList==y.toList)
theorem Mf{l:List ByteArray}(hl:l.length<1099511627776)(hn:l.length<n):oH n l=some ((),QC rk l):=by
 have e:oH n l=Tq (λ x y=>x.toList==y.toList) (λ x y=>!(x.toList==y.toList)) n l:=by kernel_rfl
 rw[e];exact Oa (ne:=rk) (λ x y=>by simp[rk]) hl hn
def VN:List (List UInt8)->Nat
 |[]=>0
 |x::l=>VN l+(if x∈l then 0 else 1)
theorem Zh:∀l:List (List UInt8),∃k:List (List UInt8),k.Nodup/\k.length=VN l/\∀z,z∈k↔z∈l
 |[]=>⟨[],List.nodup_nil,rfl,λ_=>Iff.rfl⟩
 |x::l=>by
  have⟨k,h1,h2,h3⟩:=Zh l;by_cases h:x∈l
  ·exact⟨k,h1,by simp only[VN,aP h];omega,λz=>by rw[h3,aK];constructor;exact Or.inr;rintro (rfl |h');exact h;exact h'⟩
  ·exact⟨x::k,List.nodup_cons.2 ⟨λ h'=>h ((h3 x).1 h'),h1⟩,by simp only[VN,aM h,bH];omega,λz=>by rw[aK,aK,h3]⟩
theorem Fp{α:Type}[DecidableEq α]:∀(l m:List α),l.Nodup->(∀ x∈l,x∈m)->l.length<=m.length
 |[],_,_,_=>Nat.zero_le _
 |x::l,m,h,hm=>by
  rw[List.nodup_cons]at h;have hx:=hm x (by simp);have h1:=Fp l (m.erase x) h.2 (λ y hy=>(List.mem_erase_of_ne (by rintro rfl;exact h.1 hy)).2 (hm y (by simp[hy])));have h2:=List.length_erase_of_mem hx;have h3:=List.length_pos_of_mem hx;simp only[bH];omega
theorem Zi{l m:List (List UInt8)}(h:∀z,z∈l↔z∈m):VN l=VN m:=by
 have⟨k,a1,a2,a3⟩:=Zh l;have⟨j,b1,b2,b3⟩:=Zh m;have h1:=Fp k j a1 λx hx=>(b3 x).2 ((h x).1 ((a3 x).1 hx));have h2:=Fp j k b1 λx hx=>(a3 x).2 ((h x).2 ((b3 x).1 hx));omega
theorem anF(x y:ByteArray)(l:List ByteArray):(QC rk (x::y::l)).length=(QC rk (y::l)).length+(if x.toList=y.toList then 0 else 1):=by
 simp only[QC,foldl_cons,bH,uj];by_cases h:x.toList=y.toList
 ·have:rk y x=false:=by simp[rk,h]
  rw[this,aP h];rfl
 ·have:rk y x=true:=by simp only[rk,Bool.not_eq_true',beq_eq_false_iff_ne];exact λh'=>h h'.symm
  rw[this,aM h,QD];simp only[ai,bI,bW,length_singleton];omega
theorem agy:∀l:List ByteArray,l.Pairwise (λ x y=>D8 y x=false)->(QC rk l).length=VN (l.map ByteArray.toList)
 |[],_=>rfl
 |[x],_=>rfl
 |x::y::l,h=>by
  rw[pairwise_cons]at h;rw[anF,agy (y::l) h.2];show _=VN ((y::l).map ByteArray.toList)+_;congr 1;by_cases e:x.toList=y.toList
  ·rw[aP e,aP (by rw[e];simp)]
  ·rw[aM e,aM];rw[mem_map];rintro⟨z,hz,hzx⟩;rcases aK.1 hz with rfl |hz'
   ·exact e hzx.symm
   ·have h1:=(pairwise_cons.1 h.2).1 z hz';have h2:=h.1 y (by simp);unfold D8 at h1 h2;rw[hzx]at h1;exact e (O2 _ _ h1 h2)
def gX(am:List ByteArray):Nat:=VN (am.map ByteArray.toList)
theorem aiD(am:List ByteArray):(QC rk (wz D8 am)).length=gX am:=by
 rw[agy _ (II GY am)];refine Zi λz=>?_;rw[mem_map,mem_map];constructor
 ·rintro⟨a,h1,h2⟩;exact⟨a,(BF GY am).mem_iff.1 h1,h2⟩
 ·rintro⟨a,h1,h2⟩;exact⟨a,(BF GY am).mem_iff.2 h1,h2⟩
theorem agz(hn:400<=n)(os:List aU)(hl:os.length<n)(hl2:os.length<9223372036854775807):Ae n os=some (os.all l8&&decide (os.length<=12)):=by
 unfold Ae;have h:=fV (l:=os) (step:=sG n os) (λ o=>!l8 o) () false (λ i hi=>by
  have hc:(bb ix.l.length 144&&ja 0 ix.l.length (List.replicate 144 false).length)=true:=by rw[ql];exact lM (λ _ _=>false) (λ _ _=>false)
  have hg:(bb (iH (io os[i])).l.length 144&&ja 0 (iH (io os[i])).l.length (List.replicate 144 false).length)=true:=by rw[ql];exact lM _ (λ _ _=>false)
  simp only[sG,dm hi,ai,aZ hi,ah,GR (n:=n) hn,aR i];unfold l8;cases gq os[i]&&!(Pf os[i])with
  |true=>simp only[ai,hg,Bool.not_true,ak]
  |false=>simp only[ak,hc,ai,Bool.not_false,Option.map_some]) (by simp only[sG,bT,ak]) n hl
 rw[h];have e:(os.any λo=>!l8 o)=!(os.all l8):=by rw[List.all_eq_not_any_not,Bool.not_not]
 have d:decide ((os.length:Int)<=12)=decide (os.length<=12):=by rw[decide_eq_decide];omega
 rw[e,d];cases os.all l8<;>rfl
structure Vn(n:Nat)(t:gU)(d:bi):Prop where
 lots:∀l∈t.land,sL l
 land:t.land.length<=100
 tabs:HW n (gQ.mk t.cy t.bu t.b9 t.bp t.c9 t.cT t.dt t.cU)
 few:yi d
def Nu(t:gU)(d:bi):fU:=(cu t.land d.lot).1
def EJ(t:gU)(d:bi)(am:List ByteArray):List Int:=[((gX am:Nat):Int),nY (kF (Nu t d)) (dV d),(((Oh t.land d.lot 10).length:Nat):Int),(((Nu t d).area.length:Nat):Int)]
theorem aiE{t:gU}{d:bi}(h:Vn n t d)(hn:2000000<=n):qb n t (Nu t d) d=some (nY (kF (Nu t d)) (dV d)):=by
 have hw:=Na h.lots d.lot;have⟨e1,e2,e3,e4,e5,e6,e7,e8,he⟩:=aqJ (n:=n) h.tabs (lot:=Nu t d) hw.1 h.few hn;unfold qb;rw[he];simp only[ah];obtain⟨m,rfl⟩:∃m,n=m+20:=⟨n -20,by omega⟩;generalize nY (kF (Nu t d)) (dV d)=S;show _=_
 kernel_rfl
theorem aaH{am:List ByteArray}(hn:200000<=n)(hl:am.length<=100000):l9 n am=some ((gX am:Nat):Int):=by
 unfold l9 qK qL o9;have hs:AG am=some (am,am):=by unfold AG;rw[Nat.ble_eq_true_of_le (by omega)];rfl
 have h1:(wz D8 am).length=am.length:=IJ GY am;simp only[ah,hs,aB,ai,Ry (n:=n) (l:=am) (by omega) (by omega),h1];rw[Mf (by omega) (by omega)];simp only[ah,aiD]
theorem Pk{t:gU}{d:bi}(h:Vn n t d)(hn:2000000<=n){am:List ByteArray}(hl:am.length<=100000):mJ n t d am=some (EJ t d am):=by
 have hF:=ale (n:=n) (id:=d.lot) h.lots (by have:=h.land;omega) (by have:=h.land;omega);have hN:=aif (n:=n) (d:=10) (λ l hl=>(h.lots l hl).1) hF h.land (by omega);have hS:mh n t (cu t.land d.lot).1 d=some (nY (kF (Nu t d)) (dV d)):=by
  unfold mh;rw[show (cu t.land d.lot).1=Nu t d from rfl,aiE h hn];rfl
 have h3:mq n t d=some (((Oh t.land d.lot 10).length:Nat):Int):=by unfold mq;rw[hN];rfl
 have h4:qP (cu t.land d.lot).1=some (((Nu t d).area.length:Nat):Int):=rfl;have mk:(decide ((4:Int)<=4)&&(decide ((0:Int)<=4)&&J9 4 8))=true:=by kernel_rfl
 unfold mJ EJ;rw[hF];simp only[ah,mk,ai,aaH (n:=n) (am:=am) (by omega) hl,hS,h3,h4];generalize ((gX am:Nat):Int)=A;generalize nY (kF (Nu t d)) (dV d)=B;generalize (((Oh t.land d.lot 10).length:Nat):Int)=C;generalize (((Nu t d).area.length:Nat):Int)=D;show _=_
 kernel_rfl
def cH:aU:=aU.mk 3 [ny.mk 0 1,ny.mk 1 2]
theorem aoS:QL=some cH:=by kernel_rfl
theorem OS(a b:Nat):eO cH a b=true↔(a=0/\b=1)\/(a=1/\b=2):=by
 simp only[eO,cH,List.any_cons,List.any_nil,Bool.or_false,Bool.or_eq_true,aD,aG];omega
theorem XN{a b:Nat}(h:Tc (eO cH) a b):a<b/\b<3:=by
 induction h with
 |one _ _ h=>have:=(OS _ _).1 h;omega
 |trans _ _ h1 h2=>omega
theorem anG:Pf cH=false:=by
 cases h:Pf cH with
 |false=>rfl
 |true=>have⟨a,ha⟩:=Rs.1 h;have:=XN ha;omega
theorem Xs:l8 cH=true:=by
 unfold l8;rw[anG]
 kernel_rfl
def R3:List (List Bool):=[[true,true,true],[false,true,true],[false,false,true]]
theorem aoT{a b:Nat}(ha:a<3)(hb:b<3):np (eO cH) a b=decide (a<b):=by
 rw[eu,Rq,aG];constructor
 ·exact λh=>(XN h).1
 ·intro h;have h01:Tc (eO cH) 0 1:= .one (by omega) (by omega) ((OS 0 1).2 (Or.inl ⟨rfl,rfl⟩));have h12:Tc (eO cH) 1 2:= .one (by omega) (by omega) ((OS 1 2).2 (Or.inr ⟨rfl,rfl⟩));have:(a=0/\b=1)\/(a=1/\b=2)\/(a=0/\b=2):=by omega
  rcases this with ⟨rfl,rfl⟩ |⟨rfl,rfl⟩ |⟨rfl,rfl⟩
  ·exact h01
  ·exact h12
  ·exact h01.trans h12
theorem aoU{a b:Nat}(ha:a<3)(hb:b<3):io cH a b=decide (a<=b):=by
 unfold io;rw[aoT ha hb,eu];have e3:cH.values=3:=rfl;simp only[Bool.or_eq_true,aD,aG,e3];omega
theorem alp:gu cH=R3:=by
 have:gu cH=(List.range 3).map λa=>(List.range 3).map λb=>decide (a<=b):=by
  unfold gu;refine map_congr_left λa ha=>map_congr_left λb hb=>?_;exact aoU (List.mem_range.1 ha) (List.mem_range.1 hb)
 rw[this];rfl
theorem Ng:Ch [cH,cH]=some [R3,R3]:=by
 unfold Ch;rw[aP ⟨by decide,by simp[Xs]⟩];simp only[aF,map_nil,alp]
theorem aqQ:jl [cH,cH] [] 1 [1,1] true=(true,[aH.mk 1 [1,1] true],0):=by
 unfold jl bZ Ph dW;simp only[Ng]
 kernel_rfl
theorem aqR:jl [cH,cH] [aH.mk 1 [1,1] true] 2 [1,2] false=(true,[aH.mk 1 [1,1] true,aH.mk 2 [1,2] true],0):=by
 unfold jl bZ Ph dW;simp only[Ng]
 kernel_rfl
theorem aqS:jl [cH,cH] [aH.mk 1 [1,1] true,aH.mk 2 [1,2] true] 3 [0,1] false=(false,[aH.mk 1 [1,1] true,aH.mk 2 [1,2] true,aH.mk 3 [0,1] false],0):=by
 unfold jl bZ Ph dW;simp only[Ng]
 kernel_rfl
theorem aqT:jl [cH,cH] [aH.mk 1 [1,1] true,aH.mk 2 [1,2] true,aH.mk 3 [0,1] false] 3 [0,2] false=(false,[aH.mk 1 [1,1] true,aH.mk 2 [1,2] true,aH.mk 3 [0,1] false],5):=by
 unfold jl bZ Ph dW;simp only[Ng]
 kernel_rfl
def z7:gU:=gU.mk [] [] [] [] [] [] [] 0 [fU.mk 1 0 [ay.mk 0 0 20 20] []] [] [] [] []
def DP:bi:=bi.mk 1 [zm.mk [aQ.mk 5 5 7 7 0 3 2 0 false] []]
def LO:List ByteArray:=[⟨#[97]⟩,⟨#[98]⟩]
theorem anH:EJ z7 DP LO=[2,5,0,1]:=by kernel_rfl
theorem ap4(hn:100<=n):Vn n z7 DP:=by
 refine⟨λ l hl=>?_,by decide,⟨?_,by decide,λt ht=>?_⟩,by decide,λp hp=>?_⟩
 ·simp only[z7,aK,iw,or_false]at hl;subst hl;exact⟨by decide,by decide⟩
 ·show 0<n;omega
 ·simp[z7]at ht
 ·simp only[DP,aK,iw,or_false]at hp;subst hp;decide
theorem aiG(hn:2000000<=n):jE n z7 [cH,cH] DP LO=some [0,2]:=by
 have hr:([cH,cH].all l8&&decide ([cH,cH].length<=12))=true:=by simp[Xs]
 unfold jE;rw[agz (by omega) _ (by simp;omega) (by simp),hr,Pk (ap4 (by omega)) hn (by decide),anH];obtain⟨m,rfl⟩:∃m,n=m+20:=⟨n -20,by omega⟩;show _=_
 kernel_rfl
theorem W8(hn:2000000<=n)(b:Bool)(an:List ByteArray)(h:(b,an)=(true,[⟨#[97]⟩])\/(b,an)=(false,[⟨#[97]⟩,⟨#[98]⟩])):nL n (gQ.mk [] [] [] [dL.mk ⟨#[97]⟩ [] [] 0 0 0 true 0 0 0 ⟨#[]⟩ ⟨#[]⟩ [] 0 0 0 0 0 0 0,dL.mk ⟨#[98]⟩ [] [] 0 0 0 false 0 0 0 ⟨#[]⟩ ⟨#[]⟩ [] 0 0 0 0 0 0 0] [] [] [] 0) an=some b:=by
 obtain⟨m,rfl⟩:∃m,n=m+20:=⟨n -20,by omega⟩;rcases h with h |h<;>(injection h with h1 h2;subst h1;subst h2;show _=_;kernel_rfl)
theorem aoV(hn:2000000<=n):M0 n=some true:=by
 have c:∀base:List aH,base.length<=3->(∀ k∈base,k.values.length<=2)->Ci base:=λbase h1 h2=>⟨by omega,λk hk=>by have:=h2 k hk;omega⟩;have v2:∀a b:Int,sub ([a,b]:List Int) 0 2=[a,b]:=λ_ _=>rfl;have d1:=Bb (n:=n) (by omega) [cH,cH] (base:=[]) (c _ (by simp) (by simp)) 1 (values:=[1,1]) (by simp) true;have d2:=Bb (n:=n) (by omega) [cH,cH] (base:=[aH.mk 1 [1,1] true]) (c _ (by simp) (by simp)) 2 (values:=[1,2]) (by simp) false;have d3:=Bb (n:=n) (by omega) [cH,cH] (base:=[aH.mk 1 [1,1] true,aH.mk 2 [1,2] true]) (c _ (by simp) (by simp)) 3 (values:=[0,1]) (by simp) false;have d4:=Bb (n:=n) (by omega) [cH,cH] (base:=[aH.mk 1 [1,1] true,aH.mk 2 [1,2] true,aH.mk 3 [0,1] false]) (c _ (by simp) (by simp)) 3 (values:=[0,2]) (by simp) false;rw[aqQ]at d1;rw[aqR]at d2;rw[aqS]at d3;rw[aqT]at d4;have e2:∀(a b:aU),sub ([a,b]:List aU) 0 2=[a,b]:=λ_ _=>rfl;have hv:=aiG hn;unfold z7 DP LO at hv;have m1:=W8 hn true [⟨#[97]⟩] (Or.inl rfl);have m2:=W8 hn false [⟨#[97]⟩,⟨#[98]⟩] (Or.inr rfl);unfold M0;rw[aoS];have b1:∀a b:ByteArray,sub ([a,b]:List ByteArray) 0 2=[a,b]:=λ_ _=>rfl;have b0:∀a:ByteArray,sub ([a]:List ByteArray) 0 1=[a]:=λ_=>rfl;have b2:∀a:aQ,sub ([a]:List aQ) 0 1=[a]:=λ_=>rfl;have b3:∀a:ay,sub ([a]:List ay) 0 1=[a]:=λ_=>rfl;have b4:∀a:fU,sub ([a]:List fU) 0 1=[a]:=λ_=>rfl;have b5:∀a:zm,sub ([a]:List zm) 0 1=[a]:=λ_=>rfl;have b6:∀a b:dL,sub ([a,b]:List dL) 0 2=[a,b]:=λ_ _=>rfl;have q:nJ n [0,2] [0,2]=some true:=by
  obtain⟨m,rfl⟩:∃m,n=m+20:=⟨n -20,by omega⟩;show _=_
  kernel_rfl
 simp only[ah,e2,b0,b1,b2,b3,b4,b5,b6,v2,aB,bH,length_nil,Nat.zero_add,Nat.reduceAdd,ai,hv,d1,bG,d2,d3,d4,q,m1,m2];rfl
def Ue(f:Int)(g:Bool):Bool:=bif f==1 then true else bif f==2 then false else g
theorem anI(M:Mx)(base:List aH)(w:List Int)(g:Bool):(base.any λd=>!(d.grant==g)&&gy M w d)=mj M base w (!g):=by
 unfold mj;congr 1;funext d;cases d.grant<;>cases g<;>cases gy M w d<;>rfl
inductive GB(os:List aU)(base:List aH)(id:Int)(w:List Int)(g:Bool):Prop
 |arg (h1:(bZ os base w).2.2=1) (h:jl os base id w g=(false,base,1))
 |clash (h1:(bZ os base w).2.2=0) (h2:(bZ os base w).1=3) (h:jl os base id w g=(false,base,25))
 |twice (h1:(bZ os base w).2.2=0) (h2:(bZ os base w).1=0\/(bZ os base w).1=1\/(bZ os base w).1=2) (h3:(base.any λd=>d.id==id)=true) (h:jl os base id w g=(false,base,5))
 |fine (h1:(bZ os base w).2.2=0) (h2:(bZ os base w).1=0\/(bZ os base w).1=1\/(bZ os base w).1=2) (h3:(base.any λd=>d.id==id)=false) (h:jl os base id w g=(Ue (bZ os base w).1 g,base++[aH.mk id w (Ue (bZ os base w).1 g)],0))
theorem ad5(os:List aU)(base:List aH)(id:Int)(w:List Int)(g:Bool):GB os base id w g:=by
 cases hc:(dW os base).2&&qR (dW os base).1 w with
 |false=>
  have hF:bZ os base w=(0,[],1):=by unfold bZ;rw[hc];rfl
  refine .arg (by rw[hF]) ?_;unfold jl;rw[hF];rfl
 |true=>
  have hF:bZ os base w=(GV (dW os base).1 base w,rV (dW os base).1 base w,0):=by unfold bZ;rw[hc];rfl
  have hA:∀k,Ph os base (aH.mk id w k)=At (dW os base).1 base (aH.mk id w k):=λk=>by
   unfold Ph;show(bif (dW os base).2&&qR (dW os base).1 w then _ else _)=_;rw[hc];rfl
  generalize dW os base=r at hF hA;have hB:∀k,At r.1 base (aH.mk id w k)=bif base.any (λ d=>d.id==id)then([],5)else bif mj r.1 base w (!k)then([],25)else(base++[aH.mk id w k],0):=λk=>by
   unfold At;rw[show (base.any λd=>!(d.grant==(aH.mk id w k).grant)&&gy r.1 (aH.mk id w k).values d)=mj r.1 base w (!k)from anI r.1 base w k]
  have main:∀f:Int,(bZ os base w).1=f->(f=0\/f=1\/f=2)->mj r.1 base w (!(Ue f g))=false->GB os base id w g:=by
   intro f hf h3 hk;have hD:jl os base id w g=bif base.any (λ d=>d.id==id)then(false,base,5)else(Ue f g,base++[aH.mk id w (Ue f g)],0):=by
    have e0:((bZ os base w).2.2 !=0)=false:=(by rw[hF];rfl);have e3:((bZ os base w).1==3)=false:=(by rw[hf,beq_eq_false_iff_ne];omega);have eg:(bif (bZ os base w).1==1 then true else bif(bZ os base w).1==2 then false else g)=Ue f g:=(by rw[hf];rfl);unfold jl;rw[e0,e3,eg,hA,hB,hk];cases base.any (λ d=>d.id==id)<;>rfl
   have h1:(bZ os base w).2.2=0:=(by rw[hF]);cases h4:base.any (λ d=>d.id==id)with
   |true=>rw[h4]at hD;exact .twice h1 (hf ▸ h3) h4 hD
   |false=>rw[h4]at hD;exact .fine h1 (hf ▸ h3) h4 (by rw[hf];exact hD)
  have hw:(bZ os base w).1=GV r.1 base w:=by rw[hF]
  unfold GV at hw;cases hT:mj r.1 base w true with
  |true=>
   cases hN:mj r.1 base w false with
   |true=>
    rw[hT,hN]at hw;refine .clash (by rw[hF]) hw ?_;have e0:((bZ os base w).2.2 !=0)=false:=(by rw[hF];rfl);unfold jl;rw[e0,hw];rfl
   |false=>
    rw[hT,hN]at hw;exact main 1 hw (by omega) hN
  |false=>
   cases hN:mj r.1 base w false with
   |true=>
    rw[hT,hN]at hw;exact main 2 hw (by omega) hT
   |false=>
    rw[hT,hN]at hw;refine main 0 hw (by omega) ?_;cases g
    ·exact hT
    ·exact hN
def Fi(os:List aU)(base:List aH):Bool:=!(os.any λo=>decide (o.pairs.length>20))&&(!(base.any λc=>decide (c.values.length>8))&&(decide (os.length<=5)&&decide (base.length<=14)))
theorem agA{os:List aU}{base:List aH}(h1:os.length<=1000000000000000000)(h2:base.length<=1000000000000000000)(hn:os.length<n)(hn2:base.length<n):Ak n os base=some (Fi os base):=by
 have a1:=fV (l:=os) (step:=sK os) (λ o=>decide (o.pairs.length>20)) () false (λ i hi=>by
  have d:decide ((((os[i]).pairs.length:Nat):Int)>20)=decide ((os[i]).pairs.length>20):=by rw[decide_eq_decide];omega
  simp only[sK,dm hi,ai,aZ hi,ah,d,Option.map_some,sk,aR i]) (by simp only[sK,bT,ak]) n hn
 have a2:=fV (l:=base) (step:=sM base) (λ o=>decide (o.values.length>8)) () false (λ i hi=>by
  have d:decide ((((base[i]).values.length:Nat):Int)>8)=decide ((base[i]).values.length>8):=by rw[decide_eq_decide];omega
  simp only[sM,dm hi,ai,aZ hi,ah,d,Option.map_some,sk,aR i]) (by simp only[sM,bT,ak]) n hn2
 have d1:decide ((os.length:Int)<=5)=decide (os.length<=5):=by rw[decide_eq_decide];omega
 have d2:decide ((base.length:Int)<=14)=decide (base.length<=14):=by rw[decide_eq_decide];omega
 unfold Ak Fi;rw[a1,a2,d1,d2];cases os.any λo=>decide (o.pairs.length>20)with
 |true=>rfl
 |false=>
  cases base.any λo=>decide (o.values.length>8)with
  |true=>rfl
  |false=>cases decide (os.length<=5)<;>rfl
theorem alq{os:List aU}{base:List aH}(h:Fi os base=true):Ci base/\os.length<=5/\base.length<=14:=by
 simp only[Fi,aD,Bool.not_eq_true',aG,List.any_eq_false]at h;obtain⟨h1,h2,h3,h4⟩:=h;refine⟨⟨by omega,λc hc=>?_⟩,h3,h4⟩;have:=h2 c hc;omega
theorem Mg{X:SX}{c:CT X.ι}{cs:List (CT X.ι)}{ss:List VS}(hs:CU (nz n) (c::cs)=some ss)(q:HL X.toSE (c::cs))(h:NV ss (HL.k6 X.toSE (c::cs) q)):∃s ss',nz n c=some s/\CU (nz n) cs=some ss'/\SK s (CT.tv X.toSE c q.1)/\NV ss' (HL.k6 X.toSE cs q.2):=by
 simp only[CU]at hs;rw[aj]at hs;obtain⟨a,h1,hs⟩:=hs;rw[aj]at hs;obtain⟨b,h2,hs⟩:=hs;cases hs;exact⟨a,b,h1,h2,h.1,h.2⟩
theorem ON{X:SX}{i:X.ι}{s:VS}{x:X.T i}(hs:nz n (.st i)=some s)(h:SK s (CT.tv X.toSE (.st i) x)):∃l,mi (X:=X) n (.st i)=some l/\cN l (X.row i x):=by
 simp only[nz]at hs;obtain⟨l,h1,rfl⟩:=fq.1 hs;obtain⟨ys,e,hf⟩:=h;rw[CT.tv]at e;injection e with e;exact⟨l,h1,by rw[e];exact hf⟩
theorem Nh:∀{cs:List CS}{ts:List Tree},cN cs ts->∀{i:Nat}{c:CS}{x:Tree},cs[i]? =some c->ts[i]? =some x->Fit c x
 |c::cs,x::ts,h,0,c',x',hc,hx=>by
  simp only[List.getElem?_cons_zero,aC]at hc hx;subst hc;subst hx;simp only[cN]at h;exact h.1
 |c::cs,x::ts,h,i+1,c',x',hc,hx=>by
  simp only[List.getElem?_cons_succ]at hc hx;simp only[cN]at h;exact Nh h.2 hc hx
 |[],_,h,_,_,_,hc,_=>by simp at hc
 |_::_,[],h,_,_,_,_,hx=>by simp at hx
theorem Uf{row:List CS}{α:Type}{l:List α}{f:α->List Tree}(h:Fit (.sl row) (.sl (l.map f))):l.length<=maxLen/\l.length*uC row<=reachBytes/\∀x∈l,cN row (f x):=by
 simp only[Fit]at h;obtain⟨rows,e,⟨h1,h2⟩,h3⟩:=h;cases e;rw[length_map]at h1 h2;exact⟨h1,h2,λx hx=>h3 _ (mem_map.2 ⟨x,hx,rfl⟩)⟩
def aqU:List CS:=[.int .i64,.int .i64,.sl [.int .i64,.int .i64,.int .i64,.int .i64],.sl [.int .i64]]
theorem aoW{t:gU}{s:VS}(hs:nz (X:=xx) (n+8) (.st SI.eS)=some s)(h:SK s (CT.tv xx.toSE (.st SI.eS) t)):TP t:=by
 have⟨l,h1,h2⟩:=ON hs h;have h8:((mi (X:=xx) (n+8) (.st SI.eS)).bind λl=>l[8]?)=some (.sl aqU):=by kernel_rfl
 rw[h1]at h8;have hf:=Nh h2 (i:=8) h8 (x:= .sl (t.land.map PR)) rfl;have⟨_,_,h3⟩:=Uf hf;intro lt hlt;have h4:=Nh (h3 lt hlt) (i:=3) (c:= .sl [.int .i64]) rfl (x:= .sl (lt.from_.map λx=>[.sc (.int .i64 x)])) rfl;have⟨_,h5,_⟩:=Uf h4;have:lt.from_.length*8<=reachBytes:=h5;have:reachBytes=140737488351232:=rfl;omega
theorem anK{X:SX}{e:CT X.ι}{s:VS}{l:List (CT.T X.toSE e)}(hm:Hi X.dec e=none)(hs:nz (n+1) (.sl e)=some s)(h:SK s (CT.tv X.toSE (.sl e) l)):∃r,mi n e=some r/\l.length*uC r<=reachBytes:=by
 simp only[nz,mi,hm]at hs;cases hc:mi n e with
 |none=>rw[hc]at hs;simp at hs
 |some r=>
  rw[hc]at hs;simp only[ah,aC]at hs;subst hs;obtain⟨y,e1,e2⟩:=h;rw[CT.tv]at e1;cases e1;exact⟨r,rfl,(Uf e2).2.1⟩
theorem We{X:SX}{e:CT X.ι}{s:VS}{l:List (CT.T X.toSE e)}{b:Nat}(hm:Hi X.dec e=none)(hb:(mi n e).map uC=some b)(h0:0<b)(hs:nz (n+1) (.sl e)=some s)(h:SK s (CT.tv X.toSE (.sl e) l)):l.length<=1000000000000000000:=by
 have⟨r,h1,h2⟩:=anK hm hs h;rw[h1,Option.map_some]at hb;injection hb with hb;rw[hb]at h2;have:reachBytes=140737488351232:=rfl;have h3:l.length*1<=l.length*b:=Nat.mul_le_mul (aT _) h0;omega
def Fc(p:zm):Bool:=decide (p.cp.length>12) || decide (p.gives.length>6)
def yn(d:bi):Bool:=!(d.phases.any Fc)&&decide (d.phases.length<=9)
theorem Zj{d:bi}(h:d.phases.length<=1000000000000000000)(hn:d.phases.length<n)(hn2:10<=n):nW n [d]=some (yn d):=by
 have a0:bh [d] 0=some d:=rfl;have s2:=fV (l:=d.phases) (step:=nM [d] 0) Fc () (.inr (.inr false)) (λ i hi=>by
  have d1:decide ((((d.phases[i]).cp.length:Nat):Int)>12)=decide ((d.phases[i]).cp.length>12):=by rw[decide_eq_decide];omega
  have d2:decide ((((d.phases[i]).gives.length:Nat):Int)>6)=decide ((d.phases[i]).gives.length>6):=by rw[decide_eq_decide];omega
  simp only[nM,a0,ah,dm hi,ai,aZ hi,d1,d2,aR i,Fc];cases decide ((d.phases[i]).cp.length>12)<;>cases decide ((d.phases[i]).gives.length>6)<;>rfl) (by simp only[nM,a0,ah,bT,ak]) n hn
 obtain⟨m,rfl⟩:∃m,n=m+2:=⟨n -2,by omega⟩;have d3:decide ((d.phases.length:Int)>9)=!decide (d.phases.length<=9):=by rw[<- decide_not,decide_eq_decide];omega
 have l1:decide ((0:Int)<(([d].length:Nat):Int))=true:=rfl;unfold nW yn;cases hb:d.phases.any Fc with
 |true=>
  rw[hb]at s2;rw[bn (o:= .inr false) (by simp only[kC,l1,ai,s2];rfl)];rfl
 |false=>
  rw[hb]at s2;cases h9:decide (d.phases.length<=9)with
  |false=>
   rw[bn (o:= .inr false) (by simp only[kC,l1,ai,s2,ak,fB,a0,ah,d3,h9,Bool.not_false,Option.map_some])];rfl
  |true=>
   rw[dw (v':=1) (by simp only[kC,l1,ai,s2,ak,fB,a0,ah,d3,h9,Bool.not_true];rfl),bn (o:= .inl ()) (by simp only[kC];rfl)];rfl
theorem aoX{d:bi}(h:yn d=true):yi d:=by
 simp only[yn,aD,Bool.not_eq_true',List.any_eq_false,aG]at h;refine⟨by omega,λp hp=>?_⟩;have:=h.1 p hp;simp only[Fc,Bool.or_eq_true,aG,not_or]at this;omega
def As(t:gU)(d:bi)(am:List ByteArray):Bool:=yl t&&(yn d&&decide (am.length<=20))
theorem anN(t:gU){d:bi}(am:List ByteArray)(h:d.phases.length<=1000000000000000000)(hn:d.phases.length<n)(hn2:2000<=n):WL n t d am=some (As t d am):=by
 have e1:WK n (gQ.mk [] [] [] [] [] [] [] 0) (LB.mk 0 0 0 0 0 [d] 0 0) []=some (yn d):=by
  have s:iter (YO n []) n 0=some (.inl ()):=by
   obtain⟨m,rfl⟩:∃m,n=m+1:=⟨n -1,by omega⟩;exact bn rfl
  unfold WK;rw[s];simp only[fB,Zj h hn (by omega),ah];rfl
 have sb:sub ([d]:List bi) 0 1=[d]:=rfl;have d1:decide ((am.length:Int)<=20)=decide (am.length<=20):=by rw[decide_eq_decide];omega
 unfold WL As;rw[aik t hn2];simp only[ah,sb,length_singleton,aB,ai,e1,d1];cases yl t<;>cases yn d<;>rfl
def Zk(t:gU):Prop:=∀x∈t.bu,x.rows.length<=9223372036854775807
def RR(t:gU):Nat:=(t.bu.map (·.rows.length)).sum
theorem Wc:∀(l:List Nat)(x:Nat),x∈l->x<=l.sum
 |[],x,h=>by simp at h
 |y::l,x,h=>by
  rw[List.sum_cons];rcases aK.1 h with rfl |h
  ·omega
  ·have:=Wc l x h;omega
theorem aoY{t:gU}{d:bi}{am:List ByteArray}(h:As t d am=true)(hf:TP t)(hr:Zk t)(hn:2000000+RR t<=n):Vn n t d/\am.length<=20:=by
 simp only[As,aD,aG]at h;have E:=aj3 h.1 hf;have h1:=h.1;simp only[yl,aD,aG]at h1;have ht:t.bu.length<=20:=h1.1.2.2.2.1;refine⟨⟨E.lots,by have:=E.land;omega,⟨?_,?_,λx hx=>⟨?_,hr x hx⟩⟩,aoX h.2.1⟩,h.2.2⟩
 ·show t.bu.length<n;omega
 ·show t.bu.length<=_;omega
 ·have hx2:x∈t.bu:=hx;have:=Wc _ _ (List.mem_map_of_mem (f:=λx:fH=>x.rows.length) hx2);have e:(t.bu.map λx:fH=>x.rows.length).sum=RR t:=rfl;omega
theorem Om{a:List Int}(h:a.length<=1000)(hn:1001<=n):nJ n a a=some true:=by
 have e:(((a.length:Int)) !=((a.length:Int)))=false:=by simp
 unfold nJ;rw[e,dz (step:=sI a a) (λ i=>(i:Int)) (s:=(0:Int)) a.length (.inl ()) rfl (λ i hi=>by
  have n0:(a[i] !=a[i])=false:=by simp
  simp only[sI,dm hi,ai,aZ hi,ah,n0,ak,aR i]) (by simp only[sI,bT,ak]) n (by omega)]
 rfl
def aqV:List CS:=[.str,.sl [.str,.int .i64],.int .i64]
theorem rows_ok{t:gU}{s:VS}(hs:nz (X:=xx) (n+8) (.st SI.eS)=some s)(h:SK s (CT.tv xx.toSE (.st SI.eS) t)):Zk t:=by
 have⟨l,h1,h2⟩:=ON hs h;have h8:((mi (X:=xx) (n+8) (.st SI.eS)).bind λl=>l[1]?)=some (.sl aqV):=by kernel_rfl
 rw[h1]at h8;have hf:=Nh h2 (i:=1) h8 (x:= .sl (t.bu.map LA)) rfl;have⟨_,_,h3⟩:=Uf hf;intro x hx;have h4:=Nh (h3 x hx) (i:=1) (c:= .sl [.str,.int .i64]) rfl (x:= .sl (x.rows.map Lx)) rfl;have⟨h5,_,_⟩:=Uf h4;have:maxLen=9223372036854775807:=by rfl
 omega
noncomputable def Wb:List CS:=(mi (X:=xx) 6 (.st SI.Phase)).getD []
theorem als{d:bi}{s:VS}(hs:nz (X:=xx) (n+7) (.st SI.df)=some s)(h:SK s (CT.tv xx.toSE (.st SI.df) d)):d.phases.length<=1000000000000000000:=by
 have⟨l,h1,h2⟩:=ON hs h;have h8:((mi (X:=xx) (n+7) (.st SI.df)).bind λl=>l[1]?)=some (.sl Wb):=by kernel_rfl
 rw[h1]at h8;have hf:=Nh h2 (i:=1) h8 (x:= .sl (d.phases.map YK)) rfl;have⟨_,h5,_⟩:=Uf hf;rw[show uC Wb=48 by kernel_rfl]at h5;have:reachBytes=140737488351232:=rfl;omega
def leB(M:Mx)(a b:List Int):Bool:=(Js M a b).isEmpty
def Cons(M:Mx)(base:List aH):Prop:=∀c∈base,∀d∈base,c.grant=true->d.grant=false->leB M c.values d.values=false
theorem aaI{a:List Int}(h:a.length<=1000)(hn:1001<=n):Q8 n a a=some true:=by
 have e:(((a.length:Int)) !=((a.length:Int)))=false:=by simp
 unfold Q8;rw[e,dz (step:=Eu a a) (λ i=>(i:Int)) (s:=(0:Int)) a.length (.inl ()) rfl (λ i hi=>by
  have n0:(a[i] !=a[i])=false:=by simp
  simp only[Eu,dm hi,ai,aZ hi,ah,n0,ak,aR i]) (by simp only[Eu,bT,ak]) n (by omega)]
 rfl
theorem Oo{a:List aH}(h:Ci a)(hn:1001<=n):LU n a a=some true:=by
 have e:(((a.length:Int)) !=((a.length:Int)))=false:=by simp
 obtain⟨h1,h2⟩:=h;unfold LU;rw[e,dz (step:=Ew n a a) (λ i=>(i:Int)) (s:=(0:Int)) a.length (.inl ()) rfl (λ i hi=>by
  have n0:((a[i]).id !=(a[i]).id)=false:=by simp
  have n1:(!((a[i]).grant==(a[i]).grant))=false:=by simp
  simp only[Ew,dm hi,ai,aZ hi,ah,n0,n1,ak,aaI (n:=n) (a:=(a[i]).values) (by have:=h2 _ (getElem_mem hi);omega) hn,Bool.not_true,aR i]) (by simp only[Ew,bT,ak]) n (by omega)]
 rfl
structure aqY(M:Mx)(base:List aH)(i:Nat):Prop where
 len:base.length<=i
 vals:∀c∈base,c.values.length<=8
 good:gA M base=true
 cons:Cons M base
def W3(e:Nat->Nat->Bool)(V L:Nat):Nat->Nat->Nat->Prop
 | 0,x,y=>x=y
 |k+1,x,y=>∃v,(L<=v/\v<V)/\e x v=true/\W3 e V L k v y
theorem W3.snoc{e:Nat->Nat->Bool}{V L:Nat}:∀{k x z y:Nat},W3 e V L k x z->L<=y/\y<V->e z y=true->W3 e V L (k+1) x y
 | 0,x,z,y,h,hy,he=>by
  have:x=z:=h;subst this;exact⟨y,hy,he,rfl⟩
 |k+1,x,z,y,⟨v,h1,h2,h3⟩,hy,he=>⟨v,h1,h2,W3.snoc h3 hy he⟩
theorem W3.last{e:Nat->Nat->Bool}{V L:Nat}:∀{k x y:Nat},W3 e V L (k+1) x y->∃z,W3 e V L k x z/\(L<=y/\y<V)/\e z y=true
 | 0,x,y,⟨v,h1,h2,h3⟩=>by
  have:v=y:=h3;subst this;exact⟨x,rfl,h1,h2⟩
 |k+1,x,y,⟨v,h1,h2,h3⟩=>by
  have⟨z,a1,a2,a3⟩:=W3.last h3;exact⟨z,⟨v,h1,h2,a1⟩,a2,a3⟩
theorem W3.app{e:Nat->Nat->Bool}{V L:Nat}:∀{k m x y z:Nat},W3 e V L k x y->W3 e V L m y z->W3 e V L (k+m) x z
 | 0,m,x,y,z,h,h2=>by
  have:x=y:=h;subst this
  rwa [Nat.zero_add]
 |k+1,m,x,y,z,⟨v,h1,h2,h3⟩,h4=>by
  rw[Nat.add_right_comm];exact⟨v,h1,h2,W3.app h3 h4⟩
theorem W3.mono{e:Nat->Nat->Bool}{V L L':Nat}(hL:L'<=L):∀{k x y:Nat},W3 e V L k x y->W3 e V L' k x y
 | 0,_,_,h=>h
 |k+1,x,y,⟨v,h1,h2,h3⟩=>⟨v,⟨by omega,h1.2⟩,h2,W3.mono hL h3⟩
def N2(e:Nat->Nat->Bool)(V L a b w:Nat):Prop:=(w=0/\∀k,1<=k->¬W3 e V L k a b)\/(1<=w/\w<=V/\W3 e V L w a b/\∀j,1<=j->j<w->¬W3 e V L j a b)
def sl(V:Nat)(S:Nat->Bool):List Bool:=(List.range V).map S
theorem Wa{V:Nat}(S:Nat->Bool){v:Nat}(hv:v<V):bh (sl V S) (((0:Nat):Int)+(v:Int))=some (S v):=by rw[iT];simp[sl,hv]
theorem ap5{V:Nat}(S:Nat->Bool){v:Nat}:(sl V S).set (((0:Nat):Int)+(v:Int)).toNat true=sl V (λ u=>S u || decide (u=v)):=by
 have:(((0:Nat):Int)+(v:Int)).toNat=v:=by omega
 rw[this];apply List.ext_getElem?;intro i;simp only[sl,List.getElem?_set,List.getElem?_map,length_map,List.length_range];by_cases h:i<V
 ·rw[List.getElem?_range h];by_cases hv:v=i
  ·subst hv;simp[h]
  ·have:¬i=v:=λh=>hv h.symm;simp[hv,this]
 ·rw[List.getElem?_eq_none (by simp;omega)];by_cases hv:v=i
  ·subst hv;simp[h]
  ·simp[hv]
theorem aoZ(V:Nat):List.replicate V false=sl V λ_=>false:=by
 apply List.ext_getElem?;intro i;simp only[sl,List.getElem?_replicate,List.getElem?_map];by_cases h:i<V
 ·rw[aP h,List.getElem?_range h];rfl
 ·rw[aM h,List.getElem?_eq_none (by simp;omega)];rfl
theorem tH{o:aU}(hv:gq o=true)(hn:1000<=n)(a b:Nat):QW n o (a:Int) (b:Int)=some (eO o a b):=by
 have hl:o.pairs.length<=144:=by simp only[gq,aD,aG]at hv;omega
 unfold QW;rw[fV (l:=o.pairs) (step:=IX o (a:Int) (b:Int)) (λ p=>decide (p.a0=(a:Int))&&decide (p.a1=(b:Int))) () true (λ i hi=>by
  simp only[IX,dm hi,ai,aZ hi,ah,aR i];have e1:((o.pairs[i]).a0==(a:Int))=decide ((o.pairs[i]).a0=(a:Int)):=by by_cases h:(o.pairs[i]).a0=(a:Int)<;>simp[h]
  have e2:((o.pairs[i]).a1==(b:Int))=decide ((o.pairs[i]).a1=(b:Int)):=by by_cases h:(o.pairs[i]).a1=(b:Int)<;>simp[h]
  rw[e1,e2];cases decide ((o.pairs[i]).a0=(a:Int))<;>cases decide ((o.pairs[i]).a1=(b:Int))<;>rfl) (by simp only[IX,bT,ak]) n (by omega)]
 unfold eO;cases o.pairs.any λp=>decide (p.a0=(a:Int))&&decide (p.a1=(b:Int))<;>rfl
theorem NX{o:aU}(hv:gq o=true){a b:Nat}(h:eO o a b=true):a<o.values.toNat/\b<o.values.toNat:=by
 unfold eO at h;rw[any_eq_true]at h;obtain⟨p,h1,h2⟩:=h;simp only[aD,aG]at h2;have⟨x,y,p1,p2,p3,p4,p5,p6⟩:=Za hv h1;omega
structure zj(e:Nat->Nat->Bool)(V L:Nat)(S0:Nat->Bool)(src:Nat->Prop)(S:Nat->Bool)(nx:List Nat):Prop where
 seen:∀u,u<V->(S u=true↔S0 u=true\/(L<=u/\∃x,src x/\e x u=true))
 mem:∀u,u∈nx↔u<V/\S0 u=false/\L<=u/\∃x,src x/\e x u=true
 nodup:nx.Nodup
theorem zj.len{e:Nat->Nat->Bool}{V L:Nat}{S0:Nat->Bool}{src:Nat->Prop}{S:Nat->Bool}{nx:List Nat}(h:zj e V L S0 src S nx):nx.length<=V:=L9 V nx h.nodup λy hy=>((h.mem y).1 hy).1
def il(l:List Nat):List Int:=l.map λx:Nat=>(x:Int)
theorem Bc{V O:Type}{step:V->Option (V⊕O)}(R:Nat->V->Prop)(N:Nat)(Q:O->Prop)(h:∀i v,i<N->R i v->(∃ v',step v=some (.inl v')/\R (i+1) v')\/∃o,step v=some (.inr o)/\Q o)(hN:∀v,R N v->∃o,step v=some (.inr o)/\Q o){k:Nat}(hk:k<=N):
 ∀n,N -k<n->∀v,R k v->∃o,iter step n v=some o/\Q o:=by
 have main:∀j i n v,i+j=N->j<n->R i v->∃o,iter step n v=some o/\Q o:=by
  intro j
  induction j with
  |zero=>
   intro i n v hi hn hR;obtain⟨m,rfl⟩:∃m,n=m+1:=⟨n -1,by omega⟩;have:i=N:=(by omega);subst this;have⟨o,h1,h2⟩:=hN v hR;exact⟨o,bn h1,h2⟩
  |succ j ih=>
   intro i n v hi hn hR;obtain⟨m,rfl⟩:∃m,n=m+1:=⟨n -1,by omega⟩;rcases h i v (by omega) hR with ⟨v',h1,h2⟩ |⟨o,h1,h2⟩
   ·obtain⟨o,h3,h4⟩:=ih (i+1) m v' (by omega) (by omega) h2;exact⟨o,by rw[dw h1,h3],h4⟩
   ·exact⟨o,bn h1,h2⟩
 intro n hn v hR;exact main (N -k) k n v (by omega) (by omega) hR
structure sX(e:Nat->Nat->Bool)(V L:Nat)(S0:Nat->Bool)(src:Nat->Prop)(x0 v:Nat)(S:Nat->Bool)(nx:List Nat):Prop where
 seen:∀u,u<V->(S u=true↔S0 u=true\/(L<=u/\((∃ x,src x/\e x u=true)\/(u<v/\e x0 u=true))))
 mem:∀u,u∈nx↔u<V/\S0 u=false/\L<=u/\((∃ x,src x/\e x u=true)\/(u<v/\e x0 u=true))
 nodup:nx.Nodup
theorem sX.skip{e:Nat->Nat->Bool}{V L:Nat}{S0:Nat->Bool}{src:Nat->Prop}{x0 v:Nat}{S:Nat->Bool}{nx:List Nat}(h:sX e V L S0 src x0 v S nx)(he:e x0 v=false):sX e V L S0 src x0 (v+1) S nx:=by
 have k:∀u,(u<v+1/\e x0 u=true)↔(u<v/\e x0 u=true):=λu=>by
  constructor
  ·rintro⟨h1,h2⟩;refine⟨?_,h2⟩;by_cases hu:u=v
   ·subst hu;rw[he]at h2;cases h2
   ·omega
  ·rintro⟨h1,h2⟩;exact⟨by omega,h2⟩
 exact⟨λ u hu=>by rw[h.seen u hu,k u],λu=>by rw[h.mem u,k u],h.nodup⟩
theorem sX.old{e:Nat->Nat->Bool}{V L:Nat}{S0:Nat->Bool}{src:Nat->Prop}{x0 v:Nat}{S:Nat->Bool}{nx:List Nat}(h:sX e V L S0 src x0 v S nx)(hv:v<V)(hs:S v=true):sX e V L S0 src x0 (v+1) S nx:=by
 have hv2:=(h.seen v hv).1 hs;refine⟨λ u hu=>?_,λu=>?_,h.nodup⟩
 ·rw[h.seen u hu];constructor
  ·rintro (g |⟨g1,g2 |⟨g3,g4⟩⟩)
   ·exact Or.inl g
   ·exact Or.inr ⟨g1,Or.inl g2⟩
   ·exact Or.inr ⟨g1,Or.inr ⟨by omega,g4⟩⟩
  ·rintro (g |⟨g1,g2 |⟨g3,g4⟩⟩)
   ·exact Or.inl g
   ·exact Or.inr ⟨g1,Or.inl g2⟩
   ·by_cases hu2:u=v
    ·subst hu2;exact hv2
    ·exact Or.inr ⟨g1,Or.inr ⟨by omega,g4⟩⟩
 ·rw[h.mem u];constructor
  ·rintro⟨g1,g2,g3,g4 |⟨g5,g6⟩⟩
   ·exact⟨g1,g2,g3,Or.inl g4⟩
   ·exact⟨g1,g2,g3,Or.inr ⟨by omega,g6⟩⟩
  ·rintro⟨g1,g2,g3,g4 |⟨g5,g6⟩⟩
   ·exact⟨g1,g2,g3,Or.inl g4⟩
   ·by_cases hu2:u=v
    ·subst hu2;rcases hv2 with q |⟨_,q |⟨q,_⟩⟩
     ·rw[q]at g2;cases g2
     ·exact⟨g1,g2,g3,Or.inl q⟩
     ·omega
    ·exact⟨g1,g2,g3,Or.inr ⟨by omega,g6⟩⟩
theorem sX.new{e:Nat->Nat->Bool}{V L:Nat}{S0:Nat->Bool}{src:Nat->Prop}{x0 v:Nat}{S:Nat->Bool}{nx:List Nat}(h:sX e V L S0 src x0 v S nx)(hv:v<V)(hL:L<=v)(he:e x0 v=true)(hs:S v=false):sX e V L S0 src x0 (v+1) (λ u=>S u || decide (u=v)) (nx++[v]):=by
 have hv2:¬(S0 v=true\/(L<=v/\((∃ x,src x/\e x v=true)\/(v<v/\e x0 v=true)))):=λg=>by rw[(h.seen v hv).2 g]at hs;cases hs
 refine⟨λ u hu=>?_,λu=>?_,?_⟩
 ·rw[Bool.or_eq_true,aG,h.seen u hu];constructor
  ·rintro ((g |⟨g1,g2 |⟨g3,g4⟩⟩) |rfl)
   ·exact Or.inl g
   ·exact Or.inr ⟨g1,Or.inl g2⟩
   ·exact Or.inr ⟨g1,Or.inr ⟨by omega,g4⟩⟩
   ·exact Or.inr ⟨hL,Or.inr ⟨by omega,he⟩⟩
  ·rintro (g |⟨g1,g2 |⟨g3,g4⟩⟩)
   ·exact Or.inl (Or.inl g)
   ·exact Or.inl (Or.inr ⟨g1,Or.inl g2⟩)
   ·by_cases hu2:u=v
    ·exact Or.inr hu2
    ·exact Or.inl (Or.inr ⟨g1,Or.inr ⟨by omega,g4⟩⟩)
 ·rw[bf,aW,h.mem u];constructor
  ·rintro (⟨g1,g2,g3,g4 |⟨g5,g6⟩⟩ |rfl)
   ·exact⟨g1,g2,g3,Or.inl g4⟩
   ·exact⟨g1,g2,g3,Or.inr ⟨by omega,g6⟩⟩
   ·refine⟨hv,?_,hL,Or.inr ⟨by omega,he⟩⟩;cases q:S0 u with
    |false=>rfl
    |true=>exact absurd (Or.inl q) hv2
  ·rintro⟨g1,g2,g3,g4 |⟨g5,g6⟩⟩
   ·exact Or.inl ⟨g1,g2,g3,Or.inl g4⟩
   ·by_cases hu2:u=v
    ·exact Or.inr hu2
    ·exact Or.inl ⟨g1,g2,g3,Or.inr ⟨by omega,g6⟩⟩
 ·rw[List.nodup_append];refine⟨h.nodup,by simp,λa ha b hb=>?_⟩;rw[aW]at hb;subst hb;rintro rfl;have⟨g1,g2,g3,g4⟩:=(h.mem a).1 ha;exact hv2 (Or.inr ⟨g3,g4⟩)
theorem ap7{o:aU}(hv:gq o=true)(hn:1000<=n){V L b:Nat}(hV:o.values=(V:Int))(hV2:V<=12)(now:List Nat){i:Nat}(hi:i<now.length)(sg:Int){S0:Nat->Bool}{src:Nat->Prop}{S:Nat->Bool}{nx:List Nat}(h0:zj (eO o) V L S0 src S nx)(hL:L<=V):
 ∃r,iter (pu n o (b:Int) sg (il now) (i:Int)) n ((L:Int),sl V S,il nx)=some r/\
  ((eO o now[i] b=true/\(L<=b/\b<V)/\r= .inr (.inr (.inr (.inr (.inr sg)))))\/
   (¬ (eO o now[i] b=true/\L<=b)/\∃S' nx',r= .inl (sl V S',il nx')/\zj (eO o) V L S0 (λ x=>src x\/x=now[i]) S' nx')):=by
 have hlen:(il now).length=now.length:=by simp[il]
 have hg:bh (il now) (((0:Nat):Int)+(i:Int))=some ((now[i]:Nat):Int):=by rw[iT];simp[il,hi]
 have ev:(o.values:Int).toNat=V:=by rw[hV];simp
 refine Bc (step:=pu n o (b:Int) sg (il now) (i:Int)) (λ v (s:Int×List Bool×List Int)=>L<=v/\s.1=(v:Int)/\(∀ u,L<=u->u<v->¬(eO o now[i] u=true/\u=b))/\∃S' nx',s.2.1=sl V S'/\s.2.2=il nx'/\sX (eO o) V L S0 src now[i] v S' nx') V _ (λ v s hv2 hs=>?_) (λ s hs=>?_) hL n (by omega) _ ⟨aT _,rfl,λu h1 h2=>by omega,S,nx,rfl,rfl,⟨λ u hu=>?_,λu=>?_,h0.nodup⟩⟩
 ·obtain⟨s1,s2,s3⟩:=s;obtain⟨Ln,a1,a2,S',nx',a3,a4,a5⟩:=hs;simp only at a1 a3 a4;subst a1;subst a3;subst a4;have d1:decide ((v:Int)<o.values)=true:=by rw[hV];simpa using hv2
  have hnx:nx'.length<=V:=L9 V nx' a5.nodup λy hy=>((a5.mem y).1 hy).1;have hil:(il nx').length=nx'.length:=by simp[il]
  have hs1:sub ([(v:Int)]:List Int) 0 1=[(v:Int)]:=rfl;have hap:bD nx'.length nx'.length 1 1 8=true:=bB (by omega) (by simp only[maxLen];omega);have hin:br (v:Int) V=true:=bS hv2;have hbe:((v:Int)==(b:Int))=decide (v=b):=by
   by_cases h:v=b
   ·subst h;simp
   ·simp[h];omega
  cases he:eO o now[i] v with
  |false=>
   left;refine⟨(((v+1:Nat):Int),sl V S',il nx'),?_,by omega,rfl,λu h1 h2=>?_,S',nx',rfl,rfl,a5.skip he⟩
   ·simp only[pu,d1,ai,hlen,bS hi,hg,ah,tH hv hn,he,Bool.not_false,aB,fB,aR v]
   ·by_cases hu:u=v
    ·subst hu;rw[he];simp
    ·exact a2 u h1 (by omega)
  |true=>
   by_cases hb:v=b
   ·right;subst hb;have hbe:((v:Int)==(v:Int))=true:=(by simp);refine⟨.inr (.inr (.inr (.inr (.inr sg)))),?_,Or.inl ⟨he,⟨Ln,hv2⟩,rfl⟩⟩;simp only[pu,d1,ai,hlen,bS hi,hg,ah,tH hv hn,he,Bool.not_true,ak,hbe,Option.map_some];rfl
   ·have hbf:decide (v=b)=false:=(by simpa using hb);left;have a2':∀u,L<=u->u<v+1->¬(eO o now[i] u=true/\u=b):=λu h1 h2=>by
     by_cases hu:u=v
     ·subst hu;exact λh=>hb h.2
     ·exact a2 u h1 (by omega)
    cases hS:S' v with
    |true=>
     refine⟨(((v+1:Nat):Int),sl V S',il nx'),?_,by omega,rfl,a2',S',nx',rfl,rfl,a5.old hv2 hS⟩;simp only[pu,d1,ai,hlen,bS hi,hg,ah,tH hv hn,he,Bool.not_true,ak,hbe,hbf,ev,hin,Wa S' hv2,hS,aB,fB,aR v]
    |false=>
     refine⟨(((v+1:Nat):Int),sl V (λ u=>S' u || decide (u=v)),il (nx'++[v])),?_,by omega,rfl,a2',_,_,rfl,rfl,a5.new hv2 Ln he hS⟩;simp only[pu,d1,ai,hlen,bS hi,hg,ah,tH hv hn,he,Bool.not_true,ak,hbe,hbf,ev,hin,Wa S' hv2,hS,Bool.not_false,hs1,length_singleton,hil,hap,dH,aB,ap5,fB,aR v];simp[il]
 ·obtain⟨s1,s2,s3⟩:=s;obtain⟨Ln,a1,a2,S',nx',a3,a4,a5⟩:=hs;simp only at a1 a3 a4;subst a1;subst a3;subst a4;have d1:decide ((V:Int)<o.values)=false:=by rw[hV];simp
  refine⟨.inl (sl V S',il nx'),?_,Or.inr ⟨?_,S',nx',rfl,⟨λ u hu=>?_,λu=>?_,a5.nodup⟩⟩⟩
  ·simp only[pu,d1,ak,aB,ai]
  ·rintro⟨h1,h2⟩;have:=(NX hv h1).2;rw[ev]at this;exact a2 b h2 this ⟨h1,rfl⟩
  ·rw[a5.seen u hu];constructor
   ·rintro (g |⟨g1,⟨x,g2,g3⟩ |⟨g4,g5⟩⟩)
    ·exact Or.inl g
    ·exact Or.inr ⟨g1,x,Or.inl g2,g3⟩
    ·exact Or.inr ⟨g1,_,Or.inr rfl,g5⟩
   ·rintro (g |⟨g1,x,g2 |rfl,g3⟩)
    ·exact Or.inl g
    ·exact Or.inr ⟨g1,Or.inl ⟨x,g2,g3⟩⟩
    ·exact Or.inr ⟨g1,Or.inr ⟨hu,g3⟩⟩
  ·rw[a5.mem u];constructor
   ·rintro⟨g1,g2,g3,⟨x,g4,g5⟩ |⟨_,g6⟩⟩
    ·exact⟨g1,g2,g3,x,Or.inl g4,g5⟩
    ·exact⟨g1,g2,g3,_,Or.inr rfl,g6⟩
   ·rintro⟨g1,g2,g3,x,g4 |rfl,g5⟩
    ·exact⟨g1,g2,g3,Or.inl ⟨x,g4,g5⟩⟩
    ·exact⟨g1,g2,g3,Or.inr ⟨g1,g5⟩⟩
 ·rw[h0.seen u hu];constructor
  ·rintro (h |⟨h1,h2⟩)
   ·exact Or.inl h
   ·exact Or.inr ⟨h1,Or.inl h2⟩
  ·rintro (h |⟨h1,h2 |⟨h3,_⟩⟩)
   ·exact Or.inl h
   ·exact Or.inr ⟨h1,h2⟩
   ·omega
 ·rw[h0.mem u];constructor
  ·rintro⟨h1,h2,h3,h4⟩;exact⟨h1,h2,h3,Or.inl h4⟩
  ·rintro⟨h1,h2,h3,h4 |⟨h5,_⟩⟩
   ·exact⟨h1,h2,h3,h4⟩
   ·omega
theorem ap8{o:aU}(hv:gq o=true)(hn:1000<=n){V L b:Nat}(hV:o.values=(V:Int))(hV2:V<=12)(now:List Nat)(hnl:now.length<=12)(sg:Int)(S0:Nat->Bool)(hL:L<=V):
 ∃r,iter (wS n o (b:Int) (L:Int) sg (il now)) n ((0:Int),sl V S0,([]:List Int))=some r/\
  (((∃ x∈now,eO o x b=true)/\(L<=b/\b<V)/\r= .inr (.inr (.inr sg)))\/
   ((∀ x∈now,¬(eO o x b=true/\L<=b))/\∃S' nx',r= .inl (sl V S',il nx')/\zj (eO o) V L S0 (λ x=>x∈now) S' nx')):=by
 have hlen:(il now).length=now.length:=by simp[il]
 refine Bc (step:=wS n o (b:Int) (L:Int) sg (il now)) (λ i (s:Int×List Bool×List Int)=>s.1=(i:Int)/\(∀ x∈now.take i,¬(eO o x b=true/\L<=b))/\∃S' nx',s.2.1=sl V S'/\s.2.2=il nx'/\zj (eO o) V L S0 (λ x=>x∈now.take i) S' nx') now.length _ (λ i s hi hs=>?_) (λ s hs=>?_) (Nat.zero_le _) n (by omega) _ ⟨rfl,by simp,S0,[],rfl,rfl,⟨λ u _=>by simp,λu=>by simp,List.nodup_nil⟩⟩
 ·obtain⟨s1,s2,s3⟩:=s;obtain⟨a1,a2,S',nx',a3,a4,a5⟩:=hs;simp only at a1 a3 a4;subst a1;subst a3;subst a4;have⟨r,h1,h2⟩:=ap7 hv hn (b:=b) hV hV2 now hi sg a5 hL;rcases h2 with ⟨h2,h3,rfl⟩ |⟨h2,S2,Cd,rfl,h3⟩
  ·right;refine⟨.inr (.inr (.inr sg)),?_,Or.inl ⟨⟨_,getElem_mem hi,h2⟩,h3,rfl⟩⟩;simp only[wS,hlen,dm hi,ai,aB,h1,nZ]
  ·left;have et:now.take (i+1)=now.take i++[now[i]]:=dG hi;refine⟨(((i+1:Nat):Int),sl V S2,il Cd),?_,rfl,λx hx=>?_,S2,Cd,rfl,rfl,?_⟩
   ·simp only[wS,hlen,dm hi,ai,aB,h1,fB,aR i]
   ·rw[et,bf,aW]at hx;rcases hx with hx |rfl
    ·exact a2 x hx
    ·exact h2
   ·have e:(λ x=>x∈now.take (i+1))=λx=>x∈now.take i\/x=now[i]:=(by funext x;rw[et,bf,aW]);rw[e];exact h3
 ·obtain⟨s1,s2,s3⟩:=s;obtain⟨a1,a2,S',nx',a3,a4,a5⟩:=hs;simp only at a1 a3 a4;subst a1;subst a3;subst a4;rw[List.take_length]at a2 a5;refine⟨.inl (sl V S',il nx'),?_,Or.inr ⟨a2,S',nx',rfl,a5⟩⟩;simp only[wS,hlen,bT,ak,aB,ai]
def Fq(e:Nat->Nat->Bool)(V L a k x:Nat):Prop:=W3 e V L k a x/\∀j,1<=j->j<k->¬W3 e V L j a x
theorem agB{e:Nat->Nat->Bool}{V L a:Nat}:∀k x,1<=k->Fq e V L a k x->∃l:List Nat,l.length=k/\l.Nodup/\∀y∈l,y<V/\∃j,1<=j/\j<=k/\Fq e V L a j y
 | 0,x,h,_=>by omega
 | 1,x,_,h=>by
  have⟨z,_,h2,_⟩:=W3.last h.1;exact⟨[x],rfl,by simp,λy hy=>by rw[aW]at hy;subst hy;exact⟨h2.2,1,by omega,by omega,h⟩⟩
 |k+2,x,_,h=>by
  have⟨z,h1,h2,h3⟩:=W3.last h.1;have hz:Fq e V L a (k+1) z:=⟨h1,λj j1 j2 hj=>h.2 (j+1) (by omega) (by omega) (hj.snoc h2 h3)⟩;obtain⟨l,l1,l2,l3⟩:=agB (k+1) z (by omega) hz;refine⟨x::l,by simp[l1],List.nodup_cons.2 ⟨λ hx=>?_,l2⟩,λy hy=>?_⟩
  ·have⟨_,j,j1,j2,j3⟩:=l3 x hx;exact h.2 j j1 (by omega) j3.1
  ·rcases aK.1 hy with rfl |hy
   ·exact⟨h2.2,k+2,by omega,by omega,h⟩
   ·have⟨y1,j,j1,j2,j3⟩:=l3 y hy;exact⟨y1,j,j1,by omega,j3⟩
theorem min_le{e:Nat->Nat->Bool}{V L a k x:Nat}(hk:1<=k)(h:Fq e V L a k x):k<=V:=by
 have⟨l,l1,l2,l3⟩:=agB k x hk h;have:=L9 V l l2 λy hy=>(l3 y hy).1;omega
theorem ap9{e:Nat->Nat->Bool}{V L a x:Nat}:∀k,1<=k->W3 e V L k a x->∃j,1<=j/\j<=k/\Fq e V L a j x:=by
 intro k
 induction k using Nat.strongRecOn with
 |ind k ih=>
  intro h1 h2;by_cases h:∃j,1<=j/\j<k/\W3 e V L j a x
  ·obtain⟨j,j1,j2,j3⟩:=h;have⟨i,i1,i2,i3⟩:=ih j j2 j1 j3;exact⟨i,i1,by omega,i3⟩
  ·exact⟨k,h1,aT _,h2,λj j1 j2 j3=>h ⟨j,j1,j2,j3⟩⟩
structure u5(e:Nat->Nat->Bool)(V L a b k:Nat)(S:Nat->Bool)(l:List Nat):Prop where
 seen:∀u,u<V->(S u=true↔∃j,1<=j/\j<k/\W3 e V L j a u)
 mem:∀x,x∈l↔(k=1/\x=a)\/(2<=k/\Fq e V L a (k -1) x)
 len:l.length<=12
 none:∀j,1<=j->j<k->¬W3 e V L j a b
theorem u5.walk{e:Nat->Nat->Bool}{V L a b k:Nat}{S:Nat->Bool}{l:List Nat}(h:u5 e V L a b k S l)(hk:1<=k){x:Nat}(hx:x∈l):W3 e V L (k -1) a x:=by
 rcases (h.mem x).1 hx with ⟨rfl,rfl⟩ |⟨_,h2⟩
 ·rfl
 ·exact h2.1
theorem u5.from{e:Nat->Nat->Bool}{V L a b k:Nat}{S:Nat->Bool}{l:List Nat}(h:u5 e V L a b k S l)(hk:1<=k){u:Nat}(hu:W3 e V L k a u):(L<=u/\u<V)/\((∃ x∈l,e x u=true)\/∃j,1<=j/\j<k/\W3 e V L j a u):=by
 obtain⟨i,rfl⟩:∃i,k=i+1:=⟨k -1,by omega⟩;have⟨z,h1,h2,h3⟩:=W3.last hu;refine⟨h2,?_⟩;by_cases hi:i=0
 ·subst hi;have:a=z:=h1;subst this;exact Or.inl ⟨a,(h.mem a).2 (Or.inl ⟨rfl,rfl⟩),h3⟩
 ·by_cases hm:Fq e V L a i z
  ·exact Or.inl ⟨z,(h.mem z).2 (Or.inr ⟨by omega,hm⟩),h3⟩
  ·have:∃j,1<=j/\j<i/\W3 e V L j a z:=MI λhc=>hm ⟨h1,λj j1 j2 j3=>hc ⟨j,j1,j2,j3⟩⟩;obtain⟨j,j1,j2,j3⟩:=this;exact Or.inr ⟨j+1,by omega,by omega,j3.snoc h2 h3⟩
theorem u5.next{e:Nat->Nat->Bool}{V L a b k:Nat}{S S':Nat->Bool}{l nx:List Nat}(h:u5 e V L a b k S l)(hk:1<=k)(hV:V<=12)(hb:∀x∈l,¬(e x b=true/\L<=b))(hf:zj e V L S (λ x=>x∈l) S' nx):u5 e V L a b (k+1) S' nx:=by
 have up:∀{x u},x∈l->e x u=true->L<=u->u<V->W3 e V L k a u:=λhx he h1 h2=>by
  have:=(h.walk hk hx).snoc ⟨h1,h2⟩ he
  rwa [show k -1+1=k by omega]at this
 have split:∀{u},(∃ j,1<=j/\j<k+1/\W3 e V L j a u)↔(∃ j,1<=j/\j<k/\W3 e V L j a u)\/W3 e V L k a u:=λ{u}=>by
  constructor
  ·rintro⟨j,j1,j2,j3⟩;by_cases hj:j=k
   ·subst hj;exact Or.inr j3
   ·exact Or.inl ⟨j,j1,by omega,j3⟩
  ·rintro (⟨j,j1,j2,j3⟩ |h)
   ·exact⟨j,j1,by omega,j3⟩
   ·exact⟨k,hk,by omega,h⟩
 refine⟨λ u hu=>?_,λu=>?_,by have:=hf.len;omega,λj j1 j2 j3=>?_⟩
 ·rw[hf.seen u hu,h.seen u hu,split];constructor
  ·rintro (g |⟨g1,x,g2,g3⟩)
   ·exact Or.inl g
   ·exact Or.inr (up g2 g3 g1 hu)
  ·rintro (g |g)
   ·exact Or.inl g
   ·obtain⟨g1,g2 |g2⟩:=h.from hk g
    ·obtain⟨x,x1,x2⟩:=g2;exact Or.inr ⟨g1.1,x,x1,x2⟩
    ·exact Or.inl g2
 ·rw[hf.mem u];constructor
  ·rintro⟨g1,g2,g3,x,g4,g5⟩;refine Or.inr ⟨by omega,?_,λj j1 j2 j3=>?_⟩
   ·rw[Nat.add_sub_cancel];exact up g4 g5 g3 g1
   ·rw[(h.seen u g1).2 ⟨j,j1,by omega,j3⟩]at g2;cases g2
  ·rintro (⟨g1,_⟩ |⟨_,g2,g3⟩)
   ·omega
   ·rw[Nat.add_sub_cancel]at g2 g3;have⟨q1,q2⟩:=h.from hk g2;have hS:S u=false:=by
     cases hS:S u with
     |false=>rfl
     |true=>
      have⟨j,j1,j2,j3⟩:=(h.seen u q1.2).1 hS;exact absurd j3 (g3 j j1 j2)
    rcases q2 with ⟨x,x1,x2⟩ |⟨j,j1,j2,j3⟩
    ·exact⟨q1.2,hS,q1.1,x,x1,x2⟩
    ·exact absurd j3 (g3 j j1 j2)
 ·by_cases hj:j=k
  ·subst hj;obtain⟨g1,⟨x,g2,g3⟩ |⟨i,i1,i2,i3⟩⟩:=h.from j1 j3
   ·exact hb x g2 ⟨g3,g1.1⟩
   ·exact h.none i i1 i2 i3
  ·exact h.none j j1 (by omega) j3
theorem OK{o:aU}(hv:gq o=true)(hn:1000<=n){V L a b:Nat}(hV:o.values=(V:Int))(hV2:V<=12)(hL:L<=V):∃w:Nat,IY n o (a:Int) (b:Int) (L:Int)=some (w:Int)/\N2 (eO o) V L a b w:=by
 have ev:(o.values:Int).toNat=V:=by rw[hV];simp
 have mk:J9 o.values 1=true:=by rw[hV];exact Rr (by omega) (by simp only[maxLen];omega)
 have d1:decide (o.values<=o.values)=true:=by simp
 have d2:decide (0<=o.values)=true:=by rw[hV];simp
 have l1:bb 1 ([(a:Int)]:List Int).length=true:=rfl;have hz:bb 0 ([]:List Int).length=true:=rfl;have key:∃r,iter (wT n o (b:Int) (L:Int)) n ((1:Int),List.replicate V false,([(a:Int)]:List Int))=some r/\((r= .inl ()/\∀k,1<=k->¬W3 (eO o) V L k a b)\/∃w:Nat,r= .inr (w:Int)/\1<=w/\w<=V/\Fq (eO o) V L a w b):=by
  rw[aoZ];refine Bc (step:=wT n o (b:Int) (L:Int)) (λ k (s:Int×List Bool×List Int)=>1<=k/\s.1=(k:Int)/\∃S l,s.2.1=sl V S/\s.2.2=il l/\u5 (eO o) V L a b k S l) (V+1) _ (λ k s hk hs=>?_) (λ s hs=>?_) (show 1<=V+1 by omega) n (by omega) _ ⟨aT _,rfl,λ_=>false,[a],rfl,rfl,⟨λ u _=>⟨λ h=>(by cases h),λ⟨j,j1,j2,_⟩=>(by omega)⟩,λx=>⟨λ h=>Or.inl ⟨rfl,aW.1 h⟩,λh=>?_⟩,by simp,λj j1 j2=>(by omega)⟩⟩
  ·obtain⟨s1,s2,s3⟩:=s;obtain⟨hk1,a1,S,l,a3,a4,a5⟩:=hs;simp only at a1 a3 a4;subst a1;subst a3;subst a4;have d:decide ((k:Int)<=o.values)=true:=(by rw[hV,aG];omega);have⟨r,h1,h2⟩:=ap8 hv hn (b:=b) hV hV2 l a5.len (k:Int) S hL;rcases h2 with ⟨⟨x,x1,x2⟩,h3,rfl⟩ |⟨h2,S2,Cd,rfl,h3⟩
   ·right;refine⟨.inr (k:Int),?_,Or.inr ⟨k,rfl,hk1,by omega,?_,a5.none⟩⟩
    ·simp only[wT,d,ai,hz,h1,nZ]
    ·have:=(a5.walk hk1 x1).snoc h3 x2
     rwa [show k -1+1=k by omega]at this
   ·left;refine⟨(((k+1:Nat):Int),sl V S2,il Cd),?_,by omega,rfl,S2,Cd,rfl,rfl,a5.next hk1 hV2 h2 h3⟩;simp only[wT,d,ai,hz,h1,fB,aB,aR k]
  ·obtain⟨s1,s2,s3⟩:=s;obtain⟨hk1,a1,S,l,a3,a4,a5⟩:=hs;simp only at a1 a3 a4;subst a1;subst a3;subst a4;have d:decide (((V+1:Nat):Int)<=o.values)=false:=(by rw[hV,dn];omega);refine⟨.inl (),?_,Or.inl ⟨rfl,λk hk hw=>?_⟩⟩
   ·simp only[wT,d,ak]
   ·have⟨j,j1,j2,j3⟩:=ap9 k hk hw;exact a5.none j j1 (by have:=min_le j1 j3;omega) j3.1
  ·rcases h with ⟨_,rfl⟩ |⟨h,_⟩
   ·simp
   ·omega
 obtain⟨r,h1,h2⟩:=key;unfold IY;rw[ev,d1,d2,mk,l1,h1];rcases h2 with ⟨rfl,h2⟩ |⟨w,rfl,h2,h3,h4⟩
 ·exact⟨0,rfl,Or.inl ⟨rfl,h2⟩⟩
 ·exact⟨w,rfl,Or.inr ⟨h2,h3,h4.1,h4.2⟩⟩
theorem Ni{o:aU}(hv:gq o=true):∃V:Nat,o.values=(V:Int)/\1<=V/\V<=12:=by
 simp only[gq,aD,aG]at hv;exact⟨o.values.toNat,by omega,by omega,by omega⟩
theorem N1{o:aU}(hv:gq o=true){V:Nat}(hV:o.values=(V:Int)){a b:Nat}:Tc (eO o) a b↔∃k,1<=k/\W3 (eO o) V 0 k a b:=by
 have ev:o.values.toNat=V:=by rw[hV];simp
 have⟨V',hV',_,hV2⟩:=Ni hv;have hVV:V<=12:=by omega
 constructor
 ·intro h
  induction h with
  |one h1 h2 h3=>exact⟨1,aT _,_,⟨Nat.zero_le _,by have:=(NX hv h3).2;omega⟩,h3,rfl⟩
  |trans _ _ i1 i2=>
   obtain⟨k,k1,k2⟩:=i1;obtain⟨m,m1,m2⟩:=i2;exact⟨k+m,by omega,k2.app m2⟩
 ·rintro⟨k,k1,k2⟩
  induction k generalizing a with
  |zero=>omega
  |succ k ih=>
   obtain⟨v,h1,h2,h3⟩:=k2;have hl:=NX hv h2;by_cases hk:k=0
   ·subst hk;have:v=b:=h3;subst this;exact .one (by omega) (by omega) h2
   ·exact Tc.trans (.one (by omega) (by omega) h2) (ih (by omega) h3)
theorem Rz(hn:1000<=n)(o:aU):Gx n o=some (gq o):=by
 have d1:decide (o.values<1)=!decide (1<=o.values):=by rw[<- decide_not,decide_eq_decide];omega
 have d2:decide (o.values>12)=!decide (o.values<=12):=by rw[<- decide_not,decide_eq_decide];omega
 have d3:decide ((o.pairs.length:Int)>144)=!decide (o.pairs.length<=144):=by rw[<- decide_not,decide_eq_decide];omega
 unfold Gx gq;rw[d1,d2,d3];cases decide (1<=o.values)with
 |false=>rfl
 |true=>
  cases decide (o.values<=12)with
  |false=>rfl
  |true=>
   cases hl:decide (o.pairs.length<=144)with
   |false=>rfl
   |true=>
    rw[aG]at hl;simp only[Bool.not_true,ak,ah];rw[fV (l:=o.pairs) (step:=Al o) (λ p=>!(vE o p)) () false (λ i hi=>by
     have e:((bif decide ((o.pairs[i]).a0<0)then some true else(bif decide ((o.pairs[i]).a0>=o.values)then some true else(bif decide ((o.pairs[i]).a1<0)then some true else some (decide ((o.pairs[i]).a1>=o.values))))):Option Bool)=some (!(vE o o.pairs[i])):=by
      have p1:vE o o.pairs[i]=(!decide ((o.pairs[i]).a0<0)&&(!decide ((o.pairs[i]).a0>=o.values)&&(!decide ((o.pairs[i]).a1<0)&&!decide ((o.pairs[i]).a1>=o.values)))):=by
       rw[eu];simp only[vE,aD,Bool.not_eq_true',aG,dn];omega
      rw[p1];cases decide ((o.pairs[i]).a0<0)<;>cases decide ((o.pairs[i]).a0>=o.values)<;>cases decide ((o.pairs[i]).a1<0)<;>cases decide ((o.pairs[i]).a1>=o.values)<;>rfl
     simp only[Al,dm hi,ai,aZ hi,ah,e,aR i];cases vE o o.pairs[i]<;>rfl) (by simp only[Al,bT,ak]) n (by omega)]
    have e:(o.pairs.any λp=>!vE o p)=!(o.pairs.all (vE o)):=(by rw[List.all_eq_not_any_not,Bool.not_not]);rw[e];cases o.pairs.all (vE o)<;>rfl
theorem aaJ{o:aU}(hv:gq o=true)(hn:1000<=n){a b:Nat}(ha:(a:Int)<o.values)(hb:(b:Int)<o.values):Ja n o (a:Int) (b:Int)=some (io o a b):=by
 have⟨V,hV,hV1,hV2⟩:=Ni hv;obtain⟨w,w1,w2⟩:=OK hv hn (a:=a) (b:=b) hV hV2 (Nat.zero_le V);unfold Ja io;have w1':IY n o (a:Int) (b:Int) 0=some (w:Int):=w1;rw[w1'];by_cases h:a=b
 ·subst h;have:((a:Int)==(a:Int))=true:=by simp
  rw[this];simp[ha]
 ·have:((a:Int)==(b:Int))=false:=by simp;omega
  rw[this];simp only[ak,ah,h,decide_false,Bool.false_and,Bool.or_false];congr 1;rw[eu,aG,Rq,N1 hv hV];rcases w2 with ⟨rfl,h2⟩ |⟨h2,h3,h4,h5⟩
  ·constructor
   ·intro h;omega
   ·rintro⟨k,k1,k2⟩;exact absurd k2 (h2 k k1)
  ·constructor
   ·intro _;exact⟨w,h2,h4⟩
   ·intro _;omega
theorem alu{e:Nat->Nat->Bool}{V L a b w k:Nat}(h:N2 e V L a b w)(hk:1<=k)(hm:Fq e V L a k b):w=k:=by
 rcases h with ⟨_,h2⟩ |⟨h1,h2,h3,h4⟩
 ·exact absurd hm.1 (h2 k hk)
 ·by_cases h5:w<k
  ·exact absurd h3 (hm.2 w h1 h5)
  ·by_cases h6:k<w
   ·exact absurd hm.1 (h4 k hk h6)
   ·omega
theorem agC{e:Nat->Nat->Bool}{V L a b w:Nat}(h:N2 e V L a b w)(hw:1<=w):Fq e V L a w b:=by
 rcases h with ⟨h1,_⟩ |⟨_,_,h3,h4⟩
 ·omega
 ·exact⟨h3,h4⟩
theorem alv{o:aU}(hv:gq o=true)(hn:1000<=n){V:Nat}(hV:o.values=(V:Int))(hV2:V<=12):
 ∃r,iter (rJ n o) n ((0:Int),(0:Int),(0:Int))=some r/\((r.1=0/\∀s,s<V->∀k,1<=k->¬W3 (eO o) V s k s s)\/∃B w:Nat,r=((B:Int),(w:Int))/\1<=B/\w<V/\Fq (eO o) V w w B w):=by
 refine Rh (step:=rJ n o) (λ i (s:Int×Int×Int)=>s.2.2=(i:Int)/\((s.1=0/\∀u,u<i->∀k,1<=k->¬W3 (eO o) V u k u u)\/∃B w:Nat,s.1=(B:Int)/\s.2.1=(w:Int)/\1<=B/\w<V/\Fq (eO o) V w w B w)) V _ (λ i s hi hs=>?_) (λ s hs=>?_) n (by omega) _ ⟨rfl,Or.inl ⟨rfl,λu hu=>(by omega)⟩⟩
 ·obtain⟨s1,s2,s3⟩:=s;obtain⟨a1,a2⟩:=hs;simp only at a1 a2;subst a1;have d1:decide ((i:Int)<o.values)=true:=by rw[hV];simpa using hi
  obtain⟨w,w1,w2⟩:=OK hv hn (a:=i) (b:=i) hV hV2 (Nat.le_of_lt hi);simp only[rJ,d1,ai,w1,ah,aR i];by_cases hw:w=0
  ·have d2:decide ((w:Int)>0)=false:=(by rw[dn];omega);simp only[d2,ak,ah];refine⟨_,rfl,rfl,?_⟩;rcases a2 with ⟨g1,g2⟩ |g
   ·refine Or.inl ⟨g1,λu hu k hk=>?_⟩;by_cases t5:u=i
    ·subst t5;rcases w2 with ⟨_,h2⟩ |⟨h2,_⟩
     ·exact h2 k hk
     ·omega
    ·exact g2 u (by omega) k hk
   ·exact Or.inr g
  ·have d2:decide ((w:Int)>0)=true:=(by rw[aG];omega);have hm:=agC w2 (by omega);simp only[d2,ai,ah];cases hb:s1==0 with
   |true=>
    simp only[ai,ah];exact⟨_,rfl,rfl,Or.inr ⟨w,i,rfl,rfl,by omega,hi,hm⟩⟩
   |false=>
    simp only[ak,ah];cases decide ((w:Int)<s1)with
    |true=>
     simp only[ai,ah];exact⟨_,rfl,rfl,Or.inr ⟨w,i,rfl,rfl,by omega,hi,hm⟩⟩
    |false=>
     simp only[ak,ah];refine⟨_,rfl,rfl,?_⟩;rcases a2 with ⟨g1,_⟩ |g
     ·rw[g1]at hb;simp at hb
     ·exact Or.inr g
 ·obtain⟨s1,s2,s3⟩:=s;obtain⟨a1,a2⟩:=hs;simp only at a1 a2;subst a1;have d1:decide ((V:Int)<o.values)=false:=by rw[hV];simp
  refine⟨(s1,s2),by simp only[rJ,d1,ak],?_⟩;rcases a2 with ⟨g1,g2⟩ |⟨B,w,g1,g2,g3⟩
  ·exact Or.inl ⟨g1,g2⟩
  ·exact Or.inr ⟨B,w,by rw[g1,g2],g3⟩
theorem alx{o:aU}(hv:gq o=true)(hn:1000<=n){V:Nat}(hV:o.values=(V:Int))(hV2:V<=12){B w x m:Nat}(hB:B<=12)(hw:w<V)(l:List Nat)(hl:l.length+m=B)(hm:1<=m)(hx:Fq (eO o) V w x (m+1) w):
 ∃r,iter (oq n o (B:Int) (w:Int) (x:Int)) n (((w+1:Nat):Int),il l)=some r/\∃v,r=il (l++[v])/\Fq (eO o) V w v m w:=by
 have hil:(il l).length=l.length:=by simp[il]
 have hwr:i64.wrap ((B:Int) -(l.length:Int))=(m:Int):=by rw[cB (by omega) (by omega)];omega
 have hex:∃v,w<v/\v<V/\eO o x v=true/\Fq (eO o) V w v m w:=by
  obtain⟨v,h1,h2,h3⟩:=hx.1;have hmn:Fq (eO o) V w v m w:=⟨h3,λj j1 j2 j3=>hx.2 (j+1) (by omega) (by omega) ⟨v,h1,h2,j3⟩⟩;have hne:v≠w:=by
   rintro rfl;exact hx.2 1 (by omega) (by omega) ⟨v,h1,h2,rfl⟩
  exact⟨v,by omega,h1.2,h2,hmn⟩
 refine Bc (step:=oq n o (B:Int) (w:Int) (x:Int)) (λ i (s:Int×List Int)=>s.1=(i:Int)/\s.2=il l/\∀u,w<u->u<i->¬(eO o x u=true/\Fq (eO o) V w u m w)) V (λ r=>∃v,r=il (l++[v])/\Fq (eO o) V w v m w) (λ i s hi hs=>?_) (λ s hs=>?_) (show w+1<=V by omega) n (by omega) _ ⟨rfl,rfl,λu h1 h2=>(by omega)⟩
 ·obtain⟨s1,s2⟩:=s;obtain⟨a1,a2,a3⟩:=hs;simp only at a1 a2;subst a1;subst a2;have d1:decide ((i:Int)<o.values)=true:=by rw[hV];simpa using hi
  have hs1:sub ([(i:Int)]:List Int) 0 1=[(i:Int)]:=rfl;have hap:bD l.length l.length 1 1 8=true:=bB (by omega) (by simp only[maxLen];omega);have cont:¬(eO o x i=true/\Fq (eO o) V w i m w)->∀u,w<u->u<i+1->¬(eO o x u=true/\Fq (eO o) V w u m w):=λhc u h1 h2=>by
   by_cases hu:u=i
   ·subst hu;exact hc
   ·exact a3 u h1 (by omega)
  cases he:eO o x i with
  |false=>
   left;refine⟨(((i+1:Nat):Int),il l),?_,rfl,rfl,cont (by rw[he];simp)⟩;simp only[oq,d1,ai,tH hv hn,he,ah,ak,aB,aR i]
  |true=>
   obtain⟨wv,w1,w2⟩:=OK hv hn (a:=i) (b:=w) hV hV2 (Nat.le_of_lt hw);by_cases hq:wv=m
   ·right;have d2:((wv:Int)==(m:Int))=true:=(by rw[hq];simp);refine⟨il (l++[i]),?_,i,rfl,?_⟩
    ·simp only[oq,d1,ai,tH hv hn,he,ah,w1,hil,hwr,d2,hs1,length_singleton,hap,dH,aB];simp[il]
    ·subst hq;exact agC w2 hm
   ·left;have d2:((wv:Int)==(m:Int))=false:=(by simp;omega);refine⟨(((i+1:Nat):Int),il l),?_,rfl,rfl,cont (λ h=>hq (alu w2 hm h.2))⟩;simp only[oq,d1,ai,tH hv hn,he,ah,w1,hil,hwr,d2,ak,aB,aR i]
 ·obtain⟨s1,s2⟩:=s;obtain⟨a1,a2,a3⟩:=hs;obtain⟨v,v1,v2,v3,v4⟩:=hex;exact absurd ⟨v3,v4⟩ (a3 v v1 v2)
theorem Oq{o:aU}(hv:gq o=true)(hn:1000<=n):∃L,BO n o=some L/\decide ((L.length:Int)>0)=Pf o:=by
 have⟨V,hV,hV1,hV2⟩:=Ni hv;have L4:∀s k,1<=k->W3 (eO o) V s k s s->Pf o=true:=λs k hk h=>Rs.2 ⟨s,(N1 hv hV).2 ⟨k,hk,h.mono (Nat.zero_le _)⟩⟩;have⟨r,h1,h2⟩:=alv hv hn hV hV2;unfold BO;rw[h1];rcases h2 with ⟨h2,h3⟩ |⟨B,w,rfl,hB,hw,hm⟩
 ·obtain⟨r1,r2⟩:=r;simp only at h2;subst h2;refine⟨[],rfl,?_⟩;cases hc:Pf o with
  |false=>rfl
  |true=>
   exfalso;have⟨a,ha⟩:=Rs.1 hc;have⟨k,k1,k2⟩:=(N1 hv hV).1 ha;have least:∀N,∀a,a<=N->(∃ k,1<=k/\W3 (eO o) V 0 k a a)->∃s,(∃ k,1<=k/\W3 (eO o) V 0 k s s)/\∀u,u<s->¬∃k,1<=k/\W3 (eO o) V 0 k u u:=by
    intro N
    induction N with
    |zero=>
     intro a ha h;exact⟨a,h,λu hu=>by omega⟩
    |succ N ih=>
     intro a ha h;by_cases hx:∃u,u<a/\∃k,1<=k/\W3 (eO o) V 0 k u u
     ·obtain⟨u,u1,u2⟩:=hx;exact ih u (by omega) u2
     ·exact⟨a,h,λu hu h=>hx ⟨u,hu,h⟩⟩
   obtain⟨s,⟨k,k1,k2⟩,s2⟩:=least a a (aT _) ⟨k,k1,k2⟩;have up:∀j i x,W3 (eO o) V 0 i s x->W3 (eO o) V 0 j x s->W3 (eO o) V s j x s:=by
    intro j
    induction j with
    |zero=>intro i x _ h;exact h
    |succ j ih=>
     intro i x hi ⟨v,g1,g2,g3⟩;have hsv:=hi.snoc g1 g2;refine⟨v,⟨?_,g1.2⟩,g2,ih (i+1) v hsv g3⟩;exact Nat.le_of_not_lt λhlt=>s2 v hlt ⟨j+(i+1),by omega,g3.app hsv⟩
   have hss:=up k 0 s rfl k2;have hsV:s<V:=by
    obtain⟨k',rfl⟩:∃k',k=k'+1:=⟨k -1,by omega⟩;have⟨_,_,g,_⟩:=W3.last k2;exact g.2
   exact h3 s hsV k k1 hss
 ·have hBV:=min_le hB hm;have d1:((B:Int)==0)=false:=by simp;omega
  have l1:bb 1 ([(w:Int)]:List Int).length=true:=rfl;have key:∃r,iter (rM n o (B:Int) (w:Int)) n ([(w:Int)]:List Int)=some r/\r.length=B:=by
   refine agb (step:=rM n o (B:Int) (w:Int)) (λ v=>∃(l:List Nat)(x m:Nat),v=il (l++[x])/\l.length+1+m=B/\Fq (eO o) V w x (m+1) w) (λ r=>r.length=B) (λ v=>B -v.length) (λ v hi=>?_) n _ ⟨[],w,B -1,rfl,by simp;omega,by rw[show B -1+1=B by omega];exact hm⟩ (by simp;omega);obtain⟨l,x,m,rfl,e1,e2⟩:=hi;have hil:(il (l++[x])).length=l.length+1:=(by simp[il]);by_cases hmz:m=0
   ·right;have d:decide (((l.length+1:Nat):Int)<(B:Int))=false:=(by rw[dn];omega);refine⟨il (l++[x]),?_,by rw[hil];omega⟩;simp only[rM,hil,d,ak,aB,ai]
   ·left;have d:decide (((l.length+1:Nat):Int)<(B:Int))=true:=(by rw[aG];omega);have wp:i64.wrap (((l.length+1:Nat):Int) -1)=(l.length:Int):=(by rw[iJ (by omega) (by omega)];rfl);have ib:br (l.length:Int) (l.length+1)=true:=bS (by omega);have ga:bh (il (l++[x])) (((0:Nat):Int)+(l.length:Int))=some (x:Int):=(by rw[iT];simp[il]);have ww:i64.wrap ((w:Int)+1)=((w+1:Nat):Int):=aO (by omega);obtain⟨r,r1,v,r2,r3⟩:=alx hv hn hV hV2 (B:=B) (m:=m) (by omega) hw (l++[x]) (by simp;omega) (by omega) e2;subst r2;obtain⟨m',rfl⟩:∃m',m=m'+1:=⟨m -1,by omega⟩;refine⟨il (l++[x]++[v]),?_,⟨l++[x],v,m',rfl,by simp;omega,r3⟩,?_⟩
    ·simp only[rM,hil,d,ai,wp,ib,ga,ah,aB,ww,r1]
    ·rw[hil];simp[il];omega
  obtain⟨r,r1,r2⟩:=key;simp only[ah,d1,ak,l1,ai,r1,bG,aB];refine⟨r,rfl,?_⟩;rw[L4 w B hB hm.1,aG,r2];omega
theorem RA(hn:1000<=n)(os:List aU)(hl:os.length<n)(hl2:os.length<9223372036854775807):Gy n os=some (os.all l8&&decide (os.length<=12)):=by
 unfold Gy;rw[fV (l:=os) (step:=Am n os) (λ o=>!l8 o) () false (λ i hi=>by
  simp only[Am,dm hi,ai,aZ hi,ah,Rz hn,aR i];unfold l8;cases hv:gq os[i]with
  |false=>simp only[Bool.not_false,ai,ah,Bool.false_and,Option.map_some]
  |true=>
   have⟨L,h1,h2⟩:=Oq hv hn;simp only[Bool.not_true,ak,h1,ah,h2,Bool.true_and,Bool.not_not];cases Pf os[i]<;>rfl) (by simp only[Am,bT,ak]) n hl]
 have e:(os.any λo=>!l8 o)=!(os.all l8):=by rw[List.all_eq_not_any_not,Bool.not_not]
 have d:decide ((os.length:Int)<=12)=decide (os.length<=12):=by rw[decide_eq_decide];omega
 rw[e,d];cases os.all l8<;>rfl
theorem Zl(hn:1000<=n){o:aU}(hk:l8 o=true):Et n o=some (gu o,[],0):=by
 have hk2:=hk;simp only[l8,aD,Bool.not_eq_true']at hk2;obtain⟨hv,hc⟩:=hk2;have⟨V,hV,hV1,hV2⟩:=Ni hv;have⟨L,h1,h2⟩:=Oq hv hn;have hz:bb 0 ([]:List (List Bool)).length=true:=rfl;have hz2:bb 0 ([]:List Bool).length=true:=rfl;have ev:o.values.toNat=V:=by rw[hV];simp
 have row:∀a,a<V->iter (pF n o (a:Int)) n ((0:Int),([]:List Bool))=some ((List.range V).map (io o a)):=λa ha=>by
  refine dz (step:=pF n o (a:Int)) (λ i=>((i:Int),(List.range i).map (io o a))) V _ rfl (λ i hi=>?_) ?_ n (by omega)
  ·have d:decide ((i:Int)<o.values)=true:=(by rw[hV];simpa using hi);have hs:∀b:Bool,sub ([b]:List Bool) 0 1=[b]:=λ_=>rfl;have hl:((List.range i).map (io o a)).length=i:=(by simp);have hap:bD i i 1 1 1=true:=bB (by omega) (by simp only[maxLen];omega);simp only[pF,d,ai,aaJ hv hn (a:=a) (b:=i) (by rw[hV];omega) (by rw[hV];omega),ah,hs,length_singleton,hl,hap,dH,aB,aR i];rw[List.range_succ,map_append];rfl
  ·have d:decide ((V:Int)<o.values)=false:=(by rw[hV];simp);simp only[pF,d,ak,aB,ai]
 have all:iter (pG n o) n ((0:Int),([]:List (List Bool)))=some (gu o):=by
  refine dz (step:=pG n o) (λ i=>((i:Int),(List.range i).map λa=>(List.range V).map (io o a))) V _ rfl (λ i hi=>?_) ?_ n (by omega)
  ·have d:decide ((i:Int)<o.values)=true:=(by rw[hV];simpa using hi);have hs:∀b:List Bool,sub ([b]:List (List Bool)) 0 1=[b]:=λ_=>rfl;have hl:((List.range i).map λa=>(List.range V).map (io o a)).length=i:=(by simp);have hap:bD i i 1 1 24=true:=bB (by omega) (by simp only[maxLen];omega);simp only[pG,d,ai,hz2,row i hi,ah,bG,aB,hs,length_singleton,hl,hap,dH,aR i];rw[List.range_succ,map_append];rfl
  ·have d:decide ((V:Int)<o.values)=false:=(by rw[hV];simp);simp only[pG,d,ak,aB,ai];rw[gu,ev]
 unfold Et;rw[Rz hn,hv,h1];simp only[ah,Bool.not_true,ak,h2,hc,hz,ai,all,bG,aB]
theorem aiK{o:aU}(h:l8 o=true):(((gu o).length:Nat):Int)=o.values:=by
 simp only[l8,aD]at h;have⟨V,hV,_,_⟩:=Ni h.1;simp[gu,hV]
theorem Ot{os:List aU}(hk:os.all l8=true)(v:List Int)(hn:os.length<n)(hm:os.length<9223372036854775807):tq n os v=some (qR (os.map gu) v):=by
 have hM:(os.map gu).length=os.length:=by simp
 unfold tq qR;rw[hM];by_cases hl:v.length=os.length
 ·have e1:((v.length:Int) !=(os.length:Int))=false:=by simp;omega
  rw[fV (l:=List.range os.length) (step:=xU os v) (λ i=>!(Ma (os.map gu) v i)) () false (λ i hi=>by
   rw[List.length_range]at hi;have hv:i<v.length:=(by omega);have hr:=aiK (all_eq_true.1 hk _ (getElem_mem hi));have e:decide ((i:Int)<(os.length:Int))=true:=(by simpa using hi);have hMi:(os.map gu)[i]? =some (gu os[i]):=(by simp[hi]);simp only[xU,e,ai,aZ hv,aZ hi,ah,List.getElem_range,Ma,dI hv,hMi,aR i,hr];have d1:decide (v[i] <0)=!decide (0<=v[i]):=(by rw[<- decide_not,decide_eq_decide];omega);have d2:decide (v[i]>=os[i].values)=!decide (v[i] <os[i].values):=(by rw[<- decide_not,decide_eq_decide];omega);rw[d1,d2];cases decide (0<=v[i])<;>cases decide (v[i] <os[i].values)<;>rfl) (by
   rw[List.length_range];simp only[xU,bT,ak]) n (by simpa using hn)]
  have e:((List.range os.length).any λi=>!(Ma (os.map gu) v i))=!((List.range os.length).all (Ma (os.map gu) v)):=by rw[List.all_eq_not_any_not,Bool.not_not]
  rw[e,e1];simp only[ak,hl,decide_true,Bool.true_and];cases (List.range os.length).all (Ma (os.map gu) v)<;>rfl
 ·have e1:((v.length:Int) !=(os.length:Int))=true:=by simp;omega
  simp[e1,hl]
theorem RB(hn:1000<=n)(os:List aU)(base:List aH)(hb:base.length<n)(hl:os.length<n)(hl2:os.length<9223372036854775807):GI n os base=some (dW os base).2:=by
 unfold GI dW Ch;rw[RA hn os hl hl2];have dd:decide ((base.length:Int)>2000)=!decide (base.length<=2000):=by rw[<- decide_not,decide_eq_decide];omega
 rw[dd];cases hk:os.all l8 with
 |false=>
  simp only[Bool.false_and,ah,Bool.not_false,ai];rw[aM (by simp)]
 |true=>
  by_cases h12:os.length<=12
  ·simp only[Bool.true_and,h12,decide_true,ah,Bool.not_true,ak];rw[aP (by simp)];simp only;by_cases t8:base.length<=2000
   ·have bd:∀i,i<base.length->∀x,base[i]? =some x->iter (vv base (i:Int)) n (0:Int)=some (bif (base.take i).any (λ b=>decide (x.id=b.id))then .inr (.inr (.inr false))else .inl ()):=λi hi x hx=>by
     have hlen:(base.take i).length=i:=(by simp;omega);have⟨_,hx⟩:=fe.1 hx;refine fV (l:=base.take i) (step:=vv base (i:Int)) (λ b=>decide (x.id=b.id)) () (.inr (.inr false)) (λ k hk=>?_) ?_ n (by omega)
     ·have hki:k<i:=(by omega);have hkb:k<base.length:=(by omega);have e:decide ((k:Int)<(i:Int))=true:=(by simpa using hki);have eg:(base.take i)[k]=base[k]:=(by simp);have eq:(base[k].id==x.id)=decide (x.id=base[k].id):=(by rw[eu,beq_iff_eq,aG];exact eq_comm);simp only[vv,e,ai,aZ hi,aZ hkb,ah,hx,eq,eg,aR k];cases decide (x.id=base[k].id)<;>rfl
     ·rw[hlen];simp only[vv,bT,ak]
    have outer:=fV (l:=List.range base.length) (step:=Ao n os base) (λ i=>!(Jq (os.map gu) base i)) () false (λ i hi=>by
     rw[List.length_range]at hi;have e:decide ((i:Int)<(base.length:Int))=true:=(by simpa using hi);simp only[Ao,e,ai,aZ hi,ah,Ot (n:=n) hk _ hl hl2,bd i hi _ (dI hi),List.getElem_range,Jq,dI hi,aR i];cases qR (os.map gu) base[i].values with
     |false=>cases (base.take i).any λb=>decide (base[i].id=b.id)<;>rfl
     |true=>cases (base.take i).any λb=>decide (base[i].id=b.id)<;>rfl) (by
     rw[List.length_range];simp only[Ao,bT,ak]) n (by simpa using hb)
    have e:((List.range base.length).any λi=>!(Jq (os.map gu) base i))=!(gA (os.map gu) base):=(by rw[gA,List.all_eq_not_any_not,Bool.not_not]);rw[outer,e];simp only[t8,decide_true,Bool.not_true,ak];cases gA (os.map gu) base<;>rfl
   ·simp only[t8,decide_false,Bool.not_false,ai];split<;>rfl
  ·simp only[Bool.true_and,h12,decide_false,ah,Bool.not_false,ai];rw[aM (by simp)]
theorem J4(hn:1000<=n){os:List aU}(hk:os.all l8=true)(hl:os.length<=12):vw n os=some (os.map gu):=by
 have hz:bb 0 ([]:List (List (List Bool))).length=true:=rfl;unfold vw;have key:=dz (step:=sN n os) (λ i=>((i:Int),(os.take i).map gu)) (s:=((0:Int),([]:List (List (List Bool))))) os.length (os.map gu) rfl (λ i hi=>by
  have hs1:∀r:List (List Bool),sub ([r]:Mx) 0 1=[r]:=λ_=>rfl;have h1:((os.take i).map gu).length=i:=by simp;omega
  have hap:bD i i 1 1 24=true:=bB (by omega) (by simp only[maxLen];omega);simp only[sN,dm hi,ai,aZ hi,ah,Zl hn (all_eq_true.1 hk _ (getElem_mem hi)),bG,aB,h1,hs1,length_singleton,hap,dH,aR i];rw[dG hi,map_append];rfl) (by simp only[sN,bT,ak,aB,ai,List.take_length]) n (by omega)
 simp only[hz,ai,key,ah,bG,aB]
theorem Ou{M:Mx}(hq:zc M){a b:List Int}(ha:qR M a=true)(hb:qR M b=true)(hn:M.length<n)(hm:M.length<=12):BV n M a b=some (Js M a b):=by
 unfold BV Js;have key:=dz (step:=xV M a b) (λ i=>((i:Int),((List.range i).filter λi=>!(Jr M a b i)).map λi:Nat=>(i:Int))) (s:=((0:Int),([]:List Int))) M.length (((List.range M.length).filter λi=>!(Jr M a b i)).map λi:Nat=>(i:Int)) (by simp) (λ i hi=>by
  have e:decide ((i:Int)<(M.length:Int))=true:=by simpa using hi
  have⟨x,hx1,hx2⟩:=H0 ha hi;have⟨y,hy1,hy2⟩:=H0 hb hi;have hr:(M[i][x]'hx2).length=M[i].length:=hq _ (getElem_mem hi) _ (getElem_mem hx2);have hle:Jr M a b i=(M[i][x]'hx2)[y]'(by rw[hr];exact hy2):=by
   simp only[Jr,dI hi,hx1,hy1,Int.toNat_natCast,dI hx2,ah];rw[dI (by rw[hr];exact hy2)];rfl
  have hs1:sub ([(i:Int)]:List Int) 0 1=[(i:Int)]:=rfl;generalize hL:((List.range i).filter λi=>!(Jr M a b i)).map (λ i:Nat=>(i:Int))=L;have hlen:L.length<=i:=by
   rw[<- hL,length_map];exact Nat.le_trans (length_filter_le _ _) (by simp)
  have hap:bD L.length L.length 1 1 8=true:=bB (by omega) (by simp only[maxLen];omega);have hN:((List.range (i+1)).filter λi=>!(Jr M a b i)).map (λ i:Nat=>(i:Int))=L++(if Jr M a b i=true then []else [(i:Int)]):=by
   rw[List.range_succ,filter_append,map_append,hL];cases h:Jr M a b i<;>simp[h]
  rw[hN];simp only[xV,e,ai,aZ hi,ah,YA,hx1,hy1,dI hx2];rw[dI (show y<(M[i][x]'hx2).length by rw[hr];exact hy2),<- hle];simp only[ah,aR i];cases Jr M a b i with
  |true=>simp only[Bool.not_true,ak,aB,ai,ah,if_true,append_nil]
  |false=>simp only[Bool.not_false,ai,hs1,length_singleton,hap,dH,aB,ah];rfl) (by simp only[xV,bT,ak,aB,ai]) n hn
 have hz:bb 0 ([]:List Int).length=true:=rfl;simp only[hz,ai,key,ah,bG,aB]
theorem Mh{M:Mx}(hq:zc M){c:aH}{w:List Int}(ha:qR M c.values=true)(hb:qR M w=true)(hn:M.length<n)(hm:M.length<=12):yR n M c w=some (Mc M c w):=by
 unfold yR Mc;cases c.grant with
 |true=>simp only[ai,Ou hq ha hb hn hm,ah,bG,aB]
 |false=>simp only[ak,Ou hq hb ha hn hm,ah,bG,aB,ai]
theorem acG(M:Mx)(base:List aH)(w:List Int){i:Nat}(hi:i<base.length):((List.range (i+1)).filter (jr M base w)).map (λ i:Nat=>(i:Int))=((List.range i).filter (jr M base w)).map (λ i:Nat=>(i:Int))++(if gy M w base[i]=true then [(i:Int)]else []):=by
 have hra:jr M base w i=gy M w base[i]:=by simp[jr,hi]
 rw[List.range_succ,filter_append,map_append,<- hra];cases h:jr M base w i<;>simp[h]
theorem acH(M:Mx)(base:List aH)(w:List Int){i:Nat}(hi:i<base.length):(base.take (i+1)).filter (gy M w)=(base.take i).filter (gy M w)++(if gy M w base[i]=true then [base[i]]else []):=by
 rw[dG hi,filter_append];cases h:gy M w base[i]<;>simp[h]
theorem Zm(M:Mx)(base:List aH)(w:List Int):∀i,i<=base.length->(((List.range i).filter (jr M base w)).map λi:Nat=>(i:Int)).length=((base.take i).filter (gy M w)).length
 | 0,_=>rfl
 |i+1,h=>by
  rw[acG M base w h,acH M base w h,bW,bW,Zm M base w i (by omega)];cases gy M w base[i]<;>rfl
theorem RD:∀K:List aH,(K.any λc=>decide (true=c.grant))=decide (0<K.countP λc=>c.grant)
 |[]=>rfl
 |c::K=>by
  rw[List.any_cons,RD K,List.countP_cons];cases c.grant<;>simp
theorem Ov:∀K:List aH,(K.any λc=>decide (false=c.grant))=decide ((K.countP λc=>c.grant)<K.length)
 |[]=>rfl
 |c::K=>by
  have:=List.countP_le_length (p:=λc:aH=>c.grant) (l:=K);rw[List.any_cons,Ov K,List.countP_cons,bH];cases c.grant with
  |true=>simp
  |false=>simp;omega
theorem aaK{M:Mx}(hq:zc M){base:List aH}{w:List Int}(hv:∀c∈base,qR M c.values=true)(hw:qR M w=true)(hn:M.length<n)(hm:M.length<=12)(hb:base.length<n)(hb2:base.length<=2000):
 Jb n M base w (-1)=some (GV M base w,rV M base w):=by
 unfold Jb;have key:=dz (step:=xW n M base w (-1)) (λ i=>(((((base.take i).filter (gy M w)).countP λc=>c.grant:Nat):Int),(i:Int),((List.range i).filter (jr M base w)).map λi:Nat=>(i:Int))) (s:=((0:Int),(0:Int),([]:List Int))) base.length ((((base.filter (gy M w)).countP λc=>c.grant:Nat):Int),rV M base w) rfl (λ i hi=>by
  have hs1:sub ([(i:Int)]:List Int) 0 1=[(i:Int)]:=rfl;have hm1:((i:Int)== -1)=false:=by simp
  have hlen:=Zm M base w i (by omega);have hK:((base.take i).filter (gy M w)).length<=i:=Nat.le_trans (length_filter_le _ _) (by simp;omega);have hC:=List.countP_le_length (p:=λc:aH=>c.grant) (l:=(base.take i).filter (gy M w));rw[acG M base w hi,acH M base w hi];generalize ((List.range i).filter (jr M base w)).map (λ i:Nat=>(i:Int))=L at hlen ⊢;generalize (base.take i).filter (gy M w)=K at hlen hK hC ⊢;have hap:bD L.length L.length 1 1 8=true:=bB (by omega) (by simp only[maxLen];omega);have hp:decide (((((Mc M base[i] w).length:Nat)):Int)>0)=!(gy M w base[i]):=by rw[<- Rv,eu,aG,Bool.not_eq_true',beq_eq_false_iff_ne];omega
  simp only[xW,dm hi,hm1,ai,ak,aZ hi,ah,Mh hq (hv _ (getElem_mem hi)) hw hn hm,hp,aR i,List.countP_append];cases gy M w base[i]with
  |false=>simp only[Bool.not_false,ai,aB,ah,Bool.false_eq_true,if_false,append_nil,List.countP_nil,Nat.add_zero]
  |true=>
   simp only[Bool.not_true,ak,ai,hs1,length_singleton,hap,dH,if_true,aO (show (K.countP λc=>c.grant)<9223372036854775807 by omega)];cases hg:base[i].grant with
   |true=>simp only[ai,aB,ah,List.countP_cons,List.countP_nil,hg,if_true]
   |false=>simp only[ak,ai,aB,ah,List.countP_cons,List.countP_nil,hg,Bool.false_eq_true,if_false,Nat.add_zero]) (by simp only[xW,bT,ak,aB,ai,List.take_length];rfl) n hb
 have hz:bb 0 ([]:List Int).length=true:=rfl;have hR:(rV M base w).length=(base.filter (gy M w)).length:=by
  have:=Zm M base w base.length (aT _)
  rwa [List.take_length]at this
 simp only[hz,ai,key,ah];unfold GV;rw[<- zF,<- zF,RD,Ov];have hC:=List.countP_le_length (p:=λc:aH=>c.grant) (l:=base.filter (gy M w));rw[<- hR]at hC ⊢;generalize (base.filter (gy M w)).countP (λ c=>c.grant)=g at hC ⊢;generalize rV M base w=L at hC ⊢;by_cases h0:L.length=0
 ·obtain rfl:=List.length_eq_zero_iff.1 h0;obtain rfl:g=0:=by simpa using hC
  rfl
 ·have d0:((L.length:Int)==0)=false:=by simp;intro h;subst h;exact h0 rfl
  rw[d0];simp only[ak,bG,aB,ai];by_cases h1:g=L.length
  ·subst h1;have d1:decide (0<L.length)=true:=(by rw[aG];omega);simp[d1]
  ·have d1:((g:Int)==(L.length:Int))=false:=(by rw[beq_eq_false_iff_ne];omega);have d2:decide (g<L.length)=true:=(by rw[aG];omega);rw[d1,d2];by_cases h2:g=0
   ·subst h2;rfl
   ·have d3:((g:Int)==0)=false:=(by rw[beq_eq_false_iff_ne];omega);have d4:decide (0<g)=true:=(by rw[aG];omega);rw[d3,d4];rfl
theorem RM{os:List aU}{base:List aH}(h:(dW os base).2=true):os.all l8=true/\os.length<=12/\dW os base=(os.map gu,true)/\gA (os.map gu) base=true/\base.length<=2000:=by
 have⟨M,h1,h2,h3,h4⟩:=Jt h;unfold Ch at h2;split at h2
 ·rename_i hh;cases h2;exact⟨hh.2,hh.1,h1,h3,h4⟩
 ·cases h2
theorem W7{os:List aU}(hk:os.all l8=true)(hl:os.length<=12):Ch os=some (os.map gu):=aP ⟨hl,hk⟩
theorem agD(hn:1000<=n){os:List aU}{base:List aH}{w:List Int}(hl:os.length<n)(hl2:os.length<9223372036854775807):
 ((bif (!(dW os base).2)then some true else(tq n os w).bind λr2=>some (!r2)):Option Bool)=some (!((dW os base).2&&qR (dW os base).1 w)):=by
 cases h:(dW os base).2 with
 |false=>rfl
 |true=>
  have⟨h1,_,h3,_,_⟩:=RM h;rw[h3,Ot h1 w hl hl2];rfl
theorem aaL(hn:1000<=n)(os:List aU)(base:List aH)(w:List Int)(hb:base.length<n)(hl:os.length<n)(hl2:os.length<9223372036854775807):Jc n os base w=some (bZ os base w):=by
 unfold Jc bZ;rw[RB hn os base hb hl hl2];simp only[ah];rw[agD hn hl hl2];simp only[ah];cases h:(dW os base).2&&qR (dW os base).1 w with
 |false=>rfl
 |true=>
  simp only[aD]at h;have⟨h1,h2,h3,h4,h5⟩:=RM h.1;rw[h3]at h ⊢;have hM:(os.map gu).length=os.length:=by simp
  simp only[Bool.not_true,ak,J4 hn h1 h2,ah,bG,aB,ai,aaK (WX (W7 h1 h2)) (Rw h4) h.2 (n:=n) (by omega) (by omega) hb h5]
theorem RF{l:List aH}(h:l.length<2000/\∀c∈l,c.values.length<1000)(hn:2000<=n):wV n l=some l:=by
 obtain⟨h1,h2⟩:=h;have hz:bb 0 ([]:List aH).length=true:=rfl;unfold wV;have key:=dz (step:=vz l) (λ i=>((i:Int),l.take i)) (s:=((0:Int),([]:List aH))) l.length l rfl (λ i hi=>by
  have hv:=h2 _ (getElem_mem hi);have hs1:∀c:aH,sub ([c]:List aH) 0 1=[c]:=λ_=>rfl;have hlen:(l.take i).length=i:=by simp;omega
  have hap:bD i i 1 1 40=true:=bB (by omega) (by simp only[maxLen];omega);have wq:bD ([]:List Int).length 0 l[i].values.length l[i].values.length 8=true:=bB (by simp only[length_nil];omega) (by simp only[maxLen,length_nil];omega);simp only[vz,dm hi,ai,aZ hi,ah,wq,dH,bI,bG,aB,hs1,length_singleton,hlen,hap,aR i];rw[dG hi]) (by simp only[vz,bT,ak,aB,ai,List.take_length]) n (by omega)
 simp only[hz,ai,key,ah,bG,aB]
theorem aaM{l:List aH}(h:Ci l)(hn:2000<=n):tu n l=some l:=by
 have h1:Ob=vz:=rfl;have:tu n l=wV n l:=by unfold tu wV;rw[h1]
 rw[this,RF ⟨by have:=h.1;omega,h.2⟩ hn]
theorem aiL(hn:2000<=n)(os:List aU){base:List aH}(hb:Ci base){c:aH}(hc:c.values.length<1000)(hl:os.length<n)(hl2:os.length<9223372036854775807):WT n os base c=some (Ph os base c):=by
 obtain⟨hb1,hb2⟩:=hb;unfold WT Ph;rw[RB (by omega) os base (by omega) hl hl2];simp only[ah];rw[agD (by omega) hl hl2];simp only[ah];cases h:(dW os base).2&&qR (dW os base).1 c.values with
 |false=>rfl
 |true=>
  simp only[aD]at h;have⟨g1,g2,g3,g4,g5⟩:=RM h.1;rw[g3]at h ⊢;have hM:(os.map gu).length=os.length:=by simp
  have a1:=fV (l:=base) (step:=Jd base c) (λ d=>d.id==c.id) () (([]:List aH),(5:Int)) (λ i hi=>by
   simp only[Jd,dm hi,ai,aZ hi,ah,aR i];cases base[i].id==c.id<;>rfl) (by simp only[Jd,bT,ak]) n (by omega)
  have a2:=fV (l:=base) (step:=Je n base c (os.map gu)) (λ d=>!(d.grant==c.grant)&&gy (os.map gu) c.values d) () (([]:List aH),(25:Int)) (λ i hi=>by
   simp only[Je,dm hi,ai,aZ hi,ah,bG,aB,Mh (WX (W7 g1 g2)) (Rw g4 _ (getElem_mem hi)) h.2 (n:=n) (by omega) (by omega),Rv,aR i];cases base[i].grant==c.grant with
   |true=>rfl
   |false=>cases gy (os.map gu) c.values base[i]<;>rfl) (by simp only[Je,bT,ak]) n (by omega)
  have e1:decide ((base.length:Int)>=2000)=false:=by simp;omega
  have hs1:sub ([c]:List aH) 0 1=[c]:=rfl;have hap:bD ([]:List aH).length 0 base.length base.length 40=true:=bB (by simp only[length_nil];omega) (by simp only[maxLen,length_nil];omega);have wq:bD base.length base.length 1 1 40=true:=bB (by omega) (by simp only[maxLen];omega);have hcs:wV n (base++[c])=some (base++[c]):=RF ⟨by simp;omega,λx hx=>by
   rcases bf.1 hx with hx |hx
   ·exact hb2 x hx
   ·rw[aW.1 hx];exact hc⟩ hn
  simp only[Bool.not_true,ak,ai];rw[a1,J4 (by omega) g1 g2];unfold At;cases base.any (λ d=>d.id==c.id)with
  |true=>rfl
  |false=>
   simp only[ak,fB,e1,ah,a2];cases base.any (λ d=>!(d.grant==c.grant)&&gy (os.map gu) c.values d)with
   |true=>rfl
   |false=>simp only[ak,fB,hap,ai,dH,bI,hs1,length_singleton,wq,bG,aB,hcs,ah]
theorem ao0(M:Mx)(base:List aH)(w:List Int):GV M base w=0\/GV M base w=1\/GV M base w=2\/GV M base w=3:=by
 unfold GV;cases mj M base w true<;>cases mj M base w false<;>simp
theorem aly(os:List aU)(base:List aH)(w:List Int):(bZ os base w).1=0\/(bZ os base w).1=1\/(bZ os base w).1=2\/(bZ os base w).1=3:=by
 unfold bZ;cases (dW os base).2&&qR (dW os base).1 w with
 |false=>exact Or.inl rfl
 |true=>exact ao0 _ _ _
theorem Ow(hn:2000<=n)(os:List aU){base:List aH}(hb:Ci base)(id:Int){values:List Int}(hv:values.length<1000)(cm:Bool)(hl:os.length<n)(hl2:os.length<9223372036854775807):BX n os base id values cm=some (jl os base id values cm):=by
 have hg:∀f:Int,(f=0\/f=1\/f=2\/f=3)->(f==3)=false->((bif f==1 then some true else(bif f==0 then some cm else some false)):Option Bool)=some (bif f==1 then true else bif f==2 then false else cm):=λf hf h3=>by
  rcases hf with rfl |rfl |rfl |rfl
  ·rfl
  ·rfl
  ·rfl
  ·cases h3
 unfold BX jl;rw[aaL (by omega) os base values (by have:=hb.1;omega) hl hl2];simp only[ah,aaM hb hn,bG,aB,ai];cases (bZ os base values).2.2 !=0 with
 |true=>rfl
 |false=>
  cases h3:(bZ os base values).1==3 with
  |true=>rfl
  |false=>
   rw[hg _ (aly os base values) h3];generalize (bif (bZ os base values).1==1 then true else bif(bZ os base values).1==2 then false else cm)=g;simp only[ak,ah];rw[aiL hn os hb (c:=aH.mk id values g) hv hl hl2];simp only[ah];cases (Ph os base (aH.mk id values g)).2 !=0<;>rfl
end Go.Proofs
