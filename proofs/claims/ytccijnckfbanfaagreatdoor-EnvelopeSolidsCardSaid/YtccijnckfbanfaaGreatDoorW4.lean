/-
  A region in the typed walk, whole.
-/
import Derived.Test.YtccijnckfbanfaaGreatDoorW3
open Option (bind_some)
open List (map_cons mem_cons append_assoc mem_append mem_map all_eq_true mem_singleton nil_append length_cons cons_append length_map append_nil map_map map_congr_left flatten_cons mem_cons_self map_nil map_take map_drop map_append)
open Bool (and_eq_true)
namespace Go.Gb
open Go.RowKit
section
variable {X:SX} {A:Type}
def fN (nx k:Nat):Nat:=if k < 1000000 then k else nx+(k - 1000000)
def gN (nx j:Nat):Nat:=if j < nx then j else 1000000+(j - nx)
def okN (nx sz k:Nat):Bool:=decide (k < nx) || (decide (1000000<=k)&&decide (k < 1000000+sz))
def okE (nx sz:Nat) (e:List (Nat×DV X)):Bool:=e.all fun p=>(drefs p.2).all (okN nx sz)
def okO (nx sz:Nat) (o:List (Nat×Option (DObj X))):Bool:=o.all fun p=>okN nx sz p.1&&match p.2 with |some x=>(orefs x).all (okN nx sz) |none=>true
def agm (fps:Fps):Nat->Ann:=fun i=>match lk fps i with |some p=>⟨.none,p.1,p.2,false⟩ |none=>⟨.none,[],[],false⟩
def adz (tr:List (Nat×Ann)):Nat->Ann:=fun i=>match lk tr i with |some a=>a |none=>⟨.none,[],[],false⟩
def ae1:DV X->DV X
 | .skip=> .undef
 |x=>x
theorem ae2 (x:DV X):den (ae1 x)=den x:=by cases x<;>rfl
theorem VA (x:DV X):drefs (ae1 x)=drefs x:=by cases x<;>rfl
def fin (s:DSt X) (e:List (Nat×DV X)) (o:List (Nat×Option (DObj X))) (sz:Nat):DSt X:=
 ⟨e.map (fun p=>(p.1,ae1 (rnD (fN s.nx) p.2)))++s.env,o.map (fun p=>(fN s.nx p.1,p.2.map (rnO (fN s.nx))))++s.obj,s.nx+sz,o.map (fun p=>fN s.nx p.1)++s.log⟩
def ae3 (N:Nat) (ops:Array Oper) (d:Bool) (nx:Nat) (e:List (Nat×DV X)) (o:List (Nat×Option (DObj X))) (fps:Fps):Bool:=
 LP N ops&&(!d || NU ops (agm fps))&&okE nx (64*ops.size) e&&okO nx (64*ops.size) o&&decide (nx+64*ops.size<=1000000)
def abu (Γ:FuncId->Option (Sig X)) (fz:List Nat) (T:Tab) (code:TypeId->Option (CT X.ι)) (N:Nat) (ops:Array Oper) (d:Bool) (s:DSt X) (k:DSt X->Option A):Option A:=
 xG Γ fz T code ops s (fun e o fps=>bif ae3 N ops d s.nx e o fps then k (fin s e o (64*ops.size))else none) (List.range ops.size) [] [] []
theorem Zf {ops:Array Oper} {ann ann':Nat->Ann} (h:∀ i,(ann i).rd=(ann' i).rd∧(ann i).wr=(ann' i).wr):NU ops ann=NU ops ann':=by
 have h1:vQ ann=vQ ann':=by
  funext i j;simp only[vQ,(h i).1,(h i).2,(h j).1,(h j).2]
 have h2:∀ md,LM md ops ann=LM md ops ann':=by
  intro md;funext listed i;simp only[LM,h1]
 have h3:∀ (md:Region.Mode) (n k:Nat) (listed:Array Bool),lexFrom' md ops ann n k listed=lexFrom' md ops ann' n k listed:=by
  intro md n
  induction n with
  |zero=>intro k listed;rfl
  |succ n ih=>intro k listed;simp only[lexFrom',h2,ih]
 exact h3 _ _ _ _
theorem Bc {α:Type}:∀ (a b:List (Nat×α)) (k:Nat),lk (a++b) k=match lk a k with |some x=>some x |none=>lk b k
 |[],_,_=>rfl
 |(j,x)::a,b,k=>by
  simp only[cons_append,lk];by_cases h:j=k
  ·simp[h]
  ·simp only[if_neg h,Bc a b k]
theorem acO {α:Type}:∀ {l:List (Nat×α)} {k:Nat},lk l k=none->∀ x,(k,x)∉l
 |(j,y)::r,k,h,x=>by
  simp only[lk]at h;split at h
  ·cases h
  ·rename_i hn;simp only[mem_cons,Prod.mk.injEq,not_or];exact⟨fun e=>hn e.1.symm,acO h x⟩
 |[],_,_,_=>by simp
theorem ahs {tr:List (Nat×Ann)} (hn:(tr.map (·.1)).Nodup) (i:Nat):(agm (GI tr).reverse i).rd=(adz tr i).rd∧(agm (GI tr).reverse i).wr=(adz tr i).wr:=by
 have hn':((GI tr).reverse.map (·.1)).Nodup:=by
  rw[List.map_reverse];have h1:((GI tr).map (·.1)).Nodup:=by simpa[GI,Function.comp_def]using hn
  exact List.pairwise_reverse.2 (h1.imp fun h=>Ne.symm h)
 unfold agm adz;cases h:lk tr i with
 |none=>
  cases h':lk (GI tr).reverse i with
  |none=>exact⟨rfl,rfl⟩
  |some p=>
   have:=ko h';simp only[GI,List.mem_reverse,mem_map]at this;obtain⟨q,hq,he⟩:=this;injection he with e1 e2;subst e1;exact (acO h q.2 hq).elim
 |some a=>
  have h1:=ko h;have h2:(i,a.rd,a.wr)∈(GI tr).reverse:=by
   simp only[GI,List.mem_reverse,mem_map];exact⟨(i,a),h1,rfl⟩
  rw[rD hn' h2];exact⟨rfl,rfl⟩
theorem ae4 {tr:List (Nat×Ann)} (hn:(tr.map (·.1)).Nodup):∀ p∈tr,adz tr p.1=p.2:=by
 rintro⟨i,a⟩ hp;unfold adz;rw[rD hn hp]
theorem RL {nx sz k:Nat} (h:okN nx sz k=true):k < nx∨(1000000<=k∧k < 1000000+sz):=by simpa[okN]using h
theorem gfN {nx sz k:Nat} (hle:nx+sz<=1000000) (h:k < nx∨(1000000<=k∧k < 1000000+sz)):gN nx (fN nx k)=k:=by
 unfold gN fN;rcases h with h |⟨h1,h2⟩
 ·rw[if_pos (show k < 1000000 by omega),if_pos h]
 ·rw[if_neg (show ¬ k < 1000000 by omega),if_neg (by omega)];omega
theorem VB {nx sz k:Nat} (hle:nx+sz<=1000000) (h:k < nx∨(1000000<=k∧k < 1000000+sz)):fN nx k < nx+sz:=by
 unfold fN;rcases h with h |⟨h1,h2⟩
 ·rw[if_pos (show k < 1000000 by omega)];omega
 ·rw[if_neg (show ¬ k < 1000000 by omega)];omega
theorem acP {nx k:Nat} (hle:nx<=1000000) (h:k < nx):fN nx k=k:=if_pos (by omega)
mutual
theorem RN {f:Nat->Nat}:∀ x:DV X,(∀ k∈drefs x,f k=k)->rnD f x=x
 | .own k _ _,h=>by simp only[rnD,h k (by simp[drefs])]
 | .ptr k _ _,h=>by simp only[rnD,h k (by simp[drefs])]
 | .ptl k _ _,h=>by simp only[rnD,h k (by simp[drefs])]
 | .mp k,h=>by simp only[rnD,h k (by simp[drefs])]
 | .pta k _ _ _ _,h=>by simp only[rnD,h k (by simp[drefs])]
 | .agg cs,h=>by simp only[rnD,za cs (by simpa[drefs]using h)]
 | .tup cs,h=>by simp only[rnD,za cs (by simpa[drefs]using h)]
 | .fn F first caps,h=>by simp only[rnD,za first (fun k hk=>h k (by simp[drefs,hk])),za caps (fun k hk=>h k (by simp[drefs,hk]))]
 | .c _ _,_=>rfl
 | .rp _ _ _,_=>rfl
 | .clo _ _ _,_=>rfl
 | .raw _,_=>rfl
 | .nil,_=>rfl
 | .ub,_=>rfl
 | .skip,_=>rfl
 | .undef,_=>rfl
theorem za {f:Nat->Nat}:∀ l:List (DV X),(∀ k∈aG l,f k=k)->GH f l=l
 |[],_=>rfl
 |x::xs,h=>by simp only[GH,RN x (fun k hk=>h k (by simp[aG,hk])),za xs (fun k hk=>h k (by simp[aG,hk]))]
end
mutual
theorem RO (f:Nat->Nat):∀ x:DV X,drefs (rnD f x)=(drefs x).map f
 | .own _ _ _=>rfl
 | .ptr _ _ _=>rfl
 | .ptl _ _ _=>rfl
 | .mp _=>rfl
 | .pta _ _ _ _ _=>rfl
 | .agg cs=>by simp only[rnD,drefs,wU f cs]
 | .tup cs=>by simp only[rnD,drefs,wU f cs]
 | .fn F first caps=>by simp only[rnD,drefs,wU f first,wU f caps,map_append]
 | .c _ _=>rfl
 | .rp _ _ _=>rfl
 | .clo _ _ _=>rfl
 | .raw _=>rfl
 | .nil=>rfl
 | .ub=>rfl
 | .skip=>rfl
 | .undef=>rfl
theorem wU (f:Nat->Nat):∀ l:List (DV X),aG (GH f l)=(aG l).map f
 |[]=>rfl
 |x::xs=>by simp only[GH,aG,RO f x,wU f xs,map_append]
end
theorem Zg (f:Nat->Nat) (o:DObj X):orefs (rnO f o)=(orefs o).map f:=by
 cases o with
 |cells sz rows=>simp only[rnO,orefs,map_map,List.map_flatten];congr 1;exact map_congr_left fun r _=>wU f r
 |lst c l=>rfl
 |map kc vc l=>rfl
theorem ae5 {α β:Type} (f:α->β):∀ (l:List (Nat×α)) (k:Nat),lk (l.map fun p=>(p.1,f p.2)) k=(lk l k).map f
 |[],_=>rfl
 |(j,x)::r,k=>by
  simp only[map_cons,lk];by_cases h:j=k
  ·simp[h]
  ·simp only[if_neg h,ae5 f r k]
theorem acQ {α β:Type} (f:α->β) (g:Nat->Nat):∀ (l:List (Nat×α)) (j:Nat),(∀ p∈l,∀ q∈l,g p.1=g q.1->p.1=q.1)->
 (∀ y,lk (l.map fun p=>(g p.1,f p.2)) j=some y->∃ k x,lk l k=some x∧g k=j∧y=f x)∧(lk (l.map fun p=>(g p.1,f p.2)) j=none->∀ p∈l,g p.1≠j)
 |[],_,_=>⟨fun _ h=>by simp[lk]at h,fun _=>by simp⟩
 |(k0,x0)::r,j,hi=>by
  obtain⟨i1,i2⟩:=acQ f g r j (fun p hp q hq=>hi p (by simp[hp]) q (by simp[hq]));simp only[map_cons,lk];by_cases h:g k0=j
  ·rw[if_pos h];exact⟨fun y hy=>by injection hy with hy;exact⟨k0,x0,by simp,h,hy.symm⟩,fun hn=>by cases hn⟩
  ·rw[if_neg h];refine⟨fun y hy=>?_,fun hn p hp=>?_⟩
   ·obtain⟨k,x,h1,h2,h3⟩:=i1 y hy;refine⟨k,x,?_,h2,h3⟩;have hne:k0≠k:=fun e=>h (by rw[e];exact h2);rw[if_neg hne];exact h1
   ·rcases mem_cons.1 hp with rfl |hp
    ·exact h
    ·exact i2 hn p hp
structure Ext (ds:Nat->Prop) (s s':DSt X):Prop where
 env:∀ t,¬ ds t->lke s'.env t=lke s.env t∨lke s'.env t= .undef
 obj:∃ d,s'.log=d++s.log∧∀ k,k < s.nx->k∉d->lko s'.obj k=lko s.obj k∨lko s'.obj k=none
 nx:s.nx<=s'.nx
variable {Γ:FuncId->Option (Sig X)} {fz:List Nat} {T:Tab} {code:TypeId->Option (CT X.ι)} {P:Program} {N:Nat}
theorem J2 (s:DSt X) (e:List (Nat×DV X)) (o:List (Nat×Option (DObj X))) (sz t:Nat):lke (fin s e o sz).env t=match lk e t with |some d=>ae1 (rnD (fN s.nx) d) |none=>lke s.env t:=by
 simp only[fin,lke,Bc,ae5 (fun d=>ae1 (rnD (fN s.nx) d))];cases lk e t<;>rfl
theorem Xm (hT:dH P T) (hm:P.follows .mixedOrders=true) (hΓ:GOk P Γ) {id:Nat} {ops:Array Oper} {d:Bool} {s:DSt X} {k:DSt X->Option A} {r:A} (hl:Low s) (h:abu Γ fz T code N ops d s k=some r):
 ∃ s':DSt X,k s'=some r∧Low s'∧Ext (Oi ops) s s'∧Ev P N (.region id ops d) (fun e σ=>e= .normal∧σ=s'.st) s.st:=by
 unfold abu at h;obtain⟨tr,e,o,h1,h2,h3,h4⟩:=Ct hΓ _ _ _ _ h;obtain⟨h5,h6⟩:=dm h2;simp only[ae3,and_eq_true,append_nil]at h5;obtain⟨⟨⟨⟨hd,hlex⟩,hE⟩,hO⟩,hnx⟩:=h5;have hle:s.nx+64*ops.size<=1000000:=of_decide_eq_true hnx;have hnod:(tr.map (·.1)).Nodup:=by rw[h1];exact List.nodup_range
 have hEn:∀ t x,lk e t=some x->∀ j∈drefs x,j < s.nx∨(1000000<=j∧j < 1000000+64*ops.size):=by
  intro t x hx j hj;have:=all_eq_true.1 hE _ (ko hx);exact RL (all_eq_true.1 this j hj)
 have hOn:∀ p∈o,(p.1 < s.nx∨(1000000<=p.1∧p.1 < 1000000+64*ops.size))∧∀ x,p.2=some x->∀ j∈orefs x,j < s.nx∨(1000000<=j∧j < 1000000+64*ops.size):=by
  intro p hp;have:=all_eq_true.1 hO _ hp;simp only[and_eq_true]at this;refine⟨RL this.1,fun x hx j hj=>?_⟩;have h2:=this.2;rw[hx]at h2;exact RL (all_eq_true.1 h2 j hj)
 have hinj:∀ p∈o,∀ q∈o,fN s.nx p.1=fN s.nx q.1->p.1=q.1:=by
  intro p hp q hq he;have:=congrArg (gN s.nx) he
  rwa [gfN hle (hOn p hp).1,gfN hle (hOn q hq).1]at this
 have hlko:∀ j,(∃ q x,lk o q=some x∧fN s.nx q=j∧lko (fin s e o (64*ops.size)).obj j=x.map (rnO (fN s.nx)))∨(lko (fin s e o (64*ops.size)).obj j=lko s.obj j∧∀ p∈o,fN s.nx p.1≠j):=by
  intro j;obtain⟨i1,i2⟩:=acQ (fun x:Option (DObj X)=>x.map (rnO (fN s.nx))) (fN s.nx) o j hinj;simp only[fin,lko,Bc];cases hj:lk (o.map fun p=>(fN s.nx p.1,p.2.map (rnO (fN s.nx)))) j with
  |none=>exact .inr ⟨rfl,i2 hj⟩
  |some y=>
   obtain⟨q,x,g1,g2,g3⟩:=i1 y hj;exact .inl ⟨q,x,g1,g2,by rw[g3];rfl⟩
 refine⟨fin s e o (64*ops.size),h6,?_,?_,?_⟩
 ·constructor
  ·exact hle
  ·have:=hl.ge;show 1000<=s.nx+64*ops.size;omega
  ·intro t j hj;rw[J2]at hj;cases ht:lk e t with
   |none=>rw[ht]at hj;have:=hl.env t j hj;show j < s.nx+64*ops.size;omega
   |some x=>
    rw[ht,VA,RO]at hj;obtain⟨q,hq,rfl⟩:=mem_map.1 hj;exact VB hle (hEn t x ht q hq)
  ·intro j x hx;rcases hlko j with ⟨q,y,g1,rfl,g3⟩ |⟨g1,_⟩
   ·rw[g3]at hx;rw[Option.map_eq_some_iff]at hx;obtain⟨z,rfl,rfl⟩:=hx;obtain⟨k1,k2⟩:=hOn _ (ko g1);refine⟨VB hle k1,fun i hi=>?_⟩;rw[Zg]at hi;obtain⟨i',hi',rfl⟩:=mem_map.1 hi;exact VB hle (k2 z rfl i' hi')
   ·rw[g1]at hx;obtain⟨k1,k2⟩:=hl.obj j x hx;refine⟨show j < s.nx+64*ops.size by omega,fun i hi=>?_⟩;have:=k2 i hi;show i < s.nx+64*ops.size;omega
 ·refine⟨fun t ht=> .inl ?_,⟨o.map (fun p=>fN s.nx p.1),rfl,fun j hj hn=>?_⟩,by show s.nx<=s.nx+64*ops.size;omega⟩
  ·rw[J2];cases hx:lk e t with
   |none=>rfl
   |some x=>
    rcases h3 _ (ko hx)with h |h
    ·simp at h
    ·exact (ht h).elim
  ·rcases hlko j with ⟨q,y,g1,g2,g3⟩ |⟨g1,_⟩
   ·exact (hn (mem_map.2 ⟨(q,y),ko g1,g2⟩)).elim
   ·exact .inl g1
 ·have hst:fe s [] []=s.st:=rfl;have hex:=h4 (adz tr) (ae4 hnod);rw[hst]at hex;intro w0 O0 β I a w hr ho;have done:∀ (e':Exit) (a':Act) (w':World),(∃ β' I' σ1,Rel P w0 O0 N β' I' σ1 a' w'∧e'= .normal∧σ1=fe s e o)->∃ β' I' σ1,Rel P w0 O0 N β' I' σ1 a' w'∧Old σ1∧e'= .normal∧σ1=(fin s e o (64*ops.size)).st:=by
   rintro e' a' w' ⟨β',I',σ1,g1,rfl,rfl⟩;refine⟨_,I',(fin s e o (64*ops.size)).st,Rel.re (f:=fN s.nx) (g:=gN s.nx) (D:=fun k=>k < s.nx∨(1000000<=k∧k < 1000000+64*ops.size)) (fun k hk=>gfN hle hk) (fun j hj=>by have:=hl.ge;unfold gN;rw[if_pos (by omega)]) g1 (fun t=>?_) (fun _=>rfl) (fun t=> .inr ?_) (fun j o' hj=>?_),?_,rfl,rfl⟩
   ·show (match lk e t with |some .skip=>some false |_=>none)=none∨den (lke (fin s e o (64*ops.size)).env t)= .undef;rw[J2];cases ht:lk e t with
    |none=>exact .inl rfl
    |some d=>cases d<;>first |exact .inl rfl |exact .inr rfl
   ·show (∀ k∈refs (den (lkE e s.env t)),_)∧Wkn (rnA (fN s.nx) (den (lkE e s.env t))) (den (lke (fin s e o (64*ops.size)).env t));rw[J2,fF,<- y9];unfold lkE;cases ht:lk e t with
    |none=>
     refine⟨fun q hq=> .inl (hl.env t q hq),?_⟩;rw[RN _ (fun q hq=>acP (by omega) (hl.env t q hq))];exact Wkn.refl _
    |some x=>exact⟨hEn t x ht,by simp only[ae2];exact Wkn.refl _⟩
   ·simp only[DSt.st,Option.map_eq_some_iff]at hj;obtain⟨x,hx,rfl⟩:=hj;rcases hlko j with ⟨q,y,i1,rfl,i3⟩ |⟨i1,i2⟩
    ·rw[i3,Option.map_eq_some_iff]at hx;obtain⟨z,rfl,rfl⟩:=hx;obtain⟨k1,k2⟩:=hOn _ (ko i1);obtain⟨r1,r2⟩:=Gm (D:=fun k=>k < s.nx∨(1000000<=k∧k < 1000000+64*ops.size)) (fN s.nx) z (fun i hi=>k2 z rfl i hi);refine⟨q,aU z,?_,k1,rfl,r1,r2⟩;simp only[fe,lkO,i1,Option.map_some]
    ·rw[i1]at hx;obtain⟨k1,k2⟩:=hl.obj j x hx;have hid:rnO (fN s.nx) x=x:=by
      cases x with
      |lst c l=>rfl
      |map kc vc l=>rfl
      |cells sz rows=>
       simp only[rnO];congr 1;have:∀ q∈rows,GH (fN s.nx) q=q:=fun q hq=>za q fun i hi=>acP (by omega) (k2 i (by
        simp only[orefs,List.mem_flatten,mem_map];exact⟨_,⟨q,hq,rfl⟩,hi⟩))
       rw[map_congr_left this];simp
     obtain⟨r1,r2⟩:=Gm (D:=fun k=>k < s.nx∨(1000000<=k∧k < 1000000+64*ops.size)) (fN s.nx) x (fun i hi=> .inl (k2 i hi));rw[hid]at r1 r2;refine⟨j,aU x,?_,.inl k1,acP (by omega) k1,r1,r2⟩;simp only[fe,lkO];cases hlo:lk o j with
     |none=>simp[hx]
     |some y=>exact (i2 _ (ko hlo) (acP (by omega) k1)).elim
   ·have hL:Low (fin s e o (64*ops.size)):=by
     constructor
     ·exact hle
     ·have:=hl.ge;show 1000<=s.nx+64*ops.size;omega
     ·intro t j hj;rw[J2]at hj;cases ht:lk e t with
      |none=>rw[ht]at hj;have:=hl.env t j hj;show j < s.nx+64*ops.size;omega
      |some x=>
       rw[ht,VA,RO]at hj;obtain⟨q,hq,rfl⟩:=mem_map.1 hj;exact VB hle (hEn t x ht q hq)
     ·intro j x hx;rcases hlko j with ⟨q,y,g1,rfl,g3⟩ |⟨g1,_⟩
      ·rw[g3]at hx;rw[Option.map_eq_some_iff]at hx;obtain⟨z,rfl,rfl⟩:=hx;obtain⟨k1,k2⟩:=hOn _ (ko g1);refine⟨VB hle k1,fun i hi=>?_⟩;rw[Zg]at hi;obtain⟨i',hi',rfl⟩:=mem_map.1 hi;exact VB hle (k2 z rfl i' hi')
      ·rw[g1]at hx;obtain⟨k1,k2⟩:=hl.obj j x hx;refine⟨show j < s.nx+64*ops.size by omega,fun i hi=>?_⟩;have:=k2 i hi;show i < s.nx+64*ops.size;omega
    exact hL.old
  cases d with
  |false=>exact wp_mono (U9 hT hd ho hex hr) done
  |true=>
   refine wp_mono (Ew hT hm hd ?_ ho hex hr) done;rw[<- Zf (ahs hnod)];simpa using hlex
end
end Go.Gb
namespace Go.Gb
open Go.RowKit
structure Sh (ι:Type) where
 slots:List (Nat×Pt ι)
 objs:List (Nat×OP ι)
 keep:List Nat
 keepO:List Nat
 nx:Nat
 nils:List (Nat×CT ι)
def Sh.vars {ι:Type} (s:Sh ι):List (CT ι):=varsS s.slots++varsO s.objs
section
variable {X:SX}
def Zh (s:DSt X) (t:Nat) (c:CT X.ι):DSt X:=
 match lke s.env t with
 | .nil=>if s.nx < 1000000 then⟨(t,.own s.nx 0 0)::s.env,(s.nx,some (.lst c []))::s.obj,s.nx+1,s.nx::s.log⟩else s
 |_=>s
def Zi (s:DSt X) (q j:Nat) (c:CT X.ι):DSt X:=
 match lko s.obj q with
 |some (.cells sz [row])=>match row[j]? with
  |some .nil=>if s.nx < 1000000 then⟨s.env,(q,some (.cells sz [row.set j (.own s.nx 0 0)]))::(s.nx,some (.lst c []))::s.obj,s.nx+1,q::s.nx::s.log⟩else s
  |_=>s
 |_=>s
def RP:List (Nat×CT X.ι)->DSt X->DSt X
 |[],s=>s
 |(t,c)::r,s=>RP r (bif Nat.ble 1000000 t then Zi s ((t - 1000000)/4096) ((t - 1000000)%4096) c else Zh s t c)
def isU:DV X->Bool
 | .undef | .skip=>true
 |_=>false
def encS (sh:Sh X.ι) (s0:DSt X) (v:VT (X:=X) sh.vars):DSt X:=
 let L:=tQ sh.vars v
 let n:=(varsS sh.slots).length
 let ol:=fun k=>(lk (lens sh.objs (L.drop n)) k).getD 0
 ⟨zM ol sh.slots (L.take n)++sh.keep.map (fun t=>(t,lke s0.env t)),bC ol sh.objs (L.drop n)++sh.keepO.map (fun k=>(k,lko s0.obj k)),sh.nx,
  (List.range s0.nx).filter (fun k=>!sh.keepO.contains k)++s0.log⟩
def okS (sh:Sh X.ι) (ds:List Nat) (s0 s':DSt X) (m:MA X):Bool:=
 decide (m.nm.map (·.1)++sh.keepO).Nodup&&decide (m.nm.map (·.2)++sh.keepO).Nodup&&decide (sh.objs.map (·.1)).Nodup&&m.nm.all (fun q=>(sh.objs.map (·.1)).contains q.2&&decide (q.2 < sh.nx)&&(decide (q.1=q.2) || decide (1000<=q.2)))&&
  sh.slots.all (fun p=>ds.contains p.1)&&sh.keep.all (fun t=>!ds.contains t&&!isU (lke s'.env t)&&(drefs (lke s0.env t)).all fun j=>sh.keepO.contains j || m.nm.contains (j,j))&&
  sh.keepO.all (fun k=>decide (k < s0.nx)&&!(s'.log.take (s'.log.length - s0.log.length)).contains k&&(lko s'.obj k).isSome&&match lko s0.obj k with |some o=>(orefs o).all fun j=>sh.keepO.contains j || m.nm.contains (j,j) |none=>false)&&
  decide (s0.nx<=sh.nx)&&decide (sh.nx<=1000000)
def Ir {A:Type} (sh:Sh X.ι) (ds:List Nat) (s0 s':DSt X) (k:VT (X:=X) sh.vars->Option A):Option A:=
 (ED (lko s'.obj) (lke s'.env) sh.slots ⟨[],[],[]⟩).bind fun m=>(A7 (lko s'.obj) sh.objs m).bind fun m=>bif okS sh ds s0 s' m then (Uy sh.vars m.dcs).bind fun v=>Rb m.chk (k v)else none
def jq {A:Type} (sh:Sh X.ι) (ds:List Nat) (s0 s':DSt X) (k:VT (X:=X) sh.vars->Option A):Option A:=
 bif sh.nils.all (fun p=>ds.contains p.1 || Nat.ble 1000000 p.1)then Ir sh ds s0 (RP sh.nils s') k else none
end
section
variable {X:SX}
theorem VD {d:DV X} {c:CT X.ι} {x:CT.T X.toSE c} (h:GD d c=some x):drefs d=[]:=by
 cases d
 case c=>rfl
 case nil=>rfl
 all_goals cases c<;>cases h
theorem Oj:∀ {ds:List (DV X)} {l:List (CT X.ι)} {h:HL X.toSE l},xk ds l=some h->aG ds=[]
 |[],[],_,_=>rfl
 |d::ds,c::l,h,hr=>by
  simp only[xk]at hr;rw[ai]at hr;obtain⟨x,h1,hr⟩:=hr;rw[ai]at hr;obtain⟨g,h2,hr⟩:=hr;simp only[aG,VD h1,Oj h2,append_nil]
 |[],_::_,_,hr=>by simp[xk]at hr
 |_::_,[],_,hr=>by simp[xk]at hr
theorem agn {d:DV X} {c:CT X.ι} {x:CT.T X.toSE c} (h:dat d c=some x):Wkn (den d) (den (.c c x:DV X))∧drefs d=[]:=by
 cases c
 case st i=>
  replace h:aa4 d i=some x:=h
  cases d
  case agg cs=>
   simp only[aa4]at h;rw[ai]at h;obtain⟨g,h1,h⟩:=h;injection h with h;subst h;refine⟨fun P β w I v hv=>?_,by simp only[drefs,Oj h1]⟩;have h2:=(xq h1 (X.flat i)).1;simp only[den,VR]at hv;obtain⟨vs,rfl,hv⟩:=hv;show VR P β w I (.agg ((X.row i (X.make i g)).map AV.t)) _;have h3:(X.row i (X.make i g)).map AV.t=(aP cs).map Gb.wk:=(by rw[h2];exact congrArg _ (X.row_make i g));rw[h3];simp only[VR];exact⟨vs,rfl,VRl.wk _ _ hv⟩
  case c a y=>
   replace h:iy a (.st i) y=some x:=h
   rw[(kX h).1];exact⟨Wkn.refl _,rfl⟩
  all_goals cases h
 all_goals
  have h1:=tN h;refine⟨fun P β w I v hv=>?_,VD h⟩;simp only[den];rw[<- h1];exact hv.wk
def Mono (m m':MA X):Prop:=(∀ q∈m.nm,q∈m'.nm)∧(∀ c∈m.chk,c∈m'.chk)
theorem Mono.refl (m:MA X):Mono m m:=⟨fun _ h=>h,fun _ h=>h⟩
theorem Mono.trans {a b c:MA X} (h:Mono a b) (h':Mono b c):Mono a c:=⟨fun q hq=>h'.1 q (h.1 q hq),fun q hq=>h'.2 q (h.2 q hq)⟩
theorem eH (m:MA X) (k' k:Nat):(addN m k' k).dcs=m.dcs∧(addN m k' k).chk=m.chk:=by unfold addN;split<;>exact⟨rfl,rfl⟩
theorem nU (m:MA X) (k' k:Nat):(k',k)∈(addN m k' k).nm:=by
 unfold addN;split
 ·rename_i h;simpa using h
 ·simp
theorem rH (m:MA X) (k' k:Nat):Mono m (addN m k' k):=by
 unfold addN;split
 ·exact Mono.refl m
 ·exact⟨fun q hq=>by simp[hq],fun _ h=>h⟩
variable {get:Nat->Option (DObj X)}
mutual
theorem acR:∀ (p:Pt X.ι) (d:DV X) (m m':MA X),mP get p d m=some m'->Mono m m'∧∃ new,m'.dcs=m.dcs++new∧new.length=p.vars.length
 | .v c,d,m,m',h=>by
  simp only[mP]at h;rw[ai]at h;obtain⟨x,h1,h⟩:=h;injection h with h;subst h;exact⟨⟨fun _ h=>h,fun _ h=>h⟩,[⟨c,x⟩],rfl,rfl⟩
 | .o k,d,m,m',h=>by
  simp only[mP]at h;split at h
  ·rename_i k' len;rw[ai]at h;obtain⟨o,h1,h⟩:=h;split at h
   ·injection h with h;subst h;refine⟨Mono.trans (b:=⟨m.nm,m.dcs,m.chk++_⟩) ⟨fun _ h=>h,fun _ h=>by simp[h]⟩ (rH _ _ _),[],by rw[(eH _ _ _).1];simp,rfl⟩
   ·cases h
  ·cases h
 | .p k,d,m,m',h=>by
  simp only[mP]at h;split at h
  ·injection h with h;subst h;exact⟨rH _ _ _,[],by rw[(eH _ _ _).1];simp,rfl⟩
  ·cases h
 | .mp k,d,m,m',h=>by
  simp only[mP]at h;split at h
  ·injection h with h;subst h;exact⟨rH _ _ _,[],by rw[(eH _ _ _).1];simp,rfl⟩
  ·cases h
 | .nil,d,m,m',h=>by
  simp only[mP]at h;split at h
  ·injection h with h;subst h;exact⟨Mono.refl _,[],by simp,rfl⟩
  ·cases h
 | .f F fs cs,d,m,m',h=>by
  simp only[mP]at h;split at h
  ·split at h
   ·rw[ai]at h;obtain⟨m1,h1,h⟩:=h;obtain⟨a1,n1,b1,c1⟩:=xH fs _ m m1 h1;obtain⟨a2,n2,b2,c2⟩:=xH cs _ m1 m' h;exact⟨a1.trans a2,n1++n2,by rw[b2,b1,append_assoc],by simp[Pt.vars,c1,c2]⟩
   ·cases h
  ·cases h
 | .od k,d,m,m',h=>by
  simp only[mP]at h;split at h
  ·rename_i k' off len;rw[ai]at h;obtain⟨o,h1,h⟩:=h;split at h
   ·injection h with h;subst h;refine⟨Mono.trans (b:=⟨m.nm,m.dcs++[⟨.int .i64,(off:Int)⟩],m.chk++_⟩) ⟨fun _ h=>h,fun _ h=>by simp[h]⟩ (rH _ _ _),[⟨.int .i64,(off:Int)⟩],by rw[(eH _ _ _).1],rfl⟩
   ·cases h
  ·cases h
 | .a ps,d,m,m',h=>by
  simp only[mP]at h;split at h
  ·exact xH ps _ m m' h
  ·cases h
theorem xH:∀ (ps:List (Pt X.ι)) (ds:List (DV X)) (m m':MA X),mPs get ps ds m=some m'->Mono m m'∧∃ new,m'.dcs=m.dcs++new∧new.length=(varsL ps).length
 |[],[],m,m',h=>by
  simp only[mPs,Option.some.injEq]at h;subst h;exact⟨Mono.refl _,[],by simp,rfl⟩
 |p::ps,d::ds,m,m',h=>by
  simp only[mPs]at h;rw[ai]at h;obtain⟨m1,h1,h⟩:=h;obtain⟨a1,n1,b1,c1⟩:=acR p d m m1 h1;obtain⟨a2,n2,b2,c2⟩:=xH ps ds m1 m' h;exact⟨a1.trans a2,n1++n2,by rw[b2,b1,append_assoc],by simp[varsL,c1,c2]⟩
 |[],_::_,m,m',h=>by simp[mPs]at h
 |_::_,[],m,m',h=>by simp[mPs]at h
end
theorem xI:∀ (rs:List (List (Pt X.ι))) (qs:List (List (DV X))) (m m':MA X),DL get rs qs m=some m'->Mono m m'∧∃ new,m'.dcs=m.dcs++new∧new.length=(tO rs).length
 |[],[],m,m',h=>by
  simp only[DL,Option.some.injEq]at h;subst h;exact⟨Mono.refl _,[],by simp,rfl⟩
 |r::rs,q::qs,m,m',h=>by
  simp only[DL]at h;rw[ai]at h;obtain⟨m1,h1,h⟩:=h;obtain⟨a1,n1,b1,c1⟩:=xH r q m m1 h1;obtain⟨a2,n2,b2,c2⟩:=xI rs qs m1 m' h;exact⟨a1.trans a2,n1++n2,by rw[b2,b1,append_assoc],by simp[tO,c1,c2]⟩
 |[],_::_,m,m',h=>by simp[DL]at h
 |_::_,[],m,m',h=>by simp[DL]at h
section
variable {NM:List (Nat×Nat)} {f:Nat->Nat} {olen:Nat->Nat}
def DN (NM:List (Nat×Nat)) (j:Nat):Prop:=∃ k,(j,k)∈NM
def SN (NM:List (Nat×Nat)) (j:Nat):Prop:=∃ k,(k,j)∈NM
theorem J3 {D:Nat->Prop} {f:Nat->Nat} {P:Program} {β:Nat->Option Blk} {w:World} {I:Nat->Prop}:∀ {a b:List AV} (_:RowW D f a b) (u:List Value),VRl P β w I (qd f a) u->VRl P β w I b u
 |[],[],_,u,hu=>hu
 |[],_::_,hr,_,_=>hr.elim
 |_::_,[],hr,_,_=>hr.elim
 |y::ys,z::zs,hr,[],hu=>by simp[qd,VRl]at hu
 |y::ys,z::zs,hr,v::vs,hu=>by
  simp only[qd,VRl]at hu ⊢;exact⟨hr.1.2 _ _ _ _ _ hu.1,J3 hr.2 vs hu.2⟩
mutual
theorem Zj (hf:∀ q∈NM,f q.1=q.2) (ho:∀ q∈NM,∀ c l,get q.1=some (.lst c l)->olen q.2=l.length):∀ (p:Pt X.ι) (d:DV X) (m m':MA X),mP get p d m=some m'->(∀ q∈m'.nm,q∈NM)->(∀ c∈m'.chk,c=true)->
 ∃ new,m'.dcs=m.dcs++new∧∃ d',(∀ rest,eP olen p (new++rest)=(d',rest))∧Wkn (rnA f (den d)) (den d')∧(∀ j∈drefs d,DN NM j)∧(∀ j∈drefs d',SN NM j)
 | .v c,d,m,m',h,_,_=>by
  simp only[mP]at h;rw[ai]at h;obtain⟨x,h1,h⟩:=h;injection h with h;subst h;obtain⟨h2,h3⟩:=agn h1;refine⟨[⟨c,x⟩],rfl,.c c x,fun rest=>rfl,?_,by simp[h3],by simp[drefs]⟩;rw[<- y9,RN d (by simp[h3])];exact h2
 | .o k,d,m,m',h,hn,hc=>by
  simp only[mP]at h;split at h
  ·rename_i k' len;rw[ai]at h;obtain⟨o,h1,h⟩:=h;split at h
   ·rename_i c l;injection h with h;subst h;have hq:(k',k)∈NM:=hn _ (nU _ _ _);have he:len=l.length:=by
     have:=hc (eqL len l.length) (by rw[(eH _ _ _).2];simp);simpa[eqL]using this
    refine⟨[],by rw[(eH _ _ _).1];simp,.own k 0 (olen k),fun rest=>rfl,?_,?_,?_⟩
    ·simp only[den,rnA];rw[hf _ hq,ho _ hq c l h1,he];exact Wkn.refl _
    ·intro j hj;simp only[drefs,mem_singleton]at hj;subst hj;exact⟨k,hq⟩
    ·intro j hj;simp only[drefs,mem_singleton]at hj;subst hj;exact⟨k',hq⟩
   ·cases h
  ·cases h
 | .p k,d,m,m',h,hn,hc=>by
  simp only[mP]at h;split at h
  ·rename_i k';injection h with h;subst h;have hq:(k',k)∈NM:=hn _ (nU _ _ _);refine⟨[],by rw[(eH _ _ _).1];simp,.ptr k 0 0,fun rest=>rfl,?_,?_,?_⟩
   ·simp only[den,rnA];rw[hf _ hq];exact Wkn.refl _
   ·intro j hj;simp only[drefs,mem_singleton]at hj;subst hj;exact⟨k,hq⟩
   ·intro j hj;simp only[drefs,mem_singleton]at hj;subst hj;exact⟨k',hq⟩
  ·cases h
 | .mp k,d,m,m',h,hn,hc=>by
  simp only[mP]at h;split at h
  ·rename_i k';injection h with h;subst h;have hq:(k',k)∈NM:=hn _ (nU _ _ _);refine⟨[],by rw[(eH _ _ _).1];simp,.mp k,fun rest=>rfl,?_,?_,?_⟩
   ·simp only[den,rnA];rw[hf _ hq];exact Wkn.refl _
   ·intro j hj;simp only[drefs,mem_singleton]at hj;subst hj;exact⟨k,hq⟩
   ·intro j hj;simp only[drefs,mem_singleton]at hj;subst hj;exact⟨k',hq⟩
  ·cases h
 | .nil,d,m,m',h,_,_=>by
  simp only[mP]at h;split at h
  ·injection h with h;subst h;exact⟨[],by simp,.nil,fun rest=>rfl,Wkn.refl _,by simp[drefs],by simp[drefs]⟩
  ·cases h
 | .f F fs cs,d,m,m',h,hn,hc=>by
  simp only[mP]at h;split at h
  ·rename_i F' first caps
   split at h
   ·rename_i e;subst e;rw[ai]at h;obtain⟨m1,h1,h⟩:=h;have hm:=(xH cs _ m1 m' h).1;obtain⟨n1,a1,f',b1,c1,e1,g1⟩:=Bd hf ho fs _ m m1 h1 (fun q hq=>hn q (hm.1 q hq)) (fun q hq=>hc q (hm.2 q hq));obtain⟨n2,a2,c',b2,c2,e2,g2⟩:=Bd hf ho cs _ m1 m' h hn hc;refine⟨n1++n2,by rw[a2,a1,append_assoc],.fn F f' c',fun rest=>by simp only[eP,append_assoc,b1,b2],?_,?_,?_⟩
    ·intro P β w I v hv;simp only[den,rnA,VR]at hv ⊢;obtain⟨us,vs,rfl,hu,hv⟩:=hv;exact⟨us,vs,rfl,J3 c1 _ hu,J3 c2 _ hv⟩
    ·intro j hj;simp only[drefs,mem_append]at hj;exact hj.elim (e1 j) (e2 j)
    ·intro j hj;simp only[drefs,mem_append]at hj;exact hj.elim (g1 j) (g2 j)
   ·cases h
  ·cases h
 | .od k,d,m,m',h,hn,hc=>by
  simp only[mP]at h;split at h
  ·rename_i k' off len;rw[ai]at h;obtain⟨o,h1,h⟩:=h;split at h
   ·rename_i c l;injection h with h;subst h;have hq:(k',k)∈NM:=hn _ (nU _ _ _);have he:off+len=l.length:=by
     have:=hc (eqL (off+len) l.length) (by rw[(eH _ _ _).2];simp);simpa[eqL]using this
    refine⟨[⟨.int .i64,(off:Int)⟩],by rw[(eH _ _ _).1],.own k off (olen k - off),fun rest=>?_,?_,?_,?_⟩
    ·simp only[eP,cons_append,nil_append];have:Vm (X:=X) ⟨.int .i64,(off:Int)⟩=off:=by
      simp only[Vm];rw[Ro];simp
     rw[this]
    ·simp only[den,rnA];rw[hf _ hq,ho _ hq c l h1,show l.length - off=len by omega];exact Wkn.refl _
    ·intro j hj;simp only[drefs,mem_singleton]at hj;subst hj;exact⟨k,hq⟩
    ·intro j hj;simp only[drefs,mem_singleton]at hj;subst hj;exact⟨k',hq⟩
   ·cases h
  ·cases h
 | .a ps,d,m,m',h,hn,hc=>by
  simp only[mP]at h;split at h
  ·rename_i ds;obtain⟨new,h1,ds',h2,h3,h4,h5⟩:=Bd hf ho ps ds m m' h hn hc;refine⟨new,h1,.agg ds',fun rest=>by simp only[eP,h2],?_,by simpa[drefs]using h4,by simpa[drefs]using h5⟩;intro P β w I v hv;simp only[den,rnA,VR]at hv ⊢;obtain⟨vs,rfl,hv⟩:=hv;refine⟨vs,rfl,?_⟩;exact J3 h3 _ hv
  ·cases h
theorem Bd (hf:∀ q∈NM,f q.1=q.2) (ho:∀ q∈NM,∀ c l,get q.1=some (.lst c l)->olen q.2=l.length):∀ (ps:List (Pt X.ι)) (ds:List (DV X)) (m m':MA X),mPs get ps ds m=some m'->(∀ q∈m'.nm,q∈NM)->(∀ c∈m'.chk,c=true)->
 ∃ new,m'.dcs=m.dcs++new∧∃ ds',(∀ rest,ePs olen ps (new++rest)=(ds',rest))∧RowW (DN NM) f (aP ds) (aP ds')∧(∀ j∈aG ds,DN NM j)∧(∀ j∈aG ds',SN NM j)
 |[],[],m,m',h,_,_=>by
  simp only[mPs,Option.some.injEq]at h;subst h;exact⟨[],by simp,[],fun rest=>rfl,trivial,by simp[aG],by simp[aG]⟩
 |p::ps,d::ds,m,m',h,hn,hc=>by
  simp only[mPs]at h;rw[ai]at h;obtain⟨m1,h1,h⟩:=h;have hm:=(xH ps ds m1 m' h).1;obtain⟨n1,a1,d',b1,c1,e1,g1⟩:=Zj hf ho p d m m1 h1 (fun q hq=>hn q (hm.1 q hq)) (fun q hq=>hc q (hm.2 q hq));obtain⟨n2,a2,ds',b2,c2,e2,g2⟩:=Bd hf ho ps ds m1 m' h hn hc;refine⟨n1++n2,by rw[a2,a1,append_assoc],d'::ds',fun rest=>?_,⟨⟨fun k hk=>e1 k (by rwa [fF]at hk),c1⟩,c2⟩,?_,?_⟩
  ·simp only[ePs,append_assoc,b1,b2]
  ·intro j hj;simp only[aG,mem_append]at hj;exact hj.elim (e1 j) (e2 j)
  ·intro j hj;simp only[aG,mem_append]at hj;exact hj.elim (g1 j) (g2 j)
 |[],_::_,m,m',h,_,_=>by simp[mPs]at h
 |_::_,[],m,m',h,_,_=>by simp[mPs]at h
end
theorem Ol (hf:∀ q∈NM,f q.1=q.2) (ho:∀ q∈NM,∀ c l,get q.1=some (.lst c l)->olen q.2=l.length):∀ (rs:List (List (Pt X.ι))) (qs:List (List (DV X))) (m m':MA X),DL get rs qs m=some m'->(∀ q∈m'.nm,q∈NM)->(∀ c∈m'.chk,c=true)->
 ∃ new,m'.dcs=m.dcs++new∧∃ qs',(∀ rest,tT olen rs (new++rest)=(qs',rest))∧RowsW (DN NM) f (qs.map aP) (qs'.map aP)∧(∀ j∈(qs.map aG).flatten,DN NM j)∧(∀ j∈(qs'.map aG).flatten,SN NM j)
 |[],[],m,m',h,_,_=>by
  simp only[DL,Option.some.injEq]at h;subst h;exact⟨[],by simp,[],fun rest=>rfl,trivial,by simp,by simp⟩
 |r::rs,q::qs,m,m',h,hn,hc=>by
  simp only[DL]at h;rw[ai]at h;obtain⟨m1,h1,h⟩:=h;have hm:=(xI rs qs m1 m' h).1;obtain⟨n1,a1,d',b1,c1,e1,g1⟩:=Bd hf ho r q m m1 h1 (fun q hq=>hn q (hm.1 q hq)) (fun q hq=>hc q (hm.2 q hq));obtain⟨n2,a2,ds',b2,c2,e2,g2⟩:=Ol hf ho rs qs m1 m' h hn hc;refine⟨n1++n2,by rw[a2,a1,append_assoc],d'::ds',fun rest=>?_,⟨c1,c2⟩,?_,?_⟩
  ·simp only[tT,append_assoc,b1,b2]
  ·intro j hj;simp only[map_cons,flatten_cons,mem_append]at hj;exact hj.elim (e1 j) (e2 j)
  ·intro j hj;simp only[map_cons,flatten_cons,mem_append]at hj;exact hj.elim (g1 j) (g2 j)
 |[],_::_,m,m',h,_,_=>by simp[DL]at h
 |_::_,[],m,m',h,_,_=>by simp[DL]at h
end
end
section
variable {X:SX} {get:Nat->Option (DObj X)} {env:Nat->DV X}
theorem EJ:∀ (sl:List (Nat×Pt X.ι)) (m m':MA X),ED get env sl m=some m'->Mono m m'∧∃ new,m'.dcs=m.dcs++new∧new.length=(varsS sl).length
 |[],m,m',h=>by
  simp only[ED,Option.some.injEq]at h;subst h;exact⟨Mono.refl _,[],by simp,rfl⟩
 |(t,p)::r,m,m',h=>by
  simp only[ED]at h;rw[ai]at h;obtain⟨m1,h1,h⟩:=h;obtain⟨a1,n1,b1,c1⟩:=acR p _ m m1 h1;obtain⟨a2,n2,b2,c2⟩:=EJ r m1 m' h;exact⟨a1.trans a2,n1++n2,by rw[b2,b1,append_assoc],by simp[varsS,c1,c2]⟩
theorem jr:∀ (os:List (Nat×OP X.ι)) (m m':MA X),A7 get os m=some m'->Mono m m'∧∃ new,m'.dcs=m.dcs++new∧new.length=(varsO os).length
 |[],m,m',h=>by
  simp only[A7,Option.some.injEq]at h;subst h;exact⟨Mono.refl _,[],by simp,rfl⟩
 |(k,op)::r,m,m',h=>by
  simp only[A7]at h;rw[ai]at h;obtain⟨o,h1,h⟩:=h;split at h
  ·rename_i c c' l;rw[ai]at h;obtain⟨l',h2,h⟩:=h;obtain⟨a2,n2,b2,c2⟩:=jr r _ m' h;refine⟨Mono.trans (Mono.trans (b:=⟨m.nm,m.dcs++[⟨.sl c,l'⟩],m.chk⟩) ⟨fun _ h=>h,fun _ h=>h⟩ (rH _ _ _)) a2,[⟨.sl c,l'⟩]++n2,?_,by simp[varsO,c2]⟩;rw[b2,(eH _ _ _).1,append_assoc]
  ·rename_i kc vc kc' vc' l;rw[ai]at h;obtain⟨l',h2,h⟩:=h;obtain⟨a2,n2,b2,c2⟩:=jr r _ m' h;refine⟨Mono.trans (Mono.trans (b:=⟨m.nm,m.dcs++[⟨.mp kc vc,l'⟩],m.chk⟩) ⟨fun _ h=>h,fun _ h=>h⟩ (rH _ _ _)) a2,[⟨.mp kc vc,l'⟩]++n2,?_,by simp[varsO,c2]⟩;rw[b2,(eH _ _ _).1,append_assoc]
  ·rename_i sz rows sz' rows';split at h
   ·rw[ai]at h;obtain⟨m1,h2,h⟩:=h;obtain⟨a1,n1,b1,c1⟩:=xI rows _ _ m1 h2;obtain⟨a2,n2,b2,c2⟩:=jr r m1 m' h;refine⟨((rH m _ _).trans a1).trans a2,n1++n2,?_,by simp[varsO,c1,c2]⟩;rw[b2,b1,(eH _ _ _).1,append_assoc]
   ·cases h
  ·cases h
variable {NM:List (Nat×Nat)} {f:Nat->Nat} {olen:Nat->Nat}
theorem Cu:∀ (os:List (Nat×OP X.ι)) (m m':MA X),A7 get os m=some m'->(∀ q∈m'.nm,q∈NM)->∃ new,m'.dcs=m.dcs++new∧∀ rest,∀ k∈os.map (·.1),∃ k' o,(k',k)∈NM∧get k'=some o∧∀ c l,o= .lst c l->(k,List.length l)∈lens os (new++rest)
 |[],m,m',h,_=>by
  simp only[A7,Option.some.injEq]at h;subst h;exact⟨[],by simp,fun rest k hk=>by simp at hk⟩
 |(k,op)::r,m,m',h,hn=>by
  simp only[A7]at h;rw[ai]at h;obtain⟨o,h1,h⟩:=h;split at h
  ·rename_i c c' l;rw[ai]at h;obtain⟨l',h2,h⟩:=h;have hm:=(jr r _ m' h).1;obtain⟨n2,b2,c2⟩:=Cu r _ m' h hn;refine⟨[⟨.sl c,l'⟩]++n2,by rw[b2,(eH _ _ _).1,append_assoc],fun rest j hj=>?_⟩;simp only[map_cons,mem_cons]at hj;simp only[append_assoc,cons_append,nil_append,lens];by_cases hjk:j=k
   ·subst hjk;refine⟨_,_,hn _ (hm.1 _ (nU _ _ _)),h1,fun c2 l2 he=>?_⟩;injection he with e1 e2;subst e1;have e2:=eq_of_heq e2;subst e2;have:=congrArg List.length (iO h2).2;simp only[length_map]at this;rw[this];exact mem_cons_self
   ·rcases hj with rfl |hj
    ·exact (hjk rfl).elim
    ·obtain⟨k',o',g1,g2,g3⟩:=c2 rest j hj;exact⟨k',o',g1,g2,fun c l he=>List.mem_cons_of_mem _ (g3 c l he)⟩
  ·rename_i kc vc kc' vc' l;rw[ai]at h;obtain⟨l',h2,h⟩:=h;have hm:=(jr r _ m' h).1;obtain⟨n2,b2,c2⟩:=Cu r _ m' h hn;refine⟨[⟨.mp kc vc,l'⟩]++n2,by rw[b2,(eH _ _ _).1,append_assoc],fun rest j hj=>?_⟩;simp only[map_cons,mem_cons]at hj;simp only[append_assoc,cons_append,nil_append,lens,List.drop_succ_cons,List.drop_zero];by_cases hjk:j=k
   ·subst hjk;exact⟨_,_,hn _ (hm.1 _ (nU _ _ _)),h1,fun c2 l2 he=>by cases he⟩
   ·rcases hj with rfl |hj
    ·exact (hjk rfl).elim
    ·exact c2 rest j hj
  ·rename_i sz rows sz' rows';split at h
   ·rw[ai]at h;obtain⟨m1,h2,h⟩:=h;obtain⟨a1,n1,b1,c1⟩:=xI rows _ _ m1 h2;have hm:=(jr r _ m' h).1;obtain⟨n2,b2,c2⟩:=Cu r _ m' h hn;refine⟨n1++n2,by rw[b2,b1,(eH _ _ _).1,append_assoc],fun rest j hj=>?_⟩;simp only[map_cons,mem_cons]at hj;have hd:(n1++n2++rest).drop (tO rows).length=n2++rest:=(by rw[<- c1,append_assoc,List.drop_left]);simp only[lens,hd];by_cases hjk:j=k
    ·subst hjk;exact⟨_,_,hn _ (hm.1 _ (a1.1 _ (nU _ _ _))),h1,fun c2 l2 he=>by cases he⟩
    ·rcases hj with rfl |hj
     ·exact (hjk rfl).elim
     ·exact c2 rest j hj
   ·cases h
  ·cases h
theorem Gn:∀ (os:List (Nat×OP X.ι)) (L:List (DC X)),((lens os L).map (·.1)).Sublist (os.map (·.1))
 |[],_=>by simp[lens]
 |(k,.l c)::r,L=>by
  simp only[lens];split
  ·exact (Gn r _).cons_cons _
  ·exact List.nil_sublist _
 |(k,.m kc vc)::r,L=>by
  simp only[lens];exact (Gn r _).cons _
 |(k,.c sz rows)::r,L=>by
  simp only[lens];exact (Gn r _).cons _
theorem J4 (hf:∀ q∈NM,f q.1=q.2) (ho:∀ q∈NM,∀ c l,get q.1=some (.lst c l)->olen q.2=l.length):∀ (sl:List (Nat×Pt X.ι)) (m m':MA X),ED get env sl m=some m'->(∀ q∈m'.nm,q∈NM)->(∀ c∈m'.chk,c=true)->
 ∃ new,m'.dcs=m.dcs++new∧∃ es,(∀ rest,zM olen sl (new++rest)=es)∧(∀ p∈es,p.1∈sl.map (·.1)∧Wkn (rnA f (den (env p.1))) (den p.2)∧(∀ j∈drefs (env p.1),DN NM j)∧(∀ j∈drefs p.2,SN NM j))
 |[],m,m',h,_,_=>by
  simp only[ED,Option.some.injEq]at h;subst h;exact⟨[],by simp,[],fun rest=>rfl,by simp⟩
 |(t,p)::r,m,m',h,hn,hc=>by
  simp only[ED]at h;rw[ai]at h;obtain⟨m1,h1,h⟩:=h;have hm:=(EJ r m1 m' h).1;obtain⟨n1,a1,d',b1,c1,e1,g1⟩:=Zj hf ho p _ m m1 h1 (fun q hq=>hn q (hm.1 q hq)) (fun q hq=>hc q (hm.2 q hq));obtain⟨n2,a2,es,b2,c2⟩:=J4 hf ho r m1 m' h hn hc;refine⟨n1++n2,by rw[a2,a1,append_assoc],(t,d')::es,fun rest=>by simp only[zM,append_assoc,b1,b2],fun q hq=>?_⟩;rcases mem_cons.1 hq with rfl |hq
  ·exact⟨by simp,c1,e1,g1⟩
  ·obtain⟨i1,i2⟩:=c2 q hq;exact⟨by simp only[map_cons,mem_cons];exact .inr i1,i2⟩
theorem VE {D:Nat->Prop} (f:Nat->Nat):∀ rows:List (List Tree),RowsW D f (aD rows) (aD rows)
 |[]=>trivial
 |r::rs=>by
  refine⟨?_,VE f rs⟩
  induction r with
  |nil=>trivial
  |cons y ys ih=>exact⟨⟨by simp[refs],Wkn.refl _⟩,ih⟩
theorem VF {a b c d:CT X.ι} {l:List (CT.T X.toSE a×CT.T X.toSE b)} {l':List (CT.T X.toSE c×CT.T X.toSE d)} (h:iy (.mp a b) (.mp c d) l=some l'):aU (.map c d l':DObj X)=aU (.map a b l):=by
 obtain⟨e,h⟩:=rF h;injection e with e1 e2;subst e1;subst e2;subst h;rfl
theorem VG {D:Nat->Prop} (f:Nat->Nat) {kc vc:CT X.ι}:∀ l:List (CT.T X.toSE kc×CT.T X.toSE vc),RowsW D f (aU (.map kc vc l:DObj X)).rows (aU (.map kc vc l:DObj X)).rows
 |[]=>trivial
 |p::ps=>⟨⟨⟨by simp[Cq],by rw[Rw];exact Wkn.refl _⟩,⟨by simp[Cq],by rw[Rw];exact Wkn.refl _⟩,trivial⟩,VG f ps⟩
theorem zb (hf:∀ q∈NM,f q.1=q.2) (ho:∀ q∈NM,∀ c l,get q.1=some (.lst c l)->olen q.2=l.length):∀ (os:List (Nat×OP X.ι)) (m m':MA X),A7 get os m=some m'->(∀ q∈m'.nm,q∈NM)->(∀ c∈m'.chk,c=true)->
 ∃ new,m'.dcs=m.dcs++new∧∃ xs,(∀ rest,bC olen os (new++rest)=xs)∧(∀ p∈xs,p.1∈os.map (·.1)∧∃ k' o o',p.2=some o'∧(k',p.1)∈NM∧get k'=some o∧(aU o').sz=(aU o).sz∧RowsW (DN NM) f (aU o).rows (aU o').rows∧(∀ j∈orefs o',SN NM j))
 |[],m,m',h,_,_=>by
  simp only[A7,Option.some.injEq]at h;subst h;exact⟨[],by simp,[],fun rest=>rfl,by simp⟩
 |(k,op)::r,m,m',h,hn,hc=>by
  simp only[A7]at h;rw[ai]at h;obtain⟨o,h1,h⟩:=h;split at h
  ·rename_i c c' l;rw[ai]at h;obtain⟨l',h2,h⟩:=h;have hm:=(jr r _ m' h).1;obtain⟨n2,a2,xs,b2,c2⟩:=zb hf ho r _ m' h hn hc;refine⟨[⟨.sl c,l'⟩]++n2,by rw[a2,(eH _ _ _).1,append_assoc],(k,some (.lst c l'))::xs,fun rest=>by simp only[append_assoc,cons_append,nil_append,bC,b2],fun q hq=>?_⟩;rcases mem_cons.1 hq with rfl |hq
   ·refine⟨by simp,_,_,_,rfl,hn _ (hm.1 _ (nU _ _ _)),h1,?_,?_,by simp[orefs]⟩
    ·simp only[aU,(iO h2).1]
    ·simp only[aU,(iO h2).2];exact VE f _
   ·obtain⟨i1,i2⟩:=c2 q hq;exact⟨by simp only[map_cons,mem_cons];exact .inr i1,i2⟩
  ·rename_i kc vc kc' vc' l;rw[ai]at h;obtain⟨l',h2,h⟩:=h;have hm:=(jr r _ m' h).1;obtain⟨n2,a2,xs,b2,c2⟩:=zb hf ho r _ m' h hn hc;refine⟨[⟨.mp kc vc,l'⟩]++n2,by rw[a2,(eH _ _ _).1,append_assoc],(k,some (.map kc vc l'))::xs,fun rest=>by simp only[append_assoc,cons_append,nil_append,bC,b2],fun q hq=>?_⟩;rcases mem_cons.1 hq with rfl |hq
   ·refine⟨by simp,_,_,_,rfl,hn _ (hm.1 _ (nU _ _ _)),h1,?_,?_,by simp[orefs]⟩
    ·rw[VF h2]
    ·rw[VF h2];exact VG f _
   ·obtain⟨i1,i2⟩:=c2 q hq;exact⟨by simp only[map_cons,mem_cons];exact .inr i1,i2⟩
  ·rename_i sz rows sz' rows';split at h
   ·rename_i hsz;rw[ai]at h;obtain⟨m1,h2,h⟩:=h;have hm1:=(xI rows _ _ m1 h2).1;have hm:=(jr r _ m' h).1;obtain⟨n1,a1,qs,b1,c1,e1,g1⟩:=Ol hf ho rows _ _ m1 h2 (fun q hq=>hn q (hm.1 q hq)) (fun q hq=>hc q (hm.2 q hq));obtain⟨n2,a2,xs,b2,c2⟩:=zb hf ho r _ m' h hn hc;refine⟨n1++n2,by rw[a2,a1,(eH _ _ _).1,append_assoc],(k,some (.cells sz qs))::xs,fun rest=>by simp only[append_assoc,bC,b1,b2],fun q hq=>?_⟩;rcases mem_cons.1 hq with rfl |hq
    ·exact⟨by simp,_,_,_,rfl,hn _ (hm.1 _ (hm1.1 _ (nU _ _ _))),h1,hsz,c1,g1⟩
    ·obtain⟨i1,i2⟩:=c2 q hq;exact⟨by simp only[map_cons,mem_cons];exact .inr i1,i2⟩
   ·cases h
  ·cases h
theorem adA {d:DV X} (h:isU d=false) (h':d= .undef):False:=by subst h';cases h
theorem J5 {A:Type} {sh:Sh X.ι} {ds:List Nat} {s0 s':DSt X} {k:VT (X:=X) sh.vars->Option A} {r:A} (hl0:Low s0) (hx:Ext (· ∈ds) s0 s') (h:Ir sh ds s0 s' k=some r):
 ∃ v,k v=some r∧Low (encS sh s0 v)∧Ext (· ∈ds) s0 (encS sh s0 v)∧∀ (P:Program) (w0:World) (O0:Was) (N:Nat) (β:Nat->Option Blk) (I:Nat->Prop) (a:Act) (w:World),Rel P w0 O0 N β I s'.st a w->∃ β',Rel P w0 O0 N β' I (encS sh s0 v).st a w:=by
 unfold Ir at h;rw[ai]at h;obtain⟨m1,h1,h⟩:=h;rw[ai]at h;obtain⟨m,h2,h⟩:=h;obtain⟨h3,h⟩:=dm h;rw[ai]at h;obtain⟨v,h4,h⟩:=h;obtain⟨h5,h6⟩:=mG h;simp only[okS,and_eq_true,decide_eq_true_eq]at h3;obtain⟨⟨⟨⟨⟨⟨⟨⟨n1,n2⟩,n3⟩,n4⟩,n5⟩,n6⟩,n7⟩,n8⟩,n9⟩:=h3;have hm2:=(jr _ _ _ h2).1;have hdcs:=Rn h4;obtain⟨_,nA,dA,lA⟩:=EJ _ _ _ h1;simp only[nil_append]at dA;have hnd1:(m.nm.map (·.1)).Nodup:=(List.nodup_append.1 n1).1;have hnd2:(m.nm.map (·.2)).Nodup:=(List.nodup_append.1 n2).1;have hsw:((m.nm.map fun q=>(q.2,q.1)).map (·.1)).Nodup:=by rw[map_map];exact hnd2
 generalize hf':(fun j=>match lk m.nm j with |some q=>q |none=>j:Nat->Nat)=f;generalize hg':(fun j=>match lk (m.nm.map fun q=>(q.2,q.1)) j with |some q=>q |none=>j:Nat->Nat)=g;have hf:∀ q∈m.nm,f q.1=q.2:=by
  rintro⟨p,q⟩ hq;rw[<- hf'];simp only[rD hnd1 hq]
 have hg:∀ q∈m.nm,g q.2=q.1:=by
  rintro⟨p,q⟩ hq;rw[<- hg'];have:(q,p)∈m.nm.map fun q=>(q.2,q.1):=mem_map.2 ⟨(p,q),hq,rfl⟩;simp only[rD hsw this]
 have hfk:∀ j∈sh.keepO,f j=j:=by
  intro j hj;rw[<- hf'];cases hh:lk m.nm j with
  |none=>simp[hh]
  |some q=>exact ((List.nodup_append.1 n1).2.2 j (mem_map.2 ⟨(j,q),ko hh,rfl⟩) j hj rfl).elim
 have hgk:∀ j∈sh.keepO,g j=j:=by
  intro j hj;rw[<- hg'];cases hh:lk (m.nm.map fun q=>(q.2,q.1)) j with
  |none=>simp[hh]
  |some q=>
   have h1:=ko hh;simp only[mem_map]at h1;obtain⟨z,hz,e⟩:=h1;injection e with e1 e2;exact ((List.nodup_append.1 n2).2.2 j (mem_map.2 ⟨z,hz,e1⟩) j hj rfl).elim
 have hg0:∀ j,j < 1000->g j=j:=by
  intro j hj;rw[<- hg'];cases hh:lk (m.nm.map fun q=>(q.2,q.1)) j with
  |none=>simp[hh]
  |some q=>
   have h1:=ko hh;simp only[mem_map]at h1;obtain⟨z,hz,e⟩:=h1;injection e with e1 e2;have:=all_eq_true.1 n4 z hz;simp only[and_eq_true,Bool.or_eq_true,decide_eq_true_eq]at this;simp only[hh];omega
 have hgf:∀ j,(DN m.nm j∨j∈sh.keepO)->g (f j)=j:=by
  rintro j (⟨q,hq⟩ |hj)
  ·rw[hf _ hq];exact hg _ hq
  ·rw[hfk j hj];exact hgk j hj
 obtain⟨nB,dB,lB⟩:=Cu (NM:=m.nm) _ _ _ h2 (fun q hq=>hq);have hL:m.dcs=nA++nB:=by rw[dB,dA]
 have hdrop:(tQ sh.vars v).drop (varsS sh.slots).length=nB:=by rw[hdcs,hL,<- lA,List.drop_left]
 have htake:(tQ sh.vars v).take (varsS sh.slots).length=nA:=by rw[hdcs,hL,<- lA,List.take_left]
 generalize hol:(fun k=>(lk (lens sh.objs nB) k).getD 0:Nat->Nat)=olen;have ho:∀ q∈m.nm,∀ c l,lko s'.obj q.1=some (.lst c l)->olen q.2=l.length:=by
  rintro⟨p,q⟩ hq c l hl;have hqk:=all_eq_true.1 n4 _ hq;simp only[and_eq_true]at hqk;obtain⟨p',o,g1,g2,g3⟩:=lB [] q (by simpa using hqk.1.1);have:p'=p:=by
   have e1:=hg _ g1;have e2:=hg _ hq;simp only at e1 e2;rw[<- e1,e2]
  subst this;simp only at hl;rw[hl]at g2;injection g2 with g2;have h3:=g3 c l g2.symm;rw[append_nil]at h3;rw[<- hol];have hk:=(Gn sh.objs nB).nodup n3;simp only[rD hk h3,Option.getD_some]
 obtain⟨nA',dA',es,eA,pA⟩:=J4 (NM:=m.nm) (f:=f) (olen:=olen) hf ho _ _ _ h1 (fun q hq=>hm2.1 q hq) (fun c hc=>h5 c (hm2.2 c hc));obtain⟨nB',dB',xs,eB,pB⟩:=zb (NM:=m.nm) (f:=f) (olen:=olen) hf ho _ _ _ h2 (fun q hq=>hq) h5;have eqA:nA'=nA:=by simp only[nil_append]at dA';rw[<- dA',dA]
 have eqB:nB'=nB:=List.append_cancel_left (dB'.symm.trans dB);subst eqA eqB;have eA0:=eA [];have eB0:=eB [];rw[append_nil]at eA0 eB0;have hS:encS sh s0 v=⟨es++sh.keep.map (fun t=>(t,lke s0.env t)),xs++sh.keepO.map (fun k=>(k,lko s0.obj k)),sh.nx,(List.range s0.nx).filter (fun k=>!sh.keepO.contains k)++s0.log⟩:=by simp only[encS,hdrop,htake,hol,eA0,eB0]
 have hsn:∀ j,SN m.nm j->j < sh.nx:=by
  rintro j ⟨p,hp⟩;have:=all_eq_true.1 n4 _ hp;simp only[and_eq_true,decide_eq_true_eq]at this;exact this.1.2
 have kp:∀ j,(sh.keepO.contains j || m.nm.contains (j,j))=true->j∈sh.keepO∨(j,j)∈m.nm:=by
  intro j hj;simpa using hj
 have hfp:∀ j,j∈sh.keepO∨(j,j)∈m.nm->f j=j:=fun j hj=>hj.elim (hfk j) (fun h=>hf (j,j) h);have hdp:∀ j,j∈sh.keepO∨(j,j)∈m.nm->DN m.nm j∨j∈sh.keepO:=fun j hj=>hj.elim .inr (fun h=> .inl ⟨j,h⟩);have hko:∀ j∈sh.keepO,j < s0.nx∧(∃ o,lko s0.obj j=some o∧lko s'.obj j=some o∧∀ i∈orefs o,i∈sh.keepO∨(i,i)∈m.nm):=by
  intro j hj;have:=all_eq_true.1 n7 _ hj;simp only[and_eq_true,decide_eq_true_eq,Bool.not_eq_true']at this;obtain⟨⟨⟨a1,a2⟩,a3⟩,a4⟩:=this;refine⟨a1,?_⟩;cases ho0:lko s0.obj j with
  |none=>rw[ho0]at a4;cases a4
  |some o=>
   rw[ho0]at a4;refine⟨o,rfl,?_,fun i hi=>kp i (all_eq_true.1 a4 i hi)⟩;obtain⟨d,hd,hd2⟩:=hx.obj;have hnd:j∉d:=by
    have e:s'.log.take (s'.log.length - s0.log.length)=d:=(by rw[hd,List.length_append,Nat.add_sub_cancel,List.take_left]);rw[e]at a2;simpa using a2
   rcases hd2 j a1 hnd with h |h
   ·rw[h,ho0]
   ·rw[h]at a3;cases a3
 have hke:∀ t∈sh.keep,t∉ds∧lke s'.env t=lke s0.env t∧∀ j∈drefs (lke s0.env t),j∈sh.keepO∨(j,j)∈m.nm:=by
  intro t ht;have:=all_eq_true.1 n6 _ ht;simp only[and_eq_true,Bool.not_eq_true']at this;obtain⟨⟨a1,a2⟩,a3⟩:=this;have a1':t∉ds:=by simpa using a1
  refine⟨a1',?_,fun j hj=>kp j (all_eq_true.1 a3 j hj)⟩;rcases hx.env t a1' with h |h
  ·exact h
  ·exact (adA a2 h).elim
 have hks:∀ q∈es,q.1∈ds:=by
  intro q hq;have h1:=(pA q hq).1;obtain⟨z,hz,e⟩:=mem_map.1 h1;have:=all_eq_true.1 n5 _ hz;rw[<- e];simpa using this
 have hkeep:∀ t,lk (sh.keep.map fun t=>(t,lke s0.env t)) t=if t∈sh.keep then some (lke s0.env t)else none:=by
  intro t
  induction sh.keep with
  |nil=>simp[lk]
  |cons q qs ih=>
   simp only[map_cons,lk,ih,mem_cons];by_cases e:q=t
   ·subst e;simp
   ·rw[if_neg e];simp[Ne.symm e]
 have hkeepO:∀ t,lk (sh.keepO.map fun t=>(t,lko s0.obj t)) t=if t∈sh.keepO then some (lko s0.obj t)else none:=by
  intro t
  induction sh.keepO with
  |nil=>simp[lk]
  |cons q qs ih=>
   simp only[map_cons,lk,ih,mem_cons];by_cases e:q=t
   ·subst e;simp
   ·rw[if_neg e];simp[Ne.symm e]
 have henv:∀ t,(∃ d,(t,d)∈es∧lke (encS sh s0 v).env t=d)∨(t∈sh.keep∧lke (encS sh s0 v).env t=lke s0.env t)∨lke (encS sh s0 v).env t= .undef:=by
  intro t;have e1:lke (encS sh s0 v).env t=(match lk es t with |some d=>some d |none=>if t∈sh.keep then some (lke s0.env t)else none).getD .undef:=by
   rw[hS];show (lk (es++sh.keep.map (fun t=>(t,lke s0.env t))) t).getD .undef=_;rw[Bc,hkeep t];cases lk es t<;>rfl
  rw[e1];cases he:lk es t with
  |some d=>exact .inl ⟨d,ko he,rfl⟩
  |none=>
   by_cases ht:t∈sh.keep
   ·simp only[if_pos ht];exact .inr (.inl ⟨ht,rfl⟩)
   ·simp only[if_neg ht];exact .inr (.inr rfl)
 have hobj:∀ j o,lko (encS sh s0 v).obj j=some o->(∃ k' o1,(k',j)∈m.nm∧lko s'.obj k'=some o1∧(aU o).sz=(aU o1).sz∧RowsW (DN m.nm) f (aU o1).rows (aU o).rows∧(∀ i∈orefs o,SN m.nm i))∨(j∈sh.keepO∧lko s0.obj j=some o):=by
  intro j o hjo;have e1:lko (encS sh s0 v).obj j=(match lk xs j with |some d=>some d |none=>if j∈sh.keepO then some (lko s0.obj j)else none).join:=by
   rw[hS];show (lk (xs++sh.keepO.map (fun k=>(k,lko s0.obj k))) j).join=_;rw[Bc,hkeepO j];cases lk xs j<;>rfl
  rw[e1]at hjo;cases he:lk xs j with
  |some x=>
   rw[he]at hjo;obtain⟨_,k',o1,o',b1,b2,b3,b4,b5,b6⟩:=pB _ (ko he);simp only at b1 b2 hjo;subst b1;simp only[Option.join_some,Option.some.injEq]at hjo;subst hjo;exact .inl ⟨k',o1,b2,b3,b4,b5,b6⟩
  |none=>
   rw[he]at hjo;by_cases hj:j∈sh.keepO
   ·simp only[if_pos hj,Option.join_some]at hjo;exact .inr ⟨hj,hjo⟩
   ·simp[if_neg hj]at hjo
 have hnx:s0.nx<=sh.nx:=n8;have hkx:∀ j,j∈sh.keepO∨(j,j)∈m.nm->j < sh.nx:=fun j hj=>hj.elim (fun hj=>Nat.lt_of_lt_of_le (hko j hj).1 hnx) (fun h=>hsn j ⟨j,h⟩);have hRW:∀ {r q:List AV},RowW (DN m.nm) f r q->RowW (fun j=>DN m.nm j∨j∈sh.keepO) f r q:=by
  intro r
  induction r with
  |nil=>intro q h;cases q with
   |nil=>trivial
   |cons=>exact h.elim
  |cons x xs ih=>intro q h;cases q with
   |nil=>exact h.elim
   |cons y ys=>exact⟨⟨fun k hk=> .inl (h.1.1 k hk),h.1.2⟩,ih h.2⟩
 have hRsW:∀ {r q:List (List AV)},RowsW (DN m.nm) f r q->RowsW (fun j=>DN m.nm j∨j∈sh.keepO) f r q:=by
  intro r
  induction r with
  |nil=>intro q h;cases q with
   |nil=>trivial
   |cons=>exact h.elim
  |cons x xs ih=>intro q h;cases q with
   |nil=>exact h.elim
   |cons y ys=>exact⟨hRW h.1,ih h.2⟩
 refine⟨v,h6,?_,?_,?_⟩
 ·constructor
  ·rw[hS];exact n9
  ·rw[hS];exact Nat.le_trans hl0.ge n8
  ·intro t j hj;have hnx':(encS sh s0 v).nx=sh.nx:=(by rw[hS]);rw[hnx'];rcases henv t with ⟨d,h1,h2⟩ |⟨h1,h2⟩ |h2
   ·rw[h2]at hj;exact hsn j ((pA _ h1).2.2.2 j hj)
   ·rw[h2]at hj;exact hkx j ((hke t h1).2.2 j hj)
   ·rw[h2]at hj;simp[drefs]at hj
  ·intro j o hjo;have hnx':(encS sh s0 v).nx=sh.nx:=(by rw[hS]);rw[hnx'];rcases hobj j o hjo with ⟨k',o1,b1,b2,b3,b4,b5⟩ |⟨b1,b2⟩
   ·exact⟨hsn j ⟨k',b1⟩,fun i hi=>hsn i (b5 i hi)⟩
   ·obtain⟨c1,o',c2,c3,c4⟩:=hko j b1;rw[b2]at c2;injection c2 with c2;subst c2;exact⟨hkx j (.inl b1),fun i hi=>hkx i (c4 i hi)⟩
 ·refine⟨fun t ht=>?_,⟨(List.range s0.nx).filter (fun k=>!sh.keepO.contains k),by rw[hS],fun j hj hn=>?_⟩,by rw[hS];exact hnx⟩
  ·rcases henv t with ⟨d,h1,h2⟩ |⟨h1,h2⟩ |h2
   ·exact (ht (hks _ h1)).elim
   ·exact .inl h2
   ·exact .inr h2
  ·have hjk:j∈sh.keepO:=(by simpa[hj]using hn);cases hjo:lko (encS sh s0 v).obj j with
   |none=>exact .inr rfl
   |some o=>
    rcases hobj j o hjo with ⟨k',o1,b1,_⟩ |⟨b1,b2⟩
    ·exact ((List.nodup_append.1 n2).2.2 j (mem_map.2 ⟨(k',j),b1,rfl⟩) j hjk rfl).elim
    ·exact .inl b2.symm
 ·intro P w0 O0 N β I a w hr;refine⟨_,Rel.re (f:=f) (g:=g) (D:=fun j=>DN m.nm j∨j∈sh.keepO) hgf hg0 hr (fun _=> .inl rfl) (fun _=>rfl) (fun t=>?_) (fun j o' hj=>?_)⟩
  ·show den (lke (encS sh s0 v).env t)= .undef∨((∀ k∈refs (den (lke s'.env t)),_)∧Wkn (rnA f (den (lke s'.env t))) (den (lke (encS sh s0 v).env t)));rcases henv t with ⟨d,h1,h2⟩ |⟨h1,h2⟩ |h2
   ·right;rw[h2];obtain⟨_,b1,b2,_⟩:=pA _ h1;exact⟨fun k hk=> .inl (b2 k (by rwa [fF]at hk)),b1⟩
   ·right;obtain⟨_,b1,b2⟩:=hke t h1;rw[h2,b1];refine⟨fun k hk=>hdp k (b2 k (by rwa [fF]at hk)),?_⟩;rw[<- y9,RN _ (fun k hk=>hfp k (b2 k hk))];exact Wkn.refl _
   ·left;rw[h2];rfl
  ·simp only[DSt.st,Option.map_eq_some_iff]at hj;obtain⟨o,hjo,rfl⟩:=hj;rcases hobj j o hjo with ⟨k',o1,b1,b2,b3,b4,b5⟩ |⟨b1,b2⟩
   ·exact⟨k',aU o1,by simp[DSt.st,b2],.inl ⟨j,b1⟩,hf _ b1,b3,hRsW b4⟩
   ·obtain⟨c1,o',c2,c3,c4⟩:=hko j b1;rw[b2]at c2;injection c2 with c2;subst c2;have hid:rnO f o=o:=by
     cases o with
     |lst c l=>rfl
     |map kc vc l=>rfl
     |cells sz rows=>
      simp only[rnO];congr 1;have:∀ q∈rows,GH f q=q:=fun q hq=>za q fun i hi=>hfp i (c4 i (by
       simp only[orefs,List.mem_flatten,mem_map];exact⟨_,⟨q,hq,rfl⟩,hi⟩))
      rw[map_congr_left this];simp
    obtain⟨r1,r2⟩:=Gm (D:=fun j=>DN m.nm j∨j∈sh.keepO) f o (fun i hi=>hdp i (c4 i hi));rw[hid]at r1 r2;exact⟨j,aU o,by simp[DSt.st,c3],.inr b1,hfk j b1,r1,r2⟩
theorem Ext.trans {ds:Nat->Prop} {a b c:DSt X} (h:Ext ds a b) (h':Ext ds b c):Ext ds a c:=by
 refine⟨fun t ht=>?_,?_,Nat.le_trans h.nx h'.nx⟩
 ·rcases h'.env t ht with h1 |h1
  ·rcases h.env t ht with h2 |h2
   ·exact .inl (h1.trans h2)
   ·exact .inr (h1.trans h2)
  ·exact .inr h1
 ·obtain⟨d,h1,h2⟩:=h.obj;obtain⟨d',h3,h4⟩:=h'.obj;refine⟨d'++d,by rw[h3,h1,append_assoc],fun k hk hn=>?_⟩;simp only[mem_append,not_or]at hn;rcases h4 k (Nat.lt_of_lt_of_le hk h.nx) hn.1 with h5 |h5
  ·rcases h2 k hk hn.2 with h6 |h6
   ·exact .inl (h5.trans h6)
   ·exact .inr (h5.trans h6)
  ·exact .inr h5
theorem Ext.refl (ds:Nat->Prop) (s:DSt X):Ext ds s s:=⟨fun _ _=> .inl rfl,⟨[],by simp,fun _ _ _=> .inl rfl⟩,Nat.le_refl _⟩
def Says (s s':DSt X):Prop:=∀ (P:Program) (w0:World) (O0:Was) (N:Nat) (β:Nat->Option Blk) (I:Nat->Prop) (a:Act) (w:World),Rel P w0 O0 N β I s.st a w->∃ β',Rel P w0 O0 N β' I s'.st a w
theorem Low.room {s:DSt X} {P:Program} {w0:World} {O0:Was} {N:Nat} {β:Nat->Option Blk} {I:Nat->Prop} {a:Act} {w:World} (hl:Low s) (hr:Rel P w0 O0 N β I s.st a w):∃ β2,β2 s.nx=none∧Rel P w0 O0 N β2 I s.st a w:=by
 have hr1:=hr.restrict hl.old
 have hr2:=Rel.re (f:=id) (g:=fun j=>if j < s.nx then j else 1000000) (D:=(· < s.nx)) (s':=s.st) (fun k hk=>if_pos hk) (fun j hj=>if_pos (by have:=hl.ge;omega)) hr1 (fun _=> .inl rfl) (fun _=>rfl)
  (fun q=> .inr ⟨fun k hk=>hl.env q k (by rw[<- fF];exact hk),by
   show Wkn (rnA id (den (lke s.env q))) (den (lke s.env q));rw[<- y9,RN (f:=id) _ (fun _ _=>rfl)];exact Wkn.refl _⟩)
  (fun j o' hj=>by
   simp only[DSt.st,Option.map_eq_some_iff]at hj;obtain⟨x,hx,rfl⟩:=hj;obtain⟨h1,h2⟩:=hl.obj j x hx;obtain⟨r1,r2⟩:=Gm (D:=(· < s.nx)) id x h2;have hid:rnO id x=x:=by
    cases x with
    |lst c l=>rfl
    |map kc vc l=>rfl
    |cells sz rows=>
     simp only[rnO];congr 1;have:∀ q∈rows,GH id q=q:=fun q _=>za (f:=id) q fun _ _=>rfl;rw[map_congr_left this];simp
   rw[hid]at r1 r2;exact⟨j,aU x,by simp[DSt.st,hx],h1,rfl,r1,r2⟩)
 exact⟨_,by simp,hr2⟩
theorem abv {ds:List Nat} {s:DSt X} {t:Nat} {c:CT X.ι} (hl:Low s) (ht:t∈ds):Low (Zh s t c)∧Ext (· ∈ds) s (Zh s t c)∧Says s (Zh s t c):=by
 unfold Zh;split
 ·rename_i hn;split
  ·rename_i hlt;have he:∀ q,lke ((t,.own s.nx 0 0)::s.env) q=if t=q then .own s.nx 0 0 else lke s.env q:=fun q=>by
    simp only[lke,lk];by_cases e:t=q<;>simp[e]
   have hO:∀ q,lko ((s.nx,some (.lst c []))::s.obj) q=if s.nx=q then some (.lst c [])else lko s.obj q:=fun q=>by
    simp only[lko,lk];by_cases e:s.nx=q<;>simp[e]
   refine⟨⟨by show s.nx+1<=1000000;omega,by have:=hl.ge;show 1000<=s.nx+1;omega,fun q k hk=>?_,fun k o ho=>?_⟩,⟨fun q hq=>?_,⟨[s.nx],rfl,fun k hk hnk=>?_⟩,by show s.nx<=s.nx+1;omega⟩,fun P w0 O0 N β I a w hr=>?_⟩
   ·rw[he]at hk;split at hk
    ·simp only[drefs,mem_singleton]at hk;subst hk;show s.nx < s.nx+1;omega
    ·have:=hl.env q k hk;show k < s.nx+1;omega
   ·rw[hO]at ho;split at ho
    ·rename_i e;injection ho with ho;subst ho;subst e;exact⟨by show s.nx < s.nx+1;omega,by simp[orefs]⟩
    ·obtain⟨h1,h2⟩:=hl.obj k o ho;exact⟨by show k < s.nx+1;omega,fun j hj=>by have:=h2 j hj;show j < s.nx+1;omega⟩
   ·left;rw[he,if_neg];intro e;subst e;exact hq ht
   ·left;rw[hO,if_neg (by omega)]
   ·obtain⟨β2,hβ2,hr2⟩:=hl.room hr;obtain⟨hS,hM⟩:=Mem.addNil (i:=s.nx) (o:=aU (.lst c []:DObj X)) hr2.mem hβ2 rfl;refine⟨ins β2 s.nx .none,hr2.defers,hr2.size,fun q=>?_,?_⟩
    ·have h1:=hr2.env q;show SlotR P _ w I (den (lke ((t,.own s.nx 0 0)::s.env) q)) none _;rw[he];by_cases e:t=q
     ·subst e;rw[if_pos rfl];have h2:VR P _ w I (den (lke s.env t)) (a.tmps.getD t undef):=h1;rw[hn]at h2;simp only[den,VR]at h2;simp only[SlotR,den,VR];exact .inl ⟨by simp[ins],h2,trivial,trivial⟩
     ·rw[if_neg e];exact SlotR.mono hS.ext hS.same hS.inc h1
    ·have e:(fun k=>(lko ((s.nx,some (.lst c []))::s.obj) k).map aU)=bA s.st.obj [(s.nx,some (aU (.lst c []:DObj X)))]:=by
      funext q;simp only[bA,DSt.st];rw[hO];by_cases e:s.nx=q
      ·simp[e]
      ·rw[if_neg e,if_neg (Ne.symm e)]
     show Mem P w0 O0 _ I (fun k=>(lko ((s.nx,some (.lst c []))::s.obj) k).map aU) w;rw[e];exact hM
  ·exact⟨hl,Ext.refl _ s,fun _ _ _ _ β _ _ _ h=>⟨β,h⟩⟩
 ·exact⟨hl,Ext.refl _ s,fun _ _ _ _ β _ _ _ h=>⟨β,h⟩⟩
theorem RQ (y:DV X):∀ (l:List (DV X)) (j i:Nat),i∈aG (l.set j y)->i∈aG l∨i∈drefs y
 |[],_,_,h=> .inl (by simpa using h)
 |x::l,0,i,h=>by
  simp only[List.set,aG,mem_append]at h ⊢;rcases h with h |h
  ·exact .inr h
  ·exact .inl (.inr h)
 |x::l,j+1,i,h=>by
  simp only[List.set,aG,mem_append]at h ⊢;rcases h with h |h
  ·exact .inl (.inl h)
  ·rcases RQ y l j i h with h |h
   ·exact .inl (.inr h)
   ·exact .inr h
theorem VRl.set {P:Program} {β:Nat->Option Blk} {w:World} {I:Nat->Prop} {y:AV}:∀ (xs:List AV) (vs:List Value) (j:Nat),(∀ x v,xs[j]? =some x->VR P β w I x v->VR P β w I y v)->VRl P β w I xs vs->VRl P β w I (xs.set j y) vs
 |[],vs,_,_,h=>by simpa using h
 |x::xs,[],_,_,h=>by simp[VRl]at h
 |x::xs,v::vs,0,hy,h=>by simp only[VRl,List.set]at h ⊢;exact⟨hy x v rfl h.1,h.2⟩
 |x::xs,v::vs,j+1,hy,h=>by simp only[VRl,List.set]at h ⊢;exact⟨h.1,VRl.set xs vs j (fun x v e=>hy x v (by simpa using e)) h.2⟩
theorem OR.set1 {P:Program} {β:Nat->Option Blk} {w:World} {I:Nat->Prop} {sz:Nat} {row:List AV} {j:Nat} {y:AV} {B:Blk} (hy:∀ x v,row[j]? =some x->VR P β w I x v->VR P β w I y v) (h:OR P β w I ⟨sz,[row]⟩ B):OR P β w I ⟨sz,[row.set j y]⟩ B:=by
 cases B with
 |none=>simp[OR]at h
 | «at» b s n=>
  obtain⟨h1,c,e,h2,h3,h4⟩:=h;refine⟨h1,c,e,h2,h3,?_⟩;simp only[ORows,List.length_set]at h4 ⊢;refine⟨h4.1,?_,trivial⟩;rw[iR]at h4 ⊢;intro i x hx;rw[List.getElem?_set]at hx;split at hx
  ·rename_i e;subst e;split at hx
   ·injection hx with hx;subst hx;rename_i hlt;obtain⟨v,g1,g2,g3⟩:=h4.2.1 j _ (List.getElem?_eq_getElem hlt);exact⟨v,g1,hy _ v (List.getElem?_eq_getElem hlt) g2,g3⟩
   ·cases hx
  ·exact h4.2.1 i x hx
 |mp b=>
  obtain⟨es,cl,h1,hle,h2,h3⟩:=h;refine⟨es,cl,h1,hle,fun e=>?_,h3⟩;have:=h2 e
  match hes:es.toList,this with
  |[e1],this=>simp only[MRows]at this ⊢;exact⟨VRl.set _ _ j hy this.1,trivial⟩
  |[],this=>simp[MRows]at this
  |_::_::_,this=>simp[MRows]at this
theorem Zk (y:DV X):∀ (l:List (DV X)) (j:Nat),aP (l.set j y)=(aP l).set j (den y)
 |[],_=>by simp[aP]
 |x::l,0=>by simp[aP]
 |x::l,j+1=>by simp[aP,Zk y l j]
theorem abw {ds:List Nat} {s:DSt X} {q j:Nat} {c:CT X.ι} (hl:Low s):Low (Zi s q j c)∧Ext (· ∈ds) s (Zi s q j c)∧Says s (Zi s q j c):=by
 unfold Zi;split
 ·rename_i sz row hq;split
  ·rename_i hn;split
   ·rename_i hlt;have hqn:q < s.nx:=(hl.obj q _ hq).1;have hrefs:∀ k∈aG row,k < s.nx:=fun k hk=>(hl.obj q _ hq).2 k (by simpa[orefs]using hk);have hO:∀ k,lko ((q,some (.cells sz [row.set j (.own s.nx 0 0)]))::(s.nx,some (.lst c []))::s.obj) k=if q=k then some (.cells sz [row.set j (.own s.nx 0 0)])else if s.nx=k then some (.lst c [])else lko s.obj k:=fun k=>by
     simp only[lko,lk];by_cases e:q=k
     ·simp[e]
     ·by_cases e':s.nx=k<;>simp[e,e']
    refine⟨⟨by show s.nx+1<=1000000;omega,by have:=hl.ge;show 1000<=s.nx+1;omega,fun k i hk=>by have:=hl.env k i hk;show i < s.nx+1;omega,fun k o ho=>?_⟩,⟨fun _ _=> .inl rfl,⟨[q,s.nx],rfl,fun k hk hnk=>?_⟩,by show s.nx<=s.nx+1;omega⟩,fun P w0 O0 N β I a w hr=>?_⟩
    ·rw[hO]at ho;split at ho
     ·rename_i e;injection ho with ho;subst ho;subst e;refine⟨by show q < s.nx+1;omega,fun i hi=>?_⟩;show i < s.nx+1;simp only[orefs,map_cons,map_nil,flatten_cons,List.flatten_nil,append_nil]at hi;rcases RQ _ _ _ _ hi with h1 |h1
      ·have:=hrefs i h1;omega
      ·simp only[drefs,mem_singleton]at h1;omega
     ·split at ho
      ·rename_i e;injection ho with ho;subst ho;subst e;exact⟨by show s.nx < s.nx+1;omega,by simp[orefs]⟩
      ·obtain⟨h1,h2⟩:=hl.obj k o ho;exact⟨by show k < s.nx+1;omega,fun i hi=>by have:=h2 i hi;show i < s.nx+1;omega⟩
    ·left;simp only[mem_cons,List.not_mem_nil,or_false,not_or]at hnk;rw[hO,if_neg (Ne.symm hnk.1),if_neg (Ne.symm hnk.2)]
    ·obtain⟨β2,hβ2,hr2⟩:=hl.room hr;obtain⟨hS,hM⟩:=Mem.addNil (i:=s.nx) (o:=aU (.lst c []:DObj X)) hr2.mem hβ2 rfl;refine⟨ins β2 s.nx .none,hr2.defers,hr2.size,fun k=>SlotR.mono hS.ext hS.same hS.inc (hr2.env k),?_⟩;refine hM.weak fun k o' ho=>?_;simp only[DSt.st]at ho;rw[hO]at ho;by_cases e:q=k
     ·subst e;rw[if_pos rfl,Option.map_some]at ho;injection ho with ho;subst ho;refine⟨aU (.cells sz [row]),by simp only[bA];rw[if_neg (by omega)];simp[DSt.st,hq],fun B _ hB=>?_⟩;simp only[aU,map_cons,map_nil,Zk]at hB ⊢;refine OR.set1 (fun x v hx hv=>?_) hB;rw[kQ,List.getElem?_map,hn]at hx;injection hx with hx;subst hx;simp only[den,VR]at hv ⊢;exact .inl ⟨by simp[ins],hv,trivial,trivial⟩
     ·rw[if_neg e]at ho;refine⟨o',?_,fun _ _ h=>h⟩;simp only[bA];by_cases e':s.nx=k
      ·subst e';rw[if_pos rfl]at ho ⊢;simpa using ho
      ·rw[if_neg e']at ho;rw[if_neg (Ne.symm e')];exact ho
   ·exact⟨hl,Ext.refl _ s,fun _ _ _ _ β _ _ _ h=>⟨β,h⟩⟩
  ·exact⟨hl,Ext.refl _ s,fun _ _ _ _ β _ _ _ h=>⟨β,h⟩⟩
 ·exact⟨hl,Ext.refl _ s,fun _ _ _ _ β _ _ _ h=>⟨β,h⟩⟩
theorem J6 {ds:List Nat}:∀ (l:List (Nat×CT X.ι)) {s:DSt X},Low s->(∀ p∈l,p.1∈ds∨1000000<=p.1)->Low (RP l s)∧Ext (· ∈ds) s (RP l s)∧Says s (RP l s)
 |[],s,hl,_=>⟨hl,Ext.refl _ s,fun _ _ _ _ β _ _ _ h=>⟨β,h⟩⟩
 |(t,c)::r,s,hl,hd=>by
  have h0:Low (bif Nat.ble 1000000 t then Zi s ((t - 1000000)/4096) ((t - 1000000)%4096) c else Zh s t c)∧Ext (· ∈ds) s (bif Nat.ble 1000000 t then Zi s ((t - 1000000)/4096) ((t - 1000000)%4096) c else Zh s t c)∧Says s (bif Nat.ble 1000000 t then Zi s ((t - 1000000)/4096) ((t - 1000000)%4096) c else Zh s t c):=by
   cases hb:Nat.ble 1000000 t with
   |true=>exact abw hl
   |false=>exact abv hl ((hd (t,c) (by simp)).resolve_right fun h=>by rw[Nat.ble_eq_true_of_le h]at hb;cases hb)
  obtain⟨h1,h2,h3⟩:=h0;obtain⟨g1,g2,g3⟩:=J6 r h1 (fun p hp=>hd p (by simp[hp]));refine⟨g1,h2.trans g2,fun P w0 O0 N β I a w hr=>?_⟩;obtain⟨β',hr'⟩:=h3 P w0 O0 N β I a w hr;exact g3 P w0 O0 N β' I a w hr'
theorem gT {A:Type} {sh:Sh X.ι} {ds:List Nat} {s0 s':DSt X} {k:VT (X:=X) sh.vars->Option A} {r:A} (hl0:Low s0) (hl':Low s') (hx:Ext (· ∈ds) s0 s') (h:jq sh ds s0 s' k=some r):
 ∃ v,k v=some r∧Low (encS sh s0 v)∧Ext (· ∈ds) s0 (encS sh s0 v)∧Says s' (encS sh s0 v):=by
 unfold jq at h;obtain⟨h1,h2⟩:=dm h;obtain⟨g1,g2,g3⟩:=J6 (ds:=ds) sh.nils hl' (fun p hp=>by simpa using all_eq_true.1 h1 p hp);obtain⟨v,i1,i2,i3,i4⟩:=J5 hl0 (hx.trans g2) h2;refine⟨v,i1,i2,i3,fun P w0 O0 N β I a w hr=>?_⟩;obtain⟨β',hr'⟩:=g3 P w0 O0 N β I a w hr;exact i4 P w0 O0 N β' I a w hr'
end
noncomputable def Xn {K O:Type} (l:List K) (f:List K->Option O):Option O:=open Classical in if h:∃ o,∀ l',l.Perm l'->f l'=some o then some h.choose else none
theorem Xo {K O:Type} {l:List K} {f:List K->Option O} {o:O} (h:Xn l f=some o):∀ l',l.Perm l'->f l'=some o:=by
 unfold Xn at h;split at h
 ·rename_i hh;injection h with h;subst h;exact hh.choose_spec
 ·cases h
noncomputable def allEq {O:Type} (f:Nat->Option O):Option O:=open Classical in if ∀ r,f r=f 0 then f 0 else none
theorem abx {O:Type} {f:Nat->Option O} {o:O} (h:allEq f=some o) (r:Nat):f r=some o:=by
 unfold allEq at h;split at h
 ·rename_i hh;rw[hh r];exact h
 ·cases h
def VH {K V O:Type} (step:K->V->Option (V ⊕ O)):List K->V->Option (V ⊕ O)
 |[],v=>some (.inl v)
 |p::r,v=>(step p v).bind fun q=>match q with
  | .inl v'=>VH step r v'
  | .inr a=>some (.inr a)
def ag3 {W A:Type} (o:Option (W ⊕ A)) (f:W->Option A):Option A:=o.bind fun r=>match r with
 | .inl w=>f w
 | .inr a=>some a
def bO:Code->List Nat
 | .region _ ops _=>ops.toList.filterMap (·.dst)
 | .seq a b=>bO a++bO b
 | .cond _ a b=>bO a++bO b
 | .block _ b=>bO b
 | .loop b=>bO b
 |_=>[]
section
variable {X:SX}
section
variable {P:Program} {N:Nat}
def DU {A:Type} (ds:List Nat) (s:DSt X) (k:Exit->DSt X->Option A) (r:A) (e:Exit) (σ:St):Prop:=∃ s',Low s'∧Ext (· ∈ds) s s'∧σ=s'.st∧k e s'=some r
theorem Xp {c:Code} {Q Q':Exit->St->Prop} {σ:St} (h:Ev P N c Q σ) (ht:∀ e σ,Q e σ->∀ w0 O0 β I a w,Rel P w0 O0 N β I σ a w->∃ β' σ',Rel P w0 O0 N β' I σ' a w∧Old σ'∧Q' e σ'):Ev P N c Q' σ:=by
 intro w0 O0 β I a w hr ho;refine wp_mono (h w0 O0 β I a w hr ho) ?_;rintro e a' w' ⟨β',I',σ',h1,_,h3⟩;obtain⟨β2,σ2,g1,g2,g3⟩:=ht e σ' h3 w0 O0 β' I' a' w' h1;exact⟨β2,I',σ2,g1,g2,g3⟩
end
def ae6:(c:CT X.ι)->CT.T X.toSE c->Value
 | .int k,n=> .int k n
 | .str,s=> .string s
 |_,_=> .bool false
theorem acS {c:CT X.ι} {eq:CT.T X.toSE c->CT.T X.toSE c->Bool} (h:DK c=some eq) (x:CT.T X.toSE c):(CT.tv X.toSE c x).av= .t (.sc (ae6 c x)):=by cases c<;>first |rfl |(simp [DK]at h)
theorem ae7 {c:CT X.ι} (x:CT.T X.toSE c):oneCell (ae6 c x):=by cases c<;>exact trivial
def forget (kk:Nat) (s:DSt X):DSt X:=⟨s.env.map (fun p=>(p.1,bif (drefs p.2).contains kk then .undef else p.2)),(kk,none)::s.obj,s.nx,s.log⟩
def J7 (s:DSt X) (i:RgI) (d:DV X):DSt X:=⟨(i.kv,d)::(i.xx,.undef)::(i.e,.undef)::(i.b,.undef)::(i.nn,.undef)::s.env,s.obj,s.nx,s.log⟩
def RS (s:DSt X) (i:RgI):DSt X:=⟨(i.b,.undef)::(i.nn,.undef)::s.env,s.obj,s.nx,s.log⟩
def rgS (s:DSt X) (i:RgI) (kk r:Nat):DSt X:=⟨(i.it,.raw (Uv r))::(i.a0,.undef)::(forget kk s).env,(forget kk s).obj,s.nx,s.log⟩
def ag4 (N:Nat) (i:RgI) (s:DSt X) (hd:Sh X.ι) (kk:Nat):Bool:=
 decide (i.a0 < N)&&decide (i.it < N)&&decide (i.nn < N)&&decide (i.b < N)&&decide (i.e < N)&&decide (i.xx < N)&&decide (i.kv < N)&&hd.keep.contains i.it&&!(hd.slots.map (·.1)).contains i.it
def EK (dsb:List Nat) (i:RgI):List Nat:=i.nn::i.b::i.e::i.xx::i.kv::dsb
noncomputable def Zl (T:Tab) (N:Nat) (c:Code) (dsb:List Nat) (hd:Sh X.ι) (s:DSt X) {A:Type} (k:Exit->DSt X->Option A) (rb:(B:Type)->DSt X->(Exit->DSt X->Option B)->Option B):Option A:=
 (aa0 c).bind fun i=>(T i.t).bind fun ti=>match ti.k,Ra (lke s.env) i.x with
  | .map _ _,.mp kk=>match lko s.obj kk with
   |some (.map kc _ l)=>(DK kc).bind fun _=>bif ag4 N i s hd kk then
    allEq fun r=>jq hd (EK dsb i) (rgS s i kk r) (rgS s i kk r) fun v0=>
     ag3 (Xn (l.map (·.1)) fun ks=>VH (fun kx v=>rb (VT (X:=X) hd.vars ⊕ A) (J7 (encS hd (rgS s i kk r) v) i (.c kc kx)) fun e s'=>match e with
      | .normal=>jq hd (EK dsb i) (rgS s i kk r) s' fun v=>some (.inl v)
      | .exit q=>if q=i.j2 then jq hd (EK dsb i) (rgS s i kk r) s' fun v=>some (.inl v)else if q=i.j then none else (k (.exit q) s').map .inr
      |e=>(k e s').map .inr) ks v0) fun v=>k .normal (RS (encS hd (rgS s i kk r) v) i)
    else none
   |_=>none
  |_,_=>none
theorem J8 (d:Nat) (x:DV X) (e:List (Nat×DV X)) (t:Nat):lke ((d,x)::e) t=if d=t then x else lke e t:=by
 simp only[lke,lk];split<;>rfl
theorem Cv (s:DSt X) (d:Nat) (x:DV X):(⟨(d,x)::s.env,s.obj,s.nx,s.log⟩:DSt X).st=s.st.put d (den x):=by
 simp only[DSt.st,St.put];congr 1
 ·funext t;simp only[J8,uV,Option.some.injEq];split<;>rfl
 ·funext t;simp only[uV];split<;>rfl
theorem jE {s:DSt X} (h:Low s) {d:Nat} {x:DV X} (hx:drefs x=[]):Low (⟨(d,x)::s.env,s.obj,s.nx,s.log⟩:DSt X):=by
 refine⟨h.le,h.ge,fun t k hk=>?_,h.obj⟩;simp only[J8]at hk;split at hk
 ·rw[hx]at hk;simp at hk
 ·exact h.env t k hk
theorem vS {ds:Nat->Prop} {s0 s:DSt X} (h:Ext ds s0 s) {d:Nat} {x:DV X} (hd:ds d∨x= .undef):Ext ds s0 (⟨(d,x)::s.env,s.obj,s.nx,s.log⟩:DSt X):=by
 refine⟨fun t ht=>?_,h.obj,h.nx⟩;simp only[J8];split
 ·rename_i e;subst e;rcases hd with hd |hd
  ·exact (ht hd).elim
  ·exact .inr hd
 ·exact h.env t ht
theorem Zm (s:DSt X) (i:RgI) (d:DV X):(J7 s i d).st=((((s.st.put i.nn .undef).put i.b .undef).put i.e .undef).put i.xx .undef).put i.kv (den d):=by
 have e1:=Cv s i.nn .undef;have e2:=Cv ⟨(i.nn,.undef)::s.env,s.obj,s.nx,s.log⟩ i.b (.undef:DV X);have e3:=Cv ⟨(i.b,.undef)::(i.nn,.undef)::s.env,s.obj,s.nx,s.log⟩ i.e (.undef:DV X);have e4:=Cv ⟨(i.e,.undef)::(i.b,.undef)::(i.nn,.undef)::s.env,s.obj,s.nx,s.log⟩ i.xx (.undef:DV X);have e5:=Cv ⟨(i.xx,.undef)::(i.e,.undef)::(i.b,.undef)::(i.nn,.undef)::s.env,s.obj,s.nx,s.log⟩ i.kv d;simp only[e1,e2,e3,e4]at e5;exact e5
theorem VI (s:DSt X) (i:RgI):(RS s i).st=(s.st.put i.nn .undef).put i.b .undef:=by
 have e1:=Cv s i.nn .undef;have e2:=Cv ⟨(i.nn,.undef)::s.env,s.obj,s.nx,s.log⟩ i.b (.undef:DV X);rw[e1]at e2;exact e2
theorem acT {α β:Type} (f:α->β):∀ (l:List (Nat×α)) (k:Nat),lk (l.map fun p:Nat×α=>(p.1,f p.2)) k=(lk l k).map f
 |[],_=>rfl
 |(j,x)::r,k=>by
  simp only[map_cons,lk];by_cases h:j=k
  ·simp[h]
  ·simp only[if_neg h,acT f r k]
theorem Iu (kk:Nat) (s:DSt X) (t:Nat):lke (forget kk s).env t=(bif (drefs (lke s.env t)).contains kk then .undef else lke s.env t):=by
 simp only[forget,lke,acT (fun d:DV X=>bif (drefs d).contains kk then .undef else d)];cases lk s.env t<;>simp[drefs]
theorem RU {s:DSt X} (h:Low s) (kk:Nat):Low (forget kk s):=by
 refine⟨h.le,h.ge,fun t k hk=>?_,fun k o hk=>?_⟩
 ·rw[Iu]at hk;cases hc:(drefs (lke s.env t)).contains kk<;>rw[hc]at hk
  ·exact h.env t k hk
  ·simp[drefs]at hk
 ·simp only[forget,lko,lk]at hk;split at hk
  ·cases hk
  ·exact h.obj k o hk
theorem Iw (kk:Nat) (s:DSt X) (k:Nat):lko (forget kk s).obj k=if kk=k then none else lko s.obj k:=by
 simp only[forget,lko,lk];split<;>rfl
theorem ae8 {c:CT X.ι} {eq:CT.T X.toSE c->CT.T X.toSE c->Bool} (h:DK c=some eq) (x:CT.T X.toSE c):den (.c c x:DV X)= .t (.sc (ae6 c x)):=acS h x
theorem VJ {K:Type} {f:K->Value} {k:Value} {rem:List Value} {ks:List K} (h:(k::rem).Perm (ks.map f)):∃ kx ks',ks.Perm (kx::ks')∧f kx=k∧rem.Perm (ks'.map f):=by
 have hm:k∈ks.map f:=h.mem_iff.1 (mem_cons_self);obtain⟨kx,hx,rfl⟩:=mem_map.1 hm;obtain⟨a,b,rfl⟩:=List.append_of_mem hx;refine⟨kx,a++b,List.perm_middle,rfl,?_⟩;rw[map_append,map_cons]at h;have:=List.Perm.cons_inv (h.trans List.perm_middle);rw[map_append];exact this
def JR (hd:Sh X.ι) (ds:List Nat) (s:DSt X) (i:RgI) (kk:Nat) (kc:CT X.ι) {O:Type} (step:Nat->CT.T X.toSE kc->VT (X:=X) hd.vars->Option (VT (X:=X) hd.vars ⊕ O)) (K:Nat->VT (X:=X) hd.vars ⊕ O->Prop) (r:Nat) (rem:List Value) (σ:St):Prop:=
 ∃ (o:VT (X:=X) hd.vars ⊕ O) (v:VT (X:=X) hd.vars) (ks:List (CT.T X.toSE kc)),K r o∧σ=(encS hd (rgS s i kk r) v).st∧Low (encS hd (rgS s i kk r) v)∧Ext (· ∈ds) (rgS s i kk r) (encS hd (rgS s i kk r) v)∧rem.Perm (ks.map (ae6 kc))∧∀ ks',ks.Perm ks'->VH (step r) ks' v=some o
theorem ae9 {hd:Sh X.ι} {s1:DSt X} {v:VT (X:=X) hd.vars} {t:Nat} (h1:hd.keep.contains t=true) (h2:(hd.slots.map (·.1)).contains t=false):lke (encS hd s1 v).env t=lke s1.env t:=by
 have hk:∀ (ks:List Nat),t∈ks->lk (ks.map fun t=>(t,lke s1.env t)) t=some (lke s1.env t):=by
  intro ks
  induction ks with
  |nil=>intro h;simp at h
  |cons y ys ih=>
   intro h;simp only[map_cons,lk];by_cases hy:y=t
   ·subst hy;simp
   ·rw[if_neg hy];rcases mem_cons.1 h with h |h
    ·exact absurd h.symm hy
    ·exact ih h
 have hs:∀ (ol:Nat->Nat) (sl:List (Nat×Pt X.ι)) (L:List (DC X)),t∉sl.map (·.1)->lk (zM ol sl L) t=none:=by
  intro ol sl
  induction sl with
  |nil=>intro L _;rfl
  |cons p ps ih=>
   intro L h;simp only[map_cons,mem_cons,not_or]at h;obtain⟨a,b⟩:=p;simp only[zM,lk];rw[if_neg (fun e=>h.1 e.symm)];exact ih _ h.2
 have ha:∀ (a b:List (Nat×DV X)),lk a t=none->lk (a++b) t=lk b t:=by
  intro a
  induction a with
  |nil=>intro b _;rfl
  |cons p a ih=>
   intro b h;obtain⟨j,x⟩:=p;simp only[lk]at h;split at h
   ·cases h
   ·rename_i hj;simp only[cons_append,lk,if_neg hj];exact ih b h
 show (lk (zM _ hd.slots _++hd.keep.map (fun t=>(t,lke s1.env t))) t).getD .undef=lke s1.env t;rw[ha _ _ (hs _ _ _ (by simpa using h2)),hk _ (by simpa using h1)];rfl
theorem Zn {T:Tab} {P:Program} {N:Nat} (hT:dH P T) {c:Code} {i:RgI} (hc:aa0 c=some i) {hd:Sh X.ι} {s:DSt X} {A:Type} {k:Exit->DSt X->Option A} {rb:(B:Type)->DSt X->(Exit->DSt X->Option B)->Option B} {res:A} (hl:Low s)
 (hb:∀ (B:Type) (s1:DSt X) (k1:Exit->DSt X->Option B) (r:B),Low s1->rb B s1 k1=some r->Ev P N i.body (DU (bO i.body) s1 k1 r) s1.st)
 (h:Zl T N c (bO i.body) hd s k rb=some res):Ev P N c (DU (bO c) s k res) s.st:=by
 unfold Zl at h;rw[hc,bind_some]at h;rw[ai]at h;obtain⟨ti,h1,h⟩:=h;split at h
 ·rename_i kt et kk hk hx;split at h
  ·rename_i kc vc l hobj;rw[ai]at h;obtain⟨eq,h2,h⟩:=h;obtain⟨h3,h⟩:=dm h;simp only[ag4,and_eq_true,decide_eq_true_eq,Bool.not_eq_true']at h3;obtain⟨⟨⟨⟨⟨⟨⟨⟨N1,N2⟩,N3⟩,N4⟩,N5⟩,N6⟩,N7⟩,hkeep⟩,hnsl⟩:=h3;have hr:=fun r=>abx h r;clear h;have hds:∀ t,t∈EK (bO i.body) i->t∈bO c:=by
    obtain⟨i1,i2,i3,ops1,ops2,ops3,o1,o2,o3,o4,o5,o6,o7,rfl,l1,l2,l3,⟨_,q1,_⟩,⟨_,q2,_⟩,⟨_,q3,_⟩,⟨_,q4,_⟩,⟨_,q5,_⟩,⟨_,q6,_⟩,⟨_,q7,_⟩,_⟩:=Gg hc;intro t ht;simp only[EK,mem_cons]at ht;simp only[bO,l1,l2,l3,mem_append,List.mem_filterMap,mem_cons,List.not_mem_nil,or_false];rcases ht with rfl |rfl |rfl |rfl |rfl |ht
    ·exact .inr (.inl ⟨o3,by simp,q3⟩)
    ·exact .inr (.inl ⟨o4,by simp,q4⟩)
    ·exact .inr (.inr (.inr (.inl ⟨o5,by simp,q5⟩)))
    ·exact .inr (.inr (.inr (.inl ⟨o6,by simp,q6⟩)))
    ·exact .inr (.inr (.inr (.inl ⟨o7,by simp,q7⟩)))
    ·exact .inr (.inr (.inr (.inr ht)))
   have hds2:i.it∈bO c∧i.a0∈bO c:=by
    obtain⟨i1,i2,i3,ops1,ops2,ops3,o1,o2,o3,o4,o5,o6,o7,rfl,l1,l2,l3,⟨_,q1,_⟩,⟨_,q2,_⟩,_⟩:=Gg hc;simp only[bO,l1,mem_append,List.mem_filterMap,mem_cons,List.not_mem_nil,or_false];exact⟨.inl ⟨o2,by simp,q2⟩,.inl ⟨o1,by simp,q1⟩⟩
   have lowS:∀ r,Low (rgS s i kk r):=fun r=>jE (jE (RU hl kk) rfl) rfl;have extS:∀ r,Ext (· ∈bO c) s (rgS s i kk r):=by
    intro r;have e0:Ext (· ∈bO c) s (forget kk s):=by
     refine⟨fun t _=>?_,⟨[],rfl,fun q _ _=>?_⟩,Nat.le_refl _⟩
     ·rw[Iu];cases (drefs (lke s.env t)).contains kk
      ·exact .inl rfl
      ·exact .inr rfl
     ·rw[Iw];split
      ·exact .inr rfl
      ·exact .inl rfl
    exact vS (vS e0 (.inl hds2.2)) (.inl hds2.1)
   have wide:∀ {a b:DSt X},Ext (· ∈EK (bO i.body) i) a b->Ext (· ∈bO c) a b:=fun h=>⟨fun t ht=>h.env t (fun hh=>ht (hds t hh)),h.obj,h.nx⟩;have henv:∀ t,s.st.env t=den (lke s.env t):=fun t=>rfl;have hf:∀ t,(forget kk s).st.env t= .undef∨(forget kk s).st.env t=s.st.env t:=fun t=>by
    show den (lke (forget kk s).env t)= .undef∨den (lke (forget kk s).env t)=den (lke s.env t);rw[Iu];cases (drefs (lke s.env t)).contains kk
    ·exact .inr rfl
    ·exact .inl rfl
   intro w0 O0 β I a w hrel _
   refine aeF (kk:=kk) (o:=aU (.map kc vc l)) (keys:=l.map fun p=>ae6 kc p.1) hT hc h1 hk ⟨N1,N2,N3,N4,N5,N6,N7⟩ (fun _=>rfl) ?_ ?_ ?_ ?_ ?_ (forget kk s).st ?_ ?_ hf (fun _=>rfl) (DU (bO c) s k res)
    (JR hd (EK (bO i.body) i) s i kk kc (fun r kx v=>rb (VT (X:=X) hd.vars ⊕ A) (J7 (encS hd (rgS s i kk r) v) i (.c kc kx)) fun e s'=>match e with
     | .normal=>jq hd (EK (bO i.body) i) (rgS s i kk r) s' fun v=>some (.inl v)
     | .exit q=>if q=i.j2 then jq hd (EK (bO i.body) i) (rgS s i kk r) s' fun v=>some (.inl v)else if q=i.j then none else (k (.exit q) s').map .inr
     |e=>(k e s').map .inr) (fun r q=>match q with | .inl w=>k .normal (RS (encS hd (rgS s i kk r) w) i)=some res | .inr a=>a=res)) ?_ ?_ ?_ ?_ ?_ ?_ ?_ (RU hl kk).old β I a w hrel
   ·have:=JP (lke s.env) i.x;rw[hx]at this;exact this.symm
   ·show (lko s.obj kk).map aU=_;rw[hobj];rfl
   ·simp[aU]
   ·simp only[aU,map_map];refine map_congr_left fun p _=>?_;simp only[Function.comp_apply,List.head?_cons,acS h2]
   ·intro q hq;obtain⟨p,_,rfl⟩:=mem_map.1 hq;exact ae7 _
   ·show (lko (forget kk s).obj kk).map aU=none;rw[Iw,if_pos rfl];rfl
   ·intro q o ho;have ho:(lko (forget kk s).obj q).map aU=some o:=ho;rw[Iw]at ho;split at ho
    ·cases ho
    ·exact ho
   ·rintro r rem σ ⟨o,v,ks,_,rfl,g2,g3,_⟩;refine⟨g2.old,?_,rfl⟩;show den (lke (encS hd (rgS s i kk r) v).env i.it)=_;rw[ae9 hkeep hnsl];simp only[rgS,J8,if_true];rfl
   ·rintro r rem rem' σ ⟨o,v,ks,g0,g1,g2,g3,g4,g5⟩ hp;exact⟨o,v,ks,g0,g1,g2,g3,hp.symm.trans g4,g5⟩
   ·intro r w0 O0 β I a w hrel;obtain⟨v0,f1,f2,f3,f4⟩:=gT (lowS r) (lowS r) (Ext.refl _ _) (hr r);unfold ag3 at f1;rw[ai]at f1;obtain⟨q,f5,f6⟩:=f1;have e1:WQ (forget kk s).st i r=(rgS s i kk r).st:=by
     have e1:=Cv (forget kk s) i.a0 (.undef:DV X);have e2:=Cv ⟨(i.a0,.undef)::(forget kk s).env,(forget kk s).obj,(forget kk s).nx,(forget kk s).log⟩ i.it (.raw (Uv r):DV X);rw[e1]at e2;exact e2.symm
    rw[e1]at hrel;obtain⟨β',hrel'⟩:=f4 P w0 O0 N β I a w hrel;refine⟨β',_,hrel',q,v0,l.map (·.1),?_,rfl,f2,f3,?_,Xo f5⟩
    ·cases q with
     |inl w=>exact f6
     |inr a=>injection f6
    ·rw[map_map];exact .refl _
   ·rintro r key rem σ ⟨o,v,ks,g0,rfl,g2,g3,g4,g5⟩;obtain⟨kx,ks',p1,p2,p3⟩:=VJ g4;have hfold:=g5 _ p1;simp only[VH]at hfold;rw[ai]at hfold;obtain⟨z,z1,z2⟩:=hfold;have e1:aeE (encS hd (rgS s i kk r) v).st i key=(J7 (encS hd (rgS s i kk r) v) i (.c kc kx)).st:=(by rw[Zm,ae8 h2,p2];rfl);rw[e1];have lowI:Low (J7 (encS hd (rgS s i kk r) v) i (.c kc kx)):=jE (jE (jE (jE (jE g2 rfl) rfl) rfl) rfl) rfl;have extI:Ext (· ∈EK (bO i.body) i) (rgS s i kk r) (J7 (encS hd (rgS s i kk r) v) i (.c kc kx)):=
     vS (vS (vS (vS (vS g3 (.inr rfl)) (.inr rfl)) (.inr rfl)) (.inr rfl)) (.inl (by simp[EK]))
    refine Xp (hb _ _ _ _ lowI z1) ?_;rintro e σ ⟨s',a1,a2,rfl,a4⟩ w0 O0 β I a w hrel;have a2':Ext (· ∈EK (bO i.body) i) (rgS s i kk r) s':=extI.trans ⟨fun t ht=>a2.env t (fun hh=>ht (by simp[EK,hh])),a2.obj,a2.nx⟩
    have again:jq hd (EK (bO i.body) i) (rgS s i kk r) s' (fun v=>some (.inl v))=some z->∃ β' σ',Rel P w0 O0 N β' I σ' a w∧Old σ'∧
     JR hd (EK (bO i.body) i) s i kk kc (fun r kx v=>rb (VT (X:=X) hd.vars ⊕ A) (J7 (encS hd (rgS s i kk r) v) i (.c kc kx)) fun e s'=>match e with
      | .normal=>jq hd (EK (bO i.body) i) (rgS s i kk r) s' fun v=>some (.inl v)
      | .exit q=>if q=i.j2 then jq hd (EK (bO i.body) i) (rgS s i kk r) s' fun v=>some (.inl v)else if q=i.j then none else (k (.exit q) s').map .inr
      |e=>(k e s').map .inr) (fun r q=>match q with | .inl w=>k .normal (RS (encS hd (rgS s i kk r) w) i)=some res | .inr a=>a=res) r rem σ':=by
     intro hm;obtain⟨v',i1,i2,i3,i4⟩:=gT (lowS r) a1 a2' hm;injection i1 with i1;subst i1;obtain⟨β',i5⟩:=i4 P w0 O0 N β I a w hrel;refine⟨β',_,i5,i2.old,o,v',ks',g0,rfl,i2,i3,p3,fun ks'' hp=>?_⟩;have:=g5 (kx::ks'') (p1.trans (hp.cons kx));simp only[VH]at this;rw[z1,bind_some]at this;exact this
    have other:∀ e',(k e' s').map Sum.inr=some z->∃ β' σ',Rel P w0 O0 N β' I σ' a w∧Old σ'∧DU (bO c) s k res e' σ':=by
     intro e' hm;rw[Option.map_eq_some_iff]at hm;obtain⟨b,hb1,rfl⟩:=hm;injection z2 with z2;subst z2;have g0:b=res:=g0;subst g0;exact⟨β,_,hrel,a1.old,s',a1,(extS r).trans (wide a2'),rfl,hb1⟩
    cases e with
    |normal=>exact again a4
    |exit q=>
     simp only at a4 ⊢;split at a4
     ·rename_i hq;simp only[if_pos hq];exact again a4
     ·rename_i hq;simp only[if_neg hq];split at a4
      ·cases a4
      ·rename_i hq';simp only[if_neg hq'];exact other _ a4
    |_=>exact other _ a4
   ·rintro r σ ⟨o,v,ks,g0,rfl,g2,g3,g4,g5⟩;have hks:ks=[]:=by
     have:=List.nil_perm.1 g4;simpa using this
    subst hks;have:=g5 [] (.refl _);simp only[VH,Option.some.injEq]at this;subst this;refine⟨_,jE (jE g2 rfl) rfl,(extS r).trans (wide (vS (vS g3 (.inr rfl)) (.inr rfl))),(VI _ i).symm,g0⟩
   ·rintro r σ ⟨o,v,ks,g0,rfl,g2,_⟩;show Old (((encS hd (rgS s i kk r) v).st.put i.nn .undef).put i.b .undef);rw[<- VI];exact (jE (jE g2 rfl) rfl:Low (RS (encS hd (rgS s i kk r) v) i)).old
   ·rintro r key rem σ ⟨o,v,ks,g0,rfl,g2,g3,g4,g5⟩;obtain⟨kx,ks',p1,p2,p3⟩:=VJ g4;have e1:aeE (encS hd (rgS s i kk r) v).st i key=(J7 (encS hd (rgS s i kk r) v) i (.c kc kx)).st:=(by rw[Zm,ae8 h2,p2];rfl);rw[e1];exact (jE (jE (jE (jE (jE g2 rfl) rfl) rfl) rfl) rfl:Low (J7 (encS hd (rgS s i kk r) v) i (.c kc kx))).old
  ·cases h
 ·cases h
end
inductive Hn (ι:Type) where
 |z
 |f (l:List Nat)
 |s (a b:Hn ι)
 |b (a:Hn ι)
 |j (sh:Sh ι) (a:Hn ι)
 |jx (sh:Sh ι) (a:Hn ι)
 |l (head:Sh ι) (id:Nat) (out:Sh ι) (a:Hn ι)
 |lx (head:Sh ι) (id:Nat) (out:Sh ι) (a:Hn ι)
 |rg (head:Sh ι) (a:Hn ι)
def Hn.fz {ι:Type}:Hn ι->List Nat
 | .f is=>is
 |_=>[]
def Hn.fst {ι:Type}:Hn ι->Hn ι
 | .s a _=>a
 |_=> .z
def Hn.snd {ι:Type}:Hn ι->Hn ι
 | .s _ y=>y
 |_=> .z
def Hn.sub {ι:Type}:Hn ι->Hn ι
 | .b a=>a
 |_=> .z
def iter {V O:Type} (step:V->Option (V ⊕ O)):Nat->V->Option O
 | 0,_=>none
 |n+1,v=>(step v).bind fun r=>match r with
  | .inl v=>iter step n v
  | .inr o=>some o
def dw {W A:Type} (o:Option (W ⊕ A)) (f:W->Option A):Option A:=o.bind fun r=>match r with
 | .inl w=>f w
 | .inr a=>some a
noncomputable def both {A:Type} (x y:Option A):Option A:=open Classical in if x=y then x else none
theorem adB {A:Type} {x y:Option A} {r:A} (h:both x y=some r):x=some r∧y=some r:=by
 unfold both at h;split at h
 ·rename_i e;exact⟨h,e ▸ h⟩
 ·cases h
theorem adC {A:Type} (x:Option A):both x x=x:=by simp[both]
section
variable {X:SX}
def RX (ds:List Nat) (s:DSt X) (h:Hn X.ι) {A:Type} (k:Exit->DSt X->Option A) (body:(B:Type)->Hn X.ι->(Exit->DSt X->Option B)->Option B):Option A:=
 match h with
 | .j sh h'=>(body (VT (X:=X) sh.vars) h' fun e s'=>match e with
  | .normal=>jq sh ds s s' some
  |_=>none).bind fun v=>k .normal (encS sh s v)
 | .jx sh h'=>dw (body (VT (X:=X) sh.vars ⊕ A) h' fun e s'=>match e with
  | .normal=>jq sh ds s s' fun v=>some (.inl v)
  |e=>(k e s').map .inr) fun v=>k .normal (encS sh s v)
 |h=>body A h k
variable (Γ:FuncId->Option (Sig X)) (T:Tab) (code:TypeId->Option (CT X.ι)) (N n:Nat)
noncomputable def run:Code->(A:Type)->Hn X.ι->DSt X->(Exit->DSt X->Option A)->Option A
 | .skip,_,_,s,k=>k .normal s
 | .region id ops d,A,h,s,k=>RX (bO (.region id ops d)) s h k fun _ h k=>abu Γ h.fz T code N ops d s (k .normal)
 | .seq x y,A,h,s,k=>match h with
  | .rg hd h'=>match y with
   | .block j (.loop (.seq r2 (.seq cc (.block j2 (.seq r3 body)))))=>Zl T N (.seq x (.block j (.loop (.seq r2 (.seq cc (.block j2 (.seq r3 body))))))) (bO body) hd s k fun B s1 k1=>run body B h' s1 k1
   |_=>none
  |h=>RX (bO (.seq x y)) s h k fun B h k=>run x B h.fst s fun e s'=>match e with
   | .normal=>run y B h.snd s' k
   |e=>k e s'
 | .cond c x y,A,h,s,k=>RX (bO (.cond c x y)) s h k fun B h k=>match Ra (lke s.env) c with
  | .c .bool v=>bif v then run x B h.fst s k else run y B h.snd s k
  | .ub=>both (run x B h.fst s k) (run y B h.snd s k)
  |_=>none
 | .block id b,A,h,s,k=>RX (bO (.block id b)) s h k fun B h k=>run b B h.sub s fun e s'=>match e with
  | .exit j=>if j=id then k .normal s' else k (.exit j) s'
  |e=>k e s'
 | .loop b,A,h,s,k=>match h with
  | .l hd id out h'=>jq hd (bO b) s s fun v0=>(iter (fun v=>run b (VT (X:=X) hd.vars ⊕ VT (X:=X) out.vars) h' (encS hd s v) fun e s'=>match e with
   | .normal=>jq hd (bO b) s s' fun v=>some (.inl v)
   | .exit j=>if j=id then jq out (bO b) s s' fun w=>some (.inr w)else none
   |_=>none) n v0).bind fun w=>k (.exit id) (encS out s w)
  | .lx hd id out h'=>jq hd (bO b) s s fun v0=>dw (iter (fun v=>run b (VT (X:=X) hd.vars ⊕ (VT (X:=X) out.vars ⊕ A)) h' (encS hd s v) fun e s'=>match e with
   | .normal=>jq hd (bO b) s s' fun v=>some (.inl v)
   | .exit j=>if j=id then jq out (bO b) s s' fun w=>some (.inr (.inl w))else (k (.exit j) s').map fun a=> .inr (.inr a)
   |e=>(k e s').map fun a=> .inr (.inr a)) n v0) fun w=>k (.exit id) (encS out s w)
  |_=>none
 | .exit id,_,_,s,k=>k (.exit id) s
 | .ret,_,_,s,k=>k .ret s
 | .label _,_,_,s,k=>k .normal s
 |_,_,_,_,_=>none
section
variable {Γ:FuncId->Option (Sig X)} {T:Tab} {code:TypeId->Option (CT X.ι)} {N n:Nat} {P:Program}
theorem Ext.wide {ds ds':Nat->Prop} {a b:DSt X} (h:Ext ds a b) (hd:∀ t,ds t->ds' t):Ext ds' a b:=⟨fun t ht=>h.env t fun hh=>ht (hd t hh),h.obj,h.nx⟩
theorem map_inr {α β:Type} {o:Option β} {r:α ⊕ β} (h:o.map Sum.inr=some r):∃ b,o=some b∧r= .inr b:=by
 cases o with
 |none=>cases h
 |some b=>injection h with h;exact⟨b,rfl,h.symm⟩
theorem Cw {c:Code} {s:DSt X} {h:Hn X.ι} {A:Type} {k:Exit->DSt X->Option A} {r:A} {body:(B:Type)->Hn X.ι->(Exit->DSt X->Option B)->Option B} (hl:Low s)
 (hb:∀ (B:Type) (h:Hn X.ι) (k:Exit->DSt X->Option B) (r:B),body B h k=some r->Ev P N c (DU (bO c) s k r) s.st) (hr:RX (bO c) s h k body=some r):Ev P N c (DU (bO c) s k r) s.st:=by
 unfold RX at hr;split at hr
 ·rename_i sh h';rw[ai]at hr;obtain⟨v,h1,hr⟩:=hr;refine Xp (hb _ _ _ _ h1) ?_;rintro e σ ⟨s',g1,g2,rfl,g4⟩ w0 O0 β I a w hrel;cases e<;>simp only[reduceCtorEq]at g4;obtain⟨v',i1,i2,i3,i4⟩:=gT hl g1 g2 g4;injection i1 with i1;subst i1;obtain⟨β',i5⟩:=i4 P w0 O0 N β I a w hrel;exact⟨β',_,i5,i2.old,_,i2,i3,rfl,hr⟩
 ·rename_i sh h';unfold dw at hr;rw[ai]at hr;obtain⟨v,h1,hr⟩:=hr;refine Xp (hb _ _ _ _ h1) ?_;rintro e σ ⟨s',g1,g2,rfl,g4⟩ w0 O0 β I a w hrel;have other:(k e s').map Sum.inr=some v->∃ β' σ',Rel P w0 O0 N β' I σ' a w∧Old σ'∧DU (bO c) s k r e σ':=by
   intro hm;obtain⟨b,hk,rfl⟩:=map_inr hm;injection hr with hr;subst hr;exact⟨β,_,hrel,g1.old,s',g1,g2,rfl,hk⟩
  cases e with
  |normal=>
   simp only at g4;obtain⟨v',i1,i2,i3,i4⟩:=gT hl g1 g2 g4;injection i1 with i1;subst i1;obtain⟨β',i5⟩:=i4 P w0 O0 N β I a w hrel;exact⟨β',_,i5,i2.old,_,i2,i3,rfl,hr⟩
  |_=>exact other g4
 ·exact hb _ _ _ _ hr
theorem adD {id:Nat} {ops:Array Oper} {d:Bool} {t:Nat} (h:Oi ops t):t∈bO (.region id ops d):=by
 obtain⟨j,op,h1,h2⟩:=h;simp only[bO,List.mem_filterMap];exact⟨op,by rw[<- Array.getElem?_toList]at h1;exact List.mem_of_getElem? h1,h2⟩
theorem RY {b:Code} {s:DSt X} {hd:Sh X.ι} {O:Type} {step:VT (X:=X) hd.vars->Option (VT (X:=X) hd.vars ⊕ O)} {kb:Exit->DSt X->Option (VT (X:=X) hd.vars ⊕ O)} {Q:Exit->St->Prop} (hl:Low s)
 (hkn:∀ s',kb .normal s'=jq hd (bO b) s s' fun v=>some (.inl v))
 (hstep:∀ v r,Low (encS hd s v)->step v=some r->Ev P N b (DU (bO b) (encS hd s v) kb r) (encS hd s v).st)
 {o:O} (hQ:∀ e s',e≠ .normal->Low s'->Ext (· ∈bO b) s s'->kb e s'=some (.inr o)->∀ w0 O0 β I a w,Rel P w0 O0 N β I s'.st a w->∃ β' σ',Rel P w0 O0 N β' I σ' a w∧Old σ'∧Q e σ')
 (hno:∀ e s' v,e≠ .normal->kb e s'=some (.inl v)->False) (n:Nat) (v0:VT (X:=X) hd.vars) (h:iter step n v0=some o) (hl0:Low (encS hd s v0)) (hx0:Ext (· ∈bO b) s (encS hd s v0)):Ev P N (.loop b) Q (encS hd s v0).st:=by
 intro w0 O0 β I a w hr ho;refine LQ (fun n a w=>∃ β I v,Rel P w0 O0 N β I (encS hd s v).st a w∧iter step n v=some o∧Low (encS hd s v)∧Ext (· ∈bO b) s (encS hd s v)) (fun a w ⟨_,_,v,_,h,_⟩=>by cases h) ?_ n a w ⟨β,I,v0,hr,h,hl0,hx0⟩;rintro n a w ⟨β,I,v,hr,hi,hlv,hxv⟩;simp only[iter]at hi;rw[ai]at hi;obtain⟨r,h1,hi⟩:=hi;refine wp_mono (hstep v r hlv h1 w0 O0 β I a w hr hlv.old) ?_;rintro e a' w' ⟨β',I',σ',g1,_,s',g2,g3,rfl,g4⟩;have hxs:=hxv.trans g3;by_cases he:e= .normal
 ·subst he;rw[hkn]at g4;obtain⟨v',i1,i2,i3,i4⟩:=gT hl g2 hxs g4;injection i1 with i1;subst i1;obtain⟨β2,i5⟩:=i4 P w0 O0 N β' I' a' w' g1;exact⟨β2,I',v',i5,hi,i2,i3⟩
 ·cases r with
  |inl v'=>exact (hno e s' v' he g4).elim
  |inr o'=>
   injection hi with hi;subst hi;obtain⟨β2,σ2,i1,i2,i3⟩:=hQ e s' he g2 hxs g4 w0 O0 β' I' a' w' g1;cases e with
   |normal=>exact (he rfl).elim
   |_=>exact⟨β2,I',σ2,i1,i2,i3⟩
theorem RZ {A:Type} {sh:Sh X.ι} {ds:List Nat} {s0 s':DSt X} {k:VT (X:=X) sh.vars->Option A} {r:A} (h:jq sh ds s0 s' k=some r):∃ v,k v=some r:=by
 unfold jq at h;obtain⟨_,h⟩:=dm h;unfold Ir at h;rw[ai]at h;obtain⟨m1,h1,h⟩:=h;rw[ai]at h;obtain⟨m,h2,h⟩:=h;obtain⟨h3,h⟩:=dm h;rw[ai]at h;obtain⟨v,h4,h⟩:=h;exact⟨v,(mG h).2⟩
theorem Zo {α β γ:Type} {o:Option γ} {r:α ⊕ (β ⊕ γ)} (h:o.map (fun a=>Sum.inr (Sum.inr a))=some r):∃ b,o=some b∧r= .inr (.inr b):=by
 cases o with
 |none=>cases h
 |some b=>injection h with h;exact⟨b,rfl,h.symm⟩
theorem iP (hT:dH P T) (hm:P.follows .mixedOrders=true) (hΓ:GOk P Γ):∀ (c:Code) (A:Type) (h:Hn X.ι) (s:DSt X) (k:Exit->DSt X->Option A) (r:A),Low s->run Γ T code N n c A h s k=some r->Ev P N c (DU (bO c) s k r) s.st
 | .skip,A,h,s,k,r,hl,hr=>JJ ⟨s,hl,Ext.refl _ s,rfl,hr⟩
 | .exit id,A,h,s,k,r,hl,hr=>acE ⟨s,hl,Ext.refl _ s,rfl,hr⟩
 | .ret,A,h,s,k,r,hl,hr=>aaY ⟨s,hl,Ext.refl _ s,rfl,hr⟩
 | .label l,A,h,s,k,r,hl,hr=>aeD ⟨s,hl,Ext.refl _ s,rfl,hr⟩
 | .region id ops d,A,h,s,k,r,hl,hr=>by
  refine Cw hl (fun B h k r hb=>?_) hr;obtain⟨s',g1,g2,g3,g4⟩:=Xm (id:=id) hT hm hΓ hl hb;exact g4.mono fun e σ ⟨he,hσ⟩=>⟨s',g2,g3.wide fun t ht=>adD ht,hσ,by rw[he];exact g1⟩
 | .seq x y,A,h,s,k,r,hl,hr=>by
  by_cases hrg:∃ hd h',h= .rg hd h'
  ·obtain⟨hd,h',rfl⟩:=hrg
   match y,hr with
   | .block j (.loop (.seq r2 (.seq cc (.block j2 (.seq r3 body))))),hr=>
    simp only[run]at hr;have hc:∃ i,aa0 (.seq x (.block j (.loop (.seq r2 (.seq cc (.block j2 (.seq r3 body)))))))=some i:=by
     unfold Zl at hr;cases hh:aa0 (.seq x (.block j (.loop (.seq r2 (.seq cc (.block j2 (.seq r3 body)))))))with
     |none=>rw[hh]at hr;cases hr
     |some i=>exact⟨i,rfl⟩
    obtain⟨i,hc⟩:=hc;have hbd:body=i.body:=by
     obtain⟨i1,i2,i3,ops1,ops2,ops3,o1,o2,o3,o4,o5,o6,o7,he,_⟩:=Gg hc;injection he with _ he;injection he with _ he;injection he with he;injection he with _ he;injection he with _ he;injection he with _ he;injection he with _ he
    have hr2:Zl T N (.seq x (.block j (.loop (.seq r2 (.seq cc (.block j2 (.seq r3 body))))))) (bO i.body) hd s k (fun B s1 k1=>run Γ T code N n body B h' s1 k1)=some r:=(by rw[<- hbd];exact hr);exact Zn (P:=P) (rb:=fun B s1 k1=>run Γ T code N n body B h' s1 k1) hT hc hl (fun B s1 k1 r hl1 h1=>by rw[<- hbd];exact iP hT hm hΓ body B h' s1 k1 r hl1 h1) hr2
  have hr:RX (bO (.seq x y)) s h k (fun B h k=>run Γ T code N n x B h.fst s fun e s'=>match e with
   | .normal=>run Γ T code N n y B h.snd s' k
   |e=>k e s')=some r:=by cases h<;>first |exact hr |exact (hrg ⟨_,_,rfl⟩).elim
  refine Cw hl (fun B h k r hb=>?_) hr;refine gQ ((iP hT hm hΓ x B _ s _ r hl hb).mono ?_);rintro e σ ⟨s',g1,g2,rfl,g4⟩;have wide:Ext (· ∈bO (.seq x y)) s s':=g2.wide fun t ht=>by simp[bO,ht]
  cases e with
  |normal=>
   exact (iP hT hm hΓ y B _ s' k r g1 g4).mono fun e σ ⟨s2,i1,i2,i3,i4⟩=>⟨s2,i1,wide.trans (i2.wide fun t ht=>by simp[bO,ht]),i3,i4⟩
  |_=>exact⟨s',g1,wide,rfl,g4⟩
 | .cond c x y,A,h,s,k,r,hl,hr=>by
  refine Cw hl (fun B h k r hb=>?_) hr;split at hb
  ·rename_i v hv;refine Cj v (fun _ _=>rfl) ?_ ?_
   ·have:=JP (lke s.env) c;rw[hv]at this;exact this.symm
   ·cases v with
    |true=>exact (iP hT hm hΓ x B _ s k r hl hb).mono fun e σ ⟨s2,i1,i2,i3,i4⟩=>⟨s2,i1,i2.wide fun t ht=>by simp[bO,ht],i3,i4⟩
    |false=>exact (iP hT hm hΓ y B _ s k r hl hb).mono fun e σ ⟨s2,i1,i2,i3,i4⟩=>⟨s2,i1,i2.wide fun t ht=>by simp[bO,ht],i3,i4⟩
  ·rename_i hv;obtain⟨hb1,hb2⟩:=adB hb;refine aaZ (fun _ _=>rfl) ?_ ?_ ?_
   ·have:=JP (lke s.env) c;rw[hv]at this;exact this.symm
   ·exact (iP hT hm hΓ x B _ s k r hl hb1).mono fun e σ ⟨s2,i1,i2,i3,i4⟩=>⟨s2,i1,i2.wide fun t ht=>by simp[bO,ht],i3,i4⟩
   ·exact (iP hT hm hΓ y B _ s k r hl hb2).mono fun e σ ⟨s2,i1,i2,i3,i4⟩=>⟨s2,i1,i2.wide fun t ht=>by simp[bO,ht],i3,i4⟩
  ·cases hb
 | .block id b,A,h,s,k,r,hl,hr=>by
  refine Cw hl (fun B h k r hb=>?_) hr;refine JK ((iP hT hm hΓ b B _ s _ r hl hb).mono ?_);rintro e σ ⟨s',g1,g2,rfl,g4⟩;cases e with
  |exit j=>
   simp only[aaX];simp only at g4;split
   ·rw[if_pos ‹_›]at g4;exact⟨s',g1,g2,rfl,g4⟩
   ·rw[if_neg ‹_›]at g4;exact⟨s',g1,g2,rfl,g4⟩
  |_=>exact⟨s',g1,g2,rfl,g4⟩
 | .loop b,A,h,s,k,r,hl,hr=>by
  simp only[run]at hr;split at hr
  ·rename_i hd id out h';obtain⟨v0,h1,h2,h3,h4⟩:=gT hl hl (Ext.refl _ s) hr;rw[ai]at h1;obtain⟨w,h5,h6⟩:=h1;intro w0 O0 β I a ww hrel ho;obtain⟨β',hrel'⟩:=h4 P w0 O0 N β I a ww hrel;refine RY (Q:=DU (bO (.loop b)) s k r) hl (fun s'=>rfl) (fun v r hlv hs=>iP hT hm hΓ b _ h' (encS hd s v) _ r hlv hs) (fun e s' he hls hxs hk=>?_) (fun e s' v he hk=>?_) n v0 h5 h2 h3 w0 O0 β' I a ww hrel' h2.old
   ·cases e with
    |exit j=>
     simp only at hk;split at hk
     ·rename_i hj;subst hj;obtain⟨w',i1,i2,i3,i4⟩:=gT hl hls hxs hk;injection i1 with i1;injection i1 with i1;subst i1;intro w0 O0 β I a ww hrel;obtain⟨β',hrel'⟩:=i4 P w0 O0 N β I a ww hrel;exact⟨β',_,hrel',i2.old,_,i2,i3,rfl,h6⟩
     ·cases hk
    |normal=>exact (he rfl).elim
    |_=>cases hk
   ·cases e with
    |exit j=>
     simp only at hk;split at hk
     ·obtain⟨w',i1⟩:=RZ hk;injection i1 with i1;cases i1
     ·cases hk
    |normal=>exact he rfl
    |_=>cases hk
  ·rename_i hd id out h';obtain⟨v0,h1,h2,h3,h4⟩:=gT hl hl (Ext.refl _ s) hr;unfold dw at h1;rw[ai]at h1;obtain⟨w,h5,h6⟩:=h1;intro w0 O0 β I a ww hrel ho;obtain⟨β',hrel'⟩:=h4 P w0 O0 N β I a ww hrel;refine RY (Q:=DU (bO (.loop b)) s k r) hl (fun s'=>rfl) (fun v r hlv hs=>iP hT hm hΓ b _ h' (encS hd s v) _ r hlv hs) (fun e s' he hls hxs hk=>?_) (fun e s' v he hk=>?_) n v0 h5 h2 h3 w0 O0 β' I a ww hrel' h2.old
   ·intro w0 O0 β I a ww hrel;have other:(k e s').map (fun a=>Sum.inr (Sum.inr a))=some (Sum.inr w:VT (X:=X) hd.vars ⊕ (VT (X:=X) out.vars ⊕ A))->∃ β' σ',Rel P w0 O0 N β' I σ' a ww∧Old σ'∧DU (bO (.loop b)) s k r e σ':=by
     intro hm;obtain⟨q,hq,hr⟩:=Zo hm;injection hr with hr;subst hr;injection h6 with h6;subst h6;exact⟨β,_,hrel,hls.old,s',hls,hxs,rfl,hq⟩
    cases e with
    |exit j=>
     simp only at hk;split at hk
     ·rename_i hj;subst hj;obtain⟨w',i1,i2,i3,i4⟩:=gT hl hls hxs hk;injection i1 with i1;injection i1 with i1;subst i1;obtain⟨β',hrel'⟩:=i4 P w0 O0 N β I a ww hrel;exact⟨β',_,hrel',i2.old,_,i2,i3,rfl,h6⟩
     ·exact other hk
    |normal=>exact (he rfl).elim
    |_=>exact other hk
   ·have other:(k e s').map (fun a=>Sum.inr (Sum.inr a))=some (Sum.inl v:VT (X:=X) hd.vars ⊕ (VT (X:=X) out.vars ⊕ A))->False:=by
     intro hm;obtain⟨q,hq,hr⟩:=Zo hm;cases hr
    cases e with
    |exit j=>
     simp only at hk;split at hk
     ·obtain⟨w',i1⟩:=RZ hk;injection i1 with i1;cases i1
     ·exact other hk
    |normal=>exact he rfl
    |_=>exact other hk
  ·cases hr
 | .rangeFunc ..,_,_,_,_,_,_,hr=>by cases hr
 | .scope _,_,_,_,_,_,_,hr=>by cases hr
 | .goto _,_,_,_,_,_,_,hr=>by cases hr
 | .refuse _,_,_,_,_,_,_,hr=>by cases hr
end
end
section
variable {X:SX}
def gU:Nat->(l:List (AT X.ι))->fP X l->List (DV X)
 |_,[],_=>[]
 |n,.d c::l,a=> .c c a.1::gU n l a.2
 |n,.ref c::l,a=> .rp c a.1 0::gU n l a.2
 |n,.clo as r::l,a=> .clo as r a.1::gU n l a.2
 |n,.mut _::l,a=> .own n 0 (List.length a.1)::gU (n+1) l a.2
 |n,.mref _::l,a=> .ptr n 0 0::gU (n+1) l a.2
 |n,.nil::l,a=> .nil::gU n l a.2
def zQ:(l:List (AT X.ι))->fP X l->List (DObj X)
 |[],_=>[]
 | .mut c::l,a=> .lst c a.1::zQ l a.2
 | .mref c::l,a=> .cells (CT.sz X c) [xh c a.1]::zQ l a.2
 | .d _::l,a=>zQ l a.2
 | .ref _::l,a=>zQ l a.2
 | .clo _ _::l,a=>zQ l a.2
 | .nil::l,a=>zQ l a.2
theorem pJ:∀ (n:Nat) (l:List (AT X.ι)) (a:fP X l),aP (gU n l a)=bT n l a
 |_,[],_=>rfl
 |n,.d c::l,a=>by simp only[gU,aP,den,bT,pJ n l a.2]
 |n,.ref c::l,a=>by simp only[gU,aP,den,bT,pJ n l a.2]
 |n,.clo as r::l,a=>by simp only[gU,aP,bT,pJ n l a.2]
 |n,.mut c::l,a=>by simp only[gU,aP,den,bT,pJ (n+1) l a.2]
 |n,.mref c::l,a=>by simp only[gU,aP,den,bT,pJ (n+1) l a.2]
 |n,.nil::l,a=>by simp only[gU,aP,den,bT,pJ n l a.2]
theorem tV:∀ (l:List (AT X.ι)) (a:fP X l),(zQ l a).map aU=(nK l a).map aob
 |[],_=>rfl
 | .d _::l,a=>tV l a.2
 | .ref _::l,a=>tV l a.2
 | .clo _ _::l,a=>tV l a.2
 | .nil::l,a=>tV l a.2
 | .mut c::l,a=>by simp only[zQ,nK,map_cons,tV l a.2];rfl
 | .mref c::l,a=>by simp only[zQ,nK,map_cons,tV l a.2,aU,aob,oO,aD,map_nil,oN]
theorem lU:∀ (n:Nat) (l:List (AT X.ι)) (a:fP X l),∀ k∈aG (gU n l a),k < n+nM l
 |_,[],_,k,hk=>by simp[gU,aG]at hk
 |n,.d c::l,a,k,hk=>by
  have:=lU n l a.2 k (by simpa[gU,aG,drefs]using hk);simpa[nM,AT.im]using this
 |n,.ref c::l,a,k,hk=>by
  have:=lU n l a.2 k (by simpa[gU,aG,drefs]using hk);simpa[nM,AT.im]using this
 |n,.clo as r::l,a,k,hk=>by
  have:=lU n l a.2 k (by simpa[gU,aG,drefs]using hk);simpa[nM,AT.im]using this
 |n,.nil::l,a,k,hk=>by
  have:=lU n l a.2 k (by simpa[gU,aG,drefs]using hk);simpa[nM,AT.im]using this
 |n,.mut c::l,a,k,hk=>by
  simp only[gU,aG,drefs,List.singleton_append,mem_cons]at hk;simp only[nM,AT.im,if_true];rcases hk with rfl |hk
  ·omega
  ·have:=lU (n+1) l a.2 k hk;omega
 |n,.mref c::l,a,k,hk=>by
  simp only[gU,aG,drefs,List.singleton_append,mem_cons]at hk;simp only[nM,AT.im,if_true];rcases hk with rfl |hk
  ·omega
  ·have:=lU (n+1) l a.2 k hk;omega
theorem iW:∀ (n:Nat) (l:List (AT X.ι)) (a:fP X l),(bT n l a).length=l.length
 |_,[],_=>rfl
 |n,.d c::l,a=>by simp only[bT,length_cons,iW n l a.2]
 |n,.ref c::l,a=>by simp only[bT,length_cons,iW n l a.2]
 |n,.clo as r::l,a=>by simp only[bT,length_cons,iW n l a.2]
 |n,.mut c::l,a=>by simp only[bT,length_cons,iW (n+1) l a.2]
 |n,.mref c::l,a=>by simp only[bT,length_cons,iW (n+1) l a.2]
 |n,.nil::l,a=>by simp only[bT,length_cons,iW n l a.2]
theorem iX:∀ (l:List (AT X.ι)) (a:fP X l),(nK l a).length=nM l
 |[],_=>rfl
 | .d _::l,a=>by simpa[nM,AT.im,nK]using iX l a.2
 | .ref _::l,a=>by simpa[nM,AT.im,nK]using iX l a.2
 | .clo _ _::l,a=>by simpa[nM,AT.im,nK]using iX l a.2
 | .nil::l,a=>by simpa[nM,AT.im,nK]using iX l a.2
 | .mut _::l,a=>by simp only[nK,length_cons,iX l a.2,nM,AT.im,if_true];omega
 | .mref _::l,a=>by simp only[nK,length_cons,iX l a.2,nM,AT.im,if_true];omega
def ini (l:List (AT X.ι)) (a:fP X l):DSt X:=⟨(List.range l.length).zip (gU 0 l a),(List.range (zQ l a).length).zip ((zQ l a).map some),1000,[]⟩
theorem acU (l:List (AT X.ι)) (a:fP X l) (k:Nat):lko (ini l a).obj k=(zQ l a)[k]? :=by
 have h:(List.range (zQ l a).length).zip ((zQ l a).map some)=(List.range ((zQ l a).map some).length).zip ((zQ l a).map some):=by rw[length_map]
 simp only[ini,lko];rw[h,zL,List.getElem?_map];cases (zQ l a)[k]?<;>rfl
theorem aht (l:List (AT X.ι)) (a:fP X l):(ini l a).st=LSt.st ⟨(List.range (xw l a).length).zip (xw l a),(List.range ((nK l a).map aob).length).zip ((nK l a).map aob)⟩:=by
 have ho:∀ k,((lko (ini l a).obj k).map aU)=lk ((List.range ((nK l a).map aob).length).zip ((nK l a).map aob)) k:=by
  intro k;rw[zL,acU,<- tV,List.getElem?_map]
 simp only[DSt.st,LSt.st,St.mk.injEq,and_true];refine⟨?_,funext ho⟩;funext t;simp only[ini];rw[iW,xw,<- pJ];generalize gU 0 l a=ds;have:∀ (ks:List Nat) (ds:List (DV X)),den (lke (ks.zip ds) t)=(lk (ks.zip (aP ds)) t).getD .undef:=by
  intro ks
  induction ks with
  |nil=>intro ds;rfl
  |cons k ks ih=>
   intro ds;cases ds with
   |nil=>rfl
   |cons d ds=>
    simp only[List.zip_cons_cons,lke,lk,aP];by_cases h:k=t
    ·simp[h]
    ·simp only[if_neg h];exact ih ds
 exact this _ _
theorem agp (l:List (AT X.ι)) (a:fP X l) (hm:nM l<=1000):Low (ini l a):=by
 refine⟨by show 1000<=1000000;decide,Nat.le_refl _,fun t k hk=>?_,fun k o ho=>?_⟩
 ·have h0:=lU 0 l a;simp only[ini]at hk;generalize gU 0 l a=ds at hk h0;have:∀ (ks:List Nat) (ds:List (DV X)),(∀ k∈aG ds,k < 0+nM l)->∀ k∈drefs (lke (ks.zip ds) t),k < 1000:=by
   intro ks
   induction ks with
   |nil=>intro ds _ k hk;simp[lke,lk,drefs]at hk
   |cons k ks ih=>
    intro ds h j hj;cases ds with
    |nil=>simp[lke,lk,drefs]at hj
    |cons d ds=>
     simp only[List.zip_cons_cons,lke,lk]at hj;by_cases e:k=t
     ·simp only[if_pos e,Option.getD_some]at hj;have:=h j (by simp[aG,hj]);omega
     ·simp only[if_neg e]at hj;exact ih ds (fun k hk=>h k (by simp[aG,hk])) j hj
  exact this _ _ h0 k hk
 ·rw[acU]at ho;have hl:(zQ l a).length=nM l:=by rw[<- iX l a];simpa using congrArg List.length (tV l a)
  refine⟨by have:=(List.getElem?_eq_some_iff.1 ho).1;show k < 1000;omega,fun j hj=>?_⟩;have hz:∀ (l:List (AT X.ι)) (a:fP X l),∀ o∈zQ l a,orefs o=[]:=by
   intro l
   induction l with
   |nil=>intro a o ho;simp[zQ]at ho
   |cons q l ih=>
    intro a o ho;cases q<;>simp only[zQ,mem_cons]at ho
    case «mut» c=>rcases ho with rfl |ho;rfl;exact ih _ o ho
    case mref c=>
     rcases ho with rfl |ho
     ·have h1:aG (xh c a.1)=[]:=by
       rw[<- eG,oN];generalize CT.row X.toSE c a.1=r
       induction r with
       |nil=>rfl
       |cons y ys ih=>simp only[map_cons,bg,refs,ih,nil_append]
      simp[orefs,h1]
     ·exact ih _ o ho
    all_goals exact ih _ o ho
  rw[hz l a o (List.mem_of_getElem? ho)]at hj;cases hj
variable (T:Tab)
def agq (s:DSt X):ResultVar->Option (DV X)
 | .tmp t=>some (lke s.env t)
 | .cell a t=>(T t).bind fun ti=>match lke s.env a with
  | .ptr kk row off=>(lko s.obj kk).bind fun o=>match o with
   | .cells _ rows=>(rows[row]?).bind fun r=>JQ ti.agg ti.size ((r.drop off).take ti.size)
   |_=>none
  |_=>none
def HZ (s:DSt X):List ResultVar->Option (List (DV X))
 |[]=>some []
 |r::rs=>(agq T s r).bind fun v=>(HZ s rs).bind fun vs=>some (v::vs)
theorem afa {s:DSt X} {r:ResultVar} {d:DV X} (h:agq T s r=some d):LU T s.st r=some (den d):=by
 cases r with
 |tmp t=>simp only[agq,Option.some.injEq]at h;subst h;rfl
 |cell a t=>
  simp only[agq]at h;rw[ai]at h;obtain⟨ti,h1,h⟩:=h;split at h
  ·rename_i kk row off hp;rw[ai]at h;obtain⟨o,h2,h⟩:=h;split at h
   ·rename_i sz rows;rw[ai]at h;obtain⟨q,h3,h⟩:=h;have h4:=Gi h;rw[lS]at h4
    show (match Hl T t (den (lke s.env a)) .none (fun k=>(lko s.obj k).map aU)with
     |some ⟨v,[],[]⟩=>some v
     |_=>none)=some (den d)
    simp only[Hl,h1,bind_some,hp,den,h2,Option.map_some,aU,List.getElem?_map,h3,h4,pv]
   ·cases h
  ·cases h
theorem Mk {s:DSt X}:∀ {rs:List ResultVar} {ds:List (DV X)},HZ T s rs=some ds->ku T s.st rs=some (aP ds)
 |[],ds,h=>by simp only[HZ,Option.some.injEq]at h;subst h;rfl
 |r::rs,ds,h=>by
  simp only[HZ]at h;rw[ai]at h;obtain⟨d,h1,h⟩:=h;rw[ai]at h;obtain⟨ds',h2,h⟩:=h;injection h with h;subst h;simp only[ku,afa T h1,Mk h2,bind_some,aP]
def Ml:List (RT X.ι)->List (DV X)->Option Nat
 | .mu _::l,ds=>Ml l ds
 | .mr _::l,ds=>Ml l ds
 | .mv::l,ds=>Ml l ds
 | .fresh _::l,d::ds=>match d with
  | .own k _ _=>some k
  |_=>Ml l ds
 | .d _::l,_::ds=>Ml l ds
 | .whole _::l,_::ds=>Ml l ds
 |_,_=>none
def whl:List (RT X.ι)->List (DV X)->List (Nat×Nat)
 | .mu _::l,ds=>whl l ds
 | .mr _::l,ds=>whl l ds
 | .mv::l,ds=>whl l ds
 | .whole j::l,d::ds=>match d with
  | .own _ _ len=>(j,len)::whl l ds
  |_=>whl l ds
 | .d _::l,_::ds=>whl l ds
 | .fresh _::l,_::ds=>whl l ds
 |_,_=>[]
def tX:Nat->List (RT X.ι)->List Nat
 |_,[]=>[]
 |n,.mu _::l=>n::tX (n+1) l
 |n,.mr _::l=>n::tX (n+1) l
 |n,.mv::l=>tX (n+1) l
 |n,_::l=>tX n l
def muN:Nat->List (RT X.ι)->List Nat
 |_,[]=>[]
 |n,.mu _::l=>n::muN (n+1) l
 |n,.mr _::l=>muN (n+1) l
 |n,.mv::l=>muN (n+1) l
 |n,_::l=>muN n l
def Zp (bad:List Nat) (ks:List Nat):Bool:=ks.all fun k=>!bad.contains k
def Xq (get:Nat->Option (DObj X)) (row:List (DV X)) (c:CT X.ι):Option (CT.T X.toSE c×List Bool):=
 match c with
 | .st i=>(uW get row (X.tys i)).bind fun h=>some (X.make i h.1,h.2)
 |c=>match row with
  |[d]=>Oc get d c
  |_=>none
def EL (get:Nat->Option (DObj X)) (c:CT X.ι):List (List (DV X))->Option (List (CT.T X.toSE c)×List Bool)
 |[]=>some ([],[])
 |r::rs=>(Xq get r c).bind fun x=>(EL get c rs).bind fun y=>some (x.1::y.1,x.2++y.2)
def J9 (get:Nat->Option (DObj X)) (bad mus:List Nat) (fk:Option Nat) (wl:List (Nat×Nat)) (n:Nat):(q:RT X.ι)->List (DV X)->Option ((RT.T X q×List Bool)×List (DV X))
 | .d c,d::ds=>if Zp bad (drefs d)then (DI get d c).bind fun x=>some (x,ds)else none
 | .fresh e,d::ds=>match d with
  | .nil=>some (([],[]),ds)
  | .own k 0 len=>if fk=some k then (get k).bind fun o=>match o with
   | .lst b l=>(iy (.sl b) (.sl e) l).bind fun (l:List (CT.T X.toSE e))=>some ((sub l 0 len,[eqL (sub l 0 len).length len]),ds)
   | .cells sz rows=>if sz=CT.sz X e∧Zp bad (rows.map aG).flatten=true then (EL get e rows).bind fun x=>some ((x.1,eqL len (List.length x.1)::x.2),ds)else none
   | .map _ _ _=>none
   else none
  |_=>none
 | .whole j,d::ds=>match d with
  | .own k 0 len=>if k=j∧mus.contains j=true then (lk wl j).bind fun len0=>some (((),[eqL len len0]),ds)else none
  |_=>none
 | .mu c,ds=>(get n).bind fun o=>match o with
  | .lst b l=>(iy (.sl b) (.sl c) l).bind fun (l:List (CT.T X.toSE c))=>match lk wl n with
   |some len=>some ((sub l 0 len,[eqL (sub l 0 len).length len]),ds)
   |none=>some ((l,[]),ds)
  |_=>none
 | .mr c,ds=>(get n).bind fun o=>match o with
  | .cells sz [row]=>if sz=CT.sz X c∧Zp bad (aG row)=true then (Xq get row c).bind fun x=>some (x,ds)else none
  |_=>none
 | .mv,ds=>some (((),[]),ds)
 |_,[]=>none
def Ka (get:Nat->Option (DObj X)) (bad mus:List Nat) (fk:Option Nat) (wl:List (Nat×Nat)):Nat->(l:List (RT X.ι))->(ds:List (DV X))->Option (p9 X l×List Bool)
 |_,[],ds=>match ds with
  |[]=>some ((),[])
  |_=>none
 |n,[q],ds=>(J9 get bad mus fk wl n q ds).bind fun p=>match p.2 with
  |[]=>some p.1
  |_=>none
 |n,q::q'::l,ds=>(J9 get bad mus fk wl n q ds).bind fun p=>(Ka get bad mus fk wl (if q.out then n+1 else n) (q'::l) p.2).bind fun y=>some ((p.1.1,y.1),p.1.2++y.2)
def Xr (s:DSt X) (l:List (RT X.ι)) (ds:List (DV X)):Option (p9 X l×List Bool):=
 if Zp (tX 0 l) (Ml l ds).toList then Ka (lko s.obj) (tX 0 l++(Ml l ds).toList) (muN 0 l) (Ml l ds) (whl l ds) 0 l ds else none
def ah1 (rs:List ResultVar) (l:List (RT X.ι)):Exit->DSt X->Option (p9 X l)
 | .normal,s=>(HZ T s rs).bind fun ds=>(Xr s l ds).bind fun x=>Rb x.2 (some x.1)
 | .ret,s=>(HZ T s rs).bind fun ds=>(Xr s l ds).bind fun x=>Rb x.2 (some x.1)
 |_,_=>none
def exit (A:Type) (k:DSt X->Option A):Exit->DSt X->Option A
 | .normal,s=>k s
 | .ret,s=>k s
 |_,_=>none
variable {T}
section
variable {get:Nat->Option (DObj X)} {fk:Option Nat} {os':List (Option dG)} {bad:List Nat}
theorem Cx {ks:List Nat} (h:Zp bad ks=true):∀ j∈ks,j∉bad:=fun j hj=>by simpa using all_eq_true.1 h j hj
theorem Mq (hbad:∀ j,j∉bad->fk≠some j∧¬ kept os' j) {d:DV X} {c:CT X.ι} {x:CT.T X.toSE c×List Bool} (hc:c.one=true) (h:Oc get d c=some x) (hb:∀ b∈x.2,b=true) (hfk:∀ j∈drefs d,j∉bad):∃ t,CT.tv X.toSE c x.1= .s t∧OZ (dL get) fk os' (den d) t:=by
 obtain⟨t,h1,h2⟩:=row_one hc x.1;refine⟨t,h2,?_⟩;have hbase:∀ y,GD d c=some y->y=x.1->OZ (dL get) fk os' (den d) t:=by
  intro y hy he;subst he;have h3:=tN hy;rw[h2]at h3;have h4:=WZ hc hy;unfold GD at hy;split at hy
  ·rw[(kX hy).1];simp only[den,h2,TV.av,OZ]
  ·simp only[den,Gb.wk,TV.av,AV.t.injEq]at h3;simp only[den,OZ];exact h3.symm
  ·simp only[den,Gb.wk,TV.av,AV.t.injEq]at h3;simp only[den,OZ];exact h3.symm
  ·cases hy
 unfold Oc at h;split at h
 ·rename_i kk off len e;rw[ai]at h;obtain⟨o,h3,h⟩:=h;split at h
  ·rename_i b l0;rw[ai]at h;obtain⟨l,h4,h⟩:=h;injection h with h;subst h;have h5:(sub l off len).length=len:=(by simpa[eqL]using hb (eqL (sub l off len).length len) (by simp));obtain⟨h6,h7⟩:=iO h4;obtain⟨hf1,hf2⟩:=hbad kk (hfk kk (by simp[drefs]));simp only[den,OZ];refine⟨hf1,hf2,aU (.lst b l0),(sub l off len).map (CT.row X.toSE e),by simp[dL,h3],?_,by simpa using h5,?_⟩
   ·simp only[aU,h7];simp[aD,sub,map_take,map_drop]
   ·simpa[CT.row]using h1.symm
  ·cases h
 ·rename_i kk off len;rw[ai]at h;obtain⟨o,h3,h⟩:=h;split at h
  ·rename_i b l0;injection h with h;subst h;have h5:(sub l0 off len).length=len:=(by simpa[eqL]using hb (eqL (sub l0 off len).length len) (by simp));obtain⟨hf1,hf2⟩:=hbad kk (hfk kk (by simp[drefs]));simp only[den,OZ];refine⟨hf1,hf2,aU (.lst b l0),(sub l0 off len).map (CT.row X.toSE b),by simp[dL,h3],?_,by simpa using h5,?_⟩
   ·simp only[aU];simp[aD,sub,map_take,map_drop]
   ·simpa[CT.row]using h1.symm
  ·cases h
 ·rw[ai]at h;obtain⟨y,h3,h⟩:=h;injection h with h;exact hbase y h3 (by rw[<- h])
theorem Iy (hbad:∀ j,j∉bad->fk≠some j∧¬ kept os' j):∀ {ds:List (DV X)} {l:List (CT X.ι)} {h:HL X.toSE l×List Bool},uW get ds l=some h->(∀ b∈h.2,b=true)->l.all CT.one=true->(∀ j∈aG ds,j∉bad)->ExpL (dL get) fk os' (aP ds) (HL.row X.toSE l h.1)
 |[],[],h,_,_,_,_=>trivial
 |d::ds,c::l,h,hr,hb,ha,hfk=>by
  simp only[uW]at hr;rw[ai]at hr;obtain⟨x,h1,hr⟩:=hr;rw[ai]at hr;obtain⟨g,h2,hr⟩:=hr;injection hr with hr;subst hr;simp only[List.all_cons,and_eq_true]at ha;obtain⟨t,i1,i2⟩:=Mq hbad ha.1 h1 (fun b hb'=>hb b (by simp[hb'])) (fun j hj=>hfk j (by simp[aG,hj]));have i3:=Iy hbad h2 (fun b hb'=>hb b (by simp[hb'])) ha.2 (fun j hj=>hfk j (by simp[aG,hj]));obtain⟨t',j1,j2⟩:=row_one ha.1 x.1;rw[i1]at j2;injection j2 with j2;subst j2;show ExpL (dL get) fk os' (den d::aP ds) (CT.row X.toSE c x.1++HL.row X.toSE l g.1);rw[j1];exact⟨i2,i3⟩
 |[],_::_,_,hr,_,_,_=>by simp[uW]at hr
 |_::_,[],_,hr,_,_,_=>by simp[uW]at hr
theorem Om (hbad:∀ j,j∉bad->fk≠some j∧¬ kept os' j) {row:List (DV X)} {c:CT X.ι} {x:CT.T X.toSE c×List Bool} (h:Xq get row c=some x) (hb:∀ b∈x.2,b=true) (hfk:∀ j∈aG row,j∉bad):ExpL (dL get) fk os' (aP row) (CT.row X.toSE c x.1):=by
 cases c
 case st i=>
  replace h:(uW get row (X.tys i)).bind (fun h=>some (X.make i h.1,h.2))=some x:=h
  rw[ai]at h;obtain⟨g,h1,h⟩:=h;injection h with h;subst h;have:=Iy hbad h1 hb (X.flat i) hfk;show ExpL (dL get) fk os' (aP row) (X.row i (X.make i g.1));rw[X.row_make];exact this
 all_goals
  match row,h,hfk with
  |[d],h,hfk=>
   obtain⟨t,i1,i2⟩:=Mq (fk:=fk) hbad rfl h hb (fun j hj=>hfk j (by simp[aG,hj]));obtain⟨t',j1,j2⟩:=row_one rfl x.1;rw[i1]at j2;injection j2 with j2;subst j2;rw[j1];exact⟨i2,trivial⟩
  |[],h,_=>cases h
  |_::_::_,h,_=>cases h
theorem Kb (hbad:∀ j,j∉bad->fk≠some j∧¬ kept os' j) {c:CT X.ι}:∀ {rows:List (List (DV X))} {x:List (CT.T X.toSE c)×List Bool},EL get c rows=some x->(∀ b∈x.2,b=true)->(∀ j∈(rows.map aG).flatten,j∉bad)->ExpRows (dL get) fk os' (rows.map aP) (x.1.map (CT.row X.toSE c))∧rows.length=List.length x.1
 |[],x,h,_,_=>by simp only[EL,Option.some.injEq]at h;subst h;exact⟨trivial,rfl⟩
 |r::rs,x,h,hb,hfk=>by
  simp only[EL]at h;rw[ai]at h;obtain⟨y,h1,h⟩:=h;rw[ai]at h;obtain⟨z,h2,h⟩:=h;injection h with h;subst h;have i1:=Om hbad h1 (fun b hb'=>hb b (by simp[hb'])) (fun j hj=>hfk j (by simp[hj]));obtain⟨i2,i3⟩:=Kb hbad h2 (fun b hb'=>hb b (by simp[hb'])) (fun j hj=>hfk j (by simp only[map_cons,flatten_cons,mem_append];exact .inr hj));exact⟨⟨i1,i2⟩,by simp[i3]⟩
theorem afb {x:AV} {t:Tree} (h:OZ (dL get) fk os' x t):adg (dL get) fk os' x (.d (.s t)):=by cases x<;>first |exact h |exact h.elim
theorem Cy (sz:CT X.ι) (l:List (CT.T X.toSE sz)):ExpRows (dL get) fk os' (aD (l.map (CT.row X.toSE sz))) (l.map (CT.row X.toSE sz)):=by
 generalize l.map (CT.row X.toSE sz)=rows
 induction rows with
 |nil=>trivial
 |cons r rs ih=>
  refine⟨?_,ih⟩;show ExpL (dL get) fk os' (r.map AV.t) r
  induction r with
  |nil=>trivial
  |cons y ys ih2=>exact⟨rfl,ih2⟩
theorem afc (hbad:∀ j,j∉bad->fk≠some j∧¬ kept os' j) {c:CT X.ι} {d:DV X} {x:CT.T X.toSE c×List Bool} (h:DI get d c=some x) (hfk:∀ j∈drefs d,j∉bad) (hb:∀ b∈x.2,b=true):adg (dL get) fk os' (den d) (.d (CT.tv X.toSE c x.1)):=by
 cases c
 case st i=>
  replace h:Vn get d i=some x:=h
  cases d
  case agg cs=>
   simp only[Vn]at h;rw[ai]at h;obtain⟨g,h1,h⟩:=h;injection h with h;subst h;have:=Iy (fk:=fk) hbad h1 hb (X.flat i) (by simpa[drefs]using hfk);show ExpL (dL get) fk os' (aP cs) (X.row i (X.make i g.1));rw[X.row_make];exact this
  case c a y=>
   simp only[Vn]at h;rw[ai]at h;obtain⟨z,h1,h⟩:=h;injection h with h;subst h;rw[(kX h1).1];show ExpL (dL get) fk os' ((X.row i z).map AV.t) (X.row i z);generalize X.row i z=l
   induction l with
   |nil=>trivial
   |cons y ys ih=>exact⟨rfl,ih⟩
  all_goals cases h
 all_goals
  obtain⟨t,i1,i2⟩:=Mq (fk:=fk) hbad rfl h hb hfk;rw[i1];exact afb i2
theorem R3 {mus:List Nat} {wl:List (Nat×Nat)} {ns:List Nat} {n:Nat} (hbad:∀ j,j∉bad->fk≠some j∧¬ kept os' j) (hfkk:∀ k,fk=some k->¬ kept os' k) (hns:∀ j len0,j∈mus->lk wl j=some len0->ns.getD j 0=len0) (hmu:∀ j∈mus,kept os' j) {q:RT X.ι} {ds:List (DV X)} {p:(RT.T X q×List Bool)×List (DV X)} (h:J9 get bad mus fk wl n q ds=some p) (hb:∀ b∈p.1.2,b=true):
 (∀ cs,ExpCs (dL get) fk os' (aP p.2) cs->ExpCs (dL get) fk os' (aP ds) (Rq ns q p.1.1++cs))∧
 (∀ t,nL q p.1.1=[some t]->∃ o,get n=some o∧(aU o).sz=t.1∧ExpRows (dL get) fk os' ((aU o).rows.take t.2.length) t.2)∧
 (∀ len0 c,q= .mu c->lk wl n=some len0->Uz q p.1.1=[len0]):=by
 cases q
 case d c=>
  cases ds with
  |nil=>simp[J9]at h
  |cons d ds=>
   simp only[J9]at h;split at h
   ·rename_i hnb;rw[ai]at h;obtain⟨x,h1,h⟩:=h;injection h with h;subst h;exact⟨fun cs hcs=>⟨afc hbad h1 (Cx hnb) hb,hcs⟩,fun t ht=>by simp[nL]at ht,fun _ _ h=>by cases h⟩
   ·cases h
 case fresh e=>
  cases ds with
  |nil=>simp[J9]at h
  |cons d ds=>
   refine⟨fun cs hcs=>?_,fun t ht=>by simp[nL]at ht,fun _ _ h=>by cases h⟩;simp only[J9]at h;split at h
   ·injection h with h;subst h;exact⟨rfl,hcs⟩
   ·rename_i k len;split at h
    ·rename_i hfk;rw[ai]at h;obtain⟨o,h1,h⟩:=h;split at h
     ·rename_i b l0;rw[ai]at h;obtain⟨l,h2,h⟩:=h;injection h with h;subst h;obtain⟨h3,h4⟩:=iO h2;have h5:(sub l 0 len).length=len:=(by simpa[eqL]using hb (eqL (sub l 0 len).length len) (by simp));refine⟨⟨hfk,hfkk k hfk,rfl,aU (.lst b l0),by simp[dL,h1],by simp only[aU];exact h3,?_,by simpa using h5⟩,hcs⟩;have e1:(aU (.lst b l0)).rows.take len=aD ((sub l 0 len).map (CT.row X.toSE e)):=by
       simp only[aU,h4];simp[aD,sub,map_take]
      rw[e1];exact Cy e _
     ·rename_i sz rows;split at h
      ·rename_i hc;rw[ai]at h;obtain⟨x,h2,h⟩:=h;injection h with h;subst h;obtain⟨i1,i2⟩:=Kb (fk:=fk) hbad h2 (fun b hb'=>hb b (by simp[hb'])) (Cx hc.2);have h5:len=List.length x.1:=(by simpa[eqL]using hb (eqL len (List.length x.1)) (by simp));refine⟨⟨hfk,hfkk k hfk,rfl,aU (.cells sz rows),by simp[dL,h1],hc.1,?_,by simpa using h5.symm⟩,hcs⟩;simp only[aU];rw[List.take_of_length_le (by simp;omega)];exact i1
      ·cases h
     ·cases h
    ·cases h
   ·cases h
 case whole j=>
  cases ds with
  |nil=>simp[J9]at h
  |cons d ds=>
   refine⟨fun cs hcs=>?_,fun t ht=>by simp[nL]at ht,fun _ _ h=>by cases h⟩;simp only[J9]at h;split at h
   ·rename_i k len;split at h
    ·rename_i hc;obtain⟨rfl,hm⟩:=hc;rw[ai]at h;obtain⟨len0,h1,h⟩:=h;injection h with h;subst h;have h5:len=len0:=(by simpa[eqL]using hb (eqL len len0) (by simp));have hm:k∈mus:=(by simpa using hm);refine⟨⟨rfl,rfl,?_,hmu k hm⟩,hcs⟩;rw[h5];exact hns k len0 hm h1
    ·cases h
   ·cases h
 case mu c=>
  simp only[J9]at h;rw[ai]at h;obtain⟨o,h1,h⟩:=h;split at h
  ·rename_i b l0;rw[ai]at h;obtain⟨l,h2,h⟩:=h;obtain⟨h3,h4⟩:=iO h2;split at h
   ·rename_i len hl;injection h with h;subst h;have h5:(sub l 0 len).length=len:=(by simpa[eqL]using hb (eqL (sub l 0 len).length len) (by simp));refine⟨fun cs hcs=>hcs,fun t ht=>?_,fun len0 c' _ hl'=>?_⟩
    ·simp only[nL,List.cons.injEq,Option.some.injEq,and_true]at ht;subst ht;refine⟨_,h1,by simp only[aU,oO];exact h3,?_⟩;have e1:(aU (.lst b l0)).rows.take (oO c (sub l 0 len)).2.length=aD (oO c (sub l 0 len)).2:=by
      simp only[aU,h4,oO,length_map,h5];simp[aD,sub,map_take]
     rw[e1];exact Cy c _
    ·rw[hl]at hl';injection hl' with hl';subst hl';simp only[Uz,h5]
   ·rename_i hl;injection h with h;subst h;refine⟨fun cs hcs=>hcs,fun t ht=>?_,fun len0 c' _ hl'=>by rw[hl]at hl';cases hl'⟩;simp only[nL,List.cons.injEq,Option.some.injEq,and_true]at ht;subst ht;refine⟨_,h1,by simp only[aU,oO];exact h3,?_⟩;have e1:(aU (.lst b l0)).rows.take (oO c l).2.length=aD (oO c l).2:=by
     simp only[aU,h4,oO];rw[List.take_of_length_le (by simp[aD])]
    rw[e1];exact Cy c _
  ·cases h
 case mr c=>
  simp only[J9]at h;rw[ai]at h;obtain⟨o,h1,h⟩:=h;split at h
  ·rename_i sz row;split at h
   ·rename_i hc;rw[ai]at h;obtain⟨x,h2,h⟩:=h;injection h with h;subst h;refine⟨fun cs hcs=>hcs,fun t ht=>?_,fun _ _ h=>by cases h⟩;simp only[nL,List.cons.injEq,Option.some.injEq,and_true]at ht;subst ht;refine⟨_,h1,by simp only[aU,oO];exact hc.1,?_⟩;exact⟨Om hbad h2 hb (Cx hc.2),trivial⟩
   ·cases h
  ·cases h
 case mv=>
  simp only[J9,Option.some.injEq]at h;subst h;exact⟨fun cs hcs=>hcs,fun t ht=>by simp[nL]at ht,fun _ _ h=>by cases h⟩
theorem EM {q:RT X.ι} {x:RT.T X q}:(nL q x).length=(if q.out then 1 else 0)∧(Uz q x).length=(if q.out then 1 else 0):=by cases q<;>exact⟨rfl,rfl⟩
theorem EN {n j:Nat} {q:RT X.ι} {l:List (RT X.ι)}:j∈muN n (q::l)->(j=n∧∃ c,q= .mu c)∨j∈muN (if q.out then n+1 else n) l:=by
 cases q<;>simp only[muN,RT.out,if_true,Bool.false_eq_true,if_false,mem_cons]
 case mu c=>exact fun h=>h.imp (fun h=>⟨h,c,rfl⟩) id
 all_goals exact .inr
theorem aby {j:Nat}:∀ {l:List (RT X.ι)} {n:Nat},j∈muN n l->n<=j
 |[],n,h=>by simp[muN]at h
 |q::l,n,h=>by
  rcases EN h with ⟨rfl,_⟩ |h
  ·exact Nat.le_refl _
  ·have:=aby h;split at this<;>omega
theorem Zq:∀ {l:List (RT X.ι)} {x:p9 X l} {n j:Nat},j∈muN n l->∃ p,(kR l x)[j - n]? =some (some p)
 |[],x,n,j,h=>by simp[muN]at h
 |[q],x,n,j,h=>by
  rcases EN h with ⟨rfl,c,rfl⟩ |h
  ·exact⟨_,by simp only[Nat.sub_self];rfl⟩
  ·simp[muN]at h
 |q::q'::l,x,n,j,h=>by
  rcases EN h with ⟨rfl,c,rfl⟩ |h
  ·exact⟨_,by simp only[Nat.sub_self];rfl⟩
  ·obtain⟨p,hp⟩:=Zq (l:=q'::l) (x:=x.2) h;have hge:=aby h;refine⟨p,?_⟩;show (nL q x.1++kR (q'::l) x.2)[j - n]? =_;have hl:=(EM (q:=q) (x:=x.1)).1;split at hl
   ·rename_i e;rw[if_pos e]at hp hge;rw[List.getElem?_append_right (by omega),hl,show j - n - 1=j - (n+1)by omega];exact hp
   ·rename_i e;rw[if_neg e]at hp hge;rw[List.getElem?_append_right (by omega),hl,Nat.sub_zero];exact hp
theorem Be:∀ {l:List (RT X.ι)} {x:p9 X l} {n j:Nat} {p:dG},(kR l x)[j]? =some (some p)->n+j∈tX n l
 |[],x,n,j,p,h=>by simp[kR]at h
 |[q],x,n,j,p,h=>by
  have h:(nL q x)[j]? =some (some p):=h;cases q<;>simp only[nL,List.getElem?_nil,reduceCtorEq]at h
  case mu c=>cases j<;>simp at h<;>simp[tX]
  case mr c=>cases j<;>simp at h<;>simp[tX]
  case mv=>cases j<;>simp at h
 |q::q'::l,x,n,j,p,h=>by
  have h:(nL q x.1++kR (q'::l) x.2)[j]? =some (some p):=h;cases q
  case mu c=>
   cases j with
   |zero=>simp[tX]
   |succ j=>
    have:=Be (l:=q'::l) (x:=x.2) (n:=n+1) (by simpa[nL]using h);simp only[tX,mem_cons];right;rw[show n+(j+1)=n+1+j by omega];exact this
  case mr c=>
   cases j with
   |zero=>simp[tX]
   |succ j=>
    have:=Be (l:=q'::l) (x:=x.2) (n:=n+1) (by simpa[nL]using h);simp only[tX,mem_cons];right;rw[show n+(j+1)=n+1+j by omega];exact this
  case mv=>
   cases j with
   |zero=>simp[nL]at h
   |succ j=>
    have:=Be (l:=q'::l) (x:=x.2) (n:=n+1) (by simpa[nL]using h);simp only[tX];rw[show n+(j+1)=n+1+j by omega];exact this
  all_goals
   simp only[tX];exact Be (l:=q'::l) (x:=x.2) (by simpa[nL]using h)
theorem Zr {mus:List Nat} {wl:List (Nat×Nat)} {n:Nat} {q:RT X.ι} {ds:List (DV X)} {p:(RT.T X q×List Bool)×List (DV X)} (h:J9 get bad mus fk wl n q ds=some p) (hb:∀ b∈p.1.2,b=true):∀ len0 c,q= .mu c->lk wl n=some len0->Uz q p.1.1=[len0]:=by
 rintro len0 c rfl hl;simp only[J9]at h;rw[ai]at h;obtain⟨o,h1,h⟩:=h;split at h
 ·rename_i b l0;rw[ai]at h;obtain⟨l,h2,h⟩:=h;rw[hl]at h;injection h with h;subst h;have h5:(sub l 0 len0).length=len0:=by simpa[eqL]using hb (eqL (sub l 0 len0).length len0) (by simp)
  simp only[Uz,h5]
 ·cases h
theorem Iz {mus:List Nat} {wl:List (Nat×Nat)}:∀ {n:Nat} {l:List (RT X.ι)} {ds:List (DV X)} {x:p9 X l×List Bool},Ka get bad mus fk wl n l ds=some x->(∀ b∈x.2,b=true)->∀ j len0,n+j∈muN n l->lk wl (n+j)=some len0->(Xe l x.1).getD j 0=len0
 |n,[],ds,x,h,hb,j,len0,hm,_=>by simp[muN]at hm
 |n,[q],ds,x,h,hb,j,len0,hm,hl=>by
  simp only[Ka]at h;rw[ai]at h;obtain⟨p,h1,h⟩:=h;split at h
  ·injection h with h;subst h;rcases EN hm with ⟨e,c,rfl⟩ |hm
   ·have e:j=0:=(by omega);subst e;have:=(Zr h1 hb) len0 c rfl hl;show (Uz _ p.1.1).getD 0 0=len0;rw[this];rfl
   ·simp[muN]at hm
  ·cases h
 |n,q::q'::l,ds,x,h,hb,j,len0,hm,hl=>by
  simp only[Ka]at h;rw[ai]at h;obtain⟨p,h1,h⟩:=h;rw[ai]at h;obtain⟨y,h2,h⟩:=h;injection h with h;subst h;have hlen:=(EM (q:=q) (x:=p.1.1)).2;rcases EN hm with ⟨e,c,rfl⟩ |hm
  ·have e:j=0:=(by omega);subst e;have:=(Zr h1 (fun b hb'=>hb b (by simp[hb']))) len0 c rfl hl;show (Uz _ p.1.1++Xe (q'::l) y.1).getD 0 0=len0;rw[this];rfl
  ·have hge:=aby hm;show (Uz _ p.1.1++Xe (q'::l) y.1).getD j 0=len0;by_cases hq:q.out=true
   ·rw[if_pos hq]at h2 hm hge hlen;have:=Iz h2 (fun b hb'=>hb b (by simp[hb'])) (j - 1) len0 (by rw[show n+1+(j - 1)=n+j by omega];exact hm) (by rw[show n+1+(j - 1)=n+j by omega];exact hl);rw[List.getD_eq_getElem?_getD,List.getElem?_append_right (by omega),hlen,<- List.getD_eq_getElem?_getD];exact this
   ·rw[if_neg hq]at h2 hm hge hlen;have:=Iz h2 (fun b hb'=>hb b (by simp[hb'])) j len0 hm hl;rw[List.getD_eq_getElem?_getD,List.getElem?_append_right (by omega),hlen,Nat.sub_zero,<- List.getD_eq_getElem?_getD];exact this
theorem VK {mus:List Nat} {wl:List (Nat×Nat)} {ns:List Nat} (hbad:∀ j,j∉bad->fk≠some j∧¬ kept os' j) (hfkk:∀ k,fk=some k->¬ kept os' k) (hns:∀ j len0,j∈mus->lk wl j=some len0->ns.getD j 0=len0) (hmu:∀ j∈mus,kept os' j):∀ {n:Nat} {l:List (RT X.ι)} {ds:List (DV X)} {x:p9 X l×List Bool},Ka get bad mus fk wl n l ds=some x->(∀ b∈x.2,b=true)->
 ExpCs (dL get) fk os' (aP ds) (zO ns l x.1)∧∀ j t,(kR l x.1)[j]? =some (some t)->∃ o,get (n+j)=some o∧(aU o).sz=t.1∧ExpRows (dL get) fk os' ((aU o).rows.take t.2.length) t.2
 |n,[],ds,x,h,_=>by
  simp only[Ka]at h;split at h
  ·exact⟨trivial,fun j t ht=>by simp[kR]at ht⟩
  ·cases h
 |n,[q],ds,x,h,hb=>by
  simp only[Ka]at h;rw[ai]at h;obtain⟨p,h1,h⟩:=h;split at h
  ·rename_i hp;injection h with h;subst h;obtain⟨i1,i2,_⟩:=R3 (ns:=ns) hbad hfkk hns hmu h1 hb;rw[hp]at i1;have:=i1 [] trivial;rw[append_nil]at this;refine⟨this,fun j t ht=>?_⟩;have ht:(nL q p.1.1)[j]? =some (some t):=ht;have hl:=(EM (q:=q) (x:=p.1.1)).1;have hj:=(List.getElem?_eq_some_iff.1 ht).1;have hj0:j=0:=(by split at hl<;>omega);subst hj0;refine i2 t ?_
   match ho:nL q p.1.1,ht,hl with
   |[z],ht,_=>simpa using ht
   |[],ht,_=>simp at ht
   |_::_::_,_,hl=>simp only[length_cons]at hl;split at hl<;>omega
  ·cases h
 |n,q::q'::l,ds,x,h,hb=>by
  simp only[Ka]at h;rw[ai]at h;obtain⟨p,h1,h⟩:=h;rw[ai]at h;obtain⟨y,h2,h⟩:=h;injection h with h;subst h;obtain⟨i1,i2,_⟩:=R3 (ns:=ns) hbad hfkk hns hmu h1 (fun b hb'=>hb b (by simp[hb']));obtain⟨k1,k2⟩:=VK (ns:=ns) hbad hfkk hns hmu h2 (fun b hb'=>hb b (by simp[hb']));refine⟨i1 _ k1,fun j t ht=>?_⟩;have ht:(nL q p.1.1++kR (q'::l) y.1)[j]? =some (some t):=ht;have hl:=(EM (q:=q) (x:=p.1.1)).1;by_cases hq:q.out=true
  ·rw[if_pos hq]at k2 hl;cases j with
   |zero=>
    refine i2 t ?_
    match ho:nL q p.1.1,ht,hl with
    |[z],ht,_=>simpa using ht
    |[],_,hl=>simp at hl
    |_::_::_,_,hl=>simp at hl
   |succ j=>
    rw[List.getElem?_append_right (by omega),hl,Nat.add_sub_cancel]at ht;rw[show n+(j+1)=n+1+j by omega];exact k2 j t ht
  ·rw[if_neg hq]at k2 hl;rw[List.getElem?_append_right (by omega),hl,Nat.sub_zero]at ht;exact k2 j t ht
end
theorem ExpCs.R {get:Nat->Option aF} {fk:Option Nat} {os':List (Option dG)}:∀ {xs:List AV} {cs:List RC},ExpCs get fk os' xs cs->adh get fk os' xs (match cs with |[c]=> .one c |cs=> .tup cs)
 |[],[],_=>rfl
 |[_],[_],h=>h.1
 |_::_::_,_::_::_,h=>h
 |[],_::_,h=>h.elim
 |_::_,[],h=>h.elim
 |[_],_::_::_,h=>h.2.elim
 |_::_::_,[_],h=>h.2.elim
theorem afd {s:DSt X} {rs:List ResultVar} {l:List (RT X.ι)} {r:p9 X l} (h:((HZ T s rs).bind fun ds=>(Xr s l ds).bind fun x=>Rb x.2 (some x.1))=some r):∃ xs fk,ku T s.st rs=some xs∧adh s.st.obj fk (kR l r) xs (qg l r)∧af9 s.st.obj fk (kR l r):=by
 rw[ai]at h;obtain⟨ds,h1,h⟩:=h;rw[ai]at h;obtain⟨x,h2,h⟩:=h;obtain⟨h3,h⟩:=mG h;injection h with h;subst h;unfold Xr at h2;split at h2
 ·rename_i hnb;have hkn:∀ j,kept (kR l x.1) j->j∈tX 0 l:=fun j ⟨p,hp⟩=>by
   have:=Be (n:=0) hp;simpa using this
  have hbad:∀ j,j∉tX 0 l++(Ml l ds).toList->Ml l ds≠some j∧¬ kept (kR l x.1) j:=by
   intro j hj;simp only[mem_append,Option.mem_toList,not_or]at hj;exact⟨hj.2,fun h=>hj.1 (hkn j h)⟩
  have hfkk:∀ k,Ml l ds=some k->¬ kept (kR l x.1) k:=fun k hk hkk=>Cx hnb k (by simp[hk]) (hkn k hkk);have hmu:∀ j∈muN 0 l,kept (kR l x.1) j:=fun j hj=>by
   obtain⟨p,hp⟩:=Zq (x:=x.1) hj;exact⟨p,by simpa using hp⟩
  obtain⟨i1,i2⟩:=VK (ns:=Xe l x.1) hbad hfkk (fun j len0 hj hl=>Iz h2 h3 j len0 (by simpa using hj) (by simpa using hl)) hmu h2 h3;have hobj:s.st.obj=dL (lko s.obj):=rfl;refine⟨aP ds,Ml l ds,Mk T h1,?_,fun j p hp=>?_⟩
  ·rw[hobj];exact i1.R
  ·obtain⟨o,g1,g2,g3⟩:=i2 j p hp;rw[Nat.zero_add]at g1;exact⟨fun e=>hfkk j e ⟨p,hp⟩,aU o,by rw[hobj];simp[dL,g1],g2,by rw[hobj];exact g3⟩
 ·cases h2
variable {Γ:FuncId->Option (Sig X)} {code:TypeId->Option (CT X.ι)} {P:Program}
theorem ah2 (hT : dH P T) (hm : P.follows .mixedOrders = true) (hΓ : GOk P Γ) {f : FuncId} {fn : Func} {c : Code} (hfn : P.funcs[f]? = some fn) (hb : fn.body = some c) (hname : (fn.name == "runtime.NumGoroutine") = false) (sa : List (AT X.ι)) (sr : List (RT X.ι)) (hN : sa.length <= fn.ntmps ∧ nM sa <= 1000 ∧ (sr.filter RT.out).length = nM sa)
 (h:Hn X.ι) (n:Nat) {a:fP X sa} {r:p9 X sr} (hr:run Γ T code fn.ntmps n c (p9 X sr) h (ini sa a) (ah1 T fn.results.toList sr)=some r):FnW P f (xw sa a) (nK sa a) (kR sr r) (qg sr r):=by
 have hl:(kR sr r).length=(nK sa a).length:=by
  rw[iX,<- hN.2.2];have:∀ (sr:List (RT X.ι)) (r:p9 X sr),(kR sr r).length=(sr.filter RT.out).length:=by
   intro sr
   induction sr with
   |nil=>intro r;rfl
   |cons q l ih=>
    intro r;have hq:∀ x:RT.T X q,(nL q x).length=(if q.out then 1 else 0):=fun x=>EM.1;cases l with
    |nil=>
     show (nL q r).length=_;rw[hq];by_cases e:q.out=true<;>simp[e]
    |cons q' l=>
     show (nL q r.1++kR (q'::l) r.2).length=_;rw[List.length_append,hq,ih r.2];by_cases e:q.out=true<;>simp[List.filter_cons,e];omega
  exact this sr r
 refine Vb hT hfn hb hname (by rw[iW];exact hN.1) (fun k hk=>?_) (by rw[iX];exact hN.2.1) hl ?_
 ·rw[xw,<- pJ,eG]at hk;have:=lU 0 sa a k hk;have:=hN.2.1;omega
 ·rw[<- aht];refine (iP hT hm hΓ c _ h _ _ r (agp sa a hN.2.1) hr).mono ?_;rintro e σ ⟨s',_,_,rfl,g4⟩;cases e<;>first |exact afd g4 |cases g4
theorem pK {f : FuncId} {fn : Func} {c : Code} (hfn : P.funcs[f]? = some fn) (hb : fn.body = some c) (hname : (fn.name == "runtime.NumGoroutine") = false) : kN P f := ⟨fn, hfn, by rw [hb]; rfl, hname⟩
abbrev COk (P:Program) (f:FuncId) (s:Sig X):Prop:=kN P f∧(∀ a r,s.fn a=some r->FnW P f (xw s.args a) (nK s.args a) (kR s.res r) (qg s.res r))∧∀ g,s.gen=some g->aeP P f g
theorem cok {P:Program} {f:FuncId} {s:Sig X} (h:kN P f) (h1:∀ a r,s.fn a=some r->FnW P f (xw s.args a) (nK s.args a) (kR s.res r) (qg s.res r)) (hg:s.gen=none):COk P f s:=⟨h,h1,fun g e=>by rw[hg]at e;cases e⟩
theorem ait {P:Program} {f:FuncId} {g:GSig X} (h:kN P f) (hg:aeP P f g):COk P f ⟨[],[.d .bool],fun _=>none,some g⟩:=⟨h,fun _ _ e=>(by cases e),fun _ e=>(by injection e with e;subst e;exact hg)⟩
def gam (l:List (FuncId×Sig X)):FuncId->Option (Sig X):=fun f=>lk l f
theorem aA:GOk P (gam ([]:List (FuncId×Sig X))):=fun _ _ h=>by cases h
theorem au {f:FuncId} {s:Sig X} {l:List (FuncId×Sig X)} (h:COk P f s) (hl:GOk P (gam l)):GOk P (gam ((f,s)::l)):=by
 intro g q hg;simp only[gam,lk]at hg;split at hg
 ·rename_i e;injection hg with hg;subst hg;subst e;exact h
 ·exact hl g q hg
end
section
variable {X:SX} {T:Tab}
theorem IA (ol:Nat->Nat):∀ (ps:List (Pt X.ι)) (L:List (DC X)),(ePs ol ps L).1.length=ps.length
 |[],_=>rfl
 |p::ps,L=>by simp only[ePs,length_cons,IA ol ps]
def GSig.inOk (g:GSig X):Bool:=
 decide (g.inO.map (·.1)=List.range g.inO.length)&&decide (g.inO.length<=1000)&&((zP g.inP).all fun k=>Nat.blt k 1000)&&g.inO.all fun q=>q.2.refs.all fun k=>Nat.blt k 1000
def adE (g:GSig X) (v:VT (X:=X) (varsL g.inP++varsO g.inO)):DSt X:=⟨(List.range g.inP.length).zip (g.args v),YR g.inP g.inO (tQ _ v),1000,[]⟩
theorem rJ {ol:Nat->Nat}:∀ (O:List (Nat×OP X.ι)) (L:List (DC X)),bC ol O L=(bH (bC ol O L)).map fun p=>(p.1,some p.2)
 |[],L=>rfl
 |(k,.l c)::O,L=>by
  match L with
  |[]=>rfl
  |⟨.sl c',x⟩::L=>simp only[bC,bH,map_cons];rw[<- rJ O L]
  |⟨.int _,x⟩::L=>rfl
  |⟨.bool,x⟩::L=>rfl
  |⟨.str,x⟩::L=>rfl
  |⟨.any,x⟩::L=>rfl
  |⟨.st _,x⟩::L=>rfl
  |⟨.mp _ _,x⟩::L=>rfl
 |(k,.m kc vc)::O,L=>by
  match L with
  |[]=>rfl
  |⟨.mp _ _,x⟩::L=>simp only[bC,bH,map_cons];rw[<- rJ O L]
  |⟨.sl _,x⟩::L=>rfl
  |⟨.int _,x⟩::L=>rfl
  |⟨.bool,x⟩::L=>rfl
  |⟨.str,x⟩::L=>rfl
  |⟨.any,x⟩::L=>rfl
  |⟨.st _,x⟩::L=>rfl
 |(k,.c sz rows)::O,L=>by simp only[bC,bH,map_cons];rw[<- rJ O _]
theorem Cz {ol:Nat->Nat}:∀ (O:List (Nat×OP X.ι)) (L:List (DC X)),L.map (·.c)=varsO O->(bH (bC ol O L)).map (·.1)=O.map (·.1)
 |[],L,_=>rfl
 |(k,.l c)::O,L,h=>by
  match L,h with
  |⟨.sl c',x⟩::L,h=>
   simp only[map_cons,varsO,List.cons.injEq]at h;simp only[bC,bH,map_cons,Cz O L h.2]
  |[],h=>simp[varsO]at h
  |⟨.int _,x⟩::L,h=>simp[varsO]at h
  |⟨.bool,x⟩::L,h=>simp[varsO]at h
  |⟨.str,x⟩::L,h=>simp[varsO]at h
  |⟨.any,x⟩::L,h=>simp[varsO]at h
  |⟨.st _,x⟩::L,h=>simp[varsO]at h
  |⟨.mp _ _,x⟩::L,h=>simp[varsO]at h
 |(k,.m kc vc)::O,L,h=>by
  match L,h with
  |⟨.mp _ _,x⟩::L,h=>
   simp only[map_cons,varsO,List.cons.injEq]at h;simp only[bC,bH,map_cons,Cz O L h.2]
  |[],h=>simp[varsO]at h
  |⟨.sl _,x⟩::L,h=>simp[varsO]at h
  |⟨.int _,x⟩::L,h=>simp[varsO]at h
  |⟨.bool,x⟩::L,h=>simp[varsO]at h
  |⟨.str,x⟩::L,h=>simp[varsO]at h
  |⟨.any,x⟩::L,h=>simp[varsO]at h
  |⟨.st _,x⟩::L,h=>simp[varsO]at h
 |(k,.c sz rows)::O,L,h=>by
  simp only[varsO]at h;simp only[bC,bH,map_cons,Cz O _ (Ip (ol:=ol) rows L _ h).1]
theorem adF (g:GSig X) (v:VT (X:=X) (varsL g.inP++varsO g.inO)) (h:g.inO.map (·.1)=List.range g.inO.length):(g.objs v).map (·.1)=List.range (g.objs v).length:=by
 have e:(g.objs v).map (·.1)=g.inO.map (·.1):=Cz g.inO _ (by rw[map_drop,abp,List.drop_left]);have l:=congrArg List.length e;rw[length_map,length_map]at l;rw[e,h,l]
theorem R4 (k:Nat):∀ l:List (Nat×DObj X),lko (l.map fun p=>(p.1,some p.2)) k=dlk l k
 |[]=>rfl
 |p::l=>by
  simp only[map_cons,lko,lk,dlk];split
  ·rfl
  ·exact R4 k l
theorem afe (t:Nat):∀ (ks:List Nat) (ds:List (DV X)),den (lke (ks.zip ds) t)=(lk (ks.zip (aP ds)) t).getD .undef:=by
 intro ks
 induction ks with
 |nil=>intro ds;rfl
 |cons k ks ih=>
  intro ds;cases ds with
  |nil=>rfl
  |cons d ds=>
   simp only[List.zip_cons_cons,lke,lk,aP];by_cases h:k=t
   ·simp[h]
   ·simp only[if_neg h];exact ih ds
theorem VL (t:Nat):∀ (ks:List Nat) (ds:List (DV X)),∀ j∈drefs (lke (ks.zip ds) t),j∈aG ds:=by
 intro ks
 induction ks with
 |nil=>intro ds j hj;simp[lke,lk,drefs]at hj
 |cons k ks ih=>
  intro ds j hj;cases ds with
  |nil=>simp[lke,lk,drefs]at hj
  |cons d ds=>
   simp only[List.zip_cons_cons,lke,lk]at hj;simp only[aG,mem_append];by_cases e:k=t
   ·simp only[if_pos e,Option.getD_some]at hj;exact .inl hj
   ·simp only[if_neg e]at hj;exact .inr (ih ds j hj)
def ze (g:GSig X):Sh X.ι:=⟨zipS 0 g.outP,g.outO,[],[],1000000,[]⟩
def ag5 (T:Tab) (rs:List ResultVar) (g:GSig X):Exit->DSt X->Option (VT (X:=X) (ze g).vars)
 | .normal,s=>(HZ T s rs).bind fun ds=>bif decide (ds.length=g.outP.length)&&(aG ds).all (fun k=>Nat.blt k s.nx)then
  Ir (ze g) (List.range ds.length) ⟨(List.range ds.length).zip ds,s.obj,s.nx,s.log⟩ ⟨(List.range ds.length).zip ds,s.obj,s.nx,s.log⟩ some else none
 | .ret,s=>(HZ T s rs).bind fun ds=>bif decide (ds.length=g.outP.length)&&(aG ds).all (fun k=>Nat.blt k s.nx)then
  Ir (ze g) (List.range ds.length) ⟨(List.range ds.length).zip ds,s.obj,s.nx,s.log⟩ ⟨(List.range ds.length).zip ds,s.obj,s.nx,s.log⟩ some else none
 |_,_=>none
theorem R5 {ol:Nat->Nat} (t:Nat):∀ (n:Nat) (ps:List (Pt X.ι)) (L:List (DC X)),lke (zM ol (zipS n ps) L) (n+t)=((ePs ol ps L).1[t]?).getD .undef
 |n,[],L=>by simp[zipS,zM,lke,lk,ePs]
 |n,p::ps,L=>by
  simp only[zipS,zM,lke,lk,ePs];cases t with
  |zero=>simp
  |succ t=>
   rw[if_neg (by omega)];have:=R5 (ol:=ol) t (n+1) ps (eP ol p L).2;rw[show n+1+t=n+(t+1)by omega]at this;simpa[lke]using this
theorem adG {P:Program} {g:GSig X} {s:DSt X} {rs:List ResultVar} {r:VT (X:=X) (ze g).vars} (hl:Low s) (h:((HZ T s rs).bind fun ds=>bif decide (ds.length=g.outP.length)&&(aG ds).all (fun k=>Nat.blt k s.nx)then
 Ir (ze g) (List.range ds.length) ⟨(List.range ds.length).zip ds,s.obj,s.nx,s.log⟩ ⟨(List.range ds.length).zip ds,s.obj,s.nx,s.log⟩ some else none)=some r):
 ∃ xs,ku T s.st rs=some xs∧aga P s.st.obj xs (qf (g.outs r)) (den (g.res r)):=by
 rw[ai]at h;obtain⟨ds,h1,h⟩:=h;obtain⟨h2,h⟩:=dm h;simp only[and_eq_true,decide_eq_true_eq]at h2;obtain⟨h2,h3⟩:=h2;have hl':Low (⟨(List.range ds.length).zip ds,s.obj,s.nx,s.log⟩:DSt X):=⟨hl.le,hl.ge,fun t k hk=>by
  have:=all_eq_true.1 h3 k (VL t _ _ k hk);exact Nat.blt_eq.mp this,hl.obj⟩
 obtain⟨v,h4,_,_,hrel⟩:=J5 hl' (Ext.refl _ _) h;injection h4 with h4;subst h4;refine⟨aP ds,Mk T h1,fun w0 O0 β I w vs hM hv=>?_⟩;have hvl:=VRl.length _ _ hv;simp only[Array.length_toList,iT]at hvl;have hR:Rel P w0 O0 vs.size β I (⟨(List.range ds.length).zip ds,s.obj,s.nx,s.log⟩:DSt X).st { tmps:=vs,defers:=[] } w:=by
  refine⟨rfl,rfl,fun t=>?_,hM⟩;show VR P β w I (den (lke ((List.range ds.length).zip ds) t)) (vs.getD t undef);rw[afe,show List.range ds.length=List.range (aP ds).length by rw[iT],zL];cases ht:(aP ds)[t]? with
  |none=>simp[VR]
  |some x=>
   obtain⟨u,g1,g2⟩:=VRl.get _ _ t _ hv ht;rw[Array.getElem?_toList]at g1;simp only[Option.getD_some,Array.getD_eq_getD_getElem?,g1];exact g2
 obtain⟨β',hR'⟩:=hrel P w0 O0 _ β I _ w hR;have hn:(varsS (zipS 0 g.outP)).length=(varsL g.outP).length:=by rw[Ma]
 refine⟨β',I,?_,fun _ h=>h,?_⟩
 ·have:=hR'.mem;have e:(encS (ze g) ⟨(List.range ds.length).zip ds,s.obj,s.nx,s.log⟩ v).st.obj=olk (qf (g.outs v)):=by
   funext k;simp only[DSt.st,encS,ze,map_nil,append_nil,Mh,GSig.outs,YR,zN];rw[rJ,R4,<- hn];rfl
  rw[e]at this;exact this
 ·obtain⟨pv,hpv⟩:∃ pv,pv=Rp g.outP g.outO (tQ (ze g).vars v):=⟨_,rfl⟩;have hres:g.res v=xu pv:=by rw[hpv];rfl
  have henv:∀ t,VR P β' w I (den ((pv[t]?).getD .undef)) (vs.getD t undef):=by
   intro t;have:=hR'.env t;simp only[DSt.st,SlotR,encS,ze,map_nil,append_nil]at this;have e:=R5 (ol:=zN g.outO ((tQ (ze g).vars v).drop (varsL g.outP).length)) t 0 g.outP ((tQ (ze g).vars v).take (varsL g.outP).length);rw[Nat.zero_add]at e;rw[hpv];simp only[Rp];rw[<- e,<- hn];exact this
  have hpl:pv.length=g.outP.length:=by rw[hpv];exact IA _ _ _
  have hsz:vs.size=pv.length:=by rw[hpl,<- h2,hvl]
  rw[hres];have hall:VRl P β' w I (aP pv) vs.toList:=by
   have gen:∀ (pv:List (DV X)) (us:List Value),us.length=pv.length->(∀ t,t < pv.length->VR P β' w I (den ((pv[t]?).getD .undef)) (us.getD t undef))->VRl P β' w I (aP pv) us:=by
    intro pv
    induction pv with
    |nil=>intro us hl _;cases us<;>simp_all [aP,VRl]
    |cons d pv ih=>
     intro us hl hh;cases us with
     |nil=>simp at hl
     |cons u us=>
      simp only[aP,VRl];refine⟨by simpa using hh 0 (by simp),ih us (by simpa using hl) fun t ht=>by simpa using hh (t+1) (by simpa using ht)⟩
   refine gen pv vs.toList (by simpa using hsz) fun t ht=>?_;have e:vs.toList.getD t undef=vs.getD t undef:=(by simp[List.getD_eq_getElem?_getD,Array.getD_eq_getD_getElem?]);rw[e];exact henv t
  match pv,hsz,hall with
  |[d],hsz,hall=>
   obtain⟨u,rfl⟩:=Array.size_eq_one_iff.1 (show vs.size=1 by simpa using hsz);simp only[aP,VRl]at hall;simpa[xu]using hall.1
  |[],hsz,hall=>
   have h1:¬ vs.size=1:=(by rw[hsz];simp);rw[dif_neg h1];simp only[xu,den,VR];exact⟨vs,rfl,hall⟩
  |d::e::pv,hsz,hall=>
   have h1:¬ vs.size=1:=(by rw[hsz];simp);rw[dif_neg h1];simp only[xu,den,VR];exact⟨vs,rfl,hall⟩
variable {Γ:FuncId->Option (Sig X)} {code:TypeId->Option (CT X.ι)} {P:Program}
theorem ahu (hT : dH P T) (hm : P.follows .mixedOrders = true) (hΓ : GOk P Γ) {f : FuncId} {fn : Func} {c : Code} (hfn : P.funcs[f]? = some fn) (hb : fn.body = some c) (hname : (fn.name == "runtime.NumGoroutine") = false) (g : GSig X) (hN : g.inP.length <= fn.ntmps) (hin : g.inOk = true)
 (h:Hn X.ι) (n:Nat) (hr:∀ v (r:VT (X:=X) (ze g).vars),g.fn v=some r->run Γ T code fn.ntmps n c (VT (X:=X) (ze g).vars) h (adE g v) (ag5 T fn.results.toList g)=some r):aeP P f g:=by
 intro v r hv;have hrun:=hr v r hv;simp only[GSig.inOk,and_eq_true,decide_eq_true_eq]at hin;obtain⟨⟨⟨i1,i2⟩,i3⟩,i4⟩:=hin;obtain⟨s1,s2,_⟩:=xE (ol:=zN g.inO ((tQ (varsL g.inP++varsO g.inO) v).drop (varsL g.inP).length)) g.inO ((tQ _ v).drop (varsL g.inP).length);have hargs:∀ k∈aG (g.args v),k < 1000:=fun k hk=>Nat.blt_eq.mp (all_eq_true.1 i3 k (xD g.inP _ k hk));have hobjs:∀ p∈g.objs v,p.1 < 1000∧∀ j∈orefs p.2,j < 1000:=by
  intro p hp;obtain⟨op,g1,g2⟩:=s2 p hp;have hk:p.1∈g.inO.map (·.1):=mem_map.2 ⟨_,g1,rfl⟩;rw[i1]at hk;have:=List.mem_range.1 hk;exact⟨by omega,fun j hj=>Nat.blt_eq.mp (all_eq_true.1 (all_eq_true.1 i4 _ g1) j (g2 j hj))⟩
 have hal:(g.args v).length=g.inP.length:=IA _ _ _;have hkeys:(g.objs v).map (·.1)=List.range (g.objs v).length:=adF g v i1;have hobj:∀ k,lko (adE g v).obj k=dlk (g.objs v) k:=by
  intro k;show lko (bC _ g.inO _) k=dlk (bH (bC _ g.inO _)) k;rw[rJ,R4,<- rJ]
 have hdlk:∀ (l:List (Nat×DObj X)) (n:Nat),l.map (·.1)=(List.range l.length).map (n+ ·)->∀ k,dlk l (n+k)=(l[k]?).map (·.2):=by
  intro l
  induction l with
  |nil=>intro n _ k;rfl
  |cons p l ih=>
   intro n hn k;rw[length_cons,List.range_succ_eq_map,map_cons,map_cons,map_map]at hn;injection hn with e1 e2;simp only[dlk];cases k with
   |zero=>rw[if_pos (by omega)];rfl
   |succ k=>
    rw[if_neg (by omega),show n+(k+1)=(n+1)+k by omega,ih (n+1) (by rw[e2];refine map_congr_left fun a _=>?_;simp only[Function.comp_apply];omega) k];rfl
 have hlow:Low (adE g v):=by
  refine⟨by show 1000<=1000000;decide,Nat.le_refl _,fun t k hk=>hargs k (VL t _ _ k hk),fun k o ho=>?_⟩;rw[hobj]at ho;have hmem:∀ (l:List (Nat×DObj X)),dlk l k=some o->(k,o)∈l:=by
   intro l
   induction l with
   |nil=>intro h;simp[dlk]at h
   |cons p l ih=>
    intro h;simp only[dlk]at h;split at h
    ·rename_i e;injection h with h;subst h;subst e;exact mem_cons_self
    ·exact List.mem_cons_of_mem _ (ih h)
  exact hobjs _ (hmem _ ho)
 refine adi hT hfn hb hname (by rw[iT,hal];exact hN) (fun k hk=>hargs k (by rwa [eG]at hk)) (by rw[length_map,<- length_map (f:=Prod.fst),hkeys,List.length_range];have:=s1.length_le;rw[length_map,length_map]at this;exact Nat.le_trans this i2) ?_ ?_
 ·intro o ho r' hr' x hx j hj;obtain⟨p,hp,rfl⟩:=mem_map.1 ho;exact (hobjs p hp).2 j (RI hr' hx j hj)
 ·have e:LSt.st ⟨(List.range (aP (g.args v)).length).zip (aP (g.args v)),(List.range ((g.objs v).map fun p=>aU p.2).length).zip ((g.objs v).map fun p=>aU p.2)⟩=(adE g v).st:=by
   simp only[DSt.st,LSt.st,St.mk.injEq,and_true];refine⟨?_,?_⟩
   ·funext t;simp only[adE];rw[afe,iT,hal]
   ·funext k;rw[zL,hobj,List.getElem?_map];have:=hdlk (g.objs v) 0 (by rw[hkeys];simp) k;rw[Nat.zero_add]at this;rw[this,Option.map_map];rfl
  rw[e];refine (iP hT hm hΓ c _ h _ _ r hlow hrun).mono ?_;rintro e σ ⟨s',hl',_,rfl,g4⟩;cases e<;>first |exact adG hl' g4 |cases g4
end
section
variable {P:Program} {f F:FuncId} {E:TypeId}
end
section
variable {X:SX}
end
section
variable {X:SX}
def zR {α β:Type} (f:α->Option β):List α->Option (List β)
 |[]=>some []
 |x::xs=>(f x).bind fun y=>(zR f xs).bind fun ys=>some (y::ys)
def muC (dq:(i j:X.ι)->Decidable (i=j)) (i:X.ι):CT X.ι->Option CS
 | .int k=>some (.int k)
 | .bool=>some .bool
 | .str=>some .str
 | .sl (.st j)=>match dq j i with
  | .isTrue _=>some .back
  | .isFalse _=>none
 |_=>none
def ag6 (dq:(i j:X.ι)->Decidable (i=j)) (i:X.ι):Bool:=(X.tys i).any fun c=>match c with
 | .sl (.st j)=>match dq j i with
  | .isTrue _=>true
  | .isFalse _=>false
 |_=>false
def ah3 (dq:(i j:X.ι)->Decidable (i=j)):CT X.ι->Option (List CS)
 | .st i=>bif ag6 dq i then zR (muC dq i) (X.tys i)else none
 |_=>none
theorem ahv (dq:(i j:X.ι)->Decidable (i=j)) {i:X.ι} {row:List CS} (hm:zR (muC dq i) (X.tys i)=some row) {x:Tree} (h:MuT row x):∃ l:List (CT.T X.toSE (.st i)),x= .sl (l.map (CT.row X.toSE (.st i))):=by
 refine MuT.rec (row:=row) (motive_1:=fun x _=>∃ l:List (CT.T X.toSE (.st i)),x= .sl (l.map (CT.row X.toSE (.st i)))) (motive_2:=fun rows _=>∃ l:List (CT.T X.toSE (.st i)),rows=l.map (CT.row X.toSE (.st i)))
  (motive_3:=fun cs r _=>∀ codes:List (CT X.ι),zR (muC dq i) codes=some cs->∃ h:HL X.toSE codes,r=HL.row X.toSE codes h) ?_ ?_ ?_ ?_ ?_ ?_ h
 ·rintro rows _ _ ⟨l,rfl⟩;exact⟨l,rfl⟩
 ·exact⟨[],rfl⟩
 ·rintro r rs _ _ h1 ⟨l,rfl⟩;obtain⟨q,rfl⟩:=h1 _ hm;exact⟨(X.make i q:X.T i)::l,by rw[map_cons];congr 1;exact (X.row_make i q).symm⟩
 ·intro codes hc;cases codes with
  |nil=>exact⟨(),rfl⟩
  |cons c codes=>
   simp only[zR,ai]at hc;obtain⟨_,_,_,_,h⟩:=hc;cases h
 ·intro cs x xs _ _ h1 h2 codes hc;obtain⟨l,rfl⟩:=h1;cases codes with
  |nil=>simp[zR]at hc
  |cons c codes=>
   simp only[zR,ai]at hc;obtain⟨c',g1,cs',g2,g3⟩:=hc;injection g3 with g3;injection g3 with g4 g5;subst g4 g5;obtain⟨q,rfl⟩:=h2 _ g2
   match c,g1 with
   | .sl (.st j),g1=>
    simp only[muC]at g1;split at g1
    ·rename_i hj _;subst hj;exact⟨(l,q),rfl⟩
    ·cases g1
   | .int _,g1=>simp[muC]at g1
   | .bool,g1=>simp[muC]at g1
   | .str,g1=>simp[muC]at g1
   | .any,g1=>simp[muC]at g1
   | .st _,g1=>simp[muC]at g1
   | .mp _ _,g1=>simp[muC]at g1
   | .sl (.int _),g1=>simp[muC]at g1
   | .sl .bool,g1=>simp[muC]at g1
   | .sl .str,g1=>simp[muC]at g1
   | .sl .any,g1=>simp[muC]at g1
   | .sl (.sl _),g1=>simp[muC]at g1
   | .sl (.mp _ _),g1=>simp[muC]at g1
 ·intro c' cs x xs hf _ h2 codes hc;cases codes with
  |nil=>simp[zR]at hc
  |cons c codes=>
   simp only[zR,ai]at hc;obtain⟨c2,g1,cs',g2,g3⟩:=hc;injection g3 with g3;injection g3 with g4 g5;subst g4 g5;obtain⟨q,rfl⟩:=h2 _ g2
   match c,g1 with
   | .int k,g1=>
    injection g1 with g1;subst g1;obtain⟨n,rfl,_⟩:=hf;exact⟨(n,q),rfl⟩
   | .bool,g1=>
    injection g1 with g1;subst g1;obtain⟨n,rfl⟩:=hf;exact⟨(n,q),rfl⟩
   | .str,g1=>
    injection g1 with g1;subst g1;obtain⟨n,rfl,_⟩:=hf;exact⟨(n,q),rfl⟩
   | .sl (.st j),g1=>
    simp only[muC]at g1;split at g1
    ·injection g1 with g1;subst g1;exact hf.elim
    ·cases g1
   | .any,g1=>simp[muC]at g1
   | .st _,g1=>simp[muC]at g1
   | .mp _ _,g1=>simp[muC]at g1
   | .sl (.int _),g1=>simp[muC]at g1
   | .sl .bool,g1=>simp[muC]at g1
   | .sl .str,g1=>simp[muC]at g1
   | .sl .any,g1=>simp[muC]at g1
   | .sl (.sl _),g1=>simp[muC]at g1
   | .sl (.mp _ _),g1=>simp[muC]at g1
def csF:Nat->CT X.ι->Option (List CS)
 | 0,_=>none
 |_+1,.int k=>some [.int k]
 |_+1,.bool=>some [.bool]
 |_+1,.str=>some [.str]
 |_+1,.any=>some [.any]
 |_+1,.mp _ _=>none
 |n+1,.sl e=>match ah3 X.dec e with
  |some row=>some [.mu row]
  |none=>(csF n e).bind fun r=>some [.sl r]
 |n+1,.st i=>(zR (csF n) (X.tys i)).bind fun l=>some l.flatten
def vsF (n:Nat) (c:CT X.ι):Option VS:=
 match c with
 | .st i=>(csF n (.st i:CT X.ι)).map .agg
 |c=>(csF n c).bind fun l=>match l with
  |[x]=>some (.one x)
  |_=>none
theorem Oo:∀ (a b:List CS) (ys:List Tree),FitL (a++b) ys->∃ ya yb,ys=ya++yb∧FitL a ya∧FitL b yb
 |[],b,ys,h=>⟨[],ys,rfl,trivial,h⟩
 |c::a,b,y::ys,h=>by
  simp only[cons_append,FitL]at h;obtain⟨ya,yb,rfl,h1,h2⟩:=Oo a b ys h.2;exact⟨y::ya,yb,rfl,⟨h.1,h1⟩,h2⟩
 |_::_,_,[],h=>h.elim
theorem Zt {c:CT X.ι} {cs:List CS} (h:∀ ys,FitL cs ys->∃ x:CT.T X.toSE c,ys=CT.row X.toSE c x):∀ rows:List (List Tree),(∀ r∈rows,FitL cs r)->∃ l:List (CT.T X.toSE c),rows=l.map (CT.row X.toSE c)
 |[],_=>⟨[],rfl⟩
 |r::rows,hr=>by
  obtain⟨x,hx⟩:=h r (hr r (by simp));obtain⟨l,hl⟩:=Zt h rows fun q hq=>hr q (List.mem_cons_of_mem _ hq);exact⟨x::l,by rw[map_cons,<- hx,<- hl]⟩
theorem aff {f:CT X.ι->Option (List CS)} (hf:∀ c cs,f c=some cs->∀ ys,FitL cs ys->∃ x:CT.T X.toSE c,ys=CT.row X.toSE c x):∀ (l:List (CT X.ι)) (css:List (List CS)),zR f l=some css->∀ ys,FitL css.flatten ys->∃ h:HL X.toSE l,ys=HL.row X.toSE l h
 |[],css,h,ys,hy=>by
  simp only[zR,Option.some.injEq]at h;subst h;cases ys with
  |nil=>exact⟨(),rfl⟩
  |cons y ys=>exact hy.elim
 |c::l,css,h,ys,hy=>by
  simp only[zR]at h;rw[ai]at h;obtain⟨a,h1,h⟩:=h;rw[ai]at h;obtain⟨b,h2,h⟩:=h;injection h with h;subst h;simp only[flatten_cons]at hy;obtain⟨ya,yb,rfl,g1,g2⟩:=Oo _ _ _ hy;obtain⟨x,hx⟩:=hf c a h1 ya g1;obtain⟨q,hq⟩:=aff hf l b h2 yb g2;exact⟨(x,q),by rw[hx,hq];rfl⟩
theorem Qc:∀ (n:Nat) (c:CT X.ι) (cs:List CS),csF n c=some cs->∀ ys,FitL cs ys->∃ x:CT.T X.toSE c,ys=CT.row X.toSE c x
 | 0,_,_,h,_,_=>by cases h
 |n+1,.mp _ _,cs,h,ys,hy=>by simp[csF]at h
 |n+1,.int k,cs,h,ys,hy=>by
  simp only[csF,Option.some.injEq]at h;subst h
  match ys,hy with
  |[y],hy=>
   simp only[FitL,Fit,and_true]at hy;obtain⟨m,rfl,_⟩:=hy;exact⟨m,rfl⟩
  |[],hy=>exact hy.elim
  |_::_::_,hy=>exact hy.2.elim
 |n+1,.bool,cs,h,ys,hy=>by
  simp only[csF,Option.some.injEq]at h;subst h
  match ys,hy with
  |[y],hy=>
   simp only[FitL,Fit,and_true]at hy;obtain⟨m,rfl⟩:=hy;exact⟨m,rfl⟩
  |[],hy=>exact hy.elim
  |_::_::_,hy=>exact hy.2.elim
 |n+1,.str,cs,h,ys,hy=>by
  simp only[csF,Option.some.injEq]at h;subst h
  match ys,hy with
  |[y],hy=>
   simp only[FitL,Fit,and_true]at hy;obtain⟨m,rfl,_⟩:=hy;exact⟨m,rfl⟩
  |[],hy=>exact hy.elim
  |_::_::_,hy=>exact hy.2.elim
 |n+1,.any,cs,h,ys,hy=>by
  simp only[csF,Option.some.injEq]at h;subst h
  match ys,hy with
  |[y],hy=>exact⟨y,rfl⟩
  |[],hy=>exact hy.elim
  |_::_::_,hy=>exact hy.2.elim
 |n+1,.sl e,cs,h,ys,hy=>by
  simp only[csF]at h;split at h
  ·rename_i row hm;injection h with h;subst h
   match ys,hy with
   |[y],hy=>
    simp only[FitL,Fit,and_true]at hy;cases e with
    |st i=>
     simp only[ah3]at hm;cases hb:ag6 X.dec i with
     |false=>rw[hb]at hm;cases hm
     |true=>
      rw[hb]at hm;obtain⟨l,hl⟩:=ahv X.dec hm hy;exact⟨l,by rw[hl];rfl⟩
    |_=>cases hm
   |[],hy=>exact hy.elim
   |_::_::_,hy=>exact hy.2.elim
  rw[ai]at h;obtain⟨r,h1,h⟩:=h;injection h with h;subst h
  match ys,hy with
  |[y],hy=>
   simp only[FitL,Fit,and_true]at hy;obtain⟨rows,rfl,_,hr⟩:=hy;obtain⟨l,hl⟩:=Zt (Qc n e r h1) rows hr;exact⟨l,by rw[hl];rfl⟩
  |[],hy=>exact hy.elim
  |_::_::_,hy=>exact hy.2.elim
 |n+1,.st i,cs,h,ys,hy=>by
  simp only[csF]at h;rw[ai]at h;obtain⟨css,h1,h⟩:=h;injection h with h;subst h;obtain⟨q,hq⟩:=aff (Qc n) (X.tys i) css h1 ys hy;exact⟨X.make i q,by rw[hq];exact (X.row_make i q).symm⟩
theorem agr {n:Nat} {c:CT X.ι} {s:VS} (h:vsF n c=some s) {x:TV} (hx:WT s x):∃ y:CT.T X.toSE c,x=CT.tv X.toSE c y:=by
 have one:∀ c:CT X.ι,c.one=true->((csF n c).bind fun l=>match l with
  |[x]=>some (VS.one x)
  |_=>none)=some s->∃ y:CT.T X.toSE c,x=CT.tv X.toSE c y:=by
  intro c hc h;rw[ai]at h;obtain⟨l,h1,h⟩:=h;split at h
  ·rename_i z;injection h with h;subst h;simp only[WT]at hx;obtain⟨t,rfl,ht⟩:=hx;obtain⟨y,hy⟩:=Qc n c _ h1 [t] ⟨ht,trivial⟩;obtain⟨t',e1,e2⟩:=row_one hc y;rw[e1]at hy;injection hy with hy;subst hy;exact⟨y,e2.symm⟩
  ·cases h
 cases c
 case st i=>
  simp only[vsF,Option.map_eq_some_iff]at h;obtain⟨cs,h1,rfl⟩:=h;simp only[WT]at hx;obtain⟨ys,rfl,hy⟩:=hx;obtain⟨y,hy⟩:=Qc n (.st i) _ h1 ys hy;exact⟨y,by rw[hy];rfl⟩
 all_goals exact one _ rfl h
theorem Zu (n:Nat):∀ (cs:List (CT X.ι)) (ss:List VS),zR (vsF n) cs=some ss->∀ xs,JN ss xs->∃ h:HL X.toSE cs,xs=HL.tvs X.toSE cs h
 |[],ss,h,xs,hx=>by
  simp only[zR,Option.some.injEq]at h;subst h;cases xs with
  |nil=>exact⟨(),rfl⟩
  |cons x xs=>exact hx.elim
 |c::cs,ss,h,xs,hx=>by
  simp only[zR]at h;rw[ai]at h;obtain⟨a,h1,h⟩:=h;rw[ai]at h;obtain⟨b,h2,h⟩:=h;injection h with h;subst h;cases xs with
  |nil=>exact hx.elim
  |cons x xs=>
   obtain⟨y,rfl⟩:=agr h1 hx.1;obtain⟨q,rfl⟩:=Zu n cs b h2 xs hx.2;exact⟨(y,q),rfl⟩
theorem afg {P:Program} {f:FuncId} {n:Nat} {cs:List (CT X.ι)} {ss:List VS} {fn:Nat->fP X (cs.map AT.d)->Option Bool} (hc:∀ k,COk P f ⟨cs.map AT.d,[.d .bool],fn k,none⟩) (hs:zR (vsF n) cs=some ss) (hl:∀ q:HL X.toSE cs,JN ss (HL.tvs X.toSE cs q)->∃ k,fn k (hlA cs q)=some true) (xs:List TV) (h:JN ss xs):
 FnP P f (xs.map TV.av) (.one (.d (.s (.sc (.bool true))))):=by
 obtain⟨q,rfl⟩:=Zu n cs ss hs xs h;obtain⟨k,hk⟩:=hl q h;have h1:=(hc k).2.1 (hlA cs q) true hk;have h2:=h1;rw[xA (Xf cs)]at h2;have h3:FnW P f (xw (cs.map AT.d) (hlA cs q)) [] [] (.one (.d (.s (.sc (.bool true))))):=h2;have h4:=Q9 h3;rw[xw,Mc]at h4;exact h4
end
structure GSt where
 env:List (Nat×AV)
 obj:List (Nat×Option aF)
 ok:List (Nat×Option Bool)
def GSt.st (F:Nat->Option aF) (L:GSt):St:=
 ⟨fun t=>(lk L.env t).getD .undef,fun k=>match lk L.obj k with |some o=>o |none=>F k,fun t=>(lk L.ok t).join⟩
def GSt.app (L:GSt) (dst:Option Tmp) (p:Out×Option Bool):GSt:=
 match dst with
 |some d=>⟨(d,p.1.v)::L.env,p.1.upd++L.obj,(d,p.2)::L.ok⟩
 |none=>⟨L.env,p.1.upd++L.obj,L.ok⟩
theorem GSt.app_st (F:Nat->Option aF) (L:GSt) (dst:Option Tmp) (p:Out×Option Bool):(L.app dst p).st F=(L.st F).app dst p:=by
 have ho:∀ (u:List (Nat×Option aF)) (k:Nat),(match lk (u++L.obj) k with |some o=>o |none=>F k)=bA (fun k=>match lk L.obj k with |some o=>o |none=>F k) u k:=by
  intro u k
  induction u with
  |nil=>rfl
  |cons q u ih=>
   obtain⟨j,o⟩:=q;simp only[cons_append,lk,bA];by_cases h:j=k
   ·subst h;simp
   ·rw[if_neg h,if_neg (fun e=>h e.symm)];exact ih
 have he:∀ {α:Type} (e:List (Nat×α)) (d:Nat) (v:α) (f:Option α->α) (t:Nat),f (some v)=v->f (lk ((d,v)::e) t)=uV (fun t=>f (lk e t)) (some d) v t:=by
  intro α e d v f t hf;simp only[lk,uV,Option.some.injEq];by_cases h:d=t
  ·rw[if_pos h,if_pos h,hf]
  ·rw[if_neg h,if_neg h]
 cases dst with
 |none=>
  simp only[GSt.app,GSt.st,St.app];congr 1;exact funext fun k=>ho _ k
 |some d=>
  simp only[GSt.app,GSt.st,St.app];congr 1
  ·exact funext fun t=>he _ _ _ (fun o:Option AV=>o.getD AV.undef) t rfl
  ·exact funext fun k=>ho _ k
  ·exact funext fun t=>he L.ok d p.2 (fun o:Option (Option Bool)=>o.join) t rfl
section
variable (P:Program) (T:Tab) (ops:Array Oper) (ann:Nat->Ann) (F:Nat->Option aF)
def yC:List Nat->GSt->Option (GSt×List Prop)
 |[],L=>some (L,[])
 |i::r,L=>(ops[i]?).bind fun o=>(opAt P T ops ann i (L.st F)).bind fun out=>(yC r (L.app o.dst out)).bind fun q=>some (q.1,out.1.obs++q.2)
end
theorem Zv:∀ {a b:List Prop},fJ (a++b)->fJ a∧fJ b
 |[],_,h=>⟨trivial,h⟩
 |p::a,b,h=>by
  cases a with
  |nil=>
   cases b with
   |nil=>exact⟨h,trivial⟩
   |cons q b=>exact⟨h.1,h.2⟩
  |cons q a=>
   obtain⟨h1,h2⟩:=h;obtain⟨h3,h4⟩:=Zv (a:=q::a) h2;exact⟨⟨h1,h3⟩,h4⟩
theorem IB {P:Program} {T:Tab} {ops:Array Oper} {ann:Nat->Ann} {F:Nat->Option aF} {Q:St->Prop}:∀ {l:List Nat} {L L':GSt} {obs:List Prop},yC P T ops ann F l L=some (L',obs)->fJ obs->Q (L'.st F)->LJ P T ops ann Q l (L.st F)
 |[],L,L',obs,h,_,hq=>by
  simp only[yC,Option.some.injEq,Prod.mk.injEq]at h;obtain⟨rfl,rfl⟩:=h;exact hq
 |i::r,L,L',obs,h,ho,hq=>by
  simp only[yC,ai]at h;obtain⟨o,h1,out,h2,q,h3,h4⟩:=h;injection h4 with h4;injection h4 with h5 h6;subst h5 h6;obtain⟨o1,o2⟩:=Zv ho;refine⟨o,out,h1,h2,o1,?_⟩;rw[<- GSt.app_st];exact IB h3 o2 hq
section
variable {P:Program} {T:Tab} {N:Nat} {Q:Exit->St->Prop} {ops:Array Oper} {ann:Nat->Ann} {σ σ' σ2:St}
structure Told (σ' σ2:St):Prop where
 re:∃ (f g:Nat->Nat) (D:Nat->Prop),(∀ k,D k->g (f k)=k)∧(∀ j,j < 1000->g j=j)∧
  (∀ t,σ2.env t= .undef∨(σ'.ok t=none∧(∀ k∈refs (σ'.env t),D k)∧Wkn (rnA f (σ'.env t)) (σ2.env t)))∧
  (∀ j o',σ2.obj j=some o'->∃ k o,σ'.obj k=some o∧D k∧f k=j∧o'.sz=o.sz∧RowsW D f o.rows o'.rows)
 ok:∀ t,σ2.ok t=none
 old:Old σ2
theorem Told.rel {w0:World} {O0:Was} {β:Nat->Option Blk} {I:Nat->Prop} {a:Act} {w:World} (h:Told σ' σ2) (hr:Rel P w0 O0 N β I σ' a w):∃ β',Rel P w0 O0 N β' I σ2 a w:=by
 obtain⟨f,g,D,h1,h2,h3,h4⟩:=h.re;refine⟨_,Rel.re (f:=f) (g:=g) (D:=D) h1 h2 hr (fun t=>?_) h.ok (fun t=>?_) h4⟩
 ·rcases h3 t with e |e
  ·exact .inr e
  ·exact .inl e.1
 ·rcases h3 t with e |e
  ·exact .inl e
  ·exact .inr e.2
theorem CB {c:Code} (h:Told σ σ2) (hc:Ev P N c Q σ2):Ev P N c Q σ:=by
 intro w0 O0 β I a w hr ho;obtain⟨β',hr'⟩:=h.rel hr;exact hc w0 O0 β' I a w hr' h.old
theorem dM (hT:dH P T) {id:Nat} {F:Nat->Option aF} {L L':GSt} {obs:List Prop} (hd:LP N ops=true) (h:yC P T ops ann F (List.range ops.size) L=some (L',obs)) (hob:fJ obs) (ht:Told (L'.st F) σ2) (hq:Q .normal σ2):
 Ev P N (.region id ops false) Q (L.st F):=by
 intro w0 O0 β I a w hr ho;refine wp_mono (U9 (Q:=fun σ=>σ=L'.st F) hT hd ho (IB h hob rfl) hr) ?_;rintro e a' w' ⟨β',I',σ',h1,rfl,rfl⟩;obtain⟨β2,h2⟩:=ht.rel h1;exact⟨β2,I',σ2,h2,ht.old,hq⟩
theorem IC (hT:dH P T) (hm:P.follows .mixedOrders=true) {id:Nat} {F:Nat->Option aF} {L L':GSt} {obs:List Prop} (hd:LP N ops=true) (hB:NU ops ann=true) (h:yC P T ops ann F (List.range ops.size) L=some (L',obs)) (hob:fJ obs) (ht:Told (L'.st F) σ2) (hq:Q .normal σ2):
 Ev P N (.region id ops true) Q (L.st F):=by
 intro w0 O0 β I a w hr ho;refine wp_mono (Ew (Q:=fun σ=>σ=L'.st F) hT hm hd hB ho (IB h hob rfl) hr) ?_;rintro e a' w' ⟨β',I',σ',h1,rfl,rfl⟩;obtain⟨β2,h2⟩:=ht.rel h1;exact⟨β2,I',σ2,h2,ht.old,hq⟩
end
mutual
theorem Xt {f:Nat->Nat}:∀ x:AV,(∀ k∈refs x,f k=k)->rnA f x=x
 | .own k off len,h=>by simp only[rnA];rw[h k (by simp[refs])]
 | .ptr k row off,h=>by simp only[rnA];rw[h k (by simp[refs])]
 | .mp k,h=>by simp only[rnA];rw[h k (by simp[refs])]
 | .agg cs,h=>by simp only[rnA];rw[jF cs (by simpa[refs]using h)]
 | .tup cs,h=>by simp only[rnA];rw[jF cs (by simpa[refs]using h)]
 | .fn F first caps,h=>by simp only[rnA];rw[jF first (fun k hk=>h k (by simp[refs,hk])),jF caps (fun k hk=>h k (by simp[refs,hk]))]
 | .t _,_=>rfl
 | .rptr _ _,_=>rfl
 | .clo _,_=>rfl
 | .nilsl,_=>rfl
 | .ub,_=>rfl
 | .undef,_=>rfl
theorem jF {f:Nat->Nat}:∀ l:List AV,(∀ k∈bg l,f k=k)->qd f l=l
 |[],_=>rfl
 |x::xs,h=>by simp only[qd];rw[Xt x (fun k hk=>h k (by simp[bg,hk])),jF xs (fun k hk=>h k (by simp[bg,hk]))]
end
theorem acV {D:Nat->Prop} {f:Nat->Nat}:∀ r:List AV,(∀ k∈bg r,D k)->RowW D f r (qd f r)
 |[],_=>trivial
 |x::xs,h=>⟨⟨fun k hk=>h k (by simp[bg,hk]),Wkn.refl _⟩,acV xs fun k hk=>h k (by simp[bg,hk])⟩
theorem R6 {D:Nat->Prop} {f:Nat->Nat}:∀ rs:List (List AV),(∀ r∈rs,∀ k∈bg r,D k)->RowsW D f rs (rs.map (qd f))
 |[],_=>trivial
 |r::rs,h=>⟨acV r (h r (by simp)),R6 rs fun q hq=>h q (by simp[hq])⟩
theorem Gp {L' L2:GSt} {F F2:Nat->Option aF} (f g:Nat->Nat) (D:Nat->Prop) (h1:∀ k,D k->g (f k)=k) (h2:∀ j,j < 1000->g j=j)
 (hE:∀ p∈L2.env,(lk L'.ok p.1).join=none∧(∀ k∈refs ((lk L'.env p.1).getD .undef),D k)∧rnA f ((lk L'.env p.1).getD .undef)=p.2)
 (hO:∀ j o',(L2.st F2).obj j=some o'->∃ k o,(L'.st F).obj k=some o∧D k∧f k=j∧o'=tK f o∧∀ r∈o.rows,∀ k∈bg r,D k) (hok:L2.ok=[])
 (old:Old (L2.st F2)):Told (L'.st F) (L2.st F2):=by
 refine⟨⟨f,g,D,h1,h2,fun t=>?_,fun j o' hj=>?_⟩,fun t=>by simp[GSt.st,hok,lk],old⟩
 ·simp only[GSt.st];cases h:lk L2.env t with
  |none=>exact .inl rfl
  |some x=>
   obtain⟨a1,a2,a3⟩:=hE _ (ko h);exact .inr ⟨a1,a2,by rw[a3];exact Wkn.refl _⟩
 ·obtain⟨k,o,e1,e2,e3,rfl,e5⟩:=hO j o' hj;exact⟨k,o,e1,e2,e3,rfl,R6 _ e5⟩
section
variable {P:Program} {β:Nat->Option Blk} {w:World} {I:Nat->Prop}
def Imps (P:Program) (β:Nat->Option Blk) (w:World) (I:Nat->Prop):List AV->List AV->Prop
 |[],[]=>True
 |x::xs,y::ys=>(∀ v,VR P β w I x v->VR P β w I y v)∧Imps P β w I xs ys
 |_,_=>False
def Impss (P:Program) (β:Nat->Option Blk) (w:World) (I:Nat->Prop):List (List AV)->List (List AV)->Prop
 |[],[]=>True
 |r::rs,q::qs=>Imps P β w I r q∧Impss P β w I rs qs
 |_,_=>False
theorem Imps.refl:∀ r:List AV,Imps P β w I r r
 |[]=>trivial
 |_::xs=>⟨fun _ h=>h,Imps.refl xs⟩
theorem Impss.app {q q':List AV} (h:Imps P β w I q q'):∀ R:List (List AV),Impss P β w I (R++[q]) (R++[q'])
 |[]=>⟨h,trivial⟩
 |r::R=>⟨Imps.refl r,Impss.app h R⟩
theorem Imps.row:∀ {r q:List AV} {c:Array Value} {off:Nat},Imps P β w I r q->ORow P β w I r c off->ORow P β w I q c off
 |[],[],_,_,_,_=>trivial
 |_::_,_::_,_,_,h,⟨⟨v,h1,h2,h3⟩,h4⟩=>⟨⟨v,h1,h.1 v h2,h3⟩,Imps.row h.2 h4⟩
 |[],_::_,_,_,h,_=>h.elim
 |_::_,[],_,_,h,_=>h.elim
theorem Imps.length:∀ {r q:List AV},Imps P β w I r q->q.length=r.length
 |[],[],_=>rfl
 |_::_,_::_,h=>congrArg (· +1) (Imps.length h.2)
 |[],_::_,h=>h.elim
 |_::_,[],h=>h.elim
theorem Impss.rows:∀ {rs qs:List (List AV)} {c:Array Value} {off sz:Nat},Impss P β w I rs qs->ORows P β w I rs c off sz->ORows P β w I qs c off sz
 |[],[],_,_,_,_,_=>trivial
 |_::_,_::_,_,_,_,h,⟨h1,h2,h3⟩=>⟨by rw[h.1.length];exact h1,h.1.row h2,h.2.rows h3⟩
 |[],_::_,_,_,_,h,_=>h.elim
 |_::_,[],_,_,_,h,_=>h.elim
theorem Impss.length:∀ {rs qs:List (List AV)},Impss P β w I rs qs->qs.length=rs.length
 |[],[],_=>rfl
 |_::_,_::_,h=>congrArg (· +1) (Impss.length h.2)
 |[],_::_,h=>h.elim
 |_::_,[],h=>h.elim
theorem Imps.vrl:∀ {r q:List AV} {vs:List Value},Imps P β w I r q->VRl P β w I r vs->VRl P β w I q vs
 |[],[],_,_,hv=>hv
 |_::_,_::_,[],_,hv=>by simp[VRl]at hv
 |_::_,_::_,_::_,h,hv=>by simp only[VRl]at hv ⊢;exact⟨h.1 _ hv.1,h.2.vrl hv.2⟩
 |[],_::_,_,h,_=>h.elim
 |_::_,[],_,h,_=>h.elim
theorem Impss.mrows:∀ {rs qs:List (List AV)} {es:List MapEntry},Impss P β w I rs qs->MRows P β w I rs es->MRows P β w I qs es
 |[],[],_,_,h=>h
 |_::_,_::_,[],_,h=>h.elim
 |_::_,_::_,_::_,h,hm=>⟨h.1.vrl hm.1,h.2.mrows hm.2⟩
 |[],_::_,_,h,_=>h.elim
 |_::_,[],_,h,_=>h.elim
end
theorem adH {P:Program} {N:Nat} {c:Code} {Q:Exit->St->Prop} {σ σ2:St} {K k0 sz sz0:Nat} {R:List (List AV)} {q:List AV} (hk0:1000<=k0) (hk1:k0 < 1000000) (hne:K≠k0)
 (hK:σ.obj K=some ⟨sz,R++[q++[.nilsl]]⟩) (hfe:∀ t,k0∉refs (σ.env t)) (hfo:∀ k o,σ.obj k=some o->k≠k0∧∀ r∈o.rows,k0∉bg r)
 (hok:σ2.ok=σ.ok) (he:σ2.env=σ.env) (ho:∀ k,σ2.obj k=if k=k0 then some ⟨sz0,[]⟩else if k=K then some ⟨sz,R++[q++[.own k0 0 0]]⟩else σ.obj k) (hok2:∀ t,σ.ok t=none)
 (h:Ev P N c Q σ2):Ev P N c Q σ:=by
 intro w0 O0 β I a w hr hold;have hold2:Old σ2:=by
  refine⟨fun t k hk=>hold.env t k (by rw[<- he];exact hk),fun k o hk=>?_⟩;rw[ho]at hk;split at hk
  ·injection hk with hk;subst hk;rename_i e;exact⟨by omega,fun r hr=>by cases hr⟩
  ·split at hk
   ·rename_i e;injection hk with hk;subst hk;obtain⟨h1,h2⟩:=hold.obj K _ hK;refine⟨by omega,fun r hr x hx j hj=>?_⟩;rcases mem_append.1 hr with hr |hr
    ·exact h2 r (List.mem_append_left _ hr) x hx j hj
    ·rw[mem_singleton]at hr;subst hr;rcases mem_append.1 hx with hx |hx
     ·exact h2 (q++[.nilsl]) (by simp) x (List.mem_append_left _ hx) j hj
     ·rw[mem_singleton]at hx;subst hx;simp only[refs,mem_singleton]at hj;omega
   ·exact hold.obj k o hk
 have hr1:=hr.restrict hold;have hr2:Rel P w0 O0 N (fun j=>(fun k=>if k < 1000000 then β k else none) (if j=k0 then 1000000 else j)) I σ a w:=by
  refine Rel.re (s:=σ) (s':=σ) (f:=fun k=>k) (g:=fun j=>if j=k0 then 1000000 else j) (D:=fun k=>k≠k0) (fun k hk=>by simp[hk]) (fun j hj=>by rw[if_neg (by omega)]) hr1 (fun t=> .inl (hok2 t)) hok2 (fun t=> .inr ⟨fun k hk e=>hfe t (e ▸ hk),?_⟩) fun j o' hj=>⟨j,o',hj,(hfo j o' hj).1,rfl,rfl,?_⟩
  ·rw[Xt _ fun k _=>rfl];exact Wkn.refl _
  ·have:=R6 (D:=fun k=>k≠k0) (f:=fun k=>k) o'.rows fun r hr k hk e=>(hfo j o' hj).2 r hr (e ▸ hk);have e:o'.rows.map (qd fun k=>k)=o'.rows:=by
    conv=>rhs;rw[<- List.map_id o'.rows]
    exact map_congr_left fun r _=>jF r fun k _=>rfl
   rw[e]at this;exact this
 have hn:(fun j=>(fun k=>if k < 1000000 then β k else none) (if j=k0 then 1000000 else j)) k0=none:=by simp
 generalize hβ:(fun j=>(fun k=>if k < 1000000 then β k else none) (if j=k0 then 1000000 else j))=β2 at hr2 hn;obtain⟨hS,hM⟩:=Mem.addNil (i:=k0) (o:=⟨sz0,[]⟩) hr2.mem hn rfl;refine h w0 O0 (ins β2 k0 .none) I a w ⟨hr2.defers,hr2.size,fun t=>?_,?_⟩ hold2
 ·rw[he,hok];exact SlotR.mono hS.ext hS.same hS.inc (hr2.env t)
 ·refine Mem.weak hM fun k o' hk=>?_;rw[ho]at hk;split at hk
  ·rename_i e;subst e;injection hk with hk;subst hk;exact⟨⟨sz0,[]⟩,by simp[bA],fun _ _ h=>h⟩
  ·rename_i e0;split at hk
   ·rename_i e;subst e;injection hk with hk;subst hk;refine⟨⟨sz,R++[q++[.nilsl]]⟩,by simp only[bA];rw[if_neg e0];exact hK,fun B hB hO=>?_⟩;have himp:Imps P (ins β2 k0 .none) w I (q++[.nilsl]) (q++[.own k0 0 0]):=by
     clear hfo hfe hO hK ho
     induction q with
     |nil=>exact⟨fun v hv=>by simp only[VR]at hv ⊢;exact .inl ⟨by simp[ins],hv,trivial,trivial⟩,trivial⟩
     |cons x xs ih=>exact⟨fun _ h=>h,ih⟩
    cases B with
    |none=>simp[OR]at hO
    | «at» b s n=>
     obtain⟨g1,c',e',g2,g3,g4⟩:=hO;exact⟨g1,c',e',g2,g3,(Impss.app himp R).rows g4⟩
    |mp b=>
     obtain⟨es,cl,g1,g2,g3,g4⟩:=hO;have hl:=(Impss.app himp R).length;exact⟨es,cl,g1,by rw[hl];exact g2,fun e=>(Impss.app himp R).mrows (g3 (by rw[<- hl];exact e)),g4⟩
   ·exact⟨o',by simp only[bA];rw[if_neg e0];exact hk,fun _ _ h=>h⟩
end Go.Gb
