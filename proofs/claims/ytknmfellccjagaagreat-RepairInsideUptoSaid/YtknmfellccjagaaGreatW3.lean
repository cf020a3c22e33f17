import Derived.Test.YtknmfellccjagaaGreatW2
import Derived.RangeFuncNested
import Derived.RangeFuncBound
import Derived.RangeFuncLeaves
import Derived.WalkKit
open List (mem_map all_eq_true length_map append_nil map_map map_nil all_cons)
namespace Go.Gb
open Go.RowKit
section
variable {X:SX}
theorem abt{d:DV X}{c:CT X.ι}{x:CT.T X.toSE c}(h:LP d c=some x):bx d=[]:=by
 cases d
 case c=>rfl
 case nil=>rfl
 all_goals cases c<;>cases h
theorem Tp:∀{ds:U (DV X)}{l:U (CT X.ι)}{h:HL X.toSE l},EI ds l=some h->aP ds=[]
 |[],[],_,_=>rfl
 |d::ds,c::l,h,hr=>by simp[EI]at hr;have⟨x,h1,hr⟩:=ah.1 hr;have⟨g,h2,hr⟩:=ah.1 hr;simp[aP,abt h1,Tp h2]
 |[],_::_,_,hr|_::_,[],_,hr=>by simp[EI]at hr
theorem ajG{d:DV X}{c:CT X.ι}{x:CT.T X.toSE c}(h:dat d c=some x):lO (den d) (den (.c c x:DV X))/\bx d=[]:=by
 cases c
 case st i=>
  replace h:G2 d i=some x:=h
  cases d
  case agg cs=>
   simp[G2]at h;have⟨g,h1,h⟩:=ah.1 h;cases h;refine⟨λ P β w I v hv=>?_,by simp[bx,Tp h1]⟩;have h2:=(zu h1 (X.flat i)).1;simp[den]at hv;obtain⟨vs,rfl,hv⟩:=hv;show VR P β w I (.agg ((X.row i (X.make i g)).map AV.t)) _;have h3:(X.row i (X.make i g)).map AV.t=(bL cs).map Gb.wk:=(by rw[h2];exact congrArg _ (X.gS i g));rw[h3];simp only[VR];exact⟨vs,rfl,bp.wk _ _ hv⟩
  case c a y=>
   rw[(pG h).1];exact⟨lO.refl _,rfl⟩
  all_goals cases h
 all_goals
  have h1:=wS h;refine⟨λ P β w I v hv=>?_,abt h⟩;simp[den];rw[<- h1];exact hv.wk
def ie(m m':MA X):Prop:=(∀ q∈m.nm,q∈m'.nm)/\(∀ c∈m.j8,c∈m'.j8)
theorem ie.refl(m:MA X):ie m m:=⟨λ _ h=>h,λ_ h=>h⟩
theorem ie.trans{a b c:MA X}(h:ie a b)(h':ie b c):ie a c:=⟨λ q hq=>h'.1 q (h.1 q hq),λq hq=>h'.2 q (h.2 q hq)⟩
theorem fM(m:MA X)(k' k:Nat):(addN m k' k).eK=m.eK/\(addN m k' k).j8=m.j8:=by grind [addN]
theorem oQ(m:MA X)(k' k:Nat):(k',k)∈(addN m k' k).nm:=by grind [addN]
theorem qO(m:MA X)(k' k:Nat):ie m (addN m k' k):=by unfold addN;split;exact ie.refl m;exact⟨λ q hq=>by simp[hq],λ_ h=>h⟩
variable {get:Nat->Option (bz X)}
mutual
theorem ajH:∀(p:Pt X.ι)(d:DV X)(m m':MA X),mP get p d m=some m'->ie m m'/\∃al,m'.eK=m.eK++al/\al.length=p.vars.length
 |.v c,d,m,m',h=>by simp[mP]at h;rw[ah]at h;obtain⟨x,h1,h⟩:=h;cases h;exact⟨⟨λ _ h=>h,λ_ h=>h⟩,[⟨c,x⟩],rfl,rfl⟩
 |.o k,d,m,m',h=>by simp[mP]at h;split at h;rename_i k' len;have⟨o,h1,h⟩:=ah.1 h;split at h;cases h;refine⟨ie.trans (b:=⟨m.nm,m.eK,m.j8++_⟩) ⟨λ _ h=>h,λ_ h=>by simp[h]⟩ (qO _ _ _),[],by rw[(fM _ _ _).1];simp,rfl⟩;cases h;cases h
 |.oz k,d,m,m',h=>by simp[mP]at h;split at h;have⟨o,h1,h⟩:=ah.1 h;split at h;cases h;refine⟨ie.trans (b:=⟨m.nm,m.eK,m.j8++_⟩) ⟨λ _ h=>h,λ_ h=>by simp[h]⟩ (qO _ _ _),[],by rw[(fM _ _ _).1];simp,rfl⟩;cases h;have⟨o,h1,h⟩:=ah.1 h;split at h;cases h;refine⟨ie.trans (b:=⟨m.nm,m.eK,m.j8++_⟩) ⟨λ _ h=>h,λ_ h=>by simp[h]⟩ (qO _ _ _),[],by rw[(fM _ _ _).1];simp,rfl⟩;cases h;cases h
 |.p k,d,m,m',h=>by simp[mP]at h;split at h;cases h;exact⟨qO _ _ _,[],by rw[(fM _ _ _).1];simp,rfl⟩;cases h
 |.mp k,d,m,m',h=>by simp[mP]at h;split at h;cases h;exact⟨qO _ _ _,[],by rw[(fM _ _ _).1];simp,rfl⟩;cases h
 |.nil,d,m,m',h=>by simp[mP]at h;split at h;cases h;exact⟨ie.refl _,[],by simp,rfl⟩;cases h
 |.f F fs cs,d,m,m',h=>by simp[mP]at h;split at h;split at h;rw[ah]at h;obtain⟨m1,h1,h⟩:=h;obtain⟨a1,n1,b1,c1⟩:=zC fs _ m m1 h1;obtain⟨a2,n2,b2,c2⟩:=zC cs _ m1 m' h;exact⟨a1.trans a2,n1++n2,by rw[b2,b1,aV],by simp[Pt.vars,c1,c2]⟩;cases h;cases h
 |.od k,d,m,m',h=>by simp[mP]at h;split at h;rename_i k' aa len;have⟨o,h1,h⟩:=ah.1 h;split at h;cases h;refine⟨ie.trans (b:=⟨m.nm,m.eK++[⟨.int .i64,(aa:Int)⟩],m.j8++_⟩) ⟨λ _ h=>h,λ_ h=>by simp[h]⟩ (qO _ _ _),[⟨.int .i64,(aa:Int)⟩],by rw[(fM _ _ _).1],rfl⟩;cases h;cases h
 |.a ps,d,m,m',h=>by simp[mP]at h;split at h;exact zC ps _ m m' h;cases h
theorem zC:∀(ps:List (Pt X.ι))(ds:List (DV X))(m m':MA X),uk get ps ds m=some m'->ie m m'/\∃al,m'.eK=m.eK++al/\al.length=(cP ps).length
 |[],[],m,m',h=>by simp[uk]at h;subst h;exact⟨ie.refl _,[],by simp,rfl⟩
 |p::ps,d::ds,m,m',h=>by simp[uk]at h;have⟨m1,h1,h⟩:=ah.1 h;have⟨a1,n1,b1,c1⟩:=ajH p d m m1 h1;have⟨a2,n2,b2,c2⟩:=zC ps ds m1 m' h;exact⟨a1.trans a2,n1++n2,by rw[b2,b1,aV],by simp[cP,c1,c2]⟩
 |[],_::_,m,m',h|_::_,[],m,m',h=>by simp[uk]at h
end
theorem zD:∀(rs:U (List (Pt X.ι)))(qs:U (List (DV X)))(m m':MA X),Li get rs qs m=some m'->ie m m'/\∃al,m'.eK=m.eK++al/\al.length=(wT rs).length
 |[],[],m,m',h=>by simp[Li]at h;subst h;exact⟨ie.refl _,[],by simp,rfl⟩
 |r::rs,q::qs,m,m',h=>by simp[Li]at h;have⟨m1,h1,h⟩:=ah.1 h;have⟨a1,n1,b1,c1⟩:=zC r q m m1 h1;have⟨a2,n2,b2,c2⟩:=zD rs qs m1 m' h;exact⟨a1.trans a2,n1++n2,by rw[b2,b1,aV],by simp[wT,c1,c2]⟩
 |[],_::_,m,m',h|_::_,[],m,m',h=>by simp[Li]at h
section
variable {NM:List (Nat×Nat)} {f:Nat->Nat} {dE:Nat->Nat}
def DN(NM:U (Nat×Nat))(j:Nat):Prop:=∃k,(j,k)∈NM
def SN(NM:U (Nat×Nat))(j:Nat):Prop:=∃k,(k,j)∈NM
theorem NJ{D:Φ}{f:Nat->Nat}{P:Ξ}{β:ζ}{w:Δ}{I:Φ}:∀{a b:U AV}(_:oe D f a b)(u:U Value),bp P β w I (Dc f a) u->bp P β w I b u
 |[],[],_,u,hu=>hu
 |[],_::_,hr,_,_|_::_,[],hr,_,_=>hr.elim
 |y::ys,z::zs,hr,[],hu=>by simp[Dc,bp]at hu
 |y::ys,z::zs,hr,v::vs,hu=>by exact⟨hr.1.2 _ _ _ _ _ hu.1,NJ hr.2 vs hu.2⟩
mutual
theorem afb(hf:∀q∈NM,f q.1=q.2)(ho:∀q∈NM,∀c l,get q.1=some (.ek c l)->dE q.2=l.length):∀(p:Pt X.ι)(d:DV X)(m m':MA X),mP get p d m=some m'->(∀ q∈m'.nm,q∈NM)->(∀ c∈m'.j8,c=true)->
 ∃al,m'.eK=m.eK++al/\∃d',(∀ ae,eP dE p (al++ae)=(d',ae))/\lO (kx f (den d)) (den d')/\(∀ j∈bx d,DN NM j)/\(∀ j∈bx d',SN NM j)
 |.v c,d,m,m',h,_,_=>by simp[mP]at h;rw[ah]at h;obtain⟨x,h1,h⟩:=h;cases h;have⟨h2,h3⟩:=ajG h1;refine⟨[⟨c,x⟩],rfl,.c c x,λae=>rfl,?_,by simp[h3],by simp[bx]⟩;rw[<- A8,XF d (by simp[h3])];exact h2
 |.o k,d,m,m',h,hn,hc=>by
  simp[mP]at h;split at h;rename_i k' len;rw[ah]at h;obtain⟨o,h1,h⟩:=h;split at h;rename_i c l;cases h;have hq:(k',k)∈NM:=hn _ (oQ _ _ _);have he:len=l.length:=by have:=hc (aE len l.length) (by rw[(fM _ _ _).2];simp);simpa[aE]using this
  refine⟨[],by rw[(fM _ _ _).1];simp,.own k 0 (dE k),λae=>rfl,?_,?_,?_⟩;simp[den,kx];rw[hf _ hq,ho _ hq c l h1,he];exact lO.refl _;intro j hj;simp[bx]at hj;subst hj;exact⟨k,hq⟩;intro j hj;simp[bx]at hj;subst hj;exact⟨k',hq⟩;cases h;cases h
 |.oz k,d,m,m',h,hn,hc=>by
  simp[mP]at h;split at h;rename_i k' len;rw[ah]at h;obtain⟨o,h1,h⟩:=h;split at h;rename_i c l;cases h;have hq:(k',k)∈NM:=hn _ (oQ _ _ _);have he:len≠0/\len=l.length:=by have:=hc (!(len==0)&&aE len l.length) (by rw[(fM _ _ _).2];simp);simpa[aE]using this
  refine⟨[],by rw[(fM _ _ _).1];simp,.oz k (dE k),λae=>rfl,?_,λj hj=>?_,λj hj=>?_⟩;simp[den,kx];rw[hf _ hq,ho _ hq c l h1,<- he.2];intro P β w I v hv;simp only[VR]at hv ⊢;exact .inr ⟨he.1,hv.resolve_left λh=>he.1 h.2.2.2⟩;simp[bx]at hj;subst hj;exact⟨k,hq⟩;simp[bx]at hj;subst hj;exact⟨k',hq⟩;cases h;rename_i k' len;rw[ah]at h;obtain⟨o,h1,h⟩:=h;split at h;rename_i c l;cases h;have hq:(k',k)∈NM:=hn _ (oQ _ _ _);have he:len=l.length:=by have:=hc (aE len l.length) (by rw[(fM _ _ _).2];simp);simpa[aE]using this
  refine⟨[],by rw[(fM _ _ _).1];simp,.oz k (dE k),λae=>rfl,?_,λj hj=>?_,λj hj=>?_⟩;simp[den,kx];rw[hf _ hq,ho _ hq c l h1,he];exact lO.refl _;simp[bx,bg]at hj;subst hj;exact⟨k,hq⟩;simp[bx,bg]at hj;subst hj;exact⟨k',hq⟩;cases h;cases h
 |.p k,d,m,m',h,hn,hc=>by simp[mP]at h;split at h;rename_i k';cases h;have hq:(k',k)∈NM:=hn _ (oQ _ _ _);refine⟨[],by rw[(fM _ _ _).1];simp,.ptr k 0 0,λae=>rfl,?_,?_,?_⟩;simp[den,kx];rw[hf _ hq];exact lO.refl _;intro j hj;simp[bx,bg]at hj;subst hj;exact⟨k,hq⟩;intro j hj;simp[bx,bg]at hj;subst hj;exact⟨k',hq⟩;cases h
 |.mp k,d,m,m',h,hn,hc=>by simp[mP]at h;split at h;rename_i k';cases h;have hq:(k',k)∈NM:=hn _ (oQ _ _ _);refine⟨[],by rw[(fM _ _ _).1];simp,.mp k,λae=>rfl,?_,?_,?_⟩;simp[den,kx];rw[hf _ hq];exact lO.refl _;intro j hj;simp[bx,bg]at hj;subst hj;exact⟨k,hq⟩;intro j hj;simp[bx,bg]at hj;subst hj;exact⟨k',hq⟩;cases h
 |.nil,d,m,m',h,_,_=>by simp[mP]at h;split at h;cases h;exact⟨[],by simp,.nil,λae=>rfl,lO.refl _,by simp[bx],by simp[bx]⟩;cases h
 |.f F fs cs,d,m,m',h,hn,hc=>by
  simp[mP]at h;split at h;rename_i F' first caps
  split at h;rename_i e;subst e;rw[ah]at h;obtain⟨m1,h1,h⟩:=h;have hm:=(zC cs _ m1 m' h).1;obtain⟨n1,a1,f',b1,c1,e1,g1⟩:=Dq hf ho fs _ m m1 h1 (λ q hq=>hn q (hm.1 q hq)) (λ q hq=>hc q (hm.2 q hq));obtain⟨n2,a2,c',b2,c2,e2,g2⟩:=Dq hf ho cs _ m1 m' h hn hc;refine⟨n1++n2,by rw[a2,a1,aV],.fn F f' c',λae=>by simp[eP,aV,b1,b2],?_,?_,?_⟩;intro P β w I v hv;simp[den,kx,VR]at hv ⊢;obtain⟨us,vs,rfl,hu,hv⟩:=hv;exact⟨us,vs,rfl,NJ c1 _ hu,NJ c2 _ hv⟩;intro j hj;simp[bx,bF]at hj;exact hj.elim (e1 j) (e2 j);intro j hj;simp[bx,bF]at hj;exact hj.elim (g1 j) (g2 j);cases h;cases h
 |.od k,d,m,m',h,hn,hc=>by
  simp[mP]at h;split at h;rename_i k' aa len;rw[ah]at h;obtain⟨o,h1,h⟩:=h;split at h;rename_i c l;cases h;have hq:(k',k)∈NM:=hn _ (oQ _ _ _);have he:aa+len=l.length:=by have:=hc (aE (aa+len) l.length) (by rw[(fM _ _ _).2];simp);simpa[aE]using this
  refine⟨[⟨.int .i64,(aa:Int)⟩],by rw[(fM _ _ _).1],.own k aa (dE k-aa),λae=>?_,?_,?_,?_⟩;simp only[eP,List.cons_append,fw];have:IF (X:=X) ⟨.int .i64,(aa:Int)⟩=aa:=by simp[IF];rw[Xi];simp
  rw[this];simp[den,kx];rw[hf _ hq,ho _ hq c l h1,show l.length-aa=len by omega];exact lO.refl _;intro j hj;simp[bx,bg]at hj;subst hj;exact⟨k,hq⟩;intro j hj;simp[bx,bg]at hj;subst hj;exact⟨k',hq⟩;cases h;cases h
 |.a ps,d,m,m',h,hn,hc=>by simp[mP]at h;split at h;rename_i ds;have⟨al,h1,ds',h2,h3,h4,h5⟩:=Dq hf ho ps ds m m' h hn hc;refine⟨al,h1,.agg ds',λae=>by simp[eP,h2],?_,by simpa[bx]using h4,by simpa[bx]using h5⟩;intro P β w I v hv;simp[den,kx,VR]at hv ⊢;obtain⟨vs,rfl,hv⟩:=hv;refine⟨vs,rfl,?_⟩;exact NJ h3 _ hv;cases h
theorem Dq(hf:∀q∈NM,f q.1=q.2)(ho:∀q∈NM,∀c l,get q.1=some (.ek c l)->dE q.2=l.length):∀(ps:List (Pt X.ι))(ds:List (DV X))(m m':MA X),uk get ps ds m=some m'->(∀ q∈m'.nm,q∈NM)->(∀ c∈m'.j8,c=true)->
 ∃al,m'.eK=m.eK++al/\∃ds',(∀ ae,lE dE ps (al++ae)=(ds',ae))/\oe (DN NM) f (bL ds) (bL ds')/\(∀ j∈aP ds,DN NM j)/\(∀ j∈aP ds',SN NM j)
 |[],[],m,m',h,_,_=>by simp[uk,bV]at h;subst h;exact⟨[],by simp,[],λae=>rfl,trivial,by simp[aP],by simp[aP]⟩
 |p::ps,d::ds,m,m',h,hn,hc=>by simp[uk]at h;have⟨m1,h1,h⟩:=ah.1 h;have hm:=(zC ps ds m1 m' h).1;obtain⟨n1,a1,d',b1,c1,e1,g1⟩:=afb hf ho p d m m1 h1 (λ q hq=>hn q (hm.1 q hq)) (λ q hq=>hc q (hm.2 q hq));have⟨n2,a2,ds',b2,c2,e2,g2⟩:=Dq hf ho ps ds m1 m' h hn hc;refine⟨n1++n2,by rw[a2,a1,aV],d'::ds',λae=>?_,⟨⟨λ k hk=>e1 k (by rwa [ja]at hk),c1⟩,c2⟩,?_,?_⟩;simp[lE,aV,b1,b2];intro j hj;simp[aP,bF]at hj;exact hj.elim (e1 j) (e2 j);intro j hj;simp[aP,bF]at hj;exact hj.elim (g1 j) (g2 j)
 |[],_::_,m,m',h,_,_=>by simp[uk]at h
 |_::_,[],m,m',h,_,_=>by simp[uk]at h
end
theorem Tq(hf:∀q∈NM,f q.1=q.2)(ho:∀q∈NM,∀c l,get q.1=some (.ek c l)->dE q.2=l.length):∀(rs:U (List (Pt X.ι)))(qs:U (List (DV X)))(m m':MA X),Li get rs qs m=some m'->(∀ q∈m'.nm,q∈NM)->(∀ c∈m'.j8,c=true)->
 ∃al,m'.eK=m.eK++al/\∃Hx,(∀ ae,wV dE rs (al++ae)=(Hx,ae))/\ip (DN NM) f (qs.map bL) (Hx.map bL)/\(∀ j∈(qs.map aP).flatten,DN NM j)/\(∀ j∈(Hx.map aP).flatten,SN NM j)
 |[],[],m,m',h,_,_=>by simp[Li]at h;subst h;exact⟨[],by simp,[],λae=>rfl,trivial,by simp,by simp⟩
 |r::rs,q::qs,m,m',h,hn,hc=>by
  simp[Li]at h;have⟨m1,h1,h⟩:=ah.1 h;have hm:=(zD rs qs m1 m' h).1;obtain⟨n1,a1,d',b1,c1,e1,g1⟩:=Dq hf ho r q m m1 h1 (λ q hq=>hn q (hm.1 q hq)) (λ q hq=>hc q (hm.2 q hq));have⟨n2,a2,ds',b2,c2,e2,g2⟩:=Tq hf ho rs qs m1 m' h hn hc;refine⟨n1++n2,by rw[a2,a1,aV],d'::ds',λae=>?_,⟨c1,c2⟩,?_,?_⟩;simp[wV]
  all_goals grind
 |[],_::_,m,m',h,_,_|_::_,[],m,m',h,_,_=>by simp[Li]at h
end
end
section
variable {X:SX} {get:Nat->Option (bz X)} {env:Nat->DV X}
theorem IJ:∀(sl:U (Nat×Pt X.ι))(m m':MA X),IC get env sl m=some m'->ie m m'/\∃al,m'.eK=m.eK++al/\al.length=(i6 sl).length
 |[],m,m',h=>by simp[IC]at h;subst h;exact⟨ie.refl _,[],by simp,rfl⟩
 |(t,p)::r,m,m',h=>by simp[IC]at h;rw[ah]at h;obtain⟨m1,h1,h⟩:=h;obtain⟨a1,n1,b1,c1⟩:=ajH p _ m m1 h1;have⟨a2,n2,b2,c2⟩:=IJ r m1 m' h;exact⟨a1.trans a2,n1++n2,by grind,by simp[i6,c1,c2]⟩
theorem mY:∀(os:U (Nat×OP X.ι))(m m':MA X),Dj get os m=some m'->ie m m'/\∃al,m'.eK=m.eK++al/\al.length=(df os).length
 |[],m,m',h=>by simp[Dj]at h;subst h;exact⟨ie.refl _,[],by simp,rfl⟩
 |(k,op)::r,m,m',h=>by simp[Dj]at h;rw[ah]at h;obtain⟨o,h1,h⟩:=h;split at h;rename_i c c' l;rw[ah]at h;obtain⟨l',h2,h⟩:=h;obtain⟨a2,n2,b2,c2⟩:=mY r _ m' h;refine⟨ie.trans (ie.trans (b:=⟨m.nm,m.eK++[⟨.sl c,l'⟩],m.j8⟩) ⟨λ _ h=>h,λ_ h=>h⟩ (qO _ _ _)) a2,[⟨.sl c,l'⟩]++n2,?_,by simp[df,c2]⟩;rw[b2,(fM _ _ _).1,aV];rename_i kc vc vm vh l;rw[ah]at h;obtain⟨l',h2,h⟩:=h;obtain⟨a2,n2,b2,c2⟩:=mY r _ m' h;refine⟨ie.trans (ie.trans (b:=⟨m.nm,m.eK++[⟨.mp kc vc,l'⟩],m.j8⟩) ⟨λ _ h=>h,λ_ h=>h⟩ (qO _ _ _)) a2,[⟨.mp kc vc,l'⟩]++n2,?_,by simp[df,c2]⟩;rw[b2,(fM _ _ _).1,aV];rename_i sz rows sz' rows';split at h;rw[ah]at h;obtain⟨m1,h2,h⟩:=h;obtain⟨a1,n1,b1,c1⟩:=zD rows _ _ m1 h2;have⟨a2,n2,b2,c2⟩:=mY r m1 m' h;refine⟨((qO m _ _).trans a1).trans a2,n1++n2,?_,by simp[df,c1,c2]⟩;rw[b2,b1,(fM _ _ _).1,aV];cases h;cases h
variable {NM:List (Nat×Nat)} {f:Nat->Nat} {dE:Nat->Nat}
theorem EP:∀(os:U (Nat×OP X.ι))(m m':MA X),Dj get os m=some m'->(∀ q∈m'.nm,q∈NM)->∃al,m'.eK=m.eK++al/\∀ae,∀k∈os.map (·.1),∃k' o,(k',k)∈NM/\get k'=some o/\∀c l,o=.ek c l->(k,List.length l)∈lens os (al++ae)
 |[],m,m',h,_=>by
  simp_all [Dj]
 |(k,op)::r,m,m',h,hn=>by
  simp[Dj]at h;rw[ah]at h;obtain⟨o,h1,h⟩:=h;split at h;rename_i c c' l;rw[ah]at h;obtain⟨l',h2,h⟩:=h;have hm:=(mY r _ m' h).1;obtain⟨n2,b2,c2⟩:=EP r _ m' h hn;refine⟨[⟨.sl c,l'⟩]++n2,by rw[b2,(fM _ _ _).1,aV],λae j hj=>?_⟩;simp only[bK,aL]at hj;by_cases hjk:j=k;subst hjk;refine⟨_,_,hn _ (hm.1 _ (oQ _ _ _)),h1,λc2 l2 he=>?_⟩;injection he with e1 e2;subst e1;subst e2;have:=congrArg List.length (jN h2).2;simp at this;rw[this];exact List.mem_cons_self;rcases hj with rfl|hj;exact(hjk rfl).elim;have⟨k',o',g1,g2,g3⟩:=c2 ae j hj;exact⟨k',o',g1,g2,λc l he=>bQ _ (g3 c l he)⟩;rename_i kc vc vm vh l;rw[ah]at h;obtain⟨l',h2,h⟩:=h;have hm:=(mY r _ m' h).1;obtain⟨n2,b2,c2⟩:=EP r _ m' h hn;refine⟨[⟨.mp kc vc,l'⟩]++n2,by rw[b2,(fM _ _ _).1,aV],λae j hj=>?_⟩;simp only[bK,aL]at hj;by_cases hjk:j=k;subst hjk;exact⟨_,_,hn _ (hm.1 _ (oQ _ _ _)),h1,λc2 l2 he=>by cases he⟩;rcases hj with rfl|hj;exact(hjk rfl).elim;exact c2 ae j hj;rename_i sz rows sz' rows';split at h;have⟨m1,h2,h⟩:=ah.1 h;obtain⟨a1,n1,b1,c1⟩:=zD rows _ _ m1 h2;have hm:=(mY r _ m' h).1;obtain⟨n2,b2,c2⟩:=EP r _ m' h hn;refine⟨n1++n2,by rw[b2,b1,(fM _ _ _).1,aV],λae j hj=>?_⟩;simp only[bK,aL]at hj;have hd:(n1++n2++ae).drop (wT rows).length=n2++ae:=by rw[<- c1,aV,List.drop_left]
  simp only[lens,hd];by_cases hjk:j=k;subst hjk;exact⟨_,_,hn _ (hm.1 _ (a1.1 _ (oQ _ _ _))),h1,λc2 l2 he=>by cases he⟩;rcases hj with rfl|hj;exact(hjk rfl).elim;exact c2 ae j hj;cases h;cases h
theorem QO:∀(os:U (Nat×OP X.ι))(L:U (DC X)),((lens os L).map (·.1)).Sublist (os.map (·.1))
 |[],_=>by simp[lens]
 |(k,.l c)::r,L=>by
  simp[lens];split;exact(QO r _).cons_cons _
  grind
 |(k,.m kc vc)::r,L|(k,.c sz rows)::r,L=>(QO r _).cons _
theorem NK(hf:∀q∈NM,f q.1=q.2)(ho:∀q∈NM,∀c l,get q.1=some (.ek c l)->dE q.2=l.length):∀(sl:U (Nat×Pt X.ι))(m m':MA X),IC get env sl m=some m'->(∀ q∈m'.nm,q∈NM)->(∀ c∈m'.j8,c=true)->
 ∃al,m'.eK=m.eK++al/\∃es,(∀ ae,xM dE sl (al++ae)=es)/\(∀ p∈es,p.1∈sl.map (·.1)/\lO (kx f (den (env p.1))) (den p.2)/\(∀ j∈bx (env p.1),DN NM j)/\(∀ j∈bx p.2,SN NM j))
 |[],m,m',h,_,_=>by simp[IC]at h;subst h;exact⟨[],by simp,[],λae=>rfl,by simp⟩
 |(t,p)::r,m,m',h,hn,hc=>by
  simp[IC]at h;have⟨m1,h1,h⟩:=ah.1 h;have hm:=(IJ r m1 m' h).1;obtain⟨n1,a1,d',b1,c1,e1,g1⟩:=afb hf ho p _ m m1 h1 (λ q hq=>hn q (hm.1 q hq)) (λ q hq=>hc q (hm.2 q hq));have⟨n2,a2,es,b2,c2⟩:=NK hf ho r m1 m' h hn hc;refine⟨n1++n2,by grind,(t,d')::es,λae=>by simp[xM,b1,b2],λq hq=>?_⟩
  grind
theorem abu{D:Φ}(f:Nat->Nat):∀rows:U (List Tree),ip D f (aI rows) (aI rows)
 |[]=>trivial
 |r::rs=>by
  refine⟨?_,abu f rs⟩
  induction r with
  |nil=>trivial
  |cons y ys ih=>exact⟨⟨by simp[refs],lO.refl _⟩,ih⟩
theorem abv{a b c d:CT X.ι}{l:U (CT.T X.toSE a×CT.T X.toSE b)}{l':U (CT.T X.toSE c×CT.T X.toSE d)}(h:lV (.mp a b) (.mp c d) l=some l'):bP (.map c d l':bz X)=bP (.map a b l):=by
 obtain⟨e,h⟩:=tC h
 grind
theorem abw{D:Φ}(f:Nat->Nat){kc vc:CT X.ι}:∀l:U (CT.T X.toSE kc×CT.T X.toSE vc),ip D f (bP (.map kc vc l:bz X)).rows (bP (.map kc vc l:bz X)).rows
 |[]=>trivial
 |p::ps=>⟨⟨⟨by simp[AZ],by rw[Xr];exact lO.refl _⟩,⟨by simp[AZ],by rw[Xr];exact lO.refl _⟩,trivial⟩,abw f ps⟩
theorem Ba(hf:∀q∈NM,f q.1=q.2)(ho:∀q∈NM,∀c l,get q.1=some (.ek c l)->dE q.2=l.length):∀(os:U (Nat×OP X.ι))(m m':MA X),Dj get os m=some m'->(∀ q∈m'.nm,q∈NM)->(∀ c∈m'.j8,c=true)->
 ∃al,m'.eK=m.eK++al/\∃xs,(∀ ae,cO dE os (al++ae)=xs)/\(∀ p∈xs,p.1∈os.map (·.1)/\∃k' o o',p.2=some o'/\(k',p.1)∈NM/\get k'=some o/\(bP o').sz=(bP o).sz/\ip (DN NM) f (bP o).rows (bP o').rows/\(∀ j∈ee o',SN NM j))
 |[],m,m',h,_,_=>by simp[Dj]at h;subst h;exact⟨[],by simp,[],λae=>rfl,by simp⟩
 |(k,op)::r,m,m',h,hn,hc=>by simp[Dj]at h;rw[ah]at h;obtain⟨o,h1,h⟩:=h;split at h;rename_i c c' l;rw[ah]at h;obtain⟨l',h2,h⟩:=h;have hm:=(mY r _ m' h).1;obtain⟨n2,a2,xs,b2,c2⟩:=Ba hf ho r _ m' h hn hc;refine⟨[⟨.sl c,l'⟩]++n2,by rw[a2,(fM _ _ _).1,aV],(k,some (.ek c l'))::xs,λae=>by simp[cO,b2],λq hq=>?_⟩;rcases aL.1 hq with rfl|hq;refine⟨by simp,_,_,_,rfl,hn _ (hm.1 _ (oQ _ _ _)),h1,?_,?_,by simp[ee]⟩;simp[bP,(jN h2).1];simp[bP,(jN h2).2];exact abu f _;have⟨i1,i2⟩:=c2 q hq;exact⟨by simp only[bK,aL];exact .inr i1,i2⟩;rename_i kc vc vm vh l;rw[ah]at h;obtain⟨l',h2,h⟩:=h;have hm:=(mY r _ m' h).1;obtain⟨n2,a2,xs,b2,c2⟩:=Ba hf ho r _ m' h hn hc;refine⟨[⟨.mp kc vc,l'⟩]++n2,by rw[a2,(fM _ _ _).1,aV],(k,some (.map kc vc l'))::xs,λae=>by simp[cO,b2],λq hq=>?_⟩;rcases aL.1 hq with rfl|hq;refine⟨by simp,_,_,_,rfl,hn _ (hm.1 _ (oQ _ _ _)),h1,?_,?_,by simp[ee]⟩;rw[abv h2];rw[abv h2];exact abw f _;have⟨i1,i2⟩:=c2 q hq;exact⟨by simp only[bK,aL];exact .inr i1,i2⟩;rename_i sz rows sz' rows';split at h;rename_i hsz;have⟨m1,h2,h⟩:=ah.1 h;have hm1:=(zD rows _ _ m1 h2).1;have hm:=(mY r _ m' h).1;obtain⟨n1,a1,qs,b1,c1,e1,g1⟩:=Tq hf ho rows _ _ m1 h2 (λ q hq=>hn q (hm.1 q hq)) (λ q hq=>hc q (hm.2 q hq));obtain⟨n2,a2,xs,b2,c2⟩:=Ba hf ho r _ m' h hn hc;refine⟨n1++n2,by rw[a2,a1,(fM _ _ _).1,aV],(k,some (.cells sz qs))::xs,λae=>by simp[cO,b1,b2],λq hq=>?_⟩;rcases aL.1 hq with rfl|hq;exact⟨by simp,_,_,_,rfl,hn _ (hm.1 _ (hm1.1 _ (oQ _ _ _))),h1,hsz,c1,g1⟩;have⟨i1,i2⟩:=c2 q hq;exact⟨by simp only[bK,aL];exact .inr i1,i2⟩;cases h;cases h
theorem akU{d:DV X}(h:isU d=false)(h':d=.undef):False:=by subst h';cases h
theorem ac3{A:Type}{b:Bool}{sh:Sh X.ι}{ds:U Nat}{s0 s':cM X}{k:VT (X:=X) sh.vars->J A}{r:A}(hl0:Low s0)(hx:Ext (· ∈ds) s0 s')(h:WP b sh ds s0 s' k=some r):
 ∃v,k v=some r/\Low (encS sh s0 v)/\Ext (· ∈ds) s0 (encS sh s0 v)/\∀(P:Program) (w0:World) (O0:iu) (N:Nat) (β:Nat->J cH) (I:Nat->Prop) (a:Act) (w:World),(b=true\/∀j,O0.anc j=none)->Rel P w0 O0 N β I s'.st a w->∃ β',Rel P w0 O0 N β' I (encS sh s0 v).st a w:=by
 unfold WP at h;have⟨m1,h1,h⟩:=ah.1 h;have⟨m,h2,h⟩:=ah.1 h;have⟨h3,h⟩:=eu h;have⟨v,h4,h⟩:=ah.1 h;have⟨h5,h6⟩:=qN h;simp only[okS,aX,bq]at h3;obtain⟨⟨⟨⟨⟨⟨⟨⟨n1,n2⟩,n3⟩,n4⟩,n5⟩,n6⟩,n7⟩,n8⟩,n9⟩:=h3;have hm2:=(mY _ _ _ h2).1;have xr:=Xh h4;obtain⟨_,nA,dA,lA⟩:=IJ _ _ _ h1;simp at dA;have arJ:=(List.nodup_append.1 n1).1;have arI:=(List.nodup_append.1 n2).1;have hsw:((m.nm.map λq=>(q.2,q.1)).map (·.1)).Nodup:=by rw[map_map];exact arI
 generalize hf':(λ j=>match lk m.nm j with|some q=>q|none=>j:Nat->Nat)=f;generalize hg':(λ j=>match lk (m.nm.map λq=>(q.2,q.1)) j with|some q=>q|none=>j:Nat->Nat)=g;have hf:∀q∈m.nm,f q.1=q.2:=by rintro⟨p,q⟩ hq;rw[<- hf'];simp[vP arJ hq]
 have hg:∀q∈m.nm,g q.2=q.1:=by rintro⟨p,q⟩ hq;rw[<- hg'];have:(q,p)∈m.nm.map λq=>(q.2,q.1):=mem_map.2 ⟨(p,q),hq,rfl⟩;simp[vP hsw this]
 have pd:∀j∈sh.dc,f j=j:=by intro j hj;rw[<- hf'];rcases hh:lk m.nm j with _|q;simp[hh];exact((List.nodup_append.1 n1).2.2 j (mem_map.2 ⟨(j,q),rD hh,rfl⟩) j hj rfl).elim
 have MY:∀j∈sh.dc,g j=j:=by intro j hj;rw[<- hg'];rcases hh:lk (m.nm.map λq=>(q.2,q.1)) j with _|q;simp[hh];have h1:=rD hh;simp only[mem_map]at h1;obtain⟨z,hz,e⟩:=h1;injection e with e1 e2;exact((List.nodup_append.1 n2).2.2 j (mem_map.2 ⟨z,hz,e1⟩) j hj rfl).elim
 have hg0:b=true->∀j,j<1000->g j=j:=by intro hb j hj;rw[<- hg'];rcases hh:lk (m.nm.map λq=>(q.2,q.1)) j with _|q;simp[hh];have h1:=rD hh;simp only[mem_map]at h1;obtain⟨z,hz,e⟩:=h1;injection e with e1 e2;have:=all_eq_true.1 n4 z hz;simp[hb]at this;simp[hh];omega
 have hgf:∀j,(DN m.nm j\/j∈sh.dc)->g (f j)=j:=by rintro j (⟨q,hq⟩|hj);rw[hf _ hq];exact hg _ hq;rw[pd j hj];exact MY j hj
 obtain⟨nB,dB,lB⟩:=EP (NM:=m.nm) _ _ _ h2 (λ q hq=>hq);have hL:m.eK=nA++nB:=by rw[dB,dA]
 have hdrop:(wU sh.vars v).drop (i6 sh.slots).length=nB:=by rw[xr,hL,<- lA,List.drop_left]
 have htake:(wU sh.vars v).take (i6 sh.slots).length=nA:=by rw[xr,hL,<- lA,List.take_left]
 generalize hol:(λ k=>(lk (lens sh.cD nB) k).getD 0:Nat->Nat)=dE;have ho:∀q∈m.nm,∀c l,gd s'.obj q.1=some (.ek c l)->dE q.2=l.length:=by
  rintro⟨p,q⟩ hq c l hl;have hqk:=all_eq_true.1 n4 _ hq;simp at hqk;obtain⟨p',o,g1,g2,g3⟩:=lB [] q (by simpa using hqk.1.1);have:p'=p:=by have e1:=hg _ g1;have e2:=hg _ hq;simp at e1 e2;rw[<- e1,e2]
  subst this;simp at hl;rw[hl]at g2;injection g2 with g2;have h3:=g3 c l g2.symm;rw[append_nil]at h3;rw[<- hol];have hk:=(QO sh.cD nB).nodup n3;simp[vP hk h3]
 obtain⟨nA',Pc,es,eA,pA⟩:=NK (NM:=m.nm) (f:=f) (dE:=dE) hf ho _ _ _ h1 (λ q hq=>hm2.1 q hq) (λ c hc=>h5 c (hm2.2 c hc));obtain⟨nB',dB',xs,eB,pB⟩:=Ba (NM:=m.nm) (f:=f) (dE:=dE) hf ho _ _ _ h2 (λ q hq=>hq) h5;have eqA:nA'=nA:=by simp at Pc;rw[<- Pc,dA]
 have eqB:=List.append_cancel_left (dB'.symm.trans dB);subst eqA eqB;have O2:=eA [];have OS:=eB [];rw[append_nil]at O2 OS;have hS:encS sh s0 v=⟨es++sh.keep.map (λ t=>(t,ea s0.env t)),xs++sh.dc.map (λ k=>(k,gd s0.obj k)),sh.nx,(List.range s0.nx).filter (λ k=>!sh.dc.contains k)++s0.log⟩:=by simp[encS,hdrop,htake,hol,O2,OS]
 have hsn:∀j,SN m.nm j->j<sh.nx:=by rintro j ⟨p,hp⟩;have:=all_eq_true.1 n4 _ hp;simp[aX,bq]at this;exact this.1.2
 have kp:∀j,(sh.dc.contains j || m.nm.contains (j,j))=true->j∈sh.dc\/(j,j)∈m.nm:=by intro j hj;simpa using hj
 have hfp:∀j,j∈sh.dc\/(j,j)∈m.nm->f j=j:=λj hj=>hj.elim (pd j) (λ h=>hf (j,j) h);have hdp:∀j,j∈sh.dc\/(j,j)∈m.nm->DN m.nm j\/j∈sh.dc:=λj hj=>hj.elim .inr (λ h=>.inl ⟨j,h⟩);have hko:∀j∈sh.dc,j<s0.nx/\(∃ o,gd s0.obj j=some o/\gd s'.obj j=some o/\∀i∈ee o,i∈sh.dc\/(i,i)∈m.nm):=by
  intro j hj;have:=all_eq_true.1 n7 _ hj;simp only[aX,bq,Bool.not_eq_true']at this;obtain⟨⟨⟨a1,a2⟩,a3⟩,a4⟩:=this;refine⟨a1,?_⟩;rcases ho0:gd s0.obj j with _|o;rw[ho0]at a4;cases a4;rw[ho0]at a4;refine⟨o,rfl,?_,λi hi=>kp i (all_eq_true.1 a4 i hi)⟩;obtain⟨d,hd,hd2⟩:=hx.obj;have hnd:j∉d:=by have e:s'.log.take (s'.log.length-s0.log.length)=d:=(by rw[hd,dZ,Nat.add_sub_cancel,List.take_left]);rw[e]at a2;simpa using a2
  rcases hd2 j a1 hnd with h|h;rw[h,ho0];rw[h]at a3;cases a3
 have hke:∀t∈sh.keep,t∉ds/\ea s'.env t=ea s0.env t/\∀j∈bx (ea s0.env t),j∈sh.dc\/(j,j)∈m.nm:=by
  intro t ht;have:=all_eq_true.1 n6 _ ht;simp only[aX,Bool.not_eq_true']at this;obtain⟨⟨a1,a2⟩,a3⟩:=this;have a1':t∉ds:=by simpa using a1
  refine⟨a1',?_,λj hj=>kp j (all_eq_true.1 a3 j hj)⟩;rcases hx.env t a1' with h|h;exact h;exact(akU a2 h).elim
 have hks:∀q∈es,q.1∈ds:=by intro q hq;have h1:=(pA q hq).1;obtain⟨z,hz,e⟩:=mem_map.1 h1;have:=all_eq_true.1 n5 _ hz;rw[<- e];simpa using this
 have hkeep:∀t,lk (sh.keep.map λt=>(t,ea s0.env t)) t=if t∈sh.keep then some (ea s0.env t)else none:=by
  intro t
  induction sh.keep with
  |nil=>simp[lk]
  |cons q qs ih=>
   simp[bK,lk,ih,aL];by_cases e:q=t;subst e;simp;rw[aT e];simp[Ne.symm e]
 have Ek:∀t,lk (sh.dc.map λt=>(t,gd s0.obj t)) t=if t∈sh.dc then some (gd s0.obj t)else none:=by
  intro t
  induction sh.dc with
  |nil=>simp[lk]
  |cons q qs ih=>
   simp[bK,lk,ih,aL];by_cases e:q=t;subst e;simp;rw[aT e];simp[Ne.symm e]
 have sR:∀t,(∃ d,(t,d)∈es/\ea (encS sh s0 v).env t=d)\/(t∈sh.keep/\ea (encS sh s0 v).env t=ea s0.env t)\/ea (encS sh s0 v).env t=.undef:=by
  intro t;have e1:ea (encS sh s0 v).env t=(match lk es t with|some d=>some d|none=>if t∈sh.keep then some (ea s0.env t)else none).getD .undef:=by rw[hS];show(lk (es++sh.keep.map (λ t=>(t,ea s0.env t))) t).getD .undef=_;rw[Dn,hkeep t];cases lk es t<;>rfl
  rw[e1];cases he:lk es t with
  |some d=>exact .inl ⟨d,rD he,rfl⟩
  |none=>
   by_cases ht:t∈sh.keep;simp only[aY ht];exact .inr (.inl ⟨ht,rfl⟩);simp only[aT ht];exact .inr (.inr rfl)
 have i9:∀j o,gd (encS sh s0 v).obj j=some o->(∃ k' o1,(k',j)∈m.nm/\gd s'.obj k'=some o1/\(bP o).sz=(bP o1).sz/\ip (DN m.nm) f (bP o1).rows (bP o).rows/\(∀ i∈ee o,SN m.nm i))\/(j∈sh.dc/\gd s0.obj j=some o):=by
  intro j o hjo;have e1:gd (encS sh s0 v).obj j=(match lk xs j with|some d=>some d|none=>if j∈sh.dc then some (gd s0.obj j)else none).join:=by rw[hS];show(lk (xs++sh.dc.map (λ k=>(k,gd s0.obj k))) j).join=_;rw[Dn,Ek j];cases lk xs j<;>rfl
  rw[e1]at hjo;cases he:lk xs j with
  |some x=>
   rw[he]at hjo;obtain⟨_,k',o1,o',b1,b2,b3,b4,b5,b6⟩:=pB _ (rD he);simp at b1 b2 hjo;subst b1;simp[Option.join_some,bV]at hjo;subst hjo;exact .inl ⟨k',o1,b2,b3,b4,b5,b6⟩
  |none=>
   rw[he]at hjo;by_cases hj:j∈sh.dc;simp[aY hj,Option.join_some]at hjo;exact .inr ⟨hj,hjo⟩;simp[aT hj]at hjo
 have hnx:=n8;have hkx:∀j,j∈sh.dc\/(j,j)∈m.nm->j<sh.nx:=λj hj=>hj.elim (λ hj=>Nat.lt_of_lt_of_le (hko j hj).1 hnx) (λ h=>hsn j ⟨j,h⟩);have hRW:∀{r q:U AV},oe (DN m.nm) f r q->oe (λ j=>DN m.nm j\/j∈sh.dc) f r q:=by
  intro r
  induction r with
  |nil=>intro q h;cases q with
   |nil=>trivial
   |cons=>exact h.elim
  |cons x xs ih=>intro q h;cases q with
   |nil=>exact h.elim
   |cons y ys=>exact⟨⟨λ k hk=>.inl (h.1.1 k hk),h.1.2⟩,ih h.2⟩
 have arV:∀{r q:U (List AV)},ip (DN m.nm) f r q->ip (λ j=>DN m.nm j\/j∈sh.dc) f r q:=by
  intro r
  induction r with
  |nil=>intro q h;cases q with
   |nil=>trivial
   |cons=>exact h.elim
  |cons x xs ih=>intro q h;cases q with
   |nil=>exact h.elim
   |cons y ys=>exact⟨hRW h.1,ih h.2⟩
 refine⟨v,h6,?_,?_,?_⟩;constructor;rw[hS];exact n9;rw[hS];exact Nat.le_trans hl0.ge n8;intro t j hj;have DQ:(encS sh s0 v).nx=sh.nx:=by rw[hS]
 rw[DQ];rcases sR t with ⟨d,h1,h2⟩|⟨h1,h2⟩|h2;rw[h2]at hj;exact hsn j ((pA _ h1).2.2.2 j hj);rw[h2]at hj;exact hkx j ((hke t h1).2.2 j hj);rw[h2]at hj;simp[bx]at hj;intro j o hjo;have DQ:(encS sh s0 v).nx=sh.nx:=by rw[hS]
 rw[DQ];rcases i9 j o hjo with ⟨k',o1,b1,b2,b3,b4,b5⟩|⟨b1,b2⟩;exact⟨hsn j ⟨k',b1⟩,λi hi=>hsn i (b5 i hi)⟩;have⟨c1,o',c2,c3,c4⟩:=hko j b1;rw[b2]at c2;cases c2;exact⟨hkx j (.inl b1),λi hi=>hkx i (c4 i hi)⟩;refine⟨λ t ht=>?_,⟨(List.range s0.nx).filter (λ k=>!sh.dc.contains k),by rw[hS],λj hj hn=>?_⟩,hS ▸ hnx⟩;rcases sR t with ⟨d,h1,h2⟩|⟨h1,h2⟩|h2;exact(ht (hks _ h1)).elim;exact .inl h2;exact .inr h2;have hjk:j∈sh.dc:=by simpa[hj]using hn
 cases hjo:gd (encS sh s0 v).obj j with
 |none=>exact .inr rfl
 |some o=>
  rcases i9 j o hjo with ⟨k',o1,b1,_⟩|⟨b1,b2⟩;exact((List.nodup_append.1 n2).2.2 j (mem_map.2 ⟨(k',j),b1,rfl⟩) j hjk rfl).elim;exact .inl b2.symm
 intro P w0 O0 N β I a w lz hr;refine⟨_,Rel.re0 (f:=f) (g:=g) (D:=λj=>DN m.nm j\/j∈sh.dc) hgf (λ j B hj=>lz.elim (λ hb=>hg0 hb j (O0.lt j B hj)) λh=>by rw[h j]at hj;cases hj) hr (λ _=>.inl rfl) (λ _=>rfl) (λ t=>?_) (λ j o' hj=>?_)⟩;show den (ea (encS sh s0 v).env t)=.undef\/((∀ k∈refs (den (ea s'.env t)),_)/\lO (kx f (den (ea s'.env t))) (den (ea (encS sh s0 v).env t)));rcases sR t with ⟨d,h1,h2⟩|⟨h1,h2⟩|h2;right;rw[h2];obtain⟨_,b1,b2,_⟩:=pA _ h1;exact⟨λ k hk=>.inl (b2 k (by rwa [ja]at hk)),b1⟩;right;have⟨_,b1,b2⟩:=hke t h1;rw[h2,b1];refine⟨λ k hk=>hdp k (b2 k (by rwa [ja]at hk)),?_⟩;rw[<- A8,XF _ (λ k hk=>hfp k (b2 k hk))];exact lO.refl _;left;rw[h2];rfl;simp[cM.st,iE]at hj;obtain⟨o,hjo,rfl⟩:=hj;rcases i9 j o hjo with ⟨k',o1,b1,b2,b3,b4,b5⟩|⟨b1,b2⟩;exact⟨k',bP o1,by simp[cM.st,b2],.inl ⟨j,b1⟩,hf _ b1,b3,arV b4⟩;have⟨c1,o',c2,c3,c4⟩:=hko j b1;rw[b2]at c2;cases c2;have hid:qt f o=o:=by
  cases o with
  |ek c l=>rfl
  |map kc vc l=>rfl
  |cells sz rows=>
   simp[qt];congr 1;have:=λq hq=>EO q λi hi=>hfp i (c4 i (by simp[ee,List.mem_flatten,mem_map];exact⟨_,⟨q,hq,rfl⟩,hi⟩));rw[List.map_congr_left this];simp
 obtain⟨r1,r2⟩:=Kh (D:=λj=>DN m.nm j\/j∈sh.dc) f o (λ i hi=>hdp i (c4 i hi));rw[hid]at r1 r2;exact⟨j,bP o,by simp[cM.st,c3],.inr b1,pd j b1,r1,r2⟩
theorem Ext.trans{ds:Φ}{a b c:cM X}(h:Ext ds a b)(h':Ext ds b c):Ext ds a c:=by
 refine⟨λ t ht=>?_,?_,Nat.le_trans h.nx h'.nx⟩;rcases h'.env t ht with h1|h1;rcases h.env t ht with h2|h2;exact .inl (h1.trans h2);exact .inr (h1.trans h2);exact .inr h1;obtain⟨d,h1,h2⟩:=h.obj;obtain⟨d',h3,h4⟩:=h'.obj;refine⟨d'++d,by grind,λk hk hn=>?_⟩;simp at hn;rcases h4 k (Nat.lt_of_lt_of_le hk h.nx) hn.1 with h5|h5;rcases h2 k hk hn.2 with h6|h6;exact .inl (h5.trans h6);exact .inr (h5.trans h6)
 grind
theorem Ext.refl(ds:Φ)(s:cM X):Ext ds s s:=⟨λ _ _=>.inl rfl,⟨[],by simp,λ_ _ _=>.inl rfl⟩,aB _⟩
def Says(s s':cM X):Prop:=∀(P:Program) (w0:World) (O0:iu) (N:Nat) (β:Nat->J cH) (I:Nat->Prop) (a:Act) (w:World),Rel P w0 O0 N β I s.st a w->∃ β',Rel P w0 O0 N β' I s'.st a w
theorem Low.room{s:cM X}{P:Ξ}{w0:Δ}{O0:iu}{N:Nat}{β:ζ}{I:Φ}{a:Act}{w:Δ}(hl:Low s)(hr:Rel P w0 O0 N β I s.st a w):∃ β2,β2 s.nx=none/\Rel P w0 O0 N β2 I s.st a w:=by
 have hr1:=hr.restrict hl.old
 have hr2:=Rel.re (f:=id) (g:=λj=>if j<s.nx then j else 1000000) (D:=(· <s.nx)) (s':=s.st) (λ k hk=>aY hk) (λ j hj=>aY (by have:=hl.ge;omega)) hr1 (λ _=>.inl rfl) (λ _=>rfl)
  (λ q=>.inr ⟨λ k hk=>hl.env q k (by rw[<- ja];exact hk),by show lO (kx id (den (ea s.env q))) (den (ea s.env q));rw[<- A8,XF (f:=id) _ (λ _ _=>rfl)];exact lO.refl _⟩)
  (λ j o' hj=>by
   simp[cM.st]at hj;obtain⟨x,hx,rfl⟩:=hj;have⟨h1,h2⟩:=hl.obj j x hx;have⟨r1,r2⟩:=Kh (D:=(· <s.nx)) id x h2;have hid:qt id x=x:=by
    cases x with
    |ek c l|map kc vc l=>rfl
    |cells sz rows=>
     simp[qt];have:∀q∈rows,LV id q=q:=λq _=>EO (f:=id) q λ_ _=>rfl;rw[List.map_congr_left this];simp
   rw[hid]at r1 r2;exact⟨j,bP x,by simp[cM.st,hx],h1,rfl,r1,r2⟩)
 grind
theorem aot(z:Bool)(k:Nat):bx (nz (X:=X) z k)=[k]:=by cases z<;>rfl
theorem XH{ds:U Nat}{z:Bool}{s:cM X}{t:Nat}{c:CT X.ι}(hl:Low s)(ht:t∈ds):Low (CC z s t c)/\Ext (· ∈ds) s (CC z s t c)/\Says s (CC z s t c):=by
 unfold CC;split;rename_i hn;split;have he:∀q,ea ((t,nz z s.nx)::s.env) q=if t=q then nz z s.nx else ea s.env q:=λq=>by
  grind [ea,lk]
 have hO:∀q,gd ((s.nx,some (.ek c []))::s.obj) q=if s.nx=q then some (.ek c [])else gd s.obj q:=λq=>by
  grind [gd,lk]
 refine⟨⟨by show s.nx+1<=1000000;omega,by have:=hl.ge;show 1000<=s.nx+1;omega,λq k hk=>?_,λk o ho=>?_⟩,⟨λ q hq=>?_,⟨[s.nx],rfl,λk hk hnk=>?_⟩,by show s.nx<=s.nx+1;omega⟩,λP w0 O0 N β I a w hr=>?_⟩;rw[he]at hk;split at hk;simp[aot]at hk;subst hk;show s.nx<s.nx+1;omega;have:=hl.env q k hk;show k<s.nx+1;omega;rw[hO]at ho;split at ho;rename_i e;cases ho;subst e;exact⟨by show s.nx<s.nx+1;omega,by simp[ee]⟩;have⟨h1,h2⟩:=hl.obj k o ho;exact⟨by show k<s.nx+1;omega,λj hj=>by have:=h2 j hj;show j<s.nx+1;omega⟩;left;rw[he,aT];intro e;subst e;exact hq ht;left;rw[hO,aT (by omega)];have⟨β2,HB,hr2⟩:=hl.room hr;have⟨hS,hM⟩:=Mem.p0 (i:=s.nx) (o:=bP (.ek c []:bz X)) hr2.mem HB rfl;refine⟨ins β2 s.nx .none,hr2.defers,hr2.size,λq=>?_,?_⟩;have h1:=hr2.env q;show dg P _ w I (den (ea ((t,nz z s.nx)::s.env) q)) none _;rw[he];by_cases e:t=q;subst e;rw[aY rfl];have h2:VR P _ w I (den (ea s.env t)) (a.tmps.getD t undef):=h1;rw[hn]at h2;rcases z with _|_;simp only[dg,nz,au,den,VR];exact .inl ⟨by simp[ins],h2,trivial,trivial⟩;simp only[dg,nz,aj,den,VR];exact .inl ⟨trivial,h2⟩;rw[aT e];exact dg.mono hS.ext hS.same hS.inc h1;have e:(λ k=>(gd ((s.nx,some (.ek c []))::s.obj) k).map bP)=cu s.st.obj [(s.nx,some (bP (.ek c []:bz X)))]:=by funext q;simp[cu,cM.st];rw[hO];by_cases e:s.nx=q;simp[e];rw[aT e,aT (Ne.symm e)]
 show Mem P w0 O0 _ I (λ k=>(gd ((s.nx,some (.ek c []))::s.obj) k).map bP) w;rw[e];exact hM;exact⟨hl,Ext.refl _ s,λ_ _ _ _ β _ _ _ h=>⟨β,h⟩⟩;exact⟨hl,Ext.refl _ s,λ_ _ _ _ β _ _ _ h=>⟨β,h⟩⟩
theorem XI(y:DV X):∀(l:U (DV X))(j i:Nat),i∈aP (l.set j y)->i∈aP l\/i∈bx y
 |[],_,_,h=>.inl (by grind)
 |x::l,0,i,h=>by
  grind [aP]
 |x::l,j+1,i,h=>by
  simp[aP]at h ⊢;rcases h with h|h;exact .inl (.inl h);rcases XI y l j i h with h|h;exact .inl (.inr h)
  grind
theorem bp.set{P:Ξ}{β:ζ}{w:Δ}{I:Φ}{y:AV}:∀(xs:U AV)(vs:U Value)(j:Nat),(∀ x v,xs[j]? =some x->VR P β w I x v->VR P β w I y v)->bp P β w I xs vs->bp P β w I (xs.set j y) vs
 |[],vs,_,_,h=>by grind
 |x::xs,[],_,_,h=>by trivial
 |x::xs,v::vs,0,hy,h=>⟨hy x v rfl h.1,h.2⟩
 |x::xs,v::vs,j+1,hy,h=>⟨h.1,bp.set xs vs j (λ x v e=>hy x v (by grind)) h.2⟩
theorem OR.set1{P:Ξ}{β:ζ}{w:Δ}{I:Φ}{sz:Nat}{row:U AV}{j:Nat}{y:AV}{B:cH}(hy:∀x v,row[j]? =some x->VR P β w I x v->VR P β w I y v)(h:OR P β w I ⟨sz,[row]⟩ B):OR P β w I ⟨sz,[row.set j y]⟩ B:=by
 cases B with
 |none=>trivial
 | «at» b s n=>
  obtain⟨h1,c,e,h2,h3,h4⟩:=h;refine⟨h1,c,e,h2,h3,?_⟩;simp only[cd,List.length_set]at h4 ⊢;refine⟨h4.1,?_,trivial⟩;rw[jZ]at h4 ⊢;intro i x hx;rw[List.getElem?_set]at hx;split at hx;rename_i e;subst e;split at hx;cases hx;rename_i hlt;obtain⟨v,g1,g2,g3⟩:=h4.2.1 j _ (dP hlt);exact⟨v,g1,hy _ v (dP hlt) g2,g3⟩;cases hx
  grind
 |mp b=>
  obtain⟨es,cl,h1,hle,h2,h3⟩:=h;refine⟨es,cl,h1,hle,λe=>?_,h3⟩;have:=h2 e
  match hes:es.toList,this with
  |[e1],this=>exact⟨bp.set _ _ j hy this.1,trivial⟩
  |[],this|_::_::_,this=>grind [cI]
theorem afc(y:DV X):∀(l:U (DV X))(j:Nat),bL (l.set j y)=(bL l).set j (den y)
 |[],_|x::l,0=>by rfl
 |x::l,j+1=>by simp[bL,afc y l j]
theorem ahT{ds:U Nat}{s:cM X}{q j:Nat}{c:CT X.ι}(hl:Low s):Low (HT s q j c)/\Ext (· ∈ds) s (HT s q j c)/\Says s (HT s q j c):=by
 unfold HT;split;rename_i sz row hq;split;rename_i hn;split;have hqn:=(hl.obj q _ hq).1;have hrefs:=λk hk=>(hl.obj q _ hq).2 k (by simpa[ee]using hk);have hO:∀k,gd ((q,some (.cells sz [row.set j (.own s.nx 0 0)]))::(s.nx,some (.ek c []))::s.obj) k=if q=k then some (.cells sz [row.set j (.own s.nx 0 0)])else if s.nx=k then some (.ek c [])else gd s.obj k:=λk=>by
  grind [gd,lk]
 refine⟨⟨by grind,by have:=hl.ge;show 1000<=s.nx+1;omega,λk i hk=>by have:=hl.env k i hk;show i<s.nx+1;omega,λk o ho=>?_⟩,⟨λ _ _=>.inl rfl,⟨[q,s.nx],rfl,λk hk hnk=>?_⟩,by show s.nx<=s.nx+1;omega⟩,λP w0 O0 N β I a w hr=>?_⟩;rw[hO]at ho;split at ho;rename_i e;cases ho;subst e;refine⟨by show q<s.nx+1;omega,λi hi=>?_⟩;show i<s.nx+1;simp[ee]at hi;rcases XI _ _ _ _ hi with h1|h1;have:=hrefs i h1;omega;simp[bx]at h1;omega;split at ho;rename_i e;cases ho;subst e;exact⟨by show s.nx<s.nx+1;omega,by simp[ee]⟩;have⟨h1,h2⟩:=hl.obj k o ho;exact⟨by show k<s.nx+1;omega,λi hi=>by have:=h2 i hi;show i<s.nx+1;omega⟩;left;simp at hnk;rw[hO,aT (Ne.symm hnk.1),aT (Ne.symm hnk.2)];have⟨β2,HB,hr2⟩:=hl.room hr;have⟨hS,hM⟩:=Mem.p0 (i:=s.nx) (o:=bP (.ek c []:bz X)) hr2.mem HB rfl;refine⟨ins β2 s.nx .none,hr2.defers,hr2.size,λk=>dg.mono hS.ext hS.same hS.inc (hr2.env k),?_⟩;refine hM.weak λk o' ho=>?_;simp only[cM.st]at ho;rw[hO]at ho;by_cases e:q=k;subst e;rw[aY rfl]at ho;cases ho;refine⟨bP (.cells sz [row]),by simp[cu];rw[aT (by omega)];simp[cM.st,hq],λB _ hB=>?_⟩;simp[bP,afc]at hB ⊢;refine OR.set1 (λ x v hx hv=>?_) hB;rw[oP,List.getElem?_map,hn]at hx;cases hx;simpa only[den,VR]using .inl ⟨by simp[ins],hv,trivial,trivial⟩;rw[aT e]at ho;refine⟨o',?_,λ_ _ h=>h⟩;simp[cu];by_cases e':s.nx=k;subst e';simpa using ho;rw[aT e']at ho;rw[aT (Ne.symm e')];exact ho;exact⟨hl,Ext.refl _ s,λ_ _ _ _ β _ _ _ h=>⟨β,h⟩⟩;exact⟨hl,Ext.refl _ s,λ_ _ _ _ β _ _ _ h=>⟨β,h⟩⟩;exact⟨hl,Ext.refl _ s,λ_ _ _ _ β _ _ _ h=>⟨β,h⟩⟩
theorem NN{ds:U Nat}:∀(l:U (Nat×CT X.ι)){s:cM X},Low s->(∀ p∈l,(bif Nat.ble 1000000 p.1 then !Nat.ble 1099511627776 p.1 || ds.contains (p.1-1099511627776)else ds.contains p.1)=true)->Low (QN l s)/\Ext (· ∈ds) s (QN l s)/\Says s (QN l s)
 |[],s,hl,_=>⟨hl,Ext.refl _ s,λ_ _ _ _ β _ _ _ h=>⟨β,h⟩⟩
 |(t,c)::r,s,hl,hd=>by
  generalize hs:(bif Nat.ble 1000000 t then bif Nat.ble 1099511627776 t then CC true s (t-1099511627776) c else HT s ((t-1000000)/4096) ((t-1000000)%4096) c else CC false s t c)=s1;have h0:Low s1/\Ext (· ∈ds) s s1/\Says s s1:=by
   have hd0:=hd (t,c) (by simp);subst hs;cases hb:Nat.ble 1000000 t with
   |true=>
    rw[hb]at hd0;cases hb2:Nat.ble 1099511627776 t with
    |true=>rw[hb2]at hd0;exact XH hl (by grind)
    |false=>exact ahT hl
   |false=>rw[hb]at hd0;exact XH hl (by grind)
  obtain⟨h1,h2,h3⟩:=h0;simp[QN,hs];obtain⟨g1,g2,g3⟩:=NN r h1 (λ p hp=>hd p (by grind));refine⟨g1,h2.trans g2,λP w0 O0 N β I a w hr=>?_⟩;have⟨β',hr'⟩:=h3 P w0 O0 N β I a w hr;exact g3 P w0 O0 N β' I a w hr'
theorem NP{A:Type}{b:Bool}{sh:Sh X.ι}{ds:U Nat}{s0 s':cM X}{k:VT (X:=X) sh.vars->J A}{r:A}(hl0:Low s0)(hl':Low s')(hx:Ext (· ∈ds) s0 s')(h:ahS b sh ds s0 s' k=some r):
 ∃v,k v=some r/\Low (encS sh s0 v)/\Ext (· ∈ds) s0 (encS sh s0 v)/\∀(P:Program) (w0:World) (O0:iu) (N:Nat) (β:Nat->J cH) (I:Nat->Prop) (a:Act) (w:World),(b=true\/∀j,O0.anc j=none)->Rel P w0 O0 N β I s'.st a w->∃ β',Rel P w0 O0 N β' I (encS sh s0 v).st a w:=by have⟨h1,h2⟩:=eu h;obtain⟨g1,g2,g3⟩:=NN (ds:=ds) sh.Do hl' (λ p hp=>all_eq_true.1 h1 p hp);have⟨v,i1,i2,i3,i4⟩:=ac3 hl0 (hx.trans g2) h2;refine⟨v,i1,i2,i3,λP w0 O0 N β I a w lz hr=>?_⟩;have⟨β',hr'⟩:=g3 P w0 O0 N β I a w hr;exact i4 P w0 O0 N β' I a w lz hr'
theorem iV{A:Type}{sh:Sh X.ι}{ds:U Nat}{s0 s':cM X}{k:VT (X:=X) sh.vars->J A}{r:A}(hl0:Low s0)(hl':Low s')(hx:Ext (· ∈ds) s0 s')(h:ql sh ds s0 s' k=some r):
 ∃v,k v=some r/\Low (encS sh s0 v)/\Ext (· ∈ds) s0 (encS sh s0 v)/\Says s' (encS sh s0 v):=by have⟨v,i1,i2,i3,i4⟩:=NP hl0 hl' hx h;exact⟨v,i1,i2,i3,λP w0 O0 N β I a w hr=>i4 P w0 O0 N β I a w (.inl rfl) hr⟩
end
def eX:Code->U Nat
 |.region _ ag _=>ag.toList.filterMap (·.dst)
 |.seq a b=>eX a++eX b
 |.cond _ a b=>eX a++eX b
 |.block _ b=>eX b
 |.loop b=>eX b
 |_=>[]
section
variable {X:SX}
section
variable {P:Program} {N:Nat}
def Lm{A:Type}(ds:U Nat)(s:cM X)(k:Exit->cM X->J A)(r:A)(e:Exit)(σ:St):Prop:=∃s',Low s'/\Ext (· ∈ds) s s'/\σ=s'.st/\k e s'=some r
theorem ajI{c:Code}{Q Q':Exit->St->Prop}{σ:St}(h:Ev P N c Q σ)(ht:∀e σ,Q e σ->∀w0 O0 β I a w,Rel P w0 O0 N β I σ a w->∃ β' σ',Rel P w0 O0 N β' I σ' a w/\vf σ'/\Q' e σ'):Ev P N c Q' σ:=by intro L w0 O0 β I a w hr ho;refine wpIn_mono (h L w0 O0 β I a w hr ho) ?_;rintro e a' w' ⟨β',I',σ',h1,_,h3⟩;have⟨β2,σ2,g1,g2,g3⟩:=ht e σ' h3 w0 O0 β' I' a' w' h1;exact⟨β2,I',σ2,g1,g2,g3⟩
end
end
inductive Hn(ι:Type) where
 |z
 |f (l:List Nat)
 |s (a b:Hn ι)
 |b (a:Hn ι)
 |j (sh:Sh ι) (a:Hn ι)
 |jx (sh:Sh ι) (a:Hn ι)
 |l (head:Sh ι) (id:Nat) (out:Sh ι) (a:Hn ι)
 |lx (head:Sh ι) (id:Nat) (out:Sh ι) (a:Hn ι)
 |rg (head:Sh ι) (a:Hn ι)
 |un (a r:Hn ι)
def Hn.fz{ι:Type}:Hn ι->U Nat
 |.f is=>is
 |_=>[]
def Hn.fst{ι:Type}:Hn ι->Hn ι
 |.s a _=>a
 |_=>.z
def Hn.snd{ι:Type}:Hn ι->Hn ι
 |.s _ y=>y
 |_=>.z
def Hn.sub{ι:Type}:Hn ι->Hn ι
 |.b a=>a
 |_=>.z
def iter{V O:Type}(step:V->J (V⊕O)):Nat->V->J O
 | 0,_=>none
 |n+1,v=>(step v).bind λr=>match r with
  |.inl v=>iter step n v
  |.inr o=>some o
def RR{X:SX}{A:Type}(body:Hn X.ι->cM X->(Exit->cM X->J A)->J A):Hn X.ι->cM X->(Exit->cM X->J A)->J A
 |.un a r,s,k=>body a s λe s'=>match e with
  |.normal=>RR body r s' k
  |e=>k e s'
 |_,_,_=>none
def dM{W A:Type}(o:J (W⊕A))(f:W->J A):J A:=o.bind λr=>match r with
 |.inl w=>f w
 |.inr a=>some a
noncomputable def both{A:Type}(x y:J A):J A:=open Classical in if x=y then x else none
theorem akV{A:Type}{x y:J A}{r:A}(h:both x y=some r):x=some r/\y=some r:=by grind [both]
theorem akW{A:Type}(x:J A):both x x=x:=by simp[both]
section
variable {X:SX}
def H4(ds:U Nat)(s:cM X)(h:Hn X.ι){A:Type}(k:Exit->cM X->J A)(body:(B:Type)->Hn X.ι->(Exit->cM X->J B)->J B):J A:=
 match h with
 |.j sh h'=>(body (VT (X:=X) sh.vars) h' λe s'=>match e with
  |.normal=>ql sh ds s s' some
  |_=>none).bind λv=>k .normal (encS sh s v)
 |.jx sh h'=>dM (body (VT (X:=X) sh.vars⊕A) h' λe s'=>match e with
  |.normal=>ql sh ds s s' λv=>some (.inl v)
  |e=>(k e s').map .inr) λv=>k .normal (encS sh s v)
 |h=>body A h k
variable (Γ:FuncId->Option (ci X)) (T:en) (code:TypeId->Option (CT X.ι)) (N n:Nat)
noncomputable def run:Code->(A:Type)->Hn X.ι->cM X->(Exit->cM X->J A)->J A
 |.skip,_,_,s,k=>k .normal s
 |.region id ag d,A,h,s,k=>H4 (eX (.region id ag d)) s h k λ_ h k=>ahR Γ h.fz T code N ag d s (k .normal)
 |.seq x y,A,h,s,k=>H4 (eX (.seq x y)) s h k λB h k=>run x B h.fst s λe s'=>match e with
  |.normal=>run y B h.snd s' k
  |e=>k e s'
 |.cond c x y,A,h,s,k=>H4 (eX (.cond c x y)) s h k λB h k=>match ZX (ea s.env) c with
  |.c .bool v=>bif v then run x B h.fst s k else run y B h.snd s k
  |.ub=>both (run x B h.fst s k) (run y B h.snd s k)
  |_=>none
 |.block id b,A,h,s,k=>H4 (eX (.block id b)) s h k λB h k=>run b B h.sub s λe s'=>match e with
  |.exit j=>if j=id then k .normal s' else k (.exit j) s'
  |e=>k e s'
 |.loop b,A,h,s,k=>match h with
  |.l hd id out h'=>ql hd (eX b) s s λv0=>(iter (λ v=>run b (VT (X:=X) hd.vars⊕VT (X:=X) out.vars) h' (encS hd s v) λe s'=>match e with
   |.normal=>ql hd (eX b) s s' λv=>some (.inl v)
   |.exit j=>if j=id then ql out (eX b) s s' λw=>some (.inr w)else none
   |_=>none) n v0).bind λw=>k (.exit id) (encS out s w)
  |.lx hd id out h'=>ql hd (eX b) s s λv0=>dM (iter (λ v=>run b (VT (X:=X) hd.vars⊕(VT (X:=X) out.vars⊕A)) h' (encS hd s v) λe s'=>match e with
   |.normal=>ql hd (eX b) s s' λv=>some (.inl v)
   |.exit j=>if j=id then ql out (eX b) s s' λw=>some (.inr (.inl w))else(k (.exit j) s').map λa=>.inr (.inr a)
   |e=>(k e s').map λa=>.inr (.inr a)) n v0) λw=>k (.exit id) (encS out s w)
  |.un a r=>RR (λ h s k=>run b A h s k) (.un a r) s k
  |_=>none
 |.exit id,_,_,s,k=>k (.exit id) s
 |.ret,_,_,s,k=>k .ret s
 |.label _,_,_,s,k=>k .normal s
 |_,_,_,_,_=>none
section
variable {Γ:FuncId->Option (ci X)} {T:en} {code:TypeId->Option (CT X.ι)} {N n:Nat} {P:Program}
theorem Ext.wide{ds ds':Φ}{a b:cM X}(h:Ext ds a b)(hd:∀t,ds t->ds' t):Ext ds' a b:=⟨λ t ht=>h.env t λhh=>ht (hd t hh),h.obj,h.nx⟩
theorem map_inr{α β:Type}{o:J β}{r:α⊕β}(h:o.map Sum.inr=some r):∃b,o=some b/\r=.inr b:=by
 cases o with
 |none=>cases h
 |some b=>grind
theorem EQ{c:Code}{s:cM X}{h:Hn X.ι}{A:Type}{k:Exit->cM X->J A}{r:A}{body:(B:Type)->Hn X.ι->(Exit->cM X->J B)->J B}(hl:Low s)
 (hb:∀(B:Type)(h:Hn X.ι)(k:Exit->cM X->J B)(r:B),body B h k=some r->Ev P N c (Lm (eX c) s k r) s.st) (hr:H4 (eX c) s h k body=some r):Ev P N c (Lm (eX c) s k r) s.st:=by
 unfold H4 at hr;split at hr;have⟨v,h1,hr⟩:=ah.1 hr;refine ajI (hb _ _ _ _ h1) ?_;rintro e σ ⟨s',g1,g2,rfl,g4⟩ w0 O0 β I a w hrel;cases e<;>simp at g4;have⟨v',i1,i2,i3,i4⟩:=iV hl g1 g2 g4;cases i1;have⟨β',i5⟩:=i4 P w0 O0 N β I a w hrel;exact⟨β',_,i5,i2.old,_,i2,i3,rfl,hr⟩;unfold dM at hr;have⟨v,h1,hr⟩:=ah.1 hr;refine ajI (hb _ _ _ _ h1) ?_;rintro e σ ⟨s',g1,g2,rfl,g4⟩ w0 O0 β I a w hrel;have other:(k e s').map Sum.inr=some v->∃ β' σ',Rel P w0 O0 N β' I σ' a w/\vf σ'/\Lm (eX c) s k r e σ':=by intro hm;obtain⟨b,hk,rfl⟩:=map_inr hm;cases hr;exact⟨β,_,hrel,g1.old,s',g1,g2,rfl,hk⟩
 cases e with
 |normal=>
  simp at g4;have⟨v',i1,i2,i3,i4⟩:=iV hl g1 g2 g4;cases i1;have⟨β',i5⟩:=i4 P w0 O0 N β I a w hrel;exact⟨β',_,i5,i2.old,_,i2,i3,rfl,hr⟩
 |_=>exact other g4
 exact hb _ _ _ _ hr
theorem akX{id:Nat}{ag:Array Oper}{d:Bool}{t:Nat}(h:Tn ag t):t∈eX (.region id ag d):=by obtain⟨j,op,h1,h2⟩:=h;simp only[eX,List.mem_filterMap];exact⟨op,by rw[<- Array.getElem?_toList]at h1;exact cZ h1,h2⟩
theorem XJ{b:Code}{s:cM X}{hd:Sh X.ι}{O:Type}{step:VT (X:=X) hd.vars->J (VT (X:=X) hd.vars⊕O)}{kb:Exit->cM X->J (VT (X:=X) hd.vars⊕O)}{Q:Exit->St->Prop}(hl:Low s)
 (hkn:∀s',kb .normal s'=ql hd (eX b) s s' λv=>some (.inl v))
 (hstep:∀v r,Low (encS hd s v)->step v=some r->Ev P N b (Lm (eX b) (encS hd s v) kb r) (encS hd s v).st)
 {o:O} (hQ:∀e s',e≠.normal->Low s'->Ext (· ∈eX b) s s'->kb e s'=some (.inr o)->∀w0 O0 β I a w,Rel P w0 O0 N β I s'.st a w->∃ β' σ',Rel P w0 O0 N β' I σ' a w/\vf σ'/\Q e σ')
 (hno:∀e s' v,e≠.normal->kb e s'=some (.inl v)->False) (n:Nat) (v0:VT (X:=X) hd.vars) (h:iter step n v0=some o) (hl0:Low (encS hd s v0)) (hx0:Ext (· ∈eX b) s (encS hd s v0)):Ev P N (.loop b) Q (encS hd s v0).st:=by
 intro L w0 O0 β I a w hr ho;refine Qy (λ n a w=>∃ β I v,Rel P w0 O0 N β I (encS hd s v).st a w/\iter step n v=some o/\Low (encS hd s v)/\Ext (· ∈eX b) s (encS hd s v)) (λ a w ⟨_,_,v,_,h,_⟩=>by cases h) ?_ n a w ⟨β,I,v0,hr,h,hl0,hx0⟩;rintro n a w ⟨β,I,v,hr,hi,hlv,hxv⟩;simp[iter]at hi;have⟨r,h1,hi⟩:=ah.1 hi;refine wpIn_mono (hstep v r hlv h1 L w0 O0 β I a w hr hlv.old) ?_;rintro e a' w' ⟨β',I',σ',g1,_,s',g2,g3,rfl,g4⟩;have hxs:=hxv.trans g3;by_cases he:e=.normal;subst he;rw[hkn]at g4;have⟨v',i1,i2,i3,i4⟩:=iV hl g2 hxs g4;cases i1;have⟨β2,i5⟩:=i4 P w0 O0 N β' I' a' w' g1;exact⟨β2,I',v',i5,hi,i2,i3⟩;cases r with
 |inl v'=>exact(hno e s' v' he g4).elim
 |inr o'=>
  cases hi;have⟨β2,σ2,i1,i2,i3⟩:=hQ e s' he g2 hxs g4 w0 O0 β' I' a' w' g1;cases e with
  |normal=>exact(he rfl).elim
  |_=>exact⟨β2,I',σ2,i1,i2,i3⟩
theorem XK{A:Type}{sh:Sh X.ι}{ds:U Nat}{s0 s':cM X}{k:VT (X:=X) sh.vars->J A}{r:A}(h:ql sh ds s0 s' k=some r):∃v,k v=some r:=by have⟨_,h⟩:=eu h;unfold WP at h;have⟨m1,h1,h⟩:=ah.1 h;have⟨m,h2,h⟩:=ah.1 h;have⟨h3,h⟩:=eu h;have⟨v,h4,h⟩:=ah.1 h;exact⟨v,(qN h).2⟩
theorem afd{α β γ:Type}{o:J γ}{r:α⊕(β⊕γ)}(h:o.map (λ a=>Sum.inr (Sum.inr a))=some r):∃b,o=some b/\r=.inr (.inr b):=by
 cases o with
 |none=>cases h
 |some b=>grind
def Hn.len{ι:Type}:Hn ι->Nat
 |.un _ r=>r.len+1
 |_=>0
theorem akY{b:Code}{A:Type}{body:Hn X.ι->cM X->(Exit->cM X->J A)->J A}{s0:cM X}{k:Exit->cM X->J A}{r:A}
 (hb:∀(h:Hn X.ι)(s:cM X)(k:Exit->cM X->J A)(r:A),Low s->body h s k=some r->Ev P N b (Lm (eX b) s k r) s.st)
 {h:Hn X.ι} (hl:Low s0) (hr:RR body h s0 k=some r):Ev P N (.loop b) (Lm (eX (.loop b)) s0 k r) s0.st:=by
 refine aog (λ n σ=>∃(h:Hn X.ι)(s:cM X),σ=s.st/\h.len=n/\Low s/\Ext (· ∈eX b) s0 s/\RR body h s k=some r) ?_ ?_ h.len ⟨h,s0,rfl,rfl,hl,Ext.refl _ s0,hr⟩;rintro σ ⟨h,s,_,h1,_,_,h2⟩;cases h<;>first|cases h2|cases h1
 rintro n σ ⟨h,s,rfl,h1,h2,h3,h4⟩;cases h<;>try cases h4
 rename_i a q;simp[Hn.len]at h1;refine(hb a s _ r h2 h4).mono ?_;rintro e σ ⟨s',g1,g2,rfl,g4⟩;have hx:=h3.trans g2;cases e with
 |normal=>exact⟨q,s',rfl,h1,g1,hx,g4⟩
 |_=>exact⟨s',g1,hx,rfl,g4⟩
theorem gY(hT:fB P T)(hm:P.follows .mixedOrders=true)(hΓ:qq P Γ):∀(c:Code)(A:Type)(h:Hn X.ι)(s:cM X)(k:Exit->cM X->J A)(r:A),Low s->run Γ T code N n c A h s k=some r->Ev P N c (Lm (eX c) s k r) s.st
 |.skip,A,h,s,k,r,hl,hr=>aod ⟨s,hl,Ext.refl _ s,rfl,hr⟩
 |.exit id,A,h,s,k,r,hl,hr=>aoe ⟨s,hl,Ext.refl _ s,rfl,hr⟩
 |.ret,A,h,s,k,r,hl,hr=>apK ⟨s,hl,Ext.refl _ s,rfl,hr⟩
 |.label l,A,h,s,k,r,hl,hr=>al8 ⟨s,hl,Ext.refl _ s,rfl,hr⟩
 |.region id ag d,A,h,s,k,r,hl,hr=>by refine EQ hl (λ B h k r hb=>?_) hr;have⟨s',g1,g2,g3,g4⟩:=ac1 (id:=id) hT hm hΓ hl hb;exact g4.mono λe σ ⟨he,hσ⟩=>⟨s',g2,g3.wide λt ht=>akX ht,hσ,by rw[he];exact g1⟩
 |.seq x y,A,h,s,k,r,hl,hr=>by
  refine EQ hl (λ B h k r hb=>?_) hr;refine apL ((gY hT hm hΓ x B _ s _ r hl hb).mono ?_);rintro e σ ⟨s',g1,g2,rfl,g4⟩;have wide:Ext (· ∈eX (.seq x y)) s s':=g2.wide λt ht=>by simp[eX,ht]
  cases e with
  |normal=>
   exact(gY hT hm hΓ y B _ s' k r g1 g4).mono λe σ ⟨s2,i1,i2,i3,i4⟩=>⟨s2,i1,wide.trans (i2.wide λt ht=>by simp[eX,ht]),i3,i4⟩
  |_=>exact⟨s',g1,wide,rfl,g4⟩
 |.cond c x y,A,h,s,k,r,hl,hr=>by
  refine EQ hl (λ B h k r hb=>?_) hr;split at hb
  .rename_i v hv;refine aof v (λ _ _=>rfl) ?_ ?_
   .have:=WV (ea s.env) c;rw[hv]at this;exact this.symm
   .cases v with
    |true=>exact(gY hT hm hΓ x B _ s k r hl hb).mono λe σ ⟨s2,i1,i2,i3,i4⟩=>⟨s2,i1,i2.wide λt ht=>by simp[eX,ht],i3,i4⟩
    |false=>exact(gY hT hm hΓ y B _ s k r hl hb).mono λe σ ⟨s2,i1,i2,i3,i4⟩=>⟨s2,i1,i2.wide λt ht=>by simp[eX,ht],i3,i4⟩
  .rename_i hv;have⟨hb1,hb2⟩:=akV hb;refine aho (λ _ _=>rfl) ?_ ?_ ?_
   .have:=WV (ea s.env) c;rw[hv]at this;exact this.symm
   .exact(gY hT hm hΓ x B _ s k r hl hb1).mono λe σ ⟨s2,i1,i2,i3,i4⟩=>⟨s2,i1,i2.wide λt ht=>by simp[eX,ht],i3,i4⟩
   .exact(gY hT hm hΓ y B _ s k r hl hb2).mono λe σ ⟨s2,i1,i2,i3,i4⟩=>⟨s2,i1,i2.wide λt ht=>by simp[eX,ht],i3,i4⟩
  .cases hb
 |.block id b,A,h,s,k,r,hl,hr=>by
  refine EQ hl (λ B h k r hb=>?_) hr;refine al9 ((gY hT hm hΓ b B _ s _ r hl hb).mono ?_);rintro e σ ⟨s',g1,g2,rfl,g4⟩;cases e with
  |exit j=>
   simp only[ahn];simp only at g4;split
   .rw[aY ‹_›]at g4;exact⟨s',g1,g2,rfl,g4⟩
   .rw[aT ‹_›]at g4;exact⟨s',g1,g2,rfl,g4⟩
  |_=>exact⟨s',g1,g2,rfl,g4⟩
 |.loop b,A,h,s,k,r,hl,hr=>by
  simp only[run]at hr;split at hr
  .rename_i hd id out h';obtain⟨v0,h1,h2,h3,h4⟩:=iV hl hl (Ext.refl _ s) hr;rw[ah]at h1;obtain⟨w,h5,h6⟩:=h1;intro L w0 O0 β I a ww hrel ho;have⟨β',hrel'⟩:=h4 P w0 O0 N β I a ww hrel;refine XJ (Q:=Lm (eX (.loop b)) s k r) hl (λ s'=>rfl) (λ v r hlv hs=>gY hT hm hΓ b _ h' (encS hd s v) _ r hlv hs) (λ e s' he hls hxs hk=>?_) (λ e s' v he hk=>?_) n v0 h5 h2 h3 L w0 O0 β' I a ww hrel' h2.old
   .cases e with
    |exit j=>
     simp only at hk;split at hk
     .rename_i hj;subst hj;have⟨w',i1,i2,i3,i4⟩:=iV hl hls hxs hk;injection i1 with i1;cases i1;intro w0 O0 β I a ww hrel;have⟨β',hrel'⟩:=i4 P w0 O0 N β I a ww hrel;exact⟨β',_,hrel',i2.old,_,i2,i3,rfl,h6⟩
     .cases hk
    |normal=>exact(he rfl).elim
    |_=>cases hk
   .cases e with
    |exit j=>
     simp only at hk;split at hk
     .have⟨w',i1⟩:=XK hk;injection i1 with i1;cases i1
     .cases hk
    |normal=>exact he rfl
    |_=>cases hk
  .rename_i hd id out h';obtain⟨v0,h1,h2,h3,h4⟩:=iV hl hl (Ext.refl _ s) hr;unfold dM at h1;rw[ah]at h1;obtain⟨w,h5,h6⟩:=h1;intro L w0 O0 β I a ww hrel ho;have⟨β',hrel'⟩:=h4 P w0 O0 N β I a ww hrel;refine XJ (Q:=Lm (eX (.loop b)) s k r) hl (λ s'=>rfl) (λ v r hlv hs=>gY hT hm hΓ b _ h' (encS hd s v) _ r hlv hs) (λ e s' he hls hxs hk=>?_) (λ e s' v he hk=>?_) n v0 h5 h2 h3 L w0 O0 β' I a ww hrel' h2.old
   .intro w0 O0 β I a ww hrel;have other:(k e s').map (λ a=>Sum.inr (Sum.inr a))=some (Sum.inr w:VT (X:=X) hd.vars⊕(VT (X:=X) out.vars⊕A))->∃ β' σ',Rel P w0 O0 N β' I σ' a ww/\vf σ'/\Lm (eX (.loop b)) s k r e σ':=(by intro hm;have⟨q,hq,hr⟩:=afd hm;cases hr;cases h6;exact⟨β,_,hrel,hls.old,s',hls,hxs,rfl,hq⟩);cases e with
    |exit j=>
     simp only at hk;split at hk
     .rename_i hj;subst hj;have⟨w',i1,i2,i3,i4⟩:=iV hl hls hxs hk;injection i1 with i1;cases i1;have⟨β',hrel'⟩:=i4 P w0 O0 N β I a ww hrel;exact⟨β',_,hrel',i2.old,_,i2,i3,rfl,h6⟩
     .exact other hk
    |normal=>exact(he rfl).elim
    |_=>exact other hk
   .have other:(k e s').map (λ a=>Sum.inr (Sum.inr a))=some (Sum.inl v:VT (X:=X) hd.vars⊕(VT (X:=X) out.vars⊕A))->False:=(by intro hm;have⟨q,hq,hr⟩:=afd hm;cases hr);cases e with
    |exit j=>
     simp only at hk;split at hk
     .have⟨w',i1⟩:=XK hk;injection i1 with i1;cases i1
     .exact other hk
    |normal=>exact he rfl
    |_=>exact other hk
  .exact akY (body:=λh s k=>run Γ T code N n b A h s k) (λ h s k r hl h1=>gY hT hm hΓ b A h s k r hl h1) hl hr
  .cases hr
 |.rangeFunc ..,_,_,_,_,_,_,hr=>by cases hr
 |.scope _,_,_,_,_,_,_,hr=>by cases hr
 |.goto _,_,_,_,_,_,_,hr=>by cases hr
 |.refuse _,_,_,_,_,_,_,hr=>by cases hr
end
end
section
variable {X:SX}
def qm:Nat->(l:U (AT X.ι))->jB X l->U (DV X)
 |_,[],_=>[]
 |n,.d c::l,a=>.c c a.1::qm n l a.2
 |n,.ref c::l,a=>.rp c a.1 0::qm n l a.2
 |n,.d7 as r::l,a=>.d7 as r a.1::qm n l a.2
 |n,.mut _::l,a=>.own n 0 (List.length a.1)::qm (n+1) l a.2
 |n,.kA _::l,a=>.ptr n 0 0::qm (n+1) l a.2
 |n,.nil::l,a=>.nil::qm n l a.2
def Dr:(l:U (AT X.ι))->jB X l->U (bz X)
 |[],_=>[]
 |.mut c::l,a=>.ek c a.1::Dr l a.2
 |.kA c::l,a=>.cells (CT.sz X c) [vQ c a.1]::Dr l a.2
 |.d _::l,a=>Dr l a.2
 |.ref _::l,a=>Dr l a.2
 |.d7 _ _::l,a=>Dr l a.2
 |.nil::l,a=>Dr l a.2
theorem zh:∀(n:Nat)(l:U (AT X.ι))(a:jB X l),bL (qm n l a)=fe n l a
 |_,[],_=>rfl
 |n,.d c::l,a|n,.ref c::l,a=>by simp[qm,bL,den,fe,zh n l a.2]
 |n,.d7 as r::l,a=>by simp[qm,bL,fe,zh n l a.2]
 |n,.mut c::l,a|n,.kA c::l,a=>by simp[qm,bL,den,fe,zh (n+1) l a.2]
 |n,.nil::l,a=>by simp[qm,bL,den,fe,zh n l a.2]
theorem IK:∀(l:U (AT X.ι))(a:jB X l),(Dr l a).map bP=(vE l a).map ir
 |[],_=>rfl
 |.d _::l,a|.ref _::l,a|.d7 _ _::l,a|.nil::l,a=>IK l a.2
 |.mut c::l,a=>by simp[Dr,IK l a.2];rfl
 |.kA c::l,a=>by simp[Dr,vE,IK l a.2,bP,ir,vD,aI,qh]
theorem qo:∀(n:Nat)(l:U (AT X.ι))(a:jB X l),∀k∈aP (qm n l a),k<n+wW l
 |_,[],_,k,hk=>by trivial
 |n,.d c::l,a,k,hk=>by
  have:=qo n l a.2 k (by trivial)
  grind [wW,AT.im]
 |n,.ref c::l,a,k,hk=>by
  have:=qo n l a.2 k (by trivial)
  grind [wW,AT.im]
 |n,.d7 as r::l,a,k,hk=>by have:=qo n l a.2 k (by simpa[qm,aP,bx]using hk);simpa[wW,AT.im]using this
 |n,.nil::l,a,k,hk=>by have:=qo n l a.2 k (by simpa[qm,aP,bx]using hk);simpa[wW,AT.im]using this
 |n,.mut c::l,a,k,hk=>by simp[qm,aP,bx]at hk;simp[wW,AT.im];rcases hk with rfl|hk;omega;have:=qo (n+1) l a.2 k hk;omega
 |n,.kA c::l,a,k,hk=>by simp[qm,aP,bx]at hk;simp[wW,AT.im];rcases hk with rfl|hk;omega;have:=qo (n+1) l a.2 k hk;omega
theorem uz:∀(n:Nat)(l:U (AT X.ι))(a:jB X l),(fe n l a).length=l.length
 |_,[],_=>rfl
 |n,.d c::l,a|n,.ref c::l,a|n,.d7 as r::l,a=>by simp[fe,uz n l a.2]
 |n,.mut c::l,a|n,.kA c::l,a=>by simp[fe,uz (n+1) l a.2]
 |n,.nil::l,a=>by simp[fe,uz n l a.2]
theorem wZ:∀(l:U (AT X.ι))(a:jB X l),(vE l a).length=wW l
 |[],_=>rfl
 |.d _::l,a|.ref _::l,a|.d7 _ _::l,a|.nil::l,a=>by simpa[wW,AT.im,vE]using wZ l a.2
 |.mut _::l,a|.kA _::l,a=>by simp[vE,wZ l a.2,wW,AT.im];omega
def DD(l:U (AT X.ι))(a:jB X l):cM X:=⟨(List.range l.length).zip (qm 0 l a),(List.range (Dr l a).length).zip ((Dr l a).map some),1000,[]⟩
theorem ajJ(l:U (AT X.ι))(a:jB X l)(k:Nat):gd (DD l a).obj k=(Dr l a)[k]? :=by
 have h:(List.range (Dr l a).length).zip ((Dr l a).map some)=(List.range ((Dr l a).map some).length).zip ((Dr l a).map some):=by grind
 simp[DD,gd];rw[h,zo,List.getElem?_map]
 grind
theorem apY(l:U (AT X.ι))(a:jB X l):(DD l a).st=so.st ⟨(List.range (zx l a).length).zip (zx l a),(List.range ((vE l a).map ir).length).zip ((vE l a).map ir)⟩:=by
 have ho:∀k,((gd (DD l a).obj k).map bP)=lk ((List.range ((vE l a).map ir).length).zip ((vE l a).map ir)) k:=by
  grind [zo,ajJ,IK]
 simp only[cM.st,so.st,St.mk.injEq,and_true];refine⟨?_,funext ho⟩;funext t;rw[uz,zx,<- zh];have:∀(ks:U Nat)(ds:U (DV X)),den (ea (ks.zip ds) t)=(lk (ks.zip (bL ds)) t).getD .undef:=by
  intro ks
  induction ks with
  |nil=>intro ds;rfl
  |cons k ks ih=>
   intro ds;rcases ds with _|⟨d,ds⟩;rfl;simp[ea,lk,bL];by_cases h:k=t;simp[h];simp[aT h];exact ih ds
 exact this _ _
theorem aou(l:U (AT X.ι))(a:jB X l)(hm:wW l<=1000):Low (DD l a):=by
 refine⟨by show 1000<=1000000;decide,aB _,λt k hk=>?_,λk o ho=>?_⟩;have h0:=qo 0 l a;have:∀(ks:U Nat)(ds:U (DV X)),(∀ k∈aP ds,k<0+wW l)->∀k∈bx (ea (ks.zip ds) t),k<1000:=by
  intro ks
  induction ks with
  |nil=>simp[ea,lk,bx]
  |cons k ks ih=>
   intro ds h j hj;rcases ds with _|⟨d,ds⟩;simp[ea,lk,bx]at hj;simp[ea,lk]at hj;by_cases e:k=t;simp[aY e]at hj;have:=h j (by simp[aP,hj]);omega;simp[aT e]at hj;exact ih ds (λ k hk=>h k (by simp[aP,hk])) j hj
 exact this _ _ h0 k hk;rw[ajJ]at ho;have hl:(Dr l a).length=wW l:=by rw[<- wZ l a];simpa using congrArg List.length (IK l a)
 refine⟨by have:=(dx.1 ho).1;show k<1000;omega,λj hj=>?_⟩;have hz:∀(l:U (AT X.ι))(a:jB X l),∀o∈Dr l a,ee o=[]:=by
  intro l
  induction l with
  |nil=>intro a o ho;simp[Dr]at ho
  |cons q l ih=>
   intro a o ho;cases q<;>simp[Dr]at ho
   case «mut» c=>rcases ho with rfl|ho;rfl;exact ih _ o ho
   case kA c=>
    rcases ho with rfl|ho;have h1:aP (vQ c a.1)=[]:=by
     rw[<- jo,qh];generalize CT.row X.toSE c a.1=r
     induction r with
     |nil=>rfl
     |cons y ys ih=>simp[fA,refs,ih]
    simp[ee,h1];exact ih _ o ho
   all_goals exact ih _ o ho
 grind
variable (T:en)
def HS(s:cM X):ResultVar->J (DV X)
 |.tmp t=>some (ea s.env t)
 |.cell a t=>(T t).bind λti=>match ea s.env a with
  |.ptr kk row aa=>(gd s.obj kk).bind λo=>match o with
   |.cells _ rows=>(rows[row]?).bind λr=>Ir ti.agg ti.size ((r.drop aa).take ti.size)
   |_=>none
  |_=>none
def XL(s:cM X):U ResultVar->J (List (DV X))
 |[]=>some []
 |r::rs=>(HS T s r).bind λv=>(XL s rs).bind λvs=>some (v::vs)
theorem amy{s:cM X}{r:ResultVar}{d:DV X}(h:HS T s r=some d):Qz T s.st r=some (den d):=by
 cases r with
 |tmp t=>simp only[HS,bV]at h;subst h;rfl
 |cell a t=>
  simp only[HS]at h;rw[ah]at h;obtain⟨ti,h1,h⟩:=h;split at h
  .rename_i kk row aa hp;have⟨o,h2,h⟩:=ah.1 h;split at h
   .have⟨q,h3,h⟩:=ah.1 h;have h4:=Dg h;rw[lu]at h4
    show(match VD T t (den (ea s.env a)) (λ k=>(gd s.obj k).map bP)with
     |some ⟨v,[],[]⟩=>some v
     |_=>none)=some (den d)
    simp only[VD,K8,h1,ai,hp,den,h2,Option.map_some,bP,List.getElem?_map,h3,h4,pv]
   .cases h
  .cases h
def Z7{A:Type}(s:cM X):U ResultVar->(List (DV X)->J A)->J A
 |[],k=>k []
 |.tmp t::rs,k=>Z7 s rs λvs=>k (ea s.env t::vs)
 |.cell a t::rs,k=>(T t).bind λti=>match ea s.env a with
  |.ptr kk row aa=>(gd s.obj kk).bind λo=>match o with
   |.cells _ rows=>(rows[row]?).bind λr=>(Ir ti.agg ti.size ((r.drop aa).take ti.size)).bind λv=>Z7 s rs λvs=>k (v::vs)
   |_=>none
  |_=>none
theorem Ki{A:Type}{s:cM X}:∀{rs:U ResultVar}{k:U (DV X)->J A}{r:A},Z7 T s rs k=some r->∃ds,XL T s rs=some ds/\k ds=some r
 |[],k,r,h=>⟨[],rfl,h⟩
 |.tmp t::rs,k,r,h=>by have⟨ds,h1,h2⟩:=Ki (rs:=rs) h;exact⟨_,by simp only[XL,HS,h1,ai],h2⟩
 |.cell a t::rs,k,r,h=>by
  simp only[Z7]at h;rw[ah]at h;obtain⟨ti,h1,h⟩:=h;split at h
  .rename_i kk row aa hp;have⟨o,h2,h⟩:=ah.1 h;split at h
   .have⟨q,h3,h⟩:=ah.1 h;have⟨v,h4,h⟩:=ah.1 h;have⟨ds,h5,h6⟩:=Ki (rs:=rs) h;exact⟨_,by simp only[XL,HS,h1,hp,h2,h3,h4,h5,ai],h6⟩
   .cases h
  .cases h
theorem QR{s:cM X}:∀{rs:U ResultVar}{ds:U (DV X)},XL T s rs=some ds->l8 T s.st rs=some (bL ds)
 |[],ds,h=>by simp[XL]at h;subst h;rfl
 |r::rs,ds,h=>by simp[XL]at h;have⟨d,h1,h⟩:=ah.1 h;have⟨ds',h2,h⟩:=ah.1 h;cases h;simp[l8,amy T h1,QR h2,bL]
def QS:U (RT X.ι)->U (DV X)->J Nat
 |.mu _::l,ds=>QS l ds
 |.mr _::l,ds=>QS l ds
 |.mv::l,ds=>QS l ds
 |.fresh _::l,d::ds=>match d with
  |.own k _ _=>some k
  |_=>QS l ds
 |.d _::l,_::ds=>QS l ds
 |.whole _::l,_::ds=>QS l ds
 |_,_=>none
def A4:U (RT X.ι)->U (DV X)->U (Nat×Nat)
 |.mu _::l,ds=>A4 l ds
 |.mr _::l,ds=>A4 l ds
 |.mv::l,ds=>A4 l ds
 |.whole j::l,d::ds=>match d with
  |.own _ _ len=>(j,len)::A4 l ds
  |_=>A4 l ds
 |.d _::l,_::ds=>A4 l ds
 |.fresh _::l,_::ds=>A4 l ds
 |_,_=>[]
def Dt:Nat->U (RT X.ι)->U Nat
 |_,[]=>[]
 |n,.mu _::l=>n::Dt (n+1) l
 |n,.mr _::l=>n::Dt (n+1) l
 |n,.mv::l=>Dt (n+1) l
 |n,_::l=>Dt n l
def vl:Nat->U (RT X.ι)->U Nat
 |_,[]=>[]
 |n,.mu _::l=>n::vl (n+1) l
 |n,.mr _::l=>vl (n+1) l
 |n,.mv::l=>vl (n+1) l
 |n,_::l=>vl n l
def QQ(bad:U Nat)(ks:U Nat):Bool:=ks.all λk=>!bad.contains k
def ac4(get:Nat->J (bz X))(row:U (DV X))(c:CT X.ι):J (CT.T X.toSE c×List Bool):=
 match c with
 |.st i=>(IA get row (X.de i)).bind λh=>some (X.make i h.1,h.2)
 |c=>match row with
  |[d]=>Xl get d c
  |_=>none
def IL(get:Nat->J (bz X))(c:CT X.ι):U (List (DV X))->J (List (CT.T X.toSE c)×List Bool)
 |[]=>some ([],[])
 |r::rs=>(ac4 get r c).bind λx=>(IL get c rs).bind λy=>some (x.1::y.1,x.2++y.2)
def NQ(get:Nat->J (bz X))(bad sn:U Nat)(fk:J Nat)(wl:U (Nat×Nat))(n:Nat):(q:RT X.ι)->U (DV X)->J ((RT.T X q×List Bool)×List (DV X))
 |.d c,d::ds=>if QQ bad (bx d)then(Gf get d c).bind λx=>some (x,ds)else none
 |.fresh e,d::ds=>match d with
  |.nil=>some (([],[]),ds)
  |.own k 0 len=>if fk=some k then(get k).bind λo=>match o with
   |.ek b l=>(lV (.sl b) (.sl e) l).bind λ(l:List (CT.T X.toSE e))=>some ((sub l 0 len,[aE (sub l 0 len).length len]),ds)
   |.cells sz rows=>if sz=CT.sz X e/\QQ bad (rows.map aP).flatten=true then(IL get e rows).bind λx=>some ((x.1,aE len (List.length x.1)::x.2),ds)else none
   |.map _ _ _=>none
   else none
  |_=>none
 |.whole j,d::ds=>match d with
  |.own k 0 len=>if k=j/\sn.contains j=true then(lk wl j).bind λeC=>some (((),[aE len eC]),ds)else none
  |_=>none
 |.mu c,ds=>(get n).bind λo=>match o with
  |.ek b l=>(lV (.sl b) (.sl c) l).bind λ(l:List (CT.T X.toSE c))=>match lk wl n with
   |some len=>some ((sub l 0 len,[aE (sub l 0 len).length len]),ds)
   |none=>some ((l,[]),ds)
  |_=>none
 |.mr c,ds=>(get n).bind λo=>match o with
  |.cells sz [row]=>if sz=CT.sz X c/\QQ bad (aP row)=true then(ac4 get row c).bind λx=>some (x,ds)else none
  |_=>none
 |.mv,ds=>some (((),[]),ds)
 |_,[]=>none
def NR(get:Nat->J (bz X))(bad sn:U Nat)(fk:J Nat)(wl:U (Nat×Nat)):Nat->(l:U (RT X.ι))->(ds:U (DV X))->J (uh X l×List Bool)
 |_,[],ds=>match ds with
  |[]=>some ((),[])
  |_=>none
 |n,[q],ds=>(NQ get bad sn fk wl n q ds).bind λp=>match p.2 with
  |[]=>some p.1
  |_=>none
 |n,q::q'::l,ds=>(NQ get bad sn fk wl n q ds).bind λp=>(NR get bad sn fk wl (if q.out then n+1 else n) (q'::l) p.2).bind λy=>some ((p.1.1,y.1),p.1.2++y.2)
def WF(s:cM X)(l:U (RT X.ι))(ds:U (DV X)):J (uh X l×List Bool):=
 if QQ (Dt 0 l) (QS l ds).toList then NR (gd s.obj) (Dt 0 l++(QS l ds).toList) (vl 0 l) (QS l ds) (A4 l ds) 0 l ds else none
def aqC(rs:U ResultVar)(l:U (RT X.ι)):Exit->cM X->J (uh X l)
 |.normal,s=>Z7 T s rs λds=>(WF s l ds).bind λx=>WY x.2 (some x.1)
 |.ret,s=>Z7 T s rs λds=>(WF s l ds).bind λx=>WY x.2 (some x.1)
 |_,_=>none
def exit(A:Type)(k:cM X->J A):Exit->cM X->J A
 |.normal,s=>k s
 |.ret,s=>k s
 |_,_=>none
variable {T}
section
variable {get:Nat->Option (bz X)} {fk:Option Nat} {os':List (Option fC)} {bad:List Nat}
theorem ER{ks:U Nat}(h:QQ bad ks=true):∀j∈ks,j∉bad:=λj hj=>by simpa using all_eq_true.1 h j hj
theorem QT(hbad:∀j,j∉bad->fk≠some j/\¬kept os' j){d:DV X}{c:CT X.ι}{x:CT.T X.toSE c×List Bool}(hc:c.one=true)(h:Xl get d c=some x)(hb:∀b∈x.2,b=true)(pd:∀j∈bx d,j∉bad):∃t,CT.tv X.toSE c x.1=.s t/\C1 (gq get) fk os' (den d) t:=by
 obtain⟨t,h1,h2⟩:=row_one hc x.1;refine⟨t,h2,?_⟩;have hbase:∀y,LP d c=some y->y=x.1->C1 (gq get) fk os' (den d) t:=by intro y hy he;subst he;have h3:=wS hy;rw[h2]at h3;unfold LP at hy;split at hy;rw[(pG hy).1];simp[den,h2,TV.av,C1];simp[den,Gb.wk,TV.av]at h3;exact h3.symm;simp[den,Gb.wk,TV.av]at h3;exact h3.symm;cases hy
 unfold Xl at h;split at h;rename_i kk aa len e;rw[ah]at h;obtain⟨o,h3,h⟩:=h;split at h;rename_i b l0;rw[ah]at h;obtain⟨l,h4,h⟩:=h;cases h;have h5:(sub l aa len).length=len:=by simp_all [aE]
 have⟨h6,h7⟩:=jN h4;obtain⟨hf1,hf2⟩:=hbad kk (pd kk (by simp[bx]));refine⟨hf1,hf2,bP (.ek b l0),(sub l aa len).map (CT.row X.toSE e),by simp[gq,h3],?_,by simpa using h5,?_⟩;simp[bP,h7];simp[aI,sub];simpa[CT.row]using h1.symm;cases h;rename_i kk aa len;rw[ah]at h;obtain⟨o,h3,h⟩:=h;split at h;rename_i b l0;cases h;have h5:(sub l0 aa len).length=len:=by simpa[aE]using hb (aE (sub l0 aa len).length len) (by simp)
 obtain⟨hf1,hf2⟩:=hbad kk (pd kk (by simp[bx]));refine⟨hf1,hf2,bP (.ek b l0),(sub l0 aa len).map (CT.row X.toSE b),by simp[gq,h3],?_,by simpa using h5,?_⟩;simp[bP];simp[aI,sub];simpa[CT.row]using h1.symm;cases h;rename_i kk len e;rw[ah]at h;obtain⟨o,h3,h⟩:=h;split at h;rename_i b l0;have⟨l,h4,h⟩:=ah.1 h;cases h;have h5:(sub l 0 len).length=len:=by simpa[aE]using hb (aE (sub l 0 len).length len) (by simp)
 have⟨h6,h7⟩:=jN h4;obtain⟨hf1,hf2⟩:=hbad kk (pd kk (by simp[bx]));refine⟨hf1,hf2,bP (.ek b l0),(sub l 0 len).map (CT.row X.toSE e),by simp[gq,h3],?_,by simpa using h5,?_⟩;simp[bP,h7];simp[aI,sub];simpa[CT.row]using h1.symm;cases h
 grind [ah]
theorem LZ(hbad:∀j,j∉bad->fk≠some j/\¬kept os' j):∀{ds:U (DV X)}{l:U (CT X.ι)}{h:HL X.toSE l×List Bool},IA get ds l=some h->(∀ b∈h.2,b=true)->l.all CT.one=true->(∀ j∈aP ds,j∉bad)->mA (gq get) fk os' (bL ds) (HL.row X.toSE l h.1)
 |[],[],h,_,_,_,_=>trivial
 |d::ds,c::l,h,hr,hb,ha,pd=>by simp[IA]at hr;have⟨x,h1,hr⟩:=ah.1 hr;have⟨g,h2,hr⟩:=ah.1 hr;cases hr;simp only[all_cons,aX]at ha;obtain⟨t,i1,i2⟩:=QT hbad ha.1 h1 (λ b hb'=>hb b (by grind)) (λ j hj=>pd j (by simp[aP,hj]));have i3:=LZ hbad h2 (λ b hb'=>hb b (by grind)) ha.2 (λ j hj=>pd j (by simp[aP,hj]));obtain⟨t',j1,j2⟩:=row_one ha.1 x.1;rw[i1]at j2;cases j2;show mA (gq get) fk os' (den d::bL ds) (CT.row X.toSE c x.1++HL.row X.toSE l g.1);rw[j1];trivial
 |[],_::_,_,hr,_,_,_|_::_,[],_,hr,_,_,_=>by trivial
theorem Tt(hbad:∀j,j∉bad->fk≠some j/\¬kept os' j){row:U (DV X)}{c:CT X.ι}{x:CT.T X.toSE c×List Bool}(h:ac4 get row c=some x)(hb:∀b∈x.2,b=true)(pd:∀j∈aP row,j∉bad):mA (gq get) fk os' (bL row) (CT.row X.toSE c x.1):=by
 cases c
 case st i=>
  replace h:(IA get row (X.de i)).bind (λ h=>some (X.make i h.1,h.2))=some x:=h
  have⟨g,h1,h⟩:=ah.1 h;cases h;have:=LZ hbad h1 hb (X.flat i) pd;show mA (gq get) fk os' (bL row) (X.row i (X.make i g.1))
  grind [X.gS]
 all_goals
  match row,h,pd with
  |[d],h,pd=>
   obtain⟨t,i1,i2⟩:=QT (fk:=fk) hbad rfl h hb (λ j hj=>pd j (by simp[aP,hj]));obtain⟨t',j1,j2⟩:=row_one rfl x.1;rw[i1]at j2;cases j2;rw[j1];trivial
  |[],h,_|_::_::_,h,_=>cases h
theorem NS(hbad:∀j,j∉bad->fk≠some j/\¬kept os' j){c:CT X.ι}:∀{rows:U (List (DV X))}{x:U (CT.T X.toSE c)×List Bool},IL get c rows=some x->(∀ b∈x.2,b=true)->(∀ j∈(rows.map aP).flatten,j∉bad)->ey (gq get) fk os' (rows.map bL) (x.1.map (CT.row X.toSE c))/\rows.length=List.length x.1
 |[],x,h,_,_=>by simp[IL]at h;subst h;trivial
 |r::rs,x,h,hb,pd=>by simp[IL]at h;have⟨y,h1,h⟩:=ah.1 h;have⟨z,h2,h⟩:=ah.1 h;cases h;have i1:=Tt hbad h1 (λ b hb'=>hb b (by grind)) (λ j hj=>pd j (by grind));obtain⟨i2,i3⟩:=NS hbad h2 (λ b hb'=>hb b (by grind)) (λ j hj=>pd j (by grind));exact⟨⟨i1,i2⟩,by simp[i3]⟩
theorem amz{x:AV}{t:Tree}(h:C1 (gq get) fk os' x t):HR (gq get) fk os' x (.d (.s t)):=by cases x<;>first|exact h|grind
theorem ES(sz:CT X.ι)(l:U (CT.T X.toSE sz)):ey (gq get) fk os' (aI (l.map (CT.row X.toSE sz))) (l.map (CT.row X.toSE sz)):=by
 generalize l.map (CT.row X.toSE sz)=rows
 induction rows with
 |nil=>trivial
 |cons r rs ih=>
  refine⟨?_,ih⟩
  induction r with
  |nil=>trivial
  |cons y ys ih2=>trivial
theorem amA(hbad:∀j,j∉bad->fk≠some j/\¬kept os' j){c:CT X.ι}{d:DV X}{x:CT.T X.toSE c×List Bool}(h:Gf get d c=some x)(pd:∀j∈bx d,j∉bad)(hb:∀b∈x.2,b=true):HR (gq get) fk os' (den d) (.d (CT.tv X.toSE c x.1)):=by
 cases c
 case st i=>
  replace h:If get d i=some x:=h
  cases d
  case agg cs=>
   simp[If]at h;have⟨g,h1,h⟩:=ah.1 h;cases h;have:=LZ (fk:=fk) hbad h1 hb (X.flat i) (by trivial);show mA (gq get) fk os' (bL cs) (X.row i (X.make i g.1))
   grind [X.gS]
  case c a y=>
   simp[If]at h;have⟨z,h1,h⟩:=ah.1 h;cases h;rw[(pG h1).1];show mA (gq get) fk os' ((X.row i z).map AV.t) (X.row i z);generalize X.row i z=l
   induction l with
   |nil=>trivial
   |cons y ys ih=>trivial
  all_goals cases h
 all_goals
  have⟨t,i1,i2⟩:=QT (fk:=fk) hbad rfl h hb pd;rw[i1];exact amz i2
theorem XM{sn:U Nat}{wl:U (Nat×Nat)}{ns:U Nat}{n:Nat}(hbad:∀j,j∉bad->fk≠some j/\¬kept os' j)(sf:∀k,fk=some k->¬kept os' k)(hns:∀j eC,j∈sn->lk wl j=some eC->ns.getD j 0=eC)(hmu:∀j∈sn,kept os' j){q:RT X.ι}{ds:U (DV X)}{p:(RT.T X q×List Bool)×List (DV X)}(h:NQ get bad sn fk wl n q ds=some p)(hb:∀b∈p.1.2,b=true):
 (∀ cs,oR (gq get) fk os' (bL p.2) cs->oR (gq get) fk os' (bL ds) (Xk ns q p.1.1++cs))/\
 (∀ t,rR q p.1.1=[some t]->∃o,get n=some o/\(bP o).sz=t.1/\ey (gq get) fk os' ((bP o).rows.take t.2.length) t.2)/\
 (∀ eC c,q=.mu c->lk wl n=some eC->Z0 q p.1.1=[eC]):=by
 cases q
 case d c=>
  rcases ds with _|⟨d,ds⟩;simp[NQ]at h;simp only[NQ]at h;split at h;rename_i hnb;rw[ah]at h;obtain⟨x,h1,h⟩:=h;cases h;exact⟨λ cs hcs=>⟨amA hbad h1 (ER hnb) hb,hcs⟩,λt ht=>by trivial,λ_ _ h=>by cases h⟩;cases h
 case fresh e=>
  rcases ds with _|⟨d,ds⟩;simp[NQ]at h;refine⟨λ cs hcs=>?_,λt ht=>by simp[rR]at ht,λ_ _ h=>by cases h⟩;simp[NQ]at h;split at h;cases h;exact⟨rfl,hcs⟩;rename_i k len;split at h;rename_i pd;rw[ah]at h;obtain⟨o,h1,h⟩:=h;split at h;rename_i b l0;rw[ah]at h;obtain⟨l,h2,h⟩:=h;cases h;have⟨h3,h4⟩:=jN h2;have h5:(sub l 0 len).length=len:=by simpa[aE]using hb (aE (sub l 0 len).length len) (by simp)
  refine⟨⟨pd,sf k pd,rfl,bP (.ek b l0),by simp[gq,h1],h3,?_,by simpa using h5⟩,hcs⟩;have e1:(bP (.ek b l0)).rows.take len=aI ((sub l 0 len).map (CT.row X.toSE e)):=by simp[bP,h4];simp[aI,sub]
  rw[e1];exact ES e _;rename_i sz rows;split at h;rename_i hc;rw[ah]at h;obtain⟨x,h2,h⟩:=h;cases h;obtain⟨i1,i2⟩:=NS (fk:=fk) hbad h2 (λ b hb'=>hb b (by simp[hb'])) (ER hc.2);have h5:len=List.length x.1:=by simpa[aE]using hb (aE len (List.length x.1)) (by simp)
  refine⟨⟨pd,sf k pd,rfl,bP (.cells sz rows),by simp[gq,h1],hc.1,?_,by simpa using h5.symm⟩,hcs⟩;simp[bP];rw[List.take_of_length_le (by simp;omega)];exact i1;cases h;cases h;cases h;cases h
 case whole j=>
  rcases ds with _|⟨d,ds⟩;simp[NQ]at h;refine⟨λ cs hcs=>?_,λt ht=>by simp[rR]at ht,λ_ _ h=>by cases h⟩;simp[NQ]at h;split at h;rename_i k len;split at h;rename_i hc;obtain⟨rfl,hm⟩:=hc;rw[ah]at h;obtain⟨eC,h1,h⟩:=h;cases h;have h5:len=eC:=by simpa[aE]using hb (aE len eC) (by simp)
  have hm:k∈sn:=by simpa using hm
  refine⟨⟨rfl,rfl,?_,hmu k hm⟩,hcs⟩;rw[h5];exact hns k eC hm h1;cases h;cases h
 case mu c=>
  simp[NQ]at h;rw[ah]at h;obtain⟨o,h1,h⟩:=h;split at h;rename_i b l0;rw[ah]at h;obtain⟨l,h2,h⟩:=h;have⟨h3,h4⟩:=jN h2;split at h;rename_i len hl;cases h;have h5:(sub l 0 len).length=len:=by simpa[aE]using hb (aE (sub l 0 len).length len) (by simp)
  refine⟨λ cs hcs=>hcs,λt ht=>?_,λeC c' _ hl'=>?_⟩;simp[rR]at ht;subst ht;refine⟨_,h1,h3,?_⟩;have e1:(bP (.ek b l0)).rows.take (vD c (sub l 0 len)).2.length=aI (vD c (sub l 0 len)).2:=by simp[bP,h4,vD];simp[aI,sub]
  rw[e1];exact ES c _;rw[hl]at hl';injection hl' with hl';subst hl';simp[Z0,h5];rename_i hl;cases h;refine⟨λ cs hcs=>hcs,λt ht=>?_,λeC c' _ hl'=>by rw[hl]at hl';cases hl'⟩;simp[rR]at ht;subst ht;refine⟨_,h1,by simp[vD];exact h3,?_⟩;have e1:(bP (.ek b l0)).rows.take (vD c l).2.length=aI (vD c l).2:=by simp[bP,h4,vD];rw[List.take_of_length_le (by simp[aI])]
  rw[e1];exact ES c _;cases h
 case mr c=>
  simp[NQ]at h;rw[ah]at h;obtain⟨o,h1,h⟩:=h;split at h;rename_i sz row;split at h;rename_i hc;have⟨x,h2,h⟩:=ah.1 h;cases h;refine⟨λ cs hcs=>hcs,λt ht=>?_,λ_ _ h=>by cases h⟩;simp[rR,List.cons.injEq,bV,and_true]at ht;subst ht;exact⟨_,h1,by simp[bP,vD];exact hc.1,⟨Tt hbad h2 hb (ER hc.2),trivial⟩⟩;cases h;cases h
 case mv=>
  simp[NQ,bV]at h;subst h;exact⟨λ cs hcs=>hcs,λt ht=>by simp[rR]at ht,λ_ _ h=>by cases h⟩
theorem IQ{q:RT X.ι}{x:RT.T X q}:(rR q x).length=(if q.out then 1 else 0)/\(Z0 q x).length=(if q.out then 1 else 0):=by cases q<;>exact⟨rfl,rfl⟩
theorem IU{n j:Nat}{q:RT X.ι}{l:U (RT X.ι)}:j∈vl n (q::l)->(j=n/\∃c,q=.mu c)\/j∈vl (if q.out then n+1 else n) l:=by
 cases q<;>simp only[vl,RT.out,if_true,Bool.false_eq_true,if_false,aL]
 case mu c=>grind
 all_goals grind
theorem ahU{j:Nat}:∀{l:U (RT X.ι)}{n:Nat},j∈vl n l->n<=j
 |[],n,h=>by trivial
 |q::l,n,h=>by
  rcases IU h with ⟨rfl,_⟩|h;exact aB _;have:=ahU h
  grind
theorem aff:∀{l:U (RT X.ι)}{x:uh X l}{n j:Nat},j∈vl n l->∃p,(qi l x)[j-n]? =some (some p)
 |[],x,n,j,h=>by trivial
 |[q],x,n,j,h=>by rcases IU h with ⟨rfl,c,rfl⟩|h;exact⟨_,by simp;rfl⟩;trivial
 |q::q'::l,x,n,j,h=>by
  rcases IU h with ⟨rfl,c,rfl⟩|h;exact⟨_,by simp;rfl⟩;have⟨p,hp⟩:=aff (l:=q'::l) (x:=x.2) h;have hge:=ahU h;refine⟨p,?_⟩;show(rR q x.1++qi (q'::l) x.2)[j-n]? =_;have hl:=(IQ (q:=q) (x:=x.1)).1
  all_goals grind
theorem Du:∀{l:U (RT X.ι)}{x:uh X l}{n j:Nat}{p:fC},(qi l x)[j]? =some (some p)->n+j∈Dt n l
 |[],x,n,j,p,h=>by trivial
 |[q],x,n,j,p,h=>by
  have h:(rR q x)[j]? =some (some p):=h;cases q<;>simp[rR]at h
  case mu c=>grind [Dt]
  case mr c=>grind [Dt]
  grind
 |q::q'::l,x,n,j,p,h=>by
  have h:(rR q x.1++qi (q'::l) x.2)[j]? =some (some p):=h;cases q
  case mu c=>
   rcases j with _|j;simp[Dt];have:=Du (l:=q'::l) (x:=x.2) (n:=n+1) (by simpa[rR]using h);right;rw[show n+(j+1)=n+1+j by omega];exact this
  case mr c=>
   rcases j with _|j;simp[Dt];have:=Du (l:=q'::l) (x:=x.2) (n:=n+1) (by simpa[rR]using h);right;rw[show n+(j+1)=n+1+j by omega];exact this
  case mv=>
   rcases j with _|j;simp[rR]at h;have:=Du (l:=q'::l) (x:=x.2) (n:=n+1) (by simpa[rR]using h);rw[show n+(j+1)=n+1+j by omega];exact this
  all_goals
   exact Du (l:=q'::l) (x:=x.2) (by simpa[rR]using h)
theorem afg{sn:U Nat}{wl:U (Nat×Nat)}{n:Nat}{q:RT X.ι}{ds:U (DV X)}{p:(RT.T X q×List Bool)×List (DV X)}(h:NQ get bad sn fk wl n q ds=some p)(hb:∀b∈p.1.2,b=true):∀eC c,q=.mu c->lk wl n=some eC->Z0 q p.1.1=[eC]:=by
 rintro eC c rfl hl;simp[NQ]at h;have⟨o,h1,h⟩:=ah.1 h;split at h;have⟨l,h2,h⟩:=ah.1 h;rw[hl]at h;cases h;have h5:(sub l 0 eC).length=eC:=by simp_all [aE]
 simp[Z0,h5];cases h
theorem L6{sn:U Nat}{wl:U (Nat×Nat)}:∀{n:Nat}{l:U (RT X.ι)}{ds:U (DV X)}{x:uh X l×List Bool},NR get bad sn fk wl n l ds=some x->(∀ b∈x.2,b=true)->∀j eC,n+j∈vl n l->lk wl (n+j)=some eC->(AN l x.1).getD j 0=eC
 |n,[],ds,x,h,hb,j,eC,hm,_=>by trivial
 |n,[q],ds,x,h,hb,j,eC,hm,hl=>by
  simp[NR]at h;have⟨p,h1,h⟩:=ah.1 h;split at h;cases h;rcases IU hm with ⟨e,c,rfl⟩|hm;have e:j=0:=by omega
  subst e;have:=(afg h1 hb) eC c rfl hl;show(Z0 _ p.1.1).getD 0 0=eC;rw[this];rfl;simp[vl]at hm;cases h
 |n,q::q'::l,ds,x,h,hb,j,eC,hm,hl=>by
  simp[NR]at h;have⟨p,h1,h⟩:=ah.1 h;have⟨y,h2,h⟩:=ah.1 h;cases h;have hlen:=(IQ (q:=q) (x:=p.1.1)).2;rcases IU hm with ⟨e,c,rfl⟩|hm;have e:j=0:=by omega
  subst e;have:=(afg h1 (λ b hb'=>hb b (by simp[hb']))) eC c rfl hl;show(Z0 _ p.1.1++AN (q'::l) y.1).getD 0 0=eC;rw[this];rfl;have hge:=ahU hm;show(Z0 _ p.1.1++AN (q'::l) y.1).getD j 0=eC;by_cases hq:q.out=true;rw[aY hq]at h2 hm hge hlen;have:=L6 h2 (λ b hb'=>hb b (by simp[hb'])) (j-1) eC ((show n+1+(j-1)=n+j by omega) ▸ hm) ((show n+1+(j-1)=n+j by omega) ▸ hl);rw[List.getD_eq_getElem?_getD,pX (by omega),hlen];exact this;rw[aT hq]at h2 hm hge hlen;have:=L6 h2 (λ b hb'=>hb b (by simp[hb'])) j eC hm hl;rw[List.getD_eq_getElem?_getD,pX (by omega),hlen]
  grind
theorem aby{sn:U Nat}{wl:U (Nat×Nat)}{ns:U Nat}(hbad:∀j,j∉bad->fk≠some j/\¬kept os' j)(sf:∀k,fk=some k->¬kept os' k)(hns:∀j eC,j∈sn->lk wl j=some eC->ns.getD j 0=eC)(hmu:∀j∈sn,kept os' j):∀{n:Nat}{l:U (RT X.ι)}{ds:U (DV X)}{x:uh X l×List Bool},NR get bad sn fk wl n l ds=some x->(∀ b∈x.2,b=true)->
 oR (gq get) fk os' (bL ds) (EK ns l x.1)/\∀j t,(qi l x.1)[j]? =some (some t)->∃o,get (n+j)=some o/\(bP o).sz=t.1/\ey (gq get) fk os' ((bP o).rows.take t.2.length) t.2
 |n,[],ds,x,h,_=>by simp[NR]at h;split at h;exact⟨trivial,λj t ht=>by trivial⟩;cases h
 |n,[q],ds,x,h,hb=>by
  simp[NR]at h;rw[ah]at h;obtain⟨p,h1,h⟩:=h;split at h;rename_i hp;cases h;have⟨i1,i2,_⟩:=XM (ns:=ns) hbad sf hns hmu h1 hb;rw[hp]at i1;have:=i1 [] trivial;rw[append_nil]at this;refine⟨this,λj t ht=>?_⟩;have ht:(rR q p.1.1)[j]? =some (some t):=ht;have hl:=(IQ (q:=q) (x:=p.1.1)).1;have hj:=(dx.1 ht).1;have hj0:j=0:=by grind
  subst hj0;refine i2 t ?_
  match ho:rR q p.1.1,ht,hl with
  |[z],ht,_=>grind
  |[],ht,_=>simp at ht
  |_::_::_,_,hl=>simp at hl;split at hl<;>omega
  cases h
 |n,q::q'::l,ds,x,h,hb=>by
  simp[NR]at h;have⟨p,h1,h⟩:=ah.1 h;have⟨y,h2,h⟩:=ah.1 h;cases h;obtain⟨i1,i2,_⟩:=XM (ns:=ns) hbad sf hns hmu h1 (λ b hb'=>hb b (by simp[hb']));obtain⟨k1,k2⟩:=aby (ns:=ns) hbad sf hns hmu h2 (λ b hb'=>hb b (by simp[hb']));refine⟨i1 _ k1,λj t ht=>?_⟩;have ht:(rR q p.1.1++qi (q'::l) y.1)[j]? =some (some t):=ht;have hl:=(IQ (q:=q) (x:=p.1.1)).1;by_cases hq:q.out=true;rw[aY hq]at k2 hl;rcases j with _|j;refine i2 t ?_
  match ho:rR q p.1.1,ht,hl with
  |[z],ht,_=>simpa using ht
  |[],_,hl|_::_::_,_,hl=>simp at hl
  rw[pX (by omega),hl]at ht;rw[show n+(j+1)=n+1+j by omega];exact k2 j t ht;rw[aT hq]at k2 hl;rw[pX (by omega),hl]at ht;exact k2 j t ht
end
theorem oR.R{get:Ω}{fk:J Nat}{os':U (Option fC)}:∀{xs:U AV}{cs:U RC},oR get fk os' xs cs->HQ get fk os' xs (match cs with|[c]=>.one c|cs=>.fm cs)
 |[],[],_=>rfl
 |[_],[_],h=>h.1
 |_::_::_,_::_::_,h=>h
 |[],_::_,h|_::_,[],h=>h.elim
 |[_],_::_::_,h|_::_::_,[_],h=>h.2.elim
theorem amB{s:cM X}{rs:U ResultVar}{l:U (RT X.ι)}{r:uh X l}(h:(Z7 T s rs λds=>(WF s l ds).bind λx=>WY x.2 (some x.1))=some r):∃xs fk,l8 T s.st rs=some xs/\HQ s.st.obj fk (qi l r) xs (uo l r)/\S8 s.st.obj fk (qi l r):=by
 have⟨ds,h1,h⟩:=Ki T h;rw[ah]at h;obtain⟨x,h2,h⟩:=h;have⟨h3,h⟩:=qN h;cases h;unfold WF at h2;split at h2;rename_i hnb;have hkn:∀j,kept (qi l x.1) j->j∈Dt 0 l:=λj ⟨p,hp⟩=>by
  have:=Du (n:=0) hp
  grind
 have hbad:∀j,j∉Dt 0 l++(QS l ds).toList->QS l ds≠some j/\¬kept (qi l x.1) j:=by
  grind
 have sf:∀k,QS l ds=some k->¬kept (qi l x.1) k:=λk hk hkk=>ER hnb k (by grind) (hkn k hkk);have hmu:∀j∈vl 0 l,kept (qi l x.1) j:=λj hj=>by have⟨p,hp⟩:=aff (x:=x.1) hj;exact⟨p,by grind⟩
 obtain⟨i1,i2⟩:=aby (ns:=AN l x.1) hbad sf (λ j eC hj hl=>L6 h2 h3 j eC (by grind) (by grind)) hmu h2 h3;have i9:s.st.obj=gq (gd s.obj):=rfl;refine⟨bL ds,QS l ds,QR T h1,?_,λj p hp=>?_⟩;exact i1.R;have⟨o,g1,g2,g3⟩:=i2 j p hp;rw[Nat.zero_add]at g1;exact⟨λ e=>sf j e ⟨p,hp⟩,bP o,by rw[i9];simp[gq,g1],g2,i9 ▸ g3⟩;cases h2
variable {Γ:FuncId->Option (ci X)} {code:TypeId->Option (CT X.ι)} {P:Program}
theorem aqD(hT : fB P T)(hm : P.follows .mixedOrders = true)(hΓ : qq P Γ){f : FuncId}{fn : Func}{c : Code}(hfn : P.funcs[f]? = some fn)(hb : fn.body = some c)(hname : (fn.name == "runtime.NumGoroutine") = false)(sa : U (AT X.ι))(sr : U (RT X.ι))(hN : sa.length <= fn.ntmps /\ wW sa <= 1000 /\ (sr.filter RT.out).length = wW sa)
 (h:Hn X.ι) (n:Nat) {a:jB X sa} {r:uh X sr} (hr:run Γ T code fn.ntmps n c (uh X sr) h (DD sa a) (aqC T fn.results.toList sr)=some r):rh P f (zx sa a) (vE sa a) (qi sr r) (uo sr r):=by
 have hl:(qi sr r).length=(vE sa a).length:=by
  rw[wZ,<- hN.2.2];have:∀(sr:U (RT X.ι))(r:uh X sr),(qi sr r).length=(sr.filter RT.out).length:=by
   intro sr
   induction sr with
   |nil=>intro r;rfl
   |cons q l ih=>
    intro r;have hq:∀x:RT.T X q,(rR q x).length=(if q.out then 1 else 0):=λx=>IQ.1;rcases l with _|⟨q',l⟩;show(rR q r).length=_;rw[hq];by_cases e:q.out=true<;>simp[e];show(rR q r.1++qi (q'::l) r.2).length=_
    grind
  grind
 refine akw hT hfn hb hname (by rw[uz];exact hN.1) (λ k hk=>?_) (by rw[wZ];exact hN.2.1) hl ?_;rw[zx,<- zh,jo]at hk;have:=qo 0 sa a k hk;omega;rw[<- apY];refine(gY hT hm hΓ c _ h _ _ r (aou sa a hN.2.1) hr).mono ?_;rintro e σ ⟨s',_,_,rfl,g4⟩;cases e<;>first|exact amB g4|cases g4
theorem qp{f : FuncId}{fn : Func}{c : Code}(hfn : P.funcs[f]? = some fn)(hb : fn.body = some c)(hname : (fn.name == "runtime.NumGoroutine") = false): eZ P f := ⟨fn, hfn, by grind, hname⟩
abbrev C3(P:Program)(f:FuncId)(s:ci X):Prop:=eZ P f/\(∀ a r,s.fn a=some r->rh P f (zx s.args a) (vE s.args a) (qi s.res r) (uo s.res r))/\∀g,s.gen=some g->H2 P f g
theorem At{P:Ξ}{f:FuncId}{s:ci X}(h:eZ P f)(h1:∀a r,s.fn a=some r->rh P f (zx s.args a) (vE s.args a) (qi s.res r) (uo s.res r))(hg:s.gen=none):C3 P f s:=by grind
theorem S0{P:Ξ}{f:FuncId}{g:cQ X}(h:eZ P f)(hg:H2 P f g):C3 P f ⟨[],[.d .bool],λ_=>none,some g⟩:=by grind
def pC(s t:ci X):ci X:=⟨s.args,s.res,s.fn,t.gen⟩
def z7(l:U (FuncId×ci X)):FuncId->J (ci X):=λf=>lk l f
theorem aC:qq P (z7 ([]:U (FuncId×ci X))):=λ_ _ h=>by cases h
theorem ak{f:FuncId}{s:ci X}{l:U (FuncId×ci X)}(h:C3 P f s)(hl:qq P (z7 l)):qq P (z7 ((f,s)::l)):=by intro g q hg;simp[z7,lk]at hg;split at hg;rename_i e;cases hg;subst e;exact h;exact hl g q hg
end
section
variable {X:SX} {T:en}
theorem EU(ol:Nat->Nat):∀(ps:U (Pt X.ι))(L:U (DC X)),(lE ol ps L).1.length=ps.length
 |[],_=>rfl
 |p::ps,L=>by simp[lE,EU ol ps]
def cQ.DE(g:cQ X):Bool:=
 decide (g.js.map (·.1)=List.range g.js.length)&&decide (g.js.length<=1000)&&((xO g.m5).all λk=>Nat.blt k 1000)&&g.js.all λq=>q.2.refs.all λk=>Nat.blt k 1000
def NT(g:cQ X)(v:VT (X:=X) (cP g.m5++df g.js)):cM X:=⟨(List.range g.m5.length).zip (g.args v),ID g.m5 g.js (wU _ v),1000,[]⟩
theorem vS{ol:Nat->Nat}:∀(O:U (Nat×OP X.ι))(L:U (DC X)),cO ol O L=(dL (cO ol O L)).map λp=>(p.1,some p.2)
 |[],L=>rfl
 |(k,.l c)::O,L=>by
  match L with
  |[]=>rfl
  |⟨.sl c',x⟩::L=>simp[cO,dL];rw[<- vS O L]
  |⟨.int _,x⟩::L|⟨.bool,x⟩::L|⟨.str,x⟩::L|⟨.any,x⟩::L|⟨.st _,x⟩::L|⟨.mp _ _,x⟩::L=>rfl
 |(k,.m kc vc)::O,L=>by
  match L with
  |[]=>rfl
  |⟨.mp _ _,x⟩::L=>simp[cO,dL];rw[<- vS O L]
  |⟨.sl _,x⟩::L|⟨.int _,x⟩::L|⟨.bool,x⟩::L|⟨.str,x⟩::L|⟨.any,x⟩::L|⟨.st _,x⟩::L=>rfl
 |(k,.c sz rows)::O,L=>by simp[cO,dL];rw[<- vS O _]
theorem EW{ol:Nat->Nat}:∀(O:U (Nat×OP X.ι))(L:U (DC X)),L.map (·.c)=df O->(dL (cO ol O L)).map (·.1)=O.map (·.1)
 |[],L,_=>rfl
 |(k,.l c)::O,L,h=>by
  match L,h with
  |⟨.sl c',x⟩::L,h=>
   simp[df]at h;simp[cO,dL,EW O L h.2]
  |[],h|⟨.int _,x⟩::L,h|⟨.bool,x⟩::L,h|⟨.str,x⟩::L,h|⟨.any,x⟩::L,h|⟨.st _,x⟩::L,h|⟨.mp _ _,x⟩::L,h=>simp[df]at h
 |(k,.m kc vc)::O,L,h=>by
  match L,h with
  |⟨.mp _ _,x⟩::L,h=>
   simp[df]at h;simp[cO,dL,EW O L h.2]
  |[],h|⟨.sl _,x⟩::L,h|⟨.int _,x⟩::L,h|⟨.bool,x⟩::L,h|⟨.str,x⟩::L,h|⟨.any,x⟩::L,h|⟨.st _,x⟩::L,h=>simp[df]at h
 |(k,.c sz rows)::O,L,h=>by simp[cO,dL,EW O _ (LX (ol:=ol) rows L _ h).1]
theorem ak0(g:cQ X)(v:VT (X:=X) (cP g.m5++df g.js))(h:g.js.map (·.1)=List.range g.js.length):(g.cD v).map (·.1)=List.range (g.cD v).length:=by have e:(g.cD v).map (·.1)=g.js.map (·.1):=EW g.js _ (by rw[List.map_drop,ahN,List.drop_left]);have l:=congrArg List.length e;rw[length_map,length_map]at l;rw[e,h,l]
theorem XO(k:Nat):∀l:U (Nat×bz X),gd (l.map λp=>(p.1,some p.2)) k=ux l k
 |[]=>rfl
 |p::l=>by simp[gd,lk,ux];split;rfl;exact XO k l
theorem ahV(t:Nat):∀(ks:U Nat)(ds:U (DV X)),den (ea (ks.zip ds) t)=(lk (ks.zip (bL ds)) t).getD .undef:=by
 intro ks
 induction ks with
 |nil=>intro ds;rfl
 |cons k ks ih=>
  intro ds;cases ds with
  |nil=>rfl
  |cons d ds=>
   simp[ea,lk,bL];by_cases h:k=t;simp[h];simp[aT h];exact ih ds
theorem QU(t:Nat):∀(ks:U Nat)(ds:U (DV X)),∀j∈bx (ea (ks.zip ds) t),j∈aP ds:=by
 intro ks
 induction ks with
 |nil=>intro ds j hj;simp[ea,lk,bx]at hj
 |cons k ks ih=>
  intro ds j hj;cases ds with
  |nil=>simp[ea,lk,bx]at hj
  |cons d ds=>
   simp[ea,lk]at hj;simp[aP];by_cases e:k=t;simp[aY e]at hj;exact .inl hj;simp[aT e]at hj;exact .inr (ih ds j hj)
def EX(O:U (Nat×OP X.ι)):U (Nat×Pt X.ι)->U (Nat×CT X.ι)
 |[]=>[]
 |(t,.o k)::r=>match lk O k with
  |some (.l c)=>(t,c)::EX O r
  |_=>EX O r
 |(t,.oz k)::r=>match lk O k with
  |some (.l c)=>(t+1099511627776,c)::EX O r
  |_=>EX O r
 |_::r=>EX O r
def XP(O:U (Nat×OP X.ι)):U (Nat×OP X.ι)->U (Nat×CT X.ι)
 |(q,.c _ [row])::r=>(EX O (ml (1000000+q*4096) row)).filter (λ p=>Nat.ble p.1 1000000000)++XP O r
 |_::r=>XP O r
 |[]=>[]
def xg(g:cQ X):Sh X.ι:=⟨ml 0 g.gh,g.j7,[],[],1000000,EX g.j7 (ml 0 g.gh)++XP g.j7 g.j7⟩
def UV(T:en)(rs:U ResultVar)(g:cQ X):Exit->cM X->J (VT (X:=X) (xg g).vars)
 |.normal,s=>Z7 T s rs λds=>bif decide (ds.length=g.gh.length)&&(aP ds).all (λ k=>Nat.blt k s.nx)then
  ql (xg g) (List.range ds.length) ⟨(List.range ds.length).zip ds,s.obj,s.nx,s.log⟩ ⟨(List.range ds.length).zip ds,s.obj,s.nx,s.log⟩ some else none
 |.ret,s=>Z7 T s rs λds=>bif decide (ds.length=g.gh.length)&&(aP ds).all (λ k=>Nat.blt k s.nx)then
  ql (xg g) (List.range ds.length) ⟨(List.range ds.length).zip ds,s.obj,s.nx,s.log⟩ ⟨(List.range ds.length).zip ds,s.obj,s.nx,s.log⟩ some else none
 |_,_=>none
theorem XQ{ol:Nat->Nat}(t:Nat):∀(n:Nat)(ps:U (Pt X.ι))(L:U (DC X)),ea (xM ol (ml n ps) L) (n+t)=((lE ol ps L).1[t]?).getD .undef
 |n,[],L=>by simp[ml,xM,ea,lk,lE]
 |n,p::ps,L=>by
  simp[ml,xM,ea,lk,lE];cases t with
  |zero=>simp
  |succ t=>
   have:=XQ (ol:=ol) t (n+1) ps (eP ol p L).2;rw[show n+1+t=n+(t+1)by omega]at this;simpa[ea]using this
theorem abz {P:Ξ} {g:cQ X} {s:cM X} {rs:U ResultVar} {r:VT (X:=X) (xg g).vars} (hl:Low s) (h:(Z7 T s rs λds=>bif decide (ds.length=g.gh.length)&&(aP ds).all (λ k=>Nat.blt k s.nx)then
 ql (xg g) (List.range ds.length) ⟨(List.range ds.length).zip ds,s.obj,s.nx,s.log⟩ ⟨(List.range ds.length).zip ds,s.obj,s.nx,s.log⟩ some else none)=some r):
 ∃xs,l8 T s.st rs=some xs/\HP P s.st.obj xs (pY (g.outs r)) (den (g.res r)):=by
 have⟨ds,h1,h⟩:=Ki T h;have⟨h2,h⟩:=eu h;simp only[aX,bq]at h2;obtain⟨h2,h3⟩:=h2;have hl':Low (⟨(List.range ds.length).zip ds,s.obj,s.nx,s.log⟩:cM X):=⟨hl.le,hl.ge,λt k hk=>by have:=all_eq_true.1 h3 k (QU t _ _ k hk);exact Nat.blt_eq.mp this,hl.obj⟩;obtain⟨v,h4,_,_,hrel⟩:=iV hl' hl' (Ext.refl _ _) h;injection h4 with h4;subst h4;refine⟨bL ds,QR T h1,λw0 O0 β I w vs hM hv=>?_⟩;have hvl:=bp.length _ _ hv;simp[jc]at hvl;have hR:Rel P w0 O0 vs.size β I (⟨(List.range ds.length).zip ds,s.obj,s.nx,s.log⟩:cM X).st { tmps:=vs,defers:=O0.GO } w:=by
  refine⟨rfl,rfl,λt=>?_,hM⟩;show VR P β w I (den (ea ((List.range ds.length).zip ds) t)) (vs.getD t undef);rw[ahV,show List.range ds.length=List.range (bL ds).length by rw[jc],zo];cases ht:(bL ds)[t]? with
  |none=>simp[VR]
  |some x=>
   obtain⟨u,g1,g2⟩:=bp.get _ _ t _ hv ht;rw[Array.getElem?_toList]at g1;simp[g1];exact g2
 obtain⟨β',hR'⟩:=hrel P w0 O0 _ β I _ w hR;have hn:(i6 (ml 0 g.gh)).length=(cP g.gh).length:=by rw[QG]
 refine⟨β',I,?_,λ_ h=>h,?_⟩;have:=hR'.mem;have e:(encS (xg g) ⟨(List.range ds.length).zip ds,s.obj,s.nx,s.log⟩ v).st.obj=qk (pY (g.outs v)):=by funext k;simp[cM.st,encS,xg,QL,cQ.outs,ID];rw[vS,XO,<- hn];rfl
 rw[e]at this;exact this;obtain⟨pv,hpv⟩:∃pv,pv=Xj g.gh g.j7 (wU (xg g).vars v):=⟨_,rfl⟩;have hres:g.res v=zw pv:=by rw[hpv];rfl
 have sR:∀t,VR P β' w I (den ((pv[t]?).getD .undef)) (vs.getD t undef):=by intro t;have:=hR'.env t;simp only[cM.st,dg,encS,xg,map_nil,append_nil]at this;have e:=XQ (ol:=EJ g.j7 ((wU (xg g).vars v).drop (cP g.gh).length)) t 0 g.gh ((wU (xg g).vars v).take (cP g.gh).length);rw[Nat.zero_add]at e;rw[hpv];simp only[Xj];rw[<- e,<- hn];exact this
 have hpl:pv.length=g.gh.length:=by rw[hpv];exact EU _ _ _
 have hsz:vs.size=pv.length:=by rw[hpl,<- h2,hvl]
 rw[hres];have hall:bp P β' w I (bL pv) vs.toList:=by
  have gen:∀(pv:U (DV X))(us:U Value),us.length=pv.length->(∀ t,t<pv.length->VR P β' w I (den ((pv[t]?).getD .undef)) (us.getD t undef))->bp P β' w I (bL pv) us:=by
   intro pv
   induction pv with
   |nil=>intro us hl _;cases us<;>simp_all [bL,bp]
   |cons d pv ih=>
    intro us hl hh;cases us with
    |nil=>simp at hl
    |cons u us=>
     simp[bL];refine⟨by simpa using hh 0 (by simp),ih us (by simpa using hl) λt ht=>by simpa using hh (t+1) (by simpa using ht)⟩
  refine gen pv vs.toList (by simpa using hsz) λt ht=>?_;have e:vs.toList.getD t undef=vs.getD t undef:=by simp
  rw[e];exact sR t
 match pv,hsz,hall with
 |[d],hsz,hall=>
  obtain⟨u,rfl⟩:=Array.size_eq_one_iff.1 (show vs.size=1 by simpa using hsz);simp only[bL,bp]at hall;simpa[zw]using hall.1
 |[],hsz,hall=>
  have h1:¬vs.size=1:=by rw[hsz];simp
  rw[dif_neg h1];simp only[zw,den,VR];exact⟨vs,rfl,hall⟩
 |d::e::pv,hsz,hall=>
  have h1:¬vs.size=1:=by rw[hsz];simp
  rw[dif_neg h1];simp only[zw,den,VR];exact⟨vs,rfl,hall⟩
variable {Γ:FuncId->Option (ci X)} {code:TypeId->Option (CT X.ι)} {P:Program}
theorem apZ(hT : fB P T)(hm : P.follows .mixedOrders = true)(hΓ : qq P Γ){f : FuncId}{fn : Func}{c : Code}(hfn : P.funcs[f]? = some fn)(hb : fn.body = some c)(hname : (fn.name == "runtime.NumGoroutine") = false)(g : cQ X)(hN : g.m5.length <= fn.ntmps)(hin : g.DE = true)
 (h:Hn X.ι) (n:Nat) (hr:∀v (r:VT (X:=X) (xg g).vars),g.fn v=some r->run Γ T code fn.ntmps n c (VT (X:=X) (xg g).vars) h (NT g v) (UV T fn.results.toList g)=some r):H2 P f g:=by
 intro v r hv;have hrun:=hr v r hv;simp only[cQ.DE,aX,bq]at hin;obtain⟨⟨⟨i1,i2⟩,i3⟩,i4⟩:=hin;obtain⟨s1,s2,_⟩:=zA (ol:=EJ g.js ((wU (cP g.m5++df g.js) v).drop (cP g.m5).length)) g.js ((wU _ v).drop (cP g.m5).length);have hargs:∀k∈aP (g.args v),k<1000:=λk hk=>Nat.blt_eq.mp (all_eq_true.1 i3 k (wY g.m5 _ k hk));have rm:∀p∈g.cD v,p.1<1000/\∀j∈ee p.2,j<1000:=by intro p hp;have⟨op,g1,g2⟩:=s2 p hp;have hk:p.1∈g.js.map (·.1):=mem_map.2 ⟨_,g1,rfl⟩;rw[i1]at hk;have:=List.mem_range.1 hk;exact⟨by omega,λj hj=>Nat.blt_eq.mp (all_eq_true.1 (all_eq_true.1 i4 _ g1) j (g2 j hj))⟩
 have hal:(g.args v).length=g.m5.length:=EU _ _ _;have hkeys:(g.cD v).map (·.1)=List.range (g.cD v).length:=ak0 g v i1;have i9:∀k,gd (NT g v).obj k=ux (g.cD v) k:=by intro k;show gd (cO _ g.js _) k=ux (dL (cO _ g.js _)) k;rw[vS,XO,<- vS]
 have arP:∀(l:U (Nat×bz X))(n:Nat),l.map (·.1)=(List.range l.length).map (n+ ·)->∀k,ux l (n+k)=(l[k]?).map (·.2):=by
  intro l
  induction l with
  |nil=>intro n _ k;rfl
  |cons p l ih=>
   intro n hn k;rw[gB,List.range_succ_eq_map,bK,bK,map_map]at hn;injection hn with e1 e2;simp[ux];cases k with
   |zero=>rw[aY (by omega)];rfl
   |succ k=>
    rw[aT (by omega),show n+(k+1)=(n+1)+k by omega,ih (n+1) (by rw[e2];refine List.map_congr_left λa _=>?_;simp;omega) k];rfl
 have hlow:Low (NT g v):=by
  refine⟨by show 1000<=1000000;decide,aB _,λt k hk=>hargs k (QU t _ _ k hk),λk o ho=>?_⟩;rw[i9]at ho;have hmem:∀(l:U (Nat×bz X)),ux l k=some o->(k,o)∈l:=by
   intro l
   induction l with
   |nil=>intro h;simp[ux]at h
   |cons p l ih=>
    intro h;simp[ux]at h;split at h;rename_i e;cases h;subst e;exact List.mem_cons_self;exact bQ _ (ih h)
  exact rm _ (hmem _ ho)
 refine aky hT hfn hb hname (by rw[jc,hal];exact hN) (λ k hk=>hargs k (by rwa [jo]at hk)) (by rw[length_map,<- length_map (f:=Prod.fst),hkeys,List.length_range];have:=s1.length_le;rw[length_map,length_map]at this;exact Nat.le_trans this i2) ?_ ?_;intro o ho r' hr' x hx j hj;obtain⟨p,hp,rfl⟩:=mem_map.1 ho;exact(rm p hp).2 j (XC hr' hx j hj);have e:so.st ⟨(List.range (bL (g.args v)).length).zip (bL (g.args v)),(List.range ((g.cD v).map λp=>bP p.2).length).zip ((g.cD v).map λp=>bP p.2)⟩=(NT g v).st:=by simp only[cM.st,so.st,St.mk.injEq,and_true];refine⟨?_,?_⟩;funext t;simp[NT];rw[ahV,jc,hal];funext k;rw[zo,i9,List.getElem?_map];have:=arP (g.cD v) 0 (by rw[hkeys];simp) k;rw[Nat.zero_add]at this;rw[this,Option.map_map];rfl
 rw[e];refine(gY hT hm hΓ c _ h _ _ r hlow hrun).mono ?_;rintro e σ ⟨s',hl',_,rfl,g4⟩;cases e<;>first|exact abz hl' g4|cases g4
end
structure gb(E:Nat->Prop)(W W':World):Prop where
 le:W.heap.size<=W'.heap.size
 keep:∀b,b<W.heap.size->¬E b->W'.heap[b]? =W.heap[b]?
 os:W'.os=W.os
 tape:W'.tape=W.tape
 output:W'.output=W.output
theorem gb.refl(E:Φ)(W:Δ):gb E W W:=⟨aB _,λ_ _ _=>rfl,rfl,rfl,rfl⟩
theorem gb.trans{E:Φ}{X Y Z:Δ}(h:gb E X Y)(k:gb E Y Z):gb E X Z:=
 ⟨Nat.le_trans h.le k.le,λb hb he=>(k.keep b (Nat.lt_of_lt_of_le hb h.le) he).trans (h.keep b hb he),k.os.trans h.os,k.tape.trans h.tape,k.output.trans h.output⟩
theorem gb.mono{E E':Φ}{X Y:Δ}(h:gb E X Y)(he:∀b,E b->E' b):gb E' X Y:=⟨h.le,λb hb hn=>h.keep b hb λe=>hn (he b e),h.os,h.tape,h.output⟩
theorem gb.alloc(E:Φ)(W:Δ)(o:Obj):gb E W (W.alloc o):=⟨by simp,λ_ hb _=>pE hb,rfl,rfl,rfl⟩
theorem gb.put{E:Φ}(W:Δ)(l:Nat)(o:Obj)(h:E l):gb E W (W.putObj l o):=
 ⟨by simp[World.putObj],λb _ hn=>World.putObj_heap_other (λ e=>hn (e ▸ h)),rfl,rfl,rfl⟩
def aqE(P:Ξ)(g:Nat)(lb:η)(ys:U Tree)(N:World->Prop):Prop:=
 ∀(n l:Nat)(J:(Nat->Prop)->Nat->World->Prop)(W0:World),N W0->(∀ S k W,J S k W->N W/\∀b,S b->b<W.heap.size)->J (λ _=>False) 0 W0->
  (∀ m S S' k x W1 W I2 v,ys[k]? =some x->J S k W1->gb S W1 W->(∀ b,S' b->S b\/(W1.heap.size<=b/\b<W.heap.size/\¬I2 b))->(∀ b,I2 b->W1.heap.size<=b/\b<W.heap.size)->TR W I2 x v->
   YieldAt Fence.wide m P l #[v] W λe W'=>e=.returned (.bool true)/\J S' (k+1) W'/\∀b,S' b\/I2 b->W'.heap[b]? =W.heap[b]?)->
  CallsIn Fence.wide n P g (#[.func (.yield l) #[] #[]]++lb) W0 λe W'=>(∃ v,e=.returned v)/\∃S W1,J S ys.length W1/\gb S W1 W'
variable {P:Program}
theorem QV{g:Operand}{p:Tmp}{assign body:Code}{Q:Exit->Act->World->Prop}{a:Act}{w:Δ}
 {gf:Nat} {lb:η} (hg:a.eval g=.func (.func gf) #[] lb) (eg:∀args w,(callFunc gf args).run P w=.ok (.enter gf args) w)
 {ys:U Tree} {N:World->Prop} (hseq:aqE P gf lb ys N) (hN:∀W,gb (λ _=>False) w W->N W) (D l:Nat) (hD:w.heap.size=D) (hl:l=D+1)
 (I:(Nat->Prop)->Nat->World->Prop) (hI:∀S k W,I S k W->N W/\∀b,S b->D+2<=b/\b<W.heap.size) (MD:∀S k W W',I S k W->gb (· =l) W W'->W'.heap.size=W.heap.size->I S k W')
 (h0:∀W,gb (λ _=>False) w W->W.heap.size=D+2->I (λ _=>False) 0 W)
 (tD:∀S S' k x W1 W I2 v,ys[k]? =some x->I S k W1->gb S W1 W->D+2<=W1.heap.size->(∀ b,S' b->S b\/(W1.heap.size<=b/\b<W.heap.size/\¬I2 b))->(∀ b,I2 b->W1.heap.size<=b/\b<W.heap.size)->TR W I2 x v->
  assign.wpIn (Fw (some l)) 0 P (λ e a1 W2=>e=.normal/\(∀ b,b=D\/b=l\/S' b\/I2 b->W2.heap[b]? =W.heap[b]?)/\
   ∀Wb,gb (· =l) W2 Wb->Wb.heap.size=W2.heap.size->body.wpIn (Fw (some l)) 0 P (λ e _ W'=>e=.normal/\I S' (k+1) W'/\∀b,b=D\/b=l\/S' b\/I2 b->W'.heap[b]? =Wb.heap[b]?) a1 Wb)
   { tmps:=a.tmps.setIfInBounds p v,defers:=[] } W)
 (hdone:∀S W1 W,I S ys.length W1->gb (λ b=>S b\/b=l) W1 W->W.heap[D]? =some (.deferred (some []))->Q .normal { a with defers:={ target:=.collected D,args:=#[] }::a.defers } W):
 (Code.rangeFunc g #[p] assign body).wpIn Fence.wide 0 P Q a w:=by
 subst hl;refine wpIn_rangeFunc ?_;intro fn hfn;obtain⟨rec,hrec⟩:∃rec:LoopState->J Code->Loop,rec=λst pe=>{ state:=st,pending:=pe,fn,tmps:=a.tmps,params:=#[p],assign,body,defers:=D }:=⟨_,rfl⟩;obtain⟨W1,hW1⟩:∃W1,(w.alloc (.deferred (some []))).alloc (.loop (rec .ready none))=W1:=⟨_,rfl⟩;have hL1:W1.heap[D+1]? =some (.loop (rec .ready none)):=by rw[<- hW1,<- hD];have:=World.alloc_heap_new (w.alloc (.deferred (some []))) (.loop (rec .ready none));rwa [World.size_alloc]at this
 have hK1:W1.heap[D]? =some (.deferred (some [])):=by rw[<- hW1,<- hD];exact(Below.heap_alloc _ _ _ (by simp)).trans (World.alloc_heap_new w _)
 have hs1:W1.heap.size=D+2:=by rw[<- hW1];simp[hD]
 have hb1:gb (λ _=>False) w W1:=by rw[<- hW1];exact(gb.alloc _ w _).trans (gb.alloc _ _ _)
 refine⟨D+1,[{ target:=.collected D,args:=#[] }],W1,{ target:=.fn (.func gf) lb,args:=#[.func (.yield (D+1)) #[] #[]] },W1,gf,
  #[.func (.yield (D+1)) #[] #[]]++lb,W1,?_,?_,?_,?_,λh=>by simp[Fence.wide]at h,?_⟩
 rw[<- hW1,hrec,<- hD];exact run_enterLoop_outer _ _ _ _ _;simp only[resolve,hg];simp[go_sem];intro f' hf';trivial;simp[invoke,go_sem,eg]
 refine(hseq (0-1) (D+1) (λ S k W=>I S k W/\D+2<=W.heap.size/\W.heap[D+1]? =some (.loop (rec .ready none))/\W.heap[D]? =some (.deferred (some []))) W1 (hN _ hb1) (λ S k W h=>⟨(hI S k W h.1).1,λb hb=>((hI S k W h.1).2 b hb).2⟩)
  ⟨h0 _ hb1 hs1,by omega,hL1,hK1⟩ ?_).mono ?_
 rintro m S S' k x W2 W I2 v hx ⟨hi,hq,hl,hk⟩ hext hS' hI2 hv;have hSD:∀b,S b->D+2<=b:=λb hb=>((hI S k W2 hi).2 b hb).1;have arU:∀b,S' b->D+2<=b:=λb hb=>by rcases hS' b hb with h|h;exact hSD b h;omega
 have hlt:D+1<W2.heap.size:=(Array.getElem?_eq_some_iff.1 hl).1;have hlW:W.heap[D+1]? =some (.loop (rec .ready none)):=(hext.keep _ hlt (λ e=>by have:=hSD _ e;omega)).trans hl;have hkW:W.heap[D]? =some (.deferred (some [])):=(hext.keep _ (by omega) (λ e=>by have:=hSD _ e;omega)).trans hk;have hy:(Instr.yield (D+1) #[v]).run P W=.ok (.round (D+1) fn (a.tmps.setIfInBounds p v) assign body) W:=by rw[run_yield (P:=P) (args:=#[v]) hlW (by rw[hrec];rfl),hrec];simp
 suffices h:YieldAt Fence.wide 0 P (D+1) #[v] W λe W'=>e=.returned (.bool true)/\(I S' (k+1) W'/\D+2<=W'.heap.size/\W'.heap[D+1]? =some (.loop (rec .ready none))/\W'.heap[D]? =some (.deferred (some [])))/\∀b,S' b\/I2 b->W'.heap[b]? =W.heap[b]? by obtain⟨f1,t1,c1,c2,h1,h2⟩:=h;exact⟨f1,t1,c1,c2,h1,h2.1,λc cs _=>h2.2 c cs (λ d h=>by simp[Fence.wide]at h)⟩
 refine⟨fn,_,assign,body,hy,roundIn_of_wpIn hfn (wpIn_mono (tD S S' k x W2 W I2 v hx hi hext hq hS' hI2 hv) ?_)⟩;rintro e a1 W3 ⟨rfl,hkeep,hbody⟩;have hl3:=(hkeep _ (.inr (.inl rfl))).trans hlW;refine⟨_,run_beginRound hl3 (by rw[hrec]),wpIn_mono (hbody _ (gb.put _ _ _ rfl) (by simp[World.putObj])) ?_⟩;rintro e a2 W4 ⟨rfl,hi4,hk4⟩;have hl4:W4.heap[D+1]? =some (.loop (rec .busy none)):=(hk4 _ (.inr (.inl rfl))).trans (by rw[hrec];exact World.putObj_heap_same (Array.getElem?_eq_some_iff.1 hl3).1);have hr:=run_endRound (P:=P) none hl4;rw[hrec]at hr;have arZ:∀b,S' b\/I2 b->b≠D+1:=by rintro b (hb|hb);have:=arU b hb;omega;have:=hI2 b hb;omega
 have arK:D+1<W4.heap.size:=(Array.getElem?_eq_some_iff.1 hl4).1;refine⟨_,_,hr,rfl,⟨MD _ _ _ _ hi4 (gb.put _ _ _ rfl) (by simp[World.putObj]),by simp only[World.putObj,Array.size_setIfInBounds];omega,?_,?_⟩,λb hb=>?_⟩;rw[hrec];exact World.putObj_heap_same arK;exact(World.putObj_heap_other (by omega)).trans ((hk4 _ (.inl rfl)).trans ((World.putObj_heap_other (by omega)).trans ((hkeep _ (.inl rfl)).trans hkW)));have hne:=arZ b hb;exact(World.putObj_heap_other hne).trans ((hk4 _ (.inr (.inr hb))).trans ((World.putObj_heap_other hne).trans (hkeep _ (.inr (.inr hb)))));rintro e W2 ⟨⟨v,rfl⟩,S,W3,⟨hi,hq,hl,hk⟩,hext⟩;have hSD:∀b,S b->D+2<=b:=λb hb=>((hI S _ W3 hi).2 b hb).1;have hlt:D+1<W3.heap.size:=(Array.getElem?_eq_some_iff.1 hl).1;have hl2:=(hext.keep _ hlt (λ e=>by have:=hSD _ e;omega)).trans hl;have he:=run_endLoop (P:=P) hl2 (by rw[hrec];simp);rw[hrec]at he;refine⟨none,_,he,hdone S W3 _ hi ((hext.mono λb h=>.inl h).trans (gb.put _ _ _ (.inr rfl))) ((World.putObj_heap_other (by omega)).trans ((hext.keep _ (by omega) (λ e=>by have:=hSD _ e;omega)).trans hk))⟩
end Go.Gb
namespace Go.Gb
open Go.RowKit
section
variable {P:Program} {w0:World} {O0:iu} {N:Nat} {β:Nat->Option cH} {I:Nat->Prop} {obj:Nat->Option aR} {w:World}
theorem Mem.ext{E I2:Φ}{w':Δ}(h:Mem P w0 O0 β I obj w)(hx:gb E w w')(hE:∀q,E q->w0.heap.size<=q/\¬I q/\∀k o,obj k=some o->¬gi β k q)(hI:∀b,I2 b->w.heap.size<=b/\b<w'.heap.size):
 Same I w w'/\Mem P w0 O0 β (λ b=>I b\/I2 b) obj w':=by have hle:=hx.le;have hle0:=h.le;have hs:Same I w w':=λb hb=>hx.keep b (h.lt b hb) λe=>(hE b e).2.1 hb;refine⟨hs,λk o hk=>?_,h.eI,λk o B b h1 h2 h3=>?_,?_,?_,λb hb hno=>?_,by omega,hx.os.trans h.os,hx.tape.trans h.tape,hx.output.trans h.output,h.anch,h.vars.mono hs λ_ h=>.inl h⟩;have⟨B,hB,hO⟩:=h.cD k o hk;exact⟨B,hB,OR.mono (λ _ _ h=>h) hs (λ _ h=>.inl h) (λ b hb=>hx.keep b (h.ownB k o B b hk hB hb).2.1 λe=>(hE b e).2.2 k o hk ⟨B,hB,hb⟩) hO⟩;have⟨g1,g2,g3⟩:=h.ownB k o B b h1 h2 h3;exact⟨λ hi=>hi.elim g1 λhi=>by have:=(hI b hi).1;omega,by omega,g3⟩;rintro b (hb|hb);have:=h.lt b hb;omega;exact(hI b hb).2;rintro b (hb|hb);exact h.up b hb;exact .inr (.inr (by have:=(hI b hb).1;omega));exact(hx.keep b (by omega) λe=>by have:=(hE b e).1;omega).trans (h.keep b hb hno)
theorem Mem.union{E:Φ}{dl:U Deferred}{β':ζ}{I':Φ}{kq:Ω}{w':Δ}(h:Mem P w0 O0 β I obj w)(hE:∀q,E q->¬I q)
 (h':Mem P w (C7 w0 O0 I E dl) β' I' kq w'):Mem P w (C7 w0 O0 I E dl) β' (λ b=>I' b\/I b) kq w':=by refine⟨λ k o hk=>?_,h'.eI,λk o B b h1 h2 h3=>?_,?_,?_,h'.keep,h'.le,h'.os,h'.tape,h'.output,h'.anch,h'.vars.mono (λ _ _=>rfl) λ_ h=>.inl h⟩;have⟨B,hB,hO⟩:=h'.cD k o hk;exact⟨B,hB,OR.mono (λ _ _ h=>h) (λ _ _=>rfl) (λ _ h=>.inl h) (λ _ _=>rfl) hO⟩;have⟨g1,g2,g3⟩:=h'.ownB k o B b h1 h2 h3;refine⟨λ hi=>hi.elim g1 λhi=>?_,g2,g3⟩;rcases g3 with g3|g3;exact g3.2.2 hi;have:=h.lt b hi;omega;rintro b (hb|hb);exact h'.lt b hb;exact Nat.lt_of_lt_of_le (h.lt b hb) h'.le;rintro b (hb|hb);exact h'.up b hb;exact .inl ⟨h.up b hb,λe=>hE b e hb⟩
theorem Mem.J1(h:Mem P w0 O0 β I obj w){anc:ζ}(lt:∀j B,anc j=some B->j<1000)(ha:∀j B,anc j=some B->β j=some B)(dl:U Deferred):Mem P w0 ⟨O0.own,O0.qv,anc,lt,dl⟩ β I obj w:=
 ⟨h.cD,h.eI,h.ownB,h.lt,h.up,h.keep,h.le,h.os,h.tape,h.output,ha,h.vars⟩
end
def coll(D:Nat):Deferred:={ target:=.collected D,args:=#[] }
def RK(P:Ξ)(w0:Δ)(O0:iu)(w1:Δ)(O1:iu):Prop:=
 ∃ds:J Nat,O1.GO=ds.toList.map coll/\∀(β:Nat->J cH) (I:Nat->Prop) (obj:Nat->J aR) (w:World),Mem P w1 O1 β I obj w->Mem P w0 O0 β I obj w/\∀D,ds=some D->w0.heap.size<=D/\ll β I obj w D/\w.heap[D]? =some (.deferred (some []))
theorem RK.refl{P:Ξ}{w0:Δ}{O0:iu}(h:O0.GO=[]):RK P w0 O0 w0 O0:=⟨none,h,λ_ _ _ _ h=>⟨h,λ_ h=>by cases h⟩⟩
def Tv{V Y:Type}(f:V->Y->J V):U Y->V->J V
 |[],v=>some v
 |y::l,v=>(f v y).bind (Tv f l)
section
variable {X:SX}
def QP:Pt X.ι->Bool
 |.p k=>Nat.blt k 1000
 |.f _ [] [.p k]=>Nat.blt k 1000
 |_=>false
structure A0(X:SX) where
 sh:Sh X.ι
 hb:Hn X.ι
 gf:FuncId
 e:CT X.ι
 F:List (CT.T X.toSE e)->Option (List (List Int))
def wi(s:cM X)(k:Nat):cM X:=⟨s.env,(k,none)::s.obj,s.nx,k::s.log⟩
variable (Γ:FuncId->Option (ci X)) (T:en) (code:TypeId->Option (CT X.ι)) (N n:Nat) (i:A0 X)
noncomputable def R0(p:Tmp)(vA vx:Code)(s:cM X)(v:VT (X:=X) i.sh.vars)(y:U Int):J (VT (X:=X) i.sh.vars):=
 run Γ T code N n vA _ .z ⟨(p,.c (.sl (.int .i64)) y)::(encS i.sh s v).env,(encS i.sh s v).obj,(encS i.sh s v).nx,(encS i.sh s v).log⟩ λe s1=>match e with
  |.normal=>run Γ T code N n vx _ i.hb s1 λe s2=>match e with
   |.normal=>ql i.sh (i.sh.slots.map (·.1)++p::(eX vA++eX vx)) s s2 some
   |_=>none
  |_=>none
noncomputable def amC{A:Type}(c:Code)(s:cM X)(k:cM X->J A):J A:=
 match c with
 |.rangeFunc (.tmp gt) ps vA vx=>match ps.toList,ea s.env gt with
  |[p],.fn gf [] [.ptr kc 0 0]=>match gd s.obj kc with
   |some (.cells 1 [[d]])=>bif decide (gf=i.gf)&&decide (p<N)&&i.sh.slots.all (λ q=>QP q.2)&&i.sh.keep.all (λ t=>(bx (ea s.env t)).isEmpty)then
    (dat d (.sl i.e)).bind λx=>ahS false i.sh (i.sh.slots.map (·.1)++p::(eX vA++eX vx)) (wi s kc) (wi s kc) λv0=>
     (i.F x).bind λys=>(Tv (R0 Γ T code N n i p vA vx (wi s kc)) ys v0).bind λv=>k (encS i.sh (wi s kc) v)else none
   |_=>none
  |_,_=>none
 |_=>none
def Hc(P:Ξ)(i:A0 X):Prop:=∀x ys,i.F x=some ys->∀(w:World)(I:Nat->Prop)(b o:Nat),(∀ b,I b->b<w.heap.size)->k5 w I->I b->eh w I [.sl (List.map (CT.row X.toSE i.e) x)] b o->
 aqE P i.gf #[.pointer (some ⟨b,o,none⟩)] (ys.map λy=>.sl (y.map (CT.row X.toSE (.int .i64)))) λW=>Same I w W/\w.heap.size<=W.heap.size
end
section
variable {X:SX} {Γ:FuncId->Option (ci X)} {T:en} {code:TypeId->Option (CT X.ι)} {N n:Nat} {P:Program} {i:A0 X}
theorem ajL(s:cM X)(k j:Nat):gd (wi s k).obj j=if k=j then none else gd s.obj j:=by simp only[wi,gd,lk];split<;>rfl
theorem Low.wi{s:cM X}(h:Low s)(k:Nat):Low (wi s k):=⟨h.le,h.ge,h.env,λj o ho=>by rw[ajL]at ho;split at ho;cases ho;exact h.obj j o ho⟩
theorem Rel.xv{w0:Δ}{O0:iu}{β:ζ}{I:Φ}{s:cM X}{a:Act}{w:Δ}{k b sz:Nat}{o:bz X}{nn:Ex}(hr:Rel P w0 O0 N β I s.st a w)(ho:gd s.obj k=some o)(hβ:β k=some (.at b sz nn)):
 Rel P w0 O0 N β (λ q=>I q\/q=b) (wi s k).st a w:=by
 have hk:s.st.obj k=some (bP o):=by simp[cM.st,ho]
 have hs:∀j q,(Gb.wi s k).st.obj j=some q->j≠k/\s.st.obj j=some q:=λj q hq=>by simp only[cM.st,ajL]at hq;split at hq;cases hq;exact⟨λ e=>‹¬ k=j› e.symm,hq⟩
 have hm:=hr.mem;obtain⟨g1,g2,g3⟩:=hm.ownB k _ _ b hk hβ rfl;refine⟨hr.defers,hr.size,λt=>dg.mono (λ _ _ h=>h) (λ _ _=>rfl) (λ _ h=>.inl h) (hr.env t),λj q hq=>?_,λj j' q q' B B' c h1 h2=>hm.eI j j' q q' B B' c (hs j q h1).2 (hs j' q' h2).2,λj q B c h1 h2 h3=>?_,?_,?_,hm.keep,hm.le,hm.os,hm.tape,hm.output,hm.anch,hm.vars.mono (λ _ _=>rfl) λ_ h=>.inl h⟩;have⟨B,hB,hO⟩:=hm.cD j q (hs j q hq).2;exact⟨B,hB,OR.mono (λ _ _ h=>h) (λ _ _=>rfl) (λ _ h=>.inl h) (λ _ _=>rfl) hO⟩;have⟨e1,e2⟩:=hs j q h1;have⟨i1,i2,i3⟩:=hm.ownB j q B c e2 h2 h3;exact⟨λ hi=>hi.elim i1 λe=>e1 (hm.eI j k q _ B _ c e2 hk h2 hβ h3 (by rw[e];rfl)),i2,i3⟩;rintro c (hc|rfl);exact hm.lt c hc;exact g2;rintro c (hc|rfl);exact hm.up c hc;exact .inr g3
theorem QW{ol Se:Nat->Nat}:∀(sl:U (Nat×Pt X.ι))(L L':U (DC X)),sl.all (λ q=>QP q.2)=true->xM ol sl L=xM Se sl L'/\
 ∀q∈xM ol sl L,∀(P:Program) (β0 β:Nat->J cH) (w:World) (I:Nat->Prop) (v:Value),(∀ k B,k<1000->β0 k=some B->β k=some B)->VR P β0 w I (den q.2) v->VR P β w I (den q.2) v
 |[],_,_,_=>⟨rfl,λ_ h=>by simp[xM]at h⟩
 |(t,p)::r,L,L',h=>by
  simp only[all_cons,aX]at h;obtain⟨h1,h2⟩:=h;have hp:eP ol p L=((eP Se p L').1,L)/\∀(P:Program) (β0 β:Nat->J cH) (w:World) (I:Nat->Prop) (v:Value),(∀ k B,k<1000->β0 k=some B->β k=some B)->VR P β0 w I (den (eP ol p L).1) v->VR P β w I (den (eP ol p L).1) v:=by
   unfold QP at h1;split at h1;rename_i k;refine⟨rfl,λP β0 β w I v hb hv=>?_⟩;simp only[eP,den,VR]at hv ⊢;obtain⟨b,sz,n,g1,g2⟩:=hv;exact⟨b,sz,n,hb k _ (Nat.blt_eq.mp h1) g1,g2⟩;rename_i k;refine⟨rfl,λP β0 β w I v hb hv=>?_⟩;simp only[eP,lE,den,bL,VR]at hv ⊢;obtain⟨fs,cs,e1,e2,e3⟩:=hv
   refine⟨fs,cs,e1,by cases hh:fs.toList with
    |nil=>trivial
    |cons=>rw[hh]at e2;exact e2.elim,?_⟩
   match cs.toList,e3 with
   |[c],e3=>
    simp only[bp,VR]at e3 ⊢;obtain⟨⟨b,sz,n,g1,g2⟩,_⟩:=e3;exact⟨⟨b,sz,n,hb k _ (Nat.blt_eq.mp h1) g1,g2⟩,trivial⟩
   cases h1
  obtain⟨i1,i2⟩:=QW r L L' (h2:_);simp only[xM];have e2:(eP Se p L').2=L':=by unfold QP at h1;split at h1<;>first|rfl|cases h1
  rw[e2,hp.1];refine⟨by rw[i1],λq hq=>?_⟩;rcases aL.1 hq with rfl|hq;have:=hp.2;rw[hp.1]at this;exact this;exact i2 q hq
theorem ajM{sh:Sh X.ι}{s:cM X}(h1:sh.slots.all (λ q=>QP q.2)=true)(h2:sh.keep.all (λ t=>(bx (ea s.env t)).isEmpty)=true)(v0 v:VT (X:=X) sh.vars){β0 β:ζ}{w w':Δ}{I I':Φ}
 (hb:∀k B,k<1000->β0 k=some B->β k=some B) (hs:Same I w w') (hi:∀b,I b->I' b) {t:Nat} {u:Ψ} (hv:VR P β0 w I (den (ea (encS sh s v0).env t)) u):VR P β w' I' (den (ea (encS sh s v).env t)) u:=by
 have e:(encS sh s v).env=(encS sh s v0).env:=by simp only[encS];rw[(QW sh.slots _ _ h1).1]
 rw[e];refine VR.mono (λ _ _ h=>h) hs hi _ _ ?_;cases hh:lk (encS sh s v0).env t with
 |none=>simp[ea,hh,den,VR]
 |some d=>
  have hd:ea (encS sh s v0).env t=d:=by simp[ea,hh]
  rw[hd]at hv ⊢;have hm:=rD hh;simp only[encS,bF,mem_map]at hm;rcases hm with hm|⟨t',ht,he⟩;exact(QW (Se:=λ_=>0) sh.slots _ [] h1).2 _ hm P β0 β w I u hb hv;injection he with e1 e2;subst e1;subst e2;have:=all_eq_true.1 h2 _ ht;refine VR.restrict (D:=λ_=>False) (λ _ h=>h.elim) _ _ (λ k hk=>?_) hv;rw[ja]at hk;rw[List.isEmpty_iff.1 this]at hk;cases hk
theorem Low.put{s:cM X}(h:Low s)(p:Nat)(c:CT X.ι)(y:CT.T X.toSE c):Low (⟨(p,.c c y)::s.env,s.obj,s.nx,s.log⟩:cM X):=by
 refine⟨h.le,h.ge,λt k hk=>?_,h.obj⟩;by_cases e:p=t;simp[ea,lk,e,bx]at hk;have:ea ((p,DV.c c y)::s.env) t=ea s.env t:=by simp[ea,lk,aT e]
 rw[this]at hk;exact h.env t k hk
theorem drop_cons{α:Type}{l:U α}{k:Nat}{x:α}(h:l[k]? =some x):l.drop k=x::l.drop (k+1):=by have⟨h1,h2⟩:=dx.1 h;rw[List.drop_eq_getElem_cons h1,h2]
theorem amD(hT:fB P T)(hm:P.follows .mixedOrders=true)(hΓ:qq P Γ)(yl:Hc P i)(eg:∀args w,(callFunc i.gf args).run P w=.ok (.enter i.gf args) w){c:Code}{A:Type}{s0:cM X}{k:cM X->Option A}{r:A}(MT:Low s0)(hr:amC Γ T code N n i c s0 k=some r)
 {w0:Δ} {O0:iu} (hd:O0.GO=[]) (lz:∀j,O0.anc j=none) {K:Exit->Act->World->Prop}
 (hK:∀s',Low s'->k s'=some r->∀w1 O1 β I a w,RK P w0 O0 w1 O1->Rel P w1 O1 N β I s'.st a w->K .normal a w) (β:Nat->Option cH) (I:Φ) (a:Act) (w:Δ) (hrel:Rel P w0 O0 N β I s0.st a w):c.wpIn Fence.wide 0 P K a w:=by
 unfold amC at hr;split at hr<;>try cases hr
 rename_i gt ps vA vx;split at hr<;>try cases hr
 rename_i p gf kc hps hg;split at hr<;>try cases hr
 rename_i d hkc;obtain rfl:ps=#[p]:=by rw[<- Array.toList_inj];exact hps
 have hcr:=eu hr;clear hr;obtain⟨hc,hr⟩:=hcr;simp only[aX,bq]at hc;obtain⟨⟨⟨rfl,hp⟩,ha1⟩,ha2⟩:=hc;have⟨x0,hdat,hr⟩:=ah.1 hr;obtain⟨ds,hds⟩:∃ds,i.sh.slots.map (·.1)++p::(eX vA++eX vx)=ds:=⟨_,rfl⟩;rw[hds]at hr;have hgv:=hrel.env gt;simp only[cM.st,dg,hg,den,bL,VR]at hgv;obtain⟨fs,cs,hge,hfs,hcs⟩:=hgv;obtain⟨bc,szc,nc,hcap,hβc⟩:∃b sz n,(fs=#[]/\cs=#[.pointer (some ⟨b,Ex.s n,none⟩)])/\β kc=some (.at b sz n):=by
  obtain⟨fs⟩:=fs;obtain⟨cs⟩:=cs
  match fs,hfs,cs,hcs with
  |[],_,[c],hcs=>
   simp only[bp,VR]at hcs;obtain⟨⟨b,sz,n,g1,rfl⟩,_⟩:=hcs;exact⟨b,sz,n,⟨rfl,by simp⟩,g1⟩
  |_::_,hfs,_,_=>simp[bp]at hfs
  |[],_,[],hcs=>simp[bp]at hcs
  |[],_,_::_::_,hcs=>simp[bp]at hcs
 obtain⟨rfl,rfl⟩:=hcap;obtain⟨I1,hI1⟩:∃I1:Nat->Prop,(λ q=>I q\/q=bc)=I1:=⟨_,rfl⟩;have hrow:eh w I1 [.sl (List.map (CT.row X.toSE i.e) x0)] bc nc.s:=by obtain⟨B,hB,hO⟩:=hrel.mem.cD kc _ (by simp[cM.st,hkc];rfl);rw[hβc]at hB;injection hB with ij;subst ij;obtain⟨rfl,c,e,h1,h2,h3⟩:=hO;simp only[bP,cd,cW,bK,map_nil,bL]at h3;obtain⟨_,⟨⟨u,g1,g2,_⟩,_⟩,_⟩:=h3;have g3:=(ajG hdat).1 _ _ _ _ _ g2;simp only[den,CT.tv,TV.av,VR]at g3;exact⟨⟨u,by simp[World.cell?,h1,g1],TR.mono (λ _ _=>rfl) (λ b hb=>by rw[<- hI1];exact .inl hb) _ _ g3⟩,trivial⟩
 have hZ:=hrel.xv hkc hβc;rw[hI1]at hZ;have hbc:I1 bc:=by rw[<- hI1];exact .inr rfl
 clear hI1 hkc hβc hrel hdat hg;obtain⟨s,hs0⟩:∃s,wi s0 kc=s:=⟨_,rfl⟩;have ha2:i.sh.keep.all (λ t=>(bx (ea s.env t)).isEmpty)=true:=by rw[<- hs0];exact ha2
 have hl:Low s:=hs0 ▸ MT.wi kc;rw[hs0]at hr hZ;clear hs0 MT;obtain⟨v0,hr,hl0,hx0,L7⟩:=NP hl hl (Ext.refl _ s) hr;have⟨ys,hys,hr⟩:=ah.1 hr;have⟨ve,hve,hr⟩:=ah.1 hr;have⟨β0,mj⟩:=L7 P w0 O0 N β I1 a w (.inr lz) hZ;clear L7;have hM0:=mj.mem;obtain⟨O1,hO1,hO1d⟩:∃O1:iu,O1=⟨O0.own,O0.qv,λj=>if j<1000 then β0 j else none,λj B hj=>(by split at hj;exact ‹j<1000›;cases hj),[]⟩/\O1.GO=[]:=⟨_,rfl,rfl⟩;have hM1:Mem P w0 O1 β0 I1 (encS i.sh s v0).st.obj w:=by rw[hO1];exact hM0.J1 _ (λ j B hj=>by split at hj<;>first|exact hj|cases hj) []
 have hback:∀{β I obj w},Mem P w0 O1 β I obj w->Mem P w0 O0 β I obj w:=λ{β I obj w} h=>by rw[hO1]at h;exact⟨h.cD,h.eI,h.ownB,h.lt,h.up,h.keep,h.le,h.os,h.tape,h.output,λj B hj=>(by rw[lz j]at hj;cases hj),h.vars⟩
 have hlow:∀{β I obj w},Mem P w0 O1 β I obj w->∀k B,k<1000->β0 k=some B->β k=some B:=λ{β I obj w} h k B hk hB=>h.anch k B (by rw[hO1];show(if k<1000 then β0 k else none)=some B;rw[aY hk];exact hB);obtain⟨D,hD⟩:∃D,w.heap.size=D:=⟨_,rfl⟩;have arw:w0.heap.size<=D:=hD ▸ hM0.le
 let J:(Nat->Prop)->Nat->World->Prop:=λS k W=>∃ β I' v,Mem P w0 O1 β I' (encS i.sh s v).st.obj W/\(∀ b,I1 b->I' b)/\Same I1 w W/\Low (encS i.sh s v)/\Ext (· ∈ds) s (encS i.sh s v)/\Tv (R0 Γ T code N n i p vA vx s) (ys.drop k) v=some ve/\
  (∀ b,(b=D\/b=D+1\/S b)->ll β I' (encS i.sh s v).st.obj W b)/\∀b,S b->D+2<=b
 have hdef:a.defers=[]:=mj.defers.trans hd;refine QV (ys:=ys.map λy=>.sl (y.map (CT.row X.toSE (.int .i64)))) (a:=a) (w:=w) hge eg (yl _ _ hys w I1 bc nc.s hM1.lt hM1.vars hbc hrow) (λ W hW=>⟨λ b hb=>hW.keep b (hM1.lt b hb) id,hW.le⟩) D (D+1) hD rfl J ?_ ?_ ?_ ?_ ?_
 .rintro S k W ⟨β,I',v,h1,h2,h3,h4,h5,h6,h8,h9⟩;exact⟨⟨h3,by have:=(h8 D (.inl rfl)).lt;omega⟩,λb hb=>⟨h9 b hb,(h8 b (.inr (.inr hb))).lt⟩⟩
 .rintro S k W W' ⟨β,I',v,h1,h2,h3,h4,h5,h6,h8,h9⟩ hx hsz;have hfl:=h8 (D+1) (.inr (.inl rfl));obtain⟨hs,hm'⟩:=h1.ext (I2:=λ_=>False) hx (λ q' e=>by subst e;exact⟨by omega,hfl.qv,hfl.obj⟩) (λ _ h=>h.elim);refine⟨β,_,v,hm',λb hb=>.inl (h2 b hb),λb hb=>(hs b (h2 b hb)).trans (h3 b hb),h4,h5,h6,λb hb=>?_,h9⟩;have:=h8 b hb;exact⟨by rw[hsz];exact this.lt,λhi=>hi.elim this.qv id,this.obj⟩
 .intro W hx hsz;obtain⟨hs,hm'⟩:=hM1.ext (E:=λ_=>False) (I2:=λ_=>False) hx (λ _ h=>h.elim) (λ _ h=>h.elim);refine⟨β0,_,v0,hm',λb hb=>.inl hb,hs,hl0,hx0,by simpa using hve,λb hb=>?_,λ_ h=>h.elim⟩;have hb':D<=b/\b<W.heap.size:=by rcases hb with h|h|h<;>first|omega|exact h.elim
  exact⟨hb'.2,λhi=>hi.elim (λ hi=>by have:=hM1.lt b hi;omega) id,λk o hk ⟨B,hB,hbn⟩=>by have:=(hM1.ownB k o B b hk hB hbn).2.1;omega⟩
 .rintro S S' k x W1 W I2 u hx ⟨β,I',v,h1,h2,h3,h4,h5,h6,h8,h9⟩ hext hDW hS' hI2 hu;rw[List.getElem?_map,iE]at hx;obtain⟨y,hy,rfl⟩:=hx;rw[drop_cons hy]at h6;simp only[Tv]at h6;have⟨v',hstep,h6⟩:=ah.1 h6;unfold R0 at hstep;obtain⟨hs,hm1⟩:=h1.ext (I2:=I2) hext (λ q' e=>⟨by have:=h9 q' e;omega,(h8 q' (.inr (.inr e))).qv,(h8 q' (.inr (.inr e))).obj⟩) hI2;have hle:=hext.le;have tG:∀b,(b=D\/b=D+1\/S' b)->ll β (λ b=>I' b\/I2 b) (encS i.sh s v).st.obj W b:=λb hb=>by have aw:(b=D\/b=D+1\/S b)->ll β (λ b=>I' b\/I2 b) (encS i.sh s v).st.obj W b:=λhb=>(by have:=h8 b hb;exact⟨Nat.lt_of_lt_of_le this.lt hle,λhi=>hi.elim this.qv λhi=>absurd this.lt (Nat.not_lt.2 (hI2 b hi).1),this.obj⟩);rcases hb with hb|hb|hb;exact aw (.inl hb);exact aw (.inr (.inl hb));rcases hS' b hb with hb|⟨e1,e2,e3⟩;exact aw (.inr (.inr hb));exact⟨e2,λhi=>hi.elim (λ hi=>by have:=h1.lt b hi;omega) e3,λk o hk ⟨B,hB,hbn⟩=>by have:=(h1.ownB k o B b hk hB hbn).2.1;omega⟩
  have hI3:Same I1 w W:=λb hb=>(hs b (h2 b hb)).trans (h3 b hb);have Mo:Rel P W (C7 w0 O1 (λ b=>I' b\/I2 b) (λ b=>b=D\/b=D+1\/S' b) []) N β (λ b=>I' b\/I2 b) (⟨(p,.c (.sl (.int .i64)) y)::(encS i.sh s v).env,(encS i.sh s v).obj,(encS i.sh s v).nx,(encS i.sh s v).log⟩:cM X).st { tmps:=a.tmps.setIfInBounds p u,defers:=[] } W:=by
   refine⟨rfl,by simpa using mj.size,λt=>?_,hm1.tj tG⟩;simp only[cM.st,dg];by_cases e:p=t
   .subst e;have:(a.tmps.setIfInBounds p u).getD p undef=u:=(by simp[mj.size,hp]);rw[this];simp only[ea,lk,if_true,Option.getD_some,den,CT.tv,TV.av,VR];exact TR.mono (λ _ _=>rfl) (λ _ h=>.inr h) _ _ hu
   .have e1:(a.tmps.setIfInBounds p u).getD t undef=a.tmps.getD t undef:=(by simp[Array.getElem?_setIfInBounds_ne e]);have e2:ea ((p,DV.c (.sl (.int .i64)) y)::(encS i.sh s v).env) t=ea (encS i.sh s v).env t:=(by simp[ea,lk,aT e]);rw[e1,e2];have h0:=mj.env t;exact ajM ha1 ha2 v0 v (hlow hm1) hI3 (λ b hb=>.inl (h2 b hb)) h0
  have hlA:=h4.put p (.sl (.int .i64)) y;have arD:=gY hT hm hΓ vA _ .z _ _ _ hlA hstep;refine wpIn_mono (arD (some (D+1)) W _ β _ _ W Mo hlA.old) ?_;rintro e a1 W2 ⟨β1,I1',σ1,g1,_,s1,g2,g3,rfl,g4⟩;cases e<;>try cases g4
  simp only at g4;have hm2:=hm1.union (λ b hb hi=>(tG b hb).qv hi) g1.mem;obtain⟨u1,u2,u3⟩:=hm1.tf hm2 (λ b hb=>(tG b hb).lt);have Lw:∀b,b=D\/b=D+1\/S' b\/I2 b->W2.heap[b]? =W.heap[b]? :=λb hb=>by rcases hb with hb|hb|hb|hb;exact(u2 b (.inl hb)).2;exact(u2 b (.inr (.inl hb))).2;exact(u2 b (.inr (.inr hb))).2;exact u3 b (.inr hb)
  refine⟨rfl,Lw,λWb hxb arA=>?_⟩;have hfl:=(u2 (D+1) (.inr (.inl rfl))).1;obtain⟨hsb,hmb⟩:=u1.ext (I2:=λ_=>False) hxb (λ q' e=>by subst e;exact⟨by omega,hfl.qv,hfl.obj⟩) (λ _ h=>h.elim);have hEb:∀b,(b=D\/b=D+1\/S' b)->ll β1 (λ b=>(I1' b\/(I' b\/I2 b))\/False) s1.st.obj Wb b:=λb hb=>by have:=(u2 b hb).1;exact⟨by rw[arA];exact this.lt,λhi=>hi.elim this.qv id,this.obj⟩
  have Mn:Rel P Wb (C7 w0 O1 (λ b=>(I1' b\/(I' b\/I2 b))\/False) (λ b=>b=D\/b=D+1\/S' b) []) N β1 (λ b=>(I1' b\/(I' b\/I2 b))\/False) s1.st a1 Wb:=by refine⟨g1.defers,g1.size,λt=>?_,hmb.tj hEb⟩;exact dg.mono (λ _ _ h=>h) (λ b hb=>hsb b (.inl hb)) (λ b hb=>.inl (.inl hb)) (g1.env t)
  have arC:=gY hT hm hΓ vx _ i.hb _ _ _ g2 g4;refine wpIn_mono (arC (some (D+1)) Wb _ β1 _ _ Wb Mn g2.old) ?_;rintro e a2 W3 ⟨β2,I2',σ2,k1,_,s2,k2,k3,rfl,k4⟩;cases e<;>try cases k4
  simp only at k4;have hm3:=hmb.union (λ b hb hi=>(hEb b hb).qv hi) k1.mem;have Nm:Ext (· ∈ds) s (⟨(p,.c (.sl (.int .i64)) y)::(encS i.sh s v).env,(encS i.sh s v).obj,(encS i.sh s v).nx,(encS i.sh s v).log⟩:cM X):=by refine⟨λ t ht=>?_,h5.obj,h5.nx⟩;have e:p≠t:=λe=>ht (by rw[<- hds,<- e];simp);have e2:ea ((p,DV.c (.sl (.int .i64)) y)::(encS i.sh s v).env) t=ea (encS i.sh s v).env t:=(by simp[ea,lk,aT e]);rw[e2];exact h5.env t ht
  have Nd:Ext (· ∈ds) s s2:=(Nm.trans (g3.wide λt ht=>by rw[<- hds];simp[ht])).trans (k3.wide λt ht=>by rw[<- hds];simp[ht]);rw[hds]at k4;obtain⟨v2,j1,j2,j3,j4⟩:=iV hl k2 Nd (k4:_);injection j1 with ij;subst ij;obtain⟨β3,My⟩:=j4 P Wb _ N β2 _ a2 W3 ⟨k1.defers,k1.size,λt=>dg.mono (λ _ _ h=>h) (λ _ _=>rfl) (λ b hb=>.inl hb) (k1.env t),hm3⟩;obtain⟨x1,x2,x3⟩:=hmb.tf My.mem (λ b hb=>(hEb b hb).lt);refine⟨rfl,⟨β3,_,v2,x1,λb hb=>.inr (.inl (.inr (.inl (h2 b hb)))),λb hb=>(x3 b (.inl (.inr (.inl (h2 b hb))))).trans ((hsb b (.inr (.inl (h2 b hb)))).trans ((u3 b (.inl (h2 b hb))).trans (hI3 b hb))),j2,j3,h6,λb hb=>(x2 b hb).1,λb hb=>?_⟩,λb hb=>?_⟩;rcases hS' b hb with hb|hb;exact h9 b hb;omega;rcases hb with hb|hb|hb|hb;exact(x2 b (.inl hb)).2;exact(x2 b (.inr (.inl hb))).2;exact(x2 b (.inr (.inr hb))).2;exact x3 b (.inl (.inr (.inr hb)))
 .rintro S W1 W ⟨β,I',v,h1,h2,h3,h4,h5,h6,h8,h9⟩ hx hDd;rw[length_map,List.drop_length]at h6;injection h6 with ij;subst ij;have hE:∀b,S b\/b=D+1->D+1<=b/\ll β I' (encS i.sh s v).st.obj W1 b:=λb hb=>by rcases hb with hb|hb;exact⟨by have:=h9 b hb;omega,h8 b (.inr (.inr hb))⟩;exact⟨by omega,h8 b (.inr (.inl hb))⟩
  obtain⟨hs,hm'⟩:=h1.ext (I2:=λ_=>False) hx (λ b hb=>by obtain⟨e,hf⟩:=hE b hb;exact⟨by omega,hf.qv,hf.obj⟩) (λ _ h=>h.elim);have hfD:ll β (λ b=>I' b\/False) (encS i.sh s v).st.obj W D:=by have:=h8 D (.inl rfl);have hle:=hx.le;exact⟨by have:=this.lt;omega,λhi=>hi.elim this.qv id,this.obj⟩
  refine hK _ h4 hr W (C7 w0 O1 (λ b=>I' b\/False) (λ b=>b=D) [coll D]) β (λ b=>I' b\/False) _ W ⟨some D,rfl,λβ4 I4 obj4 w4 h=>?_⟩ ⟨by rw[hdef];rfl,mj.size,λt=>?_,hm'.tj (E:=λb=>b=D) λq e=>e ▸ hfD⟩;obtain⟨y1,y2,y3⟩:=hm'.tf h λq e=>e ▸ hfD.lt;refine⟨hback y1,λD' e=>?_⟩;injection e with ij;subst ij;exact⟨arw,(y2 D rfl).1,(y2 D rfl).2.trans hDd⟩;exact ajM ha1 ha2 v0 v (hlow hm') (λ b hb=>(hs b (h2 b hb)).trans (h3 b hb)) (λ b hb=>.inl (h2 b hb)) (mj.env t)
end
def P4:Code->Bool
 |.rangeFunc .. =>true
 |.seq x y=>P4 x || P4 y
 |.block _ b=>P4 b
 |_=>false
section
variable {X:SX}
noncomputable def Hb(Γ:FuncId->J (ci X))(T:en)(code:TypeId->J (CT X.ι))(N n:Nat)(i:A0 X):Code->(A:Type)->Hn X.ι->cM X->(Exit->cM X->J A)->J A
 |.seq x y,A,h,s,k=>bif P4 x then Hb Γ T code N n i x A h.fst s λe s'=>match e with
  |.normal=>run Γ T code N n y A h.snd s' k
  |e=>k e s'
  else run Γ T code N n x A h.fst s λe s'=>match e with
   |.normal=>Hb Γ T code N n i y A h.snd s' k
   |e=>k e s'
 |.block id b,A,h,s,k=>Hb Γ T code N n i b A h.sub s λe s'=>match e with
  |.exit j=>if j=id then k .normal s' else k (.exit j) s'
  |e=>k e s'
 |.rangeFunc g ps vA vx,_,_,s,k=>amC Γ T code N n i (.rangeFunc g ps vA vx) s (k .normal)
 |_,_,_,_,_=>none
variable {Γ:FuncId->Option (ci X)} {T:en} {code:TypeId->Option (CT X.ι)} {N n:Nat} {P:Program} {i:A0 X}
theorem EY(hT:fB P T)(hm:P.follows .mixedOrders=true)(hΓ:qq P Γ)(yl:Hc P i)(eg:∀args w,(callFunc i.gf args).run P w=.ok (.enter i.gf args) w){w0:Δ}{O0:iu}(hd:O0.GO=[])(lz:∀j,O0.anc j=none):
 ∀(c:Code)(A:Type)(h:Hn X.ι)(s:cM X)(k:Exit->cM X->J A)(r:A),Low s->Hb Γ T code N n i c A h s k=some r->∀(K:Exit->Act->World->Prop),
  (∀ e s',Low s'->k e s'=some r->∀w1 O1 β I a w,RK P w0 O0 w1 O1->Rel P w1 O1 N β I s'.st a w->K e a w)->∀ β I a w,Rel P w0 O0 N β I s.st a w->c.wpIn Fence.wide 0 P K a w
 |.seq x y,A,h,s,k,r,hl,hr,K,hK,β,I,a,w,hrel=>by
  refine wpIn_seq ?_;simp only[Hb]at hr;cases hx:P4 x with
  |true=>
   rw[hx]at hr;refine EY hT hm hΓ yl eg hd lz x A _ s _ r hl hr _ ?_ β I a w hrel;intro e s' hl' he w1 O1 β1 I1 a1 w' hc hZ;cases e with
   |normal=>
    refine wpIn_mono (gY hT hm hΓ y A _ s' k r hl' he none w1 O1 β1 I1 a1 w' hZ hl'.old) ?_;rintro e a2 w2 ⟨β2,I2,σ2,g1,_,s2,g2,_,rfl,g4⟩;exact hK e s2 g2 g4 w1 O1 β2 I2 a2 w2 hc g1
   |_=>exact hK _ s' hl' he w1 O1 β1 I1 a1 w' hc hZ
  |false=>
   rw[hx]at hr;refine wpIn_mono (gY hT hm hΓ x A _ s _ r hl hr none w0 O0 β I a w hrel hl.old) ?_;rintro e a2 w2 ⟨β2,I2,σ2,g1,_,s2,g2,_,rfl,g4⟩;cases e with
   |normal=>exact EY hT hm hΓ yl eg hd lz y A _ s2 k r g2 g4 K hK β2 I2 a2 w2 g1
   |_=>exact hK _ s2 g2 g4 w0 O0 β2 I2 a2 w2 (RK.refl hd) g1
 |.block id b,A,h,s,k,r,hl,hr,K,hK,β,I,a,w,hrel=>by
  refine wpIn_block (EY hT hm hΓ yl eg hd lz b A _ s _ r hl hr _ ?_ β I a w hrel);intro e s' hl' he w1 O1 β1 I1 a1 w' hc hZ;cases e with
  |exit j=>
   simp only at he;simp only[Exit.inBlock];split at he;rw[aY ‹_›];exact hK _ s' hl' he w1 O1 β1 I1 a1 w' hc hZ;rw[aT ‹_›];exact hK _ s' hl' he w1 O1 β1 I1 a1 w' hc hZ
  |_=>exact hK _ s' hl' he w1 O1 β1 I1 a1 w' hc hZ
 |.rangeFunc g ps vA vx,A,h,s,k,r,hl,hr,K,hK,β,I,a,w,hrel=>
  amD hT hm hΓ yl eg hl hr hd lz (λ s' hl' he=>hK _ s' hl' he) β I a w hrel
 |.region ..,_,_,_,_,_,_,hr,_,_,_,_,_,_,_|.cond ..,_,_,_,_,_,_,hr,_,_,_,_,_,_,_|.loop _,_,_,_,_,_,_,hr,_,_,_,_,_,_,_|.skip,_,_,_,_,_,_,hr,_,_,_,_,_,_,_
 |.exit _,_,_,_,_,_,_,hr,_,_,_,_,_,_,_|.ret,_,_,_,_,_,_,hr,_,_,_,_,_,_,_|.label _,_,_,_,_,_,_,hr,_,_,_,_,_,_,_|.goto _,_,_,_,_,_,_,hr,_,_,_,_,_,_,_
 |.scope _,_,_,_,_,_,_,hr,_,_,_,_,_,_,_|.refuse _,_,_,_,_,_,_,hr,_,_,_,_,_,_,_=>by cases hr
theorem ap0(hT : fB P T)(hm : P.follows .mixedOrders = true)(hΓ : qq P Γ)(yl : Hc P i)(eg : ∀ args w, (callFunc i.gf args).run P w = .ok (.enter i.gf args) w){f : FuncId}{fn : Func}{c : Code}(hfn : P.funcs[f]? = some fn)(hb : fn.body = some c)(hname : (fn.name == "runtime.NumGoroutine") = false)
 (g:cQ X) (hN:g.m5.length<=fn.ntmps) (hO:g.js=[]) (hin:(xO g.m5).isEmpty=true) (h:Hn X.ι) (hr:∀v (r:VT (X:=X) (xg g).vars),g.fn v=some r->Hb Γ T code fn.ntmps n i c (VT (X:=X) (xg g).vars) h (NT g v) (UV T fn.results.toList g)=some r):H2 P f g:=by
 intro v r hv;have hrun:=hr v r hv;have hpo:∀L:U (DC X),ID g.m5 g.js L=[]:=λL=>by rw[hO];rfl
 have rm:g.cD v=[]:=by unfold cQ.cD;rw[hpo];rfl
 have hargs:∀k∈aP (g.args v),k<1000:=λk hk=>by have:=wY g.m5 _ k hk;rw[List.isEmpty_iff.1 hin]at this;cases this
 have hal:(g.args v).length=g.m5.length:=EU _ _ _;have hlo:∀k,gd (NT g v).obj k=none:=λk=>by simp[NT,hpo,gd,lk]
 have hlow:Low (NT g v):=⟨by show 1000<=1000000;decide,aB _,λt k hk=>hargs k (QU t _ _ k hk),λk o ho=>by rw[hlo k]at ho;cases ho⟩;rw[rm];refine⟨⟨fn,hfn,by rw[hb];rfl,hname⟩,λw β I vs hβ hM LO=>?_⟩;have hvl:=bp.length _ _ LO;simp only[Array.length_toList,jc]at hvl;refine(callsIn_wide (n:=0)).1 (callsIn_of_wp_marks hfn hb trivial ?_ rfl);have lz:∀j,(nI β I).anc j=none:=λj=>by simp only[nI];split<;>first|exact hβ j (Nat.zero_le _)|rfl
 have hrel:Rel P w (nI β I) fn.ntmps β I (NT g v).st { tmps:=vs++Array.replicate (fn.ntmps-vs.size) undef,defers:=[] } w:=by
  refine⟨rfl,by simp;omega,λt=>?_,?_⟩;simp only[cM.st,dg,NT];rw[ahV,<- hal,<- jc,zo];by_cases ht:t<(bL (g.args v)).length;obtain⟨u,g1,g2⟩:=bp.get _ _ t _ LO (dP ht);rw[dP ht];simp only[Option.getD_some];have:(vs++Array.replicate (fn.ntmps-vs.size) undef).getD t undef=u:=by rw[Array.getElem?_toList]at g1;simp only[Array.getD_eq_getD_getElem?,Array.getElem?_append,show t<vs.size by rw[jc]at ht;omega,if_true,g1,Option.getD_some]
  rw[this];exact g2;rw[List.getElem?_eq_none (Nat.le_of_not_lt ht)];simp[VR];have:(NT g v).st.obj=ue []:=by funext k;simp[cM.st,hlo,ue]
  rw[this];exact hM
 refine EY hT hm hΓ yl eg rfl lz c _ h _ _ r hlow hrun _ ?_ β I _ w hrel;intro e s' hl' he w1 O1 β1 I1 a1 w' ⟨ds,hds,hcls⟩ hZ
 have fin:∀(w2:World),Rel P w (nI β I) fn.ntmps β1 I1 s'.st { a1 with defers:=[] } w2->(∃ xs,l8 T s'.st fn.results.toList=some xs/\HP P s'.st.obj xs (pY (g.outs r)) (den (g.res r)))->
  ∃u,(results fn a1.tmps).run P w2=.ok u w2/\Tb P w β I (pY (g.outs r)) (den (g.res r)) (.returned u) w2:=by
  intro w2 hr2 ⟨xs,hx,hf⟩;obtain⟨us,g1,g2⟩:=wG hT hr2 _ _ hx;have hrun:(fn.results.mapM (SV a1.tmps)).run P w2=.ok us.toArray w2:=by rw[Array.mapM_eq_mapM_toList,Sem.run_map,g1];rfl
  obtain⟨β2,I2,hm2,hI2,hv2⟩:=hf w (nI β I) β1 I1 w2 us.toArray hr2.mem (by simpa using g2);have m6:∀b,I b->b<w.heap.size:=hM.lt;have hown0:∀b,¬Uj β b:=λb ⟨j,B,hj,_⟩=>by rw[hβ j (Nat.zero_le _)]at hj;cases hj
  have hmem:Mem P w (nI β I) β2 (λ b=>I2 b\/I b) (qk (pY (g.outs r))) w2:=by refine⟨λ k o hk=>?_,hm2.eI,λk o B b h1 h2 h3=>?_,?_,?_,hm2.keep,hm2.le,hm2.os,hm2.tape,hm2.output,hm2.anch,hm2.vars.mono (λ _ _=>rfl) (λ b hb=>.inl hb)⟩;have⟨B,hB,hO⟩:=hm2.cD k o hk;exact⟨B,hB,OR.mono (λ _ _ h=>h) (λ _ _=>rfl) (λ b hb=>.inl hb) (λ _ _=>rfl) hO⟩;have⟨a1,a2,a3⟩:=hm2.ownB k o B b h1 h2 h3;refine⟨λ hi=>hi.elim a1 λhi=>?_,a2,a3⟩;rcases a3 with a3|a3;exact hown0 b a3;have:=m6 b hi;omega;rintro b (hb|hb);exact hm2.lt b hb;exact Nat.lt_of_lt_of_le (m6 b hb) hm2.le;rintro b (hb|hb);exact hm2.up b hb;exact .inl hb
  simp only[ED,Sem.run_bind,hrun,Result.andThen_ok,Sem.run_pure];exact⟨_,rfl,_,β2,_,rfl,hmem,λb hb=>.inr hb,VR.mono (λ _ _ h=>h) (λ _ _=>rfl) (λ b hb=>.inl hb) _ _ hv2⟩
 obtain⟨hm1,hm2⟩:=hcls _ _ _ _ hZ.mem;have leave:(∃ xs,l8 T s'.st fn.results.toList=some xs/\HP P s'.st.obj xs (pY (g.outs r)) (den (g.res r)))->LeavesInM Fence.wide 0 P fn a1.tmps (Tb P w β I (pY (g.outs r)) (den (g.res r))) a1.defers .returning w':=by
  intro hx;rw[hZ.defers,hds];cases ds with
  |none=>exact fin w' ⟨rfl,hZ.size,hZ.env,hm1⟩ hx
  |some D=>
   have⟨h1,h2,h3⟩:=hm2 D rfl;refine⟨by simp,.inl ⟨D,_,rfl,run_takeDeferred h3,?_⟩⟩;obtain⟨hs,hm3⟩:=hm1.Z1 h2 h1 (w':=w'.putObj D (.deferred none)) (λ q hq=>World.putObj_heap_other hq) (by simp[World.putObj]) rfl rfl rfl;exact fin _ ⟨rfl,hZ.size,λt=>dg.mono (λ _ _ h=>h) hs (λ _ h=>h) (hZ.env t),hm3⟩ hx
 cases e<;>first|exact leave (abz hl' he)|cases he
end
theorem mz.data{P:Ξ}{F:Φ}{w:Δ}{I:Φ}{v:Ψ}{F0:Φ}{l:U Value}(h1:∀x∈l,oneCell x)(h:mz P F 1 (l.map λx=>[.sc x]) w I v)(hF:∀b,F b->F0 b):∃I2:Nat->Prop,(∀ b,I2 b->F0 b/\b<w.heap.size)/\TR w I2 (.sl (l.map λx=>[.sc x])) v:=by
 rcases h with ⟨h0,rfl⟩|⟨b,c,e,cap,o,s,rfl,hb,_,hc,hle,hs,hr,ho⟩;exact⟨λ _=>False,λ_ h=>h.elim,.inl ⟨h0,none,0,rfl,λ_=>rfl⟩⟩;refine⟨(· =b),λb' e=>by subst e;exact⟨hF _ hb,(Array.getElem?_eq_some_iff.1 hc).1⟩,.inr ⟨b,o,cap,1,rfl,hle,rfl,?_⟩⟩;cases l with
 |nil=>trivial
 |cons x l=>
  rw[ho (by simp at hle;omega)];have hh:∀(l:U Value)(s:Nat),cd P ly w I (aI (l.map λx=>[.sc x])) c s 1->cC w (· =b) (l.map λx=>[.sc x]) b s 1:=by
   intro l
   induction l with
   |nil=>intro s _;trivial
   |cons x l ih=>
    intro s hr;obtain⟨_,⟨⟨u,g1,g2,g3⟩,_⟩,hr⟩:=hr;refine⟨rfl,⟨⟨u,by simp[World.cell?,hc,g1],by simpa[VR,TR]using g2⟩,trivial⟩,ih _ hr⟩
  exact hh _ _ hr
section
variable {P:Program} {w0:World} {O0:iu} {N:Nat} {β:Nat->Option cH} {I:Nat->Prop} {σ:St} {a:Act} {w:World}
theorem Rel.tm{a':Act}(hr:Rel P w0 O0 N β I σ a w)(hd:a'.defers=a.defers)(hs:a'.tmps.size=a.tmps.size)(h:∀t,(σ.env t=.undef/\σ.ok t=none)\/a'.tmps.getD t undef=a.tmps.getD t undef):Rel P w0 O0 N β I σ a' w:=
 ⟨hd.trans hr.defers,hs.trans hr.size,λt=>by rcases h t with ⟨h1,h2⟩|h;rw[h1,h2];simp[dg,VR];rw[h];exact hr.env t,hr.mem⟩
end
def bS(S I:Φ):iu:=⟨S,I,λ_=>none,λ_ _ h=>(by cases h),[]⟩
theorem Mem.moved{P:Ξ}{W1 W W':Δ}{O0:iu}{S' I I1:Φ}{β:ζ}{obj:Ω}(h:Mem P W1 O0 β I1 obj W)(hk:∀b,I b\/S' b->W'.heap[b]? =W.heap[b]?)(hI:∀b,I1 b->I b\/S' b)
 (hS:∀k o b,obj k=some o->gi β k b->S' b):Mem P W' (bS S' I) β I1 obj W':=by
 have hs:Same I1 W W':=λb hb=>hk b (hI b hb);have lt:∀b,b<W.heap.size->W'.heap[b]? =W.heap[b]?->b<W'.heap.size:=λb h1 h2=>by rw[Array.getElem?_eq_getElem h1]at h2;exact(Array.getElem?_eq_some_iff.1 h2).1
 refine⟨λ k o hk'=>?_,h.eI,λk o B b h1 h2 h3=>?_,λb hb=>lt b (h.lt b hb) (hs b hb),λb hb=>(hI b hb).elim .inl λh=>.inr (.inl h),λ_ _ _=>rfl,aB _,rfl,rfl,rfl,λ_ _ h=>(by cases h),h.vars.mono hs λ_ h=>h⟩;have⟨B,hB,hO⟩:=h.cD k o hk';exact⟨B,hB,OR.mono (λ _ _ h=>h) hs (λ _ h=>h) (λ b hb=>hk b (.inr (hS k o b hk' ⟨B,hB,hb⟩))) hO⟩;have⟨g1,g2,_⟩:=h.ownB k o B b h1 h2 h3;have:=hS k o b h1 ⟨B,h2,h3⟩;exact⟨g1,lt b g2 (hk b (.inr this)),.inl this⟩
def CA{V:Type}(step:V->J (V⊕Unit)):Nat->V->J (List V)
 | 0,_=>none
 |m+1,l=>(step l).bind λr=>match r with
  |.inl l'=>(CA step m l').map (l:: ·)
  |.inr _=>some [l]
section
variable {X:SX} {Γ:FuncId->Option (ci X)} {T:en} {code:TypeId->Option (CT X.ι)} {n:Nat} {P:Program}
def H3:Code->Code
 |.seq x _=>x
 |c=>c
def PT:Code->Code
 |.seq _ y=>y
 |c=>c
def inner:Code->Code
 |.block _ b=>b
 |.loop b=>b
 |c=>c
def ap1:Code->Nat
 |.block j _=>j
 |.region j _ _=>j
 |_=>0
def Ss(c:Code):Code:=PT (inner (inner (PT c)))
def tx(c:Code):Code:=H3 (H3 (inner (inner (PT c))))
def NU:Code->Nat->Oper
 | .region _ ag _, k => (ag[k]?).getD ⟨none, .move (.tmp 0), 0, "", #[], none⟩
 | _, _ => ⟨none, .move (.tmp 0), 0, "", #[], none⟩
def apz(o:Oper):Array TypeId:=match o.op with
 |.call c=>c.argTypes
 |_=>#[]
def ap2(c:Code)(tl t8 t9 sy tb fc:Nat):Code:=
 .seq (H3 c) (.block (ap1 (PT c)) (.loop (.seq (.seq (.region (ap1 (tx c)) #[⟨some t8,.move (.tmp 0),(NU (tx c) 0).type,(NU (tx c) 0).pos,(NU (tx c) 0).after,none⟩,⟨some t9,.move (.tmp tl),(NU (tx c) 1).type,(NU (tx c) 1).pos,(NU (tx c) 1).after,none⟩,
  ⟨some sy,.call { callee:=.value (.func fc),args:=#[.tmp t9],argTypes:=apz (NU (tx c) 2) },(NU (tx c) 2).type,(NU (tx c) 2).pos,(NU (tx c) 2).after,none⟩,
  ⟨some tb,.call { callee:=.value (.tmp t8),args:=#[.tmp sy],argTypes:=apz (NU (tx c) 3) },(NU (tx c) 3).type,(NU (tx c) 3).pos,(NU (tx c) 3).after,none⟩] false) (.cond (.tmp tb) .skip (.exit (ap1 (PT c))))) (Ss c))))
noncomputable def Sp{E:Type}(cl:U Int->J (List Int))(F0:U E->J (List Int))(F2:U E->U Int->J (List Int⊕Unit))(n:Nat)(x:U E):J (List (List Int)):=
 open Classical in (F0 x).bind λl=>(CA (F2 x) n l).bind λys=>if ∀y∈ys,cl y=some y then some ys else none
def pn(e:CT X.ι)(yv:Ψ)(x:U (CT.T X.toSE e)):cM X:=⟨[(0,.raw yv),(1,.rp (.sl e) x 0)],[],1000,[]⟩
def IV(tl:Nat):Sh X.ι:=⟨[(tl,.o 1000)],[(1000,.l (.int .i64))],[0,1],[],1001,[]⟩
def ap3(e:CT X.ι)(tl:Nat)(ds:U Nat)(yv:Ψ)(x:U (CT.T X.toSE e)):Exit->cM X->J (List Int)
 |.normal,s=>ql (IV tl) ds (pn e yv x) s some
 |_,_=>none
def ap4(e:CT X.ι)(tl:Nat)(ds:U Nat)(yv:Ψ)(x:U (CT.T X.toSE e)):Exit->cM X->J (List Int⊕Unit)
 |.normal,s=>ql (IV tl) ds (pn e yv x) s (λ l'=>some (.inl l'))
 |.ret,_=>some (.inr ())
 |_,_=>none
theorem ahY{e:CT X.ι}{yv:Ψ}{x:U (CT.T X.toSE e)}{tl:Nat}(l:U Int)(t:Nat):ea (encS (X:=X) (IV tl) (pn e yv x) l).env t=if t=tl then .own 1000 0 l.length else if t=0 then .raw yv else if t=1 then .rp (.sl e) x 0 else .undef:=by have e1:(encS (X:=X) (IV tl) (pn e yv x) l).env=[(tl,.own 1000 0 l.length),(0,.raw yv),(1,.rp (.sl e) x 0)]:=rfl;rw[e1];simp only[ea,lk];by_cases h1:tl=t;rw[aY h1,aY h1.symm];rfl;rw[aT h1,aT (show ¬t=tl from λe=>h1 e.symm)];by_cases h2:0=t;rw[aY h2,aY (show t=0 from h2.symm)];rfl;rw[aT h2,aT (show ¬t=0 from λe=>h2 e.symm)];by_cases h3:1=t;rw[aY h3,aY (show t=1 from h3.symm)];rfl;rw[aT h3,aT (show ¬t=1 from λe=>h3 e.symm)];rfl
theorem ajN{e:CT X.ι}{yv:Ψ}{x:U (CT.T X.toSE e)}(t:Nat):ea (pn (X:=X) e yv x).env t=if 0=t then .raw yv else if 1=t then .rp (.sl e) x 0 else .undef:=by simp only[pn,ea,lk];split;rfl;split<;>rfl
theorem ap5{e:CT X.ι}{yv:Ψ}{x:U (CT.T X.toSE e)}{tl:Nat}(l:U Int)(k:Nat):(encS (X:=X) (IV tl) (pn e yv x) l).st.obj k=if k=1000 then some ⟨1,aI (l.map λn=>[.sc (.int .i64 n)])⟩else none:=by have e1:(encS (X:=X) (IV tl) (pn e yv x) l).obj=[(1000,some (.ek (.int .i64) l))]:=rfl;simp only[cM.st];rw[e1];simp only[gd,lk];by_cases h:1000=k;subst h;rfl;rw[aT h,aT (λ e=>h e.symm)];rfl
theorem ahZ{L:J Nat}{ag:Array Oper}{Q:Exit->Act->World->Prop}{i:Nat}{ae:U Nat}{o:Oper}{a:Act}{w:Δ}{f:FuncId}{args:η}{R:Ending->World->Prop}(h:ag[i]? =some o)(hg:o.guard=none)
 (hx:(execOp a.eval o).run P w=.ok (.enter f args) w) (hc:Calls P f args w R) (hk:∀e w',R e w'->∃v,e=.returned v/\wpOpsIn (Fw L) 0 P ag Q ae (a.put o.dst v) w'):wpOpsIn (Fw L) 0 P ag Q (i::ae) a w:=by rw[wpOpsIn_cons];simp[wpOpIn,h];rw[aY (by simp[Region.wanted,hg])];refine⟨λ f _=>Fw.fn L f,?_⟩;rw[za hx (by simp)];refine⟨λ h=>(by rw[Fw.depth]at h;cases h),Fw.calls (hc.mono ?_)⟩;rintro e w' hr;obtain⟨v,rfl,h⟩:=hk e w' hr;exact h
theorem afk{ag:Array Oper}{Q:Exit->Act->World->Prop}{i:Nat}{ae:U Nat}{o:Oper}{a:Act}{w:Δ}{l:Nat}{args:η}{R:Ending->World->Prop}(h:ag[i]? =some o)(hg:o.guard=none)
 (hx:(execOp a.eval o).run P w=(Instr.yield l args).run P w) (hc:YieldAt Fence.wide (0-1) P l args w R) (hk:∀e w',R e w'->∃v,e=.returned v/\wpOpsIn Fence.wide 0 P ag Q ae (a.put o.dst v) w'):wpOpsIn Fence.wide 0 P ag Q (i::ae) a w:=by obtain⟨f,tmps,vA,vx,hy,hr⟩:=hc;rw[wpOpsIn_cons];simp[wpOpIn,h];rw[aY (by simp[Region.wanted,hg])];refine⟨λ f _=>trivial,?_⟩;rw[za (hx.trans hy) (by simp)];refine⟨λ h=>(by cases h),hr.mono ?_⟩;rintro e w' hr;obtain⟨v,rfl,h⟩:=hk e w' hr;exact h
theorem aqF(hT:fB P T)(hm:P.follows .mixedOrders=true)(hΓ:qq P Γ){i:A0 X}{tl t8 t9 sy tb fc:Nat}{fn:Func}(hfn:P.funcs[i.gf]? =some fn){r0 b1:Code}{j rid:Nat}{de J0:Array TypeId}{y1 y2 y3 y4:Θ}{p1 p2 p3 p4:String}{e1 e2 e3 e4:Array Edge}
 (hb:fn.body=some (.seq r0 (.block j (.loop (.seq (.seq (.region rid #[⟨some t8,.move (.tmp 0),y1,p1,e1,none⟩,⟨some t9,.move (.tmp tl),y2,p2,e2,none⟩,⟨some sy,.call { callee:=.value (.func fc),args:=#[.tmp t9],argTypes:=de },y3,p3,e3,none⟩,
  ⟨some tb,.call { callee:=.value (.tmp t8),args:=#[.tmp sy],argTypes:=J0 },y4,p4,e4,none⟩] false) (.cond (.tmp tb) .skip (.exit j))) b1)))))
 (hres:fn.results=#[]) (hN:∀t∈[0,1,tl,t8,t9,sy,tb],t<fn.ntmps) (hnd:[0,1,tl,t8,t9,sy,tb].Nodup) {ok:U Int->Prop}
 (hcl:∀l:U Int,ok l->rh P fc [.t (.sl (l.map λn=>[.sc (.int .i64 n)]))] [] [] (.one (.fresh 1 (l.map λn=>[.sc (.int .i64 n)]))))
 {F0:U (CT.T X.toSE i.e)->Option (List Int)} {F2:U (CT.T X.toSE i.e)->U Int->Option (List Int⊕Unit)} {h0 h1:Hn X.ι}
 (hr0:∀yv x l,F0 x=some l->run Γ T code fn.ntmps n r0 (List Int) h0 (pn i.e yv x) (ap3 i.e tl (tl::(eX r0++eX b1)) yv x)=some l)
 (hr2:∀yv x l r,F2 x l=some r->run Γ T code fn.ntmps n b1 (List Int⊕Unit) h1 (encS (IV tl) (pn i.e yv x) l) (ap4 i.e tl (tl::(eX r0++eX b1)) yv x)=some r)
 (hF:∀x ys,i.F x=some ys->∃l m,F0 x=some l/\(∀ y∈ys,ok y)/\CA (F2 x) m l=some ys):Hc P i:=by
 intro x ys hys w I b o hlt hv hbI hrow nn lc J W0 ⟨hs0,hsz0⟩ hJ hJ0 tD;have⟨l0,m0,hF0,hok,hch⟩:=hF x ys hys;refine callsIn_wide.2 ((callsIn_wide (n:=0)).1 (callsIn_of_wp_marks hfn hb trivial ?_ rfl));obtain⟨yv,hyv⟩:∃yv:Value,Value.func (.yield lc) #[] #[]=yv:=⟨_,rfl⟩;rw[hyv];obtain⟨ds,hds⟩:∃ds,tl::(eX r0++eX b1)=ds:=⟨_,rfl⟩;rw[hds]at hr0 hr2;have hN0:=hN 0 (by simp);have hN1:=hN 1 (by simp);have hN8:=hN t8 (by simp);have hN9:=hN t9 (by simp);have arW:=hN sy (by simp);have hNb:=hN tb (by simp);simp only[List.nodup_cons,aL,oh,or_false,not_or,not_false_eq_true,and_true,List.nodup_nil]at hnd;obtain⟨⟨n01,n0l,n08,n09,aro,n0b⟩,⟨n1l,n18,n19,n110,n1b⟩,⟨nl8,nl9,arl,nlb⟩,⟨n89,arn,n8b⟩,⟨n910,n9b⟩,n10b⟩:=hnd;have hlow:Low (pn i.e yv x):=by refine⟨by show 1000<=1000000;decide,aB _,λt k hk=>?_,λk o ho=>by cases ho⟩;rw[ajN]at hk;split at hk;cases hk;split at hk<;>cases hk
 have mj:Rel P W0 (bS (λ _=>False) I) fn.ntmps ly I (pn i.e yv x).st { tmps:=(#[yv]++#[.pointer (some ⟨b,o,none⟩)])++Array.replicate (fn.ntmps-(#[yv]++#[Value.pointer (some ⟨b,o,none⟩)]).size) undef,defers:=[] } W0:=by
  refine⟨rfl,by simp;omega,λt=>?_,λk o hk=>(by cases hk),λk _ o _ _ _ _ hk=>(by cases hk),λk o _ _ hk=>(by cases hk),λb hb=>Nat.lt_of_lt_of_le (hlt b hb) hsz0,λb hb=>.inl hb,λ_ _ _=>rfl,aB _,rfl,rfl,rfl,λ_ _ h=>(by cases h),hv.mono hs0 λ_ h=>h⟩;simp only[cM.st,dg];rw[ajN];split;rename_i e;subst e;have e0:((#[yv]++#[Value.pointer (some ⟨b,o,none⟩)])++Array.replicate (fn.ntmps-(#[yv]++#[Value.pointer (some ⟨b,o,none⟩)]).size) undef).getD 0 undef=yv:=by simp[Array.getElem?_append]
  rw[e0];exact VR.cv;split;rename_i e;subst e;simp only[den,VR];refine⟨b,o,by simp[Array.getElem?_append],hbI,?_⟩;exact eh.mono hs0 (λ _ h=>h) _ _ _ hbI hrow;simp[den,VR]
 refine wpIn_seq (wpIn_mono (gY hT hm hΓ r0 _ h0 _ _ _ hlow (hr0 yv x l0 hF0) none W0 _ ly I _ W0 mj hlow.old) ?_);rintro e a1 W2 ⟨β1,I1,σ1,g1,_,s1,g2,g3,rfl,g4⟩;cases e<;>simp only[ap3,reduceCtorEq]at g4;obtain⟨l',j1,j2,j3,j4⟩:=iV hlow g2 (g3.wide λt ht=>by rw[<- hds];simp[ht]) g4;injection j1 with ij;subst ij;obtain⟨β2,By⟩:=j4 P W0 _ _ β1 I1 a1 W2 g1;refine wpIn_block ?_
 refine Qy (L:=none) (λ m a Wh=>∃(S:Nat->Prop) (W1:World) (k:Nat) (β:Nat->Option cH) (I1:Nat->Prop) (l:U Int),J S k W1/\(∀ b,S b->w.heap.size<=b)/\Rel P W1 (bS S I) fn.ntmps β I1 (encS (IV tl) (pn i.e yv x) l).st a Wh/\Low (encS (IV tl) (pn i.e yv x) l)/\Ext (· ∈ds) (pn i.e yv x) (encS (IV tl) (pn i.e yv x) l)/\CA (F2 x) m l=some (ys.drop k))
  (λ a w ⟨_,_,_,_,_,_,_,_,_,_,_,h⟩=>by cases h) ?_ m0 a1 W2 ⟨λ _=>False,W0,0,β2,I1,l',hJ0,λ_ h=>h.elim,By,j2,j3,by simpa using hch⟩
 clear By j4 j3 j2 g4 g3 g2 g1 mj hJ0 hch hF0;rintro m a Wh ⟨S,W1,k,β,I1,l,hJk,hSW,hrel,hlo,hext,hc⟩;simp only[CA]at hc;have⟨r,hr,hc⟩:=ah.1 hc;have hyk:ys[k]? =some l:=by
  have:(ys.drop k)[0]? =some l:=by
   cases r with
   |inl l'=>
    have⟨t,_,h⟩:=iE.1 hc;rw[<- h];rfl
   |inr=>injection hc with h;rw[<- h];rfl
  simpa[List.getElem?_drop]using this
 have⟨⟨Mb,LS⟩,hSlt⟩:=hJ S k W1 hJk;have hM:=hrel.mem;have h0v:a.eval (.tmp 0)=yv:=by have h:=hrel.env 0;simp only[cM.st,dg]at h;rw[ahY (e:=i.e) (tl:=tl) (yv:=yv) (x:=x) l,aT n0l,aY rfl]at h;subst hyv;simp only[den,cv,km,if_true,VR,TR]at h;exact h.1
 have h3v:VR P β Wh I1 (.own 1000 0 l.length) (a.eval (.tmp tl)):=by have h:=hrel.env tl;simp only[cM.st,dg]at h;rw[ahY (e:=i.e) (tl:=tl) (yv:=yv) (x:=x) l,aY rfl]at h;exact h
 refine wpIn_seq (wpIn_seq (wpIn_region ?_));show wpOpsIn (Fw none) 0 P _ _ [0,1,2,3] a Wh;refine WO (o:=⟨some t8,.move (.tmp 0),y1,p1,e1,none⟩) (v:=yv) (w':=Wh) rfl rfl (by simp[execOp,h0v]) ?_;have hsz:=hrel.size;refine WO (o:=⟨some t9,.move (.tmp tl),y2,p2,e2,none⟩) (v:=a.eval (.tmp tl)) (w':=Wh) rfl rfl (by simp[execOp];exact tu (Ne.symm nl8)) ?_;obtain⟨v3,hv3⟩:∃v3,a.eval (.tmp tl)=v3:=⟨_,rfl⟩;rw[hv3]at h3v ⊢;obtain⟨a2,ha2⟩:∃a2,(a.put (some t8) yv).put (some t9) v3=a2:=⟨_,rfl⟩;have i9:∀k,(encS (IV tl) (pn i.e yv x) l).st.obj k=if k=1000 then some ⟨1,aI (l.map λn=>[.sc (.int .i64 n)])⟩else none:=ap5 l
 have m7:=gj.nt hM [1000] (y:=.t (.sl (l.map λn=>[.sc (.int .i64 n)]))) (by simp) ⟨_,l.map (λ n=>[.sc (.int .i64 n)]),by rw[i9];rfl,rfl,by simp only[List.drop_zero];exact List.take_of_length_le (by simp[aI]),by simp⟩ h3v;have arX:∀b,ft β (encS (IV tl) (pn i.e yv x) l).st.obj [1000] I1 b->b<Wh.heap.size:=by rintro b (hb|⟨k,o,sz,n,hk,ho,hb⟩);exact hM.lt b hb;exact(hM.own k o b sz n ho hb).2.1
 have hMc:Mem P Wh (nI ly (ft β (encS (IV tl) (pn i.e yv x) l).st.obj [1000] I1)) ly (ft β (encS (IV tl) (pn i.e yv x) l).st.obj [1000] I1) (sm []) Wh:=
  ⟨λ k o hk=>(by simp[sm]at hk),λk _ o _ _ _ _ hk=>(by simp[sm]at hk),λk o _ _ hk=>(by simp[sm]at hk),arX,λb hb=>.inl hb,λ_ _ _=>rfl,aB _,rfl,rfl,rfl,λk _ h=>(by simp[nI,ly]at h),hM.vars.mono (λ _ _=>rfl) λ_ h=>.inl h⟩
 have hcall:=hcl l (hok l (cZ hyk));obtain⟨fnc,hc1,hc2,hc3⟩:=hcall.1;refine ahZ (o:=⟨some sy,.call { callee:=.value (.func fc),args:=#[.tmp t9],argTypes:=de },y3,p3,e3,none⟩) (f:=fc) (args:=#[v3]) rfl rfl ?_ (hcall.2 Wh ly _ #[v3] (λ _ _=>rfl) hMc (by simpa[bp]using m7)) ?_;have hb:¬fnc.body=none:=by cases hh:fnc.body<;>simp[hh]at hc2 ⊢
 have e3' : ¬ fnc.name = "runtime.NumGoroutine" := by simpa using hc3
 have hv9:a2.eval (.tmp t9)=v3:=by rw[<- ha2];exact VB (by simp[Act.put,hsz,hN9])
 rw[ha2];simp[execOp,resolve,Deferred.ofValue,invoke,callFunc,hc1,e3',hb,Act.eval];simpa[Act.eval]using hv9;rintro e W ⟨v10,I3,rfl,NX,hI3,hfr⟩;refine⟨v10,rfl,?_⟩;rw[ha2];have hLe:=NX.le;have hxc:gb (λ _=>False) Wh W:=⟨hLe,λb hb _=>NX.keep b hb λ⟨j,B,hj,_⟩=>by simp[ly]at hj,NX.os,NX.tape,NX.output⟩;obtain⟨hSc,BW⟩:=hM.ext (I2:=λ_=>False) hxc (λ _ h=>h.elim) (λ _ h=>h.elim);obtain⟨I2,hI2,hT2⟩:=mz.data (l:=l.map λn=>Value.int .i64 n) (F0:=λb=>Wh.heap.size<=b) (by simp[oneCell]) (by simpa[sg,A3,Function.comp_def]using hfr) (λ b hb=>by obtain⟨hb,_⟩:=hb;rcases hb with ⟨j,B,hj,_⟩|hb;cases hj;exact hb);rw[map_map]at hT2;have arY:∀b,I2 b->W1.heap.size<=b/\b<W.heap.size:=λb hb=>⟨Nat.le_trans hM.le (hI2 b hb).1,(hI2 b hb).2⟩;obtain⟨S',hS'⟩:∃S':Nat->Prop,(λ b=>S b\/(W1.heap.size<=b/\b<W.heap.size/\¬I2 b))=S':=⟨_,rfl⟩;have sX:∀b,S' b↔S b\/(W1.heap.size<=b/\b<W.heap.size/\¬I2 b):=λb=>by rw[<- hS']
 have DH:=tD (0-1) S S' k (.sl (l.map λn=>[.sc (.int .i64 n)])) W1 W I2 v10 (by rw[List.getElem?_map,hyk];rfl) hJk ⟨BW.le,λb hb hn=>BW.keep b hb hn,BW.os,BW.tape,BW.output⟩ (λ b hb=>(sX b).1 hb) arY hT2;obtain⟨a3,E3⟩:∃a3,a2.put (some sy) v10=a3:=⟨_,rfl⟩;rw[E3];have hsz2:a2.tmps.size=fn.ntmps:=by rw[<- ha2];simp[Act.put,hsz]
 have hv8:a3.eval (.tmp t8)=yv:=by rw[<- E3,tu (Ne.symm arn),<- ha2,tu (Ne.symm n89)];exact VB (by rw[hsz];exact hN8)
 have arx:a3.eval (.tmp sy)=v10:=by rw[<- E3];exact VB (by rw[hsz2];exact arW)
 refine afk (o:=⟨some tb,.call { callee:=.value (.tmp t8),args:=#[.tmp sy],argTypes:=J0 },y4,p4,e4,none⟩) (l:=lc) (args:=#[v10]) rfl rfl ?_ DH ?_;have LR:=hv8;have Bm:=arx;simp only[Act.eval]at LR Bm;subst hyv;simp[execOp,resolve,Deferred.ofValue,invoke,LR,Bm,Act.eval];rintro e W' ⟨rfl,hJ',hkeep⟩;refine⟨_,rfl,?_⟩;obtain⟨a4,NL⟩:∃a4,a3.put (some tb) (.bool true)=a4:=⟨_,rfl⟩;rw[NL];have L3:a3.tmps.size=fn.ntmps:=by rw[<- E3];simp[Act.put,hsz2]
 have⟨⟨Mm,ar4⟩,ar5⟩:=hJ S' (k+1) W' hJ';have hMm:Mem P W' (bS S' I) β (λ b=>I1 b\/False) (encS (IV tl) (pn i.e yv x) l).st.obj W':=by
  refine BW.moved (λ b hb=>?_) (λ b hb=>?_) (λ k o b hk hl=>?_);rcases hb with hb|hb;have hbw:=hlt b hb;have e1:W.heap[b]? =W1.heap[b]? :=BW.keep b (by omega) λe=>by have:=hSW b e;omega
  rw[Mm b hb,e1,Mb b hb];exact hkeep b (.inl hb);rcases hb with hb|hb;have hlb:=hM.lt b hb;rcases hM.up b hb with h|h|h;exact .inl h;exact .inr ((sX b).2 (.inl h));exact .inr ((sX b).2 (.inr ⟨h,by omega,λe=>by have:=(hI2 b e).1;omega⟩));exact hb.elim;have⟨g1,g2,g3⟩:=hM.j0 k o b hk hl;rcases g3 with h|h;exact(sX b).2 (.inl h);exact(sX b).2 (.inr ⟨h,by omega,λe=>by have:=(hI2 b e).1;omega⟩)
 have Mu:Rel P W' (bS S' I) fn.ntmps β (λ b=>I1 b\/False) (encS (IV tl) (pn i.e yv x) l).st a4 W':=by
  have hsame:Same I1 Wh W':=λb hb=>by have e1:=hSc b hb;have hlb:=hM.lt b hb;rcases hM.up b hb with h|h|h;have hbw:=hlt b h;have e2:W.heap[b]? =W1.heap[b]? :=BW.keep b (by omega) λe=>(by have:=hSW b e;omega);rw[Mm b h,<- Mb b h,<- e2,e1];rw[hkeep b (.inl ((sX b).2 (.inl h))),e1];rw[hkeep b (.inl ((sX b).2 (.inr ⟨h,by omega,λe=>by have:=(hI2 b e).1;omega⟩))),e1]
  refine Rel.tm (a:=a) ⟨hrel.defers,hrel.size,λt=>dg.mono (λ _ _ h=>h) hsame (λ _ h=>.inl h) (hrel.env t),hMm⟩ (by rw[<- NL,<- E3,<- ha2];rfl) (by rw[<- NL];simp[Act.put,L3,hsz]) λt=>?_;by_cases h:t=t8\/t=t9\/t=sy\/t=tb;left;refine⟨?_,rfl⟩;simp only[cM.st];rw[ahY (e:=i.e) (tl:=tl) (yv:=yv) (x:=x) l];have:t≠tl/\t≠0/\t≠1:=by rcases h with h|h|h|h<;>rw[h];exact⟨Ne.symm nl8,Ne.symm n08,Ne.symm n18⟩;exact⟨Ne.symm nl9,Ne.symm n09,Ne.symm n19⟩;exact⟨Ne.symm arl,Ne.symm aro,Ne.symm n110⟩;exact⟨Ne.symm nlb,Ne.symm n0b,Ne.symm n1b⟩
  rw[aT this.1,aT this.2.1,aT this.2.2];rfl;right;simp only[not_or]at h;have q:a4.eval (.tmp t)=a.eval (.tmp t):=by rw[<- NL,tu (Ne.symm h.2.2.2),<- E3,tu (Ne.symm h.2.2.1),<- ha2,tu (Ne.symm h.2.1),tu (Ne.symm h.1)]
  exact q
 simp only[wpOpsIn,Exit.then];refine wpIn_cond (t:=true) (by rw[<- NL];exact VB (by rw[L3];exact hNb)) ?_;simp only[if_true];refine wpIn_skip ?_;simp only[Exit.then];refine wpIn_mono (gY hT hm hΓ b1 _ h1 _ _ r hlo (hr2 yv x l r hr) none W' _ β _ a4 W' Mu hlo.old) ?_;rintro e a5 W5 ⟨β5,I5,σ5,q1,_,s5,q2,q3,rfl,q4⟩;have hdk:=drop_cons hyk;cases e<;>simp only[ap4,reduceCtorEq]at q4
 .obtain⟨l2,j1,j2,j3,j4⟩:=iV hlow q2 (hext.trans (q3.wide λt ht=>by rw[<- hds];simp[ht])) q4;injection j1 with ij;subst ij;simp only at hc;have⟨t,ht,hc⟩:=iE.1 hc;rw[hdk]at hc;injection hc with _ hc;obtain⟨β6,Mp⟩:=j4 P W' _ _ β5 I5 a5 W5 q1;refine⟨S',W',k+1,β6,I5,l2,hJ',λb hb=>?_,Mp,j2,j3,by rw[<- hc];exact ht⟩;rcases (sX b).1 hb with h|h;exact hSW b h;exact Nat.le_trans LS h.1
 .injection q4 with ij;subst ij;injection hc with hc;rw[hdk]at hc;injection hc with _ hc;have hlen:ys.length=k+1:=by have h1:=(dx.1 hyk).1;have h2:=congrArg List.length hc;simp at h2;omega
  have N0:=q1.mem;show LeavesInM Fence.wide 0 P fn a5.tmps _ a5.defers .returning W5;rw[q1.defers];refine⟨.tuple #[],by simp[ED,hres],⟨_,rfl⟩,S',W',by rw[length_map,hlen];exact hJ',N0.le,λb hb hn=>N0.keep b hb hn,N0.os,N0.tape,N0.output⟩
theorem aqG{sh:Sh X.ι}{hh:Hn X.ι}{f:FuncId}{e:CT X.ι}{F:U (CT.T X.toSE e)->J (List (List Int))}(hT:fB P T)(hm:P.follows .mixedOrders=true)(hΓ:qq P Γ){fn:Func}(tl t8 t9 sy tb fc:Nat)(hfn:P.funcs[f]? =some fn)
 (hb:fn.body=some (ap2 (fn.body.getD .skip) tl t8 t9 sy tb fc)) (hres:fn.results=#[]) (hN:(([0,1,tl,t8,t9,sy,tb].all λt=>decide (t<fn.ntmps))&&decide [0,1,tl,t8,t9,sy,tb].Nodup)=true) {cl:U Int->J (List Int)}
 (hcl:∀l:U Int,cl l=some l->rh P fc [.t (.sl (l.map λn=>[.sc (.int .i64 n)]))] [] [] (.one (.fresh 1 (l.map λn=>[.sc (.int .i64 n)]))))
 {F0:U (CT.T X.toSE e)->J (List Int)} {F2:U (CT.T X.toSE e)->U Int->J (List Int⊕Unit)} {h0 h1:Hn X.ι}
 (hr0:∀yv x,run Γ T code fn.ntmps n (H3 (fn.body.getD .skip)) (List Int) h0 (pn e yv x) (ap3 e tl (tl::(eX (H3 (fn.body.getD .skip))++eX (Ss (fn.body.getD .skip)))) yv x)=F0 x)
 (hr2:∀yv x l,run Γ T code fn.ntmps n (Ss (fn.body.getD .skip)) (List Int⊕Unit) h1 (encS (IV tl) (pn e yv x) l) (ap4 e tl (tl::(eX (H3 (fn.body.getD .skip))++eX (Ss (fn.body.getD .skip)))) yv x)=F2 x l)
 (hF:∀x,F x=Sp cl F0 F2 n x):Hc P ⟨sh,hh,f,e,F⟩:=by rw[aX]at hN;refine aqF (i:=⟨sh,hh,f,e,F⟩) (ok:=λl=>cl l=some l) hT hm hΓ hfn hb hres (λ t ht=>of_decide_eq_true (all_eq_true.1 hN.1 t ht)) (of_decide_eq_true hN.2) hcl (F0:=F0) (F2:=F2) (λ yv x l h=>(hr0 yv x).trans h) (λ yv x l r h=>(hr2 yv x l).trans h) λx ys h=>?_;have h:F x=some ys:=h;rw[hF]at h;unfold Sp at h;have⟨l,h1,h⟩:=ah.1 h;have⟨zs,h2,h⟩:=ah.1 h;split at h;injection h with ij;subst ij;exact⟨l,n,h1,‹_›,h2⟩;cases h
theorem aqH{f:FuncId}(hc:eZ P f)(args:η)(w:Δ):(callFunc f args).run P w=.ok (.enter f args) w:=by
 obtain⟨fn,h1,h2,h3⟩:=hc;have hb:¬fn.body=none:=by cases hh:fn.body<;>simp[hh]at h2 ⊢
 have e3' : ¬ fn.name = "runtime.NumGoroutine" := by simpa using h3
 simp[callFunc,h1,e3',hb]
theorem cqX(hT:fB P T)(hm:P.follows .mixedOrders=true)(hΓ:qq P Γ){i:A0 X}(yl:Hc P i)(hc:eZ P i.gf){f:FuncId}{fn:Func}(hfn:P.funcs[f]? =some fn){g:cQ X}(h:Hn X.ι)
 (hq : (fn.body.isSome && !(fn.name == "runtime.NumGoroutine") && decide (g.m5.length <= fn.ntmps) && g.js.isEmpty && (xO g.m5).isEmpty) = true)
 (hr:∀v,Hb Γ T code fn.ntmps n i (fn.body.getD .skip) (VT (X:=X) (xg g).vars) h (NT g v) (UV T fn.results.toList g)=g.fn v):C3 P f ⟨[],[.d .bool],λ_=>none,some g⟩:=by
 simp only[aX]at hq;obtain⟨⟨⟨⟨q1,q2⟩,q3⟩,q4⟩,q5⟩:=hq;have hb:fn.body=some (fn.body.getD .skip):=by
  cases hc:fn.body with
  |none=>rw[hc]at q1;cases q1
  |some c=>rfl
 have hn : (fn.name == "runtime.NumGoroutine") = false := by simpa using q2
 exact S0 ⟨fn,hfn,q1,hn⟩ (ap0 hT hm hΓ yl (aqH hc) hfn hb hn g (of_decide_eq_true q3) (List.isEmpty_iff.1 q4) q5 h λv _ e=>(hr v).trans e)
end
section
variable {P:Program} {f F:FuncId} {E:TypeId} {α:Type} {enc:α->Value} {d:α}
end
section
variable {X:SX}
end
section
variable {X:SX}
def Gr{α β:Type}(f:α->J β):U α->J (List β)
 |[]=>some []
 |x::xs=>(f x).bind λy=>(Gr f xs).bind λys=>some (y::ys)
def DA(dq:(i j:X.ι)->Decidable (i=j))(i:X.ι):CT X.ι->J CS
 |.int k=>some (.int k)
 |.bool=>some .bool
 |.str=>some .str
 |.sl (.st j)=>match dq j i with
  |.isTrue _=>some .back
  |.isFalse _=>none
 |_=>none
def apB(dq:(i j:X.ι)->Decidable (i=j))(i:X.ι):Bool:=(X.de i).any λc=>match c with
 |.sl (.st j)=>match dq j i with
  |.isTrue _=>true
  |.isFalse _=>false
 |_=>false
def aqI(dq:(i j:X.ι)->Decidable (i=j)):CT X.ι->J (List CS)
 |.st i=>bif apB dq i then Gr (DA dq i) (X.de i)else none
 |_=>none
theorem ap6(dq:(i j:X.ι)->Decidable (i=j)){i:X.ι}{row:U CS}(hm:Gr (DA dq i) (X.de i)=some row){x:Tree}(h:IN row x):∃l:U (CT.T X.toSE (.st i)),x=.sl (l.map (CT.row X.toSE (.st i))):=by
 refine IN.rec (row:=row) (motive_1:=λx _=>∃l:U (CT.T X.toSE (.st i)),x=.sl (l.map (CT.row X.toSE (.st i)))) (motive_2:=λrows _=>∃l:U (CT.T X.toSE (.st i)),rows=l.map (CT.row X.toSE (.st i)))
  (motive_3:=λcs r _=>∀codes:U (CT X.ι),Gr (DA dq i) codes=some cs->∃h:HL X.toSE codes,r=HL.row X.toSE codes h) ?_ ?_ ?_ ?_ ?_ ?_ h
 rintro rows _ _ ⟨l,rfl⟩;exact⟨l,rfl⟩;exact⟨[],rfl⟩;rintro r rs _ _ h1 ⟨l,rfl⟩;obtain⟨q,rfl⟩:=h1 _ hm;exact⟨(X.make i q:X.T i)::l,by rw[bK];congr 1;exact(X.gS i q).symm⟩;intro codes hc;cases codes with
 |nil=>exact⟨(),rfl⟩
 |cons c codes=>
  simp only[Gr,ah]at hc;obtain⟨_,_,_,_,h⟩:=hc;cases h
 intro cs x xs _ _ h1 h2 codes hc;obtain⟨l,rfl⟩:=h1;cases codes with
 |nil=>simp[Gr]at hc
 |cons c codes=>
  simp only[Gr,ah]at hc;obtain⟨c',g1,cs',g2,g3⟩:=hc;injection g3 with g3;injection g3 with g4 g5;subst g4 g5;obtain⟨q,rfl⟩:=h2 _ g2
  match c,g1 with
  |.sl (.st j),g1=>
   simp[DA]at g1;split at g1;rename_i hj _;subst hj;exact⟨(l,q),rfl⟩;cases g1
  |.int _,g1|.bool,g1|.str,g1|.any,g1|.st _,g1|.mp _ _,g1|.sl (.int _),g1|.sl .bool,g1|.sl .str,g1|.sl .any,g1|.sl (.sl _),g1|.sl (.mp _ _),g1=>simp[DA]at g1
 intro c' cs x xs hf _ h2 codes hc;cases codes with
 |nil=>simp[Gr]at hc
 |cons c codes=>
  simp only[Gr,ah]at hc;obtain⟨c2,g1,cs',g2,g3⟩:=hc;injection g3 with g3;injection g3 with g4 g5;subst g4 g5;obtain⟨q,rfl⟩:=h2 _ g2
  match c,g1 with
  |.int k,g1=>
   cases g1;obtain⟨n,rfl,_⟩:=hf;exact⟨(n,q),rfl⟩
  |.bool,g1=>
   cases g1;obtain⟨n,rfl⟩:=hf;exact⟨(n,q),rfl⟩
  |.str,g1=>
   cases g1;obtain⟨n,rfl,_⟩:=hf;exact⟨(n,q),rfl⟩
  |.sl (.st j),g1=>
   simp[DA]at g1;split at g1;cases g1;exact hf.elim;cases g1
  |.any,g1|.st _,g1|.mp _ _,g1|.sl (.int _),g1|.sl .bool,g1|.sl .str,g1|.sl .any,g1|.sl (.sl _),g1|.sl (.mp _ _),g1=>simp[DA]at g1
def vu:Nat->CT X.ι->J (List CS)
 | 0,_=>none
 |_+1,.int k=>some [.int k]
 |_+1,.bool=>some [.bool]
 |_+1,.str=>some [.str]
 |_+1,.any=>some [.any]
 |_+1,.mp _ _=>none
 |n+1,.sl e=>match aqI X.dec e with
  |some row=>some [.mu row]
  |none=>(vu n e).bind λr=>some [.sl r]
 |n+1,.st i=>(Gr (vu n) (X.de i)).bind λl=>some l.flatten
def Jn(n:Nat)(c:CT X.ι):J VS:=
 match c with
 |.st i=>(vu n (.st i:CT X.ι)).map .agg
 |c=>(vu n c).bind λl=>match l with
  |[x]=>some (.one x)
  |_=>none
theorem Tw:∀(a b:U CS)(ys:U Tree),ed (a++b) ys->∃ya yb,ys=ya++yb/\ed a ya/\ed b yb
 |[],b,ys,h=>⟨[],ys,rfl,trivial,h⟩
 |c::a,b,y::ys,h=>by obtain⟨ya,yb,rfl,h1,h2⟩:=Tw a b ys h.2;exact⟨y::ya,yb,rfl,⟨h.1,h1⟩,h2⟩
 |_::_,_,[],h=>h.elim
theorem afl{c:CT X.ι}{cs:U CS}(h:∀ys,ed cs ys->∃x:CT.T X.toSE c,ys=CT.row X.toSE c x):∀rows:U (List Tree),(∀ r∈rows,ed cs r)->∃l:U (CT.T X.toSE c),rows=l.map (CT.row X.toSE c)
 |[],_=>⟨[],rfl⟩
 |r::rows,hr=>by obtain⟨x,hx⟩:=h r (hr r (by simp));obtain⟨l,hl⟩:=afl h rows λq hq=>hr q (bQ _ hq);exact⟨x::l,by rw[bK,<- hx,<- hl]⟩
theorem amF{f:CT X.ι->J (List CS)}(hf:∀c cs,f c=some cs->∀ys,ed cs ys->∃x:CT.T X.toSE c,ys=CT.row X.toSE c x):∀(l:U (CT X.ι))(css:U (List CS)),Gr f l=some css->∀ys,ed css.flatten ys->∃h:HL X.toSE l,ys=HL.row X.toSE l h
 |[],css,h,ys,hy=>by
  simp[Gr]at h;subst h;cases ys with
  |nil=>exact⟨(),rfl⟩
  |cons y ys=>exact hy.elim
 |c::l,css,h,ys,hy=>by simp[Gr]at h;have⟨a,h1,h⟩:=ah.1 h;have⟨b,h2,h⟩:=ah.1 h;cases h;obtain⟨ya,yb,rfl,g1,g2⟩:=Tw _ _ _ hy;have⟨x,hx⟩:=hf c a h1 ya g1;have⟨q,hq⟩:=amF hf l b h2 yb g2;exact⟨(x,q),by rw[hx,hq];rfl⟩
theorem VF:∀(n:Nat)(c:CT X.ι)(cs:U CS),vu n c=some cs->∀ys,ed cs ys->∃x:CT.T X.toSE c,ys=CT.row X.toSE c x
 | 0,_,_,h,_,_=>by cases h
 |n+1,.mp _ _,cs,h,ys,hy=>by simp[vu]at h
 |n+1,.int k,cs,h,ys,hy=>by
  simp[vu]at h;subst h
  match ys,hy with
  |[y],hy=>
   simp[ed]at hy;obtain⟨m,rfl,_⟩:=hy;exact⟨m,rfl⟩
  |[],hy=>exact hy.elim
  |_::_::_,hy=>exact hy.2.elim
 |n+1,.bool,cs,h,ys,hy=>by
  simp[vu]at h;subst h
  match ys,hy with
  |[y],hy=>
   simp only[ed,Fit,and_true]at hy;obtain⟨m,rfl⟩:=hy;exact⟨m,rfl⟩
  |[],hy=>exact hy.elim
  |_::_::_,hy=>exact hy.2.elim
 |n+1,.str,cs,h,ys,hy=>by
  simp[vu]at h;subst h
  match ys,hy with
  |[y],hy=>
   simp[ed]at hy;obtain⟨m,rfl,_⟩:=hy;exact⟨m,rfl⟩
  |[],hy=>exact hy.elim
  |_::_::_,hy=>exact hy.2.elim
 |n+1,.any,cs,h,ys,hy=>by
  simp[vu]at h;subst h
  match ys,hy with
  |[y],hy=>exact⟨y,rfl⟩
  |[],hy=>exact hy.elim
  |_::_::_,hy=>exact hy.2.elim
 |n+1,.sl e,cs,h,ys,hy=>by
  simp[vu]at h;split at h;rename_i row hm;cases h
  match ys,hy with
  |[y],hy=>
   simp[ed]at hy;cases e with
   |st i=>
    simp[aqI]at hm;cases hb:apB X.dec i with
    |false=>rw[hb]at hm;cases hm
    |true=>
     rw[hb]at hm;have⟨l,hl⟩:=ap6 X.dec hm hy;exact⟨l,by rw[hl];rfl⟩
   |_=>cases hm
  |[],hy=>exact hy.elim
  |_::_::_,hy=>exact hy.2.elim
  have⟨r,h1,h⟩:=ah.1 h;cases h
  match ys,hy with
  |[y],hy=>
   simp[ed]at hy;obtain⟨rows,rfl,_,hr⟩:=hy;have⟨l,hl⟩:=afl (VF n e r h1) rows hr;exact⟨l,by rw[hl];rfl⟩
  |[],hy=>exact hy.elim
  |_::_::_,hy=>exact hy.2.elim
 |n+1,.st i,cs,h,ys,hy=>by simp[vu]at h;have⟨css,h1,h⟩:=ah.1 h;cases h;have⟨q,hq⟩:=amF (VF n) (X.de i) css h1 ys hy;exact⟨X.make i q,by rw[hq];exact(X.gS i q).symm⟩
theorem aow{n:Nat}{c:CT X.ι}{s:VS}(h:Jn n c=some s){x:TV}(hx:HO s x):∃y:CT.T X.toSE c,x=CT.tv X.toSE c y:=by
 have one:∀c:CT X.ι,c.one=true->((vu n c).bind λl=>match l with
  |[x]=>some (VS.one x)
  |_=>none)=some s->∃y:CT.T X.toSE c,x=CT.tv X.toSE c y:=by intro c hc h;have⟨l,h1,h⟩:=ah.1 h;split at h;cases h;simp[HO]at hx;obtain⟨t,rfl,ht⟩:=hx;obtain⟨y,hy⟩:=VF n c _ h1 [t] ⟨ht,trivial⟩;obtain⟨t',e1,e2⟩:=row_one hc y;rw[e1]at hy;cases hy;exact⟨y,e2.symm⟩;cases h
 cases c
 case st i=>
  simp[Jn]at h;obtain⟨cs,h1,rfl⟩:=h;simp[HO]at hx;obtain⟨ys,rfl,hy⟩:=hx;obtain⟨y,hy⟩:=VF n (.st i) _ h1 ys hy;exact⟨y,by rw[hy];rfl⟩
 all_goals exact one _ rfl h
theorem afm(n:Nat):∀(cs:U (CT X.ι))(ss:U VS),Gr (Jn n) cs=some ss->∀xs,WS ss xs->∃h:HL X.toSE cs,xs=HL.pr X.toSE cs h
 |[],ss,h,xs,hx=>by
  simp[Gr]at h;subst h;cases xs with
  |nil=>exact⟨(),rfl⟩
  |cons x xs=>exact hx.elim
 |c::cs,ss,h,xs,hx=>by
  simp[Gr]at h;have⟨a,h1,h⟩:=ah.1 h;have⟨b,h2,h⟩:=ah.1 h;cases h;cases xs with
  |nil=>exact hx.elim
  |cons x xs=>
   obtain⟨y,rfl⟩:=aow h1 hx.1;obtain⟨q,rfl⟩:=afm n cs b h2 xs hx.2;exact⟨(y,q),rfl⟩
theorem amG{P:Ξ}{f:FuncId}{n N:Nat}{cs:U (CT X.ι)}{ss:U VS}{fn:Nat->jB X (cs.map AT.d)->J Bool}(hc:∀k,C3 P f ⟨cs.map AT.d,[.d .bool],fn k,none⟩)(hs:Gr (Jn n) cs=some ss)(hl:∀q:HL X.toSE cs,WS ss (HL.pr X.toSE cs q)->C0 (HL.pr X.toSE cs q)<=N->∃k,fn k (hlA cs q)=some true)(xs:U TV)(h:WS ss xs)(hb:C0 xs<=N):
 tR P f (xs.map TV.av) (.one (.d (.s (.sc (.bool true))))):=by obtain⟨q,rfl⟩:=afm n cs ss hs xs h;have⟨k,hk⟩:=hl q h hb;have h1:=(hc k).2.1 (hlA cs q) true hk;have h2:=h1;rw[Iz (acR cs)]at h2;have h3:rh P f (zx (cs.map AT.d) (hlA cs q)) [] [] (.one (.d (.s (.sc (.bool true))))):=h2;have h4:=WR h3;rw[zx,QH]at h4;exact h4
end
end Go.Gb
