import Derived.Test.YtckpncemdfkmgabGreatW2
import Derived.RangeFuncNested
import Derived.RangeFuncBound
import Derived.RangeFuncLeaves
import Derived.WalkKit
open List (mem_map all_eq_true length_map append_nil map_map map_nil all_cons)
namespace Go.Gb
open Go.RowKit
section
variable {X:SX}
theorem Zg{d:DV X}{c:CT X.ι}{x:CT.T X.toSE c}(h:Kz d c=some x):bp d=[]:=by
 cases d
 case c=>rfl
 case nil=>rfl
 all_goals cases c<;>cases h
theorem QX:∀{ds:List (DV X)}{l:List (CT X.ι)}{h:HL X.toSE l},Dy ds l=some h->aL ds=[]
 |[],[],_,_=>rfl
 |d::ds,c::l,h,hr=>by simp[Dy]at hr;have⟨x,h1,hr⟩:=ah.1 hr;have⟨g,h2,hr⟩:=ah.1 hr;simp[aL,Zg h1,QX h2]
 |[],_::_,_,hr|_::_,[],_,hr=>by simp[Dy]at hr
theorem ahf{d:DV X}{c:CT X.ι}{x:CT.T X.toSE c}(h:dat d c=some x):k9 (den d) (den (.c c x:DV X))/\bp d=[]:=by
 cases c
 case st i=>
  replace h:FS d i=some x:=h
  cases d
  case agg cs=>
   simp[FS]at h;have⟨g,h1,h⟩:=ah.1 h;cases h;refine⟨λ P β w I v hv=>?_,by simp[bp,QX h1]⟩;have h2:=(yg h1 (X.flat i)).1;simp[den]at hv;obtain⟨vs,rfl,hv⟩:=hv;show VR P β w I (.agg ((X.row i (X.make i g)).map AV.t)) _;have h3:(X.row i (X.make i g)).map AV.t=(bF cs).map Gb.wk:=(by rw[h2];exact congrArg _ (X.gb i g));rw[h3];simp only[VR];exact⟨vs,rfl,bo.wk _ _ hv⟩
  case c a y=>
   rw[(oC h).1];exact⟨k9.refl _,rfl⟩
  all_goals cases h
 all_goals
  have h1:=vI h;refine⟨λ P β w I v hv=>?_,Zg h⟩;simp[den];rw[<- h1];exact hv.wk
def gh(m m':MA X):Prop:=(∀ q∈m.nm,q∈m'.nm)/\(∀ c∈m.iS,c∈m'.iS)
theorem gh.refl(m:MA X):gh m m:=⟨λ _ h=>h,λ_ h=>h⟩
theorem gh.trans{a b c:MA X}(h:gh a b)(h':gh b c):gh a c:=⟨λ q hq=>h'.1 q (h.1 q hq),λq hq=>h'.2 q (h.2 q hq)⟩
theorem fI(m:MA X)(k' k:Nat):(addN m k' k).ev=m.ev/\(addN m k' k).iS=m.iS:=by grind [addN]
theorem nV(m:MA X)(k' k:Nat):(k',k)∈(addN m k' k).nm:=by grind [addN]
theorem p8(m:MA X)(k' k:Nat):gh m (addN m k' k):=by unfold addN;split;exact gh.refl m;exact⟨λ q hq=>by simp[hq],λ_ h=>h⟩
variable {get:Nat->Option (br X)}
mutual
theorem ahg:∀(p:Pt X.ι)(d:DV X)(m m':MA X),mP get p d m=some m'->gh m m'/\∃al,m'.ev=m.ev++al/\al.length=p.vars.length
 |.v c,d,m,m',h=>by simp[mP]at h;rw[ah]at h;obtain⟨x,h1,h⟩:=h;cases h;exact⟨⟨λ _ h=>h,λ_ h=>h⟩,[⟨c,x⟩],rfl,rfl⟩
 |.o k,d,m,m',h=>by simp[mP]at h;split at h;rename_i k' len;have⟨o,h1,h⟩:=ah.1 h;split at h;cases h;refine⟨gh.trans (b:=⟨m.nm,m.ev,m.iS++_⟩) ⟨λ _ h=>h,λ_ h=>by simp[h]⟩ (p8 _ _ _),[],by rw[(fI _ _ _).1];simp,rfl⟩;cases h;cases h
 |.oz k,d,m,m',h=>by simp[mP]at h;split at h;have⟨o,h1,h⟩:=ah.1 h;split at h;cases h;refine⟨gh.trans (b:=⟨m.nm,m.ev,m.iS++_⟩) ⟨λ _ h=>h,λ_ h=>by simp[h]⟩ (p8 _ _ _),[],by rw[(fI _ _ _).1];simp,rfl⟩;cases h;have⟨o,h1,h⟩:=ah.1 h;split at h;cases h;refine⟨gh.trans (b:=⟨m.nm,m.ev,m.iS++_⟩) ⟨λ _ h=>h,λ_ h=>by simp[h]⟩ (p8 _ _ _),[],by rw[(fI _ _ _).1];simp,rfl⟩;cases h;cases h
 |.p k,d,m,m',h=>by simp[mP]at h;split at h;cases h;exact⟨p8 _ _ _,[],by rw[(fI _ _ _).1];simp,rfl⟩;cases h
 |.mp k,d,m,m',h=>by simp[mP]at h;split at h;cases h;exact⟨p8 _ _ _,[],by rw[(fI _ _ _).1];simp,rfl⟩;cases h
 |.nil,d,m,m',h=>by simp[mP]at h;split at h;cases h;exact⟨gh.refl _,[],by simp,rfl⟩;cases h
 |.f F fs cs,d,m,m',h=>by simp[mP]at h;split at h;split at h;rw[ah]at h;obtain⟨m1,h1,h⟩:=h;obtain⟨a1,n1,b1,c1⟩:=yB fs _ m m1 h1;obtain⟨a2,n2,b2,c2⟩:=yB cs _ m1 m' h;exact⟨a1.trans a2,n1++n2,by rw[b2,b1,aT],by simp[Pt.vars,c1,c2]⟩;cases h;cases h
 |.od k,d,m,m',h=>by simp[mP]at h;split at h;rename_i k' aa len;have⟨o,h1,h⟩:=ah.1 h;split at h;cases h;refine⟨gh.trans (b:=⟨m.nm,m.ev++[⟨.int .i64,(aa:Int)⟩],m.iS++_⟩) ⟨λ _ h=>h,λ_ h=>by simp[h]⟩ (p8 _ _ _),[⟨.int .i64,(aa:Int)⟩],by rw[(fI _ _ _).1],rfl⟩;cases h;cases h
 |.a ps,d,m,m',h=>by simp[mP]at h;split at h;exact yB ps _ m m' h;cases h
theorem yB:∀(ps:List (Pt X.ι))(ds:List (DV X))(m m':MA X),tA get ps ds m=some m'->gh m m'/\∃al,m'.ev=m.ev++al/\al.length=(cJ ps).length
 |[],[],m,m',h=>by simp[tA]at h;subst h;exact⟨gh.refl _,[],by simp,rfl⟩
 |p::ps,d::ds,m,m',h=>by simp[tA]at h;have⟨m1,h1,h⟩:=ah.1 h;have⟨a1,n1,b1,c1⟩:=ahg p d m m1 h1;have⟨a2,n2,b2,c2⟩:=yB ps ds m1 m' h;exact⟨a1.trans a2,n1++n2,by rw[b2,b1,aT],by simp[cJ,c1,c2]⟩
 |[],_::_,m,m',h|_::_,[],m,m',h=>by simp[tA]at h
end
theorem yC:∀(rs:List (List (Pt X.ι)))(qs:List (List (DV X)))(m m':MA X),Kg get rs qs m=some m'->gh m m'/\∃al,m'.ev=m.ev++al/\al.length=(vJ rs).length
 |[],[],m,m',h=>by simp[Kg]at h;subst h;exact⟨gh.refl _,[],by simp,rfl⟩
 |r::rs,q::qs,m,m',h=>by simp[Kg]at h;have⟨m1,h1,h⟩:=ah.1 h;have⟨a1,n1,b1,c1⟩:=yB r q m m1 h1;have⟨a2,n2,b2,c2⟩:=yC rs qs m1 m' h;exact⟨a1.trans a2,n1++n2,by rw[b2,b1,aT],by simp[vJ,c1,c2]⟩
 |[],_::_,m,m',h|_::_,[],m,m',h=>by simp[Kg]at h
section
variable {NM:List (Nat×Nat)} {f:Nat->Nat} {dp:Nat->Nat}
def DN(NM:List (Nat×Nat))(j:Nat):Prop:=∃k,(j,k)∈NM
def SN(NM:List (Nat×Nat))(j:Nat):Prop:=∃k,(k,j)∈NM
theorem Mc{D:Nat->Prop}{f:Nat->Nat}{P:Program}{β:Nat->Option cA}{w:World}{I:Nat->Prop}:∀{a b:List AV}(_:nj D f a b)(u:List Value),bo P β w I (BN f a) u->bo P β w I b u
 |[],[],_,u,hu=>hu
 |[],_::_,hr,_,_|_::_,[],hr,_,_=>hr.elim
 |y::ys,z::zs,hr,[],hu=>by simp[BN,bo]at hu
 |y::ys,z::zs,hr,v::vs,hu=>by exact⟨hr.1.2 _ _ _ _ _ hu.1,Mc hr.2 vs hu.2⟩
mutual
theorem acX(hf:∀q∈NM,f q.1=q.2)(ho:∀q∈NM,∀c l,get q.1=some (.ec c l)->dp q.2=l.length):∀(p:Pt X.ι)(d:DV X)(m m':MA X),mP get p d m=some m'->(∀ q∈m'.nm,q∈NM)->(∀ c∈m'.iS,c=true)->
 ∃al,m'.ev=m.ev++al/\∃d',(∀ ae,eP dp p (al++ae)=(d',ae))/\k9 (jt f (den d)) (den d')/\(∀ j∈bp d,DN NM j)/\(∀ j∈bp d',SN NM j)
 |.v c,d,m,m',h,_,_=>by simp[mP]at h;rw[ah]at h;obtain⟨x,h1,h⟩:=h;cases h;have⟨h2,h3⟩:=ahf h1;refine⟨[⟨c,x⟩],rfl,.c c x,λae=>rfl,?_,by simp[h3],by simp[bp]⟩;rw[<- zP,Vj d (by simp[h3])];exact h2
 |.o k,d,m,m',h,hn,hc=>by
  simp[mP]at h;split at h;rename_i k' len;rw[ah]at h;obtain⟨o,h1,h⟩:=h;split at h;rename_i c l;cases h;have hq:(k',k)∈NM:=hn _ (nV _ _ _);have he:len=l.length:=by have:=hc (be len l.length) (by rw[(fI _ _ _).2];simp);simpa[be]using this
  refine⟨[],by rw[(fI _ _ _).1];simp,.own k 0 (dp k),λae=>rfl,?_,?_,?_⟩;simp[den,jt];rw[hf _ hq,ho _ hq c l h1,he];exact k9.refl _;intro j hj;simp[bp]at hj;subst hj;exact⟨k,hq⟩;intro j hj;simp[bp]at hj;subst hj;exact⟨k',hq⟩;cases h;cases h
 |.oz k,d,m,m',h,hn,hc=>by
  simp[mP]at h;split at h;rename_i k' len;rw[ah]at h;obtain⟨o,h1,h⟩:=h;split at h;rename_i c l;cases h;have hq:(k',k)∈NM:=hn _ (nV _ _ _);have he:len≠0/\len=l.length:=by have:=hc (!(len==0)&&be len l.length) (by rw[(fI _ _ _).2];simp);simpa[be]using this
  refine⟨[],by rw[(fI _ _ _).1];simp,.oz k (dp k),λae=>rfl,?_,λj hj=>?_,λj hj=>?_⟩;simp[den,jt];rw[hf _ hq,ho _ hq c l h1,<- he.2];intro P β w I v hv;simp only[VR]at hv ⊢;exact .inr ⟨he.1,hv.resolve_left λh=>he.1 h.2.2.2⟩;simp[bp]at hj;subst hj;exact⟨k,hq⟩;simp[bp]at hj;subst hj;exact⟨k',hq⟩;cases h;rename_i k' len;rw[ah]at h;obtain⟨o,h1,h⟩:=h;split at h;rename_i c l;cases h;have hq:(k',k)∈NM:=hn _ (nV _ _ _);have he:len=l.length:=by have:=hc (be len l.length) (by rw[(fI _ _ _).2];simp);simpa[be]using this
  refine⟨[],by rw[(fI _ _ _).1];simp,.oz k (dp k),λae=>rfl,?_,λj hj=>?_,λj hj=>?_⟩;simp[den,jt];rw[hf _ hq,ho _ hq c l h1,he];exact k9.refl _;simp[bp,bq]at hj;subst hj;exact⟨k,hq⟩;simp[bp,bq]at hj;subst hj;exact⟨k',hq⟩;cases h;cases h
 |.p k,d,m,m',h,hn,hc=>by simp[mP]at h;split at h;rename_i k';cases h;have hq:(k',k)∈NM:=hn _ (nV _ _ _);refine⟨[],by rw[(fI _ _ _).1];simp,.ptr k 0 0,λae=>rfl,?_,?_,?_⟩;simp[den,jt];rw[hf _ hq];exact k9.refl _;intro j hj;simp[bp,bq]at hj;subst hj;exact⟨k,hq⟩;intro j hj;simp[bp,bq]at hj;subst hj;exact⟨k',hq⟩;cases h
 |.mp k,d,m,m',h,hn,hc=>by simp[mP]at h;split at h;rename_i k';cases h;have hq:(k',k)∈NM:=hn _ (nV _ _ _);refine⟨[],by rw[(fI _ _ _).1];simp,.mp k,λae=>rfl,?_,?_,?_⟩;simp[den,jt];rw[hf _ hq];exact k9.refl _;intro j hj;simp[bp,bq]at hj;subst hj;exact⟨k,hq⟩;intro j hj;simp[bp,bq]at hj;subst hj;exact⟨k',hq⟩;cases h
 |.nil,d,m,m',h,_,_=>by simp[mP]at h;split at h;cases h;exact⟨[],by simp,.nil,λae=>rfl,k9.refl _,by simp[bp],by simp[bp]⟩;cases h
 |.f F fs cs,d,m,m',h,hn,hc=>by
  simp[mP]at h;split at h;rename_i F' first caps
  split at h;rename_i e;subst e;rw[ah]at h;obtain⟨m1,h1,h⟩:=h;have hm:=(yB cs _ m1 m' h).1;obtain⟨n1,a1,f',b1,c1,e1,g1⟩:=Ce hf ho fs _ m m1 h1 (λ q hq=>hn q (hm.1 q hq)) (λ q hq=>hc q (hm.2 q hq));obtain⟨n2,a2,c',b2,c2,e2,g2⟩:=Ce hf ho cs _ m1 m' h hn hc;refine⟨n1++n2,by rw[a2,a1,aT],.fn F f' c',λae=>by simp[eP,aT,b1,b2],?_,?_,?_⟩;intro P β w I v hv;simp[den,jt,VR]at hv ⊢;obtain⟨us,vs,rfl,hu,hv⟩:=hv;exact⟨us,vs,rfl,Mc c1 _ hu,Mc c2 _ hv⟩;intro j hj;simp[bp,bK]at hj;exact hj.elim (e1 j) (e2 j);intro j hj;simp[bp,bK]at hj;exact hj.elim (g1 j) (g2 j);cases h;cases h
 |.od k,d,m,m',h,hn,hc=>by
  simp[mP]at h;split at h;rename_i k' aa len;rw[ah]at h;obtain⟨o,h1,h⟩:=h;split at h;rename_i c l;cases h;have hq:(k',k)∈NM:=hn _ (nV _ _ _);have he:aa+len=l.length:=by have:=hc (be (aa+len) l.length) (by rw[(fI _ _ _).2];simp);simpa[be]using this
  refine⟨[⟨.int .i64,(aa:Int)⟩],by rw[(fI _ _ _).1],.own k aa (dp k-aa),λae=>?_,?_,?_,?_⟩;simp only[eP,List.cons_append,fP];have:YZ (X:=X) ⟨.int .i64,(aa:Int)⟩=aa:=by simp[YZ];rw[UW];simp
  rw[this];simp[den,jt];rw[hf _ hq,ho _ hq c l h1,show l.length-aa=len by omega];exact k9.refl _;intro j hj;simp[bp,bq]at hj;subst hj;exact⟨k,hq⟩;intro j hj;simp[bp,bq]at hj;subst hj;exact⟨k',hq⟩;cases h;cases h
 |.a ps,d,m,m',h,hn,hc=>by simp[mP]at h;split at h;rename_i ds;have⟨al,h1,ds',h2,h3,h4,h5⟩:=Ce hf ho ps ds m m' h hn hc;refine⟨al,h1,.agg ds',λae=>by simp[eP,h2],?_,by simpa[bp]using h4,by simpa[bp]using h5⟩;intro P β w I v hv;simp[den,jt,VR]at hv ⊢;obtain⟨vs,rfl,hv⟩:=hv;refine⟨vs,rfl,?_⟩;exact Mc h3 _ hv;cases h
theorem Ce(hf:∀q∈NM,f q.1=q.2)(ho:∀q∈NM,∀c l,get q.1=some (.ec c l)->dp q.2=l.length):∀(ps:List (Pt X.ι))(ds:List (DV X))(m m':MA X),tA get ps ds m=some m'->(∀ q∈m'.nm,q∈NM)->(∀ c∈m'.iS,c=true)->
 ∃al,m'.ev=m.ev++al/\∃ds',(∀ ae,k8 dp ps (al++ae)=(ds',ae))/\nj (DN NM) f (bF ds) (bF ds')/\(∀ j∈aL ds,DN NM j)/\(∀ j∈aL ds',SN NM j)
 |[],[],m,m',h,_,_=>by simp[tA,bM]at h;subst h;exact⟨[],by simp,[],λae=>rfl,trivial,by simp[aL],by simp[aL]⟩
 |p::ps,d::ds,m,m',h,hn,hc=>by simp[tA]at h;have⟨m1,h1,h⟩:=ah.1 h;have hm:=(yB ps ds m1 m' h).1;obtain⟨n1,a1,d',b1,c1,e1,g1⟩:=acX hf ho p d m m1 h1 (λ q hq=>hn q (hm.1 q hq)) (λ q hq=>hc q (hm.2 q hq));have⟨n2,a2,ds',b2,c2,e2,g2⟩:=Ce hf ho ps ds m1 m' h hn hc;refine⟨n1++n2,by rw[a2,a1,aT],d'::ds',λae=>?_,⟨⟨λ k hk=>e1 k (by rwa [iP]at hk),c1⟩,c2⟩,?_,?_⟩;simp[k8,aT,b1,b2];intro j hj;simp[aL,bK]at hj;exact hj.elim (e1 j) (e2 j);intro j hj;simp[aL,bK]at hj;exact hj.elim (g1 j) (g2 j)
 |[],_::_,m,m',h,_,_=>by simp[tA]at h
 |_::_,[],m,m',h,_,_=>by simp[tA]at h
end
theorem QY(hf:∀q∈NM,f q.1=q.2)(ho:∀q∈NM,∀c l,get q.1=some (.ec c l)->dp q.2=l.length):∀(rs:List (List (Pt X.ι)))(qs:List (List (DV X)))(m m':MA X),Kg get rs qs m=some m'->(∀ q∈m'.nm,q∈NM)->(∀ c∈m'.iS,c=true)->
 ∃al,m'.ev=m.ev++al/\∃GE,(∀ ae,vL dp rs (al++ae)=(GE,ae))/\gx (DN NM) f (qs.map bF) (GE.map bF)/\(∀ j∈(qs.map aL).flatten,DN NM j)/\(∀ j∈(GE.map aL).flatten,SN NM j)
 |[],[],m,m',h,_,_=>by simp[Kg]at h;subst h;exact⟨[],by simp,[],λae=>rfl,trivial,by simp,by simp⟩
 |r::rs,q::qs,m,m',h,hn,hc=>by
  simp[Kg]at h;have⟨m1,h1,h⟩:=ah.1 h;have hm:=(yC rs qs m1 m' h).1;obtain⟨n1,a1,d',b1,c1,e1,g1⟩:=Ce hf ho r q m m1 h1 (λ q hq=>hn q (hm.1 q hq)) (λ q hq=>hc q (hm.2 q hq));have⟨n2,a2,ds',b2,c2,e2,g2⟩:=QY hf ho rs qs m1 m' h hn hc;refine⟨n1++n2,by rw[a2,a1,aT],d'::ds',λae=>?_,⟨c1,c2⟩,?_,?_⟩;simp[vL]
  all_goals grind
 |[],_::_,m,m',h,_,_|_::_,[],m,m',h,_,_=>by simp[Kg]at h
end
end
section
variable {X:SX} {get:Nat->Option (br X)} {env:Nat->DV X}
theorem GV:∀(sl:List (Nat×Pt X.ι))(m m':MA X),GN get env sl m=some m'->gh m m'/\∃al,m'.ev=m.ev++al/\al.length=(gO sl).length
 |[],m,m',h=>by simp[GN]at h;subst h;exact⟨gh.refl _,[],by simp,rfl⟩
 |(t,p)::r,m,m',h=>by simp[GN]at h;rw[ah]at h;obtain⟨m1,h1,h⟩:=h;obtain⟨a1,n1,b1,c1⟩:=ahg p _ m m1 h1;have⟨a2,n2,b2,c2⟩:=GV r m1 m' h;exact⟨a1.trans a2,n1++n2,by grind,by simp[gO,c1,c2]⟩
theorem mE:∀(os:List (Nat×OP X.ι))(m m':MA X),BV get os m=some m'->gh m m'/\∃al,m'.ev=m.ev++al/\al.length=(da os).length
 |[],m,m',h=>by simp[BV]at h;subst h;exact⟨gh.refl _,[],by simp,rfl⟩
 |(k,op)::r,m,m',h=>by simp[BV]at h;rw[ah]at h;obtain⟨o,h1,h⟩:=h;split at h;rename_i c c' l;rw[ah]at h;obtain⟨l',h2,h⟩:=h;obtain⟨a2,n2,b2,c2⟩:=mE r _ m' h;refine⟨gh.trans (gh.trans (b:=⟨m.nm,m.ev++[⟨.sl c,l'⟩],m.iS⟩) ⟨λ _ h=>h,λ_ h=>h⟩ (p8 _ _ _)) a2,[⟨.sl c,l'⟩]++n2,?_,by simp[da,c2]⟩;rw[b2,(fI _ _ _).1,aT];rename_i kc vc uc tW l;rw[ah]at h;obtain⟨l',h2,h⟩:=h;obtain⟨a2,n2,b2,c2⟩:=mE r _ m' h;refine⟨gh.trans (gh.trans (b:=⟨m.nm,m.ev++[⟨.mp kc vc,l'⟩],m.iS⟩) ⟨λ _ h=>h,λ_ h=>h⟩ (p8 _ _ _)) a2,[⟨.mp kc vc,l'⟩]++n2,?_,by simp[da,c2]⟩;rw[b2,(fI _ _ _).1,aT];rename_i sz rows sz' rows';split at h;rw[ah]at h;obtain⟨m1,h2,h⟩:=h;obtain⟨a1,n1,b1,c1⟩:=yC rows _ _ m1 h2;have⟨a2,n2,b2,c2⟩:=mE r m1 m' h;refine⟨((p8 m _ _).trans a1).trans a2,n1++n2,?_,by simp[da,c1,c2]⟩;rw[b2,b1,(fI _ _ _).1,aT];cases h;cases h
variable {NM:List (Nat×Nat)} {f:Nat->Nat} {dp:Nat->Nat}
theorem DR:∀(os:List (Nat×OP X.ι))(m m':MA X),BV get os m=some m'->(∀ q∈m'.nm,q∈NM)->∃al,m'.ev=m.ev++al/\∀ae,∀k∈os.map (·.1),∃k' o,(k',k)∈NM/\get k'=some o/\∀c l,o=.ec c l->(k,List.length l)∈lens os (al++ae)
 |[],m,m',h,_=>by
  simp_all [BV]
 |(k,op)::r,m,m',h,hn=>by
  simp[BV]at h;rw[ah]at h;obtain⟨o,h1,h⟩:=h;split at h;rename_i c c' l;rw[ah]at h;obtain⟨l',h2,h⟩:=h;have hm:=(mE r _ m' h).1;obtain⟨n2,b2,c2⟩:=DR r _ m' h hn;refine⟨[⟨.sl c,l'⟩]++n2,by rw[b2,(fI _ _ _).1,aT],λae j hj=>?_⟩;simp only[bJ,aR]at hj;by_cases hjk:j=k;subst hjk;refine⟨_,_,hn _ (hm.1 _ (nV _ _ _)),h1,λc2 l2 he=>?_⟩;injection he with e1 e2;subst e1;subst e2;have:=congrArg List.length (jA h2).2;simp at this;rw[this];exact List.mem_cons_self;rcases hj with rfl|hj;exact(hjk rfl).elim;have⟨k',o',g1,g2,g3⟩:=c2 ae j hj;exact⟨k',o',g1,g2,λc l he=>dZ _ (g3 c l he)⟩;rename_i kc vc uc tW l;rw[ah]at h;obtain⟨l',h2,h⟩:=h;have hm:=(mE r _ m' h).1;obtain⟨n2,b2,c2⟩:=DR r _ m' h hn;refine⟨[⟨.mp kc vc,l'⟩]++n2,by rw[b2,(fI _ _ _).1,aT],λae j hj=>?_⟩;simp only[bJ,aR]at hj;by_cases hjk:j=k;subst hjk;exact⟨_,_,hn _ (hm.1 _ (nV _ _ _)),h1,λc2 l2 he=>by cases he⟩;rcases hj with rfl|hj;exact(hjk rfl).elim;exact c2 ae j hj;rename_i sz rows sz' rows';split at h;have⟨m1,h2,h⟩:=ah.1 h;obtain⟨a1,n1,b1,c1⟩:=yC rows _ _ m1 h2;have hm:=(mE r _ m' h).1;obtain⟨n2,b2,c2⟩:=DR r _ m' h hn;refine⟨n1++n2,by rw[b2,b1,(fI _ _ _).1,aT],λae j hj=>?_⟩;simp only[bJ,aR]at hj;have hd:(n1++n2++ae).drop (vJ rows).length=n2++ae:=by rw[<- c1,aT,List.drop_left]
  simp only[lens,hd];by_cases hjk:j=k;subst hjk;exact⟨_,_,hn _ (hm.1 _ (a1.1 _ (nV _ _ _))),h1,λc2 l2 he=>by cases he⟩;rcases hj with rfl|hj;exact(hjk rfl).elim;exact c2 ae j hj;cases h;cases h
theorem OY:∀(os:List (Nat×OP X.ι))(L:List (DC X)),((lens os L).map (·.1)).Sublist (os.map (·.1))
 |[],_=>by simp[lens]
 |(k,.l c)::r,L=>by
  simp[lens];split;exact(OY r _).cons_cons _
  grind
 |(k,.m kc vc)::r,L|(k,.c sz rows)::r,L=>(OY r _).cons _
theorem Md(hf:∀q∈NM,f q.1=q.2)(ho:∀q∈NM,∀c l,get q.1=some (.ec c l)->dp q.2=l.length):∀(sl:List (Nat×Pt X.ι))(m m':MA X),GN get env sl m=some m'->(∀ q∈m'.nm,q∈NM)->(∀ c∈m'.iS,c=true)->
 ∃al,m'.ev=m.ev++al/\∃es,(∀ ae,wB dp sl (al++ae)=es)/\(∀ p∈es,p.1∈sl.map (·.1)/\k9 (jt f (den (env p.1))) (den p.2)/\(∀ j∈bp (env p.1),DN NM j)/\(∀ j∈bp p.2,SN NM j))
 |[],m,m',h,_,_=>by simp[GN]at h;subst h;exact⟨[],by simp,[],λae=>rfl,by simp⟩
 |(t,p)::r,m,m',h,hn,hc=>by
  simp[GN]at h;have⟨m1,h1,h⟩:=ah.1 h;have hm:=(GV r m1 m' h).1;obtain⟨n1,a1,d',b1,c1,e1,g1⟩:=acX hf ho p _ m m1 h1 (λ q hq=>hn q (hm.1 q hq)) (λ q hq=>hc q (hm.2 q hq));have⟨n2,a2,es,b2,c2⟩:=Md hf ho r m1 m' h hn hc;refine⟨n1++n2,by grind,(t,d')::es,λae=>by simp[wB,b1,b2],λq hq=>?_⟩
  grind
theorem Zh{D:Nat->Prop}(f:Nat->Nat):∀rows:List (List Tree),gx D f (aI rows) (aI rows)
 |[]=>trivial
 |r::rs=>by
  refine⟨?_,Zh f rs⟩
  induction r with
  |nil=>trivial
  |cons y ys ih=>exact⟨⟨by simp[refs],k9.refl _⟩,ih⟩
theorem Zi{a b c d:CT X.ι}{l:List (CT.T X.toSE a×CT.T X.toSE b)}{l':List (CT.T X.toSE c×CT.T X.toSE d)}(h:lq (.mp a b) (.mp c d) l=some l'):bH (.map c d l':br X)=bH (.map a b l):=by
 obtain⟨e,h⟩:=rH h
 grind
theorem Zj{D:Nat->Prop}(f:Nat->Nat){kc vc:CT X.ι}:∀l:List (CT.T X.toSE kc×CT.T X.toSE vc),gx D f (bH (.map kc vc l:br X)).rows (bH (.map kc vc l:br X)).rows
 |[]=>trivial
 |p::ps=>⟨⟨⟨by simp[zN],by rw[U5];exact k9.refl _⟩,⟨by simp[zN],by rw[U5];exact k9.refl _⟩,trivial⟩,Zj f ps⟩
theorem zR(hf:∀q∈NM,f q.1=q.2)(ho:∀q∈NM,∀c l,get q.1=some (.ec c l)->dp q.2=l.length):∀(os:List (Nat×OP X.ι))(m m':MA X),BV get os m=some m'->(∀ q∈m'.nm,q∈NM)->(∀ c∈m'.iS,c=true)->
 ∃al,m'.ev=m.ev++al/\∃xs,(∀ ae,bX dp os (al++ae)=xs)/\(∀ p∈xs,p.1∈os.map (·.1)/\∃k' o o',p.2=some o'/\(k',p.1)∈NM/\get k'=some o/\(bH o').sz=(bH o).sz/\gx (DN NM) f (bH o).rows (bH o').rows/\(∀ j∈d7 o',SN NM j))
 |[],m,m',h,_,_=>by simp[BV]at h;subst h;exact⟨[],by simp,[],λae=>rfl,by simp⟩
 |(k,op)::r,m,m',h,hn,hc=>by simp[BV]at h;rw[ah]at h;obtain⟨o,h1,h⟩:=h;split at h;rename_i c c' l;rw[ah]at h;obtain⟨l',h2,h⟩:=h;have hm:=(mE r _ m' h).1;obtain⟨n2,a2,xs,b2,c2⟩:=zR hf ho r _ m' h hn hc;refine⟨[⟨.sl c,l'⟩]++n2,by rw[a2,(fI _ _ _).1,aT],(k,some (.ec c l'))::xs,λae=>by simp[bX,b2],λq hq=>?_⟩;rcases aR.1 hq with rfl|hq;refine⟨by simp,_,_,_,rfl,hn _ (hm.1 _ (nV _ _ _)),h1,?_,?_,by simp[d7]⟩;simp[bH,(jA h2).1];simp[bH,(jA h2).2];exact Zh f _;have⟨i1,i2⟩:=c2 q hq;exact⟨by simp only[bJ,aR];exact .inr i1,i2⟩;rename_i kc vc uc tW l;rw[ah]at h;obtain⟨l',h2,h⟩:=h;have hm:=(mE r _ m' h).1;obtain⟨n2,a2,xs,b2,c2⟩:=zR hf ho r _ m' h hn hc;refine⟨[⟨.mp kc vc,l'⟩]++n2,by rw[a2,(fI _ _ _).1,aT],(k,some (.map kc vc l'))::xs,λae=>by simp[bX,b2],λq hq=>?_⟩;rcases aR.1 hq with rfl|hq;refine⟨by simp,_,_,_,rfl,hn _ (hm.1 _ (nV _ _ _)),h1,?_,?_,by simp[d7]⟩;rw[Zi h2];rw[Zi h2];exact Zj f _;have⟨i1,i2⟩:=c2 q hq;exact⟨by simp only[bJ,aR];exact .inr i1,i2⟩;rename_i sz rows sz' rows';split at h;rename_i hsz;have⟨m1,h2,h⟩:=ah.1 h;have hm1:=(yC rows _ _ m1 h2).1;have hm:=(mE r _ m' h).1;obtain⟨n1,a1,qs,b1,c1,e1,g1⟩:=QY hf ho rows _ _ m1 h2 (λ q hq=>hn q (hm.1 q hq)) (λ q hq=>hc q (hm.2 q hq));obtain⟨n2,a2,xs,b2,c2⟩:=zR hf ho r _ m' h hn hc;refine⟨n1++n2,by rw[a2,a1,(fI _ _ _).1,aT],(k,some (.cells sz qs))::xs,λae=>by simp[bX,b1,b2],λq hq=>?_⟩;rcases aR.1 hq with rfl|hq;exact⟨by simp,_,_,_,rfl,hn _ (hm.1 _ (hm1.1 _ (nV _ _ _))),h1,hsz,c1,g1⟩;have⟨i1,i2⟩:=c2 q hq;exact⟨by simp only[bJ,aR];exact .inr i1,i2⟩;cases h;cases h
theorem aiv{d:DV X}(h:isU d=false)(h':d=.undef):False:=by subst h';cases h
theorem aaO{A:Type}{b:Bool}{sh:Sh X.ι}{ds:List Nat}{s0 s':cH X}{k:VT (X:=X) sh.vars->Option A}{r:A}(hl0:Low s0)(hx:Ext (· ∈ds) s0 s')(h:Tl b sh ds s0 s' k=some r):
 ∃v,k v=some r/\Low (encS sh s0 v)/\Ext (· ∈ds) s0 (encS sh s0 v)/\∀(P:Program) (w0:World) (O0:gA) (N:Nat) (β:Nat->Option cA) (I:Nat->Prop) (a:Act) (w:World),(b=true\/∀j,O0.anc j=none)->Rel P w0 O0 N β I s'.st a w->∃ β',Rel P w0 O0 N β' I (encS sh s0 v).st a w:=by
 unfold Tl at h;have⟨m1,h1,h⟩:=ah.1 h;have⟨m,h2,h⟩:=ah.1 h;have⟨h3,h⟩:=dR h;have⟨v,h4,h⟩:=ah.1 h;have⟨h5,h6⟩:=pY h;simp only[okS,bg,bE]at h3;obtain⟨⟨⟨⟨⟨⟨⟨⟨n1,n2⟩,n3⟩,n4⟩,n5⟩,n6⟩,n7⟩,n8⟩,n9⟩:=h3;have hm2:=(mE _ _ _ h2).1;have vA:=UU h4;obtain⟨_,nA,dA,lA⟩:=GV _ _ _ h1;simp at dA;have Ys:=(List.nodup_append.1 n1).1;have X2:=(List.nodup_append.1 n2).1;have hsw:((m.nm.map λq=>(q.2,q.1)).map (·.1)).Nodup:=by rw[map_map];exact X2
 generalize hf':(λ j=>match lk m.nm j with|some q=>q|none=>j:Nat->Nat)=f;generalize hg':(λ j=>match lk (m.nm.map λq=>(q.2,q.1)) j with|some q=>q|none=>j:Nat->Nat)=g;have hf:∀q∈m.nm,f q.1=q.2:=by rintro⟨p,q⟩ hq;rw[<- hf'];simp[uP Ys hq]
 have hg:∀q∈m.nm,g q.2=q.1:=by rintro⟨p,q⟩ hq;rw[<- hg'];have:(q,p)∈m.nm.map λq=>(q.2,q.1):=mem_map.2 ⟨(p,q),hq,rfl⟩;simp[uP hsw this]
 have oy:∀j∈sh.cV,f j=j:=by intro j hj;rw[<- hf'];rcases hh:lk m.nm j with _|q;simp[hh];exact((List.nodup_append.1 n1).2.2 j (mem_map.2 ⟨(j,q),qp hh,rfl⟩) j hj rfl).elim
 have Jn:∀j∈sh.cV,g j=j:=by intro j hj;rw[<- hg'];rcases hh:lk (m.nm.map λq=>(q.2,q.1)) j with _|q;simp[hh];have h1:=qp hh;simp only[mem_map]at h1;obtain⟨z,hz,e⟩:=h1;injection e with e1 e2;exact((List.nodup_append.1 n2).2.2 j (mem_map.2 ⟨z,hz,e1⟩) j hj rfl).elim
 have hg0:b=true->∀j,j<1000->g j=j:=by intro hb j hj;rw[<- hg'];rcases hh:lk (m.nm.map λq=>(q.2,q.1)) j with _|q;simp[hh];have h1:=qp hh;simp only[mem_map]at h1;obtain⟨z,hz,e⟩:=h1;injection e with e1 e2;have:=all_eq_true.1 n4 z hz;simp[hb]at this;simp[hh];omega
 have hgf:∀j,(DN m.nm j\/j∈sh.cV)->g (f j)=j:=by rintro j (⟨q,hq⟩|hj);rw[hf _ hq];exact hg _ hq;rw[oy j hj];exact Jn j hj
 obtain⟨nB,dB,lB⟩:=DR (NM:=m.nm) _ _ _ h2 (λ q hq=>hq);have hL:m.ev=nA++nB:=by rw[dB,dA]
 have hdrop:(vK sh.vars v).drop (gO sh.slots).length=nB:=by rw[vA,hL,<- lA,List.drop_left]
 have htake:(vK sh.vars v).take (gO sh.slots).length=nA:=by rw[vA,hL,<- lA,List.take_left]
 generalize hol:(λ k=>(lk (lens sh.cy nB) k).getD 0:Nat->Nat)=dp;have ho:∀q∈m.nm,∀c l,fp s'.obj q.1=some (.ec c l)->dp q.2=l.length:=by
  rintro⟨p,q⟩ hq c l hl;have hqk:=all_eq_true.1 n4 _ hq;simp at hqk;obtain⟨p',o,g1,g2,g3⟩:=lB [] q (by simpa using hqk.1.1);have:p'=p:=by have e1:=hg _ g1;have e2:=hg _ hq;simp at e1 e2;rw[<- e1,e2]
  subst this;simp at hl;rw[hl]at g2;injection g2 with g2;have h3:=g3 c l g2.symm;rw[append_nil]at h3;rw[<- hol];have hk:=(OY sh.cy nB).nodup n3;simp[uP hk h3]
 obtain⟨US,Mb,es,eA,pA⟩:=Md (NM:=m.nm) (f:=f) (dp:=dp) hf ho _ _ _ h1 (λ q hq=>hm2.1 q hq) (λ c hc=>h5 c (hm2.2 c hc));obtain⟨nB',dB',xs,eB,pB⟩:=zR (NM:=m.nm) (f:=f) (dp:=dp) hf ho _ _ _ h2 (λ q hq=>hq) h5;have eqA:US=nA:=by simp at Mb;rw[<- Mb,dA]
 have eqB:=List.append_cancel_left (dB'.symm.trans dB);subst eqA eqB;have L5:=eA [];have L4:=eB [];rw[append_nil]at L5 L4;have hS:encS sh s0 v=⟨es++sh.keep.map (λ t=>(t,dC s0.env t)),xs++sh.cV.map (λ k=>(k,fp s0.obj k)),sh.nx,(List.range s0.nx).filter (λ k=>!sh.cV.contains k)++s0.log⟩:=by simp[encS,hdrop,htake,hol,L5,L4]
 have hsn:∀j,SN m.nm j->j<sh.nx:=by rintro j ⟨p,hp⟩;have:=all_eq_true.1 n4 _ hp;simp[bg,bE]at this;exact this.1.2
 have kp:∀j,(sh.cV.contains j || m.nm.contains (j,j))=true->j∈sh.cV\/(j,j)∈m.nm:=by intro j hj;simpa using hj
 have hfp:∀j,j∈sh.cV\/(j,j)∈m.nm->f j=j:=λj hj=>hj.elim (oy j) (λ h=>hf (j,j) h);have hdp:∀j,j∈sh.cV\/(j,j)∈m.nm->DN m.nm j\/j∈sh.cV:=λj hj=>hj.elim .inr (λ h=>.inl ⟨j,h⟩);have hko:∀j∈sh.cV,j<s0.nx/\(∃ o,fp s0.obj j=some o/\fp s'.obj j=some o/\∀i∈d7 o,i∈sh.cV\/(i,i)∈m.nm):=by
  intro j hj;have:=all_eq_true.1 n7 _ hj;simp only[bg,bE,Bool.not_eq_true']at this;obtain⟨⟨⟨a1,a2⟩,a3⟩,a4⟩:=this;refine⟨a1,?_⟩;rcases ho0:fp s0.obj j with _|o;rw[ho0]at a4;cases a4;rw[ho0]at a4;refine⟨o,rfl,?_,λi hi=>kp i (all_eq_true.1 a4 i hi)⟩;obtain⟨d,hd,hd2⟩:=hx.obj;have hnd:j∉d:=by have e:s'.log.take (s'.log.length-s0.log.length)=d:=(by rw[hd,fG,Nat.add_sub_cancel,List.take_left]);rw[e]at a2;simpa using a2
  rcases hd2 j a1 hnd with h|h;rw[h,ho0];rw[h]at a3;cases a3
 have hke:∀t∈sh.keep,t∉ds/\dC s'.env t=dC s0.env t/\∀j∈bp (dC s0.env t),j∈sh.cV\/(j,j)∈m.nm:=by
  intro t ht;have:=all_eq_true.1 n6 _ ht;simp only[bg,Bool.not_eq_true']at this;obtain⟨⟨a1,a2⟩,a3⟩:=this;have a1':t∉ds:=by simpa using a1
  refine⟨a1',?_,λj hj=>kp j (all_eq_true.1 a3 j hj)⟩;rcases hx.env t a1' with h|h;exact h;exact(aiv a2 h).elim
 have hks:∀q∈es,q.1∈ds:=by intro q hq;have h1:=(pA q hq).1;obtain⟨z,hz,e⟩:=mem_map.1 h1;have:=all_eq_true.1 n5 _ hz;rw[<- e];simpa using this
 have hkeep:∀t,lk (sh.keep.map λt=>(t,dC s0.env t)) t=if t∈sh.keep then some (dC s0.env t)else none:=by
  intro t
  induction sh.keep with
  |nil=>simp[lk]
  |cons q qs ih=>
   simp[bJ,lk,ih,aR];by_cases e:q=t;subst e;simp;rw[aV e];simp[Ne.symm e]
 have CL:∀t,lk (sh.cV.map λt=>(t,fp s0.obj t)) t=if t∈sh.cV then some (fp s0.obj t)else none:=by
  intro t
  induction sh.cV with
  |nil=>simp[lk]
  |cons q qs ih=>
   simp[bJ,lk,ih,aR];by_cases e:q=t;subst e;simp;rw[aV e];simp[Ne.symm e]
 have rS:∀t,(∃ d,(t,d)∈es/\dC (encS sh s0 v).env t=d)\/(t∈sh.keep/\dC (encS sh s0 v).env t=dC s0.env t)\/dC (encS sh s0 v).env t=.undef:=by
  intro t;have e1:dC (encS sh s0 v).env t=(match lk es t with|some d=>some d|none=>if t∈sh.keep then some (dC s0.env t)else none).getD .undef:=by rw[hS];show(lk (es++sh.keep.map (λ t=>(t,dC s0.env t))) t).getD .undef=_;rw[Cb,hkeep t];cases lk es t<;>rfl
  rw[e1];cases he:lk es t with
  |some d=>exact .inl ⟨d,qp he,rfl⟩
  |none=>
   by_cases ht:t∈sh.keep;simp only[aX ht];exact .inr (.inl ⟨ht,rfl⟩);simp only[aV ht];exact .inr (.inr rfl)
 have ie:∀j o,fp (encS sh s0 v).obj j=some o->(∃ k' o1,(k',j)∈m.nm/\fp s'.obj k'=some o1/\(bH o).sz=(bH o1).sz/\gx (DN m.nm) f (bH o1).rows (bH o).rows/\(∀ i∈d7 o,SN m.nm i))\/(j∈sh.cV/\fp s0.obj j=some o):=by
  intro j o hjo;have e1:fp (encS sh s0 v).obj j=(match lk xs j with|some d=>some d|none=>if j∈sh.cV then some (fp s0.obj j)else none).join:=by rw[hS];show(lk (xs++sh.cV.map (λ k=>(k,fp s0.obj k))) j).join=_;rw[Cb,CL j];cases lk xs j<;>rfl
  rw[e1]at hjo;cases he:lk xs j with
  |some x=>
   rw[he]at hjo;obtain⟨_,k',o1,o',b1,b2,b3,b4,b5,b6⟩:=pB _ (qp he);simp at b1 b2 hjo;subst b1;simp[Option.join_some,bM]at hjo;subst hjo;exact .inl ⟨k',o1,b2,b3,b4,b5,b6⟩
  |none=>
   rw[he]at hjo;by_cases hj:j∈sh.cV;simp[aX hj,Option.join_some]at hjo;exact .inr ⟨hj,hjo⟩;simp[aV hj]at hjo
 have hnx:=n8;have hkx:∀j,j∈sh.cV\/(j,j)∈m.nm->j<sh.nx:=λj hj=>hj.elim (λ hj=>Nat.lt_of_lt_of_le (hko j hj).1 hnx) (λ h=>hsn j ⟨j,h⟩);have hRW:∀{r q:List AV},nj (DN m.nm) f r q->nj (λ j=>DN m.nm j\/j∈sh.cV) f r q:=by
  intro r
  induction r with
  |nil=>intro q h;cases q with
   |nil=>trivial
   |cons=>exact h.elim
  |cons x xs ih=>intro q h;cases q with
   |nil=>exact h.elim
   |cons y ys=>exact⟨⟨λ k hk=>.inl (h.1.1 k hk),h.1.2⟩,ih h.2⟩
 have aox:∀{r q:List (List AV)},gx (DN m.nm) f r q->gx (λ j=>DN m.nm j\/j∈sh.cV) f r q:=by
  intro r
  induction r with
  |nil=>intro q h;cases q with
   |nil=>trivial
   |cons=>exact h.elim
  |cons x xs ih=>intro q h;cases q with
   |nil=>exact h.elim
   |cons y ys=>exact⟨hRW h.1,ih h.2⟩
 refine⟨v,h6,?_,?_,?_⟩;constructor;rw[hS];exact n9;rw[hS];exact Nat.le_trans hl0.ge n8;intro t j hj;have CA:(encS sh s0 v).nx=sh.nx:=by rw[hS]
 rw[CA];rcases rS t with ⟨d,h1,h2⟩|⟨h1,h2⟩|h2;rw[h2]at hj;exact hsn j ((pA _ h1).2.2.2 j hj);rw[h2]at hj;exact hkx j ((hke t h1).2.2 j hj);rw[h2]at hj;simp[bp]at hj;intro j o hjo;have CA:(encS sh s0 v).nx=sh.nx:=by rw[hS]
 rw[CA];rcases ie j o hjo with ⟨k',o1,b1,b2,b3,b4,b5⟩|⟨b1,b2⟩;exact⟨hsn j ⟨k',b1⟩,λi hi=>hsn i (b5 i hi)⟩;have⟨c1,o',c2,c3,c4⟩:=hko j b1;rw[b2]at c2;cases c2;exact⟨hkx j (.inl b1),λi hi=>hkx i (c4 i hi)⟩;refine⟨λ t ht=>?_,⟨(List.range s0.nx).filter (λ k=>!sh.cV.contains k),by rw[hS],λj hj hn=>?_⟩,hS ▸ hnx⟩;rcases rS t with ⟨d,h1,h2⟩|⟨h1,h2⟩|h2;exact(ht (hks _ h1)).elim;exact .inl h2;exact .inr h2;have hjk:j∈sh.cV:=by simpa[hj]using hn
 cases hjo:fp (encS sh s0 v).obj j with
 |none=>exact .inr rfl
 |some o=>
  rcases ie j o hjo with ⟨k',o1,b1,_⟩|⟨b1,b2⟩;exact((List.nodup_append.1 n2).2.2 j (mem_map.2 ⟨(k',j),b1,rfl⟩) j hjk rfl).elim;exact .inl b2.symm
 intro P w0 O0 N β I a w k7 hr;refine⟨_,Rel.re0 (f:=f) (g:=g) (D:=λj=>DN m.nm j\/j∈sh.cV) hgf (λ j B hj=>k7.elim (λ hb=>hg0 hb j (O0.lt j B hj)) λh=>by rw[h j]at hj;cases hj) hr (λ _=>.inl rfl) (λ _=>rfl) (λ t=>?_) (λ j o' hj=>?_)⟩;show den (dC (encS sh s0 v).env t)=.undef\/((∀ k∈refs (den (dC s'.env t)),_)/\k9 (jt f (den (dC s'.env t))) (den (dC (encS sh s0 v).env t)));rcases rS t with ⟨d,h1,h2⟩|⟨h1,h2⟩|h2;right;rw[h2];obtain⟨_,b1,b2,_⟩:=pA _ h1;exact⟨λ k hk=>.inl (b2 k (by rwa [iP]at hk)),b1⟩;right;have⟨_,b1,b2⟩:=hke t h1;rw[h2,b1];refine⟨λ k hk=>hdp k (b2 k (by rwa [iP]at hk)),?_⟩;rw[<- zP,Vj _ (λ k hk=>hfp k (b2 k hk))];exact k9.refl _;left;rw[h2];rfl;simp[cH.st,iW]at hj;obtain⟨o,hjo,rfl⟩:=hj;rcases ie j o hjo with ⟨k',o1,b1,b2,b3,b4,b5⟩|⟨b1,b2⟩;exact⟨k',bH o1,by simp[cH.st,b2],.inl ⟨j,b1⟩,hf _ b1,b3,aox b4⟩;have⟨c1,o',c2,c3,c4⟩:=hko j b1;rw[b2]at c2;cases c2;have hid:pP f o=o:=by
  cases o with
  |ec c l=>rfl
  |map kc vc l=>rfl
  |cells sz rows=>
   simp[pP];congr 1;have:=λq hq=>DL q λi hi=>hfp i (c4 i (by simp[d7,List.mem_flatten,mem_map];exact⟨_,⟨q,hq,rfl⟩,hi⟩));rw[List.map_congr_left this];simp
 obtain⟨r1,r2⟩:=Jc (D:=λj=>DN m.nm j\/j∈sh.cV) f o (λ i hi=>hdp i (c4 i hi));rw[hid]at r1 r2;exact⟨j,bH o,by simp[cH.st,c3],.inr b1,oy j b1,r1,r2⟩
theorem Ext.trans{ds:Nat->Prop}{a b c:cH X}(h:Ext ds a b)(h':Ext ds b c):Ext ds a c:=by
 refine⟨λ t ht=>?_,?_,Nat.le_trans h.nx h'.nx⟩;rcases h'.env t ht with h1|h1;rcases h.env t ht with h2|h2;exact .inl (h1.trans h2);exact .inr (h1.trans h2);exact .inr h1;obtain⟨d,h1,h2⟩:=h.obj;obtain⟨d',h3,h4⟩:=h'.obj;refine⟨d'++d,by grind,λk hk hn=>?_⟩;simp at hn;rcases h4 k (Nat.lt_of_lt_of_le hk h.nx) hn.1 with h5|h5;rcases h2 k hk hn.2 with h6|h6;exact .inl (h5.trans h6);exact .inr (h5.trans h6)
 grind
theorem Ext.refl(ds:Nat->Prop)(s:cH X):Ext ds s s:=⟨λ _ _=>.inl rfl,⟨[],by simp,λ_ _ _=>.inl rfl⟩,ay _⟩
def Says(s s':cH X):Prop:=∀(P:Program) (w0:World) (O0:gA) (N:Nat) (β:Nat->Option cA) (I:Nat->Prop) (a:Act) (w:World),Rel P w0 O0 N β I s.st a w->∃ β',Rel P w0 O0 N β' I s'.st a w
theorem Low.room{s:cH X}{P:Program}{w0:World}{O0:gA}{N:Nat}{β:Nat->Option cA}{I:Nat->Prop}{a:Act}{w:World}(hl:Low s)(hr:Rel P w0 O0 N β I s.st a w):∃ β2,β2 s.nx=none/\Rel P w0 O0 N β2 I s.st a w:=by
 have hr1:=hr.restrict hl.old
 have hr2:=Rel.re (f:=id) (g:=λj=>if j<s.nx then j else 1000000) (D:=(· <s.nx)) (s':=s.st) (λ k hk=>aX hk) (λ j hj=>aX (by have:=hl.ge;omega)) hr1 (λ _=>.inl rfl) (λ _=>rfl)
  (λ q=>.inr ⟨λ k hk=>hl.env q k (by rw[<- iP];exact hk),by show k9 (jt id (den (dC s.env q))) (den (dC s.env q));rw[<- zP,Vj (f:=id) _ (λ _ _=>rfl)];exact k9.refl _⟩)
  (λ j o' hj=>by
   simp[cH.st]at hj;obtain⟨x,hx,rfl⟩:=hj;have⟨h1,h2⟩:=hl.obj j x hx;have⟨r1,r2⟩:=Jc (D:=(· <s.nx)) id x h2;have hid:pP id x=x:=by
    cases x with
    |ec c l|map kc vc l=>rfl
    |cells sz rows=>
     simp[pP];have:∀q∈rows,KD id q=q:=λq _=>DL (f:=id) q λ_ _=>rfl;rw[List.map_congr_left this];simp
   rw[hid]at r1 r2;exact⟨j,bH x,by simp[cH.st,hx],h1,rfl,r1,r2⟩)
 grind
theorem alL(z:Bool)(k:Nat):bp (nz (X:=X) z k)=[k]:=by cases z<;>rfl
theorem Vl{ds:List Nat}{z:Bool}{s:cH X}{t:Nat}{c:CT X.ι}(hl:Low s)(ht:t∈ds):Low (AM z s t c)/\Ext (· ∈ds) s (AM z s t c)/\Says s (AM z s t c):=by
 unfold AM;split;rename_i hn;split;have he:∀q,dC ((t,nz z s.nx)::s.env) q=if t=q then nz z s.nx else dC s.env q:=λq=>by
  grind [dC,lk]
 have hO:∀q,fp ((s.nx,some (.ec c []))::s.obj) q=if s.nx=q then some (.ec c [])else fp s.obj q:=λq=>by
  grind [fp,lk]
 refine⟨⟨by show s.nx+1<=1000000;omega,by have:=hl.ge;show 1000<=s.nx+1;omega,λq k hk=>?_,λk o ho=>?_⟩,⟨λ q hq=>?_,⟨[s.nx],rfl,λk hk hnk=>?_⟩,by show s.nx<=s.nx+1;omega⟩,λP w0 O0 N β I a w hr=>?_⟩;rw[he]at hk;split at hk;simp[alL]at hk;subst hk;show s.nx<s.nx+1;omega;have:=hl.env q k hk;show k<s.nx+1;omega;rw[hO]at ho;split at ho;rename_i e;cases ho;subst e;exact⟨by show s.nx<s.nx+1;omega,by simp[d7]⟩;have⟨h1,h2⟩:=hl.obj k o ho;exact⟨by show k<s.nx+1;omega,λj hj=>by have:=h2 j hj;show j<s.nx+1;omega⟩;left;rw[he,aV];intro e;subst e;exact hq ht;left;rw[hO,aV (by omega)];have⟨β2,GG,hr2⟩:=hl.room hr;have⟨hS,hM⟩:=Mem.pw (i:=s.nx) (o:=bH (.ec c []:br X)) hr2.mem GG rfl;refine⟨ins β2 s.nx .none,hr2.defers,hr2.size,λq=>?_,?_⟩;have h1:=hr2.env q;show dc P _ w I (den (dC ((t,nz z s.nx)::s.env) q)) none _;rw[he];by_cases e:t=q;subst e;rw[aX rfl];have h2:VR P _ w I (den (dC s.env t)) (a.tmps.getD t undef):=h1;rw[hn]at h2;rcases z with _|_;simp only[dc,nz,ax,den,VR];exact .inl ⟨by simp[ins],h2,trivial,trivial⟩;simp only[dc,nz,aj,den,VR];exact .inl ⟨trivial,h2⟩;rw[aV e];exact dc.mono hS.ext hS.same hS.inc h1;have e:(λ k=>(fp ((s.nx,some (.ec c []))::s.obj) k).map bH)=bV s.st.obj [(s.nx,some (bH (.ec c []:br X)))]:=by funext q;simp[bV,cH.st];rw[hO];by_cases e:s.nx=q;simp[e];rw[aV e,aV (Ne.symm e)]
 show Mem P w0 O0 _ I (λ k=>(fp ((s.nx,some (.ec c []))::s.obj) k).map bH) w;rw[e];exact hM;exact⟨hl,Ext.refl _ s,λ_ _ _ _ β _ _ _ h=>⟨β,h⟩⟩;exact⟨hl,Ext.refl _ s,λ_ _ _ _ β _ _ _ h=>⟨β,h⟩⟩
theorem Vm(y:DV X):∀(l:List (DV X))(j i:Nat),i∈aL (l.set j y)->i∈aL l\/i∈bp y
 |[],_,_,h=>.inl (by grind)
 |x::l,0,i,h=>by
  grind [aL]
 |x::l,j+1,i,h=>by
  simp[aL]at h ⊢;rcases h with h|h;exact .inl (.inl h);rcases Vm y l j i h with h|h;exact .inl (.inr h)
  grind
theorem bo.set{P:Program}{β:Nat->Option cA}{w:World}{I:Nat->Prop}{y:AV}:∀(xs:List AV)(vs:List Value)(j:Nat),(∀ x v,xs[j]? =some x->VR P β w I x v->VR P β w I y v)->bo P β w I xs vs->bo P β w I (xs.set j y) vs
 |[],vs,_,_,h=>by grind
 |x::xs,[],_,_,h=>by trivial
 |x::xs,v::vs,0,hy,h=>⟨hy x v rfl h.1,h.2⟩
 |x::xs,v::vs,j+1,hy,h=>⟨h.1,bo.set xs vs j (λ x v e=>hy x v (by grind)) h.2⟩
theorem OR.set1{P:Program}{β:Nat->Option cA}{w:World}{I:Nat->Prop}{sz:Nat}{row:List AV}{j:Nat}{y:AV}{B:cA}(hy:∀x v,row[j]? =some x->VR P β w I x v->VR P β w I y v)(h:OR P β w I ⟨sz,[row]⟩ B):OR P β w I ⟨sz,[row.set j y]⟩ B:=by
 cases B with
 |none=>trivial
 | «at» b s n=>
  obtain⟨h1,c,e,h2,h3,h4⟩:=h;refine⟨h1,c,e,h2,h3,?_⟩;simp only[bu,List.length_set]at h4 ⊢;refine⟨h4.1,?_,trivial⟩;rw[jM]at h4 ⊢;intro i x hx;rw[List.getElem?_set]at hx;split at hx;rename_i e;subst e;split at hx;cases hx;rename_i hlt;obtain⟨v,g1,g2,g3⟩:=h4.2.1 j _ (dJ hlt);exact⟨v,g1,hy _ v (dJ hlt) g2,g3⟩;cases hx
  grind
 |mp b=>
  obtain⟨es,cl,h1,hle,h2,h3⟩:=h;refine⟨es,cl,h1,hle,λe=>?_,h3⟩;have:=h2 e
  match hes:es.toList,this with
  |[e1],this=>exact⟨bo.set _ _ j hy this.1,trivial⟩
  |[],this|_::_::_,this=>grind [cD]
theorem acY(y:DV X):∀(l:List (DV X))(j:Nat),bF (l.set j y)=(bF l).set j (den y)
 |[],_|x::l,0=>by rfl
 |x::l,j+1=>by simp[bF,acY y l j]
theorem afv{ds:List Nat}{s:cH X}{q j:Nat}{c:CT X.ι}(hl:Low s):Low (G1 s q j c)/\Ext (· ∈ds) s (G1 s q j c)/\Says s (G1 s q j c):=by
 unfold G1;split;rename_i sz row hq;split;rename_i hn;split;have hqn:=(hl.obj q _ hq).1;have hrefs:=λk hk=>(hl.obj q _ hq).2 k (by simpa[d7]using hk);have hO:∀k,fp ((q,some (.cells sz [row.set j (.own s.nx 0 0)]))::(s.nx,some (.ec c []))::s.obj) k=if q=k then some (.cells sz [row.set j (.own s.nx 0 0)])else if s.nx=k then some (.ec c [])else fp s.obj k:=λk=>by
  grind [fp,lk]
 refine⟨⟨by grind,by have:=hl.ge;show 1000<=s.nx+1;omega,λk i hk=>by have:=hl.env k i hk;show i<s.nx+1;omega,λk o ho=>?_⟩,⟨λ _ _=>.inl rfl,⟨[q,s.nx],rfl,λk hk hnk=>?_⟩,by show s.nx<=s.nx+1;omega⟩,λP w0 O0 N β I a w hr=>?_⟩;rw[hO]at ho;split at ho;rename_i e;cases ho;subst e;refine⟨by show q<s.nx+1;omega,λi hi=>?_⟩;show i<s.nx+1;simp[d7]at hi;rcases Vm _ _ _ _ hi with h1|h1;have:=hrefs i h1;omega;simp[bp]at h1;omega;split at ho;rename_i e;cases ho;subst e;exact⟨by show s.nx<s.nx+1;omega,by simp[d7]⟩;have⟨h1,h2⟩:=hl.obj k o ho;exact⟨by show k<s.nx+1;omega,λi hi=>by have:=h2 i hi;show i<s.nx+1;omega⟩;left;simp at hnk;rw[hO,aV (Ne.symm hnk.1),aV (Ne.symm hnk.2)];have⟨β2,GG,hr2⟩:=hl.room hr;have⟨hS,hM⟩:=Mem.pw (i:=s.nx) (o:=bH (.ec c []:br X)) hr2.mem GG rfl;refine⟨ins β2 s.nx .none,hr2.defers,hr2.size,λk=>dc.mono hS.ext hS.same hS.inc (hr2.env k),?_⟩;refine hM.weak λk o' ho=>?_;simp only[cH.st]at ho;rw[hO]at ho;by_cases e:q=k;subst e;rw[aX rfl]at ho;cases ho;refine⟨bH (.cells sz [row]),by simp[bV];rw[aV (by omega)];simp[cH.st,hq],λB _ hB=>?_⟩;simp[bH,acY]at hB ⊢;refine OR.set1 (λ x v hx hv=>?_) hB;rw[nU,List.getElem?_map,hn]at hx;cases hx;simpa only[den,VR]using .inl ⟨by simp[ins],hv,trivial,trivial⟩;rw[aV e]at ho;refine⟨o',?_,λ_ _ h=>h⟩;simp[bV];by_cases e':s.nx=k;subst e';simpa using ho;rw[aV e']at ho;rw[aV (Ne.symm e')];exact ho;exact⟨hl,Ext.refl _ s,λ_ _ _ _ β _ _ _ h=>⟨β,h⟩⟩;exact⟨hl,Ext.refl _ s,λ_ _ _ _ β _ _ _ h=>⟨β,h⟩⟩;exact⟨hl,Ext.refl _ s,λ_ _ _ _ β _ _ _ h=>⟨β,h⟩⟩
theorem Me{ds:List Nat}:∀(l:List (Nat×CT X.ι)){s:cH X},Low s->(∀ p∈l,(bif Nat.ble 1000000 p.1 then !Nat.ble 1099511627776 p.1 || ds.contains (p.1-1099511627776)else ds.contains p.1)=true)->Low (OX l s)/\Ext (· ∈ds) s (OX l s)/\Says s (OX l s)
 |[],s,hl,_=>⟨hl,Ext.refl _ s,λ_ _ _ _ β _ _ _ h=>⟨β,h⟩⟩
 |(t,c)::r,s,hl,hd=>by
  generalize hs:(bif Nat.ble 1000000 t then bif Nat.ble 1099511627776 t then AM true s (t-1099511627776) c else G1 s ((t-1000000)/4096) ((t-1000000)%4096) c else AM false s t c)=s1;have h0:Low s1/\Ext (· ∈ds) s s1/\Says s s1:=by
   have hd0:=hd (t,c) (by simp);subst hs;cases hb:Nat.ble 1000000 t with
   |true=>
    rw[hb]at hd0;cases hb2:Nat.ble 1099511627776 t with
    |true=>rw[hb2]at hd0;exact Vl hl (by grind)
    |false=>exact afv hl
   |false=>rw[hb]at hd0;exact Vl hl (by grind)
  obtain⟨h1,h2,h3⟩:=h0;simp[OX,hs];obtain⟨g1,g2,g3⟩:=Me r h1 (λ p hp=>hd p (by grind));refine⟨g1,h2.trans g2,λP w0 O0 N β I a w hr=>?_⟩;have⟨β',hr'⟩:=h3 P w0 O0 N β I a w hr;exact g3 P w0 O0 N β' I a w hr'
theorem Mf{A:Type}{b:Bool}{sh:Sh X.ι}{ds:List Nat}{s0 s':cH X}{k:VT (X:=X) sh.vars->Option A}{r:A}(hl0:Low s0)(hl':Low s')(hx:Ext (· ∈ds) s0 s')(h:afu b sh ds s0 s' k=some r):
 ∃v,k v=some r/\Low (encS sh s0 v)/\Ext (· ∈ds) s0 (encS sh s0 v)/\∀(P:Program) (w0:World) (O0:gA) (N:Nat) (β:Nat->Option cA) (I:Nat->Prop) (a:Act) (w:World),(b=true\/∀j,O0.anc j=none)->Rel P w0 O0 N β I s'.st a w->∃ β',Rel P w0 O0 N β' I (encS sh s0 v).st a w:=by have⟨h1,h2⟩:=dR h;obtain⟨g1,g2,g3⟩:=Me (ds:=ds) sh.BW hl' (λ p hp=>all_eq_true.1 h1 p hp);have⟨v,i1,i2,i3,i4⟩:=aaO hl0 (hx.trans g2) h2;refine⟨v,i1,i2,i3,λP w0 O0 N β I a w k7 hr=>?_⟩;have⟨β',hr'⟩:=g3 P w0 O0 N β I a w hr;exact i4 P w0 O0 N β' I a w k7 hr'
theorem iJ{A:Type}{sh:Sh X.ι}{ds:List Nat}{s0 s':cH X}{k:VT (X:=X) sh.vars->Option A}{r:A}(hl0:Low s0)(hl':Low s')(hx:Ext (· ∈ds) s0 s')(h:o9 sh ds s0 s' k=some r):
 ∃v,k v=some r/\Low (encS sh s0 v)/\Ext (· ∈ds) s0 (encS sh s0 v)/\Says s' (encS sh s0 v):=by have⟨v,i1,i2,i3,i4⟩:=Mf hl0 hl' hx h;exact⟨v,i1,i2,i3,λP w0 O0 N β I a w hr=>i4 P w0 O0 N β I a w (.inl rfl) hr⟩
end
def eG:Code->List Nat
 |.region _ ag _=>ag.toList.filterMap (·.dst)
 |.seq a b=>eG a++eG b
 |.cond _ a b=>eG a++eG b
 |.block _ b=>eG b
 |.loop b=>eG b
 |_=>[]
section
variable {X:SX}
section
variable {P:Program} {N:Nat}
def Kj{A:Type}(ds:List Nat)(s:cH X)(k:Exit->cH X->Option A)(r:A)(e:Exit)(σ:St):Prop:=∃s',Low s'/\Ext (· ∈ds) s s'/\σ=s'.st/\k e s'=some r
theorem ahh{c:Code}{Q Q':Exit->St->Prop}{σ:St}(h:Ev P N c Q σ)(ht:∀e σ,Q e σ->∀w0 O0 β I a w,Rel P w0 O0 N β I σ a w->∃ β' σ',Rel P w0 O0 N β' I σ' a w/\tU σ'/\Q' e σ'):Ev P N c Q' σ:=by intro L w0 O0 β I a w hr ho;refine wpIn_mono (h L w0 O0 β I a w hr ho) ?_;rintro e a' w' ⟨β',I',σ',h1,_,h3⟩;have⟨β2,σ2,g1,g2,g3⟩:=ht e σ' h3 w0 O0 β' I' a' w' h1;exact⟨β2,I',σ2,g1,g2,g3⟩
end
end
inductive Hn(ι:Type) where
 |z
 |f (l:List Nat)
 |s (a b:Hn ι)
 |b (a:Hn ι)
 |j (sh:Sh ι) (a:Hn ι)
 |jx (sh:Sh ι) (a:Hn ι)
 |l (head:Sh ι) (id:Nat) (out:Sh ι) (a:Hn ι)
 |lx (head:Sh ι) (id:Nat) (out:Sh ι) (a:Hn ι)
 |rg (head:Sh ι) (a:Hn ι)
 |un (a r:Hn ι)
def Hn.fz{ι:Type}:Hn ι->List Nat
 |.f is=>is
 |_=>[]
def Hn.fst{ι:Type}:Hn ι->Hn ι
 |.s a _=>a
 |_=>.z
def Hn.snd{ι:Type}:Hn ι->Hn ι
 |.s _ y=>y
 |_=>.z
def Hn.sub{ι:Type}:Hn ι->Hn ι
 |.b a=>a
 |_=>.z
def iter{V O:Type}(step:V->Option (V⊕O)):Nat->V->Option O
 | 0,_=>none
 |n+1,v=>(step v).bind λr=>match r with
  |.inl v=>iter step n v
  |.inr o=>some o
def OS{X:SX}{A:Type}(body:Hn X.ι->cH X->(Exit->cH X->Option A)->Option A):Hn X.ι->cH X->(Exit->cH X->Option A)->Option A
 |.un a r,s,k=>body a s λe s'=>match e with
  |.normal=>OS body r s' k
  |e=>k e s'
 |_,_,_=>none
def dS{W A:Type}(o:Option (W⊕A))(f:W->Option A):Option A:=o.bind λr=>match r with
 |.inl w=>f w
 |.inr a=>some a
noncomputable def both{A:Type}(x y:Option A):Option A:=open Classical in if x=y then x else none
theorem aiw{A:Type}{x y:Option A}{r:A}(h:both x y=some r):x=some r/\y=some r:=by grind [both]
theorem aix{A:Type}(x:Option A):both x x=x:=by simp[both]
section
variable {X:SX}
def Zk(ds:List Nat)(s:cH X)(h:Hn X.ι){A:Type}(k:Exit->cH X->Option A)(body:(B:Type)->Hn X.ι->(Exit->cH X->Option B)->Option B):Option A:=
 match h with
 |.j sh h'=>(body (VT (X:=X) sh.vars) h' λe s'=>match e with
  |.normal=>o9 sh ds s s' some
  |_=>none).bind λv=>k .normal (encS sh s v)
 |.jx sh h'=>dS (body (VT (X:=X) sh.vars⊕A) h' λe s'=>match e with
  |.normal=>o9 sh ds s s' λv=>some (.inl v)
  |e=>(k e s').map .inr) λv=>k .normal (encS sh s v)
 |h=>body A h k
variable (Γ:FuncId->Option (ca X)) (T:ed) (code:TypeId->Option (CT X.ι)) (N n:Nat)
noncomputable def run:Code->(A:Type)->Hn X.ι->cH X->(Exit->cH X->Option A)->Option A
 |.skip,_,_,s,k=>k .normal s
 |.region id ag d,A,h,s,k=>Zk (eG (.region id ag d)) s h k λ_ h k=>aft Γ h.fz T code N ag d s (k .normal)
 |.seq x y,A,h,s,k=>Zk (eG (.seq x y)) s h k λB h k=>run x B h.fst s λe s'=>match e with
  |.normal=>run y B h.snd s' k
  |e=>k e s'
 |.cond c x y,A,h,s,k=>Zk (eG (.cond c x y)) s h k λB h k=>match XP (dC s.env) c with
  |.c .bool v=>bif v then run x B h.fst s k else run y B h.snd s k
  |.ub=>both (run x B h.fst s k) (run y B h.snd s k)
  |_=>none
 |.block id b,A,h,s,k=>Zk (eG (.block id b)) s h k λB h k=>run b B h.sub s λe s'=>match e with
  |.exit j=>if j=id then k .normal s' else k (.exit j) s'
  |e=>k e s'
 |.loop b,A,h,s,k=>match h with
  |.l hd id out h'=>o9 hd (eG b) s s λv0=>(iter (λ v=>run b (VT (X:=X) hd.vars⊕VT (X:=X) out.vars) h' (encS hd s v) λe s'=>match e with
   |.normal=>o9 hd (eG b) s s' λv=>some (.inl v)
   |.exit j=>if j=id then o9 out (eG b) s s' λw=>some (.inr w)else none
   |_=>none) n v0).bind λw=>k (.exit id) (encS out s w)
  |.lx hd id out h'=>o9 hd (eG b) s s λv0=>dS (iter (λ v=>run b (VT (X:=X) hd.vars⊕(VT (X:=X) out.vars⊕A)) h' (encS hd s v) λe s'=>match e with
   |.normal=>o9 hd (eG b) s s' λv=>some (.inl v)
   |.exit j=>if j=id then o9 out (eG b) s s' λw=>some (.inr (.inl w))else(k (.exit j) s').map λa=>.inr (.inr a)
   |e=>(k e s').map λa=>.inr (.inr a)) n v0) λw=>k (.exit id) (encS out s w)
  |.un a r=>OS (λ h s k=>run b A h s k) (.un a r) s k
  |_=>none
 |.exit id,_,_,s,k=>k (.exit id) s
 |.ret,_,_,s,k=>k .ret s
 |.label _,_,_,s,k=>k .normal s
 |_,_,_,_,_=>none
section
variable {Γ:FuncId->Option (ca X)} {T:ed} {code:TypeId->Option (CT X.ι)} {N n:Nat} {P:Program}
theorem Ext.wide{ds ds':Nat->Prop}{a b:cH X}(h:Ext ds a b)(hd:∀t,ds t->ds' t):Ext ds' a b:=⟨λ t ht=>h.env t λhh=>ht (hd t hh),h.obj,h.nx⟩
theorem map_inr{α β:Type}{o:Option β}{r:α⊕β}(h:o.map Sum.inr=some r):∃b,o=some b/\r=.inr b:=by
 cases o with
 |none=>cases h
 |some b=>grind
theorem DT{c:Code}{s:cH X}{h:Hn X.ι}{A:Type}{k:Exit->cH X->Option A}{r:A}{body:(B:Type)->Hn X.ι->(Exit->cH X->Option B)->Option B}(hl:Low s)
 (hb:∀(B:Type)(h:Hn X.ι)(k:Exit->cH X->Option B)(r:B),body B h k=some r->Ev P N c (Kj (eG c) s k r) s.st) (hr:Zk (eG c) s h k body=some r):Ev P N c (Kj (eG c) s k r) s.st:=by
 unfold Zk at hr;split at hr;have⟨v,h1,hr⟩:=ah.1 hr;refine ahh (hb _ _ _ _ h1) ?_;rintro e σ ⟨s',g1,g2,rfl,g4⟩ w0 O0 β I a w hrel;cases e<;>simp at g4;have⟨v',i1,i2,i3,i4⟩:=iJ hl g1 g2 g4;cases i1;have⟨β',i5⟩:=i4 P w0 O0 N β I a w hrel;exact⟨β',_,i5,i2.old,_,i2,i3,rfl,hr⟩;unfold dS at hr;have⟨v,h1,hr⟩:=ah.1 hr;refine ahh (hb _ _ _ _ h1) ?_;rintro e σ ⟨s',g1,g2,rfl,g4⟩ w0 O0 β I a w hrel;have other:(k e s').map Sum.inr=some v->∃ β' σ',Rel P w0 O0 N β' I σ' a w/\tU σ'/\Kj (eG c) s k r e σ':=by intro hm;obtain⟨b,hk,rfl⟩:=map_inr hm;cases hr;exact⟨β,_,hrel,g1.old,s',g1,g2,rfl,hk⟩
 cases e with
 |normal=>
  simp at g4;have⟨v',i1,i2,i3,i4⟩:=iJ hl g1 g2 g4;cases i1;have⟨β',i5⟩:=i4 P w0 O0 N β I a w hrel;exact⟨β',_,i5,i2.old,_,i2,i3,rfl,hr⟩
 |_=>exact other g4
 exact hb _ _ _ _ hr
theorem aiy{id:Nat}{ag:Array Oper}{d:Bool}{t:Nat}(h:QW ag t):t∈eG (.region id ag d):=by obtain⟨j,op,h1,h2⟩:=h;simp only[eG,List.mem_filterMap];exact⟨op,by rw[<- Array.getElem?_toList]at h1;exact bZ h1,h2⟩
theorem Vn{b:Code}{s:cH X}{hd:Sh X.ι}{O:Type}{step:VT (X:=X) hd.vars->Option (VT (X:=X) hd.vars⊕O)}{kb:Exit->cH X->Option (VT (X:=X) hd.vars⊕O)}{Q:Exit->St->Prop}(hl:Low s)
 (hkn:∀s',kb .normal s'=o9 hd (eG b) s s' λv=>some (.inl v))
 (hstep:∀v r,Low (encS hd s v)->step v=some r->Ev P N b (Kj (eG b) (encS hd s v) kb r) (encS hd s v).st)
 {o:O} (hQ:∀e s',e≠.normal->Low s'->Ext (· ∈eG b) s s'->kb e s'=some (.inr o)->∀w0 O0 β I a w,Rel P w0 O0 N β I s'.st a w->∃ β' σ',Rel P w0 O0 N β' I σ' a w/\tU σ'/\Q e σ')
 (hno:∀e s' v,e≠.normal->kb e s'=some (.inl v)->False) (n:Nat) (v0:VT (X:=X) hd.vars) (h:iter step n v0=some o) (hl0:Low (encS hd s v0)) (hx0:Ext (· ∈eG b) s (encS hd s v0)):Ev P N (.loop b) Q (encS hd s v0).st:=by
 intro L w0 O0 β I a w hr ho;refine OC (λ n a w=>∃ β I v,Rel P w0 O0 N β I (encS hd s v).st a w/\iter step n v=some o/\Low (encS hd s v)/\Ext (· ∈eG b) s (encS hd s v)) (λ a w ⟨_,_,v,_,h,_⟩=>by cases h) ?_ n a w ⟨β,I,v0,hr,h,hl0,hx0⟩;rintro n a w ⟨β,I,v,hr,hi,hlv,hxv⟩;simp[iter]at hi;have⟨r,h1,hi⟩:=ah.1 hi;refine wpIn_mono (hstep v r hlv h1 L w0 O0 β I a w hr hlv.old) ?_;rintro e a' w' ⟨β',I',σ',g1,_,s',g2,g3,rfl,g4⟩;have hxs:=hxv.trans g3;by_cases he:e=.normal;subst he;rw[hkn]at g4;have⟨v',i1,i2,i3,i4⟩:=iJ hl g2 hxs g4;cases i1;have⟨β2,i5⟩:=i4 P w0 O0 N β' I' a' w' g1;exact⟨β2,I',v',i5,hi,i2,i3⟩;cases r with
 |inl v'=>exact(hno e s' v' he g4).elim
 |inr o'=>
  cases hi;have⟨β2,σ2,i1,i2,i3⟩:=hQ e s' he g2 hxs g4 w0 O0 β' I' a' w' g1;cases e with
  |normal=>exact(he rfl).elim
  |_=>exact⟨β2,I',σ2,i1,i2,i3⟩
theorem Vo{A:Type}{sh:Sh X.ι}{ds:List Nat}{s0 s':cH X}{k:VT (X:=X) sh.vars->Option A}{r:A}(h:o9 sh ds s0 s' k=some r):∃v,k v=some r:=by have⟨_,h⟩:=dR h;unfold Tl at h;have⟨m1,h1,h⟩:=ah.1 h;have⟨m,h2,h⟩:=ah.1 h;have⟨h3,h⟩:=dR h;have⟨v,h4,h⟩:=ah.1 h;exact⟨v,(pY h).2⟩
theorem acZ{α β γ:Type}{o:Option γ}{r:α⊕(β⊕γ)}(h:o.map (λ a=>Sum.inr (Sum.inr a))=some r):∃b,o=some b/\r=.inr (.inr b):=by
 cases o with
 |none=>cases h
 |some b=>grind
def Hn.len{ι:Type}:Hn ι->Nat
 |.un _ r=>r.len+1
 |_=>0
theorem aiz{b:Code}{A:Type}{body:Hn X.ι->cH X->(Exit->cH X->Option A)->Option A}{s0:cH X}{k:Exit->cH X->Option A}{r:A}
 (hb:∀(h:Hn X.ι)(s:cH X)(k:Exit->cH X->Option A)(r:A),Low s->body h s k=some r->Ev P N b (Kj (eG b) s k r) s.st)
 {h:Hn X.ι} (hl:Low s0) (hr:OS body h s0 k=some r):Ev P N (.loop b) (Kj (eG (.loop b)) s0 k r) s0.st:=by
 refine aly (λ n σ=>∃(h:Hn X.ι)(s:cH X),σ=s.st/\h.len=n/\Low s/\Ext (· ∈eG b) s0 s/\OS body h s k=some r) ?_ ?_ h.len ⟨h,s0,rfl,rfl,hl,Ext.refl _ s0,hr⟩;rintro σ ⟨h,s,_,h1,_,_,h2⟩;cases h<;>first|cases h2|cases h1
 rintro n σ ⟨h,s,rfl,h1,h2,h3,h4⟩;cases h<;>try cases h4
 rename_i a q;simp[Hn.len]at h1;refine(hb a s _ r h2 h4).mono ?_;rintro e σ ⟨s',g1,g2,rfl,g4⟩;have hx:=h3.trans g2;cases e with
 |normal=>exact⟨q,s',rfl,h1,g1,hx,g4⟩
 |_=>exact⟨s',g1,hx,rfl,g4⟩
theorem gL(hT:fq P T)(hm:P.follows .mixedOrders=true)(hΓ:pL P Γ):∀(c:Code)(A:Type)(h:Hn X.ι)(s:cH X)(k:Exit->cH X->Option A)(r:A),Low s->run Γ T code N n c A h s k=some r->Ev P N c (Kj (eG c) s k r) s.st
 |.skip,A,h,s,k,r,hl,hr=>alu ⟨s,hl,Ext.refl _ s,rfl,hr⟩
 |.exit id,A,h,s,k,r,hl,hr=>alv ⟨s,hl,Ext.refl _ s,rfl,hr⟩
 |.ret,A,h,s,k,r,hl,hr=>amR ⟨s,hl,Ext.refl _ s,rfl,hr⟩
 |.label l,A,h,s,k,r,hl,hr=>ajC ⟨s,hl,Ext.refl _ s,rfl,hr⟩
 |.region id ag d,A,h,s,k,r,hl,hr=>by refine DT hl (λ B h k r hb=>?_) hr;have⟨s',g1,g2,g3,g4⟩:=aaM (id:=id) hT hm hΓ hl hb;exact g4.mono λe σ ⟨he,hσ⟩=>⟨s',g2,g3.wide λt ht=>aiy ht,hσ,by rw[he];exact g1⟩
 |.seq x y,A,h,s,k,r,hl,hr=>by
  refine DT hl (λ B h k r hb=>?_) hr;refine amS ((gL hT hm hΓ x B _ s _ r hl hb).mono ?_);rintro e σ ⟨s',g1,g2,rfl,g4⟩;have wide:Ext (· ∈eG (.seq x y)) s s':=g2.wide λt ht=>by simp[eG,ht]
  cases e with
  |normal=>
   exact(gL hT hm hΓ y B _ s' k r g1 g4).mono λe σ ⟨s2,i1,i2,i3,i4⟩=>⟨s2,i1,wide.trans (i2.wide λt ht=>by simp[eG,ht]),i3,i4⟩
  |_=>exact⟨s',g1,wide,rfl,g4⟩
 |.cond c x y,A,h,s,k,r,hl,hr=>by
  refine DT hl (λ B h k r hb=>?_) hr;split at hb
  ·rename_i v hv;refine alx v (λ _ _=>rfl) ?_ ?_
   ·have:=UE (dC s.env) c;rw[hv]at this;exact this.symm
   ·cases v with
    |true=>exact(gL hT hm hΓ x B _ s k r hl hb).mono λe σ ⟨s2,i1,i2,i3,i4⟩=>⟨s2,i1,i2.wide λt ht=>by simp[eG,ht],i3,i4⟩
    |false=>exact(gL hT hm hΓ y B _ s k r hl hb).mono λe σ ⟨s2,i1,i2,i3,i4⟩=>⟨s2,i1,i2.wide λt ht=>by simp[eG,ht],i3,i4⟩
  ·rename_i hv;have⟨hb1,hb2⟩:=aiw hb;refine ae0 (λ _ _=>rfl) ?_ ?_ ?_
   ·have:=UE (dC s.env) c;rw[hv]at this;exact this.symm
   ·exact(gL hT hm hΓ x B _ s k r hl hb1).mono λe σ ⟨s2,i1,i2,i3,i4⟩=>⟨s2,i1,i2.wide λt ht=>by simp[eG,ht],i3,i4⟩
   ·exact(gL hT hm hΓ y B _ s k r hl hb2).mono λe σ ⟨s2,i1,i2,i3,i4⟩=>⟨s2,i1,i2.wide λt ht=>by simp[eG,ht],i3,i4⟩
  ·cases hb
 |.block id b,A,h,s,k,r,hl,hr=>by
  refine DT hl (λ B h k r hb=>?_) hr;refine ajD ((gL hT hm hΓ b B _ s _ r hl hb).mono ?_);rintro e σ ⟨s',g1,g2,rfl,g4⟩;cases e with
  |exit j=>
   simp only[aeZ];simp only at g4;split
   ·rw[aX ‹_›]at g4;exact⟨s',g1,g2,rfl,g4⟩
   ·rw[aV ‹_›]at g4;exact⟨s',g1,g2,rfl,g4⟩
  |_=>exact⟨s',g1,g2,rfl,g4⟩
 |.loop b,A,h,s,k,r,hl,hr=>by
  simp only[run]at hr;split at hr
  ·rename_i hd id out h';obtain⟨v0,h1,h2,h3,h4⟩:=iJ hl hl (Ext.refl _ s) hr;rw[ah]at h1;obtain⟨w,h5,h6⟩:=h1;intro L w0 O0 β I a ww hrel ho;have⟨β',hrel'⟩:=h4 P w0 O0 N β I a ww hrel;refine Vn (Q:=Kj (eG (.loop b)) s k r) hl (λ s'=>rfl) (λ v r hlv hs=>gL hT hm hΓ b _ h' (encS hd s v) _ r hlv hs) (λ e s' he hls hxs hk=>?_) (λ e s' v he hk=>?_) n v0 h5 h2 h3 L w0 O0 β' I a ww hrel' h2.old
   ·cases e with
    |exit j=>
     simp only at hk;split at hk
     ·rename_i hj;subst hj;have⟨w',i1,i2,i3,i4⟩:=iJ hl hls hxs hk;injection i1 with i1;cases i1;intro w0 O0 β I a ww hrel;have⟨β',hrel'⟩:=i4 P w0 O0 N β I a ww hrel;exact⟨β',_,hrel',i2.old,_,i2,i3,rfl,h6⟩
     ·cases hk
    |normal=>exact(he rfl).elim
    |_=>cases hk
   ·cases e with
    |exit j=>
     simp only at hk;split at hk
     ·have⟨w',i1⟩:=Vo hk;injection i1 with i1;cases i1
     ·cases hk
    |normal=>exact he rfl
    |_=>cases hk
  ·rename_i hd id out h';obtain⟨v0,h1,h2,h3,h4⟩:=iJ hl hl (Ext.refl _ s) hr;unfold dS at h1;rw[ah]at h1;obtain⟨w,h5,h6⟩:=h1;intro L w0 O0 β I a ww hrel ho;have⟨β',hrel'⟩:=h4 P w0 O0 N β I a ww hrel;refine Vn (Q:=Kj (eG (.loop b)) s k r) hl (λ s'=>rfl) (λ v r hlv hs=>gL hT hm hΓ b _ h' (encS hd s v) _ r hlv hs) (λ e s' he hls hxs hk=>?_) (λ e s' v he hk=>?_) n v0 h5 h2 h3 L w0 O0 β' I a ww hrel' h2.old
   ·intro w0 O0 β I a ww hrel;have other:(k e s').map (λ a=>Sum.inr (Sum.inr a))=some (Sum.inr w:VT (X:=X) hd.vars⊕(VT (X:=X) out.vars⊕A))->∃ β' σ',Rel P w0 O0 N β' I σ' a ww/\tU σ'/\Kj (eG (.loop b)) s k r e σ':=(by intro hm;have⟨q,hq,hr⟩:=acZ hm;cases hr;cases h6;exact⟨β,_,hrel,hls.old,s',hls,hxs,rfl,hq⟩);cases e with
    |exit j=>
     simp only at hk;split at hk
     ·rename_i hj;subst hj;have⟨w',i1,i2,i3,i4⟩:=iJ hl hls hxs hk;injection i1 with i1;cases i1;have⟨β',hrel'⟩:=i4 P w0 O0 N β I a ww hrel;exact⟨β',_,hrel',i2.old,_,i2,i3,rfl,h6⟩
     ·exact other hk
    |normal=>exact(he rfl).elim
    |_=>exact other hk
   ·have other:(k e s').map (λ a=>Sum.inr (Sum.inr a))=some (Sum.inl v:VT (X:=X) hd.vars⊕(VT (X:=X) out.vars⊕A))->False:=(by intro hm;have⟨q,hq,hr⟩:=acZ hm;cases hr);cases e with
    |exit j=>
     simp only at hk;split at hk
     ·have⟨w',i1⟩:=Vo hk;injection i1 with i1;cases i1
     ·exact other hk
    |normal=>exact he rfl
    |_=>exact other hk
  ·exact aiz (body:=λh s k=>run Γ T code N n b A h s k) (λ h s k r hl h1=>gL hT hm hΓ b A h s k r hl h1) hl hr
  ·cases hr
 |.rangeFunc ..,_,_,_,_,_,_,hr=>by cases hr
 |.scope _,_,_,_,_,_,_,hr=>by cases hr
 |.goto _,_,_,_,_,_,_,hr=>by cases hr
 |.refuse _,_,_,_,_,_,_,hr=>by cases hr
end
end
section
variable {X:SX}
def pq:Nat->(l:List (AT X.ι))->jg X l->List (DV X)
 |_,[],_=>[]
 |n,.d c::l,a=>.c c a.1::pq n l a.2
 |n,.ref c::l,a=>.rp c a.1 0::pq n l a.2
 |n,.du as r::l,a=>.du as r a.1::pq n l a.2
 |n,.mut _::l,a=>.own n 0 (List.length a.1)::pq (n+1) l a.2
 |n,.ju _::l,a=>.ptr n 0 0::pq (n+1) l a.2
 |n,.nil::l,a=>.nil::pq n l a.2
def Cf:(l:List (AT X.ι))->jg X l->List (br X)
 |[],_=>[]
 |.mut c::l,a=>.ec c a.1::Cf l a.2
 |.ju c::l,a=>.cells (CT.sz X c) [uQ c a.1]::Cf l a.2
 |.d _::l,a=>Cf l a.2
 |.ref _::l,a=>Cf l a.2
 |.du _ _::l,a=>Cf l a.2
 |.nil::l,a=>Cf l a.2
theorem xQ:∀(n:Nat)(l:List (AT X.ι))(a:jg X l),bF (pq n l a)=eU n l a
 |_,[],_=>rfl
 |n,.d c::l,a|n,.ref c::l,a=>by simp[pq,bF,den,eU,xQ n l a.2]
 |n,.du as r::l,a=>by simp[pq,bF,eU,xQ n l a.2]
 |n,.mut c::l,a|n,.ju c::l,a=>by simp[pq,bF,den,eU,xQ (n+1) l a.2]
 |n,.nil::l,a=>by simp[pq,bF,den,eU,xQ n l a.2]
theorem GX:∀(l:List (AT X.ι))(a:jg X l),(Cf l a).map bH=(uH l a).map gz
 |[],_=>rfl
 |.d _::l,a|.ref _::l,a|.du _ _::l,a|.nil::l,a=>GX l a.2
 |.mut c::l,a=>by simp[Cf,GX l a.2];rfl
 |.ju c::l,a=>by simp[Cf,uH,GX l a.2,bH,gz,uG,aI,o6]
theorem pu:∀(n:Nat)(l:List (AT X.ι))(a:jg X l),∀k∈aL (pq n l a),k<n+vM l
 |_,[],_,k,hk=>by trivial
 |n,.d c::l,a,k,hk=>by
  have:=pu n l a.2 k (by trivial)
  grind [vM,AT.im]
 |n,.ref c::l,a,k,hk=>by
  have:=pu n l a.2 k (by trivial)
  grind [vM,AT.im]
 |n,.du as r::l,a,k,hk=>by have:=pu n l a.2 k (by simpa[pq,aL,bp]using hk);simpa[vM,AT.im]using this
 |n,.nil::l,a,k,hk=>by have:=pu n l a.2 k (by simpa[pq,aL,bp]using hk);simpa[vM,AT.im]using this
 |n,.mut c::l,a,k,hk=>by simp[pq,aL,bp]at hk;simp[vM,AT.im];rcases hk with rfl|hk;omega;have:=pu (n+1) l a.2 k hk;omega
 |n,.ju c::l,a,k,hk=>by simp[pq,aL,bp]at hk;simp[vM,AT.im];rcases hk with rfl|hk;omega;have:=pu (n+1) l a.2 k hk;omega
theorem sW:∀(n:Nat)(l:List (AT X.ι))(a:jg X l),(eU n l a).length=l.length
 |_,[],_=>rfl
 |n,.d c::l,a|n,.ref c::l,a|n,.du as r::l,a=>by simp[eU,sW n l a.2]
 |n,.mut c::l,a|n,.ju c::l,a=>by simp[eU,sW (n+1) l a.2]
 |n,.nil::l,a=>by simp[eU,sW n l a.2]
theorem vP:∀(l:List (AT X.ι))(a:jg X l),(uH l a).length=vM l
 |[],_=>rfl
 |.d _::l,a|.ref _::l,a|.du _ _::l,a|.nil::l,a=>by simpa[vM,AT.im,uH]using vP l a.2
 |.mut _::l,a|.ju _::l,a=>by simp[uH,vP l a.2,vM,AT.im];omega
def B4(l:List (AT X.ι))(a:jg X l):cH X:=⟨(List.range l.length).zip (pq 0 l a),(List.range (Cf l a).length).zip ((Cf l a).map some),1000,[]⟩
theorem ahi(l:List (AT X.ι))(a:jg X l)(k:Nat):fp (B4 l a).obj k=(Cf l a)[k]? :=by
 have h:(List.range (Cf l a).length).zip ((Cf l a).map some)=(List.range ((Cf l a).map some).length).zip ((Cf l a).map some):=by grind
 simp[B4,fp];rw[h,xZ,List.getElem?_map]
 grind
theorem am5(l:List (AT X.ι))(a:jg X l):(B4 l a).st=rj.st ⟨(List.range (yj l a).length).zip (yj l a),(List.range ((uH l a).map gz).length).zip ((uH l a).map gz)⟩:=by
 have ho:∀k,((fp (B4 l a).obj k).map bH)=lk ((List.range ((uH l a).map gz).length).zip ((uH l a).map gz)) k:=by
  grind [xZ,ahi,GX]
 simp only[cH.st,rj.st,St.mk.injEq,and_true];refine⟨?_,funext ho⟩;funext t;rw[sW,yj,<- xQ];have:∀(ks:List Nat)(ds:List (DV X)),den (dC (ks.zip ds) t)=(lk (ks.zip (bF ds)) t).getD .undef:=by
  intro ks
  induction ks with
  |nil=>intro ds;rfl
  |cons k ks ih=>
   intro ds;rcases ds with _|⟨d,ds⟩;rfl;simp[dC,lk,bF];by_cases h:k=t;simp[h];simp[aV h];exact ih ds
 exact this _ _
theorem alM(l:List (AT X.ι))(a:jg X l)(hm:vM l<=1000):Low (B4 l a):=by
 refine⟨by show 1000<=1000000;decide,ay _,λt k hk=>?_,λk o ho=>?_⟩;have h0:=pu 0 l a;have:∀(ks:List Nat)(ds:List (DV X)),(∀ k∈aL ds,k<0+vM l)->∀k∈bp (dC (ks.zip ds) t),k<1000:=by
  intro ks
  induction ks with
  |nil=>simp[dC,lk,bp]
  |cons k ks ih=>
   intro ds h j hj;rcases ds with _|⟨d,ds⟩;simp[dC,lk,bp]at hj;simp[dC,lk]at hj;by_cases e:k=t;simp[aX e]at hj;have:=h j (by simp[aL,hj]);omega;simp[aV e]at hj;exact ih ds (λ k hk=>h k (by simp[aL,hk])) j hj
 exact this _ _ h0 k hk;rw[ahi]at ho;have hl:(Cf l a).length=vM l:=by rw[<- vP l a];simpa using congrArg List.length (GX l a)
 refine⟨by have:=(dh.1 ho).1;show k<1000;omega,λj hj=>?_⟩;have hz:∀(l:List (AT X.ι))(a:jg X l),∀o∈Cf l a,d7 o=[]:=by
  intro l
  induction l with
  |nil=>intro a o ho;simp[Cf]at ho
  |cons q l ih=>
   intro a o ho;cases q<;>simp[Cf]at ho
   case «mut» c=>rcases ho with rfl|ho;rfl;exact ih _ o ho
   case ju c=>
    rcases ho with rfl|ho;have h1:aL (uQ c a.1)=[]:=by
     rw[<- jc,o6];generalize CT.row X.toSE c a.1=r
     induction r with
     |nil=>rfl
     |cons y ys ih=>simp[fe,refs,ih]
    simp[d7,h1];exact ih _ o ho
   all_goals exact ih _ o ho
 grind
variable (T:ed)
def Hj(s:cH X):ResultVar->Option (DV X)
 |.tmp t=>some (dC s.env t)
 |.cell a t=>(T t).bind λti=>match dC s.env a with
  |.ptr kk row aa=>(fp s.obj kk).bind λo=>match o with
   |.cells _ rows=>(rows[row]?).bind λr=>GA ti.agg ti.size ((r.drop aa).take ti.size)
   |_=>none
  |_=>none
def Vp(s:cH X):List ResultVar->Option (List (DV X))
 |[]=>some []
 |r::rs=>(Hj T s r).bind λv=>(Vp s rs).bind λvs=>some (v::vs)
theorem aj1{s:cH X}{r:ResultVar}{d:DV X}(h:Hj T s r=some d):OD T s.st r=some (den d):=by
 cases r with
 |tmp t=>simp only[Hj,bM]at h;subst h;rfl
 |cell a t=>
  simp only[Hj]at h;rw[ah]at h;obtain⟨ti,h1,h⟩:=h;split at h
  ·rename_i kk row aa hp;have⟨o,h2,h⟩:=ah.1 h;split at h
   ·have⟨q,h3,h⟩:=ah.1 h;have h4:=BQ h;rw[kM]at h4
    show(match Tk T t (den (dC s.env a)) (λ k=>(fp s.obj k).map bH)with
     |some ⟨v,[],[]⟩=>some v
     |_=>none)=some (den d)
    simp only[Tk,J4,h1,ai,hp,den,h2,Option.map_some,bH,List.getElem?_map,h3,h4,pv]
   ·cases h
  ·cases h
def XW{A:Type}(s:cH X):List ResultVar->(List (DV X)->Option A)->Option A
 |[],k=>k []
 |.tmp t::rs,k=>XW s rs λvs=>k (dC s.env t::vs)
 |.cell a t::rs,k=>(T t).bind λti=>match dC s.env a with
  |.ptr kk row aa=>(fp s.obj kk).bind λo=>match o with
   |.cells _ rows=>(rows[row]?).bind λr=>(GA ti.agg ti.size ((r.drop aa).take ti.size)).bind λv=>XW s rs λvs=>k (v::vs)
   |_=>none
  |_=>none
theorem Jd{A:Type}{s:cH X}:∀{rs:List ResultVar}{k:List (DV X)->Option A}{r:A},XW T s rs k=some r->∃ds,Vp T s rs=some ds/\k ds=some r
 |[],k,r,h=>⟨[],rfl,h⟩
 |.tmp t::rs,k,r,h=>by have⟨ds,h1,h2⟩:=Jd (rs:=rs) h;exact⟨_,by simp only[Vp,Hj,h1,ai],h2⟩
 |.cell a t::rs,k,r,h=>by
  simp only[XW]at h;rw[ah]at h;obtain⟨ti,h1,h⟩:=h;split at h
  ·rename_i kk row aa hp;have⟨o,h2,h⟩:=ah.1 h;split at h
   ·have⟨q,h3,h⟩:=ah.1 h;have⟨v,h4,h⟩:=ah.1 h;have⟨ds,h5,h6⟩:=Jd (rs:=rs) h;exact⟨_,by simp only[Vp,Hj,h1,hp,h2,h3,h4,h5,ai],h6⟩
   ·cases h
  ·cases h
theorem OZ{s:cH X}:∀{rs:List ResultVar}{ds:List (DV X)},Vp T s rs=some ds->lM T s.st rs=some (bF ds)
 |[],ds,h=>by simp[Vp]at h;subst h;rfl
 |r::rs,ds,h=>by simp[Vp]at h;have⟨d,h1,h⟩:=ah.1 h;have⟨ds',h2,h⟩:=ah.1 h;cases h;simp[lM,aj1 T h1,OZ h2,bF]
def O3:List (RT X.ι)->List (DV X)->Option Nat
 |.mu _::l,ds=>O3 l ds
 |.mr _::l,ds=>O3 l ds
 |.mv::l,ds=>O3 l ds
 |.fresh _::l,d::ds=>match d with
  |.own k _ _=>some k
  |_=>O3 l ds
 |.d _::l,_::ds=>O3 l ds
 |.whole _::l,_::ds=>O3 l ds
 |_,_=>none
def yz:List (RT X.ι)->List (DV X)->List (Nat×Nat)
 |.mu _::l,ds=>yz l ds
 |.mr _::l,ds=>yz l ds
 |.mv::l,ds=>yz l ds
 |.whole j::l,d::ds=>match d with
  |.own _ _ len=>(j,len)::yz l ds
  |_=>yz l ds
 |.d _::l,_::ds=>yz l ds
 |.fresh _::l,_::ds=>yz l ds
 |_,_=>[]
def Cg:Nat->List (RT X.ι)->List Nat
 |_,[]=>[]
 |n,.mu _::l=>n::Cg (n+1) l
 |n,.mr _::l=>n::Cg (n+1) l
 |n,.mv::l=>Cg (n+1) l
 |n,_::l=>Cg n l
def ua:Nat->List (RT X.ι)->List Nat
 |_,[]=>[]
 |n,.mu _::l=>n::ua (n+1) l
 |n,.mr _::l=>ua (n+1) l
 |n,.mv::l=>ua (n+1) l
 |n,_::l=>ua n l
def Of(bad:List Nat)(ks:List Nat):Bool:=ks.all λk=>!bad.contains k
def aaP(get:Nat->Option (br X))(row:List (DV X))(c:CT X.ι):Option (CT.T X.toSE c×List Bool):=
 match c with
 |.st i=>(GK get row (X.cW i)).bind λh=>some (X.make i h.1,h.2)
 |c=>match row with
  |[d]=>UZ get d c
  |_=>none
def GY(get:Nat->Option (br X))(c:CT X.ι):List (List (DV X))->Option (List (CT.T X.toSE c)×List Bool)
 |[]=>some ([],[])
 |r::rs=>(aaP get r c).bind λx=>(GY get c rs).bind λy=>some (x.1::y.1,x.2++y.2)
def Mg(get:Nat->Option (br X))(bad ri:List Nat)(fk:Option Nat)(wl:List (Nat×Nat))(n:Nat):(q:RT X.ι)->List (DV X)->Option ((RT.T X q×List Bool)×List (DV X))
 |.d c,d::ds=>if Of bad (bp d)then(EY get d c).bind λx=>some (x,ds)else none
 |.fresh e,d::ds=>match d with
  |.nil=>some (([],[]),ds)
  |.own k 0 len=>if fk=some k then(get k).bind λo=>match o with
   |.ec b l=>(lq (.sl b) (.sl e) l).bind λ(l:List (CT.T X.toSE e))=>some ((sub l 0 len,[be (sub l 0 len).length len]),ds)
   |.cells sz rows=>if sz=CT.sz X e/\Of bad (rows.map aL).flatten=true then(GY get e rows).bind λx=>some ((x.1,be len (List.length x.1)::x.2),ds)else none
   |.map _ _ _=>none
   else none
  |_=>none
 |.whole j,d::ds=>match d with
  |.own k 0 len=>if k=j/\ri.contains j=true then(lk wl j).bind λen=>some (((),[be len en]),ds)else none
  |_=>none
 |.mu c,ds=>(get n).bind λo=>match o with
  |.ec b l=>(lq (.sl b) (.sl c) l).bind λ(l:List (CT.T X.toSE c))=>match lk wl n with
   |some len=>some ((sub l 0 len,[be (sub l 0 len).length len]),ds)
   |none=>some ((l,[]),ds)
  |_=>none
 |.mr c,ds=>(get n).bind λo=>match o with
  |.cells sz [row]=>if sz=CT.sz X c/\Of bad (aL row)=true then(aaP get row c).bind λx=>some (x,ds)else none
  |_=>none
 |.mv,ds=>some (((),[]),ds)
 |_,[]=>none
def Mh(get:Nat->Option (br X))(bad ri:List Nat)(fk:Option Nat)(wl:List (Nat×Nat)):Nat->(l:List (RT X.ι))->(ds:List (DV X))->Option (sJ X l×List Bool)
 |_,[],ds=>match ds with
  |[]=>some ((),[])
  |_=>none
 |n,[q],ds=>(Mg get bad ri fk wl n q ds).bind λp=>match p.2 with
  |[]=>some p.1
  |_=>none
 |n,q::q'::l,ds=>(Mg get bad ri fk wl n q ds).bind λp=>(Mh get bad ri fk wl (if q.out then n+1 else n) (q'::l) p.2).bind λy=>some ((p.1.1,y.1),p.1.2++y.2)
def Th(s:cH X)(l:List (RT X.ι))(ds:List (DV X)):Option (sJ X l×List Bool):=
 if Of (Cg 0 l) (O3 l ds).toList then Mh (fp s.obj) (Cg 0 l++(O3 l ds).toList) (ua 0 l) (O3 l ds) (yz l ds) 0 l ds else none
def anM(rs:List ResultVar)(l:List (RT X.ι)):Exit->cH X->Option (sJ X l)
 |.normal,s=>XW T s rs λds=>(Th s l ds).bind λx=>UH x.2 (some x.1)
 |.ret,s=>XW T s rs λds=>(Th s l ds).bind λx=>UH x.2 (some x.1)
 |_,_=>none
def exit(A:Type)(k:cH X->Option A):Exit->cH X->Option A
 |.normal,s=>k s
 |.ret,s=>k s
 |_,_=>none
variable {T}
section
variable {get:Nat->Option (br X)} {fk:Option Nat} {os':List (Option fA)} {bad:List Nat}
theorem DU{ks:List Nat}(h:Of bad ks=true):∀j∈ks,j∉bad:=λj hj=>by simpa using all_eq_true.1 h j hj
theorem O4(hbad:∀j,j∉bad->fk≠some j/\¬kept os' j){d:DV X}{c:CT X.ι}{x:CT.T X.toSE c×List Bool}(hc:c.one=true)(h:UZ get d c=some x)(hb:∀b∈x.2,b=true)(oy:∀j∈bp d,j∉bad):∃t,CT.tv X.toSE c x.1=.s t/\AI (fV get) fk os' (den d) t:=by
 obtain⟨t,h1,h2⟩:=row_one hc x.1;refine⟨t,h2,?_⟩;have hbase:∀y,Kz d c=some y->y=x.1->AI (fV get) fk os' (den d) t:=by intro y hy he;subst he;have h3:=vI hy;rw[h2]at h3;unfold Kz at hy;split at hy;rw[(oC hy).1];simp[den,h2,TV.av,AI];simp[den,Gb.wk,TV.av]at h3;exact h3.symm;simp[den,Gb.wk,TV.av]at h3;exact h3.symm;cases hy
 unfold UZ at h;split at h;rename_i kk aa len e;rw[ah]at h;obtain⟨o,h3,h⟩:=h;split at h;rename_i b l0;rw[ah]at h;obtain⟨l,h4,h⟩:=h;cases h;have h5:(sub l aa len).length=len:=by simp_all [be]
 have⟨h6,h7⟩:=jA h4;obtain⟨hf1,hf2⟩:=hbad kk (oy kk (by simp[bp]));refine⟨hf1,hf2,bH (.ec b l0),(sub l aa len).map (CT.row X.toSE e),by simp[fV,h3],?_,by simpa using h5,?_⟩;simp[bH,h7];simp[aI,sub];simpa[CT.row]using h1.symm;cases h;rename_i kk aa len;rw[ah]at h;obtain⟨o,h3,h⟩:=h;split at h;rename_i b l0;cases h;have h5:(sub l0 aa len).length=len:=by simpa[be]using hb (be (sub l0 aa len).length len) (by simp)
 obtain⟨hf1,hf2⟩:=hbad kk (oy kk (by simp[bp]));refine⟨hf1,hf2,bH (.ec b l0),(sub l0 aa len).map (CT.row X.toSE b),by simp[fV,h3],?_,by simpa using h5,?_⟩;simp[bH];simp[aI,sub];simpa[CT.row]using h1.symm;cases h;rename_i kk len e;rw[ah]at h;obtain⟨o,h3,h⟩:=h;split at h;rename_i b l0;have⟨l,h4,h⟩:=ah.1 h;cases h;have h5:(sub l 0 len).length=len:=by simpa[be]using hb (be (sub l 0 len).length len) (by simp)
 have⟨h6,h7⟩:=jA h4;obtain⟨hf1,hf2⟩:=hbad kk (oy kk (by simp[bp]));refine⟨hf1,hf2,bH (.ec b l0),(sub l 0 len).map (CT.row X.toSE e),by simp[fV,h3],?_,by simpa using h5,?_⟩;simp[bH,h7];simp[aI,sub];simpa[CT.row]using h1.symm;cases h
 grind [ah]
theorem KH(hbad:∀j,j∉bad->fk≠some j/\¬kept os' j):∀{ds:List (DV X)}{l:List (CT X.ι)}{h:HL X.toSE l×List Bool},GK get ds l=some h->(∀ b∈h.2,b=true)->l.all CT.one=true->(∀ j∈aL ds,j∉bad)->lP (fV get) fk os' (bF ds) (HL.row X.toSE l h.1)
 |[],[],h,_,_,_,_=>trivial
 |d::ds,c::l,h,hr,hb,ha,oy=>by simp[GK]at hr;have⟨x,h1,hr⟩:=ah.1 hr;have⟨g,h2,hr⟩:=ah.1 hr;cases hr;simp only[all_cons,bg]at ha;obtain⟨t,i1,i2⟩:=O4 hbad ha.1 h1 (λ b hb'=>hb b (by grind)) (λ j hj=>oy j (by simp[aL,hj]));have i3:=KH hbad h2 (λ b hb'=>hb b (by grind)) ha.2 (λ j hj=>oy j (by simp[aL,hj]));obtain⟨t',j1,j2⟩:=row_one ha.1 x.1;rw[i1]at j2;cases j2;show lP (fV get) fk os' (den d::bF ds) (CT.row X.toSE c x.1++HL.row X.toSE l g.1);rw[j1];trivial
 |[],_::_,_,hr,_,_,_|_::_,[],_,hr,_,_,_=>by trivial
theorem QZ(hbad:∀j,j∉bad->fk≠some j/\¬kept os' j){row:List (DV X)}{c:CT X.ι}{x:CT.T X.toSE c×List Bool}(h:aaP get row c=some x)(hb:∀b∈x.2,b=true)(oy:∀j∈aL row,j∉bad):lP (fV get) fk os' (bF row) (CT.row X.toSE c x.1):=by
 cases c
 case st i=>
  replace h:(GK get row (X.cW i)).bind (λ h=>some (X.make i h.1,h.2))=some x:=h
  have⟨g,h1,h⟩:=ah.1 h;cases h;have:=KH hbad h1 hb (X.flat i) oy;show lP (fV get) fk os' (bF row) (X.row i (X.make i g.1))
  grind [X.gb]
 all_goals
  match row,h,oy with
  |[d],h,oy=>
   obtain⟨t,i1,i2⟩:=O4 (fk:=fk) hbad rfl h hb (λ j hj=>oy j (by simp[aL,hj]));obtain⟨t',j1,j2⟩:=row_one rfl x.1;rw[i1]at j2;cases j2;rw[j1];trivial
  |[],h,_|_::_::_,h,_=>cases h
theorem Mi(hbad:∀j,j∉bad->fk≠some j/\¬kept os' j){c:CT X.ι}:∀{rows:List (List (DV X))}{x:List (CT.T X.toSE c)×List Bool},GY get c rows=some x->(∀ b∈x.2,b=true)->(∀ j∈(rows.map aL).flatten,j∉bad)->ek (fV get) fk os' (rows.map bF) (x.1.map (CT.row X.toSE c))/\rows.length=List.length x.1
 |[],x,h,_,_=>by simp[GY]at h;subst h;trivial
 |r::rs,x,h,hb,oy=>by simp[GY]at h;have⟨y,h1,h⟩:=ah.1 h;have⟨z,h2,h⟩:=ah.1 h;cases h;have i1:=QZ hbad h1 (λ b hb'=>hb b (by grind)) (λ j hj=>oy j (by grind));obtain⟨i2,i3⟩:=Mi hbad h2 (λ b hb'=>hb b (by grind)) (λ j hj=>oy j (by grind));exact⟨⟨i1,i2⟩,by simp[i3]⟩
theorem aj2{x:AV}{t:Tree}(h:AI (fV get) fk os' x t):Hp (fV get) fk os' x (.d (.s t)):=by cases x<;>first|exact h|grind
theorem DW(sz:CT X.ι)(l:List (CT.T X.toSE sz)):ek (fV get) fk os' (aI (l.map (CT.row X.toSE sz))) (l.map (CT.row X.toSE sz)):=by
 generalize l.map (CT.row X.toSE sz)=rows
 induction rows with
 |nil=>trivial
 |cons r rs ih=>
  refine⟨?_,ih⟩
  induction r with
  |nil=>trivial
  |cons y ys ih2=>trivial
theorem aj3(hbad:∀j,j∉bad->fk≠some j/\¬kept os' j){c:CT X.ι}{d:DV X}{x:CT.T X.toSE c×List Bool}(h:EY get d c=some x)(oy:∀j∈bp d,j∉bad)(hb:∀b∈x.2,b=true):Hp (fV get) fk os' (den d) (.d (CT.tv X.toSE c x.1)):=by
 cases c
 case st i=>
  replace h:Y1 get d i=some x:=h
  cases d
  case agg cs=>
   simp[Y1]at h;have⟨g,h1,h⟩:=ah.1 h;cases h;have:=KH (fk:=fk) hbad h1 hb (X.flat i) (by trivial);show lP (fV get) fk os' (bF cs) (X.row i (X.make i g.1))
   grind [X.gb]
  case c a y=>
   simp[Y1]at h;have⟨z,h1,h⟩:=ah.1 h;cases h;rw[(oC h1).1];show lP (fV get) fk os' ((X.row i z).map AV.t) (X.row i z);generalize X.row i z=l
   induction l with
   |nil=>trivial
   |cons y ys ih=>trivial
  all_goals cases h
 all_goals
  have⟨t,i1,i2⟩:=O4 (fk:=fk) hbad rfl h hb oy;rw[i1];exact aj2 i2
theorem Vq{ri:List Nat}{wl:List (Nat×Nat)}{ns:List Nat}{n:Nat}(hbad:∀j,j∉bad->fk≠some j/\¬kept os' j)(q6:∀k,fk=some k->¬kept os' k)(hns:∀j en,j∈ri->lk wl j=some en->ns.getD j 0=en)(hmu:∀j∈ri,kept os' j){q:RT X.ι}{ds:List (DV X)}{p:(RT.T X q×List Bool)×List (DV X)}(h:Mg get bad ri fk wl n q ds=some p)(hb:∀b∈p.1.2,b=true):
 (∀ cs,oa (fV get) fk os' (bF p.2) cs->oa (fV get) fk os' (bF ds) (UY ns q p.1.1++cs))/\
 (∀ t,qJ q p.1.1=[some t]->∃o,get n=some o/\(bH o).sz=t.1/\ek (fV get) fk os' ((bH o).rows.take t.2.length) t.2)/\
 (∀ en c,q=.mu c->lk wl n=some en->XR q p.1.1=[en]):=by
 cases q
 case d c=>
  rcases ds with _|⟨d,ds⟩;simp[Mg]at h;simp only[Mg]at h;split at h;rename_i hnb;rw[ah]at h;obtain⟨x,h1,h⟩:=h;cases h;exact⟨λ cs hcs=>⟨aj3 hbad h1 (DU hnb) hb,hcs⟩,λt ht=>by trivial,λ_ _ h=>by cases h⟩;cases h
 case fresh e=>
  rcases ds with _|⟨d,ds⟩;simp[Mg]at h;refine⟨λ cs hcs=>?_,λt ht=>by simp[qJ]at ht,λ_ _ h=>by cases h⟩;simp[Mg]at h;split at h;cases h;exact⟨rfl,hcs⟩;rename_i k len;split at h;rename_i oy;rw[ah]at h;obtain⟨o,h1,h⟩:=h;split at h;rename_i b l0;rw[ah]at h;obtain⟨l,h2,h⟩:=h;cases h;have⟨h3,h4⟩:=jA h2;have h5:(sub l 0 len).length=len:=by simpa[be]using hb (be (sub l 0 len).length len) (by simp)
  refine⟨⟨oy,q6 k oy,rfl,bH (.ec b l0),by simp[fV,h1],h3,?_,by simpa using h5⟩,hcs⟩;have e1:(bH (.ec b l0)).rows.take len=aI ((sub l 0 len).map (CT.row X.toSE e)):=by simp[bH,h4];simp[aI,sub]
  rw[e1];exact DW e _;rename_i sz rows;split at h;rename_i hc;rw[ah]at h;obtain⟨x,h2,h⟩:=h;cases h;obtain⟨i1,i2⟩:=Mi (fk:=fk) hbad h2 (λ b hb'=>hb b (by simp[hb'])) (DU hc.2);have h5:len=List.length x.1:=by simpa[be]using hb (be len (List.length x.1)) (by simp)
  refine⟨⟨oy,q6 k oy,rfl,bH (.cells sz rows),by simp[fV,h1],hc.1,?_,by simpa using h5.symm⟩,hcs⟩;simp[bH];rw[List.take_of_length_le (by simp;omega)];exact i1;cases h;cases h;cases h;cases h
 case whole j=>
  rcases ds with _|⟨d,ds⟩;simp[Mg]at h;refine⟨λ cs hcs=>?_,λt ht=>by simp[qJ]at ht,λ_ _ h=>by cases h⟩;simp[Mg]at h;split at h;rename_i k len;split at h;rename_i hc;obtain⟨rfl,hm⟩:=hc;rw[ah]at h;obtain⟨en,h1,h⟩:=h;cases h;have h5:len=en:=by simpa[be]using hb (be len en) (by simp)
  have hm:k∈ri:=by simpa using hm
  refine⟨⟨rfl,rfl,?_,hmu k hm⟩,hcs⟩;rw[h5];exact hns k en hm h1;cases h;cases h
 case mu c=>
  simp[Mg]at h;rw[ah]at h;obtain⟨o,h1,h⟩:=h;split at h;rename_i b l0;rw[ah]at h;obtain⟨l,h2,h⟩:=h;have⟨h3,h4⟩:=jA h2;split at h;rename_i len hl;cases h;have h5:(sub l 0 len).length=len:=by simpa[be]using hb (be (sub l 0 len).length len) (by simp)
  refine⟨λ cs hcs=>hcs,λt ht=>?_,λen c' _ hl'=>?_⟩;simp[qJ]at ht;subst ht;refine⟨_,h1,h3,?_⟩;have e1:(bH (.ec b l0)).rows.take (uG c (sub l 0 len)).2.length=aI (uG c (sub l 0 len)).2:=by simp[bH,h4,uG];simp[aI,sub]
  rw[e1];exact DW c _;rw[hl]at hl';injection hl' with hl';subst hl';simp[XR,h5];rename_i hl;cases h;refine⟨λ cs hcs=>hcs,λt ht=>?_,λen c' _ hl'=>by rw[hl]at hl';cases hl'⟩;simp[qJ]at ht;subst ht;refine⟨_,h1,by simp[uG];exact h3,?_⟩;have e1:(bH (.ec b l0)).rows.take (uG c l).2.length=aI (uG c l).2:=by simp[bH,h4,uG];rw[List.take_of_length_le (by simp[aI])]
  rw[e1];exact DW c _;cases h
 case mr c=>
  simp[Mg]at h;rw[ah]at h;obtain⟨o,h1,h⟩:=h;split at h;rename_i sz row;split at h;rename_i hc;have⟨x,h2,h⟩:=ah.1 h;cases h;refine⟨λ cs hcs=>hcs,λt ht=>?_,λ_ _ h=>by cases h⟩;simp[qJ,List.cons.injEq,bM,and_true]at ht;subst ht;exact⟨_,h1,by simp[bH,uG];exact hc.1,⟨QZ hbad h2 hb (DU hc.2),trivial⟩⟩;cases h;cases h
 case mv=>
  simp[Mg,bM]at h;subst h;exact⟨λ cs hcs=>hcs,λt ht=>by simp[qJ]at ht,λ_ _ h=>by cases h⟩
theorem GZ{q:RT X.ι}{x:RT.T X q}:(qJ q x).length=(if q.out then 1 else 0)/\(XR q x).length=(if q.out then 1 else 0):=by cases q<;>exact⟨rfl,rfl⟩
theorem G5{n j:Nat}{q:RT X.ι}{l:List (RT X.ι)}:j∈ua n (q::l)->(j=n/\∃c,q=.mu c)\/j∈ua (if q.out then n+1 else n) l:=by
 cases q<;>simp only[ua,RT.out,if_true,Bool.false_eq_true,if_false,aR]
 case mu c=>grind
 all_goals grind
theorem afw{j:Nat}:∀{l:List (RT X.ι)}{n:Nat},j∈ua n l->n<=j
 |[],n,h=>by trivial
 |q::l,n,h=>by
  rcases G5 h with ⟨rfl,_⟩|h;exact ay _;have:=afw h
  grind
theorem ac1:∀{l:List (RT X.ι)}{x:sJ X l}{n j:Nat},j∈ua n l->∃p,(o7 l x)[j-n]? =some (some p)
 |[],x,n,j,h=>by trivial
 |[q],x,n,j,h=>by rcases G5 h with ⟨rfl,c,rfl⟩|h;exact⟨_,by simp;rfl⟩;trivial
 |q::q'::l,x,n,j,h=>by
  rcases G5 h with ⟨rfl,c,rfl⟩|h;exact⟨_,by simp;rfl⟩;have⟨p,hp⟩:=ac1 (l:=q'::l) (x:=x.2) h;have hge:=afw h;refine⟨p,?_⟩;show(qJ q x.1++o7 (q'::l) x.2)[j-n]? =_;have hl:=(GZ (q:=q) (x:=x.1)).1
  all_goals grind
theorem Ci:∀{l:List (RT X.ι)}{x:sJ X l}{n j:Nat}{p:fA},(o7 l x)[j]? =some (some p)->n+j∈Cg n l
 |[],x,n,j,p,h=>by trivial
 |[q],x,n,j,p,h=>by
  have h:(qJ q x)[j]? =some (some p):=h;cases q<;>simp[qJ]at h
  case mu c=>grind [Cg]
  case mr c=>grind [Cg]
  grind
 |q::q'::l,x,n,j,p,h=>by
  have h:(qJ q x.1++o7 (q'::l) x.2)[j]? =some (some p):=h;cases q
  case mu c=>
   rcases j with _|j;simp[Cg];have:=Ci (l:=q'::l) (x:=x.2) (n:=n+1) (by simpa[qJ]using h);right;rw[show n+(j+1)=n+1+j by omega];exact this
  case mr c=>
   rcases j with _|j;simp[Cg];have:=Ci (l:=q'::l) (x:=x.2) (n:=n+1) (by simpa[qJ]using h);right;rw[show n+(j+1)=n+1+j by omega];exact this
  case mv=>
   rcases j with _|j;simp[qJ]at h;have:=Ci (l:=q'::l) (x:=x.2) (n:=n+1) (by simpa[qJ]using h);rw[show n+(j+1)=n+1+j by omega];exact this
  all_goals
   exact Ci (l:=q'::l) (x:=x.2) (by simpa[qJ]using h)
theorem ac2{ri:List Nat}{wl:List (Nat×Nat)}{n:Nat}{q:RT X.ι}{ds:List (DV X)}{p:(RT.T X q×List Bool)×List (DV X)}(h:Mg get bad ri fk wl n q ds=some p)(hb:∀b∈p.1.2,b=true):∀en c,q=.mu c->lk wl n=some en->XR q p.1.1=[en]:=by
 rintro en c rfl hl;simp[Mg]at h;have⟨o,h1,h⟩:=ah.1 h;split at h;have⟨l,h2,h⟩:=ah.1 h;rw[hl]at h;cases h;have h5:(sub l 0 en).length=en:=by simp_all [be]
 simp[XR,h5];cases h
theorem KI{ri:List Nat}{wl:List (Nat×Nat)}:∀{n:Nat}{l:List (RT X.ι)}{ds:List (DV X)}{x:sJ X l×List Bool},Mh get bad ri fk wl n l ds=some x->(∀ b∈x.2,b=true)->∀j en,n+j∈ua n l->lk wl (n+j)=some en->(yn l x.1).getD j 0=en
 |n,[],ds,x,h,hb,j,en,hm,_=>by trivial
 |n,[q],ds,x,h,hb,j,en,hm,hl=>by
  simp[Mh]at h;have⟨p,h1,h⟩:=ah.1 h;split at h;cases h;rcases G5 hm with ⟨e,c,rfl⟩|hm;have e:j=0:=by omega
  subst e;have:=(ac2 h1 hb) en c rfl hl;show(XR _ p.1.1).getD 0 0=en;rw[this];rfl;simp[ua]at hm;cases h
 |n,q::q'::l,ds,x,h,hb,j,en,hm,hl=>by
  simp[Mh]at h;have⟨p,h1,h⟩:=ah.1 h;have⟨y,h2,h⟩:=ah.1 h;cases h;have hlen:=(GZ (q:=q) (x:=p.1.1)).2;rcases G5 hm with ⟨e,c,rfl⟩|hm;have e:j=0:=by omega
  subst e;have:=(ac2 h1 (λ b hb'=>hb b (by simp[hb']))) en c rfl hl;show(XR _ p.1.1++yn (q'::l) y.1).getD 0 0=en;rw[this];rfl;have hge:=afw hm;show(XR _ p.1.1++yn (q'::l) y.1).getD j 0=en;by_cases hq:q.out=true;rw[aX hq]at h2 hm hge hlen;have:=KI h2 (λ b hb'=>hb b (by simp[hb'])) (j-1) en ((show n+1+(j-1)=n+j by omega) ▸ hm) ((show n+1+(j-1)=n+j by omega) ▸ hl);rw[List.getD_eq_getElem?_getD,oL (by omega),hlen];exact this;rw[aV hq]at h2 hm hge hlen;have:=KI h2 (λ b hb'=>hb b (by simp[hb'])) j en hm hl;rw[List.getD_eq_getElem?_getD,oL (by omega),hlen]
  grind
theorem Zl{ri:List Nat}{wl:List (Nat×Nat)}{ns:List Nat}(hbad:∀j,j∉bad->fk≠some j/\¬kept os' j)(q6:∀k,fk=some k->¬kept os' k)(hns:∀j en,j∈ri->lk wl j=some en->ns.getD j 0=en)(hmu:∀j∈ri,kept os' j):∀{n:Nat}{l:List (RT X.ι)}{ds:List (DV X)}{x:sJ X l×List Bool},Mh get bad ri fk wl n l ds=some x->(∀ b∈x.2,b=true)->
 oa (fV get) fk os' (bF ds) (DF ns l x.1)/\∀j t,(o7 l x.1)[j]? =some (some t)->∃o,get (n+j)=some o/\(bH o).sz=t.1/\ek (fV get) fk os' ((bH o).rows.take t.2.length) t.2
 |n,[],ds,x,h,_=>by simp[Mh]at h;split at h;exact⟨trivial,λj t ht=>by trivial⟩;cases h
 |n,[q],ds,x,h,hb=>by
  simp[Mh]at h;rw[ah]at h;obtain⟨p,h1,h⟩:=h;split at h;rename_i hp;cases h;have⟨i1,i2,_⟩:=Vq (ns:=ns) hbad q6 hns hmu h1 hb;rw[hp]at i1;have:=i1 [] trivial;rw[append_nil]at this;refine⟨this,λj t ht=>?_⟩;have ht:(qJ q p.1.1)[j]? =some (some t):=ht;have hl:=(GZ (q:=q) (x:=p.1.1)).1;have hj:=(dh.1 ht).1;have hj0:j=0:=by grind
  subst hj0;refine i2 t ?_
  match ho:qJ q p.1.1,ht,hl with
  |[z],ht,_=>grind
  |[],ht,_=>simp at ht
  |_::_::_,_,hl=>simp at hl;split at hl<;>omega
  cases h
 |n,q::q'::l,ds,x,h,hb=>by
  simp[Mh]at h;have⟨p,h1,h⟩:=ah.1 h;have⟨y,h2,h⟩:=ah.1 h;cases h;obtain⟨i1,i2,_⟩:=Vq (ns:=ns) hbad q6 hns hmu h1 (λ b hb'=>hb b (by simp[hb']));obtain⟨k1,k2⟩:=Zl (ns:=ns) hbad q6 hns hmu h2 (λ b hb'=>hb b (by simp[hb']));refine⟨i1 _ k1,λj t ht=>?_⟩;have ht:(qJ q p.1.1++o7 (q'::l) y.1)[j]? =some (some t):=ht;have hl:=(GZ (q:=q) (x:=p.1.1)).1;by_cases hq:q.out=true;rw[aX hq]at k2 hl;rcases j with _|j;refine i2 t ?_
  match ho:qJ q p.1.1,ht,hl with
  |[z],ht,_=>simpa using ht
  |[],_,hl|_::_::_,_,hl=>simp at hl
  rw[oL (by omega),hl]at ht;rw[show n+(j+1)=n+1+j by omega];exact k2 j t ht;rw[aV hq]at k2 hl;rw[oL (by omega),hl]at ht;exact k2 j t ht
end
theorem oa.R{get:Nat->Option aM}{fk:Option Nat}{os':List (Option fA)}:∀{xs:List AV}{cs:List RC},oa get fk os' xs cs->Hm get fk os' xs (match cs with|[c]=>.one c|cs=>.eV cs)
 |[],[],_=>rfl
 |[_],[_],h=>h.1
 |_::_::_,_::_::_,h=>h
 |[],_::_,h|_::_,[],h=>h.elim
 |[_],_::_::_,h|_::_::_,[_],h=>h.2.elim
theorem aj4{s:cH X}{rs:List ResultVar}{l:List (RT X.ι)}{r:sJ X l}(h:(XW T s rs λds=>(Th s l ds).bind λx=>UH x.2 (some x.1))=some r):∃xs fk,lM T s.st rs=some xs/\Hm s.st.obj fk (o7 l r) xs (sQ l r)/\P4 s.st.obj fk (o7 l r):=by
 have⟨ds,h1,h⟩:=Jd T h;rw[ah]at h;obtain⟨x,h2,h⟩:=h;have⟨h3,h⟩:=pY h;cases h;unfold Th at h2;split at h2;rename_i hnb;have hkn:∀j,kept (o7 l x.1) j->j∈Cg 0 l:=λj ⟨p,hp⟩=>by
  have:=Ci (n:=0) hp
  grind
 have hbad:∀j,j∉Cg 0 l++(O3 l ds).toList->O3 l ds≠some j/\¬kept (o7 l x.1) j:=by
  grind
 have q6:∀k,O3 l ds=some k->¬kept (o7 l x.1) k:=λk hk hkk=>DU hnb k (by grind) (hkn k hkk);have hmu:∀j∈ua 0 l,kept (o7 l x.1) j:=λj hj=>by have⟨p,hp⟩:=ac1 (x:=x.1) hj;exact⟨p,by grind⟩
 obtain⟨i1,i2⟩:=Zl (ns:=yn l x.1) hbad q6 (λ j en hj hl=>KI h2 h3 j en (by grind) (by grind)) hmu h2 h3;have ie:s.st.obj=fV (fp s.obj):=rfl;refine⟨bF ds,O3 l ds,OZ T h1,?_,λj p hp=>?_⟩;exact i1.R;have⟨o,g1,g2,g3⟩:=i2 j p hp;rw[Nat.zero_add]at g1;exact⟨λ e=>q6 j e ⟨p,hp⟩,bH o,by rw[ie];simp[fV,g1],g2,ie ▸ g3⟩;cases h2
variable {Γ:FuncId->Option (ca X)} {code:TypeId->Option (CT X.ι)} {P:Program}
theorem anN(hT : fq P T)(hm : P.follows .mixedOrders = true)(hΓ : pL P Γ){f : FuncId}{fn : Func}{c : Code}(hfn : P.funcs[f]? = some fn)(hb : fn.body = some c)(hname : (fn.name == "runtime.NumGoroutine") = false)(sa : List (AT X.ι))(sr : List (RT X.ι))(hN : sa.length <= fn.ntmps /\ vM sa <= 1000 /\ (sr.filter RT.out).length = vM sa)
 (h:Hn X.ι) (n:Nat) {a:jg X sa} {r:sJ X sr} (hr:run Γ T code fn.ntmps n c (sJ X sr) h (B4 sa a) (anM T fn.results.toList sr)=some r):p5 P f (yj sa a) (uH sa a) (o7 sr r) (sQ sr r):=by
 have hl:(o7 sr r).length=(uH sa a).length:=by
  rw[vP,<- hN.2.2];have:∀(sr:List (RT X.ι))(r:sJ X sr),(o7 sr r).length=(sr.filter RT.out).length:=by
   intro sr
   induction sr with
   |nil=>intro r;rfl
   |cons q l ih=>
    intro r;have hq:∀x:RT.T X q,(qJ q x).length=(if q.out then 1 else 0):=λx=>GZ.1;rcases l with _|⟨q',l⟩;show(qJ q r).length=_;rw[hq];by_cases e:q.out=true<;>simp[e];show(qJ q r.1++o7 (q'::l) r.2).length=_
    grind
  grind
 refine ah6 hT hfn hb hname (by rw[sW];exact hN.1) (λ k hk=>?_) (by rw[vP];exact hN.2.1) hl ?_;rw[yj,<- xQ,jc]at hk;have:=pu 0 sa a k hk;omega;rw[<- am5];refine(gL hT hm hΓ c _ h _ _ r (alM sa a hN.2.1) hr).mono ?_;rintro e σ ⟨s',_,_,rfl,g4⟩;cases e<;>first|exact aj4 g4|cases g4
theorem pz{f : FuncId}{fn : Func}{c : Code}(hfn : P.funcs[f]? = some fn)(hb : fn.body = some c)(hname : (fn.name == "runtime.NumGoroutine") = false): eT P f := ⟨fn, hfn, by grind, hname⟩
abbrev A5(P:Program)(f:FuncId)(s:ca X):Prop:=eT P f/\(∀ a r,s.fn a=some r->p5 P f (yj s.args a) (uH s.args a) (o7 s.res r) (sQ s.res r))/\∀g,s.gen=some g->Hb P f g
theorem yd{P:Program}{f:FuncId}{s:ca X}(h:eT P f)(h1:∀a r,s.fn a=some r->p5 P f (yj s.args a) (uH s.args a) (o7 s.res r) (sQ s.res r))(hg:s.gen=none):A5 P f s:=by grind
theorem Q3{P:Program}{f:FuncId}{g:cN X}(h:eT P f)(hg:Hb P f g):A5 P f ⟨[],[.d .bool],λ_=>none,some g⟩:=by grind
def pc(s t:ca X):ca X:=⟨s.args,s.res,s.fn,t.gen⟩
def xz(l:List (FuncId×ca X)):FuncId->Option (ca X):=λf=>lk l f
theorem aB:pL P (xz ([]:List (FuncId×ca X))):=λ_ _ h=>by cases h
theorem ak{f:FuncId}{s:ca X}{l:List (FuncId×ca X)}(h:A5 P f s)(hl:pL P (xz l)):pL P (xz ((f,s)::l)):=by intro g q hg;simp[xz,lk]at hg;split at hg;rename_i e;cases hg;subst e;exact h;exact hl g q hg
end
section
variable {X:SX} {T:ed}
theorem DX(ol:Nat->Nat):∀(ps:List (Pt X.ι))(L:List (DC X)),(k8 ol ps L).1.length=ps.length
 |[],_=>rfl
 |p::ps,L=>by simp[k8,DX ol ps]
def cN.B5(g:cN X):Bool:=
 decide (g.io.map (·.1)=List.range g.io.length)&&decide (g.io.length<=1000)&&((wD g.ml).all λk=>Nat.blt k 1000)&&g.io.all λq=>q.2.refs.all λk=>Nat.blt k 1000
def Mj(g:cN X)(v:VT (X:=X) (cJ g.ml++da g.io)):cH X:=⟨(List.range g.ml.length).zip (g.args v),Y0 g.ml g.io (vK _ v),1000,[]⟩
theorem uS{ol:Nat->Nat}:∀(O:List (Nat×OP X.ι))(L:List (DC X)),bX ol O L=(dF (bX ol O L)).map λp=>(p.1,some p.2)
 |[],L=>rfl
 |(k,.l c)::O,L=>by
  match L with
  |[]=>rfl
  |⟨.sl c',x⟩::L=>simp[bX,dF];rw[<- uS O L]
  |⟨.int _,x⟩::L|⟨.bool,x⟩::L|⟨.str,x⟩::L|⟨.any,x⟩::L|⟨.st _,x⟩::L|⟨.mp _ _,x⟩::L=>rfl
 |(k,.m kc vc)::O,L=>by
  match L with
  |[]=>rfl
  |⟨.mp _ _,x⟩::L=>simp[bX,dF];rw[<- uS O L]
  |⟨.sl _,x⟩::L|⟨.int _,x⟩::L|⟨.bool,x⟩::L|⟨.str,x⟩::L|⟨.any,x⟩::L|⟨.st _,x⟩::L=>rfl
 |(k,.c sz rows)::O,L=>by simp[bX,dF];rw[<- uS O _]
theorem DY{ol:Nat->Nat}:∀(O:List (Nat×OP X.ι))(L:List (DC X)),L.map (·.c)=da O->(dF (bX ol O L)).map (·.1)=O.map (·.1)
 |[],L,_=>rfl
 |(k,.l c)::O,L,h=>by
  match L,h with
  |⟨.sl c',x⟩::L,h=>
   simp[da]at h;simp[bX,dF,DY O L h.2]
  |[],h|⟨.int _,x⟩::L,h|⟨.bool,x⟩::L,h|⟨.str,x⟩::L,h|⟨.any,x⟩::L,h|⟨.st _,x⟩::L,h|⟨.mp _ _,x⟩::L,h=>simp[da]at h
 |(k,.m kc vc)::O,L,h=>by
  match L,h with
  |⟨.mp _ _,x⟩::L,h=>
   simp[da]at h;simp[bX,dF,DY O L h.2]
  |[],h|⟨.sl _,x⟩::L,h|⟨.int _,x⟩::L,h|⟨.bool,x⟩::L,h|⟨.str,x⟩::L,h|⟨.any,x⟩::L,h|⟨.st _,x⟩::L,h=>simp[da]at h
 |(k,.c sz rows)::O,L,h=>by simp[bX,dF,DY O _ (KF (ol:=ol) rows L _ h).1]
theorem aiB(g:cN X)(v:VT (X:=X) (cJ g.ml++da g.io))(h:g.io.map (·.1)=List.range g.io.length):(g.cy v).map (·.1)=List.range (g.cy v).length:=by have e:(g.cy v).map (·.1)=g.io.map (·.1):=DY g.io _ (by rw[List.map_drop,afp,List.drop_left]);have l:=congrArg List.length e;rw[length_map,length_map]at l;rw[e,h,l]
theorem Vr(k:Nat):∀l:List (Nat×br X),fp (l.map λp=>(p.1,some p.2)) k=tI l k
 |[]=>rfl
 |p::l=>by simp[fp,lk,tI];split;rfl;exact Vr k l
theorem afx(t:Nat):∀(ks:List Nat)(ds:List (DV X)),den (dC (ks.zip ds) t)=(lk (ks.zip (bF ds)) t).getD .undef:=by
 intro ks
 induction ks with
 |nil=>intro ds;rfl
 |cons k ks ih=>
  intro ds;cases ds with
  |nil=>rfl
  |cons d ds=>
   simp[dC,lk,bF];by_cases h:k=t;simp[h];simp[aV h];exact ih ds
theorem O5(t:Nat):∀(ks:List Nat)(ds:List (DV X)),∀j∈bp (dC (ks.zip ds) t),j∈aL ds:=by
 intro ks
 induction ks with
 |nil=>intro ds j hj;simp[dC,lk,bp]at hj
 |cons k ks ih=>
  intro ds j hj;cases ds with
  |nil=>simp[dC,lk,bp]at hj
  |cons d ds=>
   simp[dC,lk]at hj;simp[aL];by_cases e:k=t;simp[aX e]at hj;exact .inl hj;simp[aV e]at hj;exact .inr (ih ds j hj)
def DZ(O:List (Nat×OP X.ι)):List (Nat×Pt X.ι)->List (Nat×CT X.ι)
 |[]=>[]
 |(t,.o k)::r=>match lk O k with
  |some (.l c)=>(t,c)::DZ O r
  |_=>DZ O r
 |(t,.oz k)::r=>match lk O k with
  |some (.l c)=>(t+1099511627776,c)::DZ O r
  |_=>DZ O r
 |_::r=>DZ O r
def Vs(O:List (Nat×OP X.ι)):List (Nat×OP X.ι)->List (Nat×CT X.ι)
 |(q,.c _ [row])::r=>(DZ O (lv (1000000+q*4096) row)).filter (λ p=>Nat.ble p.1 1000000000)++Vs O r
 |_::r=>Vs O r
 |[]=>[]
def vQ(g:cN X):Sh X.ι:=⟨lv 0 g.ft,g.iz,[],[],1000000,DZ g.iz (lv 0 g.ft)++Vs g.iz g.iz⟩
def RW(T:ed)(rs:List ResultVar)(g:cN X):Exit->cH X->Option (VT (X:=X) (vQ g).vars)
 |.normal,s=>XW T s rs λds=>bif decide (ds.length=g.ft.length)&&(aL ds).all (λ k=>Nat.blt k s.nx)then
  o9 (vQ g) (List.range ds.length) ⟨(List.range ds.length).zip ds,s.obj,s.nx,s.log⟩ ⟨(List.range ds.length).zip ds,s.obj,s.nx,s.log⟩ some else none
 |.ret,s=>XW T s rs λds=>bif decide (ds.length=g.ft.length)&&(aL ds).all (λ k=>Nat.blt k s.nx)then
  o9 (vQ g) (List.range ds.length) ⟨(List.range ds.length).zip ds,s.obj,s.nx,s.log⟩ ⟨(List.range ds.length).zip ds,s.obj,s.nx,s.log⟩ some else none
 |_,_=>none
theorem Vt{ol:Nat->Nat}(t:Nat):∀(n:Nat)(ps:List (Pt X.ι))(L:List (DC X)),dC (wB ol (lv n ps) L) (n+t)=((k8 ol ps L).1[t]?).getD .undef
 |n,[],L=>by simp[lv,wB,dC,lk,k8]
 |n,p::ps,L=>by
  simp[lv,wB,dC,lk,k8];cases t with
  |zero=>simp
  |succ t=>
   have:=Vt (ol:=ol) t (n+1) ps (eP ol p L).2;rw[show n+1+t=n+(t+1)by omega]at this;simpa[dC]using this
theorem Zm {P:Program} {g:cN X} {s:cH X} {rs:List ResultVar} {r:VT (X:=X) (vQ g).vars} (hl:Low s) (h:(XW T s rs λds=>bif decide (ds.length=g.ft.length)&&(aL ds).all (λ k=>Nat.blt k s.nx)then
 o9 (vQ g) (List.range ds.length) ⟨(List.range ds.length).zip ds,s.obj,s.nx,s.log⟩ ⟨(List.range ds.length).zip ds,s.obj,s.nx,s.log⟩ some else none)=some r):
 ∃xs,lM T s.st rs=some xs/\Hk P s.st.obj xs (oM (g.outs r)) (den (g.res r)):=by
 have⟨ds,h1,h⟩:=Jd T h;have⟨h2,h⟩:=dR h;simp only[bg,bE]at h2;obtain⟨h2,h3⟩:=h2;have hl':Low (⟨(List.range ds.length).zip ds,s.obj,s.nx,s.log⟩:cH X):=⟨hl.le,hl.ge,λt k hk=>by have:=all_eq_true.1 h3 k (O5 t _ _ k hk);exact Nat.blt_eq.mp this,hl.obj⟩;obtain⟨v,h4,_,_,hrel⟩:=iJ hl' hl' (Ext.refl _ _) h;injection h4 with h4;subst h4;refine⟨bF ds,OZ T h1,λw0 O0 β I w vs hM hv=>?_⟩;have hvl:=bo.length _ _ hv;simp[iR]at hvl;have hR:Rel P w0 O0 vs.size β I (⟨(List.range ds.length).zip ds,s.obj,s.nx,s.log⟩:cH X).st { tmps:=vs,defers:=O0.Ek } w:=by
  refine⟨rfl,rfl,λt=>?_,hM⟩;show VR P β w I (den (dC ((List.range ds.length).zip ds) t)) (vs.getD t undef);rw[afx,show List.range ds.length=List.range (bF ds).length by rw[iR],xZ];cases ht:(bF ds)[t]? with
  |none=>simp[VR]
  |some x=>
   obtain⟨u,g1,g2⟩:=bo.get _ _ t _ hv ht;rw[Array.getElem?_toList]at g1;simp[g1];exact g2
 obtain⟨β',hR'⟩:=hrel P w0 O0 _ β I _ w hR;have hn:(gO (lv 0 g.ft)).length=(cJ g.ft).length:=by rw[OM]
 refine⟨β',I,?_,λ_ h=>h,?_⟩;have:=hR'.mem;have e:(encS (vQ g) ⟨(List.range ds.length).zip ds,s.obj,s.nx,s.log⟩ v).st.obj=pD (oM (g.outs v)):=by funext k;simp[cH.st,encS,vQ,OV,cN.outs,Y0];rw[uS,Vr,<- hn];rfl
 rw[e]at this;exact this;obtain⟨pv,hpv⟩:∃pv,pv=UX g.ft g.iz (vK (vQ g).vars v):=⟨_,rfl⟩;have hres:g.res v=yh pv:=by rw[hpv];rfl
 have rS:∀t,VR P β' w I (den ((pv[t]?).getD .undef)) (vs.getD t undef):=by intro t;have:=hR'.env t;simp only[cH.st,dc,encS,vQ,map_nil,append_nil]at this;have e:=Vt (ol:=Dz g.iz ((vK (vQ g).vars v).drop (cJ g.ft).length)) t 0 g.ft ((vK (vQ g).vars v).take (cJ g.ft).length);rw[Nat.zero_add]at e;rw[hpv];simp only[UX];rw[<- e,<- hn];exact this
 have hpl:pv.length=g.ft.length:=by rw[hpv];exact DX _ _ _
 have hsz:vs.size=pv.length:=by rw[hpl,<- h2,hvl]
 rw[hres];have hall:bo P β' w I (bF pv) vs.toList:=by
  have gen:∀(pv:List (DV X))(us:List Value),us.length=pv.length->(∀ t,t<pv.length->VR P β' w I (den ((pv[t]?).getD .undef)) (us.getD t undef))->bo P β' w I (bF pv) us:=by
   intro pv
   induction pv with
   |nil=>intro us hl _;cases us<;>simp_all [bF,bo]
   |cons d pv ih=>
    intro us hl hh;cases us with
    |nil=>simp at hl
    |cons u us=>
     simp[bF];refine⟨by simpa using hh 0 (by simp),ih us (by simpa using hl) λt ht=>by simpa using hh (t+1) (by simpa using ht)⟩
  refine gen pv vs.toList (by simpa using hsz) λt ht=>?_;have e:vs.toList.getD t undef=vs.getD t undef:=by simp
  rw[e];exact rS t
 match pv,hsz,hall with
 |[d],hsz,hall=>
  obtain⟨u,rfl⟩:=Array.size_eq_one_iff.1 (show vs.size=1 by simpa using hsz);simp only[bF,bo]at hall;simpa[yh]using hall.1
 |[],hsz,hall=>
  have h1:¬vs.size=1:=by rw[hsz];simp
  rw[dif_neg h1];simp only[yh,den,VR];exact⟨vs,rfl,hall⟩
 |d::e::pv,hsz,hall=>
  have h1:¬vs.size=1:=by rw[hsz];simp
  rw[dif_neg h1];simp only[yh,den,VR];exact⟨vs,rfl,hall⟩
variable {Γ:FuncId->Option (ca X)} {code:TypeId->Option (CT X.ι)} {P:Program}
theorem am6(hT : fq P T)(hm : P.follows .mixedOrders = true)(hΓ : pL P Γ){f : FuncId}{fn : Func}{c : Code}(hfn : P.funcs[f]? = some fn)(hb : fn.body = some c)(hname : (fn.name == "runtime.NumGoroutine") = false)(g : cN X)(hN : g.ml.length <= fn.ntmps)(hin : g.B5 = true)
 (h:Hn X.ι) (n:Nat) (hr:∀v (r:VT (X:=X) (vQ g).vars),g.fn v=some r->run Γ T code fn.ntmps n c (VT (X:=X) (vQ g).vars) h (Mj g v) (RW T fn.results.toList g)=some r):Hb P f g:=by
 intro v r hv;have hrun:=hr v r hv;simp only[cN.B5,bg,bE]at hin;obtain⟨⟨⟨i1,i2⟩,i3⟩,i4⟩:=hin;obtain⟨s1,s2,_⟩:=yw (ol:=Dz g.io ((vK (cJ g.ml++da g.io) v).drop (cJ g.ml).length)) g.io ((vK _ v).drop (cJ g.ml).length);have hargs:∀k∈aL (g.args v),k<1000:=λk hk=>Nat.blt_eq.mp (all_eq_true.1 i3 k (vO g.ml _ k hk));have qk:∀p∈g.cy v,p.1<1000/\∀j∈d7 p.2,j<1000:=by intro p hp;have⟨op,g1,g2⟩:=s2 p hp;have hk:p.1∈g.io.map (·.1):=mem_map.2 ⟨_,g1,rfl⟩;rw[i1]at hk;have:=List.mem_range.1 hk;exact⟨by omega,λj hj=>Nat.blt_eq.mp (all_eq_true.1 (all_eq_true.1 i4 _ g1) j (g2 j hj))⟩
 have hal:(g.args v).length=g.ml.length:=DX _ _ _;have hkeys:(g.cy v).map (·.1)=List.range (g.cy v).length:=aiB g v i1;have ie:∀k,fp (Mj g v).obj k=tI (g.cy v) k:=by intro k;show fp (bX _ g.io _) k=tI (dF (bX _ g.io _)) k;rw[uS,Vr,<- uS]
 have Z3:∀(l:List (Nat×br X))(n:Nat),l.map (·.1)=(List.range l.length).map (n+ ·)->∀k,tI l (n+k)=(l[k]?).map (·.2):=by
  intro l
  induction l with
  |nil=>intro n _ k;rfl
  |cons p l ih=>
   intro n hn k;rw[fU,List.range_succ_eq_map,bJ,bJ,map_map]at hn;injection hn with e1 e2;simp[tI];cases k with
   |zero=>rw[aX (by omega)];rfl
   |succ k=>
    rw[aV (by omega),show n+(k+1)=(n+1)+k by omega,ih (n+1) (by rw[e2];refine List.map_congr_left λa _=>?_;simp;omega) k];rfl
 have hlow:Low (Mj g v):=by
  refine⟨by show 1000<=1000000;decide,ay _,λt k hk=>hargs k (O5 t _ _ k hk),λk o ho=>?_⟩;rw[ie]at ho;have hmem:∀(l:List (Nat×br X)),tI l k=some o->(k,o)∈l:=by
   intro l
   induction l with
   |nil=>intro h;simp[tI]at h
   |cons p l ih=>
    intro h;simp[tI]at h;split at h;rename_i e;cases h;subst e;exact List.mem_cons_self;exact dZ _ (ih h)
  exact qk _ (hmem _ ho)
 refine ah8 hT hfn hb hname (by rw[iR,hal];exact hN) (λ k hk=>hargs k (by rwa [jc]at hk)) (by rw[length_map,<- length_map (f:=Prod.fst),hkeys,List.length_range];have:=s1.length_le;rw[length_map,length_map]at this;exact Nat.le_trans this i2) ?_ ?_;intro o ho r' hr' x hx j hj;obtain⟨p,hp,rfl⟩:=mem_map.1 ho;exact(qk p hp).2 j (Vg hr' hx j hj);have e:rj.st ⟨(List.range (bF (g.args v)).length).zip (bF (g.args v)),(List.range ((g.cy v).map λp=>bH p.2).length).zip ((g.cy v).map λp=>bH p.2)⟩=(Mj g v).st:=by simp only[cH.st,rj.st,St.mk.injEq,and_true];refine⟨?_,?_⟩;funext t;simp[Mj];rw[afx,iR,hal];funext k;rw[xZ,ie,List.getElem?_map];have:=Z3 (g.cy v) 0 (by rw[hkeys];simp) k;rw[Nat.zero_add]at this;rw[this,Option.map_map];rfl
 rw[e];refine(gL hT hm hΓ c _ h _ _ r hlow hrun).mono ?_;rintro e σ ⟨s',hl',_,rfl,g4⟩;cases e<;>first|exact Zm hl' g4|cases g4
end
structure fj(E:Nat->Prop)(W W':World):Prop where
 le:W.heap.size<=W'.heap.size
 keep:∀b,b<W.heap.size->¬E b->W'.heap[b]? =W.heap[b]?
 os:W'.os=W.os
 tape:W'.tape=W.tape
 output:W'.output=W.output
theorem fj.refl(E:Nat->Prop)(W:World):fj E W W:=⟨ay _,λ_ _ _=>rfl,rfl,rfl,rfl⟩
theorem fj.trans{E:Nat->Prop}{X Y Z:World}(h:fj E X Y)(k:fj E Y Z):fj E X Z:=
 ⟨Nat.le_trans h.le k.le,λb hb he=>(k.keep b (Nat.lt_of_lt_of_le hb h.le) he).trans (h.keep b hb he),k.os.trans h.os,k.tape.trans h.tape,k.output.trans h.output⟩
theorem fj.mono{E E':Nat->Prop}{X Y:World}(h:fj E X Y)(he:∀b,E b->E' b):fj E' X Y:=⟨h.le,λb hb hn=>h.keep b hb λe=>hn (he b e),h.os,h.tape,h.output⟩
theorem fj.alloc(E:Nat->Prop)(W:World)(o:Obj):fj E W (W.alloc o):=⟨by simp,λ_ hb _=>oq hb,rfl,rfl,rfl⟩
theorem fj.put{E:Nat->Prop}(W:World)(l:Nat)(o:Obj)(h:E l):fj E W (W.putObj l o):=
 ⟨by simp[World.putObj],λb _ hn=>World.putObj_heap_other (λ e=>hn (e ▸ h)),rfl,rfl,rfl⟩
def anO(P:Program)(g:Nat)(lb:Array Value)(ys:List Tree)(N:World->Prop):Prop:=
 ∀(n l:Nat)(J:(Nat->Prop)->Nat->World->Prop)(W0:World),N W0->(∀ S k W,J S k W->N W/\∀b,S b->b<W.heap.size)->J (λ _=>False) 0 W0->
  (∀ m S S' k x W1 W I2 v,ys[k]? =some x->J S k W1->fj S W1 W->(∀ b,S' b->S b\/(W1.heap.size<=b/\b<W.heap.size/\¬I2 b))->(∀ b,I2 b->W1.heap.size<=b/\b<W.heap.size)->TR W I2 x v->
   YieldAt Fence.wide m P l #[v] W λe W'=>e=.returned (.bool true)/\J S' (k+1) W'/\∀b,S' b\/I2 b->W'.heap[b]? =W.heap[b]?)->
  CallsIn Fence.wide n P g (#[.func (.yield l) #[] #[]]++lb) W0 λe W'=>(∃ v,e=.returned v)/\∃S W1,J S ys.length W1/\fj S W1 W'
variable {P:Program}
theorem O6{g:Operand}{p:Tmp}{assign body:Code}{Q:Exit->Act->World->Prop}{a:Act}{w:World}
 {gf:Nat} {lb:Array Value} (hg:a.eval g=.func (.func gf) #[] lb) (eg:∀args w,(callFunc gf args).run P w=.ok (.enter gf args) w)
 {ys:List Tree} {N:World->Prop} (hseq:anO P gf lb ys N) (hN:∀W,fj (λ _=>False) w W->N W) (D l:Nat) (hD:w.heap.size=D) (hl:l=D+1)
 (I:(Nat->Prop)->Nat->World->Prop) (hI:∀S k W,I S k W->N W/\∀b,S b->D+2<=b/\b<W.heap.size) (IS:∀S k W W',I S k W->fj (· =l) W W'->W'.heap.size=W.heap.size->I S k W')
 (h0:∀W,fj (λ _=>False) w W->W.heap.size=D+2->I (λ _=>False) 0 W)
 (s6:∀S S' k x W1 W I2 v,ys[k]? =some x->I S k W1->fj S W1 W->D+2<=W1.heap.size->(∀ b,S' b->S b\/(W1.heap.size<=b/\b<W.heap.size/\¬I2 b))->(∀ b,I2 b->W1.heap.size<=b/\b<W.heap.size)->TR W I2 x v->
  assign.wpIn (Fw (some l)) 0 P (λ e a1 W2=>e=.normal/\(∀ b,b=D\/b=l\/S' b\/I2 b->W2.heap[b]? =W.heap[b]?)/\
   ∀Wb,fj (· =l) W2 Wb->Wb.heap.size=W2.heap.size->body.wpIn (Fw (some l)) 0 P (λ e _ W'=>e=.normal/\I S' (k+1) W'/\∀b,b=D\/b=l\/S' b\/I2 b->W'.heap[b]? =Wb.heap[b]?) a1 Wb)
   { tmps:=a.tmps.setIfInBounds p v,defers:=[] } W)
 (hdone:∀S W1 W,I S ys.length W1->fj (λ b=>S b\/b=l) W1 W->W.heap[D]? =some (.deferred (some []))->Q .normal { a with defers:={ target:=.collected D,args:=#[] }::a.defers } W):
 (Code.rangeFunc g #[p] assign body).wpIn Fence.wide 0 P Q a w:=by
 subst hl;refine wpIn_rangeFunc ?_;intro fn hfn;obtain⟨rec,hrec⟩:∃rec:LoopState->Option Code->Loop,rec=λst pe=>{ state:=st,pending:=pe,fn,tmps:=a.tmps,params:=#[p],assign,body,defers:=D }:=⟨_,rfl⟩;obtain⟨W1,hW1⟩:∃W1,(w.alloc (.deferred (some []))).alloc (.loop (rec .ready none))=W1:=⟨_,rfl⟩;have hL1:W1.heap[D+1]? =some (.loop (rec .ready none)):=by rw[<- hW1,<- hD];have:=World.alloc_heap_new (w.alloc (.deferred (some []))) (.loop (rec .ready none));rwa [World.size_alloc]at this
 have hK1:W1.heap[D]? =some (.deferred (some [])):=by rw[<- hW1,<- hD];exact(Below.heap_alloc _ _ _ (by simp)).trans (World.alloc_heap_new w _)
 have hs1:W1.heap.size=D+2:=by rw[<- hW1];simp[hD]
 have hb1:fj (λ _=>False) w W1:=by rw[<- hW1];exact(fj.alloc _ w _).trans (fj.alloc _ _ _)
 refine⟨D+1,[{ target:=.collected D,args:=#[] }],W1,{ target:=.fn (.func gf) lb,args:=#[.func (.yield (D+1)) #[] #[]] },W1,gf,
  #[.func (.yield (D+1)) #[] #[]]++lb,W1,?_,?_,?_,?_,λh=>by simp[Fence.wide]at h,?_⟩
 rw[<- hW1,hrec,<- hD];exact run_enterLoop_outer _ _ _ _ _;simp only[resolve,hg];simp[go_sem];intro f' hf';trivial;simp[invoke,go_sem,eg]
 refine(hseq (0-1) (D+1) (λ S k W=>I S k W/\D+2<=W.heap.size/\W.heap[D+1]? =some (.loop (rec .ready none))/\W.heap[D]? =some (.deferred (some []))) W1 (hN _ hb1) (λ S k W h=>⟨(hI S k W h.1).1,λb hb=>((hI S k W h.1).2 b hb).2⟩)
  ⟨h0 _ hb1 hs1,by omega,hL1,hK1⟩ ?_).mono ?_
 rintro m S S' k x W2 W I2 v hx ⟨hi,hq,hl,hk⟩ hext hS' hI2 hv;have hSD:∀b,S b->D+2<=b:=λb hb=>((hI S k W2 hi).2 b hb).1;have aow:∀b,S' b->D+2<=b:=λb hb=>by rcases hS' b hb with h|h;exact hSD b h;omega
 have hlt:D+1<W2.heap.size:=(Array.getElem?_eq_some_iff.1 hl).1;have hlW:W.heap[D+1]? =some (.loop (rec .ready none)):=(hext.keep _ hlt (λ e=>by have:=hSD _ e;omega)).trans hl;have hkW:W.heap[D]? =some (.deferred (some [])):=(hext.keep _ (by omega) (λ e=>by have:=hSD _ e;omega)).trans hk;have hy:(Instr.yield (D+1) #[v]).run P W=.ok (.round (D+1) fn (a.tmps.setIfInBounds p v) assign body) W:=by rw[run_yield (P:=P) (args:=#[v]) hlW (by rw[hrec];rfl),hrec];simp
 suffices h:YieldAt Fence.wide 0 P (D+1) #[v] W λe W'=>e=.returned (.bool true)/\(I S' (k+1) W'/\D+2<=W'.heap.size/\W'.heap[D+1]? =some (.loop (rec .ready none))/\W'.heap[D]? =some (.deferred (some [])))/\∀b,S' b\/I2 b->W'.heap[b]? =W.heap[b]? by obtain⟨f1,t1,c1,c2,h1,h2⟩:=h;exact⟨f1,t1,c1,c2,h1,h2.1,λc cs _=>h2.2 c cs (λ d h=>by simp[Fence.wide]at h)⟩
 refine⟨fn,_,assign,body,hy,roundIn_of_wpIn hfn (wpIn_mono (s6 S S' k x W2 W I2 v hx hi hext hq hS' hI2 hv) ?_)⟩;rintro e a1 W3 ⟨rfl,hkeep,hbody⟩;have hl3:=(hkeep _ (.inr (.inl rfl))).trans hlW;refine⟨_,run_beginRound hl3 (by rw[hrec]),wpIn_mono (hbody _ (fj.put _ _ _ rfl) (by simp[World.putObj])) ?_⟩;rintro e a2 W4 ⟨rfl,hi4,hk4⟩;have hl4:W4.heap[D+1]? =some (.loop (rec .busy none)):=(hk4 _ (.inr (.inl rfl))).trans (by rw[hrec];exact World.putObj_heap_same (Array.getElem?_eq_some_iff.1 hl3).1);have hr:=run_endRound (P:=P) none hl4;rw[hrec]at hr;have aoB:∀b,S' b\/I2 b->b≠D+1:=by rintro b (hb|hb);have:=aow b hb;omega;have:=hI2 b hb;omega
 have ZD:D+1<W4.heap.size:=(Array.getElem?_eq_some_iff.1 hl4).1;refine⟨_,_,hr,rfl,⟨IS _ _ _ _ hi4 (fj.put _ _ _ rfl) (by simp[World.putObj]),by simp only[World.putObj,Array.size_setIfInBounds];omega,?_,?_⟩,λb hb=>?_⟩;rw[hrec];exact World.putObj_heap_same ZD;exact(World.putObj_heap_other (by omega)).trans ((hk4 _ (.inl rfl)).trans ((World.putObj_heap_other (by omega)).trans ((hkeep _ (.inl rfl)).trans hkW)));have hne:=aoB b hb;exact(World.putObj_heap_other hne).trans ((hk4 _ (.inr (.inr hb))).trans ((World.putObj_heap_other hne).trans (hkeep _ (.inr (.inr hb)))));rintro e W2 ⟨⟨v,rfl⟩,S,W3,⟨hi,hq,hl,hk⟩,hext⟩;have hSD:∀b,S b->D+2<=b:=λb hb=>((hI S _ W3 hi).2 b hb).1;have hlt:D+1<W3.heap.size:=(Array.getElem?_eq_some_iff.1 hl).1;have hl2:=(hext.keep _ hlt (λ e=>by have:=hSD _ e;omega)).trans hl;have he:=run_endLoop (P:=P) hl2 (by rw[hrec];simp);rw[hrec]at he;refine⟨none,_,he,hdone S W3 _ hi ((hext.mono λb h=>.inl h).trans (fj.put _ _ _ (.inr rfl))) ((World.putObj_heap_other (by omega)).trans ((hext.keep _ (by omega) (λ e=>by have:=hSD _ e;omega)).trans hk))⟩
end Go.Gb
namespace Go.Gb
open Go.RowKit
section
variable {P:Program} {w0:World} {O0:gA} {N:Nat} {β:Nat->Option cA} {I:Nat->Prop} {obj:Nat->Option aM} {w:World}
theorem Mem.ext{E I2:Nat->Prop}{w':World}(h:Mem P w0 O0 β I obj w)(hx:fj E w w')(hE:∀q,E q->w0.heap.size<=q/\¬I q/\∀k o,obj k=some o->¬fx β k q)(hI:∀b,I2 b->w.heap.size<=b/\b<w'.heap.size):
 Same I w w'/\Mem P w0 O0 β (λ b=>I b\/I2 b) obj w':=by have hle:=hx.le;have hle0:=h.le;have hs:Same I w w':=λb hb=>hx.keep b (h.lt b hb) λe=>(hE b e).2.1 hb;refine⟨hs,λk o hk=>?_,h.er,λk o B b h1 h2 h3=>?_,?_,?_,λb hb hno=>?_,by omega,hx.os.trans h.os,hx.tape.trans h.tape,hx.output.trans h.output,h.anch,h.vars.mono hs λ_ h=>.inl h⟩;have⟨B,hB,hO⟩:=h.cy k o hk;exact⟨B,hB,OR.mono (λ _ _ h=>h) hs (λ _ h=>.inl h) (λ b hb=>hx.keep b (h.ownB k o B b hk hB hb).2.1 λe=>(hE b e).2.2 k o hk ⟨B,hB,hb⟩) hO⟩;have⟨g1,g2,g3⟩:=h.ownB k o B b h1 h2 h3;exact⟨λ hi=>hi.elim g1 λhi=>by have:=(hI b hi).1;omega,by omega,g3⟩;rintro b (hb|hb);have:=h.lt b hb;omega;exact(hI b hb).2;rintro b (hb|hb);exact h.up b hb;exact .inr (.inr (by have:=(hI b hb).1;omega));exact(hx.keep b (by omega) λe=>by have:=(hE b e).1;omega).trans (h.keep b hb hno)
theorem Mem.union{E:Nat->Prop}{dl:List Deferred}{β':Nat->Option cA}{I':Nat->Prop}{jp:Nat->Option aM}{w':World}(h:Mem P w0 O0 β I obj w)(hE:∀q,E q->¬I q)
 (h':Mem P w (BC w0 O0 I E dl) β' I' jp w'):Mem P w (BC w0 O0 I E dl) β' (λ b=>I' b\/I b) jp w':=by refine⟨λ k o hk=>?_,h'.er,λk o B b h1 h2 h3=>?_,?_,?_,h'.keep,h'.le,h'.os,h'.tape,h'.output,h'.anch,h'.vars.mono (λ _ _=>rfl) λ_ h=>.inl h⟩;have⟨B,hB,hO⟩:=h'.cy k o hk;exact⟨B,hB,OR.mono (λ _ _ h=>h) (λ _ _=>rfl) (λ _ h=>.inl h) (λ _ _=>rfl) hO⟩;have⟨g1,g2,g3⟩:=h'.ownB k o B b h1 h2 h3;refine⟨λ hi=>hi.elim g1 λhi=>?_,g2,g3⟩;rcases g3 with g3|g3;exact g3.2.2 hi;have:=h.lt b hi;omega;rintro b (hb|hb);exact h'.lt b hb;exact Nat.lt_of_lt_of_le (h.lt b hb) h'.le;rintro b (hb|hb);exact h'.up b hb;exact .inl ⟨h.up b hb,λe=>hE b e hb⟩
theorem Mem.HI(h:Mem P w0 O0 β I obj w){anc:Nat->Option cA}(lt:∀j B,anc j=some B->j<1000)(ha:∀j B,anc j=some B->β j=some B)(dl:List Deferred):Mem P w0 ⟨O0.own,O0.pT,anc,lt,dl⟩ β I obj w:=
 ⟨h.cy,h.er,h.ownB,h.lt,h.up,h.keep,h.le,h.os,h.tape,h.output,ha,h.vars⟩
end
def coll(D:Nat):Deferred:={ target:=.collected D,args:=#[] }
def OK(P:Program)(w0:World)(O0:gA)(w1:World)(O1:gA):Prop:=
 ∃ds:Option Nat,O1.Ek=ds.toList.map coll/\∀(β:Nat->Option cA) (I:Nat->Prop) (obj:Nat->Option aM) (w:World),Mem P w1 O1 β I obj w->Mem P w0 O0 β I obj w/\∀D,ds=some D->w0.heap.size<=D/\kw β I obj w D/\w.heap[D]? =some (.deferred (some []))
theorem OK.refl{P:Program}{w0:World}{O0:gA}(h:O0.Ek=[]):OK P w0 O0 w0 O0:=⟨none,h,λ_ _ _ _ h=>⟨h,λ_ h=>by cases h⟩⟩
def Q0{V Y:Type}(f:V->Y->Option V):List Y->V->Option V
 |[],v=>some v
 |y::l,v=>(f v y).bind (Q0 f l)
section
variable {X:SX}
def N6:Pt X.ι->Bool
 |.p k=>Nat.blt k 1000
 |.f _ [] [.p k]=>Nat.blt k 1000
 |_=>false
structure yr(X:SX) where
 sh:Sh X.ι
 hb:Hn X.ι
 gf:FuncId
 e:CT X.ι
 F:List (CT.T X.toSE e)->Option (List (List Int))
def uC(s:cH X)(k:Nat):cH X:=⟨s.env,(k,none)::s.obj,s.nx,k::s.log⟩
variable (Γ:FuncId->Option (ca X)) (T:ed) (code:TypeId->Option (CT X.ι)) (N n:Nat) (i:yr X)
noncomputable def Pa(p:Tmp)(uu ur:Code)(s:cH X)(v:VT (X:=X) i.sh.vars)(y:List Int):Option (VT (X:=X) i.sh.vars):=
 run Γ T code N n uu _ .z ⟨(p,.c (.sl (.int .i64)) y)::(encS i.sh s v).env,(encS i.sh s v).obj,(encS i.sh s v).nx,(encS i.sh s v).log⟩ λe s1=>match e with
  |.normal=>run Γ T code N n ur _ i.hb s1 λe s2=>match e with
   |.normal=>o9 i.sh (i.sh.slots.map (·.1)++p::(eG uu++eG ur)) s s2 some
   |_=>none
  |_=>none
noncomputable def aj5{A:Type}(c:Code)(s:cH X)(k:cH X->Option A):Option A:=
 match c with
 |.rangeFunc (.tmp gt) ps uu ur=>match ps.toList,dC s.env gt with
  |[p],.fn gf [] [.ptr kc 0 0]=>match fp s.obj kc with
   |some (.cells 1 [[d]])=>bif decide (gf=i.gf)&&decide (p<N)&&i.sh.slots.all (λ q=>N6 q.2)&&i.sh.keep.all (λ t=>(bp (dC s.env t)).isEmpty)then
    (dat d (.sl i.e)).bind λx=>afu false i.sh (i.sh.slots.map (·.1)++p::(eG uu++eG ur)) (uC s kc) (uC s kc) λv0=>
     (i.F x).bind λys=>(Q0 (Pa Γ T code N n i p uu ur (uC s kc)) ys v0).bind λv=>k (encS i.sh (uC s kc) v)else none
   |_=>none
  |_,_=>none
 |_=>none
def E4(P:Program)(i:yr X):Prop:=∀x ys,i.F x=some ys->∀(w:World)(I:Nat->Prop)(b o:Nat),(∀ b,I b->b<w.heap.size)->j7 w I->I b->eb w I [.sl (List.map (CT.row X.toSE i.e) x)] b o->
 anO P i.gf #[.pointer (some ⟨b,o,none⟩)] (ys.map λy=>.sl (y.map (CT.row X.toSE (.int .i64)))) λW=>Same I w W/\w.heap.size<=W.heap.size
end
section
variable {X:SX} {Γ:FuncId->Option (ca X)} {T:ed} {code:TypeId->Option (CT X.ι)} {N n:Nat} {P:Program} {i:yr X}
theorem ahk(s:cH X)(k j:Nat):fp (uC s k).obj j=if k=j then none else fp s.obj j:=by simp only[uC,fp,lk];split<;>rfl
theorem Low.uC{s:cH X}(h:Low s)(k:Nat):Low (uC s k):=⟨h.le,h.ge,h.env,λj o ho=>by rw[ahk]at ho;split at ho;cases ho;exact h.obj j o ho⟩
theorem Rel.wc{w0:World}{O0:gA}{β:Nat->Option cA}{I:Nat->Prop}{s:cH X}{a:Act}{w:World}{k b sz:Nat}{o:br X}{nn:Ex}(hr:Rel P w0 O0 N β I s.st a w)(ho:fp s.obj k=some o)(hβ:β k=some (.at b sz nn)):
 Rel P w0 O0 N β (λ q=>I q\/q=b) (uC s k).st a w:=by
 have hk:s.st.obj k=some (bH o):=by simp[cH.st,ho]
 have hs:∀j q,(Gb.uC s k).st.obj j=some q->j≠k/\s.st.obj j=some q:=λj q hq=>by simp only[cH.st,ahk]at hq;split at hq;cases hq;exact⟨λ e=>‹¬ k=j› e.symm,hq⟩
 have hm:=hr.mem;obtain⟨g1,g2,g3⟩:=hm.ownB k _ _ b hk hβ rfl;refine⟨hr.defers,hr.size,λt=>dc.mono (λ _ _ h=>h) (λ _ _=>rfl) (λ _ h=>.inl h) (hr.env t),λj q hq=>?_,λj j' q q' B B' c h1 h2=>hm.er j j' q q' B B' c (hs j q h1).2 (hs j' q' h2).2,λj q B c h1 h2 h3=>?_,?_,?_,hm.keep,hm.le,hm.os,hm.tape,hm.output,hm.anch,hm.vars.mono (λ _ _=>rfl) λ_ h=>.inl h⟩;have⟨B,hB,hO⟩:=hm.cy j q (hs j q hq).2;exact⟨B,hB,OR.mono (λ _ _ h=>h) (λ _ _=>rfl) (λ _ h=>.inl h) (λ _ _=>rfl) hO⟩;have⟨e1,e2⟩:=hs j q h1;have⟨i1,i2,i3⟩:=hm.ownB j q B c e2 h2 h3;exact⟨λ hi=>hi.elim i1 λe=>e1 (hm.er j k q _ B _ c e2 hk h2 hβ h3 (by rw[e];rfl)),i2,i3⟩;rintro c (hc|rfl);exact hm.lt c hc;exact g2;rintro c (hc|rfl);exact hm.up c hc;exact .inr g3
theorem O7{ol Pi:Nat->Nat}:∀(sl:List (Nat×Pt X.ι))(L L':List (DC X)),sl.all (λ q=>N6 q.2)=true->wB ol sl L=wB Pi sl L'/\
 ∀q∈wB ol sl L,∀(P:Program) (β0 β:Nat->Option cA) (w:World) (I:Nat->Prop) (v:Value),(∀ k B,k<1000->β0 k=some B->β k=some B)->VR P β0 w I (den q.2) v->VR P β w I (den q.2) v
 |[],_,_,_=>⟨rfl,λ_ h=>by simp[wB]at h⟩
 |(t,p)::r,L,L',h=>by
  simp only[all_cons,bg]at h;obtain⟨h1,h2⟩:=h;have hp:eP ol p L=((eP Pi p L').1,L)/\∀(P:Program) (β0 β:Nat->Option cA) (w:World) (I:Nat->Prop) (v:Value),(∀ k B,k<1000->β0 k=some B->β k=some B)->VR P β0 w I (den (eP ol p L).1) v->VR P β w I (den (eP ol p L).1) v:=by
   unfold N6 at h1;split at h1;rename_i k;refine⟨rfl,λP β0 β w I v hb hv=>?_⟩;simp only[eP,den,VR]at hv ⊢;obtain⟨b,sz,n,g1,g2⟩:=hv;exact⟨b,sz,n,hb k _ (Nat.blt_eq.mp h1) g1,g2⟩;rename_i k;refine⟨rfl,λP β0 β w I v hb hv=>?_⟩;simp only[eP,k8,den,bF,VR]at hv ⊢;obtain⟨fs,cs,e1,e2,e3⟩:=hv
   refine⟨fs,cs,e1,by cases hh:fs.toList with
    |nil=>trivial
    |cons=>rw[hh]at e2;exact e2.elim,?_⟩
   match cs.toList,e3 with
   |[c],e3=>
    simp only[bo,VR]at e3 ⊢;obtain⟨⟨b,sz,n,g1,g2⟩,_⟩:=e3;exact⟨⟨b,sz,n,hb k _ (Nat.blt_eq.mp h1) g1,g2⟩,trivial⟩
   cases h1
  obtain⟨i1,i2⟩:=O7 r L L' (h2:_);simp only[wB];have e2:(eP Pi p L').2=L':=by unfold N6 at h1;split at h1<;>first|rfl|cases h1
  rw[e2,hp.1];refine⟨by rw[i1],λq hq=>?_⟩;rcases aR.1 hq with rfl|hq;have:=hp.2;rw[hp.1]at this;exact this;exact i2 q hq
theorem ahl{sh:Sh X.ι}{s:cH X}(h1:sh.slots.all (λ q=>N6 q.2)=true)(h2:sh.keep.all (λ t=>(bp (dC s.env t)).isEmpty)=true)(v0 v:VT (X:=X) sh.vars){β0 β:Nat->Option cA}{w w':World}{I I':Nat->Prop}
 (hb:∀k B,k<1000->β0 k=some B->β k=some B) (hs:Same I w w') (hi:∀b,I b->I' b) {t:Nat} {u:Value} (hv:VR P β0 w I (den (dC (encS sh s v0).env t)) u):VR P β w' I' (den (dC (encS sh s v).env t)) u:=by
 have e:(encS sh s v).env=(encS sh s v0).env:=by simp only[encS];rw[(O7 sh.slots _ _ h1).1]
 rw[e];refine VR.mono (λ _ _ h=>h) hs hi _ _ ?_;cases hh:lk (encS sh s v0).env t with
 |none=>simp[dC,hh,den,VR]
 |some d=>
  have hd:dC (encS sh s v0).env t=d:=by simp[dC,hh]
  rw[hd]at hv ⊢;have hm:=qp hh;simp only[encS,bK,mem_map]at hm;rcases hm with hm|⟨t',ht,he⟩;exact(O7 (Pi:=λ_=>0) sh.slots _ [] h1).2 _ hm P β0 β w I u hb hv;injection he with e1 e2;subst e1;subst e2;have:=all_eq_true.1 h2 _ ht;refine VR.restrict (D:=λ_=>False) (λ _ h=>h.elim) _ _ (λ k hk=>?_) hv;rw[iP]at hk;rw[List.isEmpty_iff.1 this]at hk;cases hk
theorem Low.put{s:cH X}(h:Low s)(p:Nat)(c:CT X.ι)(y:CT.T X.toSE c):Low (⟨(p,.c c y)::s.env,s.obj,s.nx,s.log⟩:cH X):=by
 refine⟨h.le,h.ge,λt k hk=>?_,h.obj⟩;by_cases e:p=t;simp[dC,lk,e,bp]at hk;have:dC ((p,DV.c c y)::s.env) t=dC s.env t:=by simp[dC,lk,aV e]
 rw[this]at hk;exact h.env t k hk
theorem drop_cons{α:Type}{l:List α}{k:Nat}{x:α}(h:l[k]? =some x):l.drop k=x::l.drop (k+1):=by have⟨h1,h2⟩:=dh.1 h;rw[List.drop_eq_getElem_cons h1,h2]
theorem aj6(hT:fq P T)(hm:P.follows .mixedOrders=true)(hΓ:pL P Γ)(wy:E4 P i)(eg:∀args w,(callFunc i.gf args).run P w=.ok (.enter i.gf args) w){c:Code}{A:Type}{s0:cH X}{k:cH X->Option A}{r:A}(I0:Low s0)(hr:aj5 Γ T code N n i c s0 k=some r)
 {w0:World} {O0:gA} (hd:O0.Ek=[]) (k7:∀j,O0.anc j=none) {K:Exit->Act->World->Prop}
 (hK:∀s',Low s'->k s'=some r->∀w1 O1 β I a w,OK P w0 O0 w1 O1->Rel P w1 O1 N β I s'.st a w->K .normal a w) (β:Nat->Option cA) (I:Nat->Prop) (a:Act) (w:World) (hrel:Rel P w0 O0 N β I s0.st a w):c.wpIn Fence.wide 0 P K a w:=by
 unfold aj5 at hr;split at hr<;>try cases hr
 rename_i gt ps uu ur;split at hr<;>try cases hr
 rename_i p gf kc hps hg;split at hr<;>try cases hr
 rename_i d hkc;obtain rfl:ps=#[p]:=by rw[<- Array.toList_inj];exact hps
 have hcr:=dR hr;clear hr;obtain⟨hc,hr⟩:=hcr;simp only[bg,bE]at hc;obtain⟨⟨⟨rfl,hp⟩,ha1⟩,ha2⟩:=hc;have⟨x0,hdat,hr⟩:=ah.1 hr;obtain⟨ds,hds⟩:∃ds,i.sh.slots.map (·.1)++p::(eG uu++eG ur)=ds:=⟨_,rfl⟩;rw[hds]at hr;have hgv:=hrel.env gt;simp only[cH.st,dc,hg,den,bF,VR]at hgv;obtain⟨fs,cs,hge,hfs,hcs⟩:=hgv;obtain⟨bc,szc,nc,hcap,V0⟩:∃b sz n,(fs=#[]/\cs=#[.pointer (some ⟨b,Ex.s n,none⟩)])/\β kc=some (.at b sz n):=by
  obtain⟨fs⟩:=fs;obtain⟨cs⟩:=cs
  match fs,hfs,cs,hcs with
  |[],_,[c],hcs=>
   simp only[bo,VR]at hcs;obtain⟨⟨b,sz,n,g1,rfl⟩,_⟩:=hcs;exact⟨b,sz,n,⟨rfl,by simp⟩,g1⟩
  |_::_,hfs,_,_=>simp[bo]at hfs
  |[],_,[],hcs=>simp[bo]at hcs
  |[],_,_::_::_,hcs=>simp[bo]at hcs
 obtain⟨rfl,rfl⟩:=hcap;obtain⟨I1,hI1⟩:∃I1:Nat->Prop,(λ q=>I q\/q=bc)=I1:=⟨_,rfl⟩;have hrow:eb w I1 [.sl (List.map (CT.row X.toSE i.e) x0)] bc nc.s:=by obtain⟨B,hB,hO⟩:=hrel.mem.cy kc _ (by simp[cH.st,hkc];rfl);rw[V0]at hB;injection hB with ij;subst ij;obtain⟨rfl,c,e,h1,h2,h3⟩:=hO;simp only[bH,bu,cR,bJ,map_nil,bF]at h3;obtain⟨_,⟨⟨u,g1,g2,_⟩,_⟩,_⟩:=h3;have g3:=(ahf hdat).1 _ _ _ _ _ g2;simp only[den,CT.tv,TV.av,VR]at g3;exact⟨⟨u,by simp[World.cell?,h1,g1],TR.mono (λ _ _=>rfl) (λ b hb=>by rw[<- hI1];exact .inl hb) _ _ g3⟩,trivial⟩
 have gc:=hrel.wc hkc V0;rw[hI1]at gc;have hbc:I1 bc:=by rw[<- hI1];exact .inr rfl
 clear hI1 hkc V0 hrel hdat hg;obtain⟨s,hs0⟩:∃s,uC s0 kc=s:=⟨_,rfl⟩;have ha2:i.sh.keep.all (λ t=>(bp (dC s.env t)).isEmpty)=true:=by rw[<- hs0];exact ha2
 have hl:Low s:=hs0 ▸ I0.uC kc;rw[hs0]at hr gc;clear hs0 I0;obtain⟨v0,hr,hl0,hx0,Iv⟩:=Mf hl hl (Ext.refl _ s) hr;have⟨ys,hys,hr⟩:=ah.1 hr;have⟨ve,hve,hr⟩:=ah.1 hr;have⟨β0,lr⟩:=Iv P w0 O0 N β I1 a w (.inr k7) gc;clear Iv;have hM0:=lr.mem;obtain⟨O1,hO1,hO1d⟩:∃O1:gA,O1=⟨O0.own,O0.pT,λj=>if j<1000 then β0 j else none,λj B hj=>(by split at hj;exact ‹j<1000›;cases hj),[]⟩/\O1.Ek=[]:=⟨_,rfl,rfl⟩;have hM1:Mem P w0 O1 β0 I1 (encS i.sh s v0).st.obj w:=by rw[hO1];exact hM0.HI _ (λ j B hj=>by split at hj<;>first|exact hj|cases hj) []
 have hback:∀{β I obj w},Mem P w0 O1 β I obj w->Mem P w0 O0 β I obj w:=λ{β I obj w} h=>by rw[hO1]at h;exact⟨h.cy,h.er,h.ownB,h.lt,h.up,h.keep,h.le,h.os,h.tape,h.output,λj B hj=>(by rw[k7 j]at hj;cases hj),h.vars⟩
 have hlow:∀{β I obj w},Mem P w0 O1 β I obj w->∀k B,k<1000->β0 k=some B->β k=some B:=λ{β I obj w} h k B hk hB=>h.anch k B (by rw[hO1];show(if k<1000 then β0 k else none)=some B;rw[aX hk];exact hB);obtain⟨D,hD⟩:∃D,w.heap.size=D:=⟨_,rfl⟩;have WD:w0.heap.size<=D:=hD ▸ hM0.le
 let J:(Nat->Prop)->Nat->World->Prop:=λS k W=>∃ β I' v,Mem P w0 O1 β I' (encS i.sh s v).st.obj W/\(∀ b,I1 b->I' b)/\Same I1 w W/\Low (encS i.sh s v)/\Ext (· ∈ds) s (encS i.sh s v)/\Q0 (Pa Γ T code N n i p uu ur s) (ys.drop k) v=some ve/\
  (∀ b,(b=D\/b=D+1\/S b)->kw β I' (encS i.sh s v).st.obj W b)/\∀b,S b->D+2<=b
 have hdef:a.defers=[]:=lr.defers.trans hd;refine O6 (ys:=ys.map λy=>.sl (y.map (CT.row X.toSE (.int .i64)))) (a:=a) (w:=w) hge eg (wy _ _ hys w I1 bc nc.s hM1.lt hM1.vars hbc hrow) (λ W hW=>⟨λ b hb=>hW.keep b (hM1.lt b hb) id,hW.le⟩) D (D+1) hD rfl J ?_ ?_ ?_ ?_ ?_
 ·rintro S k W ⟨β,I',v,h1,h2,h3,h4,h5,h6,h8,h9⟩;exact⟨⟨h3,by have:=(h8 D (.inl rfl)).lt;omega⟩,λb hb=>⟨h9 b hb,(h8 b (.inr (.inr hb))).lt⟩⟩
 ·rintro S k W W' ⟨β,I',v,h1,h2,h3,h4,h5,h6,h8,h9⟩ hx hsz;have hfl:=h8 (D+1) (.inr (.inl rfl));obtain⟨hs,hm'⟩:=h1.ext (I2:=λ_=>False) hx (λ q' e=>by subst e;exact⟨by omega,hfl.pT,hfl.obj⟩) (λ _ h=>h.elim);refine⟨β,_,v,hm',λb hb=>.inl (h2 b hb),λb hb=>(hs b (h2 b hb)).trans (h3 b hb),h4,h5,h6,λb hb=>?_,h9⟩;have:=h8 b hb;exact⟨by rw[hsz];exact this.lt,λhi=>hi.elim this.pT id,this.obj⟩
 ·intro W hx hsz;obtain⟨hs,hm'⟩:=hM1.ext (E:=λ_=>False) (I2:=λ_=>False) hx (λ _ h=>h.elim) (λ _ h=>h.elim);refine⟨β0,_,v0,hm',λb hb=>.inl hb,hs,hl0,hx0,by simpa using hve,λb hb=>?_,λ_ h=>h.elim⟩;have hb':D<=b/\b<W.heap.size:=by rcases hb with h|h|h<;>first|omega|exact h.elim
  exact⟨hb'.2,λhi=>hi.elim (λ hi=>by have:=hM1.lt b hi;omega) id,λk o hk ⟨B,hB,hbn⟩=>by have:=(hM1.ownB k o B b hk hB hbn).2.1;omega⟩
 ·rintro S S' k x W1 W I2 u hx ⟨β,I',v,h1,h2,h3,h4,h5,h6,h8,h9⟩ hext hDW hS' hI2 hu;rw[List.getElem?_map,iW]at hx;obtain⟨y,hy,rfl⟩:=hx;rw[drop_cons hy]at h6;simp only[Q0]at h6;have⟨v',hstep,h6⟩:=ah.1 h6;unfold Pa at hstep;obtain⟨hs,hm1⟩:=h1.ext (I2:=I2) hext (λ q' e=>⟨by have:=h9 q' e;omega,(h8 q' (.inr (.inr e))).pT,(h8 q' (.inr (.inr e))).obj⟩) hI2;have hle:=hext.le;have s7:∀b,(b=D\/b=D+1\/S' b)->kw β (λ b=>I' b\/I2 b) (encS i.sh s v).st.obj W b:=λb hb=>by have aw:(b=D\/b=D+1\/S b)->kw β (λ b=>I' b\/I2 b) (encS i.sh s v).st.obj W b:=λhb=>(by have:=h8 b hb;exact⟨Nat.lt_of_lt_of_le this.lt hle,λhi=>hi.elim this.pT λhi=>absurd this.lt (Nat.not_lt.2 (hI2 b hi).1),this.obj⟩);rcases hb with hb|hb|hb;exact aw (.inl hb);exact aw (.inr (.inl hb));rcases hS' b hb with hb|⟨e1,e2,e3⟩;exact aw (.inr (.inr hb));exact⟨e2,λhi=>hi.elim (λ hi=>by have:=h1.lt b hi;omega) e3,λk o hk ⟨B,hB,hbn⟩=>by have:=(h1.ownB k o B b hk hB hbn).2.1;omega⟩
  have hI3:Same I1 w W:=λb hb=>(hs b (h2 b hb)).trans (h3 b hb);have IH:Rel P W (BC w0 O1 (λ b=>I' b\/I2 b) (λ b=>b=D\/b=D+1\/S' b) []) N β (λ b=>I' b\/I2 b) (⟨(p,.c (.sl (.int .i64)) y)::(encS i.sh s v).env,(encS i.sh s v).obj,(encS i.sh s v).nx,(encS i.sh s v).log⟩:cH X).st { tmps:=a.tmps.setIfInBounds p u,defers:=[] } W:=by
   refine⟨rfl,by simpa using lr.size,λt=>?_,hm1.sB s7⟩;simp only[cH.st,dc];by_cases e:p=t
   ·subst e;have:(a.tmps.setIfInBounds p u).getD p undef=u:=(by simp[lr.size,hp]);rw[this];simp only[dC,lk,if_true,Option.getD_some,den,CT.tv,TV.av,VR];exact TR.mono (λ _ _=>rfl) (λ _ h=>.inr h) _ _ hu
   ·have e1:(a.tmps.setIfInBounds p u).getD t undef=a.tmps.getD t undef:=(by simp[Array.getElem?_setIfInBounds_ne e]);have e2:dC ((p,DV.c (.sl (.int .i64)) y)::(encS i.sh s v).env) t=dC (encS i.sh s v).env t:=(by simp[dC,lk,aV e]);rw[e1,e2];have h0:=lr.env t;exact ahl ha1 ha2 v0 v (hlow hm1) hI3 (λ b hb=>.inl (h2 b hb)) h0
  have hlA:=h4.put p (.sl (.int .i64)) y;have Xs:=gL hT hm hΓ uu _ .z _ _ _ hlA hstep;refine wpIn_mono (Xs (some (D+1)) W _ β _ _ W IH hlA.old) ?_;rintro e a1 W2 ⟨β1,I1',σ1,g1,_,s1,g2,g3,rfl,g4⟩;cases e<;>try cases g4
  simp only at g4;have hm2:=hm1.union (λ b hb hi=>(s7 b hb).pT hi) g1.mem;obtain⟨u1,u2,u3⟩:=hm1.sx hm2 (λ b hb=>(s7 b hb).lt);have HW:∀b,b=D\/b=D+1\/S' b\/I2 b->W2.heap[b]? =W.heap[b]? :=λb hb=>by rcases hb with hb|hb|hb|hb;exact(u2 b (.inl hb)).2;exact(u2 b (.inr (.inl hb))).2;exact(u2 b (.inr (.inr hb))).2;exact u3 b (.inr hb)
  refine⟨rfl,HW,λWb hxb W6=>?_⟩;have hfl:=(u2 (D+1) (.inr (.inl rfl))).1;obtain⟨hsb,hmb⟩:=u1.ext (I2:=λ_=>False) hxb (λ q' e=>by subst e;exact⟨by omega,hfl.pT,hfl.obj⟩) (λ _ h=>h.elim);have hEb:∀b,(b=D\/b=D+1\/S' b)->kw β1 (λ b=>(I1' b\/(I' b\/I2 b))\/False) s1.st.obj Wb b:=λb hb=>by have:=(u2 b hb).1;exact⟨by rw[W6];exact this.lt,λhi=>hi.elim this.pT id,this.obj⟩
  have IF:Rel P Wb (BC w0 O1 (λ b=>(I1' b\/(I' b\/I2 b))\/False) (λ b=>b=D\/b=D+1\/S' b) []) N β1 (λ b=>(I1' b\/(I' b\/I2 b))\/False) s1.st a1 Wb:=by refine⟨g1.defers,g1.size,λt=>?_,hmb.sB hEb⟩;exact dc.mono (λ _ _ h=>h) (λ b hb=>hsb b (.inl hb)) (λ b hb=>.inl (.inl hb)) (g1.env t)
  have W8:=gL hT hm hΓ ur _ i.hb _ _ _ g2 g4;refine wpIn_mono (W8 (some (D+1)) Wb _ β1 _ _ Wb IF g2.old) ?_;rintro e a2 W3 ⟨β2,I2',σ2,k1,_,s2,k2,k3,rfl,k4⟩;cases e<;>try cases k4
  simp only at k4;have Zs:=hmb.union (λ b hb hi=>(hEb b hb).pT hi) k1.mem;have J0:Ext (· ∈ds) s (⟨(p,.c (.sl (.int .i64)) y)::(encS i.sh s v).env,(encS i.sh s v).obj,(encS i.sh s v).nx,(encS i.sh s v).log⟩:cH X):=by refine⟨λ t ht=>?_,h5.obj,h5.nx⟩;have e:p≠t:=λe=>ht (by rw[<- hds,<- e];simp);have e2:dC ((p,DV.c (.sl (.int .i64)) y)::(encS i.sh s v).env) t=dC (encS i.sh s v).env t:=(by simp[dC,lk,aV e]);rw[e2];exact h5.env t ht
  have JT:Ext (· ∈ds) s s2:=(J0.trans (g3.wide λt ht=>by rw[<- hds];simp[ht])).trans (k3.wide λt ht=>by rw[<- hds];simp[ht]);rw[hds]at k4;obtain⟨v2,j1,j2,j3,j4⟩:=iJ hl k2 JT (k4:_);injection j1 with ij;subst ij;obtain⟨β3,IP⟩:=j4 P Wb _ N β2 _ a2 W3 ⟨k1.defers,k1.size,λt=>dc.mono (λ _ _ h=>h) (λ _ _=>rfl) (λ b hb=>.inl hb) (k1.env t),Zs⟩;obtain⟨x1,x2,x3⟩:=hmb.sx IP.mem (λ b hb=>(hEb b hb).lt);refine⟨rfl,⟨β3,_,v2,x1,λb hb=>.inr (.inl (.inr (.inl (h2 b hb)))),λb hb=>(x3 b (.inl (.inr (.inl (h2 b hb))))).trans ((hsb b (.inr (.inl (h2 b hb)))).trans ((u3 b (.inl (h2 b hb))).trans (hI3 b hb))),j2,j3,h6,λb hb=>(x2 b hb).1,λb hb=>?_⟩,λb hb=>?_⟩;rcases hS' b hb with hb|hb;exact h9 b hb;omega;rcases hb with hb|hb|hb|hb;exact(x2 b (.inl hb)).2;exact(x2 b (.inr (.inl hb))).2;exact(x2 b (.inr (.inr hb))).2;exact x3 b (.inl (.inr (.inr hb)))
 ·rintro S W1 W ⟨β,I',v,h1,h2,h3,h4,h5,h6,h8,h9⟩ hx hDd;rw[length_map,List.drop_length]at h6;injection h6 with ij;subst ij;have hE:∀b,S b\/b=D+1->D+1<=b/\kw β I' (encS i.sh s v).st.obj W1 b:=λb hb=>by rcases hb with hb|hb;exact⟨by have:=h9 b hb;omega,h8 b (.inr (.inr hb))⟩;exact⟨by omega,h8 b (.inr (.inl hb))⟩
  obtain⟨hs,hm'⟩:=h1.ext (I2:=λ_=>False) hx (λ b hb=>by obtain⟨e,hf⟩:=hE b hb;exact⟨by omega,hf.pT,hf.obj⟩) (λ _ h=>h.elim);have hfD:kw β (λ b=>I' b\/False) (encS i.sh s v).st.obj W D:=by have:=h8 D (.inl rfl);have hle:=hx.le;exact⟨by have:=this.lt;omega,λhi=>hi.elim this.pT id,this.obj⟩
  refine hK _ h4 hr W (BC w0 O1 (λ b=>I' b\/False) (λ b=>b=D) [coll D]) β (λ b=>I' b\/False) _ W ⟨some D,rfl,λβ4 I4 obj4 w4 h=>?_⟩ ⟨by rw[hdef];rfl,lr.size,λt=>?_,hm'.sB (E:=λb=>b=D) λq e=>e ▸ hfD⟩;obtain⟨y1,y2,y3⟩:=hm'.sx h λq e=>e ▸ hfD.lt;refine⟨hback y1,λD' e=>?_⟩;injection e with ij;subst ij;exact⟨WD,(y2 D rfl).1,(y2 D rfl).2.trans hDd⟩;exact ahl ha1 ha2 v0 v (hlow hm') (λ b hb=>(hs b (h2 b hb)).trans (h3 b hb)) (λ b hb=>.inl (h2 b hb)) (lr.env t)
end
def N5:Code->Bool
 |.rangeFunc .. =>true
 |.seq x y=>N5 x || N5 y
 |.block _ b=>N5 b
 |_=>false
section
variable {X:SX}
noncomputable def E3(Γ:FuncId->Option (ca X))(T:ed)(code:TypeId->Option (CT X.ι))(N n:Nat)(i:yr X):Code->(A:Type)->Hn X.ι->cH X->(Exit->cH X->Option A)->Option A
 |.seq x y,A,h,s,k=>bif N5 x then E3 Γ T code N n i x A h.fst s λe s'=>match e with
  |.normal=>run Γ T code N n y A h.snd s' k
  |e=>k e s'
  else run Γ T code N n x A h.fst s λe s'=>match e with
   |.normal=>E3 Γ T code N n i y A h.snd s' k
   |e=>k e s'
 |.block id b,A,h,s,k=>E3 Γ T code N n i b A h.sub s λe s'=>match e with
  |.exit j=>if j=id then k .normal s' else k (.exit j) s'
  |e=>k e s'
 |.rangeFunc g ps uu ur,_,_,s,k=>aj5 Γ T code N n i (.rangeFunc g ps uu ur) s (k .normal)
 |_,_,_,_,_=>none
variable {Γ:FuncId->Option (ca X)} {T:ed} {code:TypeId->Option (CT X.ι)} {N n:Nat} {P:Program} {i:yr X}
theorem D5(hT:fq P T)(hm:P.follows .mixedOrders=true)(hΓ:pL P Γ)(wy:E4 P i)(eg:∀args w,(callFunc i.gf args).run P w=.ok (.enter i.gf args) w){w0:World}{O0:gA}(hd:O0.Ek=[])(k7:∀j,O0.anc j=none):
 ∀(c:Code)(A:Type)(h:Hn X.ι)(s:cH X)(k:Exit->cH X->Option A)(r:A),Low s->E3 Γ T code N n i c A h s k=some r->∀(K:Exit->Act->World->Prop),
  (∀ e s',Low s'->k e s'=some r->∀w1 O1 β I a w,OK P w0 O0 w1 O1->Rel P w1 O1 N β I s'.st a w->K e a w)->∀ β I a w,Rel P w0 O0 N β I s.st a w->c.wpIn Fence.wide 0 P K a w
 |.seq x y,A,h,s,k,r,hl,hr,K,hK,β,I,a,w,hrel=>by
  refine wpIn_seq ?_;simp only[E3]at hr;cases hx:N5 x with
  |true=>
   rw[hx]at hr;refine D5 hT hm hΓ wy eg hd k7 x A _ s _ r hl hr _ ?_ β I a w hrel;intro e s' hl' he w1 O1 β1 I1 a1 w' hc gc;cases e with
   |normal=>
    refine wpIn_mono (gL hT hm hΓ y A _ s' k r hl' he none w1 O1 β1 I1 a1 w' gc hl'.old) ?_;rintro e a2 w2 ⟨β2,I2,σ2,g1,_,s2,g2,_,rfl,g4⟩;exact hK e s2 g2 g4 w1 O1 β2 I2 a2 w2 hc g1
   |_=>exact hK _ s' hl' he w1 O1 β1 I1 a1 w' hc gc
  |false=>
   rw[hx]at hr;refine wpIn_mono (gL hT hm hΓ x A _ s _ r hl hr none w0 O0 β I a w hrel hl.old) ?_;rintro e a2 w2 ⟨β2,I2,σ2,g1,_,s2,g2,_,rfl,g4⟩;cases e with
   |normal=>exact D5 hT hm hΓ wy eg hd k7 y A _ s2 k r g2 g4 K hK β2 I2 a2 w2 g1
   |_=>exact hK _ s2 g2 g4 w0 O0 β2 I2 a2 w2 (OK.refl hd) g1
 |.block id b,A,h,s,k,r,hl,hr,K,hK,β,I,a,w,hrel=>by
  refine wpIn_block (D5 hT hm hΓ wy eg hd k7 b A _ s _ r hl hr _ ?_ β I a w hrel);intro e s' hl' he w1 O1 β1 I1 a1 w' hc gc;cases e with
  |exit j=>
   simp only at he;simp only[Exit.inBlock];split at he;rw[aX ‹_›];exact hK _ s' hl' he w1 O1 β1 I1 a1 w' hc gc;rw[aV ‹_›];exact hK _ s' hl' he w1 O1 β1 I1 a1 w' hc gc
  |_=>exact hK _ s' hl' he w1 O1 β1 I1 a1 w' hc gc
 |.rangeFunc g ps uu ur,A,h,s,k,r,hl,hr,K,hK,β,I,a,w,hrel=>
  aj6 hT hm hΓ wy eg hl hr hd k7 (λ s' hl' he=>hK _ s' hl' he) β I a w hrel
 |.region ..,_,_,_,_,_,_,hr,_,_,_,_,_,_,_|.cond ..,_,_,_,_,_,_,hr,_,_,_,_,_,_,_|.loop _,_,_,_,_,_,_,hr,_,_,_,_,_,_,_|.skip,_,_,_,_,_,_,hr,_,_,_,_,_,_,_
 |.exit _,_,_,_,_,_,_,hr,_,_,_,_,_,_,_|.ret,_,_,_,_,_,_,hr,_,_,_,_,_,_,_|.label _,_,_,_,_,_,_,hr,_,_,_,_,_,_,_|.goto _,_,_,_,_,_,_,hr,_,_,_,_,_,_,_
 |.scope _,_,_,_,_,_,_,hr,_,_,_,_,_,_,_|.refuse _,_,_,_,_,_,_,hr,_,_,_,_,_,_,_=>by cases hr
theorem am7(hT : fq P T)(hm : P.follows .mixedOrders = true)(hΓ : pL P Γ)(wy : E4 P i)(eg : ∀ args w, (callFunc i.gf args).run P w = .ok (.enter i.gf args) w){f : FuncId}{fn : Func}{c : Code}(hfn : P.funcs[f]? = some fn)(hb : fn.body = some c)(hname : (fn.name == "runtime.NumGoroutine") = false)
 (g:cN X) (hN:g.ml.length<=fn.ntmps) (hO:g.io=[]) (hin:(wD g.ml).isEmpty=true) (h:Hn X.ι) (hr:∀v (r:VT (X:=X) (vQ g).vars),g.fn v=some r->E3 Γ T code fn.ntmps n i c (VT (X:=X) (vQ g).vars) h (Mj g v) (RW T fn.results.toList g)=some r):Hb P f g:=by
 intro v r hv;have hrun:=hr v r hv;have hpo:∀L:List (DC X),Y0 g.ml g.io L=[]:=λL=>by rw[hO];rfl
 have qk:g.cy v=[]:=by unfold cN.cy;rw[hpo];rfl
 have hargs:∀k∈aL (g.args v),k<1000:=λk hk=>by have:=vO g.ml _ k hk;rw[List.isEmpty_iff.1 hin]at this;cases this
 have hal:(g.args v).length=g.ml.length:=DX _ _ _;have hlo:∀k,fp (Mj g v).obj k=none:=λk=>by simp[Mj,hpo,fp,lk]
 have hlow:Low (Mj g v):=⟨by show 1000<=1000000;decide,ay _,λt k hk=>hargs k (O5 t _ _ k hk),λk o ho=>by rw[hlo k]at ho;cases ho⟩;rw[qk];refine⟨⟨fn,hfn,by rw[hb];rfl,hname⟩,λw β I vs hβ hM H4=>?_⟩;have hvl:=bo.length _ _ H4;simp only[Array.length_toList,iR]at hvl;refine(callsIn_wide (n:=0)).1 (callsIn_of_wp_marks hfn hb trivial ?_ rfl);have k7:∀j,(mV β I).anc j=none:=λj=>by simp only[mV];split<;>first|exact hβ j (Nat.zero_le _)|rfl
 have hrel:Rel P w (mV β I) fn.ntmps β I (Mj g v).st { tmps:=vs++Array.replicate (fn.ntmps-vs.size) undef,defers:=[] } w:=by
  refine⟨rfl,by simp;omega,λt=>?_,?_⟩;simp only[cH.st,dc,Mj];rw[afx,<- hal,<- iR,xZ];by_cases ht:t<(bF (g.args v)).length;obtain⟨u,g1,g2⟩:=bo.get _ _ t _ H4 (dJ ht);rw[dJ ht];simp only[Option.getD_some];have:(vs++Array.replicate (fn.ntmps-vs.size) undef).getD t undef=u:=by rw[Array.getElem?_toList]at g1;simp only[Array.getD_eq_getD_getElem?,Array.getElem?_append,show t<vs.size by rw[iR]at ht;omega,if_true,g1,Option.getD_some]
  rw[this];exact g2;rw[List.getElem?_eq_none (Nat.le_of_not_lt ht)];simp[VR];have:(Mj g v).st.obj=tz []:=by funext k;simp[cH.st,hlo,tz]
  rw[this];exact hM
 refine D5 hT hm hΓ wy eg rfl k7 c _ h _ _ r hlow hrun _ ?_ β I _ w hrel;intro e s' hl' he w1 O1 β1 I1 a1 w' ⟨ds,hds,hcls⟩ gc
 have fin:∀(w2:World),Rel P w (mV β I) fn.ntmps β1 I1 s'.st { a1 with defers:=[] } w2->(∃ xs,lM T s'.st fn.results.toList=some xs/\Hk P s'.st.obj xs (oM (g.outs r)) (den (g.res r)))->
  ∃u,(results fn a1.tmps).run P w2=.ok u w2/\QP P w β I (oM (g.outs r)) (den (g.res r)) (.returned u) w2:=by
  intro w2 hr2 ⟨xs,hx,hf⟩;obtain⟨us,g1,g2⟩:=vo hT hr2 _ _ hx;have hrun:(fn.results.mapM (QH a1.tmps)).run P w2=.ok us.toArray w2:=by rw[Array.mapM_eq_mapM_toList,Sem.run_map,g1];rfl
  obtain⟨β2,I2,hm2,hI2,hv2⟩:=hf w (mV β I) β1 I1 w2 us.toArray hr2.mem (by simpa using g2);have mm:∀b,I b->b<w.heap.size:=hM.lt;have hown0:∀b,¬Rv β b:=λb ⟨j,B,hj,_⟩=>by rw[hβ j (Nat.zero_le _)]at hj;cases hj
  have hmem:Mem P w (mV β I) β2 (λ b=>I2 b\/I b) (pD (oM (g.outs r))) w2:=by refine⟨λ k o hk=>?_,hm2.er,λk o B b h1 h2 h3=>?_,?_,?_,hm2.keep,hm2.le,hm2.os,hm2.tape,hm2.output,hm2.anch,hm2.vars.mono (λ _ _=>rfl) (λ b hb=>.inl hb)⟩;have⟨B,hB,hO⟩:=hm2.cy k o hk;exact⟨B,hB,OR.mono (λ _ _ h=>h) (λ _ _=>rfl) (λ b hb=>.inl hb) (λ _ _=>rfl) hO⟩;have⟨a1,a2,a3⟩:=hm2.ownB k o B b h1 h2 h3;refine⟨λ hi=>hi.elim a1 λhi=>?_,a2,a3⟩;rcases a3 with a3|a3;exact hown0 b a3;have:=mm b hi;omega;rintro b (hb|hb);exact hm2.lt b hb;exact Nat.lt_of_lt_of_le (mm b hb) hm2.le;rintro b (hb|hb);exact hm2.up b hb;exact .inl hb
  simp only[Du,Sem.run_bind,hrun,Result.andThen_ok,Sem.run_pure];exact⟨_,rfl,_,β2,_,rfl,hmem,λb hb=>.inr hb,VR.mono (λ _ _ h=>h) (λ _ _=>rfl) (λ b hb=>.inl hb) _ _ hv2⟩
 obtain⟨hm1,hm2⟩:=hcls _ _ _ _ gc.mem;have leave:(∃ xs,lM T s'.st fn.results.toList=some xs/\Hk P s'.st.obj xs (oM (g.outs r)) (den (g.res r)))->LeavesInM Fence.wide 0 P fn a1.tmps (QP P w β I (oM (g.outs r)) (den (g.res r))) a1.defers .returning w':=by
  intro hx;rw[gc.defers,hds];cases ds with
  |none=>exact fin w' ⟨rfl,gc.size,gc.env,hm1⟩ hx
  |some D=>
   have⟨h1,h2,h3⟩:=hm2 D rfl;refine⟨by simp,.inl ⟨D,_,rfl,run_takeDeferred h3,?_⟩⟩;obtain⟨hs,Zs⟩:=hm1.T6 h2 h1 (w':=w'.putObj D (.deferred none)) (λ q hq=>World.putObj_heap_other hq) (by simp[World.putObj]) rfl rfl rfl;exact fin _ ⟨rfl,gc.size,λt=>dc.mono (λ _ _ h=>h) hs (λ _ h=>h) (gc.env t),Zs⟩ hx
 cases e<;>first|exact leave (Zm hl' he)|cases he
end
theorem lO.data{P:Program}{F:Nat->Prop}{w:World}{I:Nat->Prop}{v:Value}{F0:Nat->Prop}{l:List Value}(h1:∀x∈l,oneCell x)(h:lO P F 1 (l.map λx=>[.sc x]) w I v)(hF:∀b,F b->F0 b):∃I2:Nat->Prop,(∀ b,I2 b->F0 b/\b<w.heap.size)/\TR w I2 (.sl (l.map λx=>[.sc x])) v:=by
 rcases h with ⟨h0,rfl⟩|⟨b,c,e,cap,o,s,rfl,hb,_,hc,hle,hs,hr,ho⟩;exact⟨λ _=>False,λ_ h=>h.elim,.inl ⟨h0,none,0,rfl,λ_=>rfl⟩⟩;refine⟨(· =b),λb' e=>by subst e;exact⟨hF _ hb,(Array.getElem?_eq_some_iff.1 hc).1⟩,.inr ⟨b,o,cap,1,rfl,hle,rfl,?_⟩⟩;cases l with
 |nil=>trivial
 |cons x l=>
  rw[ho (by simp at hle;omega)];have hh:∀(l:List Value)(s:Nat),bu P k5 w I (aI (l.map λx=>[.sc x])) c s 1->ct w (· =b) (l.map λx=>[.sc x]) b s 1:=by
   intro l
   induction l with
   |nil=>intro s _;trivial
   |cons x l ih=>
    intro s hr;obtain⟨_,⟨⟨u,g1,g2,g3⟩,_⟩,hr⟩:=hr;refine⟨rfl,⟨⟨u,by simp[World.cell?,hc,g1],by simpa[VR,TR]using g2⟩,trivial⟩,ih _ hr⟩
  exact hh _ _ hr
section
variable {P:Program} {w0:World} {O0:gA} {N:Nat} {β:Nat->Option cA} {I:Nat->Prop} {σ:St} {a:Act} {w:World}
theorem Rel.tm{a':Act}(hr:Rel P w0 O0 N β I σ a w)(hd:a'.defers=a.defers)(hs:a'.tmps.size=a.tmps.size)(h:∀t,(σ.env t=.undef/\σ.ok t=none)\/a'.tmps.getD t undef=a.tmps.getD t undef):Rel P w0 O0 N β I σ a' w:=
 ⟨hd.trans hr.defers,hs.trans hr.size,λt=>by rcases h t with ⟨h1,h2⟩|h;rw[h1,h2];simp[dc,VR];rw[h];exact hr.env t,hr.mem⟩
end
def bS(S I:Nat->Prop):gA:=⟨S,I,λ_=>none,λ_ _ h=>(by cases h),[]⟩
theorem Mem.moved{P:Program}{W1 W W':World}{O0:gA}{S' I I1:Nat->Prop}{β:Nat->Option cA}{obj:Nat->Option aM}(h:Mem P W1 O0 β I1 obj W)(hk:∀b,I b\/S' b->W'.heap[b]? =W.heap[b]?)(hI:∀b,I1 b->I b\/S' b)
 (hS:∀k o b,obj k=some o->fx β k b->S' b):Mem P W' (bS S' I) β I1 obj W':=by
 have hs:Same I1 W W':=λb hb=>hk b (hI b hb);have lt:∀b,b<W.heap.size->W'.heap[b]? =W.heap[b]?->b<W'.heap.size:=λb h1 h2=>by rw[Array.getElem?_eq_getElem h1]at h2;exact(Array.getElem?_eq_some_iff.1 h2).1
 refine⟨λ k o hk'=>?_,h.er,λk o B b h1 h2 h3=>?_,λb hb=>lt b (h.lt b hb) (hs b hb),λb hb=>(hI b hb).elim .inl λh=>.inr (.inl h),λ_ _ _=>rfl,ay _,rfl,rfl,rfl,λ_ _ h=>(by cases h),h.vars.mono hs λ_ h=>h⟩;have⟨B,hB,hO⟩:=h.cy k o hk';exact⟨B,hB,OR.mono (λ _ _ h=>h) hs (λ _ h=>h) (λ b hb=>hk b (.inr (hS k o b hk' ⟨B,hB,hb⟩))) hO⟩;have⟨g1,g2,_⟩:=h.ownB k o B b h1 h2 h3;have:=hS k o b h1 ⟨B,h2,h3⟩;exact⟨g1,lt b g2 (hk b (.inr this)),.inl this⟩
def AS{V:Type}(step:V->Option (V⊕Unit)):Nat->V->Option (List V)
 | 0,_=>none
 |m+1,l=>(step l).bind λr=>match r with
  |.inl l'=>(AS step m l').map (l:: ·)
  |.inr _=>some [l]
section
variable {X:SX} {Γ:FuncId->Option (ca X)} {T:ed} {code:TypeId->Option (CT X.ι)} {n:Nat} {P:Program}
def Hi:Code->Code
 |.seq x _=>x
 |c=>c
def NB:Code->Code
 |.seq _ y=>y
 |c=>c
def inner:Code->Code
 |.block _ b=>b
 |.loop b=>b
 |c=>c
def am8:Code->Nat
 |.block j _=>j
 |.region j _ _=>j
 |_=>0
def PA(c:Code):Code:=NB (inner (inner (NB c)))
def sR(c:Code):Code:=Hi (Hi (inner (inner (NB c))))
def Mk:Code->Nat->Oper
 | .region _ ag _, k => (ag[k]?).getD ⟨none, .move (.tmp 0), 0, "", #[], none⟩
 | _, _ => ⟨none, .move (.tmp 0), 0, "", #[], none⟩
def amH(o:Oper):Array TypeId:=match o.op with
 |.call c=>c.argTypes
 |_=>#[]
def am9(c:Code)(tl t8 t9 rx tb fc:Nat):Code:=
 .seq (Hi c) (.block (am8 (NB c)) (.loop (.seq (.seq (.region (am8 (sR c)) #[⟨some t8,.move (.tmp 0),(Mk (sR c) 0).type,(Mk (sR c) 0).pos,(Mk (sR c) 0).after,none⟩,⟨some t9,.move (.tmp tl),(Mk (sR c) 1).type,(Mk (sR c) 1).pos,(Mk (sR c) 1).after,none⟩,
  ⟨some rx,.call { callee:=.value (.func fc),args:=#[.tmp t9],argTypes:=amH (Mk (sR c) 2) },(Mk (sR c) 2).type,(Mk (sR c) 2).pos,(Mk (sR c) 2).after,none⟩,
  ⟨some tb,.call { callee:=.value (.tmp t8),args:=#[.tmp rx],argTypes:=amH (Mk (sR c) 3) },(Mk (sR c) 3).type,(Mk (sR c) 3).pos,(Mk (sR c) 3).after,none⟩] false) (.cond (.tmp tb) .skip (.exit (am8 (NB c))))) (PA c))))
noncomputable def Pu{E:Type}(cl:List Int->Option (List Int))(F0:List E->Option (List Int))(F2:List E->List Int->Option (List Int⊕Unit))(n:Nat)(x:List E):Option (List (List Int)):=
 open Classical in (F0 x).bind λl=>(AS (F2 x) n l).bind λys=>if ∀y∈ys,cl y=some y then some ys else none
def oT(e:CT X.ι)(yv:Value)(x:List (CT.T X.toSE e)):cH X:=⟨[(0,.raw yv),(1,.rp (.sl e) x 0)],[],1000,[]⟩
def G6(tl:Nat):Sh X.ι:=⟨[(tl,.o 1000)],[(1000,.l (.int .i64))],[0,1],[],1001,[]⟩
def ana(e:CT X.ι)(tl:Nat)(ds:List Nat)(yv:Value)(x:List (CT.T X.toSE e)):Exit->cH X->Option (List Int)
 |.normal,s=>o9 (G6 tl) ds (oT e yv x) s some
 |_,_=>none
def anb(e:CT X.ι)(tl:Nat)(ds:List Nat)(yv:Value)(x:List (CT.T X.toSE e)):Exit->cH X->Option (List Int⊕Unit)
 |.normal,s=>o9 (G6 tl) ds (oT e yv x) s (λ l'=>some (.inl l'))
 |.ret,_=>some (.inr ())
 |_,_=>none
theorem afA{e:CT X.ι}{yv:Value}{x:List (CT.T X.toSE e)}{tl:Nat}(l:List Int)(t:Nat):dC (encS (X:=X) (G6 tl) (oT e yv x) l).env t=if t=tl then .own 1000 0 l.length else if t=0 then .raw yv else if t=1 then .rp (.sl e) x 0 else .undef:=by have e1:(encS (X:=X) (G6 tl) (oT e yv x) l).env=[(tl,.own 1000 0 l.length),(0,.raw yv),(1,.rp (.sl e) x 0)]:=rfl;rw[e1];simp only[dC,lk];by_cases h1:tl=t;rw[aX h1,aX h1.symm];rfl;rw[aV h1,aV (show ¬t=tl from λe=>h1 e.symm)];by_cases h2:0=t;rw[aX h2,aX (show t=0 from h2.symm)];rfl;rw[aV h2,aV (show ¬t=0 from λe=>h2 e.symm)];by_cases h3:1=t;rw[aX h3,aX (show t=1 from h3.symm)];rfl;rw[aV h3,aV (show ¬t=1 from λe=>h3 e.symm)];rfl
theorem ahm{e:CT X.ι}{yv:Value}{x:List (CT.T X.toSE e)}(t:Nat):dC (oT (X:=X) e yv x).env t=if 0=t then .raw yv else if 1=t then .rp (.sl e) x 0 else .undef:=by simp only[oT,dC,lk];split;rfl;split<;>rfl
theorem ane{e:CT X.ι}{yv:Value}{x:List (CT.T X.toSE e)}{tl:Nat}(l:List Int)(k:Nat):(encS (X:=X) (G6 tl) (oT e yv x) l).st.obj k=if k=1000 then some ⟨1,aI (l.map λn=>[.sc (.int .i64 n)])⟩else none:=by have e1:(encS (X:=X) (G6 tl) (oT e yv x) l).obj=[(1000,some (.ec (.int .i64) l))]:=rfl;simp only[cH.st];rw[e1];simp only[fp,lk];by_cases h:1000=k;subst h;rfl;rw[aV h,aV (λ e=>h e.symm)];rfl
theorem afB{L:Option Nat}{ag:Array Oper}{Q:Exit->Act->World->Prop}{i:Nat}{ae:List Nat}{o:Oper}{a:Act}{w:World}{f:FuncId}{args:Array Value}{R:Ending->World->Prop}(h:ag[i]? =some o)(hg:o.guard=none)
 (hx:(execOp a.eval o).run P w=.ok (.enter f args) w) (hc:Calls P f args w R) (hk:∀e w',R e w'->∃v,e=.returned v/\wpOpsIn (Fw L) 0 P ag Q ae (a.put o.dst v) w'):wpOpsIn (Fw L) 0 P ag Q (i::ae) a w:=by rw[wpOpsIn_cons];simp[wpOpIn,h];rw[aX (by simp[Region.wanted,hg])];refine⟨λ f _=>Fw.fn L f,?_⟩;rw[xM hx (by simp)];refine⟨λ h=>(by rw[Fw.depth]at h;cases h),Fw.calls (hc.mono ?_)⟩;rintro e w' hr;obtain⟨v,rfl,h⟩:=hk e w' hr;exact h
theorem ac6{ag:Array Oper}{Q:Exit->Act->World->Prop}{i:Nat}{ae:List Nat}{o:Oper}{a:Act}{w:World}{l:Nat}{args:Array Value}{R:Ending->World->Prop}(h:ag[i]? =some o)(hg:o.guard=none)
 (hx:(execOp a.eval o).run P w=(Instr.yield l args).run P w) (hc:YieldAt Fence.wide (0-1) P l args w R) (hk:∀e w',R e w'->∃v,e=.returned v/\wpOpsIn Fence.wide 0 P ag Q ae (a.put o.dst v) w'):wpOpsIn Fence.wide 0 P ag Q (i::ae) a w:=by obtain⟨f,tmps,uu,ur,hy,hr⟩:=hc;rw[wpOpsIn_cons];simp[wpOpIn,h];rw[aX (by simp[Region.wanted,hg])];refine⟨λ f _=>trivial,?_⟩;rw[xM (hx.trans hy) (by simp)];refine⟨λ h=>(by cases h),hr.mono ?_⟩;rintro e w' hr;obtain⟨v,rfl,h⟩:=hk e w' hr;exact h
theorem anP(hT:fq P T)(hm:P.follows .mixedOrders=true)(hΓ:pL P Γ){i:yr X}{tl t8 t9 rx tb fc:Nat}{fn:Func}(hfn:P.funcs[i.gf]? =some fn){r0 b1:Code}{j rid:Nat}{cW HG:Array TypeId}{y1 y2 y3 y4:TypeId}{p1 p2 p3 p4:String}{e1 e2 e3 e4:Array Edge}
 (hb:fn.body=some (.seq r0 (.block j (.loop (.seq (.seq (.region rid #[⟨some t8,.move (.tmp 0),y1,p1,e1,none⟩,⟨some t9,.move (.tmp tl),y2,p2,e2,none⟩,⟨some rx,.call { callee:=.value (.func fc),args:=#[.tmp t9],argTypes:=cW },y3,p3,e3,none⟩,
  ⟨some tb,.call { callee:=.value (.tmp t8),args:=#[.tmp rx],argTypes:=HG },y4,p4,e4,none⟩] false) (.cond (.tmp tb) .skip (.exit j))) b1)))))
 (hres:fn.results=#[]) (hN:∀t∈[0,1,tl,t8,t9,rx,tb],t<fn.ntmps) (hnd:[0,1,tl,t8,t9,rx,tb].Nodup) {ok:List Int->Prop}
 (hcl:∀l:List Int,ok l->p5 P fc [.t (.sl (l.map λn=>[.sc (.int .i64 n)]))] [] [] (.one (.fresh 1 (l.map λn=>[.sc (.int .i64 n)]))))
 {F0:List (CT.T X.toSE i.e)->Option (List Int)} {F2:List (CT.T X.toSE i.e)->List Int->Option (List Int⊕Unit)} {h0 h1:Hn X.ι}
 (hr0:∀yv x l,F0 x=some l->run Γ T code fn.ntmps n r0 (List Int) h0 (oT i.e yv x) (ana i.e tl (tl::(eG r0++eG b1)) yv x)=some l)
 (hr2:∀yv x l r,F2 x l=some r->run Γ T code fn.ntmps n b1 (List Int⊕Unit) h1 (encS (G6 tl) (oT i.e yv x) l) (anb i.e tl (tl::(eG r0++eG b1)) yv x)=some r)
 (hF:∀x ys,i.F x=some ys->∃l m,F0 x=some l/\(∀ y∈ys,ok y)/\AS (F2 x) m l=some ys):E4 P i:=by
 intro x ys hys w I b o hlt hv hbI hrow nn lc J W0 ⟨hs0,hsz0⟩ hJ hJ0 s6;have⟨l0,m0,hF0,hok,hch⟩:=hF x ys hys;refine callsIn_wide.2 ((callsIn_wide (n:=0)).1 (callsIn_of_wp_marks hfn hb trivial ?_ rfl));obtain⟨yv,hyv⟩:∃yv:Value,Value.func (.yield lc) #[] #[]=yv:=⟨_,rfl⟩;rw[hyv];obtain⟨ds,hds⟩:∃ds,tl::(eG r0++eG b1)=ds:=⟨_,rfl⟩;rw[hds]at hr0 hr2;have hN0:=hN 0 (by simp);have hN1:=hN 1 (by simp);have hN8:=hN t8 (by simp);have hN9:=hN t9 (by simp);have aoy:=hN rx (by simp);have hNb:=hN tb (by simp);simp only[List.nodup_cons,aR,nE,or_false,not_or,not_false_eq_true,and_true,List.nodup_nil]at hnd;obtain⟨⟨n01,n0l,n08,n09,UV,n0b⟩,⟨n1l,n18,n19,n110,n1b⟩,⟨nl8,nl9,UP,nlb⟩,⟨n89,UT,n8b⟩,⟨n910,n9b⟩,n10b⟩:=hnd;have hlow:Low (oT i.e yv x):=by refine⟨by show 1000<=1000000;decide,ay _,λt k hk=>?_,λk o ho=>by cases ho⟩;rw[ahm]at hk;split at hk;cases hk;split at hk<;>cases hk
 have lr:Rel P W0 (bS (λ _=>False) I) fn.ntmps k5 I (oT i.e yv x).st { tmps:=(#[yv]++#[.pointer (some ⟨b,o,none⟩)])++Array.replicate (fn.ntmps-(#[yv]++#[Value.pointer (some ⟨b,o,none⟩)]).size) undef,defers:=[] } W0:=by
  refine⟨rfl,by simp;omega,λt=>?_,λk o hk=>(by cases hk),λk _ o _ _ _ _ hk=>(by cases hk),λk o _ _ hk=>(by cases hk),λb hb=>Nat.lt_of_lt_of_le (hlt b hb) hsz0,λb hb=>.inl hb,λ_ _ _=>rfl,ay _,rfl,rfl,rfl,λ_ _ h=>(by cases h),hv.mono hs0 λ_ h=>h⟩;simp only[cH.st,dc];rw[ahm];split;rename_i e;subst e;have e0:((#[yv]++#[Value.pointer (some ⟨b,o,none⟩)])++Array.replicate (fn.ntmps-(#[yv]++#[Value.pointer (some ⟨b,o,none⟩)]).size) undef).getD 0 undef=yv:=by simp[Array.getElem?_append]
  rw[e0];exact VR.cv;split;rename_i e;subst e;simp only[den,VR];refine⟨b,o,by simp[Array.getElem?_append],hbI,?_⟩;exact eb.mono hs0 (λ _ h=>h) _ _ _ hbI hrow;simp[den,VR]
 refine wpIn_seq (wpIn_mono (gL hT hm hΓ r0 _ h0 _ _ _ hlow (hr0 yv x l0 hF0) none W0 _ k5 I _ W0 lr hlow.old) ?_);rintro e a1 W2 ⟨β1,I1,σ1,g1,_,s1,g2,g3,rfl,g4⟩;cases e<;>simp only[ana,reduceCtorEq]at g4;obtain⟨l',j1,j2,j3,j4⟩:=iJ hlow g2 (g3.wide λt ht=>by rw[<- hds];simp[ht]) g4;injection j1 with ij;subst ij;obtain⟨β2,zj⟩:=j4 P W0 _ _ β1 I1 a1 W2 g1;refine wpIn_block ?_
 refine OC (L:=none) (λ m a Wh=>∃(S:Nat->Prop) (W1:World) (k:Nat) (β:Nat->Option cA) (I1:Nat->Prop) (l:List Int),J S k W1/\(∀ b,S b->w.heap.size<=b)/\Rel P W1 (bS S I) fn.ntmps β I1 (encS (G6 tl) (oT i.e yv x) l).st a Wh/\Low (encS (G6 tl) (oT i.e yv x) l)/\Ext (· ∈ds) (oT i.e yv x) (encS (G6 tl) (oT i.e yv x) l)/\AS (F2 x) m l=some (ys.drop k))
  (λ a w ⟨_,_,_,_,_,_,_,_,_,_,_,h⟩=>by cases h) ?_ m0 a1 W2 ⟨λ _=>False,W0,0,β2,I1,l',hJ0,λ_ h=>h.elim,zj,j2,j3,by simpa using hch⟩
 clear zj j4 j3 j2 g4 g3 g2 g1 lr hJ0 hch hF0;rintro m a Wh ⟨S,W1,k,β,I1,l,hJk,hSW,hrel,hlo,hext,hc⟩;simp only[AS]at hc;have⟨r,hr,hc⟩:=ah.1 hc;have hyk:ys[k]? =some l:=by
  have:(ys.drop k)[0]? =some l:=by
   cases r with
   |inl l'=>
    have⟨t,_,h⟩:=iW.1 hc;rw[<- h];rfl
   |inr=>injection hc with h;rw[<- h];rfl
  simpa[List.getElem?_drop]using this
 have⟨⟨Ix,If⟩,hSlt⟩:=hJ S k W1 hJk;have hM:=hrel.mem;have h0v:a.eval (.tmp 0)=yv:=by have h:=hrel.env 0;simp only[cH.st,dc]at h;rw[afA (e:=i.e) (tl:=tl) (yv:=yv) (x:=x) l,aV n0l,aX rfl]at h;subst hyv;simp only[den,cv,jn,if_true,VR,TR]at h;exact h.1
 have h3v:VR P β Wh I1 (.own 1000 0 l.length) (a.eval (.tmp tl)):=by have h:=hrel.env tl;simp only[cH.st,dc]at h;rw[afA (e:=i.e) (tl:=tl) (yv:=yv) (x:=x) l,aX rfl]at h;exact h
 refine wpIn_seq (wpIn_seq (wpIn_region ?_));show wpOpsIn (Fw none) 0 P _ _ [0,1,2,3] a Wh;refine Uy (o:=⟨some t8,.move (.tmp 0),y1,p1,e1,none⟩) (v:=yv) (w':=Wh) rfl rfl (by simp[execOp,h0v]) ?_;have hsz:=hrel.size;refine Uy (o:=⟨some t9,.move (.tmp tl),y2,p2,e2,none⟩) (v:=a.eval (.tmp tl)) (w':=Wh) rfl rfl (by simp[execOp];exact rG (Ne.symm nl8)) ?_;obtain⟨v3,hv3⟩:∃v3,a.eval (.tmp tl)=v3:=⟨_,rfl⟩;rw[hv3]at h3v ⊢;obtain⟨a2,ha2⟩:∃a2,(a.put (some t8) yv).put (some t9) v3=a2:=⟨_,rfl⟩;have ie:∀k,(encS (G6 tl) (oT i.e yv x) l).st.obj k=if k=1000 then some ⟨1,aI (l.map λn=>[.sc (.int .i64 n)])⟩else none:=ane l
 have mn:=fy.m9 hM [1000] (y:=.t (.sl (l.map λn=>[.sc (.int .i64 n)]))) (by simp) ⟨_,l.map (λ n=>[.sc (.int .i64 n)]),by rw[ie];rfl,rfl,by simp only[List.drop_zero];exact List.take_of_length_le (by simp[aI]),by simp⟩ h3v;have aoz:∀b,eW β (encS (G6 tl) (oT i.e yv x) l).st.obj [1000] I1 b->b<Wh.heap.size:=by rintro b (hb|⟨k,o,sz,n,hk,ho,hb⟩);exact hM.lt b hb;exact(hM.own k o b sz n ho hb).2.1
 have hMc:Mem P Wh (mV k5 (eW β (encS (G6 tl) (oT i.e yv x) l).st.obj [1000] I1)) k5 (eW β (encS (G6 tl) (oT i.e yv x) l).st.obj [1000] I1) (rh []) Wh:=
  ⟨λ k o hk=>(by simp[rh]at hk),λk _ o _ _ _ _ hk=>(by simp[rh]at hk),λk o _ _ hk=>(by simp[rh]at hk),aoz,λb hb=>.inl hb,λ_ _ _=>rfl,ay _,rfl,rfl,rfl,λk _ h=>(by simp[mV,k5]at h),hM.vars.mono (λ _ _=>rfl) λ_ h=>.inl h⟩
 have hcall:=hcl l (hok l (bZ hyk));obtain⟨fnc,hc1,hc2,hc3⟩:=hcall.1;refine afB (o:=⟨some rx,.call { callee:=.value (.func fc),args:=#[.tmp t9],argTypes:=cW },y3,p3,e3,none⟩) (f:=fc) (args:=#[v3]) rfl rfl ?_ (hcall.2 Wh k5 _ #[v3] (λ _ _=>rfl) hMc (by simpa[bo]using mn)) ?_;have hb:¬fnc.body=none:=by cases hh:fnc.body<;>simp[hh]at hc2 ⊢
 have e3' : ¬ fnc.name = "runtime.NumGoroutine" := by simpa using hc3
 have hv9:a2.eval (.tmp t9)=v3:=by rw[<- ha2];exact Tj (by simp[Act.put,hsz,hN9])
 rw[ha2];simp[execOp,resolve,Deferred.ofValue,invoke,callFunc,hc1,e3',hb,Act.eval];simpa[Act.eval]using hv9;rintro e W ⟨v10,I3,rfl,KB,hI3,hfr⟩;refine⟨v10,rfl,?_⟩;rw[ha2];have hLe:=KB.le;have hxc:fj (λ _=>False) Wh W:=⟨hLe,λb hb _=>KB.keep b hb λ⟨j,B,hj,_⟩=>by simp[k5]at hj,KB.os,KB.tape,KB.output⟩;obtain⟨hSc,zv⟩:=hM.ext (I2:=λ_=>False) hxc (λ _ h=>h.elim) (λ _ h=>h.elim);obtain⟨I2,hI2,hT2⟩:=lO.data (l:=l.map λn=>Value.int .i64 n) (F0:=λb=>Wh.heap.size<=b) (by simp[oneCell]) (by simpa[ra,yy,Function.comp_def]using hfr) (λ b hb=>by obtain⟨hb,_⟩:=hb;rcases hb with ⟨j,B,hj,_⟩|hb;cases hj;exact hb);rw[map_map]at hT2;have aoA:∀b,I2 b->W1.heap.size<=b/\b<W.heap.size:=λb hb=>⟨Nat.le_trans hM.le (hI2 b hb).1,(hI2 b hb).2⟩;obtain⟨S',hS'⟩:∃S':Nat->Prop,(λ b=>S b\/(W1.heap.size<=b/\b<W.heap.size/\¬I2 b))=S':=⟨_,rfl⟩;have sd:∀b,S' b↔S b\/(W1.heap.size<=b/\b<W.heap.size/\¬I2 b):=λb=>by rw[<- hS']
 have B8:=s6 (0-1) S S' k (.sl (l.map λn=>[.sc (.int .i64 n)])) W1 W I2 v10 (by rw[List.getElem?_map,hyk];rfl) hJk ⟨zv.le,λb hb hn=>zv.keep b hb hn,zv.os,zv.tape,zv.output⟩ (λ b hb=>(sd b).1 hb) aoA hT2;obtain⟨a3,C3⟩:∃a3,a2.put (some rx) v10=a3:=⟨_,rfl⟩;rw[C3];have hsz2:a2.tmps.size=fn.ntmps:=by rw[<- ha2];simp[Act.put,hsz]
 have hv8:a3.eval (.tmp t8)=yv:=by rw[<- C3,rG (Ne.symm UT),<- ha2,rG (Ne.symm n89)];exact Tj (by rw[hsz];exact hN8)
 have WF:a3.eval (.tmp rx)=v10:=by rw[<- C3];exact Tj (by rw[hsz2];exact aoy)
 refine ac6 (o:=⟨some tb,.call { callee:=.value (.tmp t8),args:=#[.tmp rx],argTypes:=HG },y4,p4,e4,none⟩) (l:=lc) (args:=#[v10]) rfl rfl ?_ B8 ?_;have H5:=hv8;have zd:=WF;simp only[Act.eval]at H5 zd;subst hyv;simp[execOp,resolve,Deferred.ofValue,invoke,H5,zd,Act.eval];rintro e W' ⟨rfl,hJ',hkeep⟩;refine⟨_,rfl,?_⟩;obtain⟨a4,Ks⟩:∃a4,a3.put (some tb) (.bool true)=a4:=⟨_,rfl⟩;rw[Ks];have In:a3.tmps.size=fn.ntmps:=by rw[<- C3];simp[Act.put,hsz2]
 have⟨⟨ID,aoG⟩,aoH⟩:=hJ S' (k+1) W' hJ';have hMm:Mem P W' (bS S' I) β (λ b=>I1 b\/False) (encS (G6 tl) (oT i.e yv x) l).st.obj W':=by
  refine zv.moved (λ b hb=>?_) (λ b hb=>?_) (λ k o b hk hl=>?_);rcases hb with hb|hb;have hbw:=hlt b hb;have e1:W.heap[b]? =W1.heap[b]? :=zv.keep b (by omega) λe=>by have:=hSW b e;omega
  rw[ID b hb,e1,Ix b hb];exact hkeep b (.inl hb);rcases hb with hb|hb;have hlb:=hM.lt b hb;rcases hM.up b hb with h|h|h;exact .inl h;exact .inr ((sd b).2 (.inl h));exact .inr ((sd b).2 (.inr ⟨h,by omega,λe=>by have:=(hI2 b e).1;omega⟩));exact hb.elim;have⟨g1,g2,g3⟩:=hM.ix k o b hk hl;rcases g3 with h|h;exact(sd b).2 (.inl h);exact(sd b).2 (.inr ⟨h,by omega,λe=>by have:=(hI2 b e).1;omega⟩)
 have IN:Rel P W' (bS S' I) fn.ntmps β (λ b=>I1 b\/False) (encS (G6 tl) (oT i.e yv x) l).st a4 W':=by
  have hsame:Same I1 Wh W':=λb hb=>by have e1:=hSc b hb;have hlb:=hM.lt b hb;rcases hM.up b hb with h|h|h;have hbw:=hlt b h;have e2:W.heap[b]? =W1.heap[b]? :=zv.keep b (by omega) λe=>(by have:=hSW b e;omega);rw[ID b h,<- Ix b h,<- e2,e1];rw[hkeep b (.inl ((sd b).2 (.inl h))),e1];rw[hkeep b (.inl ((sd b).2 (.inr ⟨h,by omega,λe=>by have:=(hI2 b e).1;omega⟩))),e1]
  refine Rel.tm (a:=a) ⟨hrel.defers,hrel.size,λt=>dc.mono (λ _ _ h=>h) hsame (λ _ h=>.inl h) (hrel.env t),hMm⟩ (by rw[<- Ks,<- C3,<- ha2];rfl) (by rw[<- Ks];simp[Act.put,In,hsz]) λt=>?_;by_cases h:t=t8\/t=t9\/t=rx\/t=tb;left;refine⟨?_,rfl⟩;simp only[cH.st];rw[afA (e:=i.e) (tl:=tl) (yv:=yv) (x:=x) l];have:t≠tl/\t≠0/\t≠1:=by rcases h with h|h|h|h<;>rw[h];exact⟨Ne.symm nl8,Ne.symm n08,Ne.symm n18⟩;exact⟨Ne.symm nl9,Ne.symm n09,Ne.symm n19⟩;exact⟨Ne.symm UP,Ne.symm UV,Ne.symm n110⟩;exact⟨Ne.symm nlb,Ne.symm n0b,Ne.symm n1b⟩
  rw[aV this.1,aV this.2.1,aV this.2.2];rfl;right;simp only[not_or]at h;have q:a4.eval (.tmp t)=a.eval (.tmp t):=by rw[<- Ks,rG (Ne.symm h.2.2.2),<- C3,rG (Ne.symm h.2.2.1),<- ha2,rG (Ne.symm h.2.1),rG (Ne.symm h.1)]
  exact q
 simp only[wpOpsIn,Exit.then];refine wpIn_cond (t:=true) (by rw[<- Ks];exact Tj (by rw[In];exact hNb)) ?_;simp only[if_true];refine wpIn_skip ?_;simp only[Exit.then];refine wpIn_mono (gL hT hm hΓ b1 _ h1 _ _ r hlo (hr2 yv x l r hr) none W' _ β _ a4 W' IN hlo.old) ?_;rintro e a5 W5 ⟨β5,I5,σ5,q1,_,s5,q2,q3,rfl,q4⟩;have hdk:=drop_cons hyk;cases e<;>simp only[anb,reduceCtorEq]at q4
 ·obtain⟨l2,j1,j2,j3,j4⟩:=iJ hlow q2 (hext.trans (q3.wide λt ht=>by rw[<- hds];simp[ht])) q4;injection j1 with ij;subst ij;simp only at hc;have⟨t,ht,hc⟩:=iW.1 hc;rw[hdk]at hc;injection hc with _ hc;obtain⟨β6,IM⟩:=j4 P W' _ _ β5 I5 a5 W5 q1;refine⟨S',W',k+1,β6,I5,l2,hJ',λb hb=>?_,IM,j2,j3,by rw[<- hc];exact ht⟩;rcases (sd b).1 hb with h|h;exact hSW b h;exact Nat.le_trans If h.1
 ·injection q4 with ij;subst ij;injection hc with hc;rw[hdk]at hc;injection hc with _ hc;have hlen:ys.length=k+1:=by have h1:=(dh.1 hyk).1;have h2:=congrArg List.length hc;simp at h2;omega
  have K0:=q1.mem;show LeavesInM Fence.wide 0 P fn a5.tmps _ a5.defers .returning W5;rw[q1.defers];refine⟨.tuple #[],by simp[Du,hres],⟨_,rfl⟩,S',W',by rw[length_map,hlen];exact hJ',K0.le,λb hb hn=>K0.keep b hb hn,K0.os,K0.tape,K0.output⟩
theorem anQ{sh:Sh X.ι}{hh:Hn X.ι}{f:FuncId}{e:CT X.ι}{F:List (CT.T X.toSE e)->Option (List (List Int))}(hT:fq P T)(hm:P.follows .mixedOrders=true)(hΓ:pL P Γ){fn:Func}(tl t8 t9 rx tb fc:Nat)(hfn:P.funcs[f]? =some fn)
 (hb:fn.body=some (am9 (fn.body.getD .skip) tl t8 t9 rx tb fc)) (hres:fn.results=#[]) (hN:(([0,1,tl,t8,t9,rx,tb].all λt=>decide (t<fn.ntmps))&&decide [0,1,tl,t8,t9,rx,tb].Nodup)=true) {cl:List Int->Option (List Int)}
 (hcl:∀l:List Int,cl l=some l->p5 P fc [.t (.sl (l.map λn=>[.sc (.int .i64 n)]))] [] [] (.one (.fresh 1 (l.map λn=>[.sc (.int .i64 n)]))))
 {F0:List (CT.T X.toSE e)->Option (List Int)} {F2:List (CT.T X.toSE e)->List Int->Option (List Int⊕Unit)} {h0 h1:Hn X.ι}
 (hr0:∀yv x,run Γ T code fn.ntmps n (Hi (fn.body.getD .skip)) (List Int) h0 (oT e yv x) (ana e tl (tl::(eG (Hi (fn.body.getD .skip))++eG (PA (fn.body.getD .skip)))) yv x)=F0 x)
 (hr2:∀yv x l,run Γ T code fn.ntmps n (PA (fn.body.getD .skip)) (List Int⊕Unit) h1 (encS (G6 tl) (oT e yv x) l) (anb e tl (tl::(eG (Hi (fn.body.getD .skip))++eG (PA (fn.body.getD .skip)))) yv x)=F2 x l)
 (hF:∀x,F x=Pu cl F0 F2 n x):E4 P ⟨sh,hh,f,e,F⟩:=by rw[bg]at hN;refine anP (i:=⟨sh,hh,f,e,F⟩) (ok:=λl=>cl l=some l) hT hm hΓ hfn hb hres (λ t ht=>of_decide_eq_true (all_eq_true.1 hN.1 t ht)) (of_decide_eq_true hN.2) hcl (F0:=F0) (F2:=F2) (λ yv x l h=>(hr0 yv x).trans h) (λ yv x l r h=>(hr2 yv x l).trans h) λx ys h=>?_;have h:F x=some ys:=h;rw[hF]at h;unfold Pu at h;have⟨l,h1,h⟩:=ah.1 h;have⟨zs,h2,h⟩:=ah.1 h;split at h;injection h with ij;subst ij;exact⟨l,n,h1,‹_›,h2⟩;cases h
theorem anR{f:FuncId}(hc:eT P f)(args:Array Value)(w:World):(callFunc f args).run P w=.ok (.enter f args) w:=by
 obtain⟨fn,h1,h2,h3⟩:=hc;have hb:¬fn.body=none:=by cases hh:fn.body<;>simp[hh]at h2 ⊢
 have e3' : ¬ fn.name = "runtime.NumGoroutine" := by simpa using h3
 simp[callFunc,h1,e3',hb]
theorem cqX(hT:fq P T)(hm:P.follows .mixedOrders=true)(hΓ:pL P Γ){i:yr X}(wy:E4 P i)(hc:eT P i.gf){f:FuncId}{fn:Func}(hfn:P.funcs[f]? =some fn){g:cN X}(h:Hn X.ι)
 (hq : (fn.body.isSome && !(fn.name == "runtime.NumGoroutine") && decide (g.ml.length <= fn.ntmps) && g.io.isEmpty && (wD g.ml).isEmpty) = true)
 (hr:∀v,E3 Γ T code fn.ntmps n i (fn.body.getD .skip) (VT (X:=X) (vQ g).vars) h (Mj g v) (RW T fn.results.toList g)=g.fn v):A5 P f ⟨[],[.d .bool],λ_=>none,some g⟩:=by
 simp only[bg]at hq;obtain⟨⟨⟨⟨q1,q2⟩,q3⟩,q4⟩,q5⟩:=hq;have hb:fn.body=some (fn.body.getD .skip):=by
  cases hc:fn.body with
  |none=>rw[hc]at q1;cases q1
  |some c=>rfl
 have hn : (fn.name == "runtime.NumGoroutine") = false := by simpa using q2
 exact Q3 ⟨fn,hfn,q1,hn⟩ (am7 hT hm hΓ wy (anR hc) hfn hb hn g (of_decide_eq_true q3) (List.isEmpty_iff.1 q4) q5 h λv _ e=>(hr v).trans e)
end
section
variable {P:Program} {f F:FuncId} {E:TypeId} {α:Type} {enc:α->Value} {d:α}
end
section
variable {X:SX}
end
section
variable {X:SX}
def Cj{α β:Type}(f:α->Option β):List α->Option (List β)
 |[]=>some []
 |x::xs=>(f x).bind λy=>(Cj f xs).bind λys=>some (y::ys)
def BY(dq:(i j:X.ι)->Decidable (i=j))(i:X.ι):CT X.ι->Option CS
 |.int k=>some (.int k)
 |.bool=>some .bool
 |.str=>some .str
 |.sl (.st j)=>match dq j i with
  |.isTrue _=>some .back
  |.isFalse _=>none
 |_=>none
def amI(dq:(i j:X.ι)->Decidable (i=j))(i:X.ι):Bool:=(X.cW i).any λc=>match c with
 |.sl (.st j)=>match dq j i with
  |.isTrue _=>true
  |.isFalse _=>false
 |_=>false
def anS(dq:(i j:X.ι)->Decidable (i=j)):CT X.ι->Option (List CS)
 |.st i=>bif amI dq i then Cj (BY dq i) (X.cW i)else none
 |_=>none
theorem anf(dq:(i j:X.ι)->Decidable (i=j)){i:X.ι}{row:List CS}(hm:Cj (BY dq i) (X.cW i)=some row){x:Tree}(h:Hv row x):∃l:List (CT.T X.toSE (.st i)),x=.sl (l.map (CT.row X.toSE (.st i))):=by
 refine Hv.rec (row:=row) (motive_1:=λx _=>∃l:List (CT.T X.toSE (.st i)),x=.sl (l.map (CT.row X.toSE (.st i)))) (motive_2:=λrows _=>∃l:List (CT.T X.toSE (.st i)),rows=l.map (CT.row X.toSE (.st i)))
  (motive_3:=λcs r _=>∀codes:List (CT X.ι),Cj (BY dq i) codes=some cs->∃h:HL X.toSE codes,r=HL.row X.toSE codes h) ?_ ?_ ?_ ?_ ?_ ?_ h
 rintro rows _ _ ⟨l,rfl⟩;exact⟨l,rfl⟩;exact⟨[],rfl⟩;rintro r rs _ _ h1 ⟨l,rfl⟩;obtain⟨q,rfl⟩:=h1 _ hm;exact⟨(X.make i q:X.T i)::l,by rw[bJ];congr 1;exact(X.gb i q).symm⟩;intro codes hc;cases codes with
 |nil=>exact⟨(),rfl⟩
 |cons c codes=>
  simp only[Cj,ah]at hc;obtain⟨_,_,_,_,h⟩:=hc;cases h
 intro cs x xs _ _ h1 h2 codes hc;obtain⟨l,rfl⟩:=h1;cases codes with
 |nil=>simp[Cj]at hc
 |cons c codes=>
  simp only[Cj,ah]at hc;obtain⟨c',g1,cs',g2,g3⟩:=hc;injection g3 with g3;injection g3 with g4 g5;subst g4 g5;obtain⟨q,rfl⟩:=h2 _ g2
  match c,g1 with
  |.sl (.st j),g1=>
   simp[BY]at g1;split at g1;rename_i hj _;subst hj;exact⟨(l,q),rfl⟩;cases g1
  |.int _,g1|.bool,g1|.str,g1|.any,g1|.st _,g1|.mp _ _,g1|.sl (.int _),g1|.sl .bool,g1|.sl .str,g1|.sl .any,g1|.sl (.sl _),g1|.sl (.mp _ _),g1=>simp[BY]at g1
 intro c' cs x xs hf _ h2 codes hc;cases codes with
 |nil=>simp[Cj]at hc
 |cons c codes=>
  simp only[Cj,ah]at hc;obtain⟨c2,g1,cs',g2,g3⟩:=hc;injection g3 with g3;injection g3 with g4 g5;subst g4 g5;obtain⟨q,rfl⟩:=h2 _ g2
  match c,g1 with
  |.int k,g1=>
   cases g1;obtain⟨n,rfl,_⟩:=hf;exact⟨(n,q),rfl⟩
  |.bool,g1=>
   cases g1;obtain⟨n,rfl⟩:=hf;exact⟨(n,q),rfl⟩
  |.str,g1=>
   cases g1;obtain⟨n,rfl,_⟩:=hf;exact⟨(n,q),rfl⟩
  |.sl (.st j),g1=>
   simp[BY]at g1;split at g1;cases g1;exact hf.elim;cases g1
  |.any,g1|.st _,g1|.mp _ _,g1|.sl (.int _),g1|.sl .bool,g1|.sl .str,g1|.sl .any,g1|.sl (.sl _),g1|.sl (.mp _ _),g1=>simp[BY]at g1
def s9:Nat->CT X.ι->Option (List CS)
 | 0,_=>none
 |_+1,.int k=>some [.int k]
 |_+1,.bool=>some [.bool]
 |_+1,.str=>some [.str]
 |_+1,.any=>some [.any]
 |_+1,.mp _ _=>none
 |n+1,.sl e=>match anS X.dec e with
  |some row=>some [.mu row]
  |none=>(s9 n e).bind λr=>some [.sl r]
 |n+1,.st i=>(Cj (s9 n) (X.cW i)).bind λl=>some l.flatten
def xd(n:Nat)(c:CT X.ι):Option VS:=
 match c with
 |.st i=>(s9 n (.st i:CT X.ι)).map .agg
 |c=>(s9 n c).bind λl=>match l with
  |[x]=>some (.one x)
  |_=>none
theorem Q5:∀(a b:List CS)(ys:List Tree),d6 (a++b) ys->∃ya yb,ys=ya++yb/\d6 a ya/\d6 b yb
 |[],b,ys,h=>⟨[],ys,rfl,trivial,h⟩
 |c::a,b,y::ys,h=>by obtain⟨ya,yb,rfl,h1,h2⟩:=Q5 a b ys h.2;exact⟨y::ya,yb,rfl,⟨h.1,h1⟩,h2⟩
 |_::_,_,[],h=>h.elim
theorem ac7{c:CT X.ι}{cs:List CS}(h:∀ys,d6 cs ys->∃x:CT.T X.toSE c,ys=CT.row X.toSE c x):∀rows:List (List Tree),(∀ r∈rows,d6 cs r)->∃l:List (CT.T X.toSE c),rows=l.map (CT.row X.toSE c)
 |[],_=>⟨[],rfl⟩
 |r::rows,hr=>by obtain⟨x,hx⟩:=h r (hr r (by simp));obtain⟨l,hl⟩:=ac7 h rows λq hq=>hr q (dZ _ hq);exact⟨x::l,by rw[bJ,<- hx,<- hl]⟩
theorem aj8{f:CT X.ι->Option (List CS)}(hf:∀c cs,f c=some cs->∀ys,d6 cs ys->∃x:CT.T X.toSE c,ys=CT.row X.toSE c x):∀(l:List (CT X.ι))(css:List (List CS)),Cj f l=some css->∀ys,d6 css.flatten ys->∃h:HL X.toSE l,ys=HL.row X.toSE l h
 |[],css,h,ys,hy=>by
  simp[Cj]at h;subst h;cases ys with
  |nil=>exact⟨(),rfl⟩
  |cons y ys=>exact hy.elim
 |c::l,css,h,ys,hy=>by simp[Cj]at h;have⟨a,h1,h⟩:=ah.1 h;have⟨b,h2,h⟩:=ah.1 h;cases h;obtain⟨ya,yb,rfl,g1,g2⟩:=Q5 _ _ _ hy;have⟨x,hx⟩:=hf c a h1 ya g1;have⟨q,hq⟩:=aj8 hf l b h2 yb g2;exact⟨(x,q),by rw[hx,hq];rfl⟩
theorem Tn:∀(n:Nat)(c:CT X.ι)(cs:List CS),s9 n c=some cs->∀ys,d6 cs ys->∃x:CT.T X.toSE c,ys=CT.row X.toSE c x
 | 0,_,_,h,_,_=>by cases h
 |n+1,.mp _ _,cs,h,ys,hy=>by simp[s9]at h
 |n+1,.int k,cs,h,ys,hy=>by
  simp[s9]at h;subst h
  match ys,hy with
  |[y],hy=>
   simp[d6]at hy;obtain⟨m,rfl,_⟩:=hy;exact⟨m,rfl⟩
  |[],hy=>exact hy.elim
  |_::_::_,hy=>exact hy.2.elim
 |n+1,.bool,cs,h,ys,hy=>by
  simp[s9]at h;subst h
  match ys,hy with
  |[y],hy=>
   simp only[d6,Fit,and_true]at hy;obtain⟨m,rfl⟩:=hy;exact⟨m,rfl⟩
  |[],hy=>exact hy.elim
  |_::_::_,hy=>exact hy.2.elim
 |n+1,.str,cs,h,ys,hy=>by
  simp[s9]at h;subst h
  match ys,hy with
  |[y],hy=>
   simp[d6]at hy;obtain⟨m,rfl,_⟩:=hy;exact⟨m,rfl⟩
  |[],hy=>exact hy.elim
  |_::_::_,hy=>exact hy.2.elim
 |n+1,.any,cs,h,ys,hy=>by
  simp[s9]at h;subst h
  match ys,hy with
  |[y],hy=>exact⟨y,rfl⟩
  |[],hy=>exact hy.elim
  |_::_::_,hy=>exact hy.2.elim
 |n+1,.sl e,cs,h,ys,hy=>by
  simp[s9]at h;split at h;rename_i row hm;cases h
  match ys,hy with
  |[y],hy=>
   simp[d6]at hy;cases e with
   |st i=>
    simp[anS]at hm;cases hb:amI X.dec i with
    |false=>rw[hb]at hm;cases hm
    |true=>
     rw[hb]at hm;have⟨l,hl⟩:=anf X.dec hm hy;exact⟨l,by rw[hl];rfl⟩
   |_=>cases hm
  |[],hy=>exact hy.elim
  |_::_::_,hy=>exact hy.2.elim
  have⟨r,h1,h⟩:=ah.1 h;cases h
  match ys,hy with
  |[y],hy=>
   simp[d6]at hy;obtain⟨rows,rfl,_,hr⟩:=hy;have⟨l,hl⟩:=ac7 (Tn n e r h1) rows hr;exact⟨l,by rw[hl];rfl⟩
  |[],hy=>exact hy.elim
  |_::_::_,hy=>exact hy.2.elim
 |n+1,.st i,cs,h,ys,hy=>by simp[s9]at h;have⟨css,h1,h⟩:=ah.1 h;cases h;have⟨q,hq⟩:=aj8 (Tn n) (X.cW i) css h1 ys hy;exact⟨X.make i q,by rw[hq];exact(X.gb i q).symm⟩
theorem alO{n:Nat}{c:CT X.ι}{s:VS}(h:xd n c=some s){x:TV}(hx:AH s x):∃y:CT.T X.toSE c,x=CT.tv X.toSE c y:=by
 have one:∀c:CT X.ι,c.one=true->((s9 n c).bind λl=>match l with
  |[x]=>some (VS.one x)
  |_=>none)=some s->∃y:CT.T X.toSE c,x=CT.tv X.toSE c y:=by intro c hc h;have⟨l,h1,h⟩:=ah.1 h;split at h;cases h;simp[AH]at hx;obtain⟨t,rfl,ht⟩:=hx;obtain⟨y,hy⟩:=Tn n c _ h1 [t] ⟨ht,trivial⟩;obtain⟨t',e1,e2⟩:=row_one hc y;rw[e1]at hy;cases hy;exact⟨y,e2.symm⟩;cases h
 cases c
 case st i=>
  simp[xd]at h;obtain⟨cs,h1,rfl⟩:=h;simp[AH]at hx;obtain⟨ys,rfl,hy⟩:=hx;obtain⟨y,hy⟩:=Tn n (.st i) _ h1 ys hy;exact⟨y,by rw[hy];rfl⟩
 all_goals exact one _ rfl h
theorem ac8(n:Nat):∀(cs:List (CT X.ι))(ss:List VS),Cj (xd n) cs=some ss->∀xs,QJ ss xs->∃h:HL X.toSE cs,xs=HL.m5 X.toSE cs h
 |[],ss,h,xs,hx=>by
  simp[Cj]at h;subst h;cases xs with
  |nil=>exact⟨(),rfl⟩
  |cons x xs=>exact hx.elim
 |c::cs,ss,h,xs,hx=>by
  simp[Cj]at h;have⟨a,h1,h⟩:=ah.1 h;have⟨b,h2,h⟩:=ah.1 h;cases h;cases xs with
  |nil=>exact hx.elim
  |cons x xs=>
   obtain⟨y,rfl⟩:=alO h1 hx.1;obtain⟨q,rfl⟩:=ac8 n cs b h2 xs hx.2;exact⟨(y,q),rfl⟩
theorem aj9{P:Program}{f:FuncId}{n N:Nat}{cs:List (CT X.ι)}{ss:List VS}{fn:Nat->jg X (cs.map AT.d)->Option Bool}(hc:∀k,A5 P f ⟨cs.map AT.d,[.d .bool],fn k,none⟩)(hs:Cj (xd n) cs=some ss)(hl:∀q:HL X.toSE cs,QJ ss (HL.m5 X.toSE cs q)->UB (HL.m5 X.toSE cs q)<=N->∃k,fn k (hlA cs q)=some true)(xs:List TV)(h:QJ ss xs)(hb:UB xs<=N):
 td P f (xs.map TV.av) (.one (.d (.s (.sc (.bool true))))):=by obtain⟨q,rfl⟩:=ac8 n cs ss hs xs h;have⟨k,hk⟩:=hl q h hb;have h1:=(hc k).2.1 (hlA cs q) true hk;have h2:=h1;rw[GJ (aaC cs)]at h2;have h3:p5 P f (yj (cs.map AT.d) (hlA cs q)) [] [] (.one (.d (.s (.sc (.bool true))))):=h2;have h4:=UA h3;rw[yj,OO]at h4;exact h4
end
end Go.Gb
