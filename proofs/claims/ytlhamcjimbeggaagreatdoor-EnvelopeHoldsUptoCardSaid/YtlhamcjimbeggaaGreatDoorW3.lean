import Derived.Test.YtlhamcjimbeggaaGreatDoorW2
open List (mem_map all_eq_true length_map append_nil map_map map_congr_left)
namespace Go.Gb
open Go.RowKit
structure Sh(ι:Type) where
 slots:List (Nat×Pt ι)
 c8:List (Nat×OP ι)
 keep:List Nat
 dt:List Nat
 nx:Nat
 CC:List (Nat×CT ι)
def Sh.vars{ι:Type}(s:Sh ι):U (CT ι):=i9 s.slots++dE s.c8
section
variable {X:SX}
def nz(z:Bool)(k:Nat):DV X:=bif z then .oz k 0 else .own k 0 0
def By(z:Bool)(s:d7 X)(t:Nat)(c:CT X.ι):d7 X:=
 match fx s.env t with
 |.nil=>if s.nx<1000000 then⟨(t,nz z s.nx)::s.env,(s.nx,some (.ey c []))::s.obj,s.nx+1,s.nx::s.log⟩else s
 |_=>s
def Hx(s:d7 X)(q j:Nat)(c:CT X.ι):d7 X:=
 match iz s.obj q with
 |some (.cells sz [row])=>match row[j]? with
  |some .nil=>if s.nx<1000000 then⟨s.env,(q,some (.cells sz [row.set j (.own s.nx 0 0)]))::(s.nx,some (.ey c []))::s.obj,s.nx+1,q::s.nx::s.log⟩else s
  |_=>s
 |_=>s
def Sb:U (Nat×CT X.ι)->d7 X->d7 X
 |[],s=>s
 |(t,c)::r,s=>Sb r (bif Nat.ble 1000000 t then bif Nat.ble 1099511627776 t then By true s (t-1099511627776) c else Hx s ((t-1000000)/4096) ((t-1000000)%4096) c else By false s t c)
def isU:DV X->Bool
 |.undef|.skip=>true
 |_=>false
def encS(sh:Sh X.ι)(s0:d7 X)(v:VT (X:=X) sh.vars):d7 X:=
 let L:=xL sh.vars v
 let n:=(i9 sh.slots).length
 let ol:=λk=>(lk (lens sh.c8 (L.drop n)) k).getD 0
 ⟨Ng ol sh.slots (L.take n)++sh.keep.map (λ t=>(t,fx s0.env t)),dL ol sh.c8 (L.drop n)++sh.dt.map (λ k=>(k,iz s0.obj k)),sh.nx,
  (List.range s0.nx).filter (λ k=>!sh.dt.contains k)++s0.log⟩
def okS(sh:Sh X.ι)(ds:U Nat)(s0 s':d7 X)(m:MA X):Bool:=
 decide (m.nm.map (·.1)++sh.dt).Nodup&&decide (m.nm.map (·.2)++sh.dt).Nodup&&decide (sh.c8.map (·.1)).Nodup&&m.nm.all (λ q=>(sh.c8.map (·.1)).contains q.2&&decide (q.2<sh.nx)&&(decide (q.1=q.2) || decide (1000<=q.2)))&&
  sh.slots.all (λ p=>ds.contains p.1)&&sh.keep.all (λ t=>!ds.contains t&&!isU (fx s'.env t)&&(b7 (fx s0.env t)).all λj=>sh.dt.contains j || m.nm.contains (j,j))&&
  sh.dt.all (λ k=>decide (k<s0.nx)&&!(s'.log.take (s'.log.length-s0.log.length)).contains k&&(iz s'.obj k).isSome&&match iz s0.obj k with|some o=>(ep o).all λj=>sh.dt.contains j || m.nm.contains (j,j)|none=>false)&&
  decide (s0.nx<=sh.nx)&&decide (sh.nx<=1000000)
def R1{A:Type}(sh:Sh X.ι)(ds:U Nat)(s0 s':d7 X)(k:VT (X:=X) sh.vars->J A):J A:=
 (Jy (iz s'.obj) (fx s'.env) sh.slots ⟨[],[],[]⟩).bind λm=>(Eo (iz s'.obj) sh.c8 m).bind λm=>bif okS sh ds s0 s' m then(GC sh.vars m.ff).bind λv=>Yb m.ka (k v)else none
def uX{A:Type}(sh:Sh X.ι)(ds:U Nat)(s0 s':d7 X)(k:VT (X:=X) sh.vars->J A):J A:=
 bif sh.CC.all (λ p=>bif Nat.ble 1000000 p.1 then !Nat.ble 1099511627776 p.1 || ds.contains (p.1-1099511627776)else ds.contains p.1)then R1 sh ds s0 (Sb sh.CC s') k else none
end
section
variable {X:SX}
theorem acO{d:DV X}{c:CT X.ι}{x:CT.T X.toSE c}(h:Nb d c=some x):b7 d=[]:=by
 cases d
 case c=>rfl
 case nil=>rfl
 all_goals cases c<;>cases h
theorem UY:∀{ds:U (DV X)}{l:U (CT X.ι)}{h:HL X.toSE l},FT ds l=some h->aS ds=[]
 |[],[],_,_=>rfl
 |d::ds,c::l,h,hr=>by simp[FT]at hr;have⟨x,h1,hr⟩:=ah.1 hr;have⟨g,h2,hr⟩:=ah.1 hr;simp[aS,acO h1,UY h2]
 |[],_::_,_,hr|_::_,[],_,hr=>by simp[FT]at hr
theorem apB{d:DV X}{c:CT X.ι}{x:CT.T X.toSE c}(h:dat d c=some x):kO (den d) (den (.c c x:DV X))/\b7 d=[]:=by
 cases c
 case st i=>
  replace h:GE d i=some x:=h
  cases d
  case agg cs=>
   simp[GE]at h;have⟨g,h1,h⟩:=ah.1 h;cases h;refine⟨λ P G w I v hv=>?_,by simp[b7,UY h1]⟩;have h2:=(Aa h1 (X.flat i)).1;simp[den]at hv;obtain⟨vs,rfl,hv⟩:=hv;show VR P G w I (.agg ((X.row i (X.make i g)).map AV.t)) _;have h3:(X.row i (X.make i g)).map AV.t=(bQ cs).map Gb.wk:=(by rw[h2];exact congrArg _ (X.ii i g));rw[h3];simp only[VR];exact⟨vs,rfl,bp.wk _ _ hv⟩
  case c a y=>
   rw[(qh h).1];exact⟨kO.refl _,rfl⟩
  all_goals cases h
 all_goals
  have h1:=xJ h;refine⟨λ P G w I v hv=>?_,acO h⟩;simp[den];rw[<- h1];exact hv.wk
def ik(m m':MA X):Prop:=(∀ q∈m.nm,q∈m'.nm)/\(∀ c∈m.ka,c∈m'.ka)
theorem ik.refl(m:MA X):ik m m:=⟨λ _ h=>h,λ_ h=>h⟩
theorem ik.trans{a b c:MA X}(h:ik a b)(h':ik b c):ik a c:=⟨λ q hq=>h'.1 q (h.1 q hq),λq hq=>h'.2 q (h.2 q hq)⟩
theorem fJ(m:MA X)(k' k:Nat):(addN m k' k).ff=m.ff/\(addN m k' k).ka=m.ka:=by grind [addN]
theorem pY(m:MA X)(k' k:Nat):(k',k)∈(addN m k' k).nm:=by grind [addN]
theorem ru(m:MA X)(k' k:Nat):ik m (addN m k' k):=by unfold addN;split;exact ik.refl m;exact⟨λ q hq=>by simp[hq],λ_ h=>h⟩
variable {get:Nat->Option (cg X)}
mutual
theorem akN:∀(p:Pt X.ι)(d:DV X)(m m':MA X),mP get p d m=some m'->ik m m'/\∃ao,m'.ff=m.ff++ao/\ao.length=p.vars.length
 |.v c,d,m,m',h=>by simp[mP]at h;rw[ah]at h;obtain⟨x,h1,h⟩:=h;cases h;exact⟨⟨λ _ h=>h,λ_ h=>h⟩,[⟨c,x⟩],rfl,rfl⟩
 |.o k,d,m,m',h=>by simp[mP]at h;split at h;rename_i k' len;have⟨o,h1,h⟩:=ah.1 h;split at h;cases h;refine⟨ik.trans (b:=⟨m.nm,m.ff,m.ka++_⟩) ⟨λ _ h=>h,λ_ h=>by simp[h]⟩ (ru _ _ _),[],by rw[(fJ _ _ _).1];simp,rfl⟩;cases h;cases h
 |.oz k,d,m,m',h=>by simp[mP]at h;split at h;have⟨o,h1,h⟩:=ah.1 h;split at h;cases h;refine⟨ik.trans (b:=⟨m.nm,m.ff,m.ka++_⟩) ⟨λ _ h=>h,λ_ h=>by simp[h]⟩ (ru _ _ _),[],by rw[(fJ _ _ _).1];simp,rfl⟩;cases h;have⟨o,h1,h⟩:=ah.1 h;split at h;cases h;refine⟨ik.trans (b:=⟨m.nm,m.ff,m.ka++_⟩) ⟨λ _ h=>h,λ_ h=>by simp[h]⟩ (ru _ _ _),[],by rw[(fJ _ _ _).1];simp,rfl⟩;cases h;cases h
 |.p k,d,m,m',h=>by simp[mP]at h;split at h;cases h;exact⟨ru _ _ _,[],by rw[(fJ _ _ _).1];simp,rfl⟩;cases h
 |.mp k,d,m,m',h=>by simp[mP]at h;split at h;cases h;exact⟨ru _ _ _,[],by rw[(fJ _ _ _).1];simp,rfl⟩;cases h
 |.nil,d,m,m',h=>by simp[mP]at h;split at h;cases h;exact⟨ik.refl _,[],by simp,rfl⟩;cases h
 |.f F fs cs,d,m,m',h=>by simp[mP]at h;split at h;split at h;rw[ah]at h;obtain⟨m1,h1,h⟩:=h;obtain⟨a1,n1,b1,c1⟩:=Ah fs _ m m1 h1;obtain⟨a2,n2,b2,c2⟩:=Ah cs _ m1 m' h;exact⟨a1.trans a2,n1++n2,by rw[b2,b1,aP],by simp[Pt.vars,c1,c2]⟩;cases h;cases h
 |.od k,d,m,m',h=>by simp[mP]at h;split at h;rename_i k' ab len;have⟨o,h1,h⟩:=ah.1 h;split at h;cases h;refine⟨ik.trans (b:=⟨m.nm,m.ff++[⟨.int .i64,(ab:Int)⟩],m.ka++_⟩) ⟨λ _ h=>h,λ_ h=>by simp[h]⟩ (ru _ _ _),[⟨.int .i64,(ab:Int)⟩],by rw[(fJ _ _ _).1],rfl⟩;cases h;cases h
 |.a ps,d,m,m',h=>by simp[mP]at h;split at h;exact Ah ps _ m m' h;cases h
theorem Ah:∀(ps:List (Pt X.ι))(ds:List (DV X))(m m':MA X),t7 get ps ds m=some m'->ik m m'/\∃ao,m'.ff=m.ff++ao/\ao.length=(c7 ps).length
 |[],[],m,m',h=>by simp[t7]at h;subst h;exact⟨ik.refl _,[],by simp,rfl⟩
 |p::ps,d::ds,m,m',h=>by simp[t7]at h;have⟨m1,h1,h⟩:=ah.1 h;have⟨a1,n1,b1,c1⟩:=akN p d m m1 h1;have⟨a2,n2,b2,c2⟩:=Ah ps ds m1 m' h;exact⟨a1.trans a2,n1++n2,by rw[b2,b1,aP],by simp[c7,c1,c2]⟩
 |[],_::_,m,m',h|_::_,[],m,m',h=>by simp[t7]at h
end
theorem Ai:∀(rs:U (List (Pt X.ι)))(qs:U (List (DV X)))(m m':MA X),MN get rs qs m=some m'->ik m m'/\∃ao,m'.ff=m.ff++ao/\ao.length=(xK rs).length
 |[],[],m,m',h=>by simp[MN]at h;subst h;exact⟨ik.refl _,[],by simp,rfl⟩
 |r::rs,q::qs,m,m',h=>by simp[MN]at h;have⟨m1,h1,h⟩:=ah.1 h;have⟨a1,n1,b1,c1⟩:=Ah r q m m1 h1;have⟨a2,n2,b2,c2⟩:=Ai rs qs m1 m' h;exact⟨a1.trans a2,n1++n2,by rw[b2,b1,aP],by simp[xK,c1,c2]⟩
 |[],_::_,m,m',h|_::_,[],m,m',h=>by simp[MN]at h
section
variable {NM:List (Nat×Nat)} {f:Nat->Nat} {eh:Nat->Nat}
def DN(NM:U (Nat×Nat))(j:Nat):Prop:=∃k,(j,k)∈NM
def SN(NM:U (Nat×Nat))(j:Nat):Prop:=∃k,(k,j)∈NM
theorem Pn{D:Ψ}{f:Nat->Nat}{P:Ξ}{G:Ω}{w:Y}{I:Ψ}:∀{a b:U AV}(_:mC D f a b)(u:U Value),bp P G w I (vY f a) u->bp P G w I b u
 |[],[],_,u,hu=>hu
 |[],_::_,hr,_,_|_::_,[],hr,_,_=>hr.elim
 |y::ys,z::zs,hr,[],hu=>by simp[vY,bp]at hu
 |y::ys,z::zs,hr,v::vs,hu=>by exact⟨hr.1.2 _ _ _ _ _ hu.1,Pn hr.2 vs hu.2⟩
mutual
theorem agi(hf:∀q∈NM,f q.1=q.2)(ho:∀q∈NM,∀c l,get q.1=some (.ey c l)->eh q.2=l.length):∀(p:Pt X.ι)(d:DV X)(m m':MA X),mP get p d m=some m'->(∀ q∈m'.nm,q∈NM)->(∀ c∈m'.ka,c=true)->
 ∃ao,m'.ff=m.ff++ao/\∃d',(∀ ag,eP eh p (ao++ag)=(d',ag))/\kO (ix f (den d)) (den d')/\(∀ j∈b7 d,DN NM j)/\(∀ j∈b7 d',SN NM j)
 |.v c,d,m,m',h,_,_=>by simp[mP]at h;rw[ah]at h;obtain⟨x,h1,h⟩:=h;cases h;have⟨h2,h3⟩:=apB h1;refine⟨[⟨c,x⟩],rfl,.c c x,λag=>rfl,?_,by simp[h3],by simp[b7]⟩;rw[<- BQ,YJ d (by simp[h3])];exact h2
 |.o k,d,m,m',h,hn,hc=>by
  simp[mP]at h;split at h;rename_i k' len;rw[ah]at h;obtain⟨o,h1,h⟩:=h;split at h;rename_i c l;cases h;have hq:(k',k)∈NM:=hn _ (pY _ _ _);have he:len=l.length:=by have:=hc (bk len l.length) (by rw[(fJ _ _ _).2];simp);simpa[bk]using this
  refine⟨[],by rw[(fJ _ _ _).1];simp,.own k 0 (eh k),λag=>rfl,?_,?_,?_⟩;simp[den,ix];rw[hf _ hq,ho _ hq c l h1,he];exact kO.refl _;intro j hj;simp[b7]at hj;subst hj;exact⟨k,hq⟩;intro j hj;simp[b7]at hj;subst hj;exact⟨k',hq⟩;cases h;cases h
 |.oz k,d,m,m',h,hn,hc=>by
  simp[mP]at h;split at h;rename_i k' len;rw[ah]at h;obtain⟨o,h1,h⟩:=h;split at h;rename_i c l;cases h;have hq:(k',k)∈NM:=hn _ (pY _ _ _);have he:len≠0/\len=l.length:=by have:=hc (!(len==0)&&bk len l.length) (by rw[(fJ _ _ _).2];simp);simpa[bk]using this
  refine⟨[],by rw[(fJ _ _ _).1];simp,.oz k (eh k),λag=>rfl,?_,λj hj=>?_,λj hj=>?_⟩;simp[den,ix];rw[hf _ hq,ho _ hq c l h1,<- he.2];intro P G w I v hv;simp only[VR]at hv |-;exact .inr ⟨he.1,hv.resolve_left λh=>he.1 h.2.2.2⟩;simp[b7]at hj;subst hj;exact⟨k,hq⟩;simp[b7]at hj;subst hj;exact⟨k',hq⟩;cases h;rename_i k' len;rw[ah]at h;obtain⟨o,h1,h⟩:=h;split at h;rename_i c l;cases h;have hq:(k',k)∈NM:=hn _ (pY _ _ _);have he:len=l.length:=by have:=hc (bk len l.length) (by rw[(fJ _ _ _).2];simp);simpa[bk]using this
  refine⟨[],by rw[(fJ _ _ _).1];simp,.oz k (eh k),λag=>rfl,?_,λj hj=>?_,λj hj=>?_⟩;simp[den,ix];rw[hf _ hq,ho _ hq c l h1,he];exact kO.refl _;simp[b7]at hj;subst hj;exact⟨k,hq⟩;simp[b7]at hj;subst hj;exact⟨k',hq⟩;cases h;cases h
 |.p k,d,m,m',h,hn,hc=>by simp[mP]at h;split at h;rename_i k';cases h;have hq:(k',k)∈NM:=hn _ (pY _ _ _);refine⟨[],by rw[(fJ _ _ _).1];simp,.ptr k 0 0,λag=>rfl,?_,?_,?_⟩;simp[den,ix];rw[hf _ hq];exact kO.refl _;intro j hj;simp[b7]at hj;subst hj;exact⟨k,hq⟩;intro j hj;simp[b7]at hj;subst hj;exact⟨k',hq⟩;cases h
 |.mp k,d,m,m',h,hn,hc=>by simp[mP]at h;split at h;rename_i k';cases h;have hq:(k',k)∈NM:=hn _ (pY _ _ _);refine⟨[],by rw[(fJ _ _ _).1];simp,.mp k,λag=>rfl,?_,?_,?_⟩;simp[den,ix];rw[hf _ hq];exact kO.refl _;intro j hj;simp[b7]at hj;subst hj;exact⟨k,hq⟩;intro j hj;simp[b7]at hj;subst hj;exact⟨k',hq⟩;cases h
 |.nil,d,m,m',h,_,_=>by simp[mP]at h;split at h;cases h;exact⟨[],by simp,.nil,λag=>rfl,kO.refl _,by simp[b7],by simp[b7]⟩;cases h
 |.f F fs cs,d,m,m',h,hn,hc=>by
  simp[mP]at h;split at h;rename_i F' first caps
  split at h;rename_i e;subst e;rw[ah]at h;obtain⟨m1,h1,h⟩:=h;have hm:=(Ah cs _ m1 m' h).1;obtain⟨n1,a1,f',b1,c1,e1,g1⟩:=Ew hf ho fs _ m m1 h1 (λ q hq=>hn q (hm.1 q hq)) (λ q hq=>hc q (hm.2 q hq));obtain⟨n2,a2,c',b2,c2,e2,g2⟩:=Ew hf ho cs _ m1 m' h hn hc;refine⟨n1++n2,by rw[a2,a1,aP],.fn F f' c',λag=>by simp[eP,b1,b2],?_,?_,?_⟩;intro P G w I v hv;simp[den,ix,VR]at hv |-;obtain⟨us,vs,rfl,hu,hv⟩:=hv;exact⟨us,vs,rfl,Pn c1 _ hu,Pn c2 _ hv⟩;intro j hj;simp[b7]at hj;exact hj.elim (e1 j) (e2 j);intro j hj;simp[b7]at hj;exact hj.elim (g1 j) (g2 j);cases h;cases h
 |.od k,d,m,m',h,hn,hc=>by
  simp[mP]at h;split at h;rename_i k' ab len;rw[ah]at h;obtain⟨o,h1,h⟩:=h;split at h;rename_i c l;cases h;have hq:(k',k)∈NM:=hn _ (pY _ _ _);have he:ab+len=l.length:=by have:=hc (bk (ab+len) l.length) (by rw[(fJ _ _ _).2];simp);simpa[bk]using this
  refine⟨[⟨.int .i64,(ab:Int)⟩],by rw[(fJ _ _ _).1],.own k ab (eh k-ab),λag=>?_,?_,?_,?_⟩;simp only[eP,List.cons_append,fO];have:HI (X:=X) ⟨.int .i64,(ab:Int)⟩=ab:=by simp[HI];rw[Ym];simp
  rw[this];simp[den,ix];rw[hf _ hq,ho _ hq c l h1,show l.length-ab=len by omega];exact kO.refl _;intro j hj;simp[b7]at hj;subst hj;exact⟨k,hq⟩;intro j hj;simp[b7]at hj;subst hj;exact⟨k',hq⟩;cases h;cases h
 |.a ps,d,m,m',h,hn,hc=>by simp[mP]at h;split at h;rename_i ds;have⟨ao,h1,ds',h2,h3,h4,h5⟩:=Ew hf ho ps ds m m' h hn hc;refine⟨ao,h1,.agg ds',λag=>by simp[eP,h2],?_,by simpa[b7]using h4,by simpa[b7]using h5⟩;intro P G w I v hv;simp[den,ix,VR]at hv |-;obtain⟨vs,rfl,hv⟩:=hv;refine⟨vs,rfl,?_⟩;exact Pn h3 _ hv;cases h
theorem Ew(hf:∀q∈NM,f q.1=q.2)(ho:∀q∈NM,∀c l,get q.1=some (.ey c l)->eh q.2=l.length):∀(ps:List (Pt X.ι))(ds:List (DV X))(m m':MA X),t7 get ps ds m=some m'->(∀ q∈m'.nm,q∈NM)->(∀ c∈m'.ka,c=true)->
 ∃ao,m'.ff=m.ff++ao/\∃ds',(∀ ag,lP eh ps (ao++ag)=(ds',ag))/\mC (DN NM) f (bQ ds) (bQ ds')/\(∀ j∈aS ds,DN NM j)/\(∀ j∈aS ds',SN NM j)
 |[],[],m,m',h,_,_=>by simp[t7]at h;subst h;exact⟨[],by simp,[],λag=>rfl,trivial,by simp[aS],by simp[aS]⟩
 |p::ps,d::ds,m,m',h,hn,hc=>by simp[t7]at h;have⟨m1,h1,h⟩:=ah.1 h;have hm:=(Ah ps ds m1 m' h).1;obtain⟨n1,a1,d',b1,c1,e1,g1⟩:=agi hf ho p d m m1 h1 (λ q hq=>hn q (hm.1 q hq)) (λ q hq=>hc q (hm.2 q hq));have⟨n2,a2,ds',b2,c2,e2,g2⟩:=Ew hf ho ps ds m1 m' h hn hc;refine⟨n1++n2,by rw[a2,a1,aP],d'::ds',λag=>?_,⟨⟨λ k hk=>e1 k (by rwa [jv]at hk),c1⟩,c2⟩,?_,?_⟩;simp[lP,b1,b2];intro j hj;simp[aS]at hj;exact hj.elim (e1 j) (e2 j);intro j hj;simp[aS]at hj;exact hj.elim (g1 j) (g2 j)
 |[],_::_,m,m',h,_,_=>by simp[t7]at h
 |_::_,[],m,m',h,_,_=>by simp[t7]at h
end
theorem UZ(hf:∀q∈NM,f q.1=q.2)(ho:∀q∈NM,∀c l,get q.1=some (.ey c l)->eh q.2=l.length):∀(rs:U (List (Pt X.ι)))(qs:U (List (DV X)))(m m':MA X),MN get rs qs m=some m'->(∀ q∈m'.nm,q∈NM)->(∀ c∈m'.ka,c=true)->
 ∃ao,m'.ff=m.ff++ao/\∃G1,(∀ ag,xM eh rs (ao++ag)=(G1,ag))/\ij (DN NM) f (qs.map bQ) (G1.map bQ)/\(∀ j∈(qs.map aS).flatten,DN NM j)/\(∀ j∈(G1.map aS).flatten,SN NM j)
 |[],[],m,m',h,_,_=>by simp[MN]at h;subst h;exact⟨[],by simp,[],λag=>rfl,trivial,by simp,by simp⟩
 |r::rs,q::qs,m,m',h,hn,hc=>by
  simp[MN]at h;have⟨m1,h1,h⟩:=ah.1 h;have hm:=(Ai rs qs m1 m' h).1;obtain⟨n1,a1,d',b1,c1,e1,g1⟩:=Ew hf ho r q m m1 h1 (λ q hq=>hn q (hm.1 q hq)) (λ q hq=>hc q (hm.2 q hq));have⟨n2,a2,ds',b2,c2,e2,g2⟩:=UZ hf ho rs qs m1 m' h hn hc;refine⟨n1++n2,by rw[a2,a1,aP],d'::ds',λag=>?_,⟨c1,c2⟩,?_,?_⟩;simp[xM]
  all_goals grind
 |[],_::_,m,m',h,_,_|_::_,[],m,m',h,_,_=>by simp[MN]at h
end
end
section
variable {X:SX} {get:Nat->Option (cg X)} {env:Nat->DV X}
theorem JC:∀(sl:U (Nat×Pt X.ι))(m m':MA X),Jy get env sl m=some m'->ik m m'/\∃ao,m'.ff=m.ff++ao/\ao.length=(i9 sl).length
 |[],m,m',h=>by simp[Jy]at h;subst h;exact⟨ik.refl _,[],by simp,rfl⟩
 |(t,p)::r,m,m',h=>by simp[Jy]at h;rw[ah]at h;obtain⟨m1,h1,h⟩:=h;obtain⟨a1,n1,b1,c1⟩:=akN p _ m m1 h1;have⟨a2,n2,b2,c2⟩:=JC r m1 m' h;exact⟨a1.trans a2,n1++n2,by rw[b2,b1,aP],by simp[i9,c1,c2]⟩
theorem nN:∀(os:U (Nat×OP X.ι))(m m':MA X),Eo get os m=some m'->ik m m'/\∃ao,m'.ff=m.ff++ao/\ao.length=(dE os).length
 |[],m,m',h=>by simp[Eo]at h;subst h;exact⟨ik.refl _,[],by simp,rfl⟩
 |(k,op)::r,m,m',h=>by simp[Eo]at h;rw[ah]at h;obtain⟨o,h1,h⟩:=h;split at h;rename_i c c' l;rw[ah]at h;obtain⟨l',h2,h⟩:=h;obtain⟨a2,n2,b2,c2⟩:=nN r _ m' h;refine⟨ik.trans (ik.trans (b:=⟨m.nm,m.ff++[⟨.sl c,l'⟩],m.ka⟩) ⟨λ _ h=>h,λ_ h=>h⟩ (ru _ _ _)) a2,[⟨.sl c,l'⟩]++n2,?_,by simp[dE,c2]⟩;rw[b2,(fJ _ _ _).1,aP];rename_i kc vc vf uv l;rw[ah]at h;obtain⟨l',h2,h⟩:=h;obtain⟨a2,n2,b2,c2⟩:=nN r _ m' h;refine⟨ik.trans (ik.trans (b:=⟨m.nm,m.ff++[⟨.mp kc vc,l'⟩],m.ka⟩) ⟨λ _ h=>h,λ_ h=>h⟩ (ru _ _ _)) a2,[⟨.mp kc vc,l'⟩]++n2,?_,by simp[dE,c2]⟩;rw[b2,(fJ _ _ _).1,aP];rename_i sz rows sz' rows';split at h;rw[ah]at h;obtain⟨m1,h2,h⟩:=h;obtain⟨a1,n1,b1,c1⟩:=Ai rows _ _ m1 h2;have⟨a2,n2,b2,c2⟩:=nN r m1 m' h;refine⟨((ru m _ _).trans a1).trans a2,n1++n2,?_,by simp[dE,c1,c2]⟩;rw[b2,b1,(fJ _ _ _).1,aP];cases h;cases h
variable {NM:List (Nat×Nat)} {f:Nat->Nat} {eh:Nat->Nat}
theorem FZ:∀(os:U (Nat×OP X.ι))(m m':MA X),Eo get os m=some m'->(∀ q∈m'.nm,q∈NM)->∃ao,m'.ff=m.ff++ao/\∀ag,∀k∈os.map (·.1),∃k' o,(k',k)∈NM/\get k'=some o/\∀c l,o=.ey c l->(k,List.length l)∈lens os (ao++ag)
 |[],m,m',h,_=>by simp[Eo]at h;subst h;exact⟨[],by simp,λag k hk=>by simp at hk⟩
 |(k,op)::r,m,m',h,hn=>by
  simp[Eo]at h;rw[ah]at h;obtain⟨o,h1,h⟩:=h;split at h;rename_i c c' l;rw[ah]at h;obtain⟨l',h2,h⟩:=h;have hm:=(nN r _ m' h).1;obtain⟨n2,b2,c2⟩:=FZ r _ m' h hn;refine⟨[⟨.sl c,l'⟩]++n2,by rw[b2,(fJ _ _ _).1,aP],λag j hj=>?_⟩;simp only[bK,aG]at hj;by_cases hjk:j=k;subst hjk;refine⟨_,_,hn _ (hm.1 _ (pY _ _ _)),h1,λc2 l2 he=>?_⟩;injection he with e1 e2;subst e1;subst e2;have:=congrArg List.length (jN h2).2;simp at this;rw[this];exact List.mem_cons_self;rcases hj with rfl|hj;exact(hjk rfl).elim;have⟨k',o',g1,g2,g3⟩:=c2 ag j hj;exact⟨k',o',g1,g2,λc l he=>bq _ (g3 c l he)⟩;rename_i kc vc vf uv l;rw[ah]at h;obtain⟨l',h2,h⟩:=h;have hm:=(nN r _ m' h).1;obtain⟨n2,b2,c2⟩:=FZ r _ m' h hn;refine⟨[⟨.mp kc vc,l'⟩]++n2,by rw[b2,(fJ _ _ _).1,aP],λag j hj=>?_⟩;simp only[bK,aG]at hj;by_cases hjk:j=k;subst hjk;exact⟨_,_,hn _ (hm.1 _ (pY _ _ _)),h1,λc2 l2 he=>by cases he⟩;rcases hj with rfl|hj;exact(hjk rfl).elim;exact c2 ag j hj;rename_i sz rows sz' rows';split at h;have⟨m1,h2,h⟩:=ah.1 h;obtain⟨a1,n1,b1,c1⟩:=Ai rows _ _ m1 h2;have hm:=(nN r _ m' h).1;obtain⟨n2,b2,c2⟩:=FZ r _ m' h hn;refine⟨n1++n2,by rw[b2,b1,(fJ _ _ _).1,aP],λag j hj=>?_⟩;simp only[bK,aG]at hj;have hd:(n1++n2++ag).drop (xK rows).length=n2++ag:=by rw[<- c1,aP,List.drop_left]
  simp only[lens,hd];by_cases hjk:j=k;subst hjk;exact⟨_,_,hn _ (hm.1 _ (a1.1 _ (pY _ _ _))),h1,λc2 l2 he=>by cases he⟩;rcases hj with rfl|hj;exact(hjk rfl).elim;exact c2 ag j hj;cases h;cases h
theorem Sc:∀(os:U (Nat×OP X.ι))(L:U (DC X)),((lens os L).map (·.1)).Sublist (os.map (·.1))
 |[],_=>by simp[lens]
 |(k,.l c)::r,L=>by simp[lens];split;exact(Sc r _).cons_cons _;exact List.nil_sublist _
 |(k,.m kc vc)::r,L|(k,.c sz rows)::r,L=>(Sc r _).cons _
theorem Po(hf:∀q∈NM,f q.1=q.2)(ho:∀q∈NM,∀c l,get q.1=some (.ey c l)->eh q.2=l.length):∀(sl:U (Nat×Pt X.ι))(m m':MA X),Jy get env sl m=some m'->(∀ q∈m'.nm,q∈NM)->(∀ c∈m'.ka,c=true)->
 ∃ao,m'.ff=m.ff++ao/\∃es,(∀ ag,Ng eh sl (ao++ag)=es)/\(∀ p∈es,p.1∈sl.map (·.1)/\kO (ix f (den (env p.1))) (den p.2)/\(∀ j∈b7 (env p.1),DN NM j)/\(∀ j∈b7 p.2,SN NM j))
 |[],m,m',h,_,_=>by simp[Jy]at h;subst h;exact⟨[],by simp,[],λag=>rfl,by simp⟩
 |(t,p)::r,m,m',h,hn,hc=>by
  simp[Jy]at h;have⟨m1,h1,h⟩:=ah.1 h;have hm:=(JC r m1 m' h).1;obtain⟨n1,a1,d',b1,c1,e1,g1⟩:=agi hf ho p _ m m1 h1 (λ q hq=>hn q (hm.1 q hq)) (λ q hq=>hc q (hm.2 q hq));have⟨n2,a2,es,b2,c2⟩:=Po hf ho r m1 m' h hn hc;refine⟨n1++n2,by rw[a2,a1,aP],(t,d')::es,λag=>by simp[Ng,b1,b2],λq hq=>?_⟩
  all_goals grind
theorem acP{D:Ψ}(f:Nat->Nat):∀rows:U (List Tree),ij D f (aK rows) (aK rows)
 |[]=>trivial
 |r::rs=>by
  refine⟨?_,acP f rs⟩
  induction r with
  |nil=>trivial
  |cons y ys ih=>exact⟨⟨by simp[refs],kO.refl _⟩,ih⟩
theorem acQ{a b c d:CT X.ι}{l:U (CT.T X.toSE a×CT.T X.toSE b)}{l':U (CT.T X.toSE c×CT.T X.toSE d)}(h:l6 (.mp a b) (.mp c d) l=some l'):bS (.map c d l':cg X)=bS (.map a b l):=by
 obtain⟨e,h⟩:=tZ h
 grind
theorem acR{D:Ψ}(f:Nat->Nat){kc vc:CT X.ι}:∀l:U (CT.T X.toSE kc×CT.T X.toSE vc),ij D f (bS (.map kc vc l:cg X)).rows (bS (.map kc vc l:cg X)).rows
 |[]=>trivial
 |p::ps=>⟨⟨⟨by simp[BN],by rw[Yv];exact kO.refl _⟩,⟨by simp[BN],by rw[Yv];exact kO.refl _⟩,trivial⟩,acR f ps⟩
theorem BU(hf:∀q∈NM,f q.1=q.2)(ho:∀q∈NM,∀c l,get q.1=some (.ey c l)->eh q.2=l.length):∀(os:U (Nat×OP X.ι))(m m':MA X),Eo get os m=some m'->(∀ q∈m'.nm,q∈NM)->(∀ c∈m'.ka,c=true)->
 ∃ao,m'.ff=m.ff++ao/\∃xs,(∀ ag,dL eh os (ao++ag)=xs)/\(∀ p∈xs,p.1∈os.map (·.1)/\∃k' o o',p.2=some o'/\(k',p.1)∈NM/\get k'=some o/\(bS o').sz=(bS o).sz/\ij (DN NM) f (bS o).rows (bS o').rows/\(∀ j∈ep o',SN NM j))
 |[],m,m',h,_,_=>by simp[Eo]at h;subst h;exact⟨[],by simp,[],λag=>rfl,by simp⟩
 |(k,op)::r,m,m',h,hn,hc=>by simp[Eo]at h;rw[ah]at h;obtain⟨o,h1,h⟩:=h;split at h;rename_i c c' l;rw[ah]at h;obtain⟨l',h2,h⟩:=h;have hm:=(nN r _ m' h).1;obtain⟨n2,a2,xs,b2,c2⟩:=BU hf ho r _ m' h hn hc;refine⟨[⟨.sl c,l'⟩]++n2,by rw[a2,(fJ _ _ _).1,aP],(k,some (.ey c l'))::xs,λag=>by simp[dL,b2],λq hq=>?_⟩;rcases aG.1 hq with rfl|hq;refine⟨by simp,_,_,_,rfl,hn _ (hm.1 _ (pY _ _ _)),h1,?_,?_,by simp[ep]⟩;simp[bS,(jN h2).1];simp[bS,(jN h2).2];exact acP f _;have⟨i1,i2⟩:=c2 q hq;exact⟨by simp only[bK,aG];exact .inr i1,i2⟩;rename_i kc vc vf uv l;rw[ah]at h;obtain⟨l',h2,h⟩:=h;have hm:=(nN r _ m' h).1;obtain⟨n2,a2,xs,b2,c2⟩:=BU hf ho r _ m' h hn hc;refine⟨[⟨.mp kc vc,l'⟩]++n2,by rw[a2,(fJ _ _ _).1,aP],(k,some (.map kc vc l'))::xs,λag=>by simp[dL,b2],λq hq=>?_⟩;rcases aG.1 hq with rfl|hq;refine⟨by simp,_,_,_,rfl,hn _ (hm.1 _ (pY _ _ _)),h1,?_,?_,by simp[ep]⟩;rw[acQ h2];rw[acQ h2];exact acR f _;have⟨i1,i2⟩:=c2 q hq;exact⟨by simp only[bK,aG];exact .inr i1,i2⟩;rename_i sz rows sz' rows';split at h;rename_i hsz;have⟨m1,h2,h⟩:=ah.1 h;have hm1:=(Ai rows _ _ m1 h2).1;have hm:=(nN r _ m' h).1;obtain⟨n1,a1,qs,b1,c1,e1,g1⟩:=UZ hf ho rows _ _ m1 h2 (λ q hq=>hn q (hm.1 q hq)) (λ q hq=>hc q (hm.2 q hq));obtain⟨n2,a2,xs,b2,c2⟩:=BU hf ho r _ m' h hn hc;refine⟨n1++n2,by rw[a2,a1,(fJ _ _ _).1,aP],(k,some (.cells sz qs))::xs,λag=>by simp[dL,b1,b2],λq hq=>?_⟩;rcases aG.1 hq with rfl|hq;exact⟨by simp,_,_,_,rfl,hn _ (hm.1 _ (hm1.1 _ (pY _ _ _))),h1,hsz,c1,g1⟩;have⟨i1,i2⟩:=c2 q hq;exact⟨by simp only[bK,aG];exact .inr i1,i2⟩;cases h;cases h
theorem alP{d:DV X}(h:isU d=false)(h':d=.undef):False:=by subst h';cases h
theorem aeh{A:Type}{sh:Sh X.ι}{ds:U Nat}{s0 s':d7 X}{k:VT (X:=X) sh.vars->J A}{r:A}(hl0:Low s0)(hx:Ext (· ∈ds) s0 s')(h:R1 sh ds s0 s' k=some r):
 ∃v,k v=some r/\Low (encS sh s0 v)/\Ext (· ∈ds) s0 (encS sh s0 v)/\∀(P:Program) (w0:World) (O0:k5) (N:Nat) (G:Nat->J cW) (I:Nat->Prop) (a:Act) (w:World),Rel P w0 O0 N G I s'.st a w->∃ β',Rel P w0 O0 N β' I (encS sh s0 v).st a w:=by
 unfold R1 at h;have⟨m1,h1,h⟩:=ah.1 h;have⟨m,h2,h⟩:=ah.1 h;have⟨h3,h⟩:=eX h;have⟨v,h4,h⟩:=ah.1 h;have⟨h5,h6⟩:=rq h;simp only[okS,aY,bF]at h3;obtain⟨⟨⟨⟨⟨⟨⟨⟨n1,n2⟩,n3⟩,n4⟩,n5⟩,n6⟩,n7⟩,n8⟩,n9⟩:=h3;have hm2:=(nN _ _ _ h2).1;have xa:=Yl h4;obtain⟨_,nA,dA,lA⟩:=JC _ _ _ h1;simp at dA;have T5:=(List.nodup_append.1 n1).1;have T4:=(List.nodup_append.1 n2).1;have hsw:((m.nm.map λq=>(q.2,q.1)).map (·.1)).Nodup:=by rw[map_map];exact T4
 generalize hf':(λ j=>match lk m.nm j with|some q=>q|none=>j:Nat->Nat)=f;generalize hg':(λ j=>match lk (m.nm.map λq=>(q.2,q.1)) j with|some q=>q|none=>j:Nat->Nat)=g;have hf:∀q∈m.nm,f q.1=q.2:=by rintro⟨p,q⟩ hq;rw[<- hf'];simp[wI T5 hq]
 have hg:∀q∈m.nm,g q.2=q.1:=by rintro⟨p,q⟩ hq;rw[<- hg'];have:(q,p)∈m.nm.map λq=>(q.2,q.1):=mem_map.2 ⟨(p,q),hq,rfl⟩;simp[wI hsw this]
 have nq:∀j∈sh.dt,f j=j:=by
  intro j hj;rw[<- hf'];cases hh:lk m.nm j with
  |none=>simp[hh]
  |some q=>exact((List.nodup_append.1 n1).2.2 j (mem_map.2 ⟨(j,q),o7 hh,rfl⟩) j hj rfl).elim
 have Jx:∀j∈sh.dt,g j=j:=by
  intro j hj;rw[<- hg'];cases hh:lk (m.nm.map λq=>(q.2,q.1)) j with
  |none=>simp[hh]
  |some q=>
   have h1:=o7 hh;simp only[mem_map]at h1;obtain⟨z,hz,e⟩:=h1;injection e with e1 e2;exact((List.nodup_append.1 n2).2.2 j (mem_map.2 ⟨z,hz,e1⟩) j hj rfl).elim
 have hg0:∀j,j<1000->g j=j:=by
  intro j hj;rw[<- hg'];cases hh:lk (m.nm.map λq=>(q.2,q.1)) j with
  |none=>simp[hh]
  |some q=>
   have h1:=o7 hh;simp only[mem_map]at h1;obtain⟨z,hz,e⟩:=h1;injection e with e1 e2;have:=all_eq_true.1 n4 z hz;simp at this;simp[hh];omega
 have hgf:∀j,(DN m.nm j\/j∈sh.dt)->g (f j)=j:=by rintro j (⟨q,hq⟩|hj);rw[hf _ hq];exact hg _ hq;rw[nq j hj];exact Jx j hj
 obtain⟨nB,dB,lB⟩:=FZ (NM:=m.nm) _ _ _ h2 (λ q hq=>hq);have hL:m.ff=nA++nB:=by rw[dB,dA]
 have hdrop:(xL sh.vars v).drop (i9 sh.slots).length=nB:=by rw[xa,hL,<- lA,List.drop_left]
 have htake:(xL sh.vars v).take (i9 sh.slots).length=nA:=by rw[xa,hL,<- lA,List.take_left]
 generalize hol:(λ k=>(lk (lens sh.c8 nB) k).getD 0:Nat->Nat)=eh;have ho:∀q∈m.nm,∀c l,iz s'.obj q.1=some (.ey c l)->eh q.2=l.length:=by
  rintro⟨p,q⟩ hq c l hl;have hqk:=all_eq_true.1 n4 _ hq;simp at hqk;obtain⟨p',o,g1,g2,g3⟩:=lB [] q (by simpa using hqk.1.1);have:p'=p:=by have e1:=hg _ g1;have e2:=hg _ hq;simp at e1 e2;rw[<- e1,e2]
  subst this;simp at hl;rw[hl]at g2;injection g2 with g2;have h3:=g3 c l g2.symm;rw[append_nil]at h3;rw[<- hol];have hk:=(Sc sh.c8 nB).nodup n3;simp[wI hk h3]
 obtain⟨Tb,LS,es,eA,pA⟩:=Po (NM:=m.nm) (f:=f) (eh:=eh) hf ho _ _ _ h1 (λ q hq=>hm2.1 q hq) (λ c hc=>h5 c (hm2.2 c hc));obtain⟨nB',XX,xs,eB,pB⟩:=BU (NM:=m.nm) (f:=f) (eh:=eh) hf ho _ _ _ h2 (λ q hq=>hq) h5;have Xs:Tb=nA:=by simp at LS;rw[<- LS,dA]
 have W8:=List.append_cancel_left (XX.symm.trans dB);subst Xs W8;have LO:=eA [];have LN:=eB [];rw[append_nil]at LO LN;have hS:encS sh s0 v=⟨es++sh.keep.map (λ t=>(t,fx s0.env t)),xs++sh.dt.map (λ k=>(k,iz s0.obj k)),sh.nx,(List.range s0.nx).filter (λ k=>!sh.dt.contains k)++s0.log⟩:=by simp[encS,hdrop,htake,hol,LO,LN]
 have hsn:∀j,SN m.nm j->j<sh.nx:=by rintro j ⟨p,hp⟩;have:=all_eq_true.1 n4 _ hp;simp at this;exact this.1.2
 have kp:∀j,(sh.dt.contains j || m.nm.contains (j,j))=true->j∈sh.dt\/(j,j)∈m.nm:=by intro j hj;simpa using hj
 have hfp:∀j,j∈sh.dt\/(j,j)∈m.nm->f j=j:=λj hj=>hj.elim (nq j) (λ h=>hf (j,j) h);have hdp:∀j,j∈sh.dt\/(j,j)∈m.nm->DN m.nm j\/j∈sh.dt:=λj hj=>hj.elim .inr (λ h=>.inl ⟨j,h⟩);have hko:∀j∈sh.dt,j<s0.nx/\(∃ o,iz s0.obj j=some o/\iz s'.obj j=some o/\∀i∈ep o,i∈sh.dt\/(i,i)∈m.nm):=by
  intro j hj;have:=all_eq_true.1 n7 _ hj;simp only[aY,bF,Bool.not_eq_true']at this;obtain⟨⟨⟨a1,a2⟩,a3⟩,a4⟩:=this;refine⟨a1,?_⟩;cases ho0:iz s0.obj j with
  |none=>rw[ho0]at a4;cases a4
  |some o=>
   rw[ho0]at a4;refine⟨o,rfl,?_,λi hi=>kp i (all_eq_true.1 a4 i hi)⟩;obtain⟨d,hd,hd2⟩:=hx.obj;have hnd:j∉d:=(by have e:s'.log.take (s'.log.length-s0.log.length)=d:=(by rw[hd,bW,Nat.add_sub_cancel,List.take_left]);rw[e]at a2;simpa using a2);rcases hd2 j a1 hnd with h|h;rw[h,ho0];rw[h]at a3;cases a3
 have hke:∀t∈sh.keep,t∉ds/\fx s'.env t=fx s0.env t/\∀j∈b7 (fx s0.env t),j∈sh.dt\/(j,j)∈m.nm:=by
  intro t ht;have:=all_eq_true.1 n6 _ ht;simp only[aY,Bool.not_eq_true']at this;obtain⟨⟨a1,a2⟩,a3⟩:=this;have a1':t∉ds:=by simpa using a1
  refine⟨a1',?_,λj hj=>kp j (all_eq_true.1 a3 j hj)⟩;rcases hx.env t a1' with h|h;exact h;exact(alP a2 h).elim
 have hks:∀q∈es,q.1∈ds:=by intro q hq;have h1:=(pA q hq).1;obtain⟨z,hz,e⟩:=mem_map.1 h1;have:=all_eq_true.1 n5 _ hz;rw[<- e];simpa using this
 have hkeep:∀t,lk (sh.keep.map λt=>(t,fx s0.env t)) t=if t∈sh.keep then some (fx s0.env t)else none:=by
  intro t
  induction sh.keep with
  |nil=>simp[lk]
  |cons q qs ih=>
   simp[lk,ih];by_cases e:q=t;subst e;simp;rw[aC e];simp[Ne.symm e]
 have Dd:∀t,lk (sh.dt.map λt=>(t,iz s0.obj t)) t=if t∈sh.dt then some (iz s0.obj t)else none:=by
  intro t
  induction sh.dt with
  |nil=>simp[lk]
  |cons q qs ih=>
   simp[lk,ih];by_cases e:q=t;subst e;simp;rw[aC e];simp[Ne.symm e]
 have sR:∀t,(∃ d,(t,d)∈es/\fx (encS sh s0 v).env t=d)\/(t∈sh.keep/\fx (encS sh s0 v).env t=fx s0.env t)\/fx (encS sh s0 v).env t=.undef:=by
  intro t;have e1:fx (encS sh s0 v).env t=(match lk es t with|some d=>some d|none=>if t∈sh.keep then some (fx s0.env t)else none).getD .undef:=by rw[hS];show(lk (es++sh.keep.map (λ t=>(t,fx s0.env t))) t).getD .undef=_;rw[Et,hkeep t];cases lk es t<;>rfl
  rw[e1];cases he:lk es t with
  |some d=>exact .inl ⟨d,o7 he,rfl⟩
  |none=>
   by_cases ht:t∈sh.keep;simp only[aM ht];exact .inr (.inl ⟨ht,rfl⟩);simp only[aC ht];exact .inr (.inr rfl)
 have j8:∀j o,iz (encS sh s0 v).obj j=some o->(∃ k' o1,(k',j)∈m.nm/\iz s'.obj k'=some o1/\(bS o).sz=(bS o1).sz/\ij (DN m.nm) f (bS o1).rows (bS o).rows/\(∀ i∈ep o,SN m.nm i))\/(j∈sh.dt/\iz s0.obj j=some o):=by
  intro j o hjo;have e1:iz (encS sh s0 v).obj j=(match lk xs j with|some d=>some d|none=>if j∈sh.dt then some (iz s0.obj j)else none).join:=by rw[hS];show(lk (xs++sh.dt.map (λ k=>(k,iz s0.obj k))) j).join=_;rw[Et,Dd j];cases lk xs j<;>rfl
  rw[e1]at hjo;cases he:lk xs j with
  |some x=>
   rw[he]at hjo;obtain⟨_,k',o1,o',b1,b2,b3,b4,b5,b6⟩:=pB _ (o7 he);simp at b1 b2 hjo;subst b1;simp at hjo;subst hjo;exact .inl ⟨k',o1,b2,b3,b4,b5,b6⟩
  |none=>
   rw[he]at hjo;by_cases hj:j∈sh.dt;simp[aM hj,Option.join_some]at hjo;exact .inr ⟨hj,hjo⟩;simp[aC hj]at hjo
 have hnx:=n8;have hkx:∀j,j∈sh.dt\/(j,j)∈m.nm->j<sh.nx:=λj hj=>hj.elim (λ hj=>Nat.lt_of_lt_of_le (hko j hj).1 hnx) (λ h=>hsn j ⟨j,h⟩);have hRW:∀{r q:U AV},mC (DN m.nm) f r q->mC (λ j=>DN m.nm j\/j∈sh.dt) f r q:=by
  intro r
  induction r with
  |nil=>intro q h;cases q with
   |nil=>trivial
   |cons=>exact h.elim
  |cons x xs ih=>intro q h;cases q with
   |nil=>exact h.elim
   |cons y ys=>exact⟨⟨λ k hk=>.inl (h.1.1 k hk),h.1.2⟩,ih h.2⟩
 have V0:∀{r q:U (List AV)},ij (DN m.nm) f r q->ij (λ j=>DN m.nm j\/j∈sh.dt) f r q:=by
  intro r
  induction r with
  |nil=>intro q h;cases q with
   |nil=>trivial
   |cons=>exact h.elim
  |cons x xs ih=>intro q h;cases q with
   |nil=>exact h.elim
   |cons y ys=>exact⟨hRW h.1,ih h.2⟩
 refine⟨v,h6,?_,?_,?_⟩;constructor;rw[hS];exact n9;rw[hS];exact Nat.le_trans hl0.ge n8;intro t j hj;have C2:(encS sh s0 v).nx=sh.nx:=by rw[hS]
 rw[C2];rcases sR t with ⟨d,h1,h2⟩|⟨h1,h2⟩|h2;rw[h2]at hj;exact hsn j ((pA _ h1).2.2.2 j hj);rw[h2]at hj;exact hkx j ((hke t h1).2.2 j hj);rw[h2]at hj;simp[b7]at hj;intro j o hjo;have C2:(encS sh s0 v).nx=sh.nx:=by rw[hS]
 rw[C2];rcases j8 j o hjo with ⟨k',o1,b1,b2,b3,b4,b5⟩|⟨b1,b2⟩;exact⟨hsn j ⟨k',b1⟩,λi hi=>hsn i (b5 i hi)⟩;have⟨c1,o',c2,c3,c4⟩:=hko j b1;rw[b2]at c2;cases c2;exact⟨hkx j (.inl b1),λi hi=>hkx i (c4 i hi)⟩;refine⟨λ t ht=>?_,⟨(List.range s0.nx).filter (λ k=>!sh.dt.contains k),by rw[hS],λj hj hn=>?_⟩,hS ▸ hnx⟩;rcases sR t with ⟨d,h1,h2⟩|⟨h1,h2⟩|h2;exact(ht (hks _ h1)).elim;exact .inl h2;exact .inr h2;have hjk:j∈sh.dt:=by simpa[hj]using hn
 cases hjo:iz (encS sh s0 v).obj j with
 |none=>exact .inr rfl
 |some o=>
  rcases j8 j o hjo with ⟨k',o1,b1,_⟩|⟨b1,b2⟩;exact((List.nodup_append.1 n2).2.2 j (mem_map.2 ⟨(k',j),b1,rfl⟩) j hjk rfl).elim;exact .inl b2.symm
 intro P w0 O0 N G I a w hr;refine⟨_,Rel.re (f:=f) (g:=g) (D:=λj=>DN m.nm j\/j∈sh.dt) hgf hg0 hr (λ _=>.inl rfl) (λ _=>rfl) (λ t=>?_) (λ j o' hj=>?_)⟩;show den (fx (encS sh s0 v).env t)=.undef\/((∀ k∈refs (den (fx s'.env t)),_)/\kO (ix f (den (fx s'.env t))) (den (fx (encS sh s0 v).env t)));rcases sR t with ⟨d,h1,h2⟩|⟨h1,h2⟩|h2;right;rw[h2];obtain⟨_,b1,b2,_⟩:=pA _ h1;exact⟨λ k hk=>.inl (b2 k (by rwa [jv]at hk)),b1⟩;right;have⟨_,b1,b2⟩:=hke t h1;rw[h2,b1];refine⟨λ k hk=>hdp k (b2 k (by rwa [jv]at hk)),?_⟩;rw[<- BQ,YJ _ (λ k hk=>hfp k (b2 k hk))];exact kO.refl _;left;rw[h2];rfl;simp[d7.st]at hj;obtain⟨o,hjo,rfl⟩:=hj;rcases j8 j o hjo with ⟨k',o1,b1,b2,b3,b4,b5⟩|⟨b1,b2⟩;exact⟨k',bS o1,by simp[d7.st,b2],.inl ⟨j,b1⟩,hf _ b1,b3,V0 b4⟩;have⟨c1,o',c2,c3,c4⟩:=hko j b1;rw[b2]at c2;cases c2;have hid:p7 f o=o:=by
  cases o with
  |ey c l=>rfl
  |map kc vc l=>rfl
  |cells sz rows=>
   simp[p7];congr 1;have:=λq hq=>FY q λi hi=>hfp i (c4 i (by simp[ep,List.mem_flatten,mem_map];exact⟨_,⟨q,hq,rfl⟩,hi⟩));rw[map_congr_left this];simp
 obtain⟨r1,r2⟩:=Lg (D:=λj=>DN m.nm j\/j∈sh.dt) f o (λ i hi=>hdp i (c4 i hi));rw[hid]at r1 r2;exact⟨j,bS o,by simp[d7.st,c3],.inr b1,nq j b1,r1,r2⟩
theorem Ext.trans{ds:Ψ}{a b c:d7 X}(h:Ext ds a b)(h':Ext ds b c):Ext ds a c:=by refine⟨λ t ht=>?_,?_,Nat.le_trans h.nx h'.nx⟩;rcases h'.env t ht with h1|h1;rcases h.env t ht with h2|h2;exact .inl (h1.trans h2);exact .inr (h1.trans h2);exact .inr h1;obtain⟨d,h1,h2⟩:=h.obj;obtain⟨d',h3,h4⟩:=h'.obj;refine⟨d'++d,by rw[h3,h1,aP],λk hk hn=>?_⟩;simp at hn;rcases h4 k (Nat.lt_of_lt_of_le hk h.nx) hn.1 with h5|h5;rcases h2 k hk hn.2 with h6|h6;exact .inl (h5.trans h6);exact .inr (h5.trans h6);exact .inr h5
theorem Ext.refl(ds:Ψ)(s:d7 X):Ext ds s s:=⟨λ _ _=>.inl rfl,⟨[],by simp,λ_ _ _=>.inl rfl⟩,aB _⟩
def Says(s s':d7 X):Prop:=∀(P:Program) (w0:World) (O0:k5) (N:Nat) (G:Nat->J cW) (I:Nat->Prop) (a:Act) (w:World),Rel P w0 O0 N G I s.st a w->∃ β',Rel P w0 O0 N β' I s'.st a w
theorem Low.room{s:d7 X}{P:Ξ}{w0:Y}{O0:k5}{N:Nat}{G:Ω}{I:Ψ}{a:Act}{w:Y}(hl:Low s)(hr:Rel P w0 O0 N G I s.st a w):∃ β2,β2 s.nx=none/\Rel P w0 O0 N β2 I s.st a w:=by
 have hr1:=hr.restrict hl.old
 have hr2:=Rel.re (f:=id) (g:=λj=>if j<s.nx then j else 1000000) (D:=(· <s.nx)) (s':=s.st) (λ k hk=>aM hk) (λ j hj=>aM (by have:=hl.ge;omega)) hr1 (λ _=>.inl rfl) (λ _=>rfl)
  (λ q=>.inr ⟨λ k hk=>hl.env q k (by rw[<- jv];exact hk),by show kO (ix id (den (fx s.env q))) (den (fx s.env q));rw[<- BQ,YJ (f:=id) _ (λ _ _=>rfl)];exact kO.refl _⟩)
  (λ j o' hj=>by
   simp[d7.st]at hj;obtain⟨x,hx,rfl⟩:=hj;have⟨h1,h2⟩:=hl.obj j x hx;have⟨r1,r2⟩:=Lg (D:=(· <s.nx)) id x h2;have hid:p7 id x=x:=by
    cases x with
    |ey c l|map kc vc l=>rfl
    |cells sz rows=>
     simp[p7];have:∀q∈rows,Nh id q=q:=λq _=>FY (f:=id) q λ_ _=>rfl;rw[map_congr_left this];simp
   rw[hid]at r1 r2;exact⟨j,bS x,by simp[d7.st,hx],h1,rfl,r1,r2⟩)
 exact⟨_,by simp,hr2⟩
theorem apC(z:Bool)(k:Nat):b7 (nz (X:=X) z k)=[k]:=by cases z<;>rfl
theorem YL{ds:U Nat}{z:Bool}{s:d7 X}{t:Nat}{c:CT X.ι}(hl:Low s)(ht:t∈ds):Low (By z s t c)/\Ext (· ∈ds) s (By z s t c)/\Says s (By z s t c):=by
 unfold By;split;rename_i hn;split;have he:∀q,fx ((t,nz z s.nx)::s.env) q=if t=q then nz z s.nx else fx s.env q:=λq=>by simp[fx,lk];by_cases e:t=q<;>simp[e]
 have hO:∀q,iz ((s.nx,some (.ey c []))::s.obj) q=if s.nx=q then some (.ey c [])else iz s.obj q:=λq=>by simp[iz,lk];by_cases e:s.nx=q<;>simp[e]
 refine⟨⟨by show s.nx+1<=1000000;omega,by have:=hl.ge;show 1000<=s.nx+1;omega,λq k hk=>?_,λk o ho=>?_⟩,⟨λ q hq=>?_,⟨[s.nx],rfl,λk hk hnk=>?_⟩,by show s.nx<=s.nx+1;omega⟩,λP w0 O0 N G I a w hr=>?_⟩;rw[he]at hk;split at hk;simp[apC]at hk;subst hk;show s.nx<s.nx+1;omega;have:=hl.env q k hk;show k<s.nx+1;omega;rw[hO]at ho;split at ho;rename_i e;cases ho;subst e;exact⟨by show s.nx<s.nx+1;omega,by simp[ep]⟩;have⟨h1,h2⟩:=hl.obj k o ho;exact⟨by show k<s.nx+1;omega,λj hj=>by have:=h2 j hj;show j<s.nx+1;omega⟩;left;rw[he,aC];intro e;subst e;exact hq ht;left;rw[hO,aC (by omega)];have⟨β2,G2,hr2⟩:=hl.room hr;have⟨hS,hM⟩:=Mem.m8 (i:=s.nx) (o:=bS (.ey c []:cg X)) hr2.mem G2 rfl;refine⟨ins β2 s.nx .none,hr2.defers,hr2.size,λq=>?_,?_⟩;have h1:=hr2.env q;show fL P _ w I (den (fx ((t,nz z s.nx)::s.env) q)) none _;rw[he];by_cases e:t=q;subst e;rw[aM rfl];have h2:VR P _ w I (den (fx s.env t)) (a.tmps.getD t undef):=h1;rw[hn]at h2;rcases z with _|_;simp only[fL,nz,ay,den,VR];exact .inl ⟨by simp[ins],h2,trivial,trivial⟩;simp only[fL,nz,ak,den,VR];exact .inl ⟨trivial,h2⟩;rw[aC e];exact fL.mono hS.ext hS.same hS.inc h1;have e:(λ k=>(iz ((s.nx,some (.ey c []))::s.obj) k).map bS)=dw s.st.obj [(s.nx,some (bS (.ey c []:cg X)))]:=by funext q;simp[dw,d7.st];rw[hO];by_cases e:s.nx=q;simp[e];rw[aC e,aC (Ne.symm e)]
 show Mem P w0 O0 _ I (λ k=>(iz ((s.nx,some (.ey c []))::s.obj) k).map bS) w;rw[e];exact hM;exact⟨hl,Ext.refl _ s,λ_ _ _ _ G _ _ _ h=>⟨G,h⟩⟩;exact⟨hl,Ext.refl _ s,λ_ _ _ _ G _ _ _ h=>⟨G,h⟩⟩
theorem YM(y:DV X):∀(l:U (DV X))(j i:Nat),i∈aS (l.set j y)->i∈aS l\/i∈b7 y
 |[],_,_,h=>.inl (by simpa using h)
 |x::l,0,i,h=>by simp[aS]at h |-;rcases h with h|h;exact .inr h;exact .inl (.inr h)
 |x::l,j+1,i,h=>by simp[aS]at h |-;rcases h with h|h;exact .inl (.inl h);rcases YM y l j i h with h|h;exact .inl (.inr h);exact .inr h
theorem bp.set{P:Ξ}{G:Ω}{w:Y}{I:Ψ}{y:AV}:∀(xs:U AV)(vs:U Value)(j:Nat),(∀ x v,xs[j]? =some x->VR P G w I x v->VR P G w I y v)->bp P G w I xs vs->bp P G w I (xs.set j y) vs
 |[],vs,_,_,h=>by simpa using h
 |x::xs,[],_,_,h=>by simp[bp]at h
 |x::xs,v::vs,0,hy,h=>by exact⟨hy x v rfl h.1,h.2⟩
 |x::xs,v::vs,j+1,hy,h=>by exact⟨h.1,bp.set xs vs j (λ x v e=>hy x v (by simpa using e)) h.2⟩
theorem OR.set1{P:Ξ}{G:Ω}{w:Y}{I:Ψ}{sz:Nat}{row:U AV}{j:Nat}{y:AV}{B:cW}(hy:∀x v,row[j]? =some x->VR P G w I x v->VR P G w I y v)(h:OR P G w I ⟨sz,[row]⟩ B):OR P G w I ⟨sz,[row.set j y]⟩ B:=by
 cases B with
 |none=>simp[OR]at h
 | «at» b s n=>
  obtain⟨h1,c,e,h2,h3,h4⟩:=h;refine⟨h1,c,e,h2,h3,?_⟩;simp only[cj,List.length_set]at h4 |-;refine⟨h4.1,?_,trivial⟩;rw[j4]at h4 |-;intro i x hx;rw[List.getElem?_set]at hx;split at hx;rename_i e;subst e;split at hx;cases hx;rename_i hlt;obtain⟨v,g1,g2,g3⟩:=h4.2.1 j _ (dY hlt);exact⟨v,g1,hy _ v (dY hlt) g2,g3⟩;cases hx;exact h4.2.1 i x hx
 |mp b=>
  obtain⟨es,cl,h1,hle,h2,h3⟩:=h;refine⟨es,cl,h1,hle,λe=>?_,h3⟩;have:=h2 e
  match hes:es.toList,this with
  |[e1],this=>exact⟨bp.set _ _ j hy this.1,trivial⟩
  |[],this|_::_::_,this=>simp[cQ]at this
theorem agj(y:DV X):∀(l:U (DV X))(j:Nat),bQ (l.set j y)=(bQ l).set j (den y)
 |[],_|x::l,0=>by simp[bQ]
 |x::l,j+1=>by simp[bQ,agj y l j]
theorem ai2{ds:U Nat}{s:d7 X}{q j:Nat}{c:CT X.ι}(hl:Low s):Low (Hx s q j c)/\Ext (· ∈ds) s (Hx s q j c)/\Says s (Hx s q j c):=by
 unfold Hx;split;rename_i sz row hq;split;rename_i hn;split;have hqn:=(hl.obj q _ hq).1;have hrefs:=λk hk=>(hl.obj q _ hq).2 k (by simpa[ep]using hk);have hO:∀k,iz ((q,some (.cells sz [row.set j (.own s.nx 0 0)]))::(s.nx,some (.ey c []))::s.obj) k=if q=k then some (.cells sz [row.set j (.own s.nx 0 0)])else if s.nx=k then some (.ey c [])else iz s.obj k:=λk=>by simp[iz,lk];by_cases e:q=k;simp[e];by_cases e':s.nx=k<;>simp[e,e']
 refine⟨⟨by show s.nx+1<=1000000;omega,by have:=hl.ge;show 1000<=s.nx+1;omega,λk i hk=>by have:=hl.env k i hk;show i<s.nx+1;omega,λk o ho=>?_⟩,⟨λ _ _=>.inl rfl,⟨[q,s.nx],rfl,λk hk hnk=>?_⟩,by show s.nx<=s.nx+1;omega⟩,λP w0 O0 N G I a w hr=>?_⟩;rw[hO]at ho;split at ho;rename_i e;cases ho;subst e;refine⟨by show q<s.nx+1;omega,λi hi=>?_⟩;show i<s.nx+1;simp[ep]at hi;rcases YM _ _ _ _ hi with h1|h1;have:=hrefs i h1;omega;simp[b7]at h1;omega;split at ho;rename_i e;cases ho;subst e;exact⟨by show s.nx<s.nx+1;omega,by simp[ep]⟩;have⟨h1,h2⟩:=hl.obj k o ho;exact⟨by show k<s.nx+1;omega,λi hi=>by have:=h2 i hi;show i<s.nx+1;omega⟩;left;simp at hnk;rw[hO,aC (Ne.symm hnk.1),aC (Ne.symm hnk.2)];have⟨β2,G2,hr2⟩:=hl.room hr;have⟨hS,hM⟩:=Mem.m8 (i:=s.nx) (o:=bS (.ey c []:cg X)) hr2.mem G2 rfl;refine⟨ins β2 s.nx .none,hr2.defers,hr2.size,λk=>fL.mono hS.ext hS.same hS.inc (hr2.env k),?_⟩;refine hM.weak λk o' ho=>?_;simp only[d7.st]at ho;rw[hO]at ho;by_cases e:q=k;subst e;rw[aM rfl]at ho;cases ho;refine⟨bS (.cells sz [row]),by simp[dw];rw[aC (by omega)];simp[d7.st,hq],λB _ hB=>?_⟩;simp[bS,agj]at hB |-;refine OR.set1 (λ x v hx hv=>?_) hB;rw[pW,List.getElem?_map,hn]at hx;cases hx;simpa only[den,VR]using .inl ⟨by simp[ins],hv,trivial,trivial⟩;rw[aC e]at ho;refine⟨o',?_,λ_ _ h=>h⟩;simp[dw];by_cases e':s.nx=k;subst e';simpa using ho;rw[aC e']at ho;rw[aC (Ne.symm e')];exact ho;exact⟨hl,Ext.refl _ s,λ_ _ _ _ G _ _ _ h=>⟨G,h⟩⟩;exact⟨hl,Ext.refl _ s,λ_ _ _ _ G _ _ _ h=>⟨G,h⟩⟩;exact⟨hl,Ext.refl _ s,λ_ _ _ _ G _ _ _ h=>⟨G,h⟩⟩
theorem Pp{ds:U Nat}:∀(l:U (Nat×CT X.ι)){s:d7 X},Low s->(∀ p∈l,(bif Nat.ble 1000000 p.1 then !Nat.ble 1099511627776 p.1 || ds.contains (p.1-1099511627776)else ds.contains p.1)=true)->Low (Sb l s)/\Ext (· ∈ds) s (Sb l s)/\Says s (Sb l s)
 |[],s,hl,_=>⟨hl,Ext.refl _ s,λ_ _ _ _ G _ _ _ h=>⟨G,h⟩⟩
 |(t,c)::r,s,hl,hd=>by
  generalize hs:(bif Nat.ble 1000000 t then bif Nat.ble 1099511627776 t then By true s (t-1099511627776) c else Hx s ((t-1000000)/4096) ((t-1000000)%4096) c else By false s t c)=s1;have h0:Low s1/\Ext (· ∈ds) s s1/\Says s s1:=by
   have hd0:=hd (t,c) (by simp);subst hs;cases hb:Nat.ble 1000000 t with
   |true=>
    rw[hb]at hd0;cases hb2:Nat.ble 1099511627776 t with
    |true=>rw[hb2]at hd0;exact YL hl (by simpa using hd0)
    |false=>exact ai2 hl
   |false=>rw[hb]at hd0;exact YL hl (by simpa using hd0)
  obtain⟨h1,h2,h3⟩:=h0;simp[Sb,hs];obtain⟨g1,g2,g3⟩:=Pp r h1 (λ p hp=>hd p (by simp[hp]));refine⟨g1,h2.trans g2,λP w0 O0 N G I a w hr=>?_⟩;have⟨β',hr'⟩:=h3 P w0 O0 N G I a w hr;exact g3 P w0 O0 N β' I a w hr'
theorem mK{A:Type}{sh:Sh X.ι}{ds:U Nat}{s0 s':d7 X}{k:VT (X:=X) sh.vars->J A}{r:A}(hl0:Low s0)(hl':Low s')(hx:Ext (· ∈ds) s0 s')(h:uX sh ds s0 s' k=some r):
 ∃v,k v=some r/\Low (encS sh s0 v)/\Ext (· ∈ds) s0 (encS sh s0 v)/\Says s' (encS sh s0 v):=by have⟨h1,h2⟩:=eX h;obtain⟨g1,g2,g3⟩:=Pp (ds:=ds) sh.CC hl' (λ p hp=>all_eq_true.1 h1 p hp);have⟨v,i1,i2,i3,i4⟩:=aeh hl0 (hx.trans g2) h2;refine⟨v,i1,i2,i3,λP w0 O0 N G I a w hr=>?_⟩;have⟨β',hr'⟩:=g3 P w0 O0 N G I a w hr;exact i4 P w0 O0 N β' I a w hr'
end
def iC:Code->U Nat
 |.region _ am _=>am.toList.filterMap (·.dst)
 |.seq a b=>iC a++iC b
 |.cond _ a b=>iC a++iC b
 |.block _ b=>iC b
 |.loop b=>iC b
 |_=>[]
section
variable {X:SX}
section
variable {P:Program} {N:Nat}
def MS{A:Type}(ds:U Nat)(s:d7 X)(k:Exit->d7 X->J A)(r:A)(e:Exit)(M:St):Prop:=∃s',Low s'/\Ext (· ∈ds) s s'/\M=s'.st/\k e s'=some r
theorem akO{c:Code}{Q Q':Exit->St->Prop}{M:St}(h:Ev P N c Q M)(ht:∀e M,Q e M->∀w0 O0 G I a w,Rel P w0 O0 N G I M a w->∃ β' σ',Rel P w0 O0 N β' I σ' a w/\nb σ'/\Q' e σ'):Ev P N c Q' M:=by intro w0 O0 G I a w hr ho;refine wp_mono (h w0 O0 G I a w hr ho) ?_;rintro e a' w' ⟨β',I',σ',h1,_,h3⟩;have⟨β2,σ2,g1,g2,g3⟩:=ht e σ' h3 w0 O0 β' I' a' w' h1;exact⟨β2,I',σ2,g1,g2,g3⟩
end
end
inductive Hn(ι:Type) where
 |z
 |f (l:List Nat)
 |s (a b:Hn ι)
 |b (a:Hn ι)
 |j (sh:Sh ι) (a:Hn ι)
 |jx (sh:Sh ι) (a:Hn ι)
 |l (head:Sh ι) (id:Nat) (aa:Sh ι) (a:Hn ι)
 |lx (head:Sh ι) (id:Nat) (aa:Sh ι) (a:Hn ι)
 |rg (head:Sh ι) (a:Hn ι)
 |un (a r:Hn ι)
def Hn.fz{ι:Type}:Hn ι->U Nat
 |.f is=>is
 |_=>[]
def Hn.fst{ι:Type}:Hn ι->Hn ι
 |.s a _=>a
 |_=>.z
def Hn.snd{ι:Type}:Hn ι->Hn ι
 |.s _ y=>y
 |_=>.z
def Hn.sub{ι:Type}:Hn ι->Hn ι
 |.b a=>a
 |_=>.z
def iter{Θ O:Type}(step:Θ->J (Θ⊕O)):Nat->Θ->J O
 | 0,_=>none
 |n+1,v=>(step v).bind λr=>match r with
  |.inl v=>iter step n v
  |.inr o=>some o
def N2{X:SX}{A:Type}(body:Hn X.ι->d7 X->(Exit->d7 X->J A)->J A):Hn X.ι->d7 X->(Exit->d7 X->J A)->J A
 |.un a r,s,k=>body a s λe s'=>match e with
  |.normal=>N2 body r s' k
  |e=>k e s'
 |_,_,_=>none
def fe{W A:Type}(o:J (W⊕A))(f:W->J A):J A:=o.bind λr=>match r with
 |.inl w=>f w
 |.inr a=>some a
noncomputable def both{A:Type}(x y:J A):J A:=open Classical in if x=y then x else none
theorem alQ{A:Type}{x y:J A}{r:A}(h:both x y=some r):x=some r/\y=some r:=by grind [both]
theorem alR{A:Type}(x:J A):both x x=x:=by simp[both]
section
variable {X:SX}
def HN(ds:U Nat)(s:d7 X)(h:Hn X.ι){A:Type}(k:Exit->d7 X->J A)(body:(B:Type)->Hn X.ι->(Exit->d7 X->J B)->J B):J A:=
 match h with
 |.j sh h'=>(body (VT (X:=X) sh.vars) h' λe s'=>match e with
  |.normal=>uX sh ds s s' some
  |_=>none).bind λv=>k .normal (encS sh s v)
 |.jx sh h'=>fe (body (VT (X:=X) sh.vars⊕A) h' λe s'=>match e with
  |.normal=>uX sh ds s s' λv=>some (.inl v)
  |e=>(k e s').map .inr) λv=>k .normal (encS sh s v)
 |h=>body A h k
variable (Γ:FuncId->Option (ct X)) (T:eS) (an:TypeId->Option (CT X.ι)) (N n:Nat)
noncomputable def run:Code->(A:Type)->Hn X.ι->d7 X->(Exit->d7 X->J A)->J A
 |.skip,_,_,s,k=>k .normal s
 |.region id am d,_,h,s,k=>HN (iC (.region id am d)) s h k λ_ h k=>ai1 Γ h.fz T an N am d s (k .normal)
 |.seq x y,_,h,s,k=>HN (iC (.seq x y)) s h k λB h k=>run x B h.fst s λe s'=>match e with
  |.normal=>run y B h.snd s' k
  |e=>k e s'
 |.cond c x y,_,h,s,k=>HN (iC (.cond c x y)) s h k λB h k=>match xF (fx s.env) c with
  |.c .bool v=>bif v then run x B h.fst s k else run y B h.snd s k
  |.ub=>both (run x B h.fst s k) (run y B h.snd s k)
  |_=>none
 |.block id b,_,h,s,k=>HN (iC (.block id b)) s h k λB h k=>run b B h.sub s λe s'=>match e with
  |.exit j=>if j=id then k .normal s' else k (.exit j) s'
  |e=>k e s'
 |.loop b,A,h,s,k=>match h with
  |.l hd id aa h'=>uX hd (iC b) s s λv0=>(iter (λ v=>run b (VT (X:=X) hd.vars⊕VT (X:=X) aa.vars) h' (encS hd s v) λe s'=>match e with
   |.normal=>uX hd (iC b) s s' λv=>some (.inl v)
   |.exit j=>if j=id then uX aa (iC b) s s' λw=>some (.inr w)else none
   |_=>none) n v0).bind λw=>k (.exit id) (encS aa s w)
  |.lx hd id aa h'=>uX hd (iC b) s s λv0=>fe (iter (λ v=>run b (VT (X:=X) hd.vars⊕(VT (X:=X) aa.vars⊕A)) h' (encS hd s v) λe s'=>match e with
   |.normal=>uX hd (iC b) s s' λv=>some (.inl v)
   |.exit j=>if j=id then uX aa (iC b) s s' λw=>some (.inr (.inl w))else(k (.exit j) s').map λa=>.inr (.inr a)
   |e=>(k e s').map λa=>.inr (.inr a)) n v0) λw=>k (.exit id) (encS aa s w)
  |.un a r=>N2 (λ h s k=>run b A h s k) (.un a r) s k
  |_=>none
 |.exit id,_,_,s,k=>k (.exit id) s
 |.ret,_,_,s,k=>k .ret s
 |.label _,_,_,s,k=>k .normal s
 |_,_,_,_,_=>none
section
variable {Γ:FuncId->Option (ct X)} {T:eS} {an:TypeId->Option (CT X.ι)} {N n:Nat} {P:Program}
theorem Ext.wide{ds ds':Ψ}{a b:d7 X}(h:Ext ds a b)(hd:∀t,ds t->ds' t):Ext ds' a b:=⟨λ t ht=>h.env t λhh=>ht (hd t hh),h.obj,h.nx⟩
theorem map_inr{α G:Type}{o:J G}{r:α⊕G}(h:o.map Sum.inr=some r):∃b,o=some b/\r=.inr b:=by
 cases o with
 |none=>cases h
 |some b=>grind
theorem F3{c:Code}{s:d7 X}{h:Hn X.ι}{A:Type}{k:Exit->d7 X->J A}{r:A}{body:(B:Type)->Hn X.ι->(Exit->d7 X->J B)->J B}(hl:Low s)
 (hb:∀(B:Type)(h:Hn X.ι)(k:Exit->d7 X->J B)(r:B),body B h k=some r->Ev P N c (MS (iC c) s k r) s.st) (hr:HN (iC c) s h k body=some r):Ev P N c (MS (iC c) s k r) s.st:=by
 unfold HN at hr;split at hr;have⟨v,h1,hr⟩:=ah.1 hr;refine akO (hb _ _ _ _ h1) ?_;rintro e M ⟨s',g1,g2,rfl,g4⟩ w0 O0 G I a w hrel;cases e<;>simp at g4;have⟨v',i1,i2,i3,i4⟩:=mK hl g1 g2 g4;cases i1;have⟨β',i5⟩:=i4 P w0 O0 N G I a w hrel;exact⟨β',_,i5,i2.old,_,i2,i3,rfl,hr⟩;unfold fe at hr;have⟨v,h1,hr⟩:=ah.1 hr;refine akO (hb _ _ _ _ h1) ?_;rintro e M ⟨s',g1,g2,rfl,g4⟩ w0 O0 G I a w hrel;have other:(k e s').map Sum.inr=some v->∃ β' σ',Rel P w0 O0 N β' I σ' a w/\nb σ'/\MS (iC c) s k r e σ':=by intro hm;obtain⟨b,hk,rfl⟩:=map_inr hm;cases hr;exact⟨G,_,hrel,g1.old,s',g1,g2,rfl,hk⟩
 cases e with
 |normal=>
  simp at g4;have⟨v',i1,i2,i3,i4⟩:=mK hl g1 g2 g4;cases i1;have⟨β',i5⟩:=i4 P w0 O0 N G I a w hrel;exact⟨β',_,i5,i2.old,_,i2,i3,rfl,hr⟩
 |_=>exact other g4
 exact hb _ _ _ _ hr
theorem alS{id:Nat}{am:Array Oper}{d:Bool}{t:Nat}(h:UX am t):t∈iC (.region id am d):=by obtain⟨j,op,h1,h2⟩:=h;simp only[iC,List.mem_filterMap];exact⟨op,by rw[<- Array.getElem?_toList]at h1;exact dM h1,h2⟩
theorem YN{b:Code}{s:d7 X}{hd:Sh X.ι}{O:Type}{step:VT (X:=X) hd.vars->J (VT (X:=X) hd.vars⊕O)}{kb:Exit->d7 X->J (VT (X:=X) hd.vars⊕O)}{Q:Exit->St->Prop}(hl:Low s)
 (hkn:∀s',kb .normal s'=uX hd (iC b) s s' λv=>some (.inl v))
 (hstep:∀v r,Low (encS hd s v)->step v=some r->Ev P N b (MS (iC b) (encS hd s v) kb r) (encS hd s v).st)
 {o:O} (hQ:∀e s',e≠.normal->Low s'->Ext (· ∈iC b) s s'->kb e s'=some (.inr o)->∀w0 O0 G I a w,Rel P w0 O0 N G I s'.st a w->∃ β' σ',Rel P w0 O0 N β' I σ' a w/\nb σ'/\Q e σ')
 (hno:∀e s' v,e≠.normal->kb e s'=some (.inl v)->False) (n:Nat) (v0:VT (X:=X) hd.vars) (h:iter step n v0=some o) (hl0:Low (encS hd s v0)) (hx0:Ext (· ∈iC b) s (encS hd s v0)):Ev P N (.loop b) Q (encS hd s v0).st:=by
 intro w0 O0 G I a w hr ho;refine aci (λ n a w=>∃ G I v,Rel P w0 O0 N G I (encS hd s v).st a w/\iter step n v=some o/\Low (encS hd s v)/\Ext (· ∈iC b) s (encS hd s v)) (λ a w ⟨_,_,v,_,h,_⟩=>by cases h) ?_ n a w ⟨G,I,v0,hr,h,hl0,hx0⟩;rintro n a w ⟨G,I,v,hr,hi,hlv,hxv⟩;simp[iter]at hi;have⟨r,h1,hi⟩:=ah.1 hi;refine wp_mono (hstep v r hlv h1 w0 O0 G I a w hr hlv.old) ?_;rintro e a' w' ⟨β',I',σ',g1,_,s',g2,g3,rfl,g4⟩;have hxs:=hxv.trans g3;by_cases he:e=.normal;subst he;rw[hkn]at g4;have⟨v',i1,i2,i3,i4⟩:=mK hl g2 hxs g4;cases i1;have⟨β2,i5⟩:=i4 P w0 O0 N β' I' a' w' g1;exact⟨β2,I',v',i5,hi,i2,i3⟩;cases r with
 |inl v'=>exact(hno e s' v' he g4).elim
 |inr o'=>
  cases hi;have⟨β2,σ2,i1,i2,i3⟩:=hQ e s' he g2 hxs g4 w0 O0 β' I' a' w' g1;cases e with
  |normal=>exact(he rfl).elim
  |_=>exact⟨β2,I',σ2,i1,i2,i3⟩
theorem YO{A:Type}{sh:Sh X.ι}{ds:U Nat}{s0 s':d7 X}{k:VT (X:=X) sh.vars->J A}{r:A}(h:uX sh ds s0 s' k=some r):∃v,k v=some r:=by have⟨_,h⟩:=eX h;unfold R1 at h;have⟨m1,h1,h⟩:=ah.1 h;have⟨m,h2,h⟩:=ah.1 h;have⟨h3,h⟩:=eX h;have⟨v,h4,h⟩:=ah.1 h;exact⟨v,(rq h).2⟩
theorem agk{α G γ:Type}{o:J γ}{r:α⊕(G⊕γ)}(h:o.map (λ a=>Sum.inr (Sum.inr a))=some r):∃b,o=some b/\r=.inr (.inr b):=by
 cases o with
 |none=>cases h
 |some b=>grind
def Hn.len{ι:Type}:Hn ι->Nat
 |.un _ r=>r.len+1
 |_=>0
theorem alT{b:Code}{A:Type}{body:Hn X.ι->d7 X->(Exit->d7 X->J A)->J A}{s0:d7 X}{k:Exit->d7 X->J A}{r:A}
 (hb:∀(h:Hn X.ι)(s:d7 X)(k:Exit->d7 X->J A)(r:A),Low s->body h s k=some r->Ev P N b (MS (iC b) s k r) s.st)
 {h:Hn X.ι} (hl:Low s0) (hr:N2 body h s0 k=some r):Ev P N (.loop b) (MS (iC (.loop b)) s0 k r) s0.st:=by
 refine akz (λ n M=>∃(h:Hn X.ι)(s:d7 X),M=s.st/\h.len=n/\Low s/\Ext (· ∈iC b) s0 s/\N2 body h s k=some r) ?_ ?_ h.len ⟨h,s0,rfl,rfl,hl,Ext.refl _ s0,hr⟩;rintro M ⟨h,s,_,h1,_,_,h2⟩;cases h<;>first|cases h2|cases h1
 rintro n M ⟨h,s,rfl,h1,h2,h3,h4⟩;cases h<;>try cases h4
 rename_i a q;simp[Hn.len]at h1;refine(hb a s _ r h2 h4).mono ?_;rintro e M ⟨s',g1,g2,rfl,g4⟩;have hx:=h3.trans g2;cases e with
 |normal=>exact⟨q,s',rfl,h1,g1,hx,g4⟩
 |_=>exact⟨s',g1,hx,rfl,g4⟩
theorem l8(hT:fQ P T)(hm:P.follows .mixedOrders=true)(hΓ:te P Γ):∀(c:Code)(A:Type)(h:Hn X.ι)(s:d7 X)(k:Exit->d7 X->J A)(r:A),Low s->run Γ T an N n c A h s k=some r->Ev P N c (MS (iC c) s k r) s.st
 |.skip,A,h,s,k,r,hl,hr=>OZ ⟨s,hl,Ext.refl _ s,rfl,hr⟩
 |.exit id,A,h,s,k,r,hl,hr=>aky ⟨s,hl,Ext.refl _ s,rfl,hr⟩
 |.ret,A,h,s,k,r,hl,hr=>aiw ⟨s,hl,Ext.refl _ s,rfl,hr⟩
 |.label l,A,h,s,k,r,hl,hr=>ane ⟨s,hl,Ext.refl _ s,rfl,hr⟩
 |.region id am d,A,h,s,k,r,hl,hr=>by refine F3 hl (λ B h k r hb=>?_) hr;have⟨s',g1,g2,g3,g4⟩:=aef (id:=id) hT hm hΓ hl hb;exact g4.mono λe M ⟨he,hσ⟩=>⟨s',g2,g3.wide λt ht=>alS ht,hσ,by rw[he];exact g1⟩
 |.seq x y,A,h,s,k,r,hl,hr=>by
  refine F3 hl (λ B h k r hb=>?_) hr;refine kC ((l8 hT hm hΓ x B _ s _ r hl hb).mono ?_);rintro e M ⟨s',g1,g2,rfl,g4⟩;have wide:Ext (· ∈iC (.seq x y)) s s':=g2.wide λt ht=>by simp[iC,ht]
  cases e with
  |normal=>
   exact(l8 hT hm hΓ y B _ s' k r g1 g4).mono λe M ⟨s2,i1,i2,i3,i4⟩=>⟨s2,i1,wide.trans (i2.wide λt ht=>by simp[iC,ht]),i3,i4⟩
  |_=>exact⟨s',g1,wide,rfl,g4⟩
 |.cond c x y,A,h,s,k,r,hl,hr=>by
  refine F3 hl (λ B h k r hb=>?_) hr;split at hb
  .rename_i v hv;refine FO v (λ _ _=>rfl) ?_ ?_
   .have:=X8 (fx s.env) c;rw[hv]at this;exact this.symm
   .cases v with
    |true=>exact(l8 hT hm hΓ x B _ s k r hl hb).mono λe M ⟨s2,i1,i2,i3,i4⟩=>⟨s2,i1,i2.wide λt ht=>by simp[iC,ht],i3,i4⟩
    |false=>exact(l8 hT hm hΓ y B _ s k r hl hb).mono λe M ⟨s2,i1,i2,i3,i4⟩=>⟨s2,i1,i2.wide λt ht=>by simp[iC,ht],i3,i4⟩
  .rename_i hv;have⟨hb1,hb2⟩:=alQ hb;refine aix (λ _ _=>rfl) ?_ ?_ ?_
   .have:=X8 (fx s.env) c;rw[hv]at this;exact this.symm
   .exact(l8 hT hm hΓ x B _ s k r hl hb1).mono λe M ⟨s2,i1,i2,i3,i4⟩=>⟨s2,i1,i2.wide λt ht=>by simp[iC,ht],i3,i4⟩
   .exact(l8 hT hm hΓ y B _ s k r hl hb2).mono λe M ⟨s2,i1,i2,i3,i4⟩=>⟨s2,i1,i2.wide λt ht=>by simp[iC,ht],i3,i4⟩
  .cases hb
 |.block id b,A,h,s,k,r,hl,hr=>by
  refine F3 hl (λ B h k r hb=>?_) hr;refine O1 ((l8 hT hm hΓ b B _ s _ r hl hb).mono ?_);rintro e M ⟨s',g1,g2,rfl,g4⟩;cases e with
  |exit j=>
   simp only[aiv];simp only at g4;split
   .rw[aM ‹_›]at g4;exact⟨s',g1,g2,rfl,g4⟩
   .rw[aC ‹_›]at g4;exact⟨s',g1,g2,rfl,g4⟩
  |_=>exact⟨s',g1,g2,rfl,g4⟩
 |.loop b,A,h,s,k,r,hl,hr=>by
  simp only[run]at hr;split at hr
  .rename_i hd id aa h';obtain⟨v0,h1,h2,h3,h4⟩:=mK hl hl (Ext.refl _ s) hr;rw[ah]at h1;obtain⟨w,h5,h6⟩:=h1;intro w0 O0 G I a ww hrel ho;have⟨β',hrel'⟩:=h4 P w0 O0 N G I a ww hrel;refine YN (Q:=MS (iC (.loop b)) s k r) hl (λ s'=>rfl) (λ v r hlv hs=>l8 hT hm hΓ b _ h' (encS hd s v) _ r hlv hs) (λ e s' he hls hxs hk=>?_) (λ e s' v he hk=>?_) n v0 h5 h2 h3 w0 O0 β' I a ww hrel' h2.old
   .cases e with
    |exit j=>
     simp only at hk;split at hk
     .rename_i hj;subst hj;have⟨w',i1,i2,i3,i4⟩:=mK hl hls hxs hk;injection i1 with i1;cases i1;intro w0 O0 G I a ww hrel;have⟨β',hrel'⟩:=i4 P w0 O0 N G I a ww hrel;exact⟨β',_,hrel',i2.old,_,i2,i3,rfl,h6⟩
     .cases hk
    |normal=>exact(he rfl).elim
    |_=>cases hk
   .cases e with
    |exit j=>
     simp only at hk;split at hk
     .have⟨w',i1⟩:=YO hk;injection i1 with i1;cases i1
     .cases hk
    |normal=>exact he rfl
    |_=>cases hk
  .rename_i hd id aa h';obtain⟨v0,h1,h2,h3,h4⟩:=mK hl hl (Ext.refl _ s) hr;unfold fe at h1;rw[ah]at h1;obtain⟨w,h5,h6⟩:=h1;intro w0 O0 G I a ww hrel ho;have⟨β',hrel'⟩:=h4 P w0 O0 N G I a ww hrel;refine YN (Q:=MS (iC (.loop b)) s k r) hl (λ s'=>rfl) (λ v r hlv hs=>l8 hT hm hΓ b _ h' (encS hd s v) _ r hlv hs) (λ e s' he hls hxs hk=>?_) (λ e s' v he hk=>?_) n v0 h5 h2 h3 w0 O0 β' I a ww hrel' h2.old
   .intro w0 O0 G I a ww hrel;have other:(k e s').map (λ a=>Sum.inr (Sum.inr a))=some (Sum.inr w:VT (X:=X) hd.vars⊕(VT (X:=X) aa.vars⊕A))->∃ β' σ',Rel P w0 O0 N β' I σ' a ww/\nb σ'/\MS (iC (.loop b)) s k r e σ':=(by intro hm;have⟨q,hq,hr⟩:=agk hm;cases hr;cases h6;exact⟨G,_,hrel,hls.old,s',hls,hxs,rfl,hq⟩);cases e with
    |exit j=>
     simp only at hk;split at hk
     .rename_i hj;subst hj;have⟨w',i1,i2,i3,i4⟩:=mK hl hls hxs hk;injection i1 with i1;cases i1;have⟨β',hrel'⟩:=i4 P w0 O0 N G I a ww hrel;exact⟨β',_,hrel',i2.old,_,i2,i3,rfl,h6⟩
     .exact other hk
    |normal=>exact(he rfl).elim
    |_=>exact other hk
   .have other:(k e s').map (λ a=>Sum.inr (Sum.inr a))=some (Sum.inl v:VT (X:=X) hd.vars⊕(VT (X:=X) aa.vars⊕A))->False:=(by intro hm;have⟨q,hq,hr⟩:=agk hm;cases hr);cases e with
    |exit j=>
     simp only at hk;split at hk
     .have⟨w',i1⟩:=YO hk;injection i1 with i1;cases i1
     .exact other hk
    |normal=>exact he rfl
    |_=>exact other hk
  .exact alT (body:=λh s k=>run Γ T an N n b A h s k) (λ h s k r hl h1=>l8 hT hm hΓ b A h s k r hl h1) hl hr
  .cases hr
 |.rangeFunc ..,_,_,_,_,_,_,hr=>by cases hr
 |.scope _,_,_,_,_,_,_,hr=>by cases hr
 |.goto _,_,_,_,_,_,_,hr=>by cases hr
 |.refuse _,_,_,_,_,_,_,hr=>by cases hr
end
end
section
variable {X:SX}
def oC:Nat->(l:U (AT X.ι))->jC X l->U (DV X)
 |_,[],_=>[]
 |n,.d c::l,a=>.c c a.1::oC n l a.2
 |n,.ref c::l,a=>.rp c a.1 0::oC n l a.2
 |n,.en as r::l,a=>.en as r a.1::oC n l a.2
 |n,.mut _::l,a=>.own n 0 (List.length a.1)::oC (n+1) l a.2
 |n,.ip _::l,a=>.ptr n 0 0::oC (n+1) l a.2
 |n,.nil::l,a=>.nil::oC n l a.2
def CR:(l:U (AT X.ι))->jC X l->U (cg X)
 |[],_=>[]
 |.mut c::l,a=>.ey c a.1::CR l a.2
 |.ip c::l,a=>.cells (CT.sz X c) [wJ c a.1]::CR l a.2
 |.d _::l,a=>CR l a.2
 |.ref _::l,a=>CR l a.2
 |.en _ _::l,a=>CR l a.2
 |.nil::l,a=>CR l a.2
theorem zN:∀(n:Nat)(l:U (AT X.ι))(a:jC X l),bQ (oC n l a)=fw n l a
 |_,[],_=>rfl
 |n,.d c::l,a|n,.ref c::l,a=>by simp[oC,bQ,den,fw,zN n l a.2]
 |n,.en as r::l,a=>by simp[oC,bQ,fw,zN n l a.2]
 |n,.mut c::l,a|n,.ip c::l,a=>by simp[oC,bQ,den,fw,zN (n+1) l a.2]
 |n,.nil::l,a=>by simp[oC,bQ,den,fw,zN n l a.2]
theorem JD:∀(l:U (AT X.ι))(a:jC X l),(CR l a).map bS=(wh l a).map iS
 |[],_=>rfl
 |.d _::l,a|.ref _::l,a|.en _ _::l,a|.nil::l,a=>JD l a.2
 |.mut c::l,a=>by simp[CR,JD l a.2];rfl
 |.ip c::l,a=>by simp[CR,wh,JD l a.2,bS,iS,vZ,aK,qL]
theorem qN:∀(n:Nat)(l:U (AT X.ι))(a:jC X l),∀k∈aS (oC n l a),k<n+xN l
 |_,[],_,k,hk=>by simp[oC,aS]at hk
 |n,.d c::l,a,k,hk=>by have:=qN n l a.2 k (by simpa[oC,aS,b7]using hk);simpa[xN,AT.im]using this
 |n,.ref c::l,a,k,hk=>by have:=qN n l a.2 k (by simpa[oC,aS,b7]using hk);simpa[xN,AT.im]using this
 |n,.en as r::l,a,k,hk=>by have:=qN n l a.2 k (by simpa[oC,aS,b7]using hk);simpa[xN,AT.im]using this
 |n,.nil::l,a,k,hk=>by have:=qN n l a.2 k (by simpa[oC,aS,b7]using hk);simpa[xN,AT.im]using this
 |n,.mut c::l,a,k,hk=>by simp[oC,aS,b7]at hk;simp[xN,AT.im];rcases hk with rfl|hk;omega;have:=qN (n+1) l a.2 k hk;omega
 |n,.ip c::l,a,k,hk=>by simp[oC,aS,b7]at hk;simp[xN,AT.im];rcases hk with rfl|hk;omega;have:=qN (n+1) l a.2 k hk;omega
theorem uY:∀(n:Nat)(l:U (AT X.ι))(a:jC X l),(fw n l a).length=l.length
 |_,[],_=>rfl
 |n,.d c::l,a|n,.ref c::l,a|n,.en as r::l,a=>by simp[fw,uY n l a.2]
 |n,.mut c::l,a|n,.ip c::l,a=>by simp[fw,uY (n+1) l a.2]
 |n,.nil::l,a=>by simp[fw,uY n l a.2]
theorem xP:∀(l:U (AT X.ι))(a:jC X l),(wh l a).length=xN l
 |[],_=>rfl
 |.d _::l,a|.ref _::l,a|.en _ _::l,a|.nil::l,a=>by simpa[xN,AT.im,wh]using xP l a.2
 |.mut _::l,a|.ip _::l,a=>by simp[wh,xP l a.2,xN,AT.im];omega
def CH(l:U (AT X.ι))(a:jC X l):d7 X:=⟨(List.range l.length).zip (oC 0 l a),(List.range (CR l a).length).zip ((CR l a).map some),1000,[]⟩
theorem akP(l:U (AT X.ι))(a:jC X l)(k:Nat):iz (CH l a).obj k=(CR l a)[k]? :=by
 have h:(List.range (CR l a).length).zip ((CR l a).map some)=(List.range ((CR l a).map some).length).zip ((CR l a).map some):=by rw[length_map]
 simp[CH,iz];rw[h,CK,List.getElem?_map];cases (CR l a)[k]?<;>rfl
theorem aq2(l:U (AT X.ι))(a:jC X l):(CH l a).st=sg.st ⟨(List.range (Ac l a).length).zip (Ac l a),(List.range ((wh l a).map iS).length).zip ((wh l a).map iS)⟩:=by
 have ho:∀k,((iz (CH l a).obj k).map bS)=lk ((List.range ((wh l a).map iS).length).zip ((wh l a).map iS)) k:=by intro k;rw[CK,akP,<- JD,List.getElem?_map]
 simp only[d7.st,sg.st,St.mk.injEq,and_true];refine⟨?_,funext ho⟩;funext t;rw[uY,Ac,<- zN];have:∀(ks:U Nat)(ds:U (DV X)),den (fx (ks.zip ds) t)=(lk (ks.zip (bQ ds)) t).getD .undef:=by
  intro ks
  induction ks with
  |nil=>intro ds;rfl
  |cons k ks ih=>
   intro ds;rcases ds with _|⟨d,ds⟩;rfl;simp[fx,lk,bQ];by_cases h:k=t;simp[h];simp[aC h];exact ih ds
 exact this _ _
theorem apD(l:U (AT X.ι))(a:jC X l)(hm:xN l<=1000):Low (CH l a):=by
 refine⟨by show 1000<=1000000;decide,aB _,λt k hk=>?_,λk o ho=>?_⟩;have h0:=qN 0 l a;have:∀(ks:U Nat)(ds:U (DV X)),(∀ k∈aS ds,k<0+xN l)->∀k∈b7 (fx (ks.zip ds) t),k<1000:=by
  intro ks
  induction ks with
  |nil=>intro ds _ k hk;simp[fx,lk,b7]at hk
  |cons k ks ih=>
   intro ds h j hj;rcases ds with _|⟨d,ds⟩;simp[fx,lk,b7]at hj;simp[fx,lk]at hj;by_cases e:k=t;simp[aM e]at hj;have:=h j (by simp[aS,hj]);omega;simp[aC e]at hj;exact ih ds (λ k hk=>h k (by simp[aS,hk])) j hj
 exact this _ _ h0 k hk;rw[akP]at ho;have hl:(CR l a).length=xN l:=by rw[<- xP l a];simpa using congrArg List.length (JD l a)
 refine⟨by have:=(dO.1 ho).1;show k<1000;omega,λj hj=>?_⟩;have hz:∀(l:U (AT X.ι))(a:jC X l),∀o∈CR l a,ep o=[]:=by
  intro l
  induction l with
  |nil=>intro a o ho;simp[CR]at ho
  |cons q l ih=>
   intro a o ho;cases q<;>simp[CR]at ho
   case «mut» c=>rcases ho with rfl|ho;rfl;exact ih _ o ho
   case ip c=>
    rcases ho with rfl|ho;have h1:aS (wJ c a.1)=[]:=by
     rw[<- jw,qL];generalize CT.row X.toSE c a.1=r
     induction r with
     |nil=>rfl
     |cons y ys ih=>simp[cu,refs,ih]
    simp[ep,h1];exact ih _ o ho
   all_goals exact ih _ o ho
 rw[hz l a o (dM ho)]at hj;cases hj
variable (T:eS)
def Hv(s:d7 X):ResultVar->J (DV X)
 |.tmp t=>some (fx s.env t)
 |.cell a t=>(T t).bind λti=>match fx s.env a with
  |.ptr kk row ab=>(iz s.obj kk).bind λo=>match o with
   |.cells _ rows=>(rows[row]?).bind λr=>Jr ti.agg ti.size ((r.drop ab).take ti.size)
   |_=>none
  |_=>none
def YP(s:d7 X):U ResultVar->J (List (DV X))
 |[]=>some []
 |r::rs=>(Hv T s r).bind λv=>(YP s rs).bind λvs=>some (v::vs)
theorem anG{s:d7 X}{r:ResultVar}{d:DV X}(h:Hv T s r=some d):RQ T s.st r=some (den d):=by
 cases r with
 |tmp t=>simp only[Hv,bX]at h;subst h;rfl
 |cell a t=>
  simp only[Hv]at h;rw[ah]at h;obtain⟨ti,h1,h⟩:=h;split at h
  .rename_i kk row ab hp;have⟨o,h2,h⟩:=ah.1 h;split at h
   .have⟨q,h3,h⟩:=ah.1 h;have h4:=El h;rw[lD]at h4
    show(match WW T t (den (fx s.env a)) (λ k=>(iz s.obj k).map bS)with
     |some ⟨v,[],[]⟩=>some v
     |_=>none)=some (den d)
    simp only[WW,MC,h1,ai,hp,den,h2,Option.map_some,bS,List.getElem?_map,h3,h4,pv]
   .cases h
  .cases h
def xy{A:Type}(s:d7 X):U ResultVar->(List (DV X)->J A)->J A
 |[],k=>k []
 |.tmp t::rs,k=>xy s rs λvs=>k (fx s.env t::vs)
 |.cell a t::rs,k=>(T t).bind λti=>match fx s.env a with
  |.ptr kk row ab=>(iz s.obj kk).bind λo=>match o with
   |.cells _ rows=>(rows[row]?).bind λr=>(Jr ti.agg ti.size ((r.drop ab).take ti.size)).bind λv=>xy s rs λvs=>k (v::vs)
   |_=>none
  |_=>none
theorem Lh{A:Type}{s:d7 X}:∀{rs:U ResultVar}{k:U (DV X)->J A}{r:A},xy T s rs k=some r->∃ds,YP T s rs=some ds/\k ds=some r
 |[],k,r,h=>⟨[],rfl,h⟩
 |.tmp t::rs,k,r,h=>by have⟨ds,h1,h2⟩:=Lh (rs:=rs) h;exact⟨_,by simp only[YP,Hv,h1,ai],h2⟩
 |.cell a t::rs,k,r,h=>by
  simp only[xy]at h;rw[ah]at h;obtain⟨ti,h1,h⟩:=h;split at h
  .rename_i kk row ab hp;have⟨o,h2,h⟩:=ah.1 h;split at h
   .have⟨q,h3,h⟩:=ah.1 h;have⟨v,h4,h⟩:=ah.1 h;have⟨ds,h5,h6⟩:=Lh (rs:=rs) h;exact⟨_,by simp only[YP,Hv,h1,hp,h2,h3,h4,h5,ai],h6⟩
   .cases h
  .cases h
theorem Sd{s:d7 X}:∀{rs:U ResultVar}{ds:U (DV X)},YP T s rs=some ds->o8 T s.st rs=some (bQ ds)
 |[],ds,h=>by simp[YP]at h;subst h;rfl
 |r::rs,ds,h=>by simp[YP]at h;have⟨d,h1,h⟩:=ah.1 h;have⟨ds',h2,h⟩:=ah.1 h;cases h;simp[o8,anG T h1,Sd h2,bQ]
def Sg:U (RT X.ι)->U (DV X)->J Nat
 |.mu _::l,ds=>Sg l ds
 |.mr _::l,ds=>Sg l ds
 |.mv::l,ds=>Sg l ds
 |.fresh _::l,d::ds=>match d with
  |.own k _ _=>some k
  |_=>Sg l ds
 |.d _::l,_::ds=>Sg l ds
 |.whole _::l,_::ds=>Sg l ds
 |_,_=>none
def At:U (RT X.ι)->U (DV X)->U (Nat×Nat)
 |.mu _::l,ds=>At l ds
 |.mr _::l,ds=>At l ds
 |.mv::l,ds=>At l ds
 |.whole j::l,d::ds=>match d with
  |.own _ _ len=>(j,len)::At l ds
  |_=>At l ds
 |.d _::l,_::ds=>At l ds
 |.fresh _::l,_::ds=>At l ds
 |_,_=>[]
def Ey:Nat->U (RT X.ι)->U Nat
 |_,[]=>[]
 |n,.mu _::l=>n::Ey (n+1) l
 |n,.mr _::l=>n::Ey (n+1) l
 |n,.mv::l=>Ey (n+1) l
 |n,_::l=>Ey n l
def sB:Nat->U (RT X.ι)->U Nat
 |_,[]=>[]
 |n,.mu _::l=>n::sB (n+1) l
 |n,.mr _::l=>sB (n+1) l
 |n,.mv::l=>sB (n+1) l
 |n,_::l=>sB n l
def No(bad ks:U Nat):Bool:=ks.all λk=>!bad.contains k
def aei(get:Nat->J (cg X))(row:U (DV X))(c:CT X.ι):J (CT.T X.toSE c×List Bool):=
 match c with
 |.st i=>(CP get row (X.d6 i)).bind λh=>some (X.make i h.1,h.2)
 |c=>match row with
  |[d]=>UN get d c
  |_=>none
def JE(get:Nat->J (cg X))(c:CT X.ι):U (List (DV X))->J (List (CT.T X.toSE c)×List Bool)
 |[]=>some ([],[])
 |r::rs=>(aei get r c).bind λx=>(JE get c rs).bind λy=>some (x.1::y.1,x.2++y.2)
def Pq(get:Nat->J (cg X))(bad sd:U Nat)(fk:J Nat)(wl:U (Nat×Nat))(n:Nat):(q:RT X.ι)->U (DV X)->J ((RT.T X q×List Bool)×List (DV X))
 |.d c,d::ds=>if No bad (b7 d)then(He get d c).bind λx=>some (x,ds)else none
 |.fresh e,d::ds=>match d with
  |.nil=>some (([],[]),ds)
  |.own k 0 len=>if fk=some k then(get k).bind λo=>match o with
   |.ey b l=>(l6 (.sl b) (.sl e) l).bind λ(l:List (CT.T X.toSE e))=>some ((sub l 0 len,[bk (sub l 0 len).length len]),ds)
   |.cells sz rows=>if sz=CT.sz X e/\No bad (rows.map aS).flatten=true then(JE get e rows).bind λx=>some ((x.1,bk len (List.length x.1)::x.2),ds)else none
   |.map _ _ _=>none
   else none
  |_=>none
 |.whole j,d::ds=>match d with
  |.own k 0 len=>if k=j/\sd.contains j=true then(lk wl j).bind λeR=>some (((),[bk len eR]),ds)else none
  |_=>none
 |.mu c,ds=>(get n).bind λo=>match o with
  |.ey b l=>(l6 (.sl b) (.sl c) l).bind λ(l:List (CT.T X.toSE c))=>match lk wl n with
   |some len=>some ((sub l 0 len,[bk (sub l 0 len).length len]),ds)
   |none=>some ((l,[]),ds)
  |_=>none
 |.mr c,ds=>(get n).bind λo=>match o with
  |.cells sz [row]=>if sz=CT.sz X c/\No bad (aS row)=true then(aei get row c).bind λx=>some (x,ds)else none
  |_=>none
 |.mv,ds=>some (((),[]),ds)
 |_,[]=>none
def Ps(get:Nat->J (cg X))(bad sd:U Nat)(fk:J Nat)(wl:U (Nat×Nat)):Nat->(l:U (RT X.ι))->(ds:U (DV X))->J (uM X l×List Bool)
 |_,[],ds=>match ds with
  |[]=>some ((),[])
  |_=>none
 |n,[q],ds=>(Pq get bad sd fk wl n q ds).bind λp=>match p.2 with
  |[]=>some p.1
  |_=>none
 |n,q::q'::l,ds=>(Pq get bad sd fk wl n q ds).bind λp=>(Ps get bad sd fk wl (if q.out then n+1 else n) (q'::l) p.2).bind λy=>some ((p.1.1,y.1),p.1.2++y.2)
def R0(s:d7 X)(l:U (RT X.ι))(ds:U (DV X)):J (uM X l×List Bool):=
 if No (Ey 0 l) (Sg l ds).toList then Ps (iz s.obj) (Ey 0 l++(Sg l ds).toList) (sB 0 l) (Sg l ds) (At l ds) 0 l ds else none
def arS(rs:U ResultVar)(l:U (RT X.ι)):Exit->d7 X->J (uM X l)
 |.normal,s=>xy T s rs λds=>(R0 s l ds).bind λx=>Yb x.2 (some x.1)
 |.ret,s=>xy T s rs λds=>(R0 s l ds).bind λx=>Yb x.2 (some x.1)
 |_,_=>none
def exit(A:Type)(k:d7 X->J A):Exit->d7 X->J A
 |.normal,s=>k s
 |.ret,s=>k s
 |_,_=>none
variable {T}
section
variable {get:Nat->Option (cg X)} {fk:Option Nat} {os':List (Option fD)} {bad:List Nat}
theorem F4{ks:U Nat}(h:No bad ks=true):∀j∈ks,j∉bad:=λj hj=>by simpa using all_eq_true.1 h j hj
theorem Si(hbad:∀j,j∉bad->fk≠some j/\¬kept os' j){d:DV X}{c:CT X.ι}{x:CT.T X.toSE c×List Bool}(hc:c.one=true)(h:UN get d c=some x)(hb:∀b∈x.2,b=true)(nq:∀j∈b7 d,j∉bad):∃t,CT.tv X.toSE c x.1=.s t/\B5 (fT get) fk os' (den d) t:=by
 obtain⟨t,h1,h2⟩:=row_one hc x.1;refine⟨t,h2,?_⟩;have hbase:∀y,Nb d c=some y->y=x.1->B5 (fT get) fk os' (den d) t:=by intro y hy he;subst he;have h3:=xJ hy;rw[h2]at h3;unfold Nb at hy;split at hy;rw[(qh hy).1];simp[den,h2,TV.av,B5];simp[den,Gb.wk,TV.av]at h3;exact h3.symm;simp[den,Gb.wk,TV.av]at h3;exact h3.symm;cases hy
 unfold UN at h;split at h;rename_i kk ab len e;rw[ah]at h;obtain⟨o,h3,h⟩:=h;split at h;rename_i b l0;rw[ah]at h;obtain⟨l,h4,h⟩:=h;cases h;have h5:(sub l ab len).length=len:=by simpa[bk]using hb (bk (sub l ab len).length len) (by simp)
 have⟨h6,h7⟩:=jN h4;obtain⟨hf1,hf2⟩:=hbad kk (nq kk (by simp[b7]));refine⟨hf1,hf2,bS (.ey b l0),(sub l ab len).map (CT.row X.toSE e),by simp[fT,h3],?_,by simpa using h5,?_⟩;simp[bS,h7];simp[aK,sub];simpa[CT.row]using h1.symm;cases h;rename_i kk ab len;rw[ah]at h;obtain⟨o,h3,h⟩:=h;split at h;rename_i b l0;cases h;have h5:(sub l0 ab len).length=len:=by simpa[bk]using hb (bk (sub l0 ab len).length len) (by simp)
 obtain⟨hf1,hf2⟩:=hbad kk (nq kk (by simp[b7]));refine⟨hf1,hf2,bS (.ey b l0),(sub l0 ab len).map (CT.row X.toSE b),by simp[fT,h3],?_,by simpa using h5,?_⟩;simp[bS];simp[aK,sub];simpa[CT.row]using h1.symm;cases h;rename_i kk len e;rw[ah]at h;obtain⟨o,h3,h⟩:=h;split at h;rename_i b l0;have⟨l,h4,h⟩:=ah.1 h;cases h;have h5:(sub l 0 len).length=len:=by simpa[bk]using hb (bk (sub l 0 len).length len) (by simp)
 have⟨h6,h7⟩:=jN h4;obtain⟨hf1,hf2⟩:=hbad kk (nq kk (by simp[b7]));refine⟨hf1,hf2,bS (.ey b l0),(sub l 0 len).map (CT.row X.toSE e),by simp[fT,h3],?_,by simpa using h5,?_⟩;simp[bS,h7];simp[aK,sub];simpa[CT.row]using h1.symm;cases h;have⟨y,h3,h⟩:=ah.1 h;injection h with h;exact hbase y h3 (by rw[<- h])
theorem Nl(hbad:∀j,j∉bad->fk≠some j/\¬kept os' j):∀{ds:U (DV X)}{l:U (CT X.ι)}{h:HL X.toSE l×List Bool},CP get ds l=some h->(∀ b∈h.2,b=true)->l.all CT.one=true->(∀ j∈aS ds,j∉bad)->ll (fT get) fk os' (bQ ds) (HL.row X.toSE l h.1)
 |[],[],h,_,_,_,_=>trivial
 |d::ds,c::l,h,hr,hb,ha,nq=>by simp[CP]at hr;have⟨x,h1,hr⟩:=ah.1 hr;have⟨g,h2,hr⟩:=ah.1 hr;cases hr;simp only[List.all_cons,aY]at ha;obtain⟨t,i1,i2⟩:=Si hbad ha.1 h1 (λ b hb'=>hb b (by simp[hb'])) (λ j hj=>nq j (by simp[aS,hj]));have i3:=Nl hbad h2 (λ b hb'=>hb b (by simp[hb'])) ha.2 (λ j hj=>nq j (by simp[aS,hj]));obtain⟨t',j1,j2⟩:=row_one ha.1 x.1;rw[i1]at j2;cases j2;show ll (fT get) fk os' (den d::bQ ds) (CT.row X.toSE c x.1++HL.row X.toSE l g.1);rw[j1];exact⟨i2,i3⟩
 |[],_::_,_,hr,_,_,_|_::_,[],_,hr,_,_,_=>by simp[CP]at hr
theorem U0(hbad:∀j,j∉bad->fk≠some j/\¬kept os' j){row:U (DV X)}{c:CT X.ι}{x:CT.T X.toSE c×List Bool}(h:aei get row c=some x)(hb:∀b∈x.2,b=true)(nq:∀j∈aS row,j∉bad):ll (fT get) fk os' (bQ row) (CT.row X.toSE c x.1):=by
 cases c
 case st i=>
  replace h:(CP get row (X.d6 i)).bind (λ h=>some (X.make i h.1,h.2))=some x:=h
  have⟨g,h1,h⟩:=ah.1 h;cases h;have:=Nl hbad h1 hb (X.flat i) nq;show ll (fT get) fk os' (bQ row) (X.row i (X.make i g.1));rw[X.ii];exact this
 all_goals
  match row,h,nq with
  |[d],h,nq=>
   obtain⟨t,i1,i2⟩:=Si (fk:=fk) hbad rfl h hb (λ j hj=>nq j (by simp[aS,hj]));obtain⟨t',j1,j2⟩:=row_one rfl x.1;rw[i1]at j2;cases j2;rw[j1];exact⟨i2,trivial⟩
  |[],h,_|_::_::_,h,_=>cases h
theorem Pv(hbad:∀j,j∉bad->fk≠some j/\¬kept os' j){c:CT X.ι}:∀{rows:U (List (DV X))}{x:U (CT.T X.toSE c)×List Bool},JE get c rows=some x->(∀ b∈x.2,b=true)->(∀ j∈(rows.map aS).flatten,j∉bad)->dp (fT get) fk os' (rows.map bQ) (x.1.map (CT.row X.toSE c))/\rows.length=List.length x.1
 |[],x,h,_,_=>by simp[JE]at h;subst h;exact⟨trivial,rfl⟩
 |r::rs,x,h,hb,nq=>by simp[JE]at h;have⟨y,h1,h⟩:=ah.1 h;have⟨z,h2,h⟩:=ah.1 h;cases h;have i1:=U0 hbad h1 (λ b hb'=>hb b (by simp[hb'])) (λ j hj=>nq j (by simp[hj]));obtain⟨i2,i3⟩:=Pv hbad h2 (λ b hb'=>hb b (by simp[hb'])) (λ j hj=>nq j (by simp only[bK,List.flatten_cons,bD];exact .inr hj));exact⟨⟨i1,i2⟩,by simp[i3]⟩
theorem anH{x:AV}{t:Tree}(h:B5 (fT get) fk os' x t):Hp (fT get) fk os' x (.d (.s t)):=by cases x<;>first|exact h|exact h.elim
theorem F5(sz:CT X.ι)(l:U (CT.T X.toSE sz)):dp (fT get) fk os' (aK (l.map (CT.row X.toSE sz))) (l.map (CT.row X.toSE sz)):=by
 generalize l.map (CT.row X.toSE sz)=rows
 induction rows with
 |nil=>trivial
 |cons r rs ih=>
  refine⟨?_,ih⟩
  induction r with
  |nil=>trivial
  |cons y ys ih2=>exact⟨rfl,ih2⟩
theorem anI(hbad:∀j,j∉bad->fk≠some j/\¬kept os' j){c:CT X.ι}{d:DV X}{x:CT.T X.toSE c×List Bool}(h:He get d c=some x)(nq:∀j∈b7 d,j∉bad)(hb:∀b∈x.2,b=true):Hp (fT get) fk os' (den d) (.d (CT.tv X.toSE c x.1)):=by
 cases c
 case st i=>
  replace h:HH get d i=some x:=h
  cases d
  case agg cs=>
   simp[HH]at h;have⟨g,h1,h⟩:=ah.1 h;cases h;have:=Nl (fk:=fk) hbad h1 hb (X.flat i) (by simpa[b7]using nq);show ll (fT get) fk os' (bQ cs) (X.row i (X.make i g.1));rw[X.ii];exact this
  case c a y=>
   simp[HH]at h;have⟨z,h1,h⟩:=ah.1 h;cases h;rw[(qh h1).1];show ll (fT get) fk os' ((X.row i z).map AV.t) (X.row i z);generalize X.row i z=l
   induction l with
   |nil=>trivial
   |cons y ys ih=>exact⟨rfl,ih⟩
  all_goals cases h
 all_goals
  have⟨t,i1,i2⟩:=Si (fk:=fk) hbad rfl h hb nq;rw[i1];exact anH i2
theorem YQ{sd:U Nat}{wl:U (Nat×Nat)}{ns:U Nat}{n:Nat}(hbad:∀j,j∉bad->fk≠some j/\¬kept os' j)(rL:∀k,fk=some k->¬kept os' k)(hns:∀j eR,j∈sd->lk wl j=some eR->ns.getD j 0=eR)(hmu:∀j∈sd,kept os' j){q:RT X.ι}{ds:U (DV X)}{p:(RT.T X q×List Bool)×List (DV X)}(h:Pq get bad sd fk wl n q ds=some p)(hb:∀b∈p.1.2,b=true):
 (∀ cs,nw (fT get) fk os' (bQ p.2) cs->nw (fT get) fk os' (bQ ds) (Yo ns q p.1.1++cs))/\
 (∀ t,sw q p.1.1=[some t]->∃o,get n=some o/\(bS o).sz=t.1/\dp (fT get) fk os' ((bS o).rows.take t.2.length) t.2)/\
 (∀ eR c,q=.mu c->lk wl n=some eR->xz q p.1.1=[eR]):=by
 cases q
 case d c=>
  cases ds with
  |nil=>simp[Pq]at h
  |cons d ds=>
   simp only[Pq]at h;split at h;rename_i hnb;rw[ah]at h;obtain⟨x,h1,h⟩:=h;cases h;exact⟨λ cs hcs=>⟨anI hbad h1 (F4 hnb) hb,hcs⟩,λt ht=>by simp[sw]at ht,λ_ _ h=>by cases h⟩;cases h
 case fresh e=>
  cases ds with
  |nil=>simp[Pq]at h
  |cons d ds=>
   refine⟨λ cs hcs=>?_,λt ht=>by simp[sw]at ht,λ_ _ h=>by cases h⟩;simp[Pq]at h;split at h;cases h;exact⟨rfl,hcs⟩;rename_i k len;split at h;rename_i nq;rw[ah]at h;obtain⟨o,h1,h⟩:=h;split at h;rename_i b l0;rw[ah]at h;obtain⟨l,h2,h⟩:=h;cases h;have⟨h3,h4⟩:=jN h2;have h5:(sub l 0 len).length=len:=(by simpa[bk]using hb (bk (sub l 0 len).length len) (by simp));refine⟨⟨nq,rL k nq,rfl,bS (.ey b l0),by simp[fT,h1],by exact h3,?_,by simpa using h5⟩,hcs⟩;have e1:(bS (.ey b l0)).rows.take len=aK ((sub l 0 len).map (CT.row X.toSE e)):=(by simp[bS,h4];simp[aK,sub]);rw[e1];exact F5 e _;rename_i sz rows;split at h;rename_i hc;rw[ah]at h;obtain⟨x,h2,h⟩:=h;cases h;obtain⟨i1,i2⟩:=Pv (fk:=fk) hbad h2 (λ b hb'=>hb b (by simp[hb'])) (F4 hc.2);have h5:len=List.length x.1:=(by simpa[bk]using hb (bk len (List.length x.1)) (by simp));refine⟨⟨nq,rL k nq,rfl,bS (.cells sz rows),by simp[fT,h1],hc.1,?_,by simpa using h5.symm⟩,hcs⟩;simp[bS];rw[List.take_of_length_le (by simp;omega)];exact i1;cases h;cases h;cases h;cases h
 case whole j=>
  cases ds with
  |nil=>simp[Pq]at h
  |cons d ds=>
   refine⟨λ cs hcs=>?_,λt ht=>by simp[sw]at ht,λ_ _ h=>by cases h⟩;simp[Pq]at h;split at h;rename_i k len;split at h;rename_i hc;obtain⟨rfl,hm⟩:=hc;rw[ah]at h;obtain⟨eR,h1,h⟩:=h;cases h;have h5:len=eR:=(by simpa[bk]using hb (bk len eR) (by simp));have hm:k∈sd:=(by simpa using hm);refine⟨⟨rfl,rfl,?_,hmu k hm⟩,hcs⟩;rw[h5];exact hns k eR hm h1;cases h;cases h
 case mu c=>
  simp[Pq]at h;rw[ah]at h;obtain⟨o,h1,h⟩:=h;split at h;rename_i b l0;rw[ah]at h;obtain⟨l,h2,h⟩:=h;have⟨h3,h4⟩:=jN h2;split at h;rename_i len hl;cases h;have h5:(sub l 0 len).length=len:=by simpa[bk]using hb (bk (sub l 0 len).length len) (by simp)
  refine⟨λ cs hcs=>hcs,λt ht=>?_,λeR c' _ hl'=>?_⟩;simp[sw]at ht;subst ht;refine⟨_,h1,by exact h3,?_⟩;have e1:(bS (.ey b l0)).rows.take (vZ c (sub l 0 len)).2.length=aK (vZ c (sub l 0 len)).2:=by simp[bS,h4,vZ];simp[aK,sub]
  rw[e1];exact F5 c _;rw[hl]at hl';injection hl' with hl';subst hl';simp[xz,h5];rename_i hl;cases h;refine⟨λ cs hcs=>hcs,λt ht=>?_,λeR c' _ hl'=>by rw[hl]at hl';cases hl'⟩;simp[sw]at ht;subst ht;refine⟨_,h1,by simp[vZ];exact h3,?_⟩;have e1:(bS (.ey b l0)).rows.take (vZ c l).2.length=aK (vZ c l).2:=by simp[bS,h4,vZ];rw[List.take_of_length_le (by simp[aK])]
  rw[e1];exact F5 c _;cases h
 case mr c=>
  simp[Pq]at h;rw[ah]at h;obtain⟨o,h1,h⟩:=h;split at h;rename_i sz row;split at h;rename_i hc;have⟨x,h2,h⟩:=ah.1 h;cases h;refine⟨λ cs hcs=>hcs,λt ht=>?_,λ_ _ h=>by cases h⟩;simp[sw,List.cons.injEq,and_true]at ht;subst ht;refine⟨_,h1,by simp[bS,vZ];exact hc.1,?_⟩;exact⟨U0 hbad h2 hb (F4 hc.2),trivial⟩;cases h;cases h
 case mv=>
  simp[Pq]at h;subst h;exact⟨λ cs hcs=>hcs,λt ht=>by simp[sw]at ht,λ_ _ h=>by cases h⟩
theorem JF{q:RT X.ι}{x:RT.T X q}:(sw q x).length=(if q.out then 1 else 0)/\(xz q x).length=(if q.out then 1 else 0):=by cases q<;>exact⟨rfl,rfl⟩
theorem JG{n j:Nat}{q:RT X.ι}{l:U (RT X.ι)}:j∈sB n (q::l)->(j=n/\∃c,q=.mu c)\/j∈sB (if q.out then n+1 else n) l:=by
 cases q<;>simp only[sB,RT.out,if_true,Bool.false_eq_true,if_false,aG]
 case mu c=>exact λh=>h.imp (λ h=>⟨h,c,rfl⟩) id
 all_goals exact .inr
theorem ai3{j:Nat}:∀{l:U (RT X.ι)}{n:Nat},j∈sB n l->n<=j
 |[],n,h=>by simp[sB]at h
 |q::l,n,h=>by rcases JG h with ⟨rfl,_⟩|h;exact aB _;have:=ai3 h;split at this<;>omega
theorem agm:∀{l:U (RT X.ι)}{x:uM X l}{n j:Nat},j∈sB n l->∃p,(pX l x)[j-n]? =some (some p)
 |[],x,n,j,h=>by simp[sB]at h
 |[q],x,n,j,h=>by rcases JG h with ⟨rfl,c,rfl⟩|h;exact⟨_,by simp;rfl⟩;simp[sB]at h
 |q::q'::l,x,n,j,h=>by
  rcases JG h with ⟨rfl,c,rfl⟩|h;exact⟨_,by simp;rfl⟩;have⟨p,hp⟩:=agm (l:=q'::l) (x:=x.2) h;have hge:=ai3 h;refine⟨p,?_⟩;show(sw q x.1++pX (q'::l) x.2)[j-n]? =_;have hl:=(JF (q:=q) (x:=x.1)).1
  all_goals grind
theorem Ez:∀{l:U (RT X.ι)}{x:uM X l}{n j:Nat}{p:fD},(pX l x)[j]? =some (some p)->n+j∈Ey n l
 |[],x,n,j,p,h=>by simp[pX]at h
 |[q],x,n,j,p,h=>by
  have h:(sw q x)[j]? =some (some p):=h;cases q<;>simp[sw]at h
  case mu c=>cases j<;>simp at h<;>simp[Ey]
  case mr c=>cases j<;>simp at h<;>simp[Ey]
  case mv=>cases j<;>simp at h
 |q::q'::l,x,n,j,p,h=>by
  have h:(sw q x.1++pX (q'::l) x.2)[j]? =some (some p):=h;cases q
  case mu c=>
   rcases j with _|j;simp[Ey];have:=Ez (l:=q'::l) (x:=x.2) (n:=n+1) (by simpa[sw]using h);right;rw[show n+(j+1)=n+1+j by omega];exact this
  case mr c=>
   rcases j with _|j;simp[Ey];have:=Ez (l:=q'::l) (x:=x.2) (n:=n+1) (by simpa[sw]using h);right;rw[show n+(j+1)=n+1+j by omega];exact this
  case mv=>
   rcases j with _|j;simp[sw]at h;have:=Ez (l:=q'::l) (x:=x.2) (n:=n+1) (by simpa[sw]using h);rw[show n+(j+1)=n+1+j by omega];exact this
  all_goals
   exact Ez (l:=q'::l) (x:=x.2) (by simpa[sw]using h)
theorem agn{sd:U Nat}{wl:U (Nat×Nat)}{n:Nat}{q:RT X.ι}{ds:U (DV X)}{p:(RT.T X q×List Bool)×List (DV X)}(h:Pq get bad sd fk wl n q ds=some p)(hb:∀b∈p.1.2,b=true):∀eR c,q=.mu c->lk wl n=some eR->xz q p.1.1=[eR]:=by
 rintro eR c rfl hl;simp[Pq]at h;have⟨o,h1,h⟩:=ah.1 h;split at h;have⟨l,h2,h⟩:=ah.1 h;rw[hl]at h;cases h;have h5:(sub l 0 eR).length=eR:=by simpa[bk]using hb (bk (sub l 0 eR).length eR) (by simp)
 simp[xz,h5];cases h
theorem Nn{sd:U Nat}{wl:U (Nat×Nat)}:∀{n:Nat}{l:U (RT X.ι)}{ds:U (DV X)}{x:uM X l×List Bool},Ps get bad sd fk wl n l ds=some x->(∀ b∈x.2,b=true)->∀j eR,n+j∈sB n l->lk wl (n+j)=some eR->(An l x.1).getD j 0=eR
 |n,[],ds,x,h,hb,j,eR,hm,_=>by simp[sB]at hm
 |n,[q],ds,x,h,hb,j,eR,hm,hl=>by
  simp[Ps]at h;have⟨p,h1,h⟩:=ah.1 h;split at h;cases h;rcases JG hm with ⟨e,c,rfl⟩|hm;have e:j=0:=by omega
  subst e;have:=(agn h1 hb) eR c rfl hl;show(xz _ p.1.1).getD 0 0=eR;rw[this];rfl;simp[sB]at hm;cases h
 |n,q::q'::l,ds,x,h,hb,j,eR,hm,hl=>by
  simp[Ps]at h;have⟨p,h1,h⟩:=ah.1 h;have⟨y,h2,h⟩:=ah.1 h;cases h;have hlen:=(JF (q:=q) (x:=p.1.1)).2;rcases JG hm with ⟨e,c,rfl⟩|hm;have e:j=0:=by omega
  subst e;have:=(agn h1 (λ b hb'=>hb b (by simp[hb']))) eR c rfl hl;show(xz _ p.1.1++An (q'::l) y.1).getD 0 0=eR;rw[this];rfl;have hge:=ai3 hm;show(xz _ p.1.1++An (q'::l) y.1).getD j 0=eR;by_cases hq:q.out=true;rw[aM hq]at h2 hm hge hlen;have:=Nn h2 (λ b hb'=>hb b (by simp[hb'])) (j-1) eR ((show n+1+(j-1)=n+j by omega) ▸ hm) ((show n+1+(j-1)=n+j by omega) ▸ hl);rw[List.getD_eq_getElem?_getD,jf (by omega),hlen];exact this;rw[aC hq]at h2 hm hge hlen;have:=Nn h2 (λ b hb'=>hb b (by simp[hb'])) j eR hm hl;rw[List.getD_eq_getElem?_getD,jf (by omega),hlen];exact this
theorem acT{sd:U Nat}{wl:U (Nat×Nat)}{ns:U Nat}(hbad:∀j,j∉bad->fk≠some j/\¬kept os' j)(rL:∀k,fk=some k->¬kept os' k)(hns:∀j eR,j∈sd->lk wl j=some eR->ns.getD j 0=eR)(hmu:∀j∈sd,kept os' j):∀{n:Nat}{l:U (RT X.ι)}{ds:U (DV X)}{x:uM X l×List Bool},Ps get bad sd fk wl n l ds=some x->(∀ b∈x.2,b=true)->
 nw (fT get) fk os' (bQ ds) (CO ns l x.1)/\∀j t,(pX l x.1)[j]? =some (some t)->∃o,get (n+j)=some o/\(bS o).sz=t.1/\dp (fT get) fk os' ((bS o).rows.take t.2.length) t.2
 |n,[],ds,x,h,_=>by simp[Ps]at h;split at h;exact⟨trivial,λj t ht=>by simp[pX]at ht⟩;cases h
 |n,[q],ds,x,h,hb=>by
  simp[Ps]at h;rw[ah]at h;obtain⟨p,h1,h⟩:=h;split at h;rename_i hp;cases h;have⟨i1,i2,_⟩:=YQ (ns:=ns) hbad rL hns hmu h1 hb;rw[hp]at i1;have:=i1 [] trivial;rw[append_nil]at this;refine⟨this,λj t ht=>?_⟩;have ht:(sw q p.1.1)[j]? =some (some t):=ht;have hl:=(JF (q:=q) (x:=p.1.1)).1;have hj:=(dO.1 ht).1;have hj0:j=0:=by split at hl<;>omega
  subst hj0;refine i2 t ?_
  match ho:sw q p.1.1,ht,hl with
  |[z],ht,_=>simpa using ht
  |[],ht,_=>simp at ht
  |_::_::_,_,hl=>simp at hl;split at hl<;>omega
  cases h
 |n,q::q'::l,ds,x,h,hb=>by
  simp[Ps]at h;have⟨p,h1,h⟩:=ah.1 h;have⟨y,h2,h⟩:=ah.1 h;cases h;obtain⟨i1,i2,_⟩:=YQ (ns:=ns) hbad rL hns hmu h1 (λ b hb'=>hb b (by simp[hb']));obtain⟨k1,k2⟩:=acT (ns:=ns) hbad rL hns hmu h2 (λ b hb'=>hb b (by simp[hb']));refine⟨i1 _ k1,λj t ht=>?_⟩;have ht:(sw q p.1.1++pX (q'::l) y.1)[j]? =some (some t):=ht;have hl:=(JF (q:=q) (x:=p.1.1)).1;by_cases hq:q.out=true;rw[aM hq]at k2 hl;cases j with
  |zero=>
   refine i2 t ?_
   match ho:sw q p.1.1,ht,hl with
   |[z],ht,_=>simpa using ht
   |[],_,hl|_::_::_,_,hl=>simp at hl
  |succ j=>
   rw[jf (by omega),hl,Nat.add_sub_cancel]at ht;rw[show n+(j+1)=n+1+j by omega];exact k2 j t ht
  rw[aC hq]at k2 hl;rw[jf (by omega),hl,Nat.sub_zero]at ht;exact k2 j t ht
end
theorem nw.R{get:E}{fk:J Nat}{os':U (Option fD)}:∀{xs:U AV}{cs:U RC},nw get fk os' xs cs->Hm get fk os' xs (match cs with|[c]=>.one c|cs=>.fR cs)
 |[],[],_=>rfl
 |[_],[_],h=>h.1
 |_::_::_,_::_::_,h=>h
 |[],_::_,h|_::_,[],h=>h.elim
 |[_],_::_::_,h|_::_::_,[_],h=>h.2.elim
theorem anJ{s:d7 X}{rs:U ResultVar}{l:U (RT X.ι)}{r:uM X l}(h:(xy T s rs λds=>(R0 s l ds).bind λx=>Yb x.2 (some x.1))=some r):∃xs fk,o8 T s.st rs=some xs/\Hm s.st.obj fk (pX l r) xs (uU l r)/\PC s.st.obj fk (pX l r):=by
 have⟨ds,h1,h⟩:=Lh T h;rw[ah]at h;obtain⟨x,h2,h⟩:=h;have⟨h3,h⟩:=rq h;cases h;unfold R0 at h2;split at h2;rename_i hnb;have hkn:∀j,kept (pX l x.1) j->j∈Ey 0 l:=λj ⟨p,hp⟩=>by have:=Ez (n:=0) hp;simpa using this
 have hbad:∀j,j∉Ey 0 l++(Sg l ds).toList->Sg l ds≠some j/\¬kept (pX l x.1) j:=by intro j hj;simp at hj;exact⟨hj.2,λh=>hj.1 (hkn j h)⟩
 have rL:∀k,Sg l ds=some k->¬kept (pX l x.1) k:=λk hk hkk=>F4 hnb k (by simp[hk]) (hkn k hkk);have hmu:∀j∈sB 0 l,kept (pX l x.1) j:=λj hj=>by have⟨p,hp⟩:=agm (x:=x.1) hj;exact⟨p,by simpa using hp⟩
 obtain⟨i1,i2⟩:=acT (ns:=An l x.1) hbad rL (λ j eR hj hl=>Nn h2 h3 j eR (by simpa using hj) (by simpa using hl)) hmu h2 h3;have j8:s.st.obj=fT (iz s.obj):=rfl;refine⟨bQ ds,Sg l ds,Sd T h1,?_,λj p hp=>?_⟩;exact i1.R;have⟨o,g1,g2,g3⟩:=i2 j p hp;rw[Nat.zero_add]at g1;exact⟨λ e=>rL j e ⟨p,hp⟩,bS o,by rw[j8];simp[fT,g1],g2,by rw[j8];exact g3⟩;cases h2
variable {Γ:FuncId->Option (ct X)} {an:TypeId->Option (CT X.ι)} {P:Program}
theorem arT(hT : fQ P T)(hm : P.follows .mixedOrders = true)(hΓ : te P Γ){f : FuncId}{fn : Func}{c : Code}(hfn : P.funcs[f]? = some fn)(hb : fn.body = some c)(hname : (fn.name == "runtime.NumGoroutine") = false)(sa : U (AT X.ι))(sr : U (RT X.ι))(hN : sa.length <= fn.ntmps /\ xN sa <= 1000 /\ (sr.filter RT.out).length = xN sa)
 (h:Hn X.ι) (n:Nat) {a:jC X sa} {r:uM X sr} (hr:run Γ T an fn.ntmps n c (uM X sr) h (CH sa a) (arS T fn.results.toList sr)=some r):rN P f (Ac sa a) (wh sa a) (pX sr r) (uU sr r):=by
 have hl:(pX sr r).length=(wh sa a).length:=by
  rw[xP,<- hN.2.2];have:∀(sr:U (RT X.ι))(r:uM X sr),(pX sr r).length=(sr.filter RT.out).length:=by
   intro sr
   induction sr with
   |nil=>intro r;rfl
   |cons q l ih=>
    intro r;have hq:∀x:RT.T X q,(sw q x).length=(if q.out then 1 else 0):=λx=>JF.1;cases l with
    |nil=>
     show(sw q r).length=_;rw[hq];by_cases e:q.out=true<;>simp[e]
    |cons q' l=>
     show(sw q r.1++pX (q'::l) r.2).length=_;rw[bW,hq,ih r.2];by_cases e:q.out=true<;>simp[e];omega
  exact this sr r
 refine acj hT hfn hb hname (by rw[uY];exact hN.1) (λ k hk=>?_) (by rw[xP];exact hN.2.1) hl ?_;rw[Ac,<- zN,jw]at hk;have:=qN 0 sa a k hk;have:=hN.2.1;omega;rw[<- aq2];refine(l8 hT hm hΓ c _ h _ _ r (apD sa a hN.2.1) hr).mono ?_;rintro e M ⟨s',_,_,rfl,g4⟩;cases e<;>first|exact anJ g4|cases g4
theorem xQ{f : FuncId}{fn : Func}{c : Code}(hfn : P.funcs[f]? = some fn)(hb : fn.body = some c)(hname : (fn.name == "runtime.NumGoroutine") = false): fP P f := ⟨fn, hfn, by rw [hb]; rfl, hname⟩
abbrev GT(P:Program)(f:FuncId)(s:ct X):Prop:=fP P f/\(∀ a r,s.fn a=some r->rN P f (Ac s.args a) (wh s.args a) (pX s.res r) (uU s.res r))/\∀g,s.gen=some g->Mu P f g
theorem A2{P:Ξ}{f:FuncId}{s:ct X}(h:fP P f)(h1:∀a r,s.fn a=some r->rN P f (Ac s.args a) (wh s.args a) (pX s.res r) (uU s.res r))(hg:s.gen=none):GT P f s:=by grind
theorem aq3{P:Ξ}{f:FuncId}{g:dg X}(h:fP P f)(hg:Mu P f g):GT P f ⟨[],[.d .bool],λ_=>none,some g⟩:=by grind
def pf(s t:ct X):ct X:=⟨s.args,s.res,s.fn,t.gen⟩
def y6(l:U (FuncId×ct X)):FuncId->J (ct X):=λf=>lk l f
theorem aA:te P (y6 ([]:U (FuncId×ct X))):=λ_ _ h=>by cases h
theorem au{f:FuncId}{s:ct X}{l:U (FuncId×ct X)}(h:GT P f s)(hl:te P (y6 l)):te P (y6 ((f,s)::l)):=by intro g q hg;simp[y6,lk]at hg;split at hg;rename_i e;cases hg;subst e;exact h;exact hl g q hg
end
section
variable {X:SX} {T:eS}
theorem Np(ol:Nat->Nat):∀(ps:U (Pt X.ι))(L:U (DC X)),(lP ol ps L).1.length=ps.length
 |[],_=>rfl
 |p::ps,L=>by simp[lP,Np ol ps]
def dg.CI(g:dg X):Bool:=
 decide (g.j7.map (·.1)=List.range g.j7.length)&&decide (g.j7.length<=1000)&&((CQ g.pS).all λk=>Nat.blt k 1000)&&g.j7.all λq=>q.2.refs.all λk=>Nat.blt k 1000
def Hs(g:dg X)(v:VT (X:=X) (c7 g.pS++dE g.j7)):d7 X:=⟨(List.range g.pS.length).zip (g.args v),NX g.pS g.j7 (xL _ v),1000,[]⟩
theorem wL{ol:Nat->Nat}:∀(O:U (Nat×OP X.ι))(L:U (DC X)),dL ol O L=(dW (dL ol O L)).map λp=>(p.1,some p.2)
 |[],L=>rfl
 |(k,.l c)::O,L=>by
  match L with
  |[]=>rfl
  |⟨.sl c',x⟩::L=>simp[dL,dW];rw[<- wL O L]
  |⟨.int _,x⟩::L|⟨.bool,x⟩::L|⟨.str,x⟩::L|⟨.any,x⟩::L|⟨.st _,x⟩::L|⟨.mp _ _,x⟩::L=>rfl
 |(k,.m kc vc)::O,L=>by
  match L with
  |[]=>rfl
  |⟨.mp _ _,x⟩::L=>simp[dL,dW];rw[<- wL O L]
  |⟨.sl _,x⟩::L|⟨.int _,x⟩::L|⟨.bool,x⟩::L|⟨.str,x⟩::L|⟨.any,x⟩::L|⟨.st _,x⟩::L=>rfl
 |(k,.c sz rows)::O,L=>by simp[dL,dW];rw[<- wL O _]
theorem F6{ol:Nat->Nat}:∀(O:U (Nat×OP X.ι))(L:U (DC X)),L.map (·.c)=dE O->(dW (dL ol O L)).map (·.1)=O.map (·.1)
 |[],L,_=>rfl
 |(k,.l c)::O,L,h=>by
  match L,h with
  |⟨.sl c',x⟩::L,h=>
   simp[dE]at h;simp[dL,dW,F6 O L h.2]
  |[],h|⟨.int _,x⟩::L,h|⟨.bool,x⟩::L,h|⟨.str,x⟩::L,h|⟨.any,x⟩::L,h|⟨.st _,x⟩::L,h|⟨.mp _ _,x⟩::L,h=>simp[dE]at h
 |(k,.m kc vc)::O,L,h=>by
  match L,h with
  |⟨.mp _ _,x⟩::L,h=>
   simp[dE]at h;simp[dL,dW,F6 O L h.2]
  |[],h|⟨.sl _,x⟩::L,h|⟨.int _,x⟩::L,h|⟨.bool,x⟩::L,h|⟨.str,x⟩::L,h|⟨.any,x⟩::L,h|⟨.st _,x⟩::L,h=>simp[dE]at h
 |(k,.c sz rows)::O,L,h=>by simp[dL,dW,F6 O _ (Nj (ol:=ol) rows L _ h).1]
theorem alW(g:dg X)(v:VT (X:=X) (c7 g.pS++dE g.j7))(h:g.j7.map (·.1)=List.range g.j7.length):(g.c8 v).map (·.1)=List.range (g.c8 v).length:=by have e:(g.c8 v).map (·.1)=g.j7.map (·.1):=F6 g.j7 _ (by rw[List.map_drop,aiX,List.drop_left]);have l:=congrArg List.length e;rw[length_map,length_map]at l;rw[e,h,l]
theorem YR(k:Nat):∀l:U (Nat×cg X),iz (l.map λp=>(p.1,some p.2)) k=ue l k
 |[]=>rfl
 |p::l=>by simp[iz,lk,ue];split;rfl;exact YR k l
theorem anK(t:Nat):∀(ks:U Nat)(ds:U (DV X)),den (fx (ks.zip ds) t)=(lk (ks.zip (bQ ds)) t).getD .undef:=by
 intro ks
 induction ks with
 |nil=>intro ds;rfl
 |cons k ks ih=>
  intro ds;cases ds with
  |nil=>rfl
  |cons d ds=>
   simp[fx,lk,bQ];by_cases h:k=t;simp[h];simp[aC h];exact ih ds
theorem acU(t:Nat):∀(ks:U Nat)(ds:U (DV X)),∀j∈b7 (fx (ks.zip ds) t),j∈aS ds:=by
 intro ks
 induction ks with
 |nil=>intro ds j hj;simp[fx,lk,b7]at hj
 |cons k ks ih=>
  intro ds j hj;cases ds with
  |nil=>simp[fx,lk,b7]at hj
  |cons d ds=>
   simp[fx,lk]at hj;simp[aS];by_cases e:k=t;simp[aM e]at hj;exact .inl hj;simp[aC e]at hj;exact .inr (ih ds j hj)
def F7(O:U (Nat×OP X.ι)):U (Nat×Pt X.ι)->U (Nat×CT X.ι)
 |[]=>[]
 |(t,.o k)::r=>match lk O k with
  |some (.l c)=>(t,c)::F7 O r
  |_=>F7 O r
 |(t,.oz k)::r=>match lk O k with
  |some (.l c)=>(t+1099511627776,c)::F7 O r
  |_=>F7 O r
 |_::r=>F7 O r
def YS(O:U (Nat×OP X.ι)):U (Nat×OP X.ι)->U (Nat×CT X.ι)
 |(q,.c _ [row])::r=>(F7 O (lR (1000000+q*4096) row)).filter (λ p=>Nat.ble p.1 1000000000)++YS O r
 |_::r=>YS O r
 |[]=>[]
def BV(g:dg X):Sh X.ι:=⟨lR 0 g.gA,g.j0,[],[],1000000,F7 g.j0 (lR 0 g.gA)++YS g.j0 g.j0⟩
def aqA(T:eS)(rs:U ResultVar)(g:dg X):Exit->d7 X->J (VT (X:=X) (BV g).vars)
 |.normal,s=>xy T s rs λds=>bif decide (ds.length=g.gA.length)&&(aS ds).all (λ k=>Nat.blt k s.nx)then
  uX (BV g) (List.range ds.length) ⟨(List.range ds.length).zip ds,s.obj,s.nx,s.log⟩ ⟨(List.range ds.length).zip ds,s.obj,s.nx,s.log⟩ some else none
 |.ret,s=>xy T s rs λds=>bif decide (ds.length=g.gA.length)&&(aS ds).all (λ k=>Nat.blt k s.nx)then
  uX (BV g) (List.range ds.length) ⟨(List.range ds.length).zip ds,s.obj,s.nx,s.log⟩ ⟨(List.range ds.length).zip ds,s.obj,s.nx,s.log⟩ some else none
 |_,_=>none
theorem YT{ol:Nat->Nat}(t:Nat):∀(n:Nat)(ps:U (Pt X.ι))(L:U (DC X)),fx (Ng ol (lR n ps) L) (n+t)=((lP ol ps L).1[t]?).getD .undef
 |n,[],L=>by simp[lR,Ng,fx,lk,lP]
 |n,p::ps,L=>by
  simp[lR,Ng,fx,lk,lP];cases t with
  |zero=>simp
  |succ t=>
   have:=YT (ol:=ol) t (n+1) ps (eP ol p L).2;rw[show n+1+t=n+(t+1)by omega]at this;simpa[fx]using this
theorem alX {P:Ξ} {g:dg X} {s:d7 X} {rs:U ResultVar} {r:VT (X:=X) (BV g).vars} (hl:Low s) (h:(xy T s rs λds=>bif decide (ds.length=g.gA.length)&&(aS ds).all (λ k=>Nat.blt k s.nx)then
 uX (BV g) (List.range ds.length) ⟨(List.range ds.length).zip ds,s.obj,s.nx,s.log⟩ ⟨(List.range ds.length).zip ds,s.obj,s.nx,s.log⟩ some else none)=some r):
 ∃xs,o8 T s.st rs=some xs/\PB P s.st.obj xs (uS (g.outs r)) (den (g.res r)):=by
 have⟨ds,h1,h⟩:=Lh T h;have⟨h2,h⟩:=eX h;simp only[aY,bF]at h2;obtain⟨h2,h3⟩:=h2;have hl':Low (⟨(List.range ds.length).zip ds,s.obj,s.nx,s.log⟩:d7 X):=⟨hl.le,hl.ge,λt k hk=>by have:=all_eq_true.1 h3 k (acU t _ _ k hk);exact Nat.blt_eq.mp this,hl.obj⟩;obtain⟨v,h4,_,_,hrel⟩:=mK hl' hl' (Ext.refl _ _) h;injection h4 with h4;subst h4;refine⟨bQ ds,Sd T h1,λw0 O0 G I w vs hM hv=>?_⟩;have hvl:=bp.length _ _ hv;simp[mI]at hvl;have hR:Rel P w0 O0 vs.size G I (⟨(List.range ds.length).zip ds,s.obj,s.nx,s.log⟩:d7 X).st { tmps:=vs,defers:=[] } w:=by
  refine⟨rfl,rfl,λt=>?_,hM⟩;show VR P G w I (den (fx ((List.range ds.length).zip ds) t)) (vs.getD t undef);rw[anK,show List.range ds.length=List.range (bQ ds).length by rw[mI],CK];cases ht:(bQ ds)[t]? with
  |none=>simp[VR]
  |some x=>
   obtain⟨u,g1,g2⟩:=bp.get _ _ t _ hv ht;rw[Array.getElem?_toList]at g1;simp[g1];exact g2
 obtain⟨β',hR'⟩:=hrel P w0 O0 _ G I _ w hR;have hn:(i9 (lR 0 g.gA)).length=(c7 g.gA).length:=by rw[R3]
 refine⟨β',I,?_,λ_ h=>h,?_⟩;have:=hR'.mem;have e:(encS (BV g) ⟨(List.range ds.length).zip ds,s.obj,s.nx,s.log⟩ v).st.obj=pP (uS (g.outs v)):=by funext k;simp[d7.st,encS,BV,R8,dg.outs,NX];rw[wL,YR,<- hn];rfl
 rw[e]at this;exact this;obtain⟨pv,hpv⟩:∃pv,pv=Yn g.gA g.j0 (xL (BV g).vars v):=⟨_,rfl⟩;have hres:g.res v=Ab pv:=by rw[hpv];rfl
 have sR:∀t,VR P β' w I (den ((pv[t]?).getD .undef)) (vs.getD t undef):=by intro t;have:=hR'.env t;simp only[d7.st,fL,encS,BV,List.map_nil,append_nil]at this;have e:=YT (ol:=FU g.j0 ((xL (BV g).vars v).drop (c7 g.gA).length)) t 0 g.gA ((xL (BV g).vars v).take (c7 g.gA).length);rw[Nat.zero_add]at e;rw[hpv];simp only[Yn];rw[<- e,<- hn];exact this
 have hpl:pv.length=g.gA.length:=by rw[hpv];exact Np _ _ _
 have hsz:vs.size=pv.length:=by rw[hpl,<- h2,hvl]
 rw[hres];have hall:bp P β' w I (bQ pv) vs.toList:=by
  have gen:∀(pv:U (DV X))(us:U Value),us.length=pv.length->(∀ t,t<pv.length->VR P β' w I (den ((pv[t]?).getD .undef)) (us.getD t undef))->bp P β' w I (bQ pv) us:=by
   intro pv
   induction pv with
   |nil=>intro us hl _;cases us<;>simp_all [bQ,bp]
   |cons d pv ih=>
    intro us hl hh;cases us with
    |nil=>simp at hl
    |cons u us=>
     simp[bQ];refine⟨by simpa using hh 0 (by simp),ih us (by simpa using hl) λt ht=>by simpa using hh (t+1) (by simpa using ht)⟩
  refine gen pv vs.toList (by simpa using hsz) λt ht=>?_;have e:vs.toList.getD t undef=vs.getD t undef:=by simp
  rw[e];exact sR t
 match pv,hsz,hall with
 |[d],hsz,hall=>
  obtain⟨u,rfl⟩:=Array.size_eq_one_iff.1 (show vs.size=1 by simpa using hsz);simp only[bQ,bp]at hall;simpa[Ab]using hall.1
 |[],hsz,hall=>
  have h1:¬vs.size=1:=by rw[hsz];simp
  rw[dif_neg h1];simp only[Ab,den,VR];exact⟨vs,rfl,hall⟩
 |d::e::pv,hsz,hall=>
  have h1:¬vs.size=1:=by rw[hsz];simp
  rw[dif_neg h1];simp only[Ab,den,VR];exact⟨vs,rfl,hall⟩
variable {Γ:FuncId->Option (ct X)} {an:TypeId->Option (CT X.ι)} {P:Program}
theorem aq4(hT : fQ P T)(hm : P.follows .mixedOrders = true)(hΓ : te P Γ){f : FuncId}{fn : Func}{c : Code}(hfn : P.funcs[f]? = some fn)(hb : fn.body = some c)(hname : (fn.name == "runtime.NumGoroutine") = false)(g : dg X)(hN : g.pS.length <= fn.ntmps)(hin : g.CI = true)
 (h:Hn X.ι) (n:Nat) (hr:∀v (r:VT (X:=X) (BV g).vars),g.fn v=some r->run Γ T an fn.ntmps n c (VT (X:=X) (BV g).vars) h (Hs g v) (aqA T fn.results.toList g)=some r):Mu P f g:=by
 intro v r hv;have hrun:=hr v r hv;simp only[dg.CI,aY,bF]at hin;obtain⟨⟨⟨i1,i2⟩,i3⟩,i4⟩:=hin;obtain⟨s1,s2,_⟩:=Af (ol:=FU g.j7 ((xL (c7 g.pS++dE g.j7) v).drop (c7 g.pS).length)) g.j7 ((xL _ v).drop (c7 g.pS).length);have hargs:∀k∈aS (g.args v),k<1000:=λk hk=>Nat.blt_eq.mp (all_eq_true.1 i3 k (Ae g.pS _ k hk));have uc:∀p∈g.c8 v,p.1<1000/\∀j∈ep p.2,j<1000:=by intro p hp;have⟨op,g1,g2⟩:=s2 p hp;have hk:p.1∈g.j7.map (·.1):=mem_map.2 ⟨_,g1,rfl⟩;rw[i1]at hk;have:=List.mem_range.1 hk;exact⟨by omega,λj hj=>Nat.blt_eq.mp (all_eq_true.1 (all_eq_true.1 i4 _ g1) j (g2 j hj))⟩
 have hal:(g.args v).length=g.pS.length:=Np _ _ _;have hkeys:(g.c8 v).map (·.1)=List.range (g.c8 v).length:=alW g v i1;have j8:∀k,iz (Hs g v).obj k=ue (g.c8 v) k:=by intro k;show iz (dL _ g.j7 _) k=ue (dW (dL _ g.j7 _)) k;rw[wL,YR,<- wL]
 have US:∀(l:U (Nat×cg X))(n:Nat),l.map (·.1)=(List.range l.length).map (n+ ·)->∀k,ue l (n+k)=(l[k]?).map (·.2):=by
  intro l
  induction l with
  |nil=>intro n _ k;rfl
  |cons p l ih=>
   intro n hn k;rw[eu,List.range_succ_eq_map,bK,bK,map_map]at hn;injection hn with e1 e2;simp[ue];cases k with
   |zero=>rw[aM (by omega)];rfl
   |succ k=>
    rw[aC (by omega),show n+(k+1)=(n+1)+k by omega,ih (n+1) (by rw[e2];refine map_congr_left λa _=>?_;simp;omega) k];rfl
 have hlow:Low (Hs g v):=by
  refine⟨by show 1000<=1000000;decide,aB _,λt k hk=>hargs k (acU t _ _ k hk),λk o ho=>?_⟩;rw[j8]at ho;have hmem:∀(l:U (Nat×cg X)),ue l k=some o->(k,o)∈l:=by
   intro l
   induction l with
   |nil=>intro h;simp[ue]at h
   |cons p l ih=>
    intro h;simp[ue]at h;split at h;rename_i e;cases h;subst e;exact List.mem_cons_self;exact bq _ (ih h)
  exact uc _ (hmem _ ho)
 refine alu hT hfn hb hname (by rw[mI,hal];exact hN) (λ k hk=>hargs k (by rwa [jw]at hk)) (by rw[length_map,<- length_map (f:=Prod.fst),hkeys,List.length_range];have:=s1.length_le;rw[length_map,length_map]at this;exact Nat.le_trans this i2) ?_ ?_;intro o ho r' hr' x hx j hj;obtain⟨p,hp,rfl⟩:=mem_map.1 ho;exact(uc p hp).2 j (YG hr' hx j hj);have e:sg.st ⟨(List.range (bQ (g.args v)).length).zip (bQ (g.args v)),(List.range ((g.c8 v).map λp=>bS p.2).length).zip ((g.c8 v).map λp=>bS p.2)⟩=(Hs g v).st:=by simp only[d7.st,sg.st,St.mk.injEq,and_true];refine⟨?_,?_⟩;funext t;simp[Hs];rw[anK,mI,hal];funext k;rw[CK,j8,List.getElem?_map];have:=US (g.c8 v) 0 (by rw[hkeys];simp) k;rw[Nat.zero_add]at this;rw[this,Option.map_map];rfl
 rw[e];refine(l8 hT hm hΓ c _ h _ _ r hlow hrun).mono ?_;rintro e M ⟨s',hl',_,rfl,g4⟩;cases e<;>first|exact alX hl' g4|cases g4
end
section
variable {P:Program} {f F:FuncId} {Φ:TypeId} {α:Type} {enc:α->Value} {d:α}
end
section
variable {X:SX}
end
section
variable {X:SX}
def HV{α G:Type}(f:α->J G):U α->J (List G)
 |[]=>some []
 |x::xs=>(f x).bind λy=>(HV f xs).bind λys=>some (y::ys)
def CD(dq:(i j:X.ι)->Decidable (i=j))(i:X.ι):CT X.ι->J CS
 |.int k=>some (.int k)
 |.bool=>some .bool
 |.str=>some .str
 |.sl (.st j)=>match dq j i with
  |.isTrue _=>some .back
  |.isFalse _=>none
 |_=>none
def aqB(dq:(i j:X.ι)->Decidable (i=j))(i:X.ι):Bool:=(X.d6 i).any λc=>match c with
 |.sl (.st j)=>match dq j i with
  |.isTrue _=>true
  |.isFalse _=>false
 |_=>false
def arU(dq:(i j:X.ι)->Decidable (i=j)):CT X.ι->J (List CS)
 |.st i=>bif aqB dq i then HV (CD dq i) (X.d6 i)else none
 |_=>none
theorem aq5(dq:(i j:X.ι)->Decidable (i=j)){i:X.ι}{row:U CS}(hm:HV (CD dq i) (X.d6 i)=some row){x:Tree}(h:HS row x):∃l:U (CT.T X.toSE (.st i)),x=.sl (l.map (CT.row X.toSE (.st i))):=by
 refine HS.rec (row:=row) (motive_1:=λx _=>∃l:U (CT.T X.toSE (.st i)),x=.sl (l.map (CT.row X.toSE (.st i)))) (motive_2:=λrows _=>∃l:U (CT.T X.toSE (.st i)),rows=l.map (CT.row X.toSE (.st i)))
  (motive_3:=λcs r _=>∀codes:U (CT X.ι),HV (CD dq i) codes=some cs->∃h:HL X.toSE codes,r=HL.row X.toSE codes h) ?_ ?_ ?_ ?_ ?_ ?_ h
 rintro rows _ _ ⟨l,rfl⟩;exact⟨l,rfl⟩;exact⟨[],rfl⟩;rintro r rs _ _ h1 ⟨l,rfl⟩;obtain⟨q,rfl⟩:=h1 _ hm;exact⟨(X.make i q:X.T i)::l,by rw[bK];congr 1;exact(X.ii i q).symm⟩;intro codes hc;cases codes with
 |nil=>exact⟨(),rfl⟩
 |cons c codes=>
  simp only[HV,ah]at hc;obtain⟨_,_,_,_,h⟩:=hc;cases h
 intro cs x xs _ _ h1 h2 codes hc;obtain⟨l,rfl⟩:=h1;cases codes with
 |nil=>simp[HV]at hc
 |cons c codes=>
  simp only[HV,ah]at hc;obtain⟨c',g1,cs',g2,g3⟩:=hc;injection g3 with g3;injection g3 with g4 g5;subst g4 g5;obtain⟨q,rfl⟩:=h2 _ g2
  match c,g1 with
  |.sl (.st j),g1=>
   simp[CD]at g1;split at g1;rename_i hj _;subst hj;exact⟨(l,q),rfl⟩;cases g1
  |.int _,g1|.bool,g1|.str,g1|.any,g1|.st _,g1|.mp _ _,g1|.sl (.int _),g1|.sl .bool,g1|.sl .str,g1|.sl .any,g1|.sl (.sl _),g1|.sl (.mp _ _),g1=>simp[CD]at g1
 intro c' cs x xs hf _ h2 codes hc;cases codes with
 |nil=>simp[HV]at hc
 |cons c codes=>
  simp only[HV,ah]at hc;obtain⟨c2,g1,cs',g2,g3⟩:=hc;injection g3 with g3;injection g3 with g4 g5;subst g4 g5;obtain⟨q,rfl⟩:=h2 _ g2
  match c,g1 with
  |.int k,g1=>
   cases g1;obtain⟨n,rfl,_⟩:=hf;exact⟨(n,q),rfl⟩
  |.bool,g1=>
   cases g1;obtain⟨n,rfl⟩:=hf;exact⟨(n,q),rfl⟩
  |.str,g1=>
   cases g1;obtain⟨n,rfl,_⟩:=hf;exact⟨(n,q),rfl⟩
  |.sl (.st j),g1=>
   simp[CD]at g1;split at g1;cases g1;exact hf.elim;cases g1
  |.any,g1|.st _,g1|.mp _ _,g1|.sl (.int _),g1|.sl .bool,g1|.sl .str,g1|.sl .any,g1|.sl (.sl _),g1|.sl (.mp _ _),g1=>simp[CD]at g1
def vm:Nat->CT X.ι->J (List CS)
 | 0,_=>none
 |_+1,.int k=>some [.int k]
 |_+1,.bool=>some [.bool]
 |_+1,.str=>some [.str]
 |_+1,.any=>some [.any]
 |_+1,.mp _ _=>none
 |n+1,.sl e=>match arU X.dec e with
  |some row=>some [.mu row]
  |none=>(vm n e).bind λr=>some [.sl r]
 |n+1,.st i=>(HV (vm n) (X.d6 i)).bind λl=>some l.flatten
def HU(n:Nat)(c:CT X.ι):J VS:=
 match c with
 |.st i=>(vm n (.st i:CT X.ι)).map .agg
 |c=>(vm n c).bind λl=>match l with
  |[x]=>some (.one x)
  |_=>none
theorem U1:∀(a b:U CS)(ys:U Tree),ef (a++b) ys->∃ya yb,ys=ya++yb/\ef a ya/\ef b yb
 |[],b,ys,h=>⟨[],ys,rfl,trivial,h⟩
 |c::a,b,y::ys,h=>by obtain⟨ya,yb,rfl,h1,h2⟩:=U1 a b ys h.2;exact⟨y::ya,yb,rfl,⟨h.1,h1⟩,h2⟩
 |_::_,_,[],h=>h.elim
theorem agp{c:CT X.ι}{cs:U CS}(h:∀ys,ef cs ys->∃x:CT.T X.toSE c,ys=CT.row X.toSE c x):∀rows:U (List Tree),(∀ r∈rows,ef cs r)->∃l:U (CT.T X.toSE c),rows=l.map (CT.row X.toSE c)
 |[],_=>⟨[],rfl⟩
 |r::rows,hr=>by obtain⟨x,hx⟩:=h r (hr r (by simp));obtain⟨l,hl⟩:=agp h rows λq hq=>hr q (bq _ hq);exact⟨x::l,by rw[bK,<- hx,<- hl]⟩
theorem anL{f:CT X.ι->J (List CS)}(hf:∀c cs,f c=some cs->∀ys,ef cs ys->∃x:CT.T X.toSE c,ys=CT.row X.toSE c x):∀(l:U (CT X.ι))(css:U (List CS)),HV f l=some css->∀ys,ef css.flatten ys->∃h:HL X.toSE l,ys=HL.row X.toSE l h
 |[],css,h,ys,hy=>by
  simp[HV]at h;subst h;cases ys with
  |nil=>exact⟨(),rfl⟩
  |cons y ys=>exact hy.elim
 |c::l,css,h,ys,hy=>by simp[HV]at h;have⟨a,h1,h⟩:=ah.1 h;have⟨b,h2,h⟩:=ah.1 h;cases h;obtain⟨ya,yb,rfl,g1,g2⟩:=U1 _ _ _ hy;have⟨x,hx⟩:=hf c a h1 ya g1;have⟨q,hq⟩:=anL hf l b h2 yb g2;exact⟨(x,q),by rw[hx,hq];rfl⟩
theorem WZ:∀(n:Nat)(c:CT X.ι)(cs:U CS),vm n c=some cs->∀ys,ef cs ys->∃x:CT.T X.toSE c,ys=CT.row X.toSE c x
 | 0,_,_,h,_,_=>by cases h
 |n+1,.mp _ _,cs,h,ys,hy=>by simp[vm]at h
 |n+1,.int k,cs,h,ys,hy=>by
  simp[vm]at h;subst h
  match ys,hy with
  |[y],hy=>
   simp[ef]at hy;obtain⟨m,rfl,_⟩:=hy;exact⟨m,rfl⟩
  |[],hy=>exact hy.elim
  |_::_::_,hy=>exact hy.2.elim
 |n+1,.bool,cs,h,ys,hy=>by
  simp[vm]at h;subst h
  match ys,hy with
  |[y],hy=>
   simp only[ef,Fit,and_true]at hy;obtain⟨m,rfl⟩:=hy;exact⟨m,rfl⟩
  |[],hy=>exact hy.elim
  |_::_::_,hy=>exact hy.2.elim
 |n+1,.str,cs,h,ys,hy=>by
  simp[vm]at h;subst h
  match ys,hy with
  |[y],hy=>
   simp[ef]at hy;obtain⟨m,rfl,_⟩:=hy;exact⟨m,rfl⟩
  |[],hy=>exact hy.elim
  |_::_::_,hy=>exact hy.2.elim
 |n+1,.any,cs,h,ys,hy=>by
  simp[vm]at h;subst h
  match ys,hy with
  |[y],hy=>exact⟨y,rfl⟩
  |[],hy=>exact hy.elim
  |_::_::_,hy=>exact hy.2.elim
 |n+1,.sl e,cs,h,ys,hy=>by
  simp[vm]at h;split at h;rename_i row hm;cases h
  match ys,hy with
  |[y],hy=>
   simp[ef]at hy;cases e with
   |st i=>
    simp[arU]at hm;cases hb:aqB X.dec i with
    |false=>rw[hb]at hm;cases hm
    |true=>
     rw[hb]at hm;have⟨l,hl⟩:=aq5 X.dec hm hy;exact⟨l,by rw[hl];rfl⟩
   |_=>cases hm
  |[],hy=>exact hy.elim
  |_::_::_,hy=>exact hy.2.elim
  have⟨r,h1,h⟩:=ah.1 h;cases h
  match ys,hy with
  |[y],hy=>
   simp[ef]at hy;obtain⟨rows,rfl,_,hr⟩:=hy;have⟨l,hl⟩:=agp (WZ n e r h1) rows hr;exact⟨l,by rw[hl];rfl⟩
  |[],hy=>exact hy.elim
  |_::_::_,hy=>exact hy.2.elim
 |n+1,.st i,cs,h,ys,hy=>by simp[vm]at h;have⟨css,h1,h⟩:=ah.1 h;cases h;have⟨q,hq⟩:=anL (WZ n) (X.d6 i) css h1 ys hy;exact⟨X.make i q,by rw[hq];exact(X.ii i q).symm⟩
theorem apE{n:Nat}{c:CT X.ι}{s:VS}(h:HU n c=some s){x:TV}(hx:Hk s x):∃y:CT.T X.toSE c,x=CT.tv X.toSE c y:=by
 have one:∀c:CT X.ι,c.one=true->((vm n c).bind λl=>match l with
  |[x]=>some (VS.one x)
  |_=>none)=some s->∃y:CT.T X.toSE c,x=CT.tv X.toSE c y:=by intro c hc h;have⟨l,h1,h⟩:=ah.1 h;split at h;cases h;simp[Hk]at hx;obtain⟨t,rfl,ht⟩:=hx;obtain⟨y,hy⟩:=WZ n c _ h1 [t] ⟨ht,trivial⟩;obtain⟨t',e1,e2⟩:=row_one hc y;rw[e1]at hy;cases hy;exact⟨y,e2.symm⟩;cases h
 cases c
 case st i=>
  simp[HU]at h;obtain⟨cs,h1,rfl⟩:=h;simp[Hk]at hx;obtain⟨ys,rfl,hy⟩:=hx;obtain⟨y,hy⟩:=WZ n (.st i) _ h1 ys hy;exact⟨y,by rw[hy];rfl⟩
 all_goals exact one _ rfl h
theorem agq(n:Nat):∀(cs:U (CT X.ι))(ss:U VS),HV (HU n) cs=some ss->∀xs,X6 ss xs->∃h:HL X.toSE cs,xs=HL.oe X.toSE cs h
 |[],ss,h,xs,hx=>by
  simp[HV]at h;subst h;cases xs with
  |nil=>exact⟨(),rfl⟩
  |cons x xs=>exact hx.elim
 |c::cs,ss,h,xs,hx=>by
  simp[HV]at h;have⟨a,h1,h⟩:=ah.1 h;have⟨b,h2,h⟩:=ah.1 h;cases h;cases xs with
  |nil=>exact hx.elim
  |cons x xs=>
   obtain⟨y,rfl⟩:=apE h1 hx.1;obtain⟨q,rfl⟩:=agq n cs b h2 xs hx.2;exact⟨(y,q),rfl⟩
theorem anM{P:Ξ}{f:FuncId}{n N:Nat}{cs:U (CT X.ι)}{ss:U VS}{fn:Nat->jC X (cs.map AT.d)->J Bool}(hc:∀k,GT P f ⟨cs.map AT.d,[.d .bool],fn k,none⟩)(hs:HV (HU n) cs=some ss)(hl:∀q:HL X.toSE cs,X6 ss (HL.oe X.toSE cs q)->yf (HL.oe X.toSE cs q)<=N->∃k,fn k (hlA cs q)=some true)(xs:U TV)(h:X6 ss xs)(hb:yf xs<=N):
 tE P f (xs.map TV.av) (.one (.d (.s (.sc (.bool true))))):=by obtain⟨q,rfl⟩:=agq n cs ss hs xs h;have⟨k,hk⟩:=hl q h hb;have h1:=(hc k).2.1 (hlA cs q) true hk;have h2:=h1;rw[Jv (ad6 cs)]at h2;have h3:rN P f (Ac (cs.map AT.d) (hlA cs q)) [] [] (.one (.d (.s (.sc (.bool true))))):=h2;have h4:=X5 h3;rw[Ac,R4]at h4;exact h4
end
structure ft where
 env:List (Nat×AV)
 obj:List (Nat×Option aR)
 ok:List (Nat×Option Bool)
def ft.st(F:E)(L:ft):St:=
 ⟨λ t=>(lk L.env t).getD .undef,λk=>match lk L.obj k with|some o=>o|none=>F k,λt=>(lk L.ok t).join⟩
def ft.app(L:ft)(dst:J Tmp)(p:Out×Option Bool):ft:=
 match dst with
 |some d=>⟨(d,p.1.v)::L.env,p.1.upd++L.obj,(d,p.2)::L.ok⟩
 |none=>⟨L.env,p.1.upd++L.obj,L.ok⟩
theorem ft.Fl(F:E)(L:ft)(dst:J Tmp)(p:Out×Option Bool):(L.app dst p).st F=(L.st F).app dst p:=by
 have ho:∀(u:U (Nat×Option aR))(k:Nat),(match lk (u++L.obj) k with|some o=>o|none=>F k)=dw (λ k=>match lk L.obj k with|some o=>o|none=>F k) u k:=by
  intro u k
  induction u with
  |nil=>rfl
  |cons q u ih=>
   obtain⟨j,o⟩:=q;simp only[List.cons_append,lk,dw];by_cases h:j=k
   .subst h;simp
   .rw[aC h,aC (λ e=>h e.symm)];exact ih
 have he:∀{α:Type} (e:U (Nat×α)) (d:Nat) (v:α) (f:J α->α) (t:Nat),f (some v)=v->f (lk ((d,v)::e) t)=zX (λ t=>f (lk e t)) (some d) v t:=by
  intro α e d v f t hf;simp only[lk,zX,bX];by_cases h:d=t
  .rw[aM h,aM h,hf]
  .rw[aC h,aC h]
 cases dst with
 |none=>
  simp only[ft.app,ft.st,St.app];congr 1;exact funext λk=>ho _ k
 |some d=>
  simp only[ft.app,ft.st,St.app];congr 1
  .exact funext λt=>he _ _ _ (λ o:Option AV=>o.getD AV.undef) t rfl
  .exact funext λk=>ho _ k
  .exact funext λt=>he L.ok d p.2 (λ o:Option (Option Bool)=>o.join) t rfl
section
variable (P:Program) (T:eS) (am:Array Oper) (da:Nat->kB) (F:Nat->Option aR)
def Bp:U Nat->ft->J (ft×List Prop)
 |[],L=>some (L,[])
 |i::r,L=>(am[i]?).bind λo=>(opAt P T am da i (L.st F)).bind λaa=>(Bp r (L.app o.dst aa)).bind λq=>some (q.1,aa.1.obs++q.2)
end
theorem agr:∀{a b:U Prop},jD (a++b)->jD a/\jD b
 |[],_,h=>⟨trivial,h⟩
 |p::a,b,h=>by
  cases a with
  |nil=>
   cases b with
   |nil=>exact⟨h,trivial⟩
   |cons q b=>exact⟨h.1,h.2⟩
  |cons q a=>
   obtain⟨h1,h2⟩:=h;have⟨h3,h4⟩:=agr (a:=q::a) h2;exact⟨⟨h1,h3⟩,h4⟩
theorem Nq{P:Ξ}{T:eS}{am:Array Oper}{da:Nat->kB}{F:E}{Q:St->Prop}:∀{l:U Nat}{L L':ft}{obs:U Prop},Bp P T am da F l L=some (L',obs)->jD obs->Q (L'.st F)->VA P T am da Q l (L.st F)
 |[],L,L',obs,h,_,hq=>by simp only[Bp,bX,Prod.mk.injEq]at h;obtain⟨rfl,rfl⟩:=h;exact hq
 |i::r,L,L',obs,h,ho,hq=>by simp only[Bp,ah]at h;obtain⟨o,h1,aa,h2,q,h3,h4⟩:=h;injection h4 with h4;injection h4 with h5 h6;subst h5 h6;have⟨o1,o2⟩:=agr ho;refine⟨o,aa,h1,h2,o1,?_⟩;rw[<- ft.Fl];exact Nq h3 o2 hq
section
variable {P:Program} {T:eS} {N:Nat} {Q:Exit->St->Prop} {am:Array Oper} {da:Nat->kB} {M σ' σ2:St}
structure Told(σ' σ2:St):Prop where
 re:∃(f g:Nat->Nat)(D:Nat->Prop),(∀ k,D k->g (f k)=k)/\(∀ j,j<1000->g j=j)/\
  (∀ t,σ2.env t=.undef\/(σ'.ok t=none/\(∀ k∈refs (σ'.env t),D k)/\kO (ix f (σ'.env t)) (σ2.env t)))/\
  (∀ j o',σ2.obj j=some o'->∃k o,σ'.obj k=some o/\D k/\f k=j/\o'.sz=o.sz/\ij D f o.rows o'.rows)
 ok:∀t,σ2.ok t=none
 old:nb σ2
theorem Told.rel{w0:Y}{O0:k5}{G:Ω}{I:Ψ}{a:Act}{w:Y}(h:Told σ' σ2)(hr:Rel P w0 O0 N G I σ' a w):∃ β',Rel P w0 O0 N β' I σ2 a w:=by
 obtain⟨f,g,D,h1,h2,h3,h4⟩:=h.re;refine⟨_,Rel.re (f:=f) (g:=g) (D:=D) h1 h2 hr (λ t=>?_) h.ok (λ t=>?_) h4⟩
 .rcases h3 t with e|e
  .exact .inr e
  .exact .inl e.1
 .rcases h3 t with e|e
  .exact .inl e
  .exact .inr e.2
theorem F8{c:Code}(h:Told M σ2)(hc:Ev P N c Q σ2):Ev P N c Q M:=by intro w0 O0 G I a w hr ho;have⟨β',hr'⟩:=h.rel hr;exact hc w0 O0 β' I a w hr' h.old
theorem fZ(hT:fQ P T){id:Nat}{F:E}{L L':ft}{obs:U Prop}(hd:RP N am=true)(h:Bp P T am da F (List.range am.size) L=some (L',obs))(cX:jD obs)(ht:Told (L'.st F) σ2)(hq:Q .normal σ2):
 Ev P N (.region id am false) Q (L.st F):=by intro w0 O0 G I a w hr ho;refine wp_mono (acg (Q:=λM=>M=L'.st F) hT hd ho (Nq h cX rfl) hr) ?_;rintro e a' w' ⟨β',I',σ',h1,rfl,rfl⟩;have⟨β2,h2⟩:=ht.rel h1;exact⟨β2,I',σ2,h2,ht.old,hq⟩
theorem Ns(hT:fQ P T)(hm:P.follows .mixedOrders=true){id:Nat}{F:E}{L L':ft}{obs:U Prop}(hd:RP N am=true)(hB:UE am da=true)(h:Bp P T am da F (List.range am.size) L=some (L',obs))(cX:jD obs)(ht:Told (L'.st F) σ2)(hq:Q .normal σ2):
 Ev P N (.region id am true) Q (L.st F):=by intro w0 O0 G I a w hr ho;refine wp_mono (Jo (Q:=λM=>M=L'.st F) hT hm hd hB ho (Nq h cX rfl) hr) ?_;rintro e a' w' ⟨β',I',σ',h1,rfl,rfl⟩;have⟨β2,h2⟩:=ht.rel h1;exact⟨β2,I',σ2,h2,ht.old,hq⟩
end
mutual
theorem aek{f:Nat->Nat}:∀x:AV,(∀ k∈refs x,f k=k)->ix f x=x
 |.own k ab len,h=>by simp only[ix];rw[h k (by simp[refs])]
 |.ptr k row ab,h=>by simp only[ix];rw[h k (by simp[refs])]
 |.mp k,h=>by simp only[ix];rw[h k (by simp[refs])]
 |.oz k len,h=>by simp only[ix];rw[h k (by simp[refs])]
 |.agg cs,h=>by simp only[ix];rw[oD cs (by simpa[refs]using h)]
 |.fR cs,h=>by simp only[ix];rw[oD cs (by simpa[refs]using h)]
 |.fn F first caps,h=>by simp only[ix];rw[oD first (λ k hk=>h k (by simp[refs,hk])),oD caps (λ k hk=>h k (by simp[refs,hk]))]
 |.t _,_=>rfl
 |.eV _ _,_=>rfl
 |.en _,_=>rfl
 |.cD,_=>rfl
 |.ub,_=>rfl
 |.undef,_=>rfl
theorem oD{f:Nat->Nat}:∀l:List AV,(∀ k∈cu l,f k=k)->vY f l=l
 |[],_=>rfl
 |x::xs,h=>by simp only[vY];rw[aek x (λ k hk=>h k (by simp[cu,hk])),oD xs (λ k hk=>h k (by simp[cu,hk]))]
end
theorem akQ{D:Ψ}{f:Nat->Nat}:∀r:U AV,(∀ k∈cu r,D k)->mC D f r (vY f r)
 |[],_=>trivial
 |x::xs,h=>⟨⟨λ k hk=>h k (by simp[cu,hk]),kO.refl _⟩,akQ xs λk hk=>h k (by simp[cu,hk])⟩
theorem YU{D:Ψ}{f:Nat->Nat}:∀rs:U (List AV),(∀ r∈rs,∀k∈cu r,D k)->ij D f rs (rs.map (vY f))
 |[],_=>trivial
 |r::rs,h=>⟨akQ r (h r (by simp)),YU rs λq hq=>h q (by simp[hq])⟩
theorem Li{L' L2:ft}{F F2:E}(f g:Nat->Nat)(D:Ψ)(h1:∀k,D k->g (f k)=k)(h2:∀j,j<1000->g j=j)
 (hE:∀p∈L2.env,(lk L'.ok p.1).join=none/\(∀ k∈refs ((lk L'.env p.1).getD .undef),D k)/\ix f ((lk L'.env p.1).getD .undef)=p.2)
 (hO:∀j o',(L2.st F2).obj j=some o'->∃k o,(L'.st F).obj k=some o/\D k/\f k=j/\o'=xI f o/\∀r∈o.rows,∀k∈cu r,D k) (hok:L2.ok=[])
 (old:nb (L2.st F2)):Told (L'.st F) (L2.st F2):=by
 refine⟨⟨f,g,D,h1,h2,λt=>?_,λj o' hj=>?_⟩,λt=>by simp[ft.st,hok,lk],old⟩
 .simp only[ft.st];cases h:lk L2.env t with
  |none=>exact .inl rfl
  |some x=>
   obtain⟨a1,a2,a3⟩:=hE _ (o7 h);exact .inr ⟨a1,a2,by rw[a3];exact kO.refl _⟩
 .obtain⟨k,o,e1,e2,e3,rfl,e5⟩:=hO j o' hj;exact⟨k,o,e1,e2,e3,rfl,YU _ e5⟩
section
variable {P:Program} {G:Nat->Option cW} {w:World} {I:Nat->Prop}
def ly(P:Ξ)(G:Ω)(w:Y)(I:Ψ):U AV->U AV->Prop
 |[],[]=>True
 |x::xs,y::ys=>(∀ v,VR P G w I x v->VR P G w I y v)/\ly P G w I xs ys
 |_,_=>False
def jz(P:Ξ)(G:Ω)(w:Y)(I:Ψ):U (List AV)->U (List AV)->Prop
 |[],[]=>True
 |r::rs,q::qs=>ly P G w I r q/\jz P G w I rs qs
 |_,_=>False
theorem ly.refl:∀r:U AV,ly P G w I r r
 |[]=>trivial
 |_::xs=>⟨λ _ h=>h,ly.refl xs⟩
theorem jz.app{q q':U AV}(h:ly P G w I q q'):∀R:U (List AV),jz P G w I (R++[q]) (R++[q'])
 |[]=>⟨h,trivial⟩
 |r::R=>⟨ly.refl r,jz.app h R⟩
theorem ly.row:∀{r q:U AV}{c:Array Value}{ab:Nat},ly P G w I r q->df P G w I r c ab->df P G w I q c ab
 |[],[],_,_,_,_=>trivial
 |_::_,_::_,_,_,h,⟨⟨v,h1,h2,h3⟩,h4⟩=>⟨⟨v,h1,h.1 v h2,h3⟩,ly.row h.2 h4⟩
 |[],_::_,_,_,h,_=>h.elim
 |_::_,[],_,_,h,_=>h.elim
theorem ly.length:∀{r q:U AV},ly P G w I r q->q.length=r.length
 |[],[],_=>rfl
 |_::_,_::_,h=>congrArg (· +1) (ly.length h.2)
 |[],_::_,h=>h.elim
 |_::_,[],h=>h.elim
theorem jz.rows:∀{rs qs:U (List AV)}{c:Array Value}{ab sz:Nat},jz P G w I rs qs->cj P G w I rs c ab sz->cj P G w I qs c ab sz
 |[],[],_,_,_,_,_=>trivial
 |_::_,_::_,_,_,_,h,⟨h1,h2,h3⟩=>⟨by rw[h.1.length];exact h1,h.1.row h2,h.2.rows h3⟩
 |[],_::_,_,_,_,h,_=>h.elim
 |_::_,[],_,_,_,h,_=>h.elim
theorem jz.length:∀{rs qs:U (List AV)},jz P G w I rs qs->qs.length=rs.length
 |[],[],_=>rfl
 |_::_,_::_,h=>congrArg (· +1) (jz.length h.2)
 |[],_::_,h=>h.elim
 |_::_,[],h=>h.elim
theorem ly.vrl:∀{r q:U AV}{vs:U Value},ly P G w I r q->bp P G w I r vs->bp P G w I q vs
 |[],[],_,_,hv=>hv
 |_::_,_::_,[],_,hv=>by simp[bp]at hv
 |_::_,_::_,_::_,h,hv=>by simp only[bp]at hv |-;exact⟨h.1 _ hv.1,h.2.vrl hv.2⟩
 |[],_::_,_,h,_=>h.elim
 |_::_,[],_,h,_=>h.elim
theorem jz.AC:∀{rs qs:U (List AV)}{es:U MapEntry},jz P G w I rs qs->cQ P G w I rs es->cQ P G w I qs es
 |[],[],_,_,h=>h
 |_::_,_::_,[],_,h=>h.elim
 |_::_,_::_,_::_,h,hm=>⟨h.1.vrl hm.1,h.2.AC hm.2⟩
 |[],_::_,_,h,_=>h.elim
 |_::_,[],_,h,_=>h.elim
end
theorem alY{P:Ξ}{N:Nat}{c:Code}{Q:Exit->St->Prop}{M σ2:St}{K k0 sz N4:Nat}{R:U (List AV)}{q:U AV}(hk0:1000<=k0)(hk1:k0<1000000)(hne:K≠k0)
 (hK:M.obj K=some ⟨sz,R++[q++[.cD]]⟩) (hfe:∀t,k0∉refs (M.env t)) (hfo:∀k o,M.obj k=some o->k≠k0/\∀r∈o.rows,k0∉cu r)
 (hok:σ2.ok=M.ok) (he:σ2.env=M.env) (ho:∀k,σ2.obj k=if k=k0 then some ⟨N4,[]⟩else if k=K then some ⟨sz,R++[q++[.own k0 0 0]]⟩else M.obj k) (hok2:∀t,M.ok t=none)
 (h:Ev P N c Q σ2):Ev P N c Q M:=by
 intro w0 O0 G I a w hr hold;have IT:nb σ2:=by
  refine⟨λ t k hk=>hold.env t k (by rw[<- he];exact hk),λk o hk=>?_⟩;rw[ho]at hk;split at hk
  .cases hk;rename_i e;exact⟨by omega,λr hr=>by cases hr⟩
  .split at hk
   .rename_i e;cases hk;obtain⟨h1,h2⟩:=hold.obj K _ hK;refine⟨by omega,λr hr x hx j hj=>?_⟩;rcases bD.1 hr with hr|hr
    .exact h2 r (List.mem_append_left _ hr) x hx j hj
    .rw[aI]at hr;subst hr;rcases bD.1 hx with hx|hx
     .exact h2 (q++[.cD]) (by simp) x (List.mem_append_left _ hx) j hj
     .rw[aI]at hx;subst hx;simp only[refs,aI]at hj;omega
   .exact hold.obj k o hk
 have hr1:=hr.restrict hold;have hr2:Rel P w0 O0 N (λ j=>(λ k=>if k<1000000 then G k else none) (if j=k0 then 1000000 else j)) I M a w:=by
  refine Rel.re (s:=M) (s':=M) (f:=λk=>k) (g:=λj=>if j=k0 then 1000000 else j) (D:=λk=>k≠k0) (λ k hk=>by simp[hk]) (λ j hj=>by rw[aC (by omega)]) hr1 (λ t=>.inl (hok2 t)) hok2 (λ t=>.inr ⟨λ k hk e=>hfe t (e ▸ hk),?_⟩) λj o' hj=>⟨j,o',hj,(hfo j o' hj).1,rfl,rfl,?_⟩
  .rw[aek _ λk _=>rfl];exact kO.refl _
  .have:=YU (D:=λk=>k≠k0) (f:=λk=>k) o'.rows λr hr k hk e=>(hfo j o' hj).2 r hr (e ▸ hk);have e:o'.rows.map (vY λk=>k)=o'.rows:=by
    conv=>rhs;rw[<- List.map_id o'.rows]
    exact map_congr_left λr _=>oD r λk _=>rfl
   rw[e]at this;exact this
 have hn:(λ j=>(λ k=>if k<1000000 then G k else none) (if j=k0 then 1000000 else j)) k0=none:=by simp
 generalize hβ:(λ j=>(λ k=>if k<1000000 then G k else none) (if j=k0 then 1000000 else j))=β2 at hr2 hn;have⟨hS,hM⟩:=Mem.m8 (i:=k0) (o:=⟨N4,[]⟩) hr2.mem hn rfl;refine h w0 O0 (ins β2 k0 .none) I a w ⟨hr2.defers,hr2.size,λt=>?_,?_⟩ IT
 .rw[he,hok];exact fL.mono hS.ext hS.same hS.inc (hr2.env t)
 .refine Mem.weak hM λk o' hk=>?_;rw[ho]at hk;split at hk
  .rename_i e;subst e;cases hk;exact⟨⟨N4,[]⟩,by simp[dw],λ_ _ h=>h⟩
  .rename_i e0;split at hk
   .rename_i e;subst e;cases hk;refine⟨⟨sz,R++[q++[.cD]]⟩,by simp only[dw];rw[aC e0];exact hK,λB hB hO=>?_⟩;have himp:ly P (ins β2 k0 .none) w I (q++[.cD]) (q++[.own k0 0 0]):=by
     clear hfo hfe hO hK ho
     induction q with
     |nil=>exact⟨λ v hv=>by simp only[VR]at hv |-;exact .inl ⟨by simp[ins],hv,trivial,trivial⟩,trivial⟩
     |cons x xs ih=>exact⟨λ _ h=>h,ih⟩
    cases B with
    |none=>simp[OR]at hO
    | «at» b s n=>
     obtain⟨g1,c',e',g2,g3,g4⟩:=hO;exact⟨g1,c',e',g2,g3,(jz.app himp R).rows g4⟩
    |mp b=>
     obtain⟨es,cl,g1,g2,g3,g4⟩:=hO;have hl:=(jz.app himp R).length;exact⟨es,cl,g1,by rw[hl];exact g2,λe=>(jz.app himp R).AC (g3 (by rw[<- hl];exact e)),g4⟩
   .exact⟨o',by simp only[dw];rw[aC e0];exact hk,λ_ _ h=>h⟩
end Go.Gb
