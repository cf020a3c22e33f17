import Derived.Test.YtaelkbidpfffmaaGreatW2
open List (mem_map all_eq_true length_map append_nil map_map)
namespace Go.Gb
open Go.RowKit
structure Sh(ι:Type) where
 slots:List (Nat×Pt ι)
 cN:List (Nat×OP ι)
 keep:List Nat
 c8:List Nat
 nx:Nat
 yW:List (Nat×CT ι)
def Sh.vars{ι:Type}(s:Sh ι):List (CT ι):=hZ s.slots++da s.cN
section
variable {X:SX}
def nz(z:Bool)(k:Nat):DV X:=bif z then .oz k 0 else .own k 0 0
def xT(z:Bool)(s:df X)(t:Nat)(c:CT X.ι):df X:=
 match eI s.env t with
 |.nil=>if s.nx<1000000 then⟨(t,nz z s.nx)::s.env,(s.nx,some (.ed c []))::s.obj,s.nx+1,s.nx::s.log⟩else s
 |_=>s
def DH(s:df X)(q j:Nat)(c:CT X.ι):df X:=
 match gE s.obj q with
 |some (.cells sz [row])=>match row[j]? with
  |some .nil=>if s.nx<1000000 then⟨s.env,(q,some (.cells sz [row.set j (.own s.nx 0 0)]))::(s.nx,some (.ed c []))::s.obj,s.nx+1,q::s.nx::s.log⟩else s
  |_=>s
 |_=>s
def Oo:List (Nat×CT X.ι)->df X->df X
 |[],s=>s
 |(t,c)::r,s=>Oo r (bif Nat.ble 1000000 t then bif Nat.ble 1099511627776 t then xT true s (t-1099511627776) c else DH s ((t-1000000)/4096) ((t-1000000)%4096) c else xT false s t c)
def isU:DV X->Bool
 |.undef|.skip=>true
 |_=>false
def encS(sh:Sh X.ι)(s0:df X)(v:VT (X:=X) sh.vars):df X:=
 let L:=vI sh.vars v
 let n:=(hZ sh.slots).length
 let ol:=λk=>(lk (lens sh.cN (L.drop n)) k).getD 0
 ⟨Kh ol sh.slots (L.take n)++sh.keep.map (λ t=>(t,eI s0.env t)),bV ol sh.cN (L.drop n)++sh.c8.map (λ k=>(k,gE s0.obj k)),sh.nx,
  (List.range s0.nx).filter (λ k=>!sh.c8.contains k)++s0.log⟩
def Z1(sh:Sh X.ι)(ds:List Nat)(s0 s':df X)(m:MA X):Bool:=
 decide (m.nm.map (·.1)++sh.c8).Nodup&&decide (m.nm.map (·.2)++sh.c8).Nodup&&decide (sh.cN.map (·.1)).Nodup&&m.nm.all (λ q=>(sh.cN.map (·.1)).contains q.2&&decide (q.2<sh.nx)&&(decide (q.1=q.2) || decide (1000<=q.2)))&&
  sh.slots.all (λ p=>ds.contains p.1)&&sh.keep.all (λ t=>!ds.contains t&&!isU (eI s'.env t)&&(bz (eI s0.env t)).all λj=>sh.c8.contains j || m.nm.contains (j,j))&&
  sh.c8.all (λ k=>decide (k<s0.nx)&&!(s'.log.take (s'.log.length-s0.log.length)).contains k&&(gE s'.obj k).isSome&&match gE s0.obj k with|some o=>(d7 o).all λj=>sh.c8.contains j || m.nm.contains (j,j)|none=>false)&&
  decide (s0.nx<=sh.nx)&&decide (sh.nx<=1000000)
def Mo{A:Type}(sh:Sh X.ι)(ds:List Nat)(s0 s':df X)(k:VT (X:=X) sh.vars->Option A):Option A:=
 (Gv (gE s'.obj) (eI s'.env) sh.slots ⟨[],[],[]⟩).bind λm=>(BV (gE s'.obj) sh.cN m).bind λm=>bif Z1 sh ds s0 s' m then(CD sh.vars m.eo).bind λv=>Ue m.iS (k v)else none
def rT{A:Type}(sh:Sh X.ι)(ds:List Nat)(s0 s':df X)(k:VT (X:=X) sh.vars->Option A):Option A:=
 bif sh.yW.all (λ p=>bif Nat.ble 1000000 p.1 then !Nat.ble 1099511627776 p.1 || ds.contains (p.1-1099511627776)else ds.contains p.1)then Mo sh ds s0 (Oo sh.yW s') k else none
end
section
variable {X:SX}
theorem YW{d:DV X}{c:CT X.ι}{x:CT.T X.toSE c}(h:Kc d c=some x):bz d=[]:=by
 cases d
 case c=>rfl
 case nil=>rfl
 all_goals cases c<;>cases h
theorem Qm:∀{ds:List (DV X)}{l:List (CT X.ι)}{h:HL X.toSE l},Dr ds l=some h->aN ds=[]
 |[],[],_,_=>rfl
 |d::ds,c::l,h,hr=>by simp[Dr]at hr;have⟨x,h1,hr⟩:=ah.1 hr;have⟨g,h2,hr⟩:=ah.1 hr;simp[aN,YW h1,Qm h2]
 |[],_::_,_,hr|_::_,[],_,hr=>by simp[Dr]at hr
theorem aly{d:DV X}{c:CT X.ι}{x:CT.T X.toSE c}(h:dat d c=some x):lf (den d) (den (.c c x:DV X))/\bz d=[]:=by
 cases c
 case st i=>
  replace h:CE d i=some x:=h
  cases d
  case agg cs=>
   simp[CE]at h;have⟨g,h1,h⟩:=ah.1 h;cases h;refine⟨λ P β w I v hv=>?_,by simp[bz,Qm h1]⟩;have h2:=(yc h1 (X.flat i)).1;simp[den]at hv;obtain⟨vs,rfl,hv⟩:=hv;show VR P β w I (.agg ((X.row i (X.make i g)).map AV.t)) _;have h3:(X.row i (X.make i g)).map AV.t=(bG cs).map Gb.wk:=(by rw[h2];exact congrArg _ (X.gd i g));rw[h3];simp only[VR];exact⟨vs,rfl,br.wk _ _ hv⟩
  case c a y=>
   rw[(nW h).1];exact⟨lf.refl _,rfl⟩
  all_goals cases h
 all_goals
  have h1:=vG h;refine⟨λ P β w I v hv=>?_,YW h⟩;simp[den];rw[<- h1];exact hv.wk
def gi(m m':MA X):Prop:=(∀ q∈m.nm,q∈m'.nm)/\(∀ c∈m.iS,c∈m'.iS)
theorem gi.refl(m:MA X):gi m m:=⟨λ _ h=>h,λ_ h=>h⟩
theorem gi.trans{a b c:MA X}(h:gi a b)(h':gi b c):gi a c:=⟨λ q hq=>h'.1 q (h.1 q hq),λq hq=>h'.2 q (h.2 q hq)⟩
theorem eY(m:MA X)(k' k:Nat):(addN m k' k).eo=m.eo/\(addN m k' k).iS=m.iS:=by grind [addN]
theorem nO(m:MA X)(k' k:Nat):(k',k)∈(addN m k' k).nm:=by grind [addN]
theorem pu(m:MA X)(k' k:Nat):gi m (addN m k' k):=by unfold addN;split;exact gi.refl m;exact⟨λ q hq=>by simp[hq],λ_ h=>h⟩
variable {get:Nat->Option (b7 X)}
mutual
theorem ag1:∀(p:Pt X.ι)(d:DV X)(m m':MA X),mP get p d m=some m'->gi m m'/\∃an,m'.eo=m.eo++an/\an.length=p.vars.length
 |.v c,d,m,m',h=>by simp[mP]at h;rw[ah]at h;obtain⟨x,h1,h⟩:=h;cases h;exact⟨⟨λ _ h=>h,λ_ h=>h⟩,[⟨c,x⟩],rfl,rfl⟩
 |.o k,d,m,m',h=>by simp[mP]at h;split at h;rename_i k' len;have⟨o,h1,h⟩:=ah.1 h;split at h;cases h;refine⟨gi.trans (b:=⟨m.nm,m.eo,m.iS++_⟩) ⟨λ _ h=>h,λ_ h=>by simp[h]⟩ (pu _ _ _),[],by rw[(eY _ _ _).1];simp,rfl⟩;cases h;cases h
 |.oz k,d,m,m',h=>by simp[mP]at h;split at h;have⟨o,h1,h⟩:=ah.1 h;split at h;cases h;refine⟨gi.trans (b:=⟨m.nm,m.eo,m.iS++_⟩) ⟨λ _ h=>h,λ_ h=>by simp[h]⟩ (pu _ _ _),[],by rw[(eY _ _ _).1];simp,rfl⟩;cases h;have⟨o,h1,h⟩:=ah.1 h;split at h;cases h;refine⟨gi.trans (b:=⟨m.nm,m.eo,m.iS++_⟩) ⟨λ _ h=>h,λ_ h=>by simp[h]⟩ (pu _ _ _),[],by rw[(eY _ _ _).1];simp,rfl⟩;cases h;cases h
 |.p k,d,m,m',h=>by simp[mP]at h;split at h;cases h;exact⟨pu _ _ _,[],by rw[(eY _ _ _).1];simp,rfl⟩;cases h
 |.mp k,d,m,m',h=>by simp[mP]at h;split at h;cases h;exact⟨pu _ _ _,[],by rw[(eY _ _ _).1];simp,rfl⟩;cases h
 |.nil,d,m,m',h=>by simp[mP]at h;split at h;cases h;exact⟨gi.refl _,[],by simp,rfl⟩;cases h
 |.f F fs cs,d,m,m',h=>by simp[mP]at h;split at h;split at h;rw[ah]at h;obtain⟨m1,h1,h⟩:=h;obtain⟨a1,n1,b1,c1⟩:=yA fs _ m m1 h1;obtain⟨a2,n2,b2,c2⟩:=yA cs _ m1 m' h;exact⟨a1.trans a2,n1++n2,by rw[b2,b1,aR],by simp[Pt.vars,c1,c2]⟩;cases h;cases h
 |.od k,d,m,m',h=>by simp[mP]at h;split at h;rename_i k' aa len;have⟨o,h1,h⟩:=ah.1 h;split at h;cases h;refine⟨gi.trans (b:=⟨m.nm,m.eo++[⟨.int .i64,(aa:Int)⟩],m.iS++_⟩) ⟨λ _ h=>h,λ_ h=>by simp[h]⟩ (pu _ _ _),[⟨.int .i64,(aa:Int)⟩],by rw[(eY _ _ _).1],rfl⟩;cases h;cases h
 |.a ps,d,m,m',h=>by simp[mP]at h;split at h;exact yA ps _ m m' h;cases h
theorem yA:∀(ps:List (Pt X.ι))(ds:List (DV X))(m m':MA X),sY get ps ds m=some m'->gi m m'/\∃an,m'.eo=m.eo++an/\an.length=(cM ps).length
 |[],[],m,m',h=>by simp[sY]at h;subst h;exact⟨gi.refl _,[],by simp,rfl⟩
 |p::ps,d::ds,m,m',h=>by simp[sY]at h;have⟨m1,h1,h⟩:=ah.1 h;have⟨a1,n1,b1,c1⟩:=ag1 p d m m1 h1;have⟨a2,n2,b2,c2⟩:=yA ps ds m1 m' h;exact⟨a1.trans a2,n1++n2,by rw[b2,b1,aR],by simp[cM,c1,c2]⟩
 |[],_::_,m,m',h|_::_,[],m,m',h=>by simp[sY]at h
end
theorem yB:∀(rs:List (List (Pt X.ι)))(qs:List (List (DV X)))(m m':MA X),JO get rs qs m=some m'->gi m m'/\∃an,m'.eo=m.eo++an/\an.length=(vH rs).length
 |[],[],m,m',h=>by simp[JO]at h;subst h;exact⟨gi.refl _,[],by simp,rfl⟩
 |r::rs,q::qs,m,m',h=>by simp[JO]at h;have⟨m1,h1,h⟩:=ah.1 h;have⟨a1,n1,b1,c1⟩:=yA r q m m1 h1;have⟨a2,n2,b2,c2⟩:=yB rs qs m1 m' h;exact⟨a1.trans a2,n1++n2,by rw[b2,b1,aR],by simp[vH,c1,c2]⟩
 |[],_::_,m,m',h|_::_,[],m,m',h=>by simp[JO]at h
section
variable {NM:List (Nat×Nat)} {f:Nat->Nat} {dC:Nat->Nat}
def DN(NM:List (Nat×Nat))(j:Nat):Prop:=∃k,(j,k)∈NM
def SN(NM:List (Nat×Nat))(j:Nat):Prop:=∃k,(k,j)∈NM
theorem LU{D:Nat->Prop}{f:Nat->Nat}{P:Program}{β:Nat->Option cJ}{w:World}{I:Nat->Prop}:∀{a b:List AV}(_:mj D f a b)(u:List Value),br P β w I (Am f a) u->br P β w I b u
 |[],[],_,u,hu=>hu
 |[],_::_,hr,_,_|_::_,[],hr,_,_=>hr.elim
 |y::ys,z::zs,hr,[],hu=>by simp[Am,br]at hu
 |y::ys,z::zs,hr,v::vs,hu=>by exact⟨hr.1.2 _ _ _ _ _ hu.1,LU hr.2 vs hu.2⟩
mutual
theorem acC(hf:∀q∈NM,f q.1=q.2)(ho:∀q∈NM,∀c l,get q.1=some (.ed c l)->dC q.2=l.length):∀(p:Pt X.ι)(d:DV X)(m m':MA X),mP get p d m=some m'->(∀ q∈m'.nm,q∈NM)->(∀ c∈m'.iS,c=true)->
 ∃an,m'.eo=m.eo++an/\∃d',(∀ ag,eP dC p (an++ag)=(d',ag))/\lf (js f (den d)) (den d')/\(∀ j∈bz d,DN NM j)/\(∀ j∈bz d',SN NM j)
 |.v c,d,m,m',h,_,_=>by simp[mP]at h;rw[ah]at h;obtain⟨x,h1,h⟩:=h;cases h;have⟨h2,h3⟩:=aly h1;refine⟨[⟨c,x⟩],rfl,.c c x,λag=>rfl,?_,by simp[h3],by simp[bz]⟩;rw[<- zH,UM d (by simp[h3])];exact h2
 |.o k,d,m,m',h,hn,hc=>by
  simp[mP]at h;split at h;rename_i k' len;rw[ah]at h;obtain⟨o,h1,h⟩:=h;split at h;rename_i c l;cases h;have hq:(k',k)∈NM:=hn _ (nO _ _ _);have he:len=l.length:=by have:=hc (be len l.length) (by rw[(eY _ _ _).2];simp);simpa[be]using this
  refine⟨[],by rw[(eY _ _ _).1];simp,.own k 0 (dC k),λag=>rfl,?_,?_,?_⟩;simp[den,js];rw[hf _ hq,ho _ hq c l h1,he];exact lf.refl _;intro j hj;simp[bz]at hj;subst hj;exact⟨k,hq⟩;intro j hj;simp[bz]at hj;subst hj;exact⟨k',hq⟩;cases h;cases h
 |.oz k,d,m,m',h,hn,hc=>by
  simp[mP]at h;split at h;rename_i k' len;rw[ah]at h;obtain⟨o,h1,h⟩:=h;split at h;rename_i c l;cases h;have hq:(k',k)∈NM:=hn _ (nO _ _ _);have he:len≠0/\len=l.length:=by have:=hc (!(len==0)&&be len l.length) (by rw[(eY _ _ _).2];simp);simpa[be]using this
  refine⟨[],by rw[(eY _ _ _).1];simp,.oz k (dC k),λag=>rfl,?_,λj hj=>?_,λj hj=>?_⟩;simp[den,js];rw[hf _ hq,ho _ hq c l h1,<- he.2];intro P β w I v hv;simp only[VR]at hv ⊢;exact .inr ⟨he.1,hv.resolve_left λh=>he.1 h.2.2.2⟩;simp[bz]at hj;subst hj;exact⟨k,hq⟩;simp[bz]at hj;subst hj;exact⟨k',hq⟩;cases h;rename_i k' len;rw[ah]at h;obtain⟨o,h1,h⟩:=h;split at h;rename_i c l;cases h;have hq:(k',k)∈NM:=hn _ (nO _ _ _);have he:len=l.length:=by have:=hc (be len l.length) (by rw[(eY _ _ _).2];simp);simpa[be]using this
  refine⟨[],by rw[(eY _ _ _).1];simp,.oz k (dC k),λag=>rfl,?_,λj hj=>?_,λj hj=>?_⟩;simp[den,js];rw[hf _ hq,ho _ hq c l h1,he];exact lf.refl _;simp[bz,aZ]at hj;subst hj;exact⟨k,hq⟩;simp[bz,aZ]at hj;subst hj;exact⟨k',hq⟩;cases h;cases h
 |.p k,d,m,m',h,hn,hc=>by simp[mP]at h;split at h;rename_i k';cases h;have hq:(k',k)∈NM:=hn _ (nO _ _ _);refine⟨[],by rw[(eY _ _ _).1];simp,.ptr k 0 0,λag=>rfl,?_,?_,?_⟩;simp[den,js];rw[hf _ hq];exact lf.refl _;intro j hj;simp[bz,aZ]at hj;subst hj;exact⟨k,hq⟩;intro j hj;simp[bz,aZ]at hj;subst hj;exact⟨k',hq⟩;cases h
 |.mp k,d,m,m',h,hn,hc=>by simp[mP]at h;split at h;rename_i k';cases h;have hq:(k',k)∈NM:=hn _ (nO _ _ _);refine⟨[],by rw[(eY _ _ _).1];simp,.mp k,λag=>rfl,?_,?_,?_⟩;simp[den,js];rw[hf _ hq];exact lf.refl _;intro j hj;simp[bz,aZ]at hj;subst hj;exact⟨k,hq⟩;intro j hj;simp[bz,aZ]at hj;subst hj;exact⟨k',hq⟩;cases h
 |.nil,d,m,m',h,_,_=>by simp[mP]at h;split at h;cases h;exact⟨[],by simp,.nil,λag=>rfl,lf.refl _,by simp[bz],by simp[bz]⟩;cases h
 |.f F fs cs,d,m,m',h,hn,hc=>by
  simp[mP]at h;split at h;rename_i F' first caps
  split at h;rename_i e;subst e;rw[ah]at h;obtain⟨m1,h1,h⟩:=h;have hm:=(yA cs _ m1 m' h).1;obtain⟨n1,a1,f',b1,c1,e1,g1⟩:=Ce hf ho fs _ m m1 h1 (λ q hq=>hn q (hm.1 q hq)) (λ q hq=>hc q (hm.2 q hq));obtain⟨n2,a2,c',b2,c2,e2,g2⟩:=Ce hf ho cs _ m1 m' h hn hc;refine⟨n1++n2,by rw[a2,a1,aR],.fn F f' c',λag=>by simp[eP,aR,b1,b2],?_,?_,?_⟩;intro P β w I v hv;simp[den,js,VR]at hv ⊢;obtain⟨us,vs,rfl,hu,hv⟩:=hv;exact⟨us,vs,rfl,LU c1 _ hu,LU c2 _ hv⟩;intro j hj;simp[bz,bO]at hj;exact hj.elim (e1 j) (e2 j);intro j hj;simp[bz,bO]at hj;exact hj.elim (g1 j) (g2 j);cases h;cases h
 |.od k,d,m,m',h,hn,hc=>by
  simp[mP]at h;split at h;rename_i k' aa len;rw[ah]at h;obtain⟨o,h1,h⟩:=h;split at h;rename_i c l;cases h;have hq:(k',k)∈NM:=hn _ (nO _ _ _);have he:aa+len=l.length:=by have:=hc (be (aa+len) l.length) (by rw[(eY _ _ _).2];simp);simpa[be]using this
  refine⟨[⟨.int .i64,(aa:Int)⟩],by rw[(eY _ _ _).1],.own k aa (dC k-aa),λag=>?_,?_,?_,?_⟩;simp only[eP,List.cons_append,fM];have:YG (X:=X) ⟨.int .i64,(aa:Int)⟩=aa:=by simp[YG];rw[Uq];simp
  rw[this];simp[den,js];rw[hf _ hq,ho _ hq c l h1,show l.length-aa=len by omega];exact lf.refl _;intro j hj;simp[bz,aZ]at hj;subst hj;exact⟨k,hq⟩;intro j hj;simp[bz,aZ]at hj;subst hj;exact⟨k',hq⟩;cases h;cases h
 |.a ps,d,m,m',h,hn,hc=>by simp[mP]at h;split at h;rename_i ds;have⟨an,h1,ds',h2,h3,h4,h5⟩:=Ce hf ho ps ds m m' h hn hc;refine⟨an,h1,.agg ds',λag=>by simp[eP,h2],?_,by simpa[bz]using h4,by simpa[bz]using h5⟩;intro P β w I v hv;simp[den,js,VR]at hv ⊢;obtain⟨vs,rfl,hv⟩:=hv;refine⟨vs,rfl,?_⟩;exact LU h3 _ hv;cases h
theorem Ce(hf:∀q∈NM,f q.1=q.2)(ho:∀q∈NM,∀c l,get q.1=some (.ed c l)->dC q.2=l.length):∀(ps:List (Pt X.ι))(ds:List (DV X))(m m':MA X),sY get ps ds m=some m'->(∀ q∈m'.nm,q∈NM)->(∀ c∈m'.iS,c=true)->
 ∃an,m'.eo=m.eo++an/\∃ds',(∀ ag,k9 dC ps (an++ag)=(ds',ag))/\mj (DN NM) f (bG ds) (bG ds')/\(∀ j∈aN ds,DN NM j)/\(∀ j∈aN ds',SN NM j)
 |[],[],m,m',h,_,_=>by simp[sY,bP]at h;subst h;exact⟨[],by simp,[],λag=>rfl,trivial,by simp[aN],by simp[aN]⟩
 |p::ps,d::ds,m,m',h,hn,hc=>by simp[sY]at h;have⟨m1,h1,h⟩:=ah.1 h;have hm:=(yA ps ds m1 m' h).1;obtain⟨n1,a1,d',b1,c1,e1,g1⟩:=acC hf ho p d m m1 h1 (λ q hq=>hn q (hm.1 q hq)) (λ q hq=>hc q (hm.2 q hq));have⟨n2,a2,ds',b2,c2,e2,g2⟩:=Ce hf ho ps ds m1 m' h hn hc;refine⟨n1++n2,by rw[a2,a1,aR],d'::ds',λag=>?_,⟨⟨λ k hk=>e1 k (by rwa [iY]at hk),c1⟩,c2⟩,?_,?_⟩;simp[k9,aR,b1,b2];intro j hj;simp[aN,bO]at hj;exact hj.elim (e1 j) (e2 j);intro j hj;simp[aN,bO]at hj;exact hj.elim (g1 j) (g2 j)
 |[],_::_,m,m',h,_,_=>by simp[sY]at h
 |_::_,[],m,m',h,_,_=>by simp[sY]at h
end
theorem Qn(hf:∀q∈NM,f q.1=q.2)(ho:∀q∈NM,∀c l,get q.1=some (.ed c l)->dC q.2=l.length):∀(rs:List (List (Pt X.ι)))(qs:List (List (DV X)))(m m':MA X),JO get rs qs m=some m'->(∀ q∈m'.nm,q∈NM)->(∀ c∈m'.iS,c=true)->
 ∃an,m'.eo=m.eo++an/\∃De,(∀ ag,vJ dC rs (an++ag)=(De,ag))/\io (DN NM) f (qs.map bG) (De.map bG)/\(∀ j∈(qs.map aN).flatten,DN NM j)/\(∀ j∈(De.map aN).flatten,SN NM j)
 |[],[],m,m',h,_,_=>by simp[JO]at h;subst h;exact⟨[],by simp,[],λag=>rfl,trivial,by simp,by simp⟩
 |r::rs,q::qs,m,m',h,hn,hc=>by
  simp[JO]at h;have⟨m1,h1,h⟩:=ah.1 h;have hm:=(yB rs qs m1 m' h).1;obtain⟨n1,a1,d',b1,c1,e1,g1⟩:=Ce hf ho r q m m1 h1 (λ q hq=>hn q (hm.1 q hq)) (λ q hq=>hc q (hm.2 q hq));have⟨n2,a2,ds',b2,c2,e2,g2⟩:=Qn hf ho rs qs m1 m' h hn hc;refine⟨n1++n2,by rw[a2,a1,aR],d'::ds',λag=>?_,⟨c1,c2⟩,?_,?_⟩;simp[vJ]
  all_goals grind
 |[],_::_,m,m',h,_,_|_::_,[],m,m',h,_,_=>by simp[JO]at h
end
end
section
variable {X:SX} {get:Nat->Option (b7 X)} {env:Nat->DV X}
theorem Gz:∀(sl:List (Nat×Pt X.ι))(m m':MA X),Gv get env sl m=some m'->gi m m'/\∃an,m'.eo=m.eo++an/\an.length=(hZ sl).length
 |[],m,m',h=>by simp[Gv]at h;subst h;exact⟨gi.refl _,[],by simp,rfl⟩
 |(t,p)::r,m,m',h=>by simp[Gv]at h;rw[ah]at h;obtain⟨m1,h1,h⟩:=h;obtain⟨a1,n1,b1,c1⟩:=ag1 p _ m m1 h1;have⟨a2,n2,b2,c2⟩:=Gz r m1 m' h;exact⟨a1.trans a2,n1++n2,by rw[b2,b1,aR],by simp[hZ,c1,c2]⟩
theorem lY:∀(os:List (Nat×OP X.ι))(m m':MA X),BV get os m=some m'->gi m m'/\∃an,m'.eo=m.eo++an/\an.length=(da os).length
 |[],m,m',h=>by simp[BV]at h;subst h;exact⟨gi.refl _,[],by simp,rfl⟩
 |(k,op)::r,m,m',h=>by simp[BV]at h;rw[ah]at h;obtain⟨o,h1,h⟩:=h;split at h;rename_i c c' l;rw[ah]at h;obtain⟨l',h2,h⟩:=h;obtain⟨a2,n2,b2,c2⟩:=lY r _ m' h;refine⟨gi.trans (gi.trans (b:=⟨m.nm,m.eo++[⟨.sl c,l'⟩],m.iS⟩) ⟨λ _ h=>h,λ_ h=>h⟩ (pu _ _ _)) a2,[⟨.sl c,l'⟩]++n2,?_,by simp[da,c2]⟩;rw[b2,(eY _ _ _).1,aR];rename_i kc vc tm tf l;rw[ah]at h;obtain⟨l',h2,h⟩:=h;obtain⟨a2,n2,b2,c2⟩:=lY r _ m' h;refine⟨gi.trans (gi.trans (b:=⟨m.nm,m.eo++[⟨.mp kc vc,l'⟩],m.iS⟩) ⟨λ _ h=>h,λ_ h=>h⟩ (pu _ _ _)) a2,[⟨.mp kc vc,l'⟩]++n2,?_,by simp[da,c2]⟩;rw[b2,(eY _ _ _).1,aR];rename_i sz rows sz' rows';split at h;rw[ah]at h;obtain⟨m1,h2,h⟩:=h;obtain⟨a1,n1,b1,c1⟩:=yB rows _ _ m1 h2;have⟨a2,n2,b2,c2⟩:=lY r m1 m' h;refine⟨((pu m _ _).trans a1).trans a2,n1++n2,?_,by simp[da,c1,c2]⟩;rw[b2,b1,(eY _ _ _).1,aR];cases h;cases h
variable {NM:List (Nat×Nat)} {f:Nat->Nat} {dC:Nat->Nat}
theorem Dy:∀(os:List (Nat×OP X.ι))(m m':MA X),BV get os m=some m'->(∀ q∈m'.nm,q∈NM)->∃an,m'.eo=m.eo++an/\∀ag,∀k∈os.map (·.1),∃k' o,(k',k)∈NM/\get k'=some o/\∀c l,o=.ed c l->(k,List.length l)∈lens os (an++ag)
 |[],m,m',h,_=>by simp[BV]at h;subst h;exact⟨[],by simp,λag k hk=>by simp at hk⟩
 |(k,op)::r,m,m',h,hn=>by
  simp[BV]at h;rw[ah]at h;obtain⟨o,h1,h⟩:=h;split at h;rename_i c c' l;rw[ah]at h;obtain⟨l',h2,h⟩:=h;have hm:=(lY r _ m' h).1;obtain⟨n2,b2,c2⟩:=Dy r _ m' h hn;refine⟨[⟨.sl c,l'⟩]++n2,by rw[b2,(eY _ _ _).1,aR],λag j hj=>?_⟩;simp only[bg,aP]at hj;by_cases hjk:j=k;subst hjk;refine⟨_,_,hn _ (hm.1 _ (nO _ _ _)),h1,λc2 l2 he=>?_⟩;injection he with e1 e2;subst e1;subst e2;have:=congrArg List.length (jv h2).2;simp at this;rw[this];exact List.mem_cons_self;rcases hj with rfl|hj;exact(hjk rfl).elim;have⟨k',o',g1,g2,g3⟩:=c2 ag j hj;exact⟨k',o',g1,g2,λc l he=>cO _ (g3 c l he)⟩;rename_i kc vc tm tf l;rw[ah]at h;obtain⟨l',h2,h⟩:=h;have hm:=(lY r _ m' h).1;obtain⟨n2,b2,c2⟩:=Dy r _ m' h hn;refine⟨[⟨.mp kc vc,l'⟩]++n2,by rw[b2,(eY _ _ _).1,aR],λag j hj=>?_⟩;simp only[bg,aP]at hj;by_cases hjk:j=k;subst hjk;exact⟨_,_,hn _ (hm.1 _ (nO _ _ _)),h1,λc2 l2 he=>by cases he⟩;rcases hj with rfl|hj;exact(hjk rfl).elim;exact c2 ag j hj;rename_i sz rows sz' rows';split at h;have⟨m1,h2,h⟩:=ah.1 h;obtain⟨a1,n1,b1,c1⟩:=yB rows _ _ m1 h2;have hm:=(lY r _ m' h).1;obtain⟨n2,b2,c2⟩:=Dy r _ m' h hn;refine⟨n1++n2,by rw[b2,b1,(eY _ _ _).1,aR],λag j hj=>?_⟩;simp only[bg,aP]at hj;have hd:(n1++n2++ag).drop (vH rows).length=n2++ag:=by rw[<- c1,aR,List.drop_left]
  simp only[lens,hd];by_cases hjk:j=k;subst hjk;exact⟨_,_,hn _ (hm.1 _ (a1.1 _ (nO _ _ _))),h1,λc2 l2 he=>by cases he⟩;rcases hj with rfl|hj;exact(hjk rfl).elim;exact c2 ag j hj;cases h;cases h
theorem Oq:∀(os:List (Nat×OP X.ι))(L:List (DC X)),((lens os L).map (·.1)).Sublist (os.map (·.1))
 |[],_=>by simp[lens]
 |(k,.l c)::r,L=>by simp[lens];split;exact(Oq r _).cons_cons _;exact List.nil_sublist _
 |(k,.m kc vc)::r,L|(k,.c sz rows)::r,L=>(Oq r _).cons _
theorem LV(hf:∀q∈NM,f q.1=q.2)(ho:∀q∈NM,∀c l,get q.1=some (.ed c l)->dC q.2=l.length):∀(sl:List (Nat×Pt X.ι))(m m':MA X),Gv get env sl m=some m'->(∀ q∈m'.nm,q∈NM)->(∀ c∈m'.iS,c=true)->
 ∃an,m'.eo=m.eo++an/\∃es,(∀ ag,Kh dC sl (an++ag)=es)/\(∀ p∈es,p.1∈sl.map (·.1)/\lf (js f (den (env p.1))) (den p.2)/\(∀ j∈bz (env p.1),DN NM j)/\(∀ j∈bz p.2,SN NM j))
 |[],m,m',h,_,_=>by simp[Gv]at h;subst h;exact⟨[],by simp,[],λag=>rfl,by simp⟩
 |(t,p)::r,m,m',h,hn,hc=>by
  simp[Gv]at h;have⟨m1,h1,h⟩:=ah.1 h;have hm:=(Gz r m1 m' h).1;obtain⟨n1,a1,d',b1,c1,e1,g1⟩:=acC hf ho p _ m m1 h1 (λ q hq=>hn q (hm.1 q hq)) (λ q hq=>hc q (hm.2 q hq));have⟨n2,a2,es,b2,c2⟩:=LV hf ho r m1 m' h hn hc;refine⟨n1++n2,by rw[a2,a1,aR],(t,d')::es,λag=>by simp[Kh,b1,b2],λq hq=>?_⟩
  all_goals grind
theorem YX{D:Nat->Prop}(f:Nat->Nat):∀rows:List (List Tree),io D f (aF rows) (aF rows)
 |[]=>trivial
 |r::rs=>by
  refine⟨?_,YX f rs⟩
  induction r with
  |nil=>trivial
  |cons y ys ih=>exact⟨⟨by simp[refs],lf.refl _⟩,ih⟩
theorem YZ{a b c d:CT X.ι}{l:List (CT.T X.toSE a×CT.T X.toSE b)}{l':List (CT.T X.toSE c×CT.T X.toSE d)}(h:kT (.mp a b) (.mp c d) l=some l'):bI (.map c d l':b7 X)=bI (.map a b l):=by
 obtain⟨e,h⟩:=qN h
 grind
theorem Y0{D:Nat->Prop}(f:Nat->Nat){kc vc:CT X.ι}:∀l:List (CT.T X.toSE kc×CT.T X.toSE vc),io D f (bI (.map kc vc l:b7 X)).rows (bI (.map kc vc l:b7 X)).rows
 |[]=>trivial
 |p::ps=>⟨⟨⟨by simp[zF],by rw[Uy];exact lf.refl _⟩,⟨by simp[zF],by rw[Uy];exact lf.refl _⟩,trivial⟩,Y0 f ps⟩
theorem zJ(hf:∀q∈NM,f q.1=q.2)(ho:∀q∈NM,∀c l,get q.1=some (.ed c l)->dC q.2=l.length):∀(os:List (Nat×OP X.ι))(m m':MA X),BV get os m=some m'->(∀ q∈m'.nm,q∈NM)->(∀ c∈m'.iS,c=true)->
 ∃an,m'.eo=m.eo++an/\∃xs,(∀ ag,bV dC os (an++ag)=xs)/\(∀ p∈xs,p.1∈os.map (·.1)/\∃k' o o',p.2=some o'/\(k',p.1)∈NM/\get k'=some o/\(bI o').sz=(bI o).sz/\io (DN NM) f (bI o).rows (bI o').rows/\(∀ j∈d7 o',SN NM j))
 |[],m,m',h,_,_=>by simp[BV]at h;subst h;exact⟨[],by simp,[],λag=>rfl,by simp⟩
 |(k,op)::r,m,m',h,hn,hc=>by simp[BV]at h;rw[ah]at h;obtain⟨o,h1,h⟩:=h;split at h;rename_i c c' l;rw[ah]at h;obtain⟨l',h2,h⟩:=h;have hm:=(lY r _ m' h).1;obtain⟨n2,a2,xs,b2,c2⟩:=zJ hf ho r _ m' h hn hc;refine⟨[⟨.sl c,l'⟩]++n2,by rw[a2,(eY _ _ _).1,aR],(k,some (.ed c l'))::xs,λag=>by simp[bV,b2],λq hq=>?_⟩;rcases aP.1 hq with rfl|hq;refine⟨by simp,_,_,_,rfl,hn _ (hm.1 _ (nO _ _ _)),h1,?_,?_,by simp[d7]⟩;simp[bI,(jv h2).1];simp[bI,(jv h2).2];exact YX f _;have⟨i1,i2⟩:=c2 q hq;exact⟨by simp only[bg,aP];exact .inr i1,i2⟩;rename_i kc vc tm tf l;rw[ah]at h;obtain⟨l',h2,h⟩:=h;have hm:=(lY r _ m' h).1;obtain⟨n2,a2,xs,b2,c2⟩:=zJ hf ho r _ m' h hn hc;refine⟨[⟨.mp kc vc,l'⟩]++n2,by rw[a2,(eY _ _ _).1,aR],(k,some (.map kc vc l'))::xs,λag=>by simp[bV,b2],λq hq=>?_⟩;rcases aP.1 hq with rfl|hq;refine⟨by simp,_,_,_,rfl,hn _ (hm.1 _ (nO _ _ _)),h1,?_,?_,by simp[d7]⟩;rw[YZ h2];rw[YZ h2];exact Y0 f _;have⟨i1,i2⟩:=c2 q hq;exact⟨by simp only[bg,aP];exact .inr i1,i2⟩;rename_i sz rows sz' rows';split at h;rename_i hsz;have⟨m1,h2,h⟩:=ah.1 h;have hm1:=(yB rows _ _ m1 h2).1;have hm:=(lY r _ m' h).1;obtain⟨n1,a1,qs,b1,c1,e1,g1⟩:=Qn hf ho rows _ _ m1 h2 (λ q hq=>hn q (hm.1 q hq)) (λ q hq=>hc q (hm.2 q hq));obtain⟨n2,a2,xs,b2,c2⟩:=zJ hf ho r _ m' h hn hc;refine⟨n1++n2,by rw[a2,a1,(eY _ _ _).1,aR],(k,some (.cells sz qs))::xs,λag=>by simp[bV,b1,b2],λq hq=>?_⟩;rcases aP.1 hq with rfl|hq;exact⟨by simp,_,_,_,rfl,hn _ (hm.1 _ (hm1.1 _ (nO _ _ _))),h1,hsz,c1,g1⟩;have⟨i1,i2⟩:=c2 q hq;exact⟨by simp only[bg,aP];exact .inr i1,i2⟩;cases h;cases h
theorem ahY{d:DV X}(h:isU d=false)(h':d=.undef):False:=by subst h';cases h
theorem aav{A:Type}{sh:Sh X.ι}{ds:List Nat}{s0 s':df X}{k:VT (X:=X) sh.vars->Option A}{r:A}(hl0:Low s0)(hx:Ext (· ∈ds) s0 s')(h:Mo sh ds s0 s' k=some r):
 ∃v,k v=some r/\Low (encS sh s0 v)/\Ext (· ∈ds) s0 (encS sh s0 v)/\∀(P:Program) (w0:World) (O0:kq) (N:Nat) (β:Nat->Option cJ) (I:Nat->Prop) (a:Act) (w:World),Rel P w0 O0 N β I s'.st a w->∃ β',Rel P w0 O0 N β' I (encS sh s0 v).st a w:=by
 unfold Mo at h;have⟨m1,h1,h⟩:=ah.1 h;have⟨m,h2,h⟩:=ah.1 h;have⟨h3,h⟩:=dN h;have⟨v,h4,h⟩:=ah.1 h;have⟨h5,h6⟩:=pq h;simp only[Z1,bq,bM]at h3;obtain⟨⟨⟨⟨⟨⟨⟨⟨n1,n2⟩,n3⟩,n4⟩,n5⟩,n6⟩,n7⟩,n8⟩,n9⟩:=h3;have hm2:=(lY _ _ _ h2).1;have t8:=Uo h4;obtain⟨_,nA,dA,lA⟩:=Gz _ _ _ h1;simp at dA;have Q1:=(List.nodup_append.1 n1).1;have QQ:=(List.nodup_append.1 n2).1;have hsw:((m.nm.map λq=>(q.2,q.1)).map (·.1)).Nodup:=by rw[map_map];exact QQ
 generalize hf':(λ j=>match lk m.nm j with|some q=>q|none=>j:Nat->Nat)=f;generalize hg':(λ j=>match lk (m.nm.map λq=>(q.2,q.1)) j with|some q=>q|none=>j:Nat->Nat)=g;have hf:∀q∈m.nm,f q.1=q.2:=by rintro⟨p,q⟩ hq;rw[<- hf'];simp[uM Q1 hq]
 have hg:∀q∈m.nm,g q.2=q.1:=by rintro⟨p,q⟩ hq;rw[<- hg'];have:(q,p)∈m.nm.map λq=>(q.2,q.1):=mem_map.2 ⟨(p,q),hq,rfl⟩;simp[uM hsw this]
 have mN:∀j∈sh.c8,f j=j:=by
  intro j hj;rw[<- hf'];cases hh:lk m.nm j with
  |none=>simp[hh]
  |some q=>exact((List.nodup_append.1 n1).2.2 j (mem_map.2 ⟨(j,q),qM hh,rfl⟩) j hj rfl).elim
 have G0:∀j∈sh.c8,g j=j:=by
  intro j hj;rw[<- hg'];cases hh:lk (m.nm.map λq=>(q.2,q.1)) j with
  |none=>simp[hh]
  |some q=>
   have h1:=qM hh;simp only[mem_map]at h1;obtain⟨z,hz,e⟩:=h1;injection e with e1 e2;exact((List.nodup_append.1 n2).2.2 j (mem_map.2 ⟨z,hz,e1⟩) j hj rfl).elim
 have hg0:∀j,j<1000->g j=j:=by
  intro j hj;rw[<- hg'];cases hh:lk (m.nm.map λq=>(q.2,q.1)) j with
  |none=>simp[hh]
  |some q=>
   have h1:=qM hh;simp only[mem_map]at h1;obtain⟨z,hz,e⟩:=h1;injection e with e1 e2;have:=all_eq_true.1 n4 z hz;simp at this;simp[hh];omega
 have hgf:∀j,(DN m.nm j\/j∈sh.c8)->g (f j)=j:=by rintro j (⟨q,hq⟩|hj);rw[hf _ hq];exact hg _ hq;rw[mN j hj];exact G0 j hj
 obtain⟨nB,dB,lB⟩:=Dy (NM:=m.nm) _ _ _ h2 (λ q hq=>hq);have hL:m.eo=nA++nB:=by rw[dB,dA]
 have hdrop:(vI sh.vars v).drop (hZ sh.slots).length=nB:=by rw[t8,hL,<- lA,List.drop_left]
 have htake:(vI sh.vars v).take (hZ sh.slots).length=nA:=by rw[t8,hL,<- lA,List.take_left]
 generalize hol:(λ k=>(lk (lens sh.cN nB) k).getD 0:Nat->Nat)=dC;have ho:∀q∈m.nm,∀c l,gE s'.obj q.1=some (.ed c l)->dC q.2=l.length:=by
  rintro⟨p,q⟩ hq c l hl;have hqk:=all_eq_true.1 n4 _ hq;simp at hqk;obtain⟨p',o,g1,g2,g3⟩:=lB [] q (by simpa using hqk.1.1);have:p'=p:=by have e1:=hg _ g1;have e2:=hg _ hq;simp at e1 e2;rw[<- e1,e2]
  subst this;simp at hl;rw[hl]at g2;injection g2 with g2;have h3:=g3 c l g2.symm;rw[append_nil]at h3;rw[<- hol];have hk:=(Oq sh.cN nB).nodup n3;simp[uM hk h3]
 obtain⟨PB,HE,es,eA,pA⟩:=LV (NM:=m.nm) (f:=f) (dC:=dC) hf ho _ _ _ h1 (λ q hq=>hm2.1 q hq) (λ c hc=>h5 c (hm2.2 c hc));obtain⟨Z3,S4,xs,eB,pB⟩:=zJ (NM:=m.nm) (f:=f) (dC:=dC) hf ho _ _ _ h2 (λ q hq=>hq) h5;have SZ:PB=nA:=by simp at HE;rw[<- HE,dA]
 have SU:=List.append_cancel_left (S4.symm.trans dB);subst SZ SU;have HC:=eA [];have HB:=eB [];rw[append_nil]at HC HB;have hS:encS sh s0 v=⟨es++sh.keep.map (λ t=>(t,eI s0.env t)),xs++sh.c8.map (λ k=>(k,gE s0.obj k)),sh.nx,(List.range s0.nx).filter (λ k=>!sh.c8.contains k)++s0.log⟩:=by simp[encS,hdrop,htake,hol,HC,HB]
 have hsn:∀j,SN m.nm j->j<sh.nx:=by rintro j ⟨p,hp⟩;have:=all_eq_true.1 n4 _ hp;simp[bq,bM]at this;exact this.1.2
 have kp:∀j,(sh.c8.contains j || m.nm.contains (j,j))=true->j∈sh.c8\/(j,j)∈m.nm:=by intro j hj;simpa using hj
 have hfp:∀j,j∈sh.c8\/(j,j)∈m.nm->f j=j:=λj hj=>hj.elim (mN j) (λ h=>hf (j,j) h);have hdp:∀j,j∈sh.c8\/(j,j)∈m.nm->DN m.nm j\/j∈sh.c8:=λj hj=>hj.elim .inr (λ h=>.inl ⟨j,h⟩);have hko:∀j∈sh.c8,j<s0.nx/\(∃ o,gE s0.obj j=some o/\gE s'.obj j=some o/\∀i∈d7 o,i∈sh.c8\/(i,i)∈m.nm):=by
  intro j hj;have:=all_eq_true.1 n7 _ hj;simp only[bq,bM,Bool.not_eq_true']at this;obtain⟨⟨⟨a1,a2⟩,a3⟩,a4⟩:=this;refine⟨a1,?_⟩;cases ho0:gE s0.obj j with
  |none=>rw[ho0]at a4;cases a4
  |some o=>
   rw[ho0]at a4;refine⟨o,rfl,?_,λi hi=>kp i (all_eq_true.1 a4 i hi)⟩;obtain⟨d,hd,hd2⟩:=hx.obj;have hnd:j∉d:=(by have e:s'.log.take (s'.log.length-s0.log.length)=d:=(by rw[hd,eZ,Nat.add_sub_cancel,List.take_left]);rw[e]at a2;simpa using a2);rcases hd2 j a1 hnd with h|h;rw[h,ho0];rw[h]at a3;cases a3
 have hke:∀t∈sh.keep,t∉ds/\eI s'.env t=eI s0.env t/\∀j∈bz (eI s0.env t),j∈sh.c8\/(j,j)∈m.nm:=by
  intro t ht;have:=all_eq_true.1 n6 _ ht;simp only[bq,Bool.not_eq_true']at this;obtain⟨⟨a1,a2⟩,a3⟩:=this;have a1':t∉ds:=by simpa using a1
  refine⟨a1',?_,λj hj=>kp j (all_eq_true.1 a3 j hj)⟩;rcases hx.env t a1' with h|h;exact h;exact(ahY a2 h).elim
 have hks:∀q∈es,q.1∈ds:=by intro q hq;have h1:=(pA q hq).1;obtain⟨z,hz,e⟩:=mem_map.1 h1;have:=all_eq_true.1 n5 _ hz;rw[<- e];simpa using this
 have hkeep:∀t,lk (sh.keep.map λt=>(t,eI s0.env t)) t=if t∈sh.keep then some (eI s0.env t)else none:=by
  intro t
  induction sh.keep with
  |nil=>simp[lk]
  |cons q qs ih=>
   simp[bg,lk,ih,aP];by_cases e:q=t;subst e;simp;rw[bn e];simp[Ne.symm e]
 have As:∀t,lk (sh.c8.map λt=>(t,gE s0.obj t)) t=if t∈sh.c8 then some (gE s0.obj t)else none:=by
  intro t
  induction sh.c8 with
  |nil=>simp[lk]
  |cons q qs ih=>
   simp[bg,lk,ih,aP];by_cases e:q=t;subst e;simp;rw[bn e];simp[Ne.symm e]
 have rb:∀t,(∃ d,(t,d)∈es/\eI (encS sh s0 v).env t=d)\/(t∈sh.keep/\eI (encS sh s0 v).env t=eI s0.env t)\/eI (encS sh s0 v).env t=.undef:=by
  intro t;have e1:eI (encS sh s0 v).env t=(match lk es t with|some d=>some d|none=>if t∈sh.keep then some (eI s0.env t)else none).getD .undef:=by rw[hS];show(lk (es++sh.keep.map (λ t=>(t,eI s0.env t))) t).getD .undef=_;rw[Cb,hkeep t];cases lk es t<;>rfl
  rw[e1];cases he:lk es t with
  |some d=>exact .inl ⟨d,qM he,rfl⟩
  |none=>
   by_cases ht:t∈sh.keep;simp only[bA ht];exact .inr (.inl ⟨ht,rfl⟩);simp only[bn ht];exact .inr (.inr rfl)
 have iz:∀j o,gE (encS sh s0 v).obj j=some o->(∃ k' o1,(k',j)∈m.nm/\gE s'.obj k'=some o1/\(bI o).sz=(bI o1).sz/\io (DN m.nm) f (bI o1).rows (bI o).rows/\(∀ i∈d7 o,SN m.nm i))\/(j∈sh.c8/\gE s0.obj j=some o):=by
  intro j o hjo;have e1:gE (encS sh s0 v).obj j=(match lk xs j with|some d=>some d|none=>if j∈sh.c8 then some (gE s0.obj j)else none).join:=by rw[hS];show(lk (xs++sh.c8.map (λ k=>(k,gE s0.obj k))) j).join=_;rw[Cb,As j];cases lk xs j<;>rfl
  rw[e1]at hjo;cases he:lk xs j with
  |some x=>
   rw[he]at hjo;obtain⟨_,k',o1,o',b1,b2,b3,b4,b5,b6⟩:=pB _ (qM he);simp at b1 b2 hjo;subst b1;simp[Option.join_some,bP]at hjo;subst hjo;exact .inl ⟨k',o1,b2,b3,b4,b5,b6⟩
  |none=>
   rw[he]at hjo;by_cases hj:j∈sh.c8;simp[bA hj,Option.join_some]at hjo;exact .inr ⟨hj,hjo⟩;simp[bn hj]at hjo
 have hnx:=n8;have hkx:∀j,j∈sh.c8\/(j,j)∈m.nm->j<sh.nx:=λj hj=>hj.elim (λ hj=>Nat.lt_of_lt_of_le (hko j hj).1 hnx) (λ h=>hsn j ⟨j,h⟩);have hRW:∀{r q:List AV},mj (DN m.nm) f r q->mj (λ j=>DN m.nm j\/j∈sh.c8) f r q:=by
  intro r
  induction r with
  |nil=>intro q h;cases q with
   |nil=>trivial
   |cons=>exact h.elim
  |cons x xs ih=>intro q h;cases q with
   |nil=>exact h.elim
   |cons y ys=>exact⟨⟨λ k hk=>.inl (h.1.1 k hk),h.1.2⟩,ih h.2⟩
 have R0:∀{r q:List (List AV)},io (DN m.nm) f r q->io (λ j=>DN m.nm j\/j∈sh.c8) f r q:=by
  intro r
  induction r with
  |nil=>intro q h;cases q with
   |nil=>trivial
   |cons=>exact h.elim
  |cons x xs ih=>intro q h;cases q with
   |nil=>exact h.elim
   |cons y ys=>exact⟨hRW h.1,ih h.2⟩
 refine⟨v,h6,?_,?_,?_⟩;constructor;rw[hS];exact n9;rw[hS];exact Nat.le_trans hl0.ge n8;intro t j hj;have zv:(encS sh s0 v).nx=sh.nx:=by rw[hS]
 rw[zv];rcases rb t with ⟨d,h1,h2⟩|⟨h1,h2⟩|h2;rw[h2]at hj;exact hsn j ((pA _ h1).2.2.2 j hj);rw[h2]at hj;exact hkx j ((hke t h1).2.2 j hj);rw[h2]at hj;simp[bz]at hj;intro j o hjo;have zv:(encS sh s0 v).nx=sh.nx:=by rw[hS]
 rw[zv];rcases iz j o hjo with ⟨k',o1,b1,b2,b3,b4,b5⟩|⟨b1,b2⟩;exact⟨hsn j ⟨k',b1⟩,λi hi=>hsn i (b5 i hi)⟩;have⟨c1,o',c2,c3,c4⟩:=hko j b1;rw[b2]at c2;cases c2;exact⟨hkx j (.inl b1),λi hi=>hkx i (c4 i hi)⟩;refine⟨λ t ht=>?_,⟨(List.range s0.nx).filter (λ k=>!sh.c8.contains k),by rw[hS],λj hj hn=>?_⟩,hS ▸ hnx⟩;rcases rb t with ⟨d,h1,h2⟩|⟨h1,h2⟩|h2;exact(ht (hks _ h1)).elim;exact .inl h2;exact .inr h2;have hjk:j∈sh.c8:=by simpa[hj]using hn
 cases hjo:gE (encS sh s0 v).obj j with
 |none=>exact .inr rfl
 |some o=>
  rcases iz j o hjo with ⟨k',o1,b1,_⟩|⟨b1,b2⟩;exact((List.nodup_append.1 n2).2.2 j (mem_map.2 ⟨(k',j),b1,rfl⟩) j hjk rfl).elim;exact .inl b2.symm
 intro P w0 O0 N β I a w hr;refine⟨_,Rel.re (f:=f) (g:=g) (D:=λj=>DN m.nm j\/j∈sh.c8) hgf hg0 hr (λ _=>.inl rfl) (λ _=>rfl) (λ t=>?_) (λ j o' hj=>?_)⟩;show den (eI (encS sh s0 v).env t)=.undef\/((∀ k∈refs (den (eI s'.env t)),_)/\lf (js f (den (eI s'.env t))) (den (eI (encS sh s0 v).env t)));rcases rb t with ⟨d,h1,h2⟩|⟨h1,h2⟩|h2;right;rw[h2];obtain⟨_,b1,b2,_⟩:=pA _ h1;exact⟨λ k hk=>.inl (b2 k (by rwa [iY]at hk)),b1⟩;right;have⟨_,b1,b2⟩:=hke t h1;rw[h2,b1];refine⟨λ k hk=>hdp k (b2 k (by rwa [iY]at hk)),?_⟩;rw[<- zH,UM _ (λ k hk=>hfp k (b2 k hk))];exact lf.refl _;left;rw[h2];rfl;simp[df.st,rF]at hj;obtain⟨o,hjo,rfl⟩:=hj;rcases iz j o hjo with ⟨k',o1,b1,b2,b3,b4,b5⟩|⟨b1,b2⟩;exact⟨k',bI o1,by simp[df.st,b2],.inl ⟨j,b1⟩,hf _ b1,b3,R0 b4⟩;have⟨c1,o',c2,c3,c4⟩:=hko j b1;rw[b2]at c2;cases c2;have hid:pg f o=o:=by
  cases o with
  |ed c l=>rfl
  |map kc vc l=>rfl
  |cells sz rows=>
   simp[pg];congr 1;have:=λq hq=>Dx q λi hi=>hfp i (c4 i (by simp[d7,List.mem_flatten,mem_map];exact⟨_,⟨q,hq,rfl⟩,hi⟩));rw[List.map_congr_left this];simp
 obtain⟨r1,r2⟩:=IU (D:=λj=>DN m.nm j\/j∈sh.c8) f o (λ i hi=>hdp i (c4 i hi));rw[hid]at r1 r2;exact⟨j,bI o,by simp[df.st,c3],.inr b1,mN j b1,r1,r2⟩
theorem Ext.trans{ds:Nat->Prop}{a b c:df X}(h:Ext ds a b)(h':Ext ds b c):Ext ds a c:=by refine⟨λ t ht=>?_,?_,Nat.le_trans h.nx h'.nx⟩;rcases h'.env t ht with h1|h1;rcases h.env t ht with h2|h2;exact .inl (h1.trans h2);exact .inr (h1.trans h2);exact .inr h1;obtain⟨d,h1,h2⟩:=h.obj;obtain⟨d',h3,h4⟩:=h'.obj;refine⟨d'++d,by rw[h3,h1,aR],λk hk hn=>?_⟩;simp at hn;rcases h4 k (Nat.lt_of_lt_of_le hk h.nx) hn.1 with h5|h5;rcases h2 k hk hn.2 with h6|h6;exact .inl (h5.trans h6);exact .inr (h5.trans h6);exact .inr h5
theorem Ext.refl(ds:Nat->Prop)(s:df X):Ext ds s s:=⟨λ _ _=>.inl rfl,⟨[],by simp,λ_ _ _=>.inl rfl⟩,aB _⟩
def Says(s s':df X):Prop:=∀(P:Program) (w0:World) (O0:kq) (N:Nat) (β:Nat->Option cJ) (I:Nat->Prop) (a:Act) (w:World),Rel P w0 O0 N β I s.st a w->∃ β',Rel P w0 O0 N β' I s'.st a w
theorem Low.room{s:df X}{P:Program}{w0:World}{O0:kq}{N:Nat}{β:Nat->Option cJ}{I:Nat->Prop}{a:Act}{w:World}(hl:Low s)(hr:Rel P w0 O0 N β I s.st a w):∃ β2,β2 s.nx=none/\Rel P w0 O0 N β2 I s.st a w:=by
 have hr1:=hr.restrict hl.old
 have hr2:=Rel.re (f:=id) (g:=λj=>if j<s.nx then j else 1000000) (D:=(· <s.nx)) (s':=s.st) (λ k hk=>bA hk) (λ j hj=>bA (by have:=hl.ge;omega)) hr1 (λ _=>.inl rfl) (λ _=>rfl)
  (λ q=>.inr ⟨λ k hk=>hl.env q k (by rw[<- iY];exact hk),by show lf (js id (den (eI s.env q))) (den (eI s.env q));rw[<- zH,UM (f:=id) _ (λ _ _=>rfl)];exact lf.refl _⟩)
  (λ j o' hj=>by
   simp[df.st]at hj;obtain⟨x,hx,rfl⟩:=hj;have⟨h1,h2⟩:=hl.obj j x hx;have⟨r1,r2⟩:=IU (D:=(· <s.nx)) id x h2;have hid:pg id x=x:=by
    cases x with
    |ed c l|map kc vc l=>rfl
    |cells sz rows=>
     simp[pg];have:∀q∈rows,Ki id q=q:=λq _=>Dx (f:=id) q λ_ _=>rfl;rw[List.map_congr_left this];simp
   rw[hid]at r1 r2;exact⟨j,bI x,by simp[df.st,hx],h1,rfl,r1,r2⟩)
 exact⟨_,by simp,hr2⟩
theorem alz(z:Bool)(k:Nat):bz (nz (X:=X) z k)=[k]:=by cases z<;>rfl
theorem UO{ds:List Nat}{z:Bool}{s:df X}{t:Nat}{c:CT X.ι}(hl:Low s)(ht:t∈ds):Low (xT z s t c)/\Ext (· ∈ds) s (xT z s t c)/\Says s (xT z s t c):=by
 unfold xT;split;rename_i hn;split;have he:∀q,eI ((t,nz z s.nx)::s.env) q=if t=q then nz z s.nx else eI s.env q:=λq=>by simp[eI,lk];by_cases e:t=q<;>simp[e]
 have hO:∀q,gE ((s.nx,some (.ed c []))::s.obj) q=if s.nx=q then some (.ed c [])else gE s.obj q:=λq=>by simp[gE,lk];by_cases e:s.nx=q<;>simp[e]
 refine⟨⟨by show s.nx+1<=1000000;omega,by have:=hl.ge;show 1000<=s.nx+1;omega,λq k hk=>?_,λk o ho=>?_⟩,⟨λ q hq=>?_,⟨[s.nx],rfl,λk hk hnk=>?_⟩,by show s.nx<=s.nx+1;omega⟩,λP w0 O0 N β I a w hr=>?_⟩;rw[he]at hk;split at hk;simp[alz]at hk;subst hk;show s.nx<s.nx+1;omega;have:=hl.env q k hk;show k<s.nx+1;omega;rw[hO]at ho;split at ho;rename_i e;cases ho;subst e;exact⟨by show s.nx<s.nx+1;omega,by simp[d7]⟩;have⟨h1,h2⟩:=hl.obj k o ho;exact⟨by show k<s.nx+1;omega,λj hj=>by have:=h2 j hj;show j<s.nx+1;omega⟩;left;rw[he,bn];intro e;subst e;exact hq ht;left;rw[hO,bn (by omega)];have⟨β2,Do,hr2⟩:=hl.room hr;have⟨hS,hM⟩:=Mem.oS (i:=s.nx) (o:=bI (.ed c []:b7 X)) hr2.mem Do rfl;refine⟨ins β2 s.nx .none,hr2.defers,hr2.size,λq=>?_,?_⟩;have h1:=hr2.env q;show eW P _ w I (den (eI ((t,nz z s.nx)::s.env) q)) none _;rw[he];by_cases e:t=q;subst e;rw[bA rfl];have h2:VR P _ w I (den (eI s.env t)) (a.tmps.getD t undef):=h1;rw[hn]at h2;rcases z with _|_;simp only[eW,nz,ax,den,VR];exact .inl ⟨by simp[ins],h2,trivial,trivial⟩;simp only[eW,nz,aj,den,VR];exact .inl ⟨trivial,h2⟩;rw[bn e];exact eW.mono hS.ext hS.same hS.inc h1;have e:(λ k=>(gE ((s.nx,some (.ed c []))::s.obj) k).map bI)=bT s.st.obj [(s.nx,some (bI (.ed c []:b7 X)))]:=by funext q;simp[bT,df.st];rw[hO];by_cases e:s.nx=q;simp[e];rw[bn e,bn (Ne.symm e)]
 show Mem P w0 O0 _ I (λ k=>(gE ((s.nx,some (.ed c []))::s.obj) k).map bI) w;rw[e];exact hM;exact⟨hl,Ext.refl _ s,λ_ _ _ _ β _ _ _ h=>⟨β,h⟩⟩;exact⟨hl,Ext.refl _ s,λ_ _ _ _ β _ _ _ h=>⟨β,h⟩⟩
theorem UQ(y:DV X):∀(l:List (DV X))(j i:Nat),i∈aN (l.set j y)->i∈aN l\/i∈bz y
 |[],_,_,h=>.inl (by simpa using h)
 |x::l,0,i,h=>by simp[aN]at h ⊢;rcases h with h|h;exact .inr h;exact .inl (.inr h)
 |x::l,j+1,i,h=>by simp[aN]at h ⊢;rcases h with h|h;exact .inl (.inl h);rcases UQ y l j i h with h|h;exact .inl (.inr h);exact .inr h
theorem br.set{P:Program}{β:Nat->Option cJ}{w:World}{I:Nat->Prop}{y:AV}:∀(xs:List AV)(vs:List Value)(j:Nat),(∀ x v,xs[j]? =some x->VR P β w I x v->VR P β w I y v)->br P β w I xs vs->br P β w I (xs.set j y) vs
 |[],vs,_,_,h=>by simpa using h
 |x::xs,[],_,_,h=>by simp[br]at h
 |x::xs,v::vs,0,hy,h=>by exact⟨hy x v rfl h.1,h.2⟩
 |x::xs,v::vs,j+1,hy,h=>by exact⟨h.1,br.set xs vs j (λ x v e=>hy x v (by simpa using e)) h.2⟩
theorem OR.set1{P:Program}{β:Nat->Option cJ}{w:World}{I:Nat->Prop}{sz:Nat}{row:List AV}{j:Nat}{y:AV}{B:cJ}(hy:∀x v,row[j]? =some x->VR P β w I x v->VR P β w I y v)(h:OR P β w I ⟨sz,[row]⟩ B):OR P β w I ⟨sz,[row.set j y]⟩ B:=by
 cases B with
 |none=>simp[OR]at h
 | «at» b s n=>
  obtain⟨h1,c,e,h2,h3,h4⟩:=h;refine⟨h1,c,e,h2,h3,?_⟩;simp only[b9,List.length_set]at h4 ⊢;refine⟨h4.1,?_,trivial⟩;rw[jG]at h4 ⊢;intro i x hx;rw[List.getElem?_set]at hx;split at hx;rename_i e;subst e;split at hx;cases hx;rename_i hlt;obtain⟨v,g1,g2,g3⟩:=h4.2.1 j _ (dD hlt);exact⟨v,g1,hy _ v (dD hlt) g2,g3⟩;cases hx;exact h4.2.1 i x hx
 |mp b=>
  obtain⟨es,cl,h1,hle,h2,h3⟩:=h;refine⟨es,cl,h1,hle,λe=>?_,h3⟩;have:=h2 e
  match hes:es.toList,this with
  |[e1],this=>exact⟨br.set _ _ j hy this.1,trivial⟩
  |[],this|_::_::_,this=>simp[cE]at this
theorem acD(y:DV X):∀(l:List (DV X))(j:Nat),bG (l.set j y)=(bG l).set j (den y)
 |[],_|x::l,0=>by simp[bG]
 |x::l,j+1=>by simp[bG,acD y l j]
theorem afc{ds:List Nat}{s:df X}{q j:Nat}{c:CT X.ι}(hl:Low s):Low (DH s q j c)/\Ext (· ∈ds) s (DH s q j c)/\Says s (DH s q j c):=by
 unfold DH;split;rename_i sz row hq;split;rename_i hn;split;have hqn:=(hl.obj q _ hq).1;have hrefs:=λk hk=>(hl.obj q _ hq).2 k (by simpa[d7]using hk);have hO:∀k,gE ((q,some (.cells sz [row.set j (.own s.nx 0 0)]))::(s.nx,some (.ed c []))::s.obj) k=if q=k then some (.cells sz [row.set j (.own s.nx 0 0)])else if s.nx=k then some (.ed c [])else gE s.obj k:=λk=>by simp[gE,lk];by_cases e:q=k;simp[e];by_cases e':s.nx=k<;>simp[e,e']
 refine⟨⟨by show s.nx+1<=1000000;omega,by have:=hl.ge;show 1000<=s.nx+1;omega,λk i hk=>by have:=hl.env k i hk;show i<s.nx+1;omega,λk o ho=>?_⟩,⟨λ _ _=>.inl rfl,⟨[q,s.nx],rfl,λk hk hnk=>?_⟩,by show s.nx<=s.nx+1;omega⟩,λP w0 O0 N β I a w hr=>?_⟩;rw[hO]at ho;split at ho;rename_i e;cases ho;subst e;refine⟨by show q<s.nx+1;omega,λi hi=>?_⟩;show i<s.nx+1;simp[d7]at hi;rcases UQ _ _ _ _ hi with h1|h1;have:=hrefs i h1;omega;simp[bz]at h1;omega;split at ho;rename_i e;cases ho;subst e;exact⟨by show s.nx<s.nx+1;omega,by simp[d7]⟩;have⟨h1,h2⟩:=hl.obj k o ho;exact⟨by show k<s.nx+1;omega,λi hi=>by have:=h2 i hi;show i<s.nx+1;omega⟩;left;simp at hnk;rw[hO,bn (Ne.symm hnk.1),bn (Ne.symm hnk.2)];have⟨β2,Do,hr2⟩:=hl.room hr;have⟨hS,hM⟩:=Mem.oS (i:=s.nx) (o:=bI (.ed c []:b7 X)) hr2.mem Do rfl;refine⟨ins β2 s.nx .none,hr2.defers,hr2.size,λk=>eW.mono hS.ext hS.same hS.inc (hr2.env k),?_⟩;refine hM.weak λk o' ho=>?_;simp only[df.st]at ho;rw[hO]at ho;by_cases e:q=k;subst e;rw[bA rfl]at ho;cases ho;refine⟨bI (.cells sz [row]),by simp[bT];rw[bn (by omega)];simp[df.st,hq],λB _ hB=>?_⟩;simp[bI,acD]at hB ⊢;refine OR.set1 (λ x v hx hv=>?_) hB;rw[nM,List.getElem?_map,hn]at hx;cases hx;simpa only[den,VR]using .inl ⟨by simp[ins],hv,trivial,trivial⟩;rw[bn e]at ho;refine⟨o',?_,λ_ _ h=>h⟩;simp[bT];by_cases e':s.nx=k;subst e';simpa using ho;rw[bn e']at ho;rw[bn (Ne.symm e')];exact ho;exact⟨hl,Ext.refl _ s,λ_ _ _ _ β _ _ _ h=>⟨β,h⟩⟩;exact⟨hl,Ext.refl _ s,λ_ _ _ _ β _ _ _ h=>⟨β,h⟩⟩;exact⟨hl,Ext.refl _ s,λ_ _ _ _ β _ _ _ h=>⟨β,h⟩⟩
theorem LW{ds:List Nat}:∀(l:List (Nat×CT X.ι)){s:df X},Low s->(∀ p∈l,(bif Nat.ble 1000000 p.1 then !Nat.ble 1099511627776 p.1 || ds.contains (p.1-1099511627776)else ds.contains p.1)=true)->Low (Oo l s)/\Ext (· ∈ds) s (Oo l s)/\Says s (Oo l s)
 |[],s,hl,_=>⟨hl,Ext.refl _ s,λ_ _ _ _ β _ _ _ h=>⟨β,h⟩⟩
 |(t,c)::r,s,hl,hd=>by
  generalize hs:(bif Nat.ble 1000000 t then bif Nat.ble 1099511627776 t then xT true s (t-1099511627776) c else DH s ((t-1000000)/4096) ((t-1000000)%4096) c else xT false s t c)=s1;have h0:Low s1/\Ext (· ∈ds) s s1/\Says s s1:=by
   have hd0:=hd (t,c) (by simp);subst hs;cases hb:Nat.ble 1000000 t with
   |true=>
    rw[hb]at hd0;cases hb2:Nat.ble 1099511627776 t with
    |true=>rw[hb2]at hd0;exact UO hl (by simpa using hd0)
    |false=>exact afc hl
   |false=>rw[hb]at hd0;exact UO hl (by simpa using hd0)
  obtain⟨h1,h2,h3⟩:=h0;simp[Oo,hs];obtain⟨g1,g2,g3⟩:=LW r h1 (λ p hp=>hd p (by simp[hp]));refine⟨g1,h2.trans g2,λP w0 O0 N β I a w hr=>?_⟩;have⟨β',hr'⟩:=h3 P w0 O0 N β I a w hr;exact g3 P w0 O0 N β' I a w hr'
theorem lC{A:Type}{sh:Sh X.ι}{ds:List Nat}{s0 s':df X}{k:VT (X:=X) sh.vars->Option A}{r:A}(hl0:Low s0)(hl':Low s')(hx:Ext (· ∈ds) s0 s')(h:rT sh ds s0 s' k=some r):
 ∃v,k v=some r/\Low (encS sh s0 v)/\Ext (· ∈ds) s0 (encS sh s0 v)/\Says s' (encS sh s0 v):=by have⟨h1,h2⟩:=dN h;obtain⟨g1,g2,g3⟩:=LW (ds:=ds) sh.yW hl' (λ p hp=>all_eq_true.1 h1 p hp);have⟨v,i1,i2,i3,i4⟩:=aav hl0 (hx.trans g2) h2;refine⟨v,i1,i2,i3,λP w0 O0 N β I a w hr=>?_⟩;have⟨β',hr'⟩:=g3 P w0 O0 N β I a w hr;exact i4 P w0 O0 N β' I a w hr'
end
def gP:Code->List Nat
 |.region _ al _=>al.toList.filterMap (·.dst)
 |.seq a b=>gP a++gP b
 |.cond _ a b=>gP a++gP b
 |.block _ b=>gP b
 |.loop b=>gP b
 |_=>[]
section
variable {X:SX}
section
variable {P:Program} {N:Nat}
def JU{A:Type}(ds:List Nat)(s:df X)(k:Exit->df X->Option A)(r:A)(e:Exit)(σ:St):Prop:=∃s',Low s'/\Ext (· ∈ds) s s'/\σ=s'.st/\k e s'=some r
theorem ag2{c:Code}{Q Q':Exit->St->Prop}{σ:St}(h:Ev P N c Q σ)(ht:∀e σ,Q e σ->∀w0 O0 β I a w,Rel P w0 O0 N β I σ a w->∃ β' σ',Rel P w0 O0 N β' I σ' a w/\te σ'/\Q' e σ'):Ev P N c Q' σ:=by intro w0 O0 β I a w hr ho;refine wp_mono (h w0 O0 β I a w hr ho) ?_;rintro e a' w' ⟨β',I',σ',h1,_,h3⟩;have⟨β2,σ2,g1,g2,g3⟩:=ht e σ' h3 w0 O0 β' I' a' w' h1;exact⟨β2,I',σ2,g1,g2,g3⟩
end
end
inductive Hn(ι:Type) where
 |z
 |f (l:List Nat)
 |s (a b:Hn ι)
 |b (a:Hn ι)
 |j (sh:Sh ι) (a:Hn ι)
 |jx (sh:Sh ι) (a:Hn ι)
 |l (head:Sh ι) (id:Nat) (ab:Sh ι) (a:Hn ι)
 |lx (head:Sh ι) (id:Nat) (ab:Sh ι) (a:Hn ι)
 |rg (head:Sh ι) (a:Hn ι)
 |un (a r:Hn ι)
def Hn.fz{ι:Type}:Hn ι->List Nat
 |.f is=>is
 |_=>[]
def Hn.fst{ι:Type}:Hn ι->Hn ι
 |.s a _=>a
 |_=>.z
def Hn.snd{ι:Type}:Hn ι->Hn ι
 |.s _ y=>y
 |_=>.z
def Hn.sub{ι:Type}:Hn ι->Hn ι
 |.b a=>a
 |_=>.z
def iter{V O:Type}(step:V->Option (V⊕O)):Nat->V->Option O
 | 0,_=>none
 |n+1,v=>(step v).bind λr=>match r with
  |.inl v=>iter step n v
  |.inr o=>some o
def IN{X:SX}{A:Type}(body:Hn X.ι->df X->(Exit->df X->Option A)->Option A):Hn X.ι->df X->(Exit->df X->Option A)->Option A
 |.un a r,s,k=>body a s λe s'=>match e with
  |.normal=>IN body r s' k
  |e=>k e s'
 |_,_,_=>none
def d9{W A:Type}(o:Option (W⊕A))(f:W->Option A):Option A:=o.bind λr=>match r with
 |.inl w=>f w
 |.inr a=>some a
noncomputable def both{A:Type}(x y:Option A):Option A:=open Classical in if x=y then x else none
theorem ahZ{A:Type}{x y:Option A}{r:A}(h:both x y=some r):x=some r/\y=some r:=by grind [both]
theorem ah0{A:Type}(x:Option A):both x x=x:=by simp[both]
section
variable {X:SX}
def Y1(ds:List Nat)(s:df X)(h:Hn X.ι){A:Type}(k:Exit->df X->Option A)(body:(B:Type)->Hn X.ι->(Exit->df X->Option B)->Option B):Option A:=
 match h with
 |.j sh h'=>(body (VT (X:=X) sh.vars) h' λe s'=>match e with
  |.normal=>rT sh ds s s' some
  |_=>none).bind λv=>k .normal (encS sh s v)
 |.jx sh h'=>d9 (body (VT (X:=X) sh.vars⊕A) h' λe s'=>match e with
  |.normal=>rT sh ds s s' λv=>some (.inl v)
  |e=>(k e s').map .inr) λv=>k .normal (encS sh s v)
 |h=>body A h k
variable (Γ:FuncId->Option (co X)) (T:el) (am:TypeId->Option (CT X.ι)) (N n:Nat)
noncomputable def run:Code->(A:Type)->Hn X.ι->df X->(Exit->df X->Option A)->Option A
 |.skip,_,_,s,k=>k .normal s
 |.region id al d,A,h,s,k=>Y1 (gP (.region id al d)) s h k λ_ h k=>UT Γ h.fz T am N al d s (k .normal)
 |.seq x y,A,h,s,k=>Y1 (gP (.seq x y)) s h k λB h k=>run x B h.fst s λe s'=>match e with
  |.normal=>run y B h.snd s' k
  |e=>k e s'
 |.cond c x y,A,h,s,k=>Y1 (gP (.cond c x y)) s h k λB h k=>match Xt (eI s.env) c with
  |.c .bool v=>bif v then run x B h.fst s k else run y B h.snd s k
  |.ub=>both (run x B h.fst s k) (run y B h.snd s k)
  |_=>none
 |.block id b,A,h,s,k=>Y1 (gP (.block id b)) s h k λB h k=>run b B h.sub s λe s'=>match e with
  |.exit j=>if j=id then k .normal s' else k (.exit j) s'
  |e=>k e s'
 |.loop b,A,h,s,k=>match h with
  |.l hd id ab h'=>rT hd (gP b) s s λv0=>(iter (λ v=>run b (VT (X:=X) hd.vars⊕VT (X:=X) ab.vars) h' (encS hd s v) λe s'=>match e with
   |.normal=>rT hd (gP b) s s' λv=>some (.inl v)
   |.exit j=>if j=id then rT ab (gP b) s s' λw=>some (.inr w)else none
   |_=>none) n v0).bind λw=>k (.exit id) (encS ab s w)
  |.lx hd id ab h'=>rT hd (gP b) s s λv0=>d9 (iter (λ v=>run b (VT (X:=X) hd.vars⊕(VT (X:=X) ab.vars⊕A)) h' (encS hd s v) λe s'=>match e with
   |.normal=>rT hd (gP b) s s' λv=>some (.inl v)
   |.exit j=>if j=id then rT ab (gP b) s s' λw=>some (.inr (.inl w))else(k (.exit j) s').map λa=>.inr (.inr a)
   |e=>(k e s').map λa=>.inr (.inr a)) n v0) λw=>k (.exit id) (encS ab s w)
  |.un a r=>IN (λ h s k=>run b A h s k) (.un a r) s k
  |_=>none
 |.exit id,_,_,s,k=>k (.exit id) s
 |.ret,_,_,s,k=>k .ret s
 |.label _,_,_,s,k=>k .normal s
 |_,_,_,_,_=>none
section
variable {Γ:FuncId->Option (co X)} {T:el} {am:TypeId->Option (CT X.ι)} {N n:Nat} {P:Program}
theorem Ext.wide{ds ds':Nat->Prop}{a b:df X}(h:Ext ds a b)(hd:∀t,ds t->ds' t):Ext ds' a b:=⟨λ t ht=>h.env t λhh=>ht (hd t hh),h.obj,h.nx⟩
theorem map_inr{α β:Type}{o:Option β}{r:α⊕β}(h:o.map Sum.inr=some r):∃b,o=some b/\r=.inr b:=by
 cases o with
 |none=>cases h
 |some b=>grind
theorem Dz{c:Code}{s:df X}{h:Hn X.ι}{A:Type}{k:Exit->df X->Option A}{r:A}{body:(B:Type)->Hn X.ι->(Exit->df X->Option B)->Option B}(hl:Low s)
 (hb:∀(B:Type)(h:Hn X.ι)(k:Exit->df X->Option B)(r:B),body B h k=some r->Ev P N c (JU (gP c) s k r) s.st) (hr:Y1 (gP c) s h k body=some r):Ev P N c (JU (gP c) s k r) s.st:=by
 unfold Y1 at hr;split at hr;have⟨v,h1,hr⟩:=ah.1 hr;refine ag2 (hb _ _ _ _ h1) ?_;rintro e σ ⟨s',g1,g2,rfl,g4⟩ w0 O0 β I a w hrel;cases e<;>simp at g4;have⟨v',i1,i2,i3,i4⟩:=lC hl g1 g2 g4;cases i1;have⟨β',i5⟩:=i4 P w0 O0 N β I a w hrel;exact⟨β',_,i5,i2.old,_,i2,i3,rfl,hr⟩;unfold d9 at hr;have⟨v,h1,hr⟩:=ah.1 hr;refine ag2 (hb _ _ _ _ h1) ?_;rintro e σ ⟨s',g1,g2,rfl,g4⟩ w0 O0 β I a w hrel;have other:(k e s').map Sum.inr=some v->∃ β' σ',Rel P w0 O0 N β' I σ' a w/\te σ'/\JU (gP c) s k r e σ':=by intro hm;obtain⟨b,hk,rfl⟩:=map_inr hm;cases hr;exact⟨β,_,hrel,g1.old,s',g1,g2,rfl,hk⟩
 cases e with
 |normal=>
  simp at g4;have⟨v',i1,i2,i3,i4⟩:=lC hl g1 g2 g4;cases i1;have⟨β',i5⟩:=i4 P w0 O0 N β I a w hrel;exact⟨β',_,i5,i2.old,_,i2,i3,rfl,hr⟩
 |_=>exact other g4
 exact hb _ _ _ _ hr
theorem ah1{id:Nat}{al:Array Oper}{d:Bool}{t:Nat}(h:Ql al t):t∈gP (.region id al d):=by obtain⟨j,op,h1,h2⟩:=h;simp only[gP,List.mem_filterMap];exact⟨op,by rw[<- Array.getElem?_toList]at h1;exact bX h1,h2⟩
theorem UR{b:Code}{s:df X}{hd:Sh X.ι}{O:Type}{step:VT (X:=X) hd.vars->Option (VT (X:=X) hd.vars⊕O)}{kb:Exit->df X->Option (VT (X:=X) hd.vars⊕O)}{Q:Exit->St->Prop}(hl:Low s)
 (hkn:∀s',kb .normal s'=rT hd (gP b) s s' λv=>some (.inl v))
 (hstep:∀v r,Low (encS hd s v)->step v=some r->Ev P N b (JU (gP b) (encS hd s v) kb r) (encS hd s v).st)
 {o:O} (hQ:∀e s',e≠.normal->Low s'->Ext (· ∈gP b) s s'->kb e s'=some (.inr o)->∀w0 O0 β I a w,Rel P w0 O0 N β I s'.st a w->∃ β' σ',Rel P w0 O0 N β' I σ' a w/\te σ'/\Q e σ')
 (hno:∀e s' v,e≠.normal->kb e s'=some (.inl v)->False) (n:Nat) (v0:VT (X:=X) hd.vars) (h:iter step n v0=some o) (hl0:Low (encS hd s v0)) (hx0:Ext (· ∈gP b) s (encS hd s v0)):Ev P N (.loop b) Q (encS hd s v0).st:=by
 intro w0 O0 β I a w hr ho;refine Yy (λ n a w=>∃ β I v,Rel P w0 O0 N β I (encS hd s v).st a w/\iter step n v=some o/\Low (encS hd s v)/\Ext (· ∈gP b) s (encS hd s v)) (λ a w ⟨_,_,v,_,h,_⟩=>by cases h) ?_ n a w ⟨β,I,v0,hr,h,hl0,hx0⟩;rintro n a w ⟨β,I,v,hr,hi,hlv,hxv⟩;simp[iter]at hi;have⟨r,h1,hi⟩:=ah.1 hi;refine wp_mono (hstep v r hlv h1 w0 O0 β I a w hr hlv.old) ?_;rintro e a' w' ⟨β',I',σ',g1,_,s',g2,g3,rfl,g4⟩;have hxs:=hxv.trans g3;by_cases he:e=.normal;subst he;rw[hkn]at g4;have⟨v',i1,i2,i3,i4⟩:=lC hl g2 hxs g4;cases i1;have⟨β2,i5⟩:=i4 P w0 O0 N β' I' a' w' g1;exact⟨β2,I',v',i5,hi,i2,i3⟩;cases r with
 |inl v'=>exact(hno e s' v' he g4).elim
 |inr o'=>
  cases hi;have⟨β2,σ2,i1,i2,i3⟩:=hQ e s' he g2 hxs g4 w0 O0 β' I' a' w' g1;cases e with
  |normal=>exact(he rfl).elim
  |_=>exact⟨β2,I',σ2,i1,i2,i3⟩
theorem UU{A:Type}{sh:Sh X.ι}{ds:List Nat}{s0 s':df X}{k:VT (X:=X) sh.vars->Option A}{r:A}(h:rT sh ds s0 s' k=some r):∃v,k v=some r:=by have⟨_,h⟩:=dN h;unfold Mo at h;have⟨m1,h1,h⟩:=ah.1 h;have⟨m,h2,h⟩:=ah.1 h;have⟨h3,h⟩:=dN h;have⟨v,h4,h⟩:=ah.1 h;exact⟨v,(pq h).2⟩
theorem acE{α β γ:Type}{o:Option γ}{r:α⊕(β⊕γ)}(h:o.map (λ a=>Sum.inr (Sum.inr a))=some r):∃b,o=some b/\r=.inr (.inr b):=by
 cases o with
 |none=>cases h
 |some b=>grind
def Hn.len{ι:Type}:Hn ι->Nat
 |.un _ r=>r.len+1
 |_=>0
theorem ah2{b:Code}{A:Type}{body:Hn X.ι->df X->(Exit->df X->Option A)->Option A}{s0:df X}{k:Exit->df X->Option A}{r:A}
 (hb:∀(h:Hn X.ι)(s:df X)(k:Exit->df X->Option A)(r:A),Low s->body h s k=some r->Ev P N b (JU (gP b) s k r) s.st)
 {h:Hn X.ι} (hl:Low s0) (hr:IN body h s0 k=some r):Ev P N (.loop b) (JU (gP (.loop b)) s0 k r) s0.st:=by
 refine alh (λ n σ=>∃(h:Hn X.ι)(s:df X),σ=s.st/\h.len=n/\Low s/\Ext (· ∈gP b) s0 s/\IN body h s k=some r) ?_ ?_ h.len ⟨h,s0,rfl,rfl,hl,Ext.refl _ s0,hr⟩;rintro σ ⟨h,s,_,h1,_,_,h2⟩;cases h<;>first|cases h2|cases h1
 rintro n σ ⟨h,s,rfl,h1,h2,h3,h4⟩;cases h<;>try cases h4
 rename_i a q;simp[Hn.len]at h1;refine(hb a s _ r h2 h4).mono ?_;rintro e σ ⟨s',g1,g2,rfl,g4⟩;have hx:=h3.trans g2;cases e with
 |normal=>exact⟨q,s',rfl,h1,g1,hx,g4⟩
 |_=>exact⟨s',g1,hx,rfl,g4⟩
theorem kV(hT:fH P T)(hm:P.follows .mixedOrders=true)(hΓ:rK P Γ):∀(c:Code)(A:Type)(h:Hn X.ι)(s:df X)(k:Exit->df X->Option A)(r:A),Low s->run Γ T am N n c A h s k=some r->Ev P N c (JU (gP c) s k r) s.st
 |.skip,A,h,s,k,r,hl,hr=>ale ⟨s,hl,Ext.refl _ s,rfl,hr⟩
 |.exit id,A,h,s,k,r,hl,hr=>alf ⟨s,hl,Ext.refl _ s,rfl,hr⟩
 |.ret,A,h,s,k,r,hl,hr=>amM ⟨s,hl,Ext.refl _ s,rfl,hr⟩
 |.label l,A,h,s,k,r,hl,hr=>ajh ⟨s,hl,Ext.refl _ s,rfl,hr⟩
 |.region id al d,A,h,s,k,r,hl,hr=>by refine Dz hl (λ B h k r hb=>?_) hr;have⟨s',g1,g2,g3,g4⟩:=aat (id:=id) hT hm hΓ hl hb;exact g4.mono λe σ ⟨he,hσ⟩=>⟨s',g2,g3.wide λt ht=>ah1 ht,hσ,by rw[he];exact g1⟩
 |.seq x y,A,h,s,k,r,hl,hr=>by
  refine Dz hl (λ B h k r hb=>?_) hr;refine amN ((kV hT hm hΓ x B _ s _ r hl hb).mono ?_);rintro e σ ⟨s',g1,g2,rfl,g4⟩;have wide:Ext (· ∈gP (.seq x y)) s s':=g2.wide λt ht=>by simp[gP,ht]
  cases e with
  |normal=>
   exact(kV hT hm hΓ y B _ s' k r g1 g4).mono λe σ ⟨s2,i1,i2,i3,i4⟩=>⟨s2,i1,wide.trans (i2.wide λt ht=>by simp[gP,ht]),i3,i4⟩
  |_=>exact⟨s',g1,wide,rfl,g4⟩
 |.cond c x y,A,h,s,k,r,hl,hr=>by
  refine Dz hl (λ B h k r hb=>?_) hr;split at hb
  ·rename_i v hv;refine alg v (λ _ _=>rfl) ?_ ?_
   ·have:=Ub (eI s.env) c;rw[hv]at this;exact this.symm
   ·cases v with
    |true=>exact(kV hT hm hΓ x B _ s k r hl hb).mono λe σ ⟨s2,i1,i2,i3,i4⟩=>⟨s2,i1,i2.wide λt ht=>by simp[gP,ht],i3,i4⟩
    |false=>exact(kV hT hm hΓ y B _ s k r hl hb).mono λe σ ⟨s2,i1,i2,i3,i4⟩=>⟨s2,i1,i2.wide λt ht=>by simp[gP,ht],i3,i4⟩
  ·rename_i hv;have⟨hb1,hb2⟩:=ahZ hb;refine aeH (λ _ _=>rfl) ?_ ?_ ?_
   ·have:=Ub (eI s.env) c;rw[hv]at this;exact this.symm
   ·exact(kV hT hm hΓ x B _ s k r hl hb1).mono λe σ ⟨s2,i1,i2,i3,i4⟩=>⟨s2,i1,i2.wide λt ht=>by simp[gP,ht],i3,i4⟩
   ·exact(kV hT hm hΓ y B _ s k r hl hb2).mono λe σ ⟨s2,i1,i2,i3,i4⟩=>⟨s2,i1,i2.wide λt ht=>by simp[gP,ht],i3,i4⟩
  ·cases hb
 |.block id b,A,h,s,k,r,hl,hr=>by
  refine Dz hl (λ B h k r hb=>?_) hr;refine aji ((kV hT hm hΓ b B _ s _ r hl hb).mono ?_);rintro e σ ⟨s',g1,g2,rfl,g4⟩;cases e with
  |exit j=>
   simp only[Wa];simp only at g4;split
   ·rw[bA ‹_›]at g4;exact⟨s',g1,g2,rfl,g4⟩
   ·rw[bn ‹_›]at g4;exact⟨s',g1,g2,rfl,g4⟩
  |_=>exact⟨s',g1,g2,rfl,g4⟩
 |.loop b,A,h,s,k,r,hl,hr=>by
  simp only[run]at hr;split at hr
  ·rename_i hd id ab h';obtain⟨v0,h1,h2,h3,h4⟩:=lC hl hl (Ext.refl _ s) hr;rw[ah]at h1;obtain⟨w,h5,h6⟩:=h1;intro w0 O0 β I a ww hrel ho;have⟨β',hrel'⟩:=h4 P w0 O0 N β I a ww hrel;refine UR (Q:=JU (gP (.loop b)) s k r) hl (λ s'=>rfl) (λ v r hlv hs=>kV hT hm hΓ b _ h' (encS hd s v) _ r hlv hs) (λ e s' he hls hxs hk=>?_) (λ e s' v he hk=>?_) n v0 h5 h2 h3 w0 O0 β' I a ww hrel' h2.old
   ·cases e with
    |exit j=>
     simp only at hk;split at hk
     ·rename_i hj;subst hj;have⟨w',i1,i2,i3,i4⟩:=lC hl hls hxs hk;injection i1 with i1;cases i1;intro w0 O0 β I a ww hrel;have⟨β',hrel'⟩:=i4 P w0 O0 N β I a ww hrel;exact⟨β',_,hrel',i2.old,_,i2,i3,rfl,h6⟩
     ·cases hk
    |normal=>exact(he rfl).elim
    |_=>cases hk
   ·cases e with
    |exit j=>
     simp only at hk;split at hk
     ·have⟨w',i1⟩:=UU hk;injection i1 with i1;cases i1
     ·cases hk
    |normal=>exact he rfl
    |_=>cases hk
  ·rename_i hd id ab h';obtain⟨v0,h1,h2,h3,h4⟩:=lC hl hl (Ext.refl _ s) hr;unfold d9 at h1;rw[ah]at h1;obtain⟨w,h5,h6⟩:=h1;intro w0 O0 β I a ww hrel ho;have⟨β',hrel'⟩:=h4 P w0 O0 N β I a ww hrel;refine UR (Q:=JU (gP (.loop b)) s k r) hl (λ s'=>rfl) (λ v r hlv hs=>kV hT hm hΓ b _ h' (encS hd s v) _ r hlv hs) (λ e s' he hls hxs hk=>?_) (λ e s' v he hk=>?_) n v0 h5 h2 h3 w0 O0 β' I a ww hrel' h2.old
   ·intro w0 O0 β I a ww hrel;have other:(k e s').map (λ a=>Sum.inr (Sum.inr a))=some (Sum.inr w:VT (X:=X) hd.vars⊕(VT (X:=X) ab.vars⊕A))->∃ β' σ',Rel P w0 O0 N β' I σ' a ww/\te σ'/\JU (gP (.loop b)) s k r e σ':=(by intro hm;have⟨q,hq,hr⟩:=acE hm;cases hr;cases h6;exact⟨β,_,hrel,hls.old,s',hls,hxs,rfl,hq⟩);cases e with
    |exit j=>
     simp only at hk;split at hk
     ·rename_i hj;subst hj;have⟨w',i1,i2,i3,i4⟩:=lC hl hls hxs hk;injection i1 with i1;cases i1;have⟨β',hrel'⟩:=i4 P w0 O0 N β I a ww hrel;exact⟨β',_,hrel',i2.old,_,i2,i3,rfl,h6⟩
     ·exact other hk
    |normal=>exact(he rfl).elim
    |_=>exact other hk
   ·have other:(k e s').map (λ a=>Sum.inr (Sum.inr a))=some (Sum.inl v:VT (X:=X) hd.vars⊕(VT (X:=X) ab.vars⊕A))->False:=(by intro hm;have⟨q,hq,hr⟩:=acE hm;cases hr);cases e with
    |exit j=>
     simp only at hk;split at hk
     ·have⟨w',i1⟩:=UU hk;injection i1 with i1;cases i1
     ·exact other hk
    |normal=>exact he rfl
    |_=>exact other hk
  ·exact ah2 (body:=λh s k=>run Γ T am N n b A h s k) (λ h s k r hl h1=>kV hT hm hΓ b A h s k r hl h1) hl hr
  ·cases hr
 |.rangeFunc ..,_,_,_,_,_,_,hr=>by cases hr
 |.scope _,_,_,_,_,_,_,hr=>by cases hr
 |.goto _,_,_,_,_,_,_,hr=>by cases hr
 |.refuse _,_,_,_,_,_,_,hr=>by cases hr
end
end
section
variable {X:SX}
def mK:Nat->(l:List (AT X.ι))->jg X l->List (DV X)
 |_,[],_=>[]
 |n,.d c::l,a=>.c c a.1::mK n l a.2
 |n,.ref c::l,a=>.rp c a.1 0::mK n l a.2
 |n,.ea as r::l,a=>.ea as r a.1::mK n l a.2
 |n,.mut _::l,a=>.own n 0 (List.length a.1)::mK (n+1) l a.2
 |n,.jt _::l,a=>.ptr n 0 0::mK (n+1) l a.2
 |n,.nil::l,a=>.nil::mK n l a.2
def AA:(l:List (AT X.ι))->jg X l->List (b7 X)
 |[],_=>[]
 |.mut c::l,a=>.ed c a.1::AA l a.2
 |.jt c::l,a=>.cells (CT.sz X c) [uN c a.1]::AA l a.2
 |.d _::l,a=>AA l a.2
 |.ref _::l,a=>AA l a.2
 |.ea _ _::l,a=>AA l a.2
 |.nil::l,a=>AA l a.2
theorem xN:∀(n:Nat)(l:List (AT X.ι))(a:jg X l),bG (mK n l a)=dW n l a
 |_,[],_=>rfl
 |n,.d c::l,a|n,.ref c::l,a=>by simp[mK,bG,den,dW,xN n l a.2]
 |n,.ea as r::l,a=>by simp[mK,bG,dW,xN n l a.2]
 |n,.mut c::l,a|n,.jt c::l,a=>by simp[mK,bG,den,dW,xN (n+1) l a.2]
 |n,.nil::l,a=>by simp[mK,bG,den,dW,xN n l a.2]
theorem GA:∀(l:List (AT X.ι))(a:jg X l),(AA l a).map bI=(uq l a).map gO
 |[],_=>rfl
 |.d _::l,a|.ref _::l,a|.ea _ _::l,a|.nil::l,a=>GA l a.2
 |.mut c::l,a=>by simp[AA,GA l a.2];rfl
 |.jt c::l,a=>by simp[AA,uq,GA l a.2,bI,gO,uo,aF,oJ]
theorem oL:∀(n:Nat)(l:List (AT X.ι))(a:jg X l),∀k∈aN (mK n l a),k<n+vK l
 |_,[],_,k,hk=>by simp[mK,aN]at hk
 |n,.d c::l,a,k,hk=>by have:=oL n l a.2 k (by simpa[mK,aN,bz]using hk);simpa[vK,AT.im]using this
 |n,.ref c::l,a,k,hk=>by have:=oL n l a.2 k (by simpa[mK,aN,bz]using hk);simpa[vK,AT.im]using this
 |n,.ea as r::l,a,k,hk=>by have:=oL n l a.2 k (by simpa[mK,aN,bz]using hk);simpa[vK,AT.im]using this
 |n,.nil::l,a,k,hk=>by have:=oL n l a.2 k (by simpa[mK,aN,bz]using hk);simpa[vK,AT.im]using this
 |n,.mut c::l,a,k,hk=>by simp[mK,aN,bz]at hk;simp[vK,AT.im];rcases hk with rfl|hk;omega;have:=oL (n+1) l a.2 k hk;omega
 |n,.jt c::l,a,k,hk=>by simp[mK,aN,bz]at hk;simp[vK,AT.im];rcases hk with rfl|hk;omega;have:=oL (n+1) l a.2 k hk;omega
theorem rU:∀(n:Nat)(l:List (AT X.ι))(a:jg X l),(dW n l a).length=l.length
 |_,[],_=>rfl
 |n,.d c::l,a|n,.ref c::l,a|n,.ea as r::l,a=>by simp[dW,rU n l a.2]
 |n,.mut c::l,a|n,.jt c::l,a=>by simp[dW,rU (n+1) l a.2]
 |n,.nil::l,a=>by simp[dW,rU n l a.2]
theorem vM:∀(l:List (AT X.ι))(a:jg X l),(uq l a).length=vK l
 |[],_=>rfl
 |.d _::l,a|.ref _::l,a|.ea _ _::l,a|.nil::l,a=>by simpa[vK,AT.im,uq]using vM l a.2
 |.mut _::l,a|.jt _::l,a=>by simp[uq,vM l a.2,vK,AT.im];omega
def zc(l:List (AT X.ι))(a:jg X l):df X:=⟨(List.range l.length).zip (mK 0 l a),(List.range (AA l a).length).zip ((AA l a).map some),1000,[]⟩
theorem ag3(l:List (AT X.ι))(a:jg X l)(k:Nat):gE (zc l a).obj k=(AA l a)[k]? :=by
 have h:(List.range (AA l a).length).zip ((AA l a).map some)=(List.range ((AA l a).map some).length).zip ((AA l a).map some):=by rw[length_map]
 simp[zc,gE];rw[h,Ar,List.getElem?_map];cases (AA l a)[k]?<;>rfl
theorem am0(l:List (AT X.ι))(a:jg X l):(zc l a).st=qn.st ⟨(List.range (yh l a).length).zip (yh l a),(List.range ((uq l a).map gO).length).zip ((uq l a).map gO)⟩:=by
 have ho:∀k,((gE (zc l a).obj k).map bI)=lk ((List.range ((uq l a).map gO).length).zip ((uq l a).map gO)) k:=by intro k;rw[Ar,ag3,<- GA,List.getElem?_map]
 simp only[df.st,qn.st,St.mk.injEq,and_true];refine⟨?_,funext ho⟩;funext t;rw[rU,yh,<- xN];have:∀(ks:List Nat)(ds:List (DV X)),den (eI (ks.zip ds) t)=(lk (ks.zip (bG ds)) t).getD .undef:=by
  intro ks
  induction ks with
  |nil=>intro ds;rfl
  |cons k ks ih=>
   intro ds;rcases ds with _|⟨d,ds⟩;rfl;simp[eI,lk,bG];by_cases h:k=t;simp[h];simp[bn h];exact ih ds
 exact this _ _
theorem alA(l:List (AT X.ι))(a:jg X l)(hm:vK l<=1000):Low (zc l a):=by
 refine⟨by show 1000<=1000000;decide,aB _,λt k hk=>?_,λk o ho=>?_⟩;have h0:=oL 0 l a;have:∀(ks:List Nat)(ds:List (DV X)),(∀ k∈aN ds,k<0+vK l)->∀k∈bz (eI (ks.zip ds) t),k<1000:=by
  intro ks
  induction ks with
  |nil=>intro ds _ k hk;simp[eI,lk,bz]at hk
  |cons k ks ih=>
   intro ds h j hj;rcases ds with _|⟨d,ds⟩;simp[eI,lk,bz]at hj;simp[eI,lk]at hj;by_cases e:k=t;simp[bA e]at hj;have:=h j (by simp[aN,hj]);omega;simp[bn e]at hj;exact ih ds (λ k hk=>h k (by simp[aN,hk])) j hj
 exact this _ _ h0 k hk;rw[ag3]at ho;have hl:(AA l a).length=vK l:=by rw[<- vM l a];simpa using congrArg List.length (GA l a)
 refine⟨by have:=(cB.1 ho).1;show k<1000;omega,λj hj=>?_⟩;have hz:∀(l:List (AT X.ι))(a:jg X l),∀o∈AA l a,d7 o=[]:=by
  intro l
  induction l with
  |nil=>intro a o ho;simp[AA]at ho
  |cons q l ih=>
   intro a o ho;cases q<;>simp[AA]at ho
   case «mut» c=>rcases ho with rfl|ho;rfl;exact ih _ o ho
   case jt c=>
    rcases ho with rfl|ho;have h1:aN (uN c a.1)=[]:=by
     rw[<- iZ,oJ];generalize CT.row X.toSE c a.1=r
     induction r with
     |nil=>rfl
     |cons y ys ih=>simp[dV,refs,ih]
    simp[d7,h1];exact ih _ o ho
   all_goals exact ih _ o ho
 rw[hz l a o (bX ho)]at hj;cases hj
variable (T:el)
def D3(s:df X):ResultVar->Option (DV X)
 |.tmp t=>some (eI s.env t)
 |.cell a t=>(T t).bind λti=>match eI s.env a with
  |.ptr kk row aa=>(gE s.obj kk).bind λo=>match o with
   |.cells _ rows=>(rows[row]?).bind λr=>Gp ti.agg ti.size ((r.drop aa).take ti.size)
   |_=>none
  |_=>none
def UW(s:df X):List ResultVar->Option (List (DV X))
 |[]=>some []
 |r::rs=>(D3 T s r).bind λv=>(UW s rs).bind λvs=>some (v::vs)
theorem ajH{s:df X}{r:ResultVar}{d:DV X}(h:D3 T s r=some d):N7 T s.st r=some (den d):=by
 cases r with
 |tmp t=>simp only[D3,bP]at h;subst h;rfl
 |cell a t=>
  simp only[D3]at h;rw[ah]at h;obtain⟨ti,h1,h⟩:=h;split at h
  ·rename_i kk row aa hp;have⟨o,h2,h⟩:=ah.1 h;split at h
   ·have⟨q,h3,h⟩:=ah.1 h;have h4:=BQ h;rw[ko]at h4
    show(match Sl T t (den (eI s.env a)) (λ k=>(gE s.obj k).map bI)with
     |some ⟨v,[],[]⟩=>some v
     |_=>none)=some (den d)
    simp only[Sl,JG,h1,ai,hp,den,h2,Option.map_some,bI,List.getElem?_map,h3,h4,pv]
   ·cases h
  ·cases h
def Xz{A:Type}(s:df X):List ResultVar->(List (DV X)->Option A)->Option A
 |[],k=>k []
 |.tmp t::rs,k=>Xz s rs λvs=>k (eI s.env t::vs)
 |.cell a t::rs,k=>(T t).bind λti=>match eI s.env a with
  |.ptr kk row aa=>(gE s.obj kk).bind λo=>match o with
   |.cells _ rows=>(rows[row]?).bind λr=>(Gp ti.agg ti.size ((r.drop aa).take ti.size)).bind λv=>Xz s rs λvs=>k (v::vs)
   |_=>none
  |_=>none
theorem IV{A:Type}{s:df X}:∀{rs:List ResultVar}{k:List (DV X)->Option A}{r:A},Xz T s rs k=some r->∃ds,UW T s rs=some ds/\k ds=some r
 |[],k,r,h=>⟨[],rfl,h⟩
 |.tmp t::rs,k,r,h=>by have⟨ds,h1,h2⟩:=IV (rs:=rs) h;exact⟨_,by simp only[UW,D3,h1,ai],h2⟩
 |.cell a t::rs,k,r,h=>by
  simp only[Xz]at h;rw[ah]at h;obtain⟨ti,h1,h⟩:=h;split at h
  ·rename_i kk row aa hp;have⟨o,h2,h⟩:=ah.1 h;split at h
   ·have⟨q,h3,h⟩:=ah.1 h;have⟨v,h4,h⟩:=ah.1 h;have⟨ds,h5,h6⟩:=IV (rs:=rs) h;exact⟨_,by simp only[UW,D3,h1,hp,h2,h3,h4,h5,ai],h6⟩
   ·cases h
  ·cases h
theorem Ot{s:df X}:∀{rs:List ResultVar}{ds:List (DV X)},UW T s rs=some ds->ni T s.st rs=some (bG ds)
 |[],ds,h=>by simp[UW]at h;subst h;rfl
 |r::rs,ds,h=>by simp[UW]at h;have⟨d,h1,h⟩:=ah.1 h;have⟨ds',h2,h⟩:=ah.1 h;cases h;simp[ni,ajH T h1,Ot h2,bG]
def Ou:List (RT X.ι)->List (DV X)->Option Nat
 |.mu _::l,ds=>Ou l ds
 |.mr _::l,ds=>Ou l ds
 |.mv::l,ds=>Ou l ds
 |.fresh _::l,d::ds=>match d with
  |.own k _ _=>some k
  |_=>Ou l ds
 |.d _::l,_::ds=>Ou l ds
 |.whole _::l,_::ds=>Ou l ds
 |_,_=>none
def wj:List (RT X.ι)->List (DV X)->List (Nat×Nat)
 |.mu _::l,ds=>wj l ds
 |.mr _::l,ds=>wj l ds
 |.mv::l,ds=>wj l ds
 |.whole j::l,d::ds=>match d with
  |.own _ _ len=>(j,len)::wj l ds
  |_=>wj l ds
 |.d _::l,_::ds=>wj l ds
 |.fresh _::l,_::ds=>wj l ds
 |_,_=>[]
def Cf:Nat->List (RT X.ι)->List Nat
 |_,[]=>[]
 |n,.mu _::l=>n::Cf (n+1) l
 |n,.mr _::l=>n::Cf (n+1) l
 |n,.mv::l=>Cf (n+1) l
 |n,_::l=>Cf n l
def qT:Nat->List (RT X.ι)->List Nat
 |_,[]=>[]
 |n,.mu _::l=>n::qT (n+1) l
 |n,.mr _::l=>qT (n+1) l
 |n,.mv::l=>qT (n+1) l
 |n,_::l=>qT n l
def If(bad:List Nat)(ks:List Nat):Bool:=ks.all λk=>!bad.contains k
def Wk(get:Nat->Option (b7 X))(row:List (DV X))(c:CT X.ι):Option (CT.T X.toSE c×List Bool):=
 match c with
 |.st i=>(Ay get row (X.de i)).bind λh=>some (X.make i h.1,h.2)
 |c=>match row with
  |[d]=>Qf get d c
  |_=>none
def GD(get:Nat->Option (b7 X))(c:CT X.ι):List (List (DV X))->Option (List (CT.T X.toSE c)×List Bool)
 |[]=>some ([],[])
 |r::rs=>(Wk get r c).bind λx=>(GD get c rs).bind λy=>some (x.1::y.1,x.2++y.2)
def LX(get:Nat->Option (b7 X))(bad p7:List Nat)(fk:Option Nat)(wl:List (Nat×Nat))(n:Nat):(q:RT X.ι)->List (DV X)->Option ((RT.T X q×List Bool)×List (DV X))
 |.d c,d::ds=>if If bad (bz d)then(EO get d c).bind λx=>some (x,ds)else none
 |.fresh e,d::ds=>match d with
  |.nil=>some (([],[]),ds)
  |.own k 0 len=>if fk=some k then(get k).bind λo=>match o with
   |.ed b l=>(kT (.sl b) (.sl e) l).bind λ(l:List (CT.T X.toSE e))=>some ((sub l 0 len,[be (sub l 0 len).length len]),ds)
   |.cells sz rows=>if sz=CT.sz X e/\If bad (rows.map aN).flatten=true then(GD get e rows).bind λx=>some ((x.1,be len (List.length x.1)::x.2),ds)else none
   |.map _ _ _=>none
   else none
  |_=>none
 |.whole j,d::ds=>match d with
  |.own k 0 len=>if k=j/\p7.contains j=true then(lk wl j).bind λeh=>some (((),[be len eh]),ds)else none
  |_=>none
 |.mu c,ds=>(get n).bind λo=>match o with
  |.ed b l=>(kT (.sl b) (.sl c) l).bind λ(l:List (CT.T X.toSE c))=>match lk wl n with
   |some len=>some ((sub l 0 len,[be (sub l 0 len).length len]),ds)
   |none=>some ((l,[]),ds)
  |_=>none
 |.mr c,ds=>(get n).bind λo=>match o with
  |.cells sz [row]=>if sz=CT.sz X c/\If bad (aN row)=true then(Wk get row c).bind λx=>some (x,ds)else none
  |_=>none
 |.mv,ds=>some (((),[]),ds)
 |_,[]=>none
def LY(get:Nat->Option (b7 X))(bad p7:List Nat)(fk:Option Nat)(wl:List (Nat×Nat)):Nat->(l:List (RT X.ι))->(ds:List (DV X))->Option (rE X l×List Bool)
 |_,[],ds=>match ds with
  |[]=>some ((),[])
  |_=>none
 |n,[q],ds=>(LX get bad p7 fk wl n q ds).bind λp=>match p.2 with
  |[]=>some p.1
  |_=>none
 |n,q::q'::l,ds=>(LX get bad p7 fk wl n q ds).bind λp=>(LY get bad p7 fk wl (if q.out then n+1 else n) (q'::l) p.2).bind λy=>some ((p.1.1,y.1),p.1.2++y.2)
def Mn(s:df X)(l:List (RT X.ι))(ds:List (DV X)):Option (rE X l×List Bool):=
 if If (Cf 0 l) (Ou l ds).toList then LY (gE s.obj) (Cf 0 l++(Ou l ds).toList) (qT 0 l) (Ou l ds) (wj l ds) 0 l ds else none
def anN(rs:List ResultVar)(l:List (RT X.ι)):Exit->df X->Option (rE X l)
 |.normal,s=>Xz T s rs λds=>(Mn s l ds).bind λx=>Ue x.2 (some x.1)
 |.ret,s=>Xz T s rs λds=>(Mn s l ds).bind λx=>Ue x.2 (some x.1)
 |_,_=>none
def exit(A:Type)(k:df X->Option A):Exit->df X->Option A
 |.normal,s=>k s
 |.ret,s=>k s
 |_,_=>none
variable {T}
section
variable {get:Nat->Option (b7 X)} {fk:Option Nat} {os':List (Option eH)} {bad:List Nat}
theorem DF{ks:List Nat}(h:If bad ks=true):∀j∈ks,j∉bad:=λj hj=>by simpa using all_eq_true.1 h j hj
theorem Ov(hbad:∀j,j∉bad->fk≠some j/\¬kept os' j){d:DV X}{c:CT X.ι}{x:CT.T X.toSE c×List Bool}(hc:c.one=true)(h:Qf get d c=some x)(hb:∀b∈x.2,b=true)(mN:∀j∈bz d,j∉bad):∃t,CT.tv X.toSE c x.1=.s t/\yd (fB get) fk os' (den d) t:=by
 obtain⟨t,h1,h2⟩:=row_one hc x.1;refine⟨t,h2,?_⟩;have hbase:∀y,Kc d c=some y->y=x.1->yd (fB get) fk os' (den d) t:=by intro y hy he;subst he;have h3:=vG hy;rw[h2]at h3;unfold Kc at hy;split at hy;rw[(nW hy).1];simp[den,h2,TV.av,yd];simp[den,Gb.wk,TV.av]at h3;exact h3.symm;simp[den,Gb.wk,TV.av]at h3;exact h3.symm;cases hy
 unfold Qf at h;split at h;rename_i kk aa len e;rw[ah]at h;obtain⟨o,h3,h⟩:=h;split at h;rename_i b l0;rw[ah]at h;obtain⟨l,h4,h⟩:=h;cases h;have h5:(sub l aa len).length=len:=by simpa[be]using hb (be (sub l aa len).length len) (by simp)
 have⟨h6,h7⟩:=jv h4;obtain⟨hf1,hf2⟩:=hbad kk (mN kk (by simp[bz]));refine⟨hf1,hf2,bI (.ed b l0),(sub l aa len).map (CT.row X.toSE e),by simp[fB,h3],?_,by simpa using h5,?_⟩;simp[bI,h7];simp[aF,sub];simpa[CT.row]using h1.symm;cases h;rename_i kk aa len;rw[ah]at h;obtain⟨o,h3,h⟩:=h;split at h;rename_i b l0;cases h;have h5:(sub l0 aa len).length=len:=by simpa[be]using hb (be (sub l0 aa len).length len) (by simp)
 obtain⟨hf1,hf2⟩:=hbad kk (mN kk (by simp[bz]));refine⟨hf1,hf2,bI (.ed b l0),(sub l0 aa len).map (CT.row X.toSE b),by simp[fB,h3],?_,by simpa using h5,?_⟩;simp[bI];simp[aF,sub];simpa[CT.row]using h1.symm;cases h;rename_i kk len e;rw[ah]at h;obtain⟨o,h3,h⟩:=h;split at h;rename_i b l0;have⟨l,h4,h⟩:=ah.1 h;cases h;have h5:(sub l 0 len).length=len:=by simpa[be]using hb (be (sub l 0 len).length len) (by simp)
 have⟨h6,h7⟩:=jv h4;obtain⟨hf1,hf2⟩:=hbad kk (mN kk (by simp[bz]));refine⟨hf1,hf2,bI (.ed b l0),(sub l 0 len).map (CT.row X.toSE e),by simp[fB,h3],?_,by simpa using h5,?_⟩;simp[bI,h7];simp[aF,sub];simpa[CT.row]using h1.symm;cases h;have⟨y,h3,h⟩:=ah.1 h;injection h with h;exact hbase y h3 (by rw[<- h])
theorem Km(hbad:∀j,j∉bad->fk≠some j/\¬kept os' j):∀{ds:List (DV X)}{l:List (CT X.ι)}{h:HL X.toSE l×List Bool},Ay get ds l=some h->(∀ b∈h.2,b=true)->l.all CT.one=true->(∀ j∈aN ds,j∉bad)->lp (fB get) fk os' (bG ds) (HL.row X.toSE l h.1)
 |[],[],h,_,_,_,_=>trivial
 |d::ds,c::l,h,hr,hb,ha,mN=>by simp[Ay]at hr;have⟨x,h1,hr⟩:=ah.1 hr;have⟨g,h2,hr⟩:=ah.1 hr;cases hr;simp only[List.all_cons,bq]at ha;obtain⟨t,i1,i2⟩:=Ov hbad ha.1 h1 (λ b hb'=>hb b (by simp[hb'])) (λ j hj=>mN j (by simp[aN,hj]));have i3:=Km hbad h2 (λ b hb'=>hb b (by simp[hb'])) ha.2 (λ j hj=>mN j (by simp[aN,hj]));obtain⟨t',j1,j2⟩:=row_one ha.1 x.1;rw[i1]at j2;cases j2;show lp (fB get) fk os' (den d::bG ds) (CT.row X.toSE c x.1++HL.row X.toSE l g.1);rw[j1];exact⟨i2,i3⟩
 |[],_::_,_,hr,_,_,_|_::_,[],_,hr,_,_,_=>by simp[Ay]at hr
theorem Qo(hbad:∀j,j∉bad->fk≠some j/\¬kept os' j){row:List (DV X)}{c:CT X.ι}{x:CT.T X.toSE c×List Bool}(h:Wk get row c=some x)(hb:∀b∈x.2,b=true)(mN:∀j∈aN row,j∉bad):lp (fB get) fk os' (bG row) (CT.row X.toSE c x.1):=by
 cases c
 case st i=>
  replace h:(Ay get row (X.de i)).bind (λ h=>some (X.make i h.1,h.2))=some x:=h
  have⟨g,h1,h⟩:=ah.1 h;cases h;have:=Km hbad h1 hb (X.flat i) mN;show lp (fB get) fk os' (bG row) (X.row i (X.make i g.1));rw[X.gd];exact this
 all_goals
  match row,h,mN with
  |[d],h,mN=>
   obtain⟨t,i1,i2⟩:=Ov (fk:=fk) hbad rfl h hb (λ j hj=>mN j (by simp[aN,hj]));obtain⟨t',j1,j2⟩:=row_one rfl x.1;rw[i1]at j2;cases j2;rw[j1];exact⟨i2,trivial⟩
  |[],h,_|_::_::_,h,_=>cases h
theorem LZ(hbad:∀j,j∉bad->fk≠some j/\¬kept os' j){c:CT X.ι}:∀{rows:List (List (DV X))}{x:List (CT.T X.toSE c)×List Bool},GD get c rows=some x->(∀ b∈x.2,b=true)->(∀ j∈(rows.map aN).flatten,j∉bad)->ej (fB get) fk os' (rows.map bG) (x.1.map (CT.row X.toSE c))/\rows.length=List.length x.1
 |[],x,h,_,_=>by simp[GD]at h;subst h;exact⟨trivial,rfl⟩
 |r::rs,x,h,hb,mN=>by simp[GD]at h;have⟨y,h1,h⟩:=ah.1 h;have⟨z,h2,h⟩:=ah.1 h;cases h;have i1:=Qo hbad h1 (λ b hb'=>hb b (by simp[hb'])) (λ j hj=>mN j (by simp[hj]));obtain⟨i2,i3⟩:=LZ hbad h2 (λ b hb'=>hb b (by simp[hb'])) (λ j hj=>mN j (by simp only[bg,List.flatten_cons,bO];exact .inr hj));exact⟨⟨i1,i2⟩,by simp[i3]⟩
theorem ajI{x:AV}{t:Tree}(h:yd (fB get) fk os' x t):D1 (fB get) fk os' x (.d (.s t)):=by cases x<;>first|exact h|exact h.elim
theorem DI(sz:CT X.ι)(l:List (CT.T X.toSE sz)):ej (fB get) fk os' (aF (l.map (CT.row X.toSE sz))) (l.map (CT.row X.toSE sz)):=by
 generalize l.map (CT.row X.toSE sz)=rows
 induction rows with
 |nil=>trivial
 |cons r rs ih=>
  refine⟨?_,ih⟩
  induction r with
  |nil=>trivial
  |cons y ys ih2=>exact⟨rfl,ih2⟩
theorem ajJ(hbad:∀j,j∉bad->fk≠some j/\¬kept os' j){c:CT X.ι}{d:DV X}{x:CT.T X.toSE c×List Bool}(h:EO get d c=some x)(mN:∀j∈bz d,j∉bad)(hb:∀b∈x.2,b=true):D1 (fB get) fk os' (den d) (.d (CT.tv X.toSE c x.1)):=by
 cases c
 case st i=>
  replace h:YH get d i=some x:=h
  cases d
  case agg cs=>
   simp[YH]at h;have⟨g,h1,h⟩:=ah.1 h;cases h;have:=Km (fk:=fk) hbad h1 hb (X.flat i) (by simpa[bz]using mN);show lp (fB get) fk os' (bG cs) (X.row i (X.make i g.1));rw[X.gd];exact this
  case c a y=>
   simp[YH]at h;have⟨z,h1,h⟩:=ah.1 h;cases h;rw[(nW h1).1];show lp (fB get) fk os' ((X.row i z).map AV.t) (X.row i z);generalize X.row i z=l
   induction l with
   |nil=>trivial
   |cons y ys ih=>exact⟨rfl,ih⟩
  all_goals cases h
 all_goals
  have⟨t,i1,i2⟩:=Ov (fk:=fk) hbad rfl h hb mN;rw[i1];exact ajI i2
theorem UX{p7:List Nat}{wl:List (Nat×Nat)}{ns:List Nat}{n:Nat}(hbad:∀j,j∉bad->fk≠some j/\¬kept os' j)(p0:∀k,fk=some k->¬kept os' k)(hns:∀j eh,j∈p7->lk wl j=some eh->ns.getD j 0=eh)(hmu:∀j∈p7,kept os' j){q:RT X.ι}{ds:List (DV X)}{p:(RT.T X q×List Bool)×List (DV X)}(h:LX get bad p7 fk wl n q ds=some p)(hb:∀b∈p.1.2,b=true):
 (∀ cs,m4 (fB get) fk os' (bG p.2) cs->m4 (fB get) fk os' (bG ds) (Us ns q p.1.1++cs))/\
 (∀ t,pY q p.1.1=[some t]->∃o,get n=some o/\(bI o).sz=t.1/\ej (fB get) fk os' ((bI o).rows.take t.2.length) t.2)/\
 (∀ eh c,q=.mu c->lk wl n=some eh->Xv q p.1.1=[eh]):=by
 cases q
 case d c=>
  cases ds with
  |nil=>simp[LX]at h
  |cons d ds=>
   simp only[LX]at h;split at h;rename_i hnb;rw[ah]at h;obtain⟨x,h1,h⟩:=h;cases h;exact⟨λ cs hcs=>⟨ajJ hbad h1 (DF hnb) hb,hcs⟩,λt ht=>by simp[pY]at ht,λ_ _ h=>by cases h⟩;cases h
 case fresh e=>
  cases ds with
  |nil=>simp[LX]at h
  |cons d ds=>
   refine⟨λ cs hcs=>?_,λt ht=>by simp[pY]at ht,λ_ _ h=>by cases h⟩;simp[LX]at h;split at h;cases h;exact⟨rfl,hcs⟩;rename_i k len;split at h;rename_i mN;rw[ah]at h;obtain⟨o,h1,h⟩:=h;split at h;rename_i b l0;rw[ah]at h;obtain⟨l,h2,h⟩:=h;cases h;have⟨h3,h4⟩:=jv h2;have h5:(sub l 0 len).length=len:=(by simpa[be]using hb (be (sub l 0 len).length len) (by simp));refine⟨⟨mN,p0 k mN,rfl,bI (.ed b l0),by simp[fB,h1],by exact h3,?_,by simpa using h5⟩,hcs⟩;have e1:(bI (.ed b l0)).rows.take len=aF ((sub l 0 len).map (CT.row X.toSE e)):=(by simp[bI,h4];simp[aF,sub]);rw[e1];exact DI e _;rename_i sz rows;split at h;rename_i hc;rw[ah]at h;obtain⟨x,h2,h⟩:=h;cases h;obtain⟨i1,i2⟩:=LZ (fk:=fk) hbad h2 (λ b hb'=>hb b (by simp[hb'])) (DF hc.2);have h5:len=List.length x.1:=(by simpa[be]using hb (be len (List.length x.1)) (by simp));refine⟨⟨mN,p0 k mN,rfl,bI (.cells sz rows),by simp[fB,h1],hc.1,?_,by simpa using h5.symm⟩,hcs⟩;simp[bI];rw[List.take_of_length_le (by simp;omega)];exact i1;cases h;cases h;cases h;cases h
 case whole j=>
  cases ds with
  |nil=>simp[LX]at h
  |cons d ds=>
   refine⟨λ cs hcs=>?_,λt ht=>by simp[pY]at ht,λ_ _ h=>by cases h⟩;simp[LX]at h;split at h;rename_i k len;split at h;rename_i hc;obtain⟨rfl,hm⟩:=hc;rw[ah]at h;obtain⟨eh,h1,h⟩:=h;cases h;have h5:len=eh:=(by simpa[be]using hb (be len eh) (by simp));have hm:k∈p7:=(by simpa using hm);refine⟨⟨rfl,rfl,?_,hmu k hm⟩,hcs⟩;rw[h5];exact hns k eh hm h1;cases h;cases h
 case mu c=>
  simp[LX]at h;rw[ah]at h;obtain⟨o,h1,h⟩:=h;split at h;rename_i b l0;rw[ah]at h;obtain⟨l,h2,h⟩:=h;have⟨h3,h4⟩:=jv h2;split at h;rename_i len hl;cases h;have h5:(sub l 0 len).length=len:=by simpa[be]using hb (be (sub l 0 len).length len) (by simp)
  refine⟨λ cs hcs=>hcs,λt ht=>?_,λeh c' _ hl'=>?_⟩;simp[pY]at ht;subst ht;refine⟨_,h1,by exact h3,?_⟩;have e1:(bI (.ed b l0)).rows.take (uo c (sub l 0 len)).2.length=aF (uo c (sub l 0 len)).2:=by simp[bI,h4,uo];simp[aF,sub]
  rw[e1];exact DI c _;rw[hl]at hl';injection hl' with hl';subst hl';simp[Xv,h5];rename_i hl;cases h;refine⟨λ cs hcs=>hcs,λt ht=>?_,λeh c' _ hl'=>by rw[hl]at hl';cases hl'⟩;simp[pY]at ht;subst ht;refine⟨_,h1,by simp[uo];exact h3,?_⟩;have e1:(bI (.ed b l0)).rows.take (uo c l).2.length=aF (uo c l).2:=by simp[bI,h4,uo];rw[List.take_of_length_le (by simp[aF])]
  rw[e1];exact DI c _;cases h
 case mr c=>
  simp[LX]at h;rw[ah]at h;obtain⟨o,h1,h⟩:=h;split at h;rename_i sz row;split at h;rename_i hc;have⟨x,h2,h⟩:=ah.1 h;cases h;refine⟨λ cs hcs=>hcs,λt ht=>?_,λ_ _ h=>by cases h⟩;simp[pY,List.cons.injEq,bP,and_true]at ht;subst ht;refine⟨_,h1,by simp[bI,uo];exact hc.1,?_⟩;exact⟨Qo hbad h2 hb (DF hc.2),trivial⟩;cases h;cases h
 case mv=>
  simp[LX,bP]at h;subst h;exact⟨λ cs hcs=>hcs,λt ht=>by simp[pY]at ht,λ_ _ h=>by cases h⟩
theorem GH{q:RT X.ι}{x:RT.T X q}:(pY q x).length=(if q.out then 1 else 0)/\(Xv q x).length=(if q.out then 1 else 0):=by cases q<;>exact⟨rfl,rfl⟩
theorem GI{n j:Nat}{q:RT X.ι}{l:List (RT X.ι)}:j∈qT n (q::l)->(j=n/\∃c,q=.mu c)\/j∈qT (if q.out then n+1 else n) l:=by
 cases q<;>simp only[qT,RT.out,if_true,Bool.false_eq_true,if_false,aP]
 case mu c=>exact λh=>h.imp (λ h=>⟨h,c,rfl⟩) id
 all_goals exact .inr
theorem US{j:Nat}:∀{l:List (RT X.ι)}{n:Nat},j∈qT n l->n<=j
 |[],n,h=>by simp[qT]at h
 |q::l,n,h=>by rcases GI h with ⟨rfl,_⟩|h;exact aB _;have:=US h;split at this<;>omega
theorem acG:∀{l:List (RT X.ι)}{x:rE X l}{n j:Nat},j∈qT n l->∃p,(nN l x)[j-n]? =some (some p)
 |[],x,n,j,h=>by simp[qT]at h
 |[q],x,n,j,h=>by rcases GI h with ⟨rfl,c,rfl⟩|h;exact⟨_,by simp;rfl⟩;simp[qT]at h
 |q::q'::l,x,n,j,h=>by
  rcases GI h with ⟨rfl,c,rfl⟩|h;exact⟨_,by simp;rfl⟩;have⟨p,hp⟩:=acG (l:=q'::l) (x:=x.2) h;have hge:=US h;refine⟨p,?_⟩;show(pY q x.1++nN (q'::l) x.2)[j-n]? =_;have hl:=(GH (q:=q) (x:=x.1)).1
  all_goals grind
theorem Cg:∀{l:List (RT X.ι)}{x:rE X l}{n j:Nat}{p:eH},(nN l x)[j]? =some (some p)->n+j∈Cf n l
 |[],x,n,j,p,h=>by simp[nN]at h
 |[q],x,n,j,p,h=>by
  have h:(pY q x)[j]? =some (some p):=h;cases q<;>simp[pY]at h
  case mu c=>cases j<;>simp at h<;>simp[Cf]
  case mr c=>cases j<;>simp at h<;>simp[Cf]
  case mv=>cases j<;>simp at h
 |q::q'::l,x,n,j,p,h=>by
  have h:(pY q x.1++nN (q'::l) x.2)[j]? =some (some p):=h;cases q
  case mu c=>
   rcases j with _|j;simp[Cf];have:=Cg (l:=q'::l) (x:=x.2) (n:=n+1) (by simpa[pY]using h);right;rw[show n+(j+1)=n+1+j by omega];exact this
  case mr c=>
   rcases j with _|j;simp[Cf];have:=Cg (l:=q'::l) (x:=x.2) (n:=n+1) (by simpa[pY]using h);right;rw[show n+(j+1)=n+1+j by omega];exact this
  case mv=>
   rcases j with _|j;simp[pY]at h;have:=Cg (l:=q'::l) (x:=x.2) (n:=n+1) (by simpa[pY]using h);rw[show n+(j+1)=n+1+j by omega];exact this
  all_goals
   exact Cg (l:=q'::l) (x:=x.2) (by simpa[pY]using h)
theorem acH{p7:List Nat}{wl:List (Nat×Nat)}{n:Nat}{q:RT X.ι}{ds:List (DV X)}{p:(RT.T X q×List Bool)×List (DV X)}(h:LX get bad p7 fk wl n q ds=some p)(hb:∀b∈p.1.2,b=true):∀eh c,q=.mu c->lk wl n=some eh->Xv q p.1.1=[eh]:=by
 rintro eh c rfl hl;simp[LX]at h;have⟨o,h1,h⟩:=ah.1 h;split at h;have⟨l,h2,h⟩:=ah.1 h;rw[hl]at h;cases h;have h5:(sub l 0 eh).length=eh:=by simpa[be]using hb (be (sub l 0 eh).length eh) (by simp)
 simp[Xv,h5];cases h
theorem Kn{p7:List Nat}{wl:List (Nat×Nat)}:∀{n:Nat}{l:List (RT X.ι)}{ds:List (DV X)}{x:rE X l×List Bool},LY get bad p7 fk wl n l ds=some x->(∀ b∈x.2,b=true)->∀j eh,n+j∈qT n l->lk wl (n+j)=some eh->(wd l x.1).getD j 0=eh
 |n,[],ds,x,h,hb,j,eh,hm,_=>by simp[qT]at hm
 |n,[q],ds,x,h,hb,j,eh,hm,hl=>by
  simp[LY]at h;have⟨p,h1,h⟩:=ah.1 h;split at h;cases h;rcases GI hm with ⟨e,c,rfl⟩|hm;have e:j=0:=by omega
  subst e;have:=(acH h1 hb) eh c rfl hl;show(Xv _ p.1.1).getD 0 0=eh;rw[this];rfl;simp[qT]at hm;cases h
 |n,q::q'::l,ds,x,h,hb,j,eh,hm,hl=>by
  simp[LY]at h;have⟨p,h1,h⟩:=ah.1 h;have⟨y,h2,h⟩:=ah.1 h;cases h;have hlen:=(GH (q:=q) (x:=p.1.1)).2;rcases GI hm with ⟨e,c,rfl⟩|hm;have e:j=0:=by omega
  subst e;have:=(acH h1 (λ b hb'=>hb b (by simp[hb']))) eh c rfl hl;show(Xv _ p.1.1++wd (q'::l) y.1).getD 0 0=eh;rw[this];rfl;have hge:=US hm;show(Xv _ p.1.1++wd (q'::l) y.1).getD j 0=eh;by_cases hq:q.out=true;rw[bA hq]at h2 hm hge hlen;have:=Kn h2 (λ b hb'=>hb b (by simp[hb'])) (j-1) eh ((show n+1+(j-1)=n+j by omega) ▸ hm) ((show n+1+(j-1)=n+j by omega) ▸ hl);rw[List.getD_eq_getElem?_getD,o7 (by omega),hlen];exact this;rw[bn hq]at h2 hm hge hlen;have:=Kn h2 (λ b hb'=>hb b (by simp[hb'])) j eh hm hl;rw[List.getD_eq_getElem?_getD,o7 (by omega),hlen];exact this
theorem Y2{p7:List Nat}{wl:List (Nat×Nat)}{ns:List Nat}(hbad:∀j,j∉bad->fk≠some j/\¬kept os' j)(p0:∀k,fk=some k->¬kept os' k)(hns:∀j eh,j∈p7->lk wl j=some eh->ns.getD j 0=eh)(hmu:∀j∈p7,kept os' j):∀{n:Nat}{l:List (RT X.ι)}{ds:List (DV X)}{x:rE X l×List Bool},LY get bad p7 fk wl n l ds=some x->(∀ b∈x.2,b=true)->
 m4 (fB get) fk os' (bG ds) (Aw ns l x.1)/\∀j t,(nN l x.1)[j]? =some (some t)->∃o,get (n+j)=some o/\(bI o).sz=t.1/\ej (fB get) fk os' ((bI o).rows.take t.2.length) t.2
 |n,[],ds,x,h,_=>by simp[LY]at h;split at h;exact⟨trivial,λj t ht=>by simp[nN]at ht⟩;cases h
 |n,[q],ds,x,h,hb=>by
  simp[LY]at h;rw[ah]at h;obtain⟨p,h1,h⟩:=h;split at h;rename_i hp;cases h;have⟨i1,i2,_⟩:=UX (ns:=ns) hbad p0 hns hmu h1 hb;rw[hp]at i1;have:=i1 [] trivial;rw[append_nil]at this;refine⟨this,λj t ht=>?_⟩;have ht:(pY q p.1.1)[j]? =some (some t):=ht;have hl:=(GH (q:=q) (x:=p.1.1)).1;have hj:=(cB.1 ht).1;have hj0:j=0:=by split at hl<;>omega
  subst hj0;refine i2 t ?_
  match ho:pY q p.1.1,ht,hl with
  |[z],ht,_=>simpa using ht
  |[],ht,_=>simp at ht
  |_::_::_,_,hl=>simp at hl;split at hl<;>omega
  cases h
 |n,q::q'::l,ds,x,h,hb=>by
  simp[LY]at h;have⟨p,h1,h⟩:=ah.1 h;have⟨y,h2,h⟩:=ah.1 h;cases h;obtain⟨i1,i2,_⟩:=UX (ns:=ns) hbad p0 hns hmu h1 (λ b hb'=>hb b (by simp[hb']));obtain⟨k1,k2⟩:=Y2 (ns:=ns) hbad p0 hns hmu h2 (λ b hb'=>hb b (by simp[hb']));refine⟨i1 _ k1,λj t ht=>?_⟩;have ht:(pY q p.1.1++nN (q'::l) y.1)[j]? =some (some t):=ht;have hl:=(GH (q:=q) (x:=p.1.1)).1;by_cases hq:q.out=true;rw[bA hq]at k2 hl;cases j with
  |zero=>
   refine i2 t ?_
   match ho:pY q p.1.1,ht,hl with
   |[z],ht,_=>simpa using ht
   |[],_,hl|_::_::_,_,hl=>simp at hl
  |succ j=>
   rw[o7 (by omega),hl,Nat.add_sub_cancel]at ht;rw[show n+(j+1)=n+1+j by omega];exact k2 j t ht
  rw[bn hq]at k2 hl;rw[o7 (by omega),hl,Nat.sub_zero]at ht;exact k2 j t ht
end
theorem m4.R{get:Nat->Option aS}{fk:Option Nat}{os':List (Option eH)}:∀{xs:List AV}{cs:List RC},m4 get fk os' xs cs->DS get fk os' xs (match cs with|[c]=>.one c|cs=>.eV cs)
 |[],[],_=>rfl
 |[_],[_],h=>h.1
 |_::_::_,_::_::_,h=>h
 |[],_::_,h|_::_,[],h=>h.elim
 |[_],_::_::_,h|_::_::_,[_],h=>h.2.elim
theorem ajK{s:df X}{rs:List ResultVar}{l:List (RT X.ι)}{r:rE X l}(h:(Xz T s rs λds=>(Mn s l ds).bind λx=>Ue x.2 (some x.1))=some r):∃xs fk,ni T s.st rs=some xs/\DS s.st.obj fk (nN l r) xs (rP l r)/\KB s.st.obj fk (nN l r):=by
 have⟨ds,h1,h⟩:=IV T h;rw[ah]at h;obtain⟨x,h2,h⟩:=h;have⟨h3,h⟩:=pq h;cases h;unfold Mn at h2;split at h2;rename_i hnb;have hkn:∀j,kept (nN l x.1) j->j∈Cf 0 l:=λj ⟨p,hp⟩=>by have:=Cg (n:=0) hp;simpa using this
 have hbad:∀j,j∉Cf 0 l++(Ou l ds).toList->Ou l ds≠some j/\¬kept (nN l x.1) j:=by intro j hj;simp at hj;exact⟨hj.2,λh=>hj.1 (hkn j h)⟩
 have p0:∀k,Ou l ds=some k->¬kept (nN l x.1) k:=λk hk hkk=>DF hnb k (by simp[hk]) (hkn k hkk);have hmu:∀j∈qT 0 l,kept (nN l x.1) j:=λj hj=>by have⟨p,hp⟩:=acG (x:=x.1) hj;exact⟨p,by simpa using hp⟩
 obtain⟨i1,i2⟩:=Y2 (ns:=wd l x.1) hbad p0 (λ j eh hj hl=>Kn h2 h3 j eh (by simpa using hj) (by simpa using hl)) hmu h2 h3;have iz:s.st.obj=fB (gE s.obj):=rfl;refine⟨bG ds,Ou l ds,Ot T h1,?_,λj p hp=>?_⟩;exact i1.R;have⟨o,g1,g2,g3⟩:=i2 j p hp;rw[Nat.zero_add]at g1;exact⟨λ e=>p0 j e ⟨p,hp⟩,bI o,by rw[iz];simp[fB,g1],g2,by rw[iz];exact g3⟩;cases h2
variable {Γ:FuncId->Option (co X)} {am:TypeId->Option (CT X.ι)} {P:Program}
theorem anO(hT : fH P T)(hm : P.follows .mixedOrders = true)(hΓ : rK P Γ){f : FuncId}{fn : Func}{c : Code}(hfn : P.funcs[f]? = some fn)(hb : fn.body = some c)(hname : (fn.name == "runtime.NumGoroutine") = false)(sa : List (AT X.ι))(sr : List (RT X.ι))(hN : sa.length <= fn.ntmps /\ vK sa <= 1000 /\ (sr.filter RT.out).length = vK sa)
 (h:Hn X.ι) (n:Nat) {a:jg X sa} {r:rE X sr} (hr:run Γ T am fn.ntmps n c (rE X sr) h (zc sa a) (anN T fn.results.toList sr)=some r):p4 P f (yh sa a) (uq sa a) (nN sr r) (rP sr r):=by
 have hl:(nN sr r).length=(uq sa a).length:=by
  rw[vM,<- hN.2.2];have:∀(sr:List (RT X.ι))(r:rE X sr),(nN sr r).length=(sr.filter RT.out).length:=by
   intro sr
   induction sr with
   |nil=>intro r;rfl
   |cons q l ih=>
    intro r;have hq:∀x:RT.T X q,(pY q x).length=(if q.out then 1 else 0):=λx=>GH.1;cases l with
    |nil=>
     show(pY q r).length=_;rw[hq];by_cases e:q.out=true<;>simp[e]
    |cons q' l=>
     show(pY q r.1++nN (q'::l) r.2).length=_;rw[eZ,hq,ih r.2];by_cases e:q.out=true<;>simp[e];omega
  exact this sr r
 refine ahD hT hfn hb hname (by rw[rU];exact hN.1) (λ k hk=>?_) (by rw[vM];exact hN.2.1) hl ?_;rw[yh,<- xN,iZ]at hk;have:=oL 0 sa a k hk;have:=hN.2.1;omega;rw[<- am0];refine(kV hT hm hΓ c _ h _ _ r (alA sa a hN.2.1) hr).mono ?_;rintro e σ ⟨s',_,_,rfl,g4⟩;cases e<;>first|exact ajK g4|cases g4
theorem vN{f : FuncId}{fn : Func}{c : Code}(hfn : P.funcs[f]? = some fn)(hb : fn.body = some c)(hname : (fn.name == "runtime.NumGoroutine") = false): fA P f := ⟨fn, hfn, by rw [hb]; rfl, hname⟩
abbrev C2(P:Program)(f:FuncId)(s:co X):Prop:=fA P f/\(∀ a r,s.fn a=some r->p4 P f (yh s.args a) (uq s.args a) (nN s.res r) (rP s.res r))/\∀g,s.gen=some g->HQ P f g
theorem xp{P:Program}{f:FuncId}{s:co X}(h:fA P f)(h1:∀a r,s.fn a=some r->p4 P f (yh s.args a) (uq s.args a) (nN s.res r) (rP s.res r))(hg:s.gen=none):C2 P f s:=by grind
theorem TZ{P:Program}{f:FuncId}{g:cW X}(h:fA P f)(hg:HQ P f g):C2 P f ⟨[],[.d .bool],λ_=>none,some g⟩:=by grind
def mL(s t:co X):co X:=⟨s.args,s.res,s.fn,t.gen⟩
def vp(l:List (FuncId×co X)):FuncId->Option (co X):=λf=>lk l f
theorem aC:rK P (vp ([]:List (FuncId×co X))):=λ_ _ h=>by cases h
theorem ak{f:FuncId}{s:co X}{l:List (FuncId×co X)}(h:C2 P f s)(hl:rK P (vp l)):rK P (vp ((f,s)::l)):=by intro g q hg;simp[vp,lk]at hg;split at hg;rename_i e;cases hg;subst e;exact h;exact hl g q hg
end
section
variable {X:SX} {T:el}
theorem Ko(ol:Nat->Nat):∀(ps:List (Pt X.ι))(L:List (DC X)),(k9 ol ps L).1.length=ps.length
 |[],_=>rfl
 |p::ps,L=>by simp[k9,Ko ol ps]
def cW.zd(g:cW X):Bool:=
 decide (g.ix.map (·.1)=List.range g.ix.length)&&decide (g.ix.length<=1000)&&((Az g.pd).all λk=>Nat.blt k 1000)&&g.ix.all λq=>q.2.refs.all λk=>Nat.blt k 1000
def D2(g:cW X)(v:VT (X:=X) (cM g.pd++da g.ix)):df X:=⟨(List.range g.pd.length).zip (g.args v),It g.pd g.ix (vI _ v),1000,[]⟩
theorem uP{ol:Nat->Nat}:∀(O:List (Nat×OP X.ι))(L:List (DC X)),bV ol O L=(cZ (bV ol O L)).map λp=>(p.1,some p.2)
 |[],L=>rfl
 |(k,.l c)::O,L=>by
  match L with
  |[]=>rfl
  |⟨.sl c',x⟩::L=>simp[bV,cZ];rw[<- uP O L]
  |⟨.int _,x⟩::L|⟨.bool,x⟩::L|⟨.str,x⟩::L|⟨.any,x⟩::L|⟨.st _,x⟩::L|⟨.mp _ _,x⟩::L=>rfl
 |(k,.m kc vc)::O,L=>by
  match L with
  |[]=>rfl
  |⟨.mp _ _,x⟩::L=>simp[bV,cZ];rw[<- uP O L]
  |⟨.sl _,x⟩::L|⟨.int _,x⟩::L|⟨.bool,x⟩::L|⟨.str,x⟩::L|⟨.any,x⟩::L|⟨.st _,x⟩::L=>rfl
 |(k,.c sz rows)::O,L=>by simp[bV,cZ];rw[<- uP O _]
theorem DJ{ol:Nat->Nat}:∀(O:List (Nat×OP X.ι))(L:List (DC X)),L.map (·.c)=da O->(cZ (bV ol O L)).map (·.1)=O.map (·.1)
 |[],L,_=>rfl
 |(k,.l c)::O,L,h=>by
  match L,h with
  |⟨.sl c',x⟩::L,h=>
   simp[da]at h;simp[bV,cZ,DJ O L h.2]
  |[],h|⟨.int _,x⟩::L,h|⟨.bool,x⟩::L,h|⟨.str,x⟩::L,h|⟨.any,x⟩::L,h|⟨.st _,x⟩::L,h|⟨.mp _ _,x⟩::L,h=>simp[da]at h
 |(k,.m kc vc)::O,L,h=>by
  match L,h with
  |⟨.mp _ _,x⟩::L,h=>
   simp[da]at h;simp[bV,cZ,DJ O L h.2]
  |[],h|⟨.sl _,x⟩::L,h|⟨.int _,x⟩::L,h|⟨.bool,x⟩::L,h|⟨.str,x⟩::L,h|⟨.any,x⟩::L,h|⟨.st _,x⟩::L,h=>simp[da]at h
 |(k,.c sz rows)::O,L,h=>by simp[bV,cZ,DJ O _ (Kk (ol:=ol) rows L _ h).1]
theorem ah5(g:cW X)(v:VT (X:=X) (cM g.pd++da g.ix))(h:g.ix.map (·.1)=List.range g.ix.length):(g.cN v).map (·.1)=List.range (g.cN v).length:=by have e:(g.cN v).map (·.1)=g.ix.map (·.1):=DJ g.ix _ (by rw[List.map_drop,We,List.drop_left]);have l:=congrArg List.length e;rw[length_map,length_map]at l;rw[e,h,l]
theorem UY(k:Nat):∀l:List (Nat×b7 X),gE (l.map λp=>(p.1,some p.2)) k=s8 l k
 |[]=>rfl
 |p::l=>by simp[gE,lk,s8];split;rfl;exact UY k l
theorem ajL(t:Nat):∀(ks:List Nat)(ds:List (DV X)),den (eI (ks.zip ds) t)=(lk (ks.zip (bG ds)) t).getD .undef:=by
 intro ks
 induction ks with
 |nil=>intro ds;rfl
 |cons k ks ih=>
  intro ds;cases ds with
  |nil=>rfl
  |cons d ds=>
   simp[eI,lk,bG];by_cases h:k=t;simp[h];simp[bn h];exact ih ds
theorem Y3(t:Nat):∀(ks:List Nat)(ds:List (DV X)),∀j∈bz (eI (ks.zip ds) t),j∈aN ds:=by
 intro ks
 induction ks with
 |nil=>intro ds j hj;simp[eI,lk,bz]at hj
 |cons k ks ih=>
  intro ds j hj;cases ds with
  |nil=>simp[eI,lk,bz]at hj
  |cons d ds=>
   simp[eI,lk]at hj;simp[aN];by_cases e:k=t;simp[bA e]at hj;exact .inl hj;simp[bn e]at hj;exact .inr (ih ds j hj)
def DK(O:List (Nat×OP X.ι)):List (Nat×Pt X.ι)->List (Nat×CT X.ι)
 |[]=>[]
 |(t,.o k)::r=>match lk O k with
  |some (.l c)=>(t,c)::DK O r
  |_=>DK O r
 |(t,.oz k)::r=>match lk O k with
  |some (.l c)=>(t+1099511627776,c)::DK O r
  |_=>DK O r
 |_::r=>DK O r
def UZ(O:List (Nat×OP X.ι)):List (Nat×OP X.ι)->List (Nat×CT X.ι)
 |(q,.c _ [row])::r=>(DK O (lh (1000000+q*4096) row)).filter (λ p=>Nat.ble p.1 1000000000)++UZ O r
 |_::r=>UZ O r
 |[]=>[]
def zK(g:cW X):Sh X.ι:=⟨lh 0 g.fy,g.iv,[],[],1000000,DK g.iv (lh 0 g.fy)++UZ g.iv g.iv⟩
def amC(T:el)(rs:List ResultVar)(g:cW X):Exit->df X->Option (VT (X:=X) (zK g).vars)
 |.normal,s=>Xz T s rs λds=>bif decide (ds.length=g.fy.length)&&(aN ds).all (λ k=>Nat.blt k s.nx)then
  rT (zK g) (List.range ds.length) ⟨(List.range ds.length).zip ds,s.obj,s.nx,s.log⟩ ⟨(List.range ds.length).zip ds,s.obj,s.nx,s.log⟩ some else none
 |.ret,s=>Xz T s rs λds=>bif decide (ds.length=g.fy.length)&&(aN ds).all (λ k=>Nat.blt k s.nx)then
  rT (zK g) (List.range ds.length) ⟨(List.range ds.length).zip ds,s.obj,s.nx,s.log⟩ ⟨(List.range ds.length).zip ds,s.obj,s.nx,s.log⟩ some else none
 |_,_=>none
theorem U0{ol:Nat->Nat}(t:Nat):∀(n:Nat)(ps:List (Pt X.ι))(L:List (DC X)),eI (Kh ol (lh n ps) L) (n+t)=((k9 ol ps L).1[t]?).getD .undef
 |n,[],L=>by simp[lh,Kh,eI,lk,k9]
 |n,p::ps,L=>by
  simp[lh,Kh,eI,lk,k9];cases t with
  |zero=>simp
  |succ t=>
   have:=U0 (ol:=ol) t (n+1) ps (eP ol p L).2;rw[show n+1+t=n+(t+1)by omega]at this;simpa[eI]using this
theorem ah6 {P:Program} {g:cW X} {s:df X} {rs:List ResultVar} {r:VT (X:=X) (zK g).vars} (hl:Low s) (h:(Xz T s rs λds=>bif decide (ds.length=g.fy.length)&&(aN ds).all (λ k=>Nat.blt k s.nx)then
 rT (zK g) (List.range ds.length) ⟨(List.range ds.length).zip ds,s.obj,s.nx,s.log⟩ ⟨(List.range ds.length).zip ds,s.obj,s.nx,s.log⟩ some else none)=some r):
 ∃xs,ni T s.st rs=some xs/\Kx P s.st.obj xs (rO (g.outs r)) (den (g.res r)):=by
 have⟨ds,h1,h⟩:=IV T h;have⟨h2,h⟩:=dN h;simp only[bq,bM]at h2;obtain⟨h2,h3⟩:=h2;have hl':Low (⟨(List.range ds.length).zip ds,s.obj,s.nx,s.log⟩:df X):=⟨hl.le,hl.ge,λt k hk=>by have:=all_eq_true.1 h3 k (Y3 t _ _ k hk);exact Nat.blt_eq.mp this,hl.obj⟩;obtain⟨v,h4,_,_,hrel⟩:=lC hl' hl' (Ext.refl _ _) h;injection h4 with h4;subst h4;refine⟨bG ds,Ot T h1,λw0 O0 β I w vs hM hv=>?_⟩;have hvl:=br.length _ _ hv;simp[lq]at hvl;have hR:Rel P w0 O0 vs.size β I (⟨(List.range ds.length).zip ds,s.obj,s.nx,s.log⟩:df X).st { tmps:=vs,defers:=[] } w:=by
  refine⟨rfl,rfl,λt=>?_,hM⟩;show VR P β w I (den (eI ((List.range ds.length).zip ds) t)) (vs.getD t undef);rw[ajL,show List.range ds.length=List.range (bG ds).length by rw[lq],Ar];cases ht:(bG ds)[t]? with
  |none=>simp[VR]
  |some x=>
   obtain⟨u,g1,g2⟩:=br.get _ _ t _ hv ht;rw[Array.getElem?_toList]at g1;simp[g1];exact g2
 obtain⟨β',hR'⟩:=hrel P w0 O0 _ β I _ w hR;have hn:(hZ (lh 0 g.fy)).length=(cM g.fy).length:=by rw[Oe]
 refine⟨β',I,?_,λ_ h=>h,?_⟩;have:=hR'.mem;have e:(encS (zK g) ⟨(List.range ds.length).zip ds,s.obj,s.nx,s.log⟩ v).st.obj=pb (rO (g.outs v)):=by funext k;simp[df.st,encS,zK,Ol,cW.outs,It];rw[uP,UY,<- hn];rfl
 rw[e]at this;exact this;obtain⟨pv,hpv⟩:∃pv,pv=Ur g.fy g.iv (vI (zK g).vars v):=⟨_,rfl⟩;have hres:g.res v=yg pv:=by rw[hpv];rfl
 have rb:∀t,VR P β' w I (den ((pv[t]?).getD .undef)) (vs.getD t undef):=by intro t;have:=hR'.env t;simp only[df.st,eW,encS,zK,List.map_nil,append_nil]at this;have e:=U0 (ol:=Dt g.iv ((vI (zK g).vars v).drop (cM g.fy).length)) t 0 g.fy ((vI (zK g).vars v).take (cM g.fy).length);rw[Nat.zero_add]at e;rw[hpv];simp only[Ur];rw[<- e,<- hn];exact this
 have hpl:pv.length=g.fy.length:=by rw[hpv];exact Ko _ _ _
 have hsz:vs.size=pv.length:=by rw[hpl,<- h2,hvl]
 rw[hres];have hall:br P β' w I (bG pv) vs.toList:=by
  have gen:∀(pv:List (DV X))(us:List Value),us.length=pv.length->(∀ t,t<pv.length->VR P β' w I (den ((pv[t]?).getD .undef)) (us.getD t undef))->br P β' w I (bG pv) us:=by
   intro pv
   induction pv with
   |nil=>intro us hl _;cases us<;>simp_all [bG,br]
   |cons d pv ih=>
    intro us hl hh;cases us with
    |nil=>simp at hl
    |cons u us=>
     simp[bG];refine⟨by simpa using hh 0 (by simp),ih us (by simpa using hl) λt ht=>by simpa using hh (t+1) (by simpa using ht)⟩
  refine gen pv vs.toList (by simpa using hsz) λt ht=>?_;have e:vs.toList.getD t undef=vs.getD t undef:=by simp
  rw[e];exact rb t
 match pv,hsz,hall with
 |[d],hsz,hall=>
  obtain⟨u,rfl⟩:=Array.size_eq_one_iff.1 (show vs.size=1 by simpa using hsz);simp only[bG,br]at hall;simpa[yg]using hall.1
 |[],hsz,hall=>
  have h1:¬vs.size=1:=by rw[hsz];simp
  rw[dif_neg h1];simp only[yg,den,VR];exact⟨vs,rfl,hall⟩
 |d::e::pv,hsz,hall=>
  have h1:¬vs.size=1:=by rw[hsz];simp
  rw[dif_neg h1];simp only[yg,den,VR];exact⟨vs,rfl,hall⟩
variable {Γ:FuncId->Option (co X)} {am:TypeId->Option (CT X.ι)} {P:Program}
theorem am2(hT : fH P T)(hm : P.follows .mixedOrders = true)(hΓ : rK P Γ){f : FuncId}{fn : Func}{c : Code}(hfn : P.funcs[f]? = some fn)(hb : fn.body = some c)(hname : (fn.name == "runtime.NumGoroutine") = false)(g : cW X)(hN : g.pd.length <= fn.ntmps)(hin : g.zd = true)
 (h:Hn X.ι) (n:Nat) (hr:∀v (r:VT (X:=X) (zK g).vars),g.fn v=some r->run Γ T am fn.ntmps n c (VT (X:=X) (zK g).vars) h (D2 g v) (amC T fn.results.toList g)=some r):HQ P f g:=by
 intro v r hv;have hrun:=hr v r hv;simp only[cW.zd,bq,bM]at hin;obtain⟨⟨⟨i1,i2⟩,i3⟩,i4⟩:=hin;obtain⟨s1,s2,_⟩:=yw (ol:=Dt g.ix ((vI (cM g.pd++da g.ix) v).drop (cM g.pd).length)) g.ix ((vI _ v).drop (cM g.pd).length);have hargs:∀k∈aN (g.args v),k<1000:=λk hk=>Nat.blt_eq.mp (all_eq_true.1 i3 k (yu g.pd _ k hk));have s7:∀p∈g.cN v,p.1<1000/\∀j∈d7 p.2,j<1000:=by intro p hp;have⟨op,g1,g2⟩:=s2 p hp;have hk:p.1∈g.ix.map (·.1):=mem_map.2 ⟨_,g1,rfl⟩;rw[i1]at hk;have:=List.mem_range.1 hk;exact⟨by omega,λj hj=>Nat.blt_eq.mp (all_eq_true.1 (all_eq_true.1 i4 _ g1) j (g2 j hj))⟩
 have hal:(g.args v).length=g.pd.length:=Ko _ _ _;have hkeys:(g.cN v).map (·.1)=List.range (g.cN v).length:=ah5 g v i1;have iz:∀k,gE (D2 g v).obj k=s8 (g.cN v) k:=by intro k;show gE (bV _ g.ix _) k=s8 (cZ (bV _ g.ix _)) k;rw[uP,UY,<- uP]
 have Rr:∀(l:List (Nat×b7 X))(n:Nat),l.map (·.1)=(List.range l.length).map (n+ ·)->∀k,s8 l (n+k)=(l[k]?).map (·.2):=by
  intro l
  induction l with
  |nil=>intro n _ k;rfl
  |cons p l ih=>
   intro n hn k;rw[fG,List.range_succ_eq_map,bg,bg,map_map]at hn;injection hn with e1 e2;simp[s8];cases k with
   |zero=>rw[bA (by omega)];rfl
   |succ k=>
    rw[bn (by omega),show n+(k+1)=(n+1)+k by omega,ih (n+1) (by rw[e2];refine List.map_congr_left λa _=>?_;simp;omega) k];rfl
 have hlow:Low (D2 g v):=by
  refine⟨by show 1000<=1000000;decide,aB _,λt k hk=>hargs k (Y3 t _ _ k hk),λk o ho=>?_⟩;rw[iz]at ho;have hmem:∀(l:List (Nat×b7 X)),s8 l k=some o->(k,o)∈l:=by
   intro l
   induction l with
   |nil=>intro h;simp[s8]at h
   |cons p l ih=>
    intro h;simp[s8]at h;split at h;rename_i e;cases h;subst e;exact List.mem_cons_self;exact cO _ (ih h)
  exact s7 _ (hmem _ ho)
 refine ahE hT hfn hb hname (by rw[lq,hal];exact hN) (λ k hk=>hargs k (by rwa [iZ]at hk)) (by rw[length_map,<- length_map (f:=Prod.fst),hkeys,List.length_range];have:=s1.length_le;rw[length_map,length_map]at this;exact Nat.le_trans this i2) ?_ ?_;intro o ho r' hr' x hx j hj;obtain⟨p,hp,rfl⟩:=mem_map.1 ho;exact(s7 p hp).2 j (UJ hr' hx j hj);have e:qn.st ⟨(List.range (bG (g.args v)).length).zip (bG (g.args v)),(List.range ((g.cN v).map λp=>bI p.2).length).zip ((g.cN v).map λp=>bI p.2)⟩=(D2 g v).st:=by simp only[df.st,qn.st,St.mk.injEq,and_true];refine⟨?_,?_⟩;funext t;simp[D2];rw[ajL,lq,hal];funext k;rw[Ar,iz,List.getElem?_map];have:=Rr (g.cN v) 0 (by rw[hkeys];simp) k;rw[Nat.zero_add]at this;rw[this,Option.map_map];rfl
 rw[e];refine(kV hT hm hΓ c _ h _ _ r hlow hrun).mono ?_;rintro e σ ⟨s',hl',_,rfl,g4⟩;cases e<;>first|exact ah6 hl' g4|cases g4
end
section
variable {P:Program} {f F:FuncId} {E:TypeId} {α:Type} {enc:α->Value} {d:α}
end
section
variable {X:SX}
end
section
variable {X:SX}
def EY{α β:Type}(f:α->Option β):List α->Option (List β)
 |[]=>some []
 |x::xs=>(f x).bind λy=>(EY f xs).bind λys=>some (y::ys)
def y4(dq:(i j:X.ι)->Decidable (i=j))(i:X.ι):CT X.ι->Option CS
 |.int k=>some (.int k)
 |.bool=>some .bool
 |.str=>some .str
 |.sl (.st j)=>match dq j i with
  |.isTrue _=>some .back
  |.isFalse _=>none
 |_=>none
def amD(dq:(i j:X.ι)->Decidable (i=j))(i:X.ι):Bool:=(X.de i).any λc=>match c with
 |.sl (.st j)=>match dq j i with
  |.isTrue _=>true
  |.isFalse _=>false
 |_=>false
def anP(dq:(i j:X.ι)->Decidable (i=j)):CT X.ι->Option (List CS)
 |.st i=>bif amD dq i then EY (y4 dq i) (X.de i)else none
 |_=>none
theorem am3(dq:(i j:X.ι)->Decidable (i=j)){i:X.ι}{row:List CS}(hm:EY (y4 dq i) (X.de i)=some row){x:Tree}(h:Ek row x):∃l:List (CT.T X.toSE (.st i)),x=.sl (l.map (CT.row X.toSE (.st i))):=by
 refine Ek.rec (row:=row) (motive_1:=λx _=>∃l:List (CT.T X.toSE (.st i)),x=.sl (l.map (CT.row X.toSE (.st i)))) (motive_2:=λrows _=>∃l:List (CT.T X.toSE (.st i)),rows=l.map (CT.row X.toSE (.st i)))
  (motive_3:=λcs r _=>∀codes:List (CT X.ι),EY (y4 dq i) codes=some cs->∃h:HL X.toSE codes,r=HL.row X.toSE codes h) ?_ ?_ ?_ ?_ ?_ ?_ h
 rintro rows _ _ ⟨l,rfl⟩;exact⟨l,rfl⟩;exact⟨[],rfl⟩;rintro r rs _ _ h1 ⟨l,rfl⟩;obtain⟨q,rfl⟩:=h1 _ hm;exact⟨(X.make i q:X.T i)::l,by rw[bg];congr 1;exact(X.gd i q).symm⟩;intro codes hc;cases codes with
 |nil=>exact⟨(),rfl⟩
 |cons c codes=>
  simp only[EY,ah]at hc;obtain⟨_,_,_,_,h⟩:=hc;cases h
 intro cs x xs _ _ h1 h2 codes hc;obtain⟨l,rfl⟩:=h1;cases codes with
 |nil=>simp[EY]at hc
 |cons c codes=>
  simp only[EY,ah]at hc;obtain⟨c',g1,cs',g2,g3⟩:=hc;injection g3 with g3;injection g3 with g4 g5;subst g4 g5;obtain⟨q,rfl⟩:=h2 _ g2
  match c,g1 with
  |.sl (.st j),g1=>
   simp[y4]at g1;split at g1;rename_i hj _;subst hj;exact⟨(l,q),rfl⟩;cases g1
  |.int _,g1|.bool,g1|.str,g1|.any,g1|.st _,g1|.mp _ _,g1|.sl (.int _),g1|.sl .bool,g1|.sl .str,g1|.sl .any,g1|.sl (.sl _),g1|.sl (.mp _ _),g1=>simp[y4]at g1
 intro c' cs x xs hf _ h2 codes hc;cases codes with
 |nil=>simp[EY]at hc
 |cons c codes=>
  simp only[EY,ah]at hc;obtain⟨c2,g1,cs',g2,g3⟩:=hc;injection g3 with g3;injection g3 with g4 g5;subst g4 g5;obtain⟨q,rfl⟩:=h2 _ g2
  match c,g1 with
  |.int k,g1=>
   cases g1;obtain⟨n,rfl,_⟩:=hf;exact⟨(n,q),rfl⟩
  |.bool,g1=>
   cases g1;obtain⟨n,rfl⟩:=hf;exact⟨(n,q),rfl⟩
  |.str,g1=>
   cases g1;obtain⟨n,rfl,_⟩:=hf;exact⟨(n,q),rfl⟩
  |.sl (.st j),g1=>
   simp[y4]at g1;split at g1;cases g1;exact hf.elim;cases g1
  |.any,g1|.st _,g1|.mp _ _,g1|.sl (.int _),g1|.sl .bool,g1|.sl .str,g1|.sl .any,g1|.sl (.sl _),g1|.sl (.mp _ _),g1=>simp[y4]at g1
def tz:Nat->CT X.ι->Option (List CS)
 | 0,_=>none
 |_+1,.int k=>some [.int k]
 |_+1,.bool=>some [.bool]
 |_+1,.str=>some [.str]
 |_+1,.any=>some [.any]
 |_+1,.mp _ _=>none
 |n+1,.sl e=>match anP X.dec e with
  |some row=>some [.mu row]
  |none=>(tz n e).bind λr=>some [.sl r]
 |n+1,.st i=>(EY (tz n) (X.de i)).bind λl=>some l.flatten
def Fk(n:Nat)(c:CT X.ι):Option VS:=
 match c with
 |.st i=>(tz n (.st i:CT X.ι)).map .agg
 |c=>(tz n c).bind λl=>match l with
  |[x]=>some (.one x)
  |_=>none
theorem Qp:∀(a b:List CS)(ys:List Tree),du (a++b) ys->∃ya yb,ys=ya++yb/\du a ya/\du b yb
 |[],b,ys,h=>⟨[],ys,rfl,trivial,h⟩
 |c::a,b,y::ys,h=>by obtain⟨ya,yb,rfl,h1,h2⟩:=Qp a b ys h.2;exact⟨y::ya,yb,rfl,⟨h.1,h1⟩,h2⟩
 |_::_,_,[],h=>h.elim
theorem acI{c:CT X.ι}{cs:List CS}(h:∀ys,du cs ys->∃x:CT.T X.toSE c,ys=CT.row X.toSE c x):∀rows:List (List Tree),(∀ r∈rows,du cs r)->∃l:List (CT.T X.toSE c),rows=l.map (CT.row X.toSE c)
 |[],_=>⟨[],rfl⟩
 |r::rows,hr=>by obtain⟨x,hx⟩:=h r (hr r (by simp));obtain⟨l,hl⟩:=acI h rows λq hq=>hr q (cO _ hq);exact⟨x::l,by rw[bg,<- hx,<- hl]⟩
theorem ajM{f:CT X.ι->Option (List CS)}(hf:∀c cs,f c=some cs->∀ys,du cs ys->∃x:CT.T X.toSE c,ys=CT.row X.toSE c x):∀(l:List (CT X.ι))(css:List (List CS)),EY f l=some css->∀ys,du css.flatten ys->∃h:HL X.toSE l,ys=HL.row X.toSE l h
 |[],css,h,ys,hy=>by
  simp[EY]at h;subst h;cases ys with
  |nil=>exact⟨(),rfl⟩
  |cons y ys=>exact hy.elim
 |c::l,css,h,ys,hy=>by simp[EY]at h;have⟨a,h1,h⟩:=ah.1 h;have⟨b,h2,h⟩:=ah.1 h;cases h;obtain⟨ya,yb,rfl,g1,g2⟩:=Qp _ _ _ hy;have⟨x,hx⟩:=hf c a h1 ya g1;have⟨q,hq⟩:=ajM hf l b h2 yb g2;exact⟨(x,q),by rw[hx,hq];rfl⟩
theorem Sn:∀(n:Nat)(c:CT X.ι)(cs:List CS),tz n c=some cs->∀ys,du cs ys->∃x:CT.T X.toSE c,ys=CT.row X.toSE c x
 | 0,_,_,h,_,_=>by cases h
 |n+1,.mp _ _,cs,h,ys,hy=>by simp[tz]at h
 |n+1,.int k,cs,h,ys,hy=>by
  simp[tz]at h;subst h
  match ys,hy with
  |[y],hy=>
   simp[du]at hy;obtain⟨m,rfl,_⟩:=hy;exact⟨m,rfl⟩
  |[],hy=>exact hy.elim
  |_::_::_,hy=>exact hy.2.elim
 |n+1,.bool,cs,h,ys,hy=>by
  simp[tz]at h;subst h
  match ys,hy with
  |[y],hy=>
   simp only[du,Fit,and_true]at hy;obtain⟨m,rfl⟩:=hy;exact⟨m,rfl⟩
  |[],hy=>exact hy.elim
  |_::_::_,hy=>exact hy.2.elim
 |n+1,.str,cs,h,ys,hy=>by
  simp[tz]at h;subst h
  match ys,hy with
  |[y],hy=>
   simp[du]at hy;obtain⟨m,rfl,_⟩:=hy;exact⟨m,rfl⟩
  |[],hy=>exact hy.elim
  |_::_::_,hy=>exact hy.2.elim
 |n+1,.any,cs,h,ys,hy=>by
  simp[tz]at h;subst h
  match ys,hy with
  |[y],hy=>exact⟨y,rfl⟩
  |[],hy=>exact hy.elim
  |_::_::_,hy=>exact hy.2.elim
 |n+1,.sl e,cs,h,ys,hy=>by
  simp[tz]at h;split at h;rename_i row hm;cases h
  match ys,hy with
  |[y],hy=>
   simp[du]at hy;cases e with
   |st i=>
    simp[anP]at hm;cases hb:amD X.dec i with
    |false=>rw[hb]at hm;cases hm
    |true=>
     rw[hb]at hm;have⟨l,hl⟩:=am3 X.dec hm hy;exact⟨l,by rw[hl];rfl⟩
   |_=>cases hm
  |[],hy=>exact hy.elim
  |_::_::_,hy=>exact hy.2.elim
  have⟨r,h1,h⟩:=ah.1 h;cases h
  match ys,hy with
  |[y],hy=>
   simp[du]at hy;obtain⟨rows,rfl,_,hr⟩:=hy;have⟨l,hl⟩:=acI (Sn n e r h1) rows hr;exact⟨l,by rw[hl];rfl⟩
  |[],hy=>exact hy.elim
  |_::_::_,hy=>exact hy.2.elim
 |n+1,.st i,cs,h,ys,hy=>by simp[tz]at h;have⟨css,h1,h⟩:=ah.1 h;cases h;have⟨q,hq⟩:=ajM (Sn n) (X.de i) css h1 ys hy;exact⟨X.make i q,by rw[hq];exact(X.gd i q).symm⟩
theorem alB{n:Nat}{c:CT X.ι}{s:VS}(h:Fk n c=some s){x:TV}(hx:DQ s x):∃y:CT.T X.toSE c,x=CT.tv X.toSE c y:=by
 have one:∀c:CT X.ι,c.one=true->((tz n c).bind λl=>match l with
  |[x]=>some (VS.one x)
  |_=>none)=some s->∃y:CT.T X.toSE c,x=CT.tv X.toSE c y:=by intro c hc h;have⟨l,h1,h⟩:=ah.1 h;split at h;cases h;simp[DQ]at hx;obtain⟨t,rfl,ht⟩:=hx;obtain⟨y,hy⟩:=Sn n c _ h1 [t] ⟨ht,trivial⟩;obtain⟨t',e1,e2⟩:=row_one hc y;rw[e1]at hy;cases hy;exact⟨y,e2.symm⟩;cases h
 cases c
 case st i=>
  simp[Fk]at h;obtain⟨cs,h1,rfl⟩:=h;simp[DQ]at hx;obtain⟨ys,rfl,hy⟩:=hx;obtain⟨y,hy⟩:=Sn n (.st i) _ h1 ys hy;exact⟨y,by rw[hy];rfl⟩
 all_goals exact one _ rfl h
theorem acJ(n:Nat):∀(cs:List (CT X.ι))(ss:List VS),EY (Fk n) cs=some ss->∀xs,TW ss xs->∃h:HL X.toSE cs,xs=HL.mw X.toSE cs h
 |[],ss,h,xs,hx=>by
  simp[EY]at h;subst h;cases xs with
  |nil=>exact⟨(),rfl⟩
  |cons x xs=>exact hx.elim
 |c::cs,ss,h,xs,hx=>by
  simp[EY]at h;have⟨a,h1,h⟩:=ah.1 h;have⟨b,h2,h⟩:=ah.1 h;cases h;cases xs with
  |nil=>exact hx.elim
  |cons x xs=>
   obtain⟨y,rfl⟩:=alB h1 hx.1;obtain⟨q,rfl⟩:=acJ n cs b h2 xs hx.2;exact⟨(y,q),rfl⟩
theorem ajN{P:Program}{f:FuncId}{n N:Nat}{cs:List (CT X.ι)}{ss:List VS}{fn:Nat->jg X (cs.map AT.d)->Option Bool}(hc:∀k,C2 P f ⟨cs.map AT.d,[.d .bool],fn k,none⟩)(hs:EY (Fk n) cs=some ss)(hl:∀q:HL X.toSE cs,TW ss (HL.mw X.toSE cs q)->TY (HL.mw X.toSE cs q)<=N->∃k,fn k (hlA cs q)=some true)(xs:List TV)(h:TW ss xs)(hb:TY xs<=N):
 so P f (xs.map TV.av) (.one (.d (.s (.sc (.bool true))))):=by obtain⟨q,rfl⟩:=acJ n cs ss hs xs h;have⟨k,hk⟩:=hl q h hb;have h1:=(hc k).2.1 (hlA cs q) true hk;have h2:=h1;rw[Gt (W0 cs)]at h2;have h3:p4 P f (yh (cs.map AT.d) (hlA cs q)) [] [] (.one (.d (.s (.sc (.bool true))))):=h2;have h4:=TU h3;rw[yh,Og]at h4;exact h4
end
end Go.Gb
