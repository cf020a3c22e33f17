import Derived.Test.YtnclkjejgffdmabGreatW2
open List (mem_map all_eq_true length_map append_nil map_map)
namespace Go.Gb
open Go.RowKit
structure Sh(ι:Type) where
 slots:List (Nat×Pt ι)
 dp:List (Nat×OP ι)
 keep:List Nat
 ed:List Nat
 nx:Nat
 CL:List (Nat×CT ι)
def Sh.vars{ι:Type}(s:Sh ι):List (CT ι):=i9 s.slots++ef s.dp
section
variable {X:SX}
def nz(z:Bool)(k:Nat):DV X:=bif z then .oz k 0 else .own k 0 0
def Cd(z:Bool)(s:ek X)(t:Nat)(c:CT X.ι):ek X:=
 match fS s.env t with
 | .nil=>if s.nx<1000000 then⟨(t,nz z s.nx)::s.env,(s.nx,some (.eM c []))::s.obj,s.nx+1,s.nx::s.log⟩else s
 |_=>s
def HP(s:ek X)(q j:Nat)(c:CT X.ι):ek X:=
 match iS s.obj q with
 |some (.cells sz [row])=>match row[j]? with
  |some .nil=>if s.nx<1000000 then⟨s.env,(q,some (.cells sz [row.set j (.own s.nx 0 0)]))::(s.nx,some (.eM c []))::s.obj,s.nx+1,q::s.nx::s.log⟩else s
  |_=>s
 |_=>s
def QH:List (Nat×CT X.ι)->ek X->ek X
 |[],s=>s
 |(t,c)::r,s=>QH r (bif Nat.ble 1000000 t then bif Nat.ble 1099511627776 t then Cd true s (t -1099511627776) c else HP s ((t -1000000)/4096) ((t -1000000)%4096) c else Cd false s t c)
def isU:DV X->Bool
 | .undef | .skip=>true
 |_=>false
def encS(sh:Sh X.ι)(s0:ek X)(v:VT (X:=X) sh.vars):ek X:=
 let L:=wY sh.vars v
 let n:=(i9 sh.slots).length
 let ol:=λk=>(lk (lens sh.dp (L.drop n)) k).getD 0
 ⟨Me ol sh.slots (L.take n)++sh.keep.map (λ t=>(t,fS s0.env t)),bW ol sh.dp (L.drop n)++sh.ed.map (λ k=>(k,iS s0.obj k)),sh.nx,
  (List.range s0.nx).filter (λ k=>!sh.ed.contains k)++s0.log⟩
def okS(sh:Sh X.ι)(ds:List Nat)(s0 s':ek X)(m:MA X):Bool:=
 decide (m.nm.map (·.1)++sh.ed).Nodup&&decide (m.nm.map (·.2)++sh.ed).Nodup&&decide (sh.dp.map (·.1)).Nodup&&m.nm.all (λ q=>(sh.dp.map (·.1)).contains q.2&&decide (q.2<sh.nx)&&(decide (q.1=q.2) || decide (1000<=q.2)))&&
  sh.slots.all (λ p=>ds.contains p.1)&&sh.keep.all (λ t=>!ds.contains t&&!isU (fS s'.env t)&&(bz (fS s0.env t)).all λj=>sh.ed.contains j || m.nm.contains (j,j))&&
  sh.ed.all (λ k=>decide (k<s0.nx)&&!(s'.log.take (s'.log.length -s0.log.length)).contains k&&(iS s'.obj k).isSome&&match iS s0.obj k with |some o=>(eJ o).all λj=>sh.ed.contains j || m.nm.contains (j,j) |none=>false)&&
  decide (s0.nx<=sh.nx)&&decide (sh.nx<=1000000)
def T1{A:Type}(sh:Sh X.ι)(ds:List Nat)(s0 s':ek X)(k:VT (X:=X) sh.vars->Option A):Option A:=
 (IC (iS s'.obj) (fS s'.env) sh.slots ⟨[],[],[]⟩).bind λm=>(Db (iS s'.obj) sh.dp m).bind λm=>bif okS sh ds s0 s' m then(GO sh.vars m.fp).bind λv=>WE m.kh (k v)else none
def uj{A:Type}(sh:Sh X.ι)(ds:List Nat)(s0 s':ek X)(k:VT (X:=X) sh.vars->Option A):Option A:=
 bif sh.CL.all (λ p=>bif Nat.ble 1000000 p.1 then !Nat.ble 1099511627776 p.1 || ds.contains (p.1 -1099511627776)else ds.contains p.1)then T1 sh ds s0 (QH sh.CL s') k else none
end
section
variable {X:SX}
theorem aby{d:DV X}{c:CT X.ι}{x:CT.T X.toSE c}(h:Ma d c=some x):bz d=[]:=by
 cases d
 case c=>rfl
 case nil=>rfl
 all_goals cases c<;>cases h
theorem Te:∀{ds:List (DV X)}{l:List (CT X.ι)}{h:HL X.toSE l},EG ds l=some h->aS ds=[]
 |[],[],_,_=>rfl
 |d::ds,c::l,h,hr=>by simp[EG]at hr;have⟨x,h1,hr⟩:=ah.1 hr;have⟨g,h2,hr⟩:=ah.1 hr;simp[aS,aby h1,Te h2]
 |[],_::_,_,hr |_::_,[],_,hr=>by simp[EG]at hr
theorem aoA{d:DV X}{c:CT X.ι}{x:CT.T X.toSE c}(h:dat d c=some x):lE (den d) (den (.c c x:DV X))/\bz d=[]:=by
 cases c
 case st i=>
  replace h:GP d i=some x:=h
  cases d
  case agg cs=>
   simp[GP]at h;have⟨g,h1,h⟩:=ah.1 h;cases h;refine⟨λ P β w I v hv=>?_,by simp[bz,Te h1]⟩;have h2:=(za h1 (X.flat i)).1;simp[den]at hv;obtain⟨vs,rfl,hv⟩:=hv;show VR P β w I (.agg ((X.row i (X.make i g)).map AV.t)) _;have h3:(X.row i (X.make i g)).map AV.t=(bI cs).map Gb.wk:=(by rw[h2];exact congrArg _ (X.ik i g));rw[h3];simp only[VR];exact⟨vs,rfl,be.wk _ _ hv⟩
  case c a y=>
   rw[(pF h).1];exact⟨lE.refl _,rfl⟩
  all_goals cases h
 all_goals
  have h1:=wW h;refine⟨λ P β w I v hv=>?_,aby h⟩;simp[den];rw[<- h1];exact hv.wk
def ir(m m':MA X):Prop:=(∀ q∈m.nm,q∈m'.nm)/\(∀ c∈m.kh,c∈m'.kh)
theorem ir.refl(m:MA X):ir m m:=⟨λ _ h=>h,λ_ h=>h⟩
theorem ir.trans{a b c:MA X}(h:ir a b)(h':ir b c):ir a c:=⟨λ q hq=>h'.1 q (h.1 q hq),λq hq=>h'.2 q (h.2 q hq)⟩
theorem fe(m:MA X)(k' k:Nat):(addN m k' k).fp=m.fp/\(addN m k' k).kh=m.kh:=by grind [addN]
theorem oU(m:MA X)(k' k:Nat):(k',k)∈(addN m k' k).nm:=by grind [addN]
theorem qI(m:MA X)(k' k:Nat):ir m (addN m k' k):=by unfold addN;split;exact ir.refl m;exact⟨λ q hq=>by simp[hq],λ_ h=>h⟩
variable {get:Nat->Option (b7 X)}
mutual
theorem ajq:∀(p:Pt X.ι)(d:DV X)(m m':MA X),mP get p d m=some m'->ir m m'/\∃al,m'.fp=m.fp++al/\al.length=p.vars.length
 | .v c,d,m,m',h=>by simp[mP]at h;rw[ah]at h;obtain⟨x,h1,h⟩:=h;cases h;exact⟨⟨λ _ h=>h,λ_ h=>h⟩,[⟨c,x⟩],rfl,rfl⟩
 | .o k,d,m,m',h=>by simp[mP]at h;split at h;rename_i k' len;have⟨o,h1,h⟩:=ah.1 h;split at h;cases h;refine⟨ir.trans (b:=⟨m.nm,m.fp,m.kh++_⟩) ⟨λ _ h=>h,λ_ h=>by simp[h]⟩ (qI _ _ _),[],by rw[(fe _ _ _).1];simp,rfl⟩;cases h;cases h
 | .oz k,d,m,m',h=>by simp[mP]at h;split at h;have⟨o,h1,h⟩:=ah.1 h;split at h;cases h;refine⟨ir.trans (b:=⟨m.nm,m.fp,m.kh++_⟩) ⟨λ _ h=>h,λ_ h=>by simp[h]⟩ (qI _ _ _),[],by rw[(fe _ _ _).1];simp,rfl⟩;cases h;have⟨o,h1,h⟩:=ah.1 h;split at h;cases h;refine⟨ir.trans (b:=⟨m.nm,m.fp,m.kh++_⟩) ⟨λ _ h=>h,λ_ h=>by simp[h]⟩ (qI _ _ _),[],by rw[(fe _ _ _).1];simp,rfl⟩;cases h;cases h
 | .p k,d,m,m',h=>by simp[mP]at h;split at h;cases h;exact⟨qI _ _ _,[],by rw[(fe _ _ _).1];simp,rfl⟩;cases h
 | .mp k,d,m,m',h=>by simp[mP]at h;split at h;cases h;exact⟨qI _ _ _,[],by rw[(fe _ _ _).1];simp,rfl⟩;cases h
 | .nil,d,m,m',h=>by simp[mP]at h;split at h;cases h;exact⟨ir.refl _,[],by simp,rfl⟩;cases h
 | .f F fs cs,d,m,m',h=>by simp[mP]at h;split at h;split at h;rw[ah]at h;obtain⟨m1,h1,h⟩:=h;obtain⟨a1,n1,b1,c1⟩:=zl fs _ m m1 h1;obtain⟨a2,n2,b2,c2⟩:=zl cs _ m1 m' h;exact⟨a1.trans a2,n1++n2,by rw[b2,b1,aT],by simp[Pt.vars,c1,c2]⟩;cases h;cases h
 | .od k,d,m,m',h=>by simp[mP]at h;split at h;rename_i k' aa len;have⟨o,h1,h⟩:=ah.1 h;split at h;cases h;refine⟨ir.trans (b:=⟨m.nm,m.fp++[⟨.int .i64,(aa:Int)⟩],m.kh++_⟩) ⟨λ _ h=>h,λ_ h=>by simp[h]⟩ (qI _ _ _),[⟨.int .i64,(aa:Int)⟩],by rw[(fe _ _ _).1],rfl⟩;cases h;cases h
 | .a ps,d,m,m',h=>by simp[mP]at h;split at h;exact zl ps _ m m' h;cases h
theorem zl:∀(ps:List (Pt X.ι))(ds:List (DV X))(m m':MA X),ux get ps ds m=some m'->ir m m'/\∃al,m'.fp=m.fp++al/\al.length=(de ps).length
 |[],[],m,m',h=>by simp[ux]at h;subst h;exact⟨ir.refl _,[],by simp,rfl⟩
 |p::ps,d::ds,m,m',h=>by simp[ux]at h;have⟨m1,h1,h⟩:=ah.1 h;have⟨a1,n1,b1,c1⟩:=ajq p d m m1 h1;have⟨a2,n2,b2,c2⟩:=zl ps ds m1 m' h;exact⟨a1.trans a2,n1++n2,by rw[b2,b1,aT],by simp[de,c1,c2]⟩
 |[],_::_,m,m',h |_::_,[],m,m',h=>by simp[ux]at h
end
theorem zm:∀(rs:List (List (Pt X.ι)))(qs:List (List (DV X)))(m m':MA X),LC get rs qs m=some m'->ir m m'/\∃al,m'.fp=m.fp++al/\al.length=(wX rs).length
 |[],[],m,m',h=>by simp[LC]at h;subst h;exact⟨ir.refl _,[],by simp,rfl⟩
 |r::rs,q::qs,m,m',h=>by simp[LC]at h;have⟨m1,h1,h⟩:=ah.1 h;have⟨a1,n1,b1,c1⟩:=zl r q m m1 h1;have⟨a2,n2,b2,c2⟩:=zm rs qs m1 m' h;exact⟨a1.trans a2,n1++n2,by rw[b2,b1,aT],by simp[wX,c1,c2]⟩
 |[],_::_,m,m',h |_::_,[],m,m',h=>by simp[LC]at h
section
variable {NM:List (Nat×Nat)} {f:Nat->Nat} {ev:Nat->Nat}
def DN(NM:List (Nat×Nat))(j:Nat):Prop:=∃k,(j,k)∈NM
def SN(NM:List (Nat×Nat))(j:Nat):Prop:=∃k,(k,j)∈NM
theorem NZ{D:Nat->Prop}{f:Nat->Nat}{P:Program}{β:Nat->Option c9}{w:World}{I:Nat->Prop}:∀{a b:List AV}(_:nj D f a b)(u:List Value),be P β w I (vN f a) u->be P β w I b u
 |[],[],_,u,hu=>hu
 |[],_::_,hr,_,_ |_::_,[],hr,_,_=>hr.elim
 |y::ys,z::zs,hr,[],hu=>by simp[vN,be]at hu
 |y::ys,z::zs,hr,v::vs,hu=>by exact⟨hr.1.2 _ _ _ _ _ hu.1,NZ hr.2 vs hu.2⟩
mutual
theorem ae1(hf:∀q∈NM,f q.1=q.2)(ho:∀q∈NM,∀c l,get q.1=some (.eM c l)->ev q.2=l.length):∀(p:Pt X.ι)(d:DV X)(m m':MA X),mP get p d m=some m'->(∀ q∈m'.nm,q∈NM)->(∀ c∈m'.kh,c=true)->
 ∃al,m'.fp=m.fp++al/\∃d',(∀ ae,eP ev p (al++ae)=(d',ae))/\lE (il f (den d)) (den d')/\(∀ j∈bz d,DN NM j)/\(∀ j∈bz d',SN NM j)
 | .v c,d,m,m',h,_,_=>by simp[mP]at h;rw[ah]at h;obtain⟨x,h1,h⟩:=h;cases h;have⟨h2,h3⟩:=aoA h1;refine⟨[⟨c,x⟩],rfl,.c c x,λae=>rfl,?_,by simp[h3],by simp[bz]⟩;rw[<- AB,Xm d (by simp[h3])];exact h2
 | .o k,d,m,m',h,hn,hc=>by
  simp[mP]at h;split at h;rename_i k' len;rw[ah]at h;obtain⟨o,h1,h⟩:=h;split at h;rename_i c l;cases h;have hq:(k',k)∈NM:=hn _ (oU _ _ _);have he:len=l.length:=by have:=hc (az len l.length) (by rw[(fe _ _ _).2];simp);simpa[az]using this
  refine⟨[],by rw[(fe _ _ _).1];simp,.own k 0 (ev k),λae=>rfl,?_,?_,?_⟩;simp[den,il];rw[hf _ hq,ho _ hq c l h1,he];exact lE.refl _;intro j hj;simp[bz]at hj;subst hj;exact⟨k,hq⟩;intro j hj;simp[bz]at hj;subst hj;exact⟨k',hq⟩;cases h;cases h
 | .oz k,d,m,m',h,hn,hc=>by
  simp[mP]at h;split at h;rename_i k' len;rw[ah]at h;obtain⟨o,h1,h⟩:=h;split at h;rename_i c l;cases h;have hq:(k',k)∈NM:=hn _ (oU _ _ _);have he:len≠0/\len=l.length:=by have:=hc (!(len==0)&&az len l.length) (by rw[(fe _ _ _).2];simp);simpa[az]using this
  refine⟨[],by rw[(fe _ _ _).1];simp,.oz k (ev k),λae=>rfl,?_,λj hj=>?_,λj hj=>?_⟩;simp[den,il];rw[hf _ hq,ho _ hq c l h1,<- he.2];intro P β w I v hv;simp only[VR]at hv ⊢;exact .inr ⟨he.1,hv.resolve_left λh=>he.1 h.2.2.2⟩;simp[bz]at hj;subst hj;exact⟨k,hq⟩;simp[bz]at hj;subst hj;exact⟨k',hq⟩;cases h;rename_i k' len;rw[ah]at h;obtain⟨o,h1,h⟩:=h;split at h;rename_i c l;cases h;have hq:(k',k)∈NM:=hn _ (oU _ _ _);have he:len=l.length:=by have:=hc (az len l.length) (by rw[(fe _ _ _).2];simp);simpa[az]using this
  refine⟨[],by rw[(fe _ _ _).1];simp,.oz k (ev k),λae=>rfl,?_,λj hj=>?_,λj hj=>?_⟩;simp[den,il];rw[hf _ hq,ho _ hq c l h1,he];exact lE.refl _;simp[bz,bC]at hj;subst hj;exact⟨k,hq⟩;simp[bz,bC]at hj;subst hj;exact⟨k',hq⟩;cases h;cases h
 | .p k,d,m,m',h,hn,hc=>by simp[mP]at h;split at h;rename_i k';cases h;have hq:(k',k)∈NM:=hn _ (oU _ _ _);refine⟨[],by rw[(fe _ _ _).1];simp,.ptr k 0 0,λae=>rfl,?_,?_,?_⟩;simp[den,il];rw[hf _ hq];exact lE.refl _;intro j hj;simp[bz,bC]at hj;subst hj;exact⟨k,hq⟩;intro j hj;simp[bz,bC]at hj;subst hj;exact⟨k',hq⟩;cases h
 | .mp k,d,m,m',h,hn,hc=>by simp[mP]at h;split at h;rename_i k';cases h;have hq:(k',k)∈NM:=hn _ (oU _ _ _);refine⟨[],by rw[(fe _ _ _).1];simp,.mp k,λae=>rfl,?_,?_,?_⟩;simp[den,il];rw[hf _ hq];exact lE.refl _;intro j hj;simp[bz,bC]at hj;subst hj;exact⟨k,hq⟩;intro j hj;simp[bz,bC]at hj;subst hj;exact⟨k',hq⟩;cases h
 | .nil,d,m,m',h,_,_=>by simp[mP]at h;split at h;cases h;exact⟨[],by simp,.nil,λae=>rfl,lE.refl _,by simp[bz],by simp[bz]⟩;cases h
 | .f F fs cs,d,m,m',h,hn,hc=>by
  simp[mP]at h;split at h;rename_i F' first caps
  split at h;rename_i e;subst e;rw[ah]at h;obtain⟨m1,h1,h⟩:=h;have hm:=(zl cs _ m1 m' h).1;obtain⟨n1,a1,f',b1,c1,e1,g1⟩:=Dj hf ho fs _ m m1 h1 (λ q hq=>hn q (hm.1 q hq)) (λ q hq=>hc q (hm.2 q hq));obtain⟨n2,a2,c',b2,c2,e2,g2⟩:=Dj hf ho cs _ m1 m' h hn hc;refine⟨n1++n2,by rw[a2,a1,aT],.fn F f' c',λae=>by simp[eP,aT,b1,b2],?_,?_,?_⟩;intro P β w I v hv;simp[den,il,VR]at hv ⊢;obtain⟨us,vs,rfl,hu,hv⟩:=hv;exact⟨us,vs,rfl,NZ c1 _ hu,NZ c2 _ hv⟩;intro j hj;simp[bz,bP]at hj;exact hj.elim (e1 j) (e2 j);intro j hj;simp[bz,bP]at hj;exact hj.elim (g1 j) (g2 j);cases h;cases h
 | .od k,d,m,m',h,hn,hc=>by
  simp[mP]at h;split at h;rename_i k' aa len;rw[ah]at h;obtain⟨o,h1,h⟩:=h;split at h;rename_i c l;cases h;have hq:(k',k)∈NM:=hn _ (oU _ _ _);have he:aa+len=l.length:=by have:=hc (az (aa+len) l.length) (by rw[(fe _ _ _).2];simp);simpa[az]using this
  refine⟨[⟨.int .i64,(aa:Int)⟩],by rw[(fe _ _ _).1],.own k aa (ev k -aa),λae=>?_,?_,?_,?_⟩;simp only[eP,List.cons_append,fH];have:H0 (X:=X) ⟨.int .i64,(aa:Int)⟩=aa:=by simp[H0];rw[WR];simp
  rw[this];simp[den,il];rw[hf _ hq,ho _ hq c l h1,show l.length -aa=len by omega];exact lE.refl _;intro j hj;simp[bz,bC]at hj;subst hj;exact⟨k,hq⟩;intro j hj;simp[bz,bC]at hj;subst hj;exact⟨k',hq⟩;cases h;cases h
 | .a ps,d,m,m',h,hn,hc=>by simp[mP]at h;split at h;rename_i ds;have⟨al,h1,ds',h2,h3,h4,h5⟩:=Dj hf ho ps ds m m' h hn hc;refine⟨al,h1,.agg ds',λae=>by simp[eP,h2],?_,by simpa[bz]using h4,by simpa[bz]using h5⟩;intro P β w I v hv;simp[den,il,VR]at hv ⊢;obtain⟨vs,rfl,hv⟩:=hv;refine⟨vs,rfl,?_⟩;exact NZ h3 _ hv;cases h
theorem Dj(hf:∀q∈NM,f q.1=q.2)(ho:∀q∈NM,∀c l,get q.1=some (.eM c l)->ev q.2=l.length):∀(ps:List (Pt X.ι))(ds:List (DV X))(m m':MA X),ux get ps ds m=some m'->(∀ q∈m'.nm,q∈NM)->(∀ c∈m'.kh,c=true)->
 ∃al,m'.fp=m.fp++al/\∃ds',(∀ ae,mn ev ps (al++ae)=(ds',ae))/\nj (DN NM) f (bI ds) (bI ds')/\(∀ j∈aS ds,DN NM j)/\(∀ j∈aS ds',SN NM j)
 |[],[],m,m',h,_,_=>by simp[ux,bL]at h;subst h;exact⟨[],by simp,[],λae=>rfl,trivial,by simp[aS],by simp[aS]⟩
 |p::ps,d::ds,m,m',h,hn,hc=>by simp[ux]at h;have⟨m1,h1,h⟩:=ah.1 h;have hm:=(zl ps ds m1 m' h).1;obtain⟨n1,a1,d',b1,c1,e1,g1⟩:=ae1 hf ho p d m m1 h1 (λ q hq=>hn q (hm.1 q hq)) (λ q hq=>hc q (hm.2 q hq));have⟨n2,a2,ds',b2,c2,e2,g2⟩:=Dj hf ho ps ds m1 m' h hn hc;refine⟨n1++n2,by rw[a2,a1,aT],d'::ds',λae=>?_,⟨⟨λ k hk=>e1 k (by rwa [iV]at hk),c1⟩,c2⟩,?_,?_⟩;simp[mn,aT,b1,b2];intro j hj;simp[aS,bP]at hj;exact hj.elim (e1 j) (e2 j);intro j hj;simp[aS,bP]at hj;exact hj.elim (g1 j) (g2 j)
 |[],_::_,m,m',h,_,_=>by simp[ux]at h
 |_::_,[],m,m',h,_,_=>by simp[ux]at h
end
theorem Tf(hf:∀q∈NM,f q.1=q.2)(ho:∀q∈NM,∀c l,get q.1=some (.eM c l)->ev q.2=l.length):∀(rs:List (List (Pt X.ι)))(qs:List (List (DV X)))(m m':MA X),LC get rs qs m=some m'->(∀ q∈m'.nm,q∈NM)->(∀ c∈m'.kh,c=true)->
 ∃al,m'.fp=m.fp++al/\∃Hp,(∀ ae,wZ ev rs (al++ae)=(Hp,ae))/\io (DN NM) f (qs.map bI) (Hp.map bI)/\(∀ j∈(qs.map aS).flatten,DN NM j)/\(∀ j∈(Hp.map aS).flatten,SN NM j)
 |[],[],m,m',h,_,_=>by simp[LC]at h;subst h;exact⟨[],by simp,[],λae=>rfl,trivial,by simp,by simp⟩
 |r::rs,q::qs,m,m',h,hn,hc=>by
  simp[LC]at h;have⟨m1,h1,h⟩:=ah.1 h;have hm:=(zm rs qs m1 m' h).1;obtain⟨n1,a1,d',b1,c1,e1,g1⟩:=Dj hf ho r q m m1 h1 (λ q hq=>hn q (hm.1 q hq)) (λ q hq=>hc q (hm.2 q hq));have⟨n2,a2,ds',b2,c2,e2,g2⟩:=Tf hf ho rs qs m1 m' h hn hc;refine⟨n1++n2,by rw[a2,a1,aT],d'::ds',λae=>?_,⟨c1,c2⟩,?_,?_⟩;simp[wZ]
  all_goals grind
 |[],_::_,m,m',h,_,_ |_::_,[],m,m',h,_,_=>by simp[LC]at h
end
end
section
variable {X:SX} {get:Nat->Option (b7 X)} {env:Nat->DV X}
theorem IJ:∀(sl:List (Nat×Pt X.ι))(m m':MA X),IC get env sl m=some m'->ir m m'/\∃al,m'.fp=m.fp++al/\al.length=(i9 sl).length
 |[],m,m',h=>by simp[IC]at h;subst h;exact⟨ir.refl _,[],by simp,rfl⟩
 |(t,p)::r,m,m',h=>by simp[IC]at h;rw[ah]at h;obtain⟨m1,h1,h⟩:=h;obtain⟨a1,n1,b1,c1⟩:=ajq p _ m m1 h1;have⟨a2,n2,b2,c2⟩:=IJ r m1 m' h;exact⟨a1.trans a2,n1++n2,by rw[b2,b1,aT],by simp[i9,c1,c2]⟩
theorem ng:∀(os:List (Nat×OP X.ι))(m m':MA X),Db get os m=some m'->ir m m'/\∃al,m'.fp=m.fp++al/\al.length=(ef os).length
 |[],m,m',h=>by simp[Db]at h;subst h;exact⟨ir.refl _,[],by simp,rfl⟩
 |(k,op)::r,m,m',h=>by simp[Db]at h;rw[ah]at h;obtain⟨o,h1,h⟩:=h;split at h;rename_i c c' l;rw[ah]at h;obtain⟨l',h2,h⟩:=h;obtain⟨a2,n2,b2,c2⟩:=ng r _ m' h;refine⟨ir.trans (ir.trans (b:=⟨m.nm,m.fp++[⟨.sl c,l'⟩],m.kh⟩) ⟨λ _ h=>h,λ_ h=>h⟩ (qI _ _ _)) a2,[⟨.sl c,l'⟩]++n2,?_,by simp[ef,c2]⟩;rw[b2,(fe _ _ _).1,aT];rename_i kc vc vx vn l;rw[ah]at h;obtain⟨l',h2,h⟩:=h;obtain⟨a2,n2,b2,c2⟩:=ng r _ m' h;refine⟨ir.trans (ir.trans (b:=⟨m.nm,m.fp++[⟨.mp kc vc,l'⟩],m.kh⟩) ⟨λ _ h=>h,λ_ h=>h⟩ (qI _ _ _)) a2,[⟨.mp kc vc,l'⟩]++n2,?_,by simp[ef,c2]⟩;rw[b2,(fe _ _ _).1,aT];rename_i sz rows sz' rows';split at h;rw[ah]at h;obtain⟨m1,h2,h⟩:=h;obtain⟨a1,n1,b1,c1⟩:=zm rows _ _ m1 h2;have⟨a2,n2,b2,c2⟩:=ng r m1 m' h;refine⟨((qI m _ _).trans a1).trans a2,n1++n2,?_,by simp[ef,c1,c2]⟩;rw[b2,b1,(fe _ _ _).1,aT];cases h;cases h
variable {NM:List (Nat×Nat)} {f:Nat->Nat} {ev:Nat->Nat}
theorem EM:∀(os:List (Nat×OP X.ι))(m m':MA X),Db get os m=some m'->(∀ q∈m'.nm,q∈NM)->∃al,m'.fp=m.fp++al/\∀ae,∀k∈os.map (·.1),∃k' o,(k',k)∈NM/\get k'=some o/\∀c l,o= .eM c l->(k,List.length l)∈lens os (al++ae)
 |[],m,m',h,_=>by simp[Db]at h;subst h;exact⟨[],by simp,λae k hk=>by simp at hk⟩
 |(k,op)::r,m,m',h,hn=>by
  simp[Db]at h;rw[ah]at h;obtain⟨o,h1,h⟩:=h;split at h;rename_i c c' l;rw[ah]at h;obtain⟨l',h2,h⟩:=h;have hm:=(ng r _ m' h).1;obtain⟨n2,b2,c2⟩:=EM r _ m' h hn;refine⟨[⟨.sl c,l'⟩]++n2,by rw[b2,(fe _ _ _).1,aT],λae j hj=>?_⟩;simp only[bG,aI]at hj;by_cases hjk:j=k;subst hjk;refine⟨_,_,hn _ (hm.1 _ (oU _ _ _)),h1,λc2 l2 he=>?_⟩;injection he with e1 e2;subst e1;subst e2;have:=congrArg List.length (jo h2).2;simp at this;rw[this];exact List.mem_cons_self;rcases hj with rfl |hj;exact(hjk rfl).elim;have⟨k',o',g1,g2,g3⟩:=c2 ae j hj;exact⟨k',o',g1,g2,λc l he=>d9 _ (g3 c l he)⟩;rename_i kc vc vx vn l;rw[ah]at h;obtain⟨l',h2,h⟩:=h;have hm:=(ng r _ m' h).1;obtain⟨n2,b2,c2⟩:=EM r _ m' h hn;refine⟨[⟨.mp kc vc,l'⟩]++n2,by rw[b2,(fe _ _ _).1,aT],λae j hj=>?_⟩;simp only[bG,aI]at hj;by_cases hjk:j=k;subst hjk;exact⟨_,_,hn _ (hm.1 _ (oU _ _ _)),h1,λc2 l2 he=>by cases he⟩;rcases hj with rfl |hj;exact(hjk rfl).elim;exact c2 ae j hj;rename_i sz rows sz' rows';split at h;have⟨m1,h2,h⟩:=ah.1 h;obtain⟨a1,n1,b1,c1⟩:=zm rows _ _ m1 h2;have hm:=(ng r _ m' h).1;obtain⟨n2,b2,c2⟩:=EM r _ m' h hn;refine⟨n1++n2,by rw[b2,b1,(fe _ _ _).1,aT],λae j hj=>?_⟩;simp only[bG,aI]at hj;have hd:(n1++n2++ae).drop (wX rows).length=n2++ae:=by rw[<- c1,aT,List.drop_left]
  simp only[lens,hd];by_cases hjk:j=k;subst hjk;exact⟨_,_,hn _ (hm.1 _ (a1.1 _ (oU _ _ _))),h1,λc2 l2 he=>by cases he⟩;rcases hj with rfl |hj;exact(hjk rfl).elim;exact c2 ae j hj;cases h;cases h
theorem QI:∀(os:List (Nat×OP X.ι))(L:List (DC X)),((lens os L).map (·.1)).Sublist (os.map (·.1))
 |[],_=>by simp[lens]
 |(k,.l c)::r,L=>by simp[lens];split;exact(QI r _).cons_cons _;exact List.nil_sublist _
 |(k,.m kc vc)::r,L |(k,.c sz rows)::r,L=>(QI r _).cons _
theorem N7(hf:∀q∈NM,f q.1=q.2)(ho:∀q∈NM,∀c l,get q.1=some (.eM c l)->ev q.2=l.length):∀(sl:List (Nat×Pt X.ι))(m m':MA X),IC get env sl m=some m'->(∀ q∈m'.nm,q∈NM)->(∀ c∈m'.kh,c=true)->
 ∃al,m'.fp=m.fp++al/\∃es,(∀ ae,Me ev sl (al++ae)=es)/\(∀ p∈es,p.1∈sl.map (·.1)/\lE (il f (den (env p.1))) (den p.2)/\(∀ j∈bz (env p.1),DN NM j)/\(∀ j∈bz p.2,SN NM j))
 |[],m,m',h,_,_=>by simp[IC]at h;subst h;exact⟨[],by simp,[],λae=>rfl,by simp⟩
 |(t,p)::r,m,m',h,hn,hc=>by
  simp[IC]at h;have⟨m1,h1,h⟩:=ah.1 h;have hm:=(IJ r m1 m' h).1;obtain⟨n1,a1,d',b1,c1,e1,g1⟩:=ae1 hf ho p _ m m1 h1 (λ q hq=>hn q (hm.1 q hq)) (λ q hq=>hc q (hm.2 q hq));have⟨n2,a2,es,b2,c2⟩:=N7 hf ho r m1 m' h hn hc;refine⟨n1++n2,by rw[a2,a1,aT],(t,d')::es,λae=>by simp[Me,b1,b2],λq hq=>?_⟩
  all_goals grind
theorem abz{D:Nat->Prop}(f:Nat->Nat):∀rows:List (List Tree),io D f (aK rows) (aK rows)
 |[]=>trivial
 |r::rs=>by
  refine⟨?_,abz f rs⟩
  induction r with
  |nil=>trivial
  |cons y ys ih=>exact⟨⟨by simp[refs],lE.refl _⟩,ih⟩
theorem abA{a b c d:CT X.ι}{l:List (CT.T X.toSE a×CT.T X.toSE b)}{l':List (CT.T X.toSE c×CT.T X.toSE d)}(h:lg (.mp a b) (.mp c d) l=some l'):bM (.map c d l':b7 X)=bM (.map a b l):=by
 obtain⟨e,h⟩:=sK h
 grind
theorem abB{D:Nat->Prop}(f:Nat->Nat){kc vc:CT X.ι}:∀l:List (CT.T X.toSE kc×CT.T X.toSE vc),io D f (bM (.map kc vc l:b7 X)).rows (bM (.map kc vc l:b7 X)).rows
 |[]=>trivial
 |p::ps=>⟨⟨⟨by simp[Az],by rw[WZ];exact lE.refl _⟩,⟨by simp[Az],by rw[WZ];exact lE.refl _⟩,trivial⟩,abB f ps⟩
theorem AL(hf:∀q∈NM,f q.1=q.2)(ho:∀q∈NM,∀c l,get q.1=some (.eM c l)->ev q.2=l.length):∀(os:List (Nat×OP X.ι))(m m':MA X),Db get os m=some m'->(∀ q∈m'.nm,q∈NM)->(∀ c∈m'.kh,c=true)->
 ∃al,m'.fp=m.fp++al/\∃xs,(∀ ae,bW ev os (al++ae)=xs)/\(∀ p∈xs,p.1∈os.map (·.1)/\∃k' o o',p.2=some o'/\(k',p.1)∈NM/\get k'=some o/\(bM o').sz=(bM o).sz/\io (DN NM) f (bM o).rows (bM o').rows/\(∀ j∈eJ o',SN NM j))
 |[],m,m',h,_,_=>by simp[Db]at h;subst h;exact⟨[],by simp,[],λae=>rfl,by simp⟩
 |(k,op)::r,m,m',h,hn,hc=>by simp[Db]at h;rw[ah]at h;obtain⟨o,h1,h⟩:=h;split at h;rename_i c c' l;rw[ah]at h;obtain⟨l',h2,h⟩:=h;have hm:=(ng r _ m' h).1;obtain⟨n2,a2,xs,b2,c2⟩:=AL hf ho r _ m' h hn hc;refine⟨[⟨.sl c,l'⟩]++n2,by rw[a2,(fe _ _ _).1,aT],(k,some (.eM c l'))::xs,λae=>by simp[bW,b2],λq hq=>?_⟩;rcases aI.1 hq with rfl |hq;refine⟨by simp,_,_,_,rfl,hn _ (hm.1 _ (oU _ _ _)),h1,?_,?_,by simp[eJ]⟩;simp[bM,(jo h2).1];simp[bM,(jo h2).2];exact abz f _;have⟨i1,i2⟩:=c2 q hq;exact⟨by simp only[bG,aI];exact .inr i1,i2⟩;rename_i kc vc vx vn l;rw[ah]at h;obtain⟨l',h2,h⟩:=h;have hm:=(ng r _ m' h).1;obtain⟨n2,a2,xs,b2,c2⟩:=AL hf ho r _ m' h hn hc;refine⟨[⟨.mp kc vc,l'⟩]++n2,by rw[a2,(fe _ _ _).1,aT],(k,some (.map kc vc l'))::xs,λae=>by simp[bW,b2],λq hq=>?_⟩;rcases aI.1 hq with rfl |hq;refine⟨by simp,_,_,_,rfl,hn _ (hm.1 _ (oU _ _ _)),h1,?_,?_,by simp[eJ]⟩;rw[abA h2];rw[abA h2];exact abB f _;have⟨i1,i2⟩:=c2 q hq;exact⟨by simp only[bG,aI];exact .inr i1,i2⟩;rename_i sz rows sz' rows';split at h;rename_i hsz;have⟨m1,h2,h⟩:=ah.1 h;have hm1:=(zm rows _ _ m1 h2).1;have hm:=(ng r _ m' h).1;obtain⟨n1,a1,qs,b1,c1,e1,g1⟩:=Tf hf ho rows _ _ m1 h2 (λ q hq=>hn q (hm.1 q hq)) (λ q hq=>hc q (hm.2 q hq));obtain⟨n2,a2,xs,b2,c2⟩:=AL hf ho r _ m' h hn hc;refine⟨n1++n2,by rw[a2,a1,(fe _ _ _).1,aT],(k,some (.cells sz qs))::xs,λae=>by simp[bW,b1,b2],λq hq=>?_⟩;rcases aI.1 hq with rfl |hq;exact⟨by simp,_,_,_,rfl,hn _ (hm.1 _ (hm1.1 _ (oU _ _ _))),h1,hsz,c1,g1⟩;have⟨i1,i2⟩:=c2 q hq;exact⟨by simp only[bG,aI];exact .inr i1,i2⟩;cases h;cases h
theorem akG{d:DV X}(h:isU d=false)(h':d= .undef):False:=by subst h';cases h
theorem ac0{A:Type}{sh:Sh X.ι}{ds:List Nat}{s0 s':ek X}{k:VT (X:=X) sh.vars->Option A}{r:A}(hl0:Low s0)(hx:Ext (· ∈ds) s0 s')(h:T1 sh ds s0 s' k=some r):
 ∃v,k v=some r/\Low (encS sh s0 v)/\Ext (· ∈ds) s0 (encS sh s0 v)/\∀(P:Program) (w0:World) (O0:ld) (N:Nat) (β:Nat->Option c9) (I:Nat->Prop) (a:Act) (w:World),Rel P w0 O0 N β I s'.st a w->∃ β',Rel P w0 O0 N β' I (encS sh s0 v).st a w:=by
 unfold T1 at h;have⟨m1,h1,h⟩:=ah.1 h;have⟨m,h2,h⟩:=ah.1 h;have⟨h3,h⟩:=dW h;have⟨v,h4,h⟩:=ah.1 h;have⟨h5,h6⟩:=qG h;simp only[okS,aY,bF]at h3;obtain⟨⟨⟨⟨⟨⟨⟨⟨n1,n2⟩,n3⟩,n4⟩,n5⟩,n6⟩,n7⟩,n8⟩,n9⟩:=h3;have hm2:=(ng _ _ _ h2).1;have xn:=WQ h4;obtain⟨_,nA,dA,lA⟩:=IJ _ _ _ h1;simp at dA;have Xs:=(List.nodup_append.1 n1).1;have W8:=(List.nodup_append.1 n2).1;have hsw:((m.nm.map λq=>(q.2,q.1)).map (·.1)).Nodup:=by rw[map_map];exact W8
 generalize hf':(λ j=>match lk m.nm j with |some q=>q |none=>j:Nat->Nat)=f;generalize hg':(λ j=>match lk (m.nm.map λq=>(q.2,q.1)) j with |some q=>q |none=>j:Nat->Nat)=g;have hf:∀q∈m.nm,f q.1=q.2:=by rintro⟨p,q⟩ hq;rw[<- hf'];simp[vP Xs hq]
 have hg:∀q∈m.nm,g q.2=q.1:=by rintro⟨p,q⟩ hq;rw[<- hg'];have:(q,p)∈m.nm.map λq=>(q.2,q.1):=mem_map.2 ⟨(p,q),hq,rfl⟩;simp[vP hsw this]
 have oT:∀j∈sh.ed,f j=j:=by
  intro j hj;rw[<- hf'];cases hh:lk m.nm j with
  |none=>simp[hh]
  |some q=>exact((List.nodup_append.1 n1).2.2 j (mem_map.2 ⟨(j,q),pR hh,rfl⟩) j hj rfl).elim
 have Ln:∀j∈sh.ed,g j=j:=by
  intro j hj;rw[<- hg'];cases hh:lk (m.nm.map λq=>(q.2,q.1)) j with
  |none=>simp[hh]
  |some q=>
   have h1:=pR hh;simp only[mem_map]at h1;obtain⟨z,hz,e⟩:=h1;injection e with e1 e2;exact((List.nodup_append.1 n2).2.2 j (mem_map.2 ⟨z,hz,e1⟩) j hj rfl).elim
 have hg0:∀j,j<1000->g j=j:=by
  intro j hj;rw[<- hg'];cases hh:lk (m.nm.map λq=>(q.2,q.1)) j with
  |none=>simp[hh]
  |some q=>
   have h1:=pR hh;simp only[mem_map]at h1;obtain⟨z,hz,e⟩:=h1;injection e with e1 e2;have:=all_eq_true.1 n4 z hz;simp at this;simp[hh];omega
 have hgf:∀j,(DN m.nm j\/j∈sh.ed)->g (f j)=j:=by rintro j (⟨q,hq⟩ |hj);rw[hf _ hq];exact hg _ hq;rw[oT j hj];exact Ln j hj
 obtain⟨nB,dB,lB⟩:=EM (NM:=m.nm) _ _ _ h2 (λ q hq=>hq);have hL:m.fp=nA++nB:=by rw[dB,dA]
 have hdrop:(wY sh.vars v).drop (i9 sh.slots).length=nB:=by rw[xn,hL,<- lA,List.drop_left]
 have htake:(wY sh.vars v).take (i9 sh.slots).length=nA:=by rw[xn,hL,<- lA,List.take_left]
 generalize hol:(λ k=>(lk (lens sh.dp nB) k).getD 0:Nat->Nat)=ev;have ho:∀q∈m.nm,∀c l,iS s'.obj q.1=some (.eM c l)->ev q.2=l.length:=by
  rintro⟨p,q⟩ hq c l hl;have hqk:=all_eq_true.1 n4 _ hq;simp at hqk;obtain⟨p',o,g1,g2,g3⟩:=lB [] q (by simpa using hqk.1.1);have:p'=p:=by have e1:=hg _ g1;have e2:=hg _ hq;simp at e1 e2;rw[<- e1,e2]
  subst this;simp at hl;rw[hl]at g2;injection g2 with g2;have h3:=g3 c l g2.symm;rw[append_nil]at h3;rw[<- hol];have hk:=(QI sh.dp nB).nodup n3;simp[vP hk h3]
 obtain⟨Wc,Mu,es,eA,pA⟩:=N7 (NM:=m.nm) (f:=f) (ev:=ev) hf ho _ _ _ h1 (λ q hq=>hm2.1 q hq) (λ c hc=>h5 c (hm2.2 c hc));obtain⟨nB',dB',xs,eB,pB⟩:=AL (NM:=m.nm) (f:=f) (ev:=ev) hf ho _ _ _ h2 (λ q hq=>hq) h5;have eqA:Wc=nA:=by simp at Mu;rw[<- Mu,dA]
 have eqB:=List.append_cancel_left (dB'.symm.trans dB);subst eqA eqB;have Mo:=eA [];have Mn:=eB [];rw[append_nil]at Mo Mn;have hS:encS sh s0 v=⟨es++sh.keep.map (λ t=>(t,fS s0.env t)),xs++sh.ed.map (λ k=>(k,iS s0.obj k)),sh.nx,(List.range s0.nx).filter (λ k=>!sh.ed.contains k)++s0.log⟩:=by simp[encS,hdrop,htake,hol,Mo,Mn]
 have hsn:∀j,SN m.nm j->j<sh.nx:=by rintro j ⟨p,hp⟩;have:=all_eq_true.1 n4 _ hp;simp[aY,bF]at this;exact this.1.2
 have kp:∀j,(sh.ed.contains j || m.nm.contains (j,j))=true->j∈sh.ed\/(j,j)∈m.nm:=by intro j hj;simpa using hj
 have hfp:∀j,j∈sh.ed\/(j,j)∈m.nm->f j=j:=λj hj=>hj.elim (oT j) (λ h=>hf (j,j) h);have hdp:∀j,j∈sh.ed\/(j,j)∈m.nm->DN m.nm j\/j∈sh.ed:=λj hj=>hj.elim .inr (λ h=> .inl ⟨j,h⟩);have hko:∀j∈sh.ed,j<s0.nx/\(∃ o,iS s0.obj j=some o/\iS s'.obj j=some o/\∀i∈eJ o,i∈sh.ed\/(i,i)∈m.nm):=by
  intro j hj;have:=all_eq_true.1 n7 _ hj;simp only[aY,bF,Bool.not_eq_true']at this;obtain⟨⟨⟨a1,a2⟩,a3⟩,a4⟩:=this;refine⟨a1,?_⟩;cases ho0:iS s0.obj j with
  |none=>rw[ho0]at a4;cases a4
  |some o=>
   rw[ho0]at a4;refine⟨o,rfl,?_,λi hi=>kp i (all_eq_true.1 a4 i hi)⟩;obtain⟨d,hd,hd2⟩:=hx.obj;have hnd:j∉d:=(by have e:s'.log.take (s'.log.length -s0.log.length)=d:=(by rw[hd,dQ,Nat.add_sub_cancel,List.take_left]);rw[e]at a2;simpa using a2);rcases hd2 j a1 hnd with h |h;rw[h,ho0];rw[h]at a3;cases a3
 have hke:∀t∈sh.keep,t∉ds/\fS s'.env t=fS s0.env t/\∀j∈bz (fS s0.env t),j∈sh.ed\/(j,j)∈m.nm:=by
  intro t ht;have:=all_eq_true.1 n6 _ ht;simp only[aY,Bool.not_eq_true']at this;obtain⟨⟨a1,a2⟩,a3⟩:=this;have a1':t∉ds:=by simpa using a1
  refine⟨a1',?_,λj hj=>kp j (all_eq_true.1 a3 j hj)⟩;rcases hx.env t a1' with h |h;exact h;exact(akG a2 h).elim
 have hks:∀q∈es,q.1∈ds:=by intro q hq;have h1:=(pA q hq).1;obtain⟨z,hz,e⟩:=mem_map.1 h1;have:=all_eq_true.1 n5 _ hz;rw[<- e];simpa using this
 have hkeep:∀t,lk (sh.keep.map λt=>(t,fS s0.env t)) t=if t∈sh.keep then some (fS s0.env t)else none:=by
  intro t
  induction sh.keep with
  |nil=>simp[lk]
  |cons q qs ih=>
   simp[bG,lk,ih,aI];by_cases e:q=t;subst e;simp;rw[aP e];simp[Ne.symm e]
 have DO:∀t,lk (sh.ed.map λt=>(t,iS s0.obj t)) t=if t∈sh.ed then some (iS s0.obj t)else none:=by
  intro t
  induction sh.ed with
  |nil=>simp[lk]
  |cons q qs ih=>
   simp[bG,lk,ih,aI];by_cases e:q=t;subst e;simp;rw[aP e];simp[Ne.symm e]
 have tm:∀t,(∃ d,(t,d)∈es/\fS (encS sh s0 v).env t=d)\/(t∈sh.keep/\fS (encS sh s0 v).env t=fS s0.env t)\/fS (encS sh s0 v).env t= .undef:=by
  intro t;have e1:fS (encS sh s0 v).env t=(match lk es t with |some d=>some d |none=>if t∈sh.keep then some (fS s0.env t)else none).getD .undef:=by rw[hS];show(lk (es++sh.keep.map (λ t=>(t,fS s0.env t))) t).getD .undef=_;rw[Dh,hkeep t];cases lk es t<;>rfl
  rw[e1];cases he:lk es t with
  |some d=>exact .inl ⟨d,pR he,rfl⟩
  |none=>
   by_cases ht:t∈sh.keep;simp only[aU ht];exact .inr (.inl ⟨ht,rfl⟩);simp only[aP ht];exact .inr (.inr rfl)
 have kf:∀j o,iS (encS sh s0 v).obj j=some o->(∃ k' o1,(k',j)∈m.nm/\iS s'.obj k'=some o1/\(bM o).sz=(bM o1).sz/\io (DN m.nm) f (bM o1).rows (bM o).rows/\(∀ i∈eJ o,SN m.nm i))\/(j∈sh.ed/\iS s0.obj j=some o):=by
  intro j o hjo;have e1:iS (encS sh s0 v).obj j=(match lk xs j with |some d=>some d |none=>if j∈sh.ed then some (iS s0.obj j)else none).join:=by rw[hS];show(lk (xs++sh.ed.map (λ k=>(k,iS s0.obj k))) j).join=_;rw[Dh,DO j];cases lk xs j<;>rfl
  rw[e1]at hjo;cases he:lk xs j with
  |some x=>
   rw[he]at hjo;obtain⟨_,k',o1,o',b1,b2,b3,b4,b5,b6⟩:=pB _ (pR he);simp at b1 b2 hjo;subst b1;simp[Option.join_some,bL]at hjo;subst hjo;exact .inl ⟨k',o1,b2,b3,b4,b5,b6⟩
  |none=>
   rw[he]at hjo;by_cases hj:j∈sh.ed;simp[aU hj,Option.join_some]at hjo;exact .inr ⟨hj,hjo⟩;simp[aP hj]at hjo
 have hnx:=n8;have hkx:∀j,j∈sh.ed\/(j,j)∈m.nm->j<sh.nx:=λj hj=>hj.elim (λ hj=>Nat.lt_of_lt_of_le (hko j hj).1 hnx) (λ h=>hsn j ⟨j,h⟩);have hRW:∀{r q:List AV},nj (DN m.nm) f r q->nj (λ j=>DN m.nm j\/j∈sh.ed) f r q:=by
  intro r
  induction r with
  |nil=>intro q h;cases q with
   |nil=>trivial
   |cons=>exact h.elim
  |cons x xs ih=>intro q h;cases q with
   |nil=>exact h.elim
   |cons y ys=>exact⟨⟨λ k hk=> .inl (h.1.1 k hk),h.1.2⟩,ih h.2⟩
 have Z2:∀{r q:List (List AV)},io (DN m.nm) f r q->io (λ j=>DN m.nm j\/j∈sh.ed) f r q:=by
  intro r
  induction r with
  |nil=>intro q h;cases q with
   |nil=>trivial
   |cons=>exact h.elim
  |cons x xs ih=>intro q h;cases q with
   |nil=>exact h.elim
   |cons y ys=>exact⟨hRW h.1,ih h.2⟩
 refine⟨v,h6,?_,?_,?_⟩;constructor;rw[hS];exact n9;rw[hS];exact Nat.le_trans hl0.ge n8;intro t j hj;have DA:(encS sh s0 v).nx=sh.nx:=by rw[hS]
 rw[DA];rcases tm t with ⟨d,h1,h2⟩ |⟨h1,h2⟩ |h2;rw[h2]at hj;exact hsn j ((pA _ h1).2.2.2 j hj);rw[h2]at hj;exact hkx j ((hke t h1).2.2 j hj);rw[h2]at hj;simp[bz]at hj;intro j o hjo;have DA:(encS sh s0 v).nx=sh.nx:=by rw[hS]
 rw[DA];rcases kf j o hjo with ⟨k',o1,b1,b2,b3,b4,b5⟩ |⟨b1,b2⟩;exact⟨hsn j ⟨k',b1⟩,λi hi=>hsn i (b5 i hi)⟩;have⟨c1,o',c2,c3,c4⟩:=hko j b1;rw[b2]at c2;cases c2;exact⟨hkx j (.inl b1),λi hi=>hkx i (c4 i hi)⟩;refine⟨λ t ht=>?_,⟨(List.range s0.nx).filter (λ k=>!sh.ed.contains k),by rw[hS],λj hj hn=>?_⟩,hS ▸ hnx⟩;rcases tm t with ⟨d,h1,h2⟩ |⟨h1,h2⟩ |h2;exact(ht (hks _ h1)).elim;exact .inl h2;exact .inr h2;have hjk:j∈sh.ed:=by simpa[hj]using hn
 cases hjo:iS (encS sh s0 v).obj j with
 |none=>exact .inr rfl
 |some o=>
  rcases kf j o hjo with ⟨k',o1,b1,_⟩ |⟨b1,b2⟩;exact((List.nodup_append.1 n2).2.2 j (mem_map.2 ⟨(k',j),b1,rfl⟩) j hjk rfl).elim;exact .inl b2.symm
 intro P w0 O0 N β I a w hr;refine⟨_,Rel.re (f:=f) (g:=g) (D:=λj=>DN m.nm j\/j∈sh.ed) hgf hg0 hr (λ _=> .inl rfl) (λ _=>rfl) (λ t=>?_) (λ j o' hj=>?_)⟩;show den (fS (encS sh s0 v).env t)= .undef\/((∀ k∈refs (den (fS s'.env t)),_)/\lE (il f (den (fS s'.env t))) (den (fS (encS sh s0 v).env t)));rcases tm t with ⟨d,h1,h2⟩ |⟨h1,h2⟩ |h2;right;rw[h2];obtain⟨_,b1,b2,_⟩:=pA _ h1;exact⟨λ k hk=> .inl (b2 k (by rwa [iV]at hk)),b1⟩;right;have⟨_,b1,b2⟩:=hke t h1;rw[h2,b1];refine⟨λ k hk=>hdp k (b2 k (by rwa [iV]at hk)),?_⟩;rw[<- AB,Xm _ (λ k hk=>hfp k (b2 k hk))];exact lE.refl _;left;rw[h2];rfl;simp[ek.st,tT]at hj;obtain⟨o,hjo,rfl⟩:=hj;rcases kf j o hjo with ⟨k',o1,b1,b2,b3,b4,b5⟩ |⟨b1,b2⟩;exact⟨k',bM o1,by simp[ek.st,b2],.inl ⟨j,b1⟩,hf _ b1,b3,Z2 b4⟩;have⟨c1,o',c2,c3,c4⟩:=hko j b1;rw[b2]at c2;cases c2;have hid:rh f o=o:=by
  cases o with
  |eM c l=>rfl
  |map kc vc l=>rfl
  |cells sz rows=>
   simp[rh];congr 1;have:=λq hq=>EL q λi hi=>hfp i (c4 i (by simp[eJ,List.mem_flatten,mem_map];exact⟨_,⟨q,hq,rfl⟩,hi⟩));rw[List.map_congr_left this];simp
 obtain⟨r1,r2⟩:=Ke (D:=λj=>DN m.nm j\/j∈sh.ed) f o (λ i hi=>hdp i (c4 i hi));rw[hid]at r1 r2;exact⟨j,bM o,by simp[ek.st,c3],.inr b1,oT j b1,r1,r2⟩
theorem Ext.trans{ds:Nat->Prop}{a b c:ek X}(h:Ext ds a b)(h':Ext ds b c):Ext ds a c:=by refine⟨λ t ht=>?_,?_,Nat.le_trans h.nx h'.nx⟩;rcases h'.env t ht with h1 |h1;rcases h.env t ht with h2 |h2;exact .inl (h1.trans h2);exact .inr (h1.trans h2);exact .inr h1;obtain⟨d,h1,h2⟩:=h.obj;obtain⟨d',h3,h4⟩:=h'.obj;refine⟨d'++d,by rw[h3,h1,aT],λk hk hn=>?_⟩;simp at hn;rcases h4 k (Nat.lt_of_lt_of_le hk h.nx) hn.1 with h5 |h5;rcases h2 k hk hn.2 with h6 |h6;exact .inl (h5.trans h6);exact .inr (h5.trans h6);exact .inr h5
theorem Ext.refl(ds:Nat->Prop)(s:ek X):Ext ds s s:=⟨λ _ _=> .inl rfl,⟨[],by simp,λ_ _ _=> .inl rfl⟩,aB _⟩
def Says(s s':ek X):Prop:=∀(P:Program) (w0:World) (O0:ld) (N:Nat) (β:Nat->Option c9) (I:Nat->Prop) (a:Act) (w:World),Rel P w0 O0 N β I s.st a w->∃ β',Rel P w0 O0 N β' I s'.st a w
theorem Low.room{s:ek X}{P:Program}{w0:World}{O0:ld}{N:Nat}{β:Nat->Option c9}{I:Nat->Prop}{a:Act}{w:World}(hl:Low s)(hr:Rel P w0 O0 N β I s.st a w):∃ β2,β2 s.nx=none/\Rel P w0 O0 N β2 I s.st a w:=by
 have hr1:=hr.restrict hl.old
 have hr2:=Rel.re (f:=id) (g:=λj=>if j<s.nx then j else 1000000) (D:=(· <s.nx)) (s':=s.st) (λ k hk=>aU hk) (λ j hj=>aU (by have:=hl.ge;omega)) hr1 (λ _=> .inl rfl) (λ _=>rfl)
  (λ q=> .inr ⟨λ k hk=>hl.env q k (by rw[<- iV];exact hk),by show lE (il id (den (fS s.env q))) (den (fS s.env q));rw[<- AB,Xm (f:=id) _ (λ _ _=>rfl)];exact lE.refl _⟩)
  (λ j o' hj=>by
   simp[ek.st]at hj;obtain⟨x,hx,rfl⟩:=hj;have⟨h1,h2⟩:=hl.obj j x hx;have⟨r1,r2⟩:=Ke (D:=(· <s.nx)) id x h2;have hid:rh id x=x:=by
    cases x with
    |eM c l |map kc vc l=>rfl
    |cells sz rows=>
     simp[rh];have:∀q∈rows,Mf id q=q:=λq _=>EL (f:=id) q λ_ _=>rfl;rw[List.map_congr_left this];simp
   rw[hid]at r1 r2;exact⟨j,bM x,by simp[ek.st,hx],h1,rfl,r1,r2⟩)
 exact⟨_,by simp,hr2⟩
theorem aoB(z:Bool)(k:Nat):bz (nz (X:=X) z k)=[k]:=by cases z<;>rfl
theorem Xo{ds:List Nat}{z:Bool}{s:ek X}{t:Nat}{c:CT X.ι}(hl:Low s)(ht:t∈ds):Low (Cd z s t c)/\Ext (· ∈ds) s (Cd z s t c)/\Says s (Cd z s t c):=by
 unfold Cd;split;rename_i hn;split;have he:∀q,fS ((t,nz z s.nx)::s.env) q=if t=q then nz z s.nx else fS s.env q:=λq=>by simp[fS,lk];by_cases e:t=q<;>simp[e]
 have hO:∀q,iS ((s.nx,some (.eM c []))::s.obj) q=if s.nx=q then some (.eM c [])else iS s.obj q:=λq=>by simp[iS,lk];by_cases e:s.nx=q<;>simp[e]
 refine⟨⟨by show s.nx+1<=1000000;omega,by have:=hl.ge;show 1000<=s.nx+1;omega,λq k hk=>?_,λk o ho=>?_⟩,⟨λ q hq=>?_,⟨[s.nx],rfl,λk hk hnk=>?_⟩,by show s.nx<=s.nx+1;omega⟩,λP w0 O0 N β I a w hr=>?_⟩;rw[he]at hk;split at hk;simp[aoB]at hk;subst hk;show s.nx<s.nx+1;omega;have:=hl.env q k hk;show k<s.nx+1;omega;rw[hO]at ho;split at ho;rename_i e;cases ho;subst e;exact⟨by show s.nx<s.nx+1;omega,by simp[eJ]⟩;have⟨h1,h2⟩:=hl.obj k o ho;exact⟨by show k<s.nx+1;omega,λj hj=>by have:=h2 j hj;show j<s.nx+1;omega⟩;left;rw[he,aP];intro e;subst e;exact hq ht;left;rw[hO,aP (by omega)];have⟨β2,Hv,hr2⟩:=hl.room hr;have⟨hS,hM⟩:=Mem.qu (i:=s.nx) (o:=bM (.eM c []:b7 X)) hr2.mem Hv rfl;refine⟨ins β2 s.nx .none,hr2.defers,hr2.size,λq=>?_,?_⟩;have h1:=hr2.env q;show gd P _ w I (den (fS ((t,nz z s.nx)::s.env) q)) none _;rw[he];by_cases e:t=q;subst e;rw[aU rfl];have h2:VR P _ w I (den (fS s.env t)) (a.tmps.getD t undef):=h1;rw[hn]at h2;rcases z with _ |_;simp only[gd,nz,au,den,VR];exact .inl ⟨by simp[ins],h2,trivial,trivial⟩;simp only[gd,nz,aj,den,VR];exact .inl ⟨trivial,h2⟩;rw[aP e];exact gd.mono hS.ext hS.same hS.inc h1;have e:(λ k=>(iS ((s.nx,some (.eM c []))::s.obj) k).map bM)=bV s.st.obj [(s.nx,some (bM (.eM c []:b7 X)))]:=by funext q;simp[bV,ek.st];rw[hO];by_cases e:s.nx=q;simp[e];rw[aP e,aP (Ne.symm e)]
 show Mem P w0 O0 _ I (λ k=>(iS ((s.nx,some (.eM c []))::s.obj) k).map bM) w;rw[e];exact hM;exact⟨hl,Ext.refl _ s,λ_ _ _ _ β _ _ _ h=>⟨β,h⟩⟩;exact⟨hl,Ext.refl _ s,λ_ _ _ _ β _ _ _ h=>⟨β,h⟩⟩
theorem Xp(y:DV X):∀(l:List (DV X))(j i:Nat),i∈aS (l.set j y)->i∈aS l\/i∈bz y
 |[],_,_,h=> .inl (by simpa using h)
 |x::l,0,i,h=>by simp[aS]at h ⊢;rcases h with h |h;exact .inr h;exact .inl (.inr h)
 |x::l,j+1,i,h=>by simp[aS]at h ⊢;rcases h with h |h;exact .inl (.inl h);rcases Xp y l j i h with h |h;exact .inl (.inr h);exact .inr h
theorem be.set{P:Program}{β:Nat->Option c9}{w:World}{I:Nat->Prop}{y:AV}:∀(xs:List AV)(vs:List Value)(j:Nat),(∀ x v,xs[j]? =some x->VR P β w I x v->VR P β w I y v)->be P β w I xs vs->be P β w I (xs.set j y) vs
 |[],vs,_,_,h=>by simpa using h
 |x::xs,[],_,_,h=>by simp[be]at h
 |x::xs,v::vs,0,hy,h=>by exact⟨hy x v rfl h.1,h.2⟩
 |x::xs,v::vs,j+1,hy,h=>by exact⟨h.1,be.set xs vs j (λ x v e=>hy x v (by simpa using e)) h.2⟩
theorem OR.set1{P:Program}{β:Nat->Option c9}{w:World}{I:Nat->Prop}{sz:Nat}{row:List AV}{j:Nat}{y:AV}{B:c9}(hy:∀x v,row[j]? =some x->VR P β w I x v->VR P β w I y v)(h:OR P β w I ⟨sz,[row]⟩ B):OR P β w I ⟨sz,[row.set j y]⟩ B:=by
 cases B with
 |none=>simp[OR]at h
 | «at» b s n=>
  obtain⟨h1,c,e,h2,h3,h4⟩:=h;refine⟨h1,c,e,h2,h3,?_⟩;simp only[b9,List.length_set]at h4 ⊢;refine⟨h4.1,?_,trivial⟩;rw[jK]at h4 ⊢;intro i x hx;rw[List.getElem?_set]at hx;split at hx;rename_i e;subst e;split at hx;cases hx;rename_i hlt;obtain⟨v,g1,g2,g3⟩:=h4.2.1 j _ (dF hlt);exact⟨v,g1,hy _ v (dF hlt) g2,g3⟩;cases hx;exact h4.2.1 i x hx
 |mp b=>
  obtain⟨es,cl,h1,hle,h2,h3⟩:=h;refine⟨es,cl,h1,hle,λe=>?_,h3⟩;have:=h2 e
  match hes:es.toList,this with
  |[e1],this=>exact⟨be.set _ _ j hy this.1,trivial⟩
  |[],this |_::_::_,this=>simp[cX]at this
theorem ae2(y:DV X):∀(l:List (DV X))(j:Nat),bI (l.set j y)=(bI l).set j (den y)
 |[],_ |x::l,0=>by simp[bI]
 |x::l,j+1=>by simp[bI,ae2 y l j]
theorem ahN{ds:List Nat}{s:ek X}{q j:Nat}{c:CT X.ι}(hl:Low s):Low (HP s q j c)/\Ext (· ∈ds) s (HP s q j c)/\Says s (HP s q j c):=by
 unfold HP;split;rename_i sz row hq;split;rename_i hn;split;have hqn:=(hl.obj q _ hq).1;have hrefs:=λk hk=>(hl.obj q _ hq).2 k (by simpa[eJ]using hk);have hO:∀k,iS ((q,some (.cells sz [row.set j (.own s.nx 0 0)]))::(s.nx,some (.eM c []))::s.obj) k=if q=k then some (.cells sz [row.set j (.own s.nx 0 0)])else if s.nx=k then some (.eM c [])else iS s.obj k:=λk=>by simp[iS,lk];by_cases e:q=k;simp[e];by_cases e':s.nx=k<;>simp[e,e']
 refine⟨⟨by show s.nx+1<=1000000;omega,by have:=hl.ge;show 1000<=s.nx+1;omega,λk i hk=>by have:=hl.env k i hk;show i<s.nx+1;omega,λk o ho=>?_⟩,⟨λ _ _=> .inl rfl,⟨[q,s.nx],rfl,λk hk hnk=>?_⟩,by show s.nx<=s.nx+1;omega⟩,λP w0 O0 N β I a w hr=>?_⟩;rw[hO]at ho;split at ho;rename_i e;cases ho;subst e;refine⟨by show q<s.nx+1;omega,λi hi=>?_⟩;show i<s.nx+1;simp[eJ]at hi;rcases Xp _ _ _ _ hi with h1 |h1;have:=hrefs i h1;omega;simp[bz]at h1;omega;split at ho;rename_i e;cases ho;subst e;exact⟨by show s.nx<s.nx+1;omega,by simp[eJ]⟩;have⟨h1,h2⟩:=hl.obj k o ho;exact⟨by show k<s.nx+1;omega,λi hi=>by have:=h2 i hi;show i<s.nx+1;omega⟩;left;simp at hnk;rw[hO,aP (Ne.symm hnk.1),aP (Ne.symm hnk.2)];have⟨β2,Hv,hr2⟩:=hl.room hr;have⟨hS,hM⟩:=Mem.qu (i:=s.nx) (o:=bM (.eM c []:b7 X)) hr2.mem Hv rfl;refine⟨ins β2 s.nx .none,hr2.defers,hr2.size,λk=>gd.mono hS.ext hS.same hS.inc (hr2.env k),?_⟩;refine hM.weak λk o' ho=>?_;simp only[ek.st]at ho;rw[hO]at ho;by_cases e:q=k;subst e;rw[aU rfl]at ho;cases ho;refine⟨bM (.cells sz [row]),by simp[bV];rw[aP (by omega)];simp[ek.st,hq],λB _ hB=>?_⟩;simp[bM,ae2]at hB ⊢;refine OR.set1 (λ x v hx hv=>?_) hB;rw[oP,List.getElem?_map,hn]at hx;cases hx;simpa only[den,VR]using .inl ⟨by simp[ins],hv,trivial,trivial⟩;rw[aP e]at ho;refine⟨o',?_,λ_ _ h=>h⟩;simp[bV];by_cases e':s.nx=k;subst e';simpa using ho;rw[aP e']at ho;rw[aP (Ne.symm e')];exact ho;exact⟨hl,Ext.refl _ s,λ_ _ _ _ β _ _ _ h=>⟨β,h⟩⟩;exact⟨hl,Ext.refl _ s,λ_ _ _ _ β _ _ _ h=>⟨β,h⟩⟩;exact⟨hl,Ext.refl _ s,λ_ _ _ _ β _ _ _ h=>⟨β,h⟩⟩
theorem N8{ds:List Nat}:∀(l:List (Nat×CT X.ι)){s:ek X},Low s->(∀ p∈l,(bif Nat.ble 1000000 p.1 then !Nat.ble 1099511627776 p.1 || ds.contains (p.1 -1099511627776)else ds.contains p.1)=true)->Low (QH l s)/\Ext (· ∈ds) s (QH l s)/\Says s (QH l s)
 |[],s,hl,_=>⟨hl,Ext.refl _ s,λ_ _ _ _ β _ _ _ h=>⟨β,h⟩⟩
 |(t,c)::r,s,hl,hd=>by
  generalize hs:(bif Nat.ble 1000000 t then bif Nat.ble 1099511627776 t then Cd true s (t -1099511627776) c else HP s ((t -1000000)/4096) ((t -1000000)%4096) c else Cd false s t c)=s1;have h0:Low s1/\Ext (· ∈ds) s s1/\Says s s1:=by
   have hd0:=hd (t,c) (by simp);subst hs;cases hb:Nat.ble 1000000 t with
   |true=>
    rw[hb]at hd0;cases hb2:Nat.ble 1099511627776 t with
    |true=>rw[hb2]at hd0;exact Xo hl (by simpa using hd0)
    |false=>exact ahN hl
   |false=>rw[hb]at hd0;exact Xo hl (by simpa using hd0)
  obtain⟨h1,h2,h3⟩:=h0;simp[QH,hs];obtain⟨g1,g2,g3⟩:=N8 r h1 (λ p hp=>hd p (by simp[hp]));refine⟨g1,h2.trans g2,λP w0 O0 N β I a w hr=>?_⟩;have⟨β',hr'⟩:=h3 P w0 O0 N β I a w hr;exact g3 P w0 O0 N β' I a w hr'
theorem lV{A:Type}{sh:Sh X.ι}{ds:List Nat}{s0 s':ek X}{k:VT (X:=X) sh.vars->Option A}{r:A}(hl0:Low s0)(hl':Low s')(hx:Ext (· ∈ds) s0 s')(h:uj sh ds s0 s' k=some r):
 ∃v,k v=some r/\Low (encS sh s0 v)/\Ext (· ∈ds) s0 (encS sh s0 v)/\Says s' (encS sh s0 v):=by have⟨h1,h2⟩:=dW h;obtain⟨g1,g2,g3⟩:=N8 (ds:=ds) sh.CL hl' (λ p hp=>all_eq_true.1 h1 p hp);have⟨v,i1,i2,i3,i4⟩:=ac0 hl0 (hx.trans g2) h2;refine⟨v,i1,i2,i3,λP w0 O0 N β I a w hr=>?_⟩;have⟨β',hr'⟩:=g3 P w0 O0 N β I a w hr;exact i4 P w0 O0 N β' I a w hr'
end
def gJ:Code->List Nat
 | .region _ ag _=>ag.toList.filterMap (·.dst)
 | .seq a b=>gJ a++gJ b
 | .cond _ a b=>gJ a++gJ b
 | .block _ b=>gJ b
 | .loop b=>gJ b
 |_=>[]
section
variable {X:SX}
section
variable {P:Program} {N:Nat}
def LK{A:Type}(ds:List Nat)(s:ek X)(k:Exit->ek X->Option A)(r:A)(e:Exit)(σ:St):Prop:=∃s',Low s'/\Ext (· ∈ds) s s'/\σ=s'.st/\k e s'=some r
theorem ajr{c:Code}{Q Q':Exit->St->Prop}{σ:St}(h:Ev P N c Q σ)(ht:∀e σ,Q e σ->∀w0 O0 β I a w,Rel P w0 O0 N β I σ a w->∃ β' σ',Rel P w0 O0 N β' I σ' a w/\tG σ'/\Q' e σ'):Ev P N c Q' σ:=by intro w0 O0 β I a w hr ho;refine wp_mono (h w0 O0 β I a w hr ho) ?_;rintro e a' w' ⟨β',I',σ',h1,_,h3⟩;have⟨β2,σ2,g1,g2,g3⟩:=ht e σ' h3 w0 O0 β' I' a' w' h1;exact⟨β2,I',σ2,g1,g2,g3⟩
end
end
inductive Hn(ι:Type) where
 |z
 |f (l:List Nat)
 |s (a b:Hn ι)
 |b (a:Hn ι)
 |j (sh:Sh ι) (a:Hn ι)
 |jx (sh:Sh ι) (a:Hn ι)
 |l (head:Sh ι) (id:Nat) (out:Sh ι) (a:Hn ι)
 |lx (head:Sh ι) (id:Nat) (out:Sh ι) (a:Hn ι)
 |rg (head:Sh ι) (a:Hn ι)
 |un (a r:Hn ι)
def Hn.fz{ι:Type}:Hn ι->List Nat
 | .f is=>is
 |_=>[]
def Hn.fst{ι:Type}:Hn ι->Hn ι
 | .s a _=>a
 |_=> .z
def Hn.snd{ι:Type}:Hn ι->Hn ι
 | .s _ y=>y
 |_=> .z
def Hn.sub{ι:Type}:Hn ι->Hn ι
 | .b a=>a
 |_=> .z
def iter{V O:Type}(step:V->Option (V⊕O)):Nat->V->Option O
 | 0,_=>none
 |n+1,v=>(step v).bind λr=>match r with
  | .inl v=>iter step n v
  | .inr o=>some o
def PJ{X:SX}{A:Type}(body:Hn X.ι->ek X->(Exit->ek X->Option A)->Option A):Hn X.ι->ek X->(Exit->ek X->Option A)->Option A
 | .un a r,s,k=>body a s λe s'=>match e with
  | .normal=>PJ body r s' k
  |e=>k e s'
 |_,_,_=>none
def dJ{W A:Type}(o:Option (W⊕A))(f:W->Option A):Option A:=o.bind λr=>match r with
 | .inl w=>f w
 | .inr a=>some a
noncomputable def both{A:Type}(x y:Option A):Option A:=open Classical in if x=y then x else none
theorem akH{A:Type}{x y:Option A}{r:A}(h:both x y=some r):x=some r/\y=some r:=by grind [both]
theorem akI{A:Type}(x:Option A):both x x=x:=by simp[both]
section
variable {X:SX}
def H4(ds:List Nat)(s:ek X)(h:Hn X.ι){A:Type}(k:Exit->ek X->Option A)(body:(B:Type)->Hn X.ι->(Exit->ek X->Option B)->Option B):Option A:=
 match h with
 | .j sh h'=>(body (VT (X:=X) sh.vars) h' λe s'=>match e with
  | .normal=>uj sh ds s s' some
  |_=>none).bind λv=>k .normal (encS sh s v)
 | .jx sh h'=>dJ (body (VT (X:=X) sh.vars⊕A) h' λe s'=>match e with
  | .normal=>uj sh ds s s' λv=>some (.inl v)
  |e=>(k e s').map .inr) λv=>k .normal (encS sh s v)
 |h=>body A h k
variable (Γ:FuncId->Option (cw X)) (T:eR) (code:TypeId->Option (CT X.ι)) (N n:Nat)
noncomputable def run:Code->(A:Type)->Hn X.ι->ek X->(Exit->ek X->Option A)->Option A
 | .skip,_,_,s,k=>k .normal s
 | .region id ag d,A,h,s,k=>H4 (gJ (.region id ag d)) s h k λ_ h k=>ahM Γ h.fz T code N ag d s (k .normal)
 | .seq x y,A,h,s,k=>H4 (gJ (.seq x y)) s h k λB h k=>run x B h.fst s λe s'=>match e with
  | .normal=>run y B h.snd s' k
  |e=>k e s'
 | .cond c x y,A,h,s,k=>H4 (gJ (.cond c x y)) s h k λB h k=>match ZM (fS s.env) c with
  | .c .bool v=>bif v then run x B h.fst s k else run y B h.snd s k
  | .ub=>both (run x B h.fst s k) (run y B h.snd s k)
  |_=>none
 | .block id b,A,h,s,k=>H4 (gJ (.block id b)) s h k λB h k=>run b B h.sub s λe s'=>match e with
  | .exit j=>if j=id then k .normal s' else k (.exit j) s'
  |e=>k e s'
 | .loop b,A,h,s,k=>match h with
  | .l hd id out h'=>uj hd (gJ b) s s λv0=>(iter (λ v=>run b (VT (X:=X) hd.vars⊕VT (X:=X) out.vars) h' (encS hd s v) λe s'=>match e with
   | .normal=>uj hd (gJ b) s s' λv=>some (.inl v)
   | .exit j=>if j=id then uj out (gJ b) s s' λw=>some (.inr w)else none
   |_=>none) n v0).bind λw=>k (.exit id) (encS out s w)
  | .lx hd id out h'=>uj hd (gJ b) s s λv0=>dJ (iter (λ v=>run b (VT (X:=X) hd.vars⊕(VT (X:=X) out.vars⊕A)) h' (encS hd s v) λe s'=>match e with
   | .normal=>uj hd (gJ b) s s' λv=>some (.inl v)
   | .exit j=>if j=id then uj out (gJ b) s s' λw=>some (.inr (.inl w))else(k (.exit j) s').map λa=> .inr (.inr a)
   |e=>(k e s').map λa=> .inr (.inr a)) n v0) λw=>k (.exit id) (encS out s w)
  | .un a r=>PJ (λ h s k=>run b A h s k) (.un a r) s k
  |_=>none
 | .exit id,_,_,s,k=>k (.exit id) s
 | .ret,_,_,s,k=>k .ret s
 | .label _,_,_,s,k=>k .normal s
 |_,_,_,_,_=>none
section
variable {Γ:FuncId->Option (cw X)} {T:eR} {code:TypeId->Option (CT X.ι)} {N n:Nat} {P:Program}
theorem Ext.wide{ds ds':Nat->Prop}{a b:ek X}(h:Ext ds a b)(hd:∀t,ds t->ds' t):Ext ds' a b:=⟨λ t ht=>h.env t λhh=>ht (hd t hh),h.obj,h.nx⟩
theorem map_inr{α β:Type}{o:Option β}{r:α⊕β}(h:o.map Sum.inr=some r):∃b,o=some b/\r= .inr b:=by
 cases o with
 |none=>cases h
 |some b=>grind
theorem EN{c:Code}{s:ek X}{h:Hn X.ι}{A:Type}{k:Exit->ek X->Option A}{r:A}{body:(B:Type)->Hn X.ι->(Exit->ek X->Option B)->Option B}(hl:Low s)
 (hb:∀(B:Type)(h:Hn X.ι)(k:Exit->ek X->Option B)(r:B),body B h k=some r->Ev P N c (LK (gJ c) s k r) s.st) (hr:H4 (gJ c) s h k body=some r):Ev P N c (LK (gJ c) s k r) s.st:=by
 unfold H4 at hr;split at hr;have⟨v,h1,hr⟩:=ah.1 hr;refine ajr (hb _ _ _ _ h1) ?_;rintro e σ ⟨s',g1,g2,rfl,g4⟩ w0 O0 β I a w hrel;cases e<;>simp at g4;have⟨v',i1,i2,i3,i4⟩:=lV hl g1 g2 g4;cases i1;have⟨β',i5⟩:=i4 P w0 O0 N β I a w hrel;exact⟨β',_,i5,i2.old,_,i2,i3,rfl,hr⟩;unfold dJ at hr;have⟨v,h1,hr⟩:=ah.1 hr;refine ajr (hb _ _ _ _ h1) ?_;rintro e σ ⟨s',g1,g2,rfl,g4⟩ w0 O0 β I a w hrel;have other:(k e s').map Sum.inr=some v->∃ β' σ',Rel P w0 O0 N β' I σ' a w/\tG σ'/\LK (gJ c) s k r e σ':=by intro hm;obtain⟨b,hk,rfl⟩:=map_inr hm;cases hr;exact⟨β,_,hrel,g1.old,s',g1,g2,rfl,hk⟩
 cases e with
 |normal=>
  simp at g4;have⟨v',i1,i2,i3,i4⟩:=lV hl g1 g2 g4;cases i1;have⟨β',i5⟩:=i4 P w0 O0 N β I a w hrel;exact⟨β',_,i5,i2.old,_,i2,i3,rfl,hr⟩
 |_=>exact other g4
 exact hb _ _ _ _ hr
theorem akJ{id:Nat}{ag:Array Oper}{d:Bool}{t:Nat}(h:Td ag t):t∈gJ (.region id ag d):=by obtain⟨j,op,h1,h2⟩:=h;simp only[gJ,List.mem_filterMap];exact⟨op,by rw[<- Array.getElem?_toList]at h1;exact bT h1,h2⟩
theorem Xq{b:Code}{s:ek X}{hd:Sh X.ι}{O:Type}{step:VT (X:=X) hd.vars->Option (VT (X:=X) hd.vars⊕O)}{kb:Exit->ek X->Option (VT (X:=X) hd.vars⊕O)}{Q:Exit->St->Prop}(hl:Low s)
 (hkn:∀s',kb .normal s'=uj hd (gJ b) s s' λv=>some (.inl v))
 (hstep:∀v r,Low (encS hd s v)->step v=some r->Ev P N b (LK (gJ b) (encS hd s v) kb r) (encS hd s v).st)
 {o:O} (hQ:∀e s',e≠ .normal->Low s'->Ext (· ∈gJ b) s s'->kb e s'=some (.inr o)->∀w0 O0 β I a w,Rel P w0 O0 N β I s'.st a w->∃ β' σ',Rel P w0 O0 N β' I σ' a w/\tG σ'/\Q e σ')
 (hno:∀e s' v,e≠ .normal->kb e s'=some (.inl v)->False) (n:Nat) (v0:VT (X:=X) hd.vars) (h:iter step n v0=some o) (hl0:Low (encS hd s v0)) (hx0:Ext (· ∈gJ b) s (encS hd s v0)):Ev P N (.loop b) Q (encS hd s v0).st:=by
 intro w0 O0 β I a w hr ho;refine aa5 (λ n a w=>∃ β I v,Rel P w0 O0 N β I (encS hd s v).st a w/\iter step n v=some o/\Low (encS hd s v)/\Ext (· ∈gJ b) s (encS hd s v)) (λ a w ⟨_,_,v,_,h,_⟩=>by cases h) ?_ n a w ⟨β,I,v0,hr,h,hl0,hx0⟩;rintro n a w ⟨β,I,v,hr,hi,hlv,hxv⟩;simp[iter]at hi;have⟨r,h1,hi⟩:=ah.1 hi;refine wp_mono (hstep v r hlv h1 w0 O0 β I a w hr hlv.old) ?_;rintro e a' w' ⟨β',I',σ',g1,_,s',g2,g3,rfl,g4⟩;have hxs:=hxv.trans g3;by_cases he:e= .normal;subst he;rw[hkn]at g4;have⟨v',i1,i2,i3,i4⟩:=lV hl g2 hxs g4;cases i1;have⟨β2,i5⟩:=i4 P w0 O0 N β' I' a' w' g1;exact⟨β2,I',v',i5,hi,i2,i3⟩;cases r with
 |inl v'=>exact(hno e s' v' he g4).elim
 |inr o'=>
  cases hi;have⟨β2,σ2,i1,i2,i3⟩:=hQ e s' he g2 hxs g4 w0 O0 β' I' a' w' g1;cases e with
  |normal=>exact(he rfl).elim
  |_=>exact⟨β2,I',σ2,i1,i2,i3⟩
theorem Xr{A:Type}{sh:Sh X.ι}{ds:List Nat}{s0 s':ek X}{k:VT (X:=X) sh.vars->Option A}{r:A}(h:uj sh ds s0 s' k=some r):∃v,k v=some r:=by have⟨_,h⟩:=dW h;unfold T1 at h;have⟨m1,h1,h⟩:=ah.1 h;have⟨m,h2,h⟩:=ah.1 h;have⟨h3,h⟩:=dW h;have⟨v,h4,h⟩:=ah.1 h;exact⟨v,(qG h).2⟩
theorem ae3{α β γ:Type}{o:Option γ}{r:α⊕(β⊕γ)}(h:o.map (λ a=>Sum.inr (Sum.inr a))=some r):∃b,o=some b/\r= .inr (.inr b):=by
 cases o with
 |none=>cases h
 |some b=>grind
def Hn.len{ι:Type}:Hn ι->Nat
 | .un _ r=>r.len+1
 |_=>0
theorem akK{b:Code}{A:Type}{body:Hn X.ι->ek X->(Exit->ek X->Option A)->Option A}{s0:ek X}{k:Exit->ek X->Option A}{r:A}
 (hb:∀(h:Hn X.ι)(s:ek X)(k:Exit->ek X->Option A)(r:A),Low s->body h s k=some r->Ev P N b (LK (gJ b) s k r) s.st)
 {h:Hn X.ι} (hl:Low s0) (hr:PJ body h s0 k=some r):Ev P N (.loop b) (LK (gJ (.loop b)) s0 k r) s0.st:=by
 refine aon (λ n σ=>∃(h:Hn X.ι)(s:ek X),σ=s.st/\h.len=n/\Low s/\Ext (· ∈gJ b) s0 s/\PJ body h s k=some r) ?_ ?_ h.len ⟨h,s0,rfl,rfl,hl,Ext.refl _ s0,hr⟩;rintro σ ⟨h,s,_,h1,_,_,h2⟩;cases h<;>first |cases h2 |cases h1
 rintro n σ ⟨h,s,rfl,h1,h2,h3,h4⟩;cases h<;>try cases h4
 rename_i a q;simp[Hn.len]at h1;refine(hb a s _ r h2 h4).mono ?_;rintro e σ ⟨s',g1,g2,rfl,g4⟩;have hx:=h3.trans g2;cases e with
 |normal=>exact⟨q,s',rfl,h1,g1,hx,g4⟩
 |_=>exact⟨s',g1,hx,rfl,g4⟩
theorem lD(hT:fw P T)(hm:P.follows .mixedOrders=true)(hΓ:tI P Γ):∀(c:Code)(A:Type)(h:Hn X.ι)(s:ek X)(k:Exit->ek X->Option A)(r:A),Low s->run Γ T code N n c A h s k=some r->Ev P N c (LK (gJ c) s k r) s.st
 | .skip,A,h,s,k,r,hl,hr=>aok ⟨s,hl,Ext.refl _ s,rfl,hr⟩
 | .exit id,A,h,s,k,r,hl,hr=>aol ⟨s,hl,Ext.refl _ s,rfl,hr⟩
 | .ret,A,h,s,k,r,hl,hr=>T3 ⟨s,hl,Ext.refl _ s,rfl,hr⟩
 | .label l,A,h,s,k,r,hl,hr=>amb ⟨s,hl,Ext.refl _ s,rfl,hr⟩
 | .region id ag d,A,h,s,k,r,hl,hr=>by refine EN hl (λ B h k r hb=>?_) hr;have⟨s',g1,g2,g3,g4⟩:=acY (id:=id) hT hm hΓ hl hb;exact g4.mono λe σ ⟨he,hσ⟩=>⟨s',g2,g3.wide λt ht=>akJ ht,hσ,by rw[he];exact g1⟩
 | .seq x y,A,h,s,k,r,hl,hr=>by
  refine EN hl (λ B h k r hb=>?_) hr;refine BA ((lD hT hm hΓ x B _ s _ r hl hb).mono ?_);rintro e σ ⟨s',g1,g2,rfl,g4⟩;have wide:Ext (· ∈gJ (.seq x y)) s s':=g2.wide λt ht=>by simp[gJ,ht]
  cases e with
  |normal=>
   exact(lD hT hm hΓ y B _ s' k r g1 g4).mono λe σ ⟨s2,i1,i2,i3,i4⟩=>⟨s2,i1,wide.trans (i2.wide λt ht=>by simp[gJ,ht]),i3,i4⟩
  |_=>exact⟨s',g1,wide,rfl,g4⟩
 | .cond c x y,A,h,s,k,r,hl,hr=>by
  refine EN hl (λ B h k r hb=>?_) hr;split at hb
  ·rename_i v hv;refine aom v (λ _ _=>rfl) ?_ ?_
   ·have:=WA (fS s.env) c;rw[hv]at this;exact this.symm
   ·cases v with
    |true=>exact(lD hT hm hΓ x B _ s k r hl hb).mono λe σ ⟨s2,i1,i2,i3,i4⟩=>⟨s2,i1,i2.wide λt ht=>by simp[gJ,ht],i3,i4⟩
    |false=>exact(lD hT hm hΓ y B _ s k r hl hb).mono λe σ ⟨s2,i1,i2,i3,i4⟩=>⟨s2,i1,i2.wide λt ht=>by simp[gJ,ht],i3,i4⟩
  ·rename_i hv;have⟨hb1,hb2⟩:=akH hb;refine ahi (λ _ _=>rfl) ?_ ?_ ?_
   ·have:=WA (fS s.env) c;rw[hv]at this;exact this.symm
   ·exact(lD hT hm hΓ x B _ s k r hl hb1).mono λe σ ⟨s2,i1,i2,i3,i4⟩=>⟨s2,i1,i2.wide λt ht=>by simp[gJ,ht],i3,i4⟩
   ·exact(lD hT hm hΓ y B _ s k r hl hb2).mono λe σ ⟨s2,i1,i2,i3,i4⟩=>⟨s2,i1,i2.wide λt ht=>by simp[gJ,ht],i3,i4⟩
  ·cases hb
 | .block id b,A,h,s,k,r,hl,hr=>by
  refine EN hl (λ B h k r hb=>?_) hr;refine amc ((lD hT hm hΓ b B _ s _ r hl hb).mono ?_);rintro e σ ⟨s',g1,g2,rfl,g4⟩;cases e with
  |exit j=>
   simp only[ahh];simp only at g4;split
   ·rw[aU ‹_›]at g4;exact⟨s',g1,g2,rfl,g4⟩
   ·rw[aP ‹_›]at g4;exact⟨s',g1,g2,rfl,g4⟩
  |_=>exact⟨s',g1,g2,rfl,g4⟩
 | .loop b,A,h,s,k,r,hl,hr=>by
  simp only[run]at hr;split at hr
  ·rename_i hd id out h';obtain⟨v0,h1,h2,h3,h4⟩:=lV hl hl (Ext.refl _ s) hr;rw[ah]at h1;obtain⟨w,h5,h6⟩:=h1;intro w0 O0 β I a ww hrel ho;have⟨β',hrel'⟩:=h4 P w0 O0 N β I a ww hrel;refine Xq (Q:=LK (gJ (.loop b)) s k r) hl (λ s'=>rfl) (λ v r hlv hs=>lD hT hm hΓ b _ h' (encS hd s v) _ r hlv hs) (λ e s' he hls hxs hk=>?_) (λ e s' v he hk=>?_) n v0 h5 h2 h3 w0 O0 β' I a ww hrel' h2.old
   ·cases e with
    |exit j=>
     simp only at hk;split at hk
     ·rename_i hj;subst hj;have⟨w',i1,i2,i3,i4⟩:=lV hl hls hxs hk;injection i1 with i1;cases i1;intro w0 O0 β I a ww hrel;have⟨β',hrel'⟩:=i4 P w0 O0 N β I a ww hrel;exact⟨β',_,hrel',i2.old,_,i2,i3,rfl,h6⟩
     ·cases hk
    |normal=>exact(he rfl).elim
    |_=>cases hk
   ·cases e with
    |exit j=>
     simp only at hk;split at hk
     ·have⟨w',i1⟩:=Xr hk;injection i1 with i1;cases i1
     ·cases hk
    |normal=>exact he rfl
    |_=>cases hk
  ·rename_i hd id out h';obtain⟨v0,h1,h2,h3,h4⟩:=lV hl hl (Ext.refl _ s) hr;unfold dJ at h1;rw[ah]at h1;obtain⟨w,h5,h6⟩:=h1;intro w0 O0 β I a ww hrel ho;have⟨β',hrel'⟩:=h4 P w0 O0 N β I a ww hrel;refine Xq (Q:=LK (gJ (.loop b)) s k r) hl (λ s'=>rfl) (λ v r hlv hs=>lD hT hm hΓ b _ h' (encS hd s v) _ r hlv hs) (λ e s' he hls hxs hk=>?_) (λ e s' v he hk=>?_) n v0 h5 h2 h3 w0 O0 β' I a ww hrel' h2.old
   ·intro w0 O0 β I a ww hrel;have other:(k e s').map (λ a=>Sum.inr (Sum.inr a))=some (Sum.inr w:VT (X:=X) hd.vars⊕(VT (X:=X) out.vars⊕A))->∃ β' σ',Rel P w0 O0 N β' I σ' a ww/\tG σ'/\LK (gJ (.loop b)) s k r e σ':=(by intro hm;have⟨q,hq,hr⟩:=ae3 hm;cases hr;cases h6;exact⟨β,_,hrel,hls.old,s',hls,hxs,rfl,hq⟩);cases e with
    |exit j=>
     simp only at hk;split at hk
     ·rename_i hj;subst hj;have⟨w',i1,i2,i3,i4⟩:=lV hl hls hxs hk;injection i1 with i1;cases i1;have⟨β',hrel'⟩:=i4 P w0 O0 N β I a ww hrel;exact⟨β',_,hrel',i2.old,_,i2,i3,rfl,h6⟩
     ·exact other hk
    |normal=>exact(he rfl).elim
    |_=>exact other hk
   ·have other:(k e s').map (λ a=>Sum.inr (Sum.inr a))=some (Sum.inl v:VT (X:=X) hd.vars⊕(VT (X:=X) out.vars⊕A))->False:=(by intro hm;have⟨q,hq,hr⟩:=ae3 hm;cases hr);cases e with
    |exit j=>
     simp only at hk;split at hk
     ·have⟨w',i1⟩:=Xr hk;injection i1 with i1;cases i1
     ·exact other hk
    |normal=>exact he rfl
    |_=>exact other hk
  ·exact akK (body:=λh s k=>run Γ T code N n b A h s k) (λ h s k r hl h1=>lD hT hm hΓ b A h s k r hl h1) hl hr
  ·cases hr
 | .rangeFunc ..,_,_,_,_,_,_,hr=>by cases hr
 | .scope _,_,_,_,_,_,_,hr=>by cases hr
 | .goto _,_,_,_,_,_,_,hr=>by cases hr
 | .refuse _,_,_,_,_,_,_,hr=>by cases hr
end
end
section
variable {X:SX}
def nM:Nat->(l:List (AT X.ι))->ja X l->List (DV X)
 |_,[],_=>[]
 |n,.d c::l,a=> .c c a.1::nM n l a.2
 |n,.ref c::l,a=> .rp c a.1 0::nM n l a.2
 |n,.eE as r::l,a=> .eE as r a.1::nM n l a.2
 |n,.mut _::l,a=> .own n 0 (List.length a.1)::nM (n+1) l a.2
 |n,.k8 _::l,a=> .ptr n 0 0::nM (n+1) l a.2
 |n,.nil::l,a=> .nil::nM n l a.2
def BK:(l:List (AT X.ι))->ja X l->List (b7 X)
 |[],_=>[]
 | .mut c::l,a=> .eM c a.1::BK l a.2
 | .k8 c::l,a=> .cells (CT.sz X c) [vQ c a.1]::BK l a.2
 | .d _::l,a=>BK l a.2
 | .ref _::l,a=>BK l a.2
 | .eE _ _::l,a=>BK l a.2
 | .nil::l,a=>BK l a.2
theorem yU:∀(n:Nat)(l:List (AT X.ι))(a:ja X l),bI (nM n l a)=eG n l a
 |_,[],_=>rfl
 |n,.d c::l,a |n,.ref c::l,a=>by simp[nM,bI,den,eG,yU n l a.2]
 |n,.eE as r::l,a=>by simp[nM,bI,eG,yU n l a.2]
 |n,.mut c::l,a |n,.k8 c::l,a=>by simp[nM,bI,den,eG,yU (n+1) l a.2]
 |n,.nil::l,a=>by simp[nM,bI,den,eG,yU n l a.2]
theorem IK:∀(l:List (AT X.ι))(a:ja X l),(BK l a).map bM=(vE l a).map i6
 |[],_=>rfl
 | .d _::l,a | .ref _::l,a | .eE _ _::l,a | .nil::l,a=>IK l a.2
 | .mut c::l,a=>by simp[BK,IK l a.2];rfl
 | .k8 c::l,a=>by simp[BK,vE,IK l a.2,bM,i6,vD,aK,qd]
theorem qg:∀(n:Nat)(l:List (AT X.ι))(a:ja X l),∀k∈aS (nM n l a),k<n+xg l
 |_,[],_,k,hk=>by simp[nM,aS]at hk
 |n,.d c::l,a,k,hk=>by have:=qg n l a.2 k (by simpa[nM,aS,bz]using hk);simpa[xg,AT.im]using this
 |n,.ref c::l,a,k,hk=>by have:=qg n l a.2 k (by simpa[nM,aS,bz]using hk);simpa[xg,AT.im]using this
 |n,.eE as r::l,a,k,hk=>by have:=qg n l a.2 k (by simpa[nM,aS,bz]using hk);simpa[xg,AT.im]using this
 |n,.nil::l,a,k,hk=>by have:=qg n l a.2 k (by simpa[nM,aS,bz]using hk);simpa[xg,AT.im]using this
 |n,.mut c::l,a,k,hk=>by simp[nM,aS,bz]at hk;simp[xg,AT.im];rcases hk with rfl |hk;omega;have:=qg (n+1) l a.2 k hk;omega
 |n,.k8 c::l,a,k,hk=>by simp[nM,aS,bz]at hk;simp[xg,AT.im];rcases hk with rfl |hk;omega;have:=qg (n+1) l a.2 k hk;omega
theorem ul:∀(n:Nat)(l:List (AT X.ι))(a:ja X l),(eG n l a).length=l.length
 |_,[],_=>rfl
 |n,.d c::l,a |n,.ref c::l,a |n,.eE as r::l,a=>by simp[eG,ul n l a.2]
 |n,.mut c::l,a |n,.k8 c::l,a=>by simp[eG,ul (n+1) l a.2]
 |n,.nil::l,a=>by simp[eG,ul n l a.2]
theorem xk:∀(l:List (AT X.ι))(a:ja X l),(vE l a).length=xg l
 |[],_=>rfl
 | .d _::l,a | .ref _::l,a | .eE _ _::l,a | .nil::l,a=>by simpa[xg,AT.im,vE]using xk l a.2
 | .mut _::l,a | .k8 _::l,a=>by simp[vE,xk l a.2,xg,AT.im];omega
def C1(l:List (AT X.ι))(a:ja X l):ek X:=⟨(List.range l.length).zip (nM 0 l a),(List.range (BK l a).length).zip ((BK l a).map some),1000,[]⟩
theorem ajs(l:List (AT X.ι))(a:ja X l)(k:Nat):iS (C1 l a).obj k=(BK l a)[k]? :=by
 have h:(List.range (BK l a).length).zip ((BK l a).map some)=(List.range ((BK l a).map some).length).zip ((BK l a).map some):=by rw[length_map]
 simp[C1,iS];rw[h,BF,List.getElem?_map];cases (BK l a)[k]?<;>rfl
theorem ap0(l:List (AT X.ι))(a:ja X l):(C1 l a).st=s8.st ⟨(List.range (ze l a).length).zip (ze l a),(List.range ((vE l a).map i6).length).zip ((vE l a).map i6)⟩:=by
 have ho:∀k,((iS (C1 l a).obj k).map bM)=lk ((List.range ((vE l a).map i6).length).zip ((vE l a).map i6)) k:=by intro k;rw[BF,ajs,<- IK,List.getElem?_map]
 simp only[ek.st,s8.st,St.mk.injEq,and_true];refine⟨?_,funext ho⟩;funext t;rw[ul,ze,<- yU];have:∀(ks:List Nat)(ds:List (DV X)),den (fS (ks.zip ds) t)=(lk (ks.zip (bI ds)) t).getD .undef:=by
  intro ks
  induction ks with
  |nil=>intro ds;rfl
  |cons k ks ih=>
   intro ds;rcases ds with _ |⟨d,ds⟩;rfl;simp[fS,lk,bI];by_cases h:k=t;simp[h];simp[aP h];exact ih ds
 exact this _ _
theorem aoC(l:List (AT X.ι))(a:ja X l)(hm:xg l<=1000):Low (C1 l a):=by
 refine⟨by show 1000<=1000000;decide,aB _,λt k hk=>?_,λk o ho=>?_⟩;have h0:=qg 0 l a;have:∀(ks:List Nat)(ds:List (DV X)),(∀ k∈aS ds,k<0+xg l)->∀k∈bz (fS (ks.zip ds) t),k<1000:=by
  intro ks
  induction ks with
  |nil=>intro ds _ k hk;simp[fS,lk,bz]at hk
  |cons k ks ih=>
   intro ds h j hj;rcases ds with _ |⟨d,ds⟩;simp[fS,lk,bz]at hj;simp[fS,lk]at hj;by_cases e:k=t;simp[aU e]at hj;have:=h j (by simp[aS,hj]);omega;simp[aP e]at hj;exact ih ds (λ k hk=>h k (by simp[aS,hk])) j hj
 exact this _ _ h0 k hk;rw[ajs]at ho;have hl:(BK l a).length=xg l:=by rw[<- xk l a];simpa using congrArg List.length (IK l a)
 refine⟨by have:=(cZ.1 ho).1;show k<1000;omega,λj hj=>?_⟩;have hz:∀(l:List (AT X.ι))(a:ja X l),∀o∈BK l a,eJ o=[]:=by
  intro l
  induction l with
  |nil=>intro a o ho;simp[BK]at ho
  |cons q l ih=>
   intro a o ho;cases q<;>simp[BK]at ho
   case «mut» c=>rcases ho with rfl |ho;rfl;exact ih _ o ho
   case k8 c=>
    rcases ho with rfl |ho;have h1:aS (vQ c a.1)=[]:=by
     rw[<- iW,qd];generalize CT.row X.toSE c a.1=r
     induction r with
     |nil=>rfl
     |cons y ys ih=>simp[dD,refs,ih]
    simp[eJ,h1];exact ih _ o ho
   all_goals exact ih _ o ho
 rw[hz l a o (bT ho)]at hj;cases hj
variable (T:eR)
def HO(s:ek X):ResultVar->Option (DV X)
 | .tmp t=>some (fS s.env t)
 | .cell a t=>(T t).bind λti=>match fS s.env a with
  | .ptr kk row aa=>(iS s.obj kk).bind λo=>match o with
   | .cells _ rows=>(rows[row]?).bind λr=>Iu ti.agg ti.size ((r.drop aa).take ti.size)
   |_=>none
  |_=>none
def Xt(s:ek X):List ResultVar->Option (List (DV X))
 |[]=>some []
 |r::rs=>(HO T s r).bind λv=>(Xt s rs).bind λvs=>some (v::vs)
theorem amC{s:ek X}{r:ResultVar}{d:DV X}(h:HO T s r=some d):Qt T s.st r=some (den d):=by
 cases r with
 |tmp t=>simp only[HO,bL]at h;subst h;rfl
 |cell a t=>
  simp only[HO]at h;rw[ah]at h;obtain⟨ti,h1,h⟩:=h;split at h
  ·rename_i kk row aa hp;have⟨o,h2,h⟩:=ah.1 h;split at h
   ·have⟨q,h3,h⟩:=ah.1 h;have h4:=C8 h;rw[kG]at h4
    show(match Vl T t (den (fS s.env a)) (λ k=>(iS s.obj k).map bM)with
     |some ⟨v,[],[]⟩=>some v
     |_=>none)=some (den d)
    simp only[Vl,Lm,h1,ai,hp,den,h2,Option.map_some,bM,List.getElem?_map,h3,h4,pv]
   ·cases h
  ·cases h
def ZT{A:Type}(s:ek X):List ResultVar->(List (DV X)->Option A)->Option A
 |[],k=>k []
 | .tmp t::rs,k=>ZT s rs λvs=>k (fS s.env t::vs)
 | .cell a t::rs,k=>(T t).bind λti=>match fS s.env a with
  | .ptr kk row aa=>(iS s.obj kk).bind λo=>match o with
   | .cells _ rows=>(rows[row]?).bind λr=>(Iu ti.agg ti.size ((r.drop aa).take ti.size)).bind λv=>ZT s rs λvs=>k (v::vs)
   |_=>none
  |_=>none
theorem Kg{A:Type}{s:ek X}:∀{rs:List ResultVar}{k:List (DV X)->Option A}{r:A},ZT T s rs k=some r->∃ds,Xt T s rs=some ds/\k ds=some r
 |[],k,r,h=>⟨[],rfl,h⟩
 | .tmp t::rs,k,r,h=>by have⟨ds,h1,h2⟩:=Kg (rs:=rs) h;exact⟨_,by simp only[Xt,HO,h1,ai],h2⟩
 | .cell a t::rs,k,r,h=>by
  simp only[ZT]at h;rw[ah]at h;obtain⟨ti,h1,h⟩:=h;split at h
  ·rename_i kk row aa hp;have⟨o,h2,h⟩:=ah.1 h;split at h
   ·have⟨q,h3,h⟩:=ah.1 h;have⟨v,h4,h⟩:=ah.1 h;have⟨ds,h5,h6⟩:=Kg (rs:=rs) h;exact⟨_,by simp only[Xt,HO,h1,hp,h2,h3,h4,h5,ai],h6⟩
   ·cases h
  ·cases h
theorem QJ{s:ek X}:∀{rs:List ResultVar}{ds:List (DV X)},Xt T s rs=some ds->nX T s.st rs=some (bI ds)
 |[],ds,h=>by simp[Xt]at h;subst h;rfl
 |r::rs,ds,h=>by simp[Xt]at h;have⟨d,h1,h⟩:=ah.1 h;have⟨ds',h2,h⟩:=ah.1 h;cases h;simp[nX,amC T h1,QJ h2,bI]
def QK:List (RT X.ι)->List (DV X)->Option Nat
 | .mu _::l,ds=>QK l ds
 | .mr _::l,ds=>QK l ds
 | .mv::l,ds=>QK l ds
 | .fresh _::l,d::ds=>match d with
  | .own k _ _=>some k
  |_=>QK l ds
 | .d _::l,_::ds=>QK l ds
 | .whole _::l,_::ds=>QK l ds
 |_,_=>none
def AI:List (RT X.ι)->List (DV X)->List (Nat×Nat)
 | .mu _::l,ds=>AI l ds
 | .mr _::l,ds=>AI l ds
 | .mv::l,ds=>AI l ds
 | .whole j::l,d::ds=>match d with
  | .own _ _ len=>(j,len)::AI l ds
  |_=>AI l ds
 | .d _::l,_::ds=>AI l ds
 | .fresh _::l,_::ds=>AI l ds
 |_,_=>[]
def Dk:Nat->List (RT X.ι)->List Nat
 |_,[]=>[]
 |n,.mu _::l=>n::Dk (n+1) l
 |n,.mr _::l=>n::Dk (n+1) l
 |n,.mv::l=>Dk (n+1) l
 |n,_::l=>Dk n l
def te:Nat->List (RT X.ι)->List Nat
 |_,[]=>[]
 |n,.mu _::l=>n::te (n+1) l
 |n,.mr _::l=>te (n+1) l
 |n,.mv::l=>te (n+1) l
 |n,_::l=>te n l
def Pu(bad:List Nat)(ks:List Nat):Bool:=ks.all λk=>!bad.contains k
def ac1(get:Nat->Option (b7 X))(row:List (DV X))(c:CT X.ι):Option (CT.T X.toSE c×List Bool):=
 match c with
 | .st i=>(BH get row (X.ej i)).bind λh=>some (X.make i h.1,h.2)
 |c=>match row with
  |[d]=>SQ get d c
  |_=>none
def IL(get:Nat->Option (b7 X))(c:CT X.ι):List (List (DV X))->Option (List (CT.T X.toSE c)×List Bool)
 |[]=>some ([],[])
 |r::rs=>(ac1 get r c).bind λx=>(IL get c rs).bind λy=>some (x.1::y.1,x.2++y.2)
def N9(get:Nat->Option (b7 X))(bad s6:List Nat)(fk:Option Nat)(wl:List (Nat×Nat))(n:Nat):(q:RT X.ι)->List (DV X)->Option ((RT.T X q×List Bool)×List (DV X))
 | .d c,d::ds=>if Pu bad (bz d)then(Gh get d c).bind λx=>some (x,ds)else none
 | .fresh e,d::ds=>match d with
  | .nil=>some (([],[]),ds)
  | .own k 0 len=>if fk=some k then(get k).bind λo=>match o with
   | .eM b l=>(lg (.sl b) (.sl e) l).bind λ(l:List (CT.T X.toSE e))=>some ((sub l 0 len,[az (sub l 0 len).length len]),ds)
   | .cells sz rows=>if sz=CT.sz X e/\Pu bad (rows.map aS).flatten=true then(IL get e rows).bind λx=>some ((x.1,az len (List.length x.1)::x.2),ds)else none
   | .map _ _ _=>none
   else none
  |_=>none
 | .whole j,d::ds=>match d with
  | .own k 0 len=>if k=j/\s6.contains j=true then(lk wl j).bind λfg=>some (((),[az len fg]),ds)else none
  |_=>none
 | .mu c,ds=>(get n).bind λo=>match o with
  | .eM b l=>(lg (.sl b) (.sl c) l).bind λ(l:List (CT.T X.toSE c))=>match lk wl n with
   |some len=>some ((sub l 0 len,[az (sub l 0 len).length len]),ds)
   |none=>some ((l,[]),ds)
  |_=>none
 | .mr c,ds=>(get n).bind λo=>match o with
  | .cells sz [row]=>if sz=CT.sz X c/\Pu bad (aS row)=true then(ac1 get row c).bind λx=>some (x,ds)else none
  |_=>none
 | .mv,ds=>some (((),[]),ds)
 |_,[]=>none
def Oa(get:Nat->Option (b7 X))(bad s6:List Nat)(fk:Option Nat)(wl:List (Nat×Nat)):Nat->(l:List (RT X.ι))->(ds:List (DV X))->Option (tO X l×List Bool)
 |_,[],ds=>match ds with
  |[]=>some ((),[])
  |_=>none
 |n,[q],ds=>(N9 get bad s6 fk wl n q ds).bind λp=>match p.2 with
  |[]=>some p.1
  |_=>none
 |n,q::q'::l,ds=>(N9 get bad s6 fk wl n q ds).bind λp=>(Oa get bad s6 fk wl (if q.out then n+1 else n) (q'::l) p.2).bind λy=>some ((p.1.1,y.1),p.1.2++y.2)
def T6(s:ek X)(l:List (RT X.ι))(ds:List (DV X)):Option (tO X l×List Bool):=
 if Pu (Dk 0 l) (QK l ds).toList then Oa (iS s.obj) (Dk 0 l++(QK l ds).toList) (te 0 l) (QK l ds) (AI l ds) 0 l ds else none
def aqT(rs:List ResultVar)(l:List (RT X.ι)):Exit->ek X->Option (tO X l)
 | .normal,s=>ZT T s rs λds=>(T6 s l ds).bind λx=>WE x.2 (some x.1)
 | .ret,s=>ZT T s rs λds=>(T6 s l ds).bind λx=>WE x.2 (some x.1)
 |_,_=>none
def exit(A:Type)(k:ek X->Option A):Exit->ek X->Option A
 | .normal,s=>k s
 | .ret,s=>k s
 |_,_=>none
variable {T}
section
variable {get:Nat->Option (b7 X)} {fk:Option Nat} {os':List (Option eU)} {bad:List Nat}
theorem EO{ks:List Nat}(h:Pu bad ks=true):∀j∈ks,j∉bad:=λj hj=>by simpa using all_eq_true.1 h j hj
theorem QL(hbad:∀j,j∉bad->fk≠some j/\¬kept os' j){d:DV X}{c:CT X.ι}{x:CT.T X.toSE c×List Bool}(hc:c.one=true)(h:SQ get d c=some x)(hb:∀b∈x.2,b=true)(oT:∀j∈bz d,j∉bad):∃t,CT.tv X.toSE c x.1= .s t/\B5 (fD get) fk os' (den d) t:=by
 obtain⟨t,h1,h2⟩:=row_one hc x.1;refine⟨t,h2,?_⟩;have hbase:∀y,Ma d c=some y->y=x.1->B5 (fD get) fk os' (den d) t:=by intro y hy he;subst he;have h3:=wW hy;rw[h2]at h3;unfold Ma at hy;split at hy;rw[(pF hy).1];simp[den,h2,TV.av,B5];simp[den,Gb.wk,TV.av]at h3;exact h3.symm;simp[den,Gb.wk,TV.av]at h3;exact h3.symm;cases hy
 unfold SQ at h;split at h;rename_i kk aa len e;rw[ah]at h;obtain⟨o,h3,h⟩:=h;split at h;rename_i b l0;rw[ah]at h;obtain⟨l,h4,h⟩:=h;cases h;have h5:(sub l aa len).length=len:=by simpa[az]using hb (az (sub l aa len).length len) (by simp)
 have⟨h6,h7⟩:=jo h4;obtain⟨hf1,hf2⟩:=hbad kk (oT kk (by simp[bz]));refine⟨hf1,hf2,bM (.eM b l0),(sub l aa len).map (CT.row X.toSE e),by simp[fD,h3],?_,by simpa using h5,?_⟩;simp[bM,h7];simp[aK,sub];simpa[CT.row]using h1.symm;cases h;rename_i kk aa len;rw[ah]at h;obtain⟨o,h3,h⟩:=h;split at h;rename_i b l0;cases h;have h5:(sub l0 aa len).length=len:=by simpa[az]using hb (az (sub l0 aa len).length len) (by simp)
 obtain⟨hf1,hf2⟩:=hbad kk (oT kk (by simp[bz]));refine⟨hf1,hf2,bM (.eM b l0),(sub l0 aa len).map (CT.row X.toSE b),by simp[fD,h3],?_,by simpa using h5,?_⟩;simp[bM];simp[aK,sub];simpa[CT.row]using h1.symm;cases h;rename_i kk len e;rw[ah]at h;obtain⟨o,h3,h⟩:=h;split at h;rename_i b l0;have⟨l,h4,h⟩:=ah.1 h;cases h;have h5:(sub l 0 len).length=len:=by simpa[az]using hb (az (sub l 0 len).length len) (by simp)
 have⟨h6,h7⟩:=jo h4;obtain⟨hf1,hf2⟩:=hbad kk (oT kk (by simp[bz]));refine⟨hf1,hf2,bM (.eM b l0),(sub l 0 len).map (CT.row X.toSE e),by simp[fD,h3],?_,by simpa using h5,?_⟩;simp[bM,h7];simp[aK,sub];simpa[CT.row]using h1.symm;cases h;have⟨y,h3,h⟩:=ah.1 h;injection h with h;exact hbase y h3 (by rw[<- h])
theorem Mj(hbad:∀j,j∉bad->fk≠some j/\¬kept os' j):∀{ds:List (DV X)}{l:List (CT X.ι)}{h:HL X.toSE l×List Bool},BH get ds l=some h->(∀ b∈h.2,b=true)->l.all CT.one=true->(∀ j∈aS ds,j∉bad)->mS (fD get) fk os' (bI ds) (HL.row X.toSE l h.1)
 |[],[],h,_,_,_,_=>trivial
 |d::ds,c::l,h,hr,hb,ha,oT=>by simp[BH]at hr;have⟨x,h1,hr⟩:=ah.1 hr;have⟨g,h2,hr⟩:=ah.1 hr;cases hr;simp only[List.all_cons,aY]at ha;obtain⟨t,i1,i2⟩:=QL hbad ha.1 h1 (λ b hb'=>hb b (by simp[hb'])) (λ j hj=>oT j (by simp[aS,hj]));have i3:=Mj hbad h2 (λ b hb'=>hb b (by simp[hb'])) ha.2 (λ j hj=>oT j (by simp[aS,hj]));obtain⟨t',j1,j2⟩:=row_one ha.1 x.1;rw[i1]at j2;cases j2;show mS (fD get) fk os' (den d::bI ds) (CT.row X.toSE c x.1++HL.row X.toSE l g.1);rw[j1];exact⟨i2,i3⟩
 |[],_::_,_,hr,_,_,_ |_::_,[],_,hr,_,_,_=>by simp[BH]at hr
theorem Tg(hbad:∀j,j∉bad->fk≠some j/\¬kept os' j){row:List (DV X)}{c:CT X.ι}{x:CT.T X.toSE c×List Bool}(h:ac1 get row c=some x)(hb:∀b∈x.2,b=true)(oT:∀j∈aS row,j∉bad):mS (fD get) fk os' (bI row) (CT.row X.toSE c x.1):=by
 cases c
 case st i=>
  replace h:(BH get row (X.ej i)).bind (λ h=>some (X.make i h.1,h.2))=some x:=h
  have⟨g,h1,h⟩:=ah.1 h;cases h;have:=Mj hbad h1 hb (X.flat i) oT;show mS (fD get) fk os' (bI row) (X.row i (X.make i g.1));rw[X.ik];exact this
 all_goals
  match row,h,oT with
  |[d],h,oT=>
   obtain⟨t,i1,i2⟩:=QL (fk:=fk) hbad rfl h hb (λ j hj=>oT j (by simp[aS,hj]));obtain⟨t',j1,j2⟩:=row_one rfl x.1;rw[i1]at j2;cases j2;rw[j1];exact⟨i2,trivial⟩
  |[],h,_ |_::_::_,h,_=>cases h
theorem Ob(hbad:∀j,j∉bad->fk≠some j/\¬kept os' j){c:CT X.ι}:∀{rows:List (List (DV X))}{x:List (CT.T X.toSE c)×List Bool},IL get c rows=some x->(∀ b∈x.2,b=true)->(∀ j∈(rows.map aS).flatten,j∉bad)->fh (fD get) fk os' (rows.map bI) (x.1.map (CT.row X.toSE c))/\rows.length=List.length x.1
 |[],x,h,_,_=>by simp[IL]at h;subst h;exact⟨trivial,rfl⟩
 |r::rs,x,h,hb,oT=>by simp[IL]at h;have⟨y,h1,h⟩:=ah.1 h;have⟨z,h2,h⟩:=ah.1 h;cases h;have i1:=Tg hbad h1 (λ b hb'=>hb b (by simp[hb'])) (λ j hj=>oT j (by simp[hj]));obtain⟨i2,i3⟩:=Ob hbad h2 (λ b hb'=>hb b (by simp[hb'])) (λ j hj=>oT j (by simp only[bG,List.flatten_cons,bP];exact .inr hj));exact⟨⟨i1,i2⟩,by simp[i3]⟩
theorem amD{x:AV}{t:Tree}(h:B5 (fD get) fk os' x t):HM (fD get) fk os' x (.d (.s t)):=by cases x<;>first |exact h |exact h.elim
theorem EP(sz:CT X.ι)(l:List (CT.T X.toSE sz)):fh (fD get) fk os' (aK (l.map (CT.row X.toSE sz))) (l.map (CT.row X.toSE sz)):=by
 generalize l.map (CT.row X.toSE sz)=rows
 induction rows with
 |nil=>trivial
 |cons r rs ih=>
  refine⟨?_,ih⟩
  induction r with
  |nil=>trivial
  |cons y ys ih2=>exact⟨rfl,ih2⟩
theorem amE(hbad:∀j,j∉bad->fk≠some j/\¬kept os' j){c:CT X.ι}{d:DV X}{x:CT.T X.toSE c×List Bool}(h:Gh get d c=some x)(oT:∀j∈bz d,j∉bad)(hb:∀b∈x.2,b=true):HM (fD get) fk os' (den d) (.d (CT.tv X.toSE c x.1)):=by
 cases c
 case st i=>
  replace h:HX get d i=some x:=h
  cases d
  case agg cs=>
   simp[HX]at h;have⟨g,h1,h⟩:=ah.1 h;cases h;have:=Mj (fk:=fk) hbad h1 hb (X.flat i) (by simpa[bz]using oT);show mS (fD get) fk os' (bI cs) (X.row i (X.make i g.1));rw[X.ik];exact this
  case c a y=>
   simp[HX]at h;have⟨z,h1,h⟩:=ah.1 h;cases h;rw[(pF h1).1];show mS (fD get) fk os' ((X.row i z).map AV.t) (X.row i z);generalize X.row i z=l
   induction l with
   |nil=>trivial
   |cons y ys ih=>exact⟨rfl,ih⟩
  all_goals cases h
 all_goals
  have⟨t,i1,i2⟩:=QL (fk:=fk) hbad rfl h hb oT;rw[i1];exact amD i2
theorem Xu{s6:List Nat}{wl:List (Nat×Nat)}{ns:List Nat}{n:Nat}(hbad:∀j,j∉bad->fk≠some j/\¬kept os' j)(sA:∀k,fk=some k->¬kept os' k)(hns:∀j fg,j∈s6->lk wl j=some fg->ns.getD j 0=fg)(hmu:∀j∈s6,kept os' j){q:RT X.ι}{ds:List (DV X)}{p:(RT.T X q×List Bool)×List (DV X)}(h:N9 get bad s6 fk wl n q ds=some p)(hb:∀b∈p.1.2,b=true):
 (∀ cs,pc (fD get) fk os' (bI p.2) cs->pc (fD get) fk os' (bI ds) (WT ns q p.1.1++cs))/\
 (∀ t,da q p.1.1=[some t]->∃o,get n=some o/\(bM o).sz=t.1/\fh (fD get) fk os' ((bM o).rows.take t.2.length) t.2)/\
 (∀ fg c,q= .mu c->lk wl n=some fg->ZO q p.1.1=[fg]):=by
 cases q
 case d c=>
  cases ds with
  |nil=>simp[N9]at h
  |cons d ds=>
   simp only[N9]at h;split at h;rename_i hnb;rw[ah]at h;obtain⟨x,h1,h⟩:=h;cases h;exact⟨λ cs hcs=>⟨amE hbad h1 (EO hnb) hb,hcs⟩,λt ht=>by simp[da]at ht,λ_ _ h=>by cases h⟩;cases h
 case fresh e=>
  cases ds with
  |nil=>simp[N9]at h
  |cons d ds=>
   refine⟨λ cs hcs=>?_,λt ht=>by simp[da]at ht,λ_ _ h=>by cases h⟩;simp[N9]at h;split at h;cases h;exact⟨rfl,hcs⟩;rename_i k len;split at h;rename_i oT;rw[ah]at h;obtain⟨o,h1,h⟩:=h;split at h;rename_i b l0;rw[ah]at h;obtain⟨l,h2,h⟩:=h;cases h;have⟨h3,h4⟩:=jo h2;have h5:(sub l 0 len).length=len:=(by simpa[az]using hb (az (sub l 0 len).length len) (by simp));refine⟨⟨oT,sA k oT,rfl,bM (.eM b l0),by simp[fD,h1],by exact h3,?_,by simpa using h5⟩,hcs⟩;have e1:(bM (.eM b l0)).rows.take len=aK ((sub l 0 len).map (CT.row X.toSE e)):=(by simp[bM,h4];simp[aK,sub]);rw[e1];exact EP e _;rename_i sz rows;split at h;rename_i hc;rw[ah]at h;obtain⟨x,h2,h⟩:=h;cases h;obtain⟨i1,i2⟩:=Ob (fk:=fk) hbad h2 (λ b hb'=>hb b (by simp[hb'])) (EO hc.2);have h5:len=List.length x.1:=(by simpa[az]using hb (az len (List.length x.1)) (by simp));refine⟨⟨oT,sA k oT,rfl,bM (.cells sz rows),by simp[fD,h1],hc.1,?_,by simpa using h5.symm⟩,hcs⟩;simp[bM];rw[List.take_of_length_le (by simp;omega)];exact i1;cases h;cases h;cases h;cases h
 case whole j=>
  cases ds with
  |nil=>simp[N9]at h
  |cons d ds=>
   refine⟨λ cs hcs=>?_,λt ht=>by simp[da]at ht,λ_ _ h=>by cases h⟩;simp[N9]at h;split at h;rename_i k len;split at h;rename_i hc;obtain⟨rfl,hm⟩:=hc;rw[ah]at h;obtain⟨fg,h1,h⟩:=h;cases h;have h5:len=fg:=(by simpa[az]using hb (az len fg) (by simp));have hm:k∈s6:=(by simpa using hm);refine⟨⟨rfl,rfl,?_,hmu k hm⟩,hcs⟩;rw[h5];exact hns k fg hm h1;cases h;cases h
 case mu c=>
  simp[N9]at h;rw[ah]at h;obtain⟨o,h1,h⟩:=h;split at h;rename_i b l0;rw[ah]at h;obtain⟨l,h2,h⟩:=h;have⟨h3,h4⟩:=jo h2;split at h;rename_i len hl;cases h;have h5:(sub l 0 len).length=len:=by simpa[az]using hb (az (sub l 0 len).length len) (by simp)
  refine⟨λ cs hcs=>hcs,λt ht=>?_,λfg c' _ hl'=>?_⟩;simp[da]at ht;subst ht;refine⟨_,h1,by exact h3,?_⟩;have e1:(bM (.eM b l0)).rows.take (vD c (sub l 0 len)).2.length=aK (vD c (sub l 0 len)).2:=by simp[bM,h4,vD];simp[aK,sub]
  rw[e1];exact EP c _;rw[hl]at hl';injection hl' with hl';subst hl';simp[ZO,h5];rename_i hl;cases h;refine⟨λ cs hcs=>hcs,λt ht=>?_,λfg c' _ hl'=>by rw[hl]at hl';cases hl'⟩;simp[da]at ht;subst ht;refine⟨_,h1,by simp[vD];exact h3,?_⟩;have e1:(bM (.eM b l0)).rows.take (vD c l).2.length=aK (vD c l).2:=by simp[bM,h4,vD];rw[List.take_of_length_le (by simp[aK])]
  rw[e1];exact EP c _;cases h
 case mr c=>
  simp[N9]at h;rw[ah]at h;obtain⟨o,h1,h⟩:=h;split at h;rename_i sz row;split at h;rename_i hc;have⟨x,h2,h⟩:=ah.1 h;cases h;refine⟨λ cs hcs=>hcs,λt ht=>?_,λ_ _ h=>by cases h⟩;simp[da,List.cons.injEq,bL,and_true]at ht;subst ht;refine⟨_,h1,by simp[bM,vD];exact hc.1,?_⟩;exact⟨Tg hbad h2 hb (EO hc.2),trivial⟩;cases h;cases h
 case mv=>
  simp[N9,bL]at h;subst h;exact⟨λ cs hcs=>hcs,λt ht=>by simp[da]at ht,λ_ _ h=>by cases h⟩
theorem IQ{q:RT X.ι}{x:RT.T X q}:(da q x).length=(if q.out then 1 else 0)/\(ZO q x).length=(if q.out then 1 else 0):=by cases q<;>exact⟨rfl,rfl⟩
theorem IU{n j:Nat}{q:RT X.ι}{l:List (RT X.ι)}:j∈te n (q::l)->(j=n/\∃c,q= .mu c)\/j∈te (if q.out then n+1 else n) l:=by
 cases q<;>simp only[te,RT.out,if_true,Bool.false_eq_true,if_false,aI]
 case mu c=>exact λh=>h.imp (λ h=>⟨h,c,rfl⟩) id
 all_goals exact .inr
theorem ahO{j:Nat}:∀{l:List (RT X.ι)}{n:Nat},j∈te n l->n<=j
 |[],n,h=>by simp[te]at h
 |q::l,n,h=>by rcases IU h with ⟨rfl,_⟩ |h;exact aB _;have:=ahO h;split at this<;>omega
theorem ae5:∀{l:List (RT X.ι)}{x:tO X l}{n j:Nat},j∈te n l->∃p,(oQ l x)[j -n]? =some (some p)
 |[],x,n,j,h=>by simp[te]at h
 |[q],x,n,j,h=>by rcases IU h with ⟨rfl,c,rfl⟩ |h;exact⟨_,by simp;rfl⟩;simp[te]at h
 |q::q'::l,x,n,j,h=>by
  rcases IU h with ⟨rfl,c,rfl⟩ |h;exact⟨_,by simp;rfl⟩;have⟨p,hp⟩:=ae5 (l:=q'::l) (x:=x.2) h;have hge:=ahO h;refine⟨p,?_⟩;show(da q x.1++oQ (q'::l) x.2)[j -n]? =_;have hl:=(IQ (q:=q) (x:=x.1)).1
  all_goals grind
theorem Dl:∀{l:List (RT X.ι)}{x:tO X l}{n j:Nat}{p:eU},(oQ l x)[j]? =some (some p)->n+j∈Dk n l
 |[],x,n,j,p,h=>by simp[oQ]at h
 |[q],x,n,j,p,h=>by
  have h:(da q x)[j]? =some (some p):=h;cases q<;>simp[da]at h
  case mu c=>cases j<;>simp at h<;>simp[Dk]
  case mr c=>cases j<;>simp at h<;>simp[Dk]
  case mv=>cases j<;>simp at h
 |q::q'::l,x,n,j,p,h=>by
  have h:(da q x.1++oQ (q'::l) x.2)[j]? =some (some p):=h;cases q
  case mu c=>
   rcases j with _ |j;simp[Dk];have:=Dl (l:=q'::l) (x:=x.2) (n:=n+1) (by simpa[da]using h);right;rw[show n+(j+1)=n+1+j by omega];exact this
  case mr c=>
   rcases j with _ |j;simp[Dk];have:=Dl (l:=q'::l) (x:=x.2) (n:=n+1) (by simpa[da]using h);right;rw[show n+(j+1)=n+1+j by omega];exact this
  case mv=>
   rcases j with _ |j;simp[da]at h;have:=Dl (l:=q'::l) (x:=x.2) (n:=n+1) (by simpa[da]using h);rw[show n+(j+1)=n+1+j by omega];exact this
  all_goals
   exact Dl (l:=q'::l) (x:=x.2) (by simpa[da]using h)
theorem ae6{s6:List Nat}{wl:List (Nat×Nat)}{n:Nat}{q:RT X.ι}{ds:List (DV X)}{p:(RT.T X q×List Bool)×List (DV X)}(h:N9 get bad s6 fk wl n q ds=some p)(hb:∀b∈p.1.2,b=true):∀fg c,q= .mu c->lk wl n=some fg->ZO q p.1.1=[fg]:=by
 rintro fg c rfl hl;simp[N9]at h;have⟨o,h1,h⟩:=ah.1 h;split at h;have⟨l,h2,h⟩:=ah.1 h;rw[hl]at h;cases h;have h5:(sub l 0 fg).length=fg:=by simpa[az]using hb (az (sub l 0 fg).length fg) (by simp)
 simp[ZO,h5];cases h
theorem Mk{s6:List Nat}{wl:List (Nat×Nat)}:∀{n:Nat}{l:List (RT X.ι)}{ds:List (DV X)}{x:tO X l×List Bool},Oa get bad s6 fk wl n l ds=some x->(∀ b∈x.2,b=true)->∀j fg,n+j∈te n l->lk wl (n+j)=some fg->(AF l x.1).getD j 0=fg
 |n,[],ds,x,h,hb,j,fg,hm,_=>by simp[te]at hm
 |n,[q],ds,x,h,hb,j,fg,hm,hl=>by
  simp[Oa]at h;have⟨p,h1,h⟩:=ah.1 h;split at h;cases h;rcases IU hm with ⟨e,c,rfl⟩ |hm;have e:j=0:=by omega
  subst e;have:=(ae6 h1 hb) fg c rfl hl;show(ZO _ p.1.1).getD 0 0=fg;rw[this];rfl;simp[te]at hm;cases h
 |n,q::q'::l,ds,x,h,hb,j,fg,hm,hl=>by
  simp[Oa]at h;have⟨p,h1,h⟩:=ah.1 h;have⟨y,h2,h⟩:=ah.1 h;cases h;have hlen:=(IQ (q:=q) (x:=p.1.1)).2;rcases IU hm with ⟨e,c,rfl⟩ |hm;have e:j=0:=by omega
  subst e;have:=(ae6 h1 (λ b hb'=>hb b (by simp[hb']))) fg c rfl hl;show(ZO _ p.1.1++AF (q'::l) y.1).getD 0 0=fg;rw[this];rfl;have hge:=ahO hm;show(ZO _ p.1.1++AF (q'::l) y.1).getD j 0=fg;by_cases hq:q.out=true;rw[aU hq]at h2 hm hge hlen;have:=Mk h2 (λ b hb'=>hb b (by simp[hb'])) (j -1) fg ((show n+1+(j -1)=n+j by omega) ▸ hm) ((show n+1+(j -1)=n+j by omega) ▸ hl);rw[List.getD_eq_getElem?_getD,qD (by omega),hlen];exact this;rw[aP hq]at h2 hm hge hlen;have:=Mk h2 (λ b hb'=>hb b (by simp[hb'])) j fg hm hl;rw[List.getD_eq_getElem?_getD,qD (by omega),hlen];exact this
theorem abD{s6:List Nat}{wl:List (Nat×Nat)}{ns:List Nat}(hbad:∀j,j∉bad->fk≠some j/\¬kept os' j)(sA:∀k,fk=some k->¬kept os' k)(hns:∀j fg,j∈s6->lk wl j=some fg->ns.getD j 0=fg)(hmu:∀j∈s6,kept os' j):∀{n:Nat}{l:List (RT X.ι)}{ds:List (DV X)}{x:tO X l×List Bool},Oa get bad s6 fk wl n l ds=some x->(∀ b∈x.2,b=true)->
 pc (fD get) fk os' (bI ds) (BG ns l x.1)/\∀j t,(oQ l x.1)[j]? =some (some t)->∃o,get (n+j)=some o/\(bM o).sz=t.1/\fh (fD get) fk os' ((bM o).rows.take t.2.length) t.2
 |n,[],ds,x,h,_=>by simp[Oa]at h;split at h;exact⟨trivial,λj t ht=>by simp[oQ]at ht⟩;cases h
 |n,[q],ds,x,h,hb=>by
  simp[Oa]at h;rw[ah]at h;obtain⟨p,h1,h⟩:=h;split at h;rename_i hp;cases h;have⟨i1,i2,_⟩:=Xu (ns:=ns) hbad sA hns hmu h1 hb;rw[hp]at i1;have:=i1 [] trivial;rw[append_nil]at this;refine⟨this,λj t ht=>?_⟩;have ht:(da q p.1.1)[j]? =some (some t):=ht;have hl:=(IQ (q:=q) (x:=p.1.1)).1;have hj:=(cZ.1 ht).1;have hj0:j=0:=by split at hl<;>omega
  subst hj0;refine i2 t ?_
  match ho:da q p.1.1,ht,hl with
  |[z],ht,_=>simpa using ht
  |[],ht,_=>simp at ht
  |_::_::_,_,hl=>simp at hl;split at hl<;>omega
  cases h
 |n,q::q'::l,ds,x,h,hb=>by
  simp[Oa]at h;have⟨p,h1,h⟩:=ah.1 h;have⟨y,h2,h⟩:=ah.1 h;cases h;obtain⟨i1,i2,_⟩:=Xu (ns:=ns) hbad sA hns hmu h1 (λ b hb'=>hb b (by simp[hb']));obtain⟨k1,k2⟩:=abD (ns:=ns) hbad sA hns hmu h2 (λ b hb'=>hb b (by simp[hb']));refine⟨i1 _ k1,λj t ht=>?_⟩;have ht:(da q p.1.1++oQ (q'::l) y.1)[j]? =some (some t):=ht;have hl:=(IQ (q:=q) (x:=p.1.1)).1;by_cases hq:q.out=true;rw[aU hq]at k2 hl;cases j with
  |zero=>
   refine i2 t ?_
   match ho:da q p.1.1,ht,hl with
   |[z],ht,_=>simpa using ht
   |[],_,hl |_::_::_,_,hl=>simp at hl
  |succ j=>
   rw[qD (by omega),hl,Nat.add_sub_cancel]at ht;rw[show n+(j+1)=n+1+j by omega];exact k2 j t ht
  rw[aP hq]at k2 hl;rw[qD (by omega),hl,Nat.sub_zero]at ht;exact k2 j t ht
end
theorem pc.R{get:Nat->Option aN}{fk:Option Nat}{os':List (Option eU)}:∀{xs:List AV}{cs:List RC},pc get fk os' xs cs->HK get fk os' xs (match cs with |[c]=> .one c |cs=> .eI cs)
 |[],[],_=>rfl
 |[_],[_],h=>h.1
 |_::_::_,_::_::_,h=>h
 |[],_::_,h |_::_,[],h=>h.elim
 |[_],_::_::_,h |_::_::_,[_],h=>h.2.elim
theorem amF{s:ek X}{rs:List ResultVar}{l:List (RT X.ι)}{r:tO X l}(h:(ZT T s rs λds=>(T6 s l ds).bind λx=>WE x.2 (some x.1))=some r):∃xs fk,nX T s.st rs=some xs/\HK s.st.obj fk (oQ l r) xs (uf l r)/\RE s.st.obj fk (oQ l r):=by
 have⟨ds,h1,h⟩:=Kg T h;rw[ah]at h;obtain⟨x,h2,h⟩:=h;have⟨h3,h⟩:=qG h;cases h;unfold T6 at h2;split at h2;rename_i hnb;have hkn:∀j,kept (oQ l x.1) j->j∈Dk 0 l:=λj ⟨p,hp⟩=>by have:=Dl (n:=0) hp;simpa using this
 have hbad:∀j,j∉Dk 0 l++(QK l ds).toList->QK l ds≠some j/\¬kept (oQ l x.1) j:=by intro j hj;simp at hj;exact⟨hj.2,λh=>hj.1 (hkn j h)⟩
 have sA:∀k,QK l ds=some k->¬kept (oQ l x.1) k:=λk hk hkk=>EO hnb k (by simp[hk]) (hkn k hkk);have hmu:∀j∈te 0 l,kept (oQ l x.1) j:=λj hj=>by have⟨p,hp⟩:=ae5 (x:=x.1) hj;exact⟨p,by simpa using hp⟩
 obtain⟨i1,i2⟩:=abD (ns:=AF l x.1) hbad sA (λ j fg hj hl=>Mk h2 h3 j fg (by simpa using hj) (by simpa using hl)) hmu h2 h3;have kf:s.st.obj=fD (iS s.obj):=rfl;refine⟨bI ds,QK l ds,QJ T h1,?_,λj p hp=>?_⟩;exact i1.R;have⟨o,g1,g2,g3⟩:=i2 j p hp;rw[Nat.zero_add]at g1;exact⟨λ e=>sA j e ⟨p,hp⟩,bM o,by rw[kf];simp[fD,g1],g2,by rw[kf];exact g3⟩;cases h2
variable {Γ:FuncId->Option (cw X)} {code:TypeId->Option (CT X.ι)} {P:Program}
theorem aqU(hT : fw P T)(hm : P.follows .mixedOrders = true)(hΓ : tI P Γ){f : FuncId}{fn : Func}{c : Code}(hfn : P.funcs[f]? = some fn)(hb : fn.body = some c)(hname : (fn.name == "runtime.NumGoroutine") = false)(sa : List (AT X.ι))(sr : List (RT X.ι))(hN : sa.length <= fn.ntmps /\ xg sa <= 1000 /\ (sr.filter RT.out).length = xg sa)
 (h:Hn X.ι) (n:Nat) {a:ja X sa} {r:tO X sr} (hr:run Γ T code fn.ntmps n c (tO X sr) h (C1 sa a) (aqT T fn.results.toList sr)=some r):ra P f (ze sa a) (vE sa a) (oQ sr r) (uf sr r):=by
 have hl:(oQ sr r).length=(vE sa a).length:=by
  rw[xk,<- hN.2.2];have:∀(sr:List (RT X.ι))(r:tO X sr),(oQ sr r).length=(sr.filter RT.out).length:=by
   intro sr
   induction sr with
   |nil=>intro r;rfl
   |cons q l ih=>
    intro r;have hq:∀x:RT.T X q,(da q x).length=(if q.out then 1 else 0):=λx=>IQ.1;cases l with
    |nil=>
     show(da q r).length=_;rw[hq];by_cases e:q.out=true<;>simp[e]
    |cons q' l=>
     show(da q r.1++oQ (q'::l) r.2).length=_;rw[dQ,hq,ih r.2];by_cases e:q.out=true<;>simp[e];omega
  exact this sr r
 refine Qu hT hfn hb hname (by rw[ul];exact hN.1) (λ k hk=>?_) (by rw[xk];exact hN.2.1) hl ?_;rw[ze,<- yU,iW]at hk;have:=qg 0 sa a k hk;have:=hN.2.1;omega;rw[<- ap0];refine(lD hT hm hΓ c _ h _ _ r (aoC sa a hN.2.1) hr).mono ?_;rintro e σ ⟨s',_,_,rfl,g4⟩;cases e<;>first |exact amF g4 |cases g4
theorem qh{f : FuncId}{fn : Func}{c : Code}(hfn : P.funcs[f]? = some fn)(hb : fn.body = some c)(hname : (fn.name == "runtime.NumGoroutine") = false): eF P f := ⟨fn, hfn, by rw [hb]; rfl, hname⟩
abbrev Hi(P:Program)(f:FuncId)(s:cw X):Prop:=eF P f/\(∀ a r,s.fn a=some r->ra P f (ze s.args a) (vE s.args a) (oQ s.res r) (uf s.res r))/\∀g,s.gen=some g->NL P f g
theorem ws{P:Program}{f:FuncId}{s:cw X}(h:eF P f)(h1:∀a r,s.fn a=some r->ra P f (ze s.args a) (vE s.args a) (oQ s.res r) (uf s.res r))(hg:s.gen=none):Hi P f s:=by grind
theorem ap3{P:Program}{f:FuncId}{g:ea X}(h:eF P f)(hg:NL P f g):Hi P f ⟨[],[.d .bool],λ_=>none,some g⟩:=by grind
def p5(s t:cw X):cw X:=⟨s.args,s.res,s.fn,t.gen⟩
def zv(l:List (FuncId×cw X)):FuncId->Option (cw X):=λf=>lk l f
theorem ay:tI P (zv ([]:List (FuncId×cw X))):=λ_ _ h=>by cases h
theorem ak{f:FuncId}{s:cw X}{l:List (FuncId×cw X)}(h:Hi P f s)(hl:tI P (zv l)):tI P (zv ((f,s)::l)):=by intro g q hg;simp[zv,lk]at hg;split at hg;rename_i e;cases hg;subst e;exact h;exact hl g q hg
end
section
variable {X:SX} {T:eR}
theorem Ml(ol:Nat->Nat):∀(ps:List (Pt X.ι))(L:List (DC X)),(mn ol ps L).1.length=ps.length
 |[],_=>rfl
 |p::ps,L=>by simp[mn,Ml ol ps]
def ea.C2(g:ea X):Bool:=
 decide (g.ke.map (·.1)=List.range g.ke.length)&&decide (g.ke.length<=1000)&&((BJ g.qT).all λk=>Nat.blt k 1000)&&g.ke.all λq=>q.2.refs.all λk=>Nat.blt k 1000
def HN(g:ea X)(v:VT (X:=X) (de g.qT++ef g.ke)):ek X:=⟨(List.range g.qT.length).zip (g.args v),Pr g.qT g.ke (wY _ v),1000,[]⟩
theorem vS{ol:Nat->Nat}:∀(O:List (Nat×OP X.ι))(L:List (DC X)),bW ol O L=(dG (bW ol O L)).map λp=>(p.1,some p.2)
 |[],L=>rfl
 |(k,.l c)::O,L=>by
  match L with
  |[]=>rfl
  |⟨.sl c',x⟩::L=>simp[bW,dG];rw[<- vS O L]
  |⟨.int _,x⟩::L |⟨.bool,x⟩::L |⟨.str,x⟩::L |⟨.any,x⟩::L |⟨.st _,x⟩::L |⟨.mp _ _,x⟩::L=>rfl
 |(k,.m kc vc)::O,L=>by
  match L with
  |[]=>rfl
  |⟨.mp _ _,x⟩::L=>simp[bW,dG];rw[<- vS O L]
  |⟨.sl _,x⟩::L |⟨.int _,x⟩::L |⟨.bool,x⟩::L |⟨.str,x⟩::L |⟨.any,x⟩::L |⟨.st _,x⟩::L=>rfl
 |(k,.c sz rows)::O,L=>by simp[bW,dG];rw[<- vS O _]
theorem EQ{ol:Nat->Nat}:∀(O:List (Nat×OP X.ι))(L:List (DC X)),L.map (·.c)=ef O->(dG (bW ol O L)).map (·.1)=O.map (·.1)
 |[],L,_=>rfl
 |(k,.l c)::O,L,h=>by
  match L,h with
  |⟨.sl c',x⟩::L,h=>
   simp[ef]at h;simp[bW,dG,EQ O L h.2]
  |[],h |⟨.int _,x⟩::L,h |⟨.bool,x⟩::L,h |⟨.str,x⟩::L,h |⟨.any,x⟩::L,h |⟨.st _,x⟩::L,h |⟨.mp _ _,x⟩::L,h=>simp[ef]at h
 |(k,.m kc vc)::O,L,h=>by
  match L,h with
  |⟨.mp _ _,x⟩::L,h=>
   simp[ef]at h;simp[bW,dG,EQ O L h.2]
  |[],h |⟨.sl _,x⟩::L,h |⟨.int _,x⟩::L,h |⟨.bool,x⟩::L,h |⟨.str,x⟩::L,h |⟨.any,x⟩::L,h |⟨.st _,x⟩::L,h=>simp[ef]at h
 |(k,.c sz rows)::O,L,h=>by simp[bW,dG,EQ O _ (Mh (ol:=ol) rows L _ h).1]
theorem akN(g:ea X)(v:VT (X:=X) (de g.qT++ef g.ke))(h:g.ke.map (·.1)=List.range g.ke.length):(g.dp v).map (·.1)=List.range (g.dp v).length:=by have e:(g.dp v).map (·.1)=g.ke.map (·.1):=EQ g.ke _ (by rw[List.map_drop,ahI,List.drop_left]);have l:=congrArg List.length e;rw[length_map,length_map]at l;rw[e,h,l]
theorem Xv(k:Nat):∀l:List (Nat×b7 X),iS (l.map λp=>(p.1,some p.2)) k=vf l k
 |[]=>rfl
 |p::l=>by simp[iS,lk,vf];split;rfl;exact Xv k l
theorem amG(t:Nat):∀(ks:List Nat)(ds:List (DV X)),den (fS (ks.zip ds) t)=(lk (ks.zip (bI ds)) t).getD .undef:=by
 intro ks
 induction ks with
 |nil=>intro ds;rfl
 |cons k ks ih=>
  intro ds;cases ds with
  |nil=>rfl
  |cons d ds=>
   simp[fS,lk,bI];by_cases h:k=t;simp[h];simp[aP h];exact ih ds
theorem abE(t:Nat):∀(ks:List Nat)(ds:List (DV X)),∀j∈bz (fS (ks.zip ds) t),j∈aS ds:=by
 intro ks
 induction ks with
 |nil=>intro ds j hj;simp[fS,lk,bz]at hj
 |cons k ks ih=>
  intro ds j hj;cases ds with
  |nil=>simp[fS,lk,bz]at hj
  |cons d ds=>
   simp[fS,lk]at hj;simp[aS];by_cases e:k=t;simp[aU e]at hj;exact .inl hj;simp[aP e]at hj;exact .inr (ih ds j hj)
def ER(O:List (Nat×OP X.ι)):List (Nat×Pt X.ι)->List (Nat×CT X.ι)
 |[]=>[]
 |(t,.o k)::r=>match lk O k with
  |some (.l c)=>(t,c)::ER O r
  |_=>ER O r
 |(t,.oz k)::r=>match lk O k with
  |some (.l c)=>(t+1099511627776,c)::ER O r
  |_=>ER O r
 |_::r=>ER O r
def Xw(O:List (Nat×OP X.ι)):List (Nat×OP X.ι)->List (Nat×CT X.ι)
 |(q,.c _ [row])::r=>(ER O (mw (1000000+q*4096) row)).filter (λ p=>Nat.ble p.1 1000000000)++Xw O r
 |_::r=>Xw O r
 |[]=>[]
def AO(g:ea X):Sh X.ι:=⟨mw 0 g.gz,g.j9,[],[],1000000,ER g.j9 (mw 0 g.gz)++Xw g.j9 g.j9⟩
def apz(T:eR)(rs:List ResultVar)(g:ea X):Exit->ek X->Option (VT (X:=X) (AO g).vars)
 | .normal,s=>ZT T s rs λds=>bif decide (ds.length=g.gz.length)&&(aS ds).all (λ k=>Nat.blt k s.nx)then
  uj (AO g) (List.range ds.length) ⟨(List.range ds.length).zip ds,s.obj,s.nx,s.log⟩ ⟨(List.range ds.length).zip ds,s.obj,s.nx,s.log⟩ some else none
 | .ret,s=>ZT T s rs λds=>bif decide (ds.length=g.gz.length)&&(aS ds).all (λ k=>Nat.blt k s.nx)then
  uj (AO g) (List.range ds.length) ⟨(List.range ds.length).zip ds,s.obj,s.nx,s.log⟩ ⟨(List.range ds.length).zip ds,s.obj,s.nx,s.log⟩ some else none
 |_,_=>none
theorem Xx{ol:Nat->Nat}(t:Nat):∀(n:Nat)(ps:List (Pt X.ι))(L:List (DC X)),fS (Me ol (mw n ps) L) (n+t)=((mn ol ps L).1[t]?).getD .undef
 |n,[],L=>by simp[mw,Me,fS,lk,mn]
 |n,p::ps,L=>by
  simp[mw,Me,fS,lk,mn];cases t with
  |zero=>simp
  |succ t=>
   have:=Xx (ol:=ol) t (n+1) ps (eP ol p L).2;rw[show n+1+t=n+(t+1)by omega]at this;simpa[fS]using this
theorem akO {P:Program} {g:ea X} {s:ek X} {rs:List ResultVar} {r:VT (X:=X) (AO g).vars} (hl:Low s) (h:(ZT T s rs λds=>bif decide (ds.length=g.gz.length)&&(aS ds).all (λ k=>Nat.blt k s.nx)then
 uj (AO g) (List.range ds.length) ⟨(List.range ds.length).zip ds,s.obj,s.nx,s.log⟩ ⟨(List.range ds.length).zip ds,s.obj,s.nx,s.log⟩ some else none)=some r):
 ∃xs,nX T s.st rs=some xs/\Rr P s.st.obj xs (tZ (g.outs r)) (den (g.res r)):=by
 have⟨ds,h1,h⟩:=Kg T h;have⟨h2,h⟩:=dW h;simp only[aY,bF]at h2;obtain⟨h2,h3⟩:=h2;have hl':Low (⟨(List.range ds.length).zip ds,s.obj,s.nx,s.log⟩:ek X):=⟨hl.le,hl.ge,λt k hk=>by have:=all_eq_true.1 h3 k (abE t _ _ k hk);exact Nat.blt_eq.mp this,hl.obj⟩;obtain⟨v,h4,_,_,hrel⟩:=lV hl' hl' (Ext.refl _ _) h;injection h4 with h4;subst h4;refine⟨bI ds,QJ T h1,λw0 O0 β I w vs hM hv=>?_⟩;have hvl:=be.length _ _ hv;simp[lT]at hvl;have hR:Rel P w0 O0 vs.size β I (⟨(List.range ds.length).zip ds,s.obj,s.nx,s.log⟩:ek X).st { tmps:=vs,defers:=[] } w:=by
  refine⟨rfl,rfl,λt=>?_,hM⟩;show VR P β w I (den (fS ((List.range ds.length).zip ds) t)) (vs.getD t undef);rw[amG,show List.range ds.length=List.range (bI ds).length by rw[lT],BF];cases ht:(bI ds)[t]? with
  |none=>simp[VR]
  |some x=>
   obtain⟨u,g1,g2⟩:=be.get _ _ t _ hv ht;rw[Array.getElem?_toList]at g1;simp[g1];exact g2
 obtain⟨β',hR'⟩:=hrel P w0 O0 _ β I _ w hR;have hn:(i9 (mw 0 g.gz)).length=(de g.gz).length:=by rw[QA]
 refine⟨β',I,?_,λ_ h=>h,?_⟩;have:=hR'.mem;have e:(encS (AO g) ⟨(List.range ds.length).zip ds,s.obj,s.nx,s.log⟩ v).st.obj=py (tZ (g.outs v)):=by funext k;simp[ek.st,encS,AO,QF,ea.outs,Pr];rw[vS,Xv,<- hn];rfl
 rw[e]at this;exact this;obtain⟨pv,hpv⟩:∃pv,pv=WS g.gz g.j9 (wY (AO g).vars v):=⟨_,rfl⟩;have hres:g.res v=zb pv:=by rw[hpv];rfl
 have tm:∀t,VR P β' w I (den ((pv[t]?).getD .undef)) (vs.getD t undef):=by intro t;have:=hR'.env t;simp only[ek.st,gd,encS,AO,List.map_nil,append_nil]at this;have e:=Xx (ol:=EH g.j9 ((wY (AO g).vars v).drop (de g.gz).length)) t 0 g.gz ((wY (AO g).vars v).take (de g.gz).length);rw[Nat.zero_add]at e;rw[hpv];simp only[WS];rw[<- e,<- hn];exact this
 have hpl:pv.length=g.gz.length:=by rw[hpv];exact Ml _ _ _
 have hsz:vs.size=pv.length:=by rw[hpl,<- h2,hvl]
 rw[hres];have hall:be P β' w I (bI pv) vs.toList:=by
  have gen:∀(pv:List (DV X))(us:List Value),us.length=pv.length->(∀ t,t<pv.length->VR P β' w I (den ((pv[t]?).getD .undef)) (us.getD t undef))->be P β' w I (bI pv) us:=by
   intro pv
   induction pv with
   |nil=>intro us hl _;cases us<;>simp_all [bI,be]
   |cons d pv ih=>
    intro us hl hh;cases us with
    |nil=>simp at hl
    |cons u us=>
     simp[bI];refine⟨by simpa using hh 0 (by simp),ih us (by simpa using hl) λt ht=>by simpa using hh (t+1) (by simpa using ht)⟩
  refine gen pv vs.toList (by simpa using hsz) λt ht=>?_;have e:vs.toList.getD t undef=vs.getD t undef:=by simp
  rw[e];exact tm t
 match pv,hsz,hall with
 |[d],hsz,hall=>
  obtain⟨u,rfl⟩:=Array.size_eq_one_iff.1 (show vs.size=1 by simpa using hsz);simp only[bI,be]at hall;simpa[zb]using hall.1
 |[],hsz,hall=>
  have h1:¬vs.size=1:=by rw[hsz];simp
  rw[dif_neg h1];simp only[zb,den,VR];exact⟨vs,rfl,hall⟩
 |d::e::pv,hsz,hall=>
  have h1:¬vs.size=1:=by rw[hsz];simp
  rw[dif_neg h1];simp only[zb,den,VR];exact⟨vs,rfl,hall⟩
variable {Γ:FuncId->Option (cw X)} {code:TypeId->Option (CT X.ι)} {P:Program}
theorem ap4(hT : fw P T)(hm : P.follows .mixedOrders = true)(hΓ : tI P Γ){f : FuncId}{fn : Func}{c : Code}(hfn : P.funcs[f]? = some fn)(hb : fn.body = some c)(hname : (fn.name == "runtime.NumGoroutine") = false)(g : ea X)(hN : g.qT.length <= fn.ntmps)(hin : g.C2 = true)
 (h:Hn X.ι) (n:Nat) (hr:∀v (r:VT (X:=X) (AO g).vars),g.fn v=some r->run Γ T code fn.ntmps n c (VT (X:=X) (AO g).vars) h (HN g v) (apz T fn.results.toList g)=some r):NL P f g:=by
 intro v r hv;have hrun:=hr v r hv;simp only[ea.C2,aY,bF]at hin;obtain⟨⟨⟨i1,i2⟩,i3⟩,i4⟩:=hin;obtain⟨s1,s2,_⟩:=zi (ol:=EH g.ke ((wY (de g.qT++ef g.ke) v).drop (de g.qT).length)) g.ke ((wY _ v).drop (de g.qT).length);have hargs:∀k∈aS (g.args v),k<1000:=λk hk=>Nat.blt_eq.mp (all_eq_true.1 i3 k (zh g.qT _ k hk));have u9:∀p∈g.dp v,p.1<1000/\∀j∈eJ p.2,j<1000:=by intro p hp;have⟨op,g1,g2⟩:=s2 p hp;have hk:p.1∈g.ke.map (·.1):=mem_map.2 ⟨_,g1,rfl⟩;rw[i1]at hk;have:=List.mem_range.1 hk;exact⟨by omega,λj hj=>Nat.blt_eq.mp (all_eq_true.1 (all_eq_true.1 i4 _ g1) j (g2 j hj))⟩
 have hal:(g.args v).length=g.qT.length:=Ml _ _ _;have hkeys:(g.dp v).map (·.1)=List.range (g.dp v).length:=akN g v i1;have kf:∀k,iS (HN g v).obj k=vf (g.dp v) k:=by intro k;show iS (bW _ g.ke _) k=vf (dG (bW _ g.ke _)) k;rw[vS,Xv,<- vS]
 have YY:∀(l:List (Nat×b7 X))(n:Nat),l.map (·.1)=(List.range l.length).map (n+ ·)->∀k,vf l (n+k)=(l[k]?).map (·.2):=by
  intro l
  induction l with
  |nil=>intro n _ k;rfl
  |cons p l ih=>
   intro n hn k;rw[eD,List.range_succ_eq_map,bG,bG,map_map]at hn;injection hn with e1 e2;simp[vf];cases k with
   |zero=>rw[aU (by omega)];rfl
   |succ k=>
    rw[aP (by omega),show n+(k+1)=(n+1)+k by omega,ih (n+1) (by rw[e2];refine List.map_congr_left λa _=>?_;simp;omega) k];rfl
 have hlow:Low (HN g v):=by
  refine⟨by show 1000<=1000000;decide,aB _,λt k hk=>hargs k (abE t _ _ k hk),λk o ho=>?_⟩;rw[kf]at ho;have hmem:∀(l:List (Nat×b7 X)),vf l k=some o->(k,o)∈l:=by
   intro l
   induction l with
   |nil=>intro h;simp[vf]at h
   |cons p l ih=>
    intro h;simp[vf]at h;split at h;rename_i e;cases h;subst e;exact List.mem_cons_self;exact d9 _ (ih h)
  exact u9 _ (hmem _ ho)
 refine aa6 hT hfn hb hname (by rw[lT,hal];exact hN) (λ k hk=>hargs k (by rwa [iW]at hk)) (by rw[length_map,<- length_map (f:=Prod.fst),hkeys,List.length_range];have:=s1.length_le;rw[length_map,length_map]at this;exact Nat.le_trans this i2) ?_ ?_;intro o ho r' hr' x hx j hj;obtain⟨p,hp,rfl⟩:=mem_map.1 ho;exact(u9 p hp).2 j (Xj hr' hx j hj);have e:s8.st ⟨(List.range (bI (g.args v)).length).zip (bI (g.args v)),(List.range ((g.dp v).map λp=>bM p.2).length).zip ((g.dp v).map λp=>bM p.2)⟩=(HN g v).st:=by simp only[ek.st,s8.st,St.mk.injEq,and_true];refine⟨?_,?_⟩;funext t;simp[HN];rw[amG,lT,hal];funext k;rw[BF,kf,List.getElem?_map];have:=YY (g.dp v) 0 (by rw[hkeys];simp) k;rw[Nat.zero_add]at this;rw[this,Option.map_map];rfl
 rw[e];refine(lD hT hm hΓ c _ h _ _ r hlow hrun).mono ?_;rintro e σ ⟨s',hl',_,rfl,g4⟩;cases e<;>first |exact akO hl' g4 |cases g4
end
section
variable {P:Program} {f F:FuncId} {E:TypeId} {α:Type} {enc:α->Value} {d:α}
end
section
variable {X:SX}
end
section
variable {X:SX}
def Gs{α β:Type}(f:α->Option β):List α->Option (List β)
 |[]=>some []
 |x::xs=>(f x).bind λy=>(Gs f xs).bind λys=>some (y::ys)
def CM(dq:(i j:X.ι)->Decidable (i=j))(i:X.ι):CT X.ι->Option CS
 | .int k=>some (.int k)
 | .bool=>some .bool
 | .str=>some .str
 | .sl (.st j)=>match dq j i with
  | .isTrue _=>some .back
  | .isFalse _=>none
 |_=>none
def apB(dq:(i j:X.ι)->Decidable (i=j))(i:X.ι):Bool:=(X.ej i).any λc=>match c with
 | .sl (.st j)=>match dq j i with
  | .isTrue _=>true
  | .isFalse _=>false
 |_=>false
def aqV(dq:(i j:X.ι)->Decidable (i=j)):CT X.ι->Option (List CS)
 | .st i=>bif apB dq i then Gs (CM dq i) (X.ej i)else none
 |_=>none
theorem ap5(dq:(i j:X.ι)->Decidable (i=j)){i:X.ι}{row:List CS}(hm:Gs (CM dq i) (X.ej i)=some row){x:Tree}(h:Is row x):∃l:List (CT.T X.toSE (.st i)),x= .sl (l.map (CT.row X.toSE (.st i))):=by
 refine Is.rec (row:=row) (motive_1:=λx _=>∃l:List (CT.T X.toSE (.st i)),x= .sl (l.map (CT.row X.toSE (.st i)))) (motive_2:=λrows _=>∃l:List (CT.T X.toSE (.st i)),rows=l.map (CT.row X.toSE (.st i)))
  (motive_3:=λcs r _=>∀codes:List (CT X.ι),Gs (CM dq i) codes=some cs->∃h:HL X.toSE codes,r=HL.row X.toSE codes h) ?_ ?_ ?_ ?_ ?_ ?_ h
 rintro rows _ _ ⟨l,rfl⟩;exact⟨l,rfl⟩;exact⟨[],rfl⟩;rintro r rs _ _ h1 ⟨l,rfl⟩;obtain⟨q,rfl⟩:=h1 _ hm;exact⟨(X.make i q:X.T i)::l,by rw[bG];congr 1;exact(X.ik i q).symm⟩;intro codes hc;cases codes with
 |nil=>exact⟨(),rfl⟩
 |cons c codes=>
  simp only[Gs,ah]at hc;obtain⟨_,_,_,_,h⟩:=hc;cases h
 intro cs x xs _ _ h1 h2 codes hc;obtain⟨l,rfl⟩:=h1;cases codes with
 |nil=>simp[Gs]at hc
 |cons c codes=>
  simp only[Gs,ah]at hc;obtain⟨c',g1,cs',g2,g3⟩:=hc;injection g3 with g3;injection g3 with g4 g5;subst g4 g5;obtain⟨q,rfl⟩:=h2 _ g2
  match c,g1 with
  | .sl (.st j),g1=>
   simp[CM]at g1;split at g1;rename_i hj _;subst hj;exact⟨(l,q),rfl⟩;cases g1
  | .int _,g1 | .bool,g1 | .str,g1 | .any,g1 | .st _,g1 | .mp _ _,g1 | .sl (.int _),g1 | .sl .bool,g1 | .sl .str,g1 | .sl .any,g1 | .sl (.sl _),g1 | .sl (.mp _ _),g1=>simp[CM]at g1
 intro c' cs x xs hf _ h2 codes hc;cases codes with
 |nil=>simp[Gs]at hc
 |cons c codes=>
  simp only[Gs,ah]at hc;obtain⟨c2,g1,cs',g2,g3⟩:=hc;injection g3 with g3;injection g3 with g4 g5;subst g4 g5;obtain⟨q,rfl⟩:=h2 _ g2
  match c,g1 with
  | .int k,g1=>
   cases g1;obtain⟨n,rfl,_⟩:=hf;exact⟨(n,q),rfl⟩
  | .bool,g1=>
   cases g1;obtain⟨n,rfl⟩:=hf;exact⟨(n,q),rfl⟩
  | .str,g1=>
   cases g1;obtain⟨n,rfl,_⟩:=hf;exact⟨(n,q),rfl⟩
  | .sl (.st j),g1=>
   simp[CM]at g1;split at g1;cases g1;exact hf.elim;cases g1
  | .any,g1 | .st _,g1 | .mp _ _,g1 | .sl (.int _),g1 | .sl .bool,g1 | .sl .str,g1 | .sl .any,g1 | .sl (.sl _),g1 | .sl (.mp _ _),g1=>simp[CM]at g1
def wc:Nat->CT X.ι->Option (List CS)
 | 0,_=>none
 |_+1,.int k=>some [.int k]
 |_+1,.bool=>some [.bool]
 |_+1,.str=>some [.str]
 |_+1,.any=>some [.any]
 |_+1,.mp _ _=>none
 |n+1,.sl e=>match aqV X.dec e with
  |some row=>some [.mu row]
  |none=>(wc n e).bind λr=>some [.sl r]
 |n+1,.st i=>(Gs (wc n) (X.ej i)).bind λl=>some l.flatten
def ID(n:Nat)(c:CT X.ι):Option VS:=
 match c with
 | .st i=>(wc n (.st i:CT X.ι)).map .agg
 |c=>(wc n c).bind λl=>match l with
  |[x]=>some (.one x)
  |_=>none
theorem Ti:∀(a b:List CS)(ys:List Tree),ep (a++b) ys->∃ya yb,ys=ya++yb/\ep a ya/\ep b yb
 |[],b,ys,h=>⟨[],ys,rfl,trivial,h⟩
 |c::a,b,y::ys,h=>by obtain⟨ya,yb,rfl,h1,h2⟩:=Ti a b ys h.2;exact⟨y::ya,yb,rfl,⟨h.1,h1⟩,h2⟩
 |_::_,_,[],h=>h.elim
theorem ae7{c:CT X.ι}{cs:List CS}(h:∀ys,ep cs ys->∃x:CT.T X.toSE c,ys=CT.row X.toSE c x):∀rows:List (List Tree),(∀ r∈rows,ep cs r)->∃l:List (CT.T X.toSE c),rows=l.map (CT.row X.toSE c)
 |[],_=>⟨[],rfl⟩
 |r::rows,hr=>by obtain⟨x,hx⟩:=h r (hr r (by simp));obtain⟨l,hl⟩:=ae7 h rows λq hq=>hr q (d9 _ hq);exact⟨x::l,by rw[bG,<- hx,<- hl]⟩
theorem amH{f:CT X.ι->Option (List CS)}(hf:∀c cs,f c=some cs->∀ys,ep cs ys->∃x:CT.T X.toSE c,ys=CT.row X.toSE c x):∀(l:List (CT X.ι))(css:List (List CS)),Gs f l=some css->∀ys,ep css.flatten ys->∃h:HL X.toSE l,ys=HL.row X.toSE l h
 |[],css,h,ys,hy=>by
  simp[Gs]at h;subst h;cases ys with
  |nil=>exact⟨(),rfl⟩
  |cons y ys=>exact hy.elim
 |c::l,css,h,ys,hy=>by simp[Gs]at h;have⟨a,h1,h⟩:=ah.1 h;have⟨b,h2,h⟩:=ah.1 h;cases h;obtain⟨ya,yb,rfl,g1,g2⟩:=Ti _ _ _ hy;have⟨x,hx⟩:=hf c a h1 ya g1;have⟨q,hq⟩:=amH hf l b h2 yb g2;exact⟨(x,q),by rw[hx,hq];rfl⟩
theorem Vn:∀(n:Nat)(c:CT X.ι)(cs:List CS),wc n c=some cs->∀ys,ep cs ys->∃x:CT.T X.toSE c,ys=CT.row X.toSE c x
 | 0,_,_,h,_,_=>by cases h
 |n+1,.mp _ _,cs,h,ys,hy=>by simp[wc]at h
 |n+1,.int k,cs,h,ys,hy=>by
  simp[wc]at h;subst h
  match ys,hy with
  |[y],hy=>
   simp[ep]at hy;obtain⟨m,rfl,_⟩:=hy;exact⟨m,rfl⟩
  |[],hy=>exact hy.elim
  |_::_::_,hy=>exact hy.2.elim
 |n+1,.bool,cs,h,ys,hy=>by
  simp[wc]at h;subst h
  match ys,hy with
  |[y],hy=>
   simp only[ep,Fit,and_true]at hy;obtain⟨m,rfl⟩:=hy;exact⟨m,rfl⟩
  |[],hy=>exact hy.elim
  |_::_::_,hy=>exact hy.2.elim
 |n+1,.str,cs,h,ys,hy=>by
  simp[wc]at h;subst h
  match ys,hy with
  |[y],hy=>
   simp[ep]at hy;obtain⟨m,rfl,_⟩:=hy;exact⟨m,rfl⟩
  |[],hy=>exact hy.elim
  |_::_::_,hy=>exact hy.2.elim
 |n+1,.any,cs,h,ys,hy=>by
  simp[wc]at h;subst h
  match ys,hy with
  |[y],hy=>exact⟨y,rfl⟩
  |[],hy=>exact hy.elim
  |_::_::_,hy=>exact hy.2.elim
 |n+1,.sl e,cs,h,ys,hy=>by
  simp[wc]at h;split at h;rename_i row hm;cases h
  match ys,hy with
  |[y],hy=>
   simp[ep]at hy;cases e with
   |st i=>
    simp[aqV]at hm;cases hb:apB X.dec i with
    |false=>rw[hb]at hm;cases hm
    |true=>
     rw[hb]at hm;have⟨l,hl⟩:=ap5 X.dec hm hy;exact⟨l,by rw[hl];rfl⟩
   |_=>cases hm
  |[],hy=>exact hy.elim
  |_::_::_,hy=>exact hy.2.elim
  have⟨r,h1,h⟩:=ah.1 h;cases h
  match ys,hy with
  |[y],hy=>
   simp[ep]at hy;obtain⟨rows,rfl,_,hr⟩:=hy;have⟨l,hl⟩:=ae7 (Vn n e r h1) rows hr;exact⟨l,by rw[hl];rfl⟩
  |[],hy=>exact hy.elim
  |_::_::_,hy=>exact hy.2.elim
 |n+1,.st i,cs,h,ys,hy=>by simp[wc]at h;have⟨css,h1,h⟩:=ah.1 h;cases h;have⟨q,hq⟩:=amH (Vn n) (X.ej i) css h1 ys hy;exact⟨X.make i q,by rw[hq];exact(X.ik i q).symm⟩
theorem aoD{n:Nat}{c:CT X.ι}{s:VS}(h:ID n c=some s){x:TV}(hx:HJ s x):∃y:CT.T X.toSE c,x=CT.tv X.toSE c y:=by
 have one:∀c:CT X.ι,c.one=true->((wc n c).bind λl=>match l with
  |[x]=>some (VS.one x)
  |_=>none)=some s->∃y:CT.T X.toSE c,x=CT.tv X.toSE c y:=by intro c hc h;have⟨l,h1,h⟩:=ah.1 h;split at h;cases h;simp[HJ]at hx;obtain⟨t,rfl,ht⟩:=hx;obtain⟨y,hy⟩:=Vn n c _ h1 [t] ⟨ht,trivial⟩;obtain⟨t',e1,e2⟩:=row_one hc y;rw[e1]at hy;cases hy;exact⟨y,e2.symm⟩;cases h
 cases c
 case st i=>
  simp[ID]at h;obtain⟨cs,h1,rfl⟩:=h;simp[HJ]at hx;obtain⟨ys,rfl,hy⟩:=hx;obtain⟨y,hy⟩:=Vn n (.st i) _ h1 ys hy;exact⟨y,by rw[hy];rfl⟩
 all_goals exact one _ rfl h
theorem ae8(n:Nat):∀(cs:List (CT X.ι))(ss:List VS),Gs (ID n) cs=some ss->∀xs,Wx ss xs->∃h:HL X.toSE cs,xs=HL.oB X.toSE cs h
 |[],ss,h,xs,hx=>by
  simp[Gs]at h;subst h;cases xs with
  |nil=>exact⟨(),rfl⟩
  |cons x xs=>exact hx.elim
 |c::cs,ss,h,xs,hx=>by
  simp[Gs]at h;have⟨a,h1,h⟩:=ah.1 h;have⟨b,h2,h⟩:=ah.1 h;cases h;cases xs with
  |nil=>exact hx.elim
  |cons x xs=>
   obtain⟨y,rfl⟩:=aoD h1 hx.1;obtain⟨q,rfl⟩:=ae8 n cs b h2 xs hx.2;exact⟨(y,q),rfl⟩
theorem amI{P:Program}{f:FuncId}{n N:Nat}{cs:List (CT X.ι)}{ss:List VS}{fn:Nat->ja X (cs.map AT.d)->Option Bool}(hc:∀k,Hi P f ⟨cs.map AT.d,[.d .bool],fn k,none⟩)(hs:Gs (ID n) cs=some ss)(hl:∀q:HL X.toSE cs,Wx ss (HL.oB X.toSE cs q)->Wy (HL.oB X.toSE cs q)<=N->∃k,fn k (hlA cs q)=some true)(xs:List TV)(h:Wx ss xs)(hb:Wy xs<=N):
 sd P f (xs.map TV.av) (.one (.d (.s (.sc (.bool true))))):=by obtain⟨q,rfl⟩:=ae8 n cs ss hs xs h;have⟨k,hk⟩:=hl q h hb;have h1:=(hc k).2.1 (hlA cs q) true hk;have h2:=h1;rw[IA (acP cs)]at h2;have h3:ra P f (ze (cs.map AT.d) (hlA cs q)) [] [] (.one (.d (.s (.sc (.bool true))))):=h2;have h4:=oO h3;rw[ze,QB]at h4;exact h4
end
structure ix where
 env:List (Nat×AV)
 obj:List (Nat×Option aN)
 ok:List (Nat×Option Bool)
def ix.st(F:Nat->Option aN)(L:ix):St:=
 ⟨λ t=>(lk L.env t).getD .undef,λk=>match lk L.obj k with |some o=>o |none=>F k,λt=>(lk L.ok t).join⟩
def ix.app(L:ix)(dst:Option Tmp)(p:Out×Option Bool):ix:=
 match dst with
 |some d=>⟨(d,p.1.v)::L.env,p.1.upd++L.obj,(d,p.2)::L.ok⟩
 |none=>⟨L.env,p.1.upd++L.obj,L.ok⟩
theorem ix.Gk(F:Nat->Option aN)(L:ix)(dst:Option Tmp)(p:Out×Option Bool):(L.app dst p).st F=(L.st F).app dst p:=by
 have ho:∀(u:List (Nat×Option aN))(k:Nat),(match lk (u++L.obj) k with |some o=>o |none=>F k)=bV (λ k=>match lk L.obj k with |some o=>o |none=>F k) u k:=by
  intro u k
  induction u with
  |nil=>rfl
  |cons q u ih=>
   obtain⟨j,o⟩:=q;simp only[List.cons_append,lk,bV];by_cases h:j=k
   ·subst h;simp
   ·rw[aP h,aP (λ e=>h e.symm)];exact ih
 have he:∀{α:Type} (e:List (Nat×α)) (d:Nat) (v:α) (f:Option α->α) (t:Nat),f (some v)=v->f (lk ((d,v)::e) t)=y7 (λ t=>f (lk e t)) (some d) v t:=by
  intro α e d v f t hf;simp only[lk,y7,bL];by_cases h:d=t
  ·rw[aU h,aU h,hf]
  ·rw[aP h,aP h]
 cases dst with
 |none=>
  simp only[ix.app,ix.st,St.app];congr 1;exact funext λk=>ho _ k
 |some d=>
  simp only[ix.app,ix.st,St.app];congr 1
  ·exact funext λt=>he _ _ _ (λ o:Option AV=>o.getD AV.undef) t rfl
  ·exact funext λk=>ho _ k
  ·exact funext λt=>he L.ok d p.2 (λ o:Option (Option Bool)=>o.join) t rfl
section
variable (P:Program) (T:eR) (ag:Array Oper) (df:Nat->kw) (F:Nat->Option aN)
def oV:List Nat->ix->Option (ix×List Prop)
 |[],L=>some (L,[])
 |i::r,L=>(ag[i]?).bind λo=>(opAt P T ag df i (L.st F)).bind λout=>(oV r (L.app o.dst out)).bind λq=>some (q.1,out.1.obs++q.2)
end
theorem ae9:∀{a b:List Prop},iT (a++b)->iT a/\iT b
 |[],_,h=>⟨trivial,h⟩
 |p::a,b,h=>by
  cases a with
  |nil=>
   cases b with
   |nil=>exact⟨h,trivial⟩
   |cons q b=>exact⟨h.1,h.2⟩
  |cons q a=>
   obtain⟨h1,h2⟩:=h;have⟨h3,h4⟩:=ae9 (a:=q::a) h2;exact⟨⟨h1,h3⟩,h4⟩
theorem Mq{P:Program}{T:eR}{ag:Array Oper}{df:Nat->kw}{F:Nat->Option aN}{Q:St->Prop}:∀{l:List Nat}{L L':ix}{obs:List Prop},oV P T ag df F l L=some (L',obs)->iT obs->Q (L'.st F)->TS P T ag df Q l (L.st F)
 |[],L,L',obs,h,_,hq=>by simp only[oV,bL,Prod.mk.injEq]at h;obtain⟨rfl,rfl⟩:=h;exact hq
 |i::r,L,L',obs,h,ho,hq=>by simp only[oV,ah]at h;obtain⟨o,h1,out,h2,q,h3,h4⟩:=h;injection h4 with h4;injection h4 with h5 h6;subst h5 h6;have⟨o1,o2⟩:=ae9 ho;refine⟨o,out,h1,h2,o1,?_⟩;rw[<- ix.Gk];exact Mq h3 o2 hq
section
variable {P:Program} {T:eR} {N:Nat} {Q:Exit->St->Prop} {ag:Array Oper} {df:Nat->kw} {σ σ' σ2:St}
structure Told(σ' σ2:St):Prop where
 re:∃(f g:Nat->Nat)(D:Nat->Prop),(∀ k,D k->g (f k)=k)/\(∀ j,j<1000->g j=j)/\
  (∀ t,σ2.env t= .undef\/(σ'.ok t=none/\(∀ k∈refs (σ'.env t),D k)/\lE (il f (σ'.env t)) (σ2.env t)))/\
  (∀ j o',σ2.obj j=some o'->∃k o,σ'.obj k=some o/\D k/\f k=j/\o'.sz=o.sz/\io D f o.rows o'.rows)
 ok:∀t,σ2.ok t=none
 old:tG σ2
theorem Told.rel{w0:World}{O0:ld}{β:Nat->Option c9}{I:Nat->Prop}{a:Act}{w:World}(h:Told σ' σ2)(hr:Rel P w0 O0 N β I σ' a w):∃ β',Rel P w0 O0 N β' I σ2 a w:=by
 obtain⟨f,g,D,h1,h2,h3,h4⟩:=h.re;refine⟨_,Rel.re (f:=f) (g:=g) (D:=D) h1 h2 hr (λ t=>?_) h.ok (λ t=>?_) h4⟩
 ·rcases h3 t with e |e
  ·exact .inr e
  ·exact .inl e.1
 ·rcases h3 t with e |e
  ·exact .inl e
  ·exact .inr e.2
theorem sN(hT:fw P T){id:Nat}{F:Nat->Option aN}{L L':ix}{obs:List Prop}(hd:Qs N ag=true)(h:oV P T ag df F (List.range ag.size) L=some (L',obs))(dc:iT obs)(ht:Told (L'.st F) σ2)(hq:Q .normal σ2):
 Ev P N (.region id ag false) Q (L.st F):=by intro w0 O0 β I a w hr ho;refine wp_mono (aa4 (Q:=λσ=>σ=L'.st F) hT hd ho (Mq h dc rfl) hr) ?_;rintro e a' w' ⟨β',I',σ',h1,rfl,rfl⟩;have⟨β2,h2⟩:=ht.rel h1;exact⟨β2,I',σ2,h2,ht.old,hq⟩
theorem Xy(hT:fw P T)(hm:P.follows .mixedOrders=true){id:Nat}{F:Nat->Option aN}{L L':ix}{obs:List Prop}(hd:Qs N ag=true)(hB:Ws ag df=true)(h:oV P T ag df F (List.range ag.size) L=some (L',obs))(dc:iT obs)(ht:Told (L'.st F) σ2)(hq:Q .normal σ2):
 Ev P N (.region id ag true) Q (L.st F):=by intro w0 O0 β I a w hr ho;refine wp_mono (Ip (Q:=λσ=>σ=L'.st F) hT hm hd hB ho (Mq h dc rfl) hr) ?_;rintro e a' w' ⟨β',I',σ',h1,rfl,rfl⟩;have⟨β2,h2⟩:=ht.rel h1;exact⟨β2,I',σ2,h2,ht.old,hq⟩
end
mutual
theorem aoE{f:Nat->Nat}:∀x:AV,(∀ k∈refs x,f k=k)->il f x=x
 | .own k aa len,h=>by simp only[il];rw[h k (by simp[refs])]
 | .ptr k row aa,h=>by simp only[il];rw[h k (by simp[refs])]
 | .mp k,h=>by simp only[il];rw[h k (by simp[refs])]
 | .oz k len,h=>by simp only[il];rw[h k (by simp[refs])]
 | .agg cs,h=>by simp only[il];rw[IV cs (by simpa[refs]using h)]
 | .eI cs,h=>by simp only[il];rw[IV cs (by simpa[refs]using h)]
 | .fn F first caps,h=>by simp only[il];rw[IV first (λ k hk=>h k (by simp[refs,hk])),IV caps (λ k hk=>h k (by simp[refs,hk]))]
 | .t _,_=>rfl
 | .ff _ _,_=>rfl
 | .eE _,_=>rfl
 | .dE,_=>rfl
 | .ub,_=>rfl
 | .undef,_=>rfl
theorem IV{f:Nat->Nat}:∀l:List AV,(∀ k∈dD l,f k=k)->vN f l=l
 |[],_=>rfl
 |x::xs,h=>by simp only[vN];rw[aoE x (λ k hk=>h k (by simp[dD,hk])),IV xs (λ k hk=>h k (by simp[dD,hk]))]
end
theorem ajt{D:Nat->Prop}{f:Nat->Nat}:∀r:List AV,(∀ k∈dD r,D k)->nj D f r (vN f r)
 |[],_=>trivial
 |x::xs,h=>⟨⟨λ k hk=>h k (by simp[dD,hk]),lE.refl _⟩,ajt xs λk hk=>h k (by simp[dD,hk])⟩
theorem afa{D:Nat->Prop}{f:Nat->Nat}:∀rs:List (List AV),(∀ r∈rs,∀k∈dD r,D k)->io D f rs (rs.map (vN f))
 |[],_=>trivial
 |r::rs,h=>⟨ajt r (h r (by simp)),afa rs λq hq=>h q (by simp[hq])⟩
theorem aoF{L' L2:ix}{F F2:Nat->Option aN}(f g:Nat->Nat)(D:Nat->Prop)(h1:∀k,D k->g (f k)=k)(h2:∀j,j<1000->g j=j)
 (hE:∀p∈L2.env,(lk L'.ok p.1).join=none/\(∀ k∈refs ((lk L'.env p.1).getD .undef),D k)/\il f ((lk L'.env p.1).getD .undef)=p.2)
 (hO:∀j o',(L2.st F2).obj j=some o'->∃k o,(L'.st F).obj k=some o/\D k/\f k=j/\o'=CY f o/\∀r∈o.rows,∀k∈dD r,D k) (hok:L2.ok=[])
 (old:tG (L2.st F2)):Told (L'.st F) (L2.st F2):=by
 refine⟨⟨f,g,D,h1,h2,λt=>?_,λj o' hj=>?_⟩,λt=>by simp[ix.st,hok,lk],old⟩
 ·simp only[ix.st];cases h:lk L2.env t with
  |none=>exact .inl rfl
  |some x=>
   obtain⟨a1,a2,a3⟩:=hE _ (pR h);exact .inr ⟨a1,a2,by rw[a3];exact lE.refl _⟩
 ·obtain⟨k,o,e1,e2,e3,rfl,e5⟩:=hO j o' hj;exact⟨k,o,e1,e2,e3,rfl,afa _ e5⟩
section
variable {P:Program} {β:Nat->Option c9} {w:World} {I:Nat->Prop}
def ox(P:Program)(β:Nat->Option c9)(w:World)(I:Nat->Prop):List AV->List AV->Prop
 |[],[]=>True
 |x::xs,y::ys=>(∀ v,VR P β w I x v->VR P β w I y v)/\ox P β w I xs ys
 |_,_=>False
def nq(P:Program)(β:Nat->Option c9)(w:World)(I:Nat->Prop):List (List AV)->List (List AV)->Prop
 |[],[]=>True
 |r::rs,q::qs=>ox P β w I r q/\nq P β w I rs qs
 |_,_=>False
theorem ox.refl:∀r:List AV,ox P β w I r r
 |[]=>trivial
 |_::xs=>⟨λ _ h=>h,ox.refl xs⟩
theorem nq.app{q q':List AV}(h:ox P β w I q q'):∀R:List (List AV),nq P β w I (R++[q]) (R++[q'])
 |[]=>⟨h,trivial⟩
 |r::R=>⟨ox.refl r,nq.app h R⟩
theorem ox.row:∀{r q:List AV}{c:Array Value}{aa:Nat},ox P β w I r q->d8 P β w I r c aa->d8 P β w I q c aa
 |[],[],_,_,_,_=>trivial
 |_::_,_::_,_,_,h,⟨⟨v,h1,h2,h3⟩,h4⟩=>⟨⟨v,h1,h.1 v h2,h3⟩,ox.row h.2 h4⟩
 |[],_::_,_,_,h,_=>h.elim
 |_::_,[],_,_,h,_=>h.elim
theorem ox.length:∀{r q:List AV},ox P β w I r q->q.length=r.length
 |[],[],_=>rfl
 |_::_,_::_,h=>congrArg (· +1) (ox.length h.2)
 |[],_::_,h=>h.elim
 |_::_,[],h=>h.elim
theorem nq.rows:∀{rs qs:List (List AV)}{c:Array Value}{aa sz:Nat},nq P β w I rs qs->b9 P β w I rs c aa sz->b9 P β w I qs c aa sz
 |[],[],_,_,_,_,_=>trivial
 |_::_,_::_,_,_,_,h,⟨h1,h2,h3⟩=>⟨by rw[h.1.length];exact h1,h.1.row h2,h.2.rows h3⟩
 |[],_::_,_,_,_,h,_=>h.elim
 |_::_,[],_,_,_,h,_=>h.elim
theorem nq.length:∀{rs qs:List (List AV)},nq P β w I rs qs->qs.length=rs.length
 |[],[],_=>rfl
 |_::_,_::_,h=>congrArg (· +1) (nq.length h.2)
 |[],_::_,h=>h.elim
 |_::_,[],h=>h.elim
end
end Go.Gb
