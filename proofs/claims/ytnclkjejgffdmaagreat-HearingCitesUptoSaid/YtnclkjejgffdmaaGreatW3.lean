import Derived.Test.YtnclkjejgffdmaaGreatW2
open List (mem_map all_eq_true length_map append_nil map_map)
namespace Go.Gb
open Go.RowKit
structure Sh(ι:Type) where
 slots:List (Nat×Pt ι)
 de:List (Nat×OP ι)
 keep:List Nat
 d5:List Nat
 nx:Nat
 B6:List (Nat×CT ι)
def Sh.vars{ι:Type}(s:Sh ι):List (CT ι):=iz s.slots++d7 s.de
section
variable {X:SX}
def nz(z:Bool)(k:Nat):DV X:=bif z then .oz k 0 else .own k 0 0
def A3(z:Bool)(s:ea X)(t:Nat)(c:CT X.ι):ea X:=
 match fh s.env t with
 | .nil=>if s.nx<1000000 then⟨(t,nz z s.nx)::s.env,(s.nx,some (.ev c []))::s.obj,s.nx+1,s.nx::s.log⟩else s
 |_=>s
def Hv(s:ea X)(q j:Nat)(c:CT X.ι):ea X:=
 match il s.obj q with
 |some (.cells sz [row])=>match row[j]? with
  |some .nil=>if s.nx<1000000 then⟨s.env,(q,some (.cells sz [row.set j (.own s.nx 0 0)]))::(s.nx,some (.ev c []))::s.obj,s.nx+1,q::s.nx::s.log⟩else s
  |_=>s
 |_=>s
def Qf:List (Nat×CT X.ι)->ea X->ea X
 |[],s=>s
 |(t,c)::r,s=>Qf r (bif Nat.ble 1000000 t then bif Nat.ble 1099511627776 t then A3 true s (t -1099511627776) c else Hv s ((t -1000000)/4096) ((t -1000000)%4096) c else A3 false s t c)
def isU:DV X->Bool
 | .undef | .skip=>true
 |_=>false
def encS(sh:Sh X.ι)(s0:ea X)(v:VT (X:=X) sh.vars):ea X:=
 let L:=wF sh.vars v
 let n:=(iz sh.slots).length
 let ol:=λk=>(lk (lens sh.de (L.drop n)) k).getD 0
 ⟨Lr ol sh.slots (L.take n)++sh.keep.map (λ t=>(t,fh s0.env t)),bU ol sh.de (L.drop n)++sh.d5.map (λ k=>(k,il s0.obj k)),sh.nx,
  (List.range s0.nx).filter (λ k=>!sh.d5.contains k)++s0.log⟩
def okS(sh:Sh X.ι)(ds:List Nat)(s0 s':ea X)(m:MA X):Bool:=
 decide (m.nm.map (·.1)++sh.d5).Nodup&&decide (m.nm.map (·.2)++sh.d5).Nodup&&decide (sh.de.map (·.1)).Nodup&&m.nm.all (λ q=>(sh.de.map (·.1)).contains q.2&&decide (q.2<sh.nx)&&(decide (q.1=q.2) || decide (1000<=q.2)))&&
  sh.slots.all (λ p=>ds.contains p.1)&&sh.keep.all (λ t=>!ds.contains t&&!isU (fh s'.env t)&&(bm (fh s0.env t)).all λj=>sh.d5.contains j || m.nm.contains (j,j))&&
  sh.d5.all (λ k=>decide (k<s0.nx)&&!(s'.log.take (s'.log.length -s0.log.length)).contains k&&(il s'.obj k).isSome&&match il s0.obj k with |some o=>(eo o).all λj=>sh.d5.contains j || m.nm.contains (j,j) |none=>false)&&
  decide (s0.nx<=sh.nx)&&decide (sh.nx<=1000000)
def SZ{A:Type}(sh:Sh X.ι)(ds:List Nat)(s0 s':ea X)(k:VT (X:=X) sh.vars->Option A):Option A:=
 (HZ (il s'.obj) (fh s'.env) sh.slots ⟨[],[],[]⟩).bind λm=>(CG (il s'.obj) sh.de m).bind λm=>bif okS sh ds s0 s' m then(Gk sh.vars m.eS).bind λv=>V5 m.j0 (k v)else none
def tF{A:Type}(sh:Sh X.ι)(ds:List Nat)(s0 s':ea X)(k:VT (X:=X) sh.vars->Option A):Option A:=
 bif sh.B6.all (λ p=>bif Nat.ble 1000000 p.1 then !Nat.ble 1099511627776 p.1 || ds.contains (p.1 -1099511627776)else ds.contains p.1)then SZ sh ds s0 (Qf sh.B6 s') k else none
end
section
variable {X:SX}
theorem aa3{d:DV X}{c:CT X.ι}{x:CT.T X.toSE c}(h:Ll d c=some x):bm d=[]:=by
 cases d
 case c=>rfl
 case nil=>rfl
 all_goals cases c<;>cases h
theorem Sk:∀{ds:List (DV X)}{l:List (CT X.ι)}{h:HL X.toSE l},Eg ds l=some h->aO ds=[]
 |[],[],_,_=>rfl
 |d::ds,c::l,h,hr=>by simp[Eg]at hr;have⟨x,h1,hr⟩:=ah.1 hr;have⟨g,h2,hr⟩:=ah.1 hr;simp[aO,aa3 h1,Sk h2]
 |[],_::_,_,hr |_::_,[],_,hr=>by simp[Eg]at hr
theorem anQ{d:DV X}{c:CT X.ι}{x:CT.T X.toSE c}(h:dat d c=some x):lj (den d) (den (.c c x:DV X))/\bm d=[]:=by
 cases c
 case st i=>
  replace h:GB d i=some x:=h
  cases d
  case agg cs=>
   simp[GB]at h;have⟨g,h1,h⟩:=ah.1 h;cases h;refine⟨λ P β w I v hv=>?_,by simp[bm,Sk h1]⟩;have h2:=(yH h1 (X.flat i)).1;simp[den]at hv;obtain⟨vs,rfl,hv⟩:=hv;show VR P β w I (.agg ((X.row i (X.make i g)).map AV.t)) _;have h3:(X.row i (X.make i g)).map AV.t=(bG cs).map Gb.wk:=(by rw[h2];exact congrArg _ (X.gE i g));rw[h3];simp only[VR];exact⟨vs,rfl,be.wk _ _ hv⟩
  case c a y=>
   rw[(oV h).1];exact⟨lj.refl _,rfl⟩
  all_goals cases h
 all_goals
  have h1:=wD h;refine⟨λ P β w I v hv=>?_,aa3 h⟩;simp[den];rw[<- h1];exact hv.wk
def ia(m m':MA X):Prop:=(∀ q∈m.nm,q∈m'.nm)/\(∀ c∈m.j0,c∈m'.j0)
theorem ia.refl(m:MA X):ia m m:=⟨λ _ h=>h,λ_ h=>h⟩
theorem ia.trans{a b c:MA X}(h:ia a b)(h':ia b c):ia a c:=⟨λ q hq=>h'.1 q (h.1 q hq),λq hq=>h'.2 q (h.2 q hq)⟩
theorem eO(m:MA X)(k' k:Nat):(addN m k' k).eS=m.eS/\(addN m k' k).j0=m.j0:=by grind [addN]
theorem oG(m:MA X)(k' k:Nat):(k',k)∈(addN m k' k).nm:=by grind [addN]
theorem qi(m:MA X)(k' k:Nat):ia m (addN m k' k):=by unfold addN;split;exact ia.refl m;exact⟨λ q hq=>by simp[hq],λ_ h=>h⟩
variable {get:Nat->Option (bp X)}
mutual
theorem aiP:∀(p:Pt X.ι)(d:DV X)(m m':MA X),mP get p d m=some m'->ia m m'/\∃al,m'.eS=m.eS++al/\al.length=p.vars.length
 | .v c,d,m,m',h=>by simp[mP]at h;rw[ah]at h;obtain⟨x,h1,h⟩:=h;cases h;exact⟨⟨λ _ h=>h,λ_ h=>h⟩,[⟨c,x⟩],rfl,rfl⟩
 | .o k,d,m,m',h=>by simp[mP]at h;split at h;rename_i k' len;have⟨o,h1,h⟩:=ah.1 h;split at h;cases h;refine⟨ia.trans (b:=⟨m.nm,m.eS,m.j0++_⟩) ⟨λ _ h=>h,λ_ h=>by simp[h]⟩ (qi _ _ _),[],by rw[(eO _ _ _).1];simp,rfl⟩;cases h;cases h
 | .oz k,d,m,m',h=>by simp[mP]at h;split at h;have⟨o,h1,h⟩:=ah.1 h;split at h;cases h;refine⟨ia.trans (b:=⟨m.nm,m.eS,m.j0++_⟩) ⟨λ _ h=>h,λ_ h=>by simp[h]⟩ (qi _ _ _),[],by rw[(eO _ _ _).1];simp,rfl⟩;cases h;have⟨o,h1,h⟩:=ah.1 h;split at h;cases h;refine⟨ia.trans (b:=⟨m.nm,m.eS,m.j0++_⟩) ⟨λ _ h=>h,λ_ h=>by simp[h]⟩ (qi _ _ _),[],by rw[(eO _ _ _).1];simp,rfl⟩;cases h;cases h
 | .p k,d,m,m',h=>by simp[mP]at h;split at h;cases h;exact⟨qi _ _ _,[],by rw[(eO _ _ _).1];simp,rfl⟩;cases h
 | .mp k,d,m,m',h=>by simp[mP]at h;split at h;cases h;exact⟨qi _ _ _,[],by rw[(eO _ _ _).1];simp,rfl⟩;cases h
 | .nil,d,m,m',h=>by simp[mP]at h;split at h;cases h;exact⟨ia.refl _,[],by simp,rfl⟩;cases h
 | .f F fs cs,d,m,m',h=>by simp[mP]at h;split at h;split at h;rw[ah]at h;obtain⟨m1,h1,h⟩:=h;obtain⟨a1,n1,b1,c1⟩:=yO fs _ m m1 h1;obtain⟨a2,n2,b2,c2⟩:=yO cs _ m1 m' h;exact⟨a1.trans a2,n1++n2,by rw[b2,b1,aQ],by simp[Pt.vars,c1,c2]⟩;cases h;cases h
 | .od k,d,m,m',h=>by simp[mP]at h;split at h;rename_i k' aa len;have⟨o,h1,h⟩:=ah.1 h;split at h;cases h;refine⟨ia.trans (b:=⟨m.nm,m.eS++[⟨.int .i64,(aa:Int)⟩],m.j0++_⟩) ⟨λ _ h=>h,λ_ h=>by simp[h]⟩ (qi _ _ _),[⟨.int .i64,(aa:Int)⟩],by rw[(eO _ _ _).1],rfl⟩;cases h;cases h
 | .a ps,d,m,m',h=>by simp[mP]at h;split at h;exact yO ps _ m m' h;cases h
theorem yO:∀(ps:List (Pt X.ι))(ds:List (DV X))(m m':MA X),t6 get ps ds m=some m'->ia m m'/\∃al,m'.eS=m.eS++al/\al.length=(c9 ps).length
 |[],[],m,m',h=>by simp[t6]at h;subst h;exact⟨ia.refl _,[],by simp,rfl⟩
 |p::ps,d::ds,m,m',h=>by simp[t6]at h;have⟨m1,h1,h⟩:=ah.1 h;have⟨a1,n1,b1,c1⟩:=aiP p d m m1 h1;have⟨a2,n2,b2,c2⟩:=yO ps ds m1 m' h;exact⟨a1.trans a2,n1++n2,by rw[b2,b1,aQ],by simp[c9,c1,c2]⟩
 |[],_::_,m,m',h |_::_,[],m,m',h=>by simp[t6]at h
end
theorem yP:∀(rs:List (List (Pt X.ι)))(qs:List (List (DV X)))(m m':MA X),KZ get rs qs m=some m'->ia m m'/\∃al,m'.eS=m.eS++al/\al.length=(wE rs).length
 |[],[],m,m',h=>by simp[KZ]at h;subst h;exact⟨ia.refl _,[],by simp,rfl⟩
 |r::rs,q::qs,m,m',h=>by simp[KZ]at h;have⟨m1,h1,h⟩:=ah.1 h;have⟨a1,n1,b1,c1⟩:=yO r q m m1 h1;have⟨a2,n2,b2,c2⟩:=yP rs qs m1 m' h;exact⟨a1.trans a2,n1++n2,by rw[b2,b1,aQ],by simp[wE,c1,c2]⟩
 |[],_::_,m,m',h |_::_,[],m,m',h=>by simp[KZ]at h
section
variable {NM:List (Nat×Nat)} {f:Nat->Nat} {ef:Nat->Nat}
def DN(NM:List (Nat×Nat))(j:Nat):Prop:=∃k,(j,k)∈NM
def SN(NM:List (Nat×Nat))(j:Nat):Prop:=∃k,(k,j)∈NM
theorem Ns{D:Nat->Prop}{f:Nat->Nat}{P:Program}{β:Nat->Option cW}{w:World}{I:Nat->Prop}:∀{a b:List AV}(_:m5 D f a b)(u:List Value),be P β w I (vv f a) u->be P β w I b u
 |[],[],_,u,hu=>hu
 |[],_::_,hr,_,_ |_::_,[],hr,_,_=>hr.elim
 |y::ys,z::zs,hr,[],hu=>by simp[vv,be]at hu
 |y::ys,z::zs,hr,v::vs,hu=>by exact⟨hr.1.2 _ _ _ _ _ hu.1,Ns hr.2 vs hu.2⟩
mutual
theorem aes(hf:∀q∈NM,f q.1=q.2)(ho:∀q∈NM,∀c l,get q.1=some (.ev c l)->ef q.2=l.length):∀(p:Pt X.ι)(d:DV X)(m m':MA X),mP get p d m=some m'->(∀ q∈m'.nm,q∈NM)->(∀ c∈m'.j0,c=true)->
 ∃al,m'.eS=m.eS++al/\∃d',(∀ ae,eP ef p (al++ae)=(d',ae))/\lj (gO f (den d)) (den d')/\(∀ j∈bm d,DN NM j)/\(∀ j∈bm d',SN NM j)
 | .v c,d,m,m',h,_,_=>by simp[mP]at h;rw[ah]at h;obtain⟨x,h1,h⟩:=h;cases h;have⟨h2,h3⟩:=anQ h1;refine⟨[⟨c,x⟩],rfl,.c c x,λae=>rfl,?_,by simp[h3],by simp[bm]⟩;rw[<- Af,WN d (by simp[h3])];exact h2
 | .o k,d,m,m',h,hn,hc=>by
  simp[mP]at h;split at h;rename_i k' len;rw[ah]at h;obtain⟨o,h1,h⟩:=h;split at h;rename_i c l;cases h;have hq:(k',k)∈NM:=hn _ (oG _ _ _);have he:len=l.length:=by have:=hc (az len l.length) (by rw[(eO _ _ _).2];simp);simpa[az]using this
  refine⟨[],by rw[(eO _ _ _).1];simp,.own k 0 (ef k),λae=>rfl,?_,?_,?_⟩;simp[den,gO];rw[hf _ hq,ho _ hq c l h1,he];exact lj.refl _;intro j hj;simp[bm]at hj;subst hj;exact⟨k,hq⟩;intro j hj;simp[bm]at hj;subst hj;exact⟨k',hq⟩;cases h;cases h
 | .oz k,d,m,m',h,hn,hc=>by
  simp[mP]at h;split at h;rename_i k' len;rw[ah]at h;obtain⟨o,h1,h⟩:=h;split at h;rename_i c l;cases h;have hq:(k',k)∈NM:=hn _ (oG _ _ _);have he:len≠0/\len=l.length:=by have:=hc (!(len==0)&&az len l.length) (by rw[(eO _ _ _).2];simp);simpa[az]using this
  refine⟨[],by rw[(eO _ _ _).1];simp,.oz k (ef k),λae=>rfl,?_,λj hj=>?_,λj hj=>?_⟩;simp[den,gO];rw[hf _ hq,ho _ hq c l h1,<- he.2];intro P β w I v hv;simp only[VR]at hv ⊢;exact .inr ⟨he.1,hv.resolve_left λh=>he.1 h.2.2.2⟩;simp[bm]at hj;subst hj;exact⟨k,hq⟩;simp[bm]at hj;subst hj;exact⟨k',hq⟩;cases h;rename_i k' len;rw[ah]at h;obtain⟨o,h1,h⟩:=h;split at h;rename_i c l;cases h;have hq:(k',k)∈NM:=hn _ (oG _ _ _);have he:len=l.length:=by have:=hc (az len l.length) (by rw[(eO _ _ _).2];simp);simpa[az]using this
  refine⟨[],by rw[(eO _ _ _).1];simp,.oz k (ef k),λae=>rfl,?_,λj hj=>?_,λj hj=>?_⟩;simp[den,gO];rw[hf _ hq,ho _ hq c l h1,he];exact lj.refl _;simp[bm,bq]at hj;subst hj;exact⟨k,hq⟩;simp[bm,bq]at hj;subst hj;exact⟨k',hq⟩;cases h;cases h
 | .p k,d,m,m',h,hn,hc=>by simp[mP]at h;split at h;rename_i k';cases h;have hq:(k',k)∈NM:=hn _ (oG _ _ _);refine⟨[],by rw[(eO _ _ _).1];simp,.ptr k 0 0,λae=>rfl,?_,?_,?_⟩;simp[den,gO];rw[hf _ hq];exact lj.refl _;intro j hj;simp[bm,bq]at hj;subst hj;exact⟨k,hq⟩;intro j hj;simp[bm,bq]at hj;subst hj;exact⟨k',hq⟩;cases h
 | .mp k,d,m,m',h,hn,hc=>by simp[mP]at h;split at h;rename_i k';cases h;have hq:(k',k)∈NM:=hn _ (oG _ _ _);refine⟨[],by rw[(eO _ _ _).1];simp,.mp k,λae=>rfl,?_,?_,?_⟩;simp[den,gO];rw[hf _ hq];exact lj.refl _;intro j hj;simp[bm,bq]at hj;subst hj;exact⟨k,hq⟩;intro j hj;simp[bm,bq]at hj;subst hj;exact⟨k',hq⟩;cases h
 | .nil,d,m,m',h,_,_=>by simp[mP]at h;split at h;cases h;exact⟨[],by simp,.nil,λae=>rfl,lj.refl _,by simp[bm],by simp[bm]⟩;cases h
 | .f F fs cs,d,m,m',h,hn,hc=>by
  simp[mP]at h;split at h;rename_i F' first caps
  split at h;rename_i e;subst e;rw[ah]at h;obtain⟨m1,h1,h⟩:=h;have hm:=(yO cs _ m1 m' h).1;obtain⟨n1,a1,f',b1,c1,e1,g1⟩:=CR hf ho fs _ m m1 h1 (λ q hq=>hn q (hm.1 q hq)) (λ q hq=>hc q (hm.2 q hq));obtain⟨n2,a2,c',b2,c2,e2,g2⟩:=CR hf ho cs _ m1 m' h hn hc;refine⟨n1++n2,by rw[a2,a1,aQ],.fn F f' c',λae=>by simp[eP,aQ,b1,b2],?_,?_,?_⟩;intro P β w I v hv;simp[den,gO,VR]at hv ⊢;obtain⟨us,vs,rfl,hu,hv⟩:=hv;exact⟨us,vs,rfl,Ns c1 _ hu,Ns c2 _ hv⟩;intro j hj;simp[bm,bM]at hj;exact hj.elim (e1 j) (e2 j);intro j hj;simp[bm,bM]at hj;exact hj.elim (g1 j) (g2 j);cases h;cases h
 | .od k,d,m,m',h,hn,hc=>by
  simp[mP]at h;split at h;rename_i k' aa len;rw[ah]at h;obtain⟨o,h1,h⟩:=h;split at h;rename_i c l;cases h;have hq:(k',k)∈NM:=hn _ (oG _ _ _);have he:aa+len=l.length:=by have:=hc (az (aa+len) l.length) (by rw[(eO _ _ _).2];simp);simpa[az]using this
  refine⟨[⟨.int .i64,(aa:Int)⟩],by rw[(eO _ _ _).1],.own k aa (ef k -aa),λae=>?_,?_,?_,?_⟩;simp only[eP,List.cons_append,fI];have:HK (X:=X) ⟨.int .i64,(aa:Int)⟩=aa:=by simp[HK];rw[Wo];simp
  rw[this];simp[den,gO];rw[hf _ hq,ho _ hq c l h1,show l.length -aa=len by omega];exact lj.refl _;intro j hj;simp[bm,bq]at hj;subst hj;exact⟨k,hq⟩;intro j hj;simp[bm,bq]at hj;subst hj;exact⟨k',hq⟩;cases h;cases h
 | .a ps,d,m,m',h,hn,hc=>by simp[mP]at h;split at h;rename_i ds;have⟨al,h1,ds',h2,h3,h4,h5⟩:=CR hf ho ps ds m m' h hn hc;refine⟨al,h1,.agg ds',λae=>by simp[eP,h2],?_,by simpa[bm]using h4,by simpa[bm]using h5⟩;intro P β w I v hv;simp[den,gO,VR]at hv ⊢;obtain⟨vs,rfl,hv⟩:=hv;refine⟨vs,rfl,?_⟩;exact Ns h3 _ hv;cases h
theorem CR(hf:∀q∈NM,f q.1=q.2)(ho:∀q∈NM,∀c l,get q.1=some (.ev c l)->ef q.2=l.length):∀(ps:List (Pt X.ι))(ds:List (DV X))(m m':MA X),t6 get ps ds m=some m'->(∀ q∈m'.nm,q∈NM)->(∀ c∈m'.j0,c=true)->
 ∃al,m'.eS=m.eS++al/\∃ds',(∀ ae,l4 ef ps (al++ae)=(ds',ae))/\m5 (DN NM) f (bG ds) (bG ds')/\(∀ j∈aO ds,DN NM j)/\(∀ j∈aO ds',SN NM j)
 |[],[],m,m',h,_,_=>by simp[t6,bJ]at h;subst h;exact⟨[],by simp,[],λae=>rfl,trivial,by simp[aO],by simp[aO]⟩
 |p::ps,d::ds,m,m',h,hn,hc=>by simp[t6]at h;have⟨m1,h1,h⟩:=ah.1 h;have hm:=(yO ps ds m1 m' h).1;obtain⟨n1,a1,d',b1,c1,e1,g1⟩:=aes hf ho p d m m1 h1 (λ q hq=>hn q (hm.1 q hq)) (λ q hq=>hc q (hm.2 q hq));have⟨n2,a2,ds',b2,c2,e2,g2⟩:=CR hf ho ps ds m1 m' h hn hc;refine⟨n1++n2,by rw[a2,a1,aQ],d'::ds',λae=>?_,⟨⟨λ k hk=>e1 k (by rwa [iQ]at hk),c1⟩,c2⟩,?_,?_⟩;simp[l4,aQ,b1,b2];intro j hj;simp[aO,bM]at hj;exact hj.elim (e1 j) (e2 j);intro j hj;simp[aO,bM]at hj;exact hj.elim (g1 j) (g2 j)
 |[],_::_,m,m',h,_,_=>by simp[t6]at h
 |_::_,[],m,m',h,_,_=>by simp[t6]at h
end
theorem Sl(hf:∀q∈NM,f q.1=q.2)(ho:∀q∈NM,∀c l,get q.1=some (.ev c l)->ef q.2=l.length):∀(rs:List (List (Pt X.ι)))(qs:List (List (DV X)))(m m':MA X),KZ get rs qs m=some m'->(∀ q∈m'.nm,q∈NM)->(∀ c∈m'.j0,c=true)->
 ∃al,m'.eS=m.eS++al/\∃G3,(∀ ae,wG ef rs (al++ae)=(G3,ae))/\gS (DN NM) f (qs.map bG) (G3.map bG)/\(∀ j∈(qs.map aO).flatten,DN NM j)/\(∀ j∈(G3.map aO).flatten,SN NM j)
 |[],[],m,m',h,_,_=>by simp[KZ]at h;subst h;exact⟨[],by simp,[],λae=>rfl,trivial,by simp,by simp⟩
 |r::rs,q::qs,m,m',h,hn,hc=>by
  simp[KZ]at h;have⟨m1,h1,h⟩:=ah.1 h;have hm:=(yP rs qs m1 m' h).1;obtain⟨n1,a1,d',b1,c1,e1,g1⟩:=CR hf ho r q m m1 h1 (λ q hq=>hn q (hm.1 q hq)) (λ q hq=>hc q (hm.2 q hq));have⟨n2,a2,ds',b2,c2,e2,g2⟩:=Sl hf ho rs qs m1 m' h hn hc;refine⟨n1++n2,by rw[a2,a1,aQ],d'::ds',λae=>?_,⟨c1,c2⟩,?_,?_⟩;simp[wG]
  all_goals grind
 |[],_::_,m,m',h,_,_ |_::_,[],m,m',h,_,_=>by simp[KZ]at h
end
end
section
variable {X:SX} {get:Nat->Option (bp X)} {env:Nat->DV X}
theorem H9:∀(sl:List (Nat×Pt X.ι))(m m':MA X),HZ get env sl m=some m'->ia m m'/\∃al,m'.eS=m.eS++al/\al.length=(iz sl).length
 |[],m,m',h=>by simp[HZ]at h;subst h;exact⟨ia.refl _,[],by simp,rfl⟩
 |(t,p)::r,m,m',h=>by simp[HZ]at h;rw[ah]at h;obtain⟨m1,h1,h⟩:=h;obtain⟨a1,n1,b1,c1⟩:=aiP p _ m m1 h1;have⟨a2,n2,b2,c2⟩:=H9 r m1 m' h;exact⟨a1.trans a2,n1++n2,by rw[b2,b1,aQ],by simp[iz,c1,c2]⟩
theorem mJ:∀(os:List (Nat×OP X.ι))(m m':MA X),CG get os m=some m'->ia m m'/\∃al,m'.eS=m.eS++al/\al.length=(d7 os).length
 |[],m,m',h=>by simp[CG]at h;subst h;exact⟨ia.refl _,[],by simp,rfl⟩
 |(k,op)::r,m,m',h=>by simp[CG]at h;rw[ah]at h;obtain⟨o,h1,h⟩:=h;split at h;rename_i c c' l;rw[ah]at h;obtain⟨l',h2,h⟩:=h;obtain⟨a2,n2,b2,c2⟩:=mJ r _ m' h;refine⟨ia.trans (ia.trans (b:=⟨m.nm,m.eS++[⟨.sl c,l'⟩],m.j0⟩) ⟨λ _ h=>h,λ_ h=>h⟩ (qi _ _ _)) a2,[⟨.sl c,l'⟩]++n2,?_,by simp[d7,c2]⟩;rw[b2,(eO _ _ _).1,aQ];rename_i kc vc u9 uu l;rw[ah]at h;obtain⟨l',h2,h⟩:=h;obtain⟨a2,n2,b2,c2⟩:=mJ r _ m' h;refine⟨ia.trans (ia.trans (b:=⟨m.nm,m.eS++[⟨.mp kc vc,l'⟩],m.j0⟩) ⟨λ _ h=>h,λ_ h=>h⟩ (qi _ _ _)) a2,[⟨.mp kc vc,l'⟩]++n2,?_,by simp[d7,c2]⟩;rw[b2,(eO _ _ _).1,aQ];rename_i sz rows sz' rows';split at h;rw[ah]at h;obtain⟨m1,h2,h⟩:=h;obtain⟨a1,n1,b1,c1⟩:=yP rows _ _ m1 h2;have⟨a2,n2,b2,c2⟩:=mJ r m1 m' h;refine⟨((qi m _ _).trans a1).trans a2,n1++n2,?_,by simp[d7,c1,c2]⟩;rw[b2,b1,(eO _ _ _).1,aQ];cases h;cases h
variable {NM:List (Nat×Nat)} {f:Nat->Nat} {ef:Nat->Nat}
theorem En:∀(os:List (Nat×OP X.ι))(m m':MA X),CG get os m=some m'->(∀ q∈m'.nm,q∈NM)->∃al,m'.eS=m.eS++al/\∀ae,∀k∈os.map (·.1),∃k' o,(k',k)∈NM/\get k'=some o/\∀c l,o= .ev c l->(k,List.length l)∈lens os (al++ae)
 |[],m,m',h,_=>by simp[CG]at h;subst h;exact⟨[],by simp,λae k hk=>by simp at hk⟩
 |(k,op)::r,m,m',h,hn=>by
  simp[CG]at h;rw[ah]at h;obtain⟨o,h1,h⟩:=h;split at h;rename_i c c' l;rw[ah]at h;obtain⟨l',h2,h⟩:=h;have hm:=(mJ r _ m' h).1;obtain⟨n2,b2,c2⟩:=En r _ m' h hn;refine⟨[⟨.sl c,l'⟩]++n2,by rw[b2,(eO _ _ _).1,aQ],λae j hj=>?_⟩;simp only[bE,aH]at hj;by_cases hjk:j=k;subst hjk;refine⟨_,_,hn _ (hm.1 _ (oG _ _ _)),h1,λc2 l2 he=>?_⟩;injection he with e1 e2;subst e1;subst e2;have:=congrArg List.length (ji h2).2;simp at this;rw[this];exact List.mem_cons_self;rcases hj with rfl |hj;exact(hjk rfl).elim;have⟨k',o',g1,g2,g3⟩:=c2 ae j hj;exact⟨k',o',g1,g2,λc l he=>dS _ (g3 c l he)⟩;rename_i kc vc u9 uu l;rw[ah]at h;obtain⟨l',h2,h⟩:=h;have hm:=(mJ r _ m' h).1;obtain⟨n2,b2,c2⟩:=En r _ m' h hn;refine⟨[⟨.mp kc vc,l'⟩]++n2,by rw[b2,(eO _ _ _).1,aQ],λae j hj=>?_⟩;simp only[bE,aH]at hj;by_cases hjk:j=k;subst hjk;exact⟨_,_,hn _ (hm.1 _ (oG _ _ _)),h1,λc2 l2 he=>by cases he⟩;rcases hj with rfl |hj;exact(hjk rfl).elim;exact c2 ae j hj;rename_i sz rows sz' rows';split at h;have⟨m1,h2,h⟩:=ah.1 h;obtain⟨a1,n1,b1,c1⟩:=yP rows _ _ m1 h2;have hm:=(mJ r _ m' h).1;obtain⟨n2,b2,c2⟩:=En r _ m' h hn;refine⟨n1++n2,by rw[b2,b1,(eO _ _ _).1,aQ],λae j hj=>?_⟩;simp only[bE,aH]at hj;have hd:(n1++n2++ae).drop (wE rows).length=n2++ae:=by rw[<- c1,aQ,List.drop_left]
  simp only[lens,hd];by_cases hjk:j=k;subst hjk;exact⟨_,_,hn _ (hm.1 _ (a1.1 _ (oG _ _ _))),h1,λc2 l2 he=>by cases he⟩;rcases hj with rfl |hj;exact(hjk rfl).elim;exact c2 ae j hj;cases h;cases h
theorem Qg:∀(os:List (Nat×OP X.ι))(L:List (DC X)),((lens os L).map (·.1)).Sublist (os.map (·.1))
 |[],_=>by simp[lens]
 |(k,.l c)::r,L=>by simp[lens];split;exact(Qg r _).cons_cons _;exact List.nil_sublist _
 |(k,.m kc vc)::r,L |(k,.c sz rows)::r,L=>(Qg r _).cons _
theorem Nt(hf:∀q∈NM,f q.1=q.2)(ho:∀q∈NM,∀c l,get q.1=some (.ev c l)->ef q.2=l.length):∀(sl:List (Nat×Pt X.ι))(m m':MA X),HZ get env sl m=some m'->(∀ q∈m'.nm,q∈NM)->(∀ c∈m'.j0,c=true)->
 ∃al,m'.eS=m.eS++al/\∃es,(∀ ae,Lr ef sl (al++ae)=es)/\(∀ p∈es,p.1∈sl.map (·.1)/\lj (gO f (den (env p.1))) (den p.2)/\(∀ j∈bm (env p.1),DN NM j)/\(∀ j∈bm p.2,SN NM j))
 |[],m,m',h,_,_=>by simp[HZ]at h;subst h;exact⟨[],by simp,[],λae=>rfl,by simp⟩
 |(t,p)::r,m,m',h,hn,hc=>by
  simp[HZ]at h;have⟨m1,h1,h⟩:=ah.1 h;have hm:=(H9 r m1 m' h).1;obtain⟨n1,a1,d',b1,c1,e1,g1⟩:=aes hf ho p _ m m1 h1 (λ q hq=>hn q (hm.1 q hq)) (λ q hq=>hc q (hm.2 q hq));have⟨n2,a2,es,b2,c2⟩:=Nt hf ho r m1 m' h hn hc;refine⟨n1++n2,by rw[a2,a1,aQ],(t,d')::es,λae=>by simp[Lr,b1,b2],λq hq=>?_⟩
  all_goals grind
theorem aa4{D:Nat->Prop}(f:Nat->Nat):∀rows:List (List Tree),gS D f (aI rows) (aI rows)
 |[]=>trivial
 |r::rs=>by
  refine⟨?_,aa4 f rs⟩
  induction r with
  |nil=>trivial
  |cons y ys ih=>exact⟨⟨by simp[refs],lj.refl _⟩,ih⟩
theorem aa5{a b c d:CT X.ι}{l:List (CT.T X.toSE a×CT.T X.toSE b)}{l':List (CT.T X.toSE c×CT.T X.toSE d)}(h:kU (.mp a b) (.mp c d) l=some l'):bI (.map c d l':bp X)=bI (.map a b l):=by
 obtain⟨e,h⟩:=rR h
 grind
theorem aa6{D:Nat->Prop}(f:Nat->Nat){kc vc:CT X.ι}:∀l:List (CT.T X.toSE kc×CT.T X.toSE vc),gS D f (bI (.map kc vc l:bp X)).rows (bI (.map kc vc l:bp X)).rows
 |[]=>trivial
 |p::ps=>⟨⟨⟨by simp[Ad],by rw[Wx];exact lj.refl _⟩,⟨by simp[Ad],by rw[Wx];exact lj.refl _⟩,trivial⟩,aa6 f ps⟩
theorem Ah(hf:∀q∈NM,f q.1=q.2)(ho:∀q∈NM,∀c l,get q.1=some (.ev c l)->ef q.2=l.length):∀(os:List (Nat×OP X.ι))(m m':MA X),CG get os m=some m'->(∀ q∈m'.nm,q∈NM)->(∀ c∈m'.j0,c=true)->
 ∃al,m'.eS=m.eS++al/\∃xs,(∀ ae,bU ef os (al++ae)=xs)/\(∀ p∈xs,p.1∈os.map (·.1)/\∃k' o o',p.2=some o'/\(k',p.1)∈NM/\get k'=some o/\(bI o').sz=(bI o).sz/\gS (DN NM) f (bI o).rows (bI o').rows/\(∀ j∈eo o',SN NM j))
 |[],m,m',h,_,_=>by simp[CG]at h;subst h;exact⟨[],by simp,[],λae=>rfl,by simp⟩
 |(k,op)::r,m,m',h,hn,hc=>by simp[CG]at h;rw[ah]at h;obtain⟨o,h1,h⟩:=h;split at h;rename_i c c' l;rw[ah]at h;obtain⟨l',h2,h⟩:=h;have hm:=(mJ r _ m' h).1;obtain⟨n2,a2,xs,b2,c2⟩:=Ah hf ho r _ m' h hn hc;refine⟨[⟨.sl c,l'⟩]++n2,by rw[a2,(eO _ _ _).1,aQ],(k,some (.ev c l'))::xs,λae=>by simp[bU,b2],λq hq=>?_⟩;rcases aH.1 hq with rfl |hq;refine⟨by simp,_,_,_,rfl,hn _ (hm.1 _ (oG _ _ _)),h1,?_,?_,by simp[eo]⟩;simp[bI,(ji h2).1];simp[bI,(ji h2).2];exact aa4 f _;have⟨i1,i2⟩:=c2 q hq;exact⟨by simp only[bE,aH];exact .inr i1,i2⟩;rename_i kc vc u9 uu l;rw[ah]at h;obtain⟨l',h2,h⟩:=h;have hm:=(mJ r _ m' h).1;obtain⟨n2,a2,xs,b2,c2⟩:=Ah hf ho r _ m' h hn hc;refine⟨[⟨.mp kc vc,l'⟩]++n2,by rw[a2,(eO _ _ _).1,aQ],(k,some (.map kc vc l'))::xs,λae=>by simp[bU,b2],λq hq=>?_⟩;rcases aH.1 hq with rfl |hq;refine⟨by simp,_,_,_,rfl,hn _ (hm.1 _ (oG _ _ _)),h1,?_,?_,by simp[eo]⟩;rw[aa5 h2];rw[aa5 h2];exact aa6 f _;have⟨i1,i2⟩:=c2 q hq;exact⟨by simp only[bE,aH];exact .inr i1,i2⟩;rename_i sz rows sz' rows';split at h;rename_i hsz;have⟨m1,h2,h⟩:=ah.1 h;have hm1:=(yP rows _ _ m1 h2).1;have hm:=(mJ r _ m' h).1;obtain⟨n1,a1,qs,b1,c1,e1,g1⟩:=Sl hf ho rows _ _ m1 h2 (λ q hq=>hn q (hm.1 q hq)) (λ q hq=>hc q (hm.2 q hq));obtain⟨n2,a2,xs,b2,c2⟩:=Ah hf ho r _ m' h hn hc;refine⟨n1++n2,by rw[a2,a1,(eO _ _ _).1,aQ],(k,some (.cells sz qs))::xs,λae=>by simp[bU,b1,b2],λq hq=>?_⟩;rcases aH.1 hq with rfl |hq;exact⟨by simp,_,_,_,rfl,hn _ (hm.1 _ (hm1.1 _ (oG _ _ _))),h1,hsz,c1,g1⟩;have⟨i1,i2⟩:=c2 q hq;exact⟨by simp only[bE,aH];exact .inr i1,i2⟩;cases h;cases h
theorem ajW{d:DV X}(h:isU d=false)(h':d= .undef):False:=by subst h';cases h
theorem acw{A:Type}{sh:Sh X.ι}{ds:List Nat}{s0 s':ea X}{k:VT (X:=X) sh.vars->Option A}{r:A}(hl0:Low s0)(hx:Ext (· ∈ds) s0 s')(h:SZ sh ds s0 s' k=some r):
 ∃v,k v=some r/\Low (encS sh s0 v)/\Ext (· ∈ds) s0 (encS sh s0 v)/\∀(P:Program) (w0:World) (O0:kA) (N:Nat) (β:Nat->Option cW) (I:Nat->Prop) (a:Act) (w:World),Rel P w0 O0 N β I s'.st a w->∃ β',Rel P w0 O0 N β' I (encS sh s0 v).st a w:=by
 unfold SZ at h;have⟨m1,h1,h⟩:=ah.1 h;have⟨m,h2,h⟩:=ah.1 h;have⟨h3,h⟩:=dN h;have⟨v,h4,h⟩:=ah.1 h;have⟨h5,h6⟩:=qh h;simp only[okS,aY,bD]at h3;obtain⟨⟨⟨⟨⟨⟨⟨⟨n1,n2⟩,n3⟩,n4⟩,n5⟩,n6⟩,n7⟩,n8⟩,n9⟩:=h3;have hm2:=(mJ _ _ _ h2).1;have xa:=Wn h4;obtain⟨_,nA,dA,lA⟩:=H9 _ _ _ h1;simp at dA;have We:=(List.nodup_append.1 n1).1;have Wc:=(List.nodup_append.1 n2).1;have hsw:((m.nm.map λq=>(q.2,q.1)).map (·.1)).Nodup:=by rw[map_map];exact Wc
 generalize hf':(λ j=>match lk m.nm j with |some q=>q |none=>j:Nat->Nat)=f;generalize hg':(λ j=>match lk (m.nm.map λq=>(q.2,q.1)) j with |some q=>q |none=>j:Nat->Nat)=g;have hf:∀q∈m.nm,f q.1=q.2:=by rintro⟨p,q⟩ hq;rw[<- hf'];simp[vz We hq]
 have hg:∀q∈m.nm,g q.2=q.1:=by rintro⟨p,q⟩ hq;rw[<- hg'];have:(q,p)∈m.nm.map λq=>(q.2,q.1):=mem_map.2 ⟨(p,q),hq,rfl⟩;simp[vz hsw this]
 have ov:∀j∈sh.d5,f j=j:=by
  intro j hj;rw[<- hf'];cases hh:lk m.nm j with
  |none=>simp[hh]
  |some q=>exact((List.nodup_append.1 n1).2.2 j (mem_map.2 ⟨(j,q),pq hh,rfl⟩) j hj rfl).elim
 have IT:∀j∈sh.d5,g j=j:=by
  intro j hj;rw[<- hg'];cases hh:lk (m.nm.map λq=>(q.2,q.1)) j with
  |none=>simp[hh]
  |some q=>
   have h1:=pq hh;simp only[mem_map]at h1;obtain⟨z,hz,e⟩:=h1;injection e with e1 e2;exact((List.nodup_append.1 n2).2.2 j (mem_map.2 ⟨z,hz,e1⟩) j hj rfl).elim
 have hg0:∀j,j<1000->g j=j:=by
  intro j hj;rw[<- hg'];cases hh:lk (m.nm.map λq=>(q.2,q.1)) j with
  |none=>simp[hh]
  |some q=>
   have h1:=pq hh;simp only[mem_map]at h1;obtain⟨z,hz,e⟩:=h1;injection e with e1 e2;have:=all_eq_true.1 n4 z hz;simp at this;simp[hh];omega
 have hgf:∀j,(DN m.nm j\/j∈sh.d5)->g (f j)=j:=by rintro j (⟨q,hq⟩ |hj);rw[hf _ hq];exact hg _ hq;rw[ov j hj];exact IT j hj
 obtain⟨nB,dB,lB⟩:=En (NM:=m.nm) _ _ _ h2 (λ q hq=>hq);have hL:m.eS=nA++nB:=by rw[dB,dA]
 have hdrop:(wF sh.vars v).drop (iz sh.slots).length=nB:=by rw[xa,hL,<- lA,List.drop_left]
 have htake:(wF sh.vars v).take (iz sh.slots).length=nA:=by rw[xa,hL,<- lA,List.take_left]
 generalize hol:(λ k=>(lk (lens sh.de nB) k).getD 0:Nat->Nat)=ef;have ho:∀q∈m.nm,∀c l,il s'.obj q.1=some (.ev c l)->ef q.2=l.length:=by
  rintro⟨p,q⟩ hq c l hl;have hqk:=all_eq_true.1 n4 _ hq;simp at hqk;obtain⟨p',o,g1,g2,g3⟩:=lB [] q (by simpa using hqk.1.1);have:p'=p:=by have e1:=hg _ g1;have e2:=hg _ hq;simp at e1 e2;rw[<- e1,e2]
  subst this;simp at hl;rw[hl]at g2;injection g2 with g2;have h3:=g3 c l g2.symm;rw[append_nil]at h3;rw[<- hol];have hk:=(Qg sh.de nB).nodup n3;simp[vz hk h3]
 obtain⟨T8,LL,es,eA,pA⟩:=Nt (NM:=m.nm) (f:=f) (ef:=ef) hf ho _ _ _ h1 (λ q hq=>hm2.1 q hq) (λ c hc=>h5 c (hm2.2 c hc));obtain⟨nB',dB',xs,eB,pB⟩:=Ah (NM:=m.nm) (f:=f) (ef:=ef) hf ho _ _ _ h2 (λ q hq=>hq) h5;have eqA:T8=nA:=by simp at LL;rw[<- LL,dA]
 have eqB:=List.append_cancel_left (dB'.symm.trans dB);subst eqA eqB;have Lz:=eA [];have Ly:=eB [];rw[append_nil]at Lz Ly;have hS:encS sh s0 v=⟨es++sh.keep.map (λ t=>(t,fh s0.env t)),xs++sh.d5.map (λ k=>(k,il s0.obj k)),sh.nx,(List.range s0.nx).filter (λ k=>!sh.d5.contains k)++s0.log⟩:=by simp[encS,hdrop,htake,hol,Lz,Ly]
 have hsn:∀j,SN m.nm j->j<sh.nx:=by rintro j ⟨p,hp⟩;have:=all_eq_true.1 n4 _ hp;simp[aY,bD]at this;exact this.1.2
 have kp:∀j,(sh.d5.contains j || m.nm.contains (j,j))=true->j∈sh.d5\/(j,j)∈m.nm:=by intro j hj;simpa using hj
 have hfp:∀j,j∈sh.d5\/(j,j)∈m.nm->f j=j:=λj hj=>hj.elim (ov j) (λ h=>hf (j,j) h);have hdp:∀j,j∈sh.d5\/(j,j)∈m.nm->DN m.nm j\/j∈sh.d5:=λj hj=>hj.elim .inr (λ h=> .inl ⟨j,h⟩);have hko:∀j∈sh.d5,j<s0.nx/\(∃ o,il s0.obj j=some o/\il s'.obj j=some o/\∀i∈eo o,i∈sh.d5\/(i,i)∈m.nm):=by
  intro j hj;have:=all_eq_true.1 n7 _ hj;simp only[aY,bD,Bool.not_eq_true']at this;obtain⟨⟨⟨a1,a2⟩,a3⟩,a4⟩:=this;refine⟨a1,?_⟩;cases ho0:il s0.obj j with
  |none=>rw[ho0]at a4;cases a4
  |some o=>
   rw[ho0]at a4;refine⟨o,rfl,?_,λi hi=>kp i (all_eq_true.1 a4 i hi)⟩;obtain⟨d,hd,hd2⟩:=hx.obj;have hnd:j∉d:=(by have e:s'.log.take (s'.log.length -s0.log.length)=d:=(by rw[hd,fe,Nat.add_sub_cancel,List.take_left]);rw[e]at a2;simpa using a2);rcases hd2 j a1 hnd with h |h;rw[h,ho0];rw[h]at a3;cases a3
 have hke:∀t∈sh.keep,t∉ds/\fh s'.env t=fh s0.env t/\∀j∈bm (fh s0.env t),j∈sh.d5\/(j,j)∈m.nm:=by
  intro t ht;have:=all_eq_true.1 n6 _ ht;simp only[aY,Bool.not_eq_true']at this;obtain⟨⟨a1,a2⟩,a3⟩:=this;have a1':t∉ds:=by simpa using a1
  refine⟨a1',?_,λj hj=>kp j (all_eq_true.1 a3 j hj)⟩;rcases hx.env t a1' with h |h;exact h;exact(ajW a2 h).elim
 have hks:∀q∈es,q.1∈ds:=by intro q hq;have h1:=(pA q hq).1;obtain⟨z,hz,e⟩:=mem_map.1 h1;have:=all_eq_true.1 n5 _ hz;rw[<- e];simpa using this
 have hkeep:∀t,lk (sh.keep.map λt=>(t,fh s0.env t)) t=if t∈sh.keep then some (fh s0.env t)else none:=by
  intro t
  induction sh.keep with
  |nil=>simp[lk]
  |cons q qs ih=>
   simp[bE,lk,ih,aH];by_cases e:q=t;subst e;simp;rw[aR e];simp[Ne.symm e]
 have C5:∀t,lk (sh.d5.map λt=>(t,il s0.obj t)) t=if t∈sh.d5 then some (il s0.obj t)else none:=by
  intro t
  induction sh.d5 with
  |nil=>simp[lk]
  |cons q qs ih=>
   simp[bE,lk,ih,aH];by_cases e:q=t;subst e;simp;rw[aR e];simp[Ne.symm e]
 have s7:∀t,(∃ d,(t,d)∈es/\fh (encS sh s0 v).env t=d)\/(t∈sh.keep/\fh (encS sh s0 v).env t=fh s0.env t)\/fh (encS sh s0 v).env t= .undef:=by
  intro t;have e1:fh (encS sh s0 v).env t=(match lk es t with |some d=>some d |none=>if t∈sh.keep then some (fh s0.env t)else none).getD .undef:=by rw[hS];show(lk (es++sh.keep.map (λ t=>(t,fh s0.env t))) t).getD .undef=_;rw[CP,hkeep t];cases lk es t<;>rfl
  rw[e1];cases he:lk es t with
  |some d=>exact .inl ⟨d,pq he,rfl⟩
  |none=>
   by_cases ht:t∈sh.keep;simp only[aS ht];exact .inr (.inl ⟨ht,rfl⟩);simp only[aR ht];exact .inr (.inr rfl)
 have jz:∀j o,il (encS sh s0 v).obj j=some o->(∃ k' o1,(k',j)∈m.nm/\il s'.obj k'=some o1/\(bI o).sz=(bI o1).sz/\gS (DN m.nm) f (bI o1).rows (bI o).rows/\(∀ i∈eo o,SN m.nm i))\/(j∈sh.d5/\il s0.obj j=some o):=by
  intro j o hjo;have e1:il (encS sh s0 v).obj j=(match lk xs j with |some d=>some d |none=>if j∈sh.d5 then some (il s0.obj j)else none).join:=by rw[hS];show(lk (xs++sh.d5.map (λ k=>(k,il s0.obj k))) j).join=_;rw[CP,C5 j];cases lk xs j<;>rfl
  rw[e1]at hjo;cases he:lk xs j with
  |some x=>
   rw[he]at hjo;obtain⟨_,k',o1,o',b1,b2,b3,b4,b5,b6⟩:=pB _ (pq he);simp at b1 b2 hjo;subst b1;simp[Option.join_some,bJ]at hjo;subst hjo;exact .inl ⟨k',o1,b2,b3,b4,b5,b6⟩
  |none=>
   rw[he]at hjo;by_cases hj:j∈sh.d5;simp[aS hj,Option.join_some]at hjo;exact .inr ⟨hj,hjo⟩;simp[aR hj]at hjo
 have hnx:=n8;have hkx:∀j,j∈sh.d5\/(j,j)∈m.nm->j<sh.nx:=λj hj=>hj.elim (λ hj=>Nat.lt_of_lt_of_le (hko j hj).1 hnx) (λ h=>hsn j ⟨j,h⟩);have hRW:∀{r q:List AV},m5 (DN m.nm) f r q->m5 (λ j=>DN m.nm j\/j∈sh.d5) f r q:=by
  intro r
  induction r with
  |nil=>intro q h;cases q with
   |nil=>trivial
   |cons=>exact h.elim
  |cons x xs ih=>intro q h;cases q with
   |nil=>exact h.elim
   |cons y ys=>exact⟨⟨λ k hk=> .inl (h.1.1 k hk),h.1.2⟩,ih h.2⟩
 have W8:∀{r q:List (List AV)},gS (DN m.nm) f r q->gS (λ j=>DN m.nm j\/j∈sh.d5) f r q:=by
  intro r
  induction r with
  |nil=>intro q h;cases q with
   |nil=>trivial
   |cons=>exact h.elim
  |cons x xs ih=>intro q h;cases q with
   |nil=>exact h.elim
   |cons y ys=>exact⟨hRW h.1,ih h.2⟩
 refine⟨v,h6,?_,?_,?_⟩;constructor;rw[hS];exact n9;rw[hS];exact Nat.le_trans hl0.ge n8;intro t j hj;have CM:(encS sh s0 v).nx=sh.nx:=by rw[hS]
 rw[CM];rcases s7 t with ⟨d,h1,h2⟩ |⟨h1,h2⟩ |h2;rw[h2]at hj;exact hsn j ((pA _ h1).2.2.2 j hj);rw[h2]at hj;exact hkx j ((hke t h1).2.2 j hj);rw[h2]at hj;simp[bm]at hj;intro j o hjo;have CM:(encS sh s0 v).nx=sh.nx:=by rw[hS]
 rw[CM];rcases jz j o hjo with ⟨k',o1,b1,b2,b3,b4,b5⟩ |⟨b1,b2⟩;exact⟨hsn j ⟨k',b1⟩,λi hi=>hsn i (b5 i hi)⟩;have⟨c1,o',c2,c3,c4⟩:=hko j b1;rw[b2]at c2;cases c2;exact⟨hkx j (.inl b1),λi hi=>hkx i (c4 i hi)⟩;refine⟨λ t ht=>?_,⟨(List.range s0.nx).filter (λ k=>!sh.d5.contains k),by rw[hS],λj hj hn=>?_⟩,hS ▸ hnx⟩;rcases s7 t with ⟨d,h1,h2⟩ |⟨h1,h2⟩ |h2;exact(ht (hks _ h1)).elim;exact .inl h2;exact .inr h2;have hjk:j∈sh.d5:=by simpa[hj]using hn
 cases hjo:il (encS sh s0 v).obj j with
 |none=>exact .inr rfl
 |some o=>
  rcases jz j o hjo with ⟨k',o1,b1,_⟩ |⟨b1,b2⟩;exact((List.nodup_append.1 n2).2.2 j (mem_map.2 ⟨(k',j),b1,rfl⟩) j hjk rfl).elim;exact .inl b2.symm
 intro P w0 O0 N β I a w hr;refine⟨_,Rel.re (f:=f) (g:=g) (D:=λj=>DN m.nm j\/j∈sh.d5) hgf hg0 hr (λ _=> .inl rfl) (λ _=>rfl) (λ t=>?_) (λ j o' hj=>?_)⟩;show den (fh (encS sh s0 v).env t)= .undef\/((∀ k∈refs (den (fh s'.env t)),_)/\lj (gO f (den (fh s'.env t))) (den (fh (encS sh s0 v).env t)));rcases s7 t with ⟨d,h1,h2⟩ |⟨h1,h2⟩ |h2;right;rw[h2];obtain⟨_,b1,b2,_⟩:=pA _ h1;exact⟨λ k hk=> .inl (b2 k (by rwa [iQ]at hk)),b1⟩;right;have⟨_,b1,b2⟩:=hke t h1;rw[h2,b1];refine⟨λ k hk=>hdp k (b2 k (by rwa [iQ]at hk)),?_⟩;rw[<- Af,WN _ (λ k hk=>hfp k (b2 k hk))];exact lj.refl _;left;rw[h2];rfl;simp[ea.st,sS]at hj;obtain⟨o,hjo,rfl⟩:=hj;rcases jz j o hjo with ⟨k',o1,b1,b2,b3,b4,b5⟩ |⟨b1,b2⟩;exact⟨k',bI o1,by simp[ea.st,b2],.inl ⟨j,b1⟩,hf _ b1,b3,W8 b4⟩;have⟨c1,o',c2,c3,c4⟩:=hko j b1;rw[b2]at c2;cases c2;have hid:qS f o=o:=by
  cases o with
  |ev c l=>rfl
  |map kc vc l=>rfl
  |cells sz rows=>
   simp[qS];congr 1;have:=λq hq=>Em q λi hi=>hfp i (c4 i (by simp[eo,List.mem_flatten,mem_map];exact⟨_,⟨q,hq,rfl⟩,hi⟩));rw[List.map_congr_left this];simp
 obtain⟨r1,r2⟩:=JK (D:=λj=>DN m.nm j\/j∈sh.d5) f o (λ i hi=>hdp i (c4 i hi));rw[hid]at r1 r2;exact⟨j,bI o,by simp[ea.st,c3],.inr b1,ov j b1,r1,r2⟩
theorem Ext.trans{ds:Nat->Prop}{a b c:ea X}(h:Ext ds a b)(h':Ext ds b c):Ext ds a c:=by refine⟨λ t ht=>?_,?_,Nat.le_trans h.nx h'.nx⟩;rcases h'.env t ht with h1 |h1;rcases h.env t ht with h2 |h2;exact .inl (h1.trans h2);exact .inr (h1.trans h2);exact .inr h1;obtain⟨d,h1,h2⟩:=h.obj;obtain⟨d',h3,h4⟩:=h'.obj;refine⟨d'++d,by rw[h3,h1,aQ],λk hk hn=>?_⟩;simp at hn;rcases h4 k (Nat.lt_of_lt_of_le hk h.nx) hn.1 with h5 |h5;rcases h2 k hk hn.2 with h6 |h6;exact .inl (h5.trans h6);exact .inr (h5.trans h6);exact .inr h5
theorem Ext.refl(ds:Nat->Prop)(s:ea X):Ext ds s s:=⟨λ _ _=> .inl rfl,⟨[],by simp,λ_ _ _=> .inl rfl⟩,aB _⟩
def Says(s s':ea X):Prop:=∀(P:Program) (w0:World) (O0:kA) (N:Nat) (β:Nat->Option cW) (I:Nat->Prop) (a:Act) (w:World),Rel P w0 O0 N β I s.st a w->∃ β',Rel P w0 O0 N β' I s'.st a w
theorem Low.room{s:ea X}{P:Program}{w0:World}{O0:kA}{N:Nat}{β:Nat->Option cW}{I:Nat->Prop}{a:Act}{w:World}(hl:Low s)(hr:Rel P w0 O0 N β I s.st a w):∃ β2,β2 s.nx=none/\Rel P w0 O0 N β2 I s.st a w:=by
 have hr1:=hr.restrict hl.old
 have hr2:=Rel.re (f:=id) (g:=λj=>if j<s.nx then j else 1000000) (D:=(· <s.nx)) (s':=s.st) (λ k hk=>aS hk) (λ j hj=>aS (by have:=hl.ge;omega)) hr1 (λ _=> .inl rfl) (λ _=>rfl)
  (λ q=> .inr ⟨λ k hk=>hl.env q k (by rw[<- iQ];exact hk),by show lj (gO id (den (fh s.env q))) (den (fh s.env q));rw[<- Af,WN (f:=id) _ (λ _ _=>rfl)];exact lj.refl _⟩)
  (λ j o' hj=>by
   simp[ea.st]at hj;obtain⟨x,hx,rfl⟩:=hj;have⟨h1,h2⟩:=hl.obj j x hx;have⟨r1,r2⟩:=JK (D:=(· <s.nx)) id x h2;have hid:qS id x=x:=by
    cases x with
    |ev c l |map kc vc l=>rfl
    |cells sz rows=>
     simp[qS];have:∀q∈rows,Ls id q=q:=λq _=>Em (f:=id) q λ_ _=>rfl;rw[List.map_congr_left this];simp
   rw[hid]at r1 r2;exact⟨j,bI x,by simp[ea.st,hx],h1,rfl,r1,r2⟩)
 exact⟨_,by simp,hr2⟩
theorem anR(z:Bool)(k:Nat):bm (nz (X:=X) z k)=[k]:=by cases z<;>rfl
theorem WQ{ds:List Nat}{z:Bool}{s:ea X}{t:Nat}{c:CT X.ι}(hl:Low s)(ht:t∈ds):Low (A3 z s t c)/\Ext (· ∈ds) s (A3 z s t c)/\Says s (A3 z s t c):=by
 unfold A3;split;rename_i hn;split;have he:∀q,fh ((t,nz z s.nx)::s.env) q=if t=q then nz z s.nx else fh s.env q:=λq=>by simp[fh,lk];by_cases e:t=q<;>simp[e]
 have hO:∀q,il ((s.nx,some (.ev c []))::s.obj) q=if s.nx=q then some (.ev c [])else il s.obj q:=λq=>by simp[il,lk];by_cases e:s.nx=q<;>simp[e]
 refine⟨⟨by show s.nx+1<=1000000;omega,by have:=hl.ge;show 1000<=s.nx+1;omega,λq k hk=>?_,λk o ho=>?_⟩,⟨λ q hq=>?_,⟨[s.nx],rfl,λk hk hnk=>?_⟩,by show s.nx<=s.nx+1;omega⟩,λP w0 O0 N β I a w hr=>?_⟩;rw[he]at hk;split at hk;simp[anR]at hk;subst hk;show s.nx<s.nx+1;omega;have:=hl.env q k hk;show k<s.nx+1;omega;rw[hO]at ho;split at ho;rename_i e;cases ho;subst e;exact⟨by show s.nx<s.nx+1;omega,by simp[eo]⟩;have⟨h1,h2⟩:=hl.obj k o ho;exact⟨by show k<s.nx+1;omega,λj hj=>by have:=h2 j hj;show j<s.nx+1;omega⟩;left;rw[he,aR];intro e;subst e;exact hq ht;left;rw[hO,aR (by omega)];have⟨β2,Ha,hr2⟩:=hl.room hr;have⟨hS,hM⟩:=Mem.qe (i:=s.nx) (o:=bI (.ev c []:bp X)) hr2.mem Ha rfl;refine⟨ins β2 s.nx .none,hr2.defers,hr2.size,λq=>?_,?_⟩;have h1:=hr2.env q;show fx P _ w I (den (fh ((t,nz z s.nx)::s.env) q)) none _;rw[he];by_cases e:t=q;subst e;rw[aS rfl];have h2:VR P _ w I (den (fh s.env t)) (a.tmps.getD t undef):=h1;rw[hn]at h2;rcases z with _ |_;simp only[fx,nz,au,den,VR];exact .inl ⟨by simp[ins],h2,trivial,trivial⟩;simp only[fx,nz,aj,den,VR];exact .inl ⟨trivial,h2⟩;rw[aR e];exact fx.mono hS.ext hS.same hS.inc h1;have e:(λ k=>(il ((s.nx,some (.ev c []))::s.obj) k).map bI)=bT s.st.obj [(s.nx,some (bI (.ev c []:bp X)))]:=by funext q;simp[bT,ea.st];rw[hO];by_cases e:s.nx=q;simp[e];rw[aR e,aR (Ne.symm e)]
 show Mem P w0 O0 _ I (λ k=>(il ((s.nx,some (.ev c []))::s.obj) k).map bI) w;rw[e];exact hM;exact⟨hl,Ext.refl _ s,λ_ _ _ _ β _ _ _ h=>⟨β,h⟩⟩;exact⟨hl,Ext.refl _ s,λ_ _ _ _ β _ _ _ h=>⟨β,h⟩⟩
theorem WR(y:DV X):∀(l:List (DV X))(j i:Nat),i∈aO (l.set j y)->i∈aO l\/i∈bm y
 |[],_,_,h=> .inl (by simpa using h)
 |x::l,0,i,h=>by simp[aO]at h ⊢;rcases h with h |h;exact .inr h;exact .inl (.inr h)
 |x::l,j+1,i,h=>by simp[aO]at h ⊢;rcases h with h |h;exact .inl (.inl h);rcases WR y l j i h with h |h;exact .inl (.inr h);exact .inr h
theorem be.set{P:Program}{β:Nat->Option cW}{w:World}{I:Nat->Prop}{y:AV}:∀(xs:List AV)(vs:List Value)(j:Nat),(∀ x v,xs[j]? =some x->VR P β w I x v->VR P β w I y v)->be P β w I xs vs->be P β w I (xs.set j y) vs
 |[],vs,_,_,h=>by simpa using h
 |x::xs,[],_,_,h=>by simp[be]at h
 |x::xs,v::vs,0,hy,h=>by exact⟨hy x v rfl h.1,h.2⟩
 |x::xs,v::vs,j+1,hy,h=>by exact⟨h.1,be.set xs vs j (λ x v e=>hy x v (by simpa using e)) h.2⟩
theorem OR.set1{P:Program}{β:Nat->Option cW}{w:World}{I:Nat->Prop}{sz:Nat}{row:List AV}{j:Nat}{y:AV}{B:cW}(hy:∀x v,row[j]? =some x->VR P β w I x v->VR P β w I y v)(h:OR P β w I ⟨sz,[row]⟩ B):OR P β w I ⟨sz,[row.set j y]⟩ B:=by
 cases B with
 |none=>simp[OR]at h
 | «at» b s n=>
  obtain⟨h1,c,e,h2,h3,h4⟩:=h;refine⟨h1,c,e,h2,h3,?_⟩;simp only[bu,List.length_set]at h4 ⊢;refine⟨h4.1,?_,trivial⟩;rw[jH]at h4 ⊢;intro i x hx;rw[List.getElem?_set]at hx;split at hx;rename_i e;subst e;split at hx;cases hx;rename_i hlt;obtain⟨v,g1,g2,g3⟩:=h4.2.1 j _ (dm hlt);exact⟨v,g1,hy _ v (dm hlt) g2,g3⟩;cases hx;exact h4.2.1 i x hx
 |mp b=>
  obtain⟨es,cl,h1,hle,h2,h3⟩:=h;refine⟨es,cl,h1,hle,λe=>?_,h3⟩;have:=h2 e
  match hes:es.toList,this with
  |[e1],this=>exact⟨be.set _ _ j hy this.1,trivial⟩
  |[],this |_::_::_,this=>simp[cT]at this
theorem aeu(y:DV X):∀(l:List (DV X))(j:Nat),bG (l.set j y)=(bG l).set j (den y)
 |[],_ |x::l,0=>by simp[bG]
 |x::l,j+1=>by simp[bG,aeu y l j]
theorem ahc{ds:List Nat}{s:ea X}{q j:Nat}{c:CT X.ι}(hl:Low s):Low (Hv s q j c)/\Ext (· ∈ds) s (Hv s q j c)/\Says s (Hv s q j c):=by
 unfold Hv;split;rename_i sz row hq;split;rename_i hn;split;have hqn:=(hl.obj q _ hq).1;have hrefs:=λk hk=>(hl.obj q _ hq).2 k (by simpa[eo]using hk);have hO:∀k,il ((q,some (.cells sz [row.set j (.own s.nx 0 0)]))::(s.nx,some (.ev c []))::s.obj) k=if q=k then some (.cells sz [row.set j (.own s.nx 0 0)])else if s.nx=k then some (.ev c [])else il s.obj k:=λk=>by simp[il,lk];by_cases e:q=k;simp[e];by_cases e':s.nx=k<;>simp[e,e']
 refine⟨⟨by show s.nx+1<=1000000;omega,by have:=hl.ge;show 1000<=s.nx+1;omega,λk i hk=>by have:=hl.env k i hk;show i<s.nx+1;omega,λk o ho=>?_⟩,⟨λ _ _=> .inl rfl,⟨[q,s.nx],rfl,λk hk hnk=>?_⟩,by show s.nx<=s.nx+1;omega⟩,λP w0 O0 N β I a w hr=>?_⟩;rw[hO]at ho;split at ho;rename_i e;cases ho;subst e;refine⟨by show q<s.nx+1;omega,λi hi=>?_⟩;show i<s.nx+1;simp[eo]at hi;rcases WR _ _ _ _ hi with h1 |h1;have:=hrefs i h1;omega;simp[bm]at h1;omega;split at ho;rename_i e;cases ho;subst e;exact⟨by show s.nx<s.nx+1;omega,by simp[eo]⟩;have⟨h1,h2⟩:=hl.obj k o ho;exact⟨by show k<s.nx+1;omega,λi hi=>by have:=h2 i hi;show i<s.nx+1;omega⟩;left;simp at hnk;rw[hO,aR (Ne.symm hnk.1),aR (Ne.symm hnk.2)];have⟨β2,Ha,hr2⟩:=hl.room hr;have⟨hS,hM⟩:=Mem.qe (i:=s.nx) (o:=bI (.ev c []:bp X)) hr2.mem Ha rfl;refine⟨ins β2 s.nx .none,hr2.defers,hr2.size,λk=>fx.mono hS.ext hS.same hS.inc (hr2.env k),?_⟩;refine hM.weak λk o' ho=>?_;simp only[ea.st]at ho;rw[hO]at ho;by_cases e:q=k;subst e;rw[aS rfl]at ho;cases ho;refine⟨bI (.cells sz [row]),by simp[bT];rw[aR (by omega)];simp[ea.st,hq],λB _ hB=>?_⟩;simp[bI,aeu]at hB ⊢;refine OR.set1 (λ x v hx hv=>?_) hB;rw[oD,List.getElem?_map,hn]at hx;cases hx;simpa only[den,VR]using .inl ⟨by simp[ins],hv,trivial,trivial⟩;rw[aR e]at ho;refine⟨o',?_,λ_ _ h=>h⟩;simp[bT];by_cases e':s.nx=k;subst e';simpa using ho;rw[aR e']at ho;rw[aR (Ne.symm e')];exact ho;exact⟨hl,Ext.refl _ s,λ_ _ _ _ β _ _ _ h=>⟨β,h⟩⟩;exact⟨hl,Ext.refl _ s,λ_ _ _ _ β _ _ _ h=>⟨β,h⟩⟩;exact⟨hl,Ext.refl _ s,λ_ _ _ _ β _ _ _ h=>⟨β,h⟩⟩
theorem Nu{ds:List Nat}:∀(l:List (Nat×CT X.ι)){s:ea X},Low s->(∀ p∈l,(bif Nat.ble 1000000 p.1 then !Nat.ble 1099511627776 p.1 || ds.contains (p.1 -1099511627776)else ds.contains p.1)=true)->Low (Qf l s)/\Ext (· ∈ds) s (Qf l s)/\Says s (Qf l s)
 |[],s,hl,_=>⟨hl,Ext.refl _ s,λ_ _ _ _ β _ _ _ h=>⟨β,h⟩⟩
 |(t,c)::r,s,hl,hd=>by
  generalize hs:(bif Nat.ble 1000000 t then bif Nat.ble 1099511627776 t then A3 true s (t -1099511627776) c else Hv s ((t -1000000)/4096) ((t -1000000)%4096) c else A3 false s t c)=s1;have h0:Low s1/\Ext (· ∈ds) s s1/\Says s s1:=by
   have hd0:=hd (t,c) (by simp);subst hs;cases hb:Nat.ble 1000000 t with
   |true=>
    rw[hb]at hd0;cases hb2:Nat.ble 1099511627776 t with
    |true=>rw[hb2]at hd0;exact WQ hl (by simpa using hd0)
    |false=>exact ahc hl
   |false=>rw[hb]at hd0;exact WQ hl (by simpa using hd0)
  obtain⟨h1,h2,h3⟩:=h0;simp[Qf,hs];obtain⟨g1,g2,g3⟩:=Nu r h1 (λ p hp=>hd p (by simp[hp]));refine⟨g1,h2.trans g2,λP w0 O0 N β I a w hr=>?_⟩;have⟨β',hr'⟩:=h3 P w0 O0 N β I a w hr;exact g3 P w0 O0 N β' I a w hr'
theorem lK{A:Type}{sh:Sh X.ι}{ds:List Nat}{s0 s':ea X}{k:VT (X:=X) sh.vars->Option A}{r:A}(hl0:Low s0)(hl':Low s')(hx:Ext (· ∈ds) s0 s')(h:tF sh ds s0 s' k=some r):
 ∃v,k v=some r/\Low (encS sh s0 v)/\Ext (· ∈ds) s0 (encS sh s0 v)/\Says s' (encS sh s0 v):=by have⟨h1,h2⟩:=dN h;obtain⟨g1,g2,g3⟩:=Nu (ds:=ds) sh.B6 hl' (λ p hp=>all_eq_true.1 h1 p hp);have⟨v,i1,i2,i3,i4⟩:=acw hl0 (hx.trans g2) h2;refine⟨v,i1,i2,i3,λP w0 O0 N β I a w hr=>?_⟩;have⟨β',hr'⟩:=g3 P w0 O0 N β I a w hr;exact i4 P w0 O0 N β' I a w hr'
end
def gG:Code->List Nat
 | .region _ ag _=>ag.toList.filterMap (·.dst)
 | .seq a b=>gG a++gG b
 | .cond _ a b=>gG a++gG b
 | .block _ b=>gG b
 | .loop b=>gG b
 |_=>[]
section
variable {X:SX}
section
variable {P:Program} {N:Nat}
def K7{A:Type}(ds:List Nat)(s:ea X)(k:Exit->ea X->Option A)(r:A)(e:Exit)(σ:St):Prop:=∃s',Low s'/\Ext (· ∈ds) s s'/\σ=s'.st/\k e s'=some r
theorem aiQ{c:Code}{Q Q':Exit->St->Prop}{σ:St}(h:Ev P N c Q σ)(ht:∀e σ,Q e σ->∀w0 O0 β I a w,Rel P w0 O0 N β I σ a w->∃ β' σ',Rel P w0 O0 N β' I σ' a w/\th σ'/\Q' e σ'):Ev P N c Q' σ:=by intro w0 O0 β I a w hr ho;refine wp_mono (h w0 O0 β I a w hr ho) ?_;rintro e a' w' ⟨β',I',σ',h1,_,h3⟩;have⟨β2,σ2,g1,g2,g3⟩:=ht e σ' h3 w0 O0 β' I' a' w' h1;exact⟨β2,I',σ2,g1,g2,g3⟩
end
end
inductive Hn(ι:Type) where
 |z
 |f (l:List Nat)
 |s (a b:Hn ι)
 |b (a:Hn ι)
 |j (sh:Sh ι) (a:Hn ι)
 |jx (sh:Sh ι) (a:Hn ι)
 |l (head:Sh ι) (id:Nat) (out:Sh ι) (a:Hn ι)
 |lx (head:Sh ι) (id:Nat) (out:Sh ι) (a:Hn ι)
 |rg (head:Sh ι) (a:Hn ι)
 |un (a r:Hn ι)
def Hn.fz{ι:Type}:Hn ι->List Nat
 | .f is=>is
 |_=>[]
def Hn.fst{ι:Type}:Hn ι->Hn ι
 | .s a _=>a
 |_=> .z
def Hn.snd{ι:Type}:Hn ι->Hn ι
 | .s _ y=>y
 |_=> .z
def Hn.sub{ι:Type}:Hn ι->Hn ι
 | .b a=>a
 |_=> .z
def iter{V O:Type}(step:V->Option (V⊕O)):Nat->V->Option O
 | 0,_=>none
 |n+1,v=>(step v).bind λr=>match r with
  | .inl v=>iter step n v
  | .inr o=>some o
def OF{X:SX}{A:Type}(body:Hn X.ι->ea X->(Exit->ea X->Option A)->Option A):Hn X.ι->ea X->(Exit->ea X->Option A)->Option A
 | .un a r,s,k=>body a s λe s'=>match e with
  | .normal=>OF body r s' k
  |e=>k e s'
 |_,_,_=>none
def dG{W A:Type}(o:Option (W⊕A))(f:W->Option A):Option A:=o.bind λr=>match r with
 | .inl w=>f w
 | .inr a=>some a
noncomputable def both{A:Type}(x y:Option A):Option A:=open Classical in if x=y then x else none
theorem ajX{A:Type}{x y:Option A}{r:A}(h:both x y=some r):x=some r/\y=some r:=by grind [both]
theorem ajY{A:Type}(x:Option A):both x x=x:=by simp[both]
section
variable {X:SX}
def HN(ds:List Nat)(s:ea X)(h:Hn X.ι){A:Type}(k:Exit->ea X->Option A)(body:(B:Type)->Hn X.ι->(Exit->ea X->Option B)->Option B):Option A:=
 match h with
 | .j sh h'=>(body (VT (X:=X) sh.vars) h' λe s'=>match e with
  | .normal=>tF sh ds s s' some
  |_=>none).bind λv=>k .normal (encS sh s v)
 | .jx sh h'=>dG (body (VT (X:=X) sh.vars⊕A) h' λe s'=>match e with
  | .normal=>tF sh ds s s' λv=>some (.inl v)
  |e=>(k e s').map .inr) λv=>k .normal (encS sh s v)
 |h=>body A h k
variable (Γ:FuncId->Option (cm X)) (T:ez) (code:TypeId->Option (CT X.ι)) (N n:Nat)
noncomputable def run:Code->(A:Type)->Hn X.ι->ea X->(Exit->ea X->Option A)->Option A
 | .skip,_,_,s,k=>k .normal s
 | .region id ag d,A,h,s,k=>HN (gG (.region id ag d)) s h k λ_ h k=>ahb Γ h.fz T code N ag d s (k .normal)
 | .seq x y,A,h,s,k=>HN (gG (.seq x y)) s h k λB h k=>run x B h.fst s λe s'=>match e with
  | .normal=>run y B h.snd s' k
  |e=>k e s'
 | .cond c x y,A,h,s,k=>HN (gG (.cond c x y)) s h k λB h k=>match Zl (fh s.env) c with
  | .c .bool v=>bif v then run x B h.fst s k else run y B h.snd s k
  | .ub=>both (run x B h.fst s k) (run y B h.snd s k)
  |_=>none
 | .block id b,A,h,s,k=>HN (gG (.block id b)) s h k λB h k=>run b B h.sub s λe s'=>match e with
  | .exit j=>if j=id then k .normal s' else k (.exit j) s'
  |e=>k e s'
 | .loop b,A,h,s,k=>match h with
  | .l hd id out h'=>tF hd (gG b) s s λv0=>(iter (λ v=>run b (VT (X:=X) hd.vars⊕VT (X:=X) out.vars) h' (encS hd s v) λe s'=>match e with
   | .normal=>tF hd (gG b) s s' λv=>some (.inl v)
   | .exit j=>if j=id then tF out (gG b) s s' λw=>some (.inr w)else none
   |_=>none) n v0).bind λw=>k (.exit id) (encS out s w)
  | .lx hd id out h'=>tF hd (gG b) s s λv0=>dG (iter (λ v=>run b (VT (X:=X) hd.vars⊕(VT (X:=X) out.vars⊕A)) h' (encS hd s v) λe s'=>match e with
   | .normal=>tF hd (gG b) s s' λv=>some (.inl v)
   | .exit j=>if j=id then tF out (gG b) s s' λw=>some (.inr (.inl w))else(k (.exit j) s').map λa=> .inr (.inr a)
   |e=>(k e s').map λa=> .inr (.inr a)) n v0) λw=>k (.exit id) (encS out s w)
  | .un a r=>OF (λ h s k=>run b A h s k) (.un a r) s k
  |_=>none
 | .exit id,_,_,s,k=>k (.exit id) s
 | .ret,_,_,s,k=>k .ret s
 | .label _,_,_,s,k=>k .normal s
 |_,_,_,_,_=>none
section
variable {Γ:FuncId->Option (cm X)} {T:ez} {code:TypeId->Option (CT X.ι)} {N n:Nat} {P:Program}
theorem Ext.wide{ds ds':Nat->Prop}{a b:ea X}(h:Ext ds a b)(hd:∀t,ds t->ds' t):Ext ds' a b:=⟨λ t ht=>h.env t λhh=>ht (hd t hh),h.obj,h.nx⟩
theorem map_inr{α β:Type}{o:Option β}{r:α⊕β}(h:o.map Sum.inr=some r):∃b,o=some b/\r= .inr b:=by
 cases o with
 |none=>cases h
 |some b=>grind
theorem Eo{c:Code}{s:ea X}{h:Hn X.ι}{A:Type}{k:Exit->ea X->Option A}{r:A}{body:(B:Type)->Hn X.ι->(Exit->ea X->Option B)->Option B}(hl:Low s)
 (hb:∀(B:Type)(h:Hn X.ι)(k:Exit->ea X->Option B)(r:B),body B h k=some r->Ev P N c (K7 (gG c) s k r) s.st) (hr:HN (gG c) s h k body=some r):Ev P N c (K7 (gG c) s k r) s.st:=by
 unfold HN at hr;split at hr;have⟨v,h1,hr⟩:=ah.1 hr;refine aiQ (hb _ _ _ _ h1) ?_;rintro e σ ⟨s',g1,g2,rfl,g4⟩ w0 O0 β I a w hrel;cases e<;>simp at g4;have⟨v',i1,i2,i3,i4⟩:=lK hl g1 g2 g4;cases i1;have⟨β',i5⟩:=i4 P w0 O0 N β I a w hrel;exact⟨β',_,i5,i2.old,_,i2,i3,rfl,hr⟩;unfold dG at hr;have⟨v,h1,hr⟩:=ah.1 hr;refine aiQ (hb _ _ _ _ h1) ?_;rintro e σ ⟨s',g1,g2,rfl,g4⟩ w0 O0 β I a w hrel;have other:(k e s').map Sum.inr=some v->∃ β' σ',Rel P w0 O0 N β' I σ' a w/\th σ'/\K7 (gG c) s k r e σ':=by intro hm;obtain⟨b,hk,rfl⟩:=map_inr hm;cases hr;exact⟨β,_,hrel,g1.old,s',g1,g2,rfl,hk⟩
 cases e with
 |normal=>
  simp at g4;have⟨v',i1,i2,i3,i4⟩:=lK hl g1 g2 g4;cases i1;have⟨β',i5⟩:=i4 P w0 O0 N β I a w hrel;exact⟨β',_,i5,i2.old,_,i2,i3,rfl,hr⟩
 |_=>exact other g4
 exact hb _ _ _ _ hr
theorem ajZ{id:Nat}{ag:Array Oper}{d:Bool}{t:Nat}(h:Sj ag t):t∈gG (.region id ag d):=by obtain⟨j,op,h1,h2⟩:=h;simp only[gG,List.mem_filterMap];exact⟨op,by rw[<- Array.getElem?_toList]at h1;exact bR h1,h2⟩
theorem WS{b:Code}{s:ea X}{hd:Sh X.ι}{O:Type}{step:VT (X:=X) hd.vars->Option (VT (X:=X) hd.vars⊕O)}{kb:Exit->ea X->Option (VT (X:=X) hd.vars⊕O)}{Q:Exit->St->Prop}(hl:Low s)
 (hkn:∀s',kb .normal s'=tF hd (gG b) s s' λv=>some (.inl v))
 (hstep:∀v r,Low (encS hd s v)->step v=some r->Ev P N b (K7 (gG b) (encS hd s v) kb r) (encS hd s v).st)
 {o:O} (hQ:∀e s',e≠ .normal->Low s'->Ext (· ∈gG b) s s'->kb e s'=some (.inr o)->∀w0 O0 β I a w,Rel P w0 O0 N β I s'.st a w->∃ β' σ',Rel P w0 O0 N β' I σ' a w/\th σ'/\Q e σ')
 (hno:∀e s' v,e≠ .normal->kb e s'=some (.inl v)->False) (n:Nat) (v0:VT (X:=X) hd.vars) (h:iter step n v0=some o) (hl0:Low (encS hd s v0)) (hx0:Ext (· ∈gG b) s (encS hd s v0)):Ev P N (.loop b) Q (encS hd s v0).st:=by
 intro w0 O0 β I a w hr ho;refine aaE (λ n a w=>∃ β I v,Rel P w0 O0 N β I (encS hd s v).st a w/\iter step n v=some o/\Low (encS hd s v)/\Ext (· ∈gG b) s (encS hd s v)) (λ a w ⟨_,_,v,_,h,_⟩=>by cases h) ?_ n a w ⟨β,I,v0,hr,h,hl0,hx0⟩;rintro n a w ⟨β,I,v,hr,hi,hlv,hxv⟩;simp[iter]at hi;have⟨r,h1,hi⟩:=ah.1 hi;refine wp_mono (hstep v r hlv h1 w0 O0 β I a w hr hlv.old) ?_;rintro e a' w' ⟨β',I',σ',g1,_,s',g2,g3,rfl,g4⟩;have hxs:=hxv.trans g3;by_cases he:e= .normal;subst he;rw[hkn]at g4;have⟨v',i1,i2,i3,i4⟩:=lK hl g2 hxs g4;cases i1;have⟨β2,i5⟩:=i4 P w0 O0 N β' I' a' w' g1;exact⟨β2,I',v',i5,hi,i2,i3⟩;cases r with
 |inl v'=>exact(hno e s' v' he g4).elim
 |inr o'=>
  cases hi;have⟨β2,σ2,i1,i2,i3⟩:=hQ e s' he g2 hxs g4 w0 O0 β' I' a' w' g1;cases e with
  |normal=>exact(he rfl).elim
  |_=>exact⟨β2,I',σ2,i1,i2,i3⟩
theorem WT{A:Type}{sh:Sh X.ι}{ds:List Nat}{s0 s':ea X}{k:VT (X:=X) sh.vars->Option A}{r:A}(h:tF sh ds s0 s' k=some r):∃v,k v=some r:=by have⟨_,h⟩:=dN h;unfold SZ at h;have⟨m1,h1,h⟩:=ah.1 h;have⟨m,h2,h⟩:=ah.1 h;have⟨h3,h⟩:=dN h;have⟨v,h4,h⟩:=ah.1 h;exact⟨v,(qh h).2⟩
theorem aev{α β γ:Type}{o:Option γ}{r:α⊕(β⊕γ)}(h:o.map (λ a=>Sum.inr (Sum.inr a))=some r):∃b,o=some b/\r= .inr (.inr b):=by
 cases o with
 |none=>cases h
 |some b=>grind
def Hn.len{ι:Type}:Hn ι->Nat
 | .un _ r=>r.len+1
 |_=>0
theorem aj0{b:Code}{A:Type}{body:Hn X.ι->ea X->(Exit->ea X->Option A)->Option A}{s0:ea X}{k:Exit->ea X->Option A}{r:A}
 (hb:∀(h:Hn X.ι)(s:ea X)(k:Exit->ea X->Option A)(r:A),Low s->body h s k=some r->Ev P N b (K7 (gG b) s k r) s.st)
 {h:Hn X.ι} (hl:Low s0) (hr:OF body h s0 k=some r):Ev P N (.loop b) (K7 (gG (.loop b)) s0 k r) s0.st:=by
 refine anD (λ n σ=>∃(h:Hn X.ι)(s:ea X),σ=s.st/\h.len=n/\Low s/\Ext (· ∈gG b) s0 s/\OF body h s k=some r) ?_ ?_ h.len ⟨h,s0,rfl,rfl,hl,Ext.refl _ s0,hr⟩;rintro σ ⟨h,s,_,h1,_,_,h2⟩;cases h<;>first |cases h2 |cases h1
 rintro n σ ⟨h,s,rfl,h1,h2,h3,h4⟩;cases h<;>try cases h4
 rename_i a q;simp[Hn.len]at h1;refine(hb a s _ r h2 h4).mono ?_;rintro e σ ⟨s',g1,g2,rfl,g4⟩;have hx:=h3.trans g2;cases e with
 |normal=>exact⟨q,s',rfl,h1,g1,hx,g4⟩
 |_=>exact⟨s',g1,hx,rfl,g4⟩
theorem kY(hT:eX P T)(hm:P.follows .mixedOrders=true)(hΓ:tj P Γ):∀(c:Code)(A:Type)(h:Hn X.ι)(s:ea X)(k:Exit->ea X->Option A)(r:A),Low s->run Γ T code N n c A h s k=some r->Ev P N c (K7 (gG c) s k r) s.st
 | .skip,A,h,s,k,r,hl,hr=>anA ⟨s,hl,Ext.refl _ s,rfl,hr⟩
 | .exit id,A,h,s,k,r,hl,hr=>anB ⟨s,hl,Ext.refl _ s,rfl,hr⟩
 | .ret,A,h,s,k,r,hl,hr=>To ⟨s,hl,Ext.refl _ s,rfl,hr⟩
 | .label l,A,h,s,k,r,hl,hr=>alp ⟨s,hl,Ext.refl _ s,rfl,hr⟩
 | .region id ag d,A,h,s,k,r,hl,hr=>by refine Eo hl (λ B h k r hb=>?_) hr;have⟨s',g1,g2,g3,g4⟩:=acu (id:=id) hT hm hΓ hl hb;exact g4.mono λe σ ⟨he,hσ⟩=>⟨s',g2,g3.wide λt ht=>ajZ ht,hσ,by rw[he];exact g1⟩
 | .seq x y,A,h,s,k,r,hl,hr=>by
  refine Eo hl (λ B h k r hb=>?_) hr;refine Bc ((kY hT hm hΓ x B _ s _ r hl hb).mono ?_);rintro e σ ⟨s',g1,g2,rfl,g4⟩;have wide:Ext (· ∈gG (.seq x y)) s s':=g2.wide λt ht=>by simp[gG,ht]
  cases e with
  |normal=>
   exact(kY hT hm hΓ y B _ s' k r g1 g4).mono λe σ ⟨s2,i1,i2,i3,i4⟩=>⟨s2,i1,wide.trans (i2.wide λt ht=>by simp[gG,ht]),i3,i4⟩
  |_=>exact⟨s',g1,wide,rfl,g4⟩
 | .cond c x y,A,h,s,k,r,hl,hr=>by
  refine Eo hl (λ B h k r hb=>?_) hr;split at hb
  ·rename_i v hv;refine anC v (λ _ _=>rfl) ?_ ?_
   ·have:=VZ (fh s.env) c;rw[hv]at this;exact this.symm
   ·cases v with
    |true=>exact(kY hT hm hΓ x B _ s k r hl hb).mono λe σ ⟨s2,i1,i2,i3,i4⟩=>⟨s2,i1,i2.wide λt ht=>by simp[gG,ht],i3,i4⟩
    |false=>exact(kY hT hm hΓ y B _ s k r hl hb).mono λe σ ⟨s2,i1,i2,i3,i4⟩=>⟨s2,i1,i2.wide λt ht=>by simp[gG,ht],i3,i4⟩
  ·rename_i hv;have⟨hb1,hb2⟩:=ajX hb;refine agH (λ _ _=>rfl) ?_ ?_ ?_
   ·have:=VZ (fh s.env) c;rw[hv]at this;exact this.symm
   ·exact(kY hT hm hΓ x B _ s k r hl hb1).mono λe σ ⟨s2,i1,i2,i3,i4⟩=>⟨s2,i1,i2.wide λt ht=>by simp[gG,ht],i3,i4⟩
   ·exact(kY hT hm hΓ y B _ s k r hl hb2).mono λe σ ⟨s2,i1,i2,i3,i4⟩=>⟨s2,i1,i2.wide λt ht=>by simp[gG,ht],i3,i4⟩
  ·cases hb
 | .block id b,A,h,s,k,r,hl,hr=>by
  refine Eo hl (λ B h k r hb=>?_) hr;refine alq ((kY hT hm hΓ b B _ s _ r hl hb).mono ?_);rintro e σ ⟨s',g1,g2,rfl,g4⟩;cases e with
  |exit j=>
   simp only[agG];simp only at g4;split
   ·rw[aS ‹_›]at g4;exact⟨s',g1,g2,rfl,g4⟩
   ·rw[aR ‹_›]at g4;exact⟨s',g1,g2,rfl,g4⟩
  |_=>exact⟨s',g1,g2,rfl,g4⟩
 | .loop b,A,h,s,k,r,hl,hr=>by
  simp only[run]at hr;split at hr
  ·rename_i hd id out h';obtain⟨v0,h1,h2,h3,h4⟩:=lK hl hl (Ext.refl _ s) hr;rw[ah]at h1;obtain⟨w,h5,h6⟩:=h1;intro w0 O0 β I a ww hrel ho;have⟨β',hrel'⟩:=h4 P w0 O0 N β I a ww hrel;refine WS (Q:=K7 (gG (.loop b)) s k r) hl (λ s'=>rfl) (λ v r hlv hs=>kY hT hm hΓ b _ h' (encS hd s v) _ r hlv hs) (λ e s' he hls hxs hk=>?_) (λ e s' v he hk=>?_) n v0 h5 h2 h3 w0 O0 β' I a ww hrel' h2.old
   ·cases e with
    |exit j=>
     simp only at hk;split at hk
     ·rename_i hj;subst hj;have⟨w',i1,i2,i3,i4⟩:=lK hl hls hxs hk;injection i1 with i1;cases i1;intro w0 O0 β I a ww hrel;have⟨β',hrel'⟩:=i4 P w0 O0 N β I a ww hrel;exact⟨β',_,hrel',i2.old,_,i2,i3,rfl,h6⟩
     ·cases hk
    |normal=>exact(he rfl).elim
    |_=>cases hk
   ·cases e with
    |exit j=>
     simp only at hk;split at hk
     ·have⟨w',i1⟩:=WT hk;injection i1 with i1;cases i1
     ·cases hk
    |normal=>exact he rfl
    |_=>cases hk
  ·rename_i hd id out h';obtain⟨v0,h1,h2,h3,h4⟩:=lK hl hl (Ext.refl _ s) hr;unfold dG at h1;rw[ah]at h1;obtain⟨w,h5,h6⟩:=h1;intro w0 O0 β I a ww hrel ho;have⟨β',hrel'⟩:=h4 P w0 O0 N β I a ww hrel;refine WS (Q:=K7 (gG (.loop b)) s k r) hl (λ s'=>rfl) (λ v r hlv hs=>kY hT hm hΓ b _ h' (encS hd s v) _ r hlv hs) (λ e s' he hls hxs hk=>?_) (λ e s' v he hk=>?_) n v0 h5 h2 h3 w0 O0 β' I a ww hrel' h2.old
   ·intro w0 O0 β I a ww hrel;have other:(k e s').map (λ a=>Sum.inr (Sum.inr a))=some (Sum.inr w:VT (X:=X) hd.vars⊕(VT (X:=X) out.vars⊕A))->∃ β' σ',Rel P w0 O0 N β' I σ' a ww/\th σ'/\K7 (gG (.loop b)) s k r e σ':=(by intro hm;have⟨q,hq,hr⟩:=aev hm;cases hr;cases h6;exact⟨β,_,hrel,hls.old,s',hls,hxs,rfl,hq⟩);cases e with
    |exit j=>
     simp only at hk;split at hk
     ·rename_i hj;subst hj;have⟨w',i1,i2,i3,i4⟩:=lK hl hls hxs hk;injection i1 with i1;cases i1;have⟨β',hrel'⟩:=i4 P w0 O0 N β I a ww hrel;exact⟨β',_,hrel',i2.old,_,i2,i3,rfl,h6⟩
     ·exact other hk
    |normal=>exact(he rfl).elim
    |_=>exact other hk
   ·have other:(k e s').map (λ a=>Sum.inr (Sum.inr a))=some (Sum.inl v:VT (X:=X) hd.vars⊕(VT (X:=X) out.vars⊕A))->False:=(by intro hm;have⟨q,hq,hr⟩:=aev hm;cases hr);cases e with
    |exit j=>
     simp only at hk;split at hk
     ·have⟨w',i1⟩:=WT hk;injection i1 with i1;cases i1
     ·exact other hk
    |normal=>exact he rfl
    |_=>exact other hk
  ·exact aj0 (body:=λh s k=>run Γ T code N n b A h s k) (λ h s k r hl h1=>kY hT hm hΓ b A h s k r hl h1) hl hr
  ·cases hr
 | .rangeFunc ..,_,_,_,_,_,_,hr=>by cases hr
 | .scope _,_,_,_,_,_,_,hr=>by cases hr
 | .goto _,_,_,_,_,_,_,hr=>by cases hr
 | .refuse _,_,_,_,_,_,_,hr=>by cases hr
end
end
section
variable {X:SX}
def nk:Nat->(l:List (AT X.ι))->iW X l->List (DV X)
 |_,[],_=>[]
 |n,.d c::l,a=> .c c a.1::nk n l a.2
 |n,.ref c::l,a=> .rp c a.1 0::nk n l a.2
 |n,.el as r::l,a=> .el as r a.1::nk n l a.2
 |n,.mut _::l,a=> .own n 0 (List.length a.1)::nk (n+1) l a.2
 |n,.kx _::l,a=> .ptr n 0 0::nk (n+1) l a.2
 |n,.nil::l,a=> .nil::nk n l a.2
def Bn:(l:List (AT X.ι))->iW X l->List (bp X)
 |[],_=>[]
 | .mut c::l,a=> .ev c a.1::Bn l a.2
 | .kx c::l,a=> .cells (CT.sz X c) [vB c a.1]::Bn l a.2
 | .d _::l,a=>Bn l a.2
 | .ref _::l,a=>Bn l a.2
 | .el _ _::l,a=>Bn l a.2
 | .nil::l,a=>Bn l a.2
theorem yw:∀(n:Nat)(l:List (AT X.ι))(a:iW X l),bG (nk n l a)=dV n l a
 |_,[],_=>rfl
 |n,.d c::l,a |n,.ref c::l,a=>by simp[nk,bG,den,dV,yw n l a.2]
 |n,.el as r::l,a=>by simp[nk,bG,dV,yw n l a.2]
 |n,.mut c::l,a |n,.kx c::l,a=>by simp[nk,bG,den,dV,yw (n+1) l a.2]
 |n,.nil::l,a=>by simp[nk,bG,den,dV,yw n l a.2]
theorem Ia:∀(l:List (AT X.ι))(a:iW X l),(Bn l a).map bI=(uW l a).map ir
 |[],_=>rfl
 | .d _::l,a | .ref _::l,a | .el _ _::l,a | .nil::l,a=>Ia l a.2
 | .mut c::l,a=>by simp[Bn,Ia l a.2];rfl
 | .kx c::l,a=>by simp[Bn,uW,Ia l a.2,bI,ir,uV,aI,pR]
theorem pV:∀(n:Nat)(l:List (AT X.ι))(a:iW X l),∀k∈aO (nk n l a),k<n+wH l
 |_,[],_,k,hk=>by simp[nk,aO]at hk
 |n,.d c::l,a,k,hk=>by have:=pV n l a.2 k (by simpa[nk,aO,bm]using hk);simpa[wH,AT.im]using this
 |n,.ref c::l,a,k,hk=>by have:=pV n l a.2 k (by simpa[nk,aO,bm]using hk);simpa[wH,AT.im]using this
 |n,.el as r::l,a,k,hk=>by have:=pV n l a.2 k (by simpa[nk,aO,bm]using hk);simpa[wH,AT.im]using this
 |n,.nil::l,a,k,hk=>by have:=pV n l a.2 k (by simpa[nk,aO,bm]using hk);simpa[wH,AT.im]using this
 |n,.mut c::l,a,k,hk=>by simp[nk,aO,bm]at hk;simp[wH,AT.im];rcases hk with rfl |hk;omega;have:=pV (n+1) l a.2 k hk;omega
 |n,.kx c::l,a,k,hk=>by simp[nk,aO,bm]at hk;simp[wH,AT.im];rcases hk with rfl |hk;omega;have:=pV (n+1) l a.2 k hk;omega
theorem tH:∀(n:Nat)(l:List (AT X.ι))(a:iW X l),(dV n l a).length=l.length
 |_,[],_=>rfl
 |n,.d c::l,a |n,.ref c::l,a |n,.el as r::l,a=>by simp[dV,tH n l a.2]
 |n,.mut c::l,a |n,.kx c::l,a=>by simp[dV,tH (n+1) l a.2]
 |n,.nil::l,a=>by simp[dV,tH n l a.2]
theorem wJ:∀(l:List (AT X.ι))(a:iW X l),(uW l a).length=wH l
 |[],_=>rfl
 | .d _::l,a | .ref _::l,a | .el _ _::l,a | .nil::l,a=>by simpa[wH,AT.im,uW]using wJ l a.2
 | .mut _::l,a | .kx _::l,a=>by simp[uW,wJ l a.2,wH,AT.im];omega
def Cd(l:List (AT X.ι))(a:iW X l):ea X:=⟨(List.range l.length).zip (nk 0 l a),(List.range (Bn l a).length).zip ((Bn l a).map some),1000,[]⟩
theorem aiR(l:List (AT X.ι))(a:iW X l)(k:Nat):il (Cd l a).obj k=(Bn l a)[k]? :=by
 have h:(List.range (Bn l a).length).zip ((Bn l a).map some)=(List.range ((Bn l a).map some).length).zip ((Bn l a).map some):=by rw[length_map]
 simp[Cd,il];rw[h,Bf,List.getElem?_map];cases (Bn l a)[k]?<;>rfl
theorem apj(l:List (AT X.ι))(a:iW X l):(Cd l a).st=sA.st ⟨(List.range (yJ l a).length).zip (yJ l a),(List.range ((uW l a).map ir).length).zip ((uW l a).map ir)⟩:=by
 have ho:∀k,((il (Cd l a).obj k).map bI)=lk ((List.range ((uW l a).map ir).length).zip ((uW l a).map ir)) k:=by intro k;rw[Bf,aiR,<- Ia,List.getElem?_map]
 simp only[ea.st,sA.st,St.mk.injEq,and_true];refine⟨?_,funext ho⟩;funext t;rw[tH,yJ,<- yw];have:∀(ks:List Nat)(ds:List (DV X)),den (fh (ks.zip ds) t)=(lk (ks.zip (bG ds)) t).getD .undef:=by
  intro ks
  induction ks with
  |nil=>intro ds;rfl
  |cons k ks ih=>
   intro ds;rcases ds with _ |⟨d,ds⟩;rfl;simp[fh,lk,bG];by_cases h:k=t;simp[h];simp[aR h];exact ih ds
 exact this _ _
theorem anS(l:List (AT X.ι))(a:iW X l)(hm:wH l<=1000):Low (Cd l a):=by
 refine⟨by show 1000<=1000000;decide,aB _,λt k hk=>?_,λk o ho=>?_⟩;have h0:=pV 0 l a;have:∀(ks:List Nat)(ds:List (DV X)),(∀ k∈aO ds,k<0+wH l)->∀k∈bm (fh (ks.zip ds) t),k<1000:=by
  intro ks
  induction ks with
  |nil=>intro ds _ k hk;simp[fh,lk,bm]at hk
  |cons k ks ih=>
   intro ds h j hj;rcases ds with _ |⟨d,ds⟩;simp[fh,lk,bm]at hj;simp[fh,lk]at hj;by_cases e:k=t;simp[aS e]at hj;have:=h j (by simp[aO,hj]);omega;simp[aR e]at hj;exact ih ds (λ k hk=>h k (by simp[aO,hk])) j hj
 exact this _ _ h0 k hk;rw[aiR]at ho;have hl:(Bn l a).length=wH l:=by rw[<- wJ l a];simpa using congrArg List.length (Ia l a)
 refine⟨by have:=(bZ.1 ho).1;show k<1000;omega,λj hj=>?_⟩;have hz:∀(l:List (AT X.ι))(a:iW X l),∀o∈Bn l a,eo o=[]:=by
  intro l
  induction l with
  |nil=>intro a o ho;simp[Bn]at ho
  |cons q l ih=>
   intro a o ho;cases q<;>simp[Bn]at ho
   case «mut» c=>rcases ho with rfl |ho;rfl;exact ih _ o ho
   case kx c=>
    rcases ho with rfl |ho;have h1:aO (vB c a.1)=[]:=by
     rw[<- iR,pR];generalize CT.row X.toSE c a.1=r
     induction r with
     |nil=>rfl
     |cons y ys ih=>simp[dh,refs,ih]
    simp[eo,h1];exact ih _ o ho
   all_goals exact ih _ o ho
 rw[hz l a o (bR ho)]at hj;cases hj
variable (T:ez)
def HF(s:ea X):ResultVar->Option (DV X)
 | .tmp t=>some (fh s.env t)
 | .cell a t=>(T t).bind λti=>match fh s.env a with
  | .ptr kk row aa=>(il s.obj kk).bind λo=>match o with
   | .cells _ rows=>(rows[row]?).bind λr=>Hu ti.agg ti.size ((r.drop aa).take ti.size)
   |_=>none
  |_=>none
def WU(s:ea X):List ResultVar->Option (List (DV X))
 |[]=>some []
 |r::rs=>(HF T s r).bind λv=>(WU s rs).bind λvs=>some (v::vs)
theorem alR{s:ea X}{r:ResultVar}{d:DV X}(h:HF T s r=some d):PW T s.st r=some (den d):=by
 cases r with
 |tmp t=>simp only[HF,bJ]at h;subst h;rfl
 |cell a t=>
  simp only[HF]at h;rw[ah]at h;obtain⟨ti,h1,h⟩:=h;split at h
  ·rename_i kk row aa hp;have⟨o,h2,h⟩:=ah.1 h;split at h
   ·have⟨q,h3,h⟩:=ah.1 h;have h4:=Cz h;rw[kE]at h4
    show(match UR T t (den (fh s.env a)) (λ k=>(il s.obj k).map bI)with
     |some ⟨v,[],[]⟩=>some v
     |_=>none)=some (den d)
    simp only[UR,KQ,h1,ai,hp,den,h2,Option.map_some,bI,List.getElem?_map,h3,h4,pv]
   ·cases h
  ·cases h
def Zr{A:Type}(s:ea X):List ResultVar->(List (DV X)->Option A)->Option A
 |[],k=>k []
 | .tmp t::rs,k=>Zr s rs λvs=>k (fh s.env t::vs)
 | .cell a t::rs,k=>(T t).bind λti=>match fh s.env a with
  | .ptr kk row aa=>(il s.obj kk).bind λo=>match o with
   | .cells _ rows=>(rows[row]?).bind λr=>(Hu ti.agg ti.size ((r.drop aa).take ti.size)).bind λv=>Zr s rs λvs=>k (v::vs)
   |_=>none
  |_=>none
theorem JL{A:Type}{s:ea X}:∀{rs:List ResultVar}{k:List (DV X)->Option A}{r:A},Zr T s rs k=some r->∃ds,WU T s rs=some ds/\k ds=some r
 |[],k,r,h=>⟨[],rfl,h⟩
 | .tmp t::rs,k,r,h=>by have⟨ds,h1,h2⟩:=JL (rs:=rs) h;exact⟨_,by simp only[WU,HF,h1,ai],h2⟩
 | .cell a t::rs,k,r,h=>by
  simp only[Zr]at h;rw[ah]at h;obtain⟨ti,h1,h⟩:=h;split at h
  ·rename_i kk row aa hp;have⟨o,h2,h⟩:=ah.1 h;split at h
   ·have⟨q,h3,h⟩:=ah.1 h;have⟨v,h4,h⟩:=ah.1 h;have⟨ds,h5,h6⟩:=JL (rs:=rs) h;exact⟨_,by simp only[WU,HF,h1,hp,h2,h3,h4,h5,ai],h6⟩
   ·cases h
  ·cases h
theorem Qh{s:ea X}:∀{rs:List ResultVar}{ds:List (DV X)},WU T s rs=some ds->nN T s.st rs=some (bG ds)
 |[],ds,h=>by simp[WU]at h;subst h;rfl
 |r::rs,ds,h=>by simp[WU]at h;have⟨d,h1,h⟩:=ah.1 h;have⟨ds',h2,h⟩:=ah.1 h;cases h;simp[nN,alR T h1,Qh h2,bG]
def Qi:List (RT X.ι)->List (DV X)->Option Nat
 | .mu _::l,ds=>Qi l ds
 | .mr _::l,ds=>Qi l ds
 | .mv::l,ds=>Qi l ds
 | .fresh _::l,d::ds=>match d with
  | .own k _ _=>some k
  |_=>Qi l ds
 | .d _::l,_::ds=>Qi l ds
 | .whole _::l,_::ds=>Qi l ds
 |_,_=>none
def zE:List (RT X.ι)->List (DV X)->List (Nat×Nat)
 | .mu _::l,ds=>zE l ds
 | .mr _::l,ds=>zE l ds
 | .mv::l,ds=>zE l ds
 | .whole j::l,d::ds=>match d with
  | .own _ _ len=>(j,len)::zE l ds
  |_=>zE l ds
 | .d _::l,_::ds=>zE l ds
 | .fresh _::l,_::ds=>zE l ds
 |_,_=>[]
def CU:Nat->List (RT X.ι)->List Nat
 |_,[]=>[]
 |n,.mu _::l=>n::CU (n+1) l
 |n,.mr _::l=>n::CU (n+1) l
 |n,.mv::l=>CU (n+1) l
 |n,_::l=>CU n l
def sR:Nat->List (RT X.ι)->List Nat
 |_,[]=>[]
 |n,.mu _::l=>n::sR (n+1) l
 |n,.mr _::l=>sR (n+1) l
 |n,.mv::l=>sR (n+1) l
 |n,_::l=>sR n l
def NX(bad:List Nat)(ks:List Nat):Bool:=ks.all λk=>!bad.contains k
def acy(get:Nat->Option (bp X))(row:List (DV X))(c:CT X.ι):Option (CT.T X.toSE c×List Bool):=
 match c with
 | .st i=>(Bj get row (X.d8 i)).bind λh=>some (X.make i h.1,h.2)
 |c=>match row with
  |[d]=>R9 get d c
  |_=>none
def Ib(get:Nat->Option (bp X))(c:CT X.ι):List (List (DV X))->Option (List (CT.T X.toSE c)×List Bool)
 |[]=>some ([],[])
 |r::rs=>(acy get r c).bind λx=>(Ib get c rs).bind λy=>some (x.1::y.1,x.2++y.2)
def Nv(get:Nat->Option (bp X))(bad sx:List Nat)(fk:Option Nat)(wl:List (Nat×Nat))(n:Nat):(q:RT X.ι)->List (DV X)->Option ((RT.T X q×List Bool)×List (DV X))
 | .d c,d::ds=>if NX bad (bm d)then(FM get d c).bind λx=>some (x,ds)else none
 | .fresh e,d::ds=>match d with
  | .nil=>some (([],[]),ds)
  | .own k 0 len=>if fk=some k then(get k).bind λo=>match o with
   | .ev b l=>(kU (.sl b) (.sl e) l).bind λ(l:List (CT.T X.toSE e))=>some ((sub l 0 len,[az (sub l 0 len).length len]),ds)
   | .cells sz rows=>if sz=CT.sz X e/\NX bad (rows.map aO).flatten=true then(Ib get e rows).bind λx=>some ((x.1,az len (List.length x.1)::x.2),ds)else none
   | .map _ _ _=>none
   else none
  |_=>none
 | .whole j,d::ds=>match d with
  | .own k 0 len=>if k=j/\sx.contains j=true then(lk wl j).bind λeL=>some (((),[az len eL]),ds)else none
  |_=>none
 | .mu c,ds=>(get n).bind λo=>match o with
  | .ev b l=>(kU (.sl b) (.sl c) l).bind λ(l:List (CT.T X.toSE c))=>match lk wl n with
   |some len=>some ((sub l 0 len,[az (sub l 0 len).length len]),ds)
   |none=>some ((l,[]),ds)
  |_=>none
 | .mr c,ds=>(get n).bind λo=>match o with
  | .cells sz [row]=>if sz=CT.sz X c/\NX bad (aO row)=true then(acy get row c).bind λx=>some (x,ds)else none
  |_=>none
 | .mv,ds=>some (((),[]),ds)
 |_,[]=>none
def Nw(get:Nat->Option (bp X))(bad sx:List Nat)(fk:Option Nat)(wl:List (Nat×Nat)):Nat->(l:List (RT X.ι))->(ds:List (DV X))->Option (sP X l×List Bool)
 |_,[],ds=>match ds with
  |[]=>some ((),[])
  |_=>none
 |n,[q],ds=>(Nv get bad sx fk wl n q ds).bind λp=>match p.2 with
  |[]=>some p.1
  |_=>none
 |n,q::q'::l,ds=>(Nv get bad sx fk wl n q ds).bind λp=>(Nw get bad sx fk wl (if q.out then n+1 else n) (q'::l) p.2).bind λy=>some ((p.1.1,y.1),p.1.2++y.2)
def SU(s:ea X)(l:List (RT X.ι))(ds:List (DV X)):Option (sP X l×List Bool):=
 if NX (CU 0 l) (Qi l ds).toList then Nw (il s.obj) (CU 0 l++(Qi l ds).toList) (sR 0 l) (Qi l ds) (zE l ds) 0 l ds else none
def ap3(rs:List ResultVar)(l:List (RT X.ι)):Exit->ea X->Option (sP X l)
 | .normal,s=>Zr T s rs λds=>(SU s l ds).bind λx=>V5 x.2 (some x.1)
 | .ret,s=>Zr T s rs λds=>(SU s l ds).bind λx=>V5 x.2 (some x.1)
 |_,_=>none
def exit(A:Type)(k:ea X->Option A):Exit->ea X->Option A
 | .normal,s=>k s
 | .ret,s=>k s
 |_,_=>none
variable {T}
section
variable {get:Nat->Option (bp X)} {fk:Option Nat} {os':List (Option dZ)} {bad:List Nat}
theorem Ep{ks:List Nat}(h:NX bad ks=true):∀j∈ks,j∉bad:=λj hj=>by simpa using all_eq_true.1 h j hj
theorem Qj(hbad:∀j,j∉bad->fk≠some j/\¬kept os' j){d:DV X}{c:CT X.ι}{x:CT.T X.toSE c×List Bool}(hc:c.one=true)(h:R9 get d c=some x)(hb:∀b∈x.2,b=true)(ov:∀j∈bm d,j∉bad):∃t,CT.tv X.toSE c x.1= .s t/\Bi (fB get) fk os' (den d) t:=by
 obtain⟨t,h1,h2⟩:=row_one hc x.1;refine⟨t,h2,?_⟩;have hbase:∀y,Ll d c=some y->y=x.1->Bi (fB get) fk os' (den d) t:=by intro y hy he;subst he;have h3:=wD hy;rw[h2]at h3;unfold Ll at hy;split at hy;rw[(oV hy).1];simp[den,h2,TV.av,Bi];simp[den,Gb.wk,TV.av]at h3;exact h3.symm;simp[den,Gb.wk,TV.av]at h3;exact h3.symm;cases hy
 unfold R9 at h;split at h;rename_i kk aa len e;rw[ah]at h;obtain⟨o,h3,h⟩:=h;split at h;rename_i b l0;rw[ah]at h;obtain⟨l,h4,h⟩:=h;cases h;have h5:(sub l aa len).length=len:=by simpa[az]using hb (az (sub l aa len).length len) (by simp)
 have⟨h6,h7⟩:=ji h4;obtain⟨hf1,hf2⟩:=hbad kk (ov kk (by simp[bm]));refine⟨hf1,hf2,bI (.ev b l0),(sub l aa len).map (CT.row X.toSE e),by simp[fB,h3],?_,by simpa using h5,?_⟩;simp[bI,h7];simp[aI,sub];simpa[CT.row]using h1.symm;cases h;rename_i kk aa len;rw[ah]at h;obtain⟨o,h3,h⟩:=h;split at h;rename_i b l0;cases h;have h5:(sub l0 aa len).length=len:=by simpa[az]using hb (az (sub l0 aa len).length len) (by simp)
 obtain⟨hf1,hf2⟩:=hbad kk (ov kk (by simp[bm]));refine⟨hf1,hf2,bI (.ev b l0),(sub l0 aa len).map (CT.row X.toSE b),by simp[fB,h3],?_,by simpa using h5,?_⟩;simp[bI];simp[aI,sub];simpa[CT.row]using h1.symm;cases h;rename_i kk len e;rw[ah]at h;obtain⟨o,h3,h⟩:=h;split at h;rename_i b l0;have⟨l,h4,h⟩:=ah.1 h;cases h;have h5:(sub l 0 len).length=len:=by simpa[az]using hb (az (sub l 0 len).length len) (by simp)
 have⟨h6,h7⟩:=ji h4;obtain⟨hf1,hf2⟩:=hbad kk (ov kk (by simp[bm]));refine⟨hf1,hf2,bI (.ev b l0),(sub l 0 len).map (CT.row X.toSE e),by simp[fB,h3],?_,by simpa using h5,?_⟩;simp[bI,h7];simp[aI,sub];simpa[CT.row]using h1.symm;cases h;have⟨y,h3,h⟩:=ah.1 h;injection h with h;exact hbase y h3 (by rw[<- h])
theorem LA(hbad:∀j,j∉bad->fk≠some j/\¬kept os' j):∀{ds:List (DV X)}{l:List (CT X.ι)}{h:HL X.toSE l×List Bool},Bj get ds l=some h->(∀ b∈h.2,b=true)->l.all CT.one=true->(∀ j∈aO ds,j∉bad)->mw (fB get) fk os' (bG ds) (HL.row X.toSE l h.1)
 |[],[],h,_,_,_,_=>trivial
 |d::ds,c::l,h,hr,hb,ha,ov=>by simp[Bj]at hr;have⟨x,h1,hr⟩:=ah.1 hr;have⟨g,h2,hr⟩:=ah.1 hr;cases hr;simp only[List.all_cons,aY]at ha;obtain⟨t,i1,i2⟩:=Qj hbad ha.1 h1 (λ b hb'=>hb b (by simp[hb'])) (λ j hj=>ov j (by simp[aO,hj]));have i3:=LA hbad h2 (λ b hb'=>hb b (by simp[hb'])) ha.2 (λ j hj=>ov j (by simp[aO,hj]));obtain⟨t',j1,j2⟩:=row_one ha.1 x.1;rw[i1]at j2;cases j2;show mw (fB get) fk os' (den d::bG ds) (CT.row X.toSE c x.1++HL.row X.toSE l g.1);rw[j1];exact⟨i2,i3⟩
 |[],_::_,_,hr,_,_,_ |_::_,[],_,hr,_,_,_=>by simp[Bj]at hr
theorem Sm(hbad:∀j,j∉bad->fk≠some j/\¬kept os' j){row:List (DV X)}{c:CT X.ι}{x:CT.T X.toSE c×List Bool}(h:acy get row c=some x)(hb:∀b∈x.2,b=true)(ov:∀j∈aO row,j∉bad):mw (fB get) fk os' (bG row) (CT.row X.toSE c x.1):=by
 cases c
 case st i=>
  replace h:(Bj get row (X.d8 i)).bind (λ h=>some (X.make i h.1,h.2))=some x:=h
  have⟨g,h1,h⟩:=ah.1 h;cases h;have:=LA hbad h1 hb (X.flat i) ov;show mw (fB get) fk os' (bG row) (X.row i (X.make i g.1));rw[X.gE];exact this
 all_goals
  match row,h,ov with
  |[d],h,ov=>
   obtain⟨t,i1,i2⟩:=Qj (fk:=fk) hbad rfl h hb (λ j hj=>ov j (by simp[aO,hj]));obtain⟨t',j1,j2⟩:=row_one rfl x.1;rw[i1]at j2;cases j2;rw[j1];exact⟨i2,trivial⟩
  |[],h,_ |_::_::_,h,_=>cases h
theorem Ny(hbad:∀j,j∉bad->fk≠some j/\¬kept os' j){c:CT X.ι}:∀{rows:List (List (DV X))}{x:List (CT.T X.toSE c)×List Bool},Ib get c rows=some x->(∀ b∈x.2,b=true)->(∀ j∈(rows.map aO).flatten,j∉bad)->eM (fB get) fk os' (rows.map bG) (x.1.map (CT.row X.toSE c))/\rows.length=List.length x.1
 |[],x,h,_,_=>by simp[Ib]at h;subst h;exact⟨trivial,rfl⟩
 |r::rs,x,h,hb,ov=>by simp[Ib]at h;have⟨y,h1,h⟩:=ah.1 h;have⟨z,h2,h⟩:=ah.1 h;cases h;have i1:=Sm hbad h1 (λ b hb'=>hb b (by simp[hb'])) (λ j hj=>ov j (by simp[hj]));obtain⟨i2,i3⟩:=Ny hbad h2 (λ b hb'=>hb b (by simp[hb'])) (λ j hj=>ov j (by simp only[bE,List.flatten_cons,bM];exact .inr hj));exact⟨⟨i1,i2⟩,by simp[i3]⟩
theorem alS{x:AV}{t:Tree}(h:Bi (fB get) fk os' x t):HD (fB get) fk os' x (.d (.s t)):=by cases x<;>first |exact h |exact h.elim
theorem Er(sz:CT X.ι)(l:List (CT.T X.toSE sz)):eM (fB get) fk os' (aI (l.map (CT.row X.toSE sz))) (l.map (CT.row X.toSE sz)):=by
 generalize l.map (CT.row X.toSE sz)=rows
 induction rows with
 |nil=>trivial
 |cons r rs ih=>
  refine⟨?_,ih⟩
  induction r with
  |nil=>trivial
  |cons y ys ih2=>exact⟨rfl,ih2⟩
theorem alT(hbad:∀j,j∉bad->fk≠some j/\¬kept os' j){c:CT X.ι}{d:DV X}{x:CT.T X.toSE c×List Bool}(h:FM get d c=some x)(ov:∀j∈bm d,j∉bad)(hb:∀b∈x.2,b=true):HD (fB get) fk os' (den d) (.d (CT.tv X.toSE c x.1)):=by
 cases c
 case st i=>
  replace h:HJ get d i=some x:=h
  cases d
  case agg cs=>
   simp[HJ]at h;have⟨g,h1,h⟩:=ah.1 h;cases h;have:=LA (fk:=fk) hbad h1 hb (X.flat i) (by simpa[bm]using ov);show mw (fB get) fk os' (bG cs) (X.row i (X.make i g.1));rw[X.gE];exact this
  case c a y=>
   simp[HJ]at h;have⟨z,h1,h⟩:=ah.1 h;cases h;rw[(oV h1).1];show mw (fB get) fk os' ((X.row i z).map AV.t) (X.row i z);generalize X.row i z=l
   induction l with
   |nil=>trivial
   |cons y ys ih=>exact⟨rfl,ih⟩
  all_goals cases h
 all_goals
  have⟨t,i1,i2⟩:=Qj (fk:=fk) hbad rfl h hb ov;rw[i1];exact alS i2
theorem WV{sx:List Nat}{wl:List (Nat×Nat)}{ns:List Nat}{n:Nat}(hbad:∀j,j∉bad->fk≠some j/\¬kept os' j)(sg:∀k,fk=some k->¬kept os' k)(hns:∀j eL,j∈sx->lk wl j=some eL->ns.getD j 0=eL)(hmu:∀j∈sx,kept os' j){q:RT X.ι}{ds:List (DV X)}{p:(RT.T X q×List Bool)×List (DV X)}(h:Nv get bad sx fk wl n q ds=some p)(hb:∀b∈p.1.2,b=true):
 (∀ cs,oB (fB get) fk os' (bG p.2) cs->oB (fB get) fk os' (bG ds) (Wq ns q p.1.1++cs))/\
 (∀ t,ff q p.1.1=[some t]->∃o,get n=some o/\(bI o).sz=t.1/\eM (fB get) fk os' ((bI o).rows.take t.2.length) t.2)/\
 (∀ eL c,q= .mu c->lk wl n=some eL->Zn q p.1.1=[eL]):=by
 cases q
 case d c=>
  cases ds with
  |nil=>simp[Nv]at h
  |cons d ds=>
   simp only[Nv]at h;split at h;rename_i hnb;rw[ah]at h;obtain⟨x,h1,h⟩:=h;cases h;exact⟨λ cs hcs=>⟨alT hbad h1 (Ep hnb) hb,hcs⟩,λt ht=>by simp[ff]at ht,λ_ _ h=>by cases h⟩;cases h
 case fresh e=>
  cases ds with
  |nil=>simp[Nv]at h
  |cons d ds=>
   refine⟨λ cs hcs=>?_,λt ht=>by simp[ff]at ht,λ_ _ h=>by cases h⟩;simp[Nv]at h;split at h;cases h;exact⟨rfl,hcs⟩;rename_i k len;split at h;rename_i ov;rw[ah]at h;obtain⟨o,h1,h⟩:=h;split at h;rename_i b l0;rw[ah]at h;obtain⟨l,h2,h⟩:=h;cases h;have⟨h3,h4⟩:=ji h2;have h5:(sub l 0 len).length=len:=(by simpa[az]using hb (az (sub l 0 len).length len) (by simp));refine⟨⟨ov,sg k ov,rfl,bI (.ev b l0),by simp[fB,h1],by exact h3,?_,by simpa using h5⟩,hcs⟩;have e1:(bI (.ev b l0)).rows.take len=aI ((sub l 0 len).map (CT.row X.toSE e)):=(by simp[bI,h4];simp[aI,sub]);rw[e1];exact Er e _;rename_i sz rows;split at h;rename_i hc;rw[ah]at h;obtain⟨x,h2,h⟩:=h;cases h;obtain⟨i1,i2⟩:=Ny (fk:=fk) hbad h2 (λ b hb'=>hb b (by simp[hb'])) (Ep hc.2);have h5:len=List.length x.1:=(by simpa[az]using hb (az len (List.length x.1)) (by simp));refine⟨⟨ov,sg k ov,rfl,bI (.cells sz rows),by simp[fB,h1],hc.1,?_,by simpa using h5.symm⟩,hcs⟩;simp[bI];rw[List.take_of_length_le (by simp;omega)];exact i1;cases h;cases h;cases h;cases h
 case whole j=>
  cases ds with
  |nil=>simp[Nv]at h
  |cons d ds=>
   refine⟨λ cs hcs=>?_,λt ht=>by simp[ff]at ht,λ_ _ h=>by cases h⟩;simp[Nv]at h;split at h;rename_i k len;split at h;rename_i hc;obtain⟨rfl,hm⟩:=hc;rw[ah]at h;obtain⟨eL,h1,h⟩:=h;cases h;have h5:len=eL:=(by simpa[az]using hb (az len eL) (by simp));have hm:k∈sx:=(by simpa using hm);refine⟨⟨rfl,rfl,?_,hmu k hm⟩,hcs⟩;rw[h5];exact hns k eL hm h1;cases h;cases h
 case mu c=>
  simp[Nv]at h;rw[ah]at h;obtain⟨o,h1,h⟩:=h;split at h;rename_i b l0;rw[ah]at h;obtain⟨l,h2,h⟩:=h;have⟨h3,h4⟩:=ji h2;split at h;rename_i len hl;cases h;have h5:(sub l 0 len).length=len:=by simpa[az]using hb (az (sub l 0 len).length len) (by simp)
  refine⟨λ cs hcs=>hcs,λt ht=>?_,λeL c' _ hl'=>?_⟩;simp[ff]at ht;subst ht;refine⟨_,h1,by exact h3,?_⟩;have e1:(bI (.ev b l0)).rows.take (uV c (sub l 0 len)).2.length=aI (uV c (sub l 0 len)).2:=by simp[bI,h4,uV];simp[aI,sub]
  rw[e1];exact Er c _;rw[hl]at hl';injection hl' with hl';subst hl';simp[Zn,h5];rename_i hl;cases h;refine⟨λ cs hcs=>hcs,λt ht=>?_,λeL c' _ hl'=>by rw[hl]at hl';cases hl'⟩;simp[ff]at ht;subst ht;refine⟨_,h1,by simp[uV];exact h3,?_⟩;have e1:(bI (.ev b l0)).rows.take (uV c l).2.length=aI (uV c l).2:=by simp[bI,h4,uV];rw[List.take_of_length_le (by simp[aI])]
  rw[e1];exact Er c _;cases h
 case mr c=>
  simp[Nv]at h;rw[ah]at h;obtain⟨o,h1,h⟩:=h;split at h;rename_i sz row;split at h;rename_i hc;have⟨x,h2,h⟩:=ah.1 h;cases h;refine⟨λ cs hcs=>hcs,λt ht=>?_,λ_ _ h=>by cases h⟩;simp[ff,List.cons.injEq,bJ,and_true]at ht;subst ht;refine⟨_,h1,by simp[bI,uV];exact hc.1,?_⟩;exact⟨Sm hbad h2 hb (Ep hc.2),trivial⟩;cases h;cases h
 case mv=>
  simp[Nv,bJ]at h;subst h;exact⟨λ cs hcs=>hcs,λt ht=>by simp[ff]at ht,λ_ _ h=>by cases h⟩
theorem Ic{q:RT X.ι}{x:RT.T X q}:(ff q x).length=(if q.out then 1 else 0)/\(Zn q x).length=(if q.out then 1 else 0):=by cases q<;>exact⟨rfl,rfl⟩
theorem Ie{n j:Nat}{q:RT X.ι}{l:List (RT X.ι)}:j∈sR n (q::l)->(j=n/\∃c,q= .mu c)\/j∈sR (if q.out then n+1 else n) l:=by
 cases q<;>simp only[sR,RT.out,if_true,Bool.false_eq_true,if_false,aH]
 case mu c=>exact λh=>h.imp (λ h=>⟨h,c,rfl⟩) id
 all_goals exact .inr
theorem ahd{j:Nat}:∀{l:List (RT X.ι)}{n:Nat},j∈sR n l->n<=j
 |[],n,h=>by simp[sR]at h
 |q::l,n,h=>by rcases Ie h with ⟨rfl,_⟩ |h;exact aB _;have:=ahd h;split at this<;>omega
theorem aex:∀{l:List (RT X.ι)}{x:sP X l}{n j:Nat},j∈sR n l->∃p,(oF l x)[j -n]? =some (some p)
 |[],x,n,j,h=>by simp[sR]at h
 |[q],x,n,j,h=>by rcases Ie h with ⟨rfl,c,rfl⟩ |h;exact⟨_,by simp;rfl⟩;simp[sR]at h
 |q::q'::l,x,n,j,h=>by
  rcases Ie h with ⟨rfl,c,rfl⟩ |h;exact⟨_,by simp;rfl⟩;have⟨p,hp⟩:=aex (l:=q'::l) (x:=x.2) h;have hge:=ahd h;refine⟨p,?_⟩;show(ff q x.1++oF (q'::l) x.2)[j -n]? =_;have hl:=(Ic (q:=q) (x:=x.1)).1
  all_goals grind
theorem CV:∀{l:List (RT X.ι)}{x:sP X l}{n j:Nat}{p:dZ},(oF l x)[j]? =some (some p)->n+j∈CU n l
 |[],x,n,j,p,h=>by simp[oF]at h
 |[q],x,n,j,p,h=>by
  have h:(ff q x)[j]? =some (some p):=h;cases q<;>simp[ff]at h
  case mu c=>cases j<;>simp at h<;>simp[CU]
  case mr c=>cases j<;>simp at h<;>simp[CU]
  case mv=>cases j<;>simp at h
 |q::q'::l,x,n,j,p,h=>by
  have h:(ff q x.1++oF (q'::l) x.2)[j]? =some (some p):=h;cases q
  case mu c=>
   rcases j with _ |j;simp[CU];have:=CV (l:=q'::l) (x:=x.2) (n:=n+1) (by simpa[ff]using h);right;rw[show n+(j+1)=n+1+j by omega];exact this
  case mr c=>
   rcases j with _ |j;simp[CU];have:=CV (l:=q'::l) (x:=x.2) (n:=n+1) (by simpa[ff]using h);right;rw[show n+(j+1)=n+1+j by omega];exact this
  case mv=>
   rcases j with _ |j;simp[ff]at h;have:=CV (l:=q'::l) (x:=x.2) (n:=n+1) (by simpa[ff]using h);rw[show n+(j+1)=n+1+j by omega];exact this
  all_goals
   exact CV (l:=q'::l) (x:=x.2) (by simpa[ff]using h)
theorem aey{sx:List Nat}{wl:List (Nat×Nat)}{n:Nat}{q:RT X.ι}{ds:List (DV X)}{p:(RT.T X q×List Bool)×List (DV X)}(h:Nv get bad sx fk wl n q ds=some p)(hb:∀b∈p.1.2,b=true):∀eL c,q= .mu c->lk wl n=some eL->Zn q p.1.1=[eL]:=by
 rintro eL c rfl hl;simp[Nv]at h;have⟨o,h1,h⟩:=ah.1 h;split at h;have⟨l,h2,h⟩:=ah.1 h;rw[hl]at h;cases h;have h5:(sub l 0 eL).length=eL:=by simpa[az]using hb (az (sub l 0 eL).length eL) (by simp)
 simp[Zn,h5];cases h
theorem LB{sx:List Nat}{wl:List (Nat×Nat)}:∀{n:Nat}{l:List (RT X.ι)}{ds:List (DV X)}{x:sP X l×List Bool},Nw get bad sx fk wl n l ds=some x->(∀ b∈x.2,b=true)->∀j eL,n+j∈sR n l->lk wl (n+j)=some eL->(zp l x.1).getD j 0=eL
 |n,[],ds,x,h,hb,j,eL,hm,_=>by simp[sR]at hm
 |n,[q],ds,x,h,hb,j,eL,hm,hl=>by
  simp[Nw]at h;have⟨p,h1,h⟩:=ah.1 h;split at h;cases h;rcases Ie hm with ⟨e,c,rfl⟩ |hm;have e:j=0:=by omega
  subst e;have:=(aey h1 hb) eL c rfl hl;show(Zn _ p.1.1).getD 0 0=eL;rw[this];rfl;simp[sR]at hm;cases h
 |n,q::q'::l,ds,x,h,hb,j,eL,hm,hl=>by
  simp[Nw]at h;have⟨p,h1,h⟩:=ah.1 h;have⟨y,h2,h⟩:=ah.1 h;cases h;have hlen:=(Ic (q:=q) (x:=p.1.1)).2;rcases Ie hm with ⟨e,c,rfl⟩ |hm;have e:j=0:=by omega
  subst e;have:=(aey h1 (λ b hb'=>hb b (by simp[hb']))) eL c rfl hl;show(Zn _ p.1.1++zp (q'::l) y.1).getD 0 0=eL;rw[this];rfl;have hge:=ahd hm;show(Zn _ p.1.1++zp (q'::l) y.1).getD j 0=eL;by_cases hq:q.out=true;rw[aS hq]at h2 hm hge hlen;have:=LB h2 (λ b hb'=>hb b (by simp[hb'])) (j -1) eL ((show n+1+(j -1)=n+j by omega) ▸ hm) ((show n+1+(j -1)=n+j by omega) ▸ hl);rw[List.getD_eq_getElem?_getD,qd (by omega),hlen];exact this;rw[aR hq]at h2 hm hge hlen;have:=LB h2 (λ b hb'=>hb b (by simp[hb'])) j eL hm hl;rw[List.getD_eq_getElem?_getD,qd (by omega),hlen];exact this
theorem aa8{sx:List Nat}{wl:List (Nat×Nat)}{ns:List Nat}(hbad:∀j,j∉bad->fk≠some j/\¬kept os' j)(sg:∀k,fk=some k->¬kept os' k)(hns:∀j eL,j∈sx->lk wl j=some eL->ns.getD j 0=eL)(hmu:∀j∈sx,kept os' j):∀{n:Nat}{l:List (RT X.ι)}{ds:List (DV X)}{x:sP X l×List Bool},Nw get bad sx fk wl n l ds=some x->(∀ b∈x.2,b=true)->
 oB (fB get) fk os' (bG ds) (Bh ns l x.1)/\∀j t,(oF l x.1)[j]? =some (some t)->∃o,get (n+j)=some o/\(bI o).sz=t.1/\eM (fB get) fk os' ((bI o).rows.take t.2.length) t.2
 |n,[],ds,x,h,_=>by simp[Nw]at h;split at h;exact⟨trivial,λj t ht=>by simp[oF]at ht⟩;cases h
 |n,[q],ds,x,h,hb=>by
  simp[Nw]at h;rw[ah]at h;obtain⟨p,h1,h⟩:=h;split at h;rename_i hp;cases h;have⟨i1,i2,_⟩:=WV (ns:=ns) hbad sg hns hmu h1 hb;rw[hp]at i1;have:=i1 [] trivial;rw[append_nil]at this;refine⟨this,λj t ht=>?_⟩;have ht:(ff q p.1.1)[j]? =some (some t):=ht;have hl:=(Ic (q:=q) (x:=p.1.1)).1;have hj:=(bZ.1 ht).1;have hj0:j=0:=by split at hl<;>omega
  subst hj0;refine i2 t ?_
  match ho:ff q p.1.1,ht,hl with
  |[z],ht,_=>simpa using ht
  |[],ht,_=>simp at ht
  |_::_::_,_,hl=>simp at hl;split at hl<;>omega
  cases h
 |n,q::q'::l,ds,x,h,hb=>by
  simp[Nw]at h;have⟨p,h1,h⟩:=ah.1 h;have⟨y,h2,h⟩:=ah.1 h;cases h;obtain⟨i1,i2,_⟩:=WV (ns:=ns) hbad sg hns hmu h1 (λ b hb'=>hb b (by simp[hb']));obtain⟨k1,k2⟩:=aa8 (ns:=ns) hbad sg hns hmu h2 (λ b hb'=>hb b (by simp[hb']));refine⟨i1 _ k1,λj t ht=>?_⟩;have ht:(ff q p.1.1++oF (q'::l) y.1)[j]? =some (some t):=ht;have hl:=(Ic (q:=q) (x:=p.1.1)).1;by_cases hq:q.out=true;rw[aS hq]at k2 hl;cases j with
  |zero=>
   refine i2 t ?_
   match ho:ff q p.1.1,ht,hl with
   |[z],ht,_=>simpa using ht
   |[],_,hl |_::_::_,_,hl=>simp at hl
  |succ j=>
   rw[qd (by omega),hl,Nat.add_sub_cancel]at ht;rw[show n+(j+1)=n+1+j by omega];exact k2 j t ht
  rw[aR hq]at k2 hl;rw[qd (by omega),hl,Nat.sub_zero]at ht;exact k2 j t ht
end
theorem oB.R{get:Nat->Option aK}{fk:Option Nat}{os':List (Option dZ)}:∀{xs:List AV}{cs:List RC},oB get fk os' xs cs->HC get fk os' xs (match cs with |[c]=> .one c |cs=> .en cs)
 |[],[],_=>rfl
 |[_],[_],h=>h.1
 |_::_::_,_::_::_,h=>h
 |[],_::_,h |_::_,[],h=>h.elim
 |[_],_::_::_,h |_::_::_,[_],h=>h.2.elim
theorem alU{s:ea X}{rs:List ResultVar}{l:List (RT X.ι)}{r:sP X l}(h:(Zr T s rs λds=>(SU s l ds).bind λx=>V5 x.2 (some x.1))=some r):∃xs fk,nN T s.st rs=some xs/\HC s.st.obj fk (oF l r) xs (tq l r)/\Q4 s.st.obj fk (oF l r):=by
 have⟨ds,h1,h⟩:=JL T h;rw[ah]at h;obtain⟨x,h2,h⟩:=h;have⟨h3,h⟩:=qh h;cases h;unfold SU at h2;split at h2;rename_i hnb;have hkn:∀j,kept (oF l x.1) j->j∈CU 0 l:=λj ⟨p,hp⟩=>by have:=CV (n:=0) hp;simpa using this
 have hbad:∀j,j∉CU 0 l++(Qi l ds).toList->Qi l ds≠some j/\¬kept (oF l x.1) j:=by intro j hj;simp at hj;exact⟨hj.2,λh=>hj.1 (hkn j h)⟩
 have sg:∀k,Qi l ds=some k->¬kept (oF l x.1) k:=λk hk hkk=>Ep hnb k (by simp[hk]) (hkn k hkk);have hmu:∀j∈sR 0 l,kept (oF l x.1) j:=λj hj=>by have⟨p,hp⟩:=aex (x:=x.1) hj;exact⟨p,by simpa using hp⟩
 obtain⟨i1,i2⟩:=aa8 (ns:=zp l x.1) hbad sg (λ j eL hj hl=>LB h2 h3 j eL (by simpa using hj) (by simpa using hl)) hmu h2 h3;have jz:s.st.obj=fB (il s.obj):=rfl;refine⟨bG ds,Qi l ds,Qh T h1,?_,λj p hp=>?_⟩;exact i1.R;have⟨o,g1,g2,g3⟩:=i2 j p hp;rw[Nat.zero_add]at g1;exact⟨λ e=>sg j e ⟨p,hp⟩,bI o,by rw[jz];simp[fB,g1],g2,by rw[jz];exact g3⟩;cases h2
variable {Γ:FuncId->Option (cm X)} {code:TypeId->Option (CT X.ι)} {P:Program}
theorem ap4(hT : eX P T)(hm : P.follows .mixedOrders = true)(hΓ : tj P Γ){f : FuncId}{fn : Func}{c : Code}(hfn : P.funcs[f]? = some fn)(hb : fn.body = some c)(hname : (fn.name == "runtime.NumGoroutine") = false)(sa : List (AT X.ι))(sr : List (RT X.ι))(hN : sa.length <= fn.ntmps /\ wH sa <= 1000 /\ (sr.filter RT.out).length = wH sa)
 (h:Hn X.ι) (n:Nat) {a:iW X sa} {r:sP X sr} (hr:run Γ T code fn.ntmps n c (sP X sr) h (Cd sa a) (ap3 T fn.results.toList sr)=some r):qu P f (yJ sa a) (uW sa a) (oF sr r) (tq sr r):=by
 have hl:(oF sr r).length=(uW sa a).length:=by
  rw[wJ,<- hN.2.2];have:∀(sr:List (RT X.ι))(r:sP X sr),(oF sr r).length=(sr.filter RT.out).length:=by
   intro sr
   induction sr with
   |nil=>intro r;rfl
   |cons q l ih=>
    intro r;have hq:∀x:RT.T X q,(ff q x).length=(if q.out then 1 else 0):=λx=>Ic.1;cases l with
    |nil=>
     show(ff q r).length=_;rw[hq];by_cases e:q.out=true<;>simp[e]
    |cons q' l=>
     show(ff q r.1++oF (q'::l) r.2).length=_;rw[fe,hq,ih r.2];by_cases e:q.out=true<;>simp[e];omega
  exact this sr r
 refine PX hT hfn hb hname (by rw[tH];exact hN.1) (λ k hk=>?_) (by rw[wJ];exact hN.2.1) hl ?_;rw[yJ,<- yw,iR]at hk;have:=pV 0 sa a k hk;have:=hN.2.1;omega;rw[<- apj];refine(kY hT hm hΓ c _ h _ _ r (anS sa a hN.2.1) hr).mono ?_;rintro e σ ⟨s',_,_,rfl,g4⟩;cases e<;>first |exact alU g4 |cases g4
theorem pW{f : FuncId}{fn : Func}{c : Code}(hfn : P.funcs[f]? = some fn)(hb : fn.body = some c)(hname : (fn.name == "runtime.NumGoroutine") = false): dU P f := ⟨fn, hfn, by rw [hb]; rfl, hname⟩
abbrev GW(P:Program)(f:FuncId)(s:cm X):Prop:=dU P f/\(∀ a r,s.fn a=some r->qu P f (yJ s.args a) (uW s.args a) (oF s.res r) (tq s.res r))/\∀g,s.gen=some g->MY P f g
theorem vx{P:Program}{f:FuncId}{s:cm X}(h:dU P f)(h1:∀a r,s.fn a=some r->qu P f (yJ s.args a) (uW s.args a) (oF s.res r) (tq s.res r))(hg:s.gen=none):GW P f s:=by grind
theorem apk{P:Program}{f:FuncId}{g:dE X}(h:dU P f)(hg:MY P f g):GW P f ⟨[],[.d .bool],λ_=>none,some g⟩:=by grind
def pL(s t:cm X):cm X:=⟨s.args,s.res,s.fn,t.gen⟩
def yv(l:List (FuncId×cm X)):FuncId->Option (cm X):=λf=>lk l f
theorem ay:tj P (yv ([]:List (FuncId×cm X))):=λ_ _ h=>by cases h
theorem ak{f:FuncId}{s:cm X}{l:List (FuncId×cm X)}(h:GW P f s)(hl:tj P (yv l)):tj P (yv ((f,s)::l)):=by intro g q hg;simp[yv,lk]at hg;split at hg;rename_i e;cases hg;subst e;exact h;exact hl g q hg
end
section
variable {X:SX} {T:ez}
theorem LC(ol:Nat->Nat):∀(ps:List (Pt X.ι))(L:List (DC X)),(l4 ol ps L).1.length=ps.length
 |[],_=>rfl
 |p::ps,L=>by simp[l4,LC ol ps]
def dE.Cl(g:dE X):Bool:=
 decide (g.ju.map (·.1)=List.range g.ju.length)&&decide (g.ju.length<=1000)&&((Bl g.qq).all λk=>Nat.blt k 1000)&&g.ju.all λq=>q.2.refs.all λk=>Nat.blt k 1000
def HE(g:dE X)(v:VT (X:=X) (c9 g.qq++d7 g.ju)):ea X:=⟨(List.range g.qq.length).zip (g.args v),N5 g.qq g.ju (wF _ v),1000,[]⟩
theorem vD{ol:Nat->Nat}:∀(O:List (Nat×OP X.ι))(L:List (DC X)),bU ol O L=(dn (bU ol O L)).map λp=>(p.1,some p.2)
 |[],L=>rfl
 |(k,.l c)::O,L=>by
  match L with
  |[]=>rfl
  |⟨.sl c',x⟩::L=>simp[bU,dn];rw[<- vD O L]
  |⟨.int _,x⟩::L |⟨.bool,x⟩::L |⟨.str,x⟩::L |⟨.any,x⟩::L |⟨.st _,x⟩::L |⟨.mp _ _,x⟩::L=>rfl
 |(k,.m kc vc)::O,L=>by
  match L with
  |[]=>rfl
  |⟨.mp _ _,x⟩::L=>simp[bU,dn];rw[<- vD O L]
  |⟨.sl _,x⟩::L |⟨.int _,x⟩::L |⟨.bool,x⟩::L |⟨.str,x⟩::L |⟨.any,x⟩::L |⟨.st _,x⟩::L=>rfl
 |(k,.c sz rows)::O,L=>by simp[bU,dn];rw[<- vD O _]
theorem Es{ol:Nat->Nat}:∀(O:List (Nat×OP X.ι))(L:List (DC X)),L.map (·.c)=d7 O->(dn (bU ol O L)).map (·.1)=O.map (·.1)
 |[],L,_=>rfl
 |(k,.l c)::O,L,h=>by
  match L,h with
  |⟨.sl c',x⟩::L,h=>
   simp[d7]at h;simp[bU,dn,Es O L h.2]
  |[],h |⟨.int _,x⟩::L,h |⟨.bool,x⟩::L,h |⟨.str,x⟩::L,h |⟨.any,x⟩::L,h |⟨.st _,x⟩::L,h |⟨.mp _ _,x⟩::L,h=>simp[d7]at h
 |(k,.m kc vc)::O,L,h=>by
  match L,h with
  |⟨.mp _ _,x⟩::L,h=>
   simp[d7]at h;simp[bU,dn,Es O L h.2]
  |[],h |⟨.sl _,x⟩::L,h |⟨.int _,x⟩::L,h |⟨.bool,x⟩::L,h |⟨.str,x⟩::L,h |⟨.any,x⟩::L,h |⟨.st _,x⟩::L,h=>simp[d7]at h
 |(k,.c sz rows)::O,L,h=>by simp[bU,dn,Es O _ (Lv (ol:=ol) rows L _ h).1]
theorem aj3(g:dE X)(v:VT (X:=X) (c9 g.qq++d7 g.ju))(h:g.ju.map (·.1)=List.range g.ju.length):(g.de v).map (·.1)=List.range (g.de v).length:=by have e:(g.de v).map (·.1)=g.ju.map (·.1):=Es g.ju _ (by rw[List.map_drop,ag7,List.drop_left]);have l:=congrArg List.length e;rw[length_map,length_map]at l;rw[e,h,l]
theorem WW(k:Nat):∀l:List (Nat×bp X),il (l.map λp=>(p.1,some p.2)) k=uc l k
 |[]=>rfl
 |p::l=>by simp[il,lk,uc];split;rfl;exact WW k l
theorem alV(t:Nat):∀(ks:List Nat)(ds:List (DV X)),den (fh (ks.zip ds) t)=(lk (ks.zip (bG ds)) t).getD .undef:=by
 intro ks
 induction ks with
 |nil=>intro ds;rfl
 |cons k ks ih=>
  intro ds;cases ds with
  |nil=>rfl
  |cons d ds=>
   simp[fh,lk,bG];by_cases h:k=t;simp[h];simp[aR h];exact ih ds
theorem aa9(t:Nat):∀(ks:List Nat)(ds:List (DV X)),∀j∈bm (fh (ks.zip ds) t),j∈aO ds:=by
 intro ks
 induction ks with
 |nil=>intro ds j hj;simp[fh,lk,bm]at hj
 |cons k ks ih=>
  intro ds j hj;cases ds with
  |nil=>simp[fh,lk,bm]at hj
  |cons d ds=>
   simp[fh,lk]at hj;simp[aO];by_cases e:k=t;simp[aS e]at hj;exact .inl hj;simp[aR e]at hj;exact .inr (ih ds j hj)
def Et(O:List (Nat×OP X.ι)):List (Nat×Pt X.ι)->List (Nat×CT X.ι)
 |[]=>[]
 |(t,.o k)::r=>match lk O k with
  |some (.l c)=>(t,c)::Et O r
  |_=>Et O r
 |(t,.oz k)::r=>match lk O k with
  |some (.l c)=>(t+1099511627776,c)::Et O r
  |_=>Et O r
 |_::r=>Et O r
def WX(O:List (Nat×OP X.ι)):List (Nat×OP X.ι)->List (Nat×CT X.ι)
 |(q,.c _ [row])::r=>(Et O (ma (1000000+q*4096) row)).filter (λ p=>Nat.ble p.1 1000000000)++WX O r
 |_::r=>WX O r
 |[]=>[]
def Ai(g:dE X):Sh X.ι:=⟨ma 0 g.fY,g.jt,[],[],1000000,Et g.jt (ma 0 g.fY)++WX g.jt g.jt⟩
def aoR(T:ez)(rs:List ResultVar)(g:dE X):Exit->ea X->Option (VT (X:=X) (Ai g).vars)
 | .normal,s=>Zr T s rs λds=>bif decide (ds.length=g.fY.length)&&(aO ds).all (λ k=>Nat.blt k s.nx)then
  tF (Ai g) (List.range ds.length) ⟨(List.range ds.length).zip ds,s.obj,s.nx,s.log⟩ ⟨(List.range ds.length).zip ds,s.obj,s.nx,s.log⟩ some else none
 | .ret,s=>Zr T s rs λds=>bif decide (ds.length=g.fY.length)&&(aO ds).all (λ k=>Nat.blt k s.nx)then
  tF (Ai g) (List.range ds.length) ⟨(List.range ds.length).zip ds,s.obj,s.nx,s.log⟩ ⟨(List.range ds.length).zip ds,s.obj,s.nx,s.log⟩ some else none
 |_,_=>none
theorem WY{ol:Nat->Nat}(t:Nat):∀(n:Nat)(ps:List (Pt X.ι))(L:List (DC X)),fh (Lr ol (ma n ps) L) (n+t)=((l4 ol ps L).1[t]?).getD .undef
 |n,[],L=>by simp[ma,Lr,fh,lk,l4]
 |n,p::ps,L=>by
  simp[ma,Lr,fh,lk,l4];cases t with
  |zero=>simp
  |succ t=>
   have:=WY (ol:=ol) t (n+1) ps (eP ol p L).2;rw[show n+1+t=n+(t+1)by omega]at this;simpa[fh]using this
theorem aj4 {P:Program} {g:dE X} {s:ea X} {rs:List ResultVar} {r:VT (X:=X) (Ai g).vars} (hl:Low s) (h:(Zr T s rs λds=>bif decide (ds.length=g.fY.length)&&(aO ds).all (λ k=>Nat.blt k s.nx)then
 tF (Ai g) (List.range ds.length) ⟨(List.range ds.length).zip ds,s.obj,s.nx,s.log⟩ ⟨(List.range ds.length).zip ds,s.obj,s.nx,s.log⟩ some else none)=some r):
 ∃xs,nN T s.st rs=some xs/\Q3 P s.st.obj xs (sZ (g.outs r)) (den (g.res r)):=by
 have⟨ds,h1,h⟩:=JL T h;have⟨h2,h⟩:=dN h;simp only[aY,bD]at h2;obtain⟨h2,h3⟩:=h2;have hl':Low (⟨(List.range ds.length).zip ds,s.obj,s.nx,s.log⟩:ea X):=⟨hl.le,hl.ge,λt k hk=>by have:=all_eq_true.1 h3 k (aa9 t _ _ k hk);exact Nat.blt_eq.mp this,hl.obj⟩;obtain⟨v,h4,_,_,hrel⟩:=lK hl' hl' (Ext.refl _ _) h;injection h4 with h4;subst h4;refine⟨bG ds,Qh T h1,λw0 O0 β I w vs hM hv=>?_⟩;have hvl:=be.length _ _ hv;simp[lI]at hvl;have hR:Rel P w0 O0 vs.size β I (⟨(List.range ds.length).zip ds,s.obj,s.nx,s.log⟩:ea X).st { tmps:=vs,defers:=[] } w:=by
  refine⟨rfl,rfl,λt=>?_,hM⟩;show VR P β w I (den (fh ((List.range ds.length).zip ds) t)) (vs.getD t undef);rw[alV,show List.range ds.length=List.range (bG ds).length by rw[lI],Bf];cases ht:(bG ds)[t]? with
  |none=>simp[VR]
  |some x=>
   obtain⟨u,g1,g2⟩:=be.get _ _ t _ hv ht;rw[Array.getElem?_toList]at g1;simp[g1];exact g2
 obtain⟨β',hR'⟩:=hrel P w0 O0 _ β I _ w hR;have hn:(iz (ma 0 g.fY)).length=(c9 g.fY).length:=by rw[P8]
 refine⟨β',I,?_,λ_ h=>h,?_⟩;have:=hR'.mem;have e:(encS (Ai g) ⟨(List.range ds.length).zip ds,s.obj,s.nx,s.log⟩ v).st.obj=pj (sZ (g.outs v)):=by funext k;simp[ea.st,encS,Ai,Qd,dE.outs,N5];rw[vD,WW,<- hn];rfl
 rw[e]at this;exact this;obtain⟨pv,hpv⟩:∃pv,pv=Wp g.fY g.jt (wF (Ai g).vars v):=⟨_,rfl⟩;have hres:g.res v=yI pv:=by rw[hpv];rfl
 have s7:∀t,VR P β' w I (den ((pv[t]?).getD .undef)) (vs.getD t undef):=by intro t;have:=hR'.env t;simp only[ea.st,fx,encS,Ai,List.map_nil,append_nil]at this;have e:=WY (ol:=Eh g.jt ((wF (Ai g).vars v).drop (c9 g.fY).length)) t 0 g.fY ((wF (Ai g).vars v).take (c9 g.fY).length);rw[Nat.zero_add]at e;rw[hpv];simp only[Wp];rw[<- e,<- hn];exact this
 have hpl:pv.length=g.fY.length:=by rw[hpv];exact LC _ _ _
 have hsz:vs.size=pv.length:=by rw[hpl,<- h2,hvl]
 rw[hres];have hall:be P β' w I (bG pv) vs.toList:=by
  have gen:∀(pv:List (DV X))(us:List Value),us.length=pv.length->(∀ t,t<pv.length->VR P β' w I (den ((pv[t]?).getD .undef)) (us.getD t undef))->be P β' w I (bG pv) us:=by
   intro pv
   induction pv with
   |nil=>intro us hl _;cases us<;>simp_all [bG,be]
   |cons d pv ih=>
    intro us hl hh;cases us with
    |nil=>simp at hl
    |cons u us=>
     simp[bG];refine⟨by simpa using hh 0 (by simp),ih us (by simpa using hl) λt ht=>by simpa using hh (t+1) (by simpa using ht)⟩
  refine gen pv vs.toList (by simpa using hsz) λt ht=>?_;have e:vs.toList.getD t undef=vs.getD t undef:=by simp
  rw[e];exact s7 t
 match pv,hsz,hall with
 |[d],hsz,hall=>
  obtain⟨u,rfl⟩:=Array.size_eq_one_iff.1 (show vs.size=1 by simpa using hsz);simp only[bG,be]at hall;simpa[yI]using hall.1
 |[],hsz,hall=>
  have h1:¬vs.size=1:=by rw[hsz];simp
  rw[dif_neg h1];simp only[yI,den,VR];exact⟨vs,rfl,hall⟩
 |d::e::pv,hsz,hall=>
  have h1:¬vs.size=1:=by rw[hsz];simp
  rw[dif_neg h1];simp only[yI,den,VR];exact⟨vs,rfl,hall⟩
variable {Γ:FuncId->Option (cm X)} {code:TypeId->Option (CT X.ι)} {P:Program}
theorem apl(hT : eX P T)(hm : P.follows .mixedOrders = true)(hΓ : tj P Γ){f : FuncId}{fn : Func}{c : Code}(hfn : P.funcs[f]? = some fn)(hb : fn.body = some c)(hname : (fn.name == "runtime.NumGoroutine") = false)(g : dE X)(hN : g.qq.length <= fn.ntmps)(hin : g.Cl = true)
 (h:Hn X.ι) (n:Nat) (hr:∀v (r:VT (X:=X) (Ai g).vars),g.fn v=some r->run Γ T code fn.ntmps n c (VT (X:=X) (Ai g).vars) h (HE g v) (aoR T fn.results.toList g)=some r):MY P f g:=by
 intro v r hv;have hrun:=hr v r hv;simp only[dE.Cl,aY,bD]at hin;obtain⟨⟨⟨i1,i2⟩,i3⟩,i4⟩:=hin;obtain⟨s1,s2,_⟩:=yM (ol:=Eh g.ju ((wF (c9 g.qq++d7 g.ju) v).drop (c9 g.qq).length)) g.ju ((wF _ v).drop (c9 g.qq).length);have hargs:∀k∈aO (g.args v),k<1000:=λk hk=>Nat.blt_eq.mp (all_eq_true.1 i3 k (yL g.qq _ k hk));have ua:∀p∈g.de v,p.1<1000/\∀j∈eo p.2,j<1000:=by intro p hp;have⟨op,g1,g2⟩:=s2 p hp;have hk:p.1∈g.ju.map (·.1):=mem_map.2 ⟨_,g1,rfl⟩;rw[i1]at hk;have:=List.mem_range.1 hk;exact⟨by omega,λj hj=>Nat.blt_eq.mp (all_eq_true.1 (all_eq_true.1 i4 _ g1) j (g2 j hj))⟩
 have hal:(g.args v).length=g.qq.length:=LC _ _ _;have hkeys:(g.de v).map (·.1)=List.range (g.de v).length:=aj3 g v i1;have jz:∀k,il (HE g v).obj k=uc (g.de v) k:=by intro k;show il (bU _ g.ju _) k=uc (dn (bU _ g.ju _)) k;rw[vD,WW,<- vD]
 have WP:∀(l:List (Nat×bp X))(n:Nat),l.map (·.1)=(List.range l.length).map (n+ ·)->∀k,uc l (n+k)=(l[k]?).map (·.2):=by
  intro l
  induction l with
  |nil=>intro n _ k;rfl
  |cons p l ih=>
   intro n hn k;rw[fq,List.range_succ_eq_map,bE,bE,map_map]at hn;injection hn with e1 e2;simp[uc];cases k with
   |zero=>rw[aS (by omega)];rfl
   |succ k=>
    rw[aR (by omega),show n+(k+1)=(n+1)+k by omega,ih (n+1) (by rw[e2];refine List.map_congr_left λa _=>?_;simp;omega) k];rfl
 have hlow:Low (HE g v):=by
  refine⟨by show 1000<=1000000;decide,aB _,λt k hk=>hargs k (aa9 t _ _ k hk),λk o ho=>?_⟩;rw[jz]at ho;have hmem:∀(l:List (Nat×bp X)),uc l k=some o->(k,o)∈l:=by
   intro l
   induction l with
   |nil=>intro h;simp[uc]at h
   |cons p l ih=>
    intro h;simp[uc]at h;split at h;rename_i e;cases h;subst e;exact List.mem_cons_self;exact dS _ (ih h)
  exact ua _ (hmem _ ho)
 refine aaF hT hfn hb hname (by rw[lI,hal];exact hN) (λ k hk=>hargs k (by rwa [iR]at hk)) (by rw[length_map,<- length_map (f:=Prod.fst),hkeys,List.length_range];have:=s1.length_le;rw[length_map,length_map]at this;exact Nat.le_trans this i2) ?_ ?_;intro o ho r' hr' x hx j hj;obtain⟨p,hp,rfl⟩:=mem_map.1 ho;exact(ua p hp).2 j (WK hr' hx j hj);have e:sA.st ⟨(List.range (bG (g.args v)).length).zip (bG (g.args v)),(List.range ((g.de v).map λp=>bI p.2).length).zip ((g.de v).map λp=>bI p.2)⟩=(HE g v).st:=by simp only[ea.st,sA.st,St.mk.injEq,and_true];refine⟨?_,?_⟩;funext t;simp[HE];rw[alV,lI,hal];funext k;rw[Bf,jz,List.getElem?_map];have:=WP (g.de v) 0 (by rw[hkeys];simp) k;rw[Nat.zero_add]at this;rw[this,Option.map_map];rfl
 rw[e];refine(kY hT hm hΓ c _ h _ _ r hlow hrun).mono ?_;rintro e σ ⟨s',hl',_,rfl,g4⟩;cases e<;>first |exact aj4 hl' g4 |cases g4
end
section
variable {P:Program} {f F:FuncId} {E:TypeId} {α:Type} {enc:α->Value} {d:α}
end
section
variable {X:SX}
end
section
variable {X:SX}
def FW{α β:Type}(f:α->Option β):List α->Option (List β)
 |[]=>some []
 |x::xs=>(f x).bind λy=>(FW f xs).bind λys=>some (y::ys)
def B7(dq:(i j:X.ι)->Decidable (i=j))(i:X.ι):CT X.ι->Option CS
 | .int k=>some (.int k)
 | .bool=>some .bool
 | .str=>some .str
 | .sl (.st j)=>match dq j i with
  | .isTrue _=>some .back
  | .isFalse _=>none
 |_=>none
def aoS(dq:(i j:X.ι)->Decidable (i=j))(i:X.ι):Bool:=(X.d8 i).any λc=>match c with
 | .sl (.st j)=>match dq j i with
  | .isTrue _=>true
  | .isFalse _=>false
 |_=>false
def ap5(dq:(i j:X.ι)->Decidable (i=j)):CT X.ι->Option (List CS)
 | .st i=>bif aoS dq i then FW (B7 dq i) (X.d8 i)else none
 |_=>none
theorem apm(dq:(i j:X.ι)->Decidable (i=j)){i:X.ι}{row:List CS}(hm:FW (B7 dq i) (X.d8 i)=some row){x:Tree}(h:HQ row x):∃l:List (CT.T X.toSE (.st i)),x= .sl (l.map (CT.row X.toSE (.st i))):=by
 refine HQ.rec (row:=row) (motive_1:=λx _=>∃l:List (CT.T X.toSE (.st i)),x= .sl (l.map (CT.row X.toSE (.st i)))) (motive_2:=λrows _=>∃l:List (CT.T X.toSE (.st i)),rows=l.map (CT.row X.toSE (.st i)))
  (motive_3:=λcs r _=>∀codes:List (CT X.ι),FW (B7 dq i) codes=some cs->∃h:HL X.toSE codes,r=HL.row X.toSE codes h) ?_ ?_ ?_ ?_ ?_ ?_ h
 rintro rows _ _ ⟨l,rfl⟩;exact⟨l,rfl⟩;exact⟨[],rfl⟩;rintro r rs _ _ h1 ⟨l,rfl⟩;obtain⟨q,rfl⟩:=h1 _ hm;exact⟨(X.make i q:X.T i)::l,by rw[bE];congr 1;exact(X.gE i q).symm⟩;intro codes hc;cases codes with
 |nil=>exact⟨(),rfl⟩
 |cons c codes=>
  simp only[FW,ah]at hc;obtain⟨_,_,_,_,h⟩:=hc;cases h
 intro cs x xs _ _ h1 h2 codes hc;obtain⟨l,rfl⟩:=h1;cases codes with
 |nil=>simp[FW]at hc
 |cons c codes=>
  simp only[FW,ah]at hc;obtain⟨c',g1,cs',g2,g3⟩:=hc;injection g3 with g3;injection g3 with g4 g5;subst g4 g5;obtain⟨q,rfl⟩:=h2 _ g2
  match c,g1 with
  | .sl (.st j),g1=>
   simp[B7]at g1;split at g1;rename_i hj _;subst hj;exact⟨(l,q),rfl⟩;cases g1
  | .int _,g1 | .bool,g1 | .str,g1 | .any,g1 | .st _,g1 | .mp _ _,g1 | .sl (.int _),g1 | .sl .bool,g1 | .sl .str,g1 | .sl .any,g1 | .sl (.sl _),g1 | .sl (.mp _ _),g1=>simp[B7]at g1
 intro c' cs x xs hf _ h2 codes hc;cases codes with
 |nil=>simp[FW]at hc
 |cons c codes=>
  simp only[FW,ah]at hc;obtain⟨c2,g1,cs',g2,g3⟩:=hc;injection g3 with g3;injection g3 with g4 g5;subst g4 g5;obtain⟨q,rfl⟩:=h2 _ g2
  match c,g1 with
  | .int k,g1=>
   cases g1;obtain⟨n,rfl,_⟩:=hf;exact⟨(n,q),rfl⟩
  | .bool,g1=>
   cases g1;obtain⟨n,rfl⟩:=hf;exact⟨(n,q),rfl⟩
  | .str,g1=>
   cases g1;obtain⟨n,rfl,_⟩:=hf;exact⟨(n,q),rfl⟩
  | .sl (.st j),g1=>
   simp[B7]at g1;split at g1;cases g1;exact hf.elim;cases g1
  | .any,g1 | .st _,g1 | .mp _ _,g1 | .sl (.int _),g1 | .sl .bool,g1 | .sl .str,g1 | .sl .any,g1 | .sl (.sl _),g1 | .sl (.mp _ _),g1=>simp[B7]at g1
def vj:Nat->CT X.ι->Option (List CS)
 | 0,_=>none
 |_+1,.int k=>some [.int k]
 |_+1,.bool=>some [.bool]
 |_+1,.str=>some [.str]
 |_+1,.any=>some [.any]
 |_+1,.mp _ _=>none
 |n+1,.sl e=>match ap5 X.dec e with
  |some row=>some [.mu row]
  |none=>(vj n e).bind λr=>some [.sl r]
 |n+1,.st i=>(FW (vj n) (X.d8 i)).bind λl=>some l.flatten
def HU(n:Nat)(c:CT X.ι):Option VS:=
 match c with
 | .st i=>(vj n (.st i:CT X.ι)).map .agg
 |c=>(vj n c).bind λl=>match l with
  |[x]=>some (.one x)
  |_=>none
theorem Sn:∀(a b:List CS)(ys:List Tree),ee (a++b) ys->∃ya yb,ys=ya++yb/\ee a ya/\ee b yb
 |[],b,ys,h=>⟨[],ys,rfl,trivial,h⟩
 |c::a,b,y::ys,h=>by obtain⟨ya,yb,rfl,h1,h2⟩:=Sn a b ys h.2;exact⟨y::ya,yb,rfl,⟨h.1,h1⟩,h2⟩
 |_::_,_,[],h=>h.elim
theorem aez{c:CT X.ι}{cs:List CS}(h:∀ys,ee cs ys->∃x:CT.T X.toSE c,ys=CT.row X.toSE c x):∀rows:List (List Tree),(∀ r∈rows,ee cs r)->∃l:List (CT.T X.toSE c),rows=l.map (CT.row X.toSE c)
 |[],_=>⟨[],rfl⟩
 |r::rows,hr=>by obtain⟨x,hx⟩:=h r (hr r (by simp));obtain⟨l,hl⟩:=aez h rows λq hq=>hr q (dS _ hq);exact⟨x::l,by rw[bE,<- hx,<- hl]⟩
theorem alW{f:CT X.ι->Option (List CS)}(hf:∀c cs,f c=some cs->∀ys,ee cs ys->∃x:CT.T X.toSE c,ys=CT.row X.toSE c x):∀(l:List (CT X.ι))(css:List (List CS)),FW f l=some css->∀ys,ee css.flatten ys->∃h:HL X.toSE l,ys=HL.row X.toSE l h
 |[],css,h,ys,hy=>by
  simp[FW]at h;subst h;cases ys with
  |nil=>exact⟨(),rfl⟩
  |cons y ys=>exact hy.elim
 |c::l,css,h,ys,hy=>by simp[FW]at h;have⟨a,h1,h⟩:=ah.1 h;have⟨b,h2,h⟩:=ah.1 h;cases h;obtain⟨ya,yb,rfl,g1,g2⟩:=Sn _ _ _ hy;have⟨x,hx⟩:=hf c a h1 ya g1;have⟨q,hq⟩:=alW hf l b h2 yb g2;exact⟨(x,q),by rw[hx,hq];rfl⟩
theorem UW:∀(n:Nat)(c:CT X.ι)(cs:List CS),vj n c=some cs->∀ys,ee cs ys->∃x:CT.T X.toSE c,ys=CT.row X.toSE c x
 | 0,_,_,h,_,_=>by cases h
 |n+1,.mp _ _,cs,h,ys,hy=>by simp[vj]at h
 |n+1,.int k,cs,h,ys,hy=>by
  simp[vj]at h;subst h
  match ys,hy with
  |[y],hy=>
   simp[ee]at hy;obtain⟨m,rfl,_⟩:=hy;exact⟨m,rfl⟩
  |[],hy=>exact hy.elim
  |_::_::_,hy=>exact hy.2.elim
 |n+1,.bool,cs,h,ys,hy=>by
  simp[vj]at h;subst h
  match ys,hy with
  |[y],hy=>
   simp only[ee,Fit,and_true]at hy;obtain⟨m,rfl⟩:=hy;exact⟨m,rfl⟩
  |[],hy=>exact hy.elim
  |_::_::_,hy=>exact hy.2.elim
 |n+1,.str,cs,h,ys,hy=>by
  simp[vj]at h;subst h
  match ys,hy with
  |[y],hy=>
   simp[ee]at hy;obtain⟨m,rfl,_⟩:=hy;exact⟨m,rfl⟩
  |[],hy=>exact hy.elim
  |_::_::_,hy=>exact hy.2.elim
 |n+1,.any,cs,h,ys,hy=>by
  simp[vj]at h;subst h
  match ys,hy with
  |[y],hy=>exact⟨y,rfl⟩
  |[],hy=>exact hy.elim
  |_::_::_,hy=>exact hy.2.elim
 |n+1,.sl e,cs,h,ys,hy=>by
  simp[vj]at h;split at h;rename_i row hm;cases h
  match ys,hy with
  |[y],hy=>
   simp[ee]at hy;cases e with
   |st i=>
    simp[ap5]at hm;cases hb:aoS X.dec i with
    |false=>rw[hb]at hm;cases hm
    |true=>
     rw[hb]at hm;have⟨l,hl⟩:=apm X.dec hm hy;exact⟨l,by rw[hl];rfl⟩
   |_=>cases hm
  |[],hy=>exact hy.elim
  |_::_::_,hy=>exact hy.2.elim
  have⟨r,h1,h⟩:=ah.1 h;cases h
  match ys,hy with
  |[y],hy=>
   simp[ee]at hy;obtain⟨rows,rfl,_,hr⟩:=hy;have⟨l,hl⟩:=aez (UW n e r h1) rows hr;exact⟨l,by rw[hl];rfl⟩
  |[],hy=>exact hy.elim
  |_::_::_,hy=>exact hy.2.elim
 |n+1,.st i,cs,h,ys,hy=>by simp[vj]at h;have⟨css,h1,h⟩:=ah.1 h;cases h;have⟨q,hq⟩:=alW (UW n) (X.d8 i) css h1 ys hy;exact⟨X.make i q,by rw[hq];exact(X.gE i q).symm⟩
theorem anT{n:Nat}{c:CT X.ι}{s:VS}(h:HU n c=some s){x:TV}(hx:HB s x):∃y:CT.T X.toSE c,x=CT.tv X.toSE c y:=by
 have one:∀c:CT X.ι,c.one=true->((vj n c).bind λl=>match l with
  |[x]=>some (VS.one x)
  |_=>none)=some s->∃y:CT.T X.toSE c,x=CT.tv X.toSE c y:=by intro c hc h;have⟨l,h1,h⟩:=ah.1 h;split at h;cases h;simp[HB]at hx;obtain⟨t,rfl,ht⟩:=hx;obtain⟨y,hy⟩:=UW n c _ h1 [t] ⟨ht,trivial⟩;obtain⟨t',e1,e2⟩:=row_one hc y;rw[e1]at hy;cases hy;exact⟨y,e2.symm⟩;cases h
 cases c
 case st i=>
  simp[HU]at h;obtain⟨cs,h1,rfl⟩:=h;simp[HB]at hx;obtain⟨ys,rfl,hy⟩:=hx;obtain⟨y,hy⟩:=UW n (.st i) _ h1 ys hy;exact⟨y,by rw[hy];rfl⟩
 all_goals exact one _ rfl h
theorem aeA(n:Nat):∀(cs:List (CT X.ι))(ss:List VS),FW (HU n) cs=some ss->∀xs,VW ss xs->∃h:HL X.toSE cs,xs=HL.oa X.toSE cs h
 |[],ss,h,xs,hx=>by
  simp[FW]at h;subst h;cases xs with
  |nil=>exact⟨(),rfl⟩
  |cons x xs=>exact hx.elim
 |c::cs,ss,h,xs,hx=>by
  simp[FW]at h;have⟨a,h1,h⟩:=ah.1 h;have⟨b,h2,h⟩:=ah.1 h;cases h;cases xs with
  |nil=>exact hx.elim
  |cons x xs=>
   obtain⟨y,rfl⟩:=anT h1 hx.1;obtain⟨q,rfl⟩:=aeA n cs b h2 xs hx.2;exact⟨(y,q),rfl⟩
theorem alX{P:Program}{f:FuncId}{n N:Nat}{cs:List (CT X.ι)}{ss:List VS}{fn:Nat->iW X (cs.map AT.d)->Option Bool}(hc:∀k,GW P f ⟨cs.map AT.d,[.d .bool],fn k,none⟩)(hs:FW (HU n) cs=some ss)(hl:∀q:HL X.toSE cs,VW ss (HL.oa X.toSE cs q)->VX (HL.oa X.toSE cs q)<=N->∃k,fn k (hlA cs q)=some true)(xs:List TV)(h:VW ss xs)(hb:VX xs<=N):
 rx P f (xs.map TV.av) (.one (.d (.s (.sc (.bool true))))):=by obtain⟨q,rfl⟩:=aeA n cs ss hs xs h;have⟨k,hk⟩:=hl q h hb;have h1:=(hc k).2.1 (hlA cs q) true hk;have h2:=h1;rw[HV (ach cs)]at h2;have h3:qu P f (yJ (cs.map AT.d) (hlA cs q)) [] [] (.one (.d (.s (.sc (.bool true))))):=h2;have h4:=oC h3;rw[yJ,P9]at h4;exact h4
end
structure ij where
 env:List (Nat×AV)
 obj:List (Nat×Option aK)
 ok:List (Nat×Option Bool)
def ij.st(F:Nat->Option aK)(L:ij):St:=
 ⟨λ t=>(lk L.env t).getD .undef,λk=>match lk L.obj k with |some o=>o |none=>F k,λt=>(lk L.ok t).join⟩
def ij.app(L:ij)(dst:Option Tmp)(p:Out×Option Bool):ij:=
 match dst with
 |some d=>⟨(d,p.1.v)::L.env,p.1.upd++L.obj,(d,p.2)::L.ok⟩
 |none=>⟨L.env,p.1.upd++L.obj,L.ok⟩
theorem ij.Fi(F:Nat->Option aK)(L:ij)(dst:Option Tmp)(p:Out×Option Bool):(L.app dst p).st F=(L.st F).app dst p:=by
 have ho:∀(u:List (Nat×Option aK))(k:Nat),(match lk (u++L.obj) k with |some o=>o |none=>F k)=bT (λ k=>match lk L.obj k with |some o=>o |none=>F k) u k:=by
  intro u k
  induction u with
  |nil=>rfl
  |cons q u ih=>
   obtain⟨j,o⟩:=q;simp only[List.cons_append,lk,bT];by_cases h:j=k
   ·subst h;simp
   ·rw[aR h,aR (λ e=>h e.symm)];exact ih
 have he:∀{α:Type} (e:List (Nat×α)) (d:Nat) (v:α) (f:Option α->α) (t:Nat),f (some v)=v->f (lk ((d,v)::e) t)=yF (λ t=>f (lk e t)) (some d) v t:=by
  intro α e d v f t hf;simp only[lk,yF,bJ];by_cases h:d=t
  ·rw[aS h,aS h,hf]
  ·rw[aR h,aR h]
 cases dst with
 |none=>
  simp only[ij.app,ij.st,St.app];congr 1;exact funext λk=>ho _ k
 |some d=>
  simp only[ij.app,ij.st,St.app];congr 1
  ·exact funext λt=>he _ _ _ (λ o:Option AV=>o.getD AV.undef) t rfl
  ·exact funext λk=>ho _ k
  ·exact funext λt=>he L.ok d p.2 (λ o:Option (Option Bool)=>o.join) t rfl
section
variable (P:Program) (T:ez) (ag:Array Oper) (da:Nat->j9) (F:Nat->Option aK)
def oH:List Nat->ij->Option (ij×List Prop)
 |[],L=>some (L,[])
 |i::r,L=>(ag[i]?).bind λo=>(opAt P T ag da i (L.st F)).bind λout=>(oH r (L.app o.dst out)).bind λq=>some (q.1,out.1.obs++q.2)
end
theorem aeB:∀{a b:List Prop},iM (a++b)->iM a/\iM b
 |[],_,h=>⟨trivial,h⟩
 |p::a,b,h=>by
  cases a with
  |nil=>
   cases b with
   |nil=>exact⟨h,trivial⟩
   |cons q b=>exact⟨h.1,h.2⟩
  |cons q a=>
   obtain⟨h1,h2⟩:=h;have⟨h3,h4⟩:=aeB (a:=q::a) h2;exact⟨⟨h1,h3⟩,h4⟩
theorem LD{P:Program}{T:ez}{ag:Array Oper}{da:Nat->j9}{F:Nat->Option aK}{Q:St->Prop}:∀{l:List Nat}{L L':ij}{obs:List Prop},oH P T ag da F l L=some (L',obs)->iM obs->Q (L'.st F)->Tg P T ag da Q l (L.st F)
 |[],L,L',obs,h,_,hq=>by simp only[oH,bJ,Prod.mk.injEq]at h;obtain⟨rfl,rfl⟩:=h;exact hq
 |i::r,L,L',obs,h,ho,hq=>by simp only[oH,ah]at h;obtain⟨o,h1,out,h2,q,h3,h4⟩:=h;injection h4 with h4;injection h4 with h5 h6;subst h5 h6;have⟨o1,o2⟩:=aeB ho;refine⟨o,out,h1,h2,o1,?_⟩;rw[<- ij.Fi];exact LD h3 o2 hq
section
variable {P:Program} {T:ez} {N:Nat} {Q:Exit->St->Prop} {ag:Array Oper} {da:Nat->j9} {σ σ' σ2:St}
structure Told(σ' σ2:St):Prop where
 re:∃(f g:Nat->Nat)(D:Nat->Prop),(∀ k,D k->g (f k)=k)/\(∀ j,j<1000->g j=j)/\
  (∀ t,σ2.env t= .undef\/(σ'.ok t=none/\(∀ k∈refs (σ'.env t),D k)/\lj (gO f (σ'.env t)) (σ2.env t)))/\
  (∀ j o',σ2.obj j=some o'->∃k o,σ'.obj k=some o/\D k/\f k=j/\o'.sz=o.sz/\gS D f o.rows o'.rows)
 ok:∀t,σ2.ok t=none
 old:th σ2
theorem Told.rel{w0:World}{O0:kA}{β:Nat->Option cW}{I:Nat->Prop}{a:Act}{w:World}(h:Told σ' σ2)(hr:Rel P w0 O0 N β I σ' a w):∃ β',Rel P w0 O0 N β' I σ2 a w:=by
 obtain⟨f,g,D,h1,h2,h3,h4⟩:=h.re;refine⟨_,Rel.re (f:=f) (g:=g) (D:=D) h1 h2 hr (λ t=>?_) h.ok (λ t=>?_) h4⟩
 ·rcases h3 t with e |e
  ·exact .inr e
  ·exact .inl e.1
 ·rcases h3 t with e |e
  ·exact .inl e
  ·exact .inr e.2
theorem rU(hT:eX P T){id:Nat}{F:Nat->Option aK}{L L':ij}{obs:List Prop}(hd:PV N ag=true)(h:oH P T ag da F (List.range ag.size) L=some (L',obs))(c7:iM obs)(ht:Told (L'.st F) σ2)(hq:Q .normal σ2):
 Ev P N (.region id ag false) Q (L.st F):=by intro w0 O0 β I a w hr ho;refine wp_mono (aaD (Q:=λσ=>σ=L'.st F) hT hd ho (LD h c7 rfl) hr) ?_;rintro e a' w' ⟨β',I',σ',h1,rfl,rfl⟩;have⟨β2,h2⟩:=ht.rel h1;exact⟨β2,I',σ2,h2,ht.old,hq⟩
theorem WZ(hT:eX P T)(hm:P.follows .mixedOrders=true){id:Nat}{F:Nat->Option aK}{L L':ij}{obs:List Prop}(hd:PV N ag=true)(hB:VN ag da=true)(h:oH P T ag da F (List.range ag.size) L=some (L',obs))(c7:iM obs)(ht:Told (L'.st F) σ2)(hq:Q .normal σ2):
 Ev P N (.region id ag true) Q (L.st F):=by intro w0 O0 β I a w hr ho;refine wp_mono (Hq (Q:=λσ=>σ=L'.st F) hT hm hd hB ho (LD h c7 rfl) hr) ?_;rintro e a' w' ⟨β',I',σ',h1,rfl,rfl⟩;have⟨β2,h2⟩:=ht.rel h1;exact⟨β2,I',σ2,h2,ht.old,hq⟩
end
mutual
theorem anU{f:Nat->Nat}:∀x:AV,(∀ k∈refs x,f k=k)->gO f x=x
 | .own k aa len,h=>by simp only[gO];rw[h k (by simp[refs])]
 | .ptr k row aa,h=>by simp only[gO];rw[h k (by simp[refs])]
 | .mp k,h=>by simp only[gO];rw[h k (by simp[refs])]
 | .oz k len,h=>by simp only[gO];rw[h k (by simp[refs])]
 | .agg cs,h=>by simp only[gO];rw[Ig cs (by simpa[refs]using h)]
 | .en cs,h=>by simp only[gO];rw[Ig cs (by simpa[refs]using h)]
 | .fn F first caps,h=>by simp only[gO];rw[Ig first (λ k hk=>h k (by simp[refs,hk])),Ig caps (λ k hk=>h k (by simp[refs,hk]))]
 | .t _,_=>rfl
 | .eK _ _,_=>rfl
 | .el _,_=>rfl
 | .dp,_=>rfl
 | .ub,_=>rfl
 | .undef,_=>rfl
theorem Ig{f:Nat->Nat}:∀l:List AV,(∀ k∈dh l,f k=k)->vv f l=l
 |[],_=>rfl
 |x::xs,h=>by simp only[vv];rw[anU x (λ k hk=>h k (by simp[dh,hk])),Ig xs (λ k hk=>h k (by simp[dh,hk]))]
end
theorem aiS{D:Nat->Prop}{f:Nat->Nat}:∀r:List AV,(∀ k∈dh r,D k)->m5 D f r (vv f r)
 |[],_=>trivial
 |x::xs,h=>⟨⟨λ k hk=>h k (by simp[dh,hk]),lj.refl _⟩,aiS xs λk hk=>h k (by simp[dh,hk])⟩
theorem aeC{D:Nat->Prop}{f:Nat->Nat}:∀rs:List (List AV),(∀ r∈rs,∀k∈dh r,D k)->gS D f rs (rs.map (vv f))
 |[],_=>trivial
 |r::rs,h=>⟨aiS r (h r (by simp)),aeC rs λq hq=>h q (by simp[hq])⟩
theorem anV{L' L2:ij}{F F2:Nat->Option aK}(f g:Nat->Nat)(D:Nat->Prop)(h1:∀k,D k->g (f k)=k)(h2:∀j,j<1000->g j=j)
 (hE:∀p∈L2.env,(lk L'.ok p.1).join=none/\(∀ k∈refs ((lk L'.env p.1).getD .undef),D k)/\gO f ((lk L'.env p.1).getD .undef)=p.2)
 (hO:∀j o',(L2.st F2).obj j=some o'->∃k o,(L'.st F).obj k=some o/\D k/\f k=j/\o'=Cx f o/\∀r∈o.rows,∀k∈dh r,D k) (hok:L2.ok=[])
 (old:th (L2.st F2)):Told (L'.st F) (L2.st F2):=by
 refine⟨⟨f,g,D,h1,h2,λt=>?_,λj o' hj=>?_⟩,λt=>by simp[ij.st,hok,lk],old⟩
 ·simp only[ij.st];cases h:lk L2.env t with
  |none=>exact .inl rfl
  |some x=>
   obtain⟨a1,a2,a3⟩:=hE _ (pq h);exact .inr ⟨a1,a2,by rw[a3];exact lj.refl _⟩
 ·obtain⟨k,o,e1,e2,e3,rfl,e5⟩:=hO j o' hj;exact⟨k,o,e1,e2,e3,rfl,aeC _ e5⟩
section
variable {P:Program} {β:Nat->Option cW} {w:World} {I:Nat->Prop}
def nt(P:Program)(β:Nat->Option cW)(w:World)(I:Nat->Prop):List AV->List AV->Prop
 |[],[]=>True
 |x::xs,y::ys=>(∀ v,VR P β w I x v->VR P β w I y v)/\nt P β w I xs ys
 |_,_=>False
def m7(P:Program)(β:Nat->Option cW)(w:World)(I:Nat->Prop):List (List AV)->List (List AV)->Prop
 |[],[]=>True
 |r::rs,q::qs=>nt P β w I r q/\m7 P β w I rs qs
 |_,_=>False
theorem nt.refl:∀r:List AV,nt P β w I r r
 |[]=>trivial
 |_::xs=>⟨λ _ h=>h,nt.refl xs⟩
theorem m7.app{q q':List AV}(h:nt P β w I q q'):∀R:List (List AV),m7 P β w I (R++[q]) (R++[q'])
 |[]=>⟨h,trivial⟩
 |r::R=>⟨nt.refl r,m7.app h R⟩
theorem nt.row:∀{r q:List AV}{c:Array Value}{aa:Nat},nt P β w I r q->dC P β w I r c aa->dC P β w I q c aa
 |[],[],_,_,_,_=>trivial
 |_::_,_::_,_,_,h,⟨⟨v,h1,h2,h3⟩,h4⟩=>⟨⟨v,h1,h.1 v h2,h3⟩,nt.row h.2 h4⟩
 |[],_::_,_,_,h,_=>h.elim
 |_::_,[],_,_,h,_=>h.elim
theorem nt.length:∀{r q:List AV},nt P β w I r q->q.length=r.length
 |[],[],_=>rfl
 |_::_,_::_,h=>congrArg (· +1) (nt.length h.2)
 |[],_::_,h=>h.elim
 |_::_,[],h=>h.elim
theorem m7.rows:∀{rs qs:List (List AV)}{c:Array Value}{aa sz:Nat},m7 P β w I rs qs->bu P β w I rs c aa sz->bu P β w I qs c aa sz
 |[],[],_,_,_,_,_=>trivial
 |_::_,_::_,_,_,_,h,⟨h1,h2,h3⟩=>⟨by rw[h.1.length];exact h1,h.1.row h2,h.2.rows h3⟩
 |[],_::_,_,_,_,h,_=>h.elim
 |_::_,[],_,_,_,h,_=>h.elim
theorem m7.length:∀{rs qs:List (List AV)},m7 P β w I rs qs->qs.length=rs.length
 |[],[],_=>rfl
 |_::_,_::_,h=>congrArg (· +1) (m7.length h.2)
 |[],_::_,h=>h.elim
 |_::_,[],h=>h.elim
end
end Go.Gb
