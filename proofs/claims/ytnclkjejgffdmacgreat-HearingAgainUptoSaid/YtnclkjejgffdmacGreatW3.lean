import Derived.Test.YtnclkjejgffdmacGreatW2
open List (mem_map all_eq_true length_map append_nil map_map)
namespace Go.Gb
open Go.RowKit
structure Sh(ι:Type) where
 slots:List (Nat×Pt ι)
 du:List (Nat×OP ι)
 keep:List Nat
 ef:List Nat
 nx:Nat
 DD:List (Nat×CT ι)
def Sh.vars{ι:Type}(s:Sh ι):Y (CT ι):=i9 s.slots++eh s.du
section
variable {X:SX}
def nz(z:Bool)(k:Nat):DV X:=bif z then .oz k 0 else .own k 0 0
def CM(z:Bool)(s:ek X)(t:Nat)(c:CT X.ι):ek X:=
 match fL s.env t with
 |.nil=>if s.nx<1000000 then⟨(t,nz z s.nx)::s.env,(s.nx,some (.eK c []))::s.obj,s.nx+1,s.nx::s.log⟩else s
 |_=>s
def H0(s:ek X)(q j:Nat)(c:CT X.ι):ek X:=
 match iS s.obj q with
 |some (.cells sz [row])=>match row[j]? with
  |some .nil=>if s.nx<1000000 then⟨s.env,(q,some (.cells sz [row.set j (.own s.nx 0 0)]))::(s.nx,some (.eK c []))::s.obj,s.nx+1,q::s.nx::s.log⟩else s
  |_=>s
 |_=>s
def QZ:Y (Nat×CT X.ι)->ek X->ek X
 |[],s=>s
 |(t,c)::r,s=>QZ r (bif Nat.ble 1000000 t then bif Nat.ble 1099511627776 t then CM true s (t-1099511627776) c else H0 s ((t-1000000)/4096) ((t-1000000)%4096) c else CM false s t c)
def isU:DV X->Bool
 |.undef|.skip=>true
 |_=>false
def encS(sh:Sh X.ι)(s0:ek X)(v:VT (X:=X) sh.vars):ek X:=
 let L:=xK sh.vars v
 let n:=(i9 sh.slots).length
 let ol:=λk=>(lk (lens sh.du (L.drop n)) k).getD 0
 ⟨Mx ol sh.slots (L.take n)++sh.keep.map (λ t=>(t,fL s0.env t)),cu ol sh.du (L.drop n)++sh.ef.map (λ k=>(k,iS s0.obj k)),sh.nx,
  (List.range s0.nx).filter (λ k=>!sh.ef.contains k)++s0.log⟩
def okS(sh:Sh X.ι)(ds:Y Nat)(s0 s':ek X)(m:MA X):Bool:=
 decide (m.nm.map (·.1)++sh.ef).Nodup&&decide (m.nm.map (·.2)++sh.ef).Nodup&&decide (sh.du.map (·.1)).Nodup&&m.nm.all (λ q=>(sh.du.map (·.1)).contains q.2&&decide (q.2<sh.nx)&&(decide (q.1=q.2) || decide (1000<=q.2)))&&
  sh.slots.all (λ p=>ds.contains p.1)&&sh.keep.all (λ t=>!ds.contains t&&!isU (fL s'.env t)&&(cd (fL s0.env t)).all λj=>sh.ef.contains j || m.nm.contains (j,j))&&
  sh.ef.all (λ k=>decide (k<s0.nx)&&!(s'.log.take (s'.log.length-s0.log.length)).contains k&&(iS s'.obj k).isSome&&match iS s0.obj k with|some o=>(eI o).all λj=>sh.ef.contains j || m.nm.contains (j,j)|none=>false)&&
  decide (s0.nx<=sh.nx)&&decide (sh.nx<=1000000)
def Vc{A:Type}(sh:Sh X.ι)(ds:Y Nat)(s0 s':ek X)(k:VT (X:=X) sh.vars->J A):J A:=
 (IZ (iS s'.obj) (fL s'.env) sh.slots ⟨[],[],[]⟩).bind λm=>(Dy (iS s'.obj) sh.du m).bind λm=>bif okS sh ds s0 s' m then(HC sh.vars m.fj).bind λv=>Xg m.km (k v)else none
def uJ{A:Type}(sh:Sh X.ι)(ds:Y Nat)(s0 s':ek X)(k:VT (X:=X) sh.vars->J A):J A:=
 bif sh.DD.all (λ p=>bif Nat.ble 1000000 p.1 then !Nat.ble 1099511627776 p.1 || ds.contains (p.1-1099511627776)else ds.contains p.1)then Vc sh ds s0 (QZ sh.DD s') k else none
end
section
variable {X:SX}
theorem ab0{d:DV X}{c:CT X.ι}{x:CT.T X.toSE c}(h:Mt d c=some x):cd d=[]:=by
 cases d
 case c=>rfl
 case nil=>rfl
 all_goals cases c<;>cases h
theorem TH:∀{ds:Y (DV X)}{l:Y (CT X.ι)}{h:HL X.toSE l},EW ds l=some h->aS ds=[]
 |[],[],_,_=>rfl
 |d::ds,c::l,h,hr=>by simp[EW]at hr;have⟨x,h1,hr⟩:=ah.1 hr;have⟨g,h2,hr⟩:=ah.1 hr;simp[aS,ab0 h1,TH h2]
 |[],_::_,_,hr|_::_,[],_,hr=>by simp[EW]at hr
theorem apd{d:DV X}{c:CT X.ι}{x:CT.T X.toSE c}(h:dat d c=some x):lO (den d) (den (.c c x:DV X))/\cd d=[]:=by
 cases c
 case st i=>
  replace h:Hp d i=some x:=h
  cases d
  case agg cs=>
   simp[Hp]at h;have⟨g,h1,h⟩:=ah.1 h;cases h;refine⟨λ P G w I v hv=>?_,by simp[cd,TH h1]⟩;have h2:=(zC h1 (X.flat i)).1;simp[den]at hv;obtain⟨vs,rfl,hv⟩:=hv;show VR P G w I (.agg ((X.row i (X.make i g)).map AV.t)) _;have h3:(X.row i (X.make i g)).map AV.t=(bH cs).map Gb.wk:=(by rw[h2];exact congrArg _ (X.ij i g));rw[h3];simp only[VR];exact⟨vs,rfl,br.wk _ _ hv⟩
  case c a y=>
   rw[(pX h).1];exact⟨lO.refl _,rfl⟩
  all_goals cases h
 all_goals
  have h1:=xI h;refine⟨λ P G w I v hv=>?_,ab0 h⟩;simp[den];rw[<- h1];exact hv.wk
def ip(m m':MA X):Prop:=(∀ q∈m.nm,q∈m'.nm)/\(∀ c∈m.km,c∈m'.km)
theorem ip.refl(m:MA X):ip m m:=⟨λ _ h=>h,λ_ h=>h⟩
theorem ip.trans{a b c:MA X}(h:ip a b)(h':ip b c):ip a c:=⟨λ q hq=>h'.1 q (h.1 q hq),λq hq=>h'.2 q (h.2 q hq)⟩
theorem fC(m:MA X)(k' k:Nat):(addN m k' k).fj=m.fj/\(addN m k' k).km=m.km:=by grind [addN]
theorem pF(m:MA X)(k' k:Nat):(k',k)∈(addN m k' k).nm:=by grind [addN]
theorem qW(m:MA X)(k' k:Nat):ip m (addN m k' k):=by unfold addN;split;exact ip.refl m;exact⟨λ q hq=>by simp[hq],λ_ h=>h⟩
variable {get:Nat->Option (ci X)}
mutual
theorem ajZ:∀(p:Pt X.ι)(d:DV X)(m m':MA X),mP get p d m=some m'->ip m m'/\∃al,m'.fj=m.fj++al/\al.length=p.vars.length
 |.v c,d,m,m',h=>by simp[mP]at h;rw[ah]at h;obtain⟨x,h1,h⟩:=h;cases h;exact⟨⟨λ _ h=>h,λ_ h=>h⟩,[⟨c,x⟩],rfl,rfl⟩
 |.o k,d,m,m',h=>by simp[mP]at h;split at h;rename_i k' len;have⟨o,h1,h⟩:=ah.1 h;split at h;cases h;refine⟨ip.trans (b:=⟨m.nm,m.fj,m.km++_⟩) ⟨λ _ h=>h,λ_ h=>by simp[h]⟩ (qW _ _ _),[],by rw[(fC _ _ _).1];simp,rfl⟩;cases h;cases h
 |.oz k,d,m,m',h=>by simp[mP]at h;split at h;have⟨o,h1,h⟩:=ah.1 h;split at h;cases h;refine⟨ip.trans (b:=⟨m.nm,m.fj,m.km++_⟩) ⟨λ _ h=>h,λ_ h=>by simp[h]⟩ (qW _ _ _),[],by rw[(fC _ _ _).1];simp,rfl⟩;cases h;have⟨o,h1,h⟩:=ah.1 h;split at h;cases h;refine⟨ip.trans (b:=⟨m.nm,m.fj,m.km++_⟩) ⟨λ _ h=>h,λ_ h=>by simp[h]⟩ (qW _ _ _),[],by rw[(fC _ _ _).1];simp,rfl⟩;cases h;cases h
 |.p k,d,m,m',h=>by simp[mP]at h;split at h;cases h;exact⟨qW _ _ _,[],by rw[(fC _ _ _).1];simp,rfl⟩;cases h
 |.mp k,d,m,m',h=>by simp[mP]at h;split at h;cases h;exact⟨qW _ _ _,[],by rw[(fC _ _ _).1];simp,rfl⟩;cases h
 |.nil,d,m,m',h=>by simp[mP]at h;split at h;cases h;exact⟨ip.refl _,[],by simp,rfl⟩;cases h
 |.f F fs cs,d,m,m',h=>by simp[mP]at h;split at h;split at h;rw[ah]at h;obtain⟨m1,h1,h⟩:=h;obtain⟨a1,n1,b1,c1⟩:=zK fs _ m m1 h1;obtain⟨a2,n2,b2,c2⟩:=zK cs _ m1 m' h;exact⟨a1.trans a2,n1++n2,by rw[b2,b1,aU],by simp[Pt.vars,c1,c2]⟩;cases h;cases h
 |.od k,d,m,m',h=>by simp[mP]at h;split at h;rename_i k' aa len;have⟨o,h1,h⟩:=ah.1 h;split at h;cases h;refine⟨ip.trans (b:=⟨m.nm,m.fj++[⟨.int .i64,(aa:Int)⟩],m.km++_⟩) ⟨λ _ h=>h,λ_ h=>by simp[h]⟩ (qW _ _ _),[⟨.int .i64,(aa:Int)⟩],by rw[(fC _ _ _).1],rfl⟩;cases h;cases h
 |.a ps,d,m,m',h=>by simp[mP]at h;split at h;exact zK ps _ m m' h;cases h
theorem zK:∀(ps:List (Pt X.ι))(ds:List (DV X))(m m':MA X),vl get ps ds m=some m'->ip m m'/\∃al,m'.fj=m.fj++al/\al.length=(dg ps).length
 |[],[],m,m',h=>by simp[vl]at h;subst h;exact⟨ip.refl _,[],by simp,rfl⟩
 |p::ps,d::ds,m,m',h=>by simp[vl]at h;have⟨m1,h1,h⟩:=ah.1 h;have⟨a1,n1,b1,c1⟩:=ajZ p d m m1 h1;have⟨a2,n2,b2,c2⟩:=zK ps ds m1 m' h;exact⟨a1.trans a2,n1++n2,by rw[b2,b1,aU],by simp[dg,c1,c2]⟩
 |[],_::_,m,m',h|_::_,[],m,m',h=>by simp[vl]at h
end
theorem zL:∀(rs:Y (List (Pt X.ι)))(qs:Y (List (DV X)))(m m':MA X),LZ get rs qs m=some m'->ip m m'/\∃al,m'.fj=m.fj++al/\al.length=(xJ rs).length
 |[],[],m,m',h=>by simp[LZ]at h;subst h;exact⟨ip.refl _,[],by simp,rfl⟩
 |r::rs,q::qs,m,m',h=>by simp[LZ]at h;have⟨m1,h1,h⟩:=ah.1 h;have⟨a1,n1,b1,c1⟩:=zK r q m m1 h1;have⟨a2,n2,b2,c2⟩:=zL rs qs m1 m' h;exact⟨a1.trans a2,n1++n2,by rw[b2,b1,aU],by simp[xJ,c1,c2]⟩
 |[],_::_,m,m',h|_::_,[],m,m',h=>by simp[LZ]at h
section
variable {NM:List (Nat×Nat)} {f:Nat->Nat} {ev:Nat->Nat}
def DN(NM:Y (Nat×Nat))(j:Nat):Prop:=∃k,(j,k)∈NM
def SN(NM:Y (Nat×Nat))(j:Nat):Prop:=∃k,(k,j)∈NM
theorem Oq{D:Ψ}{f:Nat->Nat}{P:Q}{G:ζ}{w:M}{I:Ψ}:∀{a b:Y AV}(_:nt D f a b)(u:Y Value),br P G w I (wB f a) u->br P G w I b u
 |[],[],_,u,hu=>hu
 |[],_::_,hr,_,_|_::_,[],hr,_,_=>hr.elim
 |y::ys,z::zs,hr,[],hu=>by simp[wB,br]at hu
 |y::ys,z::zs,hr,v::vs,hu=>by exact⟨hr.1.2 _ _ _ _ _ hu.1,Oq hr.2 vs hu.2⟩
mutual
theorem afy(hf:∀q∈NM,f q.1=q.2)(ho:∀q∈NM,∀c l,get q.1=some (.eK c l)->ev q.2=l.length):∀(p:Pt X.ι)(d:DV X)(m m':MA X),mP get p d m=some m'->(∀ q∈m'.nm,q∈NM)->(∀ c∈m'.km,c=true)->
 ∃al,m'.fj=m.fj++al/\∃d',(∀ ae,eP ev p (al++ae)=(d',ae))/\lO (ik f (den d)) (den d')/\(∀ j∈cd d,DN NM j)/\(∀ j∈cd d',SN NM j)
 |.v c,d,m,m',h,_,_=>by simp[mP]at h;rw[ah]at h;obtain⟨x,h1,h⟩:=h;cases h;have⟨h2,h3⟩:=apd h1;refine⟨[⟨c,x⟩],rfl,.c c x,λae=>rfl,?_,by simp[h3],by simp[cd]⟩;rw[<- Bf,XP d (by simp[h3])];exact h2
 |.o k,d,m,m',h,hn,hc=>by
  simp[mP]at h;split at h;rename_i k' len;rw[ah]at h;obtain⟨o,h1,h⟩:=h;split at h;rename_i c l;cases h;have hq:(k',k)∈NM:=hn _ (pF _ _ _);have he:len=l.length:=by have:=hc (aE len l.length) (by rw[(fC _ _ _).2];simp);simpa[aE]using this
  refine⟨[],by rw[(fC _ _ _).1];simp,.own k 0 (ev k),λae=>rfl,?_,?_,?_⟩;simp[den,ik];rw[hf _ hq,ho _ hq c l h1,he];exact lO.refl _;intro j hj;simp[cd]at hj;subst hj;exact⟨k,hq⟩;intro j hj;simp[cd]at hj;subst hj;exact⟨k',hq⟩;cases h;cases h
 |.oz k,d,m,m',h,hn,hc=>by
  simp[mP]at h;split at h;rename_i k' len;rw[ah]at h;obtain⟨o,h1,h⟩:=h;split at h;rename_i c l;cases h;have hq:(k',k)∈NM:=hn _ (pF _ _ _);have he:len≠0/\len=l.length:=by have:=hc (!(len==0)&&aE len l.length) (by rw[(fC _ _ _).2];simp);simpa[aE]using this
  refine⟨[],by rw[(fC _ _ _).1];simp,.oz k (ev k),λae=>rfl,?_,λj hj=>?_,λj hj=>?_⟩;simp[den,ik];rw[hf _ hq,ho _ hq c l h1,<- he.2];intro P G w I v hv;simp only[VR]at hv |-;exact .inr ⟨he.1,hv.resolve_left λh=>he.1 h.2.2.2⟩;simp[cd]at hj;subst hj;exact⟨k,hq⟩;simp[cd]at hj;subst hj;exact⟨k',hq⟩;cases h;rename_i k' len;rw[ah]at h;obtain⟨o,h1,h⟩:=h;split at h;rename_i c l;cases h;have hq:(k',k)∈NM:=hn _ (pF _ _ _);have he:len=l.length:=by have:=hc (aE len l.length) (by rw[(fC _ _ _).2];simp);simpa[aE]using this
  refine⟨[],by rw[(fC _ _ _).1];simp,.oz k (ev k),λae=>rfl,?_,λj hj=>?_,λj hj=>?_⟩;simp[den,ik];rw[hf _ hq,ho _ hq c l h1,he];exact lO.refl _;simp[cd,bC]at hj;subst hj;exact⟨k,hq⟩;simp[cd,bC]at hj;subst hj;exact⟨k',hq⟩;cases h;cases h
 |.p k,d,m,m',h,hn,hc=>by simp[mP]at h;split at h;rename_i k';cases h;have hq:(k',k)∈NM:=hn _ (pF _ _ _);refine⟨[],by rw[(fC _ _ _).1];simp,.ptr k 0 0,λae=>rfl,?_,?_,?_⟩;simp[den,ik];rw[hf _ hq];exact lO.refl _;intro j hj;simp[cd,bC]at hj;subst hj;exact⟨k,hq⟩;intro j hj;simp[cd,bC]at hj;subst hj;exact⟨k',hq⟩;cases h
 |.mp k,d,m,m',h,hn,hc=>by simp[mP]at h;split at h;rename_i k';cases h;have hq:(k',k)∈NM:=hn _ (pF _ _ _);refine⟨[],by rw[(fC _ _ _).1];simp,.mp k,λae=>rfl,?_,?_,?_⟩;simp[den,ik];rw[hf _ hq];exact lO.refl _;intro j hj;simp[cd,bC]at hj;subst hj;exact⟨k,hq⟩;intro j hj;simp[cd,bC]at hj;subst hj;exact⟨k',hq⟩;cases h
 |.nil,d,m,m',h,_,_=>by simp[mP]at h;split at h;cases h;exact⟨[],by simp,.nil,λae=>rfl,lO.refl _,by simp[cd],by simp[cd]⟩;cases h
 |.f F fs cs,d,m,m',h,hn,hc=>by
  simp[mP]at h;split at h;rename_i F' first caps
  split at h;rename_i e;subst e;rw[ah]at h;obtain⟨m1,h1,h⟩:=h;have hm:=(zK cs _ m1 m' h).1;obtain⟨n1,a1,f',b1,c1,e1,g1⟩:=DL hf ho fs _ m m1 h1 (λ q hq=>hn q (hm.1 q hq)) (λ q hq=>hc q (hm.2 q hq));obtain⟨n2,a2,c',b2,c2,e2,g2⟩:=DL hf ho cs _ m1 m' h hn hc;refine⟨n1++n2,by rw[a2,a1,aU],.fn F f' c',λae=>by simp[eP,aU,b1,b2],?_,?_,?_⟩;intro P G w I v hv;simp[den,ik,VR]at hv |-;obtain⟨us,vs,rfl,hu,hv⟩:=hv;exact⟨us,vs,rfl,Oq c1 _ hu,Oq c2 _ hv⟩;intro j hj;simp[cd,bI]at hj;exact hj.elim (e1 j) (e2 j);intro j hj;simp[cd,bI]at hj;exact hj.elim (g1 j) (g2 j);cases h;cases h
 |.od k,d,m,m',h,hn,hc=>by
  simp[mP]at h;split at h;rename_i k' aa len;rw[ah]at h;obtain⟨o,h1,h⟩:=h;split at h;rename_i c l;cases h;have hq:(k',k)∈NM:=hn _ (pF _ _ _);have he:aa+len=l.length:=by have:=hc (aE (aa+len) l.length) (by rw[(fC _ _ _).2];simp);simpa[aE]using this
  refine⟨[⟨.int .i64,(aa:Int)⟩],by rw[(fC _ _ _).1],.own k aa (ev k-aa),λae=>?_,?_,?_,?_⟩;simp only[eP,List.cons_append,fI];have:IS (X:=X) ⟨.int .i64,(aa:Int)⟩=aa:=by simp[IS];rw[Xr];simp
  rw[this];simp[den,ik];rw[hf _ hq,ho _ hq c l h1,show l.length-aa=len by omega];exact lO.refl _;intro j hj;simp[cd,bC]at hj;subst hj;exact⟨k,hq⟩;intro j hj;simp[cd,bC]at hj;subst hj;exact⟨k',hq⟩;cases h;cases h
 |.a ps,d,m,m',h,hn,hc=>by simp[mP]at h;split at h;rename_i ds;have⟨al,h1,ds',h2,h3,h4,h5⟩:=DL hf ho ps ds m m' h hn hc;refine⟨al,h1,.agg ds',λae=>by simp[eP,h2],?_,by simpa[cd]using h4,by simpa[cd]using h5⟩;intro P G w I v hv;simp[den,ik,VR]at hv |-;obtain⟨vs,rfl,hv⟩:=hv;refine⟨vs,rfl,?_⟩;exact Oq h3 _ hv;cases h
theorem DL(hf:∀q∈NM,f q.1=q.2)(ho:∀q∈NM,∀c l,get q.1=some (.eK c l)->ev q.2=l.length):∀(ps:List (Pt X.ι))(ds:List (DV X))(m m':MA X),vl get ps ds m=some m'->(∀ q∈m'.nm,q∈NM)->(∀ c∈m'.km,c=true)->
 ∃al,m'.fj=m.fj++al/\∃ds',(∀ ae,my ev ps (al++ae)=(ds',ae))/\nt (DN NM) f (bH ds) (bH ds')/\(∀ j∈aS ds,DN NM j)/\(∀ j∈aS ds',SN NM j)
 |[],[],m,m',h,_,_=>by simp[vl,bK]at h;subst h;exact⟨[],by simp,[],λae=>rfl,trivial,by simp[aS],by simp[aS]⟩
 |p::ps,d::ds,m,m',h,hn,hc=>by simp[vl]at h;have⟨m1,h1,h⟩:=ah.1 h;have hm:=(zK ps ds m1 m' h).1;obtain⟨n1,a1,d',b1,c1,e1,g1⟩:=afy hf ho p d m m1 h1 (λ q hq=>hn q (hm.1 q hq)) (λ q hq=>hc q (hm.2 q hq));have⟨n2,a2,ds',b2,c2,e2,g2⟩:=DL hf ho ps ds m1 m' h hn hc;refine⟨n1++n2,by rw[a2,a1,aU],d'::ds',λae=>?_,⟨⟨λ k hk=>e1 k (by rwa [jb]at hk),c1⟩,c2⟩,?_,?_⟩;simp[my,aU,b1,b2];intro j hj;simp[aS,bI]at hj;exact hj.elim (e1 j) (e2 j);intro j hj;simp[aS,bI]at hj;exact hj.elim (g1 j) (g2 j)
 |[],_::_,m,m',h,_,_=>by simp[vl]at h
 |_::_,[],m,m',h,_,_=>by simp[vl]at h
end
theorem TJ(hf:∀q∈NM,f q.1=q.2)(ho:∀q∈NM,∀c l,get q.1=some (.eK c l)->ev q.2=l.length):∀(rs:Y (List (Pt X.ι)))(qs:Y (List (DV X)))(m m':MA X),LZ get rs qs m=some m'->(∀ q∈m'.nm,q∈NM)->(∀ c∈m'.km,c=true)->
 ∃al,m'.fj=m.fj++al/\∃HM,(∀ ae,xL ev rs (al++ae)=(HM,ae))/\il (DN NM) f (qs.map bH) (HM.map bH)/\(∀ j∈(qs.map aS).flatten,DN NM j)/\(∀ j∈(HM.map aS).flatten,SN NM j)
 |[],[],m,m',h,_,_=>by simp[LZ]at h;subst h;exact⟨[],by simp,[],λae=>rfl,trivial,by simp,by simp⟩
 |r::rs,q::qs,m,m',h,hn,hc=>by
  simp[LZ]at h;have⟨m1,h1,h⟩:=ah.1 h;have hm:=(zL rs qs m1 m' h).1;obtain⟨n1,a1,d',b1,c1,e1,g1⟩:=DL hf ho r q m m1 h1 (λ q hq=>hn q (hm.1 q hq)) (λ q hq=>hc q (hm.2 q hq));have⟨n2,a2,ds',b2,c2,e2,g2⟩:=TJ hf ho rs qs m1 m' h hn hc;refine⟨n1++n2,by rw[a2,a1,aU],d'::ds',λae=>?_,⟨c1,c2⟩,?_,?_⟩;simp[xL]
  all_goals grind
 |[],_::_,m,m',h,_,_|_::_,[],m,m',h,_,_=>by simp[LZ]at h
end
end
section
variable {X:SX} {get:Nat->Option (ci X)} {env:Nat->DV X}
theorem I7:∀(sl:Y (Nat×Pt X.ι))(m m':MA X),IZ get env sl m=some m'->ip m m'/\∃al,m'.fj=m.fj++al/\al.length=(i9 sl).length
 |[],m,m',h=>by simp[IZ]at h;subst h;exact⟨ip.refl _,[],by simp,rfl⟩
 |(t,p)::r,m,m',h=>by simp[IZ]at h;rw[ah]at h;obtain⟨m1,h1,h⟩:=h;obtain⟨a1,n1,b1,c1⟩:=ajZ p _ m m1 h1;have⟨a2,n2,b2,c2⟩:=I7 r m1 m' h;exact⟨a1.trans a2,n1++n2,by rw[b2,b1,aU],by simp[i9,c1,c2]⟩
theorem nE:∀(os:Y (Nat×OP X.ι))(m m':MA X),Dy get os m=some m'->ip m m'/\∃al,m'.fj=m.fj++al/\al.length=(eh os).length
 |[],m,m',h=>by simp[Dy]at h;subst h;exact⟨ip.refl _,[],by simp,rfl⟩
 |(k,op)::r,m,m',h=>by simp[Dy]at h;rw[ah]at h;obtain⟨o,h1,h⟩:=h;split at h;rename_i c c' l;rw[ah]at h;obtain⟨l',h2,h⟩:=h;obtain⟨a2,n2,b2,c2⟩:=nE r _ m' h;refine⟨ip.trans (ip.trans (b:=⟨m.nm,m.fj++[⟨.sl c,l'⟩],m.km⟩) ⟨λ _ h=>h,λ_ h=>h⟩ (qW _ _ _)) a2,[⟨.sl c,l'⟩]++n2,?_,by simp[eh,c2]⟩;rw[b2,(fC _ _ _).1,aU];rename_i kc vc ws wd l;rw[ah]at h;obtain⟨l',h2,h⟩:=h;obtain⟨a2,n2,b2,c2⟩:=nE r _ m' h;refine⟨ip.trans (ip.trans (b:=⟨m.nm,m.fj++[⟨.mp kc vc,l'⟩],m.km⟩) ⟨λ _ h=>h,λ_ h=>h⟩ (qW _ _ _)) a2,[⟨.mp kc vc,l'⟩]++n2,?_,by simp[eh,c2]⟩;rw[b2,(fC _ _ _).1,aU];rename_i sz rows sz' rows';split at h;rw[ah]at h;obtain⟨m1,h2,h⟩:=h;obtain⟨a1,n1,b1,c1⟩:=zL rows _ _ m1 h2;have⟨a2,n2,b2,c2⟩:=nE r m1 m' h;refine⟨((qW m _ _).trans a1).trans a2,n1++n2,?_,by simp[eh,c1,c2]⟩;rw[b2,b1,(fC _ _ _).1,aU];cases h;cases h
variable {NM:List (Nat×Nat)} {f:Nat->Nat} {ev:Nat->Nat}
theorem E9:∀(os:Y (Nat×OP X.ι))(m m':MA X),Dy get os m=some m'->(∀ q∈m'.nm,q∈NM)->∃al,m'.fj=m.fj++al/\∀ae,∀k∈os.map (·.1),∃k' o,(k',k)∈NM/\get k'=some o/\∀c l,o=.eK c l->(k,List.length l)∈lens os (al++ae)
 |[],m,m',h,_=>by simp[Dy]at h;subst h;exact⟨[],by simp,λae k hk=>by simp at hk⟩
 |(k,op)::r,m,m',h,hn=>by
  simp[Dy]at h;rw[ah]at h;obtain⟨o,h1,h⟩:=h;split at h;rename_i c c' l;rw[ah]at h;obtain⟨l',h2,h⟩:=h;have hm:=(nE r _ m' h).1;obtain⟨n2,b2,c2⟩:=E9 r _ m' h hn;refine⟨[⟨.sl c,l'⟩]++n2,by rw[b2,(fC _ _ _).1,aU],λae j hj=>?_⟩;simp only[bq,aI]at hj;by_cases hjk:j=k;subst hjk;refine⟨_,_,hn _ (hm.1 _ (pF _ _ _)),h1,λc2 l2 he=>?_⟩;injection he with e1 e2;subst e1;subst e2;have:=congrArg List.length (jy h2).2;simp at this;rw[this];exact List.mem_cons_self;rcases hj with rfl|hj;exact(hjk rfl).elim;have⟨k',o',g1,g2,g3⟩:=c2 ae j hj;exact⟨k',o',g1,g2,λc l he=>eG _ (g3 c l he)⟩;rename_i kc vc ws wd l;rw[ah]at h;obtain⟨l',h2,h⟩:=h;have hm:=(nE r _ m' h).1;obtain⟨n2,b2,c2⟩:=E9 r _ m' h hn;refine⟨[⟨.mp kc vc,l'⟩]++n2,by rw[b2,(fC _ _ _).1,aU],λae j hj=>?_⟩;simp only[bq,aI]at hj;by_cases hjk:j=k;subst hjk;exact⟨_,_,hn _ (hm.1 _ (pF _ _ _)),h1,λc2 l2 he=>by cases he⟩;rcases hj with rfl|hj;exact(hjk rfl).elim;exact c2 ae j hj;rename_i sz rows sz' rows';split at h;have⟨m1,h2,h⟩:=ah.1 h;obtain⟨a1,n1,b1,c1⟩:=zL rows _ _ m1 h2;have hm:=(nE r _ m' h).1;obtain⟨n2,b2,c2⟩:=E9 r _ m' h hn;refine⟨n1++n2,by rw[b2,b1,(fC _ _ _).1,aU],λae j hj=>?_⟩;simp only[bq,aI]at hj;have hd:(n1++n2++ae).drop (xJ rows).length=n2++ae:=by rw[<- c1,aU,List.drop_left]
  simp only[lens,hd];by_cases hjk:j=k;subst hjk;exact⟨_,_,hn _ (hm.1 _ (a1.1 _ (pF _ _ _))),h1,λc2 l2 he=>by cases he⟩;rcases hj with rfl|hj;exact(hjk rfl).elim;exact c2 ae j hj;cases h;cases h
theorem Q0:∀(os:Y (Nat×OP X.ι))(L:Y (DC X)),((lens os L).map (·.1)).Sublist (os.map (·.1))
 |[],_=>by simp[lens]
 |(k,.l c)::r,L=>by simp[lens];split;exact(Q0 r _).cons_cons _;exact List.nil_sublist _
 |(k,.m kc vc)::r,L|(k,.c sz rows)::r,L=>(Q0 r _).cons _
theorem Ot(hf:∀q∈NM,f q.1=q.2)(ho:∀q∈NM,∀c l,get q.1=some (.eK c l)->ev q.2=l.length):∀(sl:Y (Nat×Pt X.ι))(m m':MA X),IZ get env sl m=some m'->(∀ q∈m'.nm,q∈NM)->(∀ c∈m'.km,c=true)->
 ∃al,m'.fj=m.fj++al/\∃es,(∀ ae,Mx ev sl (al++ae)=es)/\(∀ p∈es,p.1∈sl.map (·.1)/\lO (ik f (den (env p.1))) (den p.2)/\(∀ j∈cd (env p.1),DN NM j)/\(∀ j∈cd p.2,SN NM j))
 |[],m,m',h,_,_=>by simp[IZ]at h;subst h;exact⟨[],by simp,[],λae=>rfl,by simp⟩
 |(t,p)::r,m,m',h,hn,hc=>by
  simp[IZ]at h;have⟨m1,h1,h⟩:=ah.1 h;have hm:=(I7 r m1 m' h).1;obtain⟨n1,a1,d',b1,c1,e1,g1⟩:=afy hf ho p _ m m1 h1 (λ q hq=>hn q (hm.1 q hq)) (λ q hq=>hc q (hm.2 q hq));have⟨n2,a2,es,b2,c2⟩:=Ot hf ho r m1 m' h hn hc;refine⟨n1++n2,by rw[a2,a1,aU],(t,d')::es,λae=>by simp[Mx,b1,b2],λq hq=>?_⟩
  all_goals grind
theorem ab1{D:Ψ}(f:Nat->Nat):∀rows:Y (List Tree),il D f (aJ rows) (aJ rows)
 |[]=>trivial
 |r::rs=>by
  refine⟨?_,ab1 f rs⟩
  induction r with
  |nil=>trivial
  |cons y ys ih=>exact⟨⟨by simp[refs],lO.refl _⟩,ih⟩
theorem ab2{a b c d:CT X.ι}{l:Y (CT.T X.toSE a×CT.T X.toSE b)}{l':Y (CT.T X.toSE c×CT.T X.toSE d)}(h:lG (.mp a b) (.mp c d) l=some l'):bL (.map c d l':ci X)=bL (.map a b l):=by
 obtain⟨e,h⟩:=tH h
 grind
theorem ab3{D:Ψ}(f:Nat->Nat){kc vc:CT X.ι}:∀l:Y (CT.T X.toSE kc×CT.T X.toSE vc),il D f (bL (.map kc vc l:ci X)).rows (bL (.map kc vc l:ci X)).rows
 |[]=>trivial
 |p::ps=>⟨⟨⟨by simp[Bd],by rw[XA];exact lO.refl _⟩,⟨by simp[Bd],by rw[XA];exact lO.refl _⟩,trivial⟩,ab3 f ps⟩
theorem Bh(hf:∀q∈NM,f q.1=q.2)(ho:∀q∈NM,∀c l,get q.1=some (.eK c l)->ev q.2=l.length):∀(os:Y (Nat×OP X.ι))(m m':MA X),Dy get os m=some m'->(∀ q∈m'.nm,q∈NM)->(∀ c∈m'.km,c=true)->
 ∃al,m'.fj=m.fj++al/\∃xs,(∀ ae,cu ev os (al++ae)=xs)/\(∀ p∈xs,p.1∈os.map (·.1)/\∃k' o o',p.2=some o'/\(k',p.1)∈NM/\get k'=some o/\(bL o').sz=(bL o).sz/\il (DN NM) f (bL o).rows (bL o').rows/\(∀ j∈eI o',SN NM j))
 |[],m,m',h,_,_=>by simp[Dy]at h;subst h;exact⟨[],by simp,[],λae=>rfl,by simp⟩
 |(k,op)::r,m,m',h,hn,hc=>by simp[Dy]at h;rw[ah]at h;obtain⟨o,h1,h⟩:=h;split at h;rename_i c c' l;rw[ah]at h;obtain⟨l',h2,h⟩:=h;have hm:=(nE r _ m' h).1;obtain⟨n2,a2,xs,b2,c2⟩:=Bh hf ho r _ m' h hn hc;refine⟨[⟨.sl c,l'⟩]++n2,by rw[a2,(fC _ _ _).1,aU],(k,some (.eK c l'))::xs,λae=>by simp[cu,b2],λq hq=>?_⟩;rcases aI.1 hq with rfl|hq;refine⟨by simp,_,_,_,rfl,hn _ (hm.1 _ (pF _ _ _)),h1,?_,?_,by simp[eI]⟩;simp[bL,(jy h2).1];simp[bL,(jy h2).2];exact ab1 f _;have⟨i1,i2⟩:=c2 q hq;exact⟨by simp only[bq,aI];exact .inr i1,i2⟩;rename_i kc vc ws wd l;rw[ah]at h;obtain⟨l',h2,h⟩:=h;have hm:=(nE r _ m' h).1;obtain⟨n2,a2,xs,b2,c2⟩:=Bh hf ho r _ m' h hn hc;refine⟨[⟨.mp kc vc,l'⟩]++n2,by rw[a2,(fC _ _ _).1,aU],(k,some (.map kc vc l'))::xs,λae=>by simp[cu,b2],λq hq=>?_⟩;rcases aI.1 hq with rfl|hq;refine⟨by simp,_,_,_,rfl,hn _ (hm.1 _ (pF _ _ _)),h1,?_,?_,by simp[eI]⟩;rw[ab2 h2];rw[ab2 h2];exact ab3 f _;have⟨i1,i2⟩:=c2 q hq;exact⟨by simp only[bq,aI];exact .inr i1,i2⟩;rename_i sz rows sz' rows';split at h;rename_i hsz;have⟨m1,h2,h⟩:=ah.1 h;have hm1:=(zL rows _ _ m1 h2).1;have hm:=(nE r _ m' h).1;obtain⟨n1,a1,qs,b1,c1,e1,g1⟩:=TJ hf ho rows _ _ m1 h2 (λ q hq=>hn q (hm.1 q hq)) (λ q hq=>hc q (hm.2 q hq));obtain⟨n2,a2,xs,b2,c2⟩:=Bh hf ho r _ m' h hn hc;refine⟨n1++n2,by rw[a2,a1,(fC _ _ _).1,aU],(k,some (.cells sz qs))::xs,λae=>by simp[cu,b1,b2],λq hq=>?_⟩;rcases aI.1 hq with rfl|hq;exact⟨by simp,_,_,_,rfl,hn _ (hm.1 _ (hm1.1 _ (pF _ _ _))),h1,hsz,c1,g1⟩;have⟨i1,i2⟩:=c2 q hq;exact⟨by simp only[bq,aI];exact .inr i1,i2⟩;cases h;cases h
theorem ald{d:DV X}(h:isU d=false)(h':d=.undef):False:=by subst h';cases h
theorem ady{A:Type}{sh:Sh X.ι}{ds:Y Nat}{s0 s':ek X}{k:VT (X:=X) sh.vars->J A}{r:A}(hl0:Low s0)(hx:Ext (· ∈ds) s0 s')(h:Vc sh ds s0 s' k=some r):
 ∃v,k v=some r/\Low (encS sh s0 v)/\Ext (· ∈ds) s0 (encS sh s0 v)/\∀(P:Program) (w0:World) (O0:lp) (N:Nat) (G:Nat->J dc) (I:Nat->Prop) (a:Act) (w:World),Rel P w0 O0 N G I s'.st a w->∃ β',Rel P w0 O0 N β' I (encS sh s0 v).st a w:=by
 unfold Vc at h;have⟨m1,h1,h⟩:=ah.1 h;have⟨m,h2,h⟩:=ah.1 h;have⟨h3,h⟩:=dZ h;have⟨v,h4,h⟩:=ah.1 h;have⟨h5,h6⟩:=qV h;simp only[okS,aT,bf]at h3;obtain⟨⟨⟨⟨⟨⟨⟨⟨n1,n2⟩,n3⟩,n4⟩,n5⟩,n6⟩,n7⟩,n8⟩,n9⟩:=h3;have hm2:=(nE _ _ _ h2).1;have yd:=Xq h4;obtain⟨_,nA,dA,lA⟩:=I7 _ _ _ h1;simp at dA;have asJ:=(List.nodup_append.1 n1).1;have asI:=(List.nodup_append.1 n2).1;have hsw:((m.nm.map λq=>(q.2,q.1)).map (·.1)).Nodup:=by rw[map_map];exact asI
 generalize hf':(λ j=>match lk m.nm j with|some q=>q|none=>j:Nat->Nat)=f;generalize hg':(λ j=>match lk (m.nm.map λq=>(q.2,q.1)) j with|some q=>q|none=>j:Nat->Nat)=g;have hf:∀q∈m.nm,f q.1=q.2:=by rintro⟨p,q⟩ hq;rw[<- hf'];simp[wD asJ hq]
 have hg:∀q∈m.nm,g q.2=q.1:=by rintro⟨p,q⟩ hq;rw[<- hg'];have:(q,p)∈m.nm.map λq=>(q.2,q.1):=mem_map.2 ⟨(p,q),hq,rfl⟩;simp[wD hsw this]
 have pf:∀j∈sh.ef,f j=j:=by
  intro j hj;rw[<- hf'];cases hh:lk m.nm j with
  |none=>simp[hh]
  |some q=>exact((List.nodup_append.1 n1).2.2 j (mem_map.2 ⟨(j,q),qf hh,rfl⟩) j hj rfl).elim
 have L4:∀j∈sh.ef,g j=j:=by
  intro j hj;rw[<- hg'];cases hh:lk (m.nm.map λq=>(q.2,q.1)) j with
  |none=>simp[hh]
  |some q=>
   have h1:=qf hh;simp only[mem_map]at h1;obtain⟨z,hz,e⟩:=h1;injection e with e1 e2;exact((List.nodup_append.1 n2).2.2 j (mem_map.2 ⟨z,hz,e1⟩) j hj rfl).elim
 have hg0:∀j,j<1000->g j=j:=by
  intro j hj;rw[<- hg'];cases hh:lk (m.nm.map λq=>(q.2,q.1)) j with
  |none=>simp[hh]
  |some q=>
   have h1:=qf hh;simp only[mem_map]at h1;obtain⟨z,hz,e⟩:=h1;injection e with e1 e2;have:=all_eq_true.1 n4 z hz;simp at this;simp[hh];omega
 have hgf:∀j,(DN m.nm j\/j∈sh.ef)->g (f j)=j:=by rintro j (⟨q,hq⟩|hj);rw[hf _ hq];exact hg _ hq;rw[pf j hj];exact L4 j hj
 obtain⟨nB,dB,lB⟩:=E9 (NM:=m.nm) _ _ _ h2 (λ q hq=>hq);have hL:m.fj=nA++nB:=by rw[dB,dA]
 have hdrop:(xK sh.vars v).drop (i9 sh.slots).length=nB:=by rw[yd,hL,<- lA,List.drop_left]
 have htake:(xK sh.vars v).take (i9 sh.slots).length=nA:=by rw[yd,hL,<- lA,List.take_left]
 generalize hol:(λ k=>(lk (lens sh.du nB) k).getD 0:Nat->Nat)=ev;have ho:∀q∈m.nm,∀c l,iS s'.obj q.1=some (.eK c l)->ev q.2=l.length:=by
  rintro⟨p,q⟩ hq c l hl;have hqk:=all_eq_true.1 n4 _ hq;simp at hqk;obtain⟨p',o,g1,g2,g3⟩:=lB [] q (by simpa using hqk.1.1);have:p'=p:=by have e1:=hg _ g1;have e2:=hg _ hq;simp at e1 e2;rw[<- e1,e2]
  subst this;simp at hl;rw[hl]at g2;injection g2 with g2;have h3:=g3 c l g2.symm;rw[append_nil]at h3;rw[<- hol];have hk:=(Q0 sh.du nB).nodup n3;simp[wD hk h3]
 obtain⟨X1,NO,es,eA,pA⟩:=Ot (NM:=m.nm) (f:=f) (ev:=ev) hf ho _ _ _ h1 (λ q hq=>hm2.1 q hq) (λ c hc=>h5 c (hm2.2 c hc));obtain⟨nB',dB',xs,eB,pB⟩:=Bh (NM:=m.nm) (f:=f) (ev:=ev) hf ho _ _ _ h2 (λ q hq=>hq) h5;have eqA:X1=nA:=by simp at NO;rw[<- NO,dA]
 have eqB:=List.append_cancel_left (dB'.symm.trans dB);subst eqA eqB;have Nx:=eA [];have No:=eB [];rw[append_nil]at Nx No;have hS:encS sh s0 v=⟨es++sh.keep.map (λ t=>(t,fL s0.env t)),xs++sh.ef.map (λ k=>(k,iS s0.obj k)),sh.nx,(List.range s0.nx).filter (λ k=>!sh.ef.contains k)++s0.log⟩:=by simp[encS,hdrop,htake,hol,Nx,No]
 have hsn:∀j,SN m.nm j->j<sh.nx:=by rintro j ⟨p,hp⟩;have:=all_eq_true.1 n4 _ hp;simp[aT,bf]at this;exact this.1.2
 have kp:∀j,(sh.ef.contains j || m.nm.contains (j,j))=true->j∈sh.ef\/(j,j)∈m.nm:=by intro j hj;simpa using hj
 have hfp:∀j,j∈sh.ef\/(j,j)∈m.nm->f j=j:=λj hj=>hj.elim (pf j) (λ h=>hf (j,j) h);have hdp:∀j,j∈sh.ef\/(j,j)∈m.nm->DN m.nm j\/j∈sh.ef:=λj hj=>hj.elim .inr (λ h=>.inl ⟨j,h⟩);have hko:∀j∈sh.ef,j<s0.nx/\(∃ o,iS s0.obj j=some o/\iS s'.obj j=some o/\∀i∈eI o,i∈sh.ef\/(i,i)∈m.nm):=by
  intro j hj;have:=all_eq_true.1 n7 _ hj;simp only[aT,bf,Bool.not_eq_true']at this;obtain⟨⟨⟨a1,a2⟩,a3⟩,a4⟩:=this;refine⟨a1,?_⟩;cases ho0:iS s0.obj j with
  |none=>rw[ho0]at a4;cases a4
  |some o=>
   rw[ho0]at a4;refine⟨o,rfl,?_,λi hi=>kp i (all_eq_true.1 a4 i hi)⟩;obtain⟨d,hd,hd2⟩:=hx.obj;have hnd:j∉d:=(by have e:s'.log.take (s'.log.length-s0.log.length)=d:=(by rw[hd,eU,Nat.add_sub_cancel,List.take_left]);rw[e]at a2;simpa using a2);rcases hd2 j a1 hnd with h|h;rw[h,ho0];rw[h]at a3;cases a3
 have hke:∀t∈sh.keep,t∉ds/\fL s'.env t=fL s0.env t/\∀j∈cd (fL s0.env t),j∈sh.ef\/(j,j)∈m.nm:=by
  intro t ht;have:=all_eq_true.1 n6 _ ht;simp only[aT,Bool.not_eq_true']at this;obtain⟨⟨a1,a2⟩,a3⟩:=this;have a1':t∉ds:=by simpa using a1
  refine⟨a1',?_,λj hj=>kp j (all_eq_true.1 a3 j hj)⟩;rcases hx.env t a1' with h|h;exact h;exact(ald a2 h).elim
 have hks:∀q∈es,q.1∈ds:=by intro q hq;have h1:=(pA q hq).1;obtain⟨z,hz,e⟩:=mem_map.1 h1;have:=all_eq_true.1 n5 _ hz;rw[<- e];simpa using this
 have hkeep:∀t,lk (sh.keep.map λt=>(t,fL s0.env t)) t=if t∈sh.keep then some (fL s0.env t)else none:=by
  intro t
  induction sh.keep with
  |nil=>simp[lk]
  |cons q qs ih=>
   simp[bq,lk,ih,aI];by_cases e:q=t;subst e;simp;rw[aM e];simp[Ne.symm e]
 have E4:∀t,lk (sh.ef.map λt=>(t,iS s0.obj t)) t=if t∈sh.ef then some (iS s0.obj t)else none:=by
  intro t
  induction sh.ef with
  |nil=>simp[lk]
  |cons q qs ih=>
   simp[bq,lk,ih,aI];by_cases e:q=t;subst e;simp;rw[aM e];simp[Ne.symm e]
 have tG:∀t,(∃ d,(t,d)∈es/\fL (encS sh s0 v).env t=d)\/(t∈sh.keep/\fL (encS sh s0 v).env t=fL s0.env t)\/fL (encS sh s0 v).env t=.undef:=by
  intro t;have e1:fL (encS sh s0 v).env t=(match lk es t with|some d=>some d|none=>if t∈sh.keep then some (fL s0.env t)else none).getD .undef:=by rw[hS];show(lk (es++sh.keep.map (λ t=>(t,fL s0.env t))) t).getD .undef=_;rw[DJ,hkeep t];cases lk es t<;>rfl
  rw[e1];cases he:lk es t with
  |some d=>exact .inl ⟨d,qf he,rfl⟩
  |none=>
   by_cases ht:t∈sh.keep;simp only[aP ht];exact .inr (.inl ⟨ht,rfl⟩);simp only[aM ht];exact .inr (.inr rfl)
 have kh:∀j o,iS (encS sh s0 v).obj j=some o->(∃ k' o1,(k',j)∈m.nm/\iS s'.obj k'=some o1/\(bL o).sz=(bL o1).sz/\il (DN m.nm) f (bL o1).rows (bL o).rows/\(∀ i∈eI o,SN m.nm i))\/(j∈sh.ef/\iS s0.obj j=some o):=by
  intro j o hjo;have e1:iS (encS sh s0 v).obj j=(match lk xs j with|some d=>some d|none=>if j∈sh.ef then some (iS s0.obj j)else none).join:=by rw[hS];show(lk (xs++sh.ef.map (λ k=>(k,iS s0.obj k))) j).join=_;rw[DJ,E4 j];cases lk xs j<;>rfl
  rw[e1]at hjo;cases he:lk xs j with
  |some x=>
   rw[he]at hjo;obtain⟨_,k',o1,o',b1,b2,b3,b4,b5,b6⟩:=pB _ (qf he);simp at b1 b2 hjo;subst b1;simp[Option.join_some,bK]at hjo;subst hjo;exact .inl ⟨k',o1,b2,b3,b4,b5,b6⟩
  |none=>
   rw[he]at hjo;by_cases hj:j∈sh.ef;simp[aP hj,Option.join_some]at hjo;exact .inr ⟨hj,hjo⟩;simp[aM hj]at hjo
 have hnx:=n8;have hkx:∀j,j∈sh.ef\/(j,j)∈m.nm->j<sh.nx:=λj hj=>hj.elim (λ hj=>Nat.lt_of_lt_of_le (hko j hj).1 hnx) (λ h=>hsn j ⟨j,h⟩);have hRW:∀{r q:Y AV},nt (DN m.nm) f r q->nt (λ j=>DN m.nm j\/j∈sh.ef) f r q:=by
  intro r
  induction r with
  |nil=>intro q h;cases q with
   |nil=>trivial
   |cons=>exact h.elim
  |cons x xs ih=>intro q h;cases q with
   |nil=>exact h.elim
   |cons y ys=>exact⟨⟨λ k hk=>.inl (h.1.1 k hk),h.1.2⟩,ih h.2⟩
 have asS:∀{r q:Y (List AV)},il (DN m.nm) f r q->il (λ j=>DN m.nm j\/j∈sh.ef) f r q:=by
  intro r
  induction r with
  |nil=>intro q h;cases q with
   |nil=>trivial
   |cons=>exact h.elim
  |cons x xs ih=>intro q h;cases q with
   |nil=>exact h.elim
   |cons y ys=>exact⟨hRW h.1,ih h.2⟩
 refine⟨v,h6,?_,?_,?_⟩;constructor;rw[hS];exact n9;rw[hS];exact Nat.le_trans hl0.ge n8;intro t j hj;have Ek:(encS sh s0 v).nx=sh.nx:=by rw[hS]
 rw[Ek];rcases tG t with ⟨d,h1,h2⟩|⟨h1,h2⟩|h2;rw[h2]at hj;exact hsn j ((pA _ h1).2.2.2 j hj);rw[h2]at hj;exact hkx j ((hke t h1).2.2 j hj);rw[h2]at hj;simp[cd]at hj;intro j o hjo;have Ek:(encS sh s0 v).nx=sh.nx:=by rw[hS]
 rw[Ek];rcases kh j o hjo with ⟨k',o1,b1,b2,b3,b4,b5⟩|⟨b1,b2⟩;exact⟨hsn j ⟨k',b1⟩,λi hi=>hsn i (b5 i hi)⟩;have⟨c1,o',c2,c3,c4⟩:=hko j b1;rw[b2]at c2;cases c2;exact⟨hkx j (.inl b1),λi hi=>hkx i (c4 i hi)⟩;refine⟨λ t ht=>?_,⟨(List.range s0.nx).filter (λ k=>!sh.ef.contains k),by rw[hS],λj hj hn=>?_⟩,hS ▸ hnx⟩;rcases tG t with ⟨d,h1,h2⟩|⟨h1,h2⟩|h2;exact(ht (hks _ h1)).elim;exact .inl h2;exact .inr h2;have hjk:j∈sh.ef:=by simpa[hj]using hn
 cases hjo:iS (encS sh s0 v).obj j with
 |none=>exact .inr rfl
 |some o=>
  rcases kh j o hjo with ⟨k',o1,b1,_⟩|⟨b1,b2⟩;exact((List.nodup_append.1 n2).2.2 j (mem_map.2 ⟨(k',j),b1,rfl⟩) j hjk rfl).elim;exact .inl b2.symm
 intro P w0 O0 N G I a w hr;refine⟨_,Rel.re (f:=f) (g:=g) (D:=λj=>DN m.nm j\/j∈sh.ef) hgf hg0 hr (λ _=>.inl rfl) (λ _=>rfl) (λ t=>?_) (λ j o' hj=>?_)⟩;show den (fL (encS sh s0 v).env t)=.undef\/((∀ k∈refs (den (fL s'.env t)),_)/\lO (ik f (den (fL s'.env t))) (den (fL (encS sh s0 v).env t)));rcases tG t with ⟨d,h1,h2⟩|⟨h1,h2⟩|h2;right;rw[h2];obtain⟨_,b1,b2,_⟩:=pA _ h1;exact⟨λ k hk=>.inl (b2 k (by rwa [jb]at hk)),b1⟩;right;have⟨_,b1,b2⟩:=hke t h1;rw[h2,b1];refine⟨λ k hk=>hdp k (b2 k (by rwa [jb]at hk)),?_⟩;rw[<- Bf,XP _ (λ k hk=>hfp k (b2 k hk))];exact lO.refl _;left;rw[h2];rfl;simp[ek.st,uy]at hj;obtain⟨o,hjo,rfl⟩:=hj;rcases kh j o hjo with ⟨k',o1,b1,b2,b3,b4,b5⟩|⟨b1,b2⟩;exact⟨k',bL o1,by simp[ek.st,b2],.inl ⟨j,b1⟩,hf _ b1,b3,asS b4⟩;have⟨c1,o',c2,c3,c4⟩:=hko j b1;rw[b2]at c2;cases c2;have hid:ry f o=o:=by
  cases o with
  |eK c l=>rfl
  |map kc vc l=>rfl
  |cells sz rows=>
   simp[ry];congr 1;have:=λq hq=>E8 q λi hi=>hfp i (c4 i (by simp[eI,List.mem_flatten,mem_map];exact⟨_,⟨q,hq,rfl⟩,hi⟩));rw[List.map_congr_left this];simp
 obtain⟨r1,r2⟩:=Kt (D:=λj=>DN m.nm j\/j∈sh.ef) f o (λ i hi=>hdp i (c4 i hi));rw[hid]at r1 r2;exact⟨j,bL o,by simp[ek.st,c3],.inr b1,pf j b1,r1,r2⟩
theorem Ext.trans{ds:Ψ}{a b c:ek X}(h:Ext ds a b)(h':Ext ds b c):Ext ds a c:=by refine⟨λ t ht=>?_,?_,Nat.le_trans h.nx h'.nx⟩;rcases h'.env t ht with h1|h1;rcases h.env t ht with h2|h2;exact .inl (h1.trans h2);exact .inr (h1.trans h2);exact .inr h1;obtain⟨d,h1,h2⟩:=h.obj;obtain⟨d',h3,h4⟩:=h'.obj;refine⟨d'++d,by rw[h3,h1,aU],λk hk hn=>?_⟩;simp at hn;rcases h4 k (Nat.lt_of_lt_of_le hk h.nx) hn.1 with h5|h5;rcases h2 k hk hn.2 with h6|h6;exact .inl (h5.trans h6);exact .inr (h5.trans h6);exact .inr h5
theorem Ext.refl(ds:Ψ)(s:ek X):Ext ds s s:=⟨λ _ _=>.inl rfl,⟨[],by simp,λ_ _ _=>.inl rfl⟩,aB _⟩
def Says(s s':ek X):Prop:=∀(P:Program) (w0:World) (O0:lp) (N:Nat) (G:Nat->J dc) (I:Nat->Prop) (a:Act) (w:World),Rel P w0 O0 N G I s.st a w->∃ β',Rel P w0 O0 N β' I s'.st a w
theorem Low.room{s:ek X}{P:Q}{w0:M}{O0:lp}{N:Nat}{G:ζ}{I:Ψ}{a:Act}{w:M}(hl:Low s)(hr:Rel P w0 O0 N G I s.st a w):∃ β2,β2 s.nx=none/\Rel P w0 O0 N β2 I s.st a w:=by
 have hr1:=hr.restrict hl.old
 have hr2:=Rel.re (f:=id) (g:=λj=>if j<s.nx then j else 1000000) (D:=(· <s.nx)) (s':=s.st) (λ k hk=>aP hk) (λ j hj=>aP (by have:=hl.ge;omega)) hr1 (λ _=>.inl rfl) (λ _=>rfl)
  (λ q=>.inr ⟨λ k hk=>hl.env q k (by rw[<- jb];exact hk),by show lO (ik id (den (fL s.env q))) (den (fL s.env q));rw[<- Bf,XP (f:=id) _ (λ _ _=>rfl)];exact lO.refl _⟩)
  (λ j o' hj=>by
   simp[ek.st]at hj;obtain⟨x,hx,rfl⟩:=hj;have⟨h1,h2⟩:=hl.obj j x hx;have⟨r1,r2⟩:=Kt (D:=(· <s.nx)) id x h2;have hid:ry id x=x:=by
    cases x with
    |eK c l|map kc vc l=>rfl
    |cells sz rows=>
     simp[ry];have:∀q∈rows,MB id q=q:=λq _=>E8 (f:=id) q λ_ _=>rfl;rw[List.map_congr_left this];simp
   rw[hid]at r1 r2;exact⟨j,bL x,by simp[ek.st,hx],h1,rfl,r1,r2⟩)
 exact⟨_,by simp,hr2⟩
theorem ape(z:Bool)(k:Nat):cd (nz (X:=X) z k)=[k]:=by cases z<;>rfl
theorem XR{ds:Y Nat}{z:Bool}{s:ek X}{t:Nat}{c:CT X.ι}(hl:Low s)(ht:t∈ds):Low (CM z s t c)/\Ext (· ∈ds) s (CM z s t c)/\Says s (CM z s t c):=by
 unfold CM;split;rename_i hn;split;have he:∀q,fL ((t,nz z s.nx)::s.env) q=if t=q then nz z s.nx else fL s.env q:=λq=>by simp[fL,lk];by_cases e:t=q<;>simp[e]
 have hO:∀q,iS ((s.nx,some (.eK c []))::s.obj) q=if s.nx=q then some (.eK c [])else iS s.obj q:=λq=>by simp[iS,lk];by_cases e:s.nx=q<;>simp[e]
 refine⟨⟨by show s.nx+1<=1000000;omega,by have:=hl.ge;show 1000<=s.nx+1;omega,λq k hk=>?_,λk o ho=>?_⟩,⟨λ q hq=>?_,⟨[s.nx],rfl,λk hk hnk=>?_⟩,by show s.nx<=s.nx+1;omega⟩,λP w0 O0 N G I a w hr=>?_⟩;rw[he]at hk;split at hk;simp[ape]at hk;subst hk;show s.nx<s.nx+1;omega;have:=hl.env q k hk;show k<s.nx+1;omega;rw[hO]at ho;split at ho;rename_i e;cases ho;subst e;exact⟨by show s.nx<s.nx+1;omega,by simp[eI]⟩;have⟨h1,h2⟩:=hl.obj k o ho;exact⟨by show k<s.nx+1;omega,λj hj=>by have:=h2 j hj;show j<s.nx+1;omega⟩;left;rw[he,aM];intro e;subst e;exact hq ht;left;rw[hO,aM (by omega)];have⟨β2,HO,hr2⟩:=hl.room hr;have⟨hS,hM⟩:=Mem.q7 (i:=s.nx) (o:=bL (.eK c []:ci X)) hr2.mem HO rfl;refine⟨ins β2 s.nx .none,hr2.defers,hr2.size,λq=>?_,?_⟩;have h1:=hr2.env q;show gc P _ w I (den (fL ((t,nz z s.nx)::s.env) q)) none _;rw[he];by_cases e:t=q;subst e;rw[aP rfl];have h2:VR P _ w I (den (fL s.env t)) (a.tmps.getD t undef):=h1;rw[hn]at h2;rcases z with _|_;simp only[gc,nz,au,den,VR];exact .inl ⟨by simp[ins],h2,trivial,trivial⟩;simp only[gc,nz,aj,den,VR];exact .inl ⟨trivial,h2⟩;rw[aM e];exact gc.mono hS.ext hS.same hS.inc h1;have e:(λ k=>(iS ((s.nx,some (.eK c []))::s.obj) k).map bL)=bX s.st.obj [(s.nx,some (bL (.eK c []:ci X)))]:=by funext q;simp[bX,ek.st];rw[hO];by_cases e:s.nx=q;simp[e];rw[aM e,aM (Ne.symm e)]
 show Mem P w0 O0 _ I (λ k=>(iS ((s.nx,some (.eK c []))::s.obj) k).map bL) w;rw[e];exact hM;exact⟨hl,Ext.refl _ s,λ_ _ _ _ G _ _ _ h=>⟨G,h⟩⟩;exact⟨hl,Ext.refl _ s,λ_ _ _ _ G _ _ _ h=>⟨G,h⟩⟩
theorem XT(y:DV X):∀(l:Y (DV X))(j i:Nat),i∈aS (l.set j y)->i∈aS l\/i∈cd y
 |[],_,_,h=>.inl (by simpa using h)
 |x::l,0,i,h=>by simp[aS]at h |-;rcases h with h|h;exact .inr h;exact .inl (.inr h)
 |x::l,j+1,i,h=>by simp[aS]at h |-;rcases h with h|h;exact .inl (.inl h);rcases XT y l j i h with h|h;exact .inl (.inr h);exact .inr h
theorem br.set{P:Q}{G:ζ}{w:M}{I:Ψ}{y:AV}:∀(xs:Y AV)(vs:Y Value)(j:Nat),(∀ x v,xs[j]? =some x->VR P G w I x v->VR P G w I y v)->br P G w I xs vs->br P G w I (xs.set j y) vs
 |[],vs,_,_,h=>by simpa using h
 |x::xs,[],_,_,h=>by simp[br]at h
 |x::xs,v::vs,0,hy,h=>by exact⟨hy x v rfl h.1,h.2⟩
 |x::xs,v::vs,j+1,hy,h=>by exact⟨h.1,br.set xs vs j (λ x v e=>hy x v (by simpa using e)) h.2⟩
theorem OR.set1{P:Q}{G:ζ}{w:M}{I:Ψ}{sz:Nat}{row:Y AV}{j:Nat}{y:AV}{B:dc}(hy:∀x v,row[j]? =some x->VR P G w I x v->VR P G w I y v)(h:OR P G w I ⟨sz,[row]⟩ B):OR P G w I ⟨sz,[row.set j y]⟩ B:=by
 cases B with
 |none=>simp[OR]at h
 | «at» b s n=>
  obtain⟨h1,c,e,h2,h3,h4⟩:=h;refine⟨h1,c,e,h2,h3,?_⟩;simp only[cj,List.length_set]at h4 |-;refine⟨h4.1,?_,trivial⟩;rw[jO]at h4 |-;intro i x hx;rw[List.getElem?_set]at hx;split at hx;rename_i e;subst e;split at hx;cases hx;rename_i hlt;obtain⟨v,g1,g2,g3⟩:=h4.2.1 j _ (dI hlt);exact⟨v,g1,hy _ v (dI hlt) g2,g3⟩;cases hx;exact h4.2.1 i x hx
 |mp b=>
  obtain⟨es,cl,h1,hle,h2,h3⟩:=h;refine⟨es,cl,h1,hle,λe=>?_,h3⟩;have:=h2 e
  match hes:es.toList,this with
  |[e1],this=>exact⟨br.set _ _ j hy this.1,trivial⟩
  |[],this|_::_::_,this=>simp[c9]at this
theorem afz(y:DV X):∀(l:Y (DV X))(j:Nat),bH (l.set j y)=(bH l).set j (den y)
 |[],_|x::l,0=>by simp[bH]
 |x::l,j+1=>by simp[bH,afz y l j]
theorem ain{ds:Y Nat}{s:ek X}{q j:Nat}{c:CT X.ι}(hl:Low s):Low (H0 s q j c)/\Ext (· ∈ds) s (H0 s q j c)/\Says s (H0 s q j c):=by
 unfold H0;split;rename_i sz row hq;split;rename_i hn;split;have hqn:=(hl.obj q _ hq).1;have hrefs:=λk hk=>(hl.obj q _ hq).2 k (by simpa[eI]using hk);have hO:∀k,iS ((q,some (.cells sz [row.set j (.own s.nx 0 0)]))::(s.nx,some (.eK c []))::s.obj) k=if q=k then some (.cells sz [row.set j (.own s.nx 0 0)])else if s.nx=k then some (.eK c [])else iS s.obj k:=λk=>by simp[iS,lk];by_cases e:q=k;simp[e];by_cases e':s.nx=k<;>simp[e,e']
 refine⟨⟨by show s.nx+1<=1000000;omega,by have:=hl.ge;show 1000<=s.nx+1;omega,λk i hk=>by have:=hl.env k i hk;show i<s.nx+1;omega,λk o ho=>?_⟩,⟨λ _ _=>.inl rfl,⟨[q,s.nx],rfl,λk hk hnk=>?_⟩,by show s.nx<=s.nx+1;omega⟩,λP w0 O0 N G I a w hr=>?_⟩;rw[hO]at ho;split at ho;rename_i e;cases ho;subst e;refine⟨by show q<s.nx+1;omega,λi hi=>?_⟩;show i<s.nx+1;simp[eI]at hi;rcases XT _ _ _ _ hi with h1|h1;have:=hrefs i h1;omega;simp[cd]at h1;omega;split at ho;rename_i e;cases ho;subst e;exact⟨by show s.nx<s.nx+1;omega,by simp[eI]⟩;have⟨h1,h2⟩:=hl.obj k o ho;exact⟨by show k<s.nx+1;omega,λi hi=>by have:=h2 i hi;show i<s.nx+1;omega⟩;left;simp at hnk;rw[hO,aM (Ne.symm hnk.1),aM (Ne.symm hnk.2)];have⟨β2,HO,hr2⟩:=hl.room hr;have⟨hS,hM⟩:=Mem.q7 (i:=s.nx) (o:=bL (.eK c []:ci X)) hr2.mem HO rfl;refine⟨ins β2 s.nx .none,hr2.defers,hr2.size,λk=>gc.mono hS.ext hS.same hS.inc (hr2.env k),?_⟩;refine hM.weak λk o' ho=>?_;simp only[ek.st]at ho;rw[hO]at ho;by_cases e:q=k;subst e;rw[aP rfl]at ho;cases ho;refine⟨bL (.cells sz [row]),by simp[bX];rw[aM (by omega)];simp[ek.st,hq],λB _ hB=>?_⟩;simp[bL,afz]at hB |-;refine OR.set1 (λ x v hx hv=>?_) hB;rw[pz,List.getElem?_map,hn]at hx;cases hx;simpa only[den,VR]using .inl ⟨by simp[ins],hv,trivial,trivial⟩;rw[aM e]at ho;refine⟨o',?_,λ_ _ h=>h⟩;simp[bX];by_cases e':s.nx=k;subst e';simpa using ho;rw[aM e']at ho;rw[aM (Ne.symm e')];exact ho;exact⟨hl,Ext.refl _ s,λ_ _ _ _ G _ _ _ h=>⟨G,h⟩⟩;exact⟨hl,Ext.refl _ s,λ_ _ _ _ G _ _ _ h=>⟨G,h⟩⟩;exact⟨hl,Ext.refl _ s,λ_ _ _ _ G _ _ _ h=>⟨G,h⟩⟩
theorem Ou{ds:Y Nat}:∀(l:Y (Nat×CT X.ι)){s:ek X},Low s->(∀ p∈l,(bif Nat.ble 1000000 p.1 then !Nat.ble 1099511627776 p.1 || ds.contains (p.1-1099511627776)else ds.contains p.1)=true)->Low (QZ l s)/\Ext (· ∈ds) s (QZ l s)/\Says s (QZ l s)
 |[],s,hl,_=>⟨hl,Ext.refl _ s,λ_ _ _ _ G _ _ _ h=>⟨G,h⟩⟩
 |(t,c)::r,s,hl,hd=>by
  generalize hs:(bif Nat.ble 1000000 t then bif Nat.ble 1099511627776 t then CM true s (t-1099511627776) c else H0 s ((t-1000000)/4096) ((t-1000000)%4096) c else CM false s t c)=s1;have h0:Low s1/\Ext (· ∈ds) s s1/\Says s s1:=by
   have hd0:=hd (t,c) (by simp);subst hs;cases hb:Nat.ble 1000000 t with
   |true=>
    rw[hb]at hd0;cases hb2:Nat.ble 1099511627776 t with
    |true=>rw[hb2]at hd0;exact XR hl (by simpa using hd0)
    |false=>exact ain hl
   |false=>rw[hb]at hd0;exact XR hl (by simpa using hd0)
  obtain⟨h1,h2,h3⟩:=h0;simp[QZ,hs];obtain⟨g1,g2,g3⟩:=Ou r h1 (λ p hp=>hd p (by simp[hp]));refine⟨g1,h2.trans g2,λP w0 O0 N G I a w hr=>?_⟩;have⟨β',hr'⟩:=h3 P w0 O0 N G I a w hr;exact g3 P w0 O0 N β' I a w hr'
theorem l6{A:Type}{sh:Sh X.ι}{ds:Y Nat}{s0 s':ek X}{k:VT (X:=X) sh.vars->J A}{r:A}(hl0:Low s0)(hl':Low s')(hx:Ext (· ∈ds) s0 s')(h:uJ sh ds s0 s' k=some r):
 ∃v,k v=some r/\Low (encS sh s0 v)/\Ext (· ∈ds) s0 (encS sh s0 v)/\Says s' (encS sh s0 v):=by have⟨h1,h2⟩:=dZ h;obtain⟨g1,g2,g3⟩:=Ou (ds:=ds) sh.DD hl' (λ p hp=>all_eq_true.1 h1 p hp);have⟨v,i1,i2,i3,i4⟩:=ady hl0 (hx.trans g2) h2;refine⟨v,i1,i2,i3,λP w0 O0 N G I a w hr=>?_⟩;have⟨β',hr'⟩:=g3 P w0 O0 N G I a w hr;exact i4 P w0 O0 N β' I a w hr'
end
def gV:Code->Y Nat
 |.region _ ag _=>ag.toList.filterMap (·.dst)
 |.seq a b=>gV a++gV b
 |.cond _ a b=>gV a++gV b
 |.block _ b=>gV b
 |.loop b=>gV b
 |_=>[]
section
variable {X:SX}
section
variable {P:Program} {N:Nat}
def Mc{A:Type}(ds:Y Nat)(s:ek X)(k:Exit->ek X->J A)(r:A)(e:Exit)(U:St):Prop:=∃s',Low s'/\Ext (· ∈ds) s s'/\U=s'.st/\k e s'=some r
theorem aj0{c:Code}{Ξ Q':Exit->St->Prop}{U:St}(h:Ev P N c Ξ U)(ht:∀e U,Ξ e U->∀w0 O0 G I a w,Rel P w0 O0 N G I U a w->∃ β' σ',Rel P w0 O0 N β' I σ' a w/\t6 σ'/\Q' e σ'):Ev P N c Q' U:=by intro w0 O0 G I a w hr ho;refine wp_mono (h w0 O0 G I a w hr ho) ?_;rintro e a' w' ⟨β',I',σ',h1,_,h3⟩;have⟨β2,σ2,g1,g2,g3⟩:=ht e σ' h3 w0 O0 β' I' a' w' h1;exact⟨β2,I',σ2,g1,g2,g3⟩
end
end
inductive Hn(ι:Type) where
 |z
 |f (l:List Nat)
 |s (a b:Hn ι)
 |b (a:Hn ι)
 |j (sh:Sh ι) (a:Hn ι)
 |jx (sh:Sh ι) (a:Hn ι)
 |l (head:Sh ι) (id:Nat) (out:Sh ι) (a:Hn ι)
 |lx (head:Sh ι) (id:Nat) (out:Sh ι) (a:Hn ι)
 |rg (head:Sh ι) (a:Hn ι)
 |un (a r:Hn ι)
def Hn.fz{ι:Type}:Hn ι->Y Nat
 |.f is=>is
 |_=>[]
def Hn.fst{ι:Type}:Hn ι->Hn ι
 |.s a _=>a
 |_=>.z
def Hn.snd{ι:Type}:Hn ι->Hn ι
 |.s _ y=>y
 |_=>.z
def Hn.sub{ι:Type}:Hn ι->Hn ι
 |.b a=>a
 |_=>.z
def iter{V O:Type}(step:V->J (V⊕O)):Nat->V->J O
 | 0,_=>none
 |n+1,v=>(step v).bind λr=>match r with
  |.inl v=>iter step n v
  |.inr o=>some o
def Q3{X:SX}{A:Type}(body:Hn X.ι->ek X->(Exit->ek X->J A)->J A):Hn X.ι->ek X->(Exit->ek X->J A)->J A
 |.un a r,s,k=>body a s λe s'=>match e with
  |.normal=>Q3 body r s' k
  |e=>k e s'
 |_,_,_=>none
def dO{W A:Type}(o:J (W⊕A))(f:W->J A):J A:=o.bind λr=>match r with
 |.inl w=>f w
 |.inr a=>some a
noncomputable def both{A:Type}(x y:J A):J A:=open Classical in if x=y then x else none
theorem ale{A:Type}{x y:J A}{r:A}(h:both x y=some r):x=some r/\y=some r:=by grind [both]
theorem alf{A:Type}(x:J A):both x x=x:=by simp[both]
section
variable {X:SX}
def I0(ds:Y Nat)(s:ek X)(h:Hn X.ι){A:Type}(k:Exit->ek X->J A)(body:(B:Type)->Hn X.ι->(Exit->ek X->J B)->J B):J A:=
 match h with
 |.j sh h'=>(body (VT (X:=X) sh.vars) h' λe s'=>match e with
  |.normal=>uJ sh ds s s' some
  |_=>none).bind λv=>k .normal (encS sh s v)
 |.jx sh h'=>dO (body (VT (X:=X) sh.vars⊕A) h' λe s'=>match e with
  |.normal=>uJ sh ds s s' λv=>some (.inl v)
  |e=>(k e s').map .inr) λv=>k .normal (encS sh s v)
 |h=>body A h k
variable (Γ:FuncId->Option (cy X)) (T:eM) (code:TypeId->Option (CT X.ι)) (N n:Nat)
noncomputable def run:Code->(A:Type)->Hn X.ι->ek X->(Exit->ek X->J A)->J A
 |.skip,_,_,s,k=>k .normal s
 |.region id ag d,A,h,s,k=>I0 (gV (.region id ag d)) s h k λ_ h k=>aim Γ h.fz T code N ag d s (k .normal)
 |.seq x y,A,h,s,k=>I0 (gV (.seq x y)) s h k λB h k=>run x B h.fst s λe s'=>match e with
  |.normal=>run y B h.snd s' k
  |e=>k e s'
 |.cond c x y,A,h,s,k=>I0 (gV (.cond c x y)) s h k λB h k=>match y6 (fL s.env) c with
  |.c .bool v=>bif v then run x B h.fst s k else run y B h.snd s k
  |.ub=>both (run x B h.fst s k) (run y B h.snd s k)
  |_=>none
 |.block id b,A,h,s,k=>I0 (gV (.block id b)) s h k λB h k=>run b B h.sub s λe s'=>match e with
  |.exit j=>if j=id then k .normal s' else k (.exit j) s'
  |e=>k e s'
 |.loop b,A,h,s,k=>match h with
  |.l hd id out h'=>uJ hd (gV b) s s λv0=>(iter (λ v=>run b (VT (X:=X) hd.vars⊕VT (X:=X) out.vars) h' (encS hd s v) λe s'=>match e with
   |.normal=>uJ hd (gV b) s s' λv=>some (.inl v)
   |.exit j=>if j=id then uJ out (gV b) s s' λw=>some (.inr w)else none
   |_=>none) n v0).bind λw=>k (.exit id) (encS out s w)
  |.lx hd id out h'=>uJ hd (gV b) s s λv0=>dO (iter (λ v=>run b (VT (X:=X) hd.vars⊕(VT (X:=X) out.vars⊕A)) h' (encS hd s v) λe s'=>match e with
   |.normal=>uJ hd (gV b) s s' λv=>some (.inl v)
   |.exit j=>if j=id then uJ out (gV b) s s' λw=>some (.inr (.inl w))else(k (.exit j) s').map λa=>.inr (.inr a)
   |e=>(k e s').map λa=>.inr (.inr a)) n v0) λw=>k (.exit id) (encS out s w)
  |.un a r=>Q3 (λ h s k=>run b A h s k) (.un a r) s k
  |_=>none
 |.exit id,_,_,s,k=>k (.exit id) s
 |.ret,_,_,s,k=>k .ret s
 |.label _,_,_,s,k=>k .normal s
 |_,_,_,_,_=>none
section
variable {Γ:FuncId->Option (cy X)} {T:eM} {code:TypeId->Option (CT X.ι)} {N n:Nat} {P:Program}
theorem Ext.wide{ds ds':Ψ}{a b:ek X}(h:Ext ds a b)(hd:∀t,ds t->ds' t):Ext ds' a b:=⟨λ t ht=>h.env t λhh=>ht (hd t hh),h.obj,h.nx⟩
theorem map_inr{α G:Type}{o:J G}{r:α⊕G}(h:o.map Sum.inr=some r):∃b,o=some b/\r=.inr b:=by
 cases o with
 |none=>cases h
 |some b=>grind
theorem Fa{c:Code}{s:ek X}{h:Hn X.ι}{A:Type}{k:Exit->ek X->J A}{r:A}{body:(B:Type)->Hn X.ι->(Exit->ek X->J B)->J B}(hl:Low s)
 (hb:∀(B:Type)(h:Hn X.ι)(k:Exit->ek X->J B)(r:B),body B h k=some r->Ev P N c (Mc (gV c) s k r) s.st) (hr:I0 (gV c) s h k body=some r):Ev P N c (Mc (gV c) s k r) s.st:=by
 unfold I0 at hr;split at hr;have⟨v,h1,hr⟩:=ah.1 hr;refine aj0 (hb _ _ _ _ h1) ?_;rintro e U ⟨s',g1,g2,rfl,g4⟩ w0 O0 G I a w hrel;cases e<;>simp at g4;have⟨v',i1,i2,i3,i4⟩:=l6 hl g1 g2 g4;cases i1;have⟨β',i5⟩:=i4 P w0 O0 N G I a w hrel;exact⟨β',_,i5,i2.old,_,i2,i3,rfl,hr⟩;unfold dO at hr;have⟨v,h1,hr⟩:=ah.1 hr;refine aj0 (hb _ _ _ _ h1) ?_;rintro e U ⟨s',g1,g2,rfl,g4⟩ w0 O0 G I a w hrel;have other:(k e s').map Sum.inr=some v->∃ β' σ',Rel P w0 O0 N β' I σ' a w/\t6 σ'/\Mc (gV c) s k r e σ':=by intro hm;obtain⟨b,hk,rfl⟩:=map_inr hm;cases hr;exact⟨G,_,hrel,g1.old,s',g1,g2,rfl,hk⟩
 cases e with
 |normal=>
  simp at g4;have⟨v',i1,i2,i3,i4⟩:=l6 hl g1 g2 g4;cases i1;have⟨β',i5⟩:=i4 P w0 O0 N G I a w hrel;exact⟨β',_,i5,i2.old,_,i2,i3,rfl,hr⟩
 |_=>exact other g4
 exact hb _ _ _ _ hr
theorem alg{id:Nat}{ag:Array Oper}{d:Bool}{t:Nat}(h:TF ag t):t∈gV (.region id ag d):=by obtain⟨j,op,h1,h2⟩:=h;simp only[gV,List.mem_filterMap];exact⟨op,by rw[<- Array.getElem?_toList]at h1;exact bT h1,h2⟩
theorem XU{b:Code}{s:ek X}{hd:Sh X.ι}{O:Type}{step:VT (X:=X) hd.vars->J (VT (X:=X) hd.vars⊕O)}{kb:Exit->ek X->J (VT (X:=X) hd.vars⊕O)}{Ξ:Exit->St->Prop}(hl:Low s)
 (hkn:∀s',kb .normal s'=uJ hd (gV b) s s' λv=>some (.inl v))
 (hstep:∀v r,Low (encS hd s v)->step v=some r->Ev P N b (Mc (gV b) (encS hd s v) kb r) (encS hd s v).st)
 {o:O} (hQ:∀e s',e≠.normal->Low s'->Ext (· ∈gV b) s s'->kb e s'=some (.inr o)->∀w0 O0 G I a w,Rel P w0 O0 N G I s'.st a w->∃ β' σ',Rel P w0 O0 N β' I σ' a w/\t6 σ'/\Ξ e σ')
 (hno:∀e s' v,e≠.normal->kb e s'=some (.inl v)->False) (n:Nat) (v0:VT (X:=X) hd.vars) (h:iter step n v0=some o) (hl0:Low (encS hd s v0)) (hx0:Ext (· ∈gV b) s (encS hd s v0)):Ev P N (.loop b) Ξ (encS hd s v0).st:=by
 intro w0 O0 G I a w hr ho;refine abB (λ n a w=>∃ G I v,Rel P w0 O0 N G I (encS hd s v).st a w/\iter step n v=some o/\Low (encS hd s v)/\Ext (· ∈gV b) s (encS hd s v)) (λ a w ⟨_,_,v,_,h,_⟩=>by cases h) ?_ n a w ⟨G,I,v0,hr,h,hl0,hx0⟩;rintro n a w ⟨G,I,v,hr,hi,hlv,hxv⟩;simp[iter]at hi;have⟨r,h1,hi⟩:=ah.1 hi;refine wp_mono (hstep v r hlv h1 w0 O0 G I a w hr hlv.old) ?_;rintro e a' w' ⟨β',I',σ',g1,_,s',g2,g3,rfl,g4⟩;have hxs:=hxv.trans g3;by_cases he:e=.normal;subst he;rw[hkn]at g4;have⟨v',i1,i2,i3,i4⟩:=l6 hl g2 hxs g4;cases i1;have⟨β2,i5⟩:=i4 P w0 O0 N β' I' a' w' g1;exact⟨β2,I',v',i5,hi,i2,i3⟩;cases r with
 |inl v'=>exact(hno e s' v' he g4).elim
 |inr o'=>
  cases hi;have⟨β2,σ2,i1,i2,i3⟩:=hQ e s' he g2 hxs g4 w0 O0 β' I' a' w' g1;cases e with
  |normal=>exact(he rfl).elim
  |_=>exact⟨β2,I',σ2,i1,i2,i3⟩
theorem XV{A:Type}{sh:Sh X.ι}{ds:Y Nat}{s0 s':ek X}{k:VT (X:=X) sh.vars->J A}{r:A}(h:uJ sh ds s0 s' k=some r):∃v,k v=some r:=by have⟨_,h⟩:=dZ h;unfold Vc at h;have⟨m1,h1,h⟩:=ah.1 h;have⟨m,h2,h⟩:=ah.1 h;have⟨h3,h⟩:=dZ h;have⟨v,h4,h⟩:=ah.1 h;exact⟨v,(qV h).2⟩
theorem afA{α G γ:Type}{o:J γ}{r:α⊕(G⊕γ)}(h:o.map (λ a=>Sum.inr (Sum.inr a))=some r):∃b,o=some b/\r=.inr (.inr b):=by
 cases o with
 |none=>cases h
 |some b=>grind
def Hn.len{ι:Type}:Hn ι->Nat
 |.un _ r=>r.len+1
 |_=>0
theorem alh{b:Code}{A:Type}{body:Hn X.ι->ek X->(Exit->ek X->J A)->J A}{s0:ek X}{k:Exit->ek X->J A}{r:A}
 (hb:∀(h:Hn X.ι)(s:ek X)(k:Exit->ek X->J A)(r:A),Low s->body h s k=some r->Ev P N b (Mc (gV b) s k r) s.st)
 {h:Hn X.ι} (hl:Low s0) (hr:Q3 body h s0 k=some r):Ev P N (.loop b) (Mc (gV (.loop b)) s0 k r) s0.st:=by
 refine ao0 (λ n U=>∃(h:Hn X.ι)(s:ek X),U=s.st/\h.len=n/\Low s/\Ext (· ∈gV b) s0 s/\Q3 body h s k=some r) ?_ ?_ h.len ⟨h,s0,rfl,rfl,hl,Ext.refl _ s0,hr⟩;rintro U ⟨h,s,_,h1,_,_,h2⟩;cases h<;>first|cases h2|cases h1
 rintro n U ⟨h,s,rfl,h1,h2,h3,h4⟩;cases h<;>try cases h4
 rename_i a q;simp[Hn.len]at h1;refine(hb a s _ r h2 h4).mono ?_;rintro e U ⟨s',g1,g2,rfl,g4⟩;have hx:=h3.trans g2;cases e with
 |normal=>exact⟨q,s',rfl,h1,g1,hx,g4⟩
 |_=>exact⟨s',g1,hx,rfl,g4⟩
theorem lK(hT:fF P T)(hm:P.follows .mixedOrders=true)(hΓ:t7 P Γ):∀(c:Code)(A:Type)(h:Hn X.ι)(s:ek X)(k:Exit->ek X->J A)(r:A),Low s->run Γ T code N n c A h s k=some r->Ev P N c (Mc (gV c) s k r) s.st
 |.skip,A,h,s,k,r,hl,hr=>aoX ⟨s,hl,Ext.refl _ s,rfl,hr⟩
 |.exit id,A,h,s,k,r,hl,hr=>aoY ⟨s,hl,Ext.refl _ s,rfl,hr⟩
 |.ret,A,h,s,k,r,hl,hr=>Wg ⟨s,hl,Ext.refl _ s,rfl,hr⟩
 |.label l,A,h,s,k,r,hl,hr=>amK ⟨s,hl,Ext.refl _ s,rfl,hr⟩
 |.region id ag d,A,h,s,k,r,hl,hr=>by refine Fa hl (λ B h k r hb=>?_) hr;have⟨s',g1,g2,g3,g4⟩:=adw (id:=id) hT hm hΓ hl hb;exact g4.mono λe U ⟨he,hσ⟩=>⟨s',g2,g3.wide λt ht=>alg ht,hσ,by rw[he];exact g1⟩
 |.seq x y,A,h,s,k,r,hl,hr=>by
  refine Fa hl (λ B h k r hb=>?_) hr;refine BX ((lK hT hm hΓ x B _ s _ r hl hb).mono ?_);rintro e U ⟨s',g1,g2,rfl,g4⟩;have wide:Ext (· ∈gV (.seq x y)) s s':=g2.wide λt ht=>by simp[gV,ht]
  cases e with
  |normal=>
   exact(lK hT hm hΓ y B _ s' k r g1 g4).mono λe U ⟨s2,i1,i2,i3,i4⟩=>⟨s2,i1,wide.trans (i2.wide λt ht=>by simp[gV,ht]),i3,i4⟩
  |_=>exact⟨s',g1,wide,rfl,g4⟩
 |.cond c x y,A,h,s,k,r,hl,hr=>by
  refine Fa hl (λ B h k r hb=>?_) hr;split at hb
  .rename_i v hv;refine aoZ v (λ _ _=>rfl) ?_ ?_
   .have:=Xd (fL s.env) c;rw[hv]at this;exact this.symm
   .cases v with
    |true=>exact(lK hT hm hΓ x B _ s k r hl hb).mono λe U ⟨s2,i1,i2,i3,i4⟩=>⟨s2,i1,i2.wide λt ht=>by simp[gV,ht],i3,i4⟩
    |false=>exact(lK hT hm hΓ y B _ s k r hl hb).mono λe U ⟨s2,i1,i2,i3,i4⟩=>⟨s2,i1,i2.wide λt ht=>by simp[gV,ht],i3,i4⟩
  .rename_i hv;have⟨hb1,hb2⟩:=ale hb;refine ahQ (λ _ _=>rfl) ?_ ?_ ?_
   .have:=Xd (fL s.env) c;rw[hv]at this;exact this.symm
   .exact(lK hT hm hΓ x B _ s k r hl hb1).mono λe U ⟨s2,i1,i2,i3,i4⟩=>⟨s2,i1,i2.wide λt ht=>by simp[gV,ht],i3,i4⟩
   .exact(lK hT hm hΓ y B _ s k r hl hb2).mono λe U ⟨s2,i1,i2,i3,i4⟩=>⟨s2,i1,i2.wide λt ht=>by simp[gV,ht],i3,i4⟩
  .cases hb
 |.block id b,A,h,s,k,r,hl,hr=>by
  refine Fa hl (λ B h k r hb=>?_) hr;refine amL ((lK hT hm hΓ b B _ s _ r hl hb).mono ?_);rintro e U ⟨s',g1,g2,rfl,g4⟩;cases e with
  |exit j=>
   simp only[ahP];simp only at g4;split
   .rw[aP ‹_›]at g4;exact⟨s',g1,g2,rfl,g4⟩
   .rw[aM ‹_›]at g4;exact⟨s',g1,g2,rfl,g4⟩
  |_=>exact⟨s',g1,g2,rfl,g4⟩
 |.loop b,A,h,s,k,r,hl,hr=>by
  simp only[run]at hr;split at hr
  .rename_i hd id out h';obtain⟨v0,h1,h2,h3,h4⟩:=l6 hl hl (Ext.refl _ s) hr;rw[ah]at h1;obtain⟨w,h5,h6⟩:=h1;intro w0 O0 G I a ww hrel ho;have⟨β',hrel'⟩:=h4 P w0 O0 N G I a ww hrel;refine XU (Ξ:=Mc (gV (.loop b)) s k r) hl (λ s'=>rfl) (λ v r hlv hs=>lK hT hm hΓ b _ h' (encS hd s v) _ r hlv hs) (λ e s' he hls hxs hk=>?_) (λ e s' v he hk=>?_) n v0 h5 h2 h3 w0 O0 β' I a ww hrel' h2.old
   .cases e with
    |exit j=>
     simp only at hk;split at hk
     .rename_i hj;subst hj;have⟨w',i1,i2,i3,i4⟩:=l6 hl hls hxs hk;injection i1 with i1;cases i1;intro w0 O0 G I a ww hrel;have⟨β',hrel'⟩:=i4 P w0 O0 N G I a ww hrel;exact⟨β',_,hrel',i2.old,_,i2,i3,rfl,h6⟩
     .cases hk
    |normal=>exact(he rfl).elim
    |_=>cases hk
   .cases e with
    |exit j=>
     simp only at hk;split at hk
     .have⟨w',i1⟩:=XV hk;injection i1 with i1;cases i1
     .cases hk
    |normal=>exact he rfl
    |_=>cases hk
  .rename_i hd id out h';obtain⟨v0,h1,h2,h3,h4⟩:=l6 hl hl (Ext.refl _ s) hr;unfold dO at h1;rw[ah]at h1;obtain⟨w,h5,h6⟩:=h1;intro w0 O0 G I a ww hrel ho;have⟨β',hrel'⟩:=h4 P w0 O0 N G I a ww hrel;refine XU (Ξ:=Mc (gV (.loop b)) s k r) hl (λ s'=>rfl) (λ v r hlv hs=>lK hT hm hΓ b _ h' (encS hd s v) _ r hlv hs) (λ e s' he hls hxs hk=>?_) (λ e s' v he hk=>?_) n v0 h5 h2 h3 w0 O0 β' I a ww hrel' h2.old
   .intro w0 O0 G I a ww hrel;have other:(k e s').map (λ a=>Sum.inr (Sum.inr a))=some (Sum.inr w:VT (X:=X) hd.vars⊕(VT (X:=X) out.vars⊕A))->∃ β' σ',Rel P w0 O0 N β' I σ' a ww/\t6 σ'/\Mc (gV (.loop b)) s k r e σ':=(by intro hm;have⟨q,hq,hr⟩:=afA hm;cases hr;cases h6;exact⟨G,_,hrel,hls.old,s',hls,hxs,rfl,hq⟩);cases e with
    |exit j=>
     simp only at hk;split at hk
     .rename_i hj;subst hj;have⟨w',i1,i2,i3,i4⟩:=l6 hl hls hxs hk;injection i1 with i1;cases i1;have⟨β',hrel'⟩:=i4 P w0 O0 N G I a ww hrel;exact⟨β',_,hrel',i2.old,_,i2,i3,rfl,h6⟩
     .exact other hk
    |normal=>exact(he rfl).elim
    |_=>exact other hk
   .have other:(k e s').map (λ a=>Sum.inr (Sum.inr a))=some (Sum.inl v:VT (X:=X) hd.vars⊕(VT (X:=X) out.vars⊕A))->False:=(by intro hm;have⟨q,hq,hr⟩:=afA hm;cases hr);cases e with
    |exit j=>
     simp only at hk;split at hk
     .have⟨w',i1⟩:=XV hk;injection i1 with i1;cases i1
     .exact other hk
    |normal=>exact he rfl
    |_=>exact other hk
  .exact alh (body:=λh s k=>run Γ T code N n b A h s k) (λ h s k r hl h1=>lK hT hm hΓ b A h s k r hl h1) hl hr
  .cases hr
 |.rangeFunc ..,_,_,_,_,_,_,hr=>by cases hr
 |.scope _,_,_,_,_,_,_,hr=>by cases hr
 |.goto _,_,_,_,_,_,_,hr=>by cases hr
 |.refuse _,_,_,_,_,_,_,hr=>by cases hr
end
end
section
variable {X:SX}
def nT:Nat->(l:Y (AT X.ι))->jg X l->Y (DV X)
 |_,[],_=>[]
 |n,.d c::l,a=>.c c a.1::nT n l a.2
 |n,.ref c::l,a=>.rp c a.1 0::nT n l a.2
 |n,.eC as r::l,a=>.eC as r a.1::nT n l a.2
 |n,.mut _::l,a=>.own n 0 (List.length a.1)::nT (n+1) l a.2
 |n,.lh _::l,a=>.ptr n 0 0::nT (n+1) l a.2
 |n,.nil::l,a=>.nil::nT n l a.2
def Ch:(l:Y (AT X.ι))->jg X l->Y (ci X)
 |[],_=>[]
 |.mut c::l,a=>.eK c a.1::Ch l a.2
 |.lh c::l,a=>.cells (CT.sz X c) [wE c a.1]::Ch l a.2
 |.d _::l,a=>Ch l a.2
 |.ref _::l,a=>Ch l a.2
 |.eC _ _::l,a=>Ch l a.2
 |.nil::l,a=>Ch l a.2
theorem zn:∀(n:Nat)(l:Y (AT X.ι))(a:jg X l),bH (nT n l a)=eO n l a
 |_,[],_=>rfl
 |n,.d c::l,a|n,.ref c::l,a=>by simp[nT,bH,den,eO,zn n l a.2]
 |n,.eC as r::l,a=>by simp[nT,bH,eO,zn n l a.2]
 |n,.mut c::l,a|n,.lh c::l,a=>by simp[nT,bH,den,eO,zn (n+1) l a.2]
 |n,.nil::l,a=>by simp[nT,bH,den,eO,zn n l a.2]
theorem I8:∀(l:Y (AT X.ι))(a:jg X l),(Ch l a).map bL=(vV l a).map i6
 |[],_=>rfl
 |.d _::l,a|.ref _::l,a|.eC _ _::l,a|.nil::l,a=>I8 l a.2
 |.mut c::l,a=>by simp[Ch,I8 l a.2];rfl
 |.lh c::l,a=>by simp[Ch,vV,I8 l a.2,bL,i6,vU,aJ,qD]
theorem qF:∀(n:Nat)(l:Y (AT X.ι))(a:jg X l),∀k∈aS (nT n l a),k<n+xM l
 |_,[],_,k,hk=>by simp[nT,aS]at hk
 |n,.d c::l,a,k,hk=>by have:=qF n l a.2 k (by simpa[nT,aS,cd]using hk);simpa[xM,AT.im]using this
 |n,.ref c::l,a,k,hk=>by have:=qF n l a.2 k (by simpa[nT,aS,cd]using hk);simpa[xM,AT.im]using this
 |n,.eC as r::l,a,k,hk=>by have:=qF n l a.2 k (by simpa[nT,aS,cd]using hk);simpa[xM,AT.im]using this
 |n,.nil::l,a,k,hk=>by have:=qF n l a.2 k (by simpa[nT,aS,cd]using hk);simpa[xM,AT.im]using this
 |n,.mut c::l,a,k,hk=>by simp[nT,aS,cd]at hk;simp[xM,AT.im];rcases hk with rfl|hk;omega;have:=qF (n+1) l a.2 k hk;omega
 |n,.lh c::l,a,k,hk=>by simp[nT,aS,cd]at hk;simp[xM,AT.im];rcases hk with rfl|hk;omega;have:=qF (n+1) l a.2 k hk;omega
theorem uK:∀(n:Nat)(l:Y (AT X.ι))(a:jg X l),(eO n l a).length=l.length
 |_,[],_=>rfl
 |n,.d c::l,a|n,.ref c::l,a|n,.eC as r::l,a=>by simp[eO,uK n l a.2]
 |n,.mut c::l,a|n,.lh c::l,a=>by simp[eO,uK (n+1) l a.2]
 |n,.nil::l,a=>by simp[eO,uK n l a.2]
theorem xO:∀(l:Y (AT X.ι))(a:jg X l),(vV l a).length=xM l
 |[],_=>rfl
 |.d _::l,a|.ref _::l,a|.eC _ _::l,a|.nil::l,a=>by simpa[xM,AT.im,vV]using xO l a.2
 |.mut _::l,a|.lh _::l,a=>by simp[vV,xO l a.2,xM,AT.im];omega
def DH(l:Y (AT X.ι))(a:jg X l):ek X:=⟨(List.range l.length).zip (nT 0 l a),(List.range (Ch l a).length).zip ((Ch l a).map some),1000,[]⟩
theorem aj1(l:Y (AT X.ι))(a:jg X l)(k:Nat):iS (DH l a).obj k=(Ch l a)[k]? :=by
 have h:(List.range (Ch l a).length).zip ((Ch l a).map some)=(List.range ((Ch l a).map some).length).zip ((Ch l a).map some):=by rw[length_map]
 simp[DH,iS];rw[h,Cb,List.getElem?_map];cases (Ch l a)[k]?<;>rfl
theorem aqI(l:Y (AT X.ι))(a:jg X l):(DH l a).st=tj.st ⟨(List.range (zF l a).length).zip (zF l a),(List.range ((vV l a).map i6).length).zip ((vV l a).map i6)⟩:=by
 have ho:∀k,((iS (DH l a).obj k).map bL)=lk ((List.range ((vV l a).map i6).length).zip ((vV l a).map i6)) k:=by intro k;rw[Cb,aj1,<- I8,List.getElem?_map]
 simp only[ek.st,tj.st,St.mk.injEq,and_true];refine⟨?_,funext ho⟩;funext t;rw[uK,zF,<- zn];have:∀(ks:Y Nat)(ds:Y (DV X)),den (fL (ks.zip ds) t)=(lk (ks.zip (bH ds)) t).getD .undef:=by
  intro ks
  induction ks with
  |nil=>intro ds;rfl
  |cons k ks ih=>
   intro ds;rcases ds with _|⟨d,ds⟩;rfl;simp[fL,lk,bH];by_cases h:k=t;simp[h];simp[aM h];exact ih ds
 exact this _ _
theorem apf(l:Y (AT X.ι))(a:jg X l)(hm:xM l<=1000):Low (DH l a):=by
 refine⟨by show 1000<=1000000;decide,aB _,λt k hk=>?_,λk o ho=>?_⟩;have h0:=qF 0 l a;have:∀(ks:Y Nat)(ds:Y (DV X)),(∀ k∈aS ds,k<0+xM l)->∀k∈cd (fL (ks.zip ds) t),k<1000:=by
  intro ks
  induction ks with
  |nil=>intro ds _ k hk;simp[fL,lk,cd]at hk
  |cons k ks ih=>
   intro ds h j hj;rcases ds with _|⟨d,ds⟩;simp[fL,lk,cd]at hj;simp[fL,lk]at hj;by_cases e:k=t;simp[aP e]at hj;have:=h j (by simp[aS,hj]);omega;simp[aM e]at hj;exact ih ds (λ k hk=>h k (by simp[aS,hk])) j hj
 exact this _ _ h0 k hk;rw[aj1]at ho;have hl:(Ch l a).length=xM l:=by rw[<- xO l a];simpa using congrArg List.length (I8 l a)
 refine⟨by have:=(bU.1 ho).1;show k<1000;omega,λj hj=>?_⟩;have hz:∀(l:Y (AT X.ι))(a:jg X l),∀o∈Ch l a,eI o=[]:=by
  intro l
  induction l with
  |nil=>intro a o ho;simp[Ch]at ho
  |cons q l ih=>
   intro a o ho;cases q<;>simp[Ch]at ho
   case «mut» c=>rcases ho with rfl|ho;rfl;exact ih _ o ho
   case lh c=>
    rcases ho with rfl|ho;have h1:aS (wE c a.1)=[]:=by
     rw[<- jc,qD];generalize CT.row X.toSE c a.1=r
     induction r with
     |nil=>rfl
     |cons y ys ih=>simp[dJ,refs,ih]
    simp[eI,h1];exact ih _ o ho
   all_goals exact ih _ o ho
 rw[hz l a o (bT ho)]at hj;cases hj
variable (T:eM)
def HX(s:ek X):ResultVar->J (DV X)
 |.tmp t=>some (fL s.env t)
 |.cell a t=>(T t).bind λti=>match fL s.env a with
  |.ptr kk row aa=>(iS s.obj kk).bind λo=>match o with
   |.cells _ rows=>(rows[row]?).bind λr=>IQ ti.agg ti.size ((r.drop aa).take ti.size)
   |_=>none
  |_=>none
def XW(s:ek X):Y ResultVar->J (List (DV X))
 |[]=>some []
 |r::rs=>(HX T s r).bind λv=>(XW s rs).bind λvs=>some (v::vs)
theorem ana{s:ek X}{r:ResultVar}{d:DV X}(h:HX T s r=some d):QJ T s.st r=some (den d):=by
 cases r with
 |tmp t=>simp only[HX,bK]at h;subst h;rfl
 |cell a t=>
  simp only[HX]at h;rw[ah]at h;obtain⟨ti,h1,h⟩:=h;split at h
  .rename_i kk row aa hp;have⟨o,h2,h⟩:=ah.1 h;split at h
   .have⟨q,h3,h⟩:=ah.1 h;have h4:=Dv h;rw[kN]at h4
    show(match VL T t (den (fL s.env a)) (λ k=>(iS s.obj k).map bL)with
     |some ⟨v,[],[]⟩=>some v
     |_=>none)=some (den d)
    simp only[VL,LK,h1,ai,hp,den,h2,Option.map_some,bL,List.getElem?_map,h3,h4,pv]
   .cases h
  .cases h
def yW{A:Type}(s:ek X):Y ResultVar->(List (DV X)->J A)->J A
 |[],k=>k []
 |.tmp t::rs,k=>yW s rs λvs=>k (fL s.env t::vs)
 |.cell a t::rs,k=>(T t).bind λti=>match fL s.env a with
  |.ptr kk row aa=>(iS s.obj kk).bind λo=>match o with
   |.cells _ rows=>(rows[row]?).bind λr=>(IQ ti.agg ti.size ((r.drop aa).take ti.size)).bind λv=>yW s rs λvs=>k (v::vs)
   |_=>none
  |_=>none
theorem Ku{A:Type}{s:ek X}:∀{rs:Y ResultVar}{k:Y (DV X)->J A}{r:A},yW T s rs k=some r->∃ds,XW T s rs=some ds/\k ds=some r
 |[],k,r,h=>⟨[],rfl,h⟩
 |.tmp t::rs,k,r,h=>by have⟨ds,h1,h2⟩:=Ku (rs:=rs) h;exact⟨_,by simp only[XW,HX,h1,ai],h2⟩
 |.cell a t::rs,k,r,h=>by
  simp only[yW]at h;rw[ah]at h;obtain⟨ti,h1,h⟩:=h;split at h
  .rename_i kk row aa hp;have⟨o,h2,h⟩:=ah.1 h;split at h
   .have⟨q,h3,h⟩:=ah.1 h;have⟨v,h4,h⟩:=ah.1 h;have⟨ds,h5,h6⟩:=Ku (rs:=rs) h;exact⟨_,by simp only[XW,HX,h1,hp,h2,h3,h4,h5,ai],h6⟩
   .cases h
  .cases h
theorem Q5{s:ek X}:∀{rs:Y ResultVar}{ds:Y (DV X)},XW T s rs=some ds->oH T s.st rs=some (bH ds)
 |[],ds,h=>by simp[XW]at h;subst h;rfl
 |r::rs,ds,h=>by simp[XW]at h;have⟨d,h1,h⟩:=ah.1 h;have⟨ds',h2,h⟩:=ah.1 h;cases h;simp[oH,ana T h1,Q5 h2,bH]
def Q6:Y (RT X.ι)->Y (DV X)->J Nat
 |.mu _::l,ds=>Q6 l ds
 |.mr _::l,ds=>Q6 l ds
 |.mv::l,ds=>Q6 l ds
 |.fresh _::l,d::ds=>match d with
  |.own k _ _=>some k
  |_=>Q6 l ds
 |.d _::l,_::ds=>Q6 l ds
 |.whole _::l,_::ds=>Q6 l ds
 |_,_=>none
def By:Y (RT X.ι)->Y (DV X)->Y (Nat×Nat)
 |.mu _::l,ds=>By l ds
 |.mr _::l,ds=>By l ds
 |.mv::l,ds=>By l ds
 |.whole j::l,d::ds=>match d with
  |.own _ _ len=>(j,len)::By l ds
  |_=>By l ds
 |.d _::l,_::ds=>By l ds
 |.fresh _::l,_::ds=>By l ds
 |_,_=>[]
def DR:Nat->Y (RT X.ι)->Y Nat
 |_,[]=>[]
 |n,.mu _::l=>n::DR (n+1) l
 |n,.mr _::l=>n::DR (n+1) l
 |n,.mv::l=>DR (n+1) l
 |n,_::l=>DR n l
def tz:Nat->Y (RT X.ι)->Y Nat
 |_,[]=>[]
 |n,.mu _::l=>n::tz (n+1) l
 |n,.mr _::l=>tz (n+1) l
 |n,.mv::l=>tz (n+1) l
 |n,_::l=>tz n l
def PT(bad ks:Y Nat):Bool:=ks.all λk=>!bad.contains k
def adz(get:Nat->J (ci X))(row:Y (DV X))(c:CT X.ι):J (CT.T X.toSE c×List Bool):=
 match c with
 |.st i=>(Cf get row (X.ej i)).bind λh=>some (X.make i h.1,h.2)
 |c=>match row with
  |[d]=>Tx get d c
  |_=>none
def I9(get:Nat->J (ci X))(c:CT X.ι):Y (List (DV X))->J (List (CT.T X.toSE c)×List Bool)
 |[]=>some ([],[])
 |r::rs=>(adz get r c).bind λx=>(I9 get c rs).bind λy=>some (x.1::y.1,x.2++y.2)
def Ov(get:Nat->J (ci X))(bad tf:Y Nat)(fk:J Nat)(wl:Y (Nat×Nat))(n:Nat):(q:RT X.ι)->Y (DV X)->J ((RT.T X q×List Bool)×List (DV X))
 |.d c,d::ds=>if PT bad (cd d)then(Gx get d c).bind λx=>some (x,ds)else none
 |.fresh e,d::ds=>match d with
  |.nil=>some (([],[]),ds)
  |.own k 0 len=>if fk=some k then(get k).bind λo=>match o with
   |.eK b l=>(lG (.sl b) (.sl e) l).bind λ(l:List (CT.T X.toSE e))=>some ((sub l 0 len,[aE (sub l 0 len).length len]),ds)
   |.cells sz rows=>if sz=CT.sz X e/\PT bad (rows.map aS).flatten=true then(I9 get e rows).bind λx=>some ((x.1,aE len (List.length x.1)::x.2),ds)else none
   |.map _ _ _=>none
   else none
  |_=>none
 |.whole j,d::ds=>match d with
  |.own k 0 len=>if k=j/\tf.contains j=true then(lk wl j).bind λfc=>some (((),[aE len fc]),ds)else none
  |_=>none
 |.mu c,ds=>(get n).bind λo=>match o with
  |.eK b l=>(lG (.sl b) (.sl c) l).bind λ(l:List (CT.T X.toSE c))=>match lk wl n with
   |some len=>some ((sub l 0 len,[aE (sub l 0 len).length len]),ds)
   |none=>some ((l,[]),ds)
  |_=>none
 |.mr c,ds=>(get n).bind λo=>match o with
  |.cells sz [row]=>if sz=CT.sz X c/\PT bad (aS row)=true then(adz get row c).bind λx=>some (x,ds)else none
  |_=>none
 |.mv,ds=>some (((),[]),ds)
 |_,[]=>none
def Ow(get:Nat->J (ci X))(bad tf:Y Nat)(fk:J Nat)(wl:Y (Nat×Nat)):Nat->(l:Y (RT X.ι))->(ds:Y (DV X))->J (uw X l×List Bool)
 |_,[],ds=>match ds with
  |[]=>some ((),[])
  |_=>none
 |n,[q],ds=>(Ov get bad tf fk wl n q ds).bind λp=>match p.2 with
  |[]=>some p.1
  |_=>none
 |n,q::q'::l,ds=>(Ov get bad tf fk wl n q ds).bind λp=>(Ow get bad tf fk wl (if q.out then n+1 else n) (q'::l) p.2).bind λy=>some ((p.1.1,y.1),p.1.2++y.2)
def Wa(s:ek X)(l:Y (RT X.ι))(ds:Y (DV X)):J (uw X l×List Bool):=
 if PT (DR 0 l) (Q6 l ds).toList then Ow (iS s.obj) (DR 0 l++(Q6 l ds).toList) (tz 0 l) (Q6 l ds) (By l ds) 0 l ds else none
def arF(rs:Y ResultVar)(l:Y (RT X.ι)):Exit->ek X->J (uw X l)
 |.normal,s=>yW T s rs λds=>(Wa s l ds).bind λx=>Xg x.2 (some x.1)
 |.ret,s=>yW T s rs λds=>(Wa s l ds).bind λx=>Xg x.2 (some x.1)
 |_,_=>none
def exit(A:Type)(k:ek X->J A):Exit->ek X->J A
 |.normal,s=>k s
 |.ret,s=>k s
 |_,_=>none
variable {T}
section
variable {get:Nat->Option (ci X)} {fk:Option Nat} {os':List (Option fe)} {bad:List Nat}
theorem Fb{ks:Y Nat}(h:PT bad ks=true):∀j∈ks,j∉bad:=λj hj=>by simpa using all_eq_true.1 h j hj
theorem Q7(hbad:∀j,j∉bad->fk≠some j/\¬kept os' j){d:DV X}{c:CT X.ι}{x:CT.T X.toSE c×List Bool}(hc:c.one=true)(h:Tx get d c=some x)(hb:∀b∈x.2,b=true)(pf:∀j∈cd d,j∉bad):∃t,CT.tv X.toSE c x.1=.s t/\C1 (fK get) fk os' (den d) t:=by
 obtain⟨t,h1,h2⟩:=row_one hc x.1;refine⟨t,h2,?_⟩;have hbase:∀y,Mt d c=some y->y=x.1->C1 (fK get) fk os' (den d) t:=by intro y hy he;subst he;have h3:=xI hy;rw[h2]at h3;unfold Mt at hy;split at hy;rw[(pX hy).1];simp[den,h2,TV.av,C1];simp[den,Gb.wk,TV.av]at h3;exact h3.symm;simp[den,Gb.wk,TV.av]at h3;exact h3.symm;cases hy
 unfold Tx at h;split at h;rename_i kk aa len e;rw[ah]at h;obtain⟨o,h3,h⟩:=h;split at h;rename_i b l0;rw[ah]at h;obtain⟨l,h4,h⟩:=h;cases h;have h5:(sub l aa len).length=len:=by simpa[aE]using hb (aE (sub l aa len).length len) (by simp)
 have⟨h6,h7⟩:=jy h4;obtain⟨hf1,hf2⟩:=hbad kk (pf kk (by simp[cd]));refine⟨hf1,hf2,bL (.eK b l0),(sub l aa len).map (CT.row X.toSE e),by simp[fK,h3],?_,by simpa using h5,?_⟩;simp[bL,h7];simp[aJ,sub];simpa[CT.row]using h1.symm;cases h;rename_i kk aa len;rw[ah]at h;obtain⟨o,h3,h⟩:=h;split at h;rename_i b l0;cases h;have h5:(sub l0 aa len).length=len:=by simpa[aE]using hb (aE (sub l0 aa len).length len) (by simp)
 obtain⟨hf1,hf2⟩:=hbad kk (pf kk (by simp[cd]));refine⟨hf1,hf2,bL (.eK b l0),(sub l0 aa len).map (CT.row X.toSE b),by simp[fK,h3],?_,by simpa using h5,?_⟩;simp[bL];simp[aJ,sub];simpa[CT.row]using h1.symm;cases h;rename_i kk len e;rw[ah]at h;obtain⟨o,h3,h⟩:=h;split at h;rename_i b l0;have⟨l,h4,h⟩:=ah.1 h;cases h;have h5:(sub l 0 len).length=len:=by simpa[aE]using hb (aE (sub l 0 len).length len) (by simp)
 have⟨h6,h7⟩:=jy h4;obtain⟨hf1,hf2⟩:=hbad kk (pf kk (by simp[cd]));refine⟨hf1,hf2,bL (.eK b l0),(sub l 0 len).map (CT.row X.toSE e),by simp[fK,h3],?_,by simpa using h5,?_⟩;simp[bL,h7];simp[aJ,sub];simpa[CT.row]using h1.symm;cases h;have⟨y,h3,h⟩:=ah.1 h;injection h with h;exact hbase y h3 (by rw[<- h])
theorem MH(hbad:∀j,j∉bad->fk≠some j/\¬kept os' j):∀{ds:Y (DV X)}{l:Y (CT X.ι)}{h:HL X.toSE l×List Bool},Cf get ds l=some h->(∀ b∈h.2,b=true)->l.all CT.one=true->(∀ j∈aS ds,j∉bad)->m5 (fK get) fk os' (bH ds) (HL.row X.toSE l h.1)
 |[],[],h,_,_,_,_=>trivial
 |d::ds,c::l,h,hr,hb,ha,pf=>by simp[Cf]at hr;have⟨x,h1,hr⟩:=ah.1 hr;have⟨g,h2,hr⟩:=ah.1 hr;cases hr;simp only[List.all_cons,aT]at ha;obtain⟨t,i1,i2⟩:=Q7 hbad ha.1 h1 (λ b hb'=>hb b (by simp[hb'])) (λ j hj=>pf j (by simp[aS,hj]));have i3:=MH hbad h2 (λ b hb'=>hb b (by simp[hb'])) ha.2 (λ j hj=>pf j (by simp[aS,hj]));obtain⟨t',j1,j2⟩:=row_one ha.1 x.1;rw[i1]at j2;cases j2;show m5 (fK get) fk os' (den d::bH ds) (CT.row X.toSE c x.1++HL.row X.toSE l g.1);rw[j1];exact⟨i2,i3⟩
 |[],_::_,_,hr,_,_,_|_::_,[],_,hr,_,_,_=>by simp[Cf]at hr
theorem TK(hbad:∀j,j∉bad->fk≠some j/\¬kept os' j){row:Y (DV X)}{c:CT X.ι}{x:CT.T X.toSE c×List Bool}(h:adz get row c=some x)(hb:∀b∈x.2,b=true)(pf:∀j∈aS row,j∉bad):m5 (fK get) fk os' (bH row) (CT.row X.toSE c x.1):=by
 cases c
 case st i=>
  replace h:(Cf get row (X.ej i)).bind (λ h=>some (X.make i h.1,h.2))=some x:=h
  have⟨g,h1,h⟩:=ah.1 h;cases h;have:=MH hbad h1 hb (X.flat i) pf;show m5 (fK get) fk os' (bH row) (X.row i (X.make i g.1));rw[X.ij];exact this
 all_goals
  match row,h,pf with
  |[d],h,pf=>
   obtain⟨t,i1,i2⟩:=Q7 (fk:=fk) hbad rfl h hb (λ j hj=>pf j (by simp[aS,hj]));obtain⟨t',j1,j2⟩:=row_one rfl x.1;rw[i1]at j2;cases j2;rw[j1];exact⟨i2,trivial⟩
  |[],h,_|_::_::_,h,_=>cases h
theorem Ox(hbad:∀j,j∉bad->fk≠some j/\¬kept os' j){c:CT X.ι}:∀{rows:Y (List (DV X))}{x:Y (CT.T X.toSE c)×List Bool},I9 get c rows=some x->(∀ b∈x.2,b=true)->(∀ j∈(rows.map aS).flatten,j∉bad)->ff (fK get) fk os' (rows.map bH) (x.1.map (CT.row X.toSE c))/\rows.length=List.length x.1
 |[],x,h,_,_=>by simp[I9]at h;subst h;exact⟨trivial,rfl⟩
 |r::rs,x,h,hb,pf=>by simp[I9]at h;have⟨y,h1,h⟩:=ah.1 h;have⟨z,h2,h⟩:=ah.1 h;cases h;have i1:=TK hbad h1 (λ b hb'=>hb b (by simp[hb'])) (λ j hj=>pf j (by simp[hj]));obtain⟨i2,i3⟩:=Ox hbad h2 (λ b hb'=>hb b (by simp[hb'])) (λ j hj=>pf j (by simp only[bq,List.flatten_cons,bI];exact .inr hj));exact⟨⟨i1,i2⟩,by simp[i3]⟩
theorem anb{x:AV}{t:Tree}(h:C1 (fK get) fk os' x t):Ix (fK get) fk os' x (.d (.s t)):=by cases x<;>first|exact h|exact h.elim
theorem Fe(sz:CT X.ι)(l:Y (CT.T X.toSE sz)):ff (fK get) fk os' (aJ (l.map (CT.row X.toSE sz))) (l.map (CT.row X.toSE sz)):=by
 generalize l.map (CT.row X.toSE sz)=rows
 induction rows with
 |nil=>trivial
 |cons r rs ih=>
  refine⟨?_,ih⟩
  induction r with
  |nil=>trivial
  |cons y ys ih2=>exact⟨rfl,ih2⟩
theorem ane(hbad:∀j,j∉bad->fk≠some j/\¬kept os' j){c:CT X.ι}{d:DV X}{x:CT.T X.toSE c×List Bool}(h:Gx get d c=some x)(pf:∀j∈cd d,j∉bad)(hb:∀b∈x.2,b=true):Ix (fK get) fk os' (den d) (.d (CT.tv X.toSE c x.1)):=by
 cases c
 case st i=>
  replace h:IR get d i=some x:=h
  cases d
  case agg cs=>
   simp[IR]at h;have⟨g,h1,h⟩:=ah.1 h;cases h;have:=MH (fk:=fk) hbad h1 hb (X.flat i) (by simpa[cd]using pf);show m5 (fK get) fk os' (bH cs) (X.row i (X.make i g.1));rw[X.ij];exact this
  case c a y=>
   simp[IR]at h;have⟨z,h1,h⟩:=ah.1 h;cases h;rw[(pX h1).1];show m5 (fK get) fk os' ((X.row i z).map AV.t) (X.row i z);generalize X.row i z=l
   induction l with
   |nil=>trivial
   |cons y ys ih=>exact⟨rfl,ih⟩
  all_goals cases h
 all_goals
  have⟨t,i1,i2⟩:=Q7 (fk:=fk) hbad rfl h hb pf;rw[i1];exact anb i2
theorem XY{tf:Y Nat}{wl:Y (Nat×Nat)}{ns:Y Nat}{n:Nat}(hbad:∀j,j∉bad->fk≠some j/\¬kept os' j)(s7:∀k,fk=some k->¬kept os' k)(hns:∀j fc,j∈tf->lk wl j=some fc->ns.getD j 0=fc)(hmu:∀j∈tf,kept os' j){q:RT X.ι}{ds:Y (DV X)}{p:(RT.T X q×List Bool)×List (DV X)}(h:Ov get bad tf fk wl n q ds=some p)(hb:∀b∈p.1.2,b=true):
 (∀ cs,pm (fK get) fk os' (bH p.2) cs->pm (fK get) fk os' (bH ds) (Xu ns q p.1.1++cs))/\
 (∀ t,de q p.1.1=[some t]->∃o,get n=some o/\(bL o).sz=t.1/\ff (fK get) fk os' ((bL o).rows.take t.2.length) t.2)/\
 (∀ fc c,q=.mu c->lk wl n=some fc->y4 q p.1.1=[fc]):=by
 cases q
 case d c=>
  cases ds with
  |nil=>simp[Ov]at h
  |cons d ds=>
   simp only[Ov]at h;split at h;rename_i hnb;rw[ah]at h;obtain⟨x,h1,h⟩:=h;cases h;exact⟨λ cs hcs=>⟨ane hbad h1 (Fb hnb) hb,hcs⟩,λt ht=>by simp[de]at ht,λ_ _ h=>by cases h⟩;cases h
 case fresh e=>
  cases ds with
  |nil=>simp[Ov]at h
  |cons d ds=>
   refine⟨λ cs hcs=>?_,λt ht=>by simp[de]at ht,λ_ _ h=>by cases h⟩;simp[Ov]at h;split at h;cases h;exact⟨rfl,hcs⟩;rename_i k len;split at h;rename_i pf;rw[ah]at h;obtain⟨o,h1,h⟩:=h;split at h;rename_i b l0;rw[ah]at h;obtain⟨l,h2,h⟩:=h;cases h;have⟨h3,h4⟩:=jy h2;have h5:(sub l 0 len).length=len:=(by simpa[aE]using hb (aE (sub l 0 len).length len) (by simp));refine⟨⟨pf,s7 k pf,rfl,bL (.eK b l0),by simp[fK,h1],by exact h3,?_,by simpa using h5⟩,hcs⟩;have e1:(bL (.eK b l0)).rows.take len=aJ ((sub l 0 len).map (CT.row X.toSE e)):=(by simp[bL,h4];simp[aJ,sub]);rw[e1];exact Fe e _;rename_i sz rows;split at h;rename_i hc;rw[ah]at h;obtain⟨x,h2,h⟩:=h;cases h;obtain⟨i1,i2⟩:=Ox (fk:=fk) hbad h2 (λ b hb'=>hb b (by simp[hb'])) (Fb hc.2);have h5:len=List.length x.1:=(by simpa[aE]using hb (aE len (List.length x.1)) (by simp));refine⟨⟨pf,s7 k pf,rfl,bL (.cells sz rows),by simp[fK,h1],hc.1,?_,by simpa using h5.symm⟩,hcs⟩;simp[bL];rw[List.take_of_length_le (by simp;omega)];exact i1;cases h;cases h;cases h;cases h
 case whole j=>
  cases ds with
  |nil=>simp[Ov]at h
  |cons d ds=>
   refine⟨λ cs hcs=>?_,λt ht=>by simp[de]at ht,λ_ _ h=>by cases h⟩;simp[Ov]at h;split at h;rename_i k len;split at h;rename_i hc;obtain⟨rfl,hm⟩:=hc;rw[ah]at h;obtain⟨fc,h1,h⟩:=h;cases h;have h5:len=fc:=(by simpa[aE]using hb (aE len fc) (by simp));have hm:k∈tf:=(by simpa using hm);refine⟨⟨rfl,rfl,?_,hmu k hm⟩,hcs⟩;rw[h5];exact hns k fc hm h1;cases h;cases h
 case mu c=>
  simp[Ov]at h;rw[ah]at h;obtain⟨o,h1,h⟩:=h;split at h;rename_i b l0;rw[ah]at h;obtain⟨l,h2,h⟩:=h;have⟨h3,h4⟩:=jy h2;split at h;rename_i len hl;cases h;have h5:(sub l 0 len).length=len:=by simpa[aE]using hb (aE (sub l 0 len).length len) (by simp)
  refine⟨λ cs hcs=>hcs,λt ht=>?_,λfc c' _ hl'=>?_⟩;simp[de]at ht;subst ht;refine⟨_,h1,by exact h3,?_⟩;have e1:(bL (.eK b l0)).rows.take (vU c (sub l 0 len)).2.length=aJ (vU c (sub l 0 len)).2:=by simp[bL,h4,vU];simp[aJ,sub]
  rw[e1];exact Fe c _;rw[hl]at hl';injection hl' with hl';subst hl';simp[y4,h5];rename_i hl;cases h;refine⟨λ cs hcs=>hcs,λt ht=>?_,λfc c' _ hl'=>by rw[hl]at hl';cases hl'⟩;simp[de]at ht;subst ht;refine⟨_,h1,by simp[vU];exact h3,?_⟩;have e1:(bL (.eK b l0)).rows.take (vU c l).2.length=aJ (vU c l).2:=by simp[bL,h4,vU];rw[List.take_of_length_le (by simp[aJ])]
  rw[e1];exact Fe c _;cases h
 case mr c=>
  simp[Ov]at h;rw[ah]at h;obtain⟨o,h1,h⟩:=h;split at h;rename_i sz row;split at h;rename_i hc;have⟨x,h2,h⟩:=ah.1 h;cases h;refine⟨λ cs hcs=>hcs,λt ht=>?_,λ_ _ h=>by cases h⟩;simp[de,List.cons.injEq,bK,and_true]at ht;subst ht;refine⟨_,h1,by simp[bL,vU];exact hc.1,?_⟩;exact⟨TK hbad h2 hb (Fb hc.2),trivial⟩;cases h;cases h
 case mv=>
  simp[Ov,bK]at h;subst h;exact⟨λ cs hcs=>hcs,λt ht=>by simp[de]at ht,λ_ _ h=>by cases h⟩
theorem Ja{q:RT X.ι}{x:RT.T X q}:(de q x).length=(if q.out then 1 else 0)/\(y4 q x).length=(if q.out then 1 else 0):=by cases q<;>exact⟨rfl,rfl⟩
theorem Jb{n j:Nat}{q:RT X.ι}{l:Y (RT X.ι)}:j∈tz n (q::l)->(j=n/\∃c,q=.mu c)\/j∈tz (if q.out then n+1 else n) l:=by
 cases q<;>simp only[tz,RT.out,if_true,Bool.false_eq_true,if_false,aI]
 case mu c=>exact λh=>h.imp (λ h=>⟨h,c,rfl⟩) id
 all_goals exact .inr
theorem aio{j:Nat}:∀{l:Y (RT X.ι)}{n:Nat},j∈tz n l->n<=j
 |[],n,h=>by simp[tz]at h
 |q::l,n,h=>by rcases Jb h with ⟨rfl,_⟩|h;exact aB _;have:=aio h;split at this<;>omega
theorem afC:∀{l:Y (RT X.ι)}{x:uw X l}{n j:Nat},j∈tz n l->∃p,(pE l x)[j-n]? =some (some p)
 |[],x,n,j,h=>by simp[tz]at h
 |[q],x,n,j,h=>by rcases Jb h with ⟨rfl,c,rfl⟩|h;exact⟨_,by simp;rfl⟩;simp[tz]at h
 |q::q'::l,x,n,j,h=>by
  rcases Jb h with ⟨rfl,c,rfl⟩|h;exact⟨_,by simp;rfl⟩;have⟨p,hp⟩:=afC (l:=q'::l) (x:=x.2) h;have hge:=aio h;refine⟨p,?_⟩;show(de q x.1++pE (q'::l) x.2)[j-n]? =_;have hl:=(Ja (q:=q) (x:=x.1)).1
  all_goals grind
theorem DT:∀{l:Y (RT X.ι)}{x:uw X l}{n j:Nat}{p:fe},(pE l x)[j]? =some (some p)->n+j∈DR n l
 |[],x,n,j,p,h=>by simp[pE]at h
 |[q],x,n,j,p,h=>by
  have h:(de q x)[j]? =some (some p):=h;cases q<;>simp[de]at h
  case mu c=>cases j<;>simp at h<;>simp[DR]
  case mr c=>cases j<;>simp at h<;>simp[DR]
  case mv=>cases j<;>simp at h
 |q::q'::l,x,n,j,p,h=>by
  have h:(de q x.1++pE (q'::l) x.2)[j]? =some (some p):=h;cases q
  case mu c=>
   rcases j with _|j;simp[DR];have:=DT (l:=q'::l) (x:=x.2) (n:=n+1) (by simpa[de]using h);right;rw[show n+(j+1)=n+1+j by omega];exact this
  case mr c=>
   rcases j with _|j;simp[DR];have:=DT (l:=q'::l) (x:=x.2) (n:=n+1) (by simpa[de]using h);right;rw[show n+(j+1)=n+1+j by omega];exact this
  case mv=>
   rcases j with _|j;simp[de]at h;have:=DT (l:=q'::l) (x:=x.2) (n:=n+1) (by simpa[de]using h);rw[show n+(j+1)=n+1+j by omega];exact this
  all_goals
   exact DT (l:=q'::l) (x:=x.2) (by simpa[de]using h)
theorem afD{tf:Y Nat}{wl:Y (Nat×Nat)}{n:Nat}{q:RT X.ι}{ds:Y (DV X)}{p:(RT.T X q×List Bool)×List (DV X)}(h:Ov get bad tf fk wl n q ds=some p)(hb:∀b∈p.1.2,b=true):∀fc c,q=.mu c->lk wl n=some fc->y4 q p.1.1=[fc]:=by
 rintro fc c rfl hl;simp[Ov]at h;have⟨o,h1,h⟩:=ah.1 h;split at h;have⟨l,h2,h⟩:=ah.1 h;rw[hl]at h;cases h;have h5:(sub l 0 fc).length=fc:=by simpa[aE]using hb (aE (sub l 0 fc).length fc) (by simp)
 simp[y4,h5];cases h
theorem MI{tf:Y Nat}{wl:Y (Nat×Nat)}:∀{n:Nat}{l:Y (RT X.ι)}{ds:Y (DV X)}{x:uw X l×List Bool},Ow get bad tf fk wl n l ds=some x->(∀ b∈x.2,b=true)->∀j fc,n+j∈tz n l->lk wl (n+j)=some fc->(A4 l x.1).getD j 0=fc
 |n,[],ds,x,h,hb,j,fc,hm,_=>by simp[tz]at hm
 |n,[q],ds,x,h,hb,j,fc,hm,hl=>by
  simp[Ow]at h;have⟨p,h1,h⟩:=ah.1 h;split at h;cases h;rcases Jb hm with ⟨e,c,rfl⟩|hm;have e:j=0:=by omega
  subst e;have:=(afD h1 hb) fc c rfl hl;show(y4 _ p.1.1).getD 0 0=fc;rw[this];rfl;simp[tz]at hm;cases h
 |n,q::q'::l,ds,x,h,hb,j,fc,hm,hl=>by
  simp[Ow]at h;have⟨p,h1,h⟩:=ah.1 h;have⟨y,h2,h⟩:=ah.1 h;cases h;have hlen:=(Ja (q:=q) (x:=p.1.1)).2;rcases Jb hm with ⟨e,c,rfl⟩|hm;have e:j=0:=by omega
  subst e;have:=(afD h1 (λ b hb'=>hb b (by simp[hb']))) fc c rfl hl;show(y4 _ p.1.1++A4 (q'::l) y.1).getD 0 0=fc;rw[this];rfl;have hge:=aio hm;show(y4 _ p.1.1++A4 (q'::l) y.1).getD j 0=fc;by_cases hq:q.out=true;rw[aP hq]at h2 hm hge hlen;have:=MI h2 (λ b hb'=>hb b (by simp[hb'])) (j-1) fc ((show n+1+(j-1)=n+j by omega) ▸ hm) ((show n+1+(j-1)=n+j by omega) ▸ hl);rw[List.getD_eq_getElem?_getD,qj (by omega),hlen];exact this;rw[aM hq]at h2 hm hge hlen;have:=MI h2 (λ b hb'=>hb b (by simp[hb'])) j fc hm hl;rw[List.getD_eq_getElem?_getD,qj (by omega),hlen];exact this
theorem ab5{tf:Y Nat}{wl:Y (Nat×Nat)}{ns:Y Nat}(hbad:∀j,j∉bad->fk≠some j/\¬kept os' j)(s7:∀k,fk=some k->¬kept os' k)(hns:∀j fc,j∈tf->lk wl j=some fc->ns.getD j 0=fc)(hmu:∀j∈tf,kept os' j):∀{n:Nat}{l:Y (RT X.ι)}{ds:Y (DV X)}{x:uw X l×List Bool},Ow get bad tf fk wl n l ds=some x->(∀ b∈x.2,b=true)->
 pm (fK get) fk os' (bH ds) (Ce ns l x.1)/\∀j t,(pE l x.1)[j]? =some (some t)->∃o,get (n+j)=some o/\(bL o).sz=t.1/\ff (fK get) fk os' ((bL o).rows.take t.2.length) t.2
 |n,[],ds,x,h,_=>by simp[Ow]at h;split at h;exact⟨trivial,λj t ht=>by simp[pE]at ht⟩;cases h
 |n,[q],ds,x,h,hb=>by
  simp[Ow]at h;rw[ah]at h;obtain⟨p,h1,h⟩:=h;split at h;rename_i hp;cases h;have⟨i1,i2,_⟩:=XY (ns:=ns) hbad s7 hns hmu h1 hb;rw[hp]at i1;have:=i1 [] trivial;rw[append_nil]at this;refine⟨this,λj t ht=>?_⟩;have ht:(de q p.1.1)[j]? =some (some t):=ht;have hl:=(Ja (q:=q) (x:=p.1.1)).1;have hj:=(bU.1 ht).1;have hj0:j=0:=by split at hl<;>omega
  subst hj0;refine i2 t ?_
  match ho:de q p.1.1,ht,hl with
  |[z],ht,_=>simpa using ht
  |[],ht,_=>simp at ht
  |_::_::_,_,hl=>simp at hl;split at hl<;>omega
  cases h
 |n,q::q'::l,ds,x,h,hb=>by
  simp[Ow]at h;have⟨p,h1,h⟩:=ah.1 h;have⟨y,h2,h⟩:=ah.1 h;cases h;obtain⟨i1,i2,_⟩:=XY (ns:=ns) hbad s7 hns hmu h1 (λ b hb'=>hb b (by simp[hb']));obtain⟨k1,k2⟩:=ab5 (ns:=ns) hbad s7 hns hmu h2 (λ b hb'=>hb b (by simp[hb']));refine⟨i1 _ k1,λj t ht=>?_⟩;have ht:(de q p.1.1++pE (q'::l) y.1)[j]? =some (some t):=ht;have hl:=(Ja (q:=q) (x:=p.1.1)).1;by_cases hq:q.out=true;rw[aP hq]at k2 hl;cases j with
  |zero=>
   refine i2 t ?_
   match ho:de q p.1.1,ht,hl with
   |[z],ht,_=>simpa using ht
   |[],_,hl|_::_::_,_,hl=>simp at hl
  |succ j=>
   rw[qj (by omega),hl,Nat.add_sub_cancel]at ht;rw[show n+(j+1)=n+1+j by omega];exact k2 j t ht
  rw[aM hq]at k2 hl;rw[qj (by omega),hl,Nat.sub_zero]at ht;exact k2 j t ht
end
theorem pm.R{get:S}{fk:J Nat}{os':Y (Option fe)}:∀{xs:Y AV}{cs:Y RC},pm get fk os' xs cs->Iv get fk os' xs (match cs with|[c]=>.one c|cs=>.eE cs)
 |[],[],_=>rfl
 |[_],[_],h=>h.1
 |_::_::_,_::_::_,h=>h
 |[],_::_,h|_::_,[],h=>h.elim
 |[_],_::_::_,h|_::_::_,[_],h=>h.2.elim
theorem anf{s:ek X}{rs:Y ResultVar}{l:Y (RT X.ι)}{r:uw X l}(h:(yW T s rs λds=>(Wa s l ds).bind λx=>Xg x.2 (some x.1))=some r):∃xs fk,oH T s.st rs=some xs/\Iv s.st.obj fk (pE l r) xs (uG l r)/\S7 s.st.obj fk (pE l r):=by
 have⟨ds,h1,h⟩:=Ku T h;rw[ah]at h;obtain⟨x,h2,h⟩:=h;have⟨h3,h⟩:=qV h;cases h;unfold Wa at h2;split at h2;rename_i hnb;have hkn:∀j,kept (pE l x.1) j->j∈DR 0 l:=λj ⟨p,hp⟩=>by have:=DT (n:=0) hp;simpa using this
 have hbad:∀j,j∉DR 0 l++(Q6 l ds).toList->Q6 l ds≠some j/\¬kept (pE l x.1) j:=by intro j hj;simp at hj;exact⟨hj.2,λh=>hj.1 (hkn j h)⟩
 have s7:∀k,Q6 l ds=some k->¬kept (pE l x.1) k:=λk hk hkk=>Fb hnb k (by simp[hk]) (hkn k hkk);have hmu:∀j∈tz 0 l,kept (pE l x.1) j:=λj hj=>by have⟨p,hp⟩:=afC (x:=x.1) hj;exact⟨p,by simpa using hp⟩
 obtain⟨i1,i2⟩:=ab5 (ns:=A4 l x.1) hbad s7 (λ j fc hj hl=>MI h2 h3 j fc (by simpa using hj) (by simpa using hl)) hmu h2 h3;have kh:s.st.obj=fK (iS s.obj):=rfl;refine⟨bH ds,Q6 l ds,Q5 T h1,?_,λj p hp=>?_⟩;exact i1.R;have⟨o,g1,g2,g3⟩:=i2 j p hp;rw[Nat.zero_add]at g1;exact⟨λ e=>s7 j e ⟨p,hp⟩,bL o,by rw[kh];simp[fK,g1],g2,by rw[kh];exact g3⟩;cases h2
variable {Γ:FuncId->Option (cy X)} {code:TypeId->Option (CT X.ι)} {P:Program}
theorem arG(hT : fF P T)(hm : P.follows .mixedOrders = true)(hΓ : t7 P Γ){f : FuncId}{fn : Func}{c : Code}(hfn : P.funcs[f]? = some fn)(hb : fn.body = some c)(hname : (fn.name == "runtime.NumGoroutine") = false)(sa : Y (AT X.ι))(sr : Y (RT X.ι))(hN : sa.length <= fn.ntmps /\ xM sa <= 1000 /\ (sr.filter RT.out).length = xM sa)
 (h:Hn X.ι) (n:Nat) {a:jg X sa} {r:uw X sr} (hr:run Γ T code fn.ntmps n c (uw X sr) h (DH sa a) (arF T fn.results.toList sr)=some r):ro P f (zF sa a) (vV sa a) (pE sr r) (uG sr r):=by
 have hl:(pE sr r).length=(vV sa a).length:=by
  rw[xO,<- hN.2.2];have:∀(sr:Y (RT X.ι))(r:uw X sr),(pE sr r).length=(sr.filter RT.out).length:=by
   intro sr
   induction sr with
   |nil=>intro r;rfl
   |cons q l ih=>
    intro r;have hq:∀x:RT.T X q,(de q x).length=(if q.out then 1 else 0):=λx=>Ja.1;cases l with
    |nil=>
     show(de q r).length=_;rw[hq];by_cases e:q.out=true<;>simp[e]
    |cons q' l=>
     show(de q r.1++pE (q'::l) r.2).length=_;rw[eU,hq,ih r.2];by_cases e:q.out=true<;>simp[e];omega
  exact this sr r
 refine QK hT hfn hb hname (by rw[uK];exact hN.1) (λ k hk=>?_) (by rw[xO];exact hN.2.1) hl ?_;rw[zF,<- zn,jc]at hk;have:=qF 0 sa a k hk;have:=hN.2.1;omega;rw[<- aqI];refine(lK hT hm hΓ c _ h _ _ r (apf sa a hN.2.1) hr).mono ?_;rintro e U ⟨s',_,_,rfl,g4⟩;cases e<;>first|exact anf g4|cases g4
theorem qG{f : FuncId}{fn : Func}{c : Code}(hfn : P.funcs[f]? = some fn)(hb : fn.body = some c)(hname : (fn.name == "runtime.NumGoroutine") = false): eH P f := ⟨fn, hfn, by rw [hb]; rfl, hname⟩
abbrev HH(P:Program)(f:FuncId)(s:cy X):Prop:=eH P f/\(∀ a r,s.fn a=some r->ro P f (zF s.args a) (vV s.args a) (pE s.res r) (uG s.res r))/\∀g,s.gen=some g->ON P f g
theorem xl{P:Q}{f:FuncId}{s:cy X}(h:eH P f)(h1:∀a r,s.fn a=some r->ro P f (zF s.args a) (vV s.args a) (pE s.res r) (uG s.res r))(hg:s.gen=none):HH P f s:=by grind
theorem aqJ{P:Q}{f:FuncId}{g:ea X}(h:eH P f)(hg:ON P f g):HH P f ⟨[],[.d .bool],λ_=>none,some g⟩:=by grind
def qn(s t:cy X):cy X:=⟨s.args,s.res,s.fn,t.gen⟩
def AM(l:Y (FuncId×cy X)):FuncId->J (cy X):=λf=>lk l f
theorem ay:t7 P (AM ([]:Y (FuncId×cy X))):=λ_ _ h=>by cases h
theorem ak{f:FuncId}{s:cy X}{l:Y (FuncId×cy X)}(h:HH P f s)(hl:t7 P (AM l)):t7 P (AM ((f,s)::l)):=by intro g q hg;simp[AM,lk]at hg;split at hg;rename_i e;cases hg;subst e;exact h;exact hl g q hg
end
section
variable {X:SX} {T:eM}
theorem MJ(ol:Nat->Nat):∀(ps:Y (Pt X.ι))(L:Y (DC X)),(my ol ps L).1.length=ps.length
 |[],_=>rfl
 |p::ps,L=>by simp[my,MJ ol ps]
def ea.DM(g:ea X):Bool:=
 decide (g.kf.map (·.1)=List.range g.kf.length)&&decide (g.kf.length<=1000)&&((Cg g.rh).all λk=>Nat.blt k 1000)&&g.kf.all λq=>q.2.refs.all λk=>Nat.blt k 1000
def HW(g:ea X)(v:VT (X:=X) (dg g.rh++eh g.kf)):ek X:=⟨(List.range g.rh.length).zip (g.args v),PR g.rh g.kf (xK _ v),1000,[]⟩
theorem wG{ol:Nat->Nat}:∀(O:Y (Nat×OP X.ι))(L:Y (DC X)),cu ol O L=(dK (cu ol O L)).map λp=>(p.1,some p.2)
 |[],L=>rfl
 |(k,.l c)::O,L=>by
  match L with
  |[]=>rfl
  |⟨.sl c',x⟩::L=>simp[cu,dK];rw[<- wG O L]
  |⟨.int _,x⟩::L|⟨.bool,x⟩::L|⟨.str,x⟩::L|⟨.any,x⟩::L|⟨.st _,x⟩::L|⟨.mp _ _,x⟩::L=>rfl
 |(k,.m kc vc)::O,L=>by
  match L with
  |[]=>rfl
  |⟨.mp _ _,x⟩::L=>simp[cu,dK];rw[<- wG O L]
  |⟨.sl _,x⟩::L|⟨.int _,x⟩::L|⟨.bool,x⟩::L|⟨.str,x⟩::L|⟨.any,x⟩::L|⟨.st _,x⟩::L=>rfl
 |(k,.c sz rows)::O,L=>by simp[cu,dK];rw[<- wG O _]
theorem Ff{ol:Nat->Nat}:∀(O:Y (Nat×OP X.ι))(L:Y (DC X)),L.map (·.c)=eh O->(dK (cu ol O L)).map (·.1)=O.map (·.1)
 |[],L,_=>rfl
 |(k,.l c)::O,L,h=>by
  match L,h with
  |⟨.sl c',x⟩::L,h=>
   simp[eh]at h;simp[cu,dK,Ff O L h.2]
  |[],h|⟨.int _,x⟩::L,h|⟨.bool,x⟩::L,h|⟨.str,x⟩::L,h|⟨.any,x⟩::L,h|⟨.st _,x⟩::L,h|⟨.mp _ _,x⟩::L,h=>simp[eh]at h
 |(k,.m kc vc)::O,L,h=>by
  match L,h with
  |⟨.mp _ _,x⟩::L,h=>
   simp[eh]at h;simp[cu,dK,Ff O L h.2]
  |[],h|⟨.sl _,x⟩::L,h|⟨.int _,x⟩::L,h|⟨.bool,x⟩::L,h|⟨.str,x⟩::L,h|⟨.any,x⟩::L,h|⟨.st _,x⟩::L,h=>simp[eh]at h
 |(k,.c sz rows)::O,L,h=>by simp[cu,dK,Ff O _ (ME (ol:=ol) rows L _ h).1]
theorem alk(g:ea X)(v:VT (X:=X) (dg g.rh++eh g.kf))(h:g.kf.map (·.1)=List.range g.kf.length):(g.du v).map (·.1)=List.range (g.du v).length:=by have e:(g.du v).map (·.1)=g.kf.map (·.1):=Ff g.kf _ (by rw[List.map_drop,aii,List.drop_left]);have l:=congrArg List.length e;rw[length_map,length_map]at l;rw[e,h,l]
theorem XZ(k:Nat):∀l:Y (Nat×ci X),iS (l.map λp=>(p.1,some p.2)) k=vu l k
 |[]=>rfl
 |p::l=>by simp[iS,lk,vu];split;rfl;exact XZ k l
theorem ang(t:Nat):∀(ks:Y Nat)(ds:Y (DV X)),den (fL (ks.zip ds) t)=(lk (ks.zip (bH ds)) t).getD .undef:=by
 intro ks
 induction ks with
 |nil=>intro ds;rfl
 |cons k ks ih=>
  intro ds;cases ds with
  |nil=>rfl
  |cons d ds=>
   simp[fL,lk,bH];by_cases h:k=t;simp[h];simp[aM h];exact ih ds
theorem ab6(t:Nat):∀(ks:Y Nat)(ds:Y (DV X)),∀j∈cd (fL (ks.zip ds) t),j∈aS ds:=by
 intro ks
 induction ks with
 |nil=>intro ds j hj;simp[fL,lk,cd]at hj
 |cons k ks ih=>
  intro ds j hj;cases ds with
  |nil=>simp[fL,lk,cd]at hj
  |cons d ds=>
   simp[fL,lk]at hj;simp[aS];by_cases e:k=t;simp[aP e]at hj;exact .inl hj;simp[aM e]at hj;exact .inr (ih ds j hj)
def Fg(O:Y (Nat×OP X.ι)):Y (Nat×Pt X.ι)->Y (Nat×CT X.ι)
 |[]=>[]
 |(t,.o k)::r=>match lk O k with
  |some (.l c)=>(t,c)::Fg O r
  |_=>Fg O r
 |(t,.oz k)::r=>match lk O k with
  |some (.l c)=>(t+1099511627776,c)::Fg O r
  |_=>Fg O r
 |_::r=>Fg O r
def X0(O:Y (Nat×OP X.ι)):Y (Nat×OP X.ι)->Y (Nat×CT X.ι)
 |(q,.c _ [row])::r=>(Fg O (mA (1000000+q*4096) row)).filter (λ p=>Nat.ble p.1 1000000000)++X0 O r
 |_::r=>X0 O r
 |[]=>[]
def Bj(g:ea X):Sh X.ι:=⟨mA 0 g.gj,g.ke,[],[],1000000,Fg g.ke (mA 0 g.gj)++X0 g.ke g.ke⟩
def aqh(T:eM)(rs:Y ResultVar)(g:ea X):Exit->ek X->J (VT (X:=X) (Bj g).vars)
 |.normal,s=>yW T s rs λds=>bif decide (ds.length=g.gj.length)&&(aS ds).all (λ k=>Nat.blt k s.nx)then
  uJ (Bj g) (List.range ds.length) ⟨(List.range ds.length).zip ds,s.obj,s.nx,s.log⟩ ⟨(List.range ds.length).zip ds,s.obj,s.nx,s.log⟩ some else none
 |.ret,s=>yW T s rs λds=>bif decide (ds.length=g.gj.length)&&(aS ds).all (λ k=>Nat.blt k s.nx)then
  uJ (Bj g) (List.range ds.length) ⟨(List.range ds.length).zip ds,s.obj,s.nx,s.log⟩ ⟨(List.range ds.length).zip ds,s.obj,s.nx,s.log⟩ some else none
 |_,_=>none
theorem X4{ol:Nat->Nat}(t:Nat):∀(n:Nat)(ps:Y (Pt X.ι))(L:Y (DC X)),fL (Mx ol (mA n ps) L) (n+t)=((my ol ps L).1[t]?).getD .undef
 |n,[],L=>by simp[mA,Mx,fL,lk,my]
 |n,p::ps,L=>by
  simp[mA,Mx,fL,lk,my];cases t with
  |zero=>simp
  |succ t=>
   have:=X4 (ol:=ol) t (n+1) ps (eP ol p L).2;rw[show n+1+t=n+(t+1)by omega]at this;simpa[fL]using this
theorem alm {P:Q} {g:ea X} {s:ek X} {rs:Y ResultVar} {r:VT (X:=X) (Bj g).vars} (hl:Low s) (h:(yW T s rs λds=>bif decide (ds.length=g.gj.length)&&(aS ds).all (λ k=>Nat.blt k s.nx)then
 uJ (Bj g) (List.range ds.length) ⟨(List.range ds.length).zip ds,s.obj,s.nx,s.log⟩ ⟨(List.range ds.length).zip ds,s.obj,s.nx,s.log⟩ some else none)=some r):
 ∃xs,oH T s.st rs=some xs/\S6 P s.st.obj xs (uF (g.outs r)) (den (g.res r)):=by
 have⟨ds,h1,h⟩:=Ku T h;have⟨h2,h⟩:=dZ h;simp only[aT,bf]at h2;obtain⟨h2,h3⟩:=h2;have hl':Low (⟨(List.range ds.length).zip ds,s.obj,s.nx,s.log⟩:ek X):=⟨hl.le,hl.ge,λt k hk=>by have:=all_eq_true.1 h3 k (ab6 t _ _ k hk);exact Nat.blt_eq.mp this,hl.obj⟩;obtain⟨v,h4,_,_,hrel⟩:=l6 hl' hl' (Ext.refl _ _) h;injection h4 with h4;subst h4;refine⟨bH ds,Q5 T h1,λw0 O0 G I w vs hM hv=>?_⟩;have hvl:=br.length _ _ hv;simp[lZ]at hvl;have hR:Rel P w0 O0 vs.size G I (⟨(List.range ds.length).zip ds,s.obj,s.nx,s.log⟩:ek X).st { tmps:=vs,defers:=[] } w:=by
  refine⟨rfl,rfl,λt=>?_,hM⟩;show VR P G w I (den (fL ((List.range ds.length).zip ds) t)) (vs.getD t undef);rw[ang,show List.range ds.length=List.range (bH ds).length by rw[lZ],Cb];cases ht:(bH ds)[t]? with
  |none=>simp[VR]
  |some x=>
   obtain⟨u,g1,g2⟩:=br.get _ _ t _ hv ht;rw[Array.getElem?_toList]at g1;simp[g1];exact g2
 obtain⟨β',hR'⟩:=hrel P w0 O0 _ G I _ w hR;have hn:(i9 (mA 0 g.gj)).length=(dg g.gj).length:=by rw[QS]
 refine⟨β',I,?_,λ_ h=>h,?_⟩;have:=hR'.mem;have e:(encS (Bj g) ⟨(List.range ds.length).zip ds,s.obj,s.nx,s.log⟩ v).st.obj=pN (uF (g.outs v)):=by funext k;simp[ek.st,encS,Bj,QX,ea.outs,PR];rw[wG,XZ,<- hn];rfl
 rw[e]at this;exact this;obtain⟨pv,hpv⟩:∃pv,pv=Xt g.gj g.ke (xK (Bj g).vars v):=⟨_,rfl⟩;have hres:g.res v=zD pv:=by rw[hpv];rfl
 have tG:∀t,VR P β' w I (den ((pv[t]?).getD .undef)) (vs.getD t undef):=by intro t;have:=hR'.env t;simp only[ek.st,gc,encS,Bj,List.map_nil,append_nil]at this;have e:=X4 (ol:=EX g.ke ((xK (Bj g).vars v).drop (dg g.gj).length)) t 0 g.gj ((xK (Bj g).vars v).take (dg g.gj).length);rw[Nat.zero_add]at e;rw[hpv];simp only[Xt];rw[<- e,<- hn];exact this
 have hpl:pv.length=g.gj.length:=by rw[hpv];exact MJ _ _ _
 have hsz:vs.size=pv.length:=by rw[hpl,<- h2,hvl]
 rw[hres];have hall:br P β' w I (bH pv) vs.toList:=by
  have gen:∀(pv:Y (DV X))(us:Y Value),us.length=pv.length->(∀ t,t<pv.length->VR P β' w I (den ((pv[t]?).getD .undef)) (us.getD t undef))->br P β' w I (bH pv) us:=by
   intro pv
   induction pv with
   |nil=>intro us hl _;cases us<;>simp_all [bH,br]
   |cons d pv ih=>
    intro us hl hh;cases us with
    |nil=>simp at hl
    |cons u us=>
     simp[bH];refine⟨by simpa using hh 0 (by simp),ih us (by simpa using hl) λt ht=>by simpa using hh (t+1) (by simpa using ht)⟩
  refine gen pv vs.toList (by simpa using hsz) λt ht=>?_;have e:vs.toList.getD t undef=vs.getD t undef:=by simp
  rw[e];exact tG t
 match pv,hsz,hall with
 |[d],hsz,hall=>
  obtain⟨u,rfl⟩:=Array.size_eq_one_iff.1 (show vs.size=1 by simpa using hsz);simp only[bH,br]at hall;simpa[zD]using hall.1
 |[],hsz,hall=>
  have h1:¬vs.size=1:=by rw[hsz];simp
  rw[dif_neg h1];simp only[zD,den,VR];exact⟨vs,rfl,hall⟩
 |d::e::pv,hsz,hall=>
  have h1:¬vs.size=1:=by rw[hsz];simp
  rw[dif_neg h1];simp only[zD,den,VR];exact⟨vs,rfl,hall⟩
variable {Γ:FuncId->Option (cy X)} {code:TypeId->Option (CT X.ι)} {P:Program}
theorem aqK(hT : fF P T)(hm : P.follows .mixedOrders = true)(hΓ : t7 P Γ){f : FuncId}{fn : Func}{c : Code}(hfn : P.funcs[f]? = some fn)(hb : fn.body = some c)(hname : (fn.name == "runtime.NumGoroutine") = false)(g : ea X)(hN : g.rh.length <= fn.ntmps)(hin : g.DM = true)
 (h:Hn X.ι) (n:Nat) (hr:∀v (r:VT (X:=X) (Bj g).vars),g.fn v=some r->run Γ T code fn.ntmps n c (VT (X:=X) (Bj g).vars) h (HW g v) (aqh T fn.results.toList g)=some r):ON P f g:=by
 intro v r hv;have hrun:=hr v r hv;simp only[ea.DM,aT,bf]at hin;obtain⟨⟨⟨i1,i2⟩,i3⟩,i4⟩:=hin;obtain⟨s1,s2,_⟩:=zI (ol:=EX g.kf ((xK (dg g.rh++eh g.kf) v).drop (dg g.rh).length)) g.kf ((xK _ v).drop (dg g.rh).length);have hargs:∀k∈aS (g.args v),k<1000:=λk hk=>Nat.blt_eq.mp (all_eq_true.1 i3 k (zH g.rh _ k hk));have vp:∀p∈g.du v,p.1<1000/\∀j∈eI p.2,j<1000:=by intro p hp;have⟨op,g1,g2⟩:=s2 p hp;have hk:p.1∈g.kf.map (·.1):=mem_map.2 ⟨_,g1,rfl⟩;rw[i1]at hk;have:=List.mem_range.1 hk;exact⟨by omega,λj hj=>Nat.blt_eq.mp (all_eq_true.1 (all_eq_true.1 i4 _ g1) j (g2 j hj))⟩
 have hal:(g.args v).length=g.rh.length:=MJ _ _ _;have hkeys:(g.du v).map (·.1)=List.range (g.du v).length:=alk g v i1;have kh:∀k,iS (HW g v).obj k=vu (g.du v) k:=by intro k;show iS (cu _ g.kf _) k=vu (dK (cu _ g.kf _)) k;rw[wG,XZ,<- wG]
 have asN:∀(l:Y (Nat×ci X))(n:Nat),l.map (·.1)=(List.range l.length).map (n+ ·)->∀k,vu l (n+k)=(l[k]?).map (·.2):=by
  intro l
  induction l with
  |nil=>intro n _ k;rfl
  |cons p l ih=>
   intro n hn k;rw[d9,List.range_succ_eq_map,bq,bq,map_map]at hn;injection hn with e1 e2;simp[vu];cases k with
   |zero=>rw[aP (by omega)];rfl
   |succ k=>
    rw[aM (by omega),show n+(k+1)=(n+1)+k by omega,ih (n+1) (by rw[e2];refine List.map_congr_left λa _=>?_;simp;omega) k];rfl
 have hlow:Low (HW g v):=by
  refine⟨by show 1000<=1000000;decide,aB _,λt k hk=>hargs k (ab6 t _ _ k hk),λk o ho=>?_⟩;rw[kh]at ho;have hmem:∀(l:Y (Nat×ci X)),vu l k=some o->(k,o)∈l:=by
   intro l
   induction l with
   |nil=>intro h;simp[vu]at h
   |cons p l ih=>
    intro h;simp[vu]at h;split at h;rename_i e;cases h;subst e;exact List.mem_cons_self;exact eG _ (ih h)
  exact vp _ (hmem _ ho)
 refine abC hT hfn hb hname (by rw[lZ,hal];exact hN) (λ k hk=>hargs k (by rwa [jc]at hk)) (by rw[length_map,<- length_map (f:=Prod.fst),hkeys,List.length_range];have:=s1.length_le;rw[length_map,length_map]at this;exact Nat.le_trans this i2) ?_ ?_;intro o ho r' hr' x hx j hj;obtain⟨p,hp,rfl⟩:=mem_map.1 ho;exact(vp p hp).2 j (XL hr' hx j hj);have e:tj.st ⟨(List.range (bH (g.args v)).length).zip (bH (g.args v)),(List.range ((g.du v).map λp=>bL p.2).length).zip ((g.du v).map λp=>bL p.2)⟩=(HW g v).st:=by simp only[ek.st,tj.st,St.mk.injEq,and_true];refine⟨?_,?_⟩;funext t;simp[HW];rw[ang,lZ,hal];funext k;rw[Cb,kh,List.getElem?_map];have:=asN (g.du v) 0 (by rw[hkeys];simp) k;rw[Nat.zero_add]at this;rw[this,Option.map_map];rfl
 rw[e];refine(lK hT hm hΓ c _ h _ _ r hlow hrun).mono ?_;rintro e U ⟨s',hl',_,rfl,g4⟩;cases e<;>first|exact alm hl' g4|cases g4
end
section
variable {P:Program} {f F:FuncId} {Θ:TypeId} {α:Type} {enc:α->Value} {d:α}
end
section
variable {X:SX}
end
section
variable {X:SX}
def GN{α G:Type}(f:α->J G):Y α->J (List G)
 |[]=>some []
 |x::xs=>(f x).bind λy=>(GN f xs).bind λys=>some (y::ys)
def DE(dq:(i j:X.ι)->Decidable (i=j))(i:X.ι):CT X.ι->J CS
 |.int k=>some (.int k)
 |.bool=>some .bool
 |.str=>some .str
 |.sl (.st j)=>match dq j i with
  |.isTrue _=>some .back
  |.isFalse _=>none
 |_=>none
def aqi(dq:(i j:X.ι)->Decidable (i=j))(i:X.ι):Bool:=(X.ej i).any λc=>match c with
 |.sl (.st j)=>match dq j i with
  |.isTrue _=>true
  |.isFalse _=>false
 |_=>false
def arH(dq:(i j:X.ι)->Decidable (i=j)):CT X.ι->J (List CS)
 |.st i=>bif aqi dq i then GN (DE dq i) (X.ej i)else none
 |_=>none
theorem aqL(dq:(i j:X.ι)->Decidable (i=j)){i:X.ι}{row:Y CS}(hm:GN (DE dq i) (X.ej i)=some row){x:Tree}(h:Jn row x):∃l:Y (CT.T X.toSE (.st i)),x=.sl (l.map (CT.row X.toSE (.st i))):=by
 refine Jn.rec (row:=row) (motive_1:=λx _=>∃l:Y (CT.T X.toSE (.st i)),x=.sl (l.map (CT.row X.toSE (.st i)))) (motive_2:=λrows _=>∃l:Y (CT.T X.toSE (.st i)),rows=l.map (CT.row X.toSE (.st i)))
  (motive_3:=λcs r _=>∀codes:Y (CT X.ι),GN (DE dq i) codes=some cs->∃h:HL X.toSE codes,r=HL.row X.toSE codes h) ?_ ?_ ?_ ?_ ?_ ?_ h
 rintro rows _ _ ⟨l,rfl⟩;exact⟨l,rfl⟩;exact⟨[],rfl⟩;rintro r rs _ _ h1 ⟨l,rfl⟩;obtain⟨q,rfl⟩:=h1 _ hm;exact⟨(X.make i q:X.T i)::l,by rw[bq];congr 1;exact(X.ij i q).symm⟩;intro codes hc;cases codes with
 |nil=>exact⟨(),rfl⟩
 |cons c codes=>
  simp only[GN,ah]at hc;obtain⟨_,_,_,_,h⟩:=hc;cases h
 intro cs x xs _ _ h1 h2 codes hc;obtain⟨l,rfl⟩:=h1;cases codes with
 |nil=>simp[GN]at hc
 |cons c codes=>
  simp only[GN,ah]at hc;obtain⟨c',g1,cs',g2,g3⟩:=hc;injection g3 with g3;injection g3 with g4 g5;subst g4 g5;obtain⟨q,rfl⟩:=h2 _ g2
  match c,g1 with
  |.sl (.st j),g1=>
   simp[DE]at g1;split at g1;rename_i hj _;subst hj;exact⟨(l,q),rfl⟩;cases g1
  |.int _,g1|.bool,g1|.str,g1|.any,g1|.st _,g1|.mp _ _,g1|.sl (.int _),g1|.sl .bool,g1|.sl .str,g1|.sl .any,g1|.sl (.sl _),g1|.sl (.mp _ _),g1=>simp[DE]at g1
 intro c' cs x xs hf _ h2 codes hc;cases codes with
 |nil=>simp[GN]at hc
 |cons c codes=>
  simp only[GN,ah]at hc;obtain⟨c2,g1,cs',g2,g3⟩:=hc;injection g3 with g3;injection g3 with g4 g5;subst g4 g5;obtain⟨q,rfl⟩:=h2 _ g2
  match c,g1 with
  |.int k,g1=>
   cases g1;obtain⟨n,rfl,_⟩:=hf;exact⟨(n,q),rfl⟩
  |.bool,g1=>
   cases g1;obtain⟨n,rfl⟩:=hf;exact⟨(n,q),rfl⟩
  |.str,g1=>
   cases g1;obtain⟨n,rfl,_⟩:=hf;exact⟨(n,q),rfl⟩
  |.sl (.st j),g1=>
   simp[DE]at g1;split at g1;cases g1;exact hf.elim;cases g1
  |.any,g1|.st _,g1|.mp _ _,g1|.sl (.int _),g1|.sl .bool,g1|.sl .str,g1|.sl .any,g1|.sl (.sl _),g1|.sl (.mp _ _),g1=>simp[DE]at g1
def xa:Nat->CT X.ι->J (List CS)
 | 0,_=>none
 |_+1,.int k=>some [.int k]
 |_+1,.bool=>some [.bool]
 |_+1,.str=>some [.str]
 |_+1,.any=>some [.any]
 |_+1,.mp _ _=>none
 |n+1,.sl e=>match arH X.dec e with
  |some row=>some [.mu row]
  |none=>(xa n e).bind λr=>some [.sl r]
 |n+1,.st i=>(GN (xa n) (X.ej i)).bind λl=>some l.flatten
def J1(n:Nat)(c:CT X.ι):J VS:=
 match c with
 |.st i=>(xa n (.st i:CT X.ι)).map .agg
 |c=>(xa n c).bind λl=>match l with
  |[x]=>some (.one x)
  |_=>none
theorem TM:∀(a b:Y CS)(ys:Y Tree),ep (a++b) ys->∃ya yb,ys=ya++yb/\ep a ya/\ep b yb
 |[],b,ys,h=>⟨[],ys,rfl,trivial,h⟩
 |c::a,b,y::ys,h=>by obtain⟨ya,yb,rfl,h1,h2⟩:=TM a b ys h.2;exact⟨y::ya,yb,rfl,⟨h.1,h1⟩,h2⟩
 |_::_,_,[],h=>h.elim
theorem afE{c:CT X.ι}{cs:Y CS}(h:∀ys,ep cs ys->∃x:CT.T X.toSE c,ys=CT.row X.toSE c x):∀rows:Y (List Tree),(∀ r∈rows,ep cs r)->∃l:Y (CT.T X.toSE c),rows=l.map (CT.row X.toSE c)
 |[],_=>⟨[],rfl⟩
 |r::rows,hr=>by obtain⟨x,hx⟩:=h r (hr r (by simp));obtain⟨l,hl⟩:=afE h rows λq hq=>hr q (eG _ hq);exact⟨x::l,by rw[bq,<- hx,<- hl]⟩
theorem anh{f:CT X.ι->J (List CS)}(hf:∀c cs,f c=some cs->∀ys,ep cs ys->∃x:CT.T X.toSE c,ys=CT.row X.toSE c x):∀(l:Y (CT X.ι))(css:Y (List CS)),GN f l=some css->∀ys,ep css.flatten ys->∃h:HL X.toSE l,ys=HL.row X.toSE l h
 |[],css,h,ys,hy=>by
  simp[GN]at h;subst h;cases ys with
  |nil=>exact⟨(),rfl⟩
  |cons y ys=>exact hy.elim
 |c::l,css,h,ys,hy=>by simp[GN]at h;have⟨a,h1,h⟩:=ah.1 h;have⟨b,h2,h⟩:=ah.1 h;cases h;obtain⟨ya,yb,rfl,g1,g2⟩:=TM _ _ _ hy;have⟨x,hx⟩:=hf c a h1 ya g1;have⟨q,hq⟩:=anh hf l b h2 yb g2;exact⟨(x,q),by rw[hx,hq];rfl⟩
theorem VO:∀(n:Nat)(c:CT X.ι)(cs:Y CS),xa n c=some cs->∀ys,ep cs ys->∃x:CT.T X.toSE c,ys=CT.row X.toSE c x
 | 0,_,_,h,_,_=>by cases h
 |n+1,.mp _ _,cs,h,ys,hy=>by simp[xa]at h
 |n+1,.int k,cs,h,ys,hy=>by
  simp[xa]at h;subst h
  match ys,hy with
  |[y],hy=>
   simp[ep]at hy;obtain⟨m,rfl,_⟩:=hy;exact⟨m,rfl⟩
  |[],hy=>exact hy.elim
  |_::_::_,hy=>exact hy.2.elim
 |n+1,.bool,cs,h,ys,hy=>by
  simp[xa]at h;subst h
  match ys,hy with
  |[y],hy=>
   simp only[ep,Fit,and_true]at hy;obtain⟨m,rfl⟩:=hy;exact⟨m,rfl⟩
  |[],hy=>exact hy.elim
  |_::_::_,hy=>exact hy.2.elim
 |n+1,.str,cs,h,ys,hy=>by
  simp[xa]at h;subst h
  match ys,hy with
  |[y],hy=>
   simp[ep]at hy;obtain⟨m,rfl,_⟩:=hy;exact⟨m,rfl⟩
  |[],hy=>exact hy.elim
  |_::_::_,hy=>exact hy.2.elim
 |n+1,.any,cs,h,ys,hy=>by
  simp[xa]at h;subst h
  match ys,hy with
  |[y],hy=>exact⟨y,rfl⟩
  |[],hy=>exact hy.elim
  |_::_::_,hy=>exact hy.2.elim
 |n+1,.sl e,cs,h,ys,hy=>by
  simp[xa]at h;split at h;rename_i row hm;cases h
  match ys,hy with
  |[y],hy=>
   simp[ep]at hy;cases e with
   |st i=>
    simp[arH]at hm;cases hb:aqi X.dec i with
    |false=>rw[hb]at hm;cases hm
    |true=>
     rw[hb]at hm;have⟨l,hl⟩:=aqL X.dec hm hy;exact⟨l,by rw[hl];rfl⟩
   |_=>cases hm
  |[],hy=>exact hy.elim
  |_::_::_,hy=>exact hy.2.elim
  have⟨r,h1,h⟩:=ah.1 h;cases h
  match ys,hy with
  |[y],hy=>
   simp[ep]at hy;obtain⟨rows,rfl,_,hr⟩:=hy;have⟨l,hl⟩:=afE (VO n e r h1) rows hr;exact⟨l,by rw[hl];rfl⟩
  |[],hy=>exact hy.elim
  |_::_::_,hy=>exact hy.2.elim
 |n+1,.st i,cs,h,ys,hy=>by simp[xa]at h;have⟨css,h1,h⟩:=ah.1 h;cases h;have⟨q,hq⟩:=anh (VO n) (X.ej i) css h1 ys hy;exact⟨X.make i q,by rw[hq];exact(X.ij i q).symm⟩
theorem apg{n:Nat}{c:CT X.ι}{s:VS}(h:J1 n c=some s){x:TV}(hx:It s x):∃y:CT.T X.toSE c,x=CT.tv X.toSE c y:=by
 have one:∀c:CT X.ι,c.one=true->((xa n c).bind λl=>match l with
  |[x]=>some (VS.one x)
  |_=>none)=some s->∃y:CT.T X.toSE c,x=CT.tv X.toSE c y:=by intro c hc h;have⟨l,h1,h⟩:=ah.1 h;split at h;cases h;simp[It]at hx;obtain⟨t,rfl,ht⟩:=hx;obtain⟨y,hy⟩:=VO n c _ h1 [t] ⟨ht,trivial⟩;obtain⟨t',e1,e2⟩:=row_one hc y;rw[e1]at hy;cases hy;exact⟨y,e2.symm⟩;cases h
 cases c
 case st i=>
  simp[J1]at h;obtain⟨cs,h1,rfl⟩:=h;simp[It]at hx;obtain⟨ys,rfl,hy⟩:=hx;obtain⟨y,hy⟩:=VO n (.st i) _ h1 ys hy;exact⟨y,by rw[hy];rfl⟩
 all_goals exact one _ rfl h
theorem afF(n:Nat):∀(cs:Y (CT X.ι))(ss:Y VS),GN (J1 n) cs=some ss->∀xs,Xa ss xs->∃h:HL X.toSE cs,xs=HL.oY X.toSE cs h
 |[],ss,h,xs,hx=>by
  simp[GN]at h;subst h;cases xs with
  |nil=>exact⟨(),rfl⟩
  |cons x xs=>exact hx.elim
 |c::cs,ss,h,xs,hx=>by
  simp[GN]at h;have⟨a,h1,h⟩:=ah.1 h;have⟨b,h2,h⟩:=ah.1 h;cases h;cases xs with
  |nil=>exact hx.elim
  |cons x xs=>
   obtain⟨y,rfl⟩:=apg h1 hx.1;obtain⟨q,rfl⟩:=afF n cs b h2 xs hx.2;exact⟨(y,q),rfl⟩
theorem ani{P:Q}{f:FuncId}{n N:Nat}{cs:Y (CT X.ι)}{ss:Y VS}{fn:Nat->jg X (cs.map AT.d)->J Bool}(hc:∀k,HH P f ⟨cs.map AT.d,[.d .bool],fn k,none⟩)(hs:GN (J1 n) cs=some ss)(hl:∀q:HL X.toSE cs,Xa ss (HL.oY X.toSE cs q)->Xb (HL.oY X.toSE cs q)<=N->∃k,fn k (hlA cs q)=some true)(xs:Y TV)(h:Xa ss xs)(hb:Xb xs<=N):
 sq P f (xs.map TV.av) (.one (.d (.s (.sc (.bool true))))):=by obtain⟨q,rfl⟩:=afF n cs ss hs xs h;have⟨k,hk⟩:=hl q h hb;have h1:=(hc k).2.1 (hlA cs q) true hk;have h2:=h1;rw[IX (adn cs)]at h2;have h3:ro P f (zF (cs.map AT.d) (hlA cs q)) [] [] (.one (.d (.s (.sc (.bool true))))):=h2;have h4:=pu h3;rw[zF,QT]at h4;exact h4
end
structure ix where
 env:List (Nat×AV)
 obj:List (Nat×Option aN)
 ok:List (Nat×Option Bool)
def ix.st(F:S)(L:ix):St:=
 ⟨λ t=>(lk L.env t).getD .undef,λk=>match lk L.obj k with|some o=>o|none=>F k,λt=>(lk L.ok t).join⟩
def ix.app(L:ix)(dst:J Tmp)(p:Out×Option Bool):ix:=
 match dst with
 |some d=>⟨(d,p.1.v)::L.env,p.1.upd++L.obj,(d,p.2)::L.ok⟩
 |none=>⟨L.env,p.1.upd++L.obj,L.ok⟩
theorem ix.G4(F:S)(L:ix)(dst:J Tmp)(p:Out×Option Bool):(L.app dst p).st F=(L.st F).app dst p:=by
 have ho:∀(u:Y (Nat×Option aN))(k:Nat),(match lk (u++L.obj) k with|some o=>o|none=>F k)=bX (λ k=>match lk L.obj k with|some o=>o|none=>F k) u k:=by
  intro u k
  induction u with
  |nil=>rfl
  |cons q u ih=>
   obtain⟨j,o⟩:=q;simp only[List.cons_append,lk,bX];by_cases h:j=k
   .subst h;simp
   .rw[aM h,aM (λ e=>h e.symm)];exact ih
 have he:∀{α:Type} (e:Y (Nat×α)) (d:Nat) (v:α) (f:J α->α) (t:Nat),f (some v)=v->f (lk ((d,v)::e) t)=zA (λ t=>f (lk e t)) (some d) v t:=by
  intro α e d v f t hf;simp only[lk,zA,bK];by_cases h:d=t
  .rw[aP h,aP h,hf]
  .rw[aM h,aM h]
 cases dst with
 |none=>
  simp only[ix.app,ix.st,St.app];congr 1;exact funext λk=>ho _ k
 |some d=>
  simp only[ix.app,ix.st,St.app];congr 1
  .exact funext λt=>he _ _ _ (λ o:Option AV=>o.getD AV.undef) t rfl
  .exact funext λk=>ho _ k
  .exact funext λt=>he L.ok d p.2 (λ o:Option (Option Bool)=>o.join) t rfl
section
variable (P:Program) (T:eM) (ag:Array Oper) (dp:Nat->ky) (F:Nat->Option aN)
def pG:Y Nat->ix->J (ix×List Prop)
 |[],L=>some (L,[])
 |i::r,L=>(ag[i]?).bind λo=>(opAt P T ag dp i (L.st F)).bind λout=>(pG r (L.app o.dst out)).bind λq=>some (q.1,out.1.obs++q.2)
end
theorem afG:∀{a b:Y Prop},iZ (a++b)->iZ a/\iZ b
 |[],_,h=>⟨trivial,h⟩
 |p::a,b,h=>by
  cases a with
  |nil=>
   cases b with
   |nil=>exact⟨h,trivial⟩
   |cons q b=>exact⟨h.1,h.2⟩
  |cons q a=>
   obtain⟨h1,h2⟩:=h;have⟨h3,h4⟩:=afG (a:=q::a) h2;exact⟨⟨h1,h3⟩,h4⟩
theorem MK{P:Q}{T:eM}{ag:Array Oper}{dp:Nat->ky}{F:S}{Ξ:St->Prop}:∀{l:Y Nat}{L L':ix}{obs:Y Prop},pG P T ag dp F l L=some (L',obs)->iZ obs->Ξ (L'.st F)->Uo P T ag dp Ξ l (L.st F)
 |[],L,L',obs,h,_,hq=>by simp only[pG,bK,Prod.mk.injEq]at h;obtain⟨rfl,rfl⟩:=h;exact hq
 |i::r,L,L',obs,h,ho,hq=>by simp only[pG,ah]at h;obtain⟨o,h1,out,h2,q,h3,h4⟩:=h;injection h4 with h4;injection h4 with h5 h6;subst h5 h6;have⟨o1,o2⟩:=afG ho;refine⟨o,out,h1,h2,o1,?_⟩;rw[<- ix.G4];exact MK h3 o2 hq
section
variable {P:Program} {T:eM} {N:Nat} {Ξ:Exit->St->Prop} {ag:Array Oper} {dp:Nat->ky} {U σ' σ2:St}
structure Told(σ' σ2:St):Prop where
 re:∃(f g:Nat->Nat)(D:Nat->Prop),(∀ k,D k->g (f k)=k)/\(∀ j,j<1000->g j=j)/\
  (∀ t,σ2.env t=.undef\/(σ'.ok t=none/\(∀ k∈refs (σ'.env t),D k)/\lO (ik f (σ'.env t)) (σ2.env t)))/\
  (∀ j o',σ2.obj j=some o'->∃k o,σ'.obj k=some o/\D k/\f k=j/\o'.sz=o.sz/\il D f o.rows o'.rows)
 ok:∀t,σ2.ok t=none
 old:t6 σ2
theorem Told.rel{w0:M}{O0:lp}{G:ζ}{I:Ψ}{a:Act}{w:M}(h:Told σ' σ2)(hr:Rel P w0 O0 N G I σ' a w):∃ β',Rel P w0 O0 N β' I σ2 a w:=by
 obtain⟨f,g,D,h1,h2,h3,h4⟩:=h.re;refine⟨_,Rel.re (f:=f) (g:=g) (D:=D) h1 h2 hr (λ t=>?_) h.ok (λ t=>?_) h4⟩
 .rcases h3 t with e|e
  .exact .inr e
  .exact .inl e.1
 .rcases h3 t with e|e
  .exact .inl e
  .exact .inr e.2
theorem tK(hT:fF P T){id:Nat}{F:S}{L L':ix}{obs:Y Prop}(hd:QI N ag=true)(h:pG P T ag dp F (List.range ag.size) L=some (L',obs))(df:iZ obs)(ht:Told (L'.st F) σ2)(hq:Ξ .normal σ2):
 Ev P N (.region id ag false) Ξ (L.st F):=by intro w0 O0 G I a w hr ho;refine wp_mono (abA (Ξ:=λU=>U=L'.st F) hT hd ho (MK h df rfl) hr) ?_;rintro e a' w' ⟨β',I',σ',h1,rfl,rfl⟩;have⟨β2,h2⟩:=ht.rel h1;exact⟨β2,I',σ2,h2,ht.old,hq⟩
theorem X5(hT:fF P T)(hm:P.follows .mixedOrders=true){id:Nat}{F:S}{L L':ix}{obs:Y Prop}(hd:QI N ag=true)(hB:WW ag dp=true)(h:pG P T ag dp F (List.range ag.size) L=some (L',obs))(df:iZ obs)(ht:Told (L'.st F) σ2)(hq:Ξ .normal σ2):
 Ev P N (.region id ag true) Ξ (L.st F):=by intro w0 O0 G I a w hr ho;refine wp_mono (IJ (Ξ:=λU=>U=L'.st F) hT hm hd hB ho (MK h df rfl) hr) ?_;rintro e a' w' ⟨β',I',σ',h1,rfl,rfl⟩;have⟨β2,h2⟩:=ht.rel h1;exact⟨β2,I',σ2,h2,ht.old,hq⟩
end
mutual
theorem aph{f:Nat->Nat}:∀x:AV,(∀ k∈refs x,f k=k)->ik f x=x
 |.own k aa len,h=>by simp only[ik];rw[h k (by simp[refs])]
 |.ptr k row aa,h=>by simp only[ik];rw[h k (by simp[refs])]
 |.mp k,h=>by simp only[ik];rw[h k (by simp[refs])]
 |.oz k len,h=>by simp only[ik];rw[h k (by simp[refs])]
 |.agg cs,h=>by simp only[ik];rw[Jc cs (by simpa[refs]using h)]
 |.eE cs,h=>by simp only[ik];rw[Jc cs (by simpa[refs]using h)]
 |.fn F first caps,h=>by simp only[ik];rw[Jc first (λ k hk=>h k (by simp[refs,hk])),Jc caps (λ k hk=>h k (by simp[refs,hk]))]
 |.t _,_=>rfl
 |.eW _ _,_=>rfl
 |.eC _,_=>rfl
 |.d5,_=>rfl
 |.ub,_=>rfl
 |.undef,_=>rfl
theorem Jc{f:Nat->Nat}:∀l:List AV,(∀ k∈dJ l,f k=k)->wB f l=l
 |[],_=>rfl
 |x::xs,h=>by simp only[wB];rw[aph x (λ k hk=>h k (by simp[dJ,hk])),Jc xs (λ k hk=>h k (by simp[dJ,hk]))]
end
theorem aj2{D:Ψ}{f:Nat->Nat}:∀r:Y AV,(∀ k∈dJ r,D k)->nt D f r (wB f r)
 |[],_=>trivial
 |x::xs,h=>⟨⟨λ k hk=>h k (by simp[dJ,hk]),lO.refl _⟩,aj2 xs λk hk=>h k (by simp[dJ,hk])⟩
theorem afH{D:Ψ}{f:Nat->Nat}:∀rs:Y (List AV),(∀ r∈rs,∀k∈dJ r,D k)->il D f rs (rs.map (wB f))
 |[],_=>trivial
 |r::rs,h=>⟨aj2 r (h r (by simp)),afH rs λq hq=>h q (by simp[hq])⟩
theorem apj{L' L2:ix}{F F2:S}(f g:Nat->Nat)(D:Ψ)(h1:∀k,D k->g (f k)=k)(h2:∀j,j<1000->g j=j)
 (hE:∀p∈L2.env,(lk L'.ok p.1).join=none/\(∀ k∈refs ((lk L'.env p.1).getD .undef),D k)/\ik f ((lk L'.env p.1).getD .undef)=p.2)
 (hO:∀j o',(L2.st F2).obj j=some o'->∃k o,(L'.st F).obj k=some o/\D k/\f k=j/\o'=Dt f o/\∀r∈o.rows,∀k∈dJ r,D k) (hok:L2.ok=[])
 (old:t6 (L2.st F2)):Told (L'.st F) (L2.st F2):=by
 refine⟨⟨f,g,D,h1,h2,λt=>?_,λj o' hj=>?_⟩,λt=>by simp[ix.st,hok,lk],old⟩
 .simp only[ix.st];cases h:lk L2.env t with
  |none=>exact .inl rfl
  |some x=>
   obtain⟨a1,a2,a3⟩:=hE _ (qf h);exact .inr ⟨a1,a2,by rw[a3];exact lO.refl _⟩
 .obtain⟨k,o,e1,e2,e3,rfl,e5⟩:=hO j o' hj;exact⟨k,o,e1,e2,e3,rfl,afH _ e5⟩
section
variable {P:Program} {G:Nat->Option dc} {w:World} {I:Nat->Prop}
def oS(P:Q)(G:ζ)(w:M)(I:Ψ):Y AV->Y AV->Prop
 |[],[]=>True
 |x::xs,y::ys=>(∀ v,VR P G w I x v->VR P G w I y v)/\oS P G w I xs ys
 |_,_=>False
def nF(P:Q)(G:ζ)(w:M)(I:Ψ):Y (List AV)->Y (List AV)->Prop
 |[],[]=>True
 |r::rs,q::qs=>oS P G w I r q/\nF P G w I rs qs
 |_,_=>False
theorem oS.refl:∀r:Y AV,oS P G w I r r
 |[]=>trivial
 |_::xs=>⟨λ _ h=>h,oS.refl xs⟩
theorem nF.app{q q':Y AV}(h:oS P G w I q q'):∀R:Y (List AV),nF P G w I (R++[q]) (R++[q'])
 |[]=>⟨h,trivial⟩
 |r::R=>⟨oS.refl r,nF.app h R⟩
theorem oS.row:∀{r q:Y AV}{c:Array Value}{aa:Nat},oS P G w I r q->d8 P G w I r c aa->d8 P G w I q c aa
 |[],[],_,_,_,_=>trivial
 |_::_,_::_,_,_,h,⟨⟨v,h1,h2,h3⟩,h4⟩=>⟨⟨v,h1,h.1 v h2,h3⟩,oS.row h.2 h4⟩
 |[],_::_,_,_,h,_=>h.elim
 |_::_,[],_,_,h,_=>h.elim
theorem oS.length:∀{r q:Y AV},oS P G w I r q->q.length=r.length
 |[],[],_=>rfl
 |_::_,_::_,h=>congrArg (· +1) (oS.length h.2)
 |[],_::_,h=>h.elim
 |_::_,[],h=>h.elim
theorem nF.rows:∀{rs qs:Y (List AV)}{c:Array Value}{aa sz:Nat},nF P G w I rs qs->cj P G w I rs c aa sz->cj P G w I qs c aa sz
 |[],[],_,_,_,_,_=>trivial
 |_::_,_::_,_,_,_,h,⟨h1,h2,h3⟩=>⟨by rw[h.1.length];exact h1,h.1.row h2,h.2.rows h3⟩
 |[],_::_,_,_,_,h,_=>h.elim
 |_::_,[],_,_,_,h,_=>h.elim
theorem nF.length:∀{rs qs:Y (List AV)},nF P G w I rs qs->qs.length=rs.length
 |[],[],_=>rfl
 |_::_,_::_,h=>congrArg (· +1) (nF.length h.2)
 |[],_::_,h=>h.elim
 |_::_,[],h=>h.elim
end
end Go.Gb
