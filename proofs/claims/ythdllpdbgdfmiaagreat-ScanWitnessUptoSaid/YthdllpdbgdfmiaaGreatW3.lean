import Derived.Test.YthdllpdbgdfmiaaGreatW2
open List (mem_map all_eq_true length_map append_nil map_map map_congr_left)
namespace Go.Gb
open Go.RowKit
section
variable {X:SX} {A:Type}
def fN(nx k:Nat):Nat:=if k<1000000 then k else nx+(k-1000000)
def gN(nx j:Nat):Nat:=if j<nx then j else 1000000+(j-nx)
def It(nx sz k:Nat):Bool:=decide (k<nx) || (decide (1000000<=k)&&decide (k<1000000+sz))
def okE(nx sz:Nat)(e:List (Nat×DV X)):Bool:=e.all λp=>(bz p.2).all (It nx sz)
def okO(nx sz:Nat)(o:List (Nat×Option (bo X))):Bool:=o.all λp=>It nx sz p.1&&match p.2 with|some x=>(ev x).all (It nx sz)|none=>true
def P2(oX:GP):Nat->nq:=λi=>match lk oX i with|some p=>⟨.none,p.1,p.2,false⟩|none=>⟨.none,[],[],false⟩
def HA(tr:List (Nat×nq)):Nat->nq:=λi=>match lk tr i with|some a=>a|none=>⟨.none,[],[],false⟩
def MD:DV X->DV X
 |.skip=>.undef
 |x=>x
theorem amy(x:DV X):den (MD x)=den x:=by cases x<;>rfl
theorem aaQ(x:DV X):bz (MD x)=bz x:=by cases x<;>rfl
def fin(s:d8 X)(e:List (Nat×DV X))(o:List (Nat×Option (bo X)))(sz:Nat):d8 X:=
 ⟨e.map (λ p=>(p.1,MD (so (fN s.nx) p.2)))++s.env,o.map (λ p=>(fN s.nx p.1,p.2.map (qn (fN s.nx))))++s.obj,s.nx+sz,o.map (λ p=>fN s.nx p.1)++s.log⟩
def amz(N:Nat)(ag:Array Oper)(d:Bool)(nx:Nat)(e:List (Nat×DV X))(o:List (Nat×Option (bo X)))(oX:GP):Bool:=
 S6 N ag&&(!d || Sp ag (P2 oX))&&okE nx (64*ag.size) e&&okO nx (64*ag.size) o&&decide (nx+64*ag.size<=1000000)
def ahg(Γ:FuncId->Option (cx X))(fz:List Nat)(T:eI)(al:TypeId->Option (CT X.ι))(N:Nat)(ag:Array Oper)(d:Bool)(s:d8 X)(k:d8 X->Option A):Option A:=
 zf Γ fz T al ag s (λ e o oX=>bif amz N ag d s.nx e o oX then k (fin s e o (64*ag.size))else none) (List.range ag.size) [] [] []
theorem aew{ag:Array Oper}{dC u9:Nat->nq}(h:∀i,(dC i).rd=(u9 i).rd/\(dC i).wr=(u9 i).wr):Sp ag dC=Sp ag u9:=by
 have h1:xX dC=xX u9:=by funext i j;simp[xX,(h i).1,(h i).2,(h j).1,(h j).2]
 have h2:∀md,Qd md ag dC=Qd md ag u9:=by intro md;funext listed i;simp[Qd,h1]
 have h3:∀(md:Region.Mode)(n k:Nat)(listed:Array Bool),lexFrom' md ag dC n k listed=lexFrom' md ag u9 n k listed:=by
  intro md n
  induction n with
  |zero=>intro k listed;rfl
  |succ n ih=>intro k listed;simp[lexFrom',h2,ih]
 exact h3 _ _ _ _
theorem Dh{α:Type}:∀(a b:List (Nat×α))(k:Nat),lk (a++b) k=match lk a k with|some x=>some x|none=>lk b k
 |[],_,_=>rfl
 |(j,x)::a,b,k=>by simp[lk];by_cases h:j=k;simp[h];simp[aU h,Dh a b k]
theorem ajm{α:Type}:∀{l:List (Nat×α)}{k:Nat},lk l k=none->∀x,(k,x)∉l
 |(j,y)::r,k,h,x=>by simp[lk]at h;split at h;cases h;rename_i hn;simp only[aR,Prod.mk.injEq,not_or];exact⟨λ e=>hn e.1.symm,ajm h x⟩
 |[],_,_,_=>by simp
theorem aqk{tr:List (Nat×nq)}(hn:(tr.map (·.1)).Nodup)(i:Nat):(P2 (KJ tr).reverse i).rd=(HA tr i).rd/\(P2 (KJ tr).reverse i).wr=(HA tr i).wr:=by
 have hn':((KJ tr).reverse.map (·.1)).Nodup:=by
  rw[List.map_reverse];have h1:((KJ tr).map (·.1)).Nodup:=by simpa[KJ,Function.comp_def]using hn
  exact List.pairwise_reverse.2 (h1.imp λh=>Ne.symm h)
 unfold P2 HA;cases h:lk tr i with
 |none=>
  cases h':lk (KJ tr).reverse i with
  |none=>exact⟨rfl,rfl⟩
  |some p=>
   have:=rZ h';simp only[KJ,List.mem_reverse,mem_map]at this;obtain⟨q,hq,he⟩:=this;injection he with e1 e2;subst e1;exact(ajm h q.2 hq).elim
 |some a=>
  have h1:=rZ h;have h2:(i,a.rd,a.wr)∈(KJ tr).reverse:=by simp only[KJ,List.mem_reverse,mem_map];exact⟨(i,a),h1,rfl⟩
  rw[vE hn' h2];exact⟨rfl,rfl⟩
theorem amA{tr:List (Nat×nq)}(hn:(tr.map (·.1)).Nodup):∀p∈tr,HA tr p.1=p.2:=by rintro⟨i,a⟩ hp;rw[HA,vE hn hp]
theorem WY{nx sz k:Nat}(h:It nx sz k=true):k<nx\/(1000000<=k/\k<1000000+sz):=by simpa[It]using h
theorem Z2{nx sz k:Nat}(hle:nx+sz<=1000000)(h:k<nx\/(1000000<=k/\k<1000000+sz)):gN nx (fN nx k)=k:=by grind [gN,fN]
theorem HJ{nx sz k:Nat}(hle:nx+sz<=1000000)(h:k<nx\/(1000000<=k/\k<1000000+sz)):fN nx k<nx+sz:=by grind [fN]
theorem Q3{nx k:Nat}(hle:nx<=1000000)(h:k<nx):fN nx k=k:=aX (by omega)
mutual
theorem WZ{f:Nat->Nat}:∀x:DV X,(∀ k∈bz x,f k=k)->so f x=x
 |.own k _ _,h|.ptr k _ _,h|.rj k _ _,h|.mp k,h|.oz k _,h|.tG k _ _ _ _,h=>by simp[so,h k (by simp[bz])]
 |.agg cs,h|.fj cs,h=>by simp[so,ED cs (by simpa[bz]using h)]
 |.fn F first caps,h=>by simp[so,ED first (λ k hk=>h k (by simp[bz,hk])),ED caps (λ k hk=>h k (by simp[bz,hk]))]
 |.c _ _,_|.rp _ _ _,_|.xl _ _ _ _ _,_|.eC _ _ _,_|.raw _,_|.nil,_|.ub,_|.skip,_|.undef,_=>rfl
theorem ED{f:Nat->Nat}:∀l:List (DV X),(∀ k∈aL l,f k=k)->L9 f l=l
 |[],_=>rfl
 |x::xs,h=>by simp[L9,WZ x (λ k hk=>h k (by simp[aL,hk])),ED xs (λ k hk=>h k (by simp[aL,hk]))]
end
mutual
theorem W9(f:Nat->Nat):∀x:DV X,bz (so f x)=(bz x).map f
 |.own _ _ _|.ptr _ _ _|.rj _ _ _|.mp _|.oz _ _|.tG _ _ _ _ _=>rfl
 |.agg cs|.fj cs=>by simp[so,bz,Di f cs]
 |.fn F first caps=>by simp[so,bz,Di f first,Di f caps]
 |.c _ _|.rp _ _ _|.xl _ _ _ _ _|.eC _ _ _|.raw _|.nil|.ub|.skip|.undef=>rfl
theorem Di(f:Nat->Nat):∀l:List (DV X),aL (L9 f l)=(aL l).map f
 |[]=>rfl
 |x::xs=>by simp[L9,aL,W9 f x,Di f xs]
end
theorem aex(f:Nat->Nat)(o:bo X):ev (qn f o)=(ev o).map f:=by
 cases o with
 |cells sz rows=>simp[qn,ev];congr 1;exact map_congr_left λr _=>Di f r
 |eE c l|map kc vc l=>rfl
theorem amB{α β:Type}(f:α->β):∀(l:List (Nat×α))(k:Nat),lk (l.map λp=>(p.1,f p.2)) k=(lk l k).map f
 |[],_=>rfl
 |(j,x)::r,k=>by simp[lk];by_cases h:j=k;simp[h];simp[aU h,amB f r k]
theorem ajo{α β:Type}(f:α->β)(g:Nat->Nat):∀(l:List (Nat×α))(j:Nat),(∀ p∈l,∀q∈l,g p.1=g q.1->p.1=q.1)->
 (∀ y,lk (l.map λp=>(g p.1,f p.2)) j=some y->∃k x,lk l k=some x/\g k=j/\y=f x)/\(lk (l.map λp=>(g p.1,f p.2)) j=none->∀p∈l,g p.1≠j)
 |[],_,_=>⟨λ _ h=>by simp[lk]at h,λ_=>by simp⟩
 |(k0,x0)::r,j,hi=>by
  obtain⟨i1,i2⟩:=ajo f g r j (λ p hp q hq=>hi p (by simp[hp]) q (by simp[hq]));simp[lk];by_cases h:g k0=j;rw[aX h];exact⟨λ y hy=>by injection hy with hy;exact⟨k0,x0,by simp,h,hy.symm⟩,λhn=>by cases hn⟩
  grind
structure Ext(ds:Nat->Prop)(s s':d8 X):Prop where
 env:∀t,¬ds t->fy s'.env t=fy s.env t\/fy s'.env t=.undef
 obj:∃d,s'.log=d++s.log/\∀k,k<s.nx->k∉d->iu s'.obj k=iu s.obj k\/iu s'.obj k=none
 nx:s.nx<=s'.nx
variable {Γ:FuncId->Option (cx X)} {fz:List Nat} {T:eI} {al:TypeId->Option (CT X.ι)} {P:Program} {N:Nat}
theorem NI(s:d8 X)(e:List (Nat×DV X))(o:List (Nat×Option (bo X)))(sz t:Nat):fy (fin s e o sz).env t=match lk e t with|some d=>MD (so (fN s.nx) d)|none=>fy s.env t:=by simp[fin,fy,Dh,amB (λ d=>MD (so (fN s.nx) d))];cases lk e t<;>rfl
theorem acj(hT:fw P T)(hm:P.follows .mixedOrders=true)(hΓ:td P Γ){id:Nat}{ag:Array Oper}{d:Bool}{s:d8 X}{k:d8 X->Option A}{r:A}(hl:Low s)(h:ahg Γ fz T al N ag d s k=some r):
 ∃s':d8 X,k s'=some r/\Low s'/\Ext (Sm ag) s s'/\Ev P N (.region id ag d) (λ e σ=>e=.normal/\σ=s'.st) s.st:=by
 unfold ahg at h;obtain⟨tr,e,o,h1,h2,h3,h4⟩:=EC hΓ _ _ _ _ h;have⟨h5,h6⟩:=eD h2;simp only[amz,bK,append_nil]at h5;obtain⟨⟨⟨⟨hd,hlex⟩,hE⟩,hO⟩,hnx⟩:=h5;have hle:s.nx+64*ag.size<=1000000:=of_decide_eq_true hnx;have Jx:(tr.map (·.1)).Nodup:=by rw[h1];exact List.nodup_range
 have X1:∀t x,lk e t=some x->∀j∈bz x,j<s.nx\/(1000000<=j/\j<1000000+64*ag.size):=by intro t x hx j hj;have:=all_eq_true.1 hE _ (rZ hx);exact WY (all_eq_true.1 this j hj)
 have Ln:∀p∈o,(p.1<s.nx\/(1000000<=p.1/\p.1<1000000+64*ag.size))/\∀x,p.2=some x->∀j∈ev x,j<s.nx\/(1000000<=j/\j<1000000+64*ag.size):=by intro p hp;have:=all_eq_true.1 hO _ hp;simp at this;refine⟨WY this.1,λx hx j hj=>?_⟩;have h2:=this.2;rw[hx]at h2;exact WY (all_eq_true.1 h2 j hj)
 have hinj:∀p∈o,∀q∈o,fN s.nx p.1=fN s.nx q.1->p.1=q.1:=by
  intro p hp q hq he;have:=congrArg (gN s.nx) he
  rwa [Z2 hle (Ln p hp).1,Z2 hle (Ln q hq).1]at this
 have xF:∀j,(∃ q x,lk o q=some x/\fN s.nx q=j/\iu (fin s e o (64*ag.size)).obj j=x.map (qn (fN s.nx)))\/(iu (fin s e o (64*ag.size)).obj j=iu s.obj j/\∀p∈o,fN s.nx p.1≠j):=by
  intro j;obtain⟨i1,i2⟩:=ajo (λ x:Option (bo X)=>x.map (qn (fN s.nx))) (fN s.nx) o j hinj;simp only[fin,iu,Dh];cases hj:lk (o.map λp=>(fN s.nx p.1,p.2.map (qn (fN s.nx)))) j with
  |none=>exact .inr ⟨rfl,i2 hj⟩
  |some y=>
   have⟨q,x,g1,g2,g3⟩:=i1 y hj;exact .inl ⟨q,x,g1,g2,by rw[g3];rfl⟩
 refine⟨fin s e o (64*ag.size),h6,?_,?_,?_⟩;constructor;exact hle;have:=hl.ge;show 1000<=s.nx+64*ag.size;omega;intro t j hj;rw[NI]at hj;cases ht:lk e t with
 |none=>rw[ht]at hj;have:=hl.env t j hj;show j<s.nx+64*ag.size;omega
 |some x=>
  rw[ht,aaQ,W9]at hj;obtain⟨q,hq,rfl⟩:=mem_map.1 hj;exact HJ hle (X1 t x ht q hq)
 intro j x hx;rcases xF j with ⟨q,y,g1,rfl,g3⟩|⟨g1,_⟩;rw[g3]at hx;rw[lK]at hx;obtain⟨z,rfl,rfl⟩:=hx;obtain⟨k1,k2⟩:=Ln _ (rZ g1);refine⟨HJ hle k1,λi hi=>?_⟩;rw[aex]at hi;obtain⟨i',hi',rfl⟩:=mem_map.1 hi;exact HJ hle (k2 z rfl i' hi');rw[g1]at hx;have⟨k1,k2⟩:=hl.obj j x hx;refine⟨show j<s.nx+64*ag.size by omega,λi hi=>?_⟩;have:=k2 i hi;show i<s.nx+64*ag.size;omega;refine⟨λ t ht=>.inl ?_,⟨o.map (λ p=>fN s.nx p.1),rfl,λj hj hn=>?_⟩,by show s.nx<=s.nx+64*ag.size;omega⟩;rw[NI];cases hx:lk e t with
 |none=>rfl
 |some x=>
  rcases h3 _ (rZ hx)with h|h;simp at h;exact(ht h).elim
 rcases xF j with ⟨q,y,g1,g2,g3⟩|⟨g1,_⟩;exact(hn (mem_map.2 ⟨(q,y),rZ g1,g2⟩)).elim;exact .inl g1;have hst:iW s [] []=s.st:=rfl;have hex:=h4 (HA tr) (amA Jx);rw[hst]at hex;intro w0 O0 β I a w hr ho;have done:∀(e':Exit)(a':Act)(w':World),(∃ β' I' σ1,Rel P w0 O0 N β' I' σ1 a' w'/\e'=.normal/\σ1=iW s e o)->∃ β' I' σ1,Rel P w0 O0 N β' I' σ1 a' w'/\ua σ1/\e'=.normal/\σ1=(fin s e o (64*ag.size)).st:=by
  rintro e' a' w' ⟨β',I',σ1,g1,rfl,rfl⟩;refine⟨_,I',(fin s e o (64*ag.size)).st,Rel.re (f:=fN s.nx) (g:=gN s.nx) (D:=λk=>k<s.nx\/(1000000<=k/\k<1000000+64*ag.size)) (λ k hk=>Z2 hle hk) (λ j hj=>by have:=hl.ge;unfold gN;rw[aX (by omega)]) g1 (λ t=>?_) (λ _=>rfl) (λ t=>.inr ?_) (λ j o' hj=>?_),?_,rfl,rfl⟩;show(match lk e t with|some .skip=>some false|_=>none)=none\/den (fy (fin s e o (64*ag.size)).env t)=.undef;rw[NI];cases ht:lk e t with
  |none=>exact .inl rfl
  |some d=>cases d<;>first|exact .inl rfl|exact .inr rfl
  show(∀ k∈refs (den (py e s.env t)),_)/\l4 (k5 (fN s.nx) (den (py e s.env t))) (den (fy (fin s e o (64*ag.size)).env t));rw[NI,jm,<- Aw];unfold py;cases ht:lk e t with
  |none=>
   refine⟨λ q hq=>.inl (hl.env t q hq),?_⟩;rw[WZ _ (λ q hq=>Q3 (by omega) (hl.env t q hq))];exact l4.refl _
  |some x=>exact⟨X1 t x ht,by simp[amy];exact l4.refl _⟩
  simp[d8.st]at hj;obtain⟨x,hx,rfl⟩:=hj;rcases xF j with ⟨q,y,i1,rfl,i3⟩|⟨i1,i2⟩;rw[i3,lK]at hx;obtain⟨z,rfl,rfl⟩:=hx;obtain⟨k1,k2⟩:=Ln _ (rZ i1);obtain⟨r1,r2⟩:=Ka (D:=λk=>k<s.nx\/(1000000<=k/\k<1000000+64*ag.size)) (fN s.nx) z (λ i hi=>k2 z rfl i hi);refine⟨q,bI z,?_,k1,rfl,r1,r2⟩;simp[iW,xt,i1];rw[i1]at hx;have⟨k1,k2⟩:=hl.obj j x hx;have hid:qn (fN s.nx) x=x:=by
   cases x with
   |eE c l|map kc vc l=>rfl
   |cells sz rows=>
    simp[qn];congr 1;have:∀q∈rows,L9 (fN s.nx) q=q:=λq hq=>ED q λi hi=>Q3 (by omega) (k2 i (by simp[ev];exact⟨_,⟨q,hq,rfl⟩,hi⟩));rw[map_congr_left this];simp
  obtain⟨r1,r2⟩:=Ka (D:=λk=>k<s.nx\/(1000000<=k/\k<1000000+64*ag.size)) (fN s.nx) x (λ i hi=>.inl (k2 i hi));rw[hid]at r1 r2;refine⟨j,bI x,?_,.inl k1,Q3 (by omega) k1,r1,r2⟩;simp[iW,xt];cases hlo:lk o j with
  |none=>simp[hx]
  |some y=>exact(i2 _ (rZ hlo) (Q3 (by omega) k1)).elim
  have hL:Low (fin s e o (64*ag.size)):=by
   constructor;exact hle;have:=hl.ge;show 1000<=s.nx+64*ag.size;omega;intro t j hj;rw[NI]at hj;cases ht:lk e t with
   |none=>rw[ht]at hj;have:=hl.env t j hj;show j<s.nx+64*ag.size;omega
   |some x=>
    rw[ht,aaQ,W9]at hj;obtain⟨q,hq,rfl⟩:=mem_map.1 hj;exact HJ hle (X1 t x ht q hq)
   intro j x hx;rcases xF j with ⟨q,y,g1,rfl,g3⟩|⟨g1,_⟩;rw[g3]at hx;rw[lK]at hx;obtain⟨z,rfl,rfl⟩:=hx;obtain⟨k1,k2⟩:=Ln _ (rZ g1);refine⟨HJ hle k1,λi hi=>?_⟩;rw[aex]at hi;obtain⟨i',hi',rfl⟩:=mem_map.1 hi;exact HJ hle (k2 z rfl i' hi');rw[g1]at hx;have⟨k1,k2⟩:=hl.obj j x hx;refine⟨show j<s.nx+64*ag.size by omega,λi hi=>?_⟩;have:=k2 i hi;show i<s.nx+64*ag.size;omega
  exact hL.old
 cases d with
 |false=>exact wp_mono (akk hT hd ho hex hr) done
 |true=>
  refine wp_mono (VZ hT hm hd ?_ ho hex hr) done;rw[<- aew (aqk Jx)];simpa using hlex
end
end Go.Gb
namespace Go.Gb
open Go.RowKit
structure Sh(ι:Type) where
 slots:List (Nat×Pt ι)
 cR:List (Nat×OP ι)
 keep:List Nat
 d5:List Nat
 nx:Nat
 BY:List (Nat×CT ι)
def Sh.vars{ι:Type}(s:Sh ι):List (CT ι):=jj s.slots++d6 s.cR
section
variable {X:SX}
def nz(z:Bool)(k:Nat):DV X:=bif z then .oz k 0 else .own k 0 0
def AM(z:Bool)(s:d8 X)(t:Nat)(c:CT X.ι):d8 X:=
 match fy s.env t with
 |.nil=>if s.nx<1000000 then⟨(t,nz z s.nx)::s.env,(s.nx,some (.eE c []))::s.obj,s.nx+1,s.nx::s.log⟩else s
 |_=>s
def Hx(s:d8 X)(q j:Nat)(c:CT X.ι):d8 X:=
 match iu s.obj q with
 |some (.cells sz [row])=>match row[j]? with
  |some .nil=>if s.nx<1000000 then⟨s.env,(q,some (.cells sz [row.set j (.own s.nx 0 0)]))::(s.nx,some (.eE c []))::s.obj,s.nx+1,q::s.nx::s.log⟩else s
  |_=>s
 |_=>s
def Qr:List (Nat×CT X.ι)->d8 X->d8 X
 |[],s=>s
 |(t,c)::r,s=>Qr r (bif Nat.ble 1000000 t then bif Nat.ble 1099511627776 t then AM true s (t-1099511627776) c else Hx s ((t-1000000)/4096) ((t-1000000)%4096) c else AM false s t c)
def isU:DV X->Bool
 |.undef|.skip=>true
 |_=>false
def encS(sh:Sh X.ι)(s0:d8 X)(v:VT (X:=X) sh.vars):d8 X:=
 let L:=wP sh.vars v
 let n:=(jj sh.slots).length
 let ol:=λk=>(lk (lens sh.cR (L.drop n)) k).getD 0
 ⟨L8 ol sh.slots (L.take n)++sh.keep.map (λ t=>(t,fy s0.env t)),cZ ol sh.cR (L.drop n)++sh.d5.map (λ k=>(k,iu s0.obj k)),sh.nx,
  (List.range s0.nx).filter (λ k=>!sh.d5.contains k)++s0.log⟩
def okS(sh:Sh X.ι)(ds:List Nat)(s0 s':d8 X)(m:MA X):Bool:=
 decide (m.nm.map (·.1)++sh.d5).Nodup&&decide (m.nm.map (·.2)++sh.d5).Nodup&&decide (sh.cR.map (·.1)).Nodup&&m.nm.all (λ q=>(sh.cR.map (·.1)).contains q.2&&decide (q.2<sh.nx)&&(decide (q.1=q.2) || decide (1000<=q.2)))&&
  sh.slots.all (λ p=>ds.contains p.1)&&sh.keep.all (λ t=>!ds.contains t&&!isU (fy s'.env t)&&(bz (fy s0.env t)).all λj=>sh.d5.contains j || m.nm.contains (j,j))&&
  sh.d5.all (λ k=>decide (k<s0.nx)&&!(s'.log.take (s'.log.length-s0.log.length)).contains k&&(iu s'.obj k).isSome&&match iu s0.obj k with|some o=>(ev o).all λj=>sh.d5.contains j || m.nm.contains (j,j)|none=>false)&&
  decide (s0.nx<=sh.nx)&&decide (sh.nx<=1000000)
def SP{A:Type}(sh:Sh X.ι)(ds:List Nat)(s0 s':d8 X)(k:VT (X:=X) sh.vars->Option A):Option A:=
 (Iq (iu s'.obj) (fy s'.env) sh.slots ⟨[],[],[]⟩).bind λm=>(Db (iu s'.obj) sh.cR m).bind λm=>bif okS sh ds s0 s' m then(F0 sh.vars m.fi).bind λv=>Wi m.kh (k v)else none
def uf{A:Type}(sh:Sh X.ι)(ds:List Nat)(s0 s':d8 X)(k:VT (X:=X) sh.vars->Option A):Option A:=
 bif sh.BY.all (λ p=>bif Nat.ble 1000000 p.1 then !Nat.ble 1099511627776 p.1 || ds.contains (p.1-1099511627776)else ds.contains p.1)then SP sh ds s0 (Qr sh.BY s') k else none
end
section
variable {X:SX}
theorem aaS{d:DV X}{c:CT X.ι}{x:CT.T X.toSE c}(h:LY d c=some x):bz d=[]:=by
 cases d
 case c=>rfl
 case nil=>rfl
 all_goals cases c<;>cases h
theorem Sn:∀{ds:List (DV X)}{l:List (CT X.ι)}{h:HL X.toSE l},Ew ds l=some h->aL ds=[]
 |[],[],_,_=>rfl
 |d::ds,c::l,h,hr=>by simp[Ew]at hr;have⟨x,h1,hr⟩:=ah.1 hr;have⟨g,h2,hr⟩:=ah.1 hr;simp[aL,aaS h1,Sn h2]
 |[],_::_,_,hr|_::_,[],_,hr=>by simp[Ew]at hr
theorem aoM{d:DV X}{c:CT X.ι}{x:CT.T X.toSE c}(h:dat d c=some x):l4 (den d) (den (.c c x:DV X))/\bz d=[]:=by
 cases c
 case st i=>
  replace h:F1 d i=some x:=h
  cases d
  case agg cs=>
   simp[F1]at h;have⟨g,h1,h⟩:=ah.1 h;cases h;refine⟨λ P β w I v hv=>?_,by simp[bz,Sn h1]⟩;have h2:=(y8 h1 (X.flat i)).1;simp[den]at hv;obtain⟨vs,rfl,hv⟩:=hv;show VR P β w I (.agg ((X.row i (X.make i g)).map AV.t)) _;have h3:(X.row i (X.make i g)).map AV.t=(bO cs).map Gb.wk:=(by rw[h2];exact congrArg _ (X.ii i g));rw[h3];simp only[VR];exact⟨vs,rfl,bk.wk _ _ hv⟩
  case c a y=>
   rw[(o6 h).1];exact⟨l4.refl _,rfl⟩
  all_goals cases h
 all_goals
  have h1:=wN h;refine⟨λ P β w I v hv=>?_,aaS h⟩;simp[den];rw[<- h1];exact hv.wk
def io(m m':MA X):Prop:=(∀ q∈m.nm,q∈m'.nm)/\(∀ c∈m.kh,c∈m'.kh)
theorem io.refl(m:MA X):io m m:=⟨λ _ h=>h,λ_ h=>h⟩
theorem io.trans{a b c:MA X}(h:io a b)(h':io b c):io a c:=⟨λ q hq=>h'.1 q (h.1 q hq),λq hq=>h'.2 q (h.2 q hq)⟩
theorem fI(m:MA X)(k' k:Nat):(addN m k' k).fi=m.fi/\(addN m k' k).kh=m.kh:=by grind [addN]
theorem oJ(m:MA X)(k' k:Nat):(k',k)∈(addN m k' k).nm:=by grind [addN]
theorem qj(m:MA X)(k' k:Nat):io m (addN m k' k):=by unfold addN;split;exact io.refl m;exact⟨λ q hq=>by simp[hq],λ_ h=>h⟩
variable {get:Nat->Option (bo X)}
mutual
theorem ajp:∀(p:Pt X.ι)(d:DV X)(m m':MA X),mP get p d m=some m'->io m m'/\∃am,m'.fi=m.fi++am/\am.length=p.vars.length
 |.v c,d,m,m',h=>by simp[mP]at h;rw[ah]at h;obtain⟨x,h1,h⟩:=h;cases h;exact⟨⟨λ _ h=>h,λ_ h=>h⟩,[⟨c,x⟩],rfl,rfl⟩
 |.o k,d,m,m',h=>by simp[mP]at h;split at h;rename_i k' len;have⟨o,h1,h⟩:=ah.1 h;split at h;cases h;refine⟨io.trans (b:=⟨m.nm,m.fi,m.kh++_⟩) ⟨λ _ h=>h,λ_ h=>by simp[h]⟩ (qj _ _ _),[],by rw[(fI _ _ _).1];simp,rfl⟩;cases h;cases h
 |.oz k,d,m,m',h=>by simp[mP]at h;split at h;have⟨o,h1,h⟩:=ah.1 h;split at h;cases h;refine⟨io.trans (b:=⟨m.nm,m.fi,m.kh++_⟩) ⟨λ _ h=>h,λ_ h=>by simp[h]⟩ (qj _ _ _),[],by rw[(fI _ _ _).1];simp,rfl⟩;cases h;have⟨o,h1,h⟩:=ah.1 h;split at h;cases h;refine⟨io.trans (b:=⟨m.nm,m.fi,m.kh++_⟩) ⟨λ _ h=>h,λ_ h=>by simp[h]⟩ (qj _ _ _),[],by rw[(fI _ _ _).1];simp,rfl⟩;cases h;cases h
 |.p k,d,m,m',h=>by simp[mP]at h;split at h;cases h;exact⟨qj _ _ _,[],by rw[(fI _ _ _).1];simp,rfl⟩;cases h
 |.mp k,d,m,m',h=>by simp[mP]at h;split at h;cases h;exact⟨qj _ _ _,[],by rw[(fI _ _ _).1];simp,rfl⟩;cases h
 |.nil,d,m,m',h=>by simp[mP]at h;split at h;cases h;exact⟨io.refl _,[],by simp,rfl⟩;cases h
 |.f F fs cs,d,m,m',h=>by simp[mP]at h;split at h;split at h;rw[ah]at h;obtain⟨m1,h1,h⟩:=h;obtain⟨a1,n1,b1,c1⟩:=zh fs _ m m1 h1;obtain⟨a2,n2,b2,c2⟩:=zh cs _ m1 m' h;exact⟨a1.trans a2,n1++n2,by rw[b2,b1,aM],by simp[Pt.vars,c1,c2]⟩;cases h;cases h
 |.od k,d,m,m',h=>by simp[mP]at h;split at h;rename_i k' aa len;have⟨o,h1,h⟩:=ah.1 h;split at h;cases h;refine⟨io.trans (b:=⟨m.nm,m.fi++[⟨.int .i64,(aa:Int)⟩],m.kh++_⟩) ⟨λ _ h=>h,λ_ h=>by simp[h]⟩ (qj _ _ _),[⟨.int .i64,(aa:Int)⟩],by rw[(fI _ _ _).1],rfl⟩;cases h;cases h
 |.a ps,d,m,m',h=>by simp[mP]at h;split at h;exact zh ps _ m m' h;cases h
theorem zh:∀(ps:List (Pt X.ι))(ds:List (DV X))(m m':MA X),tI get ps ds m=some m'->io m m'/\∃am,m'.fi=m.fi++am/\am.length=(cX ps).length
 |[],[],m,m',h=>by simp[tI]at h;subst h;exact⟨io.refl _,[],by simp,rfl⟩
 |p::ps,d::ds,m,m',h=>by simp[tI]at h;have⟨m1,h1,h⟩:=ah.1 h;have⟨a1,n1,b1,c1⟩:=ajp p d m m1 h1;have⟨a2,n2,b2,c2⟩:=zh ps ds m1 m' h;exact⟨a1.trans a2,n1++n2,by rw[b2,b1,aM],by simp[cX,c1,c2]⟩
 |[],_::_,m,m',h|_::_,[],m,m',h=>by simp[tI]at h
end
theorem zi:∀(rs:List (List (Pt X.ι)))(qs:List (List (DV X)))(m m':MA X),Lr get rs qs m=some m'->io m m'/\∃am,m'.fi=m.fi++am/\am.length=(wO rs).length
 |[],[],m,m',h=>by simp[Lr]at h;subst h;exact⟨io.refl _,[],by simp,rfl⟩
 |r::rs,q::qs,m,m',h=>by simp[Lr]at h;have⟨m1,h1,h⟩:=ah.1 h;have⟨a1,n1,b1,c1⟩:=zh r q m m1 h1;have⟨a2,n2,b2,c2⟩:=zi rs qs m1 m' h;exact⟨a1.trans a2,n1++n2,by rw[b2,b1,aM],by simp[wO,c1,c2]⟩
 |[],_::_,m,m',h|_::_,[],m,m',h=>by simp[Lr]at h
section
variable {NM:List (Nat×Nat)} {f:Nat->Nat} {eh:Nat->Nat}
def DN(NM:List (Nat×Nat))(j:Nat):Prop:=∃k,(j,k)∈NM
def SN(NM:List (Nat×Nat))(j:Nat):Prop:=∃k,(k,j)∈NM
theorem NJ{D:Nat->Prop}{f:Nat->Nat}{P:Program}{β:Nat->Option cV}{w:World}{I:Nat->Prop}:∀{a b:List AV}(_:np D f a b)(u:List Value),bk P β w I (Br f a) u->bk P β w I b u
 |[],[],_,u,hu=>hu
 |[],_::_,hr,_,_|_::_,[],hr,_,_=>hr.elim
 |y::ys,z::zs,hr,[],hu=>by simp[Br,bk]at hu
 |y::ys,z::zs,hr,v::vs,hu=>by exact⟨hr.1.2 _ _ _ _ _ hu.1,NJ hr.2 vs hu.2⟩
mutual
theorem aez(hf:∀q∈NM,f q.1=q.2)(ho:∀q∈NM,∀c l,get q.1=some (.eE c l)->eh q.2=l.length):∀(p:Pt X.ι)(d:DV X)(m m':MA X),mP get p d m=some m'->(∀ q∈m'.nm,q∈NM)->(∀ c∈m'.kh,c=true)->
 ∃am,m'.fi=m.fi++am/\∃d',(∀ ae,eP eh p (am++ae)=(d',ae))/\l4 (k5 f (den d)) (den d')/\(∀ j∈bz d,DN NM j)/\(∀ j∈bz d',SN NM j)
 |.v c,d,m,m',h,_,_=>by simp[mP]at h;rw[ah]at h;obtain⟨x,h1,h⟩:=h;cases h;have⟨h2,h3⟩:=aoM h1;refine⟨[⟨c,x⟩],rfl,.c c x,λae=>rfl,?_,by simp[h3],by simp[bz]⟩;rw[<- Aw,WZ d (by simp[h3])];exact h2
 |.o k,d,m,m',h,hn,hc=>by
  simp[mP]at h;split at h;rename_i k' len;rw[ah]at h;obtain⟨o,h1,h⟩:=h;split at h;rename_i c l;cases h;have hq:(k',k)∈NM:=hn _ (oJ _ _ _);have he:len=l.length:=by have:=hc (aE len l.length) (by rw[(fI _ _ _).2];simp);simpa[aE]using this
  refine⟨[],by rw[(fI _ _ _).1];simp,.own k 0 (eh k),λae=>rfl,?_,?_,?_⟩;simp[den,k5];rw[hf _ hq,ho _ hq c l h1,he];exact l4.refl _;intro j hj;simp[bz]at hj;subst hj;exact⟨k,hq⟩;intro j hj;simp[bz]at hj;subst hj;exact⟨k',hq⟩;cases h;cases h
 |.oz k,d,m,m',h,hn,hc=>by
  simp[mP]at h;split at h;rename_i k' len;rw[ah]at h;obtain⟨o,h1,h⟩:=h;split at h;rename_i c l;cases h;have hq:(k',k)∈NM:=hn _ (oJ _ _ _);have he:len≠0/\len=l.length:=by have:=hc (!(len==0)&&aE len l.length) (by rw[(fI _ _ _).2];simp);simpa[aE]using this
  refine⟨[],by rw[(fI _ _ _).1];simp,.oz k (eh k),λae=>rfl,?_,λj hj=>?_,λj hj=>?_⟩;simp[den,k5];rw[hf _ hq,ho _ hq c l h1,<- he.2];intro P β w I v hv;simp only[VR]at hv ⊢;exact .inr ⟨he.1,hv.resolve_left λh=>he.1 h.2.2.2⟩;simp[bz]at hj;subst hj;exact⟨k,hq⟩;simp[bz]at hj;subst hj;exact⟨k',hq⟩;cases h;rename_i k' len;rw[ah]at h;obtain⟨o,h1,h⟩:=h;split at h;rename_i c l;cases h;have hq:(k',k)∈NM:=hn _ (oJ _ _ _);have he:len=l.length:=by have:=hc (aE len l.length) (by rw[(fI _ _ _).2];simp);simpa[aE]using this
  refine⟨[],by rw[(fI _ _ _).1];simp,.oz k (eh k),λae=>rfl,?_,λj hj=>?_,λj hj=>?_⟩;simp[den,k5];rw[hf _ hq,ho _ hq c l h1,he];exact l4.refl _;simp[bz,bD]at hj;subst hj;exact⟨k,hq⟩;simp[bz,bD]at hj;subst hj;exact⟨k',hq⟩;cases h;cases h
 |.p k,d,m,m',h,hn,hc=>by simp[mP]at h;split at h;rename_i k';cases h;have hq:(k',k)∈NM:=hn _ (oJ _ _ _);refine⟨[],by rw[(fI _ _ _).1];simp,.ptr k 0 0,λae=>rfl,?_,?_,?_⟩;simp[den,k5];rw[hf _ hq];exact l4.refl _;intro j hj;simp[bz,bD]at hj;subst hj;exact⟨k,hq⟩;intro j hj;simp[bz,bD]at hj;subst hj;exact⟨k',hq⟩;cases h
 |.mp k,d,m,m',h,hn,hc=>by simp[mP]at h;split at h;rename_i k';cases h;have hq:(k',k)∈NM:=hn _ (oJ _ _ _);refine⟨[],by rw[(fI _ _ _).1];simp,.mp k,λae=>rfl,?_,?_,?_⟩;simp[den,k5];rw[hf _ hq];exact l4.refl _;intro j hj;simp[bz,bD]at hj;subst hj;exact⟨k,hq⟩;intro j hj;simp[bz,bD]at hj;subst hj;exact⟨k',hq⟩;cases h
 |.nil,d,m,m',h,_,_=>by simp[mP]at h;split at h;cases h;exact⟨[],by simp,.nil,λae=>rfl,l4.refl _,by simp[bz],by simp[bz]⟩;cases h
 |.f F fs cs,d,m,m',h,hn,hc=>by
  simp[mP]at h;split at h;rename_i F' first caps
  split at h;rename_i e;subst e;rw[ah]at h;obtain⟨m1,h1,h⟩:=h;have hm:=(zh cs _ m1 m' h).1;obtain⟨n1,a1,f',b1,c1,e1,g1⟩:=Dj hf ho fs _ m m1 h1 (λ q hq=>hn q (hm.1 q hq)) (λ q hq=>hc q (hm.2 q hq));obtain⟨n2,a2,c',b2,c2,e2,g2⟩:=Dj hf ho cs _ m1 m' h hn hc;refine⟨n1++n2,by rw[a2,a1,aM],.fn F f' c',λae=>by simp[eP,aM,b1,b2],?_,?_,?_⟩;intro P β w I v hv;simp[den,k5,VR]at hv ⊢;obtain⟨us,vs,rfl,hu,hv⟩:=hv;exact⟨us,vs,rfl,NJ c1 _ hu,NJ c2 _ hv⟩;intro j hj;simp[bz,bV]at hj;exact hj.elim (e1 j) (e2 j);intro j hj;simp[bz,bV]at hj;exact hj.elim (g1 j) (g2 j);cases h;cases h
 |.od k,d,m,m',h,hn,hc=>by
  simp[mP]at h;split at h;rename_i k' aa len;rw[ah]at h;obtain⟨o,h1,h⟩:=h;split at h;rename_i c l;cases h;have hq:(k',k)∈NM:=hn _ (oJ _ _ _);have he:aa+len=l.length:=by have:=hc (aE (aa+len) l.length) (by rw[(fI _ _ _).2];simp);simpa[aE]using this
  refine⟨[⟨.int .i64,(aa:Int)⟩],by rw[(fI _ _ _).1],.own k aa (eh k-aa),λae=>?_,?_,?_,?_⟩;simp only[eP,List.cons_append,gu];have:HM (X:=X) ⟨.int .i64,(aa:Int)⟩=aa:=by simp[HM];rw[Wv];simp
  rw[this];simp[den,k5];rw[hf _ hq,ho _ hq c l h1,show l.length-aa=len by omega];exact l4.refl _;intro j hj;simp[bz,bD]at hj;subst hj;exact⟨k,hq⟩;intro j hj;simp[bz,bD]at hj;subst hj;exact⟨k',hq⟩;cases h;cases h
 |.a ps,d,m,m',h,hn,hc=>by simp[mP]at h;split at h;rename_i ds;have⟨am,h1,ds',h2,h3,h4,h5⟩:=Dj hf ho ps ds m m' h hn hc;refine⟨am,h1,.agg ds',λae=>by simp[eP,h2],?_,by simpa[bz]using h4,by simpa[bz]using h5⟩;intro P β w I v hv;simp[den,k5,VR]at hv ⊢;obtain⟨vs,rfl,hv⟩:=hv;refine⟨vs,rfl,?_⟩;exact NJ h3 _ hv;cases h
theorem Dj(hf:∀q∈NM,f q.1=q.2)(ho:∀q∈NM,∀c l,get q.1=some (.eE c l)->eh q.2=l.length):∀(ps:List (Pt X.ι))(ds:List (DV X))(m m':MA X),tI get ps ds m=some m'->(∀ q∈m'.nm,q∈NM)->(∀ c∈m'.kh,c=true)->
 ∃am,m'.fi=m.fi++am/\∃ds',(∀ ae,lR eh ps (am++ae)=(ds',ae))/\np (DN NM) f (bO ds) (bO ds')/\(∀ j∈aL ds,DN NM j)/\(∀ j∈aL ds',SN NM j)
 |[],[],m,m',h,_,_=>by simp[tI,aZ]at h;subst h;exact⟨[],by simp,[],λae=>rfl,trivial,by simp[aL],by simp[aL]⟩
 |p::ps,d::ds,m,m',h,hn,hc=>by simp[tI]at h;have⟨m1,h1,h⟩:=ah.1 h;have hm:=(zh ps ds m1 m' h).1;obtain⟨n1,a1,d',b1,c1,e1,g1⟩:=aez hf ho p d m m1 h1 (λ q hq=>hn q (hm.1 q hq)) (λ q hq=>hc q (hm.2 q hq));have⟨n2,a2,ds',b2,c2,e2,g2⟩:=Dj hf ho ps ds m1 m' h hn hc;refine⟨n1++n2,by rw[a2,a1,aM],d'::ds',λae=>?_,⟨⟨λ k hk=>e1 k (by rwa [jm]at hk),c1⟩,c2⟩,?_,?_⟩;simp[lR,aM,b1,b2];intro j hj;simp[aL,bV]at hj;exact hj.elim (e1 j) (e2 j);intro j hj;simp[aL,bV]at hj;exact hj.elim (g1 j) (g2 j)
 |[],_::_,m,m',h,_,_=>by simp[tI]at h
 |_::_,[],m,m',h,_,_=>by simp[tI]at h
end
theorem Sq(hf:∀q∈NM,f q.1=q.2)(ho:∀q∈NM,∀c l,get q.1=some (.eE c l)->eh q.2=l.length):∀(rs:List (List (Pt X.ι)))(qs:List (List (DV X)))(m m':MA X),Lr get rs qs m=some m'->(∀ q∈m'.nm,q∈NM)->(∀ c∈m'.kh,c=true)->
 ∃am,m'.fi=m.fi++am/\∃GW,(∀ ae,wQ eh rs (am++ae)=(GW,ae))/\ju (DN NM) f (qs.map bO) (GW.map bO)/\(∀ j∈(qs.map aL).flatten,DN NM j)/\(∀ j∈(GW.map aL).flatten,SN NM j)
 |[],[],m,m',h,_,_=>by simp[Lr]at h;subst h;exact⟨[],by simp,[],λae=>rfl,trivial,by simp,by simp⟩
 |r::rs,q::qs,m,m',h,hn,hc=>by
  simp[Lr]at h;have⟨m1,h1,h⟩:=ah.1 h;have hm:=(zi rs qs m1 m' h).1;obtain⟨n1,a1,d',b1,c1,e1,g1⟩:=Dj hf ho r q m m1 h1 (λ q hq=>hn q (hm.1 q hq)) (λ q hq=>hc q (hm.2 q hq));have⟨n2,a2,ds',b2,c2,e2,g2⟩:=Sq hf ho rs qs m1 m' h hn hc;refine⟨n1++n2,by rw[a2,a1,aM],d'::ds',λae=>?_,⟨c1,c2⟩,?_,?_⟩;simp[wQ]
  all_goals grind
 |[],_::_,m,m',h,_,_|_::_,[],m,m',h,_,_=>by simp[Lr]at h
end
end
section
variable {X:SX} {get:Nat->Option (bo X)} {env:Nat->DV X}
theorem Iy:∀(sl:List (Nat×Pt X.ι))(m m':MA X),Iq get env sl m=some m'->io m m'/\∃am,m'.fi=m.fi++am/\am.length=(jj sl).length
 |[],m,m',h=>by simp[Iq]at h;subst h;exact⟨io.refl _,[],by simp,rfl⟩
 |(t,p)::r,m,m',h=>by simp[Iq]at h;rw[ah]at h;obtain⟨m1,h1,h⟩:=h;obtain⟨a1,n1,b1,c1⟩:=ajp p _ m m1 h1;have⟨a2,n2,b2,c2⟩:=Iy r m1 m' h;exact⟨a1.trans a2,n1++n2,by rw[b2,b1,aM],by simp[jj,c1,c2]⟩
theorem mJ:∀(os:List (Nat×OP X.ι))(m m':MA X),Db get os m=some m'->io m m'/\∃am,m'.fi=m.fi++am/\am.length=(d6 os).length
 |[],m,m',h=>by simp[Db]at h;subst h;exact⟨io.refl _,[],by simp,rfl⟩
 |(k,op)::r,m,m',h=>by simp[Db]at h;rw[ah]at h;obtain⟨o,h1,h⟩:=h;split at h;rename_i c c' l;rw[ah]at h;obtain⟨l',h2,h⟩:=h;obtain⟨a2,n2,b2,c2⟩:=mJ r _ m' h;refine⟨io.trans (io.trans (b:=⟨m.nm,m.fi++[⟨.sl c,l'⟩],m.kh⟩) ⟨λ _ h=>h,λ_ h=>h⟩ (qj _ _ _)) a2,[⟨.sl c,l'⟩]++n2,?_,by simp[d6,c2]⟩;rw[b2,(fI _ _ _).1,aM];rename_i kc vc ur uc l;rw[ah]at h;obtain⟨l',h2,h⟩:=h;obtain⟨a2,n2,b2,c2⟩:=mJ r _ m' h;refine⟨io.trans (io.trans (b:=⟨m.nm,m.fi++[⟨.mp kc vc,l'⟩],m.kh⟩) ⟨λ _ h=>h,λ_ h=>h⟩ (qj _ _ _)) a2,[⟨.mp kc vc,l'⟩]++n2,?_,by simp[d6,c2]⟩;rw[b2,(fI _ _ _).1,aM];rename_i sz rows sz' rows';split at h;rw[ah]at h;obtain⟨m1,h2,h⟩:=h;obtain⟨a1,n1,b1,c1⟩:=zi rows _ _ m1 h2;have⟨a2,n2,b2,c2⟩:=mJ r m1 m' h;refine⟨((qj m _ _).trans a1).trans a2,n1++n2,?_,by simp[d6,c1,c2]⟩;rw[b2,b1,(fI _ _ _).1,aM];cases h;cases h
variable {NM:List (Nat×Nat)} {f:Nat->Nat} {eh:Nat->Nat}
theorem EF:∀(os:List (Nat×OP X.ι))(m m':MA X),Db get os m=some m'->(∀ q∈m'.nm,q∈NM)->∃am,m'.fi=m.fi++am/\∀ae,∀k∈os.map (·.1),∃k' o,(k',k)∈NM/\get k'=some o/\∀c l,o=.eE c l->(k,List.length l)∈lens os (am++ae)
 |[],m,m',h,_=>by simp[Db]at h;subst h;exact⟨[],by simp,λae k hk=>by simp at hk⟩
 |(k,op)::r,m,m',h,hn=>by
  simp[Db]at h;rw[ah]at h;obtain⟨o,h1,h⟩:=h;split at h;rename_i c c' l;rw[ah]at h;obtain⟨l',h2,h⟩:=h;have hm:=(mJ r _ m' h).1;obtain⟨n2,b2,c2⟩:=EF r _ m' h hn;refine⟨[⟨.sl c,l'⟩]++n2,by rw[b2,(fI _ _ _).1,aM],λae j hj=>?_⟩;simp only[bE,aR]at hj;by_cases hjk:j=k;subst hjk;refine⟨_,_,hn _ (hm.1 _ (oJ _ _ _)),h1,λc2 l2 he=>?_⟩;injection he with e1 e2;subst e1;subst e2;have:=congrArg List.length (jH h2).2;simp at this;rw[this];exact List.mem_cons_self;rcases hj with rfl|hj;exact(hjk rfl).elim;have⟨k',o',g1,g2,g3⟩:=c2 ae j hj;exact⟨k',o',g1,g2,λc l he=>eY _ (g3 c l he)⟩;rename_i kc vc ur uc l;rw[ah]at h;obtain⟨l',h2,h⟩:=h;have hm:=(mJ r _ m' h).1;obtain⟨n2,b2,c2⟩:=EF r _ m' h hn;refine⟨[⟨.mp kc vc,l'⟩]++n2,by rw[b2,(fI _ _ _).1,aM],λae j hj=>?_⟩;simp only[bE,aR]at hj;by_cases hjk:j=k;subst hjk;exact⟨_,_,hn _ (hm.1 _ (oJ _ _ _)),h1,λc2 l2 he=>by cases he⟩;rcases hj with rfl|hj;exact(hjk rfl).elim;exact c2 ae j hj;rename_i sz rows sz' rows';split at h;have⟨m1,h2,h⟩:=ah.1 h;obtain⟨a1,n1,b1,c1⟩:=zi rows _ _ m1 h2;have hm:=(mJ r _ m' h).1;obtain⟨n2,b2,c2⟩:=EF r _ m' h hn;refine⟨n1++n2,by rw[b2,b1,(fI _ _ _).1,aM],λae j hj=>?_⟩;simp only[bE,aR]at hj;have hd:(n1++n2++ae).drop (wO rows).length=n2++ae:=by rw[<- c1,aM,List.drop_left]
  simp only[lens,hd];by_cases hjk:j=k;subst hjk;exact⟨_,_,hn _ (hm.1 _ (a1.1 _ (oJ _ _ _))),h1,λc2 l2 he=>by cases he⟩;rcases hj with rfl|hj;exact(hjk rfl).elim;exact c2 ae j hj;cases h;cases h
theorem Qs:∀(os:List (Nat×OP X.ι))(L:List (DC X)),((lens os L).map (·.1)).Sublist (os.map (·.1))
 |[],_=>by simp[lens]
 |(k,.l c)::r,L=>by simp[lens];split;exact(Qs r _).cons_cons _;exact List.nil_sublist _
 |(k,.m kc vc)::r,L|(k,.c sz rows)::r,L=>(Qs r _).cons _
theorem NK(hf:∀q∈NM,f q.1=q.2)(ho:∀q∈NM,∀c l,get q.1=some (.eE c l)->eh q.2=l.length):∀(sl:List (Nat×Pt X.ι))(m m':MA X),Iq get env sl m=some m'->(∀ q∈m'.nm,q∈NM)->(∀ c∈m'.kh,c=true)->
 ∃am,m'.fi=m.fi++am/\∃es,(∀ ae,L8 eh sl (am++ae)=es)/\(∀ p∈es,p.1∈sl.map (·.1)/\l4 (k5 f (den (env p.1))) (den p.2)/\(∀ j∈bz (env p.1),DN NM j)/\(∀ j∈bz p.2,SN NM j))
 |[],m,m',h,_,_=>by simp[Iq]at h;subst h;exact⟨[],by simp,[],λae=>rfl,by simp⟩
 |(t,p)::r,m,m',h,hn,hc=>by
  simp[Iq]at h;have⟨m1,h1,h⟩:=ah.1 h;have hm:=(Iy r m1 m' h).1;obtain⟨n1,a1,d',b1,c1,e1,g1⟩:=aez hf ho p _ m m1 h1 (λ q hq=>hn q (hm.1 q hq)) (λ q hq=>hc q (hm.2 q hq));have⟨n2,a2,es,b2,c2⟩:=NK hf ho r m1 m' h hn hc;refine⟨n1++n2,by rw[a2,a1,aM],(t,d')::es,λae=>by simp[L8,b1,b2],λq hq=>?_⟩
  all_goals grind
theorem aaT{D:Nat->Prop}(f:Nat->Nat):∀rows:List (List Tree),ju D f (aI rows) (aI rows)
 |[]=>trivial
 |r::rs=>by
  refine⟨?_,aaT f rs⟩
  induction r with
  |nil=>trivial
  |cons y ys ih=>exact⟨⟨by simp[refs],l4.refl _⟩,ih⟩
theorem aaU{a b c d:CT X.ι}{l:List (CT.T X.toSE a×CT.T X.toSE b)}{l':List (CT.T X.toSE c×CT.T X.toSE d)}(h:lD (.mp a b) (.mp c d) l=some l'):bI (.map c d l':bo X)=bI (.map a b l):=by
 obtain⟨e,h⟩:=sj h
 grind
theorem aaV{D:Nat->Prop}(f:Nat->Nat){kc vc:CT X.ι}:∀l:List (CT.T X.toSE kc×CT.T X.toSE vc),ju D f (bI (.map kc vc l:bo X)).rows (bI (.map kc vc l:bo X)).rows
 |[]=>trivial
 |p::ps=>⟨⟨⟨by simp[Au],by rw[WK];exact l4.refl _⟩,⟨by simp[Au],by rw[WK];exact l4.refl _⟩,trivial⟩,aaV f ps⟩
theorem Az(hf:∀q∈NM,f q.1=q.2)(ho:∀q∈NM,∀c l,get q.1=some (.eE c l)->eh q.2=l.length):∀(os:List (Nat×OP X.ι))(m m':MA X),Db get os m=some m'->(∀ q∈m'.nm,q∈NM)->(∀ c∈m'.kh,c=true)->
 ∃am,m'.fi=m.fi++am/\∃xs,(∀ ae,cZ eh os (am++ae)=xs)/\(∀ p∈xs,p.1∈os.map (·.1)/\∃k' o o',p.2=some o'/\(k',p.1)∈NM/\get k'=some o/\(bI o').sz=(bI o).sz/\ju (DN NM) f (bI o).rows (bI o').rows/\(∀ j∈ev o',SN NM j))
 |[],m,m',h,_,_=>by simp[Db]at h;subst h;exact⟨[],by simp,[],λae=>rfl,by simp⟩
 |(k,op)::r,m,m',h,hn,hc=>by simp[Db]at h;rw[ah]at h;obtain⟨o,h1,h⟩:=h;split at h;rename_i c c' l;rw[ah]at h;obtain⟨l',h2,h⟩:=h;have hm:=(mJ r _ m' h).1;obtain⟨n2,a2,xs,b2,c2⟩:=Az hf ho r _ m' h hn hc;refine⟨[⟨.sl c,l'⟩]++n2,by rw[a2,(fI _ _ _).1,aM],(k,some (.eE c l'))::xs,λae=>by simp[cZ,b2],λq hq=>?_⟩;rcases aR.1 hq with rfl|hq;refine⟨by simp,_,_,_,rfl,hn _ (hm.1 _ (oJ _ _ _)),h1,?_,?_,by simp[ev]⟩;simp[bI,(jH h2).1];simp[bI,(jH h2).2];exact aaT f _;have⟨i1,i2⟩:=c2 q hq;exact⟨by simp only[bE,aR];exact .inr i1,i2⟩;rename_i kc vc ur uc l;rw[ah]at h;obtain⟨l',h2,h⟩:=h;have hm:=(mJ r _ m' h).1;obtain⟨n2,a2,xs,b2,c2⟩:=Az hf ho r _ m' h hn hc;refine⟨[⟨.mp kc vc,l'⟩]++n2,by rw[a2,(fI _ _ _).1,aM],(k,some (.map kc vc l'))::xs,λae=>by simp[cZ,b2],λq hq=>?_⟩;rcases aR.1 hq with rfl|hq;refine⟨by simp,_,_,_,rfl,hn _ (hm.1 _ (oJ _ _ _)),h1,?_,?_,by simp[ev]⟩;rw[aaU h2];rw[aaU h2];exact aaV f _;have⟨i1,i2⟩:=c2 q hq;exact⟨by simp only[bE,aR];exact .inr i1,i2⟩;rename_i sz rows sz' rows';split at h;rename_i hsz;have⟨m1,h2,h⟩:=ah.1 h;have hm1:=(zi rows _ _ m1 h2).1;have hm:=(mJ r _ m' h).1;obtain⟨n1,a1,qs,b1,c1,e1,g1⟩:=Sq hf ho rows _ _ m1 h2 (λ q hq=>hn q (hm.1 q hq)) (λ q hq=>hc q (hm.2 q hq));obtain⟨n2,a2,xs,b2,c2⟩:=Az hf ho r _ m' h hn hc;refine⟨n1++n2,by rw[a2,a1,(fI _ _ _).1,aM],(k,some (.cells sz qs))::xs,λae=>by simp[cZ,b1,b2],λq hq=>?_⟩;rcases aR.1 hq with rfl|hq;exact⟨by simp,_,_,_,rfl,hn _ (hm.1 _ (hm1.1 _ (oJ _ _ _))),h1,hsz,c1,g1⟩;have⟨i1,i2⟩:=c2 q hq;exact⟨by simp only[bE,aR];exact .inr i1,i2⟩;cases h;cases h
theorem akK{d:DV X}(h:isU d=false)(h':d=.undef):False:=by subst h';cases h
theorem acn{A:Type}{sh:Sh X.ι}{ds:List Nat}{s0 s':d8 X}{k:VT (X:=X) sh.vars->Option A}{r:A}(hl0:Low s0)(hx:Ext (· ∈ds) s0 s')(h:SP sh ds s0 s' k=some r):
 ∃v,k v=some r/\Low (encS sh s0 v)/\Ext (· ∈ds) s0 (encS sh s0 v)/\∀(P:Program) (w0:World) (O0:lh) (N:Nat) (β:Nat->Option cV) (I:Nat->Prop) (a:Act) (w:World),Rel P w0 O0 N β I s'.st a w->∃ β',Rel P w0 O0 N β' I (encS sh s0 v).st a w:=by
 unfold SP at h;have⟨m1,h1,h⟩:=ah.1 h;have⟨m,h2,h⟩:=ah.1 h;have⟨h3,h⟩:=eD h;have⟨v,h4,h⟩:=ah.1 h;have⟨h5,h6⟩:=qi h;simp only[okS,bK,bT]at h3;obtain⟨⟨⟨⟨⟨⟨⟨⟨n1,n2⟩,n3⟩,n4⟩,n5⟩,n6⟩,n7⟩,n8⟩,n9⟩:=h3;have hm2:=(mJ _ _ _ h2).1;have wi:=Wu h4;obtain⟨_,nA,dA,lA⟩:=Iy _ _ _ h1;simp at dA;have V0:=(List.nodup_append.1 n1).1;have VV:=(List.nodup_append.1 n2).1;have hsw:((m.nm.map λq=>(q.2,q.1)).map (·.1)).Nodup:=by rw[map_map];exact VV
 generalize hf':(λ j=>match lk m.nm j with|some q=>q|none=>j:Nat->Nat)=f;generalize hg':(λ j=>match lk (m.nm.map λq=>(q.2,q.1)) j with|some q=>q|none=>j:Nat->Nat)=g;have hf:∀q∈m.nm,f q.1=q.2:=by rintro⟨p,q⟩ hq;rw[<- hf'];simp[vE V0 hq]
 have hg:∀q∈m.nm,g q.2=q.1:=by rintro⟨p,q⟩ hq;rw[<- hg'];have:(q,p)∈m.nm.map λq=>(q.2,q.1):=mem_map.2 ⟨(p,q),hq,rfl⟩;simp[vE hsw this]
 have oe:∀j∈sh.d5,f j=j:=by
  intro j hj;rw[<- hf'];cases hh:lk m.nm j with
  |none=>simp[hh]
  |some q=>exact((List.nodup_append.1 n1).2.2 j (mem_map.2 ⟨(j,q),rZ hh,rfl⟩) j hj rfl).elim
 have J0:∀j∈sh.d5,g j=j:=by
  intro j hj;rw[<- hg'];cases hh:lk (m.nm.map λq=>(q.2,q.1)) j with
  |none=>simp[hh]
  |some q=>
   have h1:=rZ hh;simp only[mem_map]at h1;obtain⟨z,hz,e⟩:=h1;injection e with e1 e2;exact((List.nodup_append.1 n2).2.2 j (mem_map.2 ⟨z,hz,e1⟩) j hj rfl).elim
 have hg0:∀j,j<1000->g j=j:=by
  intro j hj;rw[<- hg'];cases hh:lk (m.nm.map λq=>(q.2,q.1)) j with
  |none=>simp[hh]
  |some q=>
   have h1:=rZ hh;simp only[mem_map]at h1;obtain⟨z,hz,e⟩:=h1;injection e with e1 e2;have:=all_eq_true.1 n4 z hz;simp at this;simp[hh];omega
 have hgf:∀j,(DN m.nm j\/j∈sh.d5)->g (f j)=j:=by rintro j (⟨q,hq⟩|hj);rw[hf _ hq];exact hg _ hq;rw[oe j hj];exact J0 j hj
 obtain⟨nB,dB,lB⟩:=EF (NM:=m.nm) _ _ _ h2 (λ q hq=>hq);have hL:m.fi=nA++nB:=by rw[dB,dA]
 have hdrop:(wP sh.vars v).drop (jj sh.slots).length=nB:=by rw[wi,hL,<- lA,List.drop_left]
 have htake:(wP sh.vars v).take (jj sh.slots).length=nA:=by rw[wi,hL,<- lA,List.take_left]
 generalize hol:(λ k=>(lk (lens sh.cR nB) k).getD 0:Nat->Nat)=eh;have ho:∀q∈m.nm,∀c l,iu s'.obj q.1=some (.eE c l)->eh q.2=l.length:=by
  rintro⟨p,q⟩ hq c l hl;have hqk:=all_eq_true.1 n4 _ hq;simp at hqk;obtain⟨p',o,g1,g2,g3⟩:=lB [] q (by simpa using hqk.1.1);have:p'=p:=by have e1:=hg _ g1;have e2:=hg _ hq;simp at e1 e2;rw[<- e1,e2]
  subst this;simp at hl;rw[hl]at g2;injection g2 with g2;have h3:=g3 c l g2.symm;rw[append_nil]at h3;rw[<- hol];have hk:=(Qs sh.cR nB).nodup n3;simp[vE hk h3]
 obtain⟨TZ,L7,es,eA,pA⟩:=NK (NM:=m.nm) (f:=f) (eh:=eh) hf ho _ _ _ h1 (λ q hq=>hm2.1 q hq) (λ c hc=>h5 c (hm2.2 c hc));obtain⟨nB',dB',xs,eB,pB⟩:=Az (NM:=m.nm) (f:=f) (eh:=eh) hf ho _ _ _ h2 (λ q hq=>hq) h5;have eqA:TZ=nA:=by simp at L7;rw[<- L7,dA]
 have eqB:=List.append_cancel_left (dB'.symm.trans dB);subst eqA eqB;have L4:=eA [];have L3:=eB [];rw[append_nil]at L4 L3;have hS:encS sh s0 v=⟨es++sh.keep.map (λ t=>(t,fy s0.env t)),xs++sh.d5.map (λ k=>(k,iu s0.obj k)),sh.nx,(List.range s0.nx).filter (λ k=>!sh.d5.contains k)++s0.log⟩:=by simp[encS,hdrop,htake,hol,L4,L3]
 have hsn:∀j,SN m.nm j->j<sh.nx:=by rintro j ⟨p,hp⟩;have:=all_eq_true.1 n4 _ hp;simp[bK,bT]at this;exact this.1.2
 have kp:∀j,(sh.d5.contains j || m.nm.contains (j,j))=true->j∈sh.d5\/(j,j)∈m.nm:=by intro j hj;simpa using hj
 have hfp:∀j,j∈sh.d5\/(j,j)∈m.nm->f j=j:=λj hj=>hj.elim (oe j) (λ h=>hf (j,j) h);have hdp:∀j,j∈sh.d5\/(j,j)∈m.nm->DN m.nm j\/j∈sh.d5:=λj hj=>hj.elim .inr (λ h=>.inl ⟨j,h⟩);have hko:∀j∈sh.d5,j<s0.nx/\(∃ o,iu s0.obj j=some o/\iu s'.obj j=some o/\∀i∈ev o,i∈sh.d5\/(i,i)∈m.nm):=by
  intro j hj;have:=all_eq_true.1 n7 _ hj;simp only[bK,bT,Bool.not_eq_true']at this;obtain⟨⟨⟨a1,a2⟩,a3⟩,a4⟩:=this;refine⟨a1,?_⟩;cases ho0:iu s0.obj j with
  |none=>rw[ho0]at a4;cases a4
  |some o=>
   rw[ho0]at a4;refine⟨o,rfl,?_,λi hi=>kp i (all_eq_true.1 a4 i hi)⟩;obtain⟨d,hd,hd2⟩:=hx.obj;have hnd:j∉d:=(by have e:s'.log.take (s'.log.length-s0.log.length)=d:=(by rw[hd,fP,Nat.add_sub_cancel,List.take_left]);rw[e]at a2;simpa using a2);rcases hd2 j a1 hnd with h|h;rw[h,ho0];rw[h]at a3;cases a3
 have hke:∀t∈sh.keep,t∉ds/\fy s'.env t=fy s0.env t/\∀j∈bz (fy s0.env t),j∈sh.d5\/(j,j)∈m.nm:=by
  intro t ht;have:=all_eq_true.1 n6 _ ht;simp only[bK,Bool.not_eq_true']at this;obtain⟨⟨a1,a2⟩,a3⟩:=this;have a1':t∉ds:=by simpa using a1
  refine⟨a1',?_,λj hj=>kp j (all_eq_true.1 a3 j hj)⟩;rcases hx.env t a1' with h|h;exact h;exact(akK a2 h).elim
 have hks:∀q∈es,q.1∈ds:=by intro q hq;have h1:=(pA q hq).1;obtain⟨z,hz,e⟩:=mem_map.1 h1;have:=all_eq_true.1 n5 _ hz;rw[<- e];simpa using this
 have hkeep:∀t,lk (sh.keep.map λt=>(t,fy s0.env t)) t=if t∈sh.keep then some (fy s0.env t)else none:=by
  intro t
  induction sh.keep with
  |nil=>simp[lk]
  |cons q qs ih=>
   simp[bE,lk,ih,aR];by_cases e:q=t;subst e;simp;rw[aU e];simp[Ne.symm e]
 have C0:∀t,lk (sh.d5.map λt=>(t,iu s0.obj t)) t=if t∈sh.d5 then some (iu s0.obj t)else none:=by
  intro t
  induction sh.d5 with
  |nil=>simp[lk]
  |cons q qs ih=>
   simp[bE,lk,ih,aR];by_cases e:q=t;subst e;simp;rw[aU e];simp[Ne.symm e]
 have sE:∀t,(∃ d,(t,d)∈es/\fy (encS sh s0 v).env t=d)\/(t∈sh.keep/\fy (encS sh s0 v).env t=fy s0.env t)\/fy (encS sh s0 v).env t=.undef:=by
  intro t;have e1:fy (encS sh s0 v).env t=(match lk es t with|some d=>some d|none=>if t∈sh.keep then some (fy s0.env t)else none).getD .undef:=by rw[hS];show(lk (es++sh.keep.map (λ t=>(t,fy s0.env t))) t).getD .undef=_;rw[Dh,hkeep t];cases lk es t<;>rfl
  rw[e1];cases he:lk es t with
  |some d=>exact .inl ⟨d,rZ he,rfl⟩
  |none=>
   by_cases ht:t∈sh.keep;simp only[aX ht];exact .inr (.inl ⟨ht,rfl⟩);simp only[aU ht];exact .inr (.inr rfl)
 have iz:∀j o,iu (encS sh s0 v).obj j=some o->(∃ k' o1,(k',j)∈m.nm/\iu s'.obj k'=some o1/\(bI o).sz=(bI o1).sz/\ju (DN m.nm) f (bI o1).rows (bI o).rows/\(∀ i∈ev o,SN m.nm i))\/(j∈sh.d5/\iu s0.obj j=some o):=by
  intro j o hjo;have e1:iu (encS sh s0 v).obj j=(match lk xs j with|some d=>some d|none=>if j∈sh.d5 then some (iu s0.obj j)else none).join:=by rw[hS];show(lk (xs++sh.d5.map (λ k=>(k,iu s0.obj k))) j).join=_;rw[Dh,C0 j];cases lk xs j<;>rfl
  rw[e1]at hjo;cases he:lk xs j with
  |some x=>
   rw[he]at hjo;obtain⟨_,k',o1,o',b1,b2,b3,b4,b5,b6⟩:=pB _ (rZ he);simp at b1 b2 hjo;subst b1;simp[Option.join_some,aZ]at hjo;subst hjo;exact .inl ⟨k',o1,b2,b3,b4,b5,b6⟩
  |none=>
   rw[he]at hjo;by_cases hj:j∈sh.d5;simp[aX hj,Option.join_some]at hjo;exact .inr ⟨hj,hjo⟩;simp[aU hj]at hjo
 have hnx:=n8;have hkx:∀j,j∈sh.d5\/(j,j)∈m.nm->j<sh.nx:=λj hj=>hj.elim (λ hj=>Nat.lt_of_lt_of_le (hko j hj).1 hnx) (λ h=>hsn j ⟨j,h⟩);have hRW:∀{r q:List AV},np (DN m.nm) f r q->np (λ j=>DN m.nm j\/j∈sh.d5) f r q:=by
  intro r
  induction r with
  |nil=>intro q h;cases q with
   |nil=>trivial
   |cons=>exact h.elim
  |cons x xs ih=>intro q h;cases q with
   |nil=>exact h.elim
   |cons y ys=>exact⟨⟨λ k hk=>.inl (h.1.1 k hk),h.1.2⟩,ih h.2⟩
 have W8:∀{r q:List (List AV)},ju (DN m.nm) f r q->ju (λ j=>DN m.nm j\/j∈sh.d5) f r q:=by
  intro r
  induction r with
  |nil=>intro q h;cases q with
   |nil=>trivial
   |cons=>exact h.elim
  |cons x xs ih=>intro q h;cases q with
   |nil=>exact h.elim
   |cons y ys=>exact⟨hRW h.1,ih h.2⟩
 refine⟨v,h6,?_,?_,?_⟩;constructor;rw[hS];exact n9;rw[hS];exact Nat.le_trans hl0.ge n8;intro t j hj;have CC:(encS sh s0 v).nx=sh.nx:=by rw[hS]
 rw[CC];rcases sE t with ⟨d,h1,h2⟩|⟨h1,h2⟩|h2;rw[h2]at hj;exact hsn j ((pA _ h1).2.2.2 j hj);rw[h2]at hj;exact hkx j ((hke t h1).2.2 j hj);rw[h2]at hj;simp[bz]at hj;intro j o hjo;have CC:(encS sh s0 v).nx=sh.nx:=by rw[hS]
 rw[CC];rcases iz j o hjo with ⟨k',o1,b1,b2,b3,b4,b5⟩|⟨b1,b2⟩;exact⟨hsn j ⟨k',b1⟩,λi hi=>hsn i (b5 i hi)⟩;have⟨c1,o',c2,c3,c4⟩:=hko j b1;rw[b2]at c2;cases c2;exact⟨hkx j (.inl b1),λi hi=>hkx i (c4 i hi)⟩;refine⟨λ t ht=>?_,⟨(List.range s0.nx).filter (λ k=>!sh.d5.contains k),by rw[hS],λj hj hn=>?_⟩,hS ▸ hnx⟩;rcases sE t with ⟨d,h1,h2⟩|⟨h1,h2⟩|h2;exact(ht (hks _ h1)).elim;exact .inl h2;exact .inr h2;have hjk:j∈sh.d5:=by simpa[hj]using hn
 cases hjo:iu (encS sh s0 v).obj j with
 |none=>exact .inr rfl
 |some o=>
  rcases iz j o hjo with ⟨k',o1,b1,_⟩|⟨b1,b2⟩;exact((List.nodup_append.1 n2).2.2 j (mem_map.2 ⟨(k',j),b1,rfl⟩) j hjk rfl).elim;exact .inl b2.symm
 intro P w0 O0 N β I a w hr;refine⟨_,Rel.re (f:=f) (g:=g) (D:=λj=>DN m.nm j\/j∈sh.d5) hgf hg0 hr (λ _=>.inl rfl) (λ _=>rfl) (λ t=>?_) (λ j o' hj=>?_)⟩;show den (fy (encS sh s0 v).env t)=.undef\/((∀ k∈refs (den (fy s'.env t)),_)/\l4 (k5 f (den (fy s'.env t))) (den (fy (encS sh s0 v).env t)));rcases sE t with ⟨d,h1,h2⟩|⟨h1,h2⟩|h2;right;rw[h2];obtain⟨_,b1,b2,_⟩:=pA _ h1;exact⟨λ k hk=>.inl (b2 k (by rwa [jm]at hk)),b1⟩;right;have⟨_,b1,b2⟩:=hke t h1;rw[h2,b1];refine⟨λ k hk=>hdp k (b2 k (by rwa [jm]at hk)),?_⟩;rw[<- Aw,WZ _ (λ k hk=>hfp k (b2 k hk))];exact l4.refl _;left;rw[h2];rfl;simp[d8.st,lK]at hj;obtain⟨o,hjo,rfl⟩:=hj;rcases iz j o hjo with ⟨k',o1,b1,b2,b3,b4,b5⟩|⟨b1,b2⟩;exact⟨k',bI o1,by simp[d8.st,b2],.inl ⟨j,b1⟩,hf _ b1,b3,W8 b4⟩;have⟨c1,o',c2,c3,c4⟩:=hko j b1;rw[b2]at c2;cases c2;have hid:qn f o=o:=by
  cases o with
  |eE c l=>rfl
  |map kc vc l=>rfl
  |cells sz rows=>
   simp[qn];congr 1;have:=λq hq=>ED q λi hi=>hfp i (c4 i (by simp[ev,List.mem_flatten,mem_map];exact⟨_,⟨q,hq,rfl⟩,hi⟩));rw[map_congr_left this];simp
 obtain⟨r1,r2⟩:=Ka (D:=λj=>DN m.nm j\/j∈sh.d5) f o (λ i hi=>hdp i (c4 i hi));rw[hid]at r1 r2;exact⟨j,bI o,by simp[d8.st,c3],.inr b1,oe j b1,r1,r2⟩
theorem Ext.trans{ds:Nat->Prop}{a b c:d8 X}(h:Ext ds a b)(h':Ext ds b c):Ext ds a c:=by refine⟨λ t ht=>?_,?_,Nat.le_trans h.nx h'.nx⟩;rcases h'.env t ht with h1|h1;rcases h.env t ht with h2|h2;exact .inl (h1.trans h2);exact .inr (h1.trans h2);exact .inr h1;obtain⟨d,h1,h2⟩:=h.obj;obtain⟨d',h3,h4⟩:=h'.obj;refine⟨d'++d,by rw[h3,h1,aM],λk hk hn=>?_⟩;simp at hn;rcases h4 k (Nat.lt_of_lt_of_le hk h.nx) hn.1 with h5|h5;rcases h2 k hk hn.2 with h6|h6;exact .inl (h5.trans h6);exact .inr (h5.trans h6);exact .inr h5
theorem Ext.refl(ds:Nat->Prop)(s:d8 X):Ext ds s s:=⟨λ _ _=>.inl rfl,⟨[],by simp,λ_ _ _=>.inl rfl⟩,aB _⟩
def Says(s s':d8 X):Prop:=∀(P:Program) (w0:World) (O0:lh) (N:Nat) (β:Nat->Option cV) (I:Nat->Prop) (a:Act) (w:World),Rel P w0 O0 N β I s.st a w->∃ β',Rel P w0 O0 N β' I s'.st a w
theorem Low.room{s:d8 X}{P:Program}{w0:World}{O0:lh}{N:Nat}{β:Nat->Option cV}{I:Nat->Prop}{a:Act}{w:World}(hl:Low s)(hr:Rel P w0 O0 N β I s.st a w):∃ β2,β2 s.nx=none/\Rel P w0 O0 N β2 I s.st a w:=by
 have hr1:=hr.restrict hl.old
 have hr2:=Rel.re (f:=id) (g:=λj=>if j<s.nx then j else 1000000) (D:=(· <s.nx)) (s':=s.st) (λ k hk=>aX hk) (λ j hj=>aX (by have:=hl.ge;omega)) hr1 (λ _=>.inl rfl) (λ _=>rfl)
  (λ q=>.inr ⟨λ k hk=>hl.env q k (by rw[<- jm];exact hk),by show l4 (k5 id (den (fy s.env q))) (den (fy s.env q));rw[<- Aw,WZ (f:=id) _ (λ _ _=>rfl)];exact l4.refl _⟩)
  (λ j o' hj=>by
   simp[d8.st]at hj;obtain⟨x,hx,rfl⟩:=hj;have⟨h1,h2⟩:=hl.obj j x hx;have⟨r1,r2⟩:=Ka (D:=(· <s.nx)) id x h2;have hid:qn id x=x:=by
    cases x with
    |eE c l|map kc vc l=>rfl
    |cells sz rows=>
     simp[qn];have:∀q∈rows,L9 id q=q:=λq _=>ED (f:=id) q λ_ _=>rfl;rw[map_congr_left this];simp
   rw[hid]at r1 r2;exact⟨j,bI x,by simp[d8.st,hx],h1,rfl,r1,r2⟩)
 exact⟨_,by simp,hr2⟩
theorem aoN(z:Bool)(k:Nat):bz (nz (X:=X) z k)=[k]:=by cases z<;>rfl
theorem Xa{ds:List Nat}{z:Bool}{s:d8 X}{t:Nat}{c:CT X.ι}(hl:Low s)(ht:t∈ds):Low (AM z s t c)/\Ext (· ∈ds) s (AM z s t c)/\Says s (AM z s t c):=by
 unfold AM;split;rename_i hn;split;have he:∀q,fy ((t,nz z s.nx)::s.env) q=if t=q then nz z s.nx else fy s.env q:=λq=>by simp[fy,lk];by_cases e:t=q<;>simp[e]
 have hO:∀q,iu ((s.nx,some (.eE c []))::s.obj) q=if s.nx=q then some (.eE c [])else iu s.obj q:=λq=>by simp[iu,lk];by_cases e:s.nx=q<;>simp[e]
 refine⟨⟨by show s.nx+1<=1000000;omega,by have:=hl.ge;show 1000<=s.nx+1;omega,λq k hk=>?_,λk o ho=>?_⟩,⟨λ q hq=>?_,⟨[s.nx],rfl,λk hk hnk=>?_⟩,by show s.nx<=s.nx+1;omega⟩,λP w0 O0 N β I a w hr=>?_⟩;rw[he]at hk;split at hk;simp[aoN]at hk;subst hk;show s.nx<s.nx+1;omega;have:=hl.env q k hk;show k<s.nx+1;omega;rw[hO]at ho;split at ho;rename_i e;cases ho;subst e;exact⟨by show s.nx<s.nx+1;omega,by simp[ev]⟩;have⟨h1,h2⟩:=hl.obj k o ho;exact⟨by show k<s.nx+1;omega,λj hj=>by have:=h2 j hj;show j<s.nx+1;omega⟩;left;rw[he,aU];intro e;subst e;exact hq ht;left;rw[hO,aU (by omega)];have⟨β2,G1,hr2⟩:=hl.room hr;have⟨hS,hM⟩:=Mem.p0 (i:=s.nx) (o:=bI (.eE c []:bo X)) hr2.mem G1 rfl;refine⟨ins β2 s.nx .none,hr2.defers,hr2.size,λq=>?_,?_⟩;have h1:=hr2.env q;show ga P _ w I (den (fy ((t,nz z s.nx)::s.env) q)) none _;rw[he];by_cases e:t=q;subst e;rw[aX rfl];have h2:VR P _ w I (den (fy s.env t)) (a.tmps.getD t undef):=h1;rw[hn]at h2;rcases z with _|_;simp only[ga,nz,au,den,VR];exact .inl ⟨by simp[ins],h2,trivial,trivial⟩;simp only[ga,nz,aj,den,VR];exact .inl ⟨trivial,h2⟩;rw[aU e];exact ga.mono hS.ext hS.same hS.inc h1;have e:(λ k=>(iu ((s.nx,some (.eE c []))::s.obj) k).map bI)=cB s.st.obj [(s.nx,some (bI (.eE c []:bo X)))]:=by funext q;simp[cB,d8.st];rw[hO];by_cases e:s.nx=q;simp[e];rw[aU e,aU (Ne.symm e)]
 show Mem P w0 O0 _ I (λ k=>(iu ((s.nx,some (.eE c []))::s.obj) k).map bI) w;rw[e];exact hM;exact⟨hl,Ext.refl _ s,λ_ _ _ _ β _ _ _ h=>⟨β,h⟩⟩;exact⟨hl,Ext.refl _ s,λ_ _ _ _ β _ _ _ h=>⟨β,h⟩⟩
theorem Xb(y:DV X):∀(l:List (DV X))(j i:Nat),i∈aL (l.set j y)->i∈aL l\/i∈bz y
 |[],_,_,h=>.inl (by simpa using h)
 |x::l,0,i,h=>by simp[aL]at h ⊢;rcases h with h|h;exact .inr h;exact .inl (.inr h)
 |x::l,j+1,i,h=>by simp[aL]at h ⊢;rcases h with h|h;exact .inl (.inl h);rcases Xb y l j i h with h|h;exact .inl (.inr h);exact .inr h
theorem bk.set{P:Program}{β:Nat->Option cV}{w:World}{I:Nat->Prop}{y:AV}:∀(xs:List AV)(vs:List Value)(j:Nat),(∀ x v,xs[j]? =some x->VR P β w I x v->VR P β w I y v)->bk P β w I xs vs->bk P β w I (xs.set j y) vs
 |[],vs,_,_,h=>by simpa using h
 |x::xs,[],_,_,h=>by simp[bk]at h
 |x::xs,v::vs,0,hy,h=>by exact⟨hy x v rfl h.1,h.2⟩
 |x::xs,v::vs,j+1,hy,h=>by exact⟨h.1,bk.set xs vs j (λ x v e=>hy x v (by simpa using e)) h.2⟩
theorem OR.set1{P:Program}{β:Nat->Option cV}{w:World}{I:Nat->Prop}{sz:Nat}{row:List AV}{j:Nat}{y:AV}{B:cV}(hy:∀x v,row[j]? =some x->VR P β w I x v->VR P β w I y v)(h:OR P β w I ⟨sz,[row]⟩ B):OR P β w I ⟨sz,[row.set j y]⟩ B:=by
 cases B with
 |none=>simp[OR]at h
 | «at» b s n=>
  obtain⟨h1,c,e,h2,h3,h4⟩:=h;refine⟨h1,c,e,h2,h3,?_⟩;simp only[b7,List.length_set]at h4 ⊢;refine⟨h4.1,?_,trivial⟩;rw[jU]at h4 ⊢;intro i x hx;rw[List.getElem?_set]at hx;split at hx;rename_i e;subst e;split at hx;cases hx;rename_i hlt;obtain⟨v,g1,g2,g3⟩:=h4.2.1 j _ (dI hlt);exact⟨v,g1,hy _ v (dI hlt) g2,g3⟩;cases hx;exact h4.2.1 i x hx
 |mp b=>
  obtain⟨es,cl,h1,hle,h2,h3⟩:=h;refine⟨es,cl,h1,hle,λe=>?_,h3⟩;have:=h2 e
  match hes:es.toList,this with
  |[e1],this=>exact⟨bk.set _ _ j hy this.1,trivial⟩
  |[],this|_::_::_,this=>simp[cL]at this
theorem aeA(y:DV X):∀(l:List (DV X))(j:Nat),bO (l.set j y)=(bO l).set j (den y)
 |[],_|x::l,0=>by simp[bO]
 |x::l,j+1=>by simp[bO,aeA y l j]
theorem ahh{ds:List Nat}{s:d8 X}{q j:Nat}{c:CT X.ι}(hl:Low s):Low (Hx s q j c)/\Ext (· ∈ds) s (Hx s q j c)/\Says s (Hx s q j c):=by
 unfold Hx;split;rename_i sz row hq;split;rename_i hn;split;have hqn:=(hl.obj q _ hq).1;have hrefs:=λk hk=>(hl.obj q _ hq).2 k (by simpa[ev]using hk);have hO:∀k,iu ((q,some (.cells sz [row.set j (.own s.nx 0 0)]))::(s.nx,some (.eE c []))::s.obj) k=if q=k then some (.cells sz [row.set j (.own s.nx 0 0)])else if s.nx=k then some (.eE c [])else iu s.obj k:=λk=>by simp[iu,lk];by_cases e:q=k;simp[e];by_cases e':s.nx=k<;>simp[e,e']
 refine⟨⟨by show s.nx+1<=1000000;omega,by have:=hl.ge;show 1000<=s.nx+1;omega,λk i hk=>by have:=hl.env k i hk;show i<s.nx+1;omega,λk o ho=>?_⟩,⟨λ _ _=>.inl rfl,⟨[q,s.nx],rfl,λk hk hnk=>?_⟩,by show s.nx<=s.nx+1;omega⟩,λP w0 O0 N β I a w hr=>?_⟩;rw[hO]at ho;split at ho;rename_i e;cases ho;subst e;refine⟨by show q<s.nx+1;omega,λi hi=>?_⟩;show i<s.nx+1;simp[ev]at hi;rcases Xb _ _ _ _ hi with h1|h1;have:=hrefs i h1;omega;simp[bz]at h1;omega;split at ho;rename_i e;cases ho;subst e;exact⟨by show s.nx<s.nx+1;omega,by simp[ev]⟩;have⟨h1,h2⟩:=hl.obj k o ho;exact⟨by show k<s.nx+1;omega,λi hi=>by have:=h2 i hi;show i<s.nx+1;omega⟩;left;simp at hnk;rw[hO,aU (Ne.symm hnk.1),aU (Ne.symm hnk.2)];have⟨β2,G1,hr2⟩:=hl.room hr;have⟨hS,hM⟩:=Mem.p0 (i:=s.nx) (o:=bI (.eE c []:bo X)) hr2.mem G1 rfl;refine⟨ins β2 s.nx .none,hr2.defers,hr2.size,λk=>ga.mono hS.ext hS.same hS.inc (hr2.env k),?_⟩;refine hM.weak λk o' ho=>?_;simp only[d8.st]at ho;rw[hO]at ho;by_cases e:q=k;subst e;rw[aX rfl]at ho;cases ho;refine⟨bI (.cells sz [row]),by simp[cB];rw[aU (by omega)];simp[d8.st,hq],λB _ hB=>?_⟩;simp[bI,aeA]at hB ⊢;refine OR.set1 (λ x v hx hv=>?_) hB;rw[oG,List.getElem?_map,hn]at hx;cases hx;simpa only[den,VR]using .inl ⟨by simp[ins],hv,trivial,trivial⟩;rw[aU e]at ho;refine⟨o',?_,λ_ _ h=>h⟩;simp[cB];by_cases e':s.nx=k;subst e';simpa using ho;rw[aU e']at ho;rw[aU (Ne.symm e')];exact ho;exact⟨hl,Ext.refl _ s,λ_ _ _ _ β _ _ _ h=>⟨β,h⟩⟩;exact⟨hl,Ext.refl _ s,λ_ _ _ _ β _ _ _ h=>⟨β,h⟩⟩;exact⟨hl,Ext.refl _ s,λ_ _ _ _ β _ _ _ h=>⟨β,h⟩⟩
theorem NN{ds:List Nat}:∀(l:List (Nat×CT X.ι)){s:d8 X},Low s->(∀ p∈l,(bif Nat.ble 1000000 p.1 then !Nat.ble 1099511627776 p.1 || ds.contains (p.1-1099511627776)else ds.contains p.1)=true)->Low (Qr l s)/\Ext (· ∈ds) s (Qr l s)/\Says s (Qr l s)
 |[],s,hl,_=>⟨hl,Ext.refl _ s,λ_ _ _ _ β _ _ _ h=>⟨β,h⟩⟩
 |(t,c)::r,s,hl,hd=>by
  generalize hs:(bif Nat.ble 1000000 t then bif Nat.ble 1099511627776 t then AM true s (t-1099511627776) c else Hx s ((t-1000000)/4096) ((t-1000000)%4096) c else AM false s t c)=s1;have h0:Low s1/\Ext (· ∈ds) s s1/\Says s s1:=by
   have hd0:=hd (t,c) (by simp);subst hs;cases hb:Nat.ble 1000000 t with
   |true=>
    rw[hb]at hd0;cases hb2:Nat.ble 1099511627776 t with
    |true=>rw[hb2]at hd0;exact Xa hl (by simpa using hd0)
    |false=>exact ahh hl
   |false=>rw[hb]at hd0;exact Xa hl (by simpa using hd0)
  obtain⟨h1,h2,h3⟩:=h0;simp[Qr,hs];obtain⟨g1,g2,g3⟩:=NN r h1 (λ p hp=>hd p (by simp[hp]));refine⟨g1,h2.trans g2,λP w0 O0 N β I a w hr=>?_⟩;have⟨β',hr'⟩:=h3 P w0 O0 N β I a w hr;exact g3 P w0 O0 N β' I a w hr'
theorem lT{A:Type}{sh:Sh X.ι}{ds:List Nat}{s0 s':d8 X}{k:VT (X:=X) sh.vars->Option A}{r:A}(hl0:Low s0)(hl':Low s')(hx:Ext (· ∈ds) s0 s')(h:uf sh ds s0 s' k=some r):
 ∃v,k v=some r/\Low (encS sh s0 v)/\Ext (· ∈ds) s0 (encS sh s0 v)/\Says s' (encS sh s0 v):=by have⟨h1,h2⟩:=eD h;obtain⟨g1,g2,g3⟩:=NN (ds:=ds) sh.BY hl' (λ p hp=>all_eq_true.1 h1 p hp);have⟨v,i1,i2,i3,i4⟩:=acn hl0 (hx.trans g2) h2;refine⟨v,i1,i2,i3,λP w0 O0 N β I a w hr=>?_⟩;have⟨β',hr'⟩:=g3 P w0 O0 N β I a w hr;exact i4 P w0 O0 N β' I a w hr'
end
def iw:Code->List Nat
 |.region _ ag _=>ag.toList.filterMap (·.dst)
 |.seq a b=>iw a++iw b
 |.cond _ a b=>iw a++iw b
 |.block _ b=>iw b
 |.loop b=>iw b
 |_=>[]
section
variable {X:SX}
section
variable {P:Program} {N:Nat}
def LA{A:Type}(ds:List Nat)(s:d8 X)(k:Exit->d8 X->Option A)(r:A)(e:Exit)(σ:St):Prop:=∃s',Low s'/\Ext (· ∈ds) s s'/\σ=s'.st/\k e s'=some r
theorem ajq{c:Code}{Q Q':Exit->St->Prop}{σ:St}(h:Ev P N c Q σ)(ht:∀e σ,Q e σ->∀w0 O0 β I a w,Rel P w0 O0 N β I σ a w->∃ β' σ',Rel P w0 O0 N β' I σ' a w/\ua σ'/\Q' e σ'):Ev P N c Q' σ:=by intro w0 O0 β I a w hr ho;refine wp_mono (h w0 O0 β I a w hr ho) ?_;rintro e a' w' ⟨β',I',σ',h1,_,h3⟩;have⟨β2,σ2,g1,g2,g3⟩:=ht e σ' h3 w0 O0 β' I' a' w' h1;exact⟨β2,I',σ2,g1,g2,g3⟩
end
end
inductive Hn(ι:Type) where
 |z
 |f (l:List Nat)
 |s (a b:Hn ι)
 |b (a:Hn ι)
 |j (sh:Sh ι) (a:Hn ι)
 |jx (sh:Sh ι) (a:Hn ι)
 |l (head:Sh ι) (id:Nat) (out:Sh ι) (a:Hn ι)
 |lx (head:Sh ι) (id:Nat) (out:Sh ι) (a:Hn ι)
 |rg (head:Sh ι) (a:Hn ι)
 |un (a r:Hn ι)
def Hn.fz{ι:Type}:Hn ι->List Nat
 |.f is=>is
 |_=>[]
def Hn.fst{ι:Type}:Hn ι->Hn ι
 |.s a _=>a
 |_=>.z
def Hn.snd{ι:Type}:Hn ι->Hn ι
 |.s _ y=>y
 |_=>.z
def Hn.sub{ι:Type}:Hn ι->Hn ι
 |.b a=>a
 |_=>.z
def iter{V O:Type}(step:V->Option (V⊕O)):Nat->V->Option O
 | 0,_=>none
 |n+1,v=>(step v).bind λr=>match r with
  |.inl v=>iter step n v
  |.inr o=>some o
def OF{X:SX}{A:Type}(body:Hn X.ι->d8 X->(Exit->d8 X->Option A)->Option A):Hn X.ι->d8 X->(Exit->d8 X->Option A)->Option A
 |.un a r,s,k=>body a s λe s'=>match e with
  |.normal=>OF body r s' k
  |e=>k e s'
 |_,_,_=>none
def dn{W A:Type}(o:Option (W⊕A))(f:W->Option A):Option A:=o.bind λr=>match r with
 |.inl w=>f w
 |.inr a=>some a
noncomputable def both{A:Type}(x y:Option A):Option A:=open Classical in if x=y then x else none
theorem akL{A:Type}{x y:Option A}{r:A}(h:both x y=some r):x=some r/\y=some r:=by grind [both]
theorem akM{A:Type}(x:Option A):both x x=x:=by simp[both]
section
variable {X:SX}
def HI(ds:List Nat)(s:d8 X)(h:Hn X.ι){A:Type}(k:Exit->d8 X->Option A)(body:(B:Type)->Hn X.ι->(Exit->d8 X->Option B)->Option B):Option A:=
 match h with
 |.j sh h'=>(body (VT (X:=X) sh.vars) h' λe s'=>match e with
  |.normal=>uf sh ds s s' some
  |_=>none).bind λv=>k .normal (encS sh s v)
 |.jx sh h'=>dn (body (VT (X:=X) sh.vars⊕A) h' λe s'=>match e with
  |.normal=>uf sh ds s s' λv=>some (.inl v)
  |e=>(k e s').map .inr) λv=>k .normal (encS sh s v)
 |h=>body A h k
variable (Γ:FuncId->Option (cx X)) (T:eI) (al:TypeId->Option (CT X.ι)) (N n:Nat)
noncomputable def run:Code->(A:Type)->Hn X.ι->d8 X->(Exit->d8 X->Option A)->Option A
 |.skip,_,_,s,k=>k .normal s
 |.region id ag d,A,h,s,k=>HI (iw (.region id ag d)) s h k λ_ h k=>ahg Γ h.fz T al N ag d s (k .normal)
 |.seq x y,A,h,s,k=>HI (iw (.seq x y)) s h k λB h k=>run x B h.fst s λe s'=>match e with
  |.normal=>run y B h.snd s' k
  |e=>k e s'
 |.cond c x y,A,h,s,k=>HI (iw (.cond c x y)) s h k λB h k=>match Zj (fy s.env) c with
  |.c .bool v=>bif v then run x B h.fst s k else run y B h.snd s k
  |.ub=>both (run x B h.fst s k) (run y B h.snd s k)
  |_=>none
 |.block id b,A,h,s,k=>HI (iw (.block id b)) s h k λB h k=>run b B h.sub s λe s'=>match e with
  |.exit j=>if j=id then k .normal s' else k (.exit j) s'
  |e=>k e s'
 |.loop b,A,h,s,k=>match h with
  |.l hd id out h'=>uf hd (iw b) s s λv0=>(iter (λ v=>run b (VT (X:=X) hd.vars⊕VT (X:=X) out.vars) h' (encS hd s v) λe s'=>match e with
   |.normal=>uf hd (iw b) s s' λv=>some (.inl v)
   |.exit j=>if j=id then uf out (iw b) s s' λw=>some (.inr w)else none
   |_=>none) n v0).bind λw=>k (.exit id) (encS out s w)
  |.lx hd id out h'=>uf hd (iw b) s s λv0=>dn (iter (λ v=>run b (VT (X:=X) hd.vars⊕(VT (X:=X) out.vars⊕A)) h' (encS hd s v) λe s'=>match e with
   |.normal=>uf hd (iw b) s s' λv=>some (.inl v)
   |.exit j=>if j=id then uf out (iw b) s s' λw=>some (.inr (.inl w))else(k (.exit j) s').map λa=>.inr (.inr a)
   |e=>(k e s').map λa=>.inr (.inr a)) n v0) λw=>k (.exit id) (encS out s w)
  |.un a r=>OF (λ h s k=>run b A h s k) (.un a r) s k
  |_=>none
 |.exit id,_,_,s,k=>k (.exit id) s
 |.ret,_,_,s,k=>k .ret s
 |.label _,_,_,s,k=>k .normal s
 |_,_,_,_,_=>none
section
variable {Γ:FuncId->Option (cx X)} {T:eI} {al:TypeId->Option (CT X.ι)} {N n:Nat} {P:Program}
theorem Ext.wide{ds ds':Nat->Prop}{a b:d8 X}(h:Ext ds a b)(hd:∀t,ds t->ds' t):Ext ds' a b:=⟨λ t ht=>h.env t λhh=>ht (hd t hh),h.obj,h.nx⟩
theorem map_inr{α β:Type}{o:Option β}{r:α⊕β}(h:o.map Sum.inr=some r):∃b,o=some b/\r=.inr b:=by
 cases o with
 |none=>cases h
 |some b=>grind
theorem EG{c:Code}{s:d8 X}{h:Hn X.ι}{A:Type}{k:Exit->d8 X->Option A}{r:A}{body:(B:Type)->Hn X.ι->(Exit->d8 X->Option B)->Option B}(hl:Low s)
 (hb:∀(B:Type)(h:Hn X.ι)(k:Exit->d8 X->Option B)(r:B),body B h k=some r->Ev P N c (LA (iw c) s k r) s.st) (hr:HI (iw c) s h k body=some r):Ev P N c (LA (iw c) s k r) s.st:=by
 unfold HI at hr;split at hr;have⟨v,h1,hr⟩:=ah.1 hr;refine ajq (hb _ _ _ _ h1) ?_;rintro e σ ⟨s',g1,g2,rfl,g4⟩ w0 O0 β I a w hrel;cases e<;>simp at g4;have⟨v',i1,i2,i3,i4⟩:=lT hl g1 g2 g4;cases i1;have⟨β',i5⟩:=i4 P w0 O0 N β I a w hrel;exact⟨β',_,i5,i2.old,_,i2,i3,rfl,hr⟩;unfold dn at hr;have⟨v,h1,hr⟩:=ah.1 hr;refine ajq (hb _ _ _ _ h1) ?_;rintro e σ ⟨s',g1,g2,rfl,g4⟩ w0 O0 β I a w hrel;have other:(k e s').map Sum.inr=some v->∃ β' σ',Rel P w0 O0 N β' I σ' a w/\ua σ'/\LA (iw c) s k r e σ':=by intro hm;obtain⟨b,hk,rfl⟩:=map_inr hm;cases hr;exact⟨β,_,hrel,g1.old,s',g1,g2,rfl,hk⟩
 cases e with
 |normal=>
  simp at g4;have⟨v',i1,i2,i3,i4⟩:=lT hl g1 g2 g4;cases i1;have⟨β',i5⟩:=i4 P w0 O0 N β I a w hrel;exact⟨β',_,i5,i2.old,_,i2,i3,rfl,hr⟩
 |_=>exact other g4
 exact hb _ _ _ _ hr
theorem akN{id:Nat}{ag:Array Oper}{d:Bool}{t:Nat}(h:Sm ag t):t∈iw (.region id ag d):=by obtain⟨j,op,h1,h2⟩:=h;simp only[iw,List.mem_filterMap];exact⟨op,by rw[<- Array.getElem?_toList]at h1;exact dh h1,h2⟩
theorem Xc{b:Code}{s:d8 X}{hd:Sh X.ι}{O:Type}{step:VT (X:=X) hd.vars->Option (VT (X:=X) hd.vars⊕O)}{kb:Exit->d8 X->Option (VT (X:=X) hd.vars⊕O)}{Q:Exit->St->Prop}(hl:Low s)
 (hkn:∀s',kb .normal s'=uf hd (iw b) s s' λv=>some (.inl v))
 (hstep:∀v r,Low (encS hd s v)->step v=some r->Ev P N b (LA (iw b) (encS hd s v) kb r) (encS hd s v).st)
 {o:O} (hQ:∀e s',e≠.normal->Low s'->Ext (· ∈iw b) s s'->kb e s'=some (.inr o)->∀w0 O0 β I a w,Rel P w0 O0 N β I s'.st a w->∃ β' σ',Rel P w0 O0 N β' I σ' a w/\ua σ'/\Q e σ')
 (hno:∀e s' v,e≠.normal->kb e s'=some (.inl v)->False) (n:Nat) (v0:VT (X:=X) hd.vars) (h:iter step n v0=some o) (hl0:Low (encS hd s v0)) (hx0:Ext (· ∈iw b) s (encS hd s v0)):Ev P N (.loop b) Q (encS hd s v0).st:=by
 intro w0 O0 β I a w hr ho;refine aau (λ n a w=>∃ β I v,Rel P w0 O0 N β I (encS hd s v).st a w/\iter step n v=some o/\Low (encS hd s v)/\Ext (· ∈iw b) s (encS hd s v)) (λ a w ⟨_,_,v,_,h,_⟩=>by cases h) ?_ n a w ⟨β,I,v0,hr,h,hl0,hx0⟩;rintro n a w ⟨β,I,v,hr,hi,hlv,hxv⟩;simp[iter]at hi;have⟨r,h1,hi⟩:=ah.1 hi;refine wp_mono (hstep v r hlv h1 w0 O0 β I a w hr hlv.old) ?_;rintro e a' w' ⟨β',I',σ',g1,_,s',g2,g3,rfl,g4⟩;have hxs:=hxv.trans g3;by_cases he:e=.normal;subst he;rw[hkn]at g4;have⟨v',i1,i2,i3,i4⟩:=lT hl g2 hxs g4;cases i1;have⟨β2,i5⟩:=i4 P w0 O0 N β' I' a' w' g1;exact⟨β2,I',v',i5,hi,i2,i3⟩;cases r with
 |inl v'=>exact(hno e s' v' he g4).elim
 |inr o'=>
  cases hi;have⟨β2,σ2,i1,i2,i3⟩:=hQ e s' he g2 hxs g4 w0 O0 β' I' a' w' g1;cases e with
  |normal=>exact(he rfl).elim
  |_=>exact⟨β2,I',σ2,i1,i2,i3⟩
theorem Xd{A:Type}{sh:Sh X.ι}{ds:List Nat}{s0 s':d8 X}{k:VT (X:=X) sh.vars->Option A}{r:A}(h:uf sh ds s0 s' k=some r):∃v,k v=some r:=by have⟨_,h⟩:=eD h;unfold SP at h;have⟨m1,h1,h⟩:=ah.1 h;have⟨m,h2,h⟩:=ah.1 h;have⟨h3,h⟩:=eD h;have⟨v,h4,h⟩:=ah.1 h;exact⟨v,(qi h).2⟩
theorem aeB{α β γ:Type}{o:Option γ}{r:α⊕(β⊕γ)}(h:o.map (λ a=>Sum.inr (Sum.inr a))=some r):∃b,o=some b/\r=.inr (.inr b):=by
 cases o with
 |none=>cases h
 |some b=>grind
def Hn.len{ι:Type}:Hn ι->Nat
 |.un _ r=>r.len+1
 |_=>0
theorem akO{b:Code}{A:Type}{body:Hn X.ι->d8 X->(Exit->d8 X->Option A)->Option A}{s0:d8 X}{k:Exit->d8 X->Option A}{r:A}
 (hb:∀(h:Hn X.ι)(s:d8 X)(k:Exit->d8 X->Option A)(r:A),Low s->body h s k=some r->Ev P N b (LA (iw b) s k r) s.st)
 {h:Hn X.ι} (hl:Low s0) (hr:OF body h s0 k=some r):Ev P N (.loop b) (LA (iw (.loop b)) s0 k r) s0.st:=by
 refine aox (λ n σ=>∃(h:Hn X.ι)(s:d8 X),σ=s.st/\h.len=n/\Low s/\Ext (· ∈iw b) s0 s/\OF body h s k=some r) ?_ ?_ h.len ⟨h,s0,rfl,rfl,hl,Ext.refl _ s0,hr⟩;rintro σ ⟨h,s,_,h1,_,_,h2⟩;cases h<;>first|cases h2|cases h1
 rintro n σ ⟨h,s,rfl,h1,h2,h3,h4⟩;cases h<;>try cases h4
 rename_i a q;simp[Hn.len]at h1;refine(hb a s _ r h2 h4).mono ?_;rintro e σ ⟨s',g1,g2,rfl,g4⟩;have hx:=h3.trans g2;cases e with
 |normal=>exact⟨q,s',rfl,h1,g1,hx,g4⟩
 |_=>exact⟨s',g1,hx,rfl,g4⟩
theorem lG(hT:fw P T)(hm:P.follows .mixedOrders=true)(hΓ:td P Γ):∀(c:Code)(A:Type)(h:Hn X.ι)(s:d8 X)(k:Exit->d8 X->Option A)(r:A),Low s->run Γ T al N n c A h s k=some r->Ev P N c (LA (iw c) s k r) s.st
 |.skip,A,h,s,k,r,hl,hr=>aou ⟨s,hl,Ext.refl _ s,rfl,hr⟩
 |.exit id,A,h,s,k,r,hl,hr=>aov ⟨s,hl,Ext.refl _ s,rfl,hr⟩
 |.ret,A,h,s,k,r,hl,hr=>ap7 ⟨s,hl,Ext.refl _ s,rfl,hr⟩
 |.label l,A,h,s,k,r,hl,hr=>amb ⟨s,hl,Ext.refl _ s,rfl,hr⟩
 |.region id ag d,A,h,s,k,r,hl,hr=>by refine EG hl (λ B h k r hb=>?_) hr;have⟨s',g1,g2,g3,g4⟩:=acj (id:=id) hT hm hΓ hl hb;exact g4.mono λe σ ⟨he,hσ⟩=>⟨s',g2,g3.wide λt ht=>akN ht,hσ,by rw[he];exact g1⟩
 |.seq x y,A,h,s,k,r,hl,hr=>by
  refine EG hl (λ B h k r hb=>?_) hr;refine ap8 ((lG hT hm hΓ x B _ s _ r hl hb).mono ?_);rintro e σ ⟨s',g1,g2,rfl,g4⟩;have wide:Ext (· ∈iw (.seq x y)) s s':=g2.wide λt ht=>by simp[iw,ht]
  cases e with
  |normal=>
   exact(lG hT hm hΓ y B _ s' k r g1 g4).mono λe σ ⟨s2,i1,i2,i3,i4⟩=>⟨s2,i1,wide.trans (i2.wide λt ht=>by simp[iw,ht]),i3,i4⟩
  |_=>exact⟨s',g1,wide,rfl,g4⟩
 |.cond c x y,A,h,s,k,r,hl,hr=>by
  refine EG hl (λ B h k r hb=>?_) hr;split at hb
  ·rename_i v hv;refine aow v (λ _ _=>rfl) ?_ ?_
   ·have:=V8 (fy s.env) c;rw[hv]at this;exact this.symm
   ·cases v with
    |true=>exact(lG hT hm hΓ x B _ s k r hl hb).mono λe σ ⟨s2,i1,i2,i3,i4⟩=>⟨s2,i1,i2.wide λt ht=>by simp[iw,ht],i3,i4⟩
    |false=>exact(lG hT hm hΓ y B _ s k r hl hb).mono λe σ ⟨s2,i1,i2,i3,i4⟩=>⟨s2,i1,i2.wide λt ht=>by simp[iw,ht],i3,i4⟩
  ·rename_i hv;have⟨hb1,hb2⟩:=akL hb;refine agM (λ _ _=>rfl) ?_ ?_ ?_
   ·have:=V8 (fy s.env) c;rw[hv]at this;exact this.symm
   ·exact(lG hT hm hΓ x B _ s k r hl hb1).mono λe σ ⟨s2,i1,i2,i3,i4⟩=>⟨s2,i1,i2.wide λt ht=>by simp[iw,ht],i3,i4⟩
   ·exact(lG hT hm hΓ y B _ s k r hl hb2).mono λe σ ⟨s2,i1,i2,i3,i4⟩=>⟨s2,i1,i2.wide λt ht=>by simp[iw,ht],i3,i4⟩
  ·cases hb
 |.block id b,A,h,s,k,r,hl,hr=>by
  refine EG hl (λ B h k r hb=>?_) hr;refine amc ((lG hT hm hΓ b B _ s _ r hl hb).mono ?_);rintro e σ ⟨s',g1,g2,rfl,g4⟩;cases e with
  |exit j=>
   simp only[agL];simp only at g4;split
   ·rw[aX ‹_›]at g4;exact⟨s',g1,g2,rfl,g4⟩
   ·rw[aU ‹_›]at g4;exact⟨s',g1,g2,rfl,g4⟩
  |_=>exact⟨s',g1,g2,rfl,g4⟩
 |.loop b,A,h,s,k,r,hl,hr=>by
  simp only[run]at hr;split at hr
  ·rename_i hd id out h';obtain⟨v0,h1,h2,h3,h4⟩:=lT hl hl (Ext.refl _ s) hr;rw[ah]at h1;obtain⟨w,h5,h6⟩:=h1;intro w0 O0 β I a ww hrel ho;have⟨β',hrel'⟩:=h4 P w0 O0 N β I a ww hrel;refine Xc (Q:=LA (iw (.loop b)) s k r) hl (λ s'=>rfl) (λ v r hlv hs=>lG hT hm hΓ b _ h' (encS hd s v) _ r hlv hs) (λ e s' he hls hxs hk=>?_) (λ e s' v he hk=>?_) n v0 h5 h2 h3 w0 O0 β' I a ww hrel' h2.old
   ·cases e with
    |exit j=>
     simp only at hk;split at hk
     ·rename_i hj;subst hj;have⟨w',i1,i2,i3,i4⟩:=lT hl hls hxs hk;injection i1 with i1;cases i1;intro w0 O0 β I a ww hrel;have⟨β',hrel'⟩:=i4 P w0 O0 N β I a ww hrel;exact⟨β',_,hrel',i2.old,_,i2,i3,rfl,h6⟩
     ·cases hk
    |normal=>exact(he rfl).elim
    |_=>cases hk
   ·cases e with
    |exit j=>
     simp only at hk;split at hk
     ·have⟨w',i1⟩:=Xd hk;injection i1 with i1;cases i1
     ·cases hk
    |normal=>exact he rfl
    |_=>cases hk
  ·rename_i hd id out h';obtain⟨v0,h1,h2,h3,h4⟩:=lT hl hl (Ext.refl _ s) hr;unfold dn at h1;rw[ah]at h1;obtain⟨w,h5,h6⟩:=h1;intro w0 O0 β I a ww hrel ho;have⟨β',hrel'⟩:=h4 P w0 O0 N β I a ww hrel;refine Xc (Q:=LA (iw (.loop b)) s k r) hl (λ s'=>rfl) (λ v r hlv hs=>lG hT hm hΓ b _ h' (encS hd s v) _ r hlv hs) (λ e s' he hls hxs hk=>?_) (λ e s' v he hk=>?_) n v0 h5 h2 h3 w0 O0 β' I a ww hrel' h2.old
   ·intro w0 O0 β I a ww hrel;have other:(k e s').map (λ a=>Sum.inr (Sum.inr a))=some (Sum.inr w:VT (X:=X) hd.vars⊕(VT (X:=X) out.vars⊕A))->∃ β' σ',Rel P w0 O0 N β' I σ' a ww/\ua σ'/\LA (iw (.loop b)) s k r e σ':=(by intro hm;have⟨q,hq,hr⟩:=aeB hm;cases hr;cases h6;exact⟨β,_,hrel,hls.old,s',hls,hxs,rfl,hq⟩);cases e with
    |exit j=>
     simp only at hk;split at hk
     ·rename_i hj;subst hj;have⟨w',i1,i2,i3,i4⟩:=lT hl hls hxs hk;injection i1 with i1;cases i1;have⟨β',hrel'⟩:=i4 P w0 O0 N β I a ww hrel;exact⟨β',_,hrel',i2.old,_,i2,i3,rfl,h6⟩
     ·exact other hk
    |normal=>exact(he rfl).elim
    |_=>exact other hk
   ·have other:(k e s').map (λ a=>Sum.inr (Sum.inr a))=some (Sum.inl v:VT (X:=X) hd.vars⊕(VT (X:=X) out.vars⊕A))->False:=(by intro hm;have⟨q,hq,hr⟩:=aeB hm;cases hr);cases e with
    |exit j=>
     simp only at hk;split at hk
     ·have⟨w',i1⟩:=Xd hk;injection i1 with i1;cases i1
     ·exact other hk
    |normal=>exact he rfl
    |_=>exact other hk
  ·exact akO (body:=λh s k=>run Γ T al N n b A h s k) (λ h s k r hl h1=>lG hT hm hΓ b A h s k r hl h1) hl hr
  ·cases hr
 |.rangeFunc ..,_,_,_,_,_,_,hr=>by cases hr
 |.scope _,_,_,_,_,_,_,hr=>by cases hr
 |.goto _,_,_,_,_,_,_,hr=>by cases hr
 |.refuse _,_,_,_,_,_,_,hr=>by cases hr
end
end
section
variable {X:SX}
def nC:Nat->(l:List (AT X.ι))->je X l->List (DV X)
 |_,[],_=>[]
 |n,.d c::l,a=>.c c a.1::nC n l a.2
 |n,.ref c::l,a=>.rp c a.1 0::nC n l a.2
 |n,.eC as r::l,a=>.eC as r a.1::nC n l a.2
 |n,.mut _::l,a=>.own n 0 (List.length a.1)::nC (n+1) l a.2
 |n,.ke _::l,a=>.ptr n 0 0::nC (n+1) l a.2
 |n,.nil::l,a=>.nil::nC n l a.2
def BH:(l:List (AT X.ι))->je X l->List (bo X)
 |[],_=>[]
 |.mut c::l,a=>.eE c a.1::BH l a.2
 |.ke c::l,a=>.cells (CT.sz X c) [vF c a.1]::BH l a.2
 |.d _::l,a=>BH l a.2
 |.ref _::l,a=>BH l a.2
 |.eC _ _::l,a=>BH l a.2
 |.nil::l,a=>BH l a.2
theorem yS:∀(n:Nat)(l:List (AT X.ι))(a:je X l),bO (nC n l a)=fq n l a
 |_,[],_=>rfl
 |n,.d c::l,a|n,.ref c::l,a=>by simp[nC,bO,den,fq,yS n l a.2]
 |n,.eC as r::l,a=>by simp[nC,bO,fq,yS n l a.2]
 |n,.mut c::l,a|n,.ke c::l,a=>by simp[nC,bO,den,fq,yS (n+1) l a.2]
 |n,.nil::l,a=>by simp[nC,bO,den,fq,yS n l a.2]
theorem Iz:∀(l:List (AT X.ι))(a:je X l),(BH l a).map bI=(vg l a).map iS
 |[],_=>rfl
 |.d _::l,a|.ref _::l,a|.eC _ _::l,a|.nil::l,a=>Iz l a.2
 |.mut c::l,a=>by simp[BH,Iz l a.2];rfl
 |.ke c::l,a=>by simp[BH,vg,Iz l a.2,bI,iS,ve,aI,pU]
theorem pW:∀(n:Nat)(l:List (AT X.ι))(a:je X l),∀k∈aL (nC n l a),k<n+wS l
 |_,[],_,k,hk=>by simp[nC,aL]at hk
 |n,.d c::l,a,k,hk=>by have:=pW n l a.2 k (by simpa[nC,aL,bz]using hk);simpa[wS,AT.im]using this
 |n,.ref c::l,a,k,hk=>by have:=pW n l a.2 k (by simpa[nC,aL,bz]using hk);simpa[wS,AT.im]using this
 |n,.eC as r::l,a,k,hk=>by have:=pW n l a.2 k (by simpa[nC,aL,bz]using hk);simpa[wS,AT.im]using this
 |n,.nil::l,a,k,hk=>by have:=pW n l a.2 k (by simpa[nC,aL,bz]using hk);simpa[wS,AT.im]using this
 |n,.mut c::l,a,k,hk=>by simp[nC,aL,bz]at hk;simp[wS,AT.im];rcases hk with rfl|hk;omega;have:=pW (n+1) l a.2 k hk;omega
 |n,.ke c::l,a,k,hk=>by simp[nC,aL,bz]at hk;simp[wS,AT.im];rcases hk with rfl|hk;omega;have:=pW (n+1) l a.2 k hk;omega
theorem ug:∀(n:Nat)(l:List (AT X.ι))(a:je X l),(fq n l a).length=l.length
 |_,[],_=>rfl
 |n,.d c::l,a|n,.ref c::l,a|n,.eC as r::l,a=>by simp[fq,ug n l a.2]
 |n,.mut c::l,a|n,.ke c::l,a=>by simp[fq,ug (n+1) l a.2]
 |n,.nil::l,a=>by simp[fq,ug n l a.2]
theorem wU:∀(l:List (AT X.ι))(a:je X l),(vg l a).length=wS l
 |[],_=>rfl
 |.d _::l,a|.ref _::l,a|.eC _ _::l,a|.nil::l,a=>by simpa[wS,AT.im,vg]using wU l a.2
 |.mut _::l,a|.ke _::l,a=>by simp[vg,wU l a.2,wS,AT.im];omega
def B5(l:List (AT X.ι))(a:je X l):d8 X:=⟨(List.range l.length).zip (nC 0 l a),(List.range (BH l a).length).zip ((BH l a).map some),1000,[]⟩
theorem ajr(l:List (AT X.ι))(a:je X l)(k:Nat):iu (B5 l a).obj k=(BH l a)[k]? :=by
 have h:(List.range (BH l a).length).zip ((BH l a).map some)=(List.range ((BH l a).map some).length).zip ((BH l a).map some):=by rw[length_map]
 simp[B5,iu];rw[h,Bw,List.getElem?_map];cases (BH l a)[k]?<;>rfl
theorem aql(l:List (AT X.ι))(a:je X l):(B5 l a).st=sm.st ⟨(List.range (wR l a).length).zip (wR l a),(List.range ((vg l a).map iS).length).zip ((vg l a).map iS)⟩:=by
 have ho:∀k,((iu (B5 l a).obj k).map bI)=lk ((List.range ((vg l a).map iS).length).zip ((vg l a).map iS)) k:=by intro k;rw[Bw,ajr,<- Iz,List.getElem?_map]
 simp only[d8.st,sm.st,St.mk.injEq,and_true];refine⟨?_,funext ho⟩;funext t;rw[ug,wR,<- yS];have:∀(ks:List Nat)(ds:List (DV X)),den (fy (ks.zip ds) t)=(lk (ks.zip (bO ds)) t).getD .undef:=by
  intro ks
  induction ks with
  |nil=>intro ds;rfl
  |cons k ks ih=>
   intro ds;rcases ds with _|⟨d,ds⟩;rfl;simp[fy,lk,bO];by_cases h:k=t;simp[h];simp[aU h];exact ih ds
 exact this _ _
theorem aoO(l:List (AT X.ι))(a:je X l)(hm:wS l<=1000):Low (B5 l a):=by
 refine⟨by show 1000<=1000000;decide,aB _,λt k hk=>?_,λk o ho=>?_⟩;have h0:=pW 0 l a;have:∀(ks:List Nat)(ds:List (DV X)),(∀ k∈aL ds,k<0+wS l)->∀k∈bz (fy (ks.zip ds) t),k<1000:=by
  intro ks
  induction ks with
  |nil=>intro ds _ k hk;simp[fy,lk,bz]at hk
  |cons k ks ih=>
   intro ds h j hj;rcases ds with _|⟨d,ds⟩;simp[fy,lk,bz]at hj;simp[fy,lk]at hj;by_cases e:k=t;simp[aX e]at hj;have:=h j (by simp[aL,hj]);omega;simp[aU e]at hj;exact ih ds (λ k hk=>h k (by simp[aL,hk])) j hj
 exact this _ _ h0 k hk;rw[ajr]at ho;have hl:(BH l a).length=wS l:=by rw[<- wU l a];simpa using congrArg List.length (Iz l a)
 refine⟨by have:=(dH.1 ho).1;show k<1000;omega,λj hj=>?_⟩;have hz:∀(l:List (AT X.ι))(a:je X l),∀o∈BH l a,ev o=[]:=by
  intro l
  induction l with
  |nil=>intro a o ho;simp[BH]at ho
  |cons q l ih=>
   intro a o ho;cases q<;>simp[BH]at ho
   case «mut» c=>rcases ho with rfl|ho;rfl;exact ih _ o ho
   case ke c=>
    rcases ho with rfl|ho;have h1:aL (vF c a.1)=[]:=by
     rw[<- jo,pU];generalize CT.row X.toSE c a.1=r
     induction r with
     |nil=>rfl
     |cons y ys ih=>simp[fe,refs,ih]
    simp[ev,h1];exact ih _ o ho
   all_goals exact ih _ o ho
 rw[hz l a o (dh ho)]at hj;cases hj
variable (T:eI)
def Hv(s:d8 X):ResultVar->Option (DV X)
 |.tmp t=>some (fy s.env t)
 |.cell a t=>(T t).bind λti=>match fy s.env a with
  |.ptr kk row aa=>(iu s.obj kk).bind λo=>match o with
   |.cells _ rows=>(rows[row]?).bind λr=>Ii ti.agg ti.size ((r.drop aa).take ti.size)
   |_=>none
  |_=>none
def Xe(s:d8 X):List ResultVar->Option (List (DV X))
 |[]=>some []
 |r::rs=>(Hv T s r).bind λv=>(Xe s rs).bind λvs=>some (v::vs)
theorem amC{s:d8 X}{r:ResultVar}{d:DV X}(h:Hv T s r=some d):Qe T s.st r=some (den d):=by
 cases r with
 |tmp t=>simp only[Hv,aZ]at h;subst h;rfl
 |cell a t=>
  simp only[Hv]at h;rw[ah]at h;obtain⟨ti,h1,h⟩:=h;split at h
  ·rename_i kk row aa hp;have⟨o,h2,h⟩:=ah.1 h;split at h
   ·have⟨q,h3,h⟩:=ah.1 h;have h4:=CZ h;rw[kR]at h4
    show(match UU T t (den (fy s.env a)) (λ k=>(iu s.obj k).map bI)with
     |some ⟨v,[],[]⟩=>some v
     |_=>none)=some (den d)
    simp only[UU,Le,h1,ai,hp,den,h2,Option.map_some,bI,List.getElem?_map,h3,h4,pv]
   ·cases h
  ·cases h
def Zp{A:Type}(s:d8 X):List ResultVar->(List (DV X)->Option A)->Option A
 |[],k=>k []
 |.tmp t::rs,k=>Zp s rs λvs=>k (fy s.env t::vs)
 |.cell a t::rs,k=>(T t).bind λti=>match fy s.env a with
  |.ptr kk row aa=>(iu s.obj kk).bind λo=>match o with
   |.cells _ rows=>(rows[row]?).bind λr=>(Ii ti.agg ti.size ((r.drop aa).take ti.size)).bind λv=>Zp s rs λvs=>k (v::vs)
   |_=>none
  |_=>none
theorem Kb{A:Type}{s:d8 X}:∀{rs:List ResultVar}{k:List (DV X)->Option A}{r:A},Zp T s rs k=some r->∃ds,Xe T s rs=some ds/\k ds=some r
 |[],k,r,h=>⟨[],rfl,h⟩
 |.tmp t::rs,k,r,h=>by have⟨ds,h1,h2⟩:=Kb (rs:=rs) h;exact⟨_,by simp only[Xe,Hv,h1,ai],h2⟩
 |.cell a t::rs,k,r,h=>by
  simp only[Zp]at h;rw[ah]at h;obtain⟨ti,h1,h⟩:=h;split at h
  ·rename_i kk row aa hp;have⟨o,h2,h⟩:=ah.1 h;split at h
   ·have⟨q,h3,h⟩:=ah.1 h;have⟨v,h4,h⟩:=ah.1 h;have⟨ds,h5,h6⟩:=Kb (rs:=rs) h;exact⟨_,by simp only[Xe,Hv,h1,hp,h2,h3,h4,h5,ai],h6⟩
   ·cases h
  ·cases h
theorem Qt{s:d8 X}:∀{rs:List ResultVar}{ds:List (DV X)},Xe T s rs=some ds->nS T s.st rs=some (bO ds)
 |[],ds,h=>by simp[Xe]at h;subst h;rfl
 |r::rs,ds,h=>by simp[Xe]at h;have⟨d,h1,h⟩:=ah.1 h;have⟨ds',h2,h⟩:=ah.1 h;cases h;simp[nS,amC T h1,Qt h2,bO]
def Qu:List (RT X.ι)->List (DV X)->Option Nat
 |.mu _::l,ds=>Qu l ds
 |.mr _::l,ds=>Qu l ds
 |.mv::l,ds=>Qu l ds
 |.fresh _::l,d::ds=>match d with
  |.own k _ _=>some k
  |_=>Qu l ds
 |.d _::l,_::ds=>Qu l ds
 |.whole _::l,_::ds=>Qu l ds
 |_,_=>none
def zp:List (RT X.ι)->List (DV X)->List (Nat×Nat)
 |.mu _::l,ds=>zp l ds
 |.mr _::l,ds=>zp l ds
 |.mv::l,ds=>zp l ds
 |.whole j::l,d::ds=>match d with
  |.own _ _ len=>(j,len)::zp l ds
  |_=>zp l ds
 |.d _::l,_::ds=>zp l ds
 |.fresh _::l,_::ds=>zp l ds
 |_,_=>[]
def Dk:Nat->List (RT X.ι)->List Nat
 |_,[]=>[]
 |n,.mu _::l=>n::Dk (n+1) l
 |n,.mr _::l=>n::Dk (n+1) l
 |n,.mv::l=>Dk (n+1) l
 |n,_::l=>Dk n l
def sB:Nat->List (RT X.ι)->List Nat
 |_,[]=>[]
 |n,.mu _::l=>n::sB (n+1) l
 |n,.mr _::l=>sB (n+1) l
 |n,.mv::l=>sB (n+1) l
 |n,_::l=>sB n l
def N1(bad:List Nat)(ks:List Nat):Bool:=ks.all λk=>!bad.contains k
def aco(get:Nat->Option (bo X))(row:List (DV X))(c:CT X.ι):Option (CT.T X.toSE c×List Bool):=
 match c with
 |.st i=>(BD get row (X.da i)).bind λh=>some (X.make i h.1,h.2)
 |c=>match row with
  |[d]=>Sd get d c
  |_=>none
def IA(get:Nat->Option (bo X))(c:CT X.ι):List (List (DV X))->Option (List (CT.T X.toSE c)×List Bool)
 |[]=>some ([],[])
 |r::rs=>(aco get r c).bind λx=>(IA get c rs).bind λy=>some (x.1::y.1,x.2++y.2)
def NP(get:Nat->Option (bo X))(bad sf:List Nat)(fk:Option Nat)(wl:List (Nat×Nat))(n:Nat):(q:RT X.ι)->List (DV X)->Option ((RT.T X q×List Bool)×List (DV X))
 |.d c,d::ds=>if N1 bad (bz d)then(F7 get d c).bind λx=>some (x,ds)else none
 |.fresh e,d::ds=>match d with
  |.nil=>some (([],[]),ds)
  |.own k 0 len=>if fk=some k then(get k).bind λo=>match o with
   |.eE b l=>(lD (.sl b) (.sl e) l).bind λ(l:List (CT.T X.toSE e))=>some ((sub l 0 len,[aE (sub l 0 len).length len]),ds)
   |.cells sz rows=>if sz=CT.sz X e/\N1 bad (rows.map aL).flatten=true then(IA get e rows).bind λx=>some ((x.1,aE len (List.length x.1)::x.2),ds)else none
   |.map _ _ _=>none
   else none
  |_=>none
 |.whole j,d::ds=>match d with
  |.own k 0 len=>if k=j/\sf.contains j=true then(lk wl j).bind λeV=>some (((),[aE len eV]),ds)else none
  |_=>none
 |.mu c,ds=>(get n).bind λo=>match o with
  |.eE b l=>(lD (.sl b) (.sl c) l).bind λ(l:List (CT.T X.toSE c))=>match lk wl n with
   |some len=>some ((sub l 0 len,[aE (sub l 0 len).length len]),ds)
   |none=>some ((l,[]),ds)
  |_=>none
 |.mr c,ds=>(get n).bind λo=>match o with
  |.cells sz [row]=>if sz=CT.sz X c/\N1 bad (aL row)=true then(aco get row c).bind λx=>some (x,ds)else none
  |_=>none
 |.mv,ds=>some (((),[]),ds)
 |_,[]=>none
def NQ(get:Nat->Option (bo X))(bad sf:List Nat)(fk:Option Nat)(wl:List (Nat×Nat)):Nat->(l:List (RT X.ι))->(ds:List (DV X))->Option (tK X l×List Bool)
 |_,[],ds=>match ds with
  |[]=>some ((),[])
  |_=>none
 |n,[q],ds=>(NP get bad sf fk wl n q ds).bind λp=>match p.2 with
  |[]=>some p.1
  |_=>none
 |n,q::q'::l,ds=>(NP get bad sf fk wl n q ds).bind λp=>(NQ get bad sf fk wl (if q.out then n+1 else n) (q'::l) p.2).bind λy=>some ((p.1.1,y.1),p.1.2++y.2)
def SO(s:d8 X)(l:List (RT X.ι))(ds:List (DV X)):Option (tK X l×List Bool):=
 if N1 (Dk 0 l) (Qu l ds).toList then NQ (iu s.obj) (Dk 0 l++(Qu l ds).toList) (sB 0 l) (Qu l ds) (zp l ds) 0 l ds else none
def aqY(rs:List ResultVar)(l:List (RT X.ι)):Exit->d8 X->Option (tK X l)
 |.normal,s=>Zp T s rs λds=>(SO s l ds).bind λx=>Wi x.2 (some x.1)
 |.ret,s=>Zp T s rs λds=>(SO s l ds).bind λx=>Wi x.2 (some x.1)
 |_,_=>none
def exit(A:Type)(k:d8 X->Option A):Exit->d8 X->Option A
 |.normal,s=>k s
 |.ret,s=>k s
 |_,_=>none
variable {T}
section
variable {get:Nat->Option (bo X)} {fk:Option Nat} {os':List (Option fC)} {bad:List Nat}
theorem EH{ks:List Nat}(h:N1 bad ks=true):∀j∈ks,j∉bad:=λj hj=>by simpa using all_eq_true.1 h j hj
theorem Qv(hbad:∀j,j∉bad->fk≠some j/\¬kept os' j){d:DV X}{c:CT X.ι}{x:CT.T X.toSE c×List Bool}(hc:c.one=true)(h:Sd get d c=some x)(hb:∀b∈x.2,b=true)(oe:∀j∈bz d,j∉bad):∃t,CT.tv X.toSE c x.1=.s t/\AW (fH get) fk os' (den d) t:=by
 obtain⟨t,h1,h2⟩:=row_one hc x.1;refine⟨t,h2,?_⟩;have hbase:∀y,LY d c=some y->y=x.1->AW (fH get) fk os' (den d) t:=by intro y hy he;subst he;have h3:=wN hy;rw[h2]at h3;unfold LY at hy;split at hy;rw[(o6 hy).1];simp[den,h2,TV.av,AW];simp[den,Gb.wk,TV.av]at h3;exact h3.symm;simp[den,Gb.wk,TV.av]at h3;exact h3.symm;cases hy
 unfold Sd at h;split at h;rename_i kk aa len e;rw[ah]at h;obtain⟨o,h3,h⟩:=h;split at h;rename_i b l0;rw[ah]at h;obtain⟨l,h4,h⟩:=h;cases h;have h5:(sub l aa len).length=len:=by simpa[aE]using hb (aE (sub l aa len).length len) (by simp)
 have⟨h6,h7⟩:=jH h4;obtain⟨hf1,hf2⟩:=hbad kk (oe kk (by simp[bz]));refine⟨hf1,hf2,bI (.eE b l0),(sub l aa len).map (CT.row X.toSE e),by simp[fH,h3],?_,by simpa using h5,?_⟩;simp[bI,h7];simp[aI,sub];simpa[CT.row]using h1.symm;cases h;rename_i kk aa len;rw[ah]at h;obtain⟨o,h3,h⟩:=h;split at h;rename_i b l0;cases h;have h5:(sub l0 aa len).length=len:=by simpa[aE]using hb (aE (sub l0 aa len).length len) (by simp)
 obtain⟨hf1,hf2⟩:=hbad kk (oe kk (by simp[bz]));refine⟨hf1,hf2,bI (.eE b l0),(sub l0 aa len).map (CT.row X.toSE b),by simp[fH,h3],?_,by simpa using h5,?_⟩;simp[bI];simp[aI,sub];simpa[CT.row]using h1.symm;cases h;rename_i kk len e;rw[ah]at h;obtain⟨o,h3,h⟩:=h;split at h;rename_i b l0;have⟨l,h4,h⟩:=ah.1 h;cases h;have h5:(sub l 0 len).length=len:=by simpa[aE]using hb (aE (sub l 0 len).length len) (by simp)
 have⟨h6,h7⟩:=jH h4;obtain⟨hf1,hf2⟩:=hbad kk (oe kk (by simp[bz]));refine⟨hf1,hf2,bI (.eE b l0),(sub l 0 len).map (CT.row X.toSE e),by simp[fH,h3],?_,by simpa using h5,?_⟩;simp[bI,h7];simp[aI,sub];simpa[CT.row]using h1.symm;cases h;have⟨y,h3,h⟩:=ah.1 h;injection h with h;exact hbase y h3 (by rw[<- h])
theorem Me(hbad:∀j,j∉bad->fk≠some j/\¬kept os' j):∀{ds:List (DV X)}{l:List (CT X.ι)}{h:HL X.toSE l×List Bool},BD get ds l=some h->(∀ b∈h.2,b=true)->l.all CT.one=true->(∀ j∈aL ds,j∉bad)->mm (fH get) fk os' (bO ds) (HL.row X.toSE l h.1)
 |[],[],h,_,_,_,_=>trivial
 |d::ds,c::l,h,hr,hb,ha,oe=>by simp[BD]at hr;have⟨x,h1,hr⟩:=ah.1 hr;have⟨g,h2,hr⟩:=ah.1 hr;cases hr;simp only[List.all_cons,bK]at ha;obtain⟨t,i1,i2⟩:=Qv hbad ha.1 h1 (λ b hb'=>hb b (by simp[hb'])) (λ j hj=>oe j (by simp[aL,hj]));have i3:=Me hbad h2 (λ b hb'=>hb b (by simp[hb'])) ha.2 (λ j hj=>oe j (by simp[aL,hj]));obtain⟨t',j1,j2⟩:=row_one ha.1 x.1;rw[i1]at j2;cases j2;show mm (fH get) fk os' (den d::bO ds) (CT.row X.toSE c x.1++HL.row X.toSE l g.1);rw[j1];exact⟨i2,i3⟩
 |[],_::_,_,hr,_,_,_|_::_,[],_,hr,_,_,_=>by simp[BD]at hr
theorem Sr(hbad:∀j,j∉bad->fk≠some j/\¬kept os' j){row:List (DV X)}{c:CT X.ι}{x:CT.T X.toSE c×List Bool}(h:aco get row c=some x)(hb:∀b∈x.2,b=true)(oe:∀j∈aL row,j∉bad):mm (fH get) fk os' (bO row) (CT.row X.toSE c x.1):=by
 cases c
 case st i=>
  replace h:(BD get row (X.da i)).bind (λ h=>some (X.make i h.1,h.2))=some x:=h
  have⟨g,h1,h⟩:=ah.1 h;cases h;have:=Me hbad h1 hb (X.flat i) oe;show mm (fH get) fk os' (bO row) (X.row i (X.make i g.1));rw[X.ii];exact this
 all_goals
  match row,h,oe with
  |[d],h,oe=>
   obtain⟨t,i1,i2⟩:=Qv (fk:=fk) hbad rfl h hb (λ j hj=>oe j (by simp[aL,hj]));obtain⟨t',j1,j2⟩:=row_one rfl x.1;rw[i1]at j2;cases j2;rw[j1];exact⟨i2,trivial⟩
  |[],h,_|_::_::_,h,_=>cases h
theorem NR(hbad:∀j,j∉bad->fk≠some j/\¬kept os' j){c:CT X.ι}:∀{rows:List (List (DV X))}{x:List (CT.T X.toSE c)×List Bool},IA get c rows=some x->(∀ b∈x.2,b=true)->(∀ j∈(rows.map aL).flatten,j∉bad)->fc (fH get) fk os' (rows.map bO) (x.1.map (CT.row X.toSE c))/\rows.length=List.length x.1
 |[],x,h,_,_=>by simp[IA]at h;subst h;exact⟨trivial,rfl⟩
 |r::rs,x,h,hb,oe=>by simp[IA]at h;have⟨y,h1,h⟩:=ah.1 h;have⟨z,h2,h⟩:=ah.1 h;cases h;have i1:=Sr hbad h1 (λ b hb'=>hb b (by simp[hb'])) (λ j hj=>oe j (by simp[hj]));obtain⟨i2,i3⟩:=NR hbad h2 (λ b hb'=>hb b (by simp[hb'])) (λ j hj=>oe j (by simp only[bE,List.flatten_cons,bV];exact .inr hj));exact⟨⟨i1,i2⟩,by simp[i3]⟩
theorem amD{x:AV}{t:Tree}(h:AW (fH get) fk os' x t):Hm (fH get) fk os' x (.d (.s t)):=by cases x<;>first|exact h|exact h.elim
theorem EI(sz:CT X.ι)(l:List (CT.T X.toSE sz)):fc (fH get) fk os' (aI (l.map (CT.row X.toSE sz))) (l.map (CT.row X.toSE sz)):=by
 generalize l.map (CT.row X.toSE sz)=rows
 induction rows with
 |nil=>trivial
 |cons r rs ih=>
  refine⟨?_,ih⟩
  induction r with
  |nil=>trivial
  |cons y ys ih2=>exact⟨rfl,ih2⟩
theorem amE(hbad:∀j,j∉bad->fk≠some j/\¬kept os' j){c:CT X.ι}{d:DV X}{x:CT.T X.toSE c×List Bool}(h:F7 get d c=some x)(oe:∀j∈bz d,j∉bad)(hb:∀b∈x.2,b=true):Hm (fH get) fk os' (den d) (.d (CT.tv X.toSE c x.1)):=by
 cases c
 case st i=>
  replace h:HK get d i=some x:=h
  cases d
  case agg cs=>
   simp[HK]at h;have⟨g,h1,h⟩:=ah.1 h;cases h;have:=Me (fk:=fk) hbad h1 hb (X.flat i) (by simpa[bz]using oe);show mm (fH get) fk os' (bO cs) (X.row i (X.make i g.1));rw[X.ii];exact this
  case c a y=>
   simp[HK]at h;have⟨z,h1,h⟩:=ah.1 h;cases h;rw[(o6 h1).1];show mm (fH get) fk os' ((X.row i z).map AV.t) (X.row i z);generalize X.row i z=l
   induction l with
   |nil=>trivial
   |cons y ys ih=>exact⟨rfl,ih⟩
  all_goals cases h
 all_goals
  have⟨t,i1,i2⟩:=Qv (fk:=fk) hbad rfl h hb oe;rw[i1];exact amD i2
theorem Xf{sf:List Nat}{wl:List (Nat×Nat)}{ns:List Nat}{n:Nat}(hbad:∀j,j∉bad->fk≠some j/\¬kept os' j)(ry:∀k,fk=some k->¬kept os' k)(hns:∀j eV,j∈sf->lk wl j=some eV->ns.getD j 0=eV)(hmu:∀j∈sf,kept os' j){q:RT X.ι}{ds:List (DV X)}{p:(RT.T X q×List Bool)×List (DV X)}(h:NP get bad sf fk wl n q ds=some p)(hb:∀b∈p.1.2,b=true):
 (∀ cs,oy (fH get) fk os' (bO p.2) cs->oy (fH get) fk os' (bO ds) (Wx ns q p.1.1++cs))/\
 (∀ t,qM q p.1.1=[some t]->∃o,get n=some o/\(bI o).sz=t.1/\fc (fH get) fk os' ((bI o).rows.take t.2.length) t.2)/\
 (∀ eV c,q=.mu c->lk wl n=some eV->Zl q p.1.1=[eV]):=by
 cases q
 case d c=>
  cases ds with
  |nil=>simp[NP]at h
  |cons d ds=>
   simp only[NP]at h;split at h;rename_i hnb;rw[ah]at h;obtain⟨x,h1,h⟩:=h;cases h;exact⟨λ cs hcs=>⟨amE hbad h1 (EH hnb) hb,hcs⟩,λt ht=>by simp[qM]at ht,λ_ _ h=>by cases h⟩;cases h
 case fresh e=>
  cases ds with
  |nil=>simp[NP]at h
  |cons d ds=>
   refine⟨λ cs hcs=>?_,λt ht=>by simp[qM]at ht,λ_ _ h=>by cases h⟩;simp[NP]at h;split at h;cases h;exact⟨rfl,hcs⟩;rename_i k len;split at h;rename_i oe;rw[ah]at h;obtain⟨o,h1,h⟩:=h;split at h;rename_i b l0;rw[ah]at h;obtain⟨l,h2,h⟩:=h;cases h;have⟨h3,h4⟩:=jH h2;have h5:(sub l 0 len).length=len:=(by simpa[aE]using hb (aE (sub l 0 len).length len) (by simp));refine⟨⟨oe,ry k oe,rfl,bI (.eE b l0),by simp[fH,h1],by exact h3,?_,by simpa using h5⟩,hcs⟩;have e1:(bI (.eE b l0)).rows.take len=aI ((sub l 0 len).map (CT.row X.toSE e)):=(by simp[bI,h4];simp[aI,sub]);rw[e1];exact EI e _;rename_i sz rows;split at h;rename_i hc;rw[ah]at h;obtain⟨x,h2,h⟩:=h;cases h;obtain⟨i1,i2⟩:=NR (fk:=fk) hbad h2 (λ b hb'=>hb b (by simp[hb'])) (EH hc.2);have h5:len=List.length x.1:=(by simpa[aE]using hb (aE len (List.length x.1)) (by simp));refine⟨⟨oe,ry k oe,rfl,bI (.cells sz rows),by simp[fH,h1],hc.1,?_,by simpa using h5.symm⟩,hcs⟩;simp[bI];rw[List.take_of_length_le (by simp;omega)];exact i1;cases h;cases h;cases h;cases h
 case whole j=>
  cases ds with
  |nil=>simp[NP]at h
  |cons d ds=>
   refine⟨λ cs hcs=>?_,λt ht=>by simp[qM]at ht,λ_ _ h=>by cases h⟩;simp[NP]at h;split at h;rename_i k len;split at h;rename_i hc;obtain⟨rfl,hm⟩:=hc;rw[ah]at h;obtain⟨eV,h1,h⟩:=h;cases h;have h5:len=eV:=(by simpa[aE]using hb (aE len eV) (by simp));have hm:k∈sf:=(by simpa using hm);refine⟨⟨rfl,rfl,?_,hmu k hm⟩,hcs⟩;rw[h5];exact hns k eV hm h1;cases h;cases h
 case mu c=>
  simp[NP]at h;rw[ah]at h;obtain⟨o,h1,h⟩:=h;split at h;rename_i b l0;rw[ah]at h;obtain⟨l,h2,h⟩:=h;have⟨h3,h4⟩:=jH h2;split at h;rename_i len hl;cases h;have h5:(sub l 0 len).length=len:=by simpa[aE]using hb (aE (sub l 0 len).length len) (by simp)
  refine⟨λ cs hcs=>hcs,λt ht=>?_,λeV c' _ hl'=>?_⟩;simp[qM]at ht;subst ht;refine⟨_,h1,by exact h3,?_⟩;have e1:(bI (.eE b l0)).rows.take (ve c (sub l 0 len)).2.length=aI (ve c (sub l 0 len)).2:=by simp[bI,h4,ve];simp[aI,sub]
  rw[e1];exact EI c _;rw[hl]at hl';injection hl' with hl';subst hl';simp[Zl,h5];rename_i hl;cases h;refine⟨λ cs hcs=>hcs,λt ht=>?_,λeV c' _ hl'=>by rw[hl]at hl';cases hl'⟩;simp[qM]at ht;subst ht;refine⟨_,h1,by simp[ve];exact h3,?_⟩;have e1:(bI (.eE b l0)).rows.take (ve c l).2.length=aI (ve c l).2:=by simp[bI,h4,ve];rw[List.take_of_length_le (by simp[aI])]
  rw[e1];exact EI c _;cases h
 case mr c=>
  simp[NP]at h;rw[ah]at h;obtain⟨o,h1,h⟩:=h;split at h;rename_i sz row;split at h;rename_i hc;have⟨x,h2,h⟩:=ah.1 h;cases h;refine⟨λ cs hcs=>hcs,λt ht=>?_,λ_ _ h=>by cases h⟩;simp[qM,List.cons.injEq,aZ,and_true]at ht;subst ht;refine⟨_,h1,by simp[bI,ve];exact hc.1,?_⟩;exact⟨Sr hbad h2 hb (EH hc.2),trivial⟩;cases h;cases h
 case mv=>
  simp[NP,aZ]at h;subst h;exact⟨λ cs hcs=>hcs,λt ht=>by simp[qM]at ht,λ_ _ h=>by cases h⟩
theorem IB{q:RT X.ι}{x:RT.T X q}:(qM q x).length=(if q.out then 1 else 0)/\(Zl q x).length=(if q.out then 1 else 0):=by cases q<;>exact⟨rfl,rfl⟩
theorem IC{n j:Nat}{q:RT X.ι}{l:List (RT X.ι)}:j∈sB n (q::l)->(j=n/\∃c,q=.mu c)\/j∈sB (if q.out then n+1 else n) l:=by
 cases q<;>simp only[sB,RT.out,if_true,Bool.false_eq_true,if_false,aR]
 case mu c=>exact λh=>h.imp (λ h=>⟨h,c,rfl⟩) id
 all_goals exact .inr
theorem ahi{j:Nat}:∀{l:List (RT X.ι)}{n:Nat},j∈sB n l->n<=j
 |[],n,h=>by simp[sB]at h
 |q::l,n,h=>by rcases IC h with ⟨rfl,_⟩|h;exact aB _;have:=ahi h;split at this<;>omega
theorem aeD:∀{l:List (RT X.ι)}{x:tK X l}{n j:Nat},j∈sB n l->∃p,(oH l x)[j-n]? =some (some p)
 |[],x,n,j,h=>by simp[sB]at h
 |[q],x,n,j,h=>by rcases IC h with ⟨rfl,c,rfl⟩|h;exact⟨_,by simp;rfl⟩;simp[sB]at h
 |q::q'::l,x,n,j,h=>by
  rcases IC h with ⟨rfl,c,rfl⟩|h;exact⟨_,by simp;rfl⟩;have⟨p,hp⟩:=aeD (l:=q'::l) (x:=x.2) h;have hge:=ahi h;refine⟨p,?_⟩;show(qM q x.1++oH (q'::l) x.2)[j-n]? =_;have hl:=(IB (q:=q) (x:=x.1)).1
  all_goals grind
theorem Dl:∀{l:List (RT X.ι)}{x:tK X l}{n j:Nat}{p:fC},(oH l x)[j]? =some (some p)->n+j∈Dk n l
 |[],x,n,j,p,h=>by simp[oH]at h
 |[q],x,n,j,p,h=>by
  have h:(qM q x)[j]? =some (some p):=h;cases q<;>simp[qM]at h
  case mu c=>cases j<;>simp at h<;>simp[Dk]
  case mr c=>cases j<;>simp at h<;>simp[Dk]
  case mv=>cases j<;>simp at h
 |q::q'::l,x,n,j,p,h=>by
  have h:(qM q x.1++oH (q'::l) x.2)[j]? =some (some p):=h;cases q
  case mu c=>
   rcases j with _|j;simp[Dk];have:=Dl (l:=q'::l) (x:=x.2) (n:=n+1) (by simpa[qM]using h);right;rw[show n+(j+1)=n+1+j by omega];exact this
  case mr c=>
   rcases j with _|j;simp[Dk];have:=Dl (l:=q'::l) (x:=x.2) (n:=n+1) (by simpa[qM]using h);right;rw[show n+(j+1)=n+1+j by omega];exact this
  case mv=>
   rcases j with _|j;simp[qM]at h;have:=Dl (l:=q'::l) (x:=x.2) (n:=n+1) (by simpa[qM]using h);rw[show n+(j+1)=n+1+j by omega];exact this
  all_goals
   exact Dl (l:=q'::l) (x:=x.2) (by simpa[qM]using h)
theorem aeE{sf:List Nat}{wl:List (Nat×Nat)}{n:Nat}{q:RT X.ι}{ds:List (DV X)}{p:(RT.T X q×List Bool)×List (DV X)}(h:NP get bad sf fk wl n q ds=some p)(hb:∀b∈p.1.2,b=true):∀eV c,q=.mu c->lk wl n=some eV->Zl q p.1.1=[eV]:=by
 rintro eV c rfl hl;simp[NP]at h;have⟨o,h1,h⟩:=ah.1 h;split at h;have⟨l,h2,h⟩:=ah.1 h;rw[hl]at h;cases h;have h5:(sub l 0 eV).length=eV:=by simpa[aE]using hb (aE (sub l 0 eV).length eV) (by simp)
 simp[Zl,h5];cases h
theorem Mf{sf:List Nat}{wl:List (Nat×Nat)}:∀{n:Nat}{l:List (RT X.ι)}{ds:List (DV X)}{x:tK X l×List Bool},NQ get bad sf fk wl n l ds=some x->(∀ b∈x.2,b=true)->∀j eV,n+j∈sB n l->lk wl (n+j)=some eV->(y6 l x.1).getD j 0=eV
 |n,[],ds,x,h,hb,j,eV,hm,_=>by simp[sB]at hm
 |n,[q],ds,x,h,hb,j,eV,hm,hl=>by
  simp[NQ]at h;have⟨p,h1,h⟩:=ah.1 h;split at h;cases h;rcases IC hm with ⟨e,c,rfl⟩|hm;have e:j=0:=by omega
  subst e;have:=(aeE h1 hb) eV c rfl hl;show(Zl _ p.1.1).getD 0 0=eV;rw[this];rfl;simp[sB]at hm;cases h
 |n,q::q'::l,ds,x,h,hb,j,eV,hm,hl=>by
  simp[NQ]at h;have⟨p,h1,h⟩:=ah.1 h;have⟨y,h2,h⟩:=ah.1 h;cases h;have hlen:=(IB (q:=q) (x:=p.1.1)).2;rcases IC hm with ⟨e,c,rfl⟩|hm;have e:j=0:=by omega
  subst e;have:=(aeE h1 (λ b hb'=>hb b (by simp[hb']))) eV c rfl hl;show(Zl _ p.1.1++y6 (q'::l) y.1).getD 0 0=eV;rw[this];rfl;have hge:=ahi hm;show(Zl _ p.1.1++y6 (q'::l) y.1).getD j 0=eV;by_cases hq:q.out=true;rw[aX hq]at h2 hm hge hlen;have:=Mf h2 (λ b hb'=>hb b (by simp[hb'])) (j-1) eV ((show n+1+(j-1)=n+j by omega) ▸ hm) ((show n+1+(j-1)=n+j by omega) ▸ hl);rw[List.getD_eq_getElem?_getD,pJ (by omega),hlen];exact this;rw[aU hq]at h2 hm hge hlen;have:=Mf h2 (λ b hb'=>hb b (by simp[hb'])) j eV hm hl;rw[List.getD_eq_getElem?_getD,pJ (by omega),hlen];exact this
theorem aaX{sf:List Nat}{wl:List (Nat×Nat)}{ns:List Nat}(hbad:∀j,j∉bad->fk≠some j/\¬kept os' j)(ry:∀k,fk=some k->¬kept os' k)(hns:∀j eV,j∈sf->lk wl j=some eV->ns.getD j 0=eV)(hmu:∀j∈sf,kept os' j):∀{n:Nat}{l:List (RT X.ι)}{ds:List (DV X)}{x:tK X l×List Bool},NQ get bad sf fk wl n l ds=some x->(∀ b∈x.2,b=true)->
 oy (fH get) fk os' (bO ds) (BB ns l x.1)/\∀j t,(oH l x.1)[j]? =some (some t)->∃o,get (n+j)=some o/\(bI o).sz=t.1/\fc (fH get) fk os' ((bI o).rows.take t.2.length) t.2
 |n,[],ds,x,h,_=>by simp[NQ]at h;split at h;exact⟨trivial,λj t ht=>by simp[oH]at ht⟩;cases h
 |n,[q],ds,x,h,hb=>by
  simp[NQ]at h;rw[ah]at h;obtain⟨p,h1,h⟩:=h;split at h;rename_i hp;cases h;have⟨i1,i2,_⟩:=Xf (ns:=ns) hbad ry hns hmu h1 hb;rw[hp]at i1;have:=i1 [] trivial;rw[append_nil]at this;refine⟨this,λj t ht=>?_⟩;have ht:(qM q p.1.1)[j]? =some (some t):=ht;have hl:=(IB (q:=q) (x:=p.1.1)).1;have hj:=(dH.1 ht).1;have hj0:j=0:=by split at hl<;>omega
  subst hj0;refine i2 t ?_
  match ho:qM q p.1.1,ht,hl with
  |[z],ht,_=>simpa using ht
  |[],ht,_=>simp at ht
  |_::_::_,_,hl=>simp at hl;split at hl<;>omega
  cases h
 |n,q::q'::l,ds,x,h,hb=>by
  simp[NQ]at h;have⟨p,h1,h⟩:=ah.1 h;have⟨y,h2,h⟩:=ah.1 h;cases h;obtain⟨i1,i2,_⟩:=Xf (ns:=ns) hbad ry hns hmu h1 (λ b hb'=>hb b (by simp[hb']));obtain⟨k1,k2⟩:=aaX (ns:=ns) hbad ry hns hmu h2 (λ b hb'=>hb b (by simp[hb']));refine⟨i1 _ k1,λj t ht=>?_⟩;have ht:(qM q p.1.1++oH (q'::l) y.1)[j]? =some (some t):=ht;have hl:=(IB (q:=q) (x:=p.1.1)).1;by_cases hq:q.out=true;rw[aX hq]at k2 hl;cases j with
  |zero=>
   refine i2 t ?_
   match ho:qM q p.1.1,ht,hl with
   |[z],ht,_=>simpa using ht
   |[],_,hl|_::_::_,_,hl=>simp at hl
  |succ j=>
   rw[pJ (by omega),hl,Nat.add_sub_cancel]at ht;rw[show n+(j+1)=n+1+j by omega];exact k2 j t ht
  rw[aU hq]at k2 hl;rw[pJ (by omega),hl,Nat.sub_zero]at ht;exact k2 j t ht
end
theorem oy.R{get:Nat->Option aP}{fk:Option Nat}{os':List (Option fC)}:∀{xs:List AV}{cs:List RC},oy get fk os' xs cs->Hk get fk os' xs (match cs with|[c]=>.one c|cs=>.fj cs)
 |[],[],_=>rfl
 |[_],[_],h=>h.1
 |_::_::_,_::_::_,h=>h
 |[],_::_,h|_::_,[],h=>h.elim
 |[_],_::_::_,h|_::_::_,[_],h=>h.2.elim
theorem amF{s:d8 X}{rs:List ResultVar}{l:List (RT X.ι)}{r:tK X l}(h:(Zp T s rs λds=>(SO s l ds).bind λx=>Wi x.2 (some x.1))=some r):∃xs fk,nS T s.st rs=some xs/\Hk s.st.obj fk (oH l r) xs (tX l r)/\PQ s.st.obj fk (oH l r):=by
 have⟨ds,h1,h⟩:=Kb T h;rw[ah]at h;obtain⟨x,h2,h⟩:=h;have⟨h3,h⟩:=qi h;cases h;unfold SO at h2;split at h2;rename_i hnb;have hkn:∀j,kept (oH l x.1) j->j∈Dk 0 l:=λj ⟨p,hp⟩=>by have:=Dl (n:=0) hp;simpa using this
 have hbad:∀j,j∉Dk 0 l++(Qu l ds).toList->Qu l ds≠some j/\¬kept (oH l x.1) j:=by intro j hj;simp at hj;exact⟨hj.2,λh=>hj.1 (hkn j h)⟩
 have ry:∀k,Qu l ds=some k->¬kept (oH l x.1) k:=λk hk hkk=>EH hnb k (by simp[hk]) (hkn k hkk);have hmu:∀j∈sB 0 l,kept (oH l x.1) j:=λj hj=>by have⟨p,hp⟩:=aeD (x:=x.1) hj;exact⟨p,by simpa using hp⟩
 obtain⟨i1,i2⟩:=aaX (ns:=y6 l x.1) hbad ry (λ j eV hj hl=>Mf h2 h3 j eV (by simpa using hj) (by simpa using hl)) hmu h2 h3;have iz:s.st.obj=fH (iu s.obj):=rfl;refine⟨bO ds,Qu l ds,Qt T h1,?_,λj p hp=>?_⟩;exact i1.R;have⟨o,g1,g2,g3⟩:=i2 j p hp;rw[Nat.zero_add]at g1;exact⟨λ e=>ry j e ⟨p,hp⟩,bI o,by rw[iz];simp[fH,g1],g2,by rw[iz];exact g3⟩;cases h2
variable {Γ:FuncId->Option (cx X)} {al:TypeId->Option (CT X.ι)} {P:Program}
theorem aqZ(hT : fw P T)(hm : P.follows .mixedOrders = true)(hΓ : td P Γ){f : FuncId}{fn : Func}{c : Code}(hfn : P.funcs[f]? = some fn)(hb : fn.body = some c)(hname : (fn.name == "runtime.NumGoroutine") = false)(sa : List (AT X.ι))(sr : List (RT X.ι))(hN : sa.length <= fn.ntmps /\ wS sa <= 1000 /\ (sr.filter RT.out).length = wS sa)
 (h:Hn X.ι) (n:Nat) {a:je X sa} {r:tK X sr} (hr:run Γ T al fn.ntmps n c (tK X sr) h (B5 sa a) (aqY T fn.results.toList sr)=some r):qu P f (wR sa a) (vg sa a) (oH sr r) (tX sr r):=by
 have hl:(oH sr r).length=(vg sa a).length:=by
  rw[wU,<- hN.2.2];have:∀(sr:List (RT X.ι))(r:tK X sr),(oH sr r).length=(sr.filter RT.out).length:=by
   intro sr
   induction sr with
   |nil=>intro r;rfl
   |cons q l ih=>
    intro r;have hq:∀x:RT.T X q,(qM q x).length=(if q.out then 1 else 0):=λx=>IB.1;cases l with
    |nil=>
     show(qM q r).length=_;rw[hq];by_cases e:q.out=true<;>simp[e]
    |cons q' l=>
     show(qM q r.1++oH (q'::l) r.2).length=_;rw[fP,hq,ih r.2];by_cases e:q.out=true<;>simp[e];omega
  exact this sr r
 refine akn hT hfn hb hname (by rw[ug];exact hN.1) (λ k hk=>?_) (by rw[wU];exact hN.2.1) hl ?_;rw[wR,<- yS,jo]at hk;have:=pW 0 sa a k hk;have:=hN.2.1;omega;rw[<- aql];refine(lG hT hm hΓ c _ h _ _ r (aoO sa a hN.2.1) hr).mono ?_;rintro e σ ⟨s',_,_,rfl,g4⟩;cases e<;>first|exact amF g4|cases g4
theorem nN{f : FuncId}{fn : Func}{c : Code}(hfn : P.funcs[f]? = some fn)(hb : fn.body = some c)(hname : (fn.name == "runtime.NumGoroutine") = false): eG P f := ⟨fn, hfn, by rw [hb]; rfl, hname⟩
abbrev Bm(P:Program)(f:FuncId)(s:cx X):Prop:=eG P f/\(∀ a r,s.fn a=some r->qu P f (wR s.args a) (vg s.args a) (oH s.res r) (tX s.res r))/\∀g,s.gen=some g->Hi P f g
theorem yn{P:Program}{f:FuncId}{s:cx X}(h:eG P f)(h1:∀a r,s.fn a=some r->qu P f (wR s.args a) (vg s.args a) (oH s.res r) (tX s.res r))(hg:s.gen=none):Bm P f s:=by grind
theorem P1{P:Program}{f:FuncId}{g:dp X}(h:eG P f)(hg:Hi P f g):Bm P f ⟨[],[.d .bool],λ_=>none,some g⟩:=by grind
def pw(s t:cx X):cx X:=⟨s.args,s.res,s.fn,t.gen⟩
def yf(l:List (FuncId×cx X)):FuncId->Option (cx X):=λf=>lk l f
theorem aA:td P (yf ([]:List (FuncId×cx X))):=λ_ _ h=>by cases h
theorem ak{f:FuncId}{s:cx X}{l:List (FuncId×cx X)}(h:Bm P f s)(hl:td P (yf l)):td P (yf ((f,s)::l)):=by intro g q hg;simp[yf,lk]at hg;split at hg;rename_i e;cases hg;subst e;exact h;exact hl g q hg
end
section
variable {X:SX} {T:eI}
theorem Mg(ol:Nat->Nat):∀(ps:List (Pt X.ι))(L:List (DC X)),(lR ol ps L).1.length=ps.length
 |[],_=>rfl
 |p::ps,L=>by simp[lR,Mg ol ps]
def dp.B6(g:dp X):Bool:=
 decide (g.kf.map (·.1)=List.range g.kf.length)&&decide (g.kf.length<=1000)&&((BG g.p7).all λk=>Nat.blt k 1000)&&g.kf.all λq=>q.2.refs.all λk=>Nat.blt k 1000
def Hs(g:dp X)(v:VT (X:=X) (cX g.p7++d6 g.kf)):d8 X:=⟨(List.range g.p7.length).zip (g.args v),N4 g.p7 g.kf (wP _ v),1000,[]⟩
theorem vH{ol:Nat->Nat}:∀(O:List (Nat×OP X.ι))(L:List (DC X)),cZ ol O L=(dK (cZ ol O L)).map λp=>(p.1,some p.2)
 |[],L=>rfl
 |(k,.l c)::O,L=>by
  match L with
  |[]=>rfl
  |⟨.sl c',x⟩::L=>simp[cZ,dK];rw[<- vH O L]
  |⟨.int _,x⟩::L|⟨.bool,x⟩::L|⟨.str,x⟩::L|⟨.any,x⟩::L|⟨.st _,x⟩::L|⟨.mp _ _,x⟩::L=>rfl
 |(k,.m kc vc)::O,L=>by
  match L with
  |[]=>rfl
  |⟨.mp _ _,x⟩::L=>simp[cZ,dK];rw[<- vH O L]
  |⟨.sl _,x⟩::L|⟨.int _,x⟩::L|⟨.bool,x⟩::L|⟨.str,x⟩::L|⟨.any,x⟩::L|⟨.st _,x⟩::L=>rfl
 |(k,.c sz rows)::O,L=>by simp[cZ,dK];rw[<- vH O _]
theorem EJ{ol:Nat->Nat}:∀(O:List (Nat×OP X.ι))(L:List (DC X)),L.map (·.c)=d6 O->(dK (cZ ol O L)).map (·.1)=O.map (·.1)
 |[],L,_=>rfl
 |(k,.l c)::O,L,h=>by
  match L,h with
  |⟨.sl c',x⟩::L,h=>
   simp[d6]at h;simp[cZ,dK,EJ O L h.2]
  |[],h|⟨.int _,x⟩::L,h|⟨.bool,x⟩::L,h|⟨.str,x⟩::L,h|⟨.any,x⟩::L,h|⟨.st _,x⟩::L,h|⟨.mp _ _,x⟩::L,h=>simp[d6]at h
 |(k,.m kc vc)::O,L,h=>by
  match L,h with
  |⟨.mp _ _,x⟩::L,h=>
   simp[d6]at h;simp[cZ,dK,EJ O L h.2]
  |[],h|⟨.sl _,x⟩::L,h|⟨.int _,x⟩::L,h|⟨.bool,x⟩::L,h|⟨.str,x⟩::L,h|⟨.any,x⟩::L,h|⟨.st _,x⟩::L,h=>simp[d6]at h
 |(k,.c sz rows)::O,L,h=>by simp[cZ,dK,EJ O _ (Mc (ol:=ol) rows L _ h).1]
theorem akR(g:dp X)(v:VT (X:=X) (cX g.p7++d6 g.kf))(h:g.kf.map (·.1)=List.range g.kf.length):(g.cR v).map (·.1)=List.range (g.cR v).length:=by have e:(g.cR v).map (·.1)=g.kf.map (·.1):=EJ g.kf _ (by rw[List.map_drop,ahc,List.drop_left]);have l:=congrArg List.length e;rw[length_map,length_map]at l;rw[e,h,l]
theorem Xg(k:Nat):∀l:List (Nat×bo X),iu (l.map λp=>(p.1,some p.2)) k=tU l k
 |[]=>rfl
 |p::l=>by simp[iu,lk,tU];split;rfl;exact Xg k l
theorem amG(t:Nat):∀(ks:List Nat)(ds:List (DV X)),den (fy (ks.zip ds) t)=(lk (ks.zip (bO ds)) t).getD .undef:=by
 intro ks
 induction ks with
 |nil=>intro ds;rfl
 |cons k ks ih=>
  intro ds;cases ds with
  |nil=>rfl
  |cons d ds=>
   simp[fy,lk,bO];by_cases h:k=t;simp[h];simp[aU h];exact ih ds
theorem aaY(t:Nat):∀(ks:List Nat)(ds:List (DV X)),∀j∈bz (fy (ks.zip ds) t),j∈aL ds:=by
 intro ks
 induction ks with
 |nil=>intro ds j hj;simp[fy,lk,bz]at hj
 |cons k ks ih=>
  intro ds j hj;cases ds with
  |nil=>simp[fy,lk,bz]at hj
  |cons d ds=>
   simp[fy,lk]at hj;simp[aL];by_cases e:k=t;simp[aX e]at hj;exact .inl hj;simp[aU e]at hj;exact .inr (ih ds j hj)
def EK(O:List (Nat×OP X.ι)):List (Nat×Pt X.ι)->List (Nat×CT X.ι)
 |[]=>[]
 |(t,.o k)::r=>match lk O k with
  |some (.l c)=>(t,c)::EK O r
  |_=>EK O r
 |(t,.oz k)::r=>match lk O k with
  |some (.l c)=>(t+1099511627776,c)::EK O r
  |_=>EK O r
 |_::r=>EK O r
def Xh(O:List (Nat×OP X.ι)):List (Nat×OP X.ι)->List (Nat×CT X.ι)
 |(q,.c _ [row])::r=>(EK O (ma (1000000+q*4096) row)).filter (λ p=>Nat.ble p.1 1000000000)++Xh O r
 |_::r=>Xh O r
 |[]=>[]
def AA(g:dp X):Sh X.ι:=⟨ma 0 g.gz,g.ka,[],[],1000000,EK g.ka (ma 0 g.gz)++Xh g.ka g.ka⟩
def apW(T:eI)(rs:List ResultVar)(g:dp X):Exit->d8 X->Option (VT (X:=X) (AA g).vars)
 |.normal,s=>Zp T s rs λds=>bif decide (ds.length=g.gz.length)&&(aL ds).all (λ k=>Nat.blt k s.nx)then
  uf (AA g) (List.range ds.length) ⟨(List.range ds.length).zip ds,s.obj,s.nx,s.log⟩ ⟨(List.range ds.length).zip ds,s.obj,s.nx,s.log⟩ some else none
 |.ret,s=>Zp T s rs λds=>bif decide (ds.length=g.gz.length)&&(aL ds).all (λ k=>Nat.blt k s.nx)then
  uf (AA g) (List.range ds.length) ⟨(List.range ds.length).zip ds,s.obj,s.nx,s.log⟩ ⟨(List.range ds.length).zip ds,s.obj,s.nx,s.log⟩ some else none
 |_,_=>none
theorem Xi{ol:Nat->Nat}(t:Nat):∀(n:Nat)(ps:List (Pt X.ι))(L:List (DC X)),fy (L8 ol (ma n ps) L) (n+t)=((lR ol ps L).1[t]?).getD .undef
 |n,[],L=>by simp[ma,L8,fy,lk,lR]
 |n,p::ps,L=>by
  simp[ma,L8,fy,lk,lR];cases t with
  |zero=>simp
  |succ t=>
   have:=Xi (ol:=ol) t (n+1) ps (eP ol p L).2;rw[show n+1+t=n+(t+1)by omega]at this;simpa[fy]using this
theorem akS {P:Program} {g:dp X} {s:d8 X} {rs:List ResultVar} {r:VT (X:=X) (AA g).vars} (hl:Low s) (h:(Zp T s rs λds=>bif decide (ds.length=g.gz.length)&&(aL ds).all (λ k=>Nat.blt k s.nx)then
 uf (AA g) (List.range ds.length) ⟨(List.range ds.length).zip ds,s.obj,s.nx,s.log⟩ ⟨(List.range ds.length).zip ds,s.obj,s.nx,s.log⟩ some else none)=some r):
 ∃xs,nS T s.st rs=some xs/\PP P s.st.obj xs (tV (g.outs r)) (den (g.res r)):=by
 have⟨ds,h1,h⟩:=Kb T h;have⟨h2,h⟩:=eD h;simp only[bK,bT]at h2;obtain⟨h2,h3⟩:=h2;have hl':Low (⟨(List.range ds.length).zip ds,s.obj,s.nx,s.log⟩:d8 X):=⟨hl.le,hl.ge,λt k hk=>by have:=all_eq_true.1 h3 k (aaY t _ _ k hk);exact Nat.blt_eq.mp this,hl.obj⟩;obtain⟨v,h4,_,_,hrel⟩:=lT hl' hl' (Ext.refl _ _) h;injection h4 with h4;subst h4;refine⟨bO ds,Qt T h1,λw0 O0 β I w vs hM hv=>?_⟩;have hvl:=bk.length _ _ hv;simp[lN]at hvl;have hR:Rel P w0 O0 vs.size β I (⟨(List.range ds.length).zip ds,s.obj,s.nx,s.log⟩:d8 X).st { tmps:=vs,defers:=[] } w:=by
  refine⟨rfl,rfl,λt=>?_,hM⟩;show VR P β w I (den (fy ((List.range ds.length).zip ds) t)) (vs.getD t undef);rw[amG,show List.range ds.length=List.range (bO ds).length by rw[lN],Bw];cases ht:(bO ds)[t]? with
  |none=>simp[VR]
  |some x=>
   obtain⟨u,g1,g2⟩:=bk.get _ _ t _ hv ht;rw[Array.getElem?_toList]at g1;simp[g1];exact g2
 obtain⟨β',hR'⟩:=hrel P w0 O0 _ β I _ w hR;have hn:(jj (ma 0 g.gz)).length=(cX g.gz).length:=by rw[Ql]
 refine⟨β',I,?_,λ_ h=>h,?_⟩;have:=hR'.mem;have e:(encS (AA g) ⟨(List.range ds.length).zip ds,s.obj,s.nx,s.log⟩ v).st.obj=oS (tV (g.outs v)):=by funext k;simp[d8.st,encS,AA,Qp,dp.outs,N4];rw[vH,Xg,<- hn];rfl
 rw[e]at this;exact this;obtain⟨pv,hpv⟩:∃pv,pv=Ww g.gz g.ka (wP (AA g).vars v):=⟨_,rfl⟩;have hres:g.res v=y9 pv:=by rw[hpv];rfl
 have sE:∀t,VR P β' w I (den ((pv[t]?).getD .undef)) (vs.getD t undef):=by intro t;have:=hR'.env t;simp only[d8.st,ga,encS,AA,List.map_nil,append_nil]at this;have e:=Xi (ol:=Ey g.ka ((wP (AA g).vars v).drop (cX g.gz).length)) t 0 g.gz ((wP (AA g).vars v).take (cX g.gz).length);rw[Nat.zero_add]at e;rw[hpv];simp only[Ww];rw[<- e,<- hn];exact this
 have hpl:pv.length=g.gz.length:=by rw[hpv];exact Mg _ _ _
 have hsz:vs.size=pv.length:=by rw[hpl,<- h2,hvl]
 rw[hres];have hall:bk P β' w I (bO pv) vs.toList:=by
  have gen:∀(pv:List (DV X))(us:List Value),us.length=pv.length->(∀ t,t<pv.length->VR P β' w I (den ((pv[t]?).getD .undef)) (us.getD t undef))->bk P β' w I (bO pv) us:=by
   intro pv
   induction pv with
   |nil=>intro us hl _;cases us<;>simp_all [bO,bk]
   |cons d pv ih=>
    intro us hl hh;cases us with
    |nil=>simp at hl
    |cons u us=>
     simp[bO];refine⟨by simpa using hh 0 (by simp),ih us (by simpa using hl) λt ht=>by simpa using hh (t+1) (by simpa using ht)⟩
  refine gen pv vs.toList (by simpa using hsz) λt ht=>?_;have e:vs.toList.getD t undef=vs.getD t undef:=by simp
  rw[e];exact sE t
 match pv,hsz,hall with
 |[d],hsz,hall=>
  obtain⟨u,rfl⟩:=Array.size_eq_one_iff.1 (show vs.size=1 by simpa using hsz);simp only[bO,bk]at hall;simpa[y9]using hall.1
 |[],hsz,hall=>
  have h1:¬vs.size=1:=by rw[hsz];simp
  rw[dif_neg h1];simp only[y9,den,VR];exact⟨vs,rfl,hall⟩
 |d::e::pv,hsz,hall=>
  have h1:¬vs.size=1:=by rw[hsz];simp
  rw[dif_neg h1];simp only[y9,den,VR];exact⟨vs,rfl,hall⟩
variable {Γ:FuncId->Option (cx X)} {al:TypeId->Option (CT X.ι)} {P:Program}
theorem aqm(hT : fw P T)(hm : P.follows .mixedOrders = true)(hΓ : td P Γ){f : FuncId}{fn : Func}{c : Code}(hfn : P.funcs[f]? = some fn)(hb : fn.body = some c)(hname : (fn.name == "runtime.NumGoroutine") = false)(g : dp X)(hN : g.p7.length <= fn.ntmps)(hin : g.B6 = true)
 (h:Hn X.ι) (n:Nat) (hr:∀v (r:VT (X:=X) (AA g).vars),g.fn v=some r->run Γ T al fn.ntmps n c (VT (X:=X) (AA g).vars) h (Hs g v) (apW T fn.results.toList g)=some r):Hi P f g:=by
 intro v r hv;have hrun:=hr v r hv;simp only[dp.B6,bK,bT]at hin;obtain⟨⟨⟨i1,i2⟩,i3⟩,i4⟩:=hin;obtain⟨s1,s2,_⟩:=ze (ol:=Ey g.kf ((wP (cX g.p7++d6 g.kf) v).drop (cX g.p7).length)) g.kf ((wP _ v).drop (cX g.p7).length);have hargs:∀k∈aL (g.args v),k<1000:=λk hk=>Nat.blt_eq.mp (all_eq_true.1 i3 k (zb g.p7 _ k hk));have tR:∀p∈g.cR v,p.1<1000/\∀j∈ev p.2,j<1000:=by intro p hp;have⟨op,g1,g2⟩:=s2 p hp;have hk:p.1∈g.kf.map (·.1):=mem_map.2 ⟨_,g1,rfl⟩;rw[i1]at hk;have:=List.mem_range.1 hk;exact⟨by omega,λj hj=>Nat.blt_eq.mp (all_eq_true.1 (all_eq_true.1 i4 _ g1) j (g2 j hj))⟩
 have hal:(g.args v).length=g.p7.length:=Mg _ _ _;have hkeys:(g.cR v).map (·.1)=List.range (g.cR v).length:=akR g v i1;have iz:∀k,iu (Hs g v).obj k=tU (g.cR v) k:=by intro k;show iu (cZ _ g.kf _) k=tU (dK (cZ _ g.kf _)) k;rw[vH,Xg,<- vH]
 have WF:∀(l:List (Nat×bo X))(n:Nat),l.map (·.1)=(List.range l.length).map (n+ ·)->∀k,tU l (n+k)=(l[k]?).map (·.2):=by
  intro l
  induction l with
  |nil=>intro n _ k;rfl
  |cons p l ih=>
   intro n hn k;rw[dX,List.range_succ_eq_map,bE,bE,map_map]at hn;injection hn with e1 e2;simp[tU];cases k with
   |zero=>rw[aX (by omega)];rfl
   |succ k=>
    rw[aU (by omega),show n+(k+1)=(n+1)+k by omega,ih (n+1) (by rw[e2];refine map_congr_left λa _=>?_;simp;omega) k];rfl
 have hlow:Low (Hs g v):=by
  refine⟨by show 1000<=1000000;decide,aB _,λt k hk=>hargs k (aaY t _ _ k hk),λk o ho=>?_⟩;rw[iz]at ho;have hmem:∀(l:List (Nat×bo X)),tU l k=some o->(k,o)∈l:=by
   intro l
   induction l with
   |nil=>intro h;simp[tU]at h
   |cons p l ih=>
    intro h;simp[tU]at h;split at h;rename_i e;cases h;subst e;exact List.mem_cons_self;exact eY _ (ih h)
  exact tR _ (hmem _ ho)
 refine ako hT hfn hb hname (by rw[lN,hal];exact hN) (λ k hk=>hargs k (by rwa [jo]at hk)) (by rw[length_map,<- length_map (f:=Prod.fst),hkeys,List.length_range];have:=s1.length_le;rw[length_map,length_map]at this;exact Nat.le_trans this i2) ?_ ?_;intro o ho r' hr' x hx j hj;obtain⟨p,hp,rfl⟩:=mem_map.1 ho;exact(tR p hp).2 j (WW hr' hx j hj);have e:sm.st ⟨(List.range (bO (g.args v)).length).zip (bO (g.args v)),(List.range ((g.cR v).map λp=>bI p.2).length).zip ((g.cR v).map λp=>bI p.2)⟩=(Hs g v).st:=by simp only[d8.st,sm.st,St.mk.injEq,and_true];refine⟨?_,?_⟩;funext t;simp[Hs];rw[amG,lN,hal];funext k;rw[Bw,iz,List.getElem?_map];have:=WF (g.cR v) 0 (by rw[hkeys];simp) k;rw[Nat.zero_add]at this;rw[this,Option.map_map];rfl
 rw[e];refine(lG hT hm hΓ c _ h _ _ r hlow hrun).mono ?_;rintro e σ ⟨s',hl',_,rfl,g4⟩;cases e<;>first|exact akS hl' g4|cases g4
end
section
variable {P:Program} {f F:FuncId} {E:TypeId} {α:Type} {enc:α->Value} {d:α}
end
section
variable {X:SX}
end
section
variable {X:SX}
def Gi{α β:Type}(f:α->Option β):List α->Option (List β)
 |[]=>some []
 |x::xs=>(f x).bind λy=>(Gi f xs).bind λys=>some (y::ys)
def B3(dq:(i j:X.ι)->Decidable (i=j))(i:X.ι):CT X.ι->Option CS
 |.int k=>some (.int k)
 |.bool=>some .bool
 |.str=>some .str
 |.sl (.st j)=>match dq j i with
  |.isTrue _=>some .back
  |.isFalse _=>none
 |_=>none
def apX(dq:(i j:X.ι)->Decidable (i=j))(i:X.ι):Bool:=(X.da i).any λc=>match c with
 |.sl (.st j)=>match dq j i with
  |.isTrue _=>true
  |.isFalse _=>false
 |_=>false
def aq0(dq:(i j:X.ι)->Decidable (i=j)):CT X.ι->Option (List CS)
 |.st i=>bif apX dq i then Gi (B3 dq i) (X.da i)else none
 |_=>none
theorem aqn(dq:(i j:X.ι)->Decidable (i=j)){i:X.ι}{row:List CS}(hm:Gi (B3 dq i) (X.da i)=some row){x:Tree}(h:HS row x):∃l:List (CT.T X.toSE (.st i)),x=.sl (l.map (CT.row X.toSE (.st i))):=by
 refine HS.rec (row:=row) (motive_1:=λx _=>∃l:List (CT.T X.toSE (.st i)),x=.sl (l.map (CT.row X.toSE (.st i)))) (motive_2:=λrows _=>∃l:List (CT.T X.toSE (.st i)),rows=l.map (CT.row X.toSE (.st i)))
  (motive_3:=λcs r _=>∀codes:List (CT X.ι),Gi (B3 dq i) codes=some cs->∃h:HL X.toSE codes,r=HL.row X.toSE codes h) ?_ ?_ ?_ ?_ ?_ ?_ h
 rintro rows _ _ ⟨l,rfl⟩;exact⟨l,rfl⟩;exact⟨[],rfl⟩;rintro r rs _ _ h1 ⟨l,rfl⟩;obtain⟨q,rfl⟩:=h1 _ hm;exact⟨(X.make i q:X.T i)::l,by rw[bE];congr 1;exact(X.ii i q).symm⟩;intro codes hc;cases codes with
 |nil=>exact⟨(),rfl⟩
 |cons c codes=>
  simp only[Gi,ah]at hc;obtain⟨_,_,_,_,h⟩:=hc;cases h
 intro cs x xs _ _ h1 h2 codes hc;obtain⟨l,rfl⟩:=h1;cases codes with
 |nil=>simp[Gi]at hc
 |cons c codes=>
  simp only[Gi,ah]at hc;obtain⟨c',g1,cs',g2,g3⟩:=hc;injection g3 with g3;injection g3 with g4 g5;subst g4 g5;obtain⟨q,rfl⟩:=h2 _ g2
  match c,g1 with
  |.sl (.st j),g1=>
   simp[B3]at g1;split at g1;rename_i hj _;subst hj;exact⟨(l,q),rfl⟩;cases g1
  |.int _,g1|.bool,g1|.str,g1|.any,g1|.st _,g1|.mp _ _,g1|.sl (.int _),g1|.sl .bool,g1|.sl .str,g1|.sl .any,g1|.sl (.sl _),g1|.sl (.mp _ _),g1=>simp[B3]at g1
 intro c' cs x xs hf _ h2 codes hc;cases codes with
 |nil=>simp[Gi]at hc
 |cons c codes=>
  simp only[Gi,ah]at hc;obtain⟨c2,g1,cs',g2,g3⟩:=hc;injection g3 with g3;injection g3 with g4 g5;subst g4 g5;obtain⟨q,rfl⟩:=h2 _ g2
  match c,g1 with
  |.int k,g1=>
   cases g1;obtain⟨n,rfl,_⟩:=hf;exact⟨(n,q),rfl⟩
  |.bool,g1=>
   cases g1;obtain⟨n,rfl⟩:=hf;exact⟨(n,q),rfl⟩
  |.str,g1=>
   cases g1;obtain⟨n,rfl,_⟩:=hf;exact⟨(n,q),rfl⟩
  |.sl (.st j),g1=>
   simp[B3]at g1;split at g1;cases g1;exact hf.elim;cases g1
  |.any,g1|.st _,g1|.mp _ _,g1|.sl (.int _),g1|.sl .bool,g1|.sl .str,g1|.sl .any,g1|.sl (.sl _),g1|.sl (.mp _ _),g1=>simp[B3]at g1
def uA:Nat->CT X.ι->Option (List CS)
 | 0,_=>none
 |_+1,.int k=>some [.int k]
 |_+1,.bool=>some [.bool]
 |_+1,.str=>some [.str]
 |_+1,.any=>some [.any]
 |_+1,.mp _ _=>none
 |n+1,.sl e=>match aq0 X.dec e with
  |some row=>some [.mu row]
  |none=>(uA n e).bind λr=>some [.sl r]
 |n+1,.st i=>(Gi (uA n) (X.da i)).bind λl=>some l.flatten
def HW(n:Nat)(c:CT X.ι):Option VS:=
 match c with
 |.st i=>(uA n (.st i:CT X.ι)).map .agg
 |c=>(uA n c).bind λl=>match l with
  |[x]=>some (.one x)
  |_=>none
theorem Sv:∀(a b:List CS)(ys:List Tree),ee (a++b) ys->∃ya yb,ys=ya++yb/\ee a ya/\ee b yb
 |[],b,ys,h=>⟨[],ys,rfl,trivial,h⟩
 |c::a,b,y::ys,h=>by obtain⟨ya,yb,rfl,h1,h2⟩:=Sv a b ys h.2;exact⟨y::ya,yb,rfl,⟨h.1,h1⟩,h2⟩
 |_::_,_,[],h=>h.elim
theorem aeF{c:CT X.ι}{cs:List CS}(h:∀ys,ee cs ys->∃x:CT.T X.toSE c,ys=CT.row X.toSE c x):∀rows:List (List Tree),(∀ r∈rows,ee cs r)->∃l:List (CT.T X.toSE c),rows=l.map (CT.row X.toSE c)
 |[],_=>⟨[],rfl⟩
 |r::rows,hr=>by obtain⟨x,hx⟩:=h r (hr r (by simp));obtain⟨l,hl⟩:=aeF h rows λq hq=>hr q (eY _ hq);exact⟨x::l,by rw[bE,<- hx,<- hl]⟩
theorem amH{f:CT X.ι->Option (List CS)}(hf:∀c cs,f c=some cs->∀ys,ee cs ys->∃x:CT.T X.toSE c,ys=CT.row X.toSE c x):∀(l:List (CT X.ι))(css:List (List CS)),Gi f l=some css->∀ys,ee css.flatten ys->∃h:HL X.toSE l,ys=HL.row X.toSE l h
 |[],css,h,ys,hy=>by
  simp[Gi]at h;subst h;cases ys with
  |nil=>exact⟨(),rfl⟩
  |cons y ys=>exact hy.elim
 |c::l,css,h,ys,hy=>by simp[Gi]at h;have⟨a,h1,h⟩:=ah.1 h;have⟨b,h2,h⟩:=ah.1 h;cases h;obtain⟨ya,yb,rfl,g1,g2⟩:=Sv _ _ _ hy;have⟨x,hx⟩:=hf c a h1 ya g1;have⟨q,hq⟩:=amH hf l b h2 yb g2;exact⟨(x,q),by rw[hx,hq];rfl⟩
theorem U0:∀(n:Nat)(c:CT X.ι)(cs:List CS),uA n c=some cs->∀ys,ee cs ys->∃x:CT.T X.toSE c,ys=CT.row X.toSE c x
 | 0,_,_,h,_,_=>by cases h
 |n+1,.mp _ _,cs,h,ys,hy=>by simp[uA]at h
 |n+1,.int k,cs,h,ys,hy=>by
  simp[uA]at h;subst h
  match ys,hy with
  |[y],hy=>
   simp[ee]at hy;obtain⟨m,rfl,_⟩:=hy;exact⟨m,rfl⟩
  |[],hy=>exact hy.elim
  |_::_::_,hy=>exact hy.2.elim
 |n+1,.bool,cs,h,ys,hy=>by
  simp[uA]at h;subst h
  match ys,hy with
  |[y],hy=>
   simp only[ee,Fit,and_true]at hy;obtain⟨m,rfl⟩:=hy;exact⟨m,rfl⟩
  |[],hy=>exact hy.elim
  |_::_::_,hy=>exact hy.2.elim
 |n+1,.str,cs,h,ys,hy=>by
  simp[uA]at h;subst h
  match ys,hy with
  |[y],hy=>
   simp[ee]at hy;obtain⟨m,rfl,_⟩:=hy;exact⟨m,rfl⟩
  |[],hy=>exact hy.elim
  |_::_::_,hy=>exact hy.2.elim
 |n+1,.any,cs,h,ys,hy=>by
  simp[uA]at h;subst h
  match ys,hy with
  |[y],hy=>exact⟨y,rfl⟩
  |[],hy=>exact hy.elim
  |_::_::_,hy=>exact hy.2.elim
 |n+1,.sl e,cs,h,ys,hy=>by
  simp[uA]at h;split at h;rename_i row hm;cases h
  match ys,hy with
  |[y],hy=>
   simp[ee]at hy;cases e with
   |st i=>
    simp[aq0]at hm;cases hb:apX X.dec i with
    |false=>rw[hb]at hm;cases hm
    |true=>
     rw[hb]at hm;have⟨l,hl⟩:=aqn X.dec hm hy;exact⟨l,by rw[hl];rfl⟩
   |_=>cases hm
  |[],hy=>exact hy.elim
  |_::_::_,hy=>exact hy.2.elim
  have⟨r,h1,h⟩:=ah.1 h;cases h
  match ys,hy with
  |[y],hy=>
   simp[ee]at hy;obtain⟨rows,rfl,_,hr⟩:=hy;have⟨l,hl⟩:=aeF (U0 n e r h1) rows hr;exact⟨l,by rw[hl];rfl⟩
  |[],hy=>exact hy.elim
  |_::_::_,hy=>exact hy.2.elim
 |n+1,.st i,cs,h,ys,hy=>by simp[uA]at h;have⟨css,h1,h⟩:=ah.1 h;cases h;have⟨q,hq⟩:=amH (U0 n) (X.da i) css h1 ys hy;exact⟨X.make i q,by rw[hq];exact(X.ii i q).symm⟩
theorem aoQ{n:Nat}{c:CT X.ι}{s:VS}(h:HW n c=some s){x:TV}(hx:Hj s x):∃y:CT.T X.toSE c,x=CT.tv X.toSE c y:=by
 have one:∀c:CT X.ι,c.one=true->((uA n c).bind λl=>match l with
  |[x]=>some (VS.one x)
  |_=>none)=some s->∃y:CT.T X.toSE c,x=CT.tv X.toSE c y:=by intro c hc h;have⟨l,h1,h⟩:=ah.1 h;split at h;cases h;simp[Hj]at hx;obtain⟨t,rfl,ht⟩:=hx;obtain⟨y,hy⟩:=U0 n c _ h1 [t] ⟨ht,trivial⟩;obtain⟨t',e1,e2⟩:=row_one hc y;rw[e1]at hy;cases hy;exact⟨y,e2.symm⟩;cases h
 cases c
 case st i=>
  simp[HW]at h;obtain⟨cs,h1,rfl⟩:=h;simp[Hj]at hx;obtain⟨ys,rfl,hy⟩:=hx;obtain⟨y,hy⟩:=U0 n (.st i) _ h1 ys hy;exact⟨y,by rw[hy];rfl⟩
 all_goals exact one _ rfl h
theorem aeG(n:Nat):∀(cs:List (CT X.ι))(ss:List VS),Gi (HW n) cs=some ss->∀xs,V6 ss xs->∃h:HL X.toSE cs,xs=HL.oR X.toSE cs h
 |[],ss,h,xs,hx=>by
  simp[Gi]at h;subst h;cases xs with
  |nil=>exact⟨(),rfl⟩
  |cons x xs=>exact hx.elim
 |c::cs,ss,h,xs,hx=>by
  simp[Gi]at h;have⟨a,h1,h⟩:=ah.1 h;have⟨b,h2,h⟩:=ah.1 h;cases h;cases xs with
  |nil=>exact hx.elim
  |cons x xs=>
   obtain⟨y,rfl⟩:=aoQ h1 hx.1;obtain⟨q,rfl⟩:=aeG n cs b h2 xs hx.2;exact⟨(y,q),rfl⟩
theorem amI{P:Program}{f:FuncId}{n N:Nat}{cs:List (CT X.ι)}{ss:List VS}{fn:Nat->je X (cs.map AT.d)->Option Bool}(hc:∀k,Bm P f ⟨cs.map AT.d,[.d .bool],fn k,none⟩)(hs:Gi (HW n) cs=some ss)(hl:∀q:HL X.toSE cs,V6 ss (HL.oR X.toSE cs q)->yz (HL.oR X.toSE cs q)<=N->∃k,fn k (hlA cs q)=some true)(xs:List TV)(h:V6 ss xs)(hb:yz xs<=N):
 rK P f (xs.map TV.av) (.one (.d (.s (.sc (.bool true))))):=by obtain⟨q,rfl⟩:=aeG n cs ss hs xs h;have⟨k,hk⟩:=hl q h hb;have h1:=(hc k).2.1 (hlA cs q) true hk;have h2:=h1;rw[C9 (UX cs)]at h2;have h3:qu P f (wR (cs.map AT.d) (hlA cs q)) [] [] (.one (.d (.s (.sc (.bool true))))):=h2;have h4:=Ns h3;rw[wR,J5]at h4;exact h4
end
end Go.Gb
