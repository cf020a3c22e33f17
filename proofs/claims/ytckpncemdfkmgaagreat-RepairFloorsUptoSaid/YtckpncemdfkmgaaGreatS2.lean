import Derived.Test.YtckpncemdfkmgaaGreatS1
open Go.IntKind (i64)
open List (mem_map getElem_mem length_map mem_iff_getElem length_nil take_of_length_le mem_filter pairwise_cons filter_append pairwise_append)
namespace Go.Proofs
open Go.Gb Go.RowKit
variable {n:Nat}
theorem T9{α:Type}{l:List α}{K n:Nat}{step:Int->Option (Int⊕(Unit⊕Bool))}{good:α->Prop}(h1:∀i (hi:i<l.length),i<K->step i=some (.inr (.inr false))\/(step i=some (.inl (i+1:Nat))/\good l[i]))
 (h2:∀i:Nat,(¬ i<l.length\/¬i<K)->step i=some (.inr (.inl ()))) (hn:K+1<n):iter step n 0=some (.inr false)\/(iter step n 0=some (.inl ())/\(l.length<=K->∀x∈l,good x)):=by obtain⟨o,g1,g2⟩:=eO (step:=step) (λ i v=>v=i/\i<=l.length/\i<=K/\∀x∈l.take i,good x) (λ o=>o=.inr false\/(o=.inl ()/\(l.length<=K->∀x∈l,good x))) K (λ k v h=>h.2.2.1) (by rintro i v ⟨rfl,hi,hK,hall⟩;by_cases hlt:i<l.length/\i<K;rcases h1 i hlt.1 hlt.2 with h|⟨h,hg⟩;exact .inr ⟨_,h,.inl rfl⟩;refine .inl ⟨_,h,rfl,hlt.1,hlt.2,λx hx=>?_⟩;rw[List.take_add_one,dm hlt.1,bL]at hx;rcases hx with hx|hx;exact hall x hx;simp at hx;subst hx;exact hg;refine .inr ⟨_,h2 i (by omega),.inr ⟨rfl,λhl x hx=>hall x ?_⟩⟩;rw[take_of_length_le (by omega)];exact hx) n 0 0 ⟨rfl,Nat.zero_le _,Nat.zero_le _,by simp⟩ (by omega);rcases g2 with rfl|⟨rfl,g2⟩;exact .inl g1;exact .inr ⟨g1,g2⟩
def WtR(l:List cK):Prop:=∀r∈l,(toE (li r)).wt<=4000000
structure alp(t:fP):Prop where
 defs:gp t.cm
 rules:WtR t.bm
 z7:∀l∈t.land,l.from_.length*8<=140737488355328
theorem Io(i len K:Nat){k:Int}(hk:k=K):((bif (decide ((i:Int)<(len:Nat)))then some (decide (i<k))else some false):Option Bool)=some (decide (i<len/\i<K)):=by subst hk;by_cases h1:i<len<;>by_cases h2:i<K<;>simp[h1]
structure aoN(t:fP)(d:aG):Prop where
 town:Yw t
 draw:WS d
 built:t.built.length<=8
 rules:t.bm.length<=6
 zones:∀z∈t.ca,z.corners.length<=12
 caps:∀c∈t.co,c.corners.length<=12/\t.co.length<=3
theorem P3:yl 5000003:=⟨aA _,by omega⟩
theorem qF{α:Type}{d U V:List α}{x:α}{k:Nat}(h:d=U++x::V)(hk:k=U.length):d[k]? =some x:=by subst h;subst hk;simp
theorem xM{α:Type}{d U V:List α}{x y:α}{k:Nat}(h:d=U++x::V)(hk:k=U.length):d.set k y=U++y::V:=by subst h;subst hk;simp
theorem P2(k:Nat):(((0:Nat):Int)+(k:Nat)).toNat=k:=by simp
theorem E4{a b:Nat}(h:a+b<4611686018427387904):i64.wrap ((a:Nat)+(b:Nat))=(a+b:Nat):=by rw[aM (by omega) (by omega)];omega
def cR(r l:List aD):Prop:=∀c:Int,r.filter (λ x=>x.cost==c)=l.filter λx=>x.cost==c
theorem cR.refl l:cR l l:=λ_=>rfl
theorem cR.trans{a b c:List aD}(h:cR a b)(h':cR b c):cR a c:=λx=>(h x).trans (h' x)
theorem cR.app{a b c d:List aD}(h:cR a b)(h':cR c d):cR (a++c) (b++d):=λx=>by simp[h x,h' x]
theorem cR.mem{a b:List aD}(h:cR a b)(x:aD):x∈a↔x∈b:=by
 constructor<;>intro hx;have:x∈a.filter λy=>y.cost==x.cost:=by simp[hx]
 rw[h]at this;exact(mem_filter.1 this).1;have:x∈b.filter λy=>y.cost==x.cost:=by simp[hx]
 rw[<- h]at this;exact(mem_filter.1 this).1
theorem cR.swap{u v:List aD}(h:∀x∈u,∀y∈v,y.cost<x.cost):cR (v++u) (u++v):=by
 intro c;simp;by_cases hu:∃x∈u,x.cost=c;obtain⟨x,hx,rfl⟩:=hu;have:v.filter (λ y=>y.cost==x.cost)=[]:=by rw[List.filter_eq_nil_iff];intro y hy;have:=h x hx y hy;simp;omega
 rw[this];simp;have:u.filter (λ y=>y.cost==c)=[]:=by rw[List.filter_eq_nil_iff];intro y hy e;exact hu ⟨y,hy,by simpa using e⟩
 rw[this];simp
def kB(l:List aD):Prop:=l.Pairwise λa b=>a.cost<=b.cost
section
variable {φ:(aD×aD×Unit)->Option Int}
theorem Kt:∀(A2 B2 P A1 M B1 Q:List aD) a0 (fuel:Nat),A1.length=B1.length->A2.length=B2.length->a0.length=P.length+(A1.length+A2.length)+M.length+(A1.length+A2.length)+Q.length->a0.length<1099511627776->A2.length<fuel->
 iter (fA a0 (P.length:Nat) (P.length+(A1.length+A2.length)+M.length:Nat) (A1.length+A2.length:Nat)) fuel ((A1.length:Nat),P++(B1++(A2++(M++(A1++(B2++Q))))))=some (P++((B1++B2)++(M++((A1++A2)++Q))))
 |[],B2,P,A1,M,B1,Q,a0,fuel,h1,h2,h3,h4,h5=>by obtain⟨f,rfl⟩:∃f,fuel=f+1:=⟨fuel-1,by omega⟩;have:B2=[]:=List.eq_nil_of_length_eq_zero h2.symm;subst this;refine cu ?_;simp[fA]
 |x::A2,B2,P,A1,M,B1,Q,a0,fuel,h1,h2,h3,h4,h5=>by
  obtain⟨f,rfl⟩:∃f,fuel=f+1:=⟨fuel-1,by omega⟩;obtain⟨y,B2,rfl⟩:∃y B,B2=y::B:=by
   cases B2 with
   |nil=>simp at h2
   |cons y B=>exact⟨y,B,rfl⟩
  simp at h2 h3 h5;have d1:decide ((A1.length:Int)<(A1.length+(x::A2).length:Nat))=true:=by simp<;>omega
  have w1:i64.wrap ((P.length+(A1.length+(x::A2).length)+M.length:Nat)+(A1.length:Nat))=(P.length+(A1.length+(x::A2).length)+M.length+A1.length:Nat):=E4 (by simp<;>omega);have w2:i64.wrap ((P.length:Nat)+(A1.length:Nat))=(P.length+A1.length:Nat):=E4 (by omega);have w3:i64.wrap ((A1.length:Nat)+1)=((A1++[x]).length:Nat):=by rw[aR (by omega)];simp
  have i1:ct (P.length+(A1.length+(x::A2).length)+M.length+A1.length:Nat) a0.length=true:=aV (by simp<;>omega);have i2:ct (P.length+A1.length:Nat) a0.length=true:=aV (by omega);have g1:(P++(B1++(x::A2++(M++(A1++(y::B2++Q))))))[P.length+(A1.length+(x::A2).length)+M.length+A1.length]? =some y:=qF (U:=P++(B1++(x::A2++(M++A1)))) (V:=B2++Q) (by simp) (by simp<;>omega);have g2:(P++(B1++(x::A2++(M++(A1++(y::B2++Q))))))[P.length+A1.length]? =some x:=qF (U:=P++B1) (V:=A2++(M++(A1++(y::B2++Q)))) (by simp) (by simp<;>omega);have s1:(P++(B1++(x::A2++(M++(A1++(y::B2++Q)))))).set (P.length+A1.length) y=(P++B1)++y::(A2++(M++(A1++(y::B2++Q)))):=xM (U:=P++B1) (V:=A2++(M++(A1++(y::B2++Q)))) (x:=x) (by simp) (by simp<;>omega);have g3:((P++B1)++y::(A2++(M++(A1++(y::B2++Q)))))[P.length+(A1.length+(x::A2).length)+M.length+A1.length]? =some y:=qF (U:=P++(B1++(y::A2++(M++A1)))) (V:=B2++Q) (by simp) (by simp<;>omega);have s2:((P++B1)++y::(A2++(M++(A1++(y::B2++Q))))).set (P.length+(A1.length+(x::A2).length)+M.length+A1.length) x=(P++(B1++(y::A2++(M++A1))))++x::(B2++Q):=xM (U:=P++(B1++(y::A2++(M++A1)))) (V:=B2++Q) (x:=y) (by simp) (by simp<;>omega)
  have step:fA a0 (P.length:Nat) (P.length+(A1.length+(x::A2).length)+M.length:Nat) (A1.length+(x::A2).length:Nat) ((A1.length:Nat),P++(B1++(x::A2++(M++(A1++(y::B2++Q))))))=
   some (.inl (((A1++[x]).length:Nat),P++((B1++[y])++(A2++(M++((A1++[x])++(B2++Q))))))):=by simp only[fA,d1,aj,w1,w2,w3,i1,i2,oM,g1,g2,ai,P2,s1,g3,s2];simp
  rw[dM step];have:=Kt A2 B2 P (A1++[x]) M (B1++[y]) Q a0 f (by simp[h1]) h2 (by simp<;>omega) h4 (by omega);have e1:(A1++[x]).length+A2.length=A1.length+(x::A2).length:=by simp<;>omega
  rw[e1]at this;rw[this];simp
theorem EJ(P A M B Q:List aD)(h:A.length=B.length)(hl:(P++(A++(M++(B++Q)))).length<1099511627776)(hn:A.length<n){a b k:Int}(ha:a=(P.length:Nat))(hb:b=(P.length+A.length+M.length:Nat))(hk:k=(A.length:Nat)):
 dQ n (P++(A++(M++(B++Q)))) a b k φ=some (P++(B++(M++(A++Q)))):=by subst ha hb hk;have:=Kt A B P [] M [] Q (P++(A++(M++(B++Q)))) n rfl h (by simp<;>omega) hl hn;simp only[length_nil,Nat.zero_add,fT]at this;unfold dQ;have e:((0:Nat):Int)=0:=rfl;rw[e]at this;rw[this];rfl
theorem KT:∀(w:Nat) (P A B Q:List aD) a0 (fuel:Nat),A.length+B.length<=w->0<A.length->0<B.length->a0.length=(P++(A++(B++Q))).length->a0.length<1099511627776->a0.length<n->w<fuel->
 (iter (dR n a0 (P.length+A.length:Nat) φ) fuel ((A.length:Nat),(B.length:Nat),P++(A++(B++Q)))).bind (λ (w1,w2)=>ck (aE a0.length w2.length) ((dQ n w2 (i64.wrap ((P.length+A.length:Nat)-w1)) (P.length+A.length:Nat) w1 φ).bind λr3=>some r3))=some (P++(B++(A++Q)))
 | 0,P,A,B,Q,a0,fuel,h1,h2,h3,h4,h5,h6,h7=>by omega
 |w+1,P,A,B,Q,a0,fuel,h1,h2,h3,h4,h5,h6,h7=>by
  obtain⟨f,rfl⟩:∃f,fuel=f+1:=⟨fuel-1,by omega⟩;simp at h4;rcases Nat.lt_trichotomy A.length B.length with hlt|heq|hgt;obtain⟨B1,B2,rfl,hB2⟩:∃B1 B2,B=B1++B2/\B2.length=A.length:=⟨B.take (B.length-A.length),B.drop (B.length-A.length),by simp,by simp<;>omega⟩;simp at h1 h3 h4 hlt;have sw:=EJ (φ:=φ) (n:=n) P A B1 B2 Q hB2.symm (by simp<;>omega) (by omega) (a:=((P.length+A.length:Nat)-(A.length:Nat))) (b:=(P.length+A.length+B1.length:Nat)) (k:=(A.length:Nat)) (by omega) rfl rfl;have step:dR n a0 (P.length+A.length:Nat) φ ((A.length:Nat),((B1++B2).length:Nat),P++(A++(B1++B2++Q)))=some (.inl ((A.length:Nat),(B1.length:Nat),P++(B2++(B1++(A++Q))))):=by have d1:((A.length:Int) !=((B1++B2).length:Nat))=true:=(by simp<;>omega);have d2:decide ((A.length:Int)>((B1++B2).length:Nat))=false:=(by simp<;>omega);have e1:aE a0.length (P++(A++(B1++B2++Q))).length=true:=pz (by simp<;>omega);have w1:i64.wrap ((P.length+A.length:Nat)-(A.length:Nat))=(P.length+A.length:Nat)-(A.length:Nat):=aM (by omega) (by omega);have w2:i64.wrap (i64.wrap ((P.length+A.length:Nat)+((B1++B2).length:Nat))-(A.length:Nat))=(P.length+A.length+B1.length:Nat):=(by rw[aM (x:=(P.length+A.length:Nat)+((B1++B2).length:Nat)) (by simp<;>omega) (by simp<;>omega),aM (by simp<;>omega) (by simp<;>omega)];simp<;>omega);have w3:i64.wrap (((B1++B2).length:Nat)-(A.length:Nat))=(B1.length:Nat):=(by rw[aM (by simp<;>omega) (by simp<;>omega)];simp<;>omega);have e2:P++(A++(B1++B2++Q))=P++(A++(B1++(B2++Q))):=(by simp);simp only[dR,d1,d2,e1,aj,au,w1,w2,w3];rw[e2,sw];rfl
  rw[dM step];have ih:=KT w P B2 B1 (A++Q) a0 f (by omega) (by omega) (by omega) (by simp<;>omega) h5 h6 (by omega);rw[hB2]at ih;rw[ih];simp;refine(congrArg (λ o=>Option.bind o _) (cu (o:=((A.length:Int),P++(A++(B++Q)))) ?_)).trans ?_;simp[dR,heq];have sw:=EJ (φ:=φ) (n:=n) P A [] B Q heq (by simp<;>omega) (by omega) (a:=((P.length+A.length:Nat)-(A.length:Nat))) (b:=(P.length+A.length:Nat)) (k:=(A.length:Nat)) (by omega) (by simp) rfl;have w1:i64.wrap ((P.length+A.length:Nat)-(A.length:Nat))=(P.length+A.length:Nat)-(A.length:Nat):=aM (by omega) (by omega);have e1:aE a0.length (P++(A++(B++Q))).length=true:=pz (by simp<;>omega);simp only[ai,e1,aj,w1];simp only[fT]at sw;rw[sw];rfl;obtain⟨A1,A2,rfl,hA1⟩:∃A1 A2,A=A1++A2/\A1.length=B.length:=⟨A.take B.length,A.drop B.length,by simp,by simp<;>omega⟩;simp at h1 h2 h4 hgt;have sw:=EJ (φ:=φ) (n:=n) P A1 A2 B Q hA1 (by simp<;>omega) (by omega) (a:=((P.length+(A1++A2).length:Nat)-((A1++A2).length:Nat))) (b:=(P.length+(A1++A2).length:Nat)) (k:=(B.length:Nat)) (by simp<;>omega) (by simp<;>omega) (by rw[hA1]);have step:dR n a0 (P.length+(A1++A2).length:Nat) φ (((A1++A2).length:Nat),(B.length:Nat),P++(A1++A2++(B++Q)))=some (.inl ((A2.length:Nat),(B.length:Nat),P++(B++(A2++(A1++Q))))):=by have d1:((((A1++A2).length:Nat):Int) !=(B.length:Nat))=true:=(by simp<;>omega);have d2:decide ((((A1++A2).length:Nat):Int)>(B.length:Nat))=true:=(by simp<;>omega);have e1:aE a0.length (P++(A1++A2++(B++Q))).length=true:=pz (by simp<;>omega);have w1:i64.wrap ((P.length+(A1++A2).length:Nat)-((A1++A2).length:Nat))=(P.length+(A1++A2).length:Nat)-((A1++A2).length:Nat):=aM (by simp<;>omega) (by simp<;>omega);have w3:i64.wrap (((A1++A2).length:Nat)-(B.length:Nat))=(A2.length:Nat):=(by rw[aM (by simp<;>omega) (by simp<;>omega)];simp<;>omega);have e2:P++(A1++A2++(B++Q))=P++(A1++(A2++(B++Q))):=(by simp);simp only[dR,d1,d2,e1,aj,w1,w3];rw[e2,sw];rfl
  rw[dM step];have ih:=KT w (P++B) A2 A1 Q a0 f (by omega) (by omega) (by omega) (by simp<;>omega) h5 h6 (by omega);have e3:(P++B).length+A2.length=P.length+(A1++A2).length:=by simp<;>omega
  rw[e3,hA1]at ih;simp at ih ⊢;rw[ih]
theorem ajn(P A B Q:List aD)(hA:0<A.length)(hB:0<B.length)(hl:(P++(A++(B++Q))).length<1099511627776)(hn:(P++(A++(B++Q))).length<n){a m b:Int}(ha:a=(P.length:Nat))(hm:m=(P.length+A.length:Nat))(hb:b=(P.length+A.length+B.length:Nat)):
 iC n (P++(A++(B++Q))) a m b φ=some (P++(B++(A++Q))):=by
 subst ha hm hb;have:=KT (φ:=φ) (n:=n) (A.length+B.length) P A B Q (P++(A++(B++Q))) n (aA _) hA hB rfl hl hn (by simp at hn;omega);unfold iC;simp at hl;have w1:i64.wrap ((P.length+A.length:Nat)-(P.length:Nat))=(A.length:Nat):=by rw[aM (by omega) (by omega)];omega
 have w2:i64.wrap ((P.length+A.length+B.length:Nat)-(P.length+A.length:Nat))=(B.length:Nat):=by rw[aM (by omega) (by omega)];omega
 rw[w1,w2];exact this
theorem Mu{a b:Nat}(h:a+b<4611686018427387904):i64.wrap ((IntKind.u64.wrap (i64.wrap ((a:Nat)+(b:Nat))))/2 ^ (1:Int).toNat)=((a+b)/2:Nat):=by rw[E4 h,ZI (by omega)];show i64.wrap ((a+b:Nat)/2 ^ 1)=_;rw[aM (by omega) (by omega)];omega
theorem Nx{step:(Int×Int)->Option ((Int×Int)⊕Int)}{p:Nat->Bool}{lo hi:Nat}(hstep:∀i j:Nat,lo<=i->i<j->j<=hi->step (i,j)=some (bif p ((i+j)/2)then .inl (((i+j)/2+1:Nat),j)else .inl (i,((i+j)/2:Nat))))
 (hend:∀i:Nat,step (i,i)=some (.inr i)) (mono:∀x y:Nat,lo<=x->x<=y->y<hi->p y=true->p x=true):∀(fuel i j:Nat),lo<=i->i<=j->j<=hi->j-i<fuel->(∀ x,lo<=x->x<i->p x=true)->(∀ x,j<=x->x<hi->p x=false)->
  ∃r:Nat,iter step fuel (i,j)=some (r:Int)/\lo<=r/\r<=hi/\(∀ x,lo<=x->x<r->p x=true)/\∀x,r<=x->x<hi->p x=false
 | 0,_,_,_,_,_,h,_,_=>by omega
 |f+1,i,j,h1,h2,h3,h4,h5,h6=>by
  by_cases hij:i=j;subst hij;exact⟨i,cu (hend i),h1,h3,h5,h6⟩;have hs:=hstep i j h1 (by omega) h3;cases hp:p ((i+j)/2)with
  |true=>
   rw[hp]at hs;rw[dM hs];exact Nx hstep hend mono f ((i+j)/2+1) j (by omega) (by omega) h3 (by omega) (λ x hx hx2=>mono x ((i+j)/2) hx (by omega) (by omega) hp) h6
  |false=>
   rw[hp]at hs;rw[dM hs];refine Nx hstep hend mono f i ((i+j)/2) h1 (by omega) (by omega) (by omega) h5 λx hx hx2=>?_;cases hq:p x with
   |false=>rfl
   |true=>rw[mono ((i+j)/2) x (by omega) hx hx2 hq]at hp;cases hp
theorem kB.le{l:List aD}(h:kB l){i j:Nat}(hij:i<=j)(hj:j<l.length):l[i].cost<=l[j].cost:=by
 rcases Nat.lt_or_ge i j with hlt|hge;exact List.pairwise_iff_getElem.1 h i j (by omega) hj hlt;have:i=j:=by omega
 subst this;exact Int.le_refl _
theorem ah3:∀(R P Q:List aD) (x:aD) a0 (fuel:Nat),a0.length=P.length+1+R.length+Q.length->a0.length<1099511627776->R.length<fuel->
 iter (fH a0 (P.length+R.length+1:Nat)) fuel ((P.length:Nat),P++x::(R++Q))=some (P++(R++x::Q))
 |[],P,Q,x,a0,fuel,h1,h2,h3=>by
  obtain⟨f,rfl⟩:∃f,fuel=f+1:=⟨fuel-1,by omega⟩;refine cu ?_;have w:i64.wrap ((P.length+([]:List aD).length+1:Nat)-1)=(P.length:Nat):=by rw[aM (by simp<;>omega) (by simp<;>omega)];simp
  simp only[fH,w];simp
 |y::R,P,Q,x,a0,fuel,h1,h2,h3=>by
  obtain⟨f,rfl⟩:∃f,fuel=f+1:=⟨fuel-1,by omega⟩;simp at h1 h3;have w:i64.wrap ((P.length+(y::R).length+1:Nat)-1)=(P.length+(y::R).length:Nat):=by rw[aM (by simp<;>omega) (by simp<;>omega)];simp<;>omega
  have d1:decide ((P.length:Int)<(P.length+(y::R).length:Nat))=true:=by simp<;>omega
  have w1:i64.wrap ((P.length:Nat)+1)=(P.length+1:Nat):=aR (by omega);have i1:ct (P.length+1:Nat) a0.length=true:=aV (by omega);have i2:ct (P.length:Nat) a0.length=true:=aV (by omega);have g1:(P++x::(y::R++Q))[P.length+1]? =some y:=qF (U:=P++[x]) (V:=R++Q) (by simp) (by simp);have g2:(P++x::(y::R++Q))[P.length]? =some x:=qF (U:=P) rfl rfl;have s1:(P++x::(y::R++Q)).set P.length y=P++y::(y::R++Q):=xM rfl rfl;have g3:(P++y::(y::R++Q))[P.length+1]? =some y:=qF (U:=P++[y]) (V:=R++Q) (by simp) (by simp);have s2:(P++y::(y::R++Q)).set (P.length+1) x=(P++[y])++x::(R++Q):=xM (U:=P++[y]) (V:=R++Q) (x:=y) (by simp) (by simp);have step:fH a0 (P.length+(y::R).length+1:Nat) ((P.length:Nat),P++x::(y::R++Q))=some (.inl (((P++[y]).length:Nat),(P++[y])++x::(R++Q))):=by simp only[fH,w,d1,aj,w1,i1,i2,oM,g1,g2,ai,P2,s1,g3,s2];simp
  rw[dM step];have:=ah3 R (P++[y]) Q x a0 f (by simp<;>omega) h2 (by omega);have e:(P++[y]).length+R.length+1=P.length+(y::R).length+1:=by simp<;>omega
  rw[e]at this;rw[this];simp
theorem ah4:∀(L:List aD) (P Q:List aD) (x:aD) a0 (fuel:Nat),a0.length=P.length+1+L.length+Q.length->a0.length<1099511627776->L.length<fuel->
 iter (fI a0 (P.length:Nat)) fuel ((P.length+L.length:Nat),P++(L.reverse++x::Q))=some (P++x::(L.reverse++Q))
 |[],P,Q,x,a0,fuel,h1,h2,h3=>by obtain⟨f,rfl⟩:∃f,fuel=f+1:=⟨fuel-1,by omega⟩;refine cu ?_;simp[fI]
 |y::L,P,Q,x,a0,fuel,h1,h2,h3=>by
  obtain⟨f,rfl⟩:∃f,fuel=f+1:=⟨fuel-1,by omega⟩;simp at h1 h3;have d1:decide (((P.length+(y::L).length:Nat):Int)>(P.length:Nat))=true:=by simp<;>omega
  have w1:i64.wrap ((P.length+(y::L).length:Nat)-1)=(P.length+L.length:Nat):=by rw[aM (by simp<;>omega) (by simp<;>omega)];simp<;>omega
  have i1:ct (P.length+L.length:Nat) a0.length=true:=aV (by omega);have i2:ct (P.length+(y::L).length:Nat) a0.length=true:=aV (by simp<;>omega);have g1:(P++((y::L).reverse++x::Q))[P.length+L.length]? =some y:=qF (U:=P++L.reverse) (V:=x::Q) (by simp) (by simp);have g2:(P++((y::L).reverse++x::Q))[P.length+(y::L).length]? =some x:=qF (U:=P++(y::L).reverse) (V:=Q) (by simp) (by simp);have s1:(P++((y::L).reverse++x::Q)).set (P.length+(y::L).length) y=(P++(y::L).reverse)++y::Q:=xM (U:=P++(y::L).reverse) (V:=Q) (x:=x) (by simp) (by simp);have g3:((P++(y::L).reverse)++y::Q)[P.length+L.length]? =some y:=qF (U:=P++L.reverse) (V:=y::Q) (by simp) (by simp);have s2:((P++(y::L).reverse)++y::Q).set (P.length+L.length) x=(P++L.reverse)++x::(y::Q):=xM (U:=P++L.reverse) (V:=y::Q) (x:=y) (by simp) (by simp);have step:fI a0 (P.length:Nat) ((P.length+(y::L).length:Nat),P++((y::L).reverse++x::Q))=some (.inl ((P.length+L.length:Nat),P++(L.reverse++x::(y::Q)))):=by simp only[fI,d1,aj,w1,i1,i2,oM,g1,g2,ai,P2,s1,g3,s2];simp
  rw[dM step];have:=ah4 L P (y::Q) x a0 f (by simp<;>omega) h2 (by omega);rw[this];simp
def Fa(d:List aD)(k:Nat):Int:=(d[k]?.elim 0 λx=>x.cost)
theorem Jv{d U V W:List aD}{t:Nat}(h:d=U++(V++W))(ht:t<V.length):d[U.length+t]? =some V[t]/\Fa d (U.length+t)=V[t].cost:=by
 have:d[U.length+t]? =some V[t]:=by subst h;rw[oK (by omega),List.getElem?_append_left (by omega)];simp
 exact⟨this,by simp[Fa,this]⟩
theorem EK{d:List aD}{k:Nat}(h:k<d.length):∃x,d[k]? =some x/\Fa d k=x.cost:=⟨d[k],by simp,by simp[Fa,h]⟩
theorem abJ{a b:List aD}(ha:kB a)(hb:kB b)(h:∀x∈a,∀y∈b,x.cost<=y.cost):kB (a++b):=pairwise_append.2 ⟨ha,hb,h⟩
theorem CB{a b:List aD}(h:kB (a++b)):kB a:=(pairwise_append.1 h).1
theorem yc{a b:List aD}(h:kB (a++b)):kB b:=(pairwise_append.1 h).2.1
theorem Nv{a b:List aD}(h:kB (a++b)):∀x∈a,∀y∈b,x.cost<=y.cost:=(pairwise_append.1 h).2.2
theorem P1:(decide (0<=1)&&decide (1<=IntKind.u64.bits))=true:=by decide
def tB(x y:aD):Bool:=decide (x.cost<y.cost)
theorem Ry(x:aD):∀ys:List aD,cR (fV tB x ys).reverse (ys.reverse++[x])
 |[]=>cR.refl _
 |y::ys=>by
  simp[fV];cases h:tB x y with
  |true=>
   simp;have:=(Ry x ys).app (cR.refl [y]);refine this.trans ?_;simp;exact(cR.refl _).app (cR.swap (u:=[y]) (v:=[x]) λa ha b hb=>by rw[bq.1 ha,bq.1 hb];exact of_decide_eq_true h)
  |false=>simp;exact cR.refl _
theorem WV(x:aD):∀ys:List aD,ys.Pairwise (λ a b=>b.cost<=a.cost)->(fV tB x ys).Pairwise λa b=>b.cost<=a.cost
 |[],_=>by simp[fV]
 |y::ys,h=>by
  rw[pairwise_cons]at h;simp[fV];cases hx:tB x y with
  |true=>
   have hxy:x.cost<y.cost:=of_decide_eq_true hx;simp;refine⟨λ z hz=>?_,WV x ys h.2⟩;rcases (D8 x z ys).1 hz with rfl|hz;exact Int.le_of_lt hxy;exact h.1 z hz
  |false=>
   have hxy:¬x.cost<y.cost:=of_decide_eq_false hx;simp only[au,pairwise_cons,aQ];refine⟨λ z hz=>?_,h⟩;rcases hz with rfl|hz;omega;have:=h.1 z hz;omega
inductive Ch(bs:Nat):List aD->Prop
 |last {l:List aD}:kB l->l.length<=bs->Ch bs l
 |cons {b l:List aD}:kB b->b.length=bs->Ch bs l->Ch bs (b++l)
theorem Ch.xl{bs:Nat}{l:List aD}(h:Ch bs l)(hl:l.length<=bs)(_:0<bs):kB l:=by
 cases h with
 |last h1 h2=>exact h1
 | @cons b l h1 h2 h3=>
  simp at hl;have:l=[]:=List.eq_nil_of_length_eq_zero (by omega);rw[this];simpa using h1
variable (hφ:∀x y:aD,∃c,φ (x,y,())=some c/\(c<0↔x.cost<y.cost))
include hφ
theorem aoI{rc}(P R Q:List aD)(x:aD)(hR:kB R)(hl:(P++(x::(R++Q))).length<1099511627776)(hn:(P++(x::(R++Q))).length<n):
 ∃M,dw n rc (P++(x::(R++Q))) (P.length:Nat) (P.length+1:Nat) (P.length+1+R.length:Nat) φ=some (P++(M++Q))/\M.length=1+R.length/\kB M/\cR M ([x]++R):=by
 obtain⟨d,hd⟩:∃d,P++(x::(R++Q))=d:=⟨_,rfl⟩;have hdl:d.length=P.length+1+R.length+Q.length:=by rw[<- hd];simp<;>omega
 rw[hd]at hl hn ⊢;have hx:d[P.length]? =some x:=qF hd.symm rfl;have hkey:∀k,(hk0:P.length+1<=k)->(hk:k<P.length+1+R.length)->Fa d k=(R[k-(P.length+1)]'(by omega)).cost:=λk h1 h2=>by have:=(Jv (d:=d) (U:=P++[x]) (V:=R) (W:=Q) (t:=k-(P.length+1)) (by rw[<- hd];simp) (by omega)).2;rw[<- this];congr 1;simp<;>omega
 obtain⟨r,hr,r1,r2,r3,r4⟩:=Nx (step:=ic d (P.length:Nat) φ) (p:=λk=>decide (Fa d k<x.cost)) (lo:=P.length+1) (hi:=P.length+1+R.length) (λ i j h1 h2 h3=>by
  obtain⟨z,hz,H2⟩:=EK (d:=d) (k:=(i+j)/2) (by omega);have d1:decide ((i:Int)<j)=true:=by simp<;>omega
  have i1:ct ((i+j)/2:Nat) d.length=true:=aV (by omega);have i2:ct (P.length:Nat) d.length=true:=aV (by omega);have⟨c,c1,c2⟩:=hφ z x;simp only[ic,d1,aj,P1,Mu (show i+j<4611686018427387904 by omega),i1,i2,oM,hz,hx,ai,c1];rw[H2,aR (by omega)];by_cases hc:c<0;simp[hc,c2.1 hc];have hc':¬z.cost<x.cost:=λh=>hc (c2.2 h);simp[hc,hc']) (λ i=>by simp[ic]) (λ a b h1 h2 h3 h4=>by simp at h4 ⊢;rw[hkey a h1 (by omega)];rw[hkey b (by omega) h3]at h4;have:=hR.le (i:=a-(P.length+1)) (j:=b-(P.length+1)) (by omega) (by omega);omega) n (P.length+1) (P.length+1+R.length) (aA _) (by omega) (aA _) (by omega) (λ _ h1 h2=>by omega) (λ _ h1 h2=>by omega)
 obtain⟨R1,R2,m9,hR1⟩:∃R1 R2,R=R1++R2/\R1.length=r-(P.length+1):=⟨R.take (r-(P.length+1)),R.drop (r-(P.length+1)),by simp,by simp<;>omega⟩;have hf:=ah3 R1 P (R2++Q) x d n (by rw[hdl,m9];simp<;>omega) hl (by omega);have e1:P.length+R1.length+1=r:=by omega
 have e2:P++x::(R1++(R2++Q))=d:=by rw[<- hd,m9];simp
 rw[e1,e2]at hf;have hlt:∀y∈R1,y.cost<x.cost:=λy hy=>by
  obtain⟨k,hk,rfl⟩:=mem_iff_getElem.1 hy;have:=r3 (P.length+1+k) (by omega) (by omega);simp at this;rw[hkey _ (by omega) (by omega)]at this;simp[m9]at this
  rwa [List.getElem_append_left hk]at this
 have hge:∀y∈R2,x.cost<=y.cost:=λy hy=>by
  obtain⟨k,hk,rfl⟩:=mem_iff_getElem.1 hy;have hlen:R.length=R1.length+R2.length:=by rw[m9];simp
  have:=r4 (r+k) (by omega) (by omega);simp at this;rw[hkey _ (by omega) (by omega)]at this;have e:r+k-(P.length+1)=R1.length+k:=by omega
  simp only[e,m9]at this;rw[List.getElem_append_right (by omega)]at this;simp at this;omega
 refine⟨R1++x::R2,?_,by rw[m9];simp<;>omega,?_,?_⟩;have c1:(i64.wrap ((P.length+1:Nat)-(P.length:Nat))==1)=true:=by rw[aM (by omega) (by omega)];simp<;>omega
 unfold dw;rw[c1,aj,hr];simp only[ai];rw[hf];simp;rw[m9]at hR;refine abJ (CB hR) (pairwise_cons.2 ⟨hge,yc hR⟩) λy hy z hz=>?_;rcases aQ.1 hz with rfl|hz;exact Int.le_of_lt (hlt y hy);exact Nv hR y hy z hz;have:=(cR.swap (u:=[x]) (v:=R1) λa ha b hb=>by rw[bq.1 ha];exact hlt b hb).app (cR.refl R2);rw[m9];simpa using this
theorem aoJ{rc}(P L Q:List aD)(y:aD)(hL:kB L)(hL1:1<L.length)(hl:(P++(L++y::Q)).length<1099511627776)(hn:(P++(L++y::Q)).length<n):
 ∃M,dw n rc (P++(L++y::Q)) (P.length:Nat) (P.length+L.length:Nat) (P.length+L.length+1:Nat) φ=some (P++(M++Q))/\M.length=L.length+1/\kB M/\cR M (L++[y]):=by
 obtain⟨d,hd⟩:∃d,P++(L++y::Q)=d:=⟨_,rfl⟩;have hdl:d.length=P.length+L.length+1+Q.length:=by rw[<- hd];simp<;>omega
 rw[hd]at hl hn ⊢;have hy:d[P.length+L.length]? =some y:=qF (U:=P++L) (V:=Q) (by rw[<- hd];simp) (by simp);have hkey:∀k,(hk0:P.length<=k)->(hk:k<P.length+L.length)->Fa d k=(L[k-P.length]'(by omega)).cost:=λk h1 h2=>by have:=(Jv (d:=d) (U:=P) (V:=L) (W:=y::Q) (t:=k-P.length) hd.symm (by omega)).2;rw[<- this];congr 1;omega
 obtain⟨r,hr,r1,r2,r3,r4⟩:=Nx (step:=ig d (P.length+L.length:Nat) φ) (p:=λk=>decide (Fa d k<=y.cost)) (lo:=P.length) (hi:=P.length+L.length) (λ i j h1 h2 h3=>by
  obtain⟨z,hz,H2⟩:=EK (d:=d) (k:=(i+j)/2) (by omega);have d1:decide ((i:Int)<j)=true:=by simp<;>omega
  have i1:ct ((i+j)/2:Nat) d.length=true:=aV (by omega);have i2:ct (P.length+L.length:Nat) d.length=true:=aV (by omega);have⟨c,c1,c2⟩:=hφ y z;simp only[ig,d1,aj,P1,Mu (show i+j<4611686018427387904 by omega),i1,i2,oM,hz,hy,ai,c1];rw[H2,aR (by omega)];by_cases hc:c<0;have:=c2.1 hc;simp[hc,show ¬z.cost<=y.cost by omega];have:¬y.cost<z.cost:=λh=>hc (c2.2 h);simp[hc,show z.cost<=y.cost by omega]) (λ i=>by simp[ig]) (λ a b h1 h2 h3 h4=>by simp at h4 ⊢;rw[hkey a h1 (by omega)];rw[hkey b (by omega) h3]at h4;have:=hL.le (i:=a-P.length) (j:=b-P.length) (by omega) (by omega);omega) n P.length (P.length+L.length) (aA _) (by omega) (aA _) (by omega) (λ _ h1 h2=>by omega) (λ _ h1 h2=>by omega)
 obtain⟨L1,L2,pj,hLl⟩:∃L1 L2,L=L1++L2/\L1.length=r-P.length:=⟨L.take (r-P.length),L.drop (r-P.length),by simp,by simp<;>omega⟩;have hlen:L.length=L1.length+L2.length:=by rw[pj];simp
 have hf:=ah4 L2.reverse (P++L1) Q y d n (by rw[hdl];simp<;>omega) hl (by simp<;>omega);have e1:(P++L1).length=r:=by simp<;>omega
 have e2:(P++L1)++(L2.reverse.reverse++y::Q)=d:=by rw[<- hd,pj];simp
 rw[e1,e2]at hf;have e3:r+L2.reverse.length=P.length+L.length:=by simp<;>omega
 rw[e3]at hf;have hle:∀z∈L1,z.cost<=y.cost:=λz hz=>by
  obtain⟨k,hk,rfl⟩:=mem_iff_getElem.1 hz;have:=r3 (P.length+k) (by omega) (by omega);simp at this;rw[hkey _ (by omega) (by omega)]at this;simp[pj]at this
  rwa [List.getElem_append_left hk]at this
 have hgt:∀z∈L2,y.cost<z.cost:=λz hz=>by
  obtain⟨k,hk,rfl⟩:=mem_iff_getElem.1 hz;have:=r4 (r+k) (by omega) (by omega);simp at this;rw[hkey _ (by omega) (by omega)]at this;have e:r+k-P.length=L1.length+k:=by omega
  simp only[e,pj]at this;rw[List.getElem_append_right (by omega)]at this;simp at this;omega
 refine⟨L1++y::L2,?_,by rw[hlen];simp<;>omega,?_,?_⟩;have c1:(i64.wrap ((P.length+L.length:Nat)-(P.length:Nat))==1)=false:=by rw[aM (by omega) (by omega)];simp<;>omega
 have c2:(i64.wrap ((P.length+L.length+1:Nat)-(P.length+L.length:Nat))==1)=true:=by rw[aM (by omega) (by omega)];simp<;>omega
 unfold dw;rw[c1,au,c2,aj,hr];simp only[ai];rw[hf];simp;rw[pj]at hL;refine abJ (CB hL) (pairwise_cons.2 ⟨λ z hz=>Int.le_of_lt (hgt z hz),yc hL⟩) λa ha b hb=>?_;rcases aQ.1 hb with rfl|hb;exact hle a ha;exact Nv hL a ha b hb;have:=(cR.refl L1).app (cR.swap (u:=L2) (v:=[y]) λa ha b hb=>by rw[bq.1 hb];exact hgt a ha);rw[pj];simpa using this
theorem aoK(P L R Q:List aD)(hL:kB L)(hR:kB R)(hL1:0<L.length)(hR1:0<R.length)(hl:(P++(L++(R++Q))).length<1099511627776)(hn:(P++(L++(R++Q))).length<n)(mid:Nat)(hmid:mid=(P.length+(P.length+L.length+R.length))/2)(s0 t0:Nat)
 (hst:(mid<P.length+L.length/\s0=mid+(P.length+L.length)-(P.length+L.length+R.length)/\t0=mid)\/(P.length+L.length<=mid/\s0=P.length/\t0=P.length+L.length)):
 ∃L1 L2 R1 R2,L=L1++L2/\R=R1++R2/\P.length+L1.length+R1.length=mid/\(∀ x∈L1,∀y∈R2,x.cost<=y.cost)/\(∀ y∈R1,∀x∈L2,y.cost<x.cost)/\
  iter (fJ (P++(L++(R++Q))) (P.length:Nat) (P.length+L.length:Nat) (P.length+L.length+R.length:Nat) φ) n (s0,t0)=some ((P.length+L1.length:Nat):Int):=by
 obtain⟨d,hd⟩:∃d,P++(L++(R++Q))=d:=⟨_,rfl⟩;have hdl:d.length=P.length+L.length+R.length+Q.length:=by rw[<- hd];simp<;>omega
 rw[hd]at hl hn ⊢;have PF:∀k,(hk0:P.length<=k)->(hk:k<P.length+L.length)->Fa d k=(L[k-P.length]'(by omega)).cost:=λk h1 h2=>by have:=(Jv (d:=d) (U:=P) (V:=L) (W:=R++Q) (t:=k-P.length) hd.symm (by omega)).2;rw[<- this];congr 1;omega
 have PC:∀k,(hk0:P.length+L.length<=k)->(hk:k<P.length+L.length+R.length)->Fa d k=(R[k-(P.length+L.length)]'(by omega)).cost:=λk h1 h2=>by have:=(Jv (d:=d) (U:=P++L) (V:=R) (W:=Q) (t:=k-(P.length+L.length)) (by rw[<- hd];simp) (by omega)).2;rw[<- this];congr 1;simp<;>omega
 have hb:s0<=t0/\P.length<=s0/\t0<=P.length+L.length/\(∀ k,s0<=k->k<t0->P.length+L.length<=mid+(P.length+L.length)-1-k/\mid+(P.length+L.length)-1-k<P.length+L.length+R.length):=by rcases hst with ⟨h1,h2,h3⟩|⟨h1,h2,h3⟩;refine⟨by omega,by omega,by omega,λk h4 h5=>by omega⟩;refine⟨by omega,by omega,by omega,λk h4 h5=>by omega⟩
 obtain⟨b1,b2,b3,b4⟩:=hb;obtain⟨r,hr,r1,r2,r3,r4⟩:=Nx (step:=fJ d (P.length:Nat) (P.length+L.length:Nat) (P.length+L.length+R.length:Nat) φ) (p:=λk=>decide (Fa d k<=Fa d (mid+(P.length+L.length)-1-k))) (lo:=s0) (hi:=t0) (λ i j h1 h2 h3=>by
  have hk:=b4 ((i+j)/2) (by omega) (by omega);obtain⟨z,hz,H2⟩:=EK (d:=d) (k:=(i+j)/2) (by omega);obtain⟨y,hy,hyk⟩:=EK (d:=d) (k:=mid+(P.length+L.length)-1-(i+j)/2) (by omega);have d1:decide ((i:Int)<j)=true:=by simp<;>omega
  have wm:i64.wrap ((IntKind.u64.wrap (i64.wrap ((P.length:Nat)+(P.length+L.length+R.length:Nat))))/2 ^ (1:Int).toNat)=(mid:Nat):=by rw[Mu (by omega),<- hmid]
  have wp:i64.wrap (i64.wrap (i64.wrap ((mid:Nat)+(P.length+L.length:Nat))-1)-((i+j)/2:Nat))=(mid+(P.length+L.length)-1-(i+j)/2:Nat):=by rw[E4 (by omega),aM (x:=(mid+(P.length+L.length):Nat)-1),aM (by omega) (by omega)];omega
  have i1:ct ((i+j)/2:Nat) d.length=true:=aV (by omega);have i2:ct (mid+(P.length+L.length)-1-(i+j)/2:Nat) d.length=true:=aV (by omega);have⟨c,c1,c2⟩:=hφ y z;simp only[fJ,d1,aj,P1,wm,Mu (show i+j<4611686018427387904 by omega),wp,i1,i2,oM,hz,hy,ai,c1];rw[H2,hyk,aR (by omega)];by_cases hc:c<0;have:=c2.1 hc;simp[hc,show ¬z.cost<=y.cost by omega];have:¬y.cost<z.cost:=λh=>hc (c2.2 h);simp[hc,show z.cost<=y.cost by omega]) (λ i=>by simp[fJ]) (λ a b h1 h2 h3 h4=>by simp[bF]at h4 ⊢;have ha:=b4 a h1 (by omega);have hb':=b4 b (by omega) h3;rw[PF a (by omega) (by omega),PC _ ha.1 ha.2];rw[PF b (by omega) (by omega),PC _ hb'.1 hb'.2]at h4;have e1:=hL.le (i:=a-P.length) (j:=b-P.length) (by omega) (by omega);have e2:=hR.le (i:=mid+(P.length+L.length)-1-b-(P.length+L.length)) (j:=mid+(P.length+L.length)-1-a-(P.length+L.length)) (by omega) (by omega);omega) n s0 t0 (aA _) b1 (aA _) (by omega) (λ _ h1 h2=>by omega) (λ _ h1 h2=>by omega)
 obtain⟨L1,L2,pj,hLl⟩:∃L1 L2,L=L1++L2/\L1.length=r-P.length:=⟨L.take (r-P.length),L.drop (r-P.length),by simp,by simp<;>omega⟩;obtain⟨R1,R2,m9,hRl⟩:∃R1 R2,R=R1++R2/\R1.length=mid-r:=⟨R.take (mid-r),R.drop (mid-r),by simp,by simp<;>omega⟩;have lL:L.length=L1.length+L2.length:=by rw[pj];simp
 have lR:R.length=R1.length+R2.length:=by rw[m9];simp
 refine⟨L1,L2,R1,R2,pj,m9,by omega,λx hx y hy=>?_,λy hy x hx=>?_,by rw[hr];congr 1;omega⟩;obtain⟨k,hk,rfl⟩:=mem_iff_getElem.1 hx;obtain⟨q,hq,rfl⟩:=mem_iff_getElem.1 hy;have hr1:=r3 (r-1) (by omega) (by omega);simp[bF]at hr1;have hbb:=b4 (r-1) (by omega) (by omega);rw[PF (r-1) (by omega) (by omega),PC _ hbb.1 hbb.2]at hr1;have e1:=hL.le (i:=k) (j:=r-1-P.length) (by omega) (by omega);have e2:=hR.le (i:=mid+(P.length+L.length)-1-(r-1)-(P.length+L.length)) (j:=R1.length+q) (by omega) (by omega);have f1:L[k]'(by omega)=L1[k]:=by simp[pj];exact List.getElem_append_left hk
 have f2:R[R1.length+q]'(by omega)=R2[q]:=by simp only[m9];rw[List.getElem_append_right (by omega)];simp
 rw[f1]at e1;rw[f2]at e2;omega;obtain⟨k,hk,rfl⟩:=mem_iff_getElem.1 hx;obtain⟨q,hq,rfl⟩:=mem_iff_getElem.1 hy;have hs:r<t0:=by rcases hst with h|h<;>omega
 have hr1:=r4 r (by omega) hs;simp[dL]at hr1;have hbb:=b4 r (by omega) hs;rw[PF r (by omega) (by omega),PC _ hbb.1 hbb.2]at hr1;have e1:=hL.le (i:=r-P.length) (j:=L1.length+k) (by omega) (by omega);have e2:=hR.le (i:=q) (j:=mid+(P.length+L.length)-1-r-(P.length+L.length)) (by omega) (by omega);have f1:L[L1.length+k]'(by omega)=L2[k]:=by simp only[pj];rw[List.getElem_append_right (by omega)];simp
 have f2:R[q]'(by omega)=R1[q]:=by simp[m9];exact List.getElem_append_left hq
 rw[f1]at e1;rw[f2]at e2;omega
theorem abK:∀(m:Nat)(P L R Q:List aD),kB L->kB R->0<L.length->0<R.length->L.length+R.length<=m->(P++(L++(R++Q))).length<1099511627776->(P++(L++(R++Q))).length<n->
 ∃M,bX n m (P++(L++(R++Q))) (P.length:Int) ((P.length+L.length:Nat):Int) ((P.length+L.length+R.length:Nat):Int) φ=some (P++(M++Q))/\M.length=L.length+R.length/\kB M/\cR M (L++R)
 | 0,P,L,R,Q,_,_,h1,h2,h3,_,_=>by omega
 |m+1,P,L,R,Q,hL,hR,h1,h2,h3,hl,hn=>by
  show ∃M,dw n (bX n m) (P++(L++(R++Q))) (P.length:Int) ((P.length+L.length:Nat):Int) ((P.length+L.length+R.length:Nat):Int) φ=some (P++(M++Q))/\M.length=L.length+R.length/\kB M/\cR M (L++R);by_cases hL1:L.length=1;obtain⟨x,rfl⟩:=List.length_eq_one_iff.1 hL1;obtain⟨M,g1,g2,g3,g4⟩:=aoI hφ (n:=n) (rc:=bX n m) P R Q x hR (by simpa using hl) (by simpa using hn);exact⟨M,by simpa using g1,by simpa using g2,g3,g4⟩;by_cases hR1:R.length=1;obtain⟨y,rfl⟩:=List.length_eq_one_iff.1 hR1;obtain⟨M,g1,g2,g3,g4⟩:=aoJ hφ (n:=n) (rc:=bX n m) P L Q y hL (by omega) (by simpa using hl) (by simpa using hn);exact⟨M,by simpa using g1,by simpa using g2,g3,g4⟩;have hlen:(P++(L++(R++Q))).length=P.length+L.length+R.length+Q.length:=by simp<;>omega
  rw[hlen]at hl hn;obtain⟨mid,hmid⟩:∃mid,mid=(P.length+(P.length+L.length+R.length))/2:=⟨_,rfl⟩;obtain⟨s0,t0,hst⟩:∃s0 t0,(mid<P.length+L.length/\s0=mid+(P.length+L.length)-(P.length+L.length+R.length)/\t0=mid)\/(P.length+L.length<=mid/\s0=P.length/\t0=P.length+L.length):=by rcases Nat.lt_or_ge mid (P.length+L.length)with h|h;exact⟨_,_,.inl ⟨h,rfl,rfl⟩⟩;exact⟨_,_,.inr ⟨h,rfl,rfl⟩⟩
  obtain⟨L1,L2,R1,R2,rfl,rfl,k1,k2,k3,k4⟩:=aoK hφ (n:=n) P L R Q hL hR h1 h2 (by rw[hlen];exact hl) (by rw[hlen];exact hn) mid hmid s0 t0 hst;have lL:(L1++L2).length=L1.length+L2.length:=by simp
  have lR:(R1++R2).length=R1.length+R2.length:=by simp
  have wm:i64.wrap ((IntKind.u64.wrap (i64.wrap ((P.length:Int)+((P.length+(L1++L2).length+(R1++R2).length:Nat):Int))))/2 ^ (1:Int).toNat)=(mid:Int):=by rw[Mu (by omega),<- hmid]
  have wn:i64.wrap ((mid:Int)+((P.length+(L1++L2).length:Nat):Int))=((mid+(P.length+(L1++L2).length):Nat):Int):=E4 (by omega);have we:i64.wrap (((mid+(P.length+(L1++L2).length):Nat):Int)-((P.length+L1.length:Nat):Int))=((P.length+L1.length+L2.length+R1.length:Nat):Int):=by rw[aM (by omega) (by omega)];omega
  have c1:(i64.wrap (((P.length+(L1++L2).length:Nat):Int)-(P.length:Int))==(1:Int))=false:=by rw[aM (by omega) (by omega)];simp only[beq_eq_false_iff_ne];omega
  have c2:(i64.wrap (((P.length+(L1++L2).length+(R1++R2).length:Nat):Int)-((P.length+(L1++L2).length:Nat):Int))==(1:Int))=false:=by rw[aM (by omega) (by omega)];simp only[beq_eq_false_iff_ne];omega
  have hsel:((bif decide (((P.length+(L1++L2).length:Nat):Int)>(mid:Int))then some (i64.wrap (((mid+(P.length+(L1++L2).length):Nat):Int)-((P.length+(L1++L2).length+(R1++R2).length:Nat):Int)),(mid:Int))else some ((P.length:Int),((P.length+(L1++L2).length:Nat):Int))):Option (Int×Int))=some ((s0:Int),(t0:Int)):=by rcases hst with ⟨q1,q2,q3⟩|⟨q1,q2,q3⟩;rw[show decide (((P.length+(L1++L2).length:Nat):Int)>(mid:Int))=true by simp only[bF];omega,aj,aM (by omega) (by omega),q2,q3];congr 2;omega;rw[show decide (((P.length+(L1++L2).length:Nat):Int)>(mid:Int))=false by simp only[dL];omega,au,q2,q3]
  have XX:((bif decide (((P.length+L1.length:Nat):Int)<((P.length+(L1++L2).length:Nat):Int))then some (decide (((P.length+(L1++L2).length:Nat):Int)<((P.length+L1.length+L2.length+R1.length:Nat):Int)))else some false:Option Bool).bind λv13=>bif v13 then(ck (aE (P++(L1++L2++(R1++R2++Q))).length (P++(L1++L2++(R1++R2++Q))).length) ((iC n (P++(L1++L2++(R1++R2++Q))) ((P.length+L1.length:Nat):Int) ((P.length+(L1++L2).length:Nat):Int) ((P.length+L1.length+L2.length+R1.length:Nat):Int) φ).bind λr4=>some r4))else some (P++(L1++L2++(R1++R2++Q))))=some (P++(L1++(R1++(L2++(R2++Q))))):=by by_cases e1:L2=[];subst e1;simp;by_cases e2:R1=[];subst e2;rw[show decide (((P.length+(L1++L2).length:Nat):Int)<((P.length+L1.length+L2.length+([]:List aD).length:Nat):Int))=false by simp only[dL,length_nil];omega];cases decide (((P.length+L1.length:Nat):Int)<((P.length+(L1++L2).length:Nat):Int))<;>simp;have p1:0<L2.length:=List.length_pos_iff.2 e1;have p2:0<R1.length:=List.length_pos_iff.2 e2;have:=ajn (φ:=φ) (n:=n) (P++L1) L2 R1 (R2++Q) p1 p2 (by simp;simp at hl;omega) (by simp;simp at hn;omega) (a:=((P.length+L1.length:Nat):Int)) (m:=((P.length+(L1++L2).length:Nat):Int)) (b:=((P.length+L1.length+L2.length+R1.length:Nat):Int)) (by simp) (by simp<;>omega) (by simp);have e3:P++(L1++L2++(R1++R2++Q))=P++L1++(L2++(R1++(R2++Q))):=(by simp);rw[show decide (((P.length+L1.length:Nat):Int)<((P.length+(L1++L2).length:Nat):Int))=true by simp only[bF];omega,aj,show decide (((P.length+(L1++L2).length:Nat):Int)<((P.length+L1.length+L2.length+R1.length:Nat):Int))=true by simp only[bF];omega];simp only[ai,aj,aN];rw[e3,this];simp
  obtain⟨M1,m1,m2,m3,m4⟩:∃M1,((bif decide ((P.length:Int)<((P.length+L1.length:Nat):Int))then some (decide (((P.length+L1.length:Nat):Int)<(mid:Int)))else some false:Option Bool).bind λv15=>bif v15 then(ck (aE (P++(L1++L2++(R1++R2++Q))).length (P++(L1++(R1++(L2++(R2++Q))))).length) ((bX n m (P++(L1++(R1++(L2++(R2++Q))))) (P.length:Int) ((P.length+L1.length:Nat):Int) (mid:Int) φ).bind λr5=>some r5))else some (P++(L1++(R1++(L2++(R2++Q))))))=some (P++(M1++(L2++(R2++Q))))/\M1.length=L1.length+R1.length/\kB M1/\cR M1 (L1++R1):=by by_cases e1:L1=[];subst e1;exact⟨R1,by simp,by simp,CB hR,cR.refl _⟩;by_cases e2:R1=[];subst e2;have:(mid:Int)=((P.length+L1.length:Nat):Int):=(by simp at k1;omega);exact⟨L1,by rw[this];simp,by simp,CB hL,by simpa using cR.refl L1⟩;have p1:0<L1.length:=List.length_pos_iff.2 e1;have p2:0<R1.length:=List.length_pos_iff.2 e2;obtain⟨M,g1,g2,g3,g4⟩:=abK m P L1 R1 (L2++(R2++Q)) (CB hL) (CB hR) p1 p2 (by omega) (by simp;simp at hl;omega) (by simp;simp at hn;omega);refine⟨M,?_,g2,g3,g4⟩;rw[show decide ((P.length:Int)<((P.length+L1.length:Nat):Int))=true by simp only[bF];omega,aj,show decide (((P.length+L1.length:Nat):Int)<(mid:Int))=true by simp only[bF];omega];simp only[ai,aj];rw[pz (by simp<;>omega)];simp only[aj];rw[<- k1,g1];rfl
  obtain⟨M2,q1,q2,q3,q4⟩:∃M2,((bif decide ((mid:Int)<((P.length+L1.length+L2.length+R1.length:Nat):Int))then some (decide (((P.length+L1.length+L2.length+R1.length:Nat):Int)<((P.length+(L1++L2).length+(R1++R2).length:Nat):Int)))else some false:Option Bool).bind λv17=>bif v17 then(ck (aE (P++(L1++L2++(R1++R2++Q))).length (P++(M1++(L2++(R2++Q)))).length) ((bX n m (P++(M1++(L2++(R2++Q)))) (mid:Int) ((P.length+L1.length+L2.length+R1.length:Nat):Int) ((P.length+(L1++L2).length+(R1++R2).length:Nat):Int) φ).bind λr6=>some r6))else some (P++(M1++(L2++(R2++Q)))))=some (P++(M1++(M2++Q)))/\M2.length=L2.length+R2.length/\kB M2/\cR M2 (L2++R2):=by have hm1:P.length+M1.length=mid:=(by omega);by_cases e1:L2=[];subst e1;exact⟨R2,by rw[show decide ((mid:Int)<((P.length+L1.length+([]:List aD).length+R1.length:Nat):Int))=false by simp only[dL,length_nil];omega];simp,by simp,yc hR,cR.refl _⟩;by_cases e2:R2=[];subst e2;refine⟨L2,?_,by simp,yc hL,by simpa using cR.refl L2⟩;rw[show decide (((P.length+L1.length+L2.length+R1.length:Nat):Int)<((P.length+(L1++L2).length+(R1++([]:List aD)).length:Nat):Int))=false by simp only[dL,List.append_nil];omega];cases decide ((mid:Nat)<(P.length+L1.length+L2.length+R1.length:Nat))<;>simp;have p1:0<L2.length:=List.length_pos_iff.2 e1;have p2:0<R2.length:=List.length_pos_iff.2 e2;obtain⟨M,g1,g2,g3,g4⟩:=abK m (P++M1) L2 R2 Q (yc hL) (yc hR) p1 p2 (by omega) (by simp;simp at hl;omega) (by simp;simp at hn;omega);refine⟨M,?_,g2,g3,g4⟩;rw[show decide ((mid:Int)<(P.length+L1.length+L2.length+R1.length:Nat))=true by simp only[bF];omega,aj,show decide (((P.length+L1.length+L2.length+R1.length:Nat):Int)<(P.length+(L1++L2).length+(R1++R2).length:Nat))=true by simp only[bF];omega];simp only[ai,aj];have f1:(P++M1).length=mid:=(by simp<;>omega);have f2:mid+L2.length=P.length+L1.length+L2.length+R1.length:=(by omega);have f3:mid+L2.length+R2.length=P.length+(L1++L2).length+(R1++R2).length:=(by omega);rw[f1,f3,f2]at g1;rw[pz (by simp<;>omega)];simp only[aj];simp only[aT]at g1;rw[g1];simp
  refine⟨M1++M2,?_,by simp<;>omega,?_,?_⟩;unfold dw;rw[c1,au,c2,au,P1];simp only[aj];simp only[wm,wn];rw[hsel];simp only[ai];rw[k4];simp only[ai,we];rw[XX];simp only[ai];rw[m1];simp only[ai];rw[q1];simp;refine abJ m3 q3 λx hx y hy=>?_;have hx:=(m4.mem x).1 hx;have hy:=(q4.mem y).1 hy;rcases bL.1 hx with hx|hx<;>rcases bL.1 hy with hy|hy;exact Nv hL x hx y hy;exact k2 x hx y hy;exact Int.le_of_lt (k3 x hx y hy);exact Nv hR x hx y hy;refine(m4.app q4).trans ?_;have:=((cR.refl L1).app (cR.swap (u:=L2) (v:=R1) λx hx y hy=>k3 y hy x hx)).app (cR.refl R2);simpa using this
theorem aeg:∀ys (x:aD) (P R:List aD) a0 (fuel:Nat),a0.length=P.length+ys.length+1+R.length->a0.length<1099511627776->ys.length<fuel->
 iter (dG a0 (P.length:Nat) φ) fuel ((P.length+ys.length:Nat),P++(ys.reverse++x::R))=some (P++((fV tB x ys).reverse++R))
 |[],x,P,R,a0,fuel,h1,h2,h3=>by obtain⟨f,rfl⟩:∃f,fuel=f+1:=⟨fuel-1,by omega⟩;refine cu ?_;simp[dG,fV]
 |y::ys,x,P,R,a0,fuel,h1,h2,h3=>by
  obtain⟨f,rfl⟩:∃f,fuel=f+1:=⟨fuel-1,by omega⟩;simp at h1 h3;have d1:decide (((P.length+(y::ys).length:Nat):Int)>(P.length:Nat))=true:=by simp<;>omega
  have w1:i64.wrap ((P.length+(y::ys).length:Nat)-1)=(P.length+ys.length:Nat):=by rw[aM (by simp<;>omega) (by simp<;>omega)];simp<;>omega
  have i1:ct (P.length+(y::ys).length:Nat) a0.length=true:=aV (by simp<;>omega);have i2:ct (P.length+ys.length:Nat) a0.length=true:=aV (by omega);have g1:(P++((y::ys).reverse++x::R))[P.length+(y::ys).length]? =some x:=qF (U:=P++(y::ys).reverse) (V:=R) (by simp) (by simp);have g2:(P++((y::ys).reverse++x::R))[P.length+ys.length]? =some y:=qF (U:=P++ys.reverse) (V:=x::R) (by simp) (by simp);have⟨c,c1,c2⟩:=hφ x y;have hlt:decide (c<0)=tB x y:=by unfold tB;by_cases h:c<0;simp[h,c2.1 h];have:¬x.cost<y.cost:=λe=>h (c2.2 e);simp[h,this]
  cases hxy:tB x y with
  |true=>
   have s1:(P++((y::ys).reverse++x::R)).set (P.length+(y::ys).length) y=(P++(y::ys).reverse)++y::R:=xM (U:=P++(y::ys).reverse) (V:=R) (x:=x) (by simp) (by simp);have g3:((P++(y::ys).reverse)++y::R)[P.length+ys.length]? =some y:=qF (U:=P++ys.reverse) (V:=y::R) (by simp) (by simp);have s2:((P++(y::ys).reverse)++y::R).set (P.length+ys.length) x=(P++ys.reverse)++x::(y::R):=xM (U:=P++ys.reverse) (V:=y::R) (x:=y) (by simp) (by simp);have step:dG a0 (P.length:Nat) φ ((P.length+(y::ys).length:Nat),P++((y::ys).reverse++x::R))=some (.inl ((P.length+ys.length:Nat),P++(ys.reverse++x::(y::R)))):=(by simp only[dG,d1,aj,w1,i1,i2,oM,g1,g2,ai,c1,hlt,hxy,P2,s1,g3,s2];simp);rw[dM step];have:=aeg ys x P (y::R) a0 f (by simp<;>omega) h2 (by omega);rw[this];simp[fV,hxy]
  |false=>
   refine(cu ?_).trans rfl;simp only[dG,d1,aj,w1,i1,i2,oM,g1,g2,ai,c1,hlt,hxy,au];simp[fV,hxy]
theorem aeh:∀(B S P Q:List aD) a0 (fuel:Nat),kB S->a0.length=P.length+S.length+B.length+Q.length->a0.length<1099511627776->a0.length<n->B.length<fuel->
 ∃S',iter (dH n a0 (P.length:Nat) (P.length+S.length+B.length:Nat) φ) fuel ((P.length+S.length:Nat),P++(S++(B++Q)))=some (P++(S'++Q))/\S'.length=S.length+B.length/\kB S'/\cR S' (S++B)
 |[],S,P,Q,a0,fuel,hS,h1,h2,h3,h4=>by obtain⟨f,rfl⟩:∃f,fuel=f+1:=⟨fuel-1,by omega⟩;refine⟨S,cu ?_,by simp,hS,by simpa using cR.refl S⟩;simp[dH]
 |x::B,S,P,Q,a0,fuel,hS,h1,h2,h3,h4=>by
  obtain⟨f,rfl⟩:∃f,fuel=f+1:=⟨fuel-1,by omega⟩;simp at h1 h4;have hi:=aeg hφ S.reverse x P (B++Q) a0 n (by simp<;>omega) h2 (by simp<;>omega);simp only[List.length_reverse,List.reverse_reverse]at hi;have hl:(fV tB x S.reverse).reverse.length=S.length+1:=by simp[Az]
  have d1:decide (((P.length+S.length:Nat):Int)<(P.length+S.length+(x::B).length:Nat))=true:=by simp<;>omega
  have step:dH n a0 (P.length:Nat) (P.length+S.length+(x::B).length:Nat) φ ((P.length+S.length:Nat),P++(S++(x::B++Q)))=some (.inl ((P.length+(fV tB x S.reverse).reverse.length:Nat),P++((fV tB x S.reverse).reverse++(B++Q)))):=by have e:P++(S++(x::B++Q))=P++(S++x::(B++Q)):=rfl;simp only[dH,d1,aj];rw[e,hi];simp only[ai,hl];rw[aR (by omega)];rfl
  rw[dM step];have hs:kB (fV tB x S.reverse).reverse:=List.pairwise_reverse.2 (WV x S.reverse (List.pairwise_reverse.2 hS));obtain⟨S',g1,g2,g3,g4⟩:=aeh B (fV tB x S.reverse).reverse P Q a0 f hs (by omega) h2 h3 (by omega);refine⟨S',?_,by simp<;>omega,g3,g4.trans ?_⟩;have e:P.length+(fV tB x S.reverse).reverse.length+B.length=P.length+S.length+(x::B).length:=by rw[hl];simp<;>omega
  rw[e]at g1;exact g1;have:=(Ry x S.reverse).app (cR.refl B);simpa using this
theorem alr(P B Q:List aD)(hl:(P++(B++Q)).length<1099511627776)(hn:(P++(B++Q)).length<n){a b:Int}(ha:a=(P.length:Nat))(hb:b=(P.length+B.length:Nat)):
 ∃B',dx n (P++(B++Q)) a b φ=some (P++(B'++Q))/\B'.length=B.length/\kB B'/\cR B' B:=by
 subst ha hb;unfold dx;simp at hl hn;cases B with
 |nil=>
  refine⟨[],?_,rfl,List.Pairwise.nil,cR.refl _⟩;obtain⟨f,rfl⟩:∃f,n=f+1:=⟨n-1,by omega⟩;have w:i64.wrap ((P.length:Nat)+1)=(P.length+1:Nat):=aR (by omega);rw[w,cu (o:=P++([]++Q))];rfl;simp only[dH];rw[show decide (((P.length+1:Nat):Int)<(P.length+[].length:Nat))=false by simp;omega];rfl
 |cons x B=>
  simp at hl hn;obtain⟨S',g1,g2,g3,g4⟩:=aeh hφ (n:=n) B [x] P Q (P++(x::B++Q)) n (List.pairwise_singleton _ _) (by simp<;>omega) (by simp<;>omega) (by simp<;>omega) (by omega);refine⟨S',?_,by rw[g2];simp<;>omega,g3,by simpa using g4⟩;have w:i64.wrap ((P.length:Nat)+1)=(P.length+[x].length:Nat):=aR (by omega);have e:P.length+[x].length+B.length=P.length+(x::B).length:=by simp<;>omega
  rw[e]at g1;rw[w];have e2:P++([x]++(B++Q))=P++(x::B++Q):=rfl;rw[e2]at g1;rw[g1];rfl
theorem Z9:∀(w:Nat) (P R:List aD) a0 (fuel:Nat),R.length<=w->a0.length=P.length+R.length->a0.length<1099511627776->a0.length<n->w<fuel->
 ∃R',(iter (dJ n a0 (a0.length:Nat) φ) fuel ((P.length:Nat),(P.length+20:Nat),P++R)).bind (λ (w1,w2)=>ck (aE a0.length w2.length) ((dx n w2 w1 (a0.length:Nat) φ).bind λr2=>some r2))=some (P++R')/\R'.length=R.length/\Ch 20 R'/\cR R' R
 |w,P,R,a0,fuel,h1,h2,h3,h4,h5=>by
  obtain⟨f,rfl⟩:∃f,fuel=f+1:=⟨fuel-1,by omega⟩;by_cases hR:20<=R.length;obtain⟨B,T,rfl,hB⟩:∃B T,R=B++T/\B.length=20:=⟨R.take 20,R.drop 20,by simp,by simp<;>omega⟩;simp at h1 h2 hR;obtain⟨B',g1,g2,g3,g4⟩:=alr hφ (n:=n) P B T (by simp<;>omega) (by simp<;>omega) (a:=(P.length:Nat)) (b:=(P.length+20:Nat)) rfl (by rw[hB]);have step:dJ n a0 (a0.length:Nat) φ ((P.length:Nat),(P.length+20:Nat),P++(B++T))=some (.inl (((P++B').length:Nat),((P++B').length+20:Nat),(P++B')++T)):=by simp only[dJ];rw[show decide (((P.length+20:Nat):Int)<=(a0.length:Nat))=true by simp;omega,pz (by simp<;>omega),g1];have w1:i64.wrap ((P.length+20:Nat)+20)=((P++B').length+20:Nat):=(by rw[aM (by omega) (by omega)];simp[g2,hB]);rw[w1];simp[g2,hB]
  rw[dM step];cases w with
  |zero=>omega
  |succ w=>
   obtain⟨R',q1,q2,q3,q4⟩:=Z9 w (P++B') T a0 f (by omega) (by simp<;>omega) h3 h4 (by omega);exact⟨B'++R',by rw[q1];simp,by simp[q2,g2],.cons g3 (by omega) q3,g4.app q4⟩
  have ex:dJ n a0 (a0.length:Nat) φ ((P.length:Nat),(P.length+20:Nat),P++R)=some (.inr ((P.length:Nat),P++R)):=by simp only[dJ];rw[show decide (((P.length+20:Nat):Int)<=(a0.length:Nat))=false by simp;omega];rfl
  rw[cu ex];obtain⟨B',g1,g2,g3,g4⟩:=alr hφ (n:=n) P R [] (by simp<;>omega) (by simp<;>omega) (a:=(P.length:Nat)) (b:=(a0.length:Nat)) rfl (by rw[h2]);simp at g1;refine⟨B',?_,g2,.last g3 (by omega),g4⟩;simp only[ai];rw[pz (by simp<;>omega),g1];rfl
theorem ajo{n bs:Nat}(hbs:0<bs):∀(w:Nat) (P R:List aD) a0 (fuel:Nat),Ch bs R->R.length<=w->a0.length=P.length+R.length->a0.length<1099511627776->bs<1099511627776->a0.length<n->w<fuel->
 ∃R',(iter (dK n a0 (a0.length:Nat) φ (bs:Nat)) fuel ((P.length:Nat),(P.length+2*bs:Nat),P++R)).bind (λ (w3,w4)=>((bif (decide ((i64.wrap (w3+(bs:Nat)))<(a0.length:Nat)))then(ck (aE a0.length w4.length) ((fC n w4 w3 (i64.wrap (w3+(bs:Nat))) (a0.length:Nat) φ).bind λr4=>some r4))else some w4):Option (List aD)))=some (P++R')/\R'.length=R.length/\Ch (2*bs) R'/\cR R' R:=by
 intro w
 induction w using Nat.strongRecOn with
 |ind w ih=>
  intro P R a0 fuel hc h1 h2 h3 hb3 h4 h5;obtain⟨f,rfl⟩:∃f,fuel=f+1:=⟨fuel-1,by omega⟩;have wb:i64.wrap ((P.length:Nat)+(bs:Nat))=(P.length+bs:Nat):=E4 (by omega);have fin:∀R:List aD,a0.length=P.length+R.length->R.length<2*bs->(∀ X,iter (dK n a0 (a0.length:Nat) φ (bs:Nat)) (f+1) ((P.length:Nat),(P.length+2*bs:Nat),X)=some ((P.length:Int),X)):=by intro R h2 hR X;refine cu ?_;simp only[dK];rw[show decide (((P.length+2*bs:Nat):Int)<=(a0.length:Nat))=false by simp;omega];rfl
  cases hc with
  |last s1 s2=>
   rw[fin R h2 (by omega)];refine⟨R,?_,rfl,.last s1 (by omega),cR.refl _⟩;simp only[ai,wb];rw[show decide (((P.length+bs:Nat):Int)<(a0.length:Nat))=false by simp;omega];rfl
  | @cons b l s1 s2 s3=>
   simp at h1 h2;have merge:∀(c l2:List aD),l=c++l2->kB c->0<c.length->∃M,fC n (P++(b++l)) (P.length:Nat) (P.length+bs:Nat) (P.length+bs+c.length:Nat) φ=some (P++(M++l2))/\M.length=bs+c.length/\kB M/\cR M (b++c):=(by intro c l2 hl hcs hcl;subst hl;obtain⟨M,q1,q2,q3,q4⟩:=abK hφ (n:=n) n P b c l2 s1 hcs (by omega) hcl (by simp at h1 h2;omega) (by simp;simp at h2;omega) (by simp;simp at h2;omega);rw[s2]at q1 q2;exact⟨M,q1,q2,q3,q4⟩)
   have y6:∀(c l2 M:List aD),l=c++l2->c.length=bs->M.length=bs+c.length->fC n (P++(b++l)) (P.length:Nat) (P.length+bs:Nat) (P.length+bs+c.length:Nat) φ=some (P++(M++l2))->
    dK n a0 (a0.length:Nat) φ (bs:Nat) ((P.length:Nat),(P.length+2*bs:Nat),P++(b++l))=some (.inl (((P++M).length:Nat),((P++M).length+2*bs:Nat),(P++M)++l2)):=by intro c l2 M hl hcl hM hq;have hll:l.length=c.length+l2.length:=(by rw[hl];simp);simp only[dK];rw[show decide (((P.length+2*bs:Nat):Int)<=(a0.length:Nat))=true by simp;omega,aj,pz (by simp<;>omega)];simp only[aj];rw[wb];have e1:(P.length+bs+c.length:Nat)=(P.length+2*bs:Nat):=(by omega);rw[e1]at hq;rw[hq];have w2:i64.wrap (2*(bs:Nat))=(2*bs:Nat):=(by rw[aM (by omega) (by omega)];omega);have w3:i64.wrap ((P.length+2*bs:Nat)+(2*bs:Nat))=(P.length+2*bs+2*bs:Nat):=E4 (by omega);rw[w2,w3];have e2:(P++M).length=P.length+2*bs:=(by simp<;>omega);rw[e2];simp
   cases s3 with
   |last t1 t2=>
    by_cases hl:l.length=bs;obtain⟨M,q1,q2,q3,q4⟩:=merge l [] (by simp) t1 (by omega);rw[dM (y6 l [] M (by simp) hl q2 q1)];obtain⟨R',r1,r2,r3,r4⟩:=ih 0 (by omega) (P++M) [] a0 f (.last List.Pairwise.nil (by simp)) (by simp) (by simp<;>omega) h3 hb3 h4 (by omega);have:R'=[]:=List.eq_nil_of_length_eq_zero (by simpa using r2);subst this;exact⟨M,by rw[r1];simp,by simp<;>omega,.last q3 (by omega),by simpa using q4⟩;rw[fin (b++l) (by simp<;>omega) (by simp<;>omega)];simp only[ai,wb];by_cases hl0:l.length=0;have:l=[]:=List.eq_nil_of_length_eq_zero hl0;subst this;refine⟨b,?_,by simp,.last s1 (by omega),by simpa using cR.refl b⟩;rw[show decide (((P.length+bs:Nat):Int)<(a0.length:Nat))=false by simp;simp at h2;omega];simp;obtain⟨M,q1,q2,q3,q4⟩:=merge l [] (by simp) t1 (by omega);refine⟨M,?_,by simp<;>omega,.last q3 (by omega),by simpa using q4⟩;rw[show decide (((P.length+bs:Nat):Int)<(a0.length:Nat))=true by simp;omega,aj,pz (by simp<;>omega)];simp only[aj];have e1:(P.length+bs+l.length:Nat)=(a0.length:Nat):=(by omega);rw[e1]at q1;rw[q1];simp
   | @cons c l2 t1 t2 t3=>
    obtain⟨M,q1,q2,q3,q4⟩:=merge c l2 rfl t1 (by omega);rw[dM (y6 c l2 M rfl t2 q2 q1)];simp at h1 h2;obtain⟨R',r1,r2,r3,r4⟩:=ih (w-2*bs) (by omega) (P++M) l2 a0 f t3 (by omega) (by simp<;>omega) h3 hb3 h4 (by omega);refine⟨M++R',by rw[r1];simp,by simp<;>omega,.cons q3 (by omega) r3,?_⟩;have:=q4.app r4;simpa using this
theorem aac:∀(w bs:Nat) R a0 (fuel:Nat),0<bs->Ch bs R->a0.length<=bs+w->a0.length=R.length->a0.length<1099511627776->a0.length<n->w<fuel->bs<2199023255552->
 ∃R',iter (gq n a0 (a0.length:Nat) φ) fuel ((bs:Nat),R)=some R'/\kB R'/\cR R' R
 |w,bs,R,a0,fuel,hb,hc,h1,h2,h3,h4,h5,h6=>by
  obtain⟨f,rfl⟩:∃f,fuel=f+1:=⟨fuel-1,by omega⟩;by_cases hlt:bs<a0.length;obtain⟨R',q1,q2,q3,q4⟩:=ajo hφ (n:=n) hb R.length [] R a0 n hc (aA _) (by simp<;>omega) h3 (by omega) h4 (by omega);simp only[length_nil,Nat.zero_add,fT]at q1;have w2:i64.wrap (2*(bs:Nat))=(2*bs:Nat):=by rw[aM (by omega) (by omega)];omega
  have w3:i64.wrap ((bs:Nat)*2)=(2*bs:Nat):=by rw[aM (by omega) (by omega)];omega
  have step:gq n a0 (a0.length:Nat) φ ((bs:Nat),R)=some (.inl ((2*bs:Nat),R')):=by
   simp only[gq];rw[show decide ((bs:Int)<(a0.length:Nat))=true by simp;omega,w2,w3];have e0:((0:Nat):Int)=0:=rfl;rw[e0]at q1;obtain⟨⟨u1,u2⟩,hu⟩:∃u,iter (dK n a0 (a0.length:Nat) φ (bs:Nat)) n (0,(2*bs:Nat),R)=some u:=by
    cases hh:iter (dK n a0 (a0.length:Nat) φ (bs:Nat)) n (0,(2*bs:Nat),R)with
    |none=>rw[hh]at q1;cases q1
    |some u=>exact⟨u,rfl⟩
   rw[hu]at q1 ⊢;simp at q1 ⊢;rw[q1];rfl
  rw[dM step];cases w with
  |zero=>omega
  |succ w=>
   obtain⟨R2,r1,r2,r3⟩:=aac w (2*bs) R' a0 f (by omega) q3 (by omega) (by omega) h3 h4 (by omega) (by omega);exact⟨R2,r1,r2,r3.trans q4⟩
  refine⟨R,cu ?_,hc.xl (by omega) hb,cR.refl _⟩;simp only[gq];rw[show decide ((bs:Int)<(a0.length:Nat))=false by simp;omega];rfl
theorem PZ l (hl:l.length<1099511627776) (hn:l.length<n):∃r,jw n l φ=some r/\kB r/\cR r l:=by
 obtain⟨R1,q1,q2,q3,q4⟩:=Z9 hφ (n:=n) l.length [] l l n (aA _) (by simp) hl hn hn;simp only[length_nil,Nat.zero_add,fT]at q1;obtain⟨R2,r1,r2,r3⟩:=aac hφ (n:=n) l.length 20 R1 l n (by omega) q3 (by omega) (by omega) hl hn hn (by omega);refine⟨R2,?_,r2,r3.trans q4⟩;unfold jw nG;rw[aN];have e0:((0:Nat):Int)=0:=rfl;have e20:((20:Nat):Int)=20:=rfl;rw[e0,e20]at q1;rw[e20]at r1;obtain⟨⟨u1,u2⟩,hu⟩:∃u,iter (dJ n l (l.length:Nat) φ) n (0,20,l)=some u:=by
  cases hh:iter (dJ n l (l.length:Nat) φ) n (0,20,l)with
  |none=>rw[hh]at q1;cases q1
  |some u=>exact⟨u,rfl⟩
 rw[hu]at q1 ⊢;simp only[ai]at q1 ⊢;cases he:aE l.length u2.length with
 |false=>rw[he]at q1;cases q1
 |true=>
  rw[he]at q1;cases hi:dx n u2 u1 (l.length:Nat) φ with
  |none=>rw[hi]at q1;cases q1
  |some r=>
   rw[hi]at q1;cases q1;simp only[ai];rw[r1];rfl
end
def eS(v:ay):Int:=bif okV v then(v.ch-v.b9+2)/3 else 0
theorem WW{v:ay}(h:okV v=true):0<=v.b9/\v.b9<v.ch/\v.ch<=4096:=by simp[okV]at h;omega
theorem Ip(v:ay):0<=eS v/\eS v<=1366:=by
 unfold eS;cases h:okV v with
 |false=>simp
 |true=>
  have:=WW h;simp;omega
theorem CF(v:ay):mR v=some (eS v):=by
 unfold mR eS;rw[lq];cases h:okV v with
 |false=>rfl
 |true=>
  have⟨h1,h2,h3⟩:=WW h;simp;rw[aM (x:=v.ch-v.b9),aM (x:=v.ch-v.b9+3),aM (x:=v.ch-v.b9+3-1),Int.tdiv_eq_ediv_of_nonneg (by omega),aM (by omega) (by omega)];omega
theorem bA(a b:Bool):((bif a then some b else some false):Option Bool)=some (a&&b):=by cases a<;>rfl
theorem bO(a b:Bool):((bif a then some true else some b):Option Bool)=some (a || b):=by cases a<;>rfl
theorem P5(r:ax):vG r=some (d6 r):=by simp[vG,bA]
theorem KU(v:ay):rC v=some (okV v):=by
 simp only[rC,Es,P5,ai,bA,bO,Et,okV];have e:d6 (ax.mk v.bj v.bp v.be v.bo)=d6 (bU v):=rfl;rw[e];congr 1;cases d6 (bU v)with
 |false=>rfl
 |true=>
  rw[kS];simp;omega
theorem Yx(v:ay):Eu v=some (eS v):=by
 unfold Eu eS;rw[KU];cases h:okV v with
 |false=>rfl
 |true=>
  have⟨h1,h2,h3⟩:=WW h;simp;rw[aM (x:=v.ch-v.b9),aM (x:=v.ch-v.b9+2),Int.tdiv_eq_ediv_of_nonneg (by omega),aM (by omega) (by omega)]
def j0(v:ay):Nat:=(eS v).toNat
theorem Nw(v:ay):(j0 v:Nat)=eS v:=by have:=Ip v;unfold j0;omega
theorem als(v:ay):j0 v<=1366:=by have:=Ip v;unfold j0;omega
theorem WX{d:aG}(h:wI d)(hn:1001<=n):nE n d=some (b7 d):=WT h hn
theorem alu{d:aG}(h:wI d)(hn:1001<=n):HY n d=some (b7 d):=WT h hn
theorem agF l:oU l=some l:=by simp[oU]
def eb:List Nat->Nat
 |[]=>1
 |c::cs=>(c+1)*eb cs
theorem WY:∀cs,0<eb cs
 |[]=>by simp[eb]
 |c::cs=>Nat.mul_pos (by omega) (WY cs)
theorem WZ b:∀a,eb (a++b)=eb a*eb b
 |[]=>by simp[eb]
 |c::cs=>by simp[eb,WZ b cs,Nat.mul_assoc]
theorem W9:∀a,eb a.reverse=eb a
 |[]=>rfl
 |c::cs=>by simp[eb,WZ,W9 cs,Nat.mul_comm]
theorem amJ l (h:eb (l.map j0)<=2001) (hL:l.length<=1000000) (hl:l.length<n):Ah n l=some false:=by
 have main:∀r (k a fuel:Nat),l.drop k=r->a*eb (r.map j0)<=2001->0<a->r.length<fuel->iter (pJ l) fuel (a,k)=some (.inl ()):=by
  intro r
  induction r with
  |nil=>
   intro k a fuel hk ha h0 hf;obtain⟨f,rfl⟩:∃f,fuel=f+1:=⟨fuel-1,by omega⟩;refine cu ?_;have:l.length<=k:=List.drop_eq_nil_iff.1 hk;simp only[pJ];rw[show decide ((k:Int)<l.length)=false by simp;omega];rfl
  |cons v r ih=>
   intro k a fuel hk ha h0 hf;obtain⟨f,rfl⟩:∃f,fuel=f+1:=⟨fuel-1,by omega⟩;have hlt:k<l.length:=(by rcases Nat.lt_or_ge k l.length with h|h;exact h;rw[List.drop_eq_nil_of_le h]at hk;cases hk);have hv:l[k]? =some v:=(by have:(l.drop k)[0]? =some v:=(by rw[hk];rfl);simpa using this);have hk':l.drop (k+1)=r:=(by rw[<- List.drop_drop,hk];rfl);have hp:=WY (r.map j0);have ha2:a*(j0 v+1)*eb (r.map j0)<=2001:=(by rw[Nat.mul_assoc];exact ha);have C2:a*(j0 v+1)<=2001:=Nat.le_trans (Nat.le_mul_of_pos_right _ hp) ha2;have e:(a*(eS v+1))=(a*(j0 v+1):Nat):=(by simp[Nw]);have hfl:=Ip v;have step:pJ l (a,k)=some (.inl ((a*(j0 v+1):Nat),(k+1:Nat))):=(by simp only[pJ];rw[show decide ((k:Int)<l.length)=true by simp;omega,aj,Ay,hv];simp only[ai,CF];rw[aM (x:=eS v+1),e,aM (by omega) (by omega),show decide (((a*(j0 v+1):Nat):Int)>2001)=false by simp only[dL];omega,au,aR (by omega)]);rw[dM step];exact ih (k+1) _ f hk' ha2 (Nat.mul_pos h0 (by omega)) (by simp at hf;omega)
 unfold Ah;have:=main l 0 1 n (by simp) (by omega) (by omega) hl;have e0:((0:Nat):Int)=0:=rfl;have e1:((1:Nat):Int)=1:=rfl;rw[e0,e1]at this;rw[this];rfl
def xn:List Nat->List Nat->Option (List Nat)
 |c::cs,x::xs=>if x=c then(xn cs xs).map (0:: ·)else some ((x+1)::xs)
 |_,_=>none
def Ny:List Nat->List Nat->Nat
 |c::cs,x::xs=>x+(c+1)*Ny cs xs
 |_,_=>0
def j9:List Nat->List Nat->Prop
 |c::cs,x::xs=>x<=c/\j9 cs xs
 |[],[]=>True
 |_,_=>False
theorem j9.length:∀{cs xs:List Nat},j9 cs xs->xs.length=cs.length
 |[],[],_=>rfl
 |c::cs,x::xs,h=>by simp[j9.length h.2]
 |[],_::_,h|_::_,[],h=>h.elim
theorem alv:∀{cs xs:List Nat},j9 cs xs->Ny cs xs<eb cs
 |[],[],_=>by simp[Ny,eb]
 |c::cs,x::xs,h=>by have:=alv h.2;have h1:=h.1;simp[Ny,eb];have:(c+1)*(Ny cs xs+1)<=(c+1)*eb cs:=Nat.mul_le_mul_left _ this;rw[Nat.mul_add]at this;omega
 |[],_::_,h|_::_,[],h=>h.elim
theorem alx:∀{cs xs:List Nat},j9 cs xs->(∀ ys,xn cs xs=some ys->j9 cs ys/\Ny cs ys=Ny cs xs+1)/\(xn cs xs=none->Ny cs xs+1=eb cs)
 |[],[],_=>⟨λ ys h=>(by cases h),λ_=>rfl⟩
 |c::cs,x::xs,h=>by have⟨i1,i2⟩:=alx h.2;have h1:=h.1;simp[xn];by_cases hx:x=c;rw[aY hx];constructor;intro ys hy;obtain⟨zs,hz,rfl⟩:=jb.1 hy;have⟨j1,j2⟩:=i1 zs hz;refine⟨⟨Nat.zero_le _,j1⟩,?_⟩;simp[Ny,j2,Nat.mul_add];omega;intro hn;have:=i2 (Option.map_eq_none_iff.1 hn);simp[Ny,eb,<- this,Nat.mul_add];omega;rw[aW hx];constructor;intro ys hy;cases hy;refine⟨⟨by omega,h.2⟩,?_⟩;simp[Ny];omega;intro hn;cases hn
 |[],_::_,h|_::_,[],h=>h.elim
def toI(l:List Nat):List Int:=l.map λ(k:Nat)=>k
theorem step_eq x l0:∀(ys zs:List Nat)(vs ws:List ay)(fuel:Nat),j9 (vs.map j0) ys->x=vs.reverse++ws->l0.length=ys.length+zs.length->l0.length<=1000000->ys.length<fuel->
 (iter (eu x l0) fuel ((ys.length:Nat)-1,toI (ys.reverse++zs))).bind (λ (w1,w2)=>(bif (decide (w1<0))then some (Sum.inr ())else(ck (ct w1 l0.length) ((bz w2 ((0:Nat)+w1:Int)).bind λx4=>ck (ct w1 l0.length) ((bz w2 ((0:Nat)+w1:Int)).bind λ_=>ck (aE l0.length (w2.set ((0:Nat)+w1:Int).toNat (i64.wrap (x4+1))).length) (some (.inl (w2.set ((0:Nat)+w1:Int).toNat (i64.wrap (x4+1)))))))):Option (List Int⊕Unit)))=some (match xn (vs.map j0) ys with|none=>.inr ()|some r=>.inl (toI (r.reverse++zs)))
 |[],zs,vs,ws,fuel,hf,hx,hl,hL,hn=>by
  obtain⟨f,rfl⟩:∃f,fuel=f+1:=⟨fuel-1,by omega⟩;have:vs=[]:=by
   cases vs with
   |nil=>rfl
   |cons v vs=>exact hf.elim
  subst this;have e:eu x l0 ((([]:List Nat).length:Nat)-1,toI ([].reverse++zs))=some (.inr (-1,toI zs)):=by simp[eu]
  rfl
 |y::ys,zs,vs,ws,fuel,hf,hx,hl,hL,hn=>by
  obtain⟨f,rfl⟩:∃f,fuel=f+1:=⟨fuel-1,by omega⟩;obtain⟨v,vs,rfl⟩:∃v vt,vs=v::vt:=by
   cases vs with
   |nil=>exact hf.elim
   |cons v vs=>exact⟨v,vs,rfl⟩
  have hlen:=hf.2.length;have hi:(((y::ys).length:Nat):Int)-1=(ys.length:Nat):=by simp
  have hin:ct (ys.length:Nat) l0.length=true:=aV (by omega);have hat:bz (toI ((y::ys).reverse++zs)) ((0:Nat)+(ys.length:Nat))=some (y:Int):=by exact qF (U:=toI ys.reverse) (V:=toI zs) (by simp[toI]) (by simp[toI])
  have hav:bz x (ys.length:Nat)=some v:=by exact qF (U:=vs.reverse) (V:=ws) (by rw[hx];simp) (by simp[hlen])
  have hset:∀z:Int,(toI ((y::ys).reverse++zs)).set (((0:Nat):Int)+(ys.length:Nat)).toNat z=toI ys.reverse++z::toI zs:=λz=>by exact xM (U:=toI ys.reverse) (V:=toI zs) (x:=y) (by simp[toI]) (by simp[toI])
  have hge:decide ((ys.length:Nat)>=0)=true:=by simp
  have hy1:=hf.1;have hfl:=als v;rw[hi];simp only[bH,xn];by_cases Wg:y=j0 v;rw[aY Wg];have hw:i64.wrap ((ys.length:Nat)-1)=(ys.length:Nat)-1:=aM (by omega) (by omega);have step:eu x l0 ((ys.length:Nat),toI ((y::ys).reverse++zs))=some (.inl ((ys.length:Nat)-1,toI (ys.reverse++(0::zs)))):=by simp only[eu,hge,aj,hin,hat,hav,ai,CF,hset,hw];rw[show (y==eS v)=true by rw[beq_iff_eq,Wg,Nw]];simp[toI]
  rw[dM step];have ih:=step_eq x l0 ys (0::zs) vs (v::ws) f hf.2 (by rw[hx];simp) (by simp;omega) hL (by omega);rw[ih];cases xn (vs.map j0) ys with
  |none=>rfl
  |some r=>simp
  rw[aW Wg];have e:eu x l0 ((ys.length:Nat),toI ((y::ys).reverse++zs))=some (.inr ((ys.length:Nat),toI ((y::ys).reverse++zs))):=by simp only[eu,hge,aj,hin,hat,hav,ai,CF];rw[show (y==eS v)=false by rw[beq_eq_false_iff_ne,<- Nw];omega];rfl
  rw[cu e];simp only[ai];rw[show decide ((ys.length:Int)<0)=false by simp only[dL];omega,hin,hat];simp;have hw:i64.wrap (y+1)=(y+1:Nat):=aR (by omega);rw[hw,pz (by simp[toI];omega)];simp[toI]
def wj(cs l:List Nat):Option (List Nat):=(xn cs.reverse l.reverse).map List.reverse
def fits(cs l:List Nat):Prop:=j9 cs.reverse l.reverse
theorem fits.length{cs l:List Nat}(h:fits cs l):l.length=cs.length:=by have:=j9.length h;simpa using this
def caps(d:aG):List Nat:=(b7 d).map j0
theorem aei(l:List ay):(l.map j0).reverse=l.reverse.map j0:=by simp
theorem anb{d:aG}{l:List Nat}(hd:wI d)(hf:fits (caps d) l)(hn:1000002<=n):lG n (b7 d) (toI l)=some (match wj (caps d) l with|none=>.inr ()|some r=>.inl (toI r)):=by
 have hvl:=qj hd;have hlen:l.length=(b7 d).length:=by have:=hf.length;simpa[caps]using this
 have hl:(toI l).length=l.length:=by simp[toI]
 have w:i64.wrap (((toI l).length:Nat)-1)=(l.reverse.length:Nat)-1:=by rw[hl];simp;exact aM (by omega) (by omega)
 have hf':j9 ((b7 d).reverse.map j0) l.reverse:=by rw[<- aei];exact hf
 have:=step_eq (b7 d) (toI l) l.reverse [] (b7 d).reverse [] n hf' (by simp) (by simp[toI]) (by omega) (by simp;omega);simp only[List.reverse_reverse,List.append_nil]at this;unfold lG;rw[w];refine this.trans ?_;unfold wj caps;rw[aei];cases xn ((b7 d).reverse.map j0) l.reverse with
 |none|some r=>rfl
def CG(cs:List Nat):Nat->List Nat->List (List Nat)
 | 0,l=>[l]
 |k+1,l=>match wj cs l with
  |none=>[l]
  |some l'=>l::CG cs k l'
def Yy(cs l:List Nat):Nat:=Ny cs.reverse l.reverse
theorem Nz{cs l:List Nat}(h:fits cs l):(∀ r,wj cs l=some r->fits cs r/\Yy cs r=Yy cs l+1)/\(wj cs l=none->Yy cs l+1=eb cs):=by have⟨h1,h2⟩:=alx h;refine⟨λ r hr=>?_,λhn=>?_⟩;obtain⟨q,hq,rfl⟩:=jb.1 hr;have:=h1 q hq;exact⟨by unfold fits;rw[List.reverse_reverse];exact this.1,by unfold Yy;rw[List.reverse_reverse];exact this.2⟩;have:=h2 (Option.map_eq_none_iff.1 hn);rw[W9]at this;exact this
theorem EL{cs:List Nat}:∀(k:Nat) l,fits cs l->∀y∈CG cs k l,fits cs y/\Yy cs l<=Yy cs y
 | 0,l,h,y,hy=>by simp[CG]at hy;subst hy;exact⟨h,aA _⟩
 |k+1,l,h,y,hy=>by
  simp[CG]at hy;cases hn:wj cs l with
  |none=>rw[hn]at hy;simp at hy;subst hy;exact⟨h,aA _⟩
  |some r=>
   rw[hn]at hy;have⟨g1,g2⟩:=(Nz h).1 r hn;rcases aQ.1 hy with rfl|hy;exact⟨h,aA _⟩;have:=EL k r g1 y hy;exact⟨this.1,by omega⟩
theorem Rz{cs:List Nat}:∀(k:Nat) l,fits cs l->(CG cs k l).Nodup
 | 0,l,h=>by simp[CG]
 |k+1,l,h=>by
  simp[CG];cases hn:wj cs l with
  |none=>simp
  |some r=>
   have⟨g1,g2⟩:=(Nz h).1 r hn;simp;refine⟨λ hm=>?_,Rz k r g1⟩;have:=(EL k r g1 l hm).2;omega
theorem ah5{d:aG}(hd:wI d)(hn:1000002<=n):∀(k m:Nat) l,fits (caps d) l->Yy (caps d) l+k+1=eb (caps d)->k<m->AH (lG n (b7 d)) m (toI l)=some ((CG (caps d) k l).map toI)
 | 0,m,l,hf,hv,hm=>by
  obtain⟨m,rfl⟩:∃q,m=q+1:=⟨m-1,by omega⟩;simp[AH,anb hd hf hn];cases hx:wj (caps d) l with
  |none=>rfl
  |some r=>
   have:=(Nz hf).1 r hx;have h2:=alv this.1;rw[W9]at h2;unfold Yy at this hv;omega
 |k+1,m,l,hf,hv,hm=>by
  obtain⟨m,rfl⟩:∃q,m=q+1:=⟨m-1,by omega⟩;simp[AH,anb hd hf hn,CG];cases hx:wj (caps d) l with
  |none=>
   have:=(Nz hf).2 hx;omega
  |some r=>
   have⟨g1,g2⟩:=(Nz hf).1 r hx;simp only[ai];rw[ah5 hd hn k m r g1 (by omega) (by omega)];rfl
def EM(d:aG):List Nat:=List.replicate (b7 d).length 0
theorem aad:∀cs:List Nat,j9 cs (List.replicate cs.length 0)
 |[]=>trivial
 |_::cs=>⟨Nat.zero_le _,aad cs⟩
theorem val_zero:∀cs:List Nat,Ny cs (List.replicate cs.length 0)=0
 |[]=>rfl
 |c::cs=>by simp[List.replicate_succ,Ny,val_zero cs]
theorem Xa(d:aG):fits (caps d) (EM d)/\Yy (caps d) (EM d)=0:=by
 have e:(EM d).reverse=List.replicate (caps d).reverse.length 0:=by simp[EM,caps]
 unfold fits Yy;rw[e];exact⟨aad _,val_zero _⟩
def NA(d:aG):List (List Nat):=CG (caps d) (eb (caps d)-1) (EM d)
theorem abL{d:aG}(hd:wI d)(hn:1000002<=n)(ht:eb (caps d)<=n):jY n (b7 d)=some ((NA d).map toI):=by
 have hvl:=qj hd;have hz:=Xa d;have hp:=WY (caps d);have h0:oJ (b7 d)=some (toI (EM d)):=by
  have hmx:maxLen=9223372036854775807:=rfl;have hk:wC ((b7 d).length:Nat) 8=true:=by simp[wC];omega
  simp[oJ,hk];simp[toI,EM]
 unfold jY Pl;rw[h0];simp;rw[ah5 hd hn (eb (caps d)-1) n (EM d) hz.1 (by omega) (by omega)];simp only[ai];rw[aY];rfl;intro y hy;obtain⟨l,hl,rfl⟩:=mem_map.1 hy;have:=(EL _ _ hz.1 l hl).1.length;exact RU (by simp[toI];simp[caps]at this;omega)
theorem drop_at{α:Type}{l r:List α}{v:α}{k:Nat}(h:l.drop k=v::r):l[k]? =some v/\k<l.length/\l.drop (k+1)=r:=by
 have h0:(l.drop k)[0]? =some v:=by rw[h];rfl
 have h1:l[k]? =some v:=by simpa using h0
 refine⟨h1,(dn.1 h1).1,by rw[<- List.drop_drop,h];rfl⟩
theorem ah6{d:aG}{v2:Nat}{p:eF}(hp:d.phases[v2]? =some p):∀r (k a fuel:Nat),p.az.drop k=r->a<=2001->p.az.length<=1000000->r.length<fuel->
 iter (pK d v2) fuel (a,k)=some (.inr (.inr (.inr 2001)))\/(iter (pK d v2) fuel (a,k)=some (.inl (a*eb (r.map j0):Nat))/\a*eb (r.map j0)<=2001)
 |[],k,a,fuel,hk,ha,hl,hf=>by obtain⟨f,rfl⟩:∃f,fuel=f+1:=⟨fuel-1,by omega⟩;have:p.az.length<=k:=List.drop_eq_nil_iff.1 hk;refine .inr ⟨cu ?_,by simpa[eb]using ha⟩;simp only[pK,Ay,hp,ai];rw[show decide ((k:Int)<p.az.length)=false by simp;omega];simp[eb]
 |v::r,k,a,fuel,hk,ha,hl,hf=>by
  obtain⟨f,rfl⟩:∃f,fuel=f+1:=⟨fuel-1,by omega⟩;obtain⟨h1,h2,h3⟩:=drop_at hk;have hfl:=Ip v;have hfn:=als v;have e:(a*(eS v+1))=(a*(j0 v+1):Nat):=by simp[Nw]
  have hb:a*(j0 v+1)<=2001*1367:=Nat.mul_le_mul ha (by omega);have base:pK d v2 (a,k)=bif decide (((a*(j0 v+1):Nat):Int)>2001)then some (.inr (.inr (.inr (.inr 2001))))else some (.inl ((a*(j0 v+1):Nat),(k+1:Nat))):=by simp only[pK,Ay,hp,ai];rw[show decide ((k:Int)<p.az.length)=true by simp;omega,h1];simp[Yx];rw[aM (x:=eS v+1),e,aM (by omega) (by omega),aR (by omega)];rfl
  by_cases hgt:2001<a*(j0 v+1);refine .inl (cu ?_);rw[base,show decide (((a*(j0 v+1):Nat):Int)>2001)=true by simp only[bF];omega];rfl;have step:pK d v2 (a,k)=some (.inl ((a*(j0 v+1):Nat),(k+1:Nat))):=by rw[base,show decide (((a*(j0 v+1):Nat):Int)>2001)=false by simp only[dL];omega];rfl
  rw[dM step];have:=ah6 hp r (k+1) (a*(j0 v+1)) f h3 (by omega) hl (by simp at hf;omega);simpa[eb,Nat.mul_assoc]using this
theorem ah7{d:aG}(hd:wI d)(hn:1000002<=n):∀r (k a fuel:Nat),d.phases.drop k=r->a<=2001->r.length<fuel->
 iter (pM n d) fuel (a,k)=some (.inr 2001)\/(iter (pM n d) fuel (a,k)=some (.inl ((a*eb ((r.flatMap (·.az)).map j0):Nat):Int))/\a*eb ((r.flatMap (·.az)).map j0)<=2001)
 |[],k,a,fuel,hk,ha,hf=>by obtain⟨f,rfl⟩:∃f,fuel=f+1:=⟨fuel-1,by omega⟩;have:d.phases.length<=k:=List.drop_eq_nil_iff.1 hk;refine .inr ⟨cu ?_,by simpa[eb]using ha⟩;simp only[pM];rw[show decide ((k:Int)<d.phases.length)=false by simp;omega];simp[eb]
 |p::r,k,a,fuel,hk,ha,hf=>by
  obtain⟨f,rfl⟩:∃f,fuel=f+1:=⟨fuel-1,by omega⟩;obtain⟨h1,h2,h3⟩:=drop_at hk;have hpl:=hd.2 p (cB h1);have hph:=hd.1;have e0:((0:Nat):Int)=0:=rfl;have hs:=ah6 h1 p.az 0 a n (by simp) ha (by omega) (by omega);rw[e0]at hs;have hcond:decide ((k:Int)<d.phases.length)=true:=by simp;omega
  rcases hs with hs|⟨hs,hle⟩;refine .inl (cu ?_);simp only[pM,hcond,aj,hs];rfl;have step:pM n d (a,k)=some (.inl ((a*eb (p.az.map j0):Nat),(k+1:Nat))):=by simp only[pM,hcond,aj,hs,gF];rw[aR (by omega)]
  rw[dM step];have:=ah7 hd hn r (k+1) (a*eb (p.az.map j0)) f h3 hle (by simp at hf;omega);simpa[WZ,Nat.mul_assoc]using this
theorem amK{d:aG}(hd:wI d)(hn:1000002<=n):∃r,M6 n d=some r/\(r<=60->eb (caps d)<=61):=by have hph:=hd.1;have hs:=ah7 hd hn d.phases 0 1 n (by simp) (by omega) (by omega);have e0:((0:Nat):Int)=0:=rfl;have e1:((1:Nat):Int)=1:=rfl;rw[e0,e1]at hs;unfold M6;rcases hs with hs|⟨hs,hle⟩;rw[hs];exact⟨2001,rfl,λh=>by omega⟩;rw[hs];refine⟨_,rfl,λh=>?_⟩;rw[aM (by omega) (by omega)]at h;show eb ((d.phases.flatMap (·.az)).map j0)<=61;omega
theorem Ao{l:List bD}(h:l.length<=1000):yN l=some l:=zU (b:=24) (by omega) (by simp[maxLen];omega)
def cutV(v:ay)(k:Int):ay:=bif decide (k>0)then ay.mk v.bj v.bp v.be v.bo v.b9 (v.b9+3*(eS v-k)) v.use v.units v.extra else v
def Xb:List ay->List Int->Option (List ay×Int)
 |[],_=>some ([],0)
 |v::vs,k::ks=>bif decide (k<0) || decide (k>eS v)then none else(Xb vs ks).map λr=>(bif decide (k<eS v)then cutV v k::r.1 else r.1,k*lJ (bU v)+r.2)
 |_::_,[]=>none
def P6:List eF->List Int->Option (List eF×Int)
 |[],_=>some ([],0)
 |p::ps,l=>(Xb p.az (l.take p.az.length)).bind λr=>(P6 ps (l.drop p.az.length)).map λq=>(eF.mk r.1 p.gives::q.1,r.2+q.2)
theorem Ua{v:ay}(h:okV v=true):0<=lJ (bU v)/\lJ (bU v)<=1099511627776:=by have:=Am (uj h);omega
theorem P7:∀vs l (r:List ay×Int),(∀ v∈vs,okV v=true)->Xb vs l=some r->0<=r.2/\r.2<=vs.length*1501933683542016/\r.1.length<=vs.length
 |[],l,r,_,h=>by cases h;simp
 |v::vs,[],r,_,h=>by cases h
 |v::vs,k::ks,r,hv,h=>by
  simp[Xb]at h;cases hc:(decide (k<0) || decide (k>eS v))with
  |true=>rw[hc]at h;cases h
  |false=>
   rw[hc]at h;obtain⟨q,hq,rfl⟩:=jb.1 h;obtain⟨h1,h2,h3⟩:=P7 vs ks q (λ x hx=>hv x (by simp[hx])) hq;obtain⟨a1,a2⟩:=Ua (hv v (by simp));have hfl:=Ip v;simp at hc;have hk0:0<=k:=(by omega);have hk1:k<=1366:=(by omega);have e1:0<=k*lJ (bU v):=Int.mul_nonneg hk0 a1;have e2:k*lJ (bU v)<=1366*1099511627776:=Int.mul_le_mul hk1 a2 a1 (by omega);refine⟨by omega,by simp;omega,?_⟩;cases decide (k<eS v)<;>simp<;>omega
theorem aae{l:List Int}{p:eF}:∀r (j at':Nat) (c:Int) an (fuel:Nat),p.az.drop j=r->p.az.length<=1000->(∀ v∈r,okV v=true)->at'+r.length<=l.length->l.length<=1000000->0<=c->c+r.length*1501933683542016<=4611686018427387904->an.length+r.length<=1000->r.length<fuel->
 iter (kQ l p) fuel (c,at',j,p.gives,an)=some (match Xb r ((l.drop at').take r.length)with
  |none=>.inr (.inr (.inr (aG.mk 0 [],0,1)))
  |some q=>.inl (c+q.2,(at'+r.length:Nat),p.gives,an++q.1))
 |[],j,at',c,an,fuel,hj,hp,hv,ha,hl,hc,hcm,hacc,hf=>by obtain⟨f,rfl⟩:∃f,fuel=f+1:=⟨fuel-1,by omega⟩;have:p.az.length<=j:=List.drop_eq_nil_iff.1 hj;refine(cu ?_).trans rfl;simp only[kQ];rw[show decide ((j:Int)<p.az.length)=false by simp;omega];simp[Xb]
 |v::r,j,at',c,an,fuel,hj,hp,hv,ha,hl,hc,hcm,hacc,hf=>by
  obtain⟨f,rfl⟩:∃f,fuel=f+1:=⟨fuel-1,by omega⟩;obtain⟨h1,h2,h3⟩:=drop_at hj;simp at ha hacc hf;have hlt:at'<l.length:=by omega
  have hk:=dm hlt;obtain⟨k,hkd⟩:∃k,l[at']=k:=⟨_,rfl⟩;rw[hkd]at hk;have htk:(l.drop at').take (v::r).length=k::(l.drop (at'+1)).take r.length:=by rw[List.drop_eq_getElem_cons hlt,hkd];simp
  rw[htk];have GO:=hv v (by simp);have⟨a1,a2⟩:=Ua GO;have hfl:=Ip v;have hAr:rH (ax.mk v.bj v.bp v.be v.bo)=some (lJ (bU v)):=PK (uj GO);have hcond:decide ((j:Int)<p.az.length)=true:=by simp;omega
  have hbad:((bif decide (k<0)then some true else some (decide (k>eS v))):Option Bool)=some (decide (k<0) || decide (k>eS v)):=bO _ _;simp[Xb];cases hc0:(decide (k<0) || decide (k>eS v))with
  |true=>
   refine(cu ?_).trans rfl;simp only[kQ,hcond,aj,Ay,h1,hk,ai,CF,hbad,hc0];rfl
  |false=>
   simp at hc0;have hk0:0<=k:=(by omega);have e1:0<=k*lJ (bU v):=Int.mul_nonneg hk0 a1;have e2:k*lJ (bU v)<=1366*1099511627776:=Int.mul_le_mul (by omega) a2 a1 (by omega);simp at hcm;have w1:i64.wrap (k*lJ (bU v))=k*lJ (bU v):=aM (by omega) (by omega);have w2:i64.wrap (c+k*lJ (bU v))=c+k*lJ (bU v):=aM (by omega) (by omega);have⟨z1,z2,z3⟩:=WW GO;have w3:i64.wrap (v.b9+i64.wrap (3*i64.wrap (eS v-k)))=v.b9+3*(eS v-k):=(by rw[aM (x:=eS v-k),aM (x:=3*(eS v-k)),aM (by omega) (by omega)]);have step:kQ l p (c,at',j,p.gives,an)=some (.inl (c+k*lJ (bU v),(at'+1:Nat),(j+1:Nat),p.gives,an++(bif decide (k<eS v)then [cutV v k]else []))):=(by have hmx:maxLen=9223372036854775807:=rfl;have hap:∀x:ay,bP an.length an.length (sub [x] 0 1).length 1 72=true:=λx=>(by simp[bP,sub];omega);simp only[kQ,hcond,aj,Ay,h1,hk,ai,CF,hbad,hAr,w1,w2,w3,aR (show at'<9223372036854775807 by omega),aX j,hap,gY,aN];rw[show (decide (k<0) || decide (k>eS v))=false by simp;omega];by_cases hkp:k>0<;>by_cases hkf:k<eS v<;>simp[hkp,hkf,cutV,sub]);rw[dM step];have ih:=aae (l:=l) (p:=p) r (j+1) (at'+1) (c+k*lJ (bU v)) (an++(bif decide (k<eS v)then [cutV v k]else [])) f h3 hp (λ x hx=>hv x (by simp[hx])) (by omega) hl (by omega) (by omega) (by cases decide (k<eS v)<;>simp<;>omega) (by omega);rw[ih];cases hq:Xb r ((l.drop (at'+1)).take r.length)with
   |none=>rfl
   |some q=>
    have e3:(at'+1+r.length:Nat)=(at'+(v::r).length:Nat):=(by simp;omega);simp[e3];rw[show c+k*lJ (bU v)+q.2=c+(k*lJ (bU v)+q.2)by omega];cases decide (k<eS v)<;>simp
theorem aaf{d:aG}{l:List Int}(hn:1000002<=n)(hl:l.length<=1000000)(hg:WO d)(hdl:d.phases.length<=1000) vq:∀r (j at':Nat) (c:Int) an (fuel:Nat),d.phases.drop j=r->(∀ v∈r.flatMap (·.az),okV v=true)->at'+(r.flatMap (·.az)).length<=l.length->0<=c->(r.flatMap (·.az)).length<=1000->c+(r.flatMap (·.az)).length*1501933683542016<=4611686018427387904->an.length+r.length<=1000->r.length<fuel->
 iter (kR n d l) fuel (c,at',j,vq,an)=some (match P6 r (l.drop at')with
  |none=>.inr (aG.mk 0 [],0,1)
  |some q=>.inl (c+q.2,vq,an++q.1))
 |[],j,at',c,an,fuel,hj,hv,ha,hc,hvl,hcm,hacc,hf=>by obtain⟨f,rfl⟩:∃f,fuel=f+1:=⟨fuel-1,by omega⟩;have:d.phases.length<=j:=List.drop_eq_nil_iff.1 hj;refine(cu ?_).trans rfl;simp only[kR];rw[show decide ((j:Int)<d.phases.length)=false by simp;omega];simp[P6]
 |p::r,j,at',c,an,fuel,hj,hv,ha,hc,hvl,hcm,hacc,hf=>by
  obtain⟨f,rfl⟩:∃f,fuel=f+1:=⟨fuel-1,by omega⟩;obtain⟨h1,h2,h3⟩:=drop_at hj;simp only[List.flatMap_cons,fQ,fU]at ha hvl hcm hacc hf;have hgl:=hg p (cB h1);have hs:=aae (l:=l) (p:=p) p.az 0 at' c [] n (by simp) (by omega) (λ v hm=>hv v (by simp[hm])) (by omega) hl hc (by omega) (by simp;omega) (by omega);have e0:((0:Nat):Int)=0:=rfl;rw[e0]at hs;have hcond:decide ((j:Int)<d.phases.length)=true:=by simp;omega
  have hnil:aE 0 ([]:List ay).length=true:=rfl;simp[P6];cases hq:Xb p.az ((l.drop at').take p.az.length)with
  |none=>
   rw[hq]at hs;refine(cu ?_).trans rfl;simp only[kR,hcond,aj,Ay,h1,ai,Ao hgl,hnil,aN,hs];rfl
  |some q=>
   rw[hq]at hs;obtain⟨c1,c2,c3⟩:=P7 p.az _ q (λ v hm=>hv v (by simp[hm])) hq;have step:kR n d l (c,at',j,vq,an)=some (.inl (c+q.2,(at'+p.az.length:Nat),(j+1:Nat),vq,an++[eF.mk q.1 p.gives])):=(by have hmx:maxLen=9223372036854775807:=rfl;have hap:∀x:eF,bP an.length an.length (sub [x] 0 1).length 1 48=true:=λx=>(by simp[bP,sub];omega);simp only[kR,hcond,aj,Ay,h1,ai,Ao hgl,hnil,aN,hs,gF,jq,hap,gY,aX j];simp[sub]);rw[dM step];have ih:=aaf (l:=l) hn hl hg hdl vq r (j+1) (at'+p.az.length) (c+q.2) (an++[eF.mk q.1 p.gives]) f h3 (λ v hm=>hv v (by simp only[List.flatMap_cons,bL];exact .inr hm)) (by omega) (by omega) (by omega) (by omega) (by simp;omega) (by omega);rw[ih];cases P6 r (l.drop (at'+p.az.length))with
   |none=>rfl
   |some w=>simp[Int.add_assoc]
def E3(b:Bool)(d:aG)(l:List Int):aG×Int×Int:=
 bif !b || decide (l.length≠(b7 d).length)then(aG.mk 0 [],0,1)else match P6 d.phases l with
  |none=>(aG.mk 0 [],0,1)
  |some q=>bif(q.1.flatMap (·.az)).isEmpty then(aG.mk 0 [],0,1)else(aG.mk d.lot q.1,q.2,0)
theorem NC:∀ps l (q:List eF×Int),(∀ v∈ps.flatMap (·.az),okV v=true)->P6 ps l=some q->q.1.length=ps.length/\(∀ i (h:i<q.1.length) (h':i<ps.length),q.1[i].az.length<=ps[i].az.length/\q.1[i].gives=ps[i].gives)
 |[],l,q,_,h=>by cases h;exact⟨rfl,λi h=>by cases h⟩
 |p::ps,l,q,hv,h=>by
  simp[P6]at h;rw[ah]at h;obtain⟨r,h1,h⟩:=h;obtain⟨w,h2,rfl⟩:=jb.1 h;have i1:=P7 p.az _ r (λ v hm=>hv v (by simp[hm])) h1;obtain⟨i2,i3⟩:=NC ps _ w (λ v hm=>hv v (by simp only[List.flatMap_cons,bL];exact .inr hm)) h2;refine⟨by simp[i2],λi h h'=>?_⟩;cases i with
  |zero=>exact⟨i1.2.2,rfl⟩
  |succ i=>exact i3 i (by simpa using h) (by simpa using h')
theorem P8{d:aG}{l:List Int}{b:Bool}(hd:wI d)(hg:WO d)(hv:(b7 d).length<=1000)(hb:iQ n d=some b)(hbv:b=true->∀v∈b7 d,okV v=true)(hn:4000002<=n):gD n d l=some (E3 b d l):=by
 unfold gD E3;rw[WX hd (by omega),hb];cases b with
 |false=>simp
 |true=>
  simp only[Bool.not_true,au,ai,Bool.false_or];by_cases hl:l.length=(b7 d).length;rw[show ((l.length:Int) !=((b7 d).length:Nat))=false by simp[hl],show decide (l.length≠(b7 d).length)=false by simp[hl]];have hs:=aaf (n:=n) (d:=d) (l:=l) (by omega) (by omega) hg hd.1 d.lot d.phases 0 0 0 [] n (by simp) (hbv rfl) (by rw[hl];exact Nat.le_of_eq (Nat.zero_add _)) (Int.le_refl _) hv (by have:(d.phases.flatMap (·.az)).length=(b7 d).length:=rfl;omega) (by simp;exact hd.1) (by have:=hd.1;omega);have e0:((0:Nat):Int)=0:=rfl;rw[e0]at hs;have hnil:aE 0 ([]:List eF).length=true:=rfl;rw[hnil,hs];simp;cases hq:P6 d.phases l with
  |none=>rfl
  |some q=>
   have⟨q1,q2⟩:=NC d.phases l q (hbv rfl) hq;have aoO:wI (aG.mk d.lot q.1):=⟨by rw[q1];exact hd.1,λp hp=>by obtain⟨i,hi,rfl⟩:=mem_iff_getElem.1 hp;have h2:=q2 i hi (by rw[<- q1];exact hi);exact Nat.le_trans h2.1 (hd.2 _ (getElem_mem _))⟩;simp;rw[WX aoO (by omega)];simp;have hvl:b7 (aG.mk d.lot q.1)=q.1.flatMap (·.az):=rfl;rw[hvl];cases q.1.flatMap (·.az)with
   |nil=>rfl
   |cons x t=>
    rfl
  rw[show ((l.length:Int) !=((b7 d).length:Nat))=true by simpa using λe:l.length=((b7 d).length:Int)=>hl (by omega),show decide (l.length≠(b7 d).length)=true by simp[hl]];rfl
theorem cR.length{a b:List aD}(h:cR a b):a.length=b.length:=by
 have:a.Perm b:=by
  rw[List.perm_iff_count];intro x;have h1:∀l:List aD,(l.filter λy=>y.cost==x.cost).count x=l.count x:=λl=>by simp
  rw[<- h1 a,<- h1 b,h x.cost]
 exact this.length_eq
theorem aly{Y:Type}{ys:List Y}{ok:Y->Bool}{f:Y->aD}{r:List aD}{p:aD->Bool}(hn:ys.Nodup)(hf:∀y z,f y=f z->y=z)(hs:kB r)(hst:cR r ((ys.filter ok).map f)):
 (∀ c,r.find? p=some c->∃y∈ys,ok y=true/\f y=c/\p c=true/\(∀ z∈ys,ok z=true->p (f z)=true->c.cost<=(f z).cost)/\∀pre post,ys=pre++y::post->∀z∈pre,ok z=true->p (f z)=true->(f z).cost≠c.cost)/\
 (r.find? p=none->∀z∈ys,ok z=true->p (f z)=false):=by
 constructor;intro c hc;obtain⟨hp,A,B,hr,hA⟩:=List.find?_eq_some_iff_append.1 hc;have hcm:c∈r:=by rw[hr];simp
 obtain⟨y,hy,rfl⟩:=mem_map.1 ((hst.mem c).1 hcm);obtain⟨hy1,hy2⟩:=mem_filter.1 hy;refine⟨y,hy1,hy2,rfl,hp,λz hz hz1 hz2=>?_,λpre post hys z hz hz1 hz2 he=>?_⟩;have PA:f z∈r:=(hst.mem _).2 (mem_map.2 ⟨z,mem_filter.2 ⟨hz,hz1⟩,rfl⟩);rw[hr]at PA hs;rcases bL.1 PA with h|h;have:=hA _ h;rw[hz2]at this;cases this;rcases aQ.1 h with h|h;rw[h];exact Int.le_refl _;exact(pairwise_cons.1 (pairwise_append.1 hs).2.1).1 _ h;have h1:(r.filter λx=>x.cost==(f y).cost).find? p=some (f y):=by rw[hr,filter_append,List.find?_append,List.filter_cons_of_pos (by simp)];rw[List.find?_eq_none.2 λa ha=>?_,Option.none_or,List.find?_cons_of_pos hp];have:=hA a (mem_filter.1 ha).1;simpa using this
 rw[hst (f y).cost,hys]at h1;rw[filter_append,List.map_append,filter_append,List.find?_append]at h1;obtain⟨w,hw⟩:∃w,((List.map f (pre.filter ok)).filter λx=>x.cost==(f y).cost).find? p=some w:=by
  cases hh:((List.map f (pre.filter ok)).filter λx=>x.cost==(f y).cost).find? p with
  |some w=>exact⟨w,rfl⟩
  |none=>
   have:=List.find?_eq_none.1 hh (f z) (mem_filter.2 ⟨mem_map.2 ⟨z,mem_filter.2 ⟨hz,hz1⟩,rfl⟩,by simp[he]⟩);rw[hz2]at this;exact(this rfl).elim
 rw[hw]at h1;injection h1 with h1;have WF:=(mem_filter.1 (List.mem_of_find?_eq_some hw)).1;obtain⟨u,hu,hu2⟩:=mem_map.1 WF;have hu1:=(mem_filter.1 hu).1;have:u=y:=hf u y (hu2.trans h1);rw[hys]at hn;exact(List.nodup_append.1 hn).2.2 u hu1 y (by simp) this;intro hc z hz hz1;have PA:f z∈r:=(hst.mem _).2 (mem_map.2 ⟨z,mem_filter.2 ⟨hz,hz1⟩,rfl⟩);have:=List.find?_eq_none.1 hc _ PA;simpa using this
def GW(n:Nat)(t:fP)(d:aG)(day:Int):Bool:=(wJ n t d==0)&&decide (Nu n t d day=[])
def ND(d:aG)(y:List Nat):aG×Int×Int:=E3 true d (toI y)
def vm(d:aG)(y:List Nat):Bool:=(ND d y).2.2==0
def KV(d:aG)(y:List Nat):aD:=aD.mk (toI y) (ND d y).2.1
def Ku(n:Nat)(t:fP)(d:aG)(day:Int)(y:List Nat):Bool:=vm d y&&GW n t (ND d y).1 day
theorem amL{a b:List Nat}(h:toI a=toI b):a=b:=by exact(List.map_inj_right λx y e=>by omega).1 h
structure P0(d:aG):Prop where
 law:WS d
 xd:(b7 d).length<=1000
 top:eb (caps d)<=2001
theorem alz{d:aG}(hd:WS d)(hv:∀v∈b7 d,okV v=true) y:WS (ND d y).1:=by
 have he:WS (aG.mk 0 []):=⟨⟨by simp,λp hp=>by simp at hp⟩,λp hp=>by simp at hp⟩;unfold ND E3;cases (!true || decide ((toI y).length≠(b7 d).length))with
 |true=>exact he
 |false=>
  cases hq:P6 d.phases (toI y)with
  |none=>exact he
  |some q=>
   simp;cases (q.1.flatMap (·.az)).isEmpty with
   |true=>exact he
   |false=>
    have⟨q1,q2⟩:=NC d.phases (toI y) q hv hq;refine⟨⟨by show q.1.length<=1000;rw[q1];exact hd.1.1,λp hp=>?_⟩,λp hp=>?_⟩;obtain⟨i,hi,rfl⟩:=mem_iff_getElem.1 hp;have h2:=q2 i hi (by rw[<- q1];exact hi);exact Nat.le_trans h2.1 (hd.1.2 _ (getElem_mem _));obtain⟨i,hi,rfl⟩:=mem_iff_getElem.1 hp;have h2:=q2 i hi (by rw[<- q1];exact hi);show(q.1[i]).gives.length<=1000;rw[h2.2];exact hd.2 _ (getElem_mem _)
theorem aej:∀cs (k:Nat) l,(CG cs k l).length<=k+1
 |cs,0,l=>by simp[CG]
 |cs,k+1,l=>by
  simp[CG];cases wj cs l with
  |none=>simp
  |some r=>have:=aej cs k r;simp;omega
section
variable {n:Nat} {t:fP} {d:aG} {day:Int}
theorem ah8(hC:∀y,fits (caps d) y->gD n d (toI y)=some (ND d y)) c1 c2 c3 c4 c5 c6 c7 c8 c9 c10 c11 c12 c13 c16:
 ∀(ys:List (List Nat)) l,(∀ y∈ys,fits (caps d) y)->l.length+ys.length<=100000->
  Rc (nU n) (ys.map toI) (c1,c2,c3,c4,c5,c6,c7,c8,c9,c10,c11,c12,c13,d.lot,d.phases,c16,l)=some (c1,c2,c3,c4,c5,c6,c7,c8,c9,c10,c11,c12,c13,d.lot,d.phases,c16,l++(ys.filter (vm d)).map (KV d))
 |[],l,_,_=>by simp[Rc]
 |y::ys,l,hf,hl=>by
  have hc:=hC y (hf y (by simp));have hmx:maxLen=9223372036854775807:=rfl;simp at hl;have hap:∀x:aD,bP l.length l.length (sub [x] 0 1).length 1 32=true:=λx=>by simp[bP,sub];omega
  have step:nU n (c1,c2,c3,c4,c5,c6,c7,c8,c9,c10,c11,c12,c13,d.lot,d.phases,c16,l) (toI y)=some (c1,c2,c3,c4,c5,c6,c7,c8,c9,c10,c11,c12,c13,d.lot,d.phases,c16,bif vm d y then l++[KV d y]else l):=by have hc':gD n (aG.mk d.lot d.phases) (toI y)=some (ND d y):=hc;simp[nU,hc',hap];unfold vm KV;cases ((ND d y).2.2==0)<;>rfl
  simp[Rc,step];rw[ah8 hC c1 c2 c3 c4 c5 c6 c7 c8 c9 c10 c11 c12 c13 c16 ys _ (λ z hz=>hf z (by simp[hz])) (by cases vm d y<;>simp<;>omega)];cases h:vm d y<;>simp[h]
theorem aoL(x y:aD):∃c,(λ (y1:aD×aD×Unit)=>om y1.1 y1.2.1) (x,y,())=some c/\(c<0↔x.cost<y.cost):=by refine⟨if x.cost<y.cost then -1 else if y.cost<x.cost then 1 else 0,by simp[om,jm],?_⟩;by_cases h1:x.cost<y.cost;simp[h1];by_cases h2:y.cost<x.cost<;>simp[h1,h2]
theorem ah9(hd:WS d)(hn:yl n)(h0:wJ n t d=0):iQ n d=some true/\b7 d≠[]:=by
 have hn1:=hn.1;obtain⟨b,hb,_⟩:=TW (n:=n) (d:=d) hd.1 hd.2 (by omega);cases b with
 |true=>
  refine⟨hb,λh=>?_⟩;simp only[iQ,all_eq hd.1 (show 1001<=n by omega),ai,h]at hb;cases hc1:decide (d.lot<0)<;>cases hc2:decide (d.lot>1073741824)<;>cases hc3:decide (d.phases.length<1)<;>cases hc4:decide (d.phases.length>8)<;>simp at hb
 |false=>
  have hR:eG n (lj t) (mq t.land d.lot).1 d=some false:=by unfold eG;rw[hb];rfl
  refine absurd h0 ?_;unfold wJ SR;rw[hR];cases (mq t.land d.lot).2<;>decide
theorem aek(ht:Yw t)(hd:P0 d)(hn:yl n):∃fl c e,jR n t d day=some (fl,c,e)/\(wJ n t d≠0->fl=[]/\c=0/\e=wJ n t d)/\
 (wJ n t d=0->(e=0/\∃y∈NA d,fl=toI y/\c=(KV d y).cost/\Ku n t d day y=true/\(∀ z∈NA d,Ku n t d day z=true->(KV d y).cost<=(KV d z).cost)/\∀pre post,NA d=pre++y::post->∀z∈pre,Ku n t d day z=true->(KV d z).cost≠(KV d y).cost)\/
  (e=4/\fl=[]/\c=0/\∀y∈NA d,Ku n t d day y=false)):=by
 have hn1:=hn.1;have hB:=Z8 (n:=n) day ht hd.law hn;unfold jR;rw[hB];simp only[ai];by_cases h0:wJ n t d=0;rw[show (wJ n t d !=0)=false by simp[h0],au];obtain⟨_,hv⟩:=look_eq (n:=n) ht hd.law hn;have hv:=hv h0;have hvl:=hd.xd;have⟨hform,_⟩:=ah9 hd.law hn h0;have hC:∀y,fits (caps d) y->gD n d (toI y)=some (ND d y):=λy hy=>P8 hd.law.1 hd.law.2 hvl hform (λ _=>hv) (by omega);have hz:=Xa d;have hfits:∀y∈NA d,fits (caps d) y:=λy hy=>(EL _ _ hz.1 y hy).1;have hall:(NA d).length<=2001:=by have:=aej (caps d) (eb (caps d)-1) (EM d);have:=hd.top;unfold NA;omega
 have htop:eb ((b7 d).map j0)<=2001:=hd.top;rw[WX hd.law.1 (by omega)];simp only[ai,jq,aN,aj];rw[amJ (b7 d) htop (by omega) (by omega)];simp only[ai,au,agF];have e0:aE 0 ([]:List aD).length=true:=rfl;rw[e0];simp only[aj];rw[abL hd.law.1 (by omega) (by have:=hd.top;omega)];simp;rw[ah8 hC t.cm t.cd t.ca t.bm t.co t.ci t.cD t.cj t.land t.cw t.windows t.built t.base 0 (NA d) [] hfits (by simp;omega)]
 try simp
 obtain⟨L0,hL0⟩:∃L0,((NA d).filter (vm d)).map (KV d)=L0:=⟨_,rfl⟩;have hL0l:L0.length<=2001:=by rw[<- hL0,length_map];exact Nat.le_trans (List.length_filter_le _ _) hall
 rw[hL0];obtain⟨r,hr,hsr,hst⟩:=PZ (φ:=λ(y1:aD×aD×Unit)=>om y1.1 y1.2.1) aoL (n:=n) L0 (by omega) (by omega);rw[hr];have hlen:=hst.length;have hmem:∀x∈r,∃y∈NA d,vm d y=true/\KV d y=x:=λx hx=>by have:=(hst.mem x).1 hx;rw[<- hL0]at this;obtain⟨y,hy,rfl⟩:=mem_map.1 this;exact⟨y,(mem_filter.1 hy).1,(mem_filter.1 hy).2,rfl⟩
 let p:aD->Bool:=λx=>GW n t (E3 true d x.floors).1 day
 obtain⟨o,g1,g2⟩:=eO (step:=lg n day t.cm t.cd t.ca t.bm t.co t.ci t.cD t.cj t.land t.cw t.windows t.built t.base d.lot d.phases L0 r) (λ i v=>v=i/\i<=r.length/\∀x∈r.take i,p x=false)
  (λ o=>(o=.inl ()/\r.find? p=none)\/∃x,o=.inr (x.floors,x.cost,0)/\r.find? p=some x) r.length (λ k v h=>h.2.1) (by
  rintro i v ⟨rfl,hi,hpre⟩;by_cases hlt:i<r.length;obtain⟨y,hy1,hy2,hy3⟩:=hmem r[i] (getElem_mem hlt);have hch:gD n (aG.mk d.lot d.phases) r[i].floors=some (ND d y):=by rw[<- hy3];exact hC y (hfits y hy1)
  have hla:qP n (fP.mk t.cm t.cd t.ca t.bm t.co t.ci t.cD t.cj t.land t.cw t.windows t.built t.base) (ND d y).1 day=some (GW n t (ND d y).1 day):=ajm day ht (alz hd.law hv y) hn;have hpx:p r[i]=GW n t (ND d y).1 day:=by show GW n t (E3 true d r[i].floors).1 day=_;rw[<- hy3];rfl
  have hg:bz r ((0:Nat)+i)=some r[i]:=bG hlt;have hb:decide (i<(L0.length:Int))=true:=by simp;omega
  have hin:ct i L0.length=true:=aV (by omega);cases hp:GW n t (ND d y).1 day with
  |true=>
   refine .inr ⟨.inr (r[i].floors,r[i].cost,0),?_,.inr ⟨r[i],rfl,?_⟩⟩;simp only[lg,hb,aj,hin,hg,ai,hch,hla,hp];rfl;rw[hp]at hpx;rw[List.find?_eq_some_iff_append];refine⟨hpx,r.take i,r.drop (i+1),?_,λa ha=>by rw[hpre a ha];rfl⟩;rw[<- List.drop_eq_getElem_cons hlt,List.take_append_drop]
  |false=>
   refine .inl ⟨_,?_,rfl,hlt,λx hx=>?_⟩;simp only[lg,hb,aj,hin,hg,ai,hch,hla,hp,au];rw[aR (by omega)];rw[List.take_add_one,dm hlt,bL]at hx;rcases hx with hx|hx;exact hpre x hx;simp at hx;rw[hx,hpx,hp]
  refine .inr ⟨.inl (),?_,.inl ⟨rfl,?_⟩⟩;simp only[lg];rw[show decide (i<(L0.length:Int))=false by simp;omega];rfl;rw[List.find?_eq_none];intro x hx;rw[take_of_length_le (by omega)]at hpre;rw[hpre x hx];simp) n 0 0 ⟨rfl,Nat.zero_le _,by simp⟩ (by omega)
 have hfo:=aly (ys:=NA d) (ok:=vm d) (f:=KV d) (r:=r) (p:=p) (Rz _ _ hz.1) (λ y z e=>amL (by injection e)) hsr (by rw[hL0];exact hst);have tE:∀z,Ku n t d day z=(vm d z&&p (KV d z)):=λz=>rfl;rcases g2 with ⟨rfl,hno⟩|⟨x,rfl,hx⟩;refine⟨[],0,4,?_,λh=>(h h0).elim,λ_=>.inr ⟨rfl,rfl,rfl,λy hy=>?_⟩⟩;show dP (iter _ n 0) _=_;rw[g1,gF];rw[tE];cases hoy:vm d y with
 |false=>rfl
 |true=>rw[hfo.2 hno y hy hoy];rfl
 obtain⟨y,hy1,hy2,rfl,hy4,hy5,hy6⟩:=hfo.1 x hx;refine⟨toI y,(KV d y).cost,0,?_,λh=>(h h0).elim,λ_=>.inl ⟨rfl,y,hy1,rfl,rfl,by rw[tE,hy2,hy4];rfl,λz hz h=>?_,λpre post he z hz h=>?_⟩⟩;show dP (iter _ n 0) _=_;rw[g1,kM];rfl;rw[tE,bC]at h;exact hy5 z hz h.1 h.2;rw[tE,bC]at h;exact hy6 pre post he z hz h.1 h.2;rw[show (wJ n t d !=0)=true by simpa using h0,aj];exact⟨[],0,wJ n t d,rfl,λ_=>⟨rfl,rfl,rfl⟩,λh=>(h0 h).elim⟩
end
theorem Iq{α:Type}{l:List α}{K n:Nat}(f:α->Nat)(c:Nat){step:Int->Option (Int⊕(Unit⊕Bool))}(hs:∀v,step v=((bif decide (v<l.length)then some (decide (v<K))else some false):Option Bool).bind λb=>bif b then(bz l v).bind λx=>bif decide ((f x:Int)>c)then(some false).map λa=>.inr (.inr a)else some (.inl (i64.wrap (v+1)))else some (.inr (.inl ())))(hK:K<1000)(hn:K+1<n):
 iter step n 0=some (.inr false)\/(iter step n 0=some (.inl ())/\(l.length<=K->∀x∈l,f x<=c)):=by refine T9 (good:=λx=>f x<=c) (λ i hi hi2=>?_) (λ i h=>?_) hn;rw[hs,Io i l.length K rfl,show decide (i<l.length/\i<K)=true by simp[hi,hi2]];simp only[ai,aj,bJ hi,aX i];by_cases h:(f l[i]:Int)>c;left;simp only[h,decide_true,aj];rfl;right;simp only[h,decide_false,au];exact⟨trivial,by omega⟩;rw[hs,Io i l.length K rfl,show decide (i<l.length/\i<K)=false by simp;omega];rfl
theorem KW(hn:4000002<=n):∀(m:Nat) (e:bV) most (L:Nat),(toE e).wt<=4000000->0<=most->most<=1000->L<=100->L+1<=m->∃r,sj n m e most L=some r/\1<=r/\r<=most+1
 | 0,_,_,_,_,_,_,_,h=>absurd h (by omega)
 |m+1,e,most,L,hw,h0,h1,hL,hm=>by have hla:=abB e;show ∃r,Ai n (sj n m) e most L=some r/\_;simp[Ai];by_cases hL1:(L:Int)<1;simp only[hL1,decide_true,aj];rw[aM (by omega) (by omega)];exact⟨most+1,rfl,by omega,by omega⟩;simp[hL1];obtain⟨o,g1,g2,g3⟩:=eO (step:=tX (sj n m) e most L) (λ i (v:Int×Int)=>v.2=i/\i<=e.args.length/\1<=v.1/\v.1<=most+1) (λ o=>1<=o/\o<=most+1) e.args.length (λ k v h=>h.2.1) (by rintro i ⟨v1,v2⟩ ⟨hv,hi,i1,i2⟩;subst hv;by_cases hlt:i<e.args.length;by_cases hle:v1<=most;left;have hwx:=agu (getElem_mem hlt);obtain⟨r,r1,r2,r3⟩:=KW hn m e.args[i] (most-v1) (L-1) (by omega) (by omega) (by omega) (by omega) (by omega);have eL:i64.wrap (L-1)=(L-1:Nat):=nu (by omega) (by omega);refine⟨(v1+r,(i+1:Nat)),?_,rfl,hlt,by omega,by omega⟩;simp only[tX,show decide ((i:Int)<e.args.length)=true from by simp;omega,aj,hle,decide_true,ai,bJ hlt,aM (show -9223372036854775808<=most-v1 by omega) (show most-v1<=9223372036854775807 by omega),eL,r1,aM (show -9223372036854775808<=v1+r by omega) (show v1+r<=9223372036854775807 by omega),aX i];right;refine⟨v1,?_,i1,i2⟩;simp[tX,hle];right;refine⟨v1,?_,i1,i2⟩;simp only[tX,show decide ((i:Int)<e.args.length)=false from by simp;omega,au,ai]) n 0 (1,0) ⟨rfl,Nat.zero_le _,by simp,by omega⟩ (by omega);simp only[g1];exact⟨o,rfl,g2,g3⟩
def alA(p:bT):Prop:=(p.tables.length<=4/\∀t∈p.tables,t.rows.length<=8)/\p.zones.length<=5/\p.caps.length<=3/\p.rules.length<=6/\∀r∈p.rules,WC r
theorem ajq{p:bT}(hd:gp p.defs)(hw:WtR p.rules)(hn:yl n):∃b,M5 n p=some b/\(b=true->alA p):=by
 obtain⟨hn1,hn2⟩:=hn;have s1:=T9 (l:=p.rules) (K:=5) (n:=n) (step:=Aj n p) (good:=WC) (λ i hi hK=>by obtain⟨r,hr,_,_⟩:=KW (n:=n) (by omega) n (li p.rules[i]) 20 14 (hw _ (getElem_mem hi)) (by omega) (by omega) (by omega) (by omega);have hr':Cr n (bV.mk p.rules[i].ky p.rules[i].m5 p.rules[i].mT p.rules[i].i9 p.rules[i].fR) 20 14=some r:=hr;have e:=Io i p.rules.length 5 (k:=5) rfl;simp only[Aj,e,show decide (i<p.rules.length/\i<5)=true from by simp[hi,hK],ai,aj,bJ hi,hr',aX i];by_cases c1:r>20;left;simp only[c1,decide_true,aj,ai];rfl;by_cases c2:(p.rules[i].zones.length:Int)>6;left;simp only[c1,c2,decide_true,decide_false,aj,au,ai];rfl;by_cases c3:(p.rules[i].except.length:Int)>6;left;simp only[c1,c2,c3,decide_true,decide_false,aj,au,ai];rfl;right;simp only[c1,c2,c3,decide_false,au,ai];exact⟨trivial,by omega,by omega⟩) (λ i h=>by have e:=Io i p.rules.length 5 (k:=5) rfl;simp only[Aj,e,show decide (i<p.rules.length/\i<5)=false from by simp;omega,ai,au]) (by omega);have s2:=T9 (l:=p.defs) (K:=5) (n:=n) (step:=Ak n p) (good:=λ_=>True) (λ i hi hK=>by
  obtain⟨r,hr,_,_⟩:=KW (n:=n) (by omega) n _ 20 14 (hd.body (getElem_mem hi)) (by omega) (by omega) (by omega) (by omega);have hr':Cr n (bV.mk p.defs[i].iu p.defs[i].lw p.defs[i].kq p.defs[i].ik p.defs[i].el) 20 14=some r:=hr;have e:=Io i p.defs.length 5 (k:=5) rfl;simp only[Ak,e,show decide (i<p.defs.length/\i<5)=true from by simp[hi,hK],ai,aj,bJ hi,hr',aX i];cases decide (r>20)with
  |true=>exact .inl rfl
  |false=>exact .inr ⟨rfl,trivial⟩) (λ i h=>by have e:=Io i p.defs.length 5 (k:=5) rfl;simp only[Ak,e,show decide (i<p.defs.length/\i<5)=false from by simp;omega,ai,au]) (by omega)
 have s3:=Iq (l:=p.zones) (K:=5) (n:=n) (step:=Rn p) (λ x=>x.corners.length) 12 (λ v=>rfl) (by decide) (by omega);have s4:=Iq (l:=p.caps) (K:=4) (n:=n) (step:=Ro p) (λ x=>x.corners.length) 12 (λ v=>rfl) (by decide) (by omega);have s5:=Iq (l:=p.tables) (K:=3) (n:=n) (step:=Rp p) (λ x=>x.rows.length) 8 (λ v=>rfl) (by decide) (by omega);have no:∃b,some false=some b/\(b=true->alA p):=⟨false,rfl,λh=>(by cases h)⟩;unfold M5;rcases s1 with h1|⟨h1,hr⟩;rw[h1];exact no;rcases s2 with h2|⟨h2,_⟩;rw[h1,h2];exact no;rcases s3 with h3|⟨h3,_⟩;rw[h1,h2,h3];exact no;rcases s4 with h4|⟨h4,_⟩;rw[h1,h2,h3,h4];exact no;rcases s5 with h5|⟨h5,ht⟩;rw[h1,h2,h3,h4,h5];exact no;rw[h1,h2,h3,h4,h5];simp only[bA];refine⟨_,rfl,λhb=>?_⟩;simp at hb;exact⟨⟨by omega,ht (by omega)⟩,by omega,by omega,by omega,hr (by omega)⟩
theorem flat3:∀{l:List eF},(∀ p∈l,p.az.length<=3)->(l.flatMap (·.az)).length<=l.length*3
 |[],_=>by simp
 |p::l,h=>by have:=flat3 λq hq=>h q (cZ _ hq);have:=h p (by simp);rw[List.flatMap_cons,fQ,fU];omega
theorem alB{t:fP}{d:aG}(hz:alp t)(hn:yl n):∃b,M7 n t d=some b/\(b=true->Yw t/\P0 d):=by
 have hn':=hn;obtain⟨hn1,hn2⟩:=hn;have s1:=Iq (l:=t.land) (K:=4) (n:=n) (step:=V7 t) (λ x=>x.area.length) 4 (λ v=>rfl) (by decide) (by omega);have s2:=Iq (l:=t.cw) (K:=4) (n:=n) (step:=V8 t) (λ x=>x.area.length) 4 (λ v=>rfl) (by decide) (by omega);have s3:=T9 (l:=d.phases) (K:=4) (n:=n) (step:=Ew d) (good:=λx=>x.az.length<=3/\x.gives.length<=3) (λ i hi hK=>by have e:=Io i d.phases.length 4 (k:=4) rfl;simp only[Ew,e,show decide (i<d.phases.length/\i<4)=true from by simp[hi,hK],ai,aj,bJ hi,aX i];by_cases c1:(d.phases[i].az.length:Int)>3;left;simp only[c1,decide_true,aj,ai];rfl;by_cases c2:(d.phases[i].gives.length:Int)>3;left;simp only[c1,c2,decide_true,decide_false,aj,au,ai];rfl;right;simp only[c1,c2,decide_false,au,ai];exact⟨trivial,by omega,by omega⟩) (λ i h=>by have e:=Io i d.phases.length 4 (k:=4) rfl;simp only[Ew,e,show decide (i<d.phases.length/\i<4)=false from by simp;omega,ai,au]) (by omega);have no:∃b,some false=some b/\(b=true->Yw t/\P0 d):=⟨false,rfl,λh=>(by cases h)⟩;obtain⟨b,hb,hb2⟩:=ajq (n:=n) (p:=bT.mk t.cm t.cd t.ca t.bm t.co t.ci t.cD t.cj) hz.defs hz.rules hn';unfold M7;rcases s1 with h1|⟨h1,hl⟩;rw[h1];exact no;rcases s2 with h2|⟨h2,he⟩;rw[h1,h2];exact no;rcases s3 with h3|⟨h3,hd⟩;rw[h1,h2,h3];exact no;rw[h1,h2,h3,hb];cases b with
 |false=>exact no
 |true=>
  have⟨⟨t1,t2⟩,z1,c1,r1,r2⟩:=hb2 rfl;simp at t1 t2 z1 c1 r1 r2;by_cases d4:(d.phases.length:Int)<=3;have hd':=hd (by omega);have hF:wI d:=⟨by omega,λp hm=>by have:=(hd' p hm).1;omega⟩;have hG:WO d:=λp hm=>by have:=(hd' p hm).2;omega
  obtain⟨r,hr,hr2⟩:=amK (n:=n) hF (by omega);have d4':decide ((d.phases.length:Int)<=3)=true:=by simpa using d4
  rw[hr];simp only[aj,ai,bA];refine⟨_,rfl,λh=>?_⟩;simp at h;obtain⟨d1,d2,d3,d5⟩:=h;have hl':=hl (by omega);have he':=he (by omega);refine⟨⟨λ l hm=>⟨by have:=hl' l hm;omega,hz.z7 l hm⟩,by omega,⟨by omega,λe hm=>by have:=he' e hm;omega⟩,by omega,by omega,by omega,by omega,λr hm=>⟨r2 r hm,hz.rules r hm⟩,⟨hz.defs,⟨by show t.cd.length<=_;omega,λx hx=>by have:=t2 x hx;omega⟩⟩⟩,⟨hF,hG⟩,?_,by omega⟩;have:=flat3 λp hp=>(hd' p hp).1;show(d.phases.flatMap (·.az)).length<=1000;omega;have d4':decide ((d.phases.length:Int)<=3)=false:=by simpa using d4
  rw[d4'];cases decide ((t.land.length:Int)<=3)<;>cases decide ((t.cw.length:Int)<=3)<;>cases decide ((t.built.length:Int)<=4)<;>exact no
def KX:aG:=aG.mk 1 [eF.mk [ay.mk 1 1 5 6 0 10 1 0 false] []]
def KY(m:Int):fP:=fP.mk [] [] [] [cK.mk (⟨#[114]⟩) ([]) ([]) 0 0 0 false 0 12 0 (⟨#[]⟩) (⟨#[]⟩) [(bV.mk 1 0 (⟨#[104,101,105,103,104,116]⟩) (⟨#[]⟩) ([])),(bV.mk 0 m (⟨#[]⟩) (⟨#[]⟩) ([]))] 0 0 0 0 0 0 0] [] [] [] 0 [iK.mk 1 0 [ax.mk 0 0 9 9] []] [] [] [] []
theorem aia m:Yw (KY m) where
 lots:=λl hl=>by simp only[KY,bq]at hl;subst hl;exact⟨by decide,by decide⟩
 land:=Nat.le_of_ble_eq_true (by kernel_rfl)
 eas:=⟨Nat.le_of_ble_eq_true (by kernel_rfl),λe he=>by simp[KY]at he⟩
 built:=Nat.le_of_ble_eq_true (by kernel_rfl)
 zones:=Nat.le_of_ble_eq_true (by kernel_rfl)
 caps:=Nat.le_of_ble_eq_true (by kernel_rfl)
 rules:=Nat.le_of_ble_eq_true (by kernel_rfl)
 rule:=λr hr=>by simp only[KY,bq]at hr;subst hr;exact⟨⟨Nat.le_of_ble_eq_true (by kernel_rfl),Nat.le_of_ble_eq_true (by kernel_rfl)⟩,Nat.le_of_ble_eq_true (by kernel_rfl)⟩
 plan:=⟨Nat.le_of_ble_eq_true (by kernel_rfl),Nat.le_of_ble_eq_true (by kernel_rfl),λx hx=>by simp[lj,KY]at hx⟩
theorem kA:P0 KX where
 law:=by refine⟨⟨by decide,λp hp=>?_⟩,λp hp=>?_⟩<;>(simp only[KX,bq]at hp;subst hp;decide)
 xd:=by decide
 top:=by decide
theorem aoA:NA KX=[[0],[1],[2],[3],[4]]:=by kernel_rfl
theorem anV:jR 5000003 (KY 8) KX 0=some ([2],40,0):=by
 obtain⟨fl,c,e,h1,_,h3⟩:=aek (n:=5000003) (day:=0) (aia 8) kA P3;have f0:Ku 5000003 (KY 8) KX 0 [0]=false:=by kernel_rfl
 have f1:Ku 5000003 (KY 8) KX 0 [1]=false:=by kernel_rfl
 have f2:Ku 5000003 (KY 8) KX 0 [2]=true:=by kernel_rfl
 have f4:Ku 5000003 (KY 8) KX 0 [4]=false:=by kernel_rfl
 have k2:KV KX [2]=aD.mk [2] 40:=by kernel_rfl
 have k3:KV KX [3]=aD.mk [3] 60:=by kernel_rfl
 rcases h3 (by kernel_rfl)with ⟨rfl,y,hy,rfl,rfl,g1,g2,_⟩|⟨_,_,_,g⟩;rw[aoA]at hy g2;have g2:=g2 [2] (by simp) f2;simp at hy;rcases hy with rfl|rfl|rfl|rfl|rfl;rw[f0]at g1;cases g1;rw[f1]at g1;cases g1;rw[h1];rfl;exact absurd g2 (by decide);cases g1;have:=g [2] (by rw[aoA];simp);rw[f2]at this;cases this
theorem anW:jR 5000003 (KY 2) KX 0=some ([],0,4):=by
 obtain⟨fl,c,e,h1,_,h3⟩:=aek (n:=5000003) (day:=0) (aia 2) kA P3;have f:(NA KX).all (λ y=>!Ku 5000003 (KY 2) KX 0 y)=true:=by kernel_rfl
 rcases h3 (by kernel_rfl)with ⟨rfl,y,hy,rfl,rfl,g1,_⟩|⟨rfl,rfl,rfl,_⟩;have:=List.all_eq_true.1 f y hy;rw[g1]at this;cases this;exact h1
theorem amN:Jr 5000003=some true:=by
 have s8:yH 8=some (KY 8,KX):=by kernel_rfl
 have s2:yH 2=some (KY 2,KX):=by kernel_rfl
 obtain⟨hf,_⟩:=ah9 (n:=5000003) (t:=KY 8) kA.law P3 (by kernel_rfl);have hC:=λl=>P8 (n:=5000003) (l:=l) kA.law.1 kA.law.2 kA.xd hf (λ _=>by decide) (by decide);unfold Jr;simp[s8,s2,anV,anW,hC];rfl
inductive ir:List ay->List ay->Int->Prop
 |nil:ir [] [] 0
 |cut {l l' c} (v:ay) (k:Int) (h:0<=k/\k<eS v):ir l l' c->ir (v::l) (cutV v k::l') (k*lJ (bU v)+c)
 |drop {l l' c} (v:ay):ir l l' c->ir (v::l) l' (eS v*lJ (bU v)+c)
theorem ir.app{l2 l2':List ay}{c2:Int}(h2:ir l2 l2' c2):∀{l l':List ay}{c:Int},ir l l' c->ir (l++l2) (l'++l2') (c+c2):=by
 intro l l' c h
 induction h with
 |nil=>simpa using h2
 |cut v k hk _ ih=>rw[Int.add_assoc];exact .cut v k hk ih
 |drop v _ ih=>rw[Int.add_assoc];exact .drop v ih
theorem ael:∀(vs:List ay)(l:List Int)(r:List ay×Int),Xb vs l=some r->ir vs r.1 r.2
 |[],l,r,h=>by cases h;exact .nil
 |v::vs,[],r,h=>by cases h
 |v::vs,k::ks,r,h=>by
  rw[Xb]at h;cases hc:(decide (k<0) || decide (k>eS v))with
  |true=>rw[hc]at h;cases h
  |false=>
   rw[hc,au]at h;obtain⟨q,hq,rfl⟩:=jb.1 h;have ih:=ael vs ks q hq;simp at hc;by_cases hk:k<eS v
   ·rw[show decide (k<eS v)=true by simpa using hk];exact .cut v k ⟨hc.1,hk⟩ ih
   ·rw[show decide (k<eS v)=false by simpa using hk,show k=eS v by omega];exact .drop v ih
theorem aem:∀(ps:List eF)(l:List Int)(q:List eF×Int),P6 ps l=some q->ir (ps.flatMap (·.az)) (q.1.flatMap (·.az)) q.2/\q.1.map (·.gives)=ps.map (·.gives)
 |[],l,q,h=>by cases h;exact⟨.nil,rfl⟩
 |p::ps,l,q,h=>by rw[P6]at h;have⟨r,hr,h⟩:=ah.1 h;obtain⟨s,hs,rfl⟩:=jb.1 h;obtain⟨i1,i2⟩:=aem ps _ s hs;exact⟨ir.app i1 (ael _ _ r hr),by simp[i2]⟩
theorem ir.mem{l l':List ay}{c:Int}(h:ir l l' c):∀w∈l',∃v∈l,∃k,(0<=k/\k<eS v)/\w=cutV v k:=by
 induction h with
 |nil=>intro w hw;cases hw
 |cut v k hk _ ih=>
  intro w hw;rcases aQ.1 hw with rfl|hw;exact⟨v,by simp,k,hk,rfl⟩;have⟨u,hu,x⟩:=ih w hw;exact⟨u,cZ _ hu,x⟩
 |drop v _ ih=>
  intro w hw;have⟨u,hu,x⟩:=ih w hw;exact⟨u,cZ _ hu,x⟩
theorem ir.len{l l':List ay}{c:Int}(h:ir l l' c):l'.length<=l.length:=by
 induction h with
 |nil=>exact aA _
 |cut v k _ _ ih=>simp;omega
 |drop v _ ih=>simp;omega
theorem alC{v:ay}{k:Int}(h:okV v=true)(hk:0<=k/\k<eS v):(cutV v k).b9<(cutV v k).ch/\(cutV v k).ch<=v.ch:=by
 have hz:=WW h;have hf:eS v=(v.ch-v.b9+2)/3:=by unfold eS;rw[h];rfl
 unfold cutV;by_cases h0:k>0
 ·rw[show decide (k>0)=true by simpa using h0];show v.b9<v.b9+3*(eS v-k)/\v.b9+3*(eS v-k)<=v.ch;omega
 ·rw[show decide (k>0)=false by simpa using h0];exact⟨hz.2.1,Int.le_refl _⟩
theorem CJ(v:ay)(k:Int):bU (cutV v k)=bU v/\(cutV v k).b9=v.b9/\(cutV v k).use=v.use/\(cutV v k).units=v.units/\(cutV v k).extra=v.extra:=by unfold cutV;cases decide (k>0)<;>exact⟨rfl,rfl,rfl,rfl,rfl⟩
theorem S5{v:ay}{k:Int}(h:okV v=true)(hk:0<=k/\k<eS v):okV (cutV v k)=true:=by have⟨z1,z2⟩:=alC h hk;have⟨e1,e2,e3,e4,_⟩:=CJ v k;have hz:=WW h;unfold okV at h ⊢;rw[e1,e2,e3,e4];simp only[bC,bF]at h ⊢;rw[e2]at z1;exact⟨h.1,h.2.1,z1,by omega,h.2.2.2.2⟩
theorem aen{step:Int->Option (Int⊕(Unit⊕Bool))}{N n:Nat}(bad:Nat->Bool)(h1:∀i:Nat,i<N->step i=some (bif bad i then .inr (.inr false)else .inl ((i+1:Nat):Int)))(h2:step N=some (.inr (.inl ())))(hn:N<n):
 (iter step n 0=some (.inl ())/\∀i<N,bad i=false)\/(iter step n 0=some (.inr false)/\∃i<N,bad i=true):=by
 obtain⟨o,g1,g2⟩:=eO (step:=step) (λ i v=>v=(i:Int)/\i<=N/\∀j<i,bad j=false) (λ o=>(o=.inl ()/\∀i<N,bad i=false)\/(o=.inr false/\∃i<N,bad i=true)) N (λ k v h=>h.2.1) (by
  rintro i v ⟨rfl,hi,hall⟩;by_cases hlt:i<N
  ·rw[h1 i hlt];cases hb:bad i with
   |true=>exact .inr ⟨_,rfl,.inr ⟨rfl,i,hlt,hb⟩⟩
   |false=>
    refine .inl ⟨_,rfl,rfl,hlt,λj hj=>?_⟩;by_cases hji:j=i
    ·rw[hji,hb]
    ·exact hall j (by omega)
  ·have:i=N:=(by omega);subst this;exact .inr ⟨_,h2,.inl ⟨rfl,hall⟩⟩) n 0 0 ⟨rfl,Nat.zero_le _,λj hj=>by omega⟩ (by omega)
 rcases g2 with ⟨rfl,g2⟩|⟨rfl,g2⟩;exact .inl ⟨g1,g2⟩;exact .inr ⟨g1,g2⟩
def yR(w v:ay):Bool:=(gZ w v).getD false
theorem alD(w v:ay):gZ w v=some (yR w v):=by obtain⟨b,hb⟩:∃b,gZ w v=some b:=qi (Z6 _ _) λ_=>⟨_,rfl⟩;unfold yR;rw[hb];rfl
theorem ajr(w v:ay):yR w v=((d6 (bU v)&&(d6 (bU w)&&d6 (wU (bU v) (bU w))))&&(decide (v.b9<w.ch)&&decide (w.b9<v.ch))):=by
 unfold yR gZ tq;rw[uh];show Option.getD ((Option.bind (some (bif (d6 (bU v)&&(d6 (bU w)&&d6 (wU (bU v) (bU w))))then _ else _)) _).bind _) _=_;cases (d6 (bU v)&&(d6 (bU w)&&d6 (wU (bU v) (bU w))))with
 |false=>rfl
 |true=>
  simp only[ai,aj,bA];rfl
theorem alE{v w:ay}{k j:Int}(hv:okV v=true)(hw:okV w=true)(hk:0<=k/\k<eS v)(hj:0<=j/\j<eS w)(h:yR v w=false):yR (cutV v k) (cutV w j)=false:=by
 have⟨_,a2⟩:=alC hv hk;have⟨_,b2⟩:=alC hw hj;have⟨e1,e2,_⟩:=CJ v k;have⟨f1,f2,_⟩:=CJ w j;rw[ajr]at h ⊢;rw[e1,f1,e2,f2];cases hc:(d6 (bU w)&&(d6 (bU v)&&d6 (wU (bU w) (bU v))))with
 |false=>rfl
 |true=>
  rw[hc]at h;simp only[Bool.true_and,Bool.and_eq_false_iff,dL]at h ⊢;omega
def AF(l:List ay)(i:Nat):Bool:=((l[i]?).map λv=>!okV v || (l.take i).any (yR · v)).getD false
theorem aep{l:List ay}(hl:l.length<=1000000)(hn:4000002<=n):(iter (gu n l) n 0=some (.inl ())/\∀i<l.length,AF l i=false)\/(iter (gu n l) n 0=some (.inr false)/\∃i<l.length,AF l i=true):=by
 refine aen (AF l) (λ i hlt=>?_) ?_ (by omega)
 ·have hb:AF l i=(!okV l[i] || (l.take i).any (yR · l[i])):=by unfold AF;rw[dm hlt];rfl
  simp only[gu,show decide ((i:Int)<l.length)=true from by simp;omega,aj,aV hlt,bG hlt,ai,lq,aX i];rw[hb];cases hv:okV l[i]with
  |false=>rfl
  |true=>
   have hs:sub l 0 i=l.take i:=(by simp[sub]);have hsub:(l.take i).length=i:=(by simp;omega);have hc:=fD (n:=n) (l:=l.take i) (φ:=λ(y1:ay×Unit)=>gZ y1.1 l[i]) (yR · l[i]) (λ x _=>alD x l[i]) (by omega) (by omega);simp only[uS (show 0<=0 by omega) (show (0:Int)<=i by omega) (show (i:Int)<=l.length by omega),hs,Int.toNat_natCast,pz hsub,hc,Bool.not_true,au,aj,ai,Bool.false_or];cases (l.take i).any (yR · l[i])<;>rfl
 ·simp only[gu,show decide ((l.length:Int)<l.length)=false from by simp,au]
theorem alF{l:List ay}:(∀ i<l.length,AF l i=false)↔(∀ v∈l,okV v=true)/\l.Pairwise λw v=>yR w v=false:=by
 have hb:∀i (h:i<l.length),AF l i=(!okV l[i] || (l.take i).any (yR · l[i])):=λi h=>by unfold AF;rw[dm h];rfl
 rw[List.pairwise_iff_getElem];constructor
 ·intro h;refine⟨λ v hv=>?_,λi j hi hj hij=>?_⟩
  ·obtain⟨i,hi,rfl⟩:=mem_iff_getElem.1 hv;have:=h i hi;rw[hb i hi]at this;simp at this;exact this.1
  ·have:=h j hj;rw[hb j hj,Bool.or_eq_false_iff]at this;exact List.any_eq_false.1 this.2 l[i] (by rw[mem_iff_getElem];exact⟨i,by simp;omega,by simp⟩) |> (by simpa using ·)
 ·rintro⟨h1,h2⟩ i hi;rw[hb i hi,h1 _ (getElem_mem hi)];simp only[Bool.not_true,Bool.false_or,List.any_eq_false];intro w hw;obtain⟨j,hj,rfl⟩:=mem_iff_getElem.1 hw;simp at hj ⊢;exact h2 j i (by omega) hi (by omega)
theorem ir.apart{l l':List ay}{c:Int}(h:ir l l' c):(∀ v∈l,okV v=true)->l.Pairwise (λ w v=>yR w v=false)->(∀ v∈l',okV v=true)/\l'.Pairwise (λ w v=>yR w v=false):=by
 induction h with
 |nil=>exact λ_ _=>⟨by simp,.nil⟩
 |cut v k hk hr ih=>
  intro h1 h2;obtain⟨i1,i2⟩:=ih (λ x hx=>h1 x (cZ _ hx)) (pairwise_cons.1 h2).2;have hv:=h1 v (by simp);refine⟨λ x hx=>?_,pairwise_cons.2 ⟨λ x hx=>?_,i2⟩⟩
  ·rcases aQ.1 hx with rfl|hx;exact S5 hv hk;exact i1 x hx
  ·obtain⟨w,hw,j,hj,rfl⟩:=hr.mem x hx;exact alE hv (h1 w (cZ _ hw)) hk hj ((pairwise_cons.1 h2).1 w hw)
 |drop v _ ih=>exact λh1 h2=>ih (λ x hx=>h1 x (cZ _ hx)) (pairwise_cons.1 h2).2
theorem aib{α β:Type}(f:α->β)(l:List α)(i:Int):bz (l.map f) i=(bz l i).map f:=by unfold bz;cases decide (0<=i)<;>simp
def RA(d:aG):aG:=aG.mk 0 (d.phases.map λp=>eF.mk [] p.gives)
theorem aer(n:Nat)(d:aG):gB n d=gB n (RA d):=by funext v;simp only[gB,RA,aib,length_map];cases bz d.phases v<;>rfl
theorem aes(n:Nat)(p:bT)(d:aG):gH n p d=gH n p (RA d):=by funext v;simp only[gH,RA,aib,length_map];cases bz d.phases v<;>rfl
theorem aic{d x:aG}(h:x.phases.map (·.gives)=d.phases.map (·.gives)):RA x=RA d:=by
 have e:∀z:aG,RA z=aG.mk 0 ((z.phases.map (·.gives)).map λg=>eF.mk [] g):=λz=>by simp[RA]
 rw[e,e,h]
theorem P9{d:aG}(hd:wI d)(hg:WO d)(hn:4000002<=n):iQ n d=some true↔(0<=d.lot/\d.lot<=1073741824/\1<=d.phases.length/\d.phases.length<=8/\1<=(b7 d).length/\(b7 d).length<=40)/\((∀ v∈b7 d,okV v=true)/\(b7 d).Pairwise λw v=>yR w v=false)/\iter (gB n d) n 0=some (.inl ()):=by
 simp only[iQ,all_eq hd (show 1001<=n by omega),ai,bO];have hc:(decide (d.lot<0) || (decide (d.lot>1073741824) || (decide ((d.phases.length:Int)<1) || (decide ((d.phases.length:Int)>8) || (decide (((b7 d).length:Int)<1) || decide (((b7 d).length:Int)>40))))))=false↔(0<=d.lot/\d.lot<=1073741824/\1<=d.phases.length/\d.phases.length<=8/\1<=(b7 d).length/\(b7 d).length<=40):=by simp only[Bool.or_eq_false_iff,dL];omega
 rw[<- hc,<- alF];cases (decide (d.lot<0) || (decide (d.lot>1073741824) || (decide ((d.phases.length:Int)<1) || (decide ((d.phases.length:Int)>8) || (decide (((b7 d).length:Int)<1) || decide (((b7 d).length:Int)>40))))))with
 |true=>simp
 |false=>
  simp only[au,true_and];rcases aep (n:=n) (qj hd) hn with ⟨h,hall⟩|⟨h,i,hi,hb⟩
  ·rw[h,gF];rcases WQ (n:=n) hd hg hn with h2|h2
   ·rw[h2,gF];exact⟨λ _=>⟨hall,rfl⟩,λ_=>rfl⟩
   ·rw[h2,kM];exact⟨λ h=>(by cases h),λh=>(by cases h.2)⟩
  ·rw[h,kM];refine⟨λ h=>(by cases h),λh=>?_⟩;rw[h.1 i hi]at hb;cases hb
def AE(n:Nat)(a:List ax)(r:ax):Option Bool:=(Co n a [r]).bind λr4=>bif r4.2 !=0 then some true else(Jm n r4.1).bind λr5=>(rH r).bind λr6=>some (decide (r5<r6))
theorem Qa{a:List ax}{r:ax}(ha:a.length<=900)(hr:d6 r=true)(hn:4000002<=n):∃b,AE n a r=some b:=by have hcl:=Nl (keep:=λp q=>p&&q) a [r];have hc:=Nk (n:=n) (a:=a) (b:=[r]) (by omega) (by simp) (by omega) (by simp;omega) (by omega);have hA:=KR (n:=n) (a:=(qR (λ p q=>p&&q) a [r]).1) (by omega) (by omega);have h1:=xZ hr;simp only[AE,hc,hA,h1,ai];exact fe ⟨_,rfl⟩ ⟨_,rfl⟩
theorem aag{lot:iK}{l:List ay}(ha:lot.area.length<=900)(hv:∀v∈l,okV v=true)(hl:l.length<=1000000)(hn:4000002<=n):
 (iter (dZ n lot l) n 0=some (.inl ())/\∀v∈l,AE n lot.area (bU v)=some false)\/(iter (dZ n lot l) n 0=some (.inr false)/\∃v∈l,AE n lot.area (bU v)=some true):=by
 have hb:=aen (step:=dZ n lot l) (N:=l.length) (n:=n) (λ i=>((l[i]?).bind λv=>AE n lot.area (bU v)).getD false) (λ i hlt=>by
  obtain⟨b,hb⟩:=Qa (n:=n) ha (uj (hv _ (getElem_mem hlt))) hn;rw[dm hlt,ai,hb];have hb':AE n lot.area ⟨l[i].bj,l[i].bp,l[i].be,l[i].bo⟩=some b:=hb;have hs:dZ n lot l i=(AE n lot.area ⟨l[i].bj,l[i].bp,l[i].be,l[i].bo⟩).bind λv3=>bif v3 then(some false).map λa=>.inr (.inr a)else some (.inl (i64.wrap ((i:Int)+1))):=by simp only[dZ,show decide ((i:Int)<l.length)=true from by simp;omega,aj,aV hlt,bG hlt,ai,show ∀r:ax,sub [r] 0 1=[r]from λ_=>rfl,List.length_singleton,aN,AE,Option.bind_assoc]
  rw[hs,hb',ai,aR (by omega)];cases b<;>rfl) (by simp only[dZ,show decide ((l.length:Int)<l.length)=false from by simp,au]) (by omega)
 rcases hb with ⟨h,hall⟩|⟨h,i,hi,hbi⟩
 ·refine .inl ⟨h,λv hm=>?_⟩;obtain⟨i,hi,rfl⟩:=mem_iff_getElem.1 hm;obtain⟨b,hb⟩:=Qa (n:=n) ha (uj (hv _ (getElem_mem hi))) hn;have:=hall i hi;rw[dm hi,ai,hb]at this;rw[hb];simpa using this
 ·obtain⟨b,hb⟩:=Qa (n:=n) ha (uj (hv _ (getElem_mem hi))) hn;rw[dm hi,ai,hb]at hbi;exact .inr ⟨h,l[i],getElem_mem hi,by rw[hb];simpa using hbi⟩
theorem ajs{p:bT}{lot:iK}{d x:aG}{c:Int}(ha:lot.area.length<=900)(hd:wI d)(hg:WO d)(hd':wI x)(hg':WO x)(hl:x.lot=d.lot)(hgv:x.phases.map (·.gives)=d.phases.map (·.gives))(hc:ir (b7 d) (b7 x) c)(hne:b7 x≠[])(hn:4000002<=n)
 (h:eG n p lot d=some true):eG n p lot x=some true:=by
 have⟨b,hb,hv⟩:=TW (n:=n) hd hg hn;have hR:ny n lot.area=some (cH lot.area):=kK (by omega) (by omega) (by omega);have hpl:x.phases.length=d.phases.length:=by have:=congrArg List.length hgv;simpa using this
 simp only[eG,hb,ai]at h;cases b with
 |false=>cases h
 |true=>
  have hv:=hv rfl;have⟨f1,⟨f2,f3⟩,f4⟩:=(P9 hd hg hn).1 hb;have⟨g2,g3⟩:=hc.apart f2 f3;have hcl:=hc.len;have hpos:=List.length_pos_iff.2 hne;have hF:iQ n x=some true:=(P9 hd' hg' hn).2 ⟨⟨by rw[hl];exact f1.1,by rw[hl];exact f1.2.1,by rw[hpl];exact f1.2.2.1,by rw[hpl];exact f1.2.2.2.1,hpos,by omega⟩,⟨g2,g3⟩,by rw[aer,aic hgv,<- aer];exact f4⟩;simp only[eG,hF,ai,hl,Bool.not_true,au,hR,all_eq hd (show 1001<=n by omega),all_eq hd' (show 1001<=n by omega)]at h ⊢;cases hid:(lot.id !=d.lot)with
  |true=>rw[hid]at h;cases h
  |false=>
   cases hrl:cH lot.area with
   |false=>rw[hid,hrl]at h;cases h
   |true=>
    rw[hid,hrl]at h;simp only[Bool.not_true,au,ai]at h ⊢;rcases aag (n:=n) ha hv (qj hd) hn with ⟨h1,hall⟩|⟨h1,_⟩
    ·rw[h1,gF]at h;rcases aag (n:=n) ha g2 (qj hd') hn with ⟨k1,_⟩|⟨_,w,hw,hb⟩
     ·rw[k1,gF,aes,aic hgv,<- aes];exact h
     ·obtain⟨v,hvm,k,_,rfl⟩:=hc.mem w hw;rw[(CJ v k).1,hall v hvm]at hb;cases hb
    ·rw[h1,kM]at h;cases h
theorem Jw{v:ay}(h:okV v=true)(hx:v.extra=false):pR v=lJ (bU v)*eS v:=by
 have hz:=WW h;have hf:eS v=(v.ch-v.b9+2)/3:=by unfold eS;rw[h];rfl
 have ha:=Ua h;have hA':rH (ax.mk v.bj v.bp v.be v.bo)=some (lJ (bU v)):=PK (uj h);have hfl:=Ip v;have hm:0<=lJ (bU v)*eS v/\lJ (bU v)*eS v<=1099511627776*1366:=⟨Int.mul_nonneg ha.1 hfl.1,Int.mul_le_mul ha.2 hfl.2 hfl.1 (by omega)⟩;unfold pR mJ jO;simp only[lq,h,hA',hx,ai,Bool.not_true,au,show(3 !=0)=true from rfl,aj];rw[aM (x:=v.ch-v.b9),aM (x:=v.ch-v.b9+3),aM (x:=v.ch-v.b9+3-1),Int.tdiv_eq_ediv_of_nonneg (by omega),aM (x:=(v.ch-v.b9+3-1)/3),show(v.ch-v.b9+3-1)/3=eS v by rw[hf];congr 1;omega];exact aM (by omega) (by omega)
theorem ajt{v:ay}(h:okV v=true)(hx:v.extra=false):0<=pR v/\pR v<=1501933683542016:=by have ha:=Ua h;have hfl:=Ip v;rw[Jw h hx];exact⟨Int.mul_nonneg ha.1 hfl.1,Int.le_trans (Int.mul_le_mul ha.2 hfl.2 hfl.1 (by omega)) (by decide)⟩
theorem anX{v:ay}{k:Int}(h:okV v=true)(hk:0<=k/\k<eS v):eS (cutV v k)=eS v-k:=by
 have hf:eS v=(v.ch-v.b9+2)/3:=by unfold eS;rw[h];rfl
 have hf':eS (cutV v k)=((cutV v k).ch-(cutV v k).b9+2)/3:=by unfold eS;rw[S5 h hk];rfl
 rw[hf'];unfold cutV;by_cases h0:k>0
 ·rw[show decide (k>0)=true by simpa using h0];show(v.b9+3*(eS v-k)-v.b9+2)/3=_;omega
 ·rw[show decide (k>0)=false by simpa using h0];show(v.ch-v.b9+2)/3=_;omega
def Sb(l:List ay):Int:=(l.map pR).sum
theorem ir.sum{l l':List ay}{c:Int}(h:ir l l' c):(∀ v∈l,okV v=true/\v.extra=false)->Sb l'+c=Sb l:=by
 induction h with
 |nil=>exact λ_=>rfl
 |cut v k hk _ ih=>
  intro h1;obtain⟨a1,a2⟩:=h1 v (by simp);have ih:=ih λx hx=>h1 x (cZ _ hx);have e:=CJ v k;have e1:=Jw (S5 a1 hk) (by rw[e.2.2.2.2];exact a2);rw[e.1,anX a1 hk,Int.mul_sub,Int.mul_comm _ k]at e1;have e2:=Jw a1 a2;unfold Sb at ih ⊢;simp only[bH,List.sum_cons];omega
 |drop v _ ih=>
  intro h1;obtain⟨a1,a2⟩:=h1 v (by simp);have ih:=ih λx hx=>h1 x (cZ _ hx);have e2:=Jw a1 a2;rw[Int.mul_comm]at e2;unfold Sb at ih ⊢;simp only[bH,List.sum_cons];omega
theorem KZ:∀(l:List ay)(s:Int),(∀ v∈l,okV v=true/\v.extra=false)->0<=s->s+l.length*1501933683542016<=4611686018427387904->l.foldl (λ s v=>i64.wrap (s+pR v)) s=s+Sb l/\0<=Sb l/\Sb l<=l.length*1501933683542016
 |[],s,_,_,_=>by simp[Sb]
 |v::l,s,h,h0,hs=>by obtain⟨a1,a2⟩:=h v (by simp);have hf:=ajt a1 a2;simp only[fU]at hs;obtain⟨i1,i2,i3⟩:=KZ l (s+pR v) (λ x hx=>h x (cZ _ hx)) (by omega) (by omega);rw[List.foldl_cons,aM (by omega) (by omega),i1];unfold Sb at i2 i3 ⊢;simp only[bH,List.sum_cons,fU];omega
theorem agH(ts:List cO)(A:List ax)(l:List ay)(hn:10<=n):Cs n (N4 n ts A l)=some (R7 pR l):=by
 obtain⟨m,rfl⟩:∃m,n=m+3:=⟨n-3,by omega⟩;have n0:(ByteArray.toList (⟨#[97,114,101,97]⟩)==ByteArray.toList (⟨#[102,108,111,111,114]⟩))=false:=by kernel_rfl
 have n1:(ByteArray.toList (⟨#[99,111,118,101,114]⟩)==ByteArray.toList (⟨#[102,108,111,111,114]⟩))=false:=by kernel_rfl
 have n2:(ByteArray.toList (⟨#[102,108,111,111,114]⟩)==ByteArray.toList (⟨#[102,108,111,111,114]⟩))=true:=by simp
 have e:xH (m+3) (N4 (m+3) ts A l) 0=some (.inl 1):=by show(bif _==_ then _ else _)=_;rw[n0];rfl
 have e1:xH (m+3) (N4 (m+3) ts A l) 1=some (.inl 2):=by show(bif _==_ then _ else _)=_;rw[n1];rfl
 have e2:xH (m+3) (N4 (m+3) ts A l) 2=some (.inr (.inr (R7 pR l))):=by show(bif _==_ then _ else _)=_;rw[n2];rfl
 unfold Cs;rw[dM e,dM e1,cu e2];rfl
mutual
theorem amO:∀g:bV,(toE g).wt<=jV (qZ g)
 |⟨op,n,s,key,args⟩=>by have:=NE args;simp[toE,ET.wt,qZ,jV,oe];omega
theorem NE:∀l:List bV,ET.te (Hy l)<=wX (sV l)
 |[]=>by simp[Hy,ET.te]
 |x::xs=>by have h1:=amO x;have h2:=NE xs;simp[Hy,ET.te,sV,wX];omega
end
theorem aah:∀l:List gT,rk (l.map toD)<=wX (l.map Ec)
 |[]=>by simp[rk]
 |x::xs=>by have h1:=aah xs;have h2:=NE x.el;simp[rk]at h1;simp[rk,toD,ET.wt,wX,Ec,jV,oe,<- sW];omega
theorem aju(t:fP):rk (t.cm.map toD)<=jV (Ji t):=by have:=aah t.cm;simp[Ji,jV,oe];omega
theorem Xc{r:List Tree}:∀{l:List (List Tree)},r∈l->jV r<=wX l
 |x::l,h=>by rw[wX];rcases aQ.1 h with rfl|h;omega;have:=Xc h;omega
theorem ajv(r:cK):(toE (li r)).wt<=jV (xk r):=by have h:=NE r.fR;rw[sW]at h;simp[li,toE,ET.wt,xk,jV,oe];omega
theorem aai:∀l:List Int,l.length<=wX (l.map λy=>[Tree.sc (.int .i64 y)])
 |[]=>by simp
 |x::l=>by have:=aai l;simp[wX,jV,oe];omega
theorem anY{t:fP}(h:jV (Ji t)<=2000000):alp t:=by
 have hd:=Nat.le_trans (aju t) h;simp[Ji,jV,oe]at h;refine⟨by unfold gp;omega,λr hr=>?_,λl hl=>?_⟩;have h1:=ajv r;have h2:=Xc (mem_map.2 ⟨r,hr,rfl⟩:xk r∈t.bm.map xk);omega;have h1:=aai l.from_;have h2:=Xc (mem_map.2 ⟨l,hl,rfl⟩:AB l∈t.land.map AB);have h3:wX (l.from_.map λy=>[Tree.sc (.int .i64 y)])<=jV (AB l):=by simp[AB,jV,oe];omega
 omega
def PT(p:bT)(lot:iK):fP:=fP.mk p.defs p.tables p.zones p.rules p.caps p.views p.sm p.hours [lot] [] [] [] []
theorem ajw{l:List ay}(hl:l.length<=1000000)(hn:4000002<=n):iter (iV true l) n 0=some (.inr true)\/(iter (iV true l) n 0=some (.inl ())/\∀v∈l,v.extra=false):=by
 obtain⟨o,h1,h2⟩:=eO (step:=iV true l) (λ i v=>v=i/\i<=l.length/\∀x∈l.take i,x.extra=false) (λ o=>o=.inr true\/(o=.inl ()/\∀v∈l,v.extra=false)) l.length (λ k v h=>h.2.1) (by
  rintro i v ⟨rfl,hi,hall⟩;by_cases hlt:i<l.length
  ·simp only[iV,show decide ((i:Int)<l.length)=true from by simp;omega,aj,aV hlt,bG hlt,ai,aX i];cases hv:l[i].extra with
   |true=>exact .inr ⟨_,rfl,.inl rfl⟩
   |false=>
    refine .inl ⟨_,rfl,rfl,hlt,λx hx=>?_⟩;rw[List.take_add_one,dm hlt,bL]at hx;rcases hx with hx|hx;exact hall x hx;simp at hx;subst hx;exact hv
  ·refine .inr ⟨.inl (),?_,.inr ⟨rfl,λv hv=>hall v (by rw[take_of_length_le (by omega)];exact hv)⟩⟩;simp only[iV,show decide ((i:Int)<l.length)=false from by simp;omega,au]) n 0 0 ⟨rfl,Nat.zero_le _,by simp⟩ (by omega)
 rcases h2 with rfl|⟨rfl,h2⟩;exact .inl h1;exact .inr ⟨h1,h2⟩
theorem NF(p:bT)(lot:iK)(d:aG)(l:List Int)(hz:alp (PT p lot)):qg 5000003 p lot d l=some true:=by
 have⟨b,hb,hb2⟩:=alB (n:=5000003) (t:=PT p lot) (d:=d) hz P3;have hb':M7 5000003 (fP.mk p.defs p.tables p.zones p.rules p.caps p.views p.sm p.hours (sub ([lot]:List iK) 0 1) [] [] [] []) d=some b:=hb;unfold qg;rw[amN,ai,show aE (sub ([lot]:List iK) 0 1).length 1=true from rfl];simp only[aj];rw[hb',ai];cases b with
 |false=>rfl
 |true=>
  have⟨ht,hd⟩:=hb2 rfl;rw[Bool.not_true,au];by_cases h10:(l.length:Int)>10
  ·rw[show decide ((l.length:Int)>10)=true by simpa using h10];rfl
  ·have ha:lot.area.length<=900:=(ht.lots lot (by simp[PT])).1;have J1:p.caps.length<=4000000:=ht.caps;obtain⟨b,hR,_⟩:=Z7 (n:=5000003) (p:=p) (lot:=lot) (d:=d) J1 ha hd.law.1 hd.law.2 (by decide);rw[show decide ((l.length:Int)>10)=false by simpa using h10,au,hR,ai];cases b with
   |false=>rfl
   |true=>
    obtain⟨bf,hF,hFv⟩:=TW (n:=5000003) hd.law.1 hd.law.2 (by decide);have hbf:bf=true:=by
     cases bf with
     |true=>rfl
     |false=>unfold eG at hR;rw[hF]at hR;cases hR
    subst hbf;have hv:=hFv rfl;obtain⟨f1,_⟩:=(P9 hd.law.1 hd.law.2 (by decide)).1 hF;have hC:=P8 (n:=5000003) (l:=l) hd.law.1 hd.law.2 hd.xd hF hFv (by decide);rw[Bool.not_true,ai,au,alu hd.law.1 (by decide),ai];rcases ajw (n:=5000003) (l:=b7 d) (by omega) (by decide)with h1|⟨h1,hex⟩
    ·rw[h1,kM]
    ·rw[h1,gF,hC,ai];unfold E3;cases hc1:(!true || decide (l.length≠(b7 d).length))with
     |true=>rfl
     |false=>
      rw[au];cases hq:P6 d.phases l with
      |none=>rfl
      |some q=>
       simp only;cases hz:(q.1.flatMap (·.az)).isEmpty with
       |true=>rfl
       |false=>
        have⟨q1,q2⟩:=NC d.phases l q hv hq;have⟨g1,g2⟩:=aem d.phases l q hq;have g1:ir (b7 d) (b7 (aG.mk d.lot q.1)) q.2:=g1;have hx:WS (aG.mk d.lot q.1):=(by refine⟨⟨by show q.1.length<=1000;rw[q1];exact hd.law.1.1,λp hp=>?_⟩,λp hp=>?_⟩;obtain⟨i,hi,rfl⟩:=mem_iff_getElem.1 hp;have h2:=q2 i hi (by rw[<- q1];exact hi);exact Nat.le_trans h2.1 (hd.law.1.2 _ (getElem_mem _));obtain⟨i,hi,rfl⟩:=mem_iff_getElem.1 hp;have h2:=q2 i hi (by rw[<- q1];exact hi);show(q.1[i]).gives.length<=1000;rw[h2.2];exact hd.law.2 _ (getElem_mem _));have hne:b7 (aG.mk d.lot q.1)≠[]:=λh=>(by have h:q.1.flatMap (·.az)=[]:=h;rw[h]at hz;cases hz);have hRx:=ajs ha hd.law.1 hd.law.2 hx.1 hx.2 rfl g2 g1 hne (by decide) hR;have hlen:=g1.len;have hok:∀v∈b7 (aG.mk d.lot q.1),okV v=true/\v.extra=false:=λw hw=>(by obtain⟨v,hm,k,hk,rfl⟩:=g1.mem w hw;exact⟨S5 (hv v hm) hk,by rw[(CJ v k).2.2.2.2];exact hex v hm⟩);have hok0:∀v∈b7 d,okV v=true/\v.extra=false:=λv hm=>⟨hv v hm,hex v hm⟩;have hrv:∀z:aG,(b7 z).length<=40->(∀ v∈b7 z,okV v=true/\v.extra=false)->gJ z=b7 z:=λz h1 h2=>(by unfold gJ;rw[take_of_length_le h1,List.filter_eq_self];exact λv hv=>(h2 v hv).1);have hsum:=g1.sum hok0;have s0:=KZ (b7 d) 0 hok0 (by omega) (by omega);have s1:=KZ (b7 (aG.mk d.lot q.1)) 0 hok (by omega) (by omega);have e0:R7 pR (b7 d)=Sb (b7 d):=(by unfold R7;rw[s0.1,Int.zero_add]);have e1:R7 pR (b7 (aG.mk d.lot q.1))=Sb (b7 (aG.mk d.lot q.1)):=(by unfold R7;rw[s1.1,Int.zero_add]);have htm:S8 5000003 p:=⟨by have:=ht.plan.tabs.1;have:p.tables.length<=4000000:=this;omega,by have:=ht.plan.tabs.1;have:p.tables.length<=4000000:=this;omega,λx hx=>by have:=ht.plan.tabs.2 x hx;omega⟩;have m0:jk 5000003 p lot d=_:=ali (d:=d) htm ha hd.law.1 (by decide) p.defs p.zones p.rules p.caps p.views p.sm p.hours;have m1:jk 5000003 p lot (aG.mk d.lot q.1)=_:=ali (d:=aG.mk d.lot q.1) htm ha hx.1 (by decide) p.defs p.zones p.rules p.caps p.views p.sm p.hours;simp only[au,show((0:Int) !=0)=false from rfl,m0,m1,ai,jq,aN,aj,agH _ _ _ (show 10<=5000003 by decide),hrv d f1.2.2.2.2.2 hok0,hrv (aG.mk d.lot q.1) (by omega) hok,hRx,e0,e1];rw[show decide (Sb (b7 d)>=(0:Int))=true by simp only[bF];omega,aj,aM (by omega) (by omega)];simp only[bM,beq_iff_eq];omega
theorem amQ(lot:iK):wX (List.map AB [lot])<=jV (AB lot)+10:=by simp[wX]
theorem Qb(q:HL xx.toSE [.st SI.i7,.st SI.Lot,.st SI.ga,.sl (.int .i64)])(hb:yq (HL.oE xx.toSE [.st SI.i7,.st SI.Lot,.st SI.ga,.sl (.int .i64)] q)<=1048576):∃k,qg k q.1 q.2.1 q.2.2.1 q.2.2.2.1=some true:=by have h2:jV (abm q.1)+(jV (AB q.2.1)+(jV (V5 q.2.2.1)+(_+0)))<=1048576:=hb;refine⟨5000003,NF q.1 q.2.1 q.2.2.1 q.2.2.2.1 (anY ?_)⟩;have h3:=amQ q.2.1;simp only[Ji,abm,PT,jV,oe,List.map_nil,wX]at h2 ⊢;omega
end Go.Proofs
