import Derived.Test.YtlkpmaaacgedkaaGreatS1
open Go.IntKind (i64)
open List (mem_map getElem_mem mem_iff_getElem append_nil length_nil take_of_length_le mem_filter pairwise_cons filter_append pairwise_append)
namespace Go.Proofs
open Go.Gb Go.RowKit
variable {n:Nat}
theorem TN{α:Type}{l:List α}{K n:Nat}{step:Int->Option (Int⊕(Unit⊕Bool))}{good:α->Prop}(h1:∀i (hi:i<l.length),i<K->step i=some (.inr (.inr false))\/(step i=some (.inl (i+1:Nat))/\good l[i]))
 (h2:∀i:Nat,(¬ i<l.length\/¬i<K)->step i=some (.inr (.inl ()))) (hn:K+1<n):iter step n 0=some (.inr false)\/(iter step n 0=some (.inl ())/\(l.length<=K->∀x∈l,good x)):=by obtain⟨o,g1,g2⟩:=eO (step:=step) (λ i v=>v=i/\i<=l.length/\i<=K/\∀x∈l.take i,good x) (λ o=>o=.inr false\/(o=.inl ()/\(l.length<=K->∀x∈l,good x))) K (λ k v h=>h.2.2.1) (by rintro i v ⟨rfl,hi,hK,hall⟩;by_cases hlt:i<l.length/\i<K;rcases h1 i hlt.1 hlt.2 with h|⟨h,hg⟩;exact .inr ⟨_,h,.inl rfl⟩;refine .inl ⟨_,h,rfl,hlt.1,hlt.2,λx hx=>?_⟩;rw[List.take_add_one,dD hlt.1,bK]at hx;rcases hx with hx|hx;exact hall x hx;simp at hx;subst hx;exact hg;refine .inr ⟨_,h2 i (by omega),.inr ⟨rfl,λhl x hx=>hall x ?_⟩⟩;rw[take_of_length_le (by omega)];exact hx) n 0 0 ⟨rfl,Nat.zero_le _,Nat.zero_le _,by simp⟩ (by omega);rcases g2 with rfl|⟨rfl,g2⟩;exact .inl g1;exact .inr ⟨g1,g2⟩
def WtR(l:List cu):Prop:=∀r∈l,(toE (li r)).wt<=4000000
structure R0(t:fM):Prop where
 defs:gj t.ci
 rules:WtR t.bm
 zE:∀l∈t.land,l.from_.length*8<=140737488355328
theorem Iu(i len K:Nat){k:Int}(hk:k=K):((bif (decide ((i:Int)<(len:Nat)))then some (decide (i<k))else some false):Option Bool)=some (decide (i<len/\i<K)):=by subst hk;by_cases h1:i<len<;>by_cases h2:i<K<;>simp[h1]
structure aou(t:fM)(d:aG):Prop where
 town:WI t
 draw:Ym d
 built:t.built.length<=8
 rules:t.bm.length<=6
 zones:∀z∈t.b9,z.corners.length<=12
 caps:∀c∈t.cj,c.corners.length<=12/\t.cj.length<=3
theorem Yo:Yn 5000003:=⟨ax _,by omega⟩
theorem oJ{α:Type}{d U V:List α}{x:α}{k:Nat}(h:d=U++x::V)(hk:k=U.length):d[k]? =some x:=by subst h;subst hk;simp
theorem vJ{α:Type}{d U V:List α}{x y:α}{k:Nat}(h:d=U++x::V)(hk:k=U.length):d.set k y=U++y::V:=by subst h;subst hk;simp
theorem PQ(k:Nat):(((0:Nat):Int)+(k:Nat)).toNat=k:=by simp
theorem EV{a b:Nat}(h:a+b<4611686018427387904):i64.wrap ((a:Nat)+(b:Nat))=(a+b:Nat):=by rw[aO (by omega) (by omega)];omega
def cR(r l:List aC):Prop:=∀c:Int,r.filter (λ x=>x.cost==c)=l.filter λx=>x.cost==c
theorem cR.refl l:cR l l:=λ_=>rfl
theorem cR.trans{a b c:List aC}(h:cR a b)(h':cR b c):cR a c:=λx=>(h x).trans (h' x)
theorem cR.app{a b c d:List aC}(h:cR a b)(h':cR c d):cR (a++c) (b++d):=λx=>by simp[h x,h' x]
theorem cR.mem{a b:List aC}(h:cR a b)(x:aC):x∈a↔x∈b:=by
 constructor<;>intro hx;have:x∈a.filter λy=>y.cost==x.cost:=by simp[hx]
 rw[h]at this;exact(mem_filter.1 this).1;have:x∈b.filter λy=>y.cost==x.cost:=by simp[hx]
 rw[<- h]at this;exact(mem_filter.1 this).1
theorem cR.swap{u v:List aC}(h:∀x∈u,∀y∈v,y.cost<x.cost):cR (v++u) (u++v):=by
 intro c;simp;by_cases hu:∃x∈u,x.cost=c;obtain⟨x,hx,rfl⟩:=hu;have:v.filter (λ y=>y.cost==x.cost)=[]:=by rw[List.filter_eq_nil_iff];intro y hy;have:=h x hx y hy;simp;omega
 rw[this];simp;have:u.filter (λ y=>y.cost==c)=[]:=by rw[List.filter_eq_nil_iff];intro y hy e;exact hu ⟨y,hy,by simpa using e⟩
 rw[this];simp
def kA(l:List aC):Prop:=l.Pairwise λa b=>a.cost<=b.cost
section
variable {φ:(aC×aC×Unit)->Option Int}
theorem Ku:∀(A2 B2 P A1 M B1 Q:List aC) a0 (fuel:Nat),A1.length=B1.length->A2.length=B2.length->a0.length=P.length+(A1.length+A2.length)+M.length+(A1.length+A2.length)+Q.length->a0.length<1099511627776->A2.length<fuel->
 iter (fe a0 (P.length:Nat) (P.length+(A1.length+A2.length)+M.length:Nat) (A1.length+A2.length:Nat)) fuel ((A1.length:Nat),P++(B1++(A2++(M++(A1++(B2++Q))))))=some (P++((B1++B2)++(M++((A1++A2)++Q))))
 |[],B2,P,A1,M,B1,Q,a0,fuel,h1,h2,h3,h4,h5=>by obtain⟨f,rfl⟩:∃f,fuel=f+1:=⟨fuel-1,by omega⟩;have:B2=[]:=List.eq_nil_of_length_eq_zero h2.symm;subst this;refine bW ?_;simp[fe]
 |x::A2,B2,P,A1,M,B1,Q,a0,fuel,h1,h2,h3,h4,h5=>by
  obtain⟨f,rfl⟩:∃f,fuel=f+1:=⟨fuel-1,by omega⟩;obtain⟨y,B2,rfl⟩:∃y B,B2=y::B:=by
   cases B2 with
   |nil=>simp at h2
   |cons y B=>exact⟨y,B,rfl⟩
  simp at h2 h3 h5;have d1:decide ((A1.length:Int)<(A1.length+(x::A2).length:Nat))=true:=by simp<;>omega
  have w1:i64.wrap ((P.length+(A1.length+(x::A2).length)+M.length:Nat)+(A1.length:Nat))=(P.length+(A1.length+(x::A2).length)+M.length+A1.length:Nat):=EV (by simp<;>omega);have w2:i64.wrap ((P.length:Nat)+(A1.length:Nat))=(P.length+A1.length:Nat):=EV (by omega);have w3:i64.wrap ((A1.length:Nat)+1)=((A1++[x]).length:Nat):=by rw[aQ (by omega)];simp
  have i1:co (P.length+(A1.length+(x::A2).length)+M.length+A1.length:Nat) a0.length=true:=aW (by simp<;>omega);have i2:co (P.length+A1.length:Nat) a0.length=true:=aW (by omega);have g1:(P++(B1++(x::A2++(M++(A1++(y::B2++Q))))))[P.length+(A1.length+(x::A2).length)+M.length+A1.length]? =some y:=oJ (U:=P++(B1++(x::A2++(M++A1)))) (V:=B2++Q) (by simp) (by simp<;>omega);have g2:(P++(B1++(x::A2++(M++(A1++(y::B2++Q))))))[P.length+A1.length]? =some x:=oJ (U:=P++B1) (V:=A2++(M++(A1++(y::B2++Q)))) (by simp) (by simp<;>omega);have s1:(P++(B1++(x::A2++(M++(A1++(y::B2++Q)))))).set (P.length+A1.length) y=(P++B1)++y::(A2++(M++(A1++(y::B2++Q)))):=vJ (U:=P++B1) (V:=A2++(M++(A1++(y::B2++Q)))) (x:=x) (by simp) (by simp<;>omega);have g3:((P++B1)++y::(A2++(M++(A1++(y::B2++Q)))))[P.length+(A1.length+(x::A2).length)+M.length+A1.length]? =some y:=oJ (U:=P++(B1++(y::A2++(M++A1)))) (V:=B2++Q) (by simp) (by simp<;>omega);have s2:((P++B1)++y::(A2++(M++(A1++(y::B2++Q))))).set (P.length+(A1.length+(x::A2).length)+M.length+A1.length) x=(P++(B1++(y::A2++(M++A1))))++x::(B2++Q):=vJ (U:=P++(B1++(y::A2++(M++A1)))) (V:=B2++Q) (x:=y) (by simp) (by simp<;>omega)
  have step:fe a0 (P.length:Nat) (P.length+(A1.length+(x::A2).length)+M.length:Nat) (A1.length+(x::A2).length:Nat) ((A1.length:Nat),P++(B1++(x::A2++(M++(A1++(y::B2++Q))))))=
   some (.inl (((A1++[x]).length:Nat),P++((B1++[y])++(A2++(M++((A1++[x])++(B2++Q))))))):=by simp only[fe,d1,aj,w1,w2,w3,i1,i2,oM,g1,g2,ai,PQ,s1,g3,s2];simp
  rw[dI step];have:=Ku A2 B2 P (A1++[x]) M (B1++[y]) Q a0 f (by simp[h1]) h2 (by simp<;>omega) h4 (by omega);have e1:(A1++[x]).length+A2.length=A1.length+(x::A2).length:=by simp<;>omega
  rw[e1]at this;rw[this];simp
theorem EN(P A M B Q:List aC)(h:A.length=B.length)(hl:(P++(A++(M++(B++Q)))).length<1099511627776)(hn:A.length<n){a b k:Int}(ha:a=(P.length:Nat))(hb:b=(P.length+A.length+M.length:Nat))(hk:k=(A.length:Nat)):
 dN n (P++(A++(M++(B++Q)))) a b k φ=some (P++(B++(M++(A++Q)))):=by subst ha hb hk;have:=Ku A B P [] M [] Q (P++(A++(M++(B++Q)))) n rfl h (by simp<;>omega) hl hn;simp only[length_nil,Nat.zero_add,fJ]at this;unfold dN;have e:((0:Nat):Int)=0:=rfl;rw[e]at this;rw[this];rfl
theorem KU:∀(w:Nat) (P A B Q:List aC) a0 (fuel:Nat),A.length+B.length<=w->0<A.length->0<B.length->a0.length=(P++(A++(B++Q))).length->a0.length<1099511627776->a0.length<n->w<fuel->
 (iter (dO n a0 (P.length+A.length:Nat) φ) fuel ((A.length:Nat),(B.length:Nat),P++(A++(B++Q)))).bind (λ (w1,w2)=>ck (aE a0.length w2.length) ((dN n w2 (i64.wrap ((P.length+A.length:Nat)-w1)) (P.length+A.length:Nat) w1 φ).bind λr3=>some r3))=some (P++(B++(A++Q)))
 | 0,P,A,B,Q,a0,fuel,h1,h2,h3,h4,h5,h6,h7=>by omega
 |w+1,P,A,B,Q,a0,fuel,h1,h2,h3,h4,h5,h6,h7=>by
  obtain⟨f,rfl⟩:∃f,fuel=f+1:=⟨fuel-1,by omega⟩;simp at h4;rcases Nat.lt_trichotomy A.length B.length with hlt|heq|hgt;obtain⟨B1,B2,rfl,hB2⟩:∃B1 B2,B=B1++B2/\B2.length=A.length:=⟨B.take (B.length-A.length),B.drop (B.length-A.length),by simp,by simp<;>omega⟩;simp at h1 h3 h4 hlt;have sw:=EN (φ:=φ) (n:=n) P A B1 B2 Q hB2.symm (by simp<;>omega) (by omega) (a:=((P.length+A.length:Nat)-(A.length:Nat))) (b:=(P.length+A.length+B1.length:Nat)) (k:=(A.length:Nat)) (by omega) rfl rfl;have step:dO n a0 (P.length+A.length:Nat) φ ((A.length:Nat),((B1++B2).length:Nat),P++(A++(B1++B2++Q)))=some (.inl ((A.length:Nat),(B1.length:Nat),P++(B2++(B1++(A++Q))))):=by have d1:((A.length:Int) !=((B1++B2).length:Nat))=true:=(by simp<;>omega);have d2:decide ((A.length:Int)>((B1++B2).length:Nat))=false:=(by simp<;>omega);have e1:aE a0.length (P++(A++(B1++B2++Q))).length=true:=qw (by simp<;>omega);have w1:i64.wrap ((P.length+A.length:Nat)-(A.length:Nat))=(P.length+A.length:Nat)-(A.length:Nat):=aO (by omega) (by omega);have w2:i64.wrap (i64.wrap ((P.length+A.length:Nat)+((B1++B2).length:Nat))-(A.length:Nat))=(P.length+A.length+B1.length:Nat):=(by rw[aO (x:=(P.length+A.length:Nat)+((B1++B2).length:Nat)) (by simp<;>omega) (by simp<;>omega),aO (by simp<;>omega) (by simp<;>omega)];simp<;>omega);have w3:i64.wrap (((B1++B2).length:Nat)-(A.length:Nat))=(B1.length:Nat):=(by rw[aO (by simp<;>omega) (by simp<;>omega)];simp<;>omega);have e2:P++(A++(B1++B2++Q))=P++(A++(B1++(B2++Q))):=(by simp);simp only[dO,d1,d2,e1,aj,ay,w1,w2,w3];rw[e2,sw];rfl
  rw[dI step];have ih:=KU w P B2 B1 (A++Q) a0 f (by omega) (by omega) (by omega) (by simp<;>omega) h5 h6 (by omega);rw[hB2]at ih;rw[ih];simp;refine(congrArg (λ o=>Option.bind o _) (bW (o:=((A.length:Int),P++(A++(B++Q)))) ?_)).trans ?_;simp[dO,heq];have sw:=EN (φ:=φ) (n:=n) P A [] B Q heq (by simp<;>omega) (by omega) (a:=((P.length+A.length:Nat)-(A.length:Nat))) (b:=(P.length+A.length:Nat)) (k:=(A.length:Nat)) (by omega) (by simp) rfl;have w1:i64.wrap ((P.length+A.length:Nat)-(A.length:Nat))=(P.length+A.length:Nat)-(A.length:Nat):=aO (by omega) (by omega);have e1:aE a0.length (P++(A++(B++Q))).length=true:=qw (by simp<;>omega);simp only[ai,e1,aj,w1];simp only[fJ]at sw;rw[sw];rfl;obtain⟨A1,A2,rfl,hA1⟩:∃A1 A2,A=A1++A2/\A1.length=B.length:=⟨A.take B.length,A.drop B.length,by simp,by simp<;>omega⟩;simp at h1 h2 h4 hgt;have sw:=EN (φ:=φ) (n:=n) P A1 A2 B Q hA1 (by simp<;>omega) (by omega) (a:=((P.length+(A1++A2).length:Nat)-((A1++A2).length:Nat))) (b:=(P.length+(A1++A2).length:Nat)) (k:=(B.length:Nat)) (by simp<;>omega) (by simp<;>omega) (by rw[hA1]);have step:dO n a0 (P.length+(A1++A2).length:Nat) φ (((A1++A2).length:Nat),(B.length:Nat),P++(A1++A2++(B++Q)))=some (.inl ((A2.length:Nat),(B.length:Nat),P++(B++(A2++(A1++Q))))):=by have d1:((((A1++A2).length:Nat):Int) !=(B.length:Nat))=true:=(by simp<;>omega);have d2:decide ((((A1++A2).length:Nat):Int)>(B.length:Nat))=true:=(by simp<;>omega);have e1:aE a0.length (P++(A1++A2++(B++Q))).length=true:=qw (by simp<;>omega);have w1:i64.wrap ((P.length+(A1++A2).length:Nat)-((A1++A2).length:Nat))=(P.length+(A1++A2).length:Nat)-((A1++A2).length:Nat):=aO (by simp<;>omega) (by simp<;>omega);have w3:i64.wrap (((A1++A2).length:Nat)-(B.length:Nat))=(A2.length:Nat):=(by rw[aO (by simp<;>omega) (by simp<;>omega)];simp<;>omega);have e2:P++(A1++A2++(B++Q))=P++(A1++(A2++(B++Q))):=(by simp);simp only[dO,d1,d2,e1,aj,w1,w3];rw[e2,sw];rfl
  rw[dI step];have ih:=KU w (P++B) A2 A1 Q a0 f (by omega) (by omega) (by omega) (by simp<;>omega) h5 h6 (by omega);have e3:(P++B).length+A2.length=P.length+(A1++A2).length:=by simp<;>omega
  rw[e3,hA1]at ih;simp at ih ⊢;rw[ih]
theorem ajg(P A B Q:List aC)(hA:0<A.length)(hB:0<B.length)(hl:(P++(A++(B++Q))).length<1099511627776)(hn:(P++(A++(B++Q))).length<n){a m b:Int}(ha:a=(P.length:Nat))(hm:m=(P.length+A.length:Nat))(hb:b=(P.length+A.length+B.length:Nat)):
 gY n (P++(A++(B++Q))) a m b φ=some (P++(B++(A++Q))):=by
 subst ha hm hb;have:=KU (φ:=φ) (n:=n) (A.length+B.length) P A B Q (P++(A++(B++Q))) n (ax _) hA hB rfl hl hn (by simp at hn;omega);unfold gY;simp at hl;have w1:i64.wrap ((P.length+A.length:Nat)-(P.length:Nat))=(A.length:Nat):=by rw[aO (by omega) (by omega)];omega
 have w2:i64.wrap ((P.length+A.length+B.length:Nat)-(P.length+A.length:Nat))=(B.length:Nat):=by rw[aO (by omega) (by omega)];omega
 rw[w1,w2];exact this
theorem My{a b:Nat}(h:a+b<4611686018427387904):i64.wrap ((IntKind.u64.wrap (i64.wrap ((a:Nat)+(b:Nat))))/2 ^ (1:Int).toNat)=((a+b)/2:Nat):=by rw[EV h,Zy (by omega)];show i64.wrap ((a+b:Nat)/2 ^ 1)=_;rw[aO (by omega) (by omega)];omega
theorem N2{step:(Int×Int)->Option ((Int×Int)⊕Int)}{p:Nat->Bool}{lo hi:Nat}(hstep:∀i j:Nat,lo<=i->i<j->j<=hi->step (i,j)=some (bif p ((i+j)/2)then .inl (((i+j)/2+1:Nat),j)else .inl (i,((i+j)/2:Nat))))
 (hend:∀i:Nat,step (i,i)=some (.inr i)) (mono:∀x y:Nat,lo<=x->x<=y->y<hi->p y=true->p x=true):∀(fuel i j:Nat),lo<=i->i<=j->j<=hi->j-i<fuel->(∀ x,lo<=x->x<i->p x=true)->(∀ x,j<=x->x<hi->p x=false)->
  ∃r:Nat,iter step fuel (i,j)=some (r:Int)/\lo<=r/\r<=hi/\(∀ x,lo<=x->x<r->p x=true)/\∀x,r<=x->x<hi->p x=false
 | 0,_,_,_,_,_,h,_,_=>by omega
 |f+1,i,j,h1,h2,h3,h4,h5,h6=>by
  by_cases hij:i=j;subst hij;exact⟨i,bW (hend i),h1,h3,h5,h6⟩;have hs:=hstep i j h1 (by omega) h3;cases hp:p ((i+j)/2)with
  |true=>
   rw[hp]at hs;rw[dI hs];exact N2 hstep hend mono f ((i+j)/2+1) j (by omega) (by omega) h3 (by omega) (λ x hx hx2=>mono x ((i+j)/2) hx (by omega) (by omega) hp) h6
  |false=>
   rw[hp]at hs;rw[dI hs];refine N2 hstep hend mono f i ((i+j)/2) h1 (by omega) (by omega) (by omega) h5 λx hx hx2=>?_;cases hq:p x with
   |false=>rfl
   |true=>rw[mono ((i+j)/2) x (by omega) hx hx2 hq]at hp;cases hp
theorem kA.le{l:List aC}(h:kA l){i j:Nat}(hij:i<=j)(hj:j<l.length):l[i].cost<=l[j].cost:=by
 rcases Nat.lt_or_ge i j with hlt|hge;exact List.pairwise_iff_getElem.1 h i j (by omega) hj hlt;have:i=j:=by omega
 subst this;exact Int.le_refl _
theorem ahT:∀(R P Q:List aC) (x:aC) a0 (fuel:Nat),a0.length=P.length+1+R.length+Q.length->a0.length<1099511627776->R.length<fuel->
 iter (fE a0 (P.length+R.length+1:Nat)) fuel ((P.length:Nat),P++x::(R++Q))=some (P++(R++x::Q))
 |[],P,Q,x,a0,fuel,h1,h2,h3=>by
  obtain⟨f,rfl⟩:∃f,fuel=f+1:=⟨fuel-1,by omega⟩;refine bW ?_;have w:i64.wrap ((P.length+([]:List aC).length+1:Nat)-1)=(P.length:Nat):=by rw[aO (by simp<;>omega) (by simp<;>omega)];simp
  simp only[fE,w];simp
 |y::R,P,Q,x,a0,fuel,h1,h2,h3=>by
  obtain⟨f,rfl⟩:∃f,fuel=f+1:=⟨fuel-1,by omega⟩;simp at h1 h3;have w:i64.wrap ((P.length+(y::R).length+1:Nat)-1)=(P.length+(y::R).length:Nat):=by rw[aO (by simp<;>omega) (by simp<;>omega)];simp<;>omega
  have d1:decide ((P.length:Int)<(P.length+(y::R).length:Nat))=true:=by simp<;>omega
  have w1:i64.wrap ((P.length:Nat)+1)=(P.length+1:Nat):=aQ (by omega);have i1:co (P.length+1:Nat) a0.length=true:=aW (by omega);have i2:co (P.length:Nat) a0.length=true:=aW (by omega);have g1:(P++x::(y::R++Q))[P.length+1]? =some y:=oJ (U:=P++[x]) (V:=R++Q) (by simp) (by simp);have g2:(P++x::(y::R++Q))[P.length]? =some x:=oJ (U:=P) rfl rfl;have s1:(P++x::(y::R++Q)).set P.length y=P++y::(y::R++Q):=vJ rfl rfl;have g3:(P++y::(y::R++Q))[P.length+1]? =some y:=oJ (U:=P++[y]) (V:=R++Q) (by simp) (by simp);have s2:(P++y::(y::R++Q)).set (P.length+1) x=(P++[y])++x::(R++Q):=vJ (U:=P++[y]) (V:=R++Q) (x:=y) (by simp) (by simp);have step:fE a0 (P.length+(y::R).length+1:Nat) ((P.length:Nat),P++x::(y::R++Q))=some (.inl (((P++[y]).length:Nat),(P++[y])++x::(R++Q))):=by simp only[fE,w,d1,aj,w1,i1,i2,oM,g1,g2,ai,PQ,s1,g3,s2];simp
  rw[dI step];have:=ahT R (P++[y]) Q x a0 f (by simp<;>omega) h2 (by omega);have e:(P++[y]).length+R.length+1=P.length+(y::R).length+1:=by simp<;>omega
  rw[e]at this;rw[this];simp
theorem ahU:∀(L:List aC) (P Q:List aC) (x:aC) a0 (fuel:Nat),a0.length=P.length+1+L.length+Q.length->a0.length<1099511627776->L.length<fuel->
 iter (fF a0 (P.length:Nat)) fuel ((P.length+L.length:Nat),P++(L.reverse++x::Q))=some (P++x::(L.reverse++Q))
 |[],P,Q,x,a0,fuel,h1,h2,h3=>by obtain⟨f,rfl⟩:∃f,fuel=f+1:=⟨fuel-1,by omega⟩;refine bW ?_;simp[fF]
 |y::L,P,Q,x,a0,fuel,h1,h2,h3=>by
  obtain⟨f,rfl⟩:∃f,fuel=f+1:=⟨fuel-1,by omega⟩;simp at h1 h3;have d1:decide (((P.length+(y::L).length:Nat):Int)>(P.length:Nat))=true:=by simp<;>omega
  have w1:i64.wrap ((P.length+(y::L).length:Nat)-1)=(P.length+L.length:Nat):=by rw[aO (by simp<;>omega) (by simp<;>omega)];simp<;>omega
  have i1:co (P.length+L.length:Nat) a0.length=true:=aW (by omega);have i2:co (P.length+(y::L).length:Nat) a0.length=true:=aW (by simp<;>omega);have g1:(P++((y::L).reverse++x::Q))[P.length+L.length]? =some y:=oJ (U:=P++L.reverse) (V:=x::Q) (by simp) (by simp);have g2:(P++((y::L).reverse++x::Q))[P.length+(y::L).length]? =some x:=oJ (U:=P++(y::L).reverse) (V:=Q) (by simp) (by simp);have s1:(P++((y::L).reverse++x::Q)).set (P.length+(y::L).length) y=(P++(y::L).reverse)++y::Q:=vJ (U:=P++(y::L).reverse) (V:=Q) (x:=x) (by simp) (by simp);have g3:((P++(y::L).reverse)++y::Q)[P.length+L.length]? =some y:=oJ (U:=P++L.reverse) (V:=y::Q) (by simp) (by simp);have s2:((P++(y::L).reverse)++y::Q).set (P.length+L.length) x=(P++L.reverse)++x::(y::Q):=vJ (U:=P++L.reverse) (V:=y::Q) (x:=y) (by simp) (by simp);have step:fF a0 (P.length:Nat) ((P.length+(y::L).length:Nat),P++((y::L).reverse++x::Q))=some (.inl ((P.length+L.length:Nat),P++(L.reverse++x::(y::Q)))):=by simp only[fF,d1,aj,w1,i1,i2,oM,g1,g2,ai,PQ,s1,g3,s2];simp
  rw[dI step];have:=ahU L P (y::Q) x a0 f (by simp<;>omega) h2 (by omega);rw[this];simp
def Fg(d:List aC)(k:Nat):Int:=(d[k]?.elim 0 λx=>x.cost)
theorem Jy{d U V W:List aC}{t:Nat}(h:d=U++(V++W))(ht:t<V.length):d[U.length+t]? =some V[t]/\Fg d (U.length+t)=V[t].cost:=by
 have:d[U.length+t]? =some V[t]:=by subst h;rw[oK (by omega),List.getElem?_append_left (by omega)];simp
 exact⟨this,by simp[Fg,this]⟩
theorem EO{d:List aC}{k:Nat}(h:k<d.length):∃x,d[k]? =some x/\Fg d k=x.cost:=⟨d[k],by simp,by simp[Fg,h]⟩
theorem abw{a b:List aC}(ha:kA a)(hb:kA b)(h:∀x∈a,∀y∈b,x.cost<=y.cost):kA (a++b):=pairwise_append.2 ⟨ha,hb,h⟩
theorem CP{a b:List aC}(h:kA (a++b)):kA a:=(pairwise_append.1 h).1
theorem xY{a b:List aC}(h:kA (a++b)):kA b:=(pairwise_append.1 h).2.1
theorem Nq{a b:List aC}(h:kA (a++b)):∀x∈a,∀y∈b,x.cost<=y.cost:=(pairwise_append.1 h).2.2
theorem PP:(decide (0<=1)&&decide (1<=IntKind.u64.bits))=true:=by decide
def tB(x y:aC):Bool:=decide (x.cost<y.cost)
theorem Rs(x:aC):∀ys:List aC,cR (fP tB x ys).reverse (ys.reverse++[x])
 |[]=>cR.refl _
 |y::ys=>by
  simp[fP];cases h:tB x y with
  |true=>
   simp;have:=(Rs x ys).app (cR.refl [y]);refine this.trans ?_;simp;exact(cR.refl _).app (cR.swap (u:=[y]) (v:=[x]) λa ha b hb=>by rw[bn.1 ha,bn.1 hb];exact of_decide_eq_true h)
  |false=>simp;exact cR.refl _
theorem WL(x:aC):∀ys:List aC,ys.Pairwise (λ a b=>b.cost<=a.cost)->(fP tB x ys).Pairwise λa b=>b.cost<=a.cost
 |[],_=>by simp[fP]
 |y::ys,h=>by
  rw[pairwise_cons]at h;simp[fP];cases hx:tB x y with
  |true=>
   have hxy:x.cost<y.cost:=of_decide_eq_true hx;simp;refine⟨λ z hz=>?_,WL x ys h.2⟩;rcases (Ed x z ys).1 hz with rfl|hz;exact Int.le_of_lt hxy;exact h.1 z hz
  |false=>
   have hxy:¬x.cost<y.cost:=of_decide_eq_false hx;simp only[ay,pairwise_cons,aR];refine⟨λ z hz=>?_,h⟩;rcases hz with rfl|hz;omega;have:=h.1 z hz;omega
inductive Ch(bs:Nat):List aC->Prop
 |last {l:List aC}:kA l->l.length<=bs->Ch bs l
 |cons {b l:List aC}:kA b->b.length=bs->Ch bs l->Ch bs (b++l)
theorem Ch.xj{bs:Nat}{l:List aC}(h:Ch bs l)(hl:l.length<=bs)(_:0<bs):kA l:=by
 cases h with
 |last h1 h2=>exact h1
 | @cons b l h1 h2 h3=>
  simp at hl;have:l=[]:=List.eq_nil_of_length_eq_zero (by omega);rw[this];simpa using h1
variable (hφ:∀x y:aC,∃c,φ (x,y,())=some c/\(c<0↔x.cost<y.cost))
include hφ
theorem aop{rc}(P R Q:List aC)(x:aC)(hR:kA R)(hl:(P++(x::(R++Q))).length<1099511627776)(hn:(P++(x::(R++Q))).length<n):
 ∃M,dh n rc (P++(x::(R++Q))) (P.length:Nat) (P.length+1:Nat) (P.length+1+R.length:Nat) φ=some (P++(M++Q))/\M.length=1+R.length/\kA M/\cR M ([x]++R):=by
 obtain⟨d,hd⟩:∃d,P++(x::(R++Q))=d:=⟨_,rfl⟩;have hdl:d.length=P.length+1+R.length+Q.length:=by rw[<- hd];simp<;>omega
 rw[hd]at hl hn ⊢;have hx:d[P.length]? =some x:=oJ hd.symm rfl;have hkey:∀k,(hk0:P.length+1<=k)->(hk:k<P.length+1+R.length)->Fg d k=(R[k-(P.length+1)]'(by omega)).cost:=λk h1 h2=>by have:=(Jy (d:=d) (U:=P++[x]) (V:=R) (W:=Q) (t:=k-(P.length+1)) (by rw[<- hd];simp) (by omega)).2;rw[<- this];congr 1;simp<;>omega
 obtain⟨r,hr,r1,r2,r3,r4⟩:=N2 (step:=gP d (P.length:Nat) φ) (p:=λk=>decide (Fg d k<x.cost)) (lo:=P.length+1) (hi:=P.length+1+R.length) (λ i j h1 h2 h3=>by
  obtain⟨z,hz,H2⟩:=EO (d:=d) (k:=(i+j)/2) (by omega);have d1:decide ((i:Int)<j)=true:=by simp<;>omega
  have i1:co ((i+j)/2:Nat) d.length=true:=aW (by omega);have i2:co (P.length:Nat) d.length=true:=aW (by omega);have⟨c,c1,c2⟩:=hφ z x;simp only[gP,d1,aj,PP,My (show i+j<4611686018427387904 by omega),i1,i2,oM,hz,hx,ai,c1];rw[H2,aQ (by omega)];by_cases hc:c<0;simp[hc,c2.1 hc];have hc':¬z.cost<x.cost:=λh=>hc (c2.2 h);simp[hc,hc']) (λ i=>by simp[gP]) (λ a b h1 h2 h3 h4=>by simp at h4 ⊢;rw[hkey a h1 (by omega)];rw[hkey b (by omega) h3]at h4;have:=hR.le (i:=a-(P.length+1)) (j:=b-(P.length+1)) (by omega) (by omega);omega) n (P.length+1) (P.length+1+R.length) (ax _) (by omega) (ax _) (by omega) (λ _ h1 h2=>by omega) (λ _ h1 h2=>by omega)
 obtain⟨R1,R2,m9,hR1⟩:∃R1 R2,R=R1++R2/\R1.length=r-(P.length+1):=⟨R.take (r-(P.length+1)),R.drop (r-(P.length+1)),by simp,by simp<;>omega⟩;have hf:=ahT R1 P (R2++Q) x d n (by rw[hdl,m9];simp<;>omega) hl (by omega);have e1:P.length+R1.length+1=r:=by omega
 have e2:P++x::(R1++(R2++Q))=d:=by rw[<- hd,m9];simp
 rw[e1,e2]at hf;have hlt:∀y∈R1,y.cost<x.cost:=λy hy=>by
  obtain⟨k,hk,rfl⟩:=mem_iff_getElem.1 hy;have:=r3 (P.length+1+k) (by omega) (by omega);simp at this;rw[hkey _ (by omega) (by omega)]at this;simp[m9]at this
  rwa [List.getElem_append_left hk]at this
 have hge:∀y∈R2,x.cost<=y.cost:=λy hy=>by
  obtain⟨k,hk,rfl⟩:=mem_iff_getElem.1 hy;have hlen:R.length=R1.length+R2.length:=by rw[m9];simp
  have:=r4 (r+k) (by omega) (by omega);simp at this;rw[hkey _ (by omega) (by omega)]at this;have e:r+k-(P.length+1)=R1.length+k:=by omega
  simp only[e,m9]at this;rw[List.getElem_append_right (by omega)]at this;simp at this;omega
 refine⟨R1++x::R2,?_,by rw[m9];simp<;>omega,?_,?_⟩;have c1:(i64.wrap ((P.length+1:Nat)-(P.length:Nat))==1)=true:=by rw[aO (by omega) (by omega)];simp<;>omega
 unfold dh;rw[c1,aj,hr];simp only[ai];rw[hf];simp;rw[m9]at hR;refine abw (CP hR) (pairwise_cons.2 ⟨hge,xY hR⟩) λy hy z hz=>?_;rcases aR.1 hz with rfl|hz;exact Int.le_of_lt (hlt y hy);exact Nq hR y hy z hz;have:=(cR.swap (u:=[x]) (v:=R1) λa ha b hb=>by rw[bn.1 ha];exact hlt b hb).app (cR.refl R2);rw[m9];simpa using this
theorem aoq{rc}(P L Q:List aC)(y:aC)(hL:kA L)(hL1:1<L.length)(hl:(P++(L++y::Q)).length<1099511627776)(hn:(P++(L++y::Q)).length<n):
 ∃M,dh n rc (P++(L++y::Q)) (P.length:Nat) (P.length+L.length:Nat) (P.length+L.length+1:Nat) φ=some (P++(M++Q))/\M.length=L.length+1/\kA M/\cR M (L++[y]):=by
 obtain⟨d,hd⟩:∃d,P++(L++y::Q)=d:=⟨_,rfl⟩;have hdl:d.length=P.length+L.length+1+Q.length:=by rw[<- hd];simp<;>omega
 rw[hd]at hl hn ⊢;have hy:d[P.length+L.length]? =some y:=oJ (U:=P++L) (V:=Q) (by rw[<- hd];simp) (by simp);have hkey:∀k,(hk0:P.length<=k)->(hk:k<P.length+L.length)->Fg d k=(L[k-P.length]'(by omega)).cost:=λk h1 h2=>by have:=(Jy (d:=d) (U:=P) (V:=L) (W:=y::Q) (t:=k-P.length) hd.symm (by omega)).2;rw[<- this];congr 1;omega
 obtain⟨r,hr,r1,r2,r3,r4⟩:=N2 (step:=gQ d (P.length+L.length:Nat) φ) (p:=λk=>decide (Fg d k<=y.cost)) (lo:=P.length) (hi:=P.length+L.length) (λ i j h1 h2 h3=>by
  obtain⟨z,hz,H2⟩:=EO (d:=d) (k:=(i+j)/2) (by omega);have d1:decide ((i:Int)<j)=true:=by simp<;>omega
  have i1:co ((i+j)/2:Nat) d.length=true:=aW (by omega);have i2:co (P.length+L.length:Nat) d.length=true:=aW (by omega);have⟨c,c1,c2⟩:=hφ y z;simp only[gQ,d1,aj,PP,My (show i+j<4611686018427387904 by omega),i1,i2,oM,hz,hy,ai,c1];rw[H2,aQ (by omega)];by_cases hc:c<0;have:=c2.1 hc;simp[hc,show ¬z.cost<=y.cost by omega];have:¬y.cost<z.cost:=λh=>hc (c2.2 h);simp[hc,show z.cost<=y.cost by omega]) (λ i=>by simp[gQ]) (λ a b h1 h2 h3 h4=>by simp at h4 ⊢;rw[hkey a h1 (by omega)];rw[hkey b (by omega) h3]at h4;have:=hL.le (i:=a-P.length) (j:=b-P.length) (by omega) (by omega);omega) n P.length (P.length+L.length) (ax _) (by omega) (ax _) (by omega) (λ _ h1 h2=>by omega) (λ _ h1 h2=>by omega)
 obtain⟨L1,L2,pg,hLl⟩:∃L1 L2,L=L1++L2/\L1.length=r-P.length:=⟨L.take (r-P.length),L.drop (r-P.length),by simp,by simp<;>omega⟩;have hlen:L.length=L1.length+L2.length:=by rw[pg];simp
 have hf:=ahU L2.reverse (P++L1) Q y d n (by rw[hdl];simp<;>omega) hl (by simp<;>omega);have e1:(P++L1).length=r:=by simp<;>omega
 have e2:(P++L1)++(L2.reverse.reverse++y::Q)=d:=by rw[<- hd,pg];simp
 rw[e1,e2]at hf;have e3:r+L2.reverse.length=P.length+L.length:=by simp<;>omega
 rw[e3]at hf;have hle:∀z∈L1,z.cost<=y.cost:=λz hz=>by
  obtain⟨k,hk,rfl⟩:=mem_iff_getElem.1 hz;have:=r3 (P.length+k) (by omega) (by omega);simp at this;rw[hkey _ (by omega) (by omega)]at this;simp[pg]at this
  rwa [List.getElem_append_left hk]at this
 have hgt:∀z∈L2,y.cost<z.cost:=λz hz=>by
  obtain⟨k,hk,rfl⟩:=mem_iff_getElem.1 hz;have:=r4 (r+k) (by omega) (by omega);simp at this;rw[hkey _ (by omega) (by omega)]at this;have e:r+k-P.length=L1.length+k:=by omega
  simp only[e,pg]at this;rw[List.getElem_append_right (by omega)]at this;simp at this;omega
 refine⟨L1++y::L2,?_,by rw[hlen];simp<;>omega,?_,?_⟩;have c1:(i64.wrap ((P.length+L.length:Nat)-(P.length:Nat))==1)=false:=by rw[aO (by omega) (by omega)];simp<;>omega
 have c2:(i64.wrap ((P.length+L.length+1:Nat)-(P.length+L.length:Nat))==1)=true:=by rw[aO (by omega) (by omega)];simp<;>omega
 unfold dh;rw[c1,ay,c2,aj,hr];simp only[ai];rw[hf];simp;rw[pg]at hL;refine abw (CP hL) (pairwise_cons.2 ⟨λ z hz=>Int.le_of_lt (hgt z hz),xY hL⟩) λa ha b hb=>?_;rcases aR.1 hb with rfl|hb;exact hle a ha;exact Nq hL a ha b hb;have:=(cR.refl L1).app (cR.swap (u:=L2) (v:=[y]) λa ha b hb=>by rw[bn.1 hb];exact hgt a ha);rw[pg];simpa using this
theorem aor(P L R Q:List aC)(hL:kA L)(hR:kA R)(hL1:0<L.length)(hR1:0<R.length)(hl:(P++(L++(R++Q))).length<1099511627776)(hn:(P++(L++(R++Q))).length<n)(mid:Nat)(hmid:mid=(P.length+(P.length+L.length+R.length))/2)(s0 t0:Nat)
 (hst:(mid<P.length+L.length/\s0=mid+(P.length+L.length)-(P.length+L.length+R.length)/\t0=mid)\/(P.length+L.length<=mid/\s0=P.length/\t0=P.length+L.length)):
 ∃L1 L2 R1 R2,L=L1++L2/\R=R1++R2/\P.length+L1.length+R1.length=mid/\(∀ x∈L1,∀y∈R2,x.cost<=y.cost)/\(∀ y∈R1,∀x∈L2,y.cost<x.cost)/\
  iter (fG (P++(L++(R++Q))) (P.length:Nat) (P.length+L.length:Nat) (P.length+L.length+R.length:Nat) φ) n (s0,t0)=some ((P.length+L1.length:Nat):Int):=by
 obtain⟨d,hd⟩:∃d,P++(L++(R++Q))=d:=⟨_,rfl⟩;have hdl:d.length=P.length+L.length+R.length+Q.length:=by rw[<- hd];simp<;>omega
 rw[hd]at hl hn ⊢;have PF:∀k,(hk0:P.length<=k)->(hk:k<P.length+L.length)->Fg d k=(L[k-P.length]'(by omega)).cost:=λk h1 h2=>by have:=(Jy (d:=d) (U:=P) (V:=L) (W:=R++Q) (t:=k-P.length) hd.symm (by omega)).2;rw[<- this];congr 1;omega
 have PC:∀k,(hk0:P.length+L.length<=k)->(hk:k<P.length+L.length+R.length)->Fg d k=(R[k-(P.length+L.length)]'(by omega)).cost:=λk h1 h2=>by have:=(Jy (d:=d) (U:=P++L) (V:=R) (W:=Q) (t:=k-(P.length+L.length)) (by rw[<- hd];simp) (by omega)).2;rw[<- this];congr 1;simp<;>omega
 have hb:s0<=t0/\P.length<=s0/\t0<=P.length+L.length/\(∀ k,s0<=k->k<t0->P.length+L.length<=mid+(P.length+L.length)-1-k/\mid+(P.length+L.length)-1-k<P.length+L.length+R.length):=by rcases hst with ⟨h1,h2,h3⟩|⟨h1,h2,h3⟩;refine⟨by omega,by omega,by omega,λk h4 h5=>by omega⟩;refine⟨by omega,by omega,by omega,λk h4 h5=>by omega⟩
 obtain⟨b1,b2,b3,b4⟩:=hb;obtain⟨r,hr,r1,r2,r3,r4⟩:=N2 (step:=fG d (P.length:Nat) (P.length+L.length:Nat) (P.length+L.length+R.length:Nat) φ) (p:=λk=>decide (Fg d k<=Fg d (mid+(P.length+L.length)-1-k))) (lo:=s0) (hi:=t0) (λ i j h1 h2 h3=>by
  have hk:=b4 ((i+j)/2) (by omega) (by omega);obtain⟨z,hz,H2⟩:=EO (d:=d) (k:=(i+j)/2) (by omega);obtain⟨y,hy,hyk⟩:=EO (d:=d) (k:=mid+(P.length+L.length)-1-(i+j)/2) (by omega);have d1:decide ((i:Int)<j)=true:=by simp<;>omega
  have wm:i64.wrap ((IntKind.u64.wrap (i64.wrap ((P.length:Nat)+(P.length+L.length+R.length:Nat))))/2 ^ (1:Int).toNat)=(mid:Nat):=by rw[My (by omega),<- hmid]
  have wp:i64.wrap (i64.wrap (i64.wrap ((mid:Nat)+(P.length+L.length:Nat))-1)-((i+j)/2:Nat))=(mid+(P.length+L.length)-1-(i+j)/2:Nat):=by rw[EV (by omega),aO (x:=(mid+(P.length+L.length):Nat)-1),aO (by omega) (by omega)];omega
  have i1:co ((i+j)/2:Nat) d.length=true:=aW (by omega);have i2:co (mid+(P.length+L.length)-1-(i+j)/2:Nat) d.length=true:=aW (by omega);have⟨c,c1,c2⟩:=hφ y z;simp only[fG,d1,aj,PP,wm,My (show i+j<4611686018427387904 by omega),wp,i1,i2,oM,hz,hy,ai,c1];rw[H2,hyk,aQ (by omega)];by_cases hc:c<0;have:=c2.1 hc;simp[hc,show ¬z.cost<=y.cost by omega];have:¬y.cost<z.cost:=λh=>hc (c2.2 h);simp[hc,show z.cost<=y.cost by omega]) (λ i=>by simp[fG]) (λ a b h1 h2 h3 h4=>by simp[bF]at h4 ⊢;have ha:=b4 a h1 (by omega);have hb':=b4 b (by omega) h3;rw[PF a (by omega) (by omega),PC _ ha.1 ha.2];rw[PF b (by omega) (by omega),PC _ hb'.1 hb'.2]at h4;have e1:=hL.le (i:=a-P.length) (j:=b-P.length) (by omega) (by omega);have e2:=hR.le (i:=mid+(P.length+L.length)-1-b-(P.length+L.length)) (j:=mid+(P.length+L.length)-1-a-(P.length+L.length)) (by omega) (by omega);omega) n s0 t0 (ax _) b1 (ax _) (by omega) (λ _ h1 h2=>by omega) (λ _ h1 h2=>by omega)
 obtain⟨L1,L2,pg,hLl⟩:∃L1 L2,L=L1++L2/\L1.length=r-P.length:=⟨L.take (r-P.length),L.drop (r-P.length),by simp,by simp<;>omega⟩;obtain⟨R1,R2,m9,hRl⟩:∃R1 R2,R=R1++R2/\R1.length=mid-r:=⟨R.take (mid-r),R.drop (mid-r),by simp,by simp<;>omega⟩;have lL:L.length=L1.length+L2.length:=by rw[pg];simp
 have lR:R.length=R1.length+R2.length:=by rw[m9];simp
 refine⟨L1,L2,R1,R2,pg,m9,by omega,λx hx y hy=>?_,λy hy x hx=>?_,by rw[hr];congr 1;omega⟩;obtain⟨k,hk,rfl⟩:=mem_iff_getElem.1 hx;obtain⟨q,hq,rfl⟩:=mem_iff_getElem.1 hy;have hr1:=r3 (r-1) (by omega) (by omega);simp[bF]at hr1;have hbb:=b4 (r-1) (by omega) (by omega);rw[PF (r-1) (by omega) (by omega),PC _ hbb.1 hbb.2]at hr1;have e1:=hL.le (i:=k) (j:=r-1-P.length) (by omega) (by omega);have e2:=hR.le (i:=mid+(P.length+L.length)-1-(r-1)-(P.length+L.length)) (j:=R1.length+q) (by omega) (by omega);have f1:L[k]'(by omega)=L1[k]:=by simp[pg];exact List.getElem_append_left hk
 have f2:R[R1.length+q]'(by omega)=R2[q]:=by simp only[m9];rw[List.getElem_append_right (by omega)];simp
 rw[f1]at e1;rw[f2]at e2;omega;obtain⟨k,hk,rfl⟩:=mem_iff_getElem.1 hx;obtain⟨q,hq,rfl⟩:=mem_iff_getElem.1 hy;have hs:r<t0:=by rcases hst with h|h<;>omega
 have hr1:=r4 r (by omega) hs;simp[dM]at hr1;have hbb:=b4 r (by omega) hs;rw[PF r (by omega) (by omega),PC _ hbb.1 hbb.2]at hr1;have e1:=hL.le (i:=r-P.length) (j:=L1.length+k) (by omega) (by omega);have e2:=hR.le (i:=q) (j:=mid+(P.length+L.length)-1-r-(P.length+L.length)) (by omega) (by omega);have f1:L[L1.length+k]'(by omega)=L2[k]:=by simp only[pg];rw[List.getElem_append_right (by omega)];simp
 have f2:R[q]'(by omega)=R1[q]:=by simp[m9];exact List.getElem_append_left hq
 rw[f1]at e1;rw[f2]at e2;omega
theorem abx:∀(m:Nat)(P L R Q:List aC),kA L->kA R->0<L.length->0<R.length->L.length+R.length<=m->(P++(L++(R++Q))).length<1099511627776->(P++(L++(R++Q))).length<n->
 ∃M,bU n m (P++(L++(R++Q))) (P.length:Int) ((P.length+L.length:Nat):Int) ((P.length+L.length+R.length:Nat):Int) φ=some (P++(M++Q))/\M.length=L.length+R.length/\kA M/\cR M (L++R)
 | 0,P,L,R,Q,_,_,h1,h2,h3,_,_=>by omega
 |m+1,P,L,R,Q,hL,hR,h1,h2,h3,hl,hn=>by
  show ∃M,dh n (bU n m) (P++(L++(R++Q))) (P.length:Int) ((P.length+L.length:Nat):Int) ((P.length+L.length+R.length:Nat):Int) φ=some (P++(M++Q))/\M.length=L.length+R.length/\kA M/\cR M (L++R);by_cases hL1:L.length=1;obtain⟨x,rfl⟩:=List.length_eq_one_iff.1 hL1;obtain⟨M,g1,g2,g3,g4⟩:=aop hφ (n:=n) (rc:=bU n m) P R Q x hR (by simpa using hl) (by simpa using hn);exact⟨M,by simpa using g1,by simpa using g2,g3,g4⟩;by_cases hR1:R.length=1;obtain⟨y,rfl⟩:=List.length_eq_one_iff.1 hR1;obtain⟨M,g1,g2,g3,g4⟩:=aoq hφ (n:=n) (rc:=bU n m) P L Q y hL (by omega) (by simpa using hl) (by simpa using hn);exact⟨M,by simpa using g1,by simpa using g2,g3,g4⟩;have hlen:(P++(L++(R++Q))).length=P.length+L.length+R.length+Q.length:=by simp<;>omega
  rw[hlen]at hl hn;obtain⟨mid,hmid⟩:∃mid,mid=(P.length+(P.length+L.length+R.length))/2:=⟨_,rfl⟩;obtain⟨s0,t0,hst⟩:∃s0 t0,(mid<P.length+L.length/\s0=mid+(P.length+L.length)-(P.length+L.length+R.length)/\t0=mid)\/(P.length+L.length<=mid/\s0=P.length/\t0=P.length+L.length):=by rcases Nat.lt_or_ge mid (P.length+L.length)with h|h;exact⟨_,_,.inl ⟨h,rfl,rfl⟩⟩;exact⟨_,_,.inr ⟨h,rfl,rfl⟩⟩
  obtain⟨L1,L2,R1,R2,rfl,rfl,k1,k2,k3,k4⟩:=aor hφ (n:=n) P L R Q hL hR h1 h2 (by rw[hlen];exact hl) (by rw[hlen];exact hn) mid hmid s0 t0 hst;have lL:(L1++L2).length=L1.length+L2.length:=by simp
  have lR:(R1++R2).length=R1.length+R2.length:=by simp
  have wm:i64.wrap ((IntKind.u64.wrap (i64.wrap ((P.length:Int)+((P.length+(L1++L2).length+(R1++R2).length:Nat):Int))))/2 ^ (1:Int).toNat)=(mid:Int):=by rw[My (by omega),<- hmid]
  have wn:i64.wrap ((mid:Int)+((P.length+(L1++L2).length:Nat):Int))=((mid+(P.length+(L1++L2).length):Nat):Int):=EV (by omega);have we:i64.wrap (((mid+(P.length+(L1++L2).length):Nat):Int)-((P.length+L1.length:Nat):Int))=((P.length+L1.length+L2.length+R1.length:Nat):Int):=by rw[aO (by omega) (by omega)];omega
  have c1:(i64.wrap (((P.length+(L1++L2).length:Nat):Int)-(P.length:Int))==(1:Int))=false:=by rw[aO (by omega) (by omega)];simp only[beq_eq_false_iff_ne];omega
  have c2:(i64.wrap (((P.length+(L1++L2).length+(R1++R2).length:Nat):Int)-((P.length+(L1++L2).length:Nat):Int))==(1:Int))=false:=by rw[aO (by omega) (by omega)];simp only[beq_eq_false_iff_ne];omega
  have hsel:((bif decide (((P.length+(L1++L2).length:Nat):Int)>(mid:Int))then some (i64.wrap (((mid+(P.length+(L1++L2).length):Nat):Int)-((P.length+(L1++L2).length+(R1++R2).length:Nat):Int)),(mid:Int))else some ((P.length:Int),((P.length+(L1++L2).length:Nat):Int))):Option (Int×Int))=some ((s0:Int),(t0:Int)):=by rcases hst with ⟨q1,q2,q3⟩|⟨q1,q2,q3⟩;rw[show decide (((P.length+(L1++L2).length:Nat):Int)>(mid:Int))=true by simp only[bF];omega,aj,aO (by omega) (by omega),q2,q3];congr 2;omega;rw[show decide (((P.length+(L1++L2).length:Nat):Int)>(mid:Int))=false by simp only[dM];omega,ay,q2,q3]
  have Xs:((bif decide (((P.length+L1.length:Nat):Int)<((P.length+(L1++L2).length:Nat):Int))then some (decide (((P.length+(L1++L2).length:Nat):Int)<((P.length+L1.length+L2.length+R1.length:Nat):Int)))else some false:Option Bool).bind λv13=>bif v13 then(ck (aE (P++(L1++L2++(R1++R2++Q))).length (P++(L1++L2++(R1++R2++Q))).length) ((gY n (P++(L1++L2++(R1++R2++Q))) ((P.length+L1.length:Nat):Int) ((P.length+(L1++L2).length:Nat):Int) ((P.length+L1.length+L2.length+R1.length:Nat):Int) φ).bind λr4=>some r4))else some (P++(L1++L2++(R1++R2++Q))))=some (P++(L1++(R1++(L2++(R2++Q))))):=by by_cases e1:L2=[];subst e1;simp;by_cases e2:R1=[];subst e2;rw[show decide (((P.length+(L1++L2).length:Nat):Int)<((P.length+L1.length+L2.length+([]:List aC).length:Nat):Int))=false by simp only[dM,length_nil];omega];cases decide (((P.length+L1.length:Nat):Int)<((P.length+(L1++L2).length:Nat):Int))<;>simp;have p1:0<L2.length:=List.length_pos_iff.2 e1;have p2:0<R1.length:=List.length_pos_iff.2 e2;have:=ajg (φ:=φ) (n:=n) (P++L1) L2 R1 (R2++Q) p1 p2 (by simp;simp at hl;omega) (by simp;simp at hn;omega) (a:=((P.length+L1.length:Nat):Int)) (m:=((P.length+(L1++L2).length:Nat):Int)) (b:=((P.length+L1.length+L2.length+R1.length:Nat):Int)) (by simp) (by simp<;>omega) (by simp);have e3:P++(L1++L2++(R1++R2++Q))=P++L1++(L2++(R1++(R2++Q))):=(by simp);rw[show decide (((P.length+L1.length:Nat):Int)<((P.length+(L1++L2).length:Nat):Int))=true by simp only[bF];omega,aj,show decide (((P.length+(L1++L2).length:Nat):Int)<((P.length+L1.length+L2.length+R1.length:Nat):Int))=true by simp only[bF];omega];simp only[ai,aj,aN];rw[e3,this];simp
  obtain⟨M1,m1,m2,m3,m4⟩:∃M1,((bif decide ((P.length:Int)<((P.length+L1.length:Nat):Int))then some (decide (((P.length+L1.length:Nat):Int)<(mid:Int)))else some false:Option Bool).bind λv15=>bif v15 then(ck (aE (P++(L1++L2++(R1++R2++Q))).length (P++(L1++(R1++(L2++(R2++Q))))).length) ((bU n m (P++(L1++(R1++(L2++(R2++Q))))) (P.length:Int) ((P.length+L1.length:Nat):Int) (mid:Int) φ).bind λr5=>some r5))else some (P++(L1++(R1++(L2++(R2++Q))))))=some (P++(M1++(L2++(R2++Q))))/\M1.length=L1.length+R1.length/\kA M1/\cR M1 (L1++R1):=by by_cases e1:L1=[];subst e1;exact⟨R1,by simp,by simp,CP hR,cR.refl _⟩;by_cases e2:R1=[];subst e2;have:(mid:Int)=((P.length+L1.length:Nat):Int):=(by simp at k1;omega);exact⟨L1,by rw[this];simp,by simp,CP hL,by simpa using cR.refl L1⟩;have p1:0<L1.length:=List.length_pos_iff.2 e1;have p2:0<R1.length:=List.length_pos_iff.2 e2;obtain⟨M,g1,g2,g3,g4⟩:=abx m P L1 R1 (L2++(R2++Q)) (CP hL) (CP hR) p1 p2 (by omega) (by simp;simp at hl;omega) (by simp;simp at hn;omega);refine⟨M,?_,g2,g3,g4⟩;rw[show decide ((P.length:Int)<((P.length+L1.length:Nat):Int))=true by simp only[bF];omega,aj,show decide (((P.length+L1.length:Nat):Int)<(mid:Int))=true by simp only[bF];omega];simp only[ai,aj];rw[qw (by simp<;>omega)];simp only[aj];rw[<- k1,g1];rfl
  obtain⟨M2,q1,q2,q3,q4⟩:∃M2,((bif decide ((mid:Int)<((P.length+L1.length+L2.length+R1.length:Nat):Int))then some (decide (((P.length+L1.length+L2.length+R1.length:Nat):Int)<((P.length+(L1++L2).length+(R1++R2).length:Nat):Int)))else some false:Option Bool).bind λv17=>bif v17 then(ck (aE (P++(L1++L2++(R1++R2++Q))).length (P++(M1++(L2++(R2++Q)))).length) ((bU n m (P++(M1++(L2++(R2++Q)))) (mid:Int) ((P.length+L1.length+L2.length+R1.length:Nat):Int) ((P.length+(L1++L2).length+(R1++R2).length:Nat):Int) φ).bind λr6=>some r6))else some (P++(M1++(L2++(R2++Q)))))=some (P++(M1++(M2++Q)))/\M2.length=L2.length+R2.length/\kA M2/\cR M2 (L2++R2):=by have hm1:P.length+M1.length=mid:=(by omega);by_cases e1:L2=[];subst e1;exact⟨R2,by rw[show decide ((mid:Int)<((P.length+L1.length+([]:List aC).length+R1.length:Nat):Int))=false by simp only[dM,length_nil];omega];simp,by simp,xY hR,cR.refl _⟩;by_cases e2:R2=[];subst e2;refine⟨L2,?_,by simp,xY hL,by simpa using cR.refl L2⟩;rw[show decide (((P.length+L1.length+L2.length+R1.length:Nat):Int)<((P.length+(L1++L2).length+(R1++([]:List aC)).length:Nat):Int))=false by simp only[dM,append_nil];omega];cases decide ((mid:Nat)<(P.length+L1.length+L2.length+R1.length:Nat))<;>simp;have p1:0<L2.length:=List.length_pos_iff.2 e1;have p2:0<R2.length:=List.length_pos_iff.2 e2;obtain⟨M,g1,g2,g3,g4⟩:=abx m (P++M1) L2 R2 Q (xY hL) (xY hR) p1 p2 (by omega) (by simp;simp at hl;omega) (by simp;simp at hn;omega);refine⟨M,?_,g2,g3,g4⟩;rw[show decide ((mid:Int)<(P.length+L1.length+L2.length+R1.length:Nat))=true by simp only[bF];omega,aj,show decide (((P.length+L1.length+L2.length+R1.length:Nat):Int)<(P.length+(L1++L2).length+(R1++R2).length:Nat))=true by simp only[bF];omega];simp only[ai,aj];have f1:(P++M1).length=mid:=(by simp<;>omega);have f2:mid+L2.length=P.length+L1.length+L2.length+R1.length:=(by omega);have f3:mid+L2.length+R2.length=P.length+(L1++L2).length+(R1++R2).length:=(by omega);rw[f1,f3,f2]at g1;rw[qw (by simp<;>omega)];simp only[aj];simp only[aT]at g1;rw[g1];simp
  refine⟨M1++M2,?_,by simp<;>omega,?_,?_⟩;unfold dh;rw[c1,ay,c2,ay,PP];simp only[aj];simp only[wm,wn];rw[hsel];simp only[ai];rw[k4];simp only[ai,we];rw[Xs];simp only[ai];rw[m1];simp only[ai];rw[q1];simp;refine abw m3 q3 λx hx y hy=>?_;have hx:=(m4.mem x).1 hx;have hy:=(q4.mem y).1 hy;rcases bK.1 hx with hx|hx<;>rcases bK.1 hy with hy|hy;exact Nq hL x hx y hy;exact k2 x hx y hy;exact Int.le_of_lt (k3 x hx y hy);exact Nq hR x hx y hy;refine(m4.app q4).trans ?_;have:=((cR.refl L1).app (cR.swap (u:=L2) (v:=R1) λx hx y hy=>k3 y hy x hx)).app (cR.refl R2);simpa using this
theorem ad4:∀ys (x:aC) (P R:List aC) a0 (fuel:Nat),a0.length=P.length+ys.length+1+R.length->a0.length<1099511627776->ys.length<fuel->
 iter (dw a0 (P.length:Nat) φ) fuel ((P.length+ys.length:Nat),P++(ys.reverse++x::R))=some (P++((fP tB x ys).reverse++R))
 |[],x,P,R,a0,fuel,h1,h2,h3=>by obtain⟨f,rfl⟩:∃f,fuel=f+1:=⟨fuel-1,by omega⟩;refine bW ?_;simp[dw,fP]
 |y::ys,x,P,R,a0,fuel,h1,h2,h3=>by
  obtain⟨f,rfl⟩:∃f,fuel=f+1:=⟨fuel-1,by omega⟩;simp at h1 h3;have d1:decide (((P.length+(y::ys).length:Nat):Int)>(P.length:Nat))=true:=by simp<;>omega
  have w1:i64.wrap ((P.length+(y::ys).length:Nat)-1)=(P.length+ys.length:Nat):=by rw[aO (by simp<;>omega) (by simp<;>omega)];simp<;>omega
  have i1:co (P.length+(y::ys).length:Nat) a0.length=true:=aW (by simp<;>omega);have i2:co (P.length+ys.length:Nat) a0.length=true:=aW (by omega);have g1:(P++((y::ys).reverse++x::R))[P.length+(y::ys).length]? =some x:=oJ (U:=P++(y::ys).reverse) (V:=R) (by simp) (by simp);have g2:(P++((y::ys).reverse++x::R))[P.length+ys.length]? =some y:=oJ (U:=P++ys.reverse) (V:=x::R) (by simp) (by simp);have⟨c,c1,c2⟩:=hφ x y;have hlt:decide (c<0)=tB x y:=by unfold tB;by_cases h:c<0;simp[h,c2.1 h];have:¬x.cost<y.cost:=λe=>h (c2.2 e);simp[h,this]
  cases hxy:tB x y with
  |true=>
   have s1:(P++((y::ys).reverse++x::R)).set (P.length+(y::ys).length) y=(P++(y::ys).reverse)++y::R:=vJ (U:=P++(y::ys).reverse) (V:=R) (x:=x) (by simp) (by simp);have g3:((P++(y::ys).reverse)++y::R)[P.length+ys.length]? =some y:=oJ (U:=P++ys.reverse) (V:=y::R) (by simp) (by simp);have s2:((P++(y::ys).reverse)++y::R).set (P.length+ys.length) x=(P++ys.reverse)++x::(y::R):=vJ (U:=P++ys.reverse) (V:=y::R) (x:=y) (by simp) (by simp);have step:dw a0 (P.length:Nat) φ ((P.length+(y::ys).length:Nat),P++((y::ys).reverse++x::R))=some (.inl ((P.length+ys.length:Nat),P++(ys.reverse++x::(y::R)))):=(by simp only[dw,d1,aj,w1,i1,i2,oM,g1,g2,ai,c1,hlt,hxy,PQ,s1,g3,s2];simp);rw[dI step];have:=ad4 ys x P (y::R) a0 f (by simp<;>omega) h2 (by omega);rw[this];simp[fP,hxy]
  |false=>
   refine(bW ?_).trans rfl;simp only[dw,d1,aj,w1,i1,i2,oM,g1,g2,ai,c1,hlt,hxy,ay];simp[fP,hxy]
theorem ad5:∀(B S P Q:List aC) a0 (fuel:Nat),kA S->a0.length=P.length+S.length+B.length+Q.length->a0.length<1099511627776->a0.length<n->B.length<fuel->
 ∃S',iter (dx n a0 (P.length:Nat) (P.length+S.length+B.length:Nat) φ) fuel ((P.length+S.length:Nat),P++(S++(B++Q)))=some (P++(S'++Q))/\S'.length=S.length+B.length/\kA S'/\cR S' (S++B)
 |[],S,P,Q,a0,fuel,hS,h1,h2,h3,h4=>by obtain⟨f,rfl⟩:∃f,fuel=f+1:=⟨fuel-1,by omega⟩;refine⟨S,bW ?_,by simp,hS,by simpa using cR.refl S⟩;simp[dx]
 |x::B,S,P,Q,a0,fuel,hS,h1,h2,h3,h4=>by
  obtain⟨f,rfl⟩:∃f,fuel=f+1:=⟨fuel-1,by omega⟩;simp at h1 h4;have hi:=ad4 hφ S.reverse x P (B++Q) a0 n (by simp<;>omega) h2 (by simp<;>omega);simp only[List.length_reverse,List.reverse_reverse]at hi;have hl:(fP tB x S.reverse).reverse.length=S.length+1:=by simp[AP]
  have d1:decide (((P.length+S.length:Nat):Int)<(P.length+S.length+(x::B).length:Nat))=true:=by simp<;>omega
  have step:dx n a0 (P.length:Nat) (P.length+S.length+(x::B).length:Nat) φ ((P.length+S.length:Nat),P++(S++(x::B++Q)))=some (.inl ((P.length+(fP tB x S.reverse).reverse.length:Nat),P++((fP tB x S.reverse).reverse++(B++Q)))):=by have e:P++(S++(x::B++Q))=P++(S++x::(B++Q)):=rfl;simp only[dx,d1,aj];rw[e,hi];simp only[ai,hl];rw[aQ (by omega)];rfl
  rw[dI step];have hs:kA (fP tB x S.reverse).reverse:=List.pairwise_reverse.2 (WL x S.reverse (List.pairwise_reverse.2 hS));obtain⟨S',g1,g2,g3,g4⟩:=ad5 B (fP tB x S.reverse).reverse P Q a0 f hs (by omega) h2 h3 (by omega);refine⟨S',?_,by simp<;>omega,g3,g4.trans ?_⟩;have e:P.length+(fP tB x S.reverse).reverse.length+B.length=P.length+S.length+(x::B).length:=by rw[hl];simp<;>omega
  rw[e]at g1;exact g1;have:=(Rs x S.reverse).app (cR.refl B);simpa using this
theorem ald(P B Q:List aC)(hl:(P++(B++Q)).length<1099511627776)(hn:(P++(B++Q)).length<n){a b:Int}(ha:a=(P.length:Nat))(hb:b=(P.length+B.length:Nat)):
 ∃B',dm n (P++(B++Q)) a b φ=some (P++(B'++Q))/\B'.length=B.length/\kA B'/\cR B' B:=by
 subst ha hb;unfold dm;simp at hl hn;cases B with
 |nil=>
  refine⟨[],?_,rfl,List.Pairwise.nil,cR.refl _⟩;obtain⟨f,rfl⟩:∃f,n=f+1:=⟨n-1,by omega⟩;have w:i64.wrap ((P.length:Nat)+1)=(P.length+1:Nat):=aQ (by omega);rw[w,bW (o:=P++([]++Q))];rfl;simp only[dx];rw[show decide (((P.length+1:Nat):Int)<(P.length+[].length:Nat))=false by simp;omega];rfl
 |cons x B=>
  simp at hl hn;obtain⟨S',g1,g2,g3,g4⟩:=ad5 hφ (n:=n) B [x] P Q (P++(x::B++Q)) n (List.pairwise_singleton _ _) (by simp<;>omega) (by simp<;>omega) (by simp<;>omega) (by omega);refine⟨S',?_,by rw[g2];simp<;>omega,g3,by simpa using g4⟩;have w:i64.wrap ((P.length:Nat)+1)=(P.length+[x].length:Nat):=aQ (by omega);have e:P.length+[x].length+B.length=P.length+(x::B).length:=by simp<;>omega
  rw[e]at g1;rw[w];have e2:P++([x]++(B++Q))=P++(x::B++Q):=rfl;rw[e2]at g1;rw[g1];rfl
theorem ZV:∀(w:Nat) (P R:List aC) a0 (fuel:Nat),R.length<=w->a0.length=P.length+R.length->a0.length<1099511627776->a0.length<n->w<fuel->
 ∃R',(iter (dG n a0 (a0.length:Nat) φ) fuel ((P.length:Nat),(P.length+20:Nat),P++R)).bind (λ (w1,w2)=>ck (aE a0.length w2.length) ((dm n w2 w1 (a0.length:Nat) φ).bind λr2=>some r2))=some (P++R')/\R'.length=R.length/\Ch 20 R'/\cR R' R
 |w,P,R,a0,fuel,h1,h2,h3,h4,h5=>by
  obtain⟨f,rfl⟩:∃f,fuel=f+1:=⟨fuel-1,by omega⟩;by_cases hR:20<=R.length;obtain⟨B,T,rfl,hB⟩:∃B T,R=B++T/\B.length=20:=⟨R.take 20,R.drop 20,by simp,by simp<;>omega⟩;simp at h1 h2 hR;obtain⟨B',g1,g2,g3,g4⟩:=ald hφ (n:=n) P B T (by simp<;>omega) (by simp<;>omega) (a:=(P.length:Nat)) (b:=(P.length+20:Nat)) rfl (by rw[hB]);have step:dG n a0 (a0.length:Nat) φ ((P.length:Nat),(P.length+20:Nat),P++(B++T))=some (.inl (((P++B').length:Nat),((P++B').length+20:Nat),(P++B')++T)):=by simp only[dG];rw[show decide (((P.length+20:Nat):Int)<=(a0.length:Nat))=true by simp;omega,qw (by simp<;>omega),g1];have w1:i64.wrap ((P.length+20:Nat)+20)=((P++B').length+20:Nat):=(by rw[aO (by omega) (by omega)];simp[g2,hB]);rw[w1];simp[g2,hB]
  rw[dI step];cases w with
  |zero=>omega
  |succ w=>
   obtain⟨R',q1,q2,q3,q4⟩:=ZV w (P++B') T a0 f (by omega) (by simp<;>omega) h3 h4 (by omega);exact⟨B'++R',by rw[q1];simp,by simp[q2,g2],.cons g3 (by omega) q3,g4.app q4⟩
  have ex:dG n a0 (a0.length:Nat) φ ((P.length:Nat),(P.length+20:Nat),P++R)=some (.inr ((P.length:Nat),P++R)):=by simp only[dG];rw[show decide (((P.length+20:Nat):Int)<=(a0.length:Nat))=false by simp;omega];rfl
  rw[bW ex];obtain⟨B',g1,g2,g3,g4⟩:=ald hφ (n:=n) P R [] (by simp<;>omega) (by simp<;>omega) (a:=(P.length:Nat)) (b:=(a0.length:Nat)) rfl (by rw[h2]);simp at g1;refine⟨B',?_,g2,.last g3 (by omega),g4⟩;simp only[ai];rw[qw (by simp<;>omega),g1];rfl
theorem ajh{n bs:Nat}(hbs:0<bs):∀(w:Nat) (P R:List aC) a0 (fuel:Nat),Ch bs R->R.length<=w->a0.length=P.length+R.length->a0.length<1099511627776->bs<1099511627776->a0.length<n->w<fuel->
 ∃R',(iter (dH n a0 (a0.length:Nat) φ (bs:Nat)) fuel ((P.length:Nat),(P.length+2*bs:Nat),P++R)).bind (λ (w3,w4)=>((bif (decide ((i64.wrap (w3+(bs:Nat)))<(a0.length:Nat)))then(ck (aE a0.length w4.length) ((fw n w4 w3 (i64.wrap (w3+(bs:Nat))) (a0.length:Nat) φ).bind λr4=>some r4))else some w4):Option (List aC)))=some (P++R')/\R'.length=R.length/\Ch (2*bs) R'/\cR R' R:=by
 intro w
 induction w using Nat.strongRecOn with
 |ind w ih=>
  intro P R a0 fuel hc h1 h2 h3 hb3 h4 h5;obtain⟨f,rfl⟩:∃f,fuel=f+1:=⟨fuel-1,by omega⟩;have wb:i64.wrap ((P.length:Nat)+(bs:Nat))=(P.length+bs:Nat):=EV (by omega);have fin:∀R:List aC,a0.length=P.length+R.length->R.length<2*bs->(∀ X,iter (dH n a0 (a0.length:Nat) φ (bs:Nat)) (f+1) ((P.length:Nat),(P.length+2*bs:Nat),X)=some ((P.length:Int),X)):=by intro R h2 hR X;refine bW ?_;simp only[dH];rw[show decide (((P.length+2*bs:Nat):Int)<=(a0.length:Nat))=false by simp;omega];rfl
  cases hc with
  |last s1 s2=>
   rw[fin R h2 (by omega)];refine⟨R,?_,rfl,.last s1 (by omega),cR.refl _⟩;simp only[ai,wb];rw[show decide (((P.length+bs:Nat):Int)<(a0.length:Nat))=false by simp;omega];rfl
  | @cons b l s1 s2 s3=>
   simp at h1 h2;have merge:∀(c l2:List aC),l=c++l2->kA c->0<c.length->∃M,fw n (P++(b++l)) (P.length:Nat) (P.length+bs:Nat) (P.length+bs+c.length:Nat) φ=some (P++(M++l2))/\M.length=bs+c.length/\kA M/\cR M (b++c):=(by intro c l2 hl hcs hcl;subst hl;obtain⟨M,q1,q2,q3,q4⟩:=abx hφ (n:=n) n P b c l2 s1 hcs (by omega) hcl (by simp at h1 h2;omega) (by simp;simp at h2;omega) (by simp;simp at h2;omega);rw[s2]at q1 q2;exact⟨M,q1,q2,q3,q4⟩)
   have yy:∀(c l2 M:List aC),l=c++l2->c.length=bs->M.length=bs+c.length->fw n (P++(b++l)) (P.length:Nat) (P.length+bs:Nat) (P.length+bs+c.length:Nat) φ=some (P++(M++l2))->
    dH n a0 (a0.length:Nat) φ (bs:Nat) ((P.length:Nat),(P.length+2*bs:Nat),P++(b++l))=some (.inl (((P++M).length:Nat),((P++M).length+2*bs:Nat),(P++M)++l2)):=by intro c l2 M hl hcl hM hq;have hll:l.length=c.length+l2.length:=(by rw[hl];simp);simp only[dH];rw[show decide (((P.length+2*bs:Nat):Int)<=(a0.length:Nat))=true by simp;omega,aj,qw (by simp<;>omega)];simp only[aj];rw[wb];have e1:(P.length+bs+c.length:Nat)=(P.length+2*bs:Nat):=(by omega);rw[e1]at hq;rw[hq];have w2:i64.wrap (2*(bs:Nat))=(2*bs:Nat):=(by rw[aO (by omega) (by omega)];omega);have w3:i64.wrap ((P.length+2*bs:Nat)+(2*bs:Nat))=(P.length+2*bs+2*bs:Nat):=EV (by omega);rw[w2,w3];have e2:(P++M).length=P.length+2*bs:=(by simp<;>omega);rw[e2];simp
   cases s3 with
   |last t1 t2=>
    by_cases hl:l.length=bs;obtain⟨M,q1,q2,q3,q4⟩:=merge l [] (by simp) t1 (by omega);rw[dI (yy l [] M (by simp) hl q2 q1)];obtain⟨R',r1,r2,r3,r4⟩:=ih 0 (by omega) (P++M) [] a0 f (.last List.Pairwise.nil (by simp)) (by simp) (by simp<;>omega) h3 hb3 h4 (by omega);have:R'=[]:=List.eq_nil_of_length_eq_zero (by simpa using r2);subst this;exact⟨M,by rw[r1];simp,by simp<;>omega,.last q3 (by omega),by simpa using q4⟩;rw[fin (b++l) (by simp<;>omega) (by simp<;>omega)];simp only[ai,wb];by_cases hl0:l.length=0;have:l=[]:=List.eq_nil_of_length_eq_zero hl0;subst this;refine⟨b,?_,by simp,.last s1 (by omega),by simpa using cR.refl b⟩;rw[show decide (((P.length+bs:Nat):Int)<(a0.length:Nat))=false by simp;simp at h2;omega];simp;obtain⟨M,q1,q2,q3,q4⟩:=merge l [] (by simp) t1 (by omega);refine⟨M,?_,by simp<;>omega,.last q3 (by omega),by simpa using q4⟩;rw[show decide (((P.length+bs:Nat):Int)<(a0.length:Nat))=true by simp;omega,aj,qw (by simp<;>omega)];simp only[aj];have e1:(P.length+bs+l.length:Nat)=(a0.length:Nat):=(by omega);rw[e1]at q1;rw[q1];simp
   | @cons c l2 t1 t2 t3=>
    obtain⟨M,q1,q2,q3,q4⟩:=merge c l2 rfl t1 (by omega);rw[dI (yy c l2 M rfl t2 q2 q1)];simp at h1 h2;obtain⟨R',r1,r2,r3,r4⟩:=ih (w-2*bs) (by omega) (P++M) l2 a0 f t3 (by omega) (by simp<;>omega) h3 hb3 h4 (by omega);refine⟨M++R',by rw[r1];simp,by simp<;>omega,.cons q3 (by omega) r3,?_⟩;have:=q4.app r4;simpa using this
theorem ZW:∀(w bs:Nat) R a0 (fuel:Nat),0<bs->Ch bs R->a0.length<=bs+w->a0.length=R.length->a0.length<1099511627776->a0.length<n->w<fuel->bs<2199023255552->
 ∃R',iter (fT n a0 (a0.length:Nat) φ) fuel ((bs:Nat),R)=some R'/\kA R'/\cR R' R
 |w,bs,R,a0,fuel,hb,hc,h1,h2,h3,h4,h5,h6=>by
  obtain⟨f,rfl⟩:∃f,fuel=f+1:=⟨fuel-1,by omega⟩;by_cases hlt:bs<a0.length;obtain⟨R',q1,q2,q3,q4⟩:=ajh hφ (n:=n) hb R.length [] R a0 n hc (ax _) (by simp<;>omega) h3 (by omega) h4 (by omega);simp only[length_nil,Nat.zero_add,fJ]at q1;have w2:i64.wrap (2*(bs:Nat))=(2*bs:Nat):=by rw[aO (by omega) (by omega)];omega
  have w3:i64.wrap ((bs:Nat)*2)=(2*bs:Nat):=by rw[aO (by omega) (by omega)];omega
  have step:fT n a0 (a0.length:Nat) φ ((bs:Nat),R)=some (.inl ((2*bs:Nat),R')):=by
   simp only[fT];rw[show decide ((bs:Int)<(a0.length:Nat))=true by simp;omega,w2,w3];have e0:((0:Nat):Int)=0:=rfl;rw[e0]at q1;obtain⟨⟨u1,u2⟩,hu⟩:∃u,iter (dH n a0 (a0.length:Nat) φ (bs:Nat)) n (0,(2*bs:Nat),R)=some u:=by
    cases hh:iter (dH n a0 (a0.length:Nat) φ (bs:Nat)) n (0,(2*bs:Nat),R)with
    |none=>rw[hh]at q1;cases q1
    |some u=>exact⟨u,rfl⟩
   rw[hu]at q1 ⊢;simp at q1 ⊢;rw[q1];rfl
  rw[dI step];cases w with
  |zero=>omega
  |succ w=>
   obtain⟨R2,r1,r2,r3⟩:=ZW w (2*bs) R' a0 f (by omega) q3 (by omega) (by omega) h3 h4 (by omega) (by omega);exact⟨R2,r1,r2,r3.trans q4⟩
  refine⟨R,bW ?_,hc.xj (by omega) hb,cR.refl _⟩;simp only[fT];rw[show decide ((bs:Int)<(a0.length:Nat))=false by simp;omega];rfl
theorem PV l (hl:l.length<1099511627776) (hn:l.length<n):∃r,jf n l φ=some r/\kA r/\cR r l:=by
 obtain⟨R1,q1,q2,q3,q4⟩:=ZV hφ (n:=n) l.length [] l l n (ax _) (by simp) hl hn hn;simp only[length_nil,Nat.zero_add,fJ]at q1;obtain⟨R2,r1,r2,r3⟩:=ZW hφ (n:=n) l.length 20 R1 l n (by omega) q3 (by omega) (by omega) hl hn hn (by omega);refine⟨R2,?_,r2,r3.trans q4⟩;unfold jf nk;rw[aN];have e0:((0:Nat):Int)=0:=rfl;have e20:((20:Nat):Int)=20:=rfl;rw[e0,e20]at q1;rw[e20]at r1;obtain⟨⟨u1,u2⟩,hu⟩:∃u,iter (dG n l (l.length:Nat) φ) n (0,20,l)=some u:=by
  cases hh:iter (dG n l (l.length:Nat) φ) n (0,20,l)with
  |none=>rw[hh]at q1;cases q1
  |some u=>exact⟨u,rfl⟩
 rw[hu]at q1 ⊢;simp only[ai]at q1 ⊢;cases he:aE l.length u2.length with
 |false=>rw[he]at q1;cases q1
 |true=>
  rw[he]at q1;cases hi:dm n u2 u1 (l.length:Nat) φ with
  |none=>rw[hi]at q1;cases q1
  |some r=>
   rw[hi]at q1;cases q1;simp only[ai];rw[r1];rfl
end
def kh(v:aD):Int:=bif okV v then(v.cz-v.cx+2)/3 else 0
theorem RW{v:aD}(h:okV v=true):0<=v.cx/\v.cx<v.cz/\v.cz<=4096:=by simp[okV]at h;omega
theorem PW(v:aD):0<=kh v/\kh v<=1366:=by
 unfold kh;cases h:okV v with
 |false=>simp
 |true=>
  have:=RW h;simp;omega
theorem CQ(v:aD):mJ v=some (kh v):=by
 unfold mJ kh;rw[pU];cases h:okV v with
 |false=>rfl
 |true=>
  have⟨h1,h2,h3⟩:=RW h;simp;rw[aO (x:=v.cz-v.cx),aO (x:=v.cz-v.cx+3),aO (x:=v.cz-v.cx+3-1),Int.tdiv_eq_ediv_of_nonneg (by omega),aO (by omega) (by omega)];omega
theorem bA(a b:Bool):((bif a then some b else some false):Option Bool)=some (a&&b):=by cases a<;>rfl
theorem bO(a b:Bool):((bif a then some true else some b):Option Bool)=some (a || b):=by cases a<;>rfl
theorem PX(r:au):vI r=some (en r):=by simp[vI,bA]
theorem KV(v:aD):rq v=some (okV v):=by
 simp only[rq,Ez,PX,ai,bA,bO,EA,okV];have e:en (au.mk v.bj v.bz v.be v.bx)=en (dY v):=rfl;rw[e];congr 1;cases en (dY v)with
 |false=>rfl
 |true=>
  rw[jg];simp;omega
theorem A9(v:aD):yM v=some (kh v):=by
 unfold yM kh;rw[KV];cases h:okV v with
 |false=>rfl
 |true=>
  have⟨h1,h2,h3⟩:=RW h;simp;rw[aO (x:=v.cz-v.cx),aO (x:=v.cz-v.cx+2),Int.tdiv_eq_ediv_of_nonneg (by omega),aO (by omega) (by omega)]
def ip(v:aD):Nat:=(kh v).toNat
theorem CR(v:aD):(ip v:Nat)=kh v:=by have:=PW v;unfold ip;omega
theorem agk(v:aD):ip v<=1366:=by have:=PW v;unfold ip;omega
theorem WM{d:aG}(h:yR d)(hn:1001<=n):ni n d=some (b8 d):=WJ h hn
theorem ad6{d:aG}(h:yR d)(hn:1001<=n):Ao n d=some (b8 d):=WJ h hn
theorem agl l:oU l=some l:=by simp[oU]
def dg:List Nat->Nat
 |[]=>1
 |c::cs=>(c+1)*dg cs
theorem Ns:∀cs,0<dg cs
 |[]=>by simp[dg]
 |c::cs=>Nat.mul_pos (by omega) (Ns cs)
theorem WN b:∀a,dg (a++b)=dg a*dg b
 |[]=>by simp[dg]
 |c::cs=>by simp[dg,WN b cs,Nat.mul_assoc]
theorem Nt:∀a,dg a.reverse=dg a
 |[]=>rfl
 |c::cs=>by simp[dg,WN,Nt cs,Nat.mul_comm]
theorem amq l (h:dg (l.map ip)<=2001) (hL:l.length<=1000000) (hl:l.length<n):Aj n l=some false:=by
 have main:∀r (k a fuel:Nat),l.drop k=r->a*dg (r.map ip)<=2001->0<a->r.length<fuel->iter (pJ l) fuel (a,k)=some (.inl ()):=by
  intro r
  induction r with
  |nil=>
   intro k a fuel hk ha h0 hf;obtain⟨f,rfl⟩:∃f,fuel=f+1:=⟨fuel-1,by omega⟩;refine bW ?_;have:l.length<=k:=List.drop_eq_nil_iff.1 hk;simp only[pJ];rw[show decide ((k:Int)<l.length)=false by simp;omega];rfl
  |cons v r ih=>
   intro k a fuel hk ha h0 hf;obtain⟨f,rfl⟩:∃f,fuel=f+1:=⟨fuel-1,by omega⟩;have hlt:k<l.length:=(by rcases Nat.lt_or_ge k l.length with h|h;exact h;rw[List.drop_eq_nil_of_le h]at hk;cases hk);have hv:l[k]? =some v:=(by have:(l.drop k)[0]? =some v:=(by rw[hk];rfl);simpa using this);have hk':l.drop (k+1)=r:=(by rw[<- List.drop_drop,hk];rfl);have hp:=Ns (r.map ip);have ha2:a*(ip v+1)*dg (r.map ip)<=2001:=(by rw[Nat.mul_assoc];exact ha);have C0:a*(ip v+1)<=2001:=Nat.le_trans (Nat.le_mul_of_pos_right _ hp) ha2;have e:(a*(kh v+1))=(a*(ip v+1):Nat):=(by simp[CR]);have hfl:=PW v;have step:pJ l (a,k)=some (.inl ((a*(ip v+1):Nat),(k+1:Nat))):=(by simp only[pJ];rw[show decide ((k:Int)<l.length)=true by simp;omega,aj,AO,hv];simp only[ai,CQ];rw[aO (x:=kh v+1),e,aO (by omega) (by omega),show decide (((a*(ip v+1):Nat):Int)>2001)=false by simp only[dM];omega,ay,aQ (by omega)]);rw[dI step];exact ih (k+1) _ f hk' ha2 (Nat.mul_pos h0 (by omega)) (by simp at hf;omega)
 unfold Aj;have:=main l 0 1 n (by simp) (by omega) (by omega) hl;have e0:((0:Nat):Int)=0:=rfl;have e1:((1:Nat):Int)=1:=rfl;rw[e0,e1]at this;rw[this];rfl
def t6:List Nat->List Nat->Option (List Nat)
 |c::cs,x::xs=>if x=c then(t6 cs xs).map (0:: ·)else some ((x+1)::xs)
 |_,_=>none
def Nu:List Nat->List Nat->Nat
 |c::cs,x::xs=>x+(c+1)*Nu cs xs
 |_,_=>0
def ir:List Nat->List Nat->Prop
 |c::cs,x::xs=>x<=c/\ir cs xs
 |[],[]=>True
 |_,_=>False
theorem ir.length:∀{cs xs:List Nat},ir cs xs->xs.length=cs.length
 |[],[],_=>rfl
 |c::cs,x::xs,h=>by simp[ir.length h.2]
 |[],_::_,h|_::_,[],h=>h.elim
theorem agm:∀{cs xs:List Nat},ir cs xs->Nu cs xs<dg cs
 |[],[],_=>by simp[Nu,dg]
 |c::cs,x::xs,h=>by have:=agm h.2;have h1:=h.1;simp[Nu,dg];have:(c+1)*(Nu cs xs+1)<=(c+1)*dg cs:=Nat.mul_le_mul_left _ this;rw[Nat.mul_add]at this;omega
 |[],_::_,h|_::_,[],h=>h.elim
theorem ale:∀{cs xs:List Nat},ir cs xs->(∀ ys,t6 cs xs=some ys->ir cs ys/\Nu cs ys=Nu cs xs+1)/\(t6 cs xs=none->Nu cs xs+1=dg cs)
 |[],[],_=>⟨λ ys h=>(by cases h),λ_=>rfl⟩
 |c::cs,x::xs,h=>by have⟨i1,i2⟩:=ale h.2;have h1:=h.1;simp[t6];by_cases hx:x=c;rw[aX hx];constructor;intro ys hy;obtain⟨zs,hz,rfl⟩:=jI.1 hy;have⟨j1,j2⟩:=i1 zs hz;refine⟨⟨Nat.zero_le _,j1⟩,?_⟩;simp[Nu,j2,Nat.mul_add];omega;intro hn;have:=i2 (Option.map_eq_none_iff.1 hn);simp[Nu,dg,<- this,Nat.mul_add];omega;rw[aU hx];constructor;intro ys hy;cases hy;refine⟨⟨by omega,h.2⟩,?_⟩;simp[Nu];omega;intro hn;cases hn
 |[],_::_,h|_::_,[],h=>h.elim
def toI(l:List Nat):List Int:=l.map λ(k:Nat)=>k
theorem step_eq x l0:∀(ys zs:List Nat)(vs ws:List aD)(fuel:Nat),ir (vs.map ip) ys->x=vs.reverse++ws->l0.length=ys.length+zs.length->l0.length<=1000000->ys.length<fuel->
 (iter (dX x l0) fuel ((ys.length:Nat)-1,toI (ys.reverse++zs))).bind (λ (w1,w2)=>(bif (decide (w1<0))then some (Sum.inr ())else(ck (co w1 l0.length) ((bu w2 ((0:Nat)+w1:Int)).bind λx4=>ck (co w1 l0.length) ((bu w2 ((0:Nat)+w1:Int)).bind λ_=>ck (aE l0.length (w2.set ((0:Nat)+w1:Int).toNat (i64.wrap (x4+1))).length) (some (.inl (w2.set ((0:Nat)+w1:Int).toNat (i64.wrap (x4+1)))))))):Option (List Int⊕Unit)))=some (match t6 (vs.map ip) ys with|none=>.inr ()|some r=>.inl (toI (r.reverse++zs)))
 |[],zs,vs,ws,fuel,hf,hx,hl,hL,hn=>by
  obtain⟨f,rfl⟩:∃f,fuel=f+1:=⟨fuel-1,by omega⟩;have:vs=[]:=by
   cases vs with
   |nil=>rfl
   |cons v vs=>exact hf.elim
  subst this;have e:dX x l0 ((([]:List Nat).length:Nat)-1,toI ([].reverse++zs))=some (.inr (-1,toI zs)):=by simp[dX]
  rfl
 |y::ys,zs,vs,ws,fuel,hf,hx,hl,hL,hn=>by
  obtain⟨f,rfl⟩:∃f,fuel=f+1:=⟨fuel-1,by omega⟩;obtain⟨v,vs,rfl⟩:∃v vt,vs=v::vt:=by
   cases vs with
   |nil=>exact hf.elim
   |cons v vs=>exact⟨v,vs,rfl⟩
  have hlen:=hf.2.length;have hi:(((y::ys).length:Nat):Int)-1=(ys.length:Nat):=by simp
  have hin:co (ys.length:Nat) l0.length=true:=aW (by omega);have hat:bu (toI ((y::ys).reverse++zs)) ((0:Nat)+(ys.length:Nat))=some (y:Int):=by exact oJ (U:=toI ys.reverse) (V:=toI zs) (by simp[toI]) (by simp[toI])
  have Kd:bu x (ys.length:Nat)=some v:=by exact oJ (U:=vs.reverse) (V:=ws) (by rw[hx];simp) (by simp[hlen])
  have hset:∀z:Int,(toI ((y::ys).reverse++zs)).set (((0:Nat):Int)+(ys.length:Nat)).toNat z=toI ys.reverse++z::toI zs:=λz=>by exact vJ (U:=toI ys.reverse) (V:=toI zs) (x:=y) (by simp[toI]) (by simp[toI])
  have hge:decide ((ys.length:Nat)>=0)=true:=by simp
  have hy1:=hf.1;have hfl:=agk v;rw[hi];simp only[bH,t6];by_cases B5:y=ip v;rw[aX B5];have hw:i64.wrap ((ys.length:Nat)-1)=(ys.length:Nat)-1:=aO (by omega) (by omega);have step:dX x l0 ((ys.length:Nat),toI ((y::ys).reverse++zs))=some (.inl ((ys.length:Nat)-1,toI (ys.reverse++(0::zs)))):=by simp only[dX,hge,aj,hin,hat,Kd,ai,CQ,hset,hw];rw[show (y==kh v)=true by rw[beq_iff_eq,B5,CR]];simp[toI]
  rw[dI step];have ih:=step_eq x l0 ys (0::zs) vs (v::ws) f hf.2 (by rw[hx];simp) (by simp;omega) hL (by omega);rw[ih];cases t6 (vs.map ip) ys with
  |none=>rfl
  |some r=>simp
  rw[aU B5];have e:dX x l0 ((ys.length:Nat),toI ((y::ys).reverse++zs))=some (.inr ((ys.length:Nat),toI ((y::ys).reverse++zs))):=by simp only[dX,hge,aj,hin,hat,Kd,ai,CQ];rw[show (y==kh v)=false by rw[beq_eq_false_iff_ne,<- CR];omega];rfl
  rw[bW e];simp only[ai];rw[show decide ((ys.length:Int)<0)=false by simp only[dM];omega,hin,hat];simp;have hw:i64.wrap (y+1)=(y+1:Nat):=aQ (by omega);rw[hw,qw (by simp[toI];omega)];simp[toI]
theorem ad7 r1 r2:∀(ys zs:List Nat)(vs ws:List aD)(fuel:Nat),ir (vs.map ip) ys->r1=vs.reverse++ws->r2.length=ys.length+zs.length->r2.length<=1000000->ys.length<fuel->
 iter (pO r1 r2) fuel ((ys.length:Nat)-1,toI (ys.reverse++zs))=some (match t6 (vs.map ip) ys with|none=>.inl ()|some r=>.inr (toI (r.reverse++zs)))
 |[],zs,vs,ws,fuel,hf,hx,hl,hL,hn=>by
  obtain⟨f,rfl⟩:∃f,fuel=f+1:=⟨fuel-1,by omega⟩;have:vs=[]:=by
   cases vs with
   |nil=>rfl
   |cons v vs=>exact hf.elim
  subst this;have e:pO r1 r2 ((([]:List Nat).length:Nat)-1,toI ([].reverse++zs))=some (.inr (.inl ())):=by simp[pO]
  rfl
 |y::ys,zs,vs,ws,fuel,hf,hx,hl,hL,hn=>by
  obtain⟨f,rfl⟩:∃f,fuel=f+1:=⟨fuel-1,by omega⟩;obtain⟨v,vs,rfl⟩:∃v vt,vs=v::vt:=by
   cases vs with
   |nil=>exact hf.elim
   |cons v vs=>exact⟨v,vs,rfl⟩
  have hlen:=hf.2.length;simp at hlen hl hn;have hi:(((y::ys).length:Nat):Int)-1=(ys.length:Nat):=by simp
  have hin:co (ys.length:Nat) r2.length=true:=aW (by omega);have hin1:co (ys.length:Nat) r1.length=true:=aW (by rw[hx];simp;omega);have hat:bu (toI ((y::ys).reverse++zs)) ((0:Nat)+(ys.length:Nat))=some (y:Int):=by exact oJ (U:=toI ys.reverse) (V:=toI zs) (by simp[toI]) (by simp[toI])
  have Kd:bu r1 ((0:Nat)+(ys.length:Nat))=some v:=by exact oJ (U:=vs.reverse) (V:=ws) (by rw[hx];simp) (by simp[hlen])
  have hset:∀z:Int,(toI ((y::ys).reverse++zs)).set (((0:Nat):Int)+(ys.length:Nat)).toNat z=toI ys.reverse++z::toI zs:=λz=>by exact vJ (U:=toI ys.reverse) (V:=toI zs) (x:=y) (by simp[toI]) (by simp[toI])
  have hge:decide ((ys.length:Nat)>=0)=true:=by simp
  have hy1:=hf.1;have hfl:=agk v;rw[hi];simp only[bH,t6];by_cases B5:y=ip v;rw[aX B5];have hw:i64.wrap ((ys.length:Nat)-1)=(ys.length:Nat)-1:=aO (by omega) (by omega);have step:pO r1 r2 ((ys.length:Nat),toI ((y::ys).reverse++zs))=some (.inl ((ys.length:Nat)-1,toI (ys.reverse++(0::zs)))):=by simp only[pO,hge,aj,hin,hin1,hat,Kd,ai,A9,hset,hw];rw[show decide (y<kh v)=false by rw[B5,CR];simp];simp[toI]
  rw[dI step];have ih:=ad7 r1 r2 ys (0::zs) vs (v::ws) f hf.2 (by rw[hx];simp) (by simp;omega) hL (by omega);rw[ih];cases t6 (vs.map ip) ys with
  |none=>rfl
  |some r=>simp
  rw[aU B5];refine(bW ?_).trans rfl;simp only[pO,hge,aj,hin,hin1,hat,Kd,ai,A9,hset];rw[show decide (y<kh v)=true by rw[bF,<- CR];omega];have hw:i64.wrap (y+1)=(y+1:Nat):=aQ (by omega);have hr:r2.length=(toI ys.reverse++((y+1:Nat):Int)::toI zs).length:=by simp[toI];omega
  rw[hw,hr,iP];simp[toI]
def ri(cs l:List Nat):Option (List Nat):=(t6 cs.reverse l.reverse).map List.reverse
def fits(cs l:List Nat):Prop:=ir cs.reverse l.reverse
theorem fits.length{cs l:List Nat}(h:fits cs l):l.length=cs.length:=by have:=ir.length h;simpa using this
def caps(d:aG):List Nat:=(b8 d).map ip
theorem Nv(l:List aD):(l.map ip).reverse=l.reverse.map ip:=by simp
theorem amr{d:aG}{l:List Nat}(hd:yR d)(hf:fits (caps d) l)(hn:1000002<=n):H7 n d (toI l)=some (match ri (caps d) l with|none=>[]|some r=>toI r):=by
 have hvl:=uY hd;have hlen:l.length=(b8 d).length:=by have:=hf.length;simpa[caps]using this
 unfold H7;rw[ad6 hd (by omega)];have hl:(toI l).length=l.length:=by simp[toI]
 have hap:bL ([]:List Int).length 0 (toI l).length (toI l).length 8=true:=by
  have h1:(toI l).length<=1000000:=by rw[hl,hlen];exact hvl
  have hmx:maxLen=9223372036854775807:=rfl;simp;omega
 simp only[ai,hap,aj,gD,fJ];have w:i64.wrap (((toI l).length:Nat)-1)=(l.reverse.length:Nat)-1:=by rw[hl];simp;exact aO (by omega) (by omega)
 have hf':ir ((b8 d).reverse.map ip) l.reverse:=by rw[<- Nv];exact hf
 have:=ad7 (b8 d) (toI l) l.reverse [] (b8 d).reverse [] n hf' (by simp) (by simp[toI]) (by omega) (by simp;omega);simp only[List.reverse_reverse,append_nil]at this;rw[w,this];unfold ri caps;rw[Nv];cases t6 ((b8 d).reverse.map ip) l.reverse with
 |none|some r=>rfl
theorem amQ{d:aG}{l:List Nat}(hd:yR d)(hf:fits (caps d) l)(hn:1000002<=n):kX n (b8 d) (toI l)=some (match ri (caps d) l with|none=>.inr ()|some r=>.inl (toI r)):=by
 have hvl:=uY hd;have hlen:l.length=(b8 d).length:=by have:=hf.length;simpa[caps]using this
 have hl:(toI l).length=l.length:=by simp[toI]
 have w:i64.wrap (((toI l).length:Nat)-1)=(l.reverse.length:Nat)-1:=by rw[hl];simp;exact aO (by omega) (by omega)
 have hf':ir ((b8 d).reverse.map ip) l.reverse:=by rw[<- Nv];exact hf
 have:=step_eq (b8 d) (toI l) l.reverse [] (b8 d).reverse [] n hf' (by simp) (by simp[toI]) (by omega) (by simp;omega);simp only[List.reverse_reverse,append_nil]at this;unfold kX;rw[w];refine this.trans ?_;unfold ri caps;rw[Nv];cases t6 ((b8 d).reverse.map ip) l.reverse with
 |none|some r=>rfl
def uI(cs:List Nat):Nat->List Nat->List (List Nat)
 | 0,l=>[l]
 |k+1,l=>match ri cs l with
  |none=>[l]
  |some l'=>l::uI cs k l'
def RZ(cs l:List Nat):Nat:=Nu cs.reverse l.reverse
theorem EP{cs l:List Nat}(h:fits cs l):(∀ r,ri cs l=some r->fits cs r/\RZ cs r=RZ cs l+1)/\(ri cs l=none->RZ cs l+1=dg cs):=by have⟨h1,h2⟩:=ale h;refine⟨λ r hr=>?_,λhn=>?_⟩;obtain⟨q,hq,rfl⟩:=jI.1 hr;have:=h1 q hq;exact⟨by unfold fits;rw[List.reverse_reverse];exact this.1,by unfold RZ;rw[List.reverse_reverse];exact this.2⟩;have:=h2 (Option.map_eq_none_iff.1 hn);rw[Nt]at this;exact this
theorem u7{cs:List Nat}:∀(k:Nat) l,fits cs l->∀y∈uI cs k l,fits cs y/\RZ cs l<=RZ cs y
 | 0,l,h,y,hy=>by simp[uI]at hy;subst hy;exact⟨h,ax _⟩
 |k+1,l,h,y,hy=>by
  simp[uI]at hy;cases hn:ri cs l with
  |none=>rw[hn]at hy;simp at hy;subst hy;exact⟨h,ax _⟩
  |some r=>
   rw[hn]at hy;have⟨g1,g2⟩:=(EP h).1 r hn;rcases aR.1 hy with rfl|hy;exact⟨h,ax _⟩;have:=u7 k r g1 y hy;exact⟨this.1,by omega⟩
theorem Iw{cs:List Nat}:∀(k:Nat) l,fits cs l->(uI cs k l).Nodup
 | 0,l,h=>by simp[uI]
 |k+1,l,h=>by
  simp[uI];cases hn:ri cs l with
  |none=>simp
  |some r=>
   have⟨g1,g2⟩:=(EP h).1 r hn;simp;refine⟨λ hm=>?_,Iw k r g1⟩;have:=(u7 k r g1 l hm).2;omega
theorem ad8 cs (k:Nat) l:∃t,uI cs k l=l::t:=by
 cases k with
 |zero=>exact⟨_,rfl⟩
 |succ k=>
  simp[uI];cases ri cs l with
  |none|some r=>exact⟨_,rfl⟩
theorem ahW{d:aG}(hd:yR d)(hn:1000002<=n):∀(k m:Nat) l,fits (caps d) l->RZ (caps d) l+k+1=dg (caps d)->k<m->AM (kX n (b8 d)) m (toI l)=some ((uI (caps d) k l).map toI)
 | 0,m,l,hf,hv,hm=>by
  obtain⟨m,rfl⟩:∃q,m=q+1:=⟨m-1,by omega⟩;simp[AM,amQ hd hf hn];cases hx:ri (caps d) l with
  |none=>rfl
  |some r=>
   have:=(EP hf).1 r hx;have h2:=agm this.1;rw[Nt]at h2;unfold RZ at this hv;omega
 |k+1,m,l,hf,hv,hm=>by
  obtain⟨m,rfl⟩:∃q,m=q+1:=⟨m-1,by omega⟩;simp[AM,amQ hd hf hn,uI];cases hx:ri (caps d) l with
  |none=>
   have:=(EP hf).2 hx;omega
  |some r=>
   have⟨g1,g2⟩:=(EP hf).1 r hx;simp only[ai];rw[ahW hd hn k m r g1 (by omega) (by omega)];rfl
def kS(d:aG):List Nat:=List.replicate (b8 d).length 0
theorem ZX:∀cs:List Nat,ir cs (List.replicate cs.length 0)
 |[]=>trivial
 |_::cs=>⟨Nat.zero_le _,ZX cs⟩
theorem val_zero:∀cs:List Nat,Nu cs (List.replicate cs.length 0)=0
 |[]=>rfl
 |c::cs=>by simp[List.replicate_succ,Nu,val_zero cs]
theorem yS(d:aG):fits (caps d) (kS d)/\RZ (caps d) (kS d)=0:=by
 have e:(kS d).reverse=List.replicate (caps d).reverse.length 0:=by simp[kS,caps]
 unfold fits RZ;rw[e];exact⟨ZX _,val_zero _⟩
def jO(d:aG):List (List Nat):=uI (caps d) (dg (caps d)-1) (kS d)
theorem aby{d:aG}(hd:yR d)(hn:1000002<=n)(ht:dg (caps d)<=n):jN n (b8 d)=some ((jO d).map toI):=by
 have hvl:=uY hd;have hz:=yS d;have hp:=Ns (caps d);have h0:oI (b8 d)=some (toI (kS d)):=by
  have hmx:maxLen=9223372036854775807:=rfl;have hk:uy ((b8 d).length:Nat) 8=true:=by simp[uy];omega
  simp[oI,hk];simp[toI,kS]
 unfold jN Pl;rw[h0];simp;rw[ahW hd hn (dg (caps d)-1) n (kS d) hz.1 (by omega) (by omega)];simp only[ai];rw[aX];rfl;intro y hy;obtain⟨l,hl,rfl⟩:=mem_map.1 hy;have:=(u7 _ _ hz.1 l hl).1.length;exact RJ (by simp[toI];simp[caps]at this;omega)
theorem drop_at{α:Type}{l r:List α}{v:α}{k:Nat}(h:l.drop k=v::r):l[k]? =some v/\k<l.length/\l.drop (k+1)=r:=by
 have h0:(l.drop k)[0]? =some v:=by rw[h];rfl
 have h1:l[k]? =some v:=by simpa using h0
 refine⟨h1,(cZ.1 h1).1,by rw[<- List.drop_drop,h];rfl⟩
theorem ahX{d:aG}{v2:Nat}{p:fA}(hp:d.phases[v2]? =some p):∀r (k a fuel:Nat),p.az.drop k=r->a<=2001->p.az.length<=1000000->r.length<fuel->
 iter (pK d v2) fuel (a,k)=some (.inr (.inr (.inr 2001)))\/(iter (pK d v2) fuel (a,k)=some (.inl (a*dg (r.map ip):Nat))/\a*dg (r.map ip)<=2001)
 |[],k,a,fuel,hk,ha,hl,hf=>by obtain⟨f,rfl⟩:∃f,fuel=f+1:=⟨fuel-1,by omega⟩;have:p.az.length<=k:=List.drop_eq_nil_iff.1 hk;refine .inr ⟨bW ?_,by simpa[dg]using ha⟩;simp only[pK,AO,hp,ai];rw[show decide ((k:Int)<p.az.length)=false by simp;omega];simp[dg]
 |v::r,k,a,fuel,hk,ha,hl,hf=>by
  obtain⟨f,rfl⟩:∃f,fuel=f+1:=⟨fuel-1,by omega⟩;obtain⟨h1,h2,h3⟩:=drop_at hk;have hfl:=PW v;have hfn:=agk v;have e:(a*(kh v+1))=(a*(ip v+1):Nat):=by simp[CR]
  have hb:a*(ip v+1)<=2001*1367:=Nat.mul_le_mul ha (by omega);have base:pK d v2 (a,k)=bif decide (((a*(ip v+1):Nat):Int)>2001)then some (.inr (.inr (.inr (.inr 2001))))else some (.inl ((a*(ip v+1):Nat),(k+1:Nat))):=by simp only[pK,AO,hp,ai];rw[show decide ((k:Int)<p.az.length)=true by simp;omega,h1];simp[A9];rw[aO (x:=kh v+1),e,aO (by omega) (by omega),aQ (by omega)];rfl
  by_cases hgt:2001<a*(ip v+1);refine .inl (bW ?_);rw[base,show decide (((a*(ip v+1):Nat):Int)>2001)=true by simp only[bF];omega];rfl;have step:pK d v2 (a,k)=some (.inl ((a*(ip v+1):Nat),(k+1:Nat))):=by rw[base,show decide (((a*(ip v+1):Nat):Int)>2001)=false by simp only[dM];omega];rfl
  rw[dI step];have:=ahX hp r (k+1) (a*(ip v+1)) f h3 (by omega) hl (by simp at hf;omega);simpa[dg,Nat.mul_assoc]using this
theorem ahY{d:aG}(hd:yR d)(hn:1000002<=n):∀r (k a fuel:Nat),d.phases.drop k=r->a<=2001->r.length<fuel->
 iter (pM n d) fuel (a,k)=some (.inr 2001)\/(iter (pM n d) fuel (a,k)=some (.inl ((a*dg ((r.flatMap (·.az)).map ip):Nat):Int))/\a*dg ((r.flatMap (·.az)).map ip)<=2001)
 |[],k,a,fuel,hk,ha,hf=>by obtain⟨f,rfl⟩:∃f,fuel=f+1:=⟨fuel-1,by omega⟩;have:d.phases.length<=k:=List.drop_eq_nil_iff.1 hk;refine .inr ⟨bW ?_,by simpa[dg]using ha⟩;simp only[pM];rw[show decide ((k:Int)<d.phases.length)=false by simp;omega];simp[dg]
 |p::r,k,a,fuel,hk,ha,hf=>by
  obtain⟨f,rfl⟩:∃f,fuel=f+1:=⟨fuel-1,by omega⟩;obtain⟨h1,h2,h3⟩:=drop_at hk;have hpl:=hd.2 p (bX h1);have hph:=hd.1;have e0:((0:Nat):Int)=0:=rfl;have hs:=ahX h1 p.az 0 a n (by simp) ha (by omega) (by omega);rw[e0]at hs;have hcond:decide ((k:Int)<d.phases.length)=true:=by simp;omega
  rcases hs with hs|⟨hs,hle⟩;refine .inl (bW ?_);simp only[pM,hcond,aj,hs];rfl;have step:pM n d (a,k)=some (.inl ((a*dg (p.az.map ip):Nat),(k+1:Nat))):=by simp only[pM,hcond,aj,hs,iJ];rw[aQ (by omega)]
  rw[dI step];have:=ahY hd hn r (k+1) (a*dg (p.az.map ip)) f h3 hle (by simp at hf;omega);simpa[WN,Nat.mul_assoc]using this
theorem ams{d:aG}(hd:yR d)(hn:1000002<=n):∃r,M4 n d=some r/\(r<=60->dg (caps d)<=61):=by have hph:=hd.1;have hs:=ahY hd hn d.phases 0 1 n (by simp) (by omega) (by omega);have e0:((0:Nat):Int)=0:=rfl;have e1:((1:Nat):Int)=1:=rfl;rw[e0,e1]at hs;unfold M4;rcases hs with hs|⟨hs,hle⟩;rw[hs];exact⟨2001,rfl,λh=>by omega⟩;rw[hs];refine⟨_,rfl,λh=>?_⟩;rw[aO (by omega) (by omega)]at h;show dg ((d.phases.flatMap (·.az)).map ip)<=61;omega
theorem amt(a b:List Int)(ha:a.length<=1000000)(hn:1000002<=n):M5 n (aC.mk a 0) (aC.mk b 0)=some (decide (a=b)):=by
 unfold M5;simp;by_cases hl:a.length=b.length;have hne:(a.length !=b.length)=false:=by simp[hl]
 obtain⟨o,g1,g2⟩:=eO (step:=Ap (aC.mk a 0) (aC.mk b 0)) (λ i v=>v=i/\i<=a.length/\a.take i=b.take i) (λ o=>(o=.inr false/\a≠b)\/(o=.inl ()/\a=b)) a.length (λ k v h=>h.2.1) (by
  rintro i v ⟨rfl,hi,hall⟩;by_cases hlt:i<a.length;have hlb:i<b.length:=by omega
  simp only[Ap,show decide ((i:Int)<a.length)=true from by simp;omega,aj,bE hlt,bE hlb,ai,aY i];by_cases he:a[i]=b[i];refine .inl ⟨_,by rw[he];simp,rfl,hlt,?_⟩;rw[List.take_add_one,List.take_add_one,dD hlt,dD hlb,hall,he];refine .inr ⟨_,by rw[show (a[i] !=b[i])=true by simpa using he];rfl,.inl ⟨rfl,λe=>he (by subst e;rfl)⟩⟩;refine .inr ⟨.inl (),?_,.inr ⟨rfl,?_⟩⟩;simp only[Ap,show decide ((i:Int)<a.length)=false from by simp;omega,ay]
  rwa [take_of_length_le (by omega),take_of_length_le (by omega)]at hall) n 0 0 ⟨rfl,Nat.zero_le _,by simp⟩ (by omega)
 rcases g2 with ⟨rfl,g2⟩|⟨rfl,g2⟩;rw[g1];simp[g2];rw[g1];simp[g2];have hne:((a.length:Int) !=b.length)=true:=by simpa using λe:(a.length:Int)=b.length=>hl (by omega)
 have:a≠b:=λe=>hl (by rw[e]);rw[hne];simp[this]
theorem Au{l:List bD}(h:l.length<=1000):yL l=some l:=zW (b:=24) (by omega) (by simp[maxLen];omega)
def cutV(v:aD)(k:Int):aD:=bif decide (k>0)then aD.mk v.bj v.bz v.be v.bx v.cx (v.cx+3*(kh v-k)) v.use v.units v.extra else v
def yd:List aD->List Int->Option (List aD×Int)
 |[],_=>some ([],0)
 |v::vs,k::ks=>bif decide (k<0) || decide (k>kh v)then none else(yd vs ks).map λr=>(bif decide (k<kh v)then cutV v k::r.1 else r.1,k*oV (dY v)+r.2)
 |_::_,[]=>none
def Yp:List fA->List Int->Option (List fA×Int)
 |[],_=>some ([],0)
 |p::ps,l=>(yd p.az (l.take p.az.length)).bind λr=>(Yp ps (l.drop p.az.length)).map λq=>(fA.mk r.1 p.gives::q.1,r.2+q.2)
theorem ahZ{v:aD}(h:okV v=true):0<=oV (dY v)/\oV (dY v)<=1099511627776:=by have:=Ar (Ip h);omega
theorem PY:∀vs l (r:List aD×Int),(∀ v∈vs,okV v=true)->yd vs l=some r->0<=r.2/\r.2<=vs.length*1501933683542016/\r.1.length<=vs.length
 |[],l,r,_,h=>by cases h;simp
 |v::vs,[],r,_,h=>by cases h
 |v::vs,k::ks,r,hv,h=>by
  simp[yd]at h;cases hc:(decide (k<0) || decide (k>kh v))with
  |true=>rw[hc]at h;cases h
  |false=>
   rw[hc]at h;obtain⟨q,hq,rfl⟩:=jI.1 h;obtain⟨h1,h2,h3⟩:=PY vs ks q (λ x hx=>hv x (by simp[hx])) hq;obtain⟨a1,a2⟩:=ahZ (hv v (by simp));have hfl:=PW v;simp at hc;have hk0:0<=k:=(by omega);have hk1:k<=1366:=(by omega);have e1:0<=k*oV (dY v):=Int.mul_nonneg hk0 a1;have e2:k*oV (dY v)<=1366*1099511627776:=Int.mul_le_mul hk1 a2 a1 (by omega);refine⟨by omega,by simp;omega,?_⟩;cases decide (k<kh v)<;>simp<;>omega
theorem ZY{l:List Int}{p:fA}:∀r (j at':Nat) (c:Int) an (fuel:Nat),p.az.drop j=r->p.az.length<=1000->(∀ v∈r,okV v=true)->at'+r.length<=l.length->l.length<=1000000->0<=c->c+r.length*1501933683542016<=4611686018427387904->an.length+r.length<=1000->r.length<fuel->
 iter (kH l p) fuel (c,at',j,p.gives,an)=some (match yd r ((l.drop at').take r.length)with
  |none=>.inr (.inr (.inr (aG.mk 0 [],0,1)))
  |some q=>.inl (c+q.2,(at'+r.length:Nat),p.gives,an++q.1))
 |[],j,at',c,an,fuel,hj,hp,hv,ha,hl,hc,hcm,hacc,hf=>by obtain⟨f,rfl⟩:∃f,fuel=f+1:=⟨fuel-1,by omega⟩;have:p.az.length<=j:=List.drop_eq_nil_iff.1 hj;refine(bW ?_).trans rfl;simp only[kH];rw[show decide ((j:Int)<p.az.length)=false by simp;omega];simp[yd]
 |v::r,j,at',c,an,fuel,hj,hp,hv,ha,hl,hc,hcm,hacc,hf=>by
  obtain⟨f,rfl⟩:∃f,fuel=f+1:=⟨fuel-1,by omega⟩;obtain⟨h1,h2,h3⟩:=drop_at hj;simp at ha hacc hf;have hlt:at'<l.length:=by omega
  have hk:=dD hlt;obtain⟨k,hkd⟩:∃k,l[at']=k:=⟨_,rfl⟩;rw[hkd]at hk;have htk:(l.drop at').take (v::r).length=k::(l.drop (at'+1)).take r.length:=by rw[List.drop_eq_getElem_cons hlt,hkd];simp
  rw[htk];have GG:=hv v (by simp);have⟨a1,a2⟩:=ahZ GG;have hfl:=PW v;have hAr:uT (au.mk v.bj v.bz v.be v.bx)=some (oV (dY v)):=ZO (Ip GG);have hcond:decide ((j:Int)<p.az.length)=true:=by simp;omega
  have hbad:((bif decide (k<0)then some true else some (decide (k>kh v))):Option Bool)=some (decide (k<0) || decide (k>kh v)):=bO _ _;simp[yd];cases hc0:(decide (k<0) || decide (k>kh v))with
  |true=>
   refine(bW ?_).trans rfl;simp only[kH,hcond,aj,AO,h1,hk,ai,CQ,hbad,hc0];rfl
  |false=>
   simp at hc0;have hk0:0<=k:=(by omega);have e1:0<=k*oV (dY v):=Int.mul_nonneg hk0 a1;have e2:k*oV (dY v)<=1366*1099511627776:=Int.mul_le_mul (by omega) a2 a1 (by omega);simp at hcm;have w1:i64.wrap (k*oV (dY v))=k*oV (dY v):=aO (by omega) (by omega);have w2:i64.wrap (c+k*oV (dY v))=c+k*oV (dY v):=aO (by omega) (by omega);have⟨z1,z2,z3⟩:=RW GG;have w3:i64.wrap (v.cx+i64.wrap (3*i64.wrap (kh v-k)))=v.cx+3*(kh v-k):=(by rw[aO (x:=kh v-k),aO (x:=3*(kh v-k)),aO (by omega) (by omega)]);have step:kH l p (c,at',j,p.gives,an)=some (.inl (c+k*oV (dY v),(at'+1:Nat),(j+1:Nat),p.gives,an++(bif decide (k<kh v)then [cutV v k]else []))):=(by have hmx:maxLen=9223372036854775807:=rfl;have hap:∀x:aD,bL an.length an.length (sub [x] 0 1).length 1 72=true:=λx=>(by simp[bL,sub];omega);simp only[kH,hcond,aj,AO,h1,hk,ai,CQ,hbad,hAr,w1,w2,w3,aQ (show at'<9223372036854775807 by omega),aY j,hap,gD,aN];rw[show (decide (k<0) || decide (k>kh v))=false by simp;omega];by_cases hkp:k>0<;>by_cases hkf:k<kh v<;>simp[hkp,hkf,cutV,sub]);rw[dI step];have ih:=ZY (l:=l) (p:=p) r (j+1) (at'+1) (c+k*oV (dY v)) (an++(bif decide (k<kh v)then [cutV v k]else [])) f h3 hp (λ x hx=>hv x (by simp[hx])) (by omega) hl (by omega) (by omega) (by cases decide (k<kh v)<;>simp<;>omega) (by omega);rw[ih];cases hq:yd r ((l.drop (at'+1)).take r.length)with
   |none=>rfl
   |some q=>
    have e3:(at'+1+r.length:Nat)=(at'+(v::r).length:Nat):=(by simp;omega);simp[e3];rw[show c+k*oV (dY v)+q.2=c+(k*oV (dY v)+q.2)by omega];cases decide (k<kh v)<;>simp
theorem Z0{d:aG}{l:List Int}(hn:1000002<=n)(hl:l.length<=1000000)(hg:AD d)(hdl:d.phases.length<=1000) vx:∀r (j at':Nat) (c:Int) an (fuel:Nat),d.phases.drop j=r->(∀ v∈r.flatMap (·.az),okV v=true)->at'+(r.flatMap (·.az)).length<=l.length->0<=c->(r.flatMap (·.az)).length<=1000->c+(r.flatMap (·.az)).length*1501933683542016<=4611686018427387904->an.length+r.length<=1000->r.length<fuel->
 iter (kI n d l) fuel (c,at',j,vx,an)=some (match Yp r (l.drop at')with
  |none=>.inr (aG.mk 0 [],0,1)
  |some q=>.inl (c+q.2,vx,an++q.1))
 |[],j,at',c,an,fuel,hj,hv,ha,hc,hvl,hcm,hacc,hf=>by obtain⟨f,rfl⟩:∃f,fuel=f+1:=⟨fuel-1,by omega⟩;have:d.phases.length<=j:=List.drop_eq_nil_iff.1 hj;refine(bW ?_).trans rfl;simp only[kI];rw[show decide ((j:Int)<d.phases.length)=false by simp;omega];simp[Yp]
 |p::r,j,at',c,an,fuel,hj,hv,ha,hc,hvl,hcm,hacc,hf=>by
  obtain⟨f,rfl⟩:∃f,fuel=f+1:=⟨fuel-1,by omega⟩;obtain⟨h1,h2,h3⟩:=drop_at hj;simp only[List.flatMap_cons,fO,gH]at ha hvl hcm hacc hf;have hgl:=hg p (bX h1);have hs:=ZY (l:=l) (p:=p) p.az 0 at' c [] n (by simp) (by omega) (λ v hm=>hv v (by simp[hm])) (by omega) hl hc (by omega) (by simp;omega) (by omega);have e0:((0:Nat):Int)=0:=rfl;rw[e0]at hs;have hcond:decide ((j:Int)<d.phases.length)=true:=by simp;omega
  have hnil:aE 0 ([]:List aD).length=true:=rfl;simp[Yp];cases hq:yd p.az ((l.drop at').take p.az.length)with
  |none=>
   rw[hq]at hs;refine(bW ?_).trans rfl;simp only[kI,hcond,aj,AO,h1,ai,Au hgl,hnil,aN,hs];rfl
  |some q=>
   rw[hq]at hs;obtain⟨c1,c2,c3⟩:=PY p.az _ q (λ v hm=>hv v (by simp[hm])) hq;have step:kI n d l (c,at',j,vx,an)=some (.inl (c+q.2,(at'+p.az.length:Nat),(j+1:Nat),vx,an++[fA.mk q.1 p.gives])):=(by have hmx:maxLen=9223372036854775807:=rfl;have hap:∀x:fA,bL an.length an.length (sub [x] 0 1).length 1 48=true:=λx=>(by simp[bL,sub];omega);simp only[kI,hcond,aj,AO,h1,ai,Au hgl,hnil,aN,hs,iJ,iP,hap,gD,aY j];simp[sub]);rw[dI step];have ih:=Z0 (l:=l) hn hl hg hdl vx r (j+1) (at'+p.az.length) (c+q.2) (an++[fA.mk q.1 p.gives]) f h3 (λ v hm=>hv v (by simp only[List.flatMap_cons,bK];exact .inr hm)) (by omega) (by omega) (by omega) (by omega) (by simp;omega) (by omega);rw[ih];cases Yp r (l.drop (at'+p.az.length))with
   |none=>rfl
   |some w=>simp[Int.add_assoc]
def GS(b:Bool)(d:aG)(l:List Int):aG×Int×Int:=
 bif !b || decide (l.length≠(b8 d).length)then(aG.mk 0 [],0,1)else match Yp d.phases l with
  |none=>(aG.mk 0 [],0,1)
  |some q=>bif(q.1.flatMap (·.az)).isEmpty then(aG.mk 0 [],0,1)else(aG.mk d.lot q.1,q.2,0)
theorem WO:∀ps l (q:List fA×Int),(∀ v∈ps.flatMap (·.az),okV v=true)->Yp ps l=some q->q.1.length=ps.length/\(∀ i (h:i<q.1.length) (h':i<ps.length),q.1[i].az.length<=ps[i].az.length/\q.1[i].gives=ps[i].gives)
 |[],l,q,_,h=>by cases h;exact⟨rfl,λi h=>by cases h⟩
 |p::ps,l,q,hv,h=>by
  simp[Yp]at h;rw[ah]at h;obtain⟨r,h1,h⟩:=h;obtain⟨w,h2,rfl⟩:=jI.1 h;have i1:=PY p.az _ r (λ v hm=>hv v (by simp[hm])) h1;obtain⟨i2,i3⟩:=WO ps _ w (λ v hm=>hv v (by simp only[List.flatMap_cons,bK];exact .inr hm)) h2;refine⟨by simp[i2],λi h h'=>?_⟩;cases i with
  |zero=>exact⟨i1.2.2,rfl⟩
  |succ i=>exact i3 i (by simpa using h) (by simpa using h')
theorem PZ{d:aG}{l:List Int}{b:Bool}(hd:yR d)(hg:AD d)(hv:(b8 d).length<=1000)(hb:lN n d=some b)(hbv:b=true->∀v∈b8 d,okV v=true)(hn:4000002<=n):eU n d l=some (GS b d l):=by
 unfold eU GS;rw[WM hd (by omega),hb];cases b with
 |false=>simp
 |true=>
  simp only[Bool.not_true,ay,ai,Bool.false_or];by_cases hl:l.length=(b8 d).length;rw[show ((l.length:Int) !=((b8 d).length:Nat))=false by simp[hl],show decide (l.length≠(b8 d).length)=false by simp[hl]];have hs:=Z0 (n:=n) (d:=d) (l:=l) (by omega) (by omega) hg hd.1 d.lot d.phases 0 0 0 [] n (by simp) (hbv rfl) (by rw[hl];exact Nat.le_of_eq (Nat.zero_add _)) (Int.le_refl _) hv (by have:(d.phases.flatMap (·.az)).length=(b8 d).length:=rfl;omega) (by simp;exact hd.1) (by have:=hd.1;omega);have e0:((0:Nat):Int)=0:=rfl;rw[e0]at hs;have hnil:aE 0 ([]:List fA).length=true:=rfl;rw[hnil,hs];simp;cases hq:Yp d.phases l with
  |none=>rfl
  |some q=>
   have⟨q1,q2⟩:=WO d.phases l q (hbv rfl) hq;have Z1:yR (aG.mk d.lot q.1):=⟨by rw[q1];exact hd.1,λp hp=>by obtain⟨i,hi,rfl⟩:=mem_iff_getElem.1 hp;have h2:=q2 i hi (by rw[<- q1];exact hi);exact Nat.le_trans h2.1 (hd.2 _ (getElem_mem _))⟩;simp;rw[WM Z1 (by omega)];simp;have hvl:b8 (aG.mk d.lot q.1)=q.1.flatMap (·.az):=rfl;rw[hvl];cases q.1.flatMap (·.az)with
   |nil=>rfl
   |cons x t=>
    rfl
  rw[show ((l.length:Int) !=((b8 d).length:Nat))=true by simpa using λe:l.length=((b8 d).length:Int)=>hl (by omega),show decide (l.length≠(b8 d).length)=true by simp[hl]];rfl
theorem cR.length{a b:List aC}(h:cR a b):a.length=b.length:=by
 have:a.Perm b:=by
  rw[List.perm_iff_count];intro x;have h1:∀l:List aC,(l.filter λy=>y.cost==x.cost).count x=l.count x:=λl=>by simp
  rw[<- h1 a,<- h1 b,h x.cost]
 exact this.length_eq
theorem alf{Y:Type}{ys:List Y}{ok:Y->Bool}{f:Y->aC}{r:List aC}{p:aC->Bool}(hn:ys.Nodup)(hf:∀y z,f y=f z->y=z)(hs:kA r)(hst:cR r ((ys.filter ok).map f)):
 (∀ c,r.find? p=some c->∃y∈ys,ok y=true/\f y=c/\p c=true/\(∀ z∈ys,ok z=true->p (f z)=true->c.cost<=(f z).cost)/\∀pre post,ys=pre++y::post->∀z∈pre,ok z=true->p (f z)=true->(f z).cost≠c.cost)/\
 (r.find? p=none->∀z∈ys,ok z=true->p (f z)=false):=by
 constructor;intro c hc;obtain⟨hp,A,B,hr,hA⟩:=List.find?_eq_some_iff_append.1 hc;have hcm:c∈r:=by rw[hr];simp
 obtain⟨y,hy,rfl⟩:=mem_map.1 ((hst.mem c).1 hcm);obtain⟨hy1,hy2⟩:=mem_filter.1 hy;refine⟨y,hy1,hy2,rfl,hp,λz hz hz1 hz2=>?_,λpre post hys z hz hz1 hz2 he=>?_⟩;have PA:f z∈r:=(hst.mem _).2 (mem_map.2 ⟨z,mem_filter.2 ⟨hz,hz1⟩,rfl⟩);rw[hr]at PA hs;rcases bK.1 PA with h|h;have:=hA _ h;rw[hz2]at this;cases this;rcases aR.1 h with h|h;rw[h];exact Int.le_refl _;exact(pairwise_cons.1 (pairwise_append.1 hs).2.1).1 _ h;have h1:(r.filter λx=>x.cost==(f y).cost).find? p=some (f y):=by rw[hr,filter_append,List.find?_append,List.filter_cons_of_pos (by simp)];rw[List.find?_eq_none.2 λa ha=>?_,Option.none_or,List.find?_cons_of_pos hp];have:=hA a (mem_filter.1 ha).1;simpa using this
 rw[hst (f y).cost,hys]at h1;rw[filter_append,List.map_append,filter_append,List.find?_append]at h1;obtain⟨w,hw⟩:∃w,((List.map f (pre.filter ok)).filter λx=>x.cost==(f y).cost).find? p=some w:=by
  cases hh:((List.map f (pre.filter ok)).filter λx=>x.cost==(f y).cost).find? p with
  |some w=>exact⟨w,rfl⟩
  |none=>
   have:=List.find?_eq_none.1 hh (f z) (mem_filter.2 ⟨mem_map.2 ⟨z,mem_filter.2 ⟨hz,hz1⟩,rfl⟩,by simp[he]⟩);rw[hz2]at this;exact(this rfl).elim
 rw[hw]at h1;injection h1 with h1;have Wk:=(mem_filter.1 (List.mem_of_find?_eq_some hw)).1;obtain⟨u,hu,hu2⟩:=mem_map.1 Wk;have hu1:=(mem_filter.1 hu).1;have:u=y:=hf u y (hu2.trans h1);rw[hys]at hn;exact(List.nodup_append.1 hn).2.2 u hu1 y (by simp) this;intro hc z hz hz1;have PA:f z∈r:=(hst.mem _).2 (mem_map.2 ⟨z,mem_filter.2 ⟨hz,hz1⟩,rfl⟩);have:=List.find?_eq_none.1 hc _ PA;simpa using this
def EE(n:Nat)(t:fM)(d:aG)(day:Int):Bool:=(uz n t d==0)&&decide (Np n t d day=[])
def vg(d:aG)(y:List Nat):aG×Int×Int:=GS true d (toI y)
def u9(d:aG)(y:List Nat):Bool:=(vg d y).2.2==0
def JH(d:aG)(y:List Nat):aC:=aC.mk (toI y) (vg d y).2.1
def yT(n:Nat)(t:fM)(d:aG)(day:Int)(y:List Nat):Bool:=u9 d y&&EE n t (vg d y).1 day
theorem ah0{a b:List Nat}(h:toI a=toI b):a=b:=by exact(List.map_inj_right λx y e=>by omega).1 h
structure Mu(d:aG):Prop where
 law:Ym d
 tS:(b8 d).length<=1000
 top:dg (caps d)<=2001
theorem ad9{d:aG}(hd:Ym d)(hv:∀v∈b8 d,okV v=true) y:Ym (vg d y).1:=by
 have he:Ym (aG.mk 0 []):=⟨⟨by simp,λp hp=>by simp at hp⟩,λp hp=>by simp at hp⟩;unfold vg GS;cases (!true || decide ((toI y).length≠(b8 d).length))with
 |true=>exact he
 |false=>
  cases hq:Yp d.phases (toI y)with
  |none=>exact he
  |some q=>
   simp;cases (q.1.flatMap (·.az)).isEmpty with
   |true=>exact he
   |false=>
    have⟨q1,q2⟩:=WO d.phases (toI y) q hv hq;refine⟨⟨by show q.1.length<=1000;rw[q1];exact hd.1.1,λp hp=>?_⟩,λp hp=>?_⟩;obtain⟨i,hi,rfl⟩:=mem_iff_getElem.1 hp;have h2:=q2 i hi (by rw[<- q1];exact hi);exact Nat.le_trans h2.1 (hd.1.2 _ (getElem_mem _));obtain⟨i,hi,rfl⟩:=mem_iff_getElem.1 hp;have h2:=q2 i hi (by rw[<- q1];exact hi);show(q.1[i]).gives.length<=1000;rw[h2.2];exact hd.2 _ (getElem_mem _)
theorem WQ:∀cs (k:Nat) l,(uI cs k l).length<=k+1
 |cs,0,l=>by simp[uI]
 |cs,k+1,l=>by
  simp[uI];cases ri cs l with
  |none=>simp
  |some r=>have:=WQ cs k r;simp;omega
section
variable {n:Nat} {t:fM} {d:aG} {day:Int}
theorem ah1(hC:∀y,fits (caps d) y->eU n d (toI y)=some (vg d y)) c1 c2 c3 c4 c5 c6 c7 c8 c9 c10 c11 c12 c13 c16:
 ∀(ys:List (List Nat)) l,(∀ y∈ys,fits (caps d) y)->l.length+ys.length<=100000->
  Q6 (nP n) (ys.map toI) (c1,c2,c3,c4,c5,c6,c7,c8,c9,c10,c11,c12,c13,d.lot,d.phases,c16,l)=some (c1,c2,c3,c4,c5,c6,c7,c8,c9,c10,c11,c12,c13,d.lot,d.phases,c16,l++(ys.filter (u9 d)).map (JH d))
 |[],l,_,_=>by simp[Q6]
 |y::ys,l,hf,hl=>by
  have hc:=hC y (hf y (by simp));have hmx:maxLen=9223372036854775807:=rfl;simp at hl;have hap:∀x:aC,bL l.length l.length (sub [x] 0 1).length 1 32=true:=λx=>by simp[bL,sub];omega
  have step:nP n (c1,c2,c3,c4,c5,c6,c7,c8,c9,c10,c11,c12,c13,d.lot,d.phases,c16,l) (toI y)=some (c1,c2,c3,c4,c5,c6,c7,c8,c9,c10,c11,c12,c13,d.lot,d.phases,c16,bif u9 d y then l++[JH d y]else l):=by have hc':eU n (aG.mk d.lot d.phases) (toI y)=some (vg d y):=hc;simp[nP,hc',hap];unfold u9 JH;cases ((vg d y).2.2==0)<;>rfl
  simp[Q6,step];rw[ah1 hC c1 c2 c3 c4 c5 c6 c7 c8 c9 c10 c11 c12 c13 c16 ys _ (λ z hz=>hf z (by simp[hz])) (by cases u9 d y<;>simp<;>omega)];cases h:u9 d y<;>simp[h]
theorem aos(x y:aC):∃c,(λ (y1:aC×aC×Unit)=>nZ y1.1 y1.2.1) (x,y,())=some c/\(c<0↔x.cost<y.cost):=by refine⟨if x.cost<y.cost then -1 else if y.cost<x.cost then 1 else 0,by simp[nZ,jb],?_⟩;by_cases h1:x.cost<y.cost;simp[h1];by_cases h2:y.cost<x.cost<;>simp[h1,h2]
theorem abA(hd:Ym d)(hn:Yn n)(h0:uz n t d=0):lN n d=some true/\b8 d≠[]:=by
 have hn1:=hn.1;obtain⟨b,hb,_⟩:=ahP (n:=n) (d:=d) hd.1 hd.2 (by omega);cases b with
 |true=>
  refine⟨hb,λh=>?_⟩;simp only[lN,all_eq hd.1 (show 1001<=n by omega),ai,h]at hb;cases hc1:decide (d.lot<0)<;>cases hc2:decide (d.lot>1073741824)<;>cases hc3:decide (d.phases.length<1)<;>cases hc4:decide (d.phases.length>8)<;>simp at hb
 |false=>
  have hR:ku n (lj t) (l7 t.land d.lot).1 d=some false:=by unfold ku;rw[hb];rfl
  refine absurd h0 ?_;unfold uz Sa;rw[hR];cases (l7 t.land d.lot).2<;>decide
theorem WR(ht:WI t)(hd:Mu d)(hn:Yn n):∃fl c e,iO n t d day=some (fl,c,e)/\(uz n t d≠0->fl=[]/\c=0/\e=uz n t d)/\
 (uz n t d=0->(e=0/\∃y∈jO d,fl=toI y/\c=(JH d y).cost/\yT n t d day y=true/\(∀ z∈jO d,yT n t d day z=true->(JH d y).cost<=(JH d z).cost)/\∀pre post,jO d=pre++y::post->∀z∈pre,yT n t d day z=true->(JH d z).cost≠(JH d y).cost)\/
  (e=4/\fl=[]/\c=0/\∀y∈jO d,yT n t d day y=false)):=by
 have hn1:=hn.1;have hB:=PU (n:=n) day ht hd.law hn;unfold iO;rw[hB];simp only[ai];by_cases h0:uz n t d=0;rw[show (uz n t d !=0)=false by simp[h0],ay];obtain⟨_,hv⟩:=look_eq (n:=n) ht hd.law hn;have hv:=hv h0;have hvl:=hd.tS;have⟨hform,_⟩:=abA hd.law hn h0;have hC:∀y,fits (caps d) y->eU n d (toI y)=some (vg d y):=λy hy=>PZ hd.law.1 hd.law.2 hvl hform (λ _=>hv) (by omega);have hz:=yS d;have hfits:∀y∈jO d,fits (caps d) y:=λy hy=>(u7 _ _ hz.1 y hy).1;have hall:(jO d).length<=2001:=by have:=WQ (caps d) (dg (caps d)-1) (kS d);have:=hd.top;unfold jO;omega
 have htop:dg ((b8 d).map ip)<=2001:=hd.top;rw[WM hd.law.1 (by omega)];simp only[ai,iP,aN,aj];rw[amq (b8 d) htop (by omega) (by omega)];simp only[ai,ay,agl];have e0:aE 0 ([]:List aC).length=true:=rfl;rw[e0];simp only[aj];rw[aby hd.law.1 (by omega) (by have:=hd.top;omega)];simp;rw[ah1 hC t.ci t.ca t.b9 t.bm t.cj t.cg t.cD t.ch t.land t.cp t.windows t.built t.base 0 (jO d) [] hfits (by simp;omega)]
 try simp
 obtain⟨L0,hL0⟩:∃L0,((jO d).filter (u9 d)).map (JH d)=L0:=⟨_,rfl⟩;have hL0l:L0.length<=2001:=by rw[<- hL0,List.length_map];exact Nat.le_trans (List.length_filter_le _ _) hall
 rw[hL0];obtain⟨r,hr,hsr,hst⟩:=PV (φ:=λ(y1:aC×aC×Unit)=>nZ y1.1 y1.2.1) aos (n:=n) L0 (by omega) (by omega);rw[hr];have hlen:=hst.length;have hmem:∀x∈r,∃y∈jO d,u9 d y=true/\JH d y=x:=λx hx=>by have:=(hst.mem x).1 hx;rw[<- hL0]at this;obtain⟨y,hy,rfl⟩:=mem_map.1 this;exact⟨y,(mem_filter.1 hy).1,(mem_filter.1 hy).2,rfl⟩
 let p:aC->Bool:=λx=>EE n t (GS true d x.floors).1 day
 obtain⟨o,g1,g2⟩:=eO (step:=kR n day t.ci t.ca t.b9 t.bm t.cj t.cg t.cD t.ch t.land t.cp t.windows t.built t.base d.lot d.phases L0 r) (λ i v=>v=i/\i<=r.length/\∀x∈r.take i,p x=false)
  (λ o=>(o=.inl ()/\r.find? p=none)\/∃x,o=.inr (x.floors,x.cost,0)/\r.find? p=some x) r.length (λ k v h=>h.2.1) (by
  rintro i v ⟨rfl,hi,hpre⟩;by_cases hlt:i<r.length;obtain⟨y,hy1,hy2,hy3⟩:=hmem r[i] (getElem_mem hlt);have hch:eU n (aG.mk d.lot d.phases) r[i].floors=some (vg d y):=by rw[<- hy3];exact hC y (hfits y hy1)
  have hla:kz n (fM.mk t.ci t.ca t.b9 t.bm t.cj t.cg t.cD t.ch t.land t.cp t.windows t.built t.base) (vg d y).1 day=some (EE n t (vg d y).1 day):=ZU day ht (ad9 hd.law hv y) hn;have hpx:p r[i]=EE n t (vg d y).1 day:=by show EE n t (GS true d r[i].floors).1 day=_;rw[<- hy3];rfl
  have hg:bu r ((0:Nat)+i)=some r[i]:=bJ hlt;have hb:decide (i<(L0.length:Int))=true:=by simp;omega
  have hin:co i L0.length=true:=aW (by omega);cases hp:EE n t (vg d y).1 day with
  |true=>
   refine .inr ⟨.inr (r[i].floors,r[i].cost,0),?_,.inr ⟨r[i],rfl,?_⟩⟩;simp only[kR,hb,aj,hin,hg,ai,hch,hla,hp];rfl;rw[hp]at hpx;rw[List.find?_eq_some_iff_append];refine⟨hpx,r.take i,r.drop (i+1),?_,λa ha=>by rw[hpre a ha];rfl⟩;rw[<- List.drop_eq_getElem_cons hlt,List.take_append_drop]
  |false=>
   refine .inl ⟨_,?_,rfl,hlt,λx hx=>?_⟩;simp only[kR,hb,aj,hin,hg,ai,hch,hla,hp,ay];rw[aQ (by omega)];rw[List.take_add_one,dD hlt,bK]at hx;rcases hx with hx|hx;exact hpre x hx;simp at hx;rw[hx,hpx,hp]
  refine .inr ⟨.inl (),?_,.inl ⟨rfl,?_⟩⟩;simp only[kR];rw[show decide (i<(L0.length:Int))=false by simp;omega];rfl;rw[List.find?_eq_none];intro x hx;rw[take_of_length_le (by omega)]at hpre;rw[hpre x hx];simp) n 0 0 ⟨rfl,Nat.zero_le _,by simp⟩ (by omega)
 have hfo:=alf (ys:=jO d) (ok:=u9 d) (f:=JH d) (r:=r) (p:=p) (Iw _ _ hz.1) (λ y z e=>ah0 (by injection e)) hsr (by rw[hL0];exact hst);have qn:∀z,yT n t d day z=(u9 d z&&p (JH d z)):=λz=>rfl;rcases g2 with ⟨rfl,hno⟩|⟨x,rfl,hx⟩;refine⟨[],0,4,?_,λh=>(h h0).elim,λ_=>.inr ⟨rfl,rfl,rfl,λy hy=>?_⟩⟩;show dK (iter _ n 0) _=_;rw[g1,iJ];rw[qn];cases hoy:u9 d y with
 |false=>rfl
 |true=>rw[hfo.2 hno y hy hoy];rfl
 obtain⟨y,hy1,hy2,rfl,hy4,Wc,Wa⟩:=hfo.1 x hx;refine⟨toI y,(JH d y).cost,0,?_,λh=>(h h0).elim,λ_=>.inl ⟨rfl,y,hy1,rfl,rfl,by rw[qn,hy2,hy4];rfl,λz hz h=>?_,λpre post he z hz h=>?_⟩⟩;show dK (iter _ n 0) _=_;rw[g1,p9];rfl;rw[qn,bC]at h;exact Wc z hz h.1 h.2;rw[qn,bC]at h;exact Wa pre post he z hz h.1 h.2;rw[show (uz n t d !=0)=true by simpa using h0,aj];exact⟨[],0,uz n t d,rfl,λ_=>⟨rfl,rfl,rfl⟩,λh=>(h0 h).elim⟩
end
theorem Iy{α:Type}{l:List α}{K n:Nat}(f:α->Nat)(c:Nat){step:Int->Option (Int⊕(Unit⊕Bool))}(hs:∀v,step v=((bif decide (v<l.length)then some (decide (v<K))else some false):Option Bool).bind λb=>bif b then(bu l v).bind λx=>bif decide ((f x:Int)>c)then(some false).map λa=>.inr (.inr a)else some (.inl (i64.wrap (v+1)))else some (.inr (.inl ())))(hK:K<1000)(hn:K+1<n):
 iter step n 0=some (.inr false)\/(iter step n 0=some (.inl ())/\(l.length<=K->∀x∈l,f x<=c)):=by refine TN (good:=λx=>f x<=c) (λ i hi hi2=>?_) (λ i h=>?_) hn;rw[hs,Iu i l.length K rfl,show decide (i<l.length/\i<K)=true by simp[hi,hi2]];simp only[ai,aj,bE hi,aY i];by_cases h:(f l[i]:Int)>c;left;simp only[h,decide_true,aj];rfl;right;simp only[h,decide_false,ay];exact⟨trivial,by omega⟩;rw[hs,Iu i l.length K rfl,show decide (i<l.length/\i<K)=false by simp;omega];rfl
theorem KW(hn:4000002<=n):∀(m:Nat) (e:bR) most (L:Nat),(toE e).wt<=4000000->0<=most->most<=1000->L<=100->L+1<=m->∃r,rX n m e most L=some r/\1<=r/\r<=most+1
 | 0,_,_,_,_,_,_,_,h=>absurd h (by omega)
 |m+1,e,most,L,hw,h0,h1,hL,hm=>by have hla:=abo e;show ∃r,Ak n (rX n m) e most L=some r/\_;simp[Ak];by_cases hL1:(L:Int)<1;simp only[hL1,decide_true,aj];rw[aO (by omega) (by omega)];exact⟨most+1,rfl,by omega,by omega⟩;simp[hL1];obtain⟨o,g1,g2,g3⟩:=eO (step:=tQ (rX n m) e most L) (λ i (v:Int×Int)=>v.2=i/\i<=e.args.length/\1<=v.1/\v.1<=most+1) (λ o=>1<=o/\o<=most+1) e.args.length (λ k v h=>h.2.1) (by rintro i ⟨v1,v2⟩ ⟨hv,hi,i1,i2⟩;subst hv;by_cases hlt:i<e.args.length;by_cases hle:v1<=most;left;have hwx:=af6 (getElem_mem hlt);obtain⟨r,r1,r2,r3⟩:=KW hn m e.args[i] (most-v1) (L-1) (by omega) (by omega) (by omega) (by omega) (by omega);have eL:i64.wrap (L-1)=(L-1:Nat):=mY (by omega) (by omega);refine⟨(v1+r,(i+1:Nat)),?_,rfl,hlt,by omega,by omega⟩;simp only[tQ,show decide ((i:Int)<e.args.length)=true from by simp;omega,aj,hle,decide_true,ai,bE hlt,aO (show -9223372036854775808<=most-v1 by omega) (show most-v1<=9223372036854775807 by omega),eL,r1,aO (show -9223372036854775808<=v1+r by omega) (show v1+r<=9223372036854775807 by omega),aY i];right;refine⟨v1,?_,i1,i2⟩;simp[tQ,hle];right;refine⟨v1,?_,i1,i2⟩;simp only[tQ,show decide ((i:Int)<e.args.length)=false from by simp;omega,ay,ai]) n 0 (1,0) ⟨rfl,Nat.zero_le _,by simp,by omega⟩ (by omega);simp only[g1];exact⟨o,rfl,g2,g3⟩
def alh(p:bZ):Prop:=(p.tables.length<=4/\∀t∈p.tables,t.rows.length<=8)/\p.zones.length<=5/\p.caps.length<=3/\p.rules.length<=6/\∀r∈p.rules,Wv r
theorem ajj{p:bZ}(hd:gj p.defs)(hw:WtR p.rules)(hn:Yn n):∃b,M0 n p=some b/\(b=true->alh p):=by
 obtain⟨hn1,hn2⟩:=hn;have s1:=TN (l:=p.rules) (K:=5) (n:=n) (step:=Al n p) (good:=Wv) (λ i hi hK=>by obtain⟨r,hr,_,_⟩:=KW (n:=n) (by omega) n (li p.rules[i]) 20 14 (hw _ (getElem_mem hi)) (by omega) (by omega) (by omega) (by omega);have hr':Cw n (bR.mk p.rules[i].kx p.rules[i].m5 p.rules[i].mT p.rules[i].i8 p.rules[i].fL) 20 14=some r:=hr;have e:=Iu i p.rules.length 5 (k:=5) rfl;simp only[Al,e,show decide (i<p.rules.length/\i<5)=true from by simp[hi,hK],ai,aj,bE hi,hr',aY i];by_cases c1:r>20;left;simp only[c1,decide_true,aj,ai];rfl;by_cases c2:(p.rules[i].zones.length:Int)>6;left;simp only[c1,c2,decide_true,decide_false,aj,ay,ai];rfl;by_cases c3:(p.rules[i].except.length:Int)>6;left;simp only[c1,c2,c3,decide_true,decide_false,aj,ay,ai];rfl;right;simp only[c1,c2,c3,decide_false,ay,ai];exact⟨trivial,by omega,by omega⟩) (λ i h=>by have e:=Iu i p.rules.length 5 (k:=5) rfl;simp only[Al,e,show decide (i<p.rules.length/\i<5)=false from by simp;omega,ai,ay]) (by omega);have s2:=TN (l:=p.defs) (K:=5) (n:=n) (step:=Am n p) (good:=λ_=>True) (λ i hi hK=>by
  obtain⟨r,hr,_,_⟩:=KW (n:=n) (by omega) n _ 20 14 (hd.body (getElem_mem hi)) (by omega) (by omega) (by omega) (by omega);have hr':Cw n (bR.mk p.defs[i].iu p.defs[i].lw p.defs[i].km p.defs[i].ii p.defs[i].ek) 20 14=some r:=hr;have e:=Iu i p.defs.length 5 (k:=5) rfl;simp only[Am,e,show decide (i<p.defs.length/\i<5)=true from by simp[hi,hK],ai,aj,bE hi,hr',aY i];cases decide (r>20)with
  |true=>exact .inl rfl
  |false=>exact .inr ⟨rfl,trivial⟩) (λ i h=>by have e:=Iu i p.defs.length 5 (k:=5) rfl;simp only[Am,e,show decide (i<p.defs.length/\i<5)=false from by simp;omega,ai,ay]) (by omega)
 have s3:=Iy (l:=p.zones) (K:=5) (n:=n) (step:=Rh p) (λ x=>x.corners.length) 12 (λ v=>rfl) (by decide) (by omega);have s4:=Iy (l:=p.caps) (K:=4) (n:=n) (step:=Ri p) (λ x=>x.corners.length) 12 (λ v=>rfl) (by decide) (by omega);have s5:=Iy (l:=p.tables) (K:=3) (n:=n) (step:=Rj p) (λ x=>x.rows.length) 8 (λ v=>rfl) (by decide) (by omega);have no:∃b,some false=some b/\(b=true->alh p):=⟨false,rfl,λh=>(by cases h)⟩;unfold M0;rcases s1 with h1|⟨h1,hr⟩;rw[h1];exact no;rcases s2 with h2|⟨h2,_⟩;rw[h1,h2];exact no;rcases s3 with h3|⟨h3,_⟩;rw[h1,h2,h3];exact no;rcases s4 with h4|⟨h4,_⟩;rw[h1,h2,h3,h4];exact no;rcases s5 with h5|⟨h5,ht⟩;rw[h1,h2,h3,h4,h5];exact no;rw[h1,h2,h3,h4,h5];simp only[bA];refine⟨_,rfl,λhb=>?_⟩;simp at hb;exact⟨⟨by omega,ht (by omega)⟩,by omega,by omega,by omega,hr (by omega)⟩
theorem flat3:∀{l:List fA},(∀ p∈l,p.az.length<=3)->(l.flatMap (·.az)).length<=l.length*3
 |[],_=>by simp
 |p::l,h=>by have:=flat3 λq hq=>h q (eX _ hq);have:=h p (by simp);rw[List.flatMap_cons,fO,gH];omega
theorem ali{t:fM}{d:aG}(hz:R0 t)(hn:Yn n):∃b,TB n t d=some b/\(b=true->WI t/\Mu d):=by
 have hn':=hn;obtain⟨hn1,hn2⟩:=hn;have s1:=Iy (l:=t.land) (K:=4) (n:=n) (step:=VW t) (λ x=>x.area.length) 4 (λ v=>rfl) (by decide) (by omega);have s2:=Iy (l:=t.cp) (K:=4) (n:=n) (step:=VX t) (λ x=>x.area.length) 4 (λ v=>rfl) (by decide) (by omega);have s3:=TN (l:=d.phases) (K:=4) (n:=n) (step:=EB d) (good:=λx=>x.az.length<=3/\x.gives.length<=3) (λ i hi hK=>by have e:=Iu i d.phases.length 4 (k:=4) rfl;simp only[EB,e,show decide (i<d.phases.length/\i<4)=true from by simp[hi,hK],ai,aj,bE hi,aY i];by_cases c1:(d.phases[i].az.length:Int)>3;left;simp only[c1,decide_true,aj,ai];rfl;by_cases c2:(d.phases[i].gives.length:Int)>3;left;simp only[c1,c2,decide_true,decide_false,aj,ay,ai];rfl;right;simp only[c1,c2,decide_false,ay,ai];exact⟨trivial,by omega,by omega⟩) (λ i h=>by have e:=Iu i d.phases.length 4 (k:=4) rfl;simp only[EB,e,show decide (i<d.phases.length/\i<4)=false from by simp;omega,ai,ay]) (by omega);have no:∃b,some false=some b/\(b=true->WI t/\Mu d):=⟨false,rfl,λh=>(by cases h)⟩;obtain⟨b,hb,hb2⟩:=ajj (n:=n) (p:=bZ.mk t.ci t.ca t.b9 t.bm t.cj t.cg t.cD t.ch) hz.defs hz.rules hn';unfold TB;rcases s1 with h1|⟨h1,hl⟩;rw[h1];exact no;rcases s2 with h2|⟨h2,he⟩;rw[h1,h2];exact no;rcases s3 with h3|⟨h3,hd⟩;rw[h1,h2,h3];exact no;rw[h1,h2,h3,hb];cases b with
 |false=>exact no
 |true=>
  have⟨⟨t1,t2⟩,z1,c1,r1,r2⟩:=hb2 rfl;simp at t1 t2 z1 c1 r1 r2;by_cases d4:(d.phases.length:Int)<=3;have hd':=hd (by omega);have hF:yR d:=⟨by omega,λp hm=>by have:=(hd' p hm).1;omega⟩;have hG:AD d:=λp hm=>by have:=(hd' p hm).2;omega
  obtain⟨r,hr,hr2⟩:=ams (n:=n) hF (by omega);have d4':decide ((d.phases.length:Int)<=3)=true:=by simpa using d4
  rw[hr];simp only[aj,ai,bA];refine⟨_,rfl,λh=>?_⟩;simp at h;obtain⟨d1,d2,d3,d5⟩:=h;have hl':=hl (by omega);have he':=he (by omega);refine⟨⟨λ l hm=>⟨by have:=hl' l hm;omega,hz.zE l hm⟩,by omega,⟨by omega,λe hm=>by have:=he' e hm;omega⟩,by omega,by omega,by omega,by omega,λr hm=>⟨r2 r hm,hz.rules r hm⟩,⟨hz.defs,⟨by show t.ca.length<=_;omega,λx hx=>by have:=t2 x hx;omega⟩⟩⟩,⟨hF,hG⟩,?_,by omega⟩;have:=flat3 λp hp=>(hd' p hp).1;show(d.phases.flatMap (·.az)).length<=1000;omega;have d4':decide ((d.phases.length:Int)<=3)=false:=by simpa using d4
  rw[d4'];cases decide ((t.land.length:Int)<=3)<;>cases decide ((t.cp.length:Int)<=3)<;>cases decide ((t.built.length:Int)<=4)<;>exact no
def KX:aG:=aG.mk 1 [fA.mk [aD.mk 1 1 5 6 0 10 1 0 false] []]
def KY(m:Int):fM:=fM.mk [] [] [] [cu.mk (⟨#[114]⟩) ([]) ([]) 0 0 0 false 0 12 0 (⟨#[]⟩) (⟨#[]⟩) [(bR.mk 1 0 (⟨#[104,101,105,103,104,116]⟩) (⟨#[]⟩) ([])),(bR.mk 0 m (⟨#[]⟩) (⟨#[]⟩) ([]))] 0 0 0 0 0 0 0] [] [] [] 0 [jK.mk 1 0 [au.mk 0 0 9 9] []] [] [] [] []
theorem ah2 m:WI (KY m) where
 lots:=λl hl=>by simp only[KY,bn]at hl;subst hl;exact⟨by decide,by decide⟩
 land:=Nat.le_of_ble_eq_true (by kernel_rfl)
 eas:=⟨Nat.le_of_ble_eq_true (by kernel_rfl),λe he=>by simp[KY]at he⟩
 built:=Nat.le_of_ble_eq_true (by kernel_rfl)
 zones:=Nat.le_of_ble_eq_true (by kernel_rfl)
 caps:=Nat.le_of_ble_eq_true (by kernel_rfl)
 rules:=Nat.le_of_ble_eq_true (by kernel_rfl)
 rule:=λr hr=>by simp only[KY,bn]at hr;subst hr;exact⟨⟨Nat.le_of_ble_eq_true (by kernel_rfl),Nat.le_of_ble_eq_true (by kernel_rfl)⟩,Nat.le_of_ble_eq_true (by kernel_rfl)⟩
 plan:=⟨Nat.le_of_ble_eq_true (by kernel_rfl),Nat.le_of_ble_eq_true (by kernel_rfl),λx hx=>by simp[lj,KY]at hx⟩
theorem ky:Mu KX where
 law:=by refine⟨⟨by decide,λp hp=>?_⟩,λp hp=>?_⟩<;>(simp only[KX,bn]at hp;subst hp;decide)
 tS:=by decide
 top:=by decide
theorem aoh:jO KX=[[0],[1],[2],[3],[4]]:=by kernel_rfl
theorem anA:iO 5000003 (KY 8) KX 0=some ([2],40,0):=by
 obtain⟨fl,c,e,h1,_,h3⟩:=WR (n:=5000003) (day:=0) (ah2 8) ky Yo;have f0:yT 5000003 (KY 8) KX 0 [0]=false:=by kernel_rfl
 have f1:yT 5000003 (KY 8) KX 0 [1]=false:=by kernel_rfl
 have f2:yT 5000003 (KY 8) KX 0 [2]=true:=by kernel_rfl
 have f4:yT 5000003 (KY 8) KX 0 [4]=false:=by kernel_rfl
 have k2:JH KX [2]=aC.mk [2] 40:=by kernel_rfl
 have k3:JH KX [3]=aC.mk [3] 60:=by kernel_rfl
 rcases h3 (by kernel_rfl)with ⟨rfl,y,hy,rfl,rfl,g1,g2,_⟩|⟨_,_,_,g⟩;rw[aoh]at hy g2;have g2:=g2 [2] (by simp) f2;simp at hy;rcases hy with rfl|rfl|rfl|rfl|rfl;rw[f0]at g1;cases g1;rw[f1]at g1;cases g1;rw[h1];rfl;exact absurd g2 (by decide);cases g1;have:=g [2] (by rw[aoh];simp);rw[f2]at this;cases this
theorem anB:iO 5000003 (KY 2) KX 0=some ([],0,4):=by
 obtain⟨fl,c,e,h1,_,h3⟩:=WR (n:=5000003) (day:=0) (ah2 2) ky Yo;have f:(jO KX).all (λ y=>!yT 5000003 (KY 2) KX 0 y)=true:=by kernel_rfl
 rcases h3 (by kernel_rfl)with ⟨rfl,y,hy,rfl,rfl,g1,_⟩|⟨rfl,rfl,rfl,_⟩;have:=List.all_eq_true.1 f y hy;rw[g1]at this;cases this;exact h1
theorem amu:Ju 5000003=some true:=by
 have s8:yF 8=some (KY 8,KX):=by kernel_rfl
 have s2:yF 2=some (KY 2,KX):=by kernel_rfl
 obtain⟨hf,_⟩:=abA (n:=5000003) (t:=KY 8) ky.law Yo (by kernel_rfl);have hC:=λl=>PZ (n:=5000003) (l:=l) ky.law.1 ky.law.2 ky.tS hf (λ _=>by decide) (by decide);unfold Ju;simp[s8,s2,anA,anB,hC];rfl
theorem Rt{cs:List Nat}:∀(k:Nat) l (pre:List (List Nat)) y (post:List (List Nat)),fits cs l->RZ cs l+k+1=dg cs->uI cs k l=pre++y::post->ri cs y=post.head?
 | 0,l,pre,y,post,hf,hv,h=>by
  have hn:ri cs l=none:=by
   cases hx:ri cs l with
   |none=>rfl
   |some r=>
    have:=(EP hf).1 r hx;have h2:=agm this.1;rw[Nt]at h2;unfold RZ at this hv;omega
  cases pre with
  |nil=>
   obtain⟨rfl,rfl⟩:=h;rw[hn];rfl
  |cons p pre=>simp[uI]at h
 |k+1,l,pre,y,post,hf,hv,h=>by
  simp[uI]at h;cases hx:ri cs l with
  |none=>
   rw[hx]at h;cases pre with
   |nil=>
    obtain⟨rfl,rfl⟩:=h;rw[hx];rfl
   |cons p pre=>simp at h
  |some r=>
   rw[hx]at h;have⟨g1,g2⟩:=(EP hf).1 r hx;cases pre with
   |nil=>
    obtain⟨rfl,rfl⟩:=h;have⟨q,hq⟩:=ad8 cs k r;rw[hx,hq];rfl
   |cons p pre=>
    simp at h;exact Rt k r pre y post g1 (by omega) h.2
section
variable {n:Nat} {t:fM} {d:aG} {day:Int}
theorem alj(d:aG){i:Nat}(hi:i<(jO d).length):ri (caps d) (jO d)[i]=(jO d)[i+1]? :=by have hz:=yS d;have hp:=Ns (caps d);have:=Rt (cs:=caps d) (dg (caps d)-1) (kS d) ((jO d).take i) (jO d)[i] ((jO d).drop (i+1)) hz.1 (by omega) (by rw[<- List.drop_eq_getElem_cons hi,List.take_append_drop];rfl);rw[this,List.head?_drop]
def WS(d:aG)(i:Nat):List Int:=match (jO d)[i]? with|none=>[]|some y=>toI y
theorem ah3(ht:WI t)(hd:Mu d)(hn:Yn n)(hv:∀v∈b8 d,okV v=true)(hC:∀y,fits (caps d) y->eU n d (toI y)=some (vg d y))(hne:b8 d≠[]){fl:List Int}{c e:Int}{j:Nat}
 (h1:∀i (hi:i<(jO d).length),toI (jO d)[i]=fl↔i=j)
 (h2:∀(hj:j<(jO d).length),yT n t d day (jO d)[j]=true/\(vg d (jO d)[j]).2.1=c)
 (h3:∀i (hi:i<(jO d).length),yT n t d day (jO d)[i]=true->e=0/\c<=(vg d (jO d)[i]).2.1/\(i<j->(vg d (jO d)[i]).2.1≠c)) (hj:j<=(jO d).length):
 iter (nQ n t d day (fl,c,e)) n (true,false,toI (kS d))=some (.inl (decide (j<(jO d).length))):=by
 have hn1:=hn.1;have hz:=yS d;have hfits:∀y∈jO d,fits (caps d) y:=λy hy=>(u7 _ _ hz.1 y hy).1;have hall:(jO d).length<=2001:=by have:=WQ (caps d) (dg (caps d)-1) (kS d);have:=hd.top;unfold jO;omega
 have h0:WS d 0=toI (kS d):=by have⟨q,hq⟩:=ad8 (caps d) (dg (caps d)-1) (kS d);unfold WS jO;rw[hq];rfl
 rw[<- h0];have e00:(true,false,WS d 0)=(decide (0<=j),decide (j<0),WS d 0):=by simp
 refine CG (step:=nQ n t d day (fl,c,e)) (λ i=>(decide (i<=j),decide (j<i),WS d i)) (jO d).length _ rfl (λ i hi=>?_) ?_ n (by omega);have hcur:WS d i=toI (jO d)[i]:=by unfold WS;rw[dD hi]
 obtain⟨y,hy⟩:∃y,(jO d)[i]=y:=⟨_,rfl⟩;have hm:y∈jO d:=by rw[<- hy];exact getElem_mem hi
 have hyl:=(hfits y hm).length;have hcl:(caps d).length=(b8 d).length:=by simp[caps]
 have hvl:=hd.tS;have hpos:0<(b8 d).length:=List.length_pos_iff.2 hne;have hnx:=amr (n:=n) hd.law.1 (hfits y hm) (by omega);have hnx2:H7 n d (toI y)=some (WS d (i+1)):=by rw[hnx,<- hy,alj d hi];unfold WS;cases (jO d)[i+1]?<;>rfl
 have hS:=amt (n:=n) (toI y) fl (by simp[toI];omega) (by omega);have hL:kz n t (vg d y).1 day=some (EE n t (vg d y).1 day):=ZU day ht (ad9 hd.law hv y) hn;have hsame:decide (toI y=fl)=decide (i=j):=by have:=h1 i hi;rw[hy]at this;exact decide_eq_decide.2 this
 have hg3:=h3 i hi;rw[hy]at hg3;have hlen:decide (((toI y).length:Int)>0)=true:=by simp[toI];omega
 have qn:((bif ((vg d y).2.2==0)then(kz n t (vg d y).1 day).bind λr8=>some r8 else some false):Option Bool)=some (yT n t d day y):=by
  unfold yT u9;cases ((vg d y).2.2==0)with
  |false=>rfl
  |true=>rw[hL];rfl
 rw[hcur,hy];simp only[nQ,hlen,aj,hS,ai,hC y (hfits y hm),qn,hsame,hnx2];have e1:decide (i+1<=j)=(decide (i<=j)&&!decide (i=j)):=by rw[jg];simp;omega
 have e2:decide (j<i+1)=(decide (j<i) || decide (i=j)):=by rw[jg];simp;omega
 by_cases hij:i=j;have hg2:=h2 (by omega);subst hij;rw[hy]at hg2;obtain⟨f1,f2⟩:=hg2;have⟨k1,k2,k3⟩:=hg3 f1;subst k1;simp[f1,f2];have e3:decide (i=j)=false:=by simp[hij]
 rw[e1,e2,e3];cases hf:yT n t d day y with
 |false=>simp
 |true=>
  have⟨k1,k2,k3⟩:=hg3 hf;subst k1;have q1:decide ((vg d y).2.1<c)=false:=by simp;omega
  simp[q1];by_cases hlt:i<j;have q2:((vg d y).2.1==c)=false:=by rw[beq_eq_false_iff_ne];exact k3 hlt
  simp[q2];have q3:decide (i<=j)=false:=by simp;omega
  rw[q3];cases ((vg d y).2.1==c)<;>simp
 have hcur:WS d (jO d).length=[]:=by unfold WS;rw[List.getElem?_eq_none (ax _)]
 rw[hcur];rfl
end
theorem P5(t:fM)(d:aG) day (hz:R0 t):ru 5000003 t d day=some true:=by
 have⟨b,hb,hb2⟩:=ali (n:=5000003) (t:=t) (d:=d) hz Yo;unfold ru;rw[amu,ai,hb,ai];cases b with
 |false=>rfl
 |true=>
  have⟨ht,hd⟩:=hb2 rfl;have⟨fl,c,e,hL,hL1,hL2⟩:=WR (day:=day) ht hd Yo;have hB:=PU day ht hd.law Yo;rw[Bool.not_true,hL,ai,hB,ai];by_cases h0:uz 5000003 t d=0;obtain⟨_,hv⟩:=look_eq ht hd.law Yo;have hv:=hv h0;have⟨hform,hne⟩:=abA (t:=t) hd.law Yo h0;have hC:∀y,fits (caps d) y->eU 5000003 d (toI y)=some (vg d y):=λy hy=>PZ hd.law.1 hd.law.2 hd.tS hform (λ _=>hv) (by decide);have hz:=yS d;have hnd:(jO d).Nodup:=Iw _ _ hz.1;have hfits:∀y∈jO d,fits (caps d) y:=λy hy=>(u7 _ _ hz.1 y hy).1;have hvl:=hd.tS;have hpos:0<(b8 d).length:=List.length_pos_iff.2 hne;have hbr:(uz 5000003 t d !=0)=false:=by simp[h0]
  rw[hbr];have hmk:uy ((b8 d).length:Nat) 8=true:=by have hmx:maxLen=9223372036854775807:=rfl;simp[uy];omega
  have hrep:List.replicate ((((b8 d).length:Nat):Int)).toNat 0=toI (kS d):=by simp[toI,kS]
  have hsz:sub (toI (kS d)) 0 ((((b8 d).length:Nat):Int)).toNat=toI (kS d):=by have:((((b8 d).length:Nat):Int)).toNat=(toI (kS d)).length:=(by simp[toI,kS]);rw[this,iP]
  have hlz:aE (toI (kS d)).length ((((b8 d).length:Nat):Int)).toNat=true:=by have:((((b8 d).length:Nat):Int)).toNat=(toI (kS d)).length:=(by simp[toI,kS]);rw[this,aN]
  have hq:=ad6 (n:=5000003) hd.law.1 (by omega);rcases hL2 h0 with ⟨rfl,y,hy1,rfl,rfl,hy4,Wc,Wa⟩|⟨rfl,rfl,rfl,hno⟩;obtain⟨j,hj,rfl⟩:=mem_iff_getElem.1 hy1
  have hlp:=ah3 (n:=5000003) (t:=t) (d:=d) (day:=day) (fl:=toI (jO d)[j]) (c:=(JH d (jO d)[j]).cost) (e:=0) (j:=j) ht hd Yo hv hC hne (λ i hi=>⟨λ h=>(List.getElem_inj hnd).1 (ah0 h),λh=>by subst h;rfl⟩) (λ _=>⟨hy4,rfl⟩)
   (λ i hi hf=>⟨rfl,Wc _ (getElem_mem hi) hf,λhij he=>Wa ((jO d).take j) ((jO d).drop (j+1)) (by rw[<- List.drop_eq_getElem_cons hj,List.take_append_drop]) _ (by rw[mem_iff_getElem];exact⟨i,by simp;omega,by simp⟩) hf he⟩) (by omega)
  simp only[hq,ai,hrep,hmk,hsz,hlz,hlp,iJ];simp[hj];have hlp:=ah3 (n:=5000003) (t:=t) (d:=d) (day:=day) (fl:=[]) (c:=0) (e:=4) (j:=(jO d).length) ht hd Yo hv hC hne (λ i hi=>⟨λ h=>by
   have h1:=(hfits _ (getElem_mem hi)).length;have h2:(toI (jO d)[i]).length=0:=(by rw[h];rfl);simp[toI]at h2;simp[caps]at h1;rw[h2]at h1;exact absurd h1 (by simp;omega),λh=>absurd h (by omega)⟩) (λ h=>absurd h (by omega))
   (λ i hi hf=>by rw[hno _ (getElem_mem hi)]at hf;cases hf) (ax _)
  simp only[hq,ai,hrep,hmk,hsz,hlz,hlp,iJ];simp;obtain⟨_,_,rfl⟩:=hL1 h0;have hbr:(uz 5000003 t d !=0)=true:=by simpa using h0
  rw[hbr];simp
mutual
theorem amv:∀g:bR,(toE g).wt<=kZ (qV g)
 |⟨op,n,s,key,args⟩=>by have:=Nw args;simp[toE,ET.wt,qV,kZ,oB];omega
theorem Nw:∀l:List bR,ET.te (HY l)<=AJ (sS l)
 |[]=>by simp[HY,ET.te]
 |x::xs=>by have h1:=amv x;have h2:=Nw xs;simp[HY,ET.te,sS,AJ];omega
end
theorem Z4:∀l:List gI,rm (l.map toD)<=AJ (l.map Eh)
 |[]=>by simp[rm]
 |x::xs=>by have h1:=Z4 xs;have h2:=Nw x.ek;simp[rm]at h1;simp[rm,toD,ET.wt,AJ,Eh,kZ,oB,<- sU];omega
theorem ajk(t:fM):rm (t.ci.map toD)<=kZ (Jl t):=by have:=Z4 t.ci;simp[Jl,kZ,oB];omega
theorem WT{r:List Tree}:∀{l:List (List Tree)},r∈l->kZ r<=AJ l
 |x::l,h=>by rw[AJ];rcases aR.1 h with rfl|h;omega;have:=WT h;omega
theorem ajl(r:cu):(toE (li r)).wt<=kZ (xh r):=by have h:=Nw r.fL;rw[sU]at h;simp[li,toE,ET.wt,xh,kZ,oB];omega
theorem Z5:∀l:List Int,l.length<=AJ (l.map λy=>[Tree.sc (.int .i64 y)])
 |[]=>by simp
 |x::l=>by have:=Z5 l;simp[AJ,kZ,oB];omega
theorem anC{t:fM}(h:kZ (Jl t)<=2000000):R0 t:=by
 have hd:=Nat.le_trans (ajk t) h;simp[Jl,kZ,oB]at h;refine⟨by unfold gj;omega,λr hr=>?_,λl hl=>?_⟩;have h1:=ajl r;have h2:=WT (mem_map.2 ⟨r,hr,rfl⟩:xh r∈t.bm.map xh);omega;have h1:=Z5 l.from_;have h2:=WT (mem_map.2 ⟨l,hl,rfl⟩:KO l∈t.land.map KO);have h3:AJ (l.from_.map λy=>[Tree.sc (.int .i64 y)])<=kZ (KO l):=by simp[KO,kZ,oB];omega
 omega
theorem anD{cs:List (CT xx.ι)}(q:HL xx.toSE (.st SI.j7::cs))(hb:UF (HL.nq xx.toSE (.st SI.j7::cs) q)<=1048576):R0 q.1:=by have h2:kZ (Jl q.1)+UF (HL.nq xx.toSE cs q.2)<=1048576:=hb;exact anC (by omega)
theorem R3(q:HL xx.toSE [.st SI.j7,.st SI.fY,.int .i64])(hb:UF (HL.nq xx.toSE [.st SI.j7,.st SI.fY,.int .i64] q)<=1048576):∃k,ru k q.1 q.2.1 q.2.2.1=some true:=
 ⟨5000003,P5 q.1 q.2.1 q.2.2.1 (anD q hb)⟩
end Go.Proofs
