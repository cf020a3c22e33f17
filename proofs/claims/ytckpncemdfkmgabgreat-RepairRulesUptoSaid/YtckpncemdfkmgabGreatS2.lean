import Derived.Test.YtckpncemdfkmgabGreatS1
open Go.IntKind (i64)
open List (length_take mem_map getElem_mem mem_iff_getElem length_nil mem_filter pairwise_cons filter_append pairwise_append eq_nil_of_length_eq_zero)
namespace Go.Proofs
open Go.Gb Go.RowKit
variable {n:Nat}
theorem TJ{α:Type}{l:List α}{K n:Nat}{step:Int->Option (Int⊕(Unit⊕Bool))}{good:α->Prop}(h1:∀i (hi:i<l.length),i<K->step i=some (.inr (.inr false))\/(step i=some (.inl (i+1:Nat))/\good l[i]))
 (h2:∀i:Nat,(¬ i<l.length\/¬i<K)->step i=some (.inr (.inl ()))) (hn:K+1<n):iter step n 0=some (.inr false)\/(iter step n 0=some (.inl ())/\(l.length<=K->∀x∈l,good x)):=by obtain⟨o,g1,g2⟩:=fC (step:=step) (λ i v=>v=i/\i<=l.length/\i<=K/\∀x∈l.take i,good x) (λ o=>o=.inr false\/(o=.inl ()/\(l.length<=K->∀x∈l,good x))) K (λ k v h=>h.2.2.1) (by rintro i v ⟨rfl,hi,hK,hall⟩;by_cases hlt:i<l.length/\i<K;rcases h1 i hlt.1 hlt.2 with h|⟨h,hg⟩;exact .inr ⟨_,h,.inl rfl⟩;refine .inl ⟨_,h,rfl,hlt.1,hlt.2,λx hx=>?_⟩;rw[List.take_add_one,dJ hlt.1,bK]at hx;rcases hx with hx|hx;exact hall x hx;simp at hx;subst hx;exact hg;refine .inr ⟨_,h2 i (by omega),.inr ⟨rfl,λhl x hx=>hall x ?_⟩⟩;rw[List.take_of_length_le (by omega)];exact hx) n 0 0 ⟨rfl,Nat.zero_le _,Nat.zero_le _,by simp⟩ (by omega);rcases g2 with rfl|⟨rfl,g2⟩;exact .inl g1;exact .inr ⟨g1,g2⟩
def WtR(l:List bP):Prop:=∀r∈l,(toE (lj r)).wt<=4000000
structure Se(t:eY):Prop where
 defs:gp t.ch
 rules:WtR t.az
 z6:∀l∈t.land,l.from_.length*8<=140737488355328
theorem Im(i len K:Nat){k:Int}(hk:k=K):((bif (decide ((i:Int)<(len:Nat)))then some (decide (i<k))else some false):Option Bool)=some (decide (i<len/\i<K)):=by subst hk;by_cases h1:i<len<;>by_cases h2:i<K<;>simp[h1]
structure aor(t:eY)(d:aG):Prop where
 town:Nn t
 draw:Yh d
 built:t.built.length<=8
 rules:t.az.length<=6
 zones:∀z∈t.b8,z.corners.length<=12
 caps:∀c∈t.ci,c.corners.length<=12/\t.ci.length<=3
theorem WE:WB 5000003:=⟨ay _,by omega⟩
theorem qG{α:Type}{d U V:List α}{x:α}{k:Nat}(h:d=U++x::V)(hk:k=U.length):d[k]? =some x:=by subst h;subst hk;simp
theorem xH{α:Type}{d U V:List α}{x y:α}{k:Nat}(h:d=U++x::V)(hk:k=U.length):d.set k y=U++y::V:=by subst h;subst hk;simp
theorem PT(k:Nat):(((0:Nat):Int)+(k:Nat)).toNat=k:=by simp
theorem E1{a b:Nat}(h:a+b<4611686018427387904):i64.wrap ((a:Nat)+(b:Nat))=(a+b:Nat):=by rw[aO (by omega) (by omega)];omega
def cT(r l:List aD):Prop:=∀c:Int,r.filter (λ x=>x.cost==c)=l.filter λx=>x.cost==c
theorem cT.refl l:cT l l:=λ_=>rfl
theorem cT.trans{a b c:List aD}(h:cT a b)(h':cT b c):cT a c:=λx=>(h x).trans (h' x)
theorem cT.app{a b c d:List aD}(h:cT a b)(h':cT c d):cT (a++c) (b++d):=λx=>by simp[h x,h' x]
theorem cT.mem{a b:List aD}(h:cT a b)(x:aD):x∈a↔x∈b:=by
 constructor<;>intro hx;have:x∈a.filter λy=>y.cost==x.cost:=by simp[hx]
 rw[h]at this;exact(mem_filter.1 this).1;have:x∈b.filter λy=>y.cost==x.cost:=by simp[hx]
 rw[<- h]at this;exact(mem_filter.1 this).1
theorem cT.swap{u v:List aD}(h:∀x∈u,∀y∈v,y.cost<x.cost):cT (v++u) (u++v):=by
 intro c;simp;by_cases hu:∃x∈u,x.cost=c;obtain⟨x,hx,rfl⟩:=hu;have:v.filter (λ y=>y.cost==x.cost)=[]:=by rw[List.filter_eq_nil_iff];intro y hy;have:=h x hx y hy;simp;omega
 rw[this];simp;have:u.filter (λ y=>y.cost==c)=[]:=by rw[List.filter_eq_nil_iff];intro y hy e;exact hu ⟨y,hy,by simpa using e⟩
 rw[this];simp
def kB(l:List aD):Prop:=l.Pairwise λa b=>a.cost<=b.cost
section
variable {φ:(aD×aD×Unit)->Option Int}
theorem Ku:∀(A2 B2 P A1 M B1 Q:List aD) a0 (fuel:Nat),A1.length=B1.length->A2.length=B2.length->a0.length=P.length+(A1.length+A2.length)+M.length+(A1.length+A2.length)+Q.length->a0.length<1099511627776->A2.length<fuel->
 iter (fB a0 (P.length:Nat) (P.length+(A1.length+A2.length)+M.length:Nat) (A1.length+A2.length:Nat)) fuel ((A1.length:Nat),P++(B1++(A2++(M++(A1++(B2++Q))))))=some (P++((B1++B2)++(M++((A1++A2)++Q))))
 |[],B2,P,A1,M,B1,Q,a0,fuel,h1,h2,h3,h4,h5=>by obtain⟨f,rfl⟩:∃f,fuel=f+1:=⟨fuel-1,by omega⟩;have:B2=[]:=eq_nil_of_length_eq_zero h2.symm;subst this;refine cK ?_;simp[fB]
 |x::A2,B2,P,A1,M,B1,Q,a0,fuel,h1,h2,h3,h4,h5=>by
  obtain⟨f,rfl⟩:∃f,fuel=f+1:=⟨fuel-1,by omega⟩;obtain⟨y,B2,rfl⟩:∃y B,B2=y::B:=by
   cases B2 with
   |nil=>simp at h2
   |cons y B=>exact⟨y,B,rfl⟩
  simp at h2 h3 h5;have d1:decide ((A1.length:Int)<(A1.length+(x::A2).length:Nat))=true:=by simp<;>omega
  have w1:i64.wrap ((P.length+(A1.length+(x::A2).length)+M.length:Nat)+(A1.length:Nat))=(P.length+(A1.length+(x::A2).length)+M.length+A1.length:Nat):=E1 (by simp<;>omega);have w2:i64.wrap ((P.length:Nat)+(A1.length:Nat))=(P.length+A1.length:Nat):=E1 (by omega);have w3:i64.wrap ((A1.length:Nat)+1)=((A1++[x]).length:Nat):=by rw[aQ (by omega)];simp
  have i1:cx (P.length+(A1.length+(x::A2).length)+M.length+A1.length:Nat) a0.length=true:=aW (by simp<;>omega);have i2:cx (P.length+A1.length:Nat) a0.length=true:=aW (by omega);have g1:(P++(B1++(x::A2++(M++(A1++(y::B2++Q))))))[P.length+(A1.length+(x::A2).length)+M.length+A1.length]? =some y:=qG (U:=P++(B1++(x::A2++(M++A1)))) (V:=B2++Q) (by simp) (by simp<;>omega);have g2:(P++(B1++(x::A2++(M++(A1++(y::B2++Q))))))[P.length+A1.length]? =some x:=qG (U:=P++B1) (V:=A2++(M++(A1++(y::B2++Q)))) (by simp) (by simp<;>omega);have s1:(P++(B1++(x::A2++(M++(A1++(y::B2++Q)))))).set (P.length+A1.length) y=(P++B1)++y::(A2++(M++(A1++(y::B2++Q)))):=xH (U:=P++B1) (V:=A2++(M++(A1++(y::B2++Q)))) (x:=x) (by simp) (by simp<;>omega);have g3:((P++B1)++y::(A2++(M++(A1++(y::B2++Q)))))[P.length+(A1.length+(x::A2).length)+M.length+A1.length]? =some y:=qG (U:=P++(B1++(y::A2++(M++A1)))) (V:=B2++Q) (by simp) (by simp<;>omega);have s2:((P++B1)++y::(A2++(M++(A1++(y::B2++Q))))).set (P.length+(A1.length+(x::A2).length)+M.length+A1.length) x=(P++(B1++(y::A2++(M++A1))))++x::(B2++Q):=xH (U:=P++(B1++(y::A2++(M++A1)))) (V:=B2++Q) (x:=y) (by simp) (by simp<;>omega)
  have step:fB a0 (P.length:Nat) (P.length+(A1.length+(x::A2).length)+M.length:Nat) (A1.length+(x::A2).length:Nat) ((A1.length:Nat),P++(B1++(x::A2++(M++(A1++(y::B2++Q))))))=
   some (.inl (((A1++[x]).length:Nat),P++((B1++[y])++(A2++(M++((A1++[x])++(B2++Q))))))):=by simp only[fB,d1,aj,w1,w2,w3,i1,i2,oN,g1,g2,ai,PT,s1,g3,s2];simp
  rw[dL step];have:=Ku A2 B2 P (A1++[x]) M (B1++[y]) Q a0 f (by simp[h1]) h2 (by simp<;>omega) h4 (by omega);have e1:(A1++[x]).length+A2.length=A1.length+(x::A2).length:=by simp<;>omega
  rw[e1]at this;rw[this];simp
theorem EI(P A M B Q:List aD)(h:A.length=B.length)(hl:(P++(A++(M++(B++Q)))).length<1099511627776)(hn:A.length<n){a b k:Int}(ha:a=(P.length:Nat))(hb:b=(P.length+A.length+M.length:Nat))(hk:k=(A.length:Nat)):
 dO n (P++(A++(M++(B++Q)))) a b k φ=some (P++(B++(M++(A++Q)))):=by subst ha hb hk;have:=Ku A B P [] M [] Q (P++(A++(M++(B++Q)))) n rfl h (by simp<;>omega) hl hn;simp only[length_nil,Nat.zero_add,fP]at this;unfold dO;have e:((0:Nat):Int)=0:=rfl;rw[e]at this;rw[this];rfl
theorem KU:∀(w:Nat) (P A B Q:List aD) a0 (fuel:Nat),A.length+B.length<=w->0<A.length->0<B.length->a0.length=(P++(A++(B++Q))).length->a0.length<1099511627776->a0.length<n->w<fuel->
 (iter (dP n a0 (P.length+A.length:Nat) φ) fuel ((A.length:Nat),(B.length:Nat),P++(A++(B++Q)))).bind (λ (w1,w2)=>ck (be a0.length w2.length) ((dO n w2 (i64.wrap ((P.length+A.length:Nat)-w1)) (P.length+A.length:Nat) w1 φ).bind λr3=>some r3))=some (P++(B++(A++Q)))
 | 0,P,A,B,Q,a0,fuel,h1,h2,h3,h4,h5,h6,h7=>by omega
 |w+1,P,A,B,Q,a0,fuel,h1,h2,h3,h4,h5,h6,h7=>by
  obtain⟨f,rfl⟩:∃f,fuel=f+1:=⟨fuel-1,by omega⟩;simp at h4;rcases Nat.lt_trichotomy A.length B.length with hlt|heq|hgt;obtain⟨B1,B2,rfl,hB2⟩:∃B1 B2,B=B1++B2/\B2.length=A.length:=⟨B.take (B.length-A.length),B.drop (B.length-A.length),by simp,by simp<;>omega⟩;simp at h1 h3 h4 hlt;have sw:=EI (φ:=φ) (n:=n) P A B1 B2 Q hB2.symm (by simp<;>omega) (by omega) (a:=((P.length+A.length:Nat)-(A.length:Nat))) (b:=(P.length+A.length+B1.length:Nat)) (k:=(A.length:Nat)) (by omega) rfl rfl;have step:dP n a0 (P.length+A.length:Nat) φ ((A.length:Nat),((B1++B2).length:Nat),P++(A++(B1++B2++Q)))=some (.inl ((A.length:Nat),(B1.length:Nat),P++(B2++(B1++(A++Q))))):=by have d1:((A.length:Int) !=((B1++B2).length:Nat))=true:=(by simp<;>omega);have d2:decide ((A.length:Int)>((B1++B2).length:Nat))=false:=(by simp<;>omega);have e1:be a0.length (P++(A++(B1++B2++Q))).length=true:=qw (by simp<;>omega);have w1:i64.wrap ((P.length+A.length:Nat)-(A.length:Nat))=(P.length+A.length:Nat)-(A.length:Nat):=aO (by omega) (by omega);have w2:i64.wrap (i64.wrap ((P.length+A.length:Nat)+((B1++B2).length:Nat))-(A.length:Nat))=(P.length+A.length+B1.length:Nat):=(by rw[aO (x:=(P.length+A.length:Nat)+((B1++B2).length:Nat)) (by simp<;>omega) (by simp<;>omega),aO (by simp<;>omega) (by simp<;>omega)];simp<;>omega);have w3:i64.wrap (((B1++B2).length:Nat)-(A.length:Nat))=(B1.length:Nat):=(by rw[aO (by simp<;>omega) (by simp<;>omega)];simp<;>omega);have e2:P++(A++(B1++B2++Q))=P++(A++(B1++(B2++Q))):=(by simp);simp only[dP,d1,d2,e1,aj,ax,w1,w2,w3];rw[e2,sw];rfl
  rw[dL step];have ih:=KU w P B2 B1 (A++Q) a0 f (by omega) (by omega) (by omega) (by simp<;>omega) h5 h6 (by omega);rw[hB2]at ih;rw[ih];simp;refine(congrArg (λ o=>Option.bind o _) (cK (o:=((A.length:Int),P++(A++(B++Q)))) ?_)).trans ?_;simp[dP,heq];have sw:=EI (φ:=φ) (n:=n) P A [] B Q heq (by simp<;>omega) (by omega) (a:=((P.length+A.length:Nat)-(A.length:Nat))) (b:=(P.length+A.length:Nat)) (k:=(A.length:Nat)) (by omega) (by simp) rfl;have w1:i64.wrap ((P.length+A.length:Nat)-(A.length:Nat))=(P.length+A.length:Nat)-(A.length:Nat):=aO (by omega) (by omega);have e1:be a0.length (P++(A++(B++Q))).length=true:=qw (by simp<;>omega);simp only[ai,e1,aj,w1];simp only[fP]at sw;rw[sw];rfl;obtain⟨A1,A2,rfl,hA1⟩:∃A1 A2,A=A1++A2/\A1.length=B.length:=⟨A.take B.length,A.drop B.length,by simp,by simp<;>omega⟩;simp at h1 h2 h4 hgt;have sw:=EI (φ:=φ) (n:=n) P A1 A2 B Q hA1 (by simp<;>omega) (by omega) (a:=((P.length+(A1++A2).length:Nat)-((A1++A2).length:Nat))) (b:=(P.length+(A1++A2).length:Nat)) (k:=(B.length:Nat)) (by simp<;>omega) (by simp<;>omega) (by rw[hA1]);have step:dP n a0 (P.length+(A1++A2).length:Nat) φ (((A1++A2).length:Nat),(B.length:Nat),P++(A1++A2++(B++Q)))=some (.inl ((A2.length:Nat),(B.length:Nat),P++(B++(A2++(A1++Q))))):=by have d1:((((A1++A2).length:Nat):Int) !=(B.length:Nat))=true:=(by simp<;>omega);have d2:decide ((((A1++A2).length:Nat):Int)>(B.length:Nat))=true:=(by simp<;>omega);have e1:be a0.length (P++(A1++A2++(B++Q))).length=true:=qw (by simp<;>omega);have w1:i64.wrap ((P.length+(A1++A2).length:Nat)-((A1++A2).length:Nat))=(P.length+(A1++A2).length:Nat)-((A1++A2).length:Nat):=aO (by simp<;>omega) (by simp<;>omega);have w3:i64.wrap (((A1++A2).length:Nat)-(B.length:Nat))=(A2.length:Nat):=(by rw[aO (by simp<;>omega) (by simp<;>omega)];simp<;>omega);have e2:P++(A1++A2++(B++Q))=P++(A1++(A2++(B++Q))):=(by simp);simp only[dP,d1,d2,e1,aj,w1,w3];rw[e2,sw];rfl
  rw[dL step];have ih:=KU w (P++B) A2 A1 Q a0 f (by omega) (by omega) (by omega) (by simp<;>omega) h5 h6 (by omega);have e3:(P++B).length+A2.length=P.length+(A1++A2).length:=by simp<;>omega
  rw[e3,hA1]at ih;simp at ih ⊢;rw[ih]
theorem ai8(P A B Q:List aD)(hA:0<A.length)(hB:0<B.length)(hl:(P++(A++(B++Q))).length<1099511627776)(hn:(P++(A++(B++Q))).length<n){a m b:Int}(ha:a=(P.length:Nat))(hm:m=(P.length+A.length:Nat))(hb:b=(P.length+A.length+B.length:Nat)):
 iy n (P++(A++(B++Q))) a m b φ=some (P++(B++(A++Q))):=by
 subst ha hm hb;have:=KU (φ:=φ) (n:=n) (A.length+B.length) P A B Q (P++(A++(B++Q))) n (ay _) hA hB rfl hl hn (by simp at hn;omega);unfold iy;simp at hl;have w1:i64.wrap ((P.length+A.length:Nat)-(P.length:Nat))=(A.length:Nat):=by rw[aO (by omega) (by omega)];omega
 have w2:i64.wrap ((P.length+A.length+B.length:Nat)-(P.length+A.length:Nat))=(B.length:Nat):=by rw[aO (by omega) (by omega)];omega
 rw[w1,w2];exact this
theorem MM{a b:Nat}(h:a+b<4611686018427387904):i64.wrap ((IntKind.u64.wrap (i64.wrap ((a:Nat)+(b:Nat))))/2 ^ (1:Int).toNat)=((a+b)/2:Nat):=by rw[E1 h,Zp (by omega)];show i64.wrap ((a+b:Nat)/2 ^ 1)=_;rw[aO (by omega) (by omega)];omega
theorem N3{step:(Int×Int)->Option ((Int×Int)⊕Int)}{p:Nat->Bool}{lo hi:Nat}(hstep:∀i j:Nat,lo<=i->i<j->j<=hi->step (i,j)=some (bif p ((i+j)/2)then .inl (((i+j)/2+1:Nat),j)else .inl (i,((i+j)/2:Nat))))
 (hend:∀i:Nat,step (i,i)=some (.inr i)) (mono:∀x y:Nat,lo<=x->x<=y->y<hi->p y=true->p x=true):∀(fuel i j:Nat),lo<=i->i<=j->j<=hi->j-i<fuel->(∀ x,lo<=x->x<i->p x=true)->(∀ x,j<=x->x<hi->p x=false)->
  ∃r:Nat,iter step fuel (i,j)=some (r:Int)/\lo<=r/\r<=hi/\(∀ x,lo<=x->x<r->p x=true)/\∀x,r<=x->x<hi->p x=false
 | 0,_,_,_,_,_,h,_,_=>by omega
 |f+1,i,j,h1,h2,h3,h4,h5,h6=>by
  by_cases hij:i=j;subst hij;exact⟨i,cK (hend i),h1,h3,h5,h6⟩;have hs:=hstep i j h1 (by omega) h3;cases hp:p ((i+j)/2)with
  |true=>
   rw[hp]at hs;rw[dL hs];exact N3 hstep hend mono f ((i+j)/2+1) j (by omega) (by omega) h3 (by omega) (λ x hx hx2=>mono x ((i+j)/2) hx (by omega) (by omega) hp) h6
  |false=>
   rw[hp]at hs;rw[dL hs];refine N3 hstep hend mono f i ((i+j)/2) h1 (by omega) (by omega) (by omega) h5 λx hx hx2=>?_;cases hq:p x with
   |false=>rfl
   |true=>rw[mono ((i+j)/2) x (by omega) hx hx2 hq]at hp;cases hp
theorem kB.le{l:List aD}(h:kB l){i j:Nat}(hij:i<=j)(hj:j<l.length):l[i].cost<=l[j].cost:=by
 rcases Nat.lt_or_ge i j with hlt|hge;exact List.pairwise_iff_getElem.1 h i j (by omega) hj hlt;have:i=j:=by omega
 subst this;exact Int.le_refl _
theorem ahP:∀(R P Q:List aD) (x:aD) a0 (fuel:Nat),a0.length=P.length+1+R.length+Q.length->a0.length<1099511627776->R.length<fuel->
 iter (fK a0 (P.length+R.length+1:Nat)) fuel ((P.length:Nat),P++x::(R++Q))=some (P++(R++x::Q))
 |[],P,Q,x,a0,fuel,h1,h2,h3=>by
  obtain⟨f,rfl⟩:∃f,fuel=f+1:=⟨fuel-1,by omega⟩;refine cK ?_;have w:i64.wrap ((P.length+([]:List aD).length+1:Nat)-1)=(P.length:Nat):=by rw[aO (by simp<;>omega) (by simp<;>omega)];simp
  simp only[fK,w];simp
 |y::R,P,Q,x,a0,fuel,h1,h2,h3=>by
  obtain⟨f,rfl⟩:∃f,fuel=f+1:=⟨fuel-1,by omega⟩;simp at h1 h3;have w:i64.wrap ((P.length+(y::R).length+1:Nat)-1)=(P.length+(y::R).length:Nat):=by rw[aO (by simp<;>omega) (by simp<;>omega)];simp<;>omega
  have d1:decide ((P.length:Int)<(P.length+(y::R).length:Nat))=true:=by simp<;>omega
  have w1:i64.wrap ((P.length:Nat)+1)=(P.length+1:Nat):=aQ (by omega);have i1:cx (P.length+1:Nat) a0.length=true:=aW (by omega);have i2:cx (P.length:Nat) a0.length=true:=aW (by omega);have g1:(P++x::(y::R++Q))[P.length+1]? =some y:=qG (U:=P++[x]) (V:=R++Q) (by simp) (by simp);have g2:(P++x::(y::R++Q))[P.length]? =some x:=qG (U:=P) rfl rfl;have s1:(P++x::(y::R++Q)).set P.length y=P++y::(y::R++Q):=xH rfl rfl;have g3:(P++y::(y::R++Q))[P.length+1]? =some y:=qG (U:=P++[y]) (V:=R++Q) (by simp) (by simp);have s2:(P++y::(y::R++Q)).set (P.length+1) x=(P++[y])++x::(R++Q):=xH (U:=P++[y]) (V:=R++Q) (x:=y) (by simp) (by simp);have step:fK a0 (P.length+(y::R).length+1:Nat) ((P.length:Nat),P++x::(y::R++Q))=some (.inl (((P++[y]).length:Nat),(P++[y])++x::(R++Q))):=by simp only[fK,w,d1,aj,w1,i1,i2,oN,g1,g2,ai,PT,s1,g3,s2];simp
  rw[dL step];have:=ahP R (P++[y]) Q x a0 f (by simp<;>omega) h2 (by omega);have e:(P++[y]).length+R.length+1=P.length+(y::R).length+1:=by simp<;>omega
  rw[e]at this;rw[this];simp
theorem ahQ:∀(L:List aD) (P Q:List aD) (x:aD) a0 (fuel:Nat),a0.length=P.length+1+L.length+Q.length->a0.length<1099511627776->L.length<fuel->
 iter (fM a0 (P.length:Nat)) fuel ((P.length+L.length:Nat),P++(L.reverse++x::Q))=some (P++x::(L.reverse++Q))
 |[],P,Q,x,a0,fuel,h1,h2,h3=>by obtain⟨f,rfl⟩:∃f,fuel=f+1:=⟨fuel-1,by omega⟩;refine cK ?_;simp[fM]
 |y::L,P,Q,x,a0,fuel,h1,h2,h3=>by
  obtain⟨f,rfl⟩:∃f,fuel=f+1:=⟨fuel-1,by omega⟩;simp at h1 h3;have d1:decide (((P.length+(y::L).length:Nat):Int)>(P.length:Nat))=true:=by simp<;>omega
  have w1:i64.wrap ((P.length+(y::L).length:Nat)-1)=(P.length+L.length:Nat):=by rw[aO (by simp<;>omega) (by simp<;>omega)];simp<;>omega
  have i1:cx (P.length+L.length:Nat) a0.length=true:=aW (by omega);have i2:cx (P.length+(y::L).length:Nat) a0.length=true:=aW (by simp<;>omega);have g1:(P++((y::L).reverse++x::Q))[P.length+L.length]? =some y:=qG (U:=P++L.reverse) (V:=x::Q) (by simp) (by simp);have g2:(P++((y::L).reverse++x::Q))[P.length+(y::L).length]? =some x:=qG (U:=P++(y::L).reverse) (V:=Q) (by simp) (by simp);have s1:(P++((y::L).reverse++x::Q)).set (P.length+(y::L).length) y=(P++(y::L).reverse)++y::Q:=xH (U:=P++(y::L).reverse) (V:=Q) (x:=x) (by simp) (by simp);have g3:((P++(y::L).reverse)++y::Q)[P.length+L.length]? =some y:=qG (U:=P++L.reverse) (V:=y::Q) (by simp) (by simp);have s2:((P++(y::L).reverse)++y::Q).set (P.length+L.length) x=(P++L.reverse)++x::(y::Q):=xH (U:=P++L.reverse) (V:=y::Q) (x:=y) (by simp) (by simp);have step:fM a0 (P.length:Nat) ((P.length+(y::L).length:Nat),P++((y::L).reverse++x::Q))=some (.inl ((P.length+L.length:Nat),P++(L.reverse++x::(y::Q)))):=by simp only[fM,d1,aj,w1,i1,i2,oN,g1,g2,ai,PT,s1,g3,s2];simp
  rw[dL step];have:=ahQ L P (y::Q) x a0 f (by simp<;>omega) h2 (by omega);rw[this];simp
def Fa(d:List aD)(k:Nat):Int:=(d[k]?.elim 0 λx=>x.cost)
theorem Jv{d U V W:List aD}{t:Nat}(h:d=U++(V++W))(ht:t<V.length):d[U.length+t]? =some V[t]/\Fa d (U.length+t)=V[t].cost:=by
 have:d[U.length+t]? =some V[t]:=by subst h;rw[oL (by omega),List.getElem?_append_left (by omega)];simp
 exact⟨this,by simp[Fa,this]⟩
theorem EJ{d:List aD}{k:Nat}(h:k<d.length):∃x,d[k]? =some x/\Fa d k=x.cost:=⟨d[k],by simp,by simp[Fa,h]⟩
theorem abu{a b:List aD}(ha:kB a)(hb:kB b)(h:∀x∈a,∀y∈b,x.cost<=y.cost):kB (a++b):=pairwise_append.2 ⟨ha,hb,h⟩
theorem CB{a b:List aD}(h:kB (a++b)):kB a:=(pairwise_append.1 h).1
theorem xW{a b:List aD}(h:kB (a++b)):kB b:=(pairwise_append.1 h).2.1
theorem Np{a b:List aD}(h:kB (a++b)):∀x∈a,∀y∈b,x.cost<=y.cost:=(pairwise_append.1 h).2.2
theorem PR:(decide (0<=1)&&decide (1<=IntKind.u64.bits))=true:=by decide
def tD(x y:aD):Bool:=decide (x.cost<y.cost)
theorem Rp(x:aD):∀ys:List aD,cT (fZ tD x ys).reverse (ys.reverse++[x])
 |[]=>cT.refl _
 |y::ys=>by
  simp[fZ];cases h:tD x y with
  |true=>
   simp;have:=(Rp x ys).app (cT.refl [y]);refine this.trans ?_;simp;exact(cT.refl _).app (cT.swap (u:=[y]) (v:=[x]) λa ha b hb=>by rw[bq.1 ha,bq.1 hb];exact of_decide_eq_true h)
  |false=>simp;exact cT.refl _
theorem WG(x:aD):∀ys:List aD,ys.Pairwise (λ a b=>b.cost<=a.cost)->(fZ tD x ys).Pairwise λa b=>b.cost<=a.cost
 |[],_=>by simp[fZ]
 |y::ys,h=>by
  rw[pairwise_cons]at h;simp[fZ];cases hx:tD x y with
  |true=>
   have hxy:x.cost<y.cost:=of_decide_eq_true hx;simp;refine⟨λ z hz=>?_,WG x ys h.2⟩;rcases (D7 x z ys).1 hz with rfl|hz;exact Int.le_of_lt hxy;exact h.1 z hz
  |false=>
   have hxy:¬x.cost<y.cost:=of_decide_eq_false hx;simp only[ax,pairwise_cons,aR];refine⟨λ z hz=>?_,h⟩;rcases hz with rfl|hz;omega;have:=h.1 z hz;omega
inductive Ch(bs:Nat):List aD->Prop
 |last {l:List aD}:kB l->l.length<=bs->Ch bs l
 |cons {b l:List aD}:kB b->b.length=bs->Ch bs l->Ch bs (b++l)
theorem Ch.xl{bs:Nat}{l:List aD}(h:Ch bs l)(hl:l.length<=bs)(_:0<bs):kB l:=by
 cases h with
 |last h1 h2=>exact h1
 | @cons b l h1 h2 h3=>
  simp at hl;have:l=[]:=eq_nil_of_length_eq_zero (by omega);rw[this];simpa using h1
variable (hφ:∀x y:aD,∃c,φ (x,y,())=some c/\(c<0↔x.cost<y.cost))
include hφ
theorem aom{rc}(P R Q:List aD)(x:aD)(hR:kB R)(hl:(P++(x::(R++Q))).length<1099511627776)(hn:(P++(x::(R++Q))).length<n):
 ∃M,dm n rc (P++(x::(R++Q))) (P.length:Nat) (P.length+1:Nat) (P.length+1+R.length:Nat) φ=some (P++(M++Q))/\M.length=1+R.length/\kB M/\cT M ([x]++R):=by
 obtain⟨d,hd⟩:∃d,P++(x::(R++Q))=d:=⟨_,rfl⟩;have hdl:d.length=P.length+1+R.length+Q.length:=by rw[<- hd];simp<;>omega
 rw[hd]at hl hn ⊢;have hx:d[P.length]? =some x:=qG hd.symm rfl;have hkey:∀k,(hk0:P.length+1<=k)->(hk:k<P.length+1+R.length)->Fa d k=(R[k-(P.length+1)]'(by omega)).cost:=λk h1 h2=>by have:=(Jv (d:=d) (U:=P++[x]) (V:=R) (W:=Q) (t:=k-(P.length+1)) (by rw[<- hd];simp) (by omega)).2;rw[<- this];congr 1;simp<;>omega
 obtain⟨r,hr,r1,r2,r3,r4⟩:=N3 (step:=gX d (P.length:Nat) φ) (p:=λk=>decide (Fa d k<x.cost)) (lo:=P.length+1) (hi:=P.length+1+R.length) (λ i j h1 h2 h3=>by
  obtain⟨z,hz,H2⟩:=EJ (d:=d) (k:=(i+j)/2) (by omega);have d1:decide ((i:Int)<j)=true:=by simp<;>omega
  have i1:cx ((i+j)/2:Nat) d.length=true:=aW (by omega);have i2:cx (P.length:Nat) d.length=true:=aW (by omega);have⟨c,c1,c2⟩:=hφ z x;simp only[gX,d1,aj,PR,MM (show i+j<4611686018427387904 by omega),i1,i2,oN,hz,hx,ai,c1];rw[H2,aQ (by omega)];by_cases hc:c<0;simp[hc,c2.1 hc];have hc':¬z.cost<x.cost:=λh=>hc (c2.2 h);simp[hc,hc']) (λ i=>by simp[gX]) (λ a b h1 h2 h3 h4=>by simp at h4 ⊢;rw[hkey a h1 (by omega)];rw[hkey b (by omega) h3]at h4;have:=hR.le (i:=a-(P.length+1)) (j:=b-(P.length+1)) (by omega) (by omega);omega) n (P.length+1) (P.length+1+R.length) (ay _) (by omega) (ay _) (by omega) (λ _ h1 h2=>by omega) (λ _ h1 h2=>by omega)
 obtain⟨R1,R2,nf,hR1⟩:∃R1 R2,R=R1++R2/\R1.length=r-(P.length+1):=⟨R.take (r-(P.length+1)),R.drop (r-(P.length+1)),by simp,by simp<;>omega⟩;have hf:=ahP R1 P (R2++Q) x d n (by rw[hdl,nf];simp<;>omega) hl (by omega);have e1:P.length+R1.length+1=r:=by omega
 have e2:P++x::(R1++(R2++Q))=d:=by rw[<- hd,nf];simp
 rw[e1,e2]at hf;have hlt:∀y∈R1,y.cost<x.cost:=λy hy=>by
  obtain⟨k,hk,rfl⟩:=mem_iff_getElem.1 hy;have:=r3 (P.length+1+k) (by omega) (by omega);simp at this;rw[hkey _ (by omega) (by omega)]at this;simp[nf]at this
  rwa [List.getElem_append_left hk]at this
 have hge:∀y∈R2,x.cost<=y.cost:=λy hy=>by
  obtain⟨k,hk,rfl⟩:=mem_iff_getElem.1 hy;have hlen:R.length=R1.length+R2.length:=by rw[nf];simp
  have:=r4 (r+k) (by omega) (by omega);simp at this;rw[hkey _ (by omega) (by omega)]at this;have e:r+k-(P.length+1)=R1.length+k:=by omega
  simp only[e,nf]at this;rw[List.getElem_append_right (by omega)]at this;simp at this;omega
 refine⟨R1++x::R2,?_,by rw[nf];simp<;>omega,?_,?_⟩;have c1:(i64.wrap ((P.length+1:Nat)-(P.length:Nat))==1)=true:=by rw[aO (by omega) (by omega)];simp<;>omega
 unfold dm;rw[c1,aj,hr];simp only[ai];rw[hf];simp;rw[nf]at hR;refine abu (CB hR) (pairwise_cons.2 ⟨hge,xW hR⟩) λy hy z hz=>?_;rcases aR.1 hz with rfl|hz;exact Int.le_of_lt (hlt y hy);exact Np hR y hy z hz;have:=(cT.swap (u:=[x]) (v:=R1) λa ha b hb=>by rw[bq.1 ha];exact hlt b hb).app (cT.refl R2);rw[nf];simpa using this
theorem aon{rc}(P L Q:List aD)(y:aD)(hL:kB L)(hL1:1<L.length)(hl:(P++(L++y::Q)).length<1099511627776)(hn:(P++(L++y::Q)).length<n):
 ∃M,dm n rc (P++(L++y::Q)) (P.length:Nat) (P.length+L.length:Nat) (P.length+L.length+1:Nat) φ=some (P++(M++Q))/\M.length=L.length+1/\kB M/\cT M (L++[y]):=by
 obtain⟨d,hd⟩:∃d,P++(L++y::Q)=d:=⟨_,rfl⟩;have hdl:d.length=P.length+L.length+1+Q.length:=by rw[<- hd];simp<;>omega
 rw[hd]at hl hn ⊢;have hy:d[P.length+L.length]? =some y:=qG (U:=P++L) (V:=Q) (by rw[<- hd];simp) (by simp);have hkey:∀k,(hk0:P.length<=k)->(hk:k<P.length+L.length)->Fa d k=(L[k-P.length]'(by omega)).cost:=λk h1 h2=>by have:=(Jv (d:=d) (U:=P) (V:=L) (W:=y::Q) (t:=k-P.length) hd.symm (by omega)).2;rw[<- this];congr 1;omega
 obtain⟨r,hr,r1,r2,r3,r4⟩:=N3 (step:=gY d (P.length+L.length:Nat) φ) (p:=λk=>decide (Fa d k<=y.cost)) (lo:=P.length) (hi:=P.length+L.length) (λ i j h1 h2 h3=>by
  obtain⟨z,hz,H2⟩:=EJ (d:=d) (k:=(i+j)/2) (by omega);have d1:decide ((i:Int)<j)=true:=by simp<;>omega
  have i1:cx ((i+j)/2:Nat) d.length=true:=aW (by omega);have i2:cx (P.length+L.length:Nat) d.length=true:=aW (by omega);have⟨c,c1,c2⟩:=hφ y z;simp only[gY,d1,aj,PR,MM (show i+j<4611686018427387904 by omega),i1,i2,oN,hz,hy,ai,c1];rw[H2,aQ (by omega)];by_cases hc:c<0;have:=c2.1 hc;simp[hc,show ¬z.cost<=y.cost by omega];have:¬y.cost<z.cost:=λh=>hc (c2.2 h);simp[hc,show z.cost<=y.cost by omega]) (λ i=>by simp[gY]) (λ a b h1 h2 h3 h4=>by simp at h4 ⊢;rw[hkey a h1 (by omega)];rw[hkey b (by omega) h3]at h4;have:=hL.le (i:=a-P.length) (j:=b-P.length) (by omega) (by omega);omega) n P.length (P.length+L.length) (ay _) (by omega) (ay _) (by omega) (λ _ h1 h2=>by omega) (λ _ h1 h2=>by omega)
 obtain⟨L1,L2,pj,hLl⟩:∃L1 L2,L=L1++L2/\L1.length=r-P.length:=⟨L.take (r-P.length),L.drop (r-P.length),by simp,by simp<;>omega⟩;have hlen:L.length=L1.length+L2.length:=by rw[pj];simp
 have hf:=ahQ L2.reverse (P++L1) Q y d n (by rw[hdl];simp<;>omega) hl (by simp<;>omega);have e1:(P++L1).length=r:=by simp<;>omega
 have e2:(P++L1)++(L2.reverse.reverse++y::Q)=d:=by rw[<- hd,pj];simp
 rw[e1,e2]at hf;have e3:r+L2.reverse.length=P.length+L.length:=by simp<;>omega
 rw[e3]at hf;have hle:∀z∈L1,z.cost<=y.cost:=λz hz=>by
  obtain⟨k,hk,rfl⟩:=mem_iff_getElem.1 hz;have:=r3 (P.length+k) (by omega) (by omega);simp at this;rw[hkey _ (by omega) (by omega)]at this;simp[pj]at this
  rwa [List.getElem_append_left hk]at this
 have hgt:∀z∈L2,y.cost<z.cost:=λz hz=>by
  obtain⟨k,hk,rfl⟩:=mem_iff_getElem.1 hz;have:=r4 (r+k) (by omega) (by omega);simp at this;rw[hkey _ (by omega) (by omega)]at this;have e:r+k-P.length=L1.length+k:=by omega
  simp only[e,pj]at this;rw[List.getElem_append_right (by omega)]at this;simp at this;omega
 refine⟨L1++y::L2,?_,by rw[hlen];simp<;>omega,?_,?_⟩;have c1:(i64.wrap ((P.length+L.length:Nat)-(P.length:Nat))==1)=false:=by rw[aO (by omega) (by omega)];simp<;>omega
 have c2:(i64.wrap ((P.length+L.length+1:Nat)-(P.length+L.length:Nat))==1)=true:=by rw[aO (by omega) (by omega)];simp<;>omega
 unfold dm;rw[c1,ax,c2,aj,hr];simp only[ai];rw[hf];simp;rw[pj]at hL;refine abu (CB hL) (pairwise_cons.2 ⟨λ z hz=>Int.le_of_lt (hgt z hz),xW hL⟩) λa ha b hb=>?_;rcases aR.1 hb with rfl|hb;exact hle a ha;exact Np hL a ha b hb;have:=(cT.refl L1).app (cT.swap (u:=L2) (v:=[y]) λa ha b hb=>by rw[bq.1 hb];exact hgt a ha);rw[pj];simpa using this
theorem aoo(P L R Q:List aD)(hL:kB L)(hR:kB R)(hL1:0<L.length)(hR1:0<R.length)(hl:(P++(L++(R++Q))).length<1099511627776)(hn:(P++(L++(R++Q))).length<n)(mid:Nat)(hmid:mid=(P.length+(P.length+L.length+R.length))/2)(s0 t0:Nat)
 (hst:(mid<P.length+L.length/\s0=mid+(P.length+L.length)-(P.length+L.length+R.length)/\t0=mid)\/(P.length+L.length<=mid/\s0=P.length/\t0=P.length+L.length)):
 ∃L1 L2 R1 R2,L=L1++L2/\R=R1++R2/\P.length+L1.length+R1.length=mid/\(∀ x∈L1,∀y∈R2,x.cost<=y.cost)/\(∀ y∈R1,∀x∈L2,y.cost<x.cost)/\
  iter (fO (P++(L++(R++Q))) (P.length:Nat) (P.length+L.length:Nat) (P.length+L.length+R.length:Nat) φ) n (s0,t0)=some ((P.length+L1.length:Nat):Int):=by
 obtain⟨d,hd⟩:∃d,P++(L++(R++Q))=d:=⟨_,rfl⟩;have hdl:d.length=P.length+L.length+R.length+Q.length:=by rw[<- hd];simp<;>omega
 rw[hd]at hl hn ⊢;have PJ:∀k,(hk0:P.length<=k)->(hk:k<P.length+L.length)->Fa d k=(L[k-P.length]'(by omega)).cost:=λk h1 h2=>by have:=(Jv (d:=d) (U:=P) (V:=L) (W:=R++Q) (t:=k-P.length) hd.symm (by omega)).2;rw[<- this];congr 1;omega
 have PH:∀k,(hk0:P.length+L.length<=k)->(hk:k<P.length+L.length+R.length)->Fa d k=(R[k-(P.length+L.length)]'(by omega)).cost:=λk h1 h2=>by have:=(Jv (d:=d) (U:=P++L) (V:=R) (W:=Q) (t:=k-(P.length+L.length)) (by rw[<- hd];simp) (by omega)).2;rw[<- this];congr 1;simp<;>omega
 have hb:s0<=t0/\P.length<=s0/\t0<=P.length+L.length/\(∀ k,s0<=k->k<t0->P.length+L.length<=mid+(P.length+L.length)-1-k/\mid+(P.length+L.length)-1-k<P.length+L.length+R.length):=by rcases hst with ⟨h1,h2,h3⟩|⟨h1,h2,h3⟩;refine⟨by omega,by omega,by omega,λk h4 h5=>by omega⟩;refine⟨by omega,by omega,by omega,λk h4 h5=>by omega⟩
 obtain⟨b1,b2,b3,b4⟩:=hb;obtain⟨r,hr,r1,r2,r3,r4⟩:=N3 (step:=fO d (P.length:Nat) (P.length+L.length:Nat) (P.length+L.length+R.length:Nat) φ) (p:=λk=>decide (Fa d k<=Fa d (mid+(P.length+L.length)-1-k))) (lo:=s0) (hi:=t0) (λ i j h1 h2 h3=>by
  have hk:=b4 ((i+j)/2) (by omega) (by omega);obtain⟨z,hz,H2⟩:=EJ (d:=d) (k:=(i+j)/2) (by omega);obtain⟨y,hy,hyk⟩:=EJ (d:=d) (k:=mid+(P.length+L.length)-1-(i+j)/2) (by omega);have d1:decide ((i:Int)<j)=true:=by simp<;>omega
  have wm:i64.wrap ((IntKind.u64.wrap (i64.wrap ((P.length:Nat)+(P.length+L.length+R.length:Nat))))/2 ^ (1:Int).toNat)=(mid:Nat):=by rw[MM (by omega),<- hmid]
  have wp:i64.wrap (i64.wrap (i64.wrap ((mid:Nat)+(P.length+L.length:Nat))-1)-((i+j)/2:Nat))=(mid+(P.length+L.length)-1-(i+j)/2:Nat):=by rw[E1 (by omega),aO (x:=(mid+(P.length+L.length):Nat)-1),aO (by omega) (by omega)];omega
  have i1:cx ((i+j)/2:Nat) d.length=true:=aW (by omega);have i2:cx (mid+(P.length+L.length)-1-(i+j)/2:Nat) d.length=true:=aW (by omega);have⟨c,c1,c2⟩:=hφ y z;simp only[fO,d1,aj,PR,wm,MM (show i+j<4611686018427387904 by omega),wp,i1,i2,oN,hz,hy,ai,c1];rw[H2,hyk,aQ (by omega)];by_cases hc:c<0;have:=c2.1 hc;simp[hc,show ¬z.cost<=y.cost by omega];have:¬y.cost<z.cost:=λh=>hc (c2.2 h);simp[hc,show z.cost<=y.cost by omega]) (λ i=>by simp[fO]) (λ a b h1 h2 h3 h4=>by simp[bE]at h4 ⊢;have ha:=b4 a h1 (by omega);have hb':=b4 b (by omega) h3;rw[PJ a (by omega) (by omega),PH _ ha.1 ha.2];rw[PJ b (by omega) (by omega),PH _ hb'.1 hb'.2]at h4;have e1:=hL.le (i:=a-P.length) (j:=b-P.length) (by omega) (by omega);have e2:=hR.le (i:=mid+(P.length+L.length)-1-b-(P.length+L.length)) (j:=mid+(P.length+L.length)-1-a-(P.length+L.length)) (by omega) (by omega);omega) n s0 t0 (ay _) b1 (ay _) (by omega) (λ _ h1 h2=>by omega) (λ _ h1 h2=>by omega)
 obtain⟨L1,L2,pj,hLl⟩:∃L1 L2,L=L1++L2/\L1.length=r-P.length:=⟨L.take (r-P.length),L.drop (r-P.length),by simp,by simp<;>omega⟩;obtain⟨R1,R2,nf,hRl⟩:∃R1 R2,R=R1++R2/\R1.length=mid-r:=⟨R.take (mid-r),R.drop (mid-r),by simp,by simp<;>omega⟩;have lL:L.length=L1.length+L2.length:=by rw[pj];simp
 have lR:R.length=R1.length+R2.length:=by rw[nf];simp
 refine⟨L1,L2,R1,R2,pj,nf,by omega,λx hx y hy=>?_,λy hy x hx=>?_,by rw[hr];congr 1;omega⟩;obtain⟨k,hk,rfl⟩:=mem_iff_getElem.1 hx;obtain⟨q,hq,rfl⟩:=mem_iff_getElem.1 hy;have hr1:=r3 (r-1) (by omega) (by omega);simp[bE]at hr1;have hbb:=b4 (r-1) (by omega) (by omega);rw[PJ (r-1) (by omega) (by omega),PH _ hbb.1 hbb.2]at hr1;have e1:=hL.le (i:=k) (j:=r-1-P.length) (by omega) (by omega);have e2:=hR.le (i:=mid+(P.length+L.length)-1-(r-1)-(P.length+L.length)) (j:=R1.length+q) (by omega) (by omega);have f1:L[k]'(by omega)=L1[k]:=by simp[pj];exact List.getElem_append_left hk
 have f2:R[R1.length+q]'(by omega)=R2[q]:=by simp only[nf];rw[List.getElem_append_right (by omega)];simp
 rw[f1]at e1;rw[f2]at e2;omega;obtain⟨k,hk,rfl⟩:=mem_iff_getElem.1 hx;obtain⟨q,hq,rfl⟩:=mem_iff_getElem.1 hy;have hs:r<t0:=by rcases hst with h|h<;>omega
 have hr1:=r4 r (by omega) hs;simp[dN]at hr1;have hbb:=b4 r (by omega) hs;rw[PJ r (by omega) (by omega),PH _ hbb.1 hbb.2]at hr1;have e1:=hL.le (i:=r-P.length) (j:=L1.length+k) (by omega) (by omega);have e2:=hR.le (i:=q) (j:=mid+(P.length+L.length)-1-r-(P.length+L.length)) (by omega) (by omega);have f1:L[L1.length+k]'(by omega)=L2[k]:=by simp only[pj];rw[List.getElem_append_right (by omega)];simp
 have f2:R[q]'(by omega)=R1[q]:=by simp[nf];exact List.getElem_append_left hq
 rw[f1]at e1;rw[f2]at e2;omega
theorem abv:∀(m:Nat)(P L R Q:List aD),kB L->kB R->0<L.length->0<R.length->L.length+R.length<=m->(P++(L++(R++Q))).length<1099511627776->(P++(L++(R++Q))).length<n->
 ∃M,bW n m (P++(L++(R++Q))) (P.length:Int) ((P.length+L.length:Nat):Int) ((P.length+L.length+R.length:Nat):Int) φ=some (P++(M++Q))/\M.length=L.length+R.length/\kB M/\cT M (L++R)
 | 0,P,L,R,Q,_,_,h1,h2,h3,_,_=>by omega
 |m+1,P,L,R,Q,hL,hR,h1,h2,h3,hl,hn=>by
  show ∃M,dm n (bW n m) (P++(L++(R++Q))) (P.length:Int) ((P.length+L.length:Nat):Int) ((P.length+L.length+R.length:Nat):Int) φ=some (P++(M++Q))/\M.length=L.length+R.length/\kB M/\cT M (L++R);by_cases hL1:L.length=1;obtain⟨x,rfl⟩:=List.length_eq_one_iff.1 hL1;obtain⟨M,g1,g2,g3,g4⟩:=aom hφ (n:=n) (rc:=bW n m) P R Q x hR (by simpa using hl) (by simpa using hn);exact⟨M,by simpa using g1,by simpa using g2,g3,g4⟩;by_cases hR1:R.length=1;obtain⟨y,rfl⟩:=List.length_eq_one_iff.1 hR1;obtain⟨M,g1,g2,g3,g4⟩:=aon hφ (n:=n) (rc:=bW n m) P L Q y hL (by omega) (by simpa using hl) (by simpa using hn);exact⟨M,by simpa using g1,by simpa using g2,g3,g4⟩;have hlen:(P++(L++(R++Q))).length=P.length+L.length+R.length+Q.length:=by simp<;>omega
  rw[hlen]at hl hn;obtain⟨mid,hmid⟩:∃mid,mid=(P.length+(P.length+L.length+R.length))/2:=⟨_,rfl⟩;obtain⟨s0,t0,hst⟩:∃s0 t0,(mid<P.length+L.length/\s0=mid+(P.length+L.length)-(P.length+L.length+R.length)/\t0=mid)\/(P.length+L.length<=mid/\s0=P.length/\t0=P.length+L.length):=by rcases Nat.lt_or_ge mid (P.length+L.length)with h|h;exact⟨_,_,.inl ⟨h,rfl,rfl⟩⟩;exact⟨_,_,.inr ⟨h,rfl,rfl⟩⟩
  obtain⟨L1,L2,R1,R2,rfl,rfl,k1,k2,k3,k4⟩:=aoo hφ (n:=n) P L R Q hL hR h1 h2 (by rw[hlen];exact hl) (by rw[hlen];exact hn) mid hmid s0 t0 hst;have lL:(L1++L2).length=L1.length+L2.length:=by simp
  have lR:(R1++R2).length=R1.length+R2.length:=by simp
  have wm:i64.wrap ((IntKind.u64.wrap (i64.wrap ((P.length:Int)+((P.length+(L1++L2).length+(R1++R2).length:Nat):Int))))/2 ^ (1:Int).toNat)=(mid:Int):=by rw[MM (by omega),<- hmid]
  have wn:i64.wrap ((mid:Int)+((P.length+(L1++L2).length:Nat):Int))=((mid+(P.length+(L1++L2).length):Nat):Int):=E1 (by omega);have we:i64.wrap (((mid+(P.length+(L1++L2).length):Nat):Int)-((P.length+L1.length:Nat):Int))=((P.length+L1.length+L2.length+R1.length:Nat):Int):=by rw[aO (by omega) (by omega)];omega
  have c1:(i64.wrap (((P.length+(L1++L2).length:Nat):Int)-(P.length:Int))==(1:Int))=false:=by rw[aO (by omega) (by omega)];simp only[beq_eq_false_iff_ne];omega
  have c2:(i64.wrap (((P.length+(L1++L2).length+(R1++R2).length:Nat):Int)-((P.length+(L1++L2).length:Nat):Int))==(1:Int))=false:=by rw[aO (by omega) (by omega)];simp only[beq_eq_false_iff_ne];omega
  have hsel:((bif decide (((P.length+(L1++L2).length:Nat):Int)>(mid:Int))then some (i64.wrap (((mid+(P.length+(L1++L2).length):Nat):Int)-((P.length+(L1++L2).length+(R1++R2).length:Nat):Int)),(mid:Int))else some ((P.length:Int),((P.length+(L1++L2).length:Nat):Int))):Option (Int×Int))=some ((s0:Int),(t0:Int)):=by rcases hst with ⟨q1,q2,q3⟩|⟨q1,q2,q3⟩;rw[show decide (((P.length+(L1++L2).length:Nat):Int)>(mid:Int))=true by simp only[bE];omega,aj,aO (by omega) (by omega),q2,q3];congr 2;omega;rw[show decide (((P.length+(L1++L2).length:Nat):Int)>(mid:Int))=false by simp only[dN];omega,ax,q2,q3]
  have XN:((bif decide (((P.length+L1.length:Nat):Int)<((P.length+(L1++L2).length:Nat):Int))then some (decide (((P.length+(L1++L2).length:Nat):Int)<((P.length+L1.length+L2.length+R1.length:Nat):Int)))else some false:Option Bool).bind λv13=>bif v13 then(ck (be (P++(L1++L2++(R1++R2++Q))).length (P++(L1++L2++(R1++R2++Q))).length) ((iy n (P++(L1++L2++(R1++R2++Q))) ((P.length+L1.length:Nat):Int) ((P.length+(L1++L2).length:Nat):Int) ((P.length+L1.length+L2.length+R1.length:Nat):Int) φ).bind λr4=>some r4))else some (P++(L1++L2++(R1++R2++Q))))=some (P++(L1++(R1++(L2++(R2++Q))))):=by by_cases e1:L2=[];subst e1;simp;by_cases e2:R1=[];subst e2;rw[show decide (((P.length+(L1++L2).length:Nat):Int)<((P.length+L1.length+L2.length+([]:List aD).length:Nat):Int))=false by simp only[dN,length_nil];omega];cases decide (((P.length+L1.length:Nat):Int)<((P.length+(L1++L2).length:Nat):Int))<;>simp;have p1:0<L2.length:=List.length_pos_iff.2 e1;have p2:0<R1.length:=List.length_pos_iff.2 e2;have:=ai8 (φ:=φ) (n:=n) (P++L1) L2 R1 (R2++Q) p1 p2 (by simp;simp at hl;omega) (by simp;simp at hn;omega) (a:=((P.length+L1.length:Nat):Int)) (m:=((P.length+(L1++L2).length:Nat):Int)) (b:=((P.length+L1.length+L2.length+R1.length:Nat):Int)) (by simp) (by simp<;>omega) (by simp);have e3:P++(L1++L2++(R1++R2++Q))=P++L1++(L2++(R1++(R2++Q))):=(by simp);rw[show decide (((P.length+L1.length:Nat):Int)<((P.length+(L1++L2).length:Nat):Int))=true by simp only[bE];omega,aj,show decide (((P.length+(L1++L2).length:Nat):Int)<((P.length+L1.length+L2.length+R1.length:Nat):Int))=true by simp only[bE];omega];simp only[ai,aj,aN];rw[e3,this];simp
  obtain⟨M1,m1,m2,m3,m4⟩:∃M1,((bif decide ((P.length:Int)<((P.length+L1.length:Nat):Int))then some (decide (((P.length+L1.length:Nat):Int)<(mid:Int)))else some false:Option Bool).bind λv15=>bif v15 then(ck (be (P++(L1++L2++(R1++R2++Q))).length (P++(L1++(R1++(L2++(R2++Q))))).length) ((bW n m (P++(L1++(R1++(L2++(R2++Q))))) (P.length:Int) ((P.length+L1.length:Nat):Int) (mid:Int) φ).bind λr5=>some r5))else some (P++(L1++(R1++(L2++(R2++Q))))))=some (P++(M1++(L2++(R2++Q))))/\M1.length=L1.length+R1.length/\kB M1/\cT M1 (L1++R1):=by by_cases e1:L1=[];subst e1;exact⟨R1,by simp,by simp,CB hR,cT.refl _⟩;by_cases e2:R1=[];subst e2;have:(mid:Int)=((P.length+L1.length:Nat):Int):=(by simp at k1;omega);exact⟨L1,by rw[this];simp,by simp,CB hL,by simpa using cT.refl L1⟩;have p1:0<L1.length:=List.length_pos_iff.2 e1;have p2:0<R1.length:=List.length_pos_iff.2 e2;obtain⟨M,g1,g2,g3,g4⟩:=abv m P L1 R1 (L2++(R2++Q)) (CB hL) (CB hR) p1 p2 (by omega) (by simp;simp at hl;omega) (by simp;simp at hn;omega);refine⟨M,?_,g2,g3,g4⟩;rw[show decide ((P.length:Int)<((P.length+L1.length:Nat):Int))=true by simp only[bE];omega,aj,show decide (((P.length+L1.length:Nat):Int)<(mid:Int))=true by simp only[bE];omega];simp only[ai,aj];rw[qw (by simp<;>omega)];simp only[aj];rw[<- k1,g1];rfl
  obtain⟨M2,q1,q2,q3,q4⟩:∃M2,((bif decide ((mid:Int)<((P.length+L1.length+L2.length+R1.length:Nat):Int))then some (decide (((P.length+L1.length+L2.length+R1.length:Nat):Int)<((P.length+(L1++L2).length+(R1++R2).length:Nat):Int)))else some false:Option Bool).bind λv17=>bif v17 then(ck (be (P++(L1++L2++(R1++R2++Q))).length (P++(M1++(L2++(R2++Q)))).length) ((bW n m (P++(M1++(L2++(R2++Q)))) (mid:Int) ((P.length+L1.length+L2.length+R1.length:Nat):Int) ((P.length+(L1++L2).length+(R1++R2).length:Nat):Int) φ).bind λr6=>some r6))else some (P++(M1++(L2++(R2++Q)))))=some (P++(M1++(M2++Q)))/\M2.length=L2.length+R2.length/\kB M2/\cT M2 (L2++R2):=by have hm1:P.length+M1.length=mid:=(by omega);by_cases e1:L2=[];subst e1;exact⟨R2,by rw[show decide ((mid:Int)<((P.length+L1.length+([]:List aD).length+R1.length:Nat):Int))=false by simp only[dN,length_nil];omega];simp,by simp,xW hR,cT.refl _⟩;by_cases e2:R2=[];subst e2;refine⟨L2,?_,by simp,xW hL,by simpa using cT.refl L2⟩;rw[show decide (((P.length+L1.length+L2.length+R1.length:Nat):Int)<((P.length+(L1++L2).length+(R1++([]:List aD)).length:Nat):Int))=false by simp only[dN,List.append_nil];omega];cases decide ((mid:Nat)<(P.length+L1.length+L2.length+R1.length:Nat))<;>simp;have p1:0<L2.length:=List.length_pos_iff.2 e1;have p2:0<R2.length:=List.length_pos_iff.2 e2;obtain⟨M,g1,g2,g3,g4⟩:=abv m (P++M1) L2 R2 Q (xW hL) (xW hR) p1 p2 (by omega) (by simp;simp at hl;omega) (by simp;simp at hn;omega);refine⟨M,?_,g2,g3,g4⟩;rw[show decide ((mid:Int)<(P.length+L1.length+L2.length+R1.length:Nat))=true by simp only[bE];omega,aj,show decide (((P.length+L1.length+L2.length+R1.length:Nat):Int)<(P.length+(L1++L2).length+(R1++R2).length:Nat))=true by simp only[bE];omega];simp only[ai,aj];have f1:(P++M1).length=mid:=(by simp<;>omega);have f2:mid+L2.length=P.length+L1.length+L2.length+R1.length:=(by omega);have f3:mid+L2.length+R2.length=P.length+(L1++L2).length+(R1++R2).length:=(by omega);rw[f1,f3,f2]at g1;rw[qw (by simp<;>omega)];simp only[aj];simp only[aT]at g1;rw[g1];simp
  refine⟨M1++M2,?_,by simp<;>omega,?_,?_⟩;unfold dm;rw[c1,ax,c2,ax,PR];simp only[aj];simp only[wm,wn];rw[hsel];simp only[ai];rw[k4];simp only[ai,we];rw[XN];simp only[ai];rw[m1];simp only[ai];rw[q1];simp;refine abu m3 q3 λx hx y hy=>?_;have hx:=(m4.mem x).1 hx;have hy:=(q4.mem y).1 hy;rcases bK.1 hx with hx|hx<;>rcases bK.1 hy with hy|hy;exact Np hL x hx y hy;exact k2 x hx y hy;exact Int.le_of_lt (k3 x hx y hy);exact Np hR x hx y hy;refine(m4.app q4).trans ?_;have:=((cT.refl L1).app (cT.swap (u:=L2) (v:=R1) λx hx y hy=>k3 y hy x hx)).app (cT.refl R2);simpa using this
theorem ad5:∀ys (x:aD) (P R:List aD) a0 (fuel:Nat),a0.length=P.length+ys.length+1+R.length->a0.length<1099511627776->ys.length<fuel->
 iter (dx a0 (P.length:Nat) φ) fuel ((P.length+ys.length:Nat),P++(ys.reverse++x::R))=some (P++((fZ tD x ys).reverse++R))
 |[],x,P,R,a0,fuel,h1,h2,h3=>by obtain⟨f,rfl⟩:∃f,fuel=f+1:=⟨fuel-1,by omega⟩;refine cK ?_;simp[dx,fZ]
 |y::ys,x,P,R,a0,fuel,h1,h2,h3=>by
  obtain⟨f,rfl⟩:∃f,fuel=f+1:=⟨fuel-1,by omega⟩;simp at h1 h3;have d1:decide (((P.length+(y::ys).length:Nat):Int)>(P.length:Nat))=true:=by simp<;>omega
  have w1:i64.wrap ((P.length+(y::ys).length:Nat)-1)=(P.length+ys.length:Nat):=by rw[aO (by simp<;>omega) (by simp<;>omega)];simp<;>omega
  have i1:cx (P.length+(y::ys).length:Nat) a0.length=true:=aW (by simp<;>omega);have i2:cx (P.length+ys.length:Nat) a0.length=true:=aW (by omega);have g1:(P++((y::ys).reverse++x::R))[P.length+(y::ys).length]? =some x:=qG (U:=P++(y::ys).reverse) (V:=R) (by simp) (by simp);have g2:(P++((y::ys).reverse++x::R))[P.length+ys.length]? =some y:=qG (U:=P++ys.reverse) (V:=x::R) (by simp) (by simp);have⟨c,c1,c2⟩:=hφ x y;have hlt:decide (c<0)=tD x y:=by unfold tD;by_cases h:c<0;simp[h,c2.1 h];have:¬x.cost<y.cost:=λe=>h (c2.2 e);simp[h,this]
  cases hxy:tD x y with
  |true=>
   have s1:(P++((y::ys).reverse++x::R)).set (P.length+(y::ys).length) y=(P++(y::ys).reverse)++y::R:=xH (U:=P++(y::ys).reverse) (V:=R) (x:=x) (by simp) (by simp);have g3:((P++(y::ys).reverse)++y::R)[P.length+ys.length]? =some y:=qG (U:=P++ys.reverse) (V:=y::R) (by simp) (by simp);have s2:((P++(y::ys).reverse)++y::R).set (P.length+ys.length) x=(P++ys.reverse)++x::(y::R):=xH (U:=P++ys.reverse) (V:=y::R) (x:=y) (by simp) (by simp);have step:dx a0 (P.length:Nat) φ ((P.length+(y::ys).length:Nat),P++((y::ys).reverse++x::R))=some (.inl ((P.length+ys.length:Nat),P++(ys.reverse++x::(y::R)))):=(by simp only[dx,d1,aj,w1,i1,i2,oN,g1,g2,ai,c1,hlt,hxy,PT,s1,g3,s2];simp);rw[dL step];have:=ad5 ys x P (y::R) a0 f (by simp<;>omega) h2 (by omega);rw[this];simp[fZ,hxy]
  |false=>
   refine(cK ?_).trans rfl;simp only[dx,d1,aj,w1,i1,i2,oN,g1,g2,ai,c1,hlt,hxy,ax];simp[fZ,hxy]
theorem ad6:∀(B S P Q:List aD) a0 (fuel:Nat),kB S->a0.length=P.length+S.length+B.length+Q.length->a0.length<1099511627776->a0.length<n->B.length<fuel->
 ∃S',iter (dD n a0 (P.length:Nat) (P.length+S.length+B.length:Nat) φ) fuel ((P.length+S.length:Nat),P++(S++(B++Q)))=some (P++(S'++Q))/\S'.length=S.length+B.length/\kB S'/\cT S' (S++B)
 |[],S,P,Q,a0,fuel,hS,h1,h2,h3,h4=>by obtain⟨f,rfl⟩:∃f,fuel=f+1:=⟨fuel-1,by omega⟩;refine⟨S,cK ?_,by simp,hS,by simpa using cT.refl S⟩;simp[dD]
 |x::B,S,P,Q,a0,fuel,hS,h1,h2,h3,h4=>by
  obtain⟨f,rfl⟩:∃f,fuel=f+1:=⟨fuel-1,by omega⟩;simp at h1 h4;have hi:=ad5 hφ S.reverse x P (B++Q) a0 n (by simp<;>omega) h2 (by simp<;>omega);simp only[List.length_reverse,List.reverse_reverse]at hi;have hl:(fZ tD x S.reverse).reverse.length=S.length+1:=by simp[Ay]
  have d1:decide (((P.length+S.length:Nat):Int)<(P.length+S.length+(x::B).length:Nat))=true:=by simp<;>omega
  have step:dD n a0 (P.length:Nat) (P.length+S.length+(x::B).length:Nat) φ ((P.length+S.length:Nat),P++(S++(x::B++Q)))=some (.inl ((P.length+(fZ tD x S.reverse).reverse.length:Nat),P++((fZ tD x S.reverse).reverse++(B++Q)))):=by have e:P++(S++(x::B++Q))=P++(S++x::(B++Q)):=rfl;simp only[dD,d1,aj];rw[e,hi];simp only[ai,hl];rw[aQ (by omega)];rfl
  rw[dL step];have hs:kB (fZ tD x S.reverse).reverse:=List.pairwise_reverse.2 (WG x S.reverse (List.pairwise_reverse.2 hS));obtain⟨S',g1,g2,g3,g4⟩:=ad6 B (fZ tD x S.reverse).reverse P Q a0 f hs (by omega) h2 h3 (by omega);refine⟨S',?_,by simp<;>omega,g3,g4.trans ?_⟩;have e:P.length+(fZ tD x S.reverse).reverse.length+B.length=P.length+S.length+(x::B).length:=by rw[hl];simp<;>omega
  rw[e]at g1;exact g1;have:=(Rp x S.reverse).app (cT.refl B);simpa using this
theorem ak5(P B Q:List aD)(hl:(P++(B++Q)).length<1099511627776)(hn:(P++(B++Q)).length<n){a b:Int}(ha:a=(P.length:Nat))(hb:b=(P.length+B.length:Nat)):
 ∃B',dn n (P++(B++Q)) a b φ=some (P++(B'++Q))/\B'.length=B.length/\kB B'/\cT B' B:=by
 subst ha hb;unfold dn;simp at hl hn;cases B with
 |nil=>
  refine⟨[],?_,rfl,List.Pairwise.nil,cT.refl _⟩;obtain⟨f,rfl⟩:∃f,n=f+1:=⟨n-1,by omega⟩;have w:i64.wrap ((P.length:Nat)+1)=(P.length+1:Nat):=aQ (by omega);rw[w,cK (o:=P++([]++Q))];rfl;simp only[dD];rw[show decide (((P.length+1:Nat):Int)<(P.length+[].length:Nat))=false by simp;omega];rfl
 |cons x B=>
  simp at hl hn;obtain⟨S',g1,g2,g3,g4⟩:=ad6 hφ (n:=n) B [x] P Q (P++(x::B++Q)) n (List.pairwise_singleton _ _) (by simp<;>omega) (by simp<;>omega) (by simp<;>omega) (by omega);refine⟨S',?_,by rw[g2];simp<;>omega,g3,by simpa using g4⟩;have w:i64.wrap ((P.length:Nat)+1)=(P.length+[x].length:Nat):=aQ (by omega);have e:P.length+[x].length+B.length=P.length+(x::B).length:=by simp<;>omega
  rw[e]at g1;rw[w];have e2:P++([x]++(B++Q))=P++(x::B++Q):=rfl;rw[e2]at g1;rw[g1];rfl
theorem ZN:∀(w:Nat) (P R:List aD) a0 (fuel:Nat),R.length<=w->a0.length=P.length+R.length->a0.length<1099511627776->a0.length<n->w<fuel->
 ∃R',(iter (dG n a0 (a0.length:Nat) φ) fuel ((P.length:Nat),(P.length+20:Nat),P++R)).bind (λ (w1,w2)=>ck (be a0.length w2.length) ((dn n w2 w1 (a0.length:Nat) φ).bind λr2=>some r2))=some (P++R')/\R'.length=R.length/\Ch 20 R'/\cT R' R
 |w,P,R,a0,fuel,h1,h2,h3,h4,h5=>by
  obtain⟨f,rfl⟩:∃f,fuel=f+1:=⟨fuel-1,by omega⟩;by_cases hR:20<=R.length;obtain⟨B,T,rfl,hB⟩:∃B T,R=B++T/\B.length=20:=⟨R.take 20,R.drop 20,by simp,by simp<;>omega⟩;simp at h1 h2 hR;obtain⟨B',g1,g2,g3,g4⟩:=ak5 hφ (n:=n) P B T (by simp<;>omega) (by simp<;>omega) (a:=(P.length:Nat)) (b:=(P.length+20:Nat)) rfl (by rw[hB]);have step:dG n a0 (a0.length:Nat) φ ((P.length:Nat),(P.length+20:Nat),P++(B++T))=some (.inl (((P++B').length:Nat),((P++B').length+20:Nat),(P++B')++T)):=by simp only[dG];rw[show decide (((P.length+20:Nat):Int)<=(a0.length:Nat))=true by simp;omega,qw (by simp<;>omega),g1];have w1:i64.wrap ((P.length+20:Nat)+20)=((P++B').length+20:Nat):=(by rw[aO (by omega) (by omega)];simp[g2,hB]);rw[w1];simp[g2,hB]
  rw[dL step];cases w with
  |zero=>omega
  |succ w=>
   obtain⟨R',q1,q2,q3,q4⟩:=ZN w (P++B') T a0 f (by omega) (by simp<;>omega) h3 h4 (by omega);exact⟨B'++R',by rw[q1];simp,by simp[q2,g2],.cons g3 (by omega) q3,g4.app q4⟩
  have ex:dG n a0 (a0.length:Nat) φ ((P.length:Nat),(P.length+20:Nat),P++R)=some (.inr ((P.length:Nat),P++R)):=by simp only[dG];rw[show decide (((P.length+20:Nat):Int)<=(a0.length:Nat))=false by simp;omega];rfl
  rw[cK ex];obtain⟨B',g1,g2,g3,g4⟩:=ak5 hφ (n:=n) P R [] (by simp<;>omega) (by simp<;>omega) (a:=(P.length:Nat)) (b:=(a0.length:Nat)) rfl (by rw[h2]);simp at g1;refine⟨B',?_,g2,.last g3 (by omega),g4⟩;simp only[ai];rw[qw (by simp<;>omega),g1];rfl
theorem ai9{n bs:Nat}(hbs:0<bs):∀(w:Nat) (P R:List aD) a0 (fuel:Nat),Ch bs R->R.length<=w->a0.length=P.length+R.length->a0.length<1099511627776->bs<1099511627776->a0.length<n->w<fuel->
 ∃R',(iter (dH n a0 (a0.length:Nat) φ (bs:Nat)) fuel ((P.length:Nat),(P.length+2*bs:Nat),P++R)).bind (λ (w3,w4)=>((bif (decide ((i64.wrap (w3+(bs:Nat)))<(a0.length:Nat)))then(ck (be a0.length w4.length) ((fF n w4 w3 (i64.wrap (w3+(bs:Nat))) (a0.length:Nat) φ).bind λr4=>some r4))else some w4):Option (List aD)))=some (P++R')/\R'.length=R.length/\Ch (2*bs) R'/\cT R' R:=by
 intro w
 induction w using Nat.strongRecOn with
 |ind w ih=>
  intro P R a0 fuel hc h1 h2 h3 hb3 h4 h5;obtain⟨f,rfl⟩:∃f,fuel=f+1:=⟨fuel-1,by omega⟩;have wb:i64.wrap ((P.length:Nat)+(bs:Nat))=(P.length+bs:Nat):=E1 (by omega);have fin:∀R:List aD,a0.length=P.length+R.length->R.length<2*bs->(∀ X,iter (dH n a0 (a0.length:Nat) φ (bs:Nat)) (f+1) ((P.length:Nat),(P.length+2*bs:Nat),X)=some ((P.length:Int),X)):=by intro R h2 hR X;refine cK ?_;simp only[dH];rw[show decide (((P.length+2*bs:Nat):Int)<=(a0.length:Nat))=false by simp;omega];rfl
  cases hc with
  |last s1 s2=>
   rw[fin R h2 (by omega)];refine⟨R,?_,rfl,.last s1 (by omega),cT.refl _⟩;simp only[ai,wb];rw[show decide (((P.length+bs:Nat):Int)<(a0.length:Nat))=false by simp;omega];rfl
  | @cons b l s1 s2 s3=>
   simp at h1 h2;have merge:∀(c l2:List aD),l=c++l2->kB c->0<c.length->∃M,fF n (P++(b++l)) (P.length:Nat) (P.length+bs:Nat) (P.length+bs+c.length:Nat) φ=some (P++(M++l2))/\M.length=bs+c.length/\kB M/\cT M (b++c):=(by intro c l2 hl hcs hcl;subst hl;obtain⟨M,q1,q2,q3,q4⟩:=abv hφ (n:=n) n P b c l2 s1 hcs (by omega) hcl (by simp at h1 h2;omega) (by simp;simp at h2;omega) (by simp;simp at h2;omega);rw[s2]at q1 q2;exact⟨M,q1,q2,q3,q4⟩)
   have yW:∀(c l2 M:List aD),l=c++l2->c.length=bs->M.length=bs+c.length->fF n (P++(b++l)) (P.length:Nat) (P.length+bs:Nat) (P.length+bs+c.length:Nat) φ=some (P++(M++l2))->
    dH n a0 (a0.length:Nat) φ (bs:Nat) ((P.length:Nat),(P.length+2*bs:Nat),P++(b++l))=some (.inl (((P++M).length:Nat),((P++M).length+2*bs:Nat),(P++M)++l2)):=by intro c l2 M hl hcl hM hq;have hll:l.length=c.length+l2.length:=(by rw[hl];simp);simp only[dH];rw[show decide (((P.length+2*bs:Nat):Int)<=(a0.length:Nat))=true by simp;omega,aj,qw (by simp<;>omega)];simp only[aj];rw[wb];have e1:(P.length+bs+c.length:Nat)=(P.length+2*bs:Nat):=(by omega);rw[e1]at hq;rw[hq];have w2:i64.wrap (2*(bs:Nat))=(2*bs:Nat):=(by rw[aO (by omega) (by omega)];omega);have w3:i64.wrap ((P.length+2*bs:Nat)+(2*bs:Nat))=(P.length+2*bs+2*bs:Nat):=E1 (by omega);rw[w2,w3];have e2:(P++M).length=P.length+2*bs:=(by simp<;>omega);rw[e2];simp
   cases s3 with
   |last t1 t2=>
    by_cases hl:l.length=bs;obtain⟨M,q1,q2,q3,q4⟩:=merge l [] (by simp) t1 (by omega);rw[dL (yW l [] M (by simp) hl q2 q1)];obtain⟨R',r1,r2,r3,r4⟩:=ih 0 (by omega) (P++M) [] a0 f (.last List.Pairwise.nil (by simp)) (by simp) (by simp<;>omega) h3 hb3 h4 (by omega);have:R'=[]:=eq_nil_of_length_eq_zero (by simpa using r2);subst this;exact⟨M,by rw[r1];simp,by simp<;>omega,.last q3 (by omega),by simpa using q4⟩;rw[fin (b++l) (by simp<;>omega) (by simp<;>omega)];simp only[ai,wb];by_cases hl0:l.length=0;have:l=[]:=eq_nil_of_length_eq_zero hl0;subst this;refine⟨b,?_,by simp,.last s1 (by omega),by simpa using cT.refl b⟩;rw[show decide (((P.length+bs:Nat):Int)<(a0.length:Nat))=false by simp;simp at h2;omega];simp;obtain⟨M,q1,q2,q3,q4⟩:=merge l [] (by simp) t1 (by omega);refine⟨M,?_,by simp<;>omega,.last q3 (by omega),by simpa using q4⟩;rw[show decide (((P.length+bs:Nat):Int)<(a0.length:Nat))=true by simp;omega,aj,qw (by simp<;>omega)];simp only[aj];have e1:(P.length+bs+l.length:Nat)=(a0.length:Nat):=(by omega);rw[e1]at q1;rw[q1];simp
   | @cons c l2 t1 t2 t3=>
    obtain⟨M,q1,q2,q3,q4⟩:=merge c l2 rfl t1 (by omega);rw[dL (yW c l2 M rfl t2 q2 q1)];simp at h1 h2;obtain⟨R',r1,r2,r3,r4⟩:=ih (w-2*bs) (by omega) (P++M) l2 a0 f t3 (by omega) (by simp<;>omega) h3 hb3 h4 (by omega);refine⟨M++R',by rw[r1];simp,by simp<;>omega,.cons q3 (by omega) r3,?_⟩;have:=q4.app r4;simpa using this
theorem ZO:∀(w bs:Nat) R a0 (fuel:Nat),0<bs->Ch bs R->a0.length<=bs+w->a0.length=R.length->a0.length<1099511627776->a0.length<n->w<fuel->bs<2199023255552->
 ∃R',iter (gq n a0 (a0.length:Nat) φ) fuel ((bs:Nat),R)=some R'/\kB R'/\cT R' R
 |w,bs,R,a0,fuel,hb,hc,h1,h2,h3,h4,h5,h6=>by
  obtain⟨f,rfl⟩:∃f,fuel=f+1:=⟨fuel-1,by omega⟩;by_cases hlt:bs<a0.length;obtain⟨R',q1,q2,q3,q4⟩:=ai9 hφ (n:=n) hb R.length [] R a0 n hc (ay _) (by simp<;>omega) h3 (by omega) h4 (by omega);simp only[length_nil,Nat.zero_add,fP]at q1;have w2:i64.wrap (2*(bs:Nat))=(2*bs:Nat):=by rw[aO (by omega) (by omega)];omega
  have w3:i64.wrap ((bs:Nat)*2)=(2*bs:Nat):=by rw[aO (by omega) (by omega)];omega
  have step:gq n a0 (a0.length:Nat) φ ((bs:Nat),R)=some (.inl ((2*bs:Nat),R')):=by
   simp only[gq];rw[show decide ((bs:Int)<(a0.length:Nat))=true by simp;omega,w2,w3];have e0:((0:Nat):Int)=0:=rfl;rw[e0]at q1;obtain⟨⟨u1,u2⟩,hu⟩:∃u,iter (dH n a0 (a0.length:Nat) φ (bs:Nat)) n (0,(2*bs:Nat),R)=some u:=by
    cases hh:iter (dH n a0 (a0.length:Nat) φ (bs:Nat)) n (0,(2*bs:Nat),R)with
    |none=>rw[hh]at q1;cases q1
    |some u=>exact⟨u,rfl⟩
   rw[hu]at q1 ⊢;simp at q1 ⊢;rw[q1];rfl
  rw[dL step];cases w with
  |zero=>omega
  |succ w=>
   obtain⟨R2,r1,r2,r3⟩:=ZO w (2*bs) R' a0 f (by omega) q3 (by omega) (by omega) h3 h4 (by omega) (by omega);exact⟨R2,r1,r2,r3.trans q4⟩
  refine⟨R,cK ?_,hc.xl (by omega) hb,cT.refl _⟩;simp only[gq];rw[show decide ((bs:Int)<(a0.length:Nat))=false by simp;omega];rfl
theorem PL l (hl:l.length<1099511627776) (hn:l.length<n):∃r,jl n l φ=some r/\kB r/\cT r l:=by
 obtain⟨R1,q1,q2,q3,q4⟩:=ZN hφ (n:=n) l.length [] l l n (ay _) (by simp) hl hn hn;simp only[length_nil,Nat.zero_add,fP]at q1;obtain⟨R2,r1,r2,r3⟩:=ZO hφ (n:=n) l.length 20 R1 l n (by omega) q3 (by omega) (by omega) hl hn hn (by omega);refine⟨R2,?_,r2,r3.trans q4⟩;unfold jl nC;rw[aN];have e0:((0:Nat):Int)=0:=rfl;have e20:((20:Nat):Int)=20:=rfl;rw[e0,e20]at q1;rw[e20]at r1;obtain⟨⟨u1,u2⟩,hu⟩:∃u,iter (dG n l (l.length:Nat) φ) n (0,20,l)=some u:=by
  cases hh:iter (dG n l (l.length:Nat) φ) n (0,20,l)with
  |none=>rw[hh]at q1;cases q1
  |some u=>exact⟨u,rfl⟩
 rw[hu]at q1 ⊢;simp only[ai]at q1 ⊢;cases he:be l.length u2.length with
 |false=>rw[he]at q1;cases q1
 |true=>
  rw[he]at q1;cases hi:dn n u2 u1 (l.length:Nat) φ with
  |none=>rw[hi]at q1;cases q1
  |some r=>
   rw[hi]at q1;cases q1;simp only[ai];rw[r1];rfl
end
def j8(v:aC):Int:=bif okV v then(v.cC-v.cz+2)/3 else 0
theorem N2{v:aC}(h:okV v=true):0<=v.cz/\v.cz<v.cC/\v.cC<=4096:=by simp[okV]at h;omega
theorem PN(v:aC):0<=j8 v/\j8 v<=1366:=by
 unfold j8;cases h:okV v with
 |false=>simp
 |true=>
  have:=N2 h;simp;omega
theorem CF(v:aC):mK v=some (j8 v):=by
 unfold mK j8;rw[pU];cases h:okV v with
 |false=>rfl
 |true=>
  have⟨h1,h2,h3⟩:=N2 h;simp;rw[aO (x:=v.cC-v.cz),aO (x:=v.cC-v.cz+3),aO (x:=v.cC-v.cz+3-1),Int.tdiv_eq_ediv_of_nonneg (by omega),aO (by omega) (by omega)];omega
theorem bA(a b:Bool):((bif a then some b else some false):Option Bool)=some (a&&b):=by cases a<;>rfl
theorem bO(a b:Bool):((bif a then some true else some b):Option Bool)=some (a || b):=by cases a<;>rfl
theorem PO(r:au):vF r=some (eo r):=by simp[vF,bA]
theorem KV(v:aC):rC v=some (okV v):=by
 simp only[rC,Er,PO,ai,bA,bO,Es,okV];have e:eo (au.mk v.bm v.bz v.bk v.bx)=eo (dU v):=rfl;rw[e];congr 1;cases eo (dU v)with
 |false=>rfl
 |true=>
  rw[kK];simp;omega
theorem Yi(v:aC):Et v=some (j8 v):=by
 unfold Et j8;rw[KV];cases h:okV v with
 |false=>rfl
 |true=>
  have⟨h1,h2,h3⟩:=N2 h;simp;rw[aO (x:=v.cC-v.cz),aO (x:=v.cC-v.cz+2),Int.tdiv_eq_ediv_of_nonneg (by omega),aO (by omega) (by omega)]
def jz(v:aC):Nat:=(j8 v).toNat
theorem Nq(v:aC):(jz v:Nat)=j8 v:=by have:=PN v;unfold jz;omega
theorem ak6(v:aC):jz v<=1366:=by have:=PN v;unfold jz;omega
theorem WH{d:aG}(h:AR d)(hn:1001<=n):ny n d=some (cj d):=adZ h hn
theorem agp l:oV l=some l:=by simp[oV]
def ea:List Nat->Nat
 |[]=>1
 |c::cs=>(c+1)*ea cs
theorem WI:∀cs,0<ea cs
 |[]=>by simp[ea]
 |c::cs=>Nat.mul_pos (by omega) (WI cs)
theorem WJ b:∀a,ea (a++b)=ea a*ea b
 |[]=>by simp[ea]
 |c::cs=>by simp[ea,WJ b cs,Nat.mul_assoc]
theorem WK:∀a,ea a.reverse=ea a
 |[]=>rfl
 |c::cs=>by simp[ea,WJ,WK cs,Nat.mul_comm]
theorem amm l (h:ea (l.map jz)<=2001) (hL:l.length<=1000000) (hl:l.length<n):Af n l=some false:=by
 have main:∀r (k a fuel:Nat),l.drop k=r->a*ea (r.map jz)<=2001->0<a->r.length<fuel->iter (pJ l) fuel (a,k)=some (.inl ()):=by
  intro r
  induction r with
  |nil=>
   intro k a fuel hk ha h0 hf;obtain⟨f,rfl⟩:∃f,fuel=f+1:=⟨fuel-1,by omega⟩;refine cK ?_;have:l.length<=k:=List.drop_eq_nil_iff.1 hk;simp only[pJ];rw[show decide ((k:Int)<l.length)=false by simp;omega];rfl
  |cons v r ih=>
   intro k a fuel hk ha h0 hf;obtain⟨f,rfl⟩:∃f,fuel=f+1:=⟨fuel-1,by omega⟩;have hlt:k<l.length:=(by rcases Nat.lt_or_ge k l.length with h|h;exact h;rw[List.drop_eq_nil_of_le h]at hk;cases hk);have hv:l[k]? =some v:=(by have:(l.drop k)[0]? =some v:=(by rw[hk];rfl);simpa using this);have hk':l.drop (k+1)=r:=(by rw[<- List.drop_drop,hk];rfl);have hp:=WI (r.map jz);have ha2:a*(jz v+1)*ea (r.map jz)<=2001:=(by rw[Nat.mul_assoc];exact ha);have C3:a*(jz v+1)<=2001:=Nat.le_trans (Nat.le_mul_of_pos_right _ hp) ha2;have e:(a*(j8 v+1))=(a*(jz v+1):Nat):=(by simp[Nq]);have hfl:=PN v;have step:pJ l (a,k)=some (.inl ((a*(jz v+1):Nat),(k+1:Nat))):=(by simp only[pJ];rw[show decide ((k:Int)<l.length)=true by simp;omega,aj,Aw,hv];simp only[ai,CF];rw[aO (x:=j8 v+1),e,aO (by omega) (by omega),show decide (((a*(jz v+1):Nat):Int)>2001)=false by simp only[dN];omega,ax,aQ (by omega)]);rw[dL step];exact ih (k+1) _ f hk' ha2 (Nat.mul_pos h0 (by omega)) (by simp at hf;omega)
 unfold Af;have:=main l 0 1 n (by simp) (by omega) (by omega) hl;have e0:((0:Nat):Int)=0:=rfl;have e1:((1:Nat):Int)=1:=rfl;rw[e0,e1]at this;rw[this];rfl
def xn:List Nat->List Nat->Option (List Nat)
 |c::cs,x::xs=>if x=c then(xn cs xs).map (0:: ·)else some ((x+1)::xs)
 |_,_=>none
def Ns:List Nat->List Nat->Nat
 |c::cs,x::xs=>x+(c+1)*Ns cs xs
 |_,_=>0
def j9:List Nat->List Nat->Prop
 |c::cs,x::xs=>x<=c/\j9 cs xs
 |[],[]=>True
 |_,_=>False
theorem j9.length:∀{cs xs:List Nat},j9 cs xs->xs.length=cs.length
 |[],[],_=>rfl
 |c::cs,x::xs,h=>by simp[j9.length h.2]
 |[],_::_,h|_::_,[],h=>h.elim
theorem ak7:∀{cs xs:List Nat},j9 cs xs->Ns cs xs<ea cs
 |[],[],_=>by simp[Ns,ea]
 |c::cs,x::xs,h=>by have:=ak7 h.2;have h1:=h.1;simp[Ns,ea];have:(c+1)*(Ns cs xs+1)<=(c+1)*ea cs:=Nat.mul_le_mul_left _ this;rw[Nat.mul_add]at this;omega
 |[],_::_,h|_::_,[],h=>h.elim
theorem ak8:∀{cs xs:List Nat},j9 cs xs->(∀ ys,xn cs xs=some ys->j9 cs ys/\Ns cs ys=Ns cs xs+1)/\(xn cs xs=none->Ns cs xs+1=ea cs)
 |[],[],_=>⟨λ ys h=>(by cases h),λ_=>rfl⟩
 |c::cs,x::xs,h=>by have⟨i1,i2⟩:=ak8 h.2;have h1:=h.1;simp[xn];by_cases hx:x=c;rw[aX hx];constructor;intro ys hy;obtain⟨zs,hz,rfl⟩:=iW.1 hy;have⟨j1,j2⟩:=i1 zs hz;refine⟨⟨Nat.zero_le _,j1⟩,?_⟩;simp[Ns,j2,Nat.mul_add];omega;intro hn;have:=i2 (Option.map_eq_none_iff.1 hn);simp[Ns,ea,<- this,Nat.mul_add];omega;rw[aV hx];constructor;intro ys hy;cases hy;refine⟨⟨by omega,h.2⟩,?_⟩;simp[Ns];omega;intro hn;cases hn
 |[],_::_,h|_::_,[],h=>h.elim
def toI(l:List Nat):List Int:=l.map λ(k:Nat)=>k
theorem step_eq x l0:∀(ys zs:List Nat)(vs ws:List aC)(fuel:Nat),j9 (vs.map jz) ys->x=vs.reverse++ws->l0.length=ys.length+zs.length->l0.length<=1000000->ys.length<fuel->
 (iter (eD x l0) fuel ((ys.length:Nat)-1,toI (ys.reverse++zs))).bind (λ (w1,w2)=>(bif (decide (w1<0))then some (Sum.inr ())else(ck (cx w1 l0.length) ((b7 w2 ((0:Nat)+w1:Int)).bind λx4=>ck (cx w1 l0.length) ((b7 w2 ((0:Nat)+w1:Int)).bind λ_=>ck (be l0.length (w2.set ((0:Nat)+w1:Int).toNat (i64.wrap (x4+1))).length) (some (.inl (w2.set ((0:Nat)+w1:Int).toNat (i64.wrap (x4+1)))))))):Option (List Int⊕Unit)))=some (match xn (vs.map jz) ys with|none=>.inr ()|some r=>.inl (toI (r.reverse++zs)))
 |[],zs,vs,ws,fuel,hf,hx,hl,hL,hn=>by
  obtain⟨f,rfl⟩:∃f,fuel=f+1:=⟨fuel-1,by omega⟩;have:vs=[]:=by
   cases vs with
   |nil=>rfl
   |cons v vs=>exact hf.elim
  subst this;have e:eD x l0 ((([]:List Nat).length:Nat)-1,toI ([].reverse++zs))=some (.inr (-1,toI zs)):=by simp[eD]
  rfl
 |y::ys,zs,vs,ws,fuel,hf,hx,hl,hL,hn=>by
  obtain⟨f,rfl⟩:∃f,fuel=f+1:=⟨fuel-1,by omega⟩;obtain⟨v,vs,rfl⟩:∃v vt,vs=v::vt:=by
   cases vs with
   |nil=>exact hf.elim
   |cons v vs=>exact⟨v,vs,rfl⟩
  have hlen:=hf.2.length;have hi:(((y::ys).length:Nat):Int)-1=(ys.length:Nat):=by simp
  have hin:cx (ys.length:Nat) l0.length=true:=aW (by omega);have hat:b7 (toI ((y::ys).reverse++zs)) ((0:Nat)+(ys.length:Nat))=some (y:Int):=by exact qG (U:=toI ys.reverse) (V:=toI zs) (by simp[toI]) (by simp[toI])
  have hav:b7 x (ys.length:Nat)=some v:=by exact qG (U:=vs.reverse) (V:=ws) (by rw[hx];simp) (by simp[hlen])
  have hset:∀z:Int,(toI ((y::ys).reverse++zs)).set (((0:Nat):Int)+(ys.length:Nat)).toNat z=toI ys.reverse++z::toI zs:=λz=>by exact xH (U:=toI ys.reverse) (V:=toI zs) (x:=y) (by simp[toI]) (by simp[toI])
  have hge:decide ((ys.length:Nat)>=0)=true:=by simp
  have hy1:=hf.1;have hfl:=ak6 v;rw[hi];simp only[bJ,xn];by_cases Wc:y=jz v;rw[aX Wc];have hw:i64.wrap ((ys.length:Nat)-1)=(ys.length:Nat)-1:=aO (by omega) (by omega);have step:eD x l0 ((ys.length:Nat),toI ((y::ys).reverse++zs))=some (.inl ((ys.length:Nat)-1,toI (ys.reverse++(0::zs)))):=by simp only[eD,hge,aj,hin,hat,hav,ai,CF,hset,hw];rw[show (y==j8 v)=true by rw[beq_iff_eq,Wc,Nq]];simp[toI]
  rw[dL step];have ih:=step_eq x l0 ys (0::zs) vs (v::ws) f hf.2 (by rw[hx];simp) (by simp;omega) hL (by omega);rw[ih];cases xn (vs.map jz) ys with
  |none=>rfl
  |some r=>simp
  rw[aV Wc];have e:eD x l0 ((ys.length:Nat),toI ((y::ys).reverse++zs))=some (.inr ((ys.length:Nat),toI ((y::ys).reverse++zs))):=by simp only[eD,hge,aj,hin,hat,hav,ai,CF];rw[show (y==j8 v)=false by rw[beq_eq_false_iff_ne,<- Nq];omega];rfl
  rw[cK e];simp only[ai];rw[show decide ((ys.length:Int)<0)=false by simp only[dN];omega,hin,hat];simp;have hw:i64.wrap (y+1)=(y+1:Nat):=aQ (by omega);rw[hw,qw (by simp[toI];omega)];simp[toI]
def vp(cs l:List Nat):Option (List Nat):=(xn cs.reverse l.reverse).map List.reverse
def fits(cs l:List Nat):Prop:=j9 cs.reverse l.reverse
theorem fits.length{cs l:List Nat}(h:fits cs l):l.length=cs.length:=by have:=j9.length h;simpa using this
def caps(d:aG):List Nat:=(cj d).map jz
theorem ad8(l:List aC):(l.map jz).reverse=l.reverse.map jz:=by simp
theorem amN{d:aG}{l:List Nat}(hd:AR d)(hf:fits (caps d) l)(hn:1000002<=n):kY n (cj d) (toI l)=some (match vp (caps d) l with|none=>.inr ()|some r=>.inl (toI r)):=by
 have hvl:=xV hd;have hlen:l.length=(cj d).length:=by have:=hf.length;simpa[caps]using this
 have hl:(toI l).length=l.length:=by simp[toI]
 have w:i64.wrap (((toI l).length:Nat)-1)=(l.reverse.length:Nat)-1:=by rw[hl];simp;exact aO (by omega) (by omega)
 have hf':j9 ((cj d).reverse.map jz) l.reverse:=by rw[<- ad8];exact hf
 have:=step_eq (cj d) (toI l) l.reverse [] (cj d).reverse [] n hf' (by simp) (by simp[toI]) (by omega) (by simp;omega);simp only[List.reverse_reverse,List.append_nil]at this;unfold kY;rw[w];refine this.trans ?_;unfold vp caps;rw[ad8];cases xn ((cj d).reverse.map jz) l.reverse with
 |none|some r=>rfl
def yO(cs:List Nat):Nat->List Nat->List (List Nat)
 | 0,l=>[l]
 |k+1,l=>match vp cs l with
  |none=>[l]
  |some l'=>l::yO cs k l'
def Yj(cs l:List Nat):Nat:=Ns cs.reverse l.reverse
theorem Nt{cs l:List Nat}(h:fits cs l):(∀ r,vp cs l=some r->fits cs r/\Yj cs r=Yj cs l+1)/\(vp cs l=none->Yj cs l+1=ea cs):=by have⟨h1,h2⟩:=ak8 h;refine⟨λ r hr=>?_,λhn=>?_⟩;obtain⟨q,hq,rfl⟩:=iW.1 hr;have:=h1 q hq;exact⟨by unfold fits;rw[List.reverse_reverse];exact this.1,by unfold Yj;rw[List.reverse_reverse];exact this.2⟩;have:=h2 (Option.map_eq_none_iff.1 hn);rw[WK]at this;exact this
theorem EK{cs:List Nat}:∀(k:Nat) l,fits cs l->∀y∈yO cs k l,fits cs y/\Yj cs l<=Yj cs y
 | 0,l,h,y,hy=>by simp[yO]at hy;subst hy;exact⟨h,ay _⟩
 |k+1,l,h,y,hy=>by
  simp[yO]at hy;cases hn:vp cs l with
  |none=>rw[hn]at hy;simp at hy;subst hy;exact⟨h,ay _⟩
  |some r=>
   rw[hn]at hy;have⟨g1,g2⟩:=(Nt h).1 r hn;rcases aR.1 hy with rfl|hy;exact⟨h,ay _⟩;have:=EK k r g1 y hy;exact⟨this.1,by omega⟩
theorem Rq{cs:List Nat}:∀(k:Nat) l,fits cs l->(yO cs k l).Nodup
 | 0,l,h=>by simp[yO]
 |k+1,l,h=>by
  simp[yO];cases hn:vp cs l with
  |none=>simp
  |some r=>
   have⟨g1,g2⟩:=(Nt h).1 r hn;simp;refine⟨λ hm=>?_,Rq k r g1⟩;have:=(EK k r g1 l hm).2;omega
theorem ak9 cs (k:Nat) l:∃t,yO cs k l=l::t:=by
 cases k with
 |zero=>exact⟨_,rfl⟩
 |succ k=>
  simp[yO];cases vp cs l with
  |none|some r=>exact⟨_,rfl⟩
theorem ahR{d:aG}(hd:AR d)(hn:1000002<=n):∀(k m:Nat) l,fits (caps d) l->Yj (caps d) l+k+1=ea (caps d)->k<m->AS (kY n (cj d)) m (toI l)=some ((yO (caps d) k l).map toI)
 | 0,m,l,hf,hv,hm=>by
  obtain⟨m,rfl⟩:∃q,m=q+1:=⟨m-1,by omega⟩;simp[AS,amN hd hf hn];cases hx:vp (caps d) l with
  |none=>rfl
  |some r=>
   have:=(Nt hf).1 r hx;have h2:=ak7 this.1;rw[WK]at h2;unfold Yj at this hv;omega
 |k+1,m,l,hf,hv,hm=>by
  obtain⟨m,rfl⟩:∃q,m=q+1:=⟨m-1,by omega⟩;simp[AS,amN hd hf hn,yO];cases hx:vp (caps d) l with
  |none=>
   have:=(Nt hf).2 hx;omega
  |some r=>
   have⟨g1,g2⟩:=(Nt hf).1 r hx;simp only[ai];rw[ahR hd hn k m r g1 (by omega) (by omega)];rfl
def oK(d:aG):List Nat:=List.replicate (cj d).length 0
theorem ZP:∀cs:List Nat,j9 cs (List.replicate cs.length 0)
 |[]=>trivial
 |_::cs=>⟨Nat.zero_le _,ZP cs⟩
theorem val_zero:∀cs:List Nat,Ns cs (List.replicate cs.length 0)=0
 |[]=>rfl
 |c::cs=>by simp[List.replicate_succ,Ns,val_zero cs]
theorem WL(d:aG):fits (caps d) (oK d)/\Yj (caps d) (oK d)=0:=by
 have e:(oK d).reverse=List.replicate (caps d).reverse.length 0:=by simp[oK,caps]
 unfold fits Yj;rw[e];exact⟨ZP _,val_zero _⟩
def JF(d:aG):List (List Nat):=yO (caps d) (ea (caps d)-1) (oK d)
theorem abw{d:aG}(hd:AR d)(hn:1000002<=n)(ht:ea (caps d)<=n):jQ n (cj d)=some ((JF d).map toI):=by
 have hvl:=xV hd;have hz:=WL d;have hp:=WI (caps d);have h0:oJ (cj d)=some (toI (oK d)):=by
  have hmx:maxLen=9223372036854775807:=rfl;have hk:wC ((cj d).length:Nat) 8=true:=by simp[wC];omega
  simp[oJ,hk];simp[toI,oK]
 unfold jQ Pu;rw[h0];simp;rw[ahR hd hn (ea (caps d)-1) n (oK d) hz.1 (by omega) (by omega)];simp only[ai];rw[aX];rfl;intro y hy;obtain⟨l,hl,rfl⟩:=mem_map.1 hy;have:=(EK _ _ hz.1 l hl).1.length;exact RH (by simp[toI];simp[caps]at this;omega)
theorem drop_at{α:Type}{l r:List α}{v:α}{k:Nat}(h:l.drop k=v::r):l[k]? =some v/\k<l.length/\l.drop (k+1)=r:=by
 have h0:(l.drop k)[0]? =some v:=by rw[h];rfl
 have h1:l[k]? =some v:=by simpa using h0
 refine⟨h1,(dh.1 h1).1,by rw[<- List.drop_drop,h];rfl⟩
theorem ahS{d:aG}{v2:Nat}{p:eH}(hp:d.phases[v2]? =some p):∀r (k a fuel:Nat),p.aE.drop k=r->a<=2001->p.aE.length<=1000000->r.length<fuel->
 iter (pK d v2) fuel (a,k)=some (.inr (.inr (.inr 2001)))\/(iter (pK d v2) fuel (a,k)=some (.inl (a*ea (r.map jz):Nat))/\a*ea (r.map jz)<=2001)
 |[],k,a,fuel,hk,ha,hl,hf=>by obtain⟨f,rfl⟩:∃f,fuel=f+1:=⟨fuel-1,by omega⟩;have:p.aE.length<=k:=List.drop_eq_nil_iff.1 hk;refine .inr ⟨cK ?_,by simpa[ea]using ha⟩;simp only[pK,Aw,hp,ai];rw[show decide ((k:Int)<p.aE.length)=false by simp;omega];simp[ea]
 |v::r,k,a,fuel,hk,ha,hl,hf=>by
  obtain⟨f,rfl⟩:∃f,fuel=f+1:=⟨fuel-1,by omega⟩;obtain⟨h1,h2,h3⟩:=drop_at hk;have hfl:=PN v;have hfn:=ak6 v;have e:(a*(j8 v+1))=(a*(jz v+1):Nat):=by simp[Nq]
  have hb:a*(jz v+1)<=2001*1367:=Nat.mul_le_mul ha (by omega);have base:pK d v2 (a,k)=bif decide (((a*(jz v+1):Nat):Int)>2001)then some (.inr (.inr (.inr (.inr 2001))))else some (.inl ((a*(jz v+1):Nat),(k+1:Nat))):=by simp only[pK,Aw,hp,ai];rw[show decide ((k:Int)<p.aE.length)=true by simp;omega,h1];simp[Yi];rw[aO (x:=j8 v+1),e,aO (by omega) (by omega),aQ (by omega)];rfl
  by_cases hgt:2001<a*(jz v+1);refine .inl (cK ?_);rw[base,show decide (((a*(jz v+1):Nat):Int)>2001)=true by simp only[bE];omega];rfl;have step:pK d v2 (a,k)=some (.inl ((a*(jz v+1):Nat),(k+1:Nat))):=by rw[base,show decide (((a*(jz v+1):Nat):Int)>2001)=false by simp only[dN];omega];rfl
  rw[dL step];have:=ahS hp r (k+1) (a*(jz v+1)) f h3 (by omega) hl (by simp at hf;omega);simpa[ea,Nat.mul_assoc]using this
theorem ahT{d:aG}(hd:AR d)(hn:1000002<=n):∀r (k a fuel:Nat),d.phases.drop k=r->a<=2001->r.length<fuel->
 iter (pM n d) fuel (a,k)=some (.inr 2001)\/(iter (pM n d) fuel (a,k)=some (.inl ((a*ea ((r.flatMap (·.aE)).map jz):Nat):Int))/\a*ea ((r.flatMap (·.aE)).map jz)<=2001)
 |[],k,a,fuel,hk,ha,hf=>by obtain⟨f,rfl⟩:∃f,fuel=f+1:=⟨fuel-1,by omega⟩;have:d.phases.length<=k:=List.drop_eq_nil_iff.1 hk;refine .inr ⟨cK ?_,by simpa[ea]using ha⟩;simp only[pM];rw[show decide ((k:Int)<d.phases.length)=false by simp;omega];simp[ea]
 |p::r,k,a,fuel,hk,ha,hf=>by
  obtain⟨f,rfl⟩:∃f,fuel=f+1:=⟨fuel-1,by omega⟩;obtain⟨h1,h2,h3⟩:=drop_at hk;have hpl:=hd.2 p (bZ h1);have hph:=hd.1;have e0:((0:Nat):Int)=0:=rfl;have hs:=ahS h1 p.aE 0 a n (by simp) ha (by omega) (by omega);rw[e0]at hs;have hcond:decide ((k:Int)<d.phases.length)=true:=by simp;omega
  rcases hs with hs|⟨hs,hle⟩;refine .inl (cK ?_);simp only[pM,hcond,aj,hs];rfl;have step:pM n d (a,k)=some (.inl ((a*ea (p.aE.map jz):Nat),(k+1:Nat))):=by simp only[pM,hcond,aj,hs,jB];rw[aQ (by omega)]
  rw[dL step];have:=ahT hd hn r (k+1) (a*ea (p.aE.map jz)) f h3 hle (by simp at hf;omega);simpa[WJ,Nat.mul_assoc]using this
theorem amn{d:aG}(hd:AR d)(hn:1000002<=n):∃r,M0 n d=some r/\(r<=60->ea (caps d)<=61):=by have hph:=hd.1;have hs:=ahT hd hn d.phases 0 1 n (by simp) (by omega) (by omega);have e0:((0:Nat):Int)=0:=rfl;have e1:((1:Nat):Int)=1:=rfl;rw[e0,e1]at hs;unfold M0;rcases hs with hs|⟨hs,hle⟩;rw[hs];exact⟨2001,rfl,λh=>by omega⟩;rw[hs];refine⟨_,rfl,λh=>?_⟩;rw[aO (by omega) (by omega)]at h;show ea ((d.phases.flatMap (·.aE)).map jz)<=61;omega
theorem Al{l:List bD}(h:l.length<=1000):yJ l=some l:=zS (b:=24) (by omega) (by simp[maxLen];omega)
def cutV(v:aC)(k:Int):aC:=bif decide (k>0)then aC.mk v.bm v.bz v.bk v.bx v.cz (v.cz+3*(j8 v-k)) v.use v.units v.extra else v
def PS:List aC->List Int->Option (List aC×Int)
 |[],_=>some ([],0)
 |v::vs,k::ks=>bif decide (k<0) || decide (k>j8 v)then none else(PS vs ks).map λr=>(bif decide (k<j8 v)then cutV v k::r.1 else r.1,k*mU (dU v)+r.2)
 |_::_,[]=>none
def JG:List eH->List Int->Option (List eH×Int)
 |[],_=>some ([],0)
 |p::ps,l=>(PS p.aE (l.take p.aE.length)).bind λr=>(JG ps (l.drop p.aE.length)).map λq=>(eH.mk r.1 p.gives::q.1,r.2+q.2)
theorem ahU{v:aC}(h:okV v=true):0<=mU (dU v)/\mU (dU v)<=1099511627776:=by have:=Ak (Cw h);omega
theorem PU:∀vs l (r:List aC×Int),(∀ v∈vs,okV v=true)->PS vs l=some r->0<=r.2/\r.2<=vs.length*1501933683542016/\r.1.length<=vs.length
 |[],l,r,_,h=>by cases h;simp
 |v::vs,[],r,_,h=>by cases h
 |v::vs,k::ks,r,hv,h=>by
  simp[PS]at h;cases hc:(decide (k<0) || decide (k>j8 v))with
  |true=>rw[hc]at h;cases h
  |false=>
   rw[hc]at h;obtain⟨q,hq,rfl⟩:=iW.1 h;obtain⟨h1,h2,h3⟩:=PU vs ks q (λ x hx=>hv x (by simp[hx])) hq;obtain⟨a1,a2⟩:=ahU (hv v (by simp));have hfl:=PN v;simp at hc;have hk0:0<=k:=(by omega);have hk1:k<=1366:=(by omega);have e1:0<=k*mU (dU v):=Int.mul_nonneg hk0 a1;have e2:k*mU (dU v)<=1366*1099511627776:=Int.mul_le_mul hk1 a2 a1 (by omega);refine⟨by omega,by simp;omega,?_⟩;cases decide (k<j8 v)<;>simp<;>omega
theorem ZQ{l:List Int}{p:eH}:∀r (j at':Nat) (c:Int) an (fuel:Nat),p.aE.drop j=r->p.aE.length<=1000->(∀ v∈r,okV v=true)->at'+r.length<=l.length->l.length<=1000000->0<=c->c+r.length*1501933683542016<=4611686018427387904->an.length+r.length<=1000->r.length<fuel->
 iter (kI l p) fuel (c,at',j,p.gives,an)=some (match PS r ((l.drop at').take r.length)with
  |none=>.inr (.inr (.inr (aG.mk 0 [],0,1)))
  |some q=>.inl (c+q.2,(at'+r.length:Nat),p.gives,an++q.1))
 |[],j,at',c,an,fuel,hj,hp,hv,ha,hl,hc,hcm,hacc,hf=>by obtain⟨f,rfl⟩:∃f,fuel=f+1:=⟨fuel-1,by omega⟩;have:p.aE.length<=j:=List.drop_eq_nil_iff.1 hj;refine(cK ?_).trans rfl;simp only[kI];rw[show decide ((j:Int)<p.aE.length)=false by simp;omega];simp[PS]
 |v::r,j,at',c,an,fuel,hj,hp,hv,ha,hl,hc,hcm,hacc,hf=>by
  obtain⟨f,rfl⟩:∃f,fuel=f+1:=⟨fuel-1,by omega⟩;obtain⟨h1,h2,h3⟩:=drop_at hj;simp at ha hacc hf;have hlt:at'<l.length:=by omega
  have hk:=dJ hlt;obtain⟨k,hkd⟩:∃k,l[at']=k:=⟨_,rfl⟩;rw[hkd]at hk;have htk:(l.drop at').take (v::r).length=k::(l.drop (at'+1)).take r.length:=by rw[List.drop_eq_getElem_cons hlt,hkd];simp
  rw[htk];have GP:=hv v (by simp);have⟨a1,a2⟩:=ahU GP;have hfl:=PN v;have hAr:uV (au.mk v.bm v.bz v.bk v.bx)=some (mU (dU v)):=ZG (Cw GP);have hcond:decide ((j:Int)<p.aE.length)=true:=by simp;omega
  have hbad:((bif decide (k<0)then some true else some (decide (k>j8 v))):Option Bool)=some (decide (k<0) || decide (k>j8 v)):=bO _ _;simp[PS];cases hc0:(decide (k<0) || decide (k>j8 v))with
  |true=>
   refine(cK ?_).trans rfl;simp only[kI,hcond,aj,Aw,h1,hk,ai,CF,hbad,hc0];rfl
  |false=>
   simp at hc0;have hk0:0<=k:=(by omega);have e1:0<=k*mU (dU v):=Int.mul_nonneg hk0 a1;have e2:k*mU (dU v)<=1366*1099511627776:=Int.mul_le_mul (by omega) a2 a1 (by omega);simp at hcm;have w1:i64.wrap (k*mU (dU v))=k*mU (dU v):=aO (by omega) (by omega);have w2:i64.wrap (c+k*mU (dU v))=c+k*mU (dU v):=aO (by omega) (by omega);have⟨z1,z2,z3⟩:=N2 GP;have w3:i64.wrap (v.cz+i64.wrap (3*i64.wrap (j8 v-k)))=v.cz+3*(j8 v-k):=(by rw[aO (x:=j8 v-k),aO (x:=3*(j8 v-k)),aO (by omega) (by omega)]);have step:kI l p (c,at',j,p.gives,an)=some (.inl (c+k*mU (dU v),(at'+1:Nat),(j+1:Nat),p.gives,an++(bif decide (k<j8 v)then [cutV v k]else []))):=(by have hmx:maxLen=9223372036854775807:=rfl;have hap:∀x:aC,bL an.length an.length (sub [x] 0 1).length 1 72=true:=λx=>(by simp[bL,sub];omega);simp only[kI,hcond,aj,Aw,h1,hk,ai,CF,hbad,hAr,w1,w2,w3,aQ (show at'<9223372036854775807 by omega),aY j,hap,gJ,aN];rw[show (decide (k<0) || decide (k>j8 v))=false by simp;omega];by_cases hkp:k>0<;>by_cases hkf:k<j8 v<;>simp[hkp,hkf,cutV,sub]);rw[dL step];have ih:=ZQ (l:=l) (p:=p) r (j+1) (at'+1) (c+k*mU (dU v)) (an++(bif decide (k<j8 v)then [cutV v k]else [])) f h3 hp (λ x hx=>hv x (by simp[hx])) (by omega) hl (by omega) (by omega) (by cases decide (k<j8 v)<;>simp<;>omega) (by omega);rw[ih];cases hq:PS r ((l.drop (at'+1)).take r.length)with
   |none=>rfl
   |some q=>
    have e3:(at'+1+r.length:Nat)=(at'+(v::r).length:Nat):=(by simp;omega);simp[e3];rw[show c+k*mU (dU v)+q.2=c+(k*mU (dU v)+q.2)by omega];cases decide (k<j8 v)<;>simp
theorem ZR{d:aG}{l:List Int}(hn:1000002<=n)(hl:l.length<=1000000)(hg:AE d)(hdl:d.phases.length<=1000) vx:∀r (j at':Nat) (c:Int) an (fuel:Nat),d.phases.drop j=r->(∀ v∈r.flatMap (·.aE),okV v=true)->at'+(r.flatMap (·.aE)).length<=l.length->0<=c->(r.flatMap (·.aE)).length<=1000->c+(r.flatMap (·.aE)).length*1501933683542016<=4611686018427387904->an.length+r.length<=1000->r.length<fuel->
 iter (kJ n d l) fuel (c,at',j,vx,an)=some (match JG r (l.drop at')with
  |none=>.inr (aG.mk 0 [],0,1)
  |some q=>.inl (c+q.2,vx,an++q.1))
 |[],j,at',c,an,fuel,hj,hv,ha,hc,hvl,hcm,hacc,hf=>by obtain⟨f,rfl⟩:∃f,fuel=f+1:=⟨fuel-1,by omega⟩;have:d.phases.length<=j:=List.drop_eq_nil_iff.1 hj;refine(cK ?_).trans rfl;simp only[kJ];rw[show decide ((j:Int)<d.phases.length)=false by simp;omega];simp[JG]
 |p::r,j,at',c,an,fuel,hj,hv,ha,hc,hvl,hcm,hacc,hf=>by
  obtain⟨f,rfl⟩:∃f,fuel=f+1:=⟨fuel-1,by omega⟩;obtain⟨h1,h2,h3⟩:=drop_at hj;simp only[List.flatMap_cons,fG,fU]at ha hvl hcm hacc hf;have hgl:=hg p (bZ h1);have hs:=ZQ (l:=l) (p:=p) p.aE 0 at' c [] n (by simp) (by omega) (λ v hm=>hv v (by simp[hm])) (by omega) hl hc (by omega) (by simp;omega) (by omega);have e0:((0:Nat):Int)=0:=rfl;rw[e0]at hs;have hcond:decide ((j:Int)<d.phases.length)=true:=by simp;omega
  have hnil:be 0 ([]:List aC).length=true:=rfl;simp[JG];cases hq:PS p.aE ((l.drop at').take p.aE.length)with
  |none=>
   rw[hq]at hs;refine(cK ?_).trans rfl;simp only[kJ,hcond,aj,Aw,h1,ai,Al hgl,hnil,aN,hs];rfl
  |some q=>
   rw[hq]at hs;obtain⟨c1,c2,c3⟩:=PU p.aE _ q (λ v hm=>hv v (by simp[hm])) hq;have step:kJ n d l (c,at',j,vx,an)=some (.inl (c+q.2,(at'+p.aE.length:Nat),(j+1:Nat),vx,an++[eH.mk q.1 p.gives])):=(by have hmx:maxLen=9223372036854775807:=rfl;have hap:∀x:eH,bL an.length an.length (sub [x] 0 1).length 1 48=true:=λx=>(by simp[bL,sub];omega);simp only[kJ,hcond,aj,Aw,h1,ai,Al hgl,hnil,aN,hs,jB,jh,hap,gJ,aY j];simp[sub]);rw[dL step];have ih:=ZR (l:=l) hn hl hg hdl vx r (j+1) (at'+p.aE.length) (c+q.2) (an++[eH.mk q.1 p.gives]) f h3 (λ v hm=>hv v (by simp only[List.flatMap_cons,bK];exact .inr hm)) (by omega) (by omega) (by omega) (by omega) (by simp;omega) (by omega);rw[ih];cases JG r (l.drop (at'+p.aE.length))with
   |none=>rfl
   |some w=>simp[Int.add_assoc]
def yf(b:Bool)(d:aG)(l:List Int):aG×Int×Int:=
 bif !b || decide (l.length≠(cj d).length)then(aG.mk 0 [],0,1)else match JG d.phases l with
  |none=>(aG.mk 0 [],0,1)
  |some q=>bif(q.1.flatMap (·.aE)).isEmpty then(aG.mk 0 [],0,1)else(aG.mk d.lot q.1,q.2,0)
theorem WM:∀ps l (q:List eH×Int),(∀ v∈ps.flatMap (·.aE),okV v=true)->JG ps l=some q->q.1.length=ps.length/\(∀ i (h:i<q.1.length) (h':i<ps.length),q.1[i].aE.length<=ps[i].aE.length/\q.1[i].gives=ps[i].gives)
 |[],l,q,_,h=>by cases h;exact⟨rfl,λi h=>by cases h⟩
 |p::ps,l,q,hv,h=>by
  simp[JG]at h;rw[ah]at h;obtain⟨r,h1,h⟩:=h;obtain⟨w,h2,rfl⟩:=iW.1 h;have i1:=PU p.aE _ r (λ v hm=>hv v (by simp[hm])) h1;obtain⟨i2,i3⟩:=WM ps _ w (λ v hm=>hv v (by simp only[List.flatMap_cons,bK];exact .inr hm)) h2;refine⟨by simp[i2],λi h h'=>?_⟩;cases i with
  |zero=>exact⟨i1.2.2,rfl⟩
  |succ i=>exact i3 i (by simpa using h) (by simpa using h')
theorem ZT{d:aG}{l:List Int}{b:Bool}(hd:AR d)(hg:AE d)(hv:(cj d).length<=1000)(hb:lQ n d=some b)(hbv:b=true->∀v∈cj d,okV v=true)(hn:4000002<=n):gW n d l=some (yf b d l):=by
 unfold gW yf;rw[WH hd (by omega),hb];cases b with
 |false=>simp
 |true=>
  simp only[Bool.not_true,ax,ai,Bool.false_or];by_cases hl:l.length=(cj d).length;rw[show ((l.length:Int) !=((cj d).length:Nat))=false by simp[hl],show decide (l.length≠(cj d).length)=false by simp[hl]];have hs:=ZR (n:=n) (d:=d) (l:=l) (by omega) (by omega) hg hd.1 d.lot d.phases 0 0 0 [] n (by simp) (hbv rfl) (by rw[hl];exact Nat.le_of_eq (Nat.zero_add _)) (Int.le_refl _) hv (by have:(d.phases.flatMap (·.aE)).length=(cj d).length:=rfl;omega) (by simp;exact hd.1) (by have:=hd.1;omega);have e0:((0:Nat):Int)=0:=rfl;rw[e0]at hs;have hnil:be 0 ([]:List eH).length=true:=rfl;rw[hnil,hs];simp;cases hq:JG d.phases l with
  |none=>rfl
  |some q=>
   have⟨q1,q2⟩:=WM d.phases l q (hbv rfl) hq;have Z2:AR (aG.mk d.lot q.1):=⟨by rw[q1];exact hd.1,λp hp=>by obtain⟨i,hi,rfl⟩:=mem_iff_getElem.1 hp;have h2:=q2 i hi (by rw[<- q1];exact hi);exact Nat.le_trans h2.1 (hd.2 _ (getElem_mem _))⟩;simp;rw[WH Z2 (by omega)];simp;have hvl:cj (aG.mk d.lot q.1)=q.1.flatMap (·.aE):=rfl;rw[hvl];cases q.1.flatMap (·.aE)with
   |nil=>rfl
   |cons x t=>
    rfl
  rw[show ((l.length:Int) !=((cj d).length:Nat))=true by simpa using λe:l.length=((cj d).length:Int)=>hl (by omega),show decide (l.length≠(cj d).length)=true by simp[hl]];rfl
theorem cT.length{a b:List aD}(h:cT a b):a.length=b.length:=by
 have:a.Perm b:=by
  rw[List.perm_iff_count];intro x;have h1:∀l:List aD,(l.filter λy=>y.cost==x.cost).count x=l.count x:=λl=>by simp
  rw[<- h1 a,<- h1 b,h x.cost]
 exact this.length_eq
theorem ala{Y:Type}{ys:List Y}{ok:Y->Bool}{f:Y->aD}{r:List aD}{p:aD->Bool}(hn:ys.Nodup)(hf:∀y z,f y=f z->y=z)(hs:kB r)(hst:cT r ((ys.filter ok).map f)):
 (∀ c,r.find? p=some c->∃y∈ys,ok y=true/\f y=c/\p c=true/\(∀ z∈ys,ok z=true->p (f z)=true->c.cost<=(f z).cost)/\∀pre post,ys=pre++y::post->∀z∈pre,ok z=true->p (f z)=true->(f z).cost≠c.cost)/\
 (r.find? p=none->∀z∈ys,ok z=true->p (f z)=false):=by
 constructor;intro c hc;obtain⟨hp,A,B,hr,hA⟩:=List.find?_eq_some_iff_append.1 hc;have hcm:c∈r:=by rw[hr];simp
 obtain⟨y,hy,rfl⟩:=mem_map.1 ((hst.mem c).1 hcm);obtain⟨hy1,hy2⟩:=mem_filter.1 hy;refine⟨y,hy1,hy2,rfl,hp,λz hz hz1 hz2=>?_,λpre post hys z hz hz1 hz2 he=>?_⟩;have PC:f z∈r:=(hst.mem _).2 (mem_map.2 ⟨z,mem_filter.2 ⟨hz,hz1⟩,rfl⟩);rw[hr]at PC hs;rcases bK.1 PC with h|h;have:=hA _ h;rw[hz2]at this;cases this;rcases aR.1 h with h|h;rw[h];exact Int.le_refl _;exact(pairwise_cons.1 (pairwise_append.1 hs).2.1).1 _ h;have h1:(r.filter λx=>x.cost==(f y).cost).find? p=some (f y):=by rw[hr,filter_append,List.find?_append,List.filter_cons_of_pos (by simp)];rw[List.find?_eq_none.2 λa ha=>?_,Option.none_or,List.find?_cons_of_pos hp];have:=hA a (mem_filter.1 ha).1;simpa using this
 rw[hst (f y).cost,hys]at h1;rw[filter_append,List.map_append,filter_append,List.find?_append]at h1;obtain⟨w,hw⟩:∃w,((List.map f (pre.filter ok)).filter λx=>x.cost==(f y).cost).find? p=some w:=by
  cases hh:((List.map f (pre.filter ok)).filter λx=>x.cost==(f y).cost).find? p with
  |some w=>exact⟨w,rfl⟩
  |none=>
   have:=List.find?_eq_none.1 hh (f z) (mem_filter.2 ⟨mem_map.2 ⟨z,mem_filter.2 ⟨hz,hz1⟩,rfl⟩,by simp[he]⟩);rw[hz2]at this;exact(this rfl).elim
 rw[hw]at h1;injection h1 with h1;have Wr:=(mem_filter.1 (List.mem_of_find?_eq_some hw)).1;obtain⟨u,hu,hu2⟩:=mem_map.1 Wr;have hu1:=(mem_filter.1 hu).1;have:u=y:=hf u y (hu2.trans h1);rw[hys]at hn;exact(List.nodup_append.1 hn).2.2 u hu1 y (by simp) this;intro hc z hz hz1;have PC:f z∈r:=(hst.mem _).2 (mem_map.2 ⟨z,mem_filter.2 ⟨hz,hz1⟩,rfl⟩);have:=List.find?_eq_none.1 hc _ PC;simpa using this
def Io(n:Nat)(t:eY)(d:aG)(day:Int):Bool:=(qU n t d==0)&&decide (Ju n t d day=[])
def CG(d:aG)(y:List Nat):aG×Int×Int:=yf true d (toI y)
def sC(d:aG)(y:List Nat):Bool:=(CG d y).2.2==0
def EL(d:aG)(y:List Nat):aD:=aD.mk (toI y) (CG d y).2.1
def yP(n:Nat)(t:eY)(d:aG)(day:Int)(y:List Nat):Bool:=sC d y&&Io n t (CG d y).1 day
theorem ahV{a b:List Nat}(h:toI a=toI b):a=b:=by exact(List.map_inj_right λx y e=>by omega).1 h
structure G0(d:aG):Prop where
 law:Yh d
 Bi:(cj d).length<=1000
 top:ea (caps d)<=2001
theorem alb{d:aG}(hd:Yh d)(hv:∀v∈cj d,okV v=true) y:Yh (CG d y).1:=by
 have he:Yh (aG.mk 0 []):=⟨⟨by simp,λp hp=>by simp at hp⟩,λp hp=>by simp at hp⟩;unfold CG yf;cases (!true || decide ((toI y).length≠(cj d).length))with
 |true=>exact he
 |false=>
  cases hq:JG d.phases (toI y)with
  |none=>exact he
  |some q=>
   simp;cases (q.1.flatMap (·.aE)).isEmpty with
   |true=>exact he
   |false=>
    have⟨q1,q2⟩:=WM d.phases (toI y) q hv hq;refine⟨⟨by show q.1.length<=1000;rw[q1];exact hd.1.1,λp hp=>?_⟩,λp hp=>?_⟩;obtain⟨i,hi,rfl⟩:=mem_iff_getElem.1 hp;have h2:=q2 i hi (by rw[<- q1];exact hi);exact Nat.le_trans h2.1 (hd.1.2 _ (getElem_mem _));obtain⟨i,hi,rfl⟩:=mem_iff_getElem.1 hp;have h2:=q2 i hi (by rw[<- q1];exact hi);show(q.1[i]).gives.length<=1000;rw[h2.2];exact hd.2 _ (getElem_mem _)
theorem ad9:∀cs (k:Nat) l,(yO cs k l).length<=k+1
 |cs,0,l=>by simp[yO]
 |cs,k+1,l=>by
  simp[yO];cases vp cs l with
  |none=>simp
  |some r=>have:=ad9 cs k r;simp;omega
section
variable {n:Nat} {t:eY} {d:aG} {day:Int}
theorem ahW(hC:∀y,fits (caps d) y->gW n d (toI y)=some (CG d y)) c1 c2 c3 c4 c5 c6 c7 c8 c9 c10 c11 c12 c13 c16:
 ∀(ys:List (List Nat)) l,(∀ y∈ys,fits (caps d) y)->l.length+ys.length<=100000->
  Q0 (nS n) (ys.map toI) (c1,c2,c3,c4,c5,c6,c7,c8,c9,c10,c11,c12,c13,d.lot,d.phases,c16,l)=some (c1,c2,c3,c4,c5,c6,c7,c8,c9,c10,c11,c12,c13,d.lot,d.phases,c16,l++(ys.filter (sC d)).map (EL d))
 |[],l,_,_=>by simp[Q0]
 |y::ys,l,hf,hl=>by
  have hc:=hC y (hf y (by simp));have hmx:maxLen=9223372036854775807:=rfl;simp at hl;have hap:∀x:aD,bL l.length l.length (sub [x] 0 1).length 1 32=true:=λx=>by simp[bL,sub];omega
  have step:nS n (c1,c2,c3,c4,c5,c6,c7,c8,c9,c10,c11,c12,c13,d.lot,d.phases,c16,l) (toI y)=some (c1,c2,c3,c4,c5,c6,c7,c8,c9,c10,c11,c12,c13,d.lot,d.phases,c16,bif sC d y then l++[EL d y]else l):=by have hc':gW n (aG.mk d.lot d.phases) (toI y)=some (CG d y):=hc;simp[nS,hc',hap];unfold sC EL;cases ((CG d y).2.2==0)<;>rfl
  simp[Q0,step];rw[ahW hC c1 c2 c3 c4 c5 c6 c7 c8 c9 c10 c11 c12 c13 c16 ys _ (λ z hz=>hf z (by simp[hz])) (by cases sC d y<;>simp<;>omega)];cases h:sC d y<;>simp[h]
theorem aop(x y:aD):∃c,(λ (y1:aD×aD×Unit)=>oh y1.1 y1.2.1) (x,y,())=some c/\(c<0↔x.cost<y.cost):=by refine⟨if x.cost<y.cost then -1 else if y.cost<x.cost then 1 else 0,by simp[oh,jf],?_⟩;by_cases h1:x.cost<y.cost;simp[h1];by_cases h2:y.cost<x.cost<;>simp[h1,h2]
theorem aby(hd:Yh d)(hn:WB n)(h0:qU n t d=0):lQ n d=some true/\cj d≠[]:=by
 have hn1:=hn.1;obtain⟨b,hb,_⟩:=ahL (n:=n) (d:=d) hd.1 hd.2 (by omega);cases b with
 |true=>
  refine⟨hb,λh=>?_⟩;simp only[lQ,all_eq hd.1 (show 1001<=n by omega),ai,h]at hb;cases hc1:decide (d.lot<0)<;>cases hc2:decide (d.lot>1073741824)<;>cases hc3:decide (d.phases.length<1)<;>cases hc4:decide (d.phases.length>8)<;>simp at hb
 |false=>
  have hR:kC n (ll t) (l8 t.land d.lot).1 d=some false:=by unfold kC;rw[hb];rfl
  refine absurd h0 ?_;unfold qU Sf;rw[hR];cases (l8 t.land d.lot).2<;>decide
theorem wu(ht:Nn t)(hd:G0 d)(hn:WB n):∃fl c e,bT n t d day=some (fl,c,e)/\(qU n t d≠0->fl=[]/\c=0/\e=qU n t d)/\
 (qU n t d=0->(e=0/\∃y∈JF d,fl=toI y/\c=(EL d y).cost/\yP n t d day y=true/\(∀ z∈JF d,yP n t d day z=true->(EL d y).cost<=(EL d z).cost)/\∀pre post,JF d=pre++y::post->∀z∈pre,yP n t d day z=true->(EL d z).cost≠(EL d y).cost)\/
  (e=4/\fl=[]/\c=0/\∀y∈JF d,yP n t d day y=false)):=by
 have hn1:=hn.1;have hB:=ZL (n:=n) day ht hd.law hn;unfold bT;rw[hB];simp only[ai];by_cases h0:qU n t d=0;rw[show (qU n t d !=0)=false by simp[h0],ax];obtain⟨_,hv⟩:=look_eq (n:=n) ht hd.law hn;have hv:=hv h0;have hvl:=hd.Bi;have⟨hform,_⟩:=aby hd.law hn h0;have hC:∀y,fits (caps d) y->gW n d (toI y)=some (CG d y):=λy hy=>ZT hd.law.1 hd.law.2 hvl hform (λ _=>hv) (by omega);have hz:=WL d;have hfits:∀y∈JF d,fits (caps d) y:=λy hy=>(EK _ _ hz.1 y hy).1;have hall:(JF d).length<=2001:=by have:=ad9 (caps d) (ea (caps d)-1) (oK d);have:=hd.top;unfold JF;omega
 have htop:ea ((cj d).map jz)<=2001:=hd.top;rw[WH hd.law.1 (by omega)];simp only[ai,jh,aN,aj];rw[amm (cj d) htop (by omega) (by omega)];simp only[ai,ax,agp];have e0:be 0 ([]:List aD).length=true:=rfl;rw[e0];simp only[aj];rw[abw hd.law.1 (by omega) (by have:=hd.top;omega)];simp;rw[ahW hC t.ch t.b9 t.b8 t.az t.ci t.cd t.cp t.cg t.land t.bj t.windows t.built t.base 0 (JF d) [] hfits (by simp;omega)]
 try simp
 obtain⟨L0,hL0⟩:∃L0,((JF d).filter (sC d)).map (EL d)=L0:=⟨_,rfl⟩;have hL0l:L0.length<=2001:=by rw[<- hL0,List.length_map];exact Nat.le_trans (List.length_filter_le _ _) hall
 rw[hL0];obtain⟨r,hr,hsr,hst⟩:=PL (φ:=λ(y1:aD×aD×Unit)=>oh y1.1 y1.2.1) aop (n:=n) L0 (by omega) (by omega);rw[hr];have hlen:=hst.length;have hmem:∀x∈r,∃y∈JF d,sC d y=true/\EL d y=x:=λx hx=>by have:=(hst.mem x).1 hx;rw[<- hL0]at this;obtain⟨y,hy,rfl⟩:=mem_map.1 this;exact⟨y,(mem_filter.1 hy).1,(mem_filter.1 hy).2,rfl⟩
 let p:aD->Bool:=λx=>Io n t (yf true d x.floors).1 day
 obtain⟨o,g1,g2⟩:=fC (step:=kT n day t.ch t.b9 t.b8 t.az t.ci t.cd t.cp t.cg t.land t.bj t.windows t.built t.base d.lot d.phases L0 r) (λ i v=>v=i/\i<=r.length/\∀x∈r.take i,p x=false)
  (λ o=>(o=.inl ()/\r.find? p=none)\/∃x,o=.inr (x.floors,x.cost,0)/\r.find? p=some x) r.length (λ k v h=>h.2.1) (by
  rintro i v ⟨rfl,hi,hpre⟩;by_cases hlt:i<r.length;obtain⟨y,hy1,hy2,hy3⟩:=hmem r[i] (getElem_mem hlt);have hch:gW n (aG.mk d.lot d.phases) r[i].floors=some (CG d y):=by rw[<- hy3];exact hC y (hfits y hy1)
  have hla:mM n (eY.mk t.ch t.b9 t.b8 t.az t.ci t.cd t.cp t.cg t.land t.bj t.windows t.built t.base) (CG d y).1 day=some (Io n t (CG d y).1 day):=ZM day ht (alb hd.law hv y) hn;have hpx:p r[i]=Io n t (CG d y).1 day:=by show Io n t (yf true d r[i].floors).1 day=_;rw[<- hy3];rfl
  have hg:b7 r ((0:Nat)+i)=some r[i]:=bI hlt;have hb:decide (i<(L0.length:Int))=true:=by simp;omega
  have hin:cx i L0.length=true:=aW (by omega);cases hp:Io n t (CG d y).1 day with
  |true=>
   refine .inr ⟨.inr (r[i].floors,r[i].cost,0),?_,.inr ⟨r[i],rfl,?_⟩⟩;simp only[kT,hb,aj,hin,hg,ai,hch,hla,hp];rfl;rw[hp]at hpx;rw[List.find?_eq_some_iff_append];refine⟨hpx,r.take i,r.drop (i+1),?_,λa ha=>by rw[hpre a ha];rfl⟩;rw[<- List.drop_eq_getElem_cons hlt,List.take_append_drop]
  |false=>
   refine .inl ⟨_,?_,rfl,hlt,λx hx=>?_⟩;simp only[kT,hb,aj,hin,hg,ai,hch,hla,hp,ax];rw[aQ (by omega)];rw[List.take_add_one,dJ hlt,bK]at hx;rcases hx with hx|hx;exact hpre x hx;simp at hx;rw[hx,hpx,hp]
  refine .inr ⟨.inl (),?_,.inl ⟨rfl,?_⟩⟩;simp only[kT];rw[show decide (i<(L0.length:Int))=false by simp;omega];rfl;rw[List.find?_eq_none];intro x hx;rw[List.take_of_length_le (by omega)]at hpre;rw[hpre x hx];simp) n 0 0 ⟨rfl,Nat.zero_le _,by simp⟩ (by omega)
 have hfo:=ala (ys:=JF d) (ok:=sC d) (f:=EL d) (r:=r) (p:=p) (Rq _ _ hz.1) (λ y z e=>ahV (by injection e)) hsr (by rw[hL0];exact hst);have tG:∀z,yP n t d day z=(sC d z&&p (EL d z)):=λz=>rfl;rcases g2 with ⟨rfl,hno⟩|⟨x,rfl,hx⟩;refine⟨[],0,4,?_,λh=>(h h0).elim,λ_=>.inr ⟨rfl,rfl,rfl,λy hy=>?_⟩⟩;show dS (iter _ n 0) _=_;rw[g1,jB];rw[tG];cases hoy:sC d y with
 |false=>rfl
 |true=>rw[hfo.2 hno y hy hoy];rfl
 obtain⟨y,hy1,hy2,rfl,hy4,We,hy6⟩:=hfo.1 x hx;refine⟨toI y,(EL d y).cost,0,?_,λh=>(h h0).elim,λ_=>.inl ⟨rfl,y,hy1,rfl,rfl,by rw[tG,hy2,hy4];rfl,λz hz h=>?_,λpre post he z hz h=>?_⟩⟩;show dS (iter _ n 0) _=_;rw[g1,p9];rfl;rw[tG,bg]at h;exact We z hz h.1 h.2;rw[tG,bg]at h;exact hy6 pre post he z hz h.1 h.2;rw[show (qU n t d !=0)=true by simpa using h0,aj];exact⟨[],0,qU n t d,rfl,λ_=>⟨rfl,rfl,rfl⟩,λh=>(h0 h).elim⟩
end
theorem Ip{α:Type}{l:List α}{K n:Nat}(f:α->Nat)(c:Nat){step:Int->Option (Int⊕(Unit⊕Bool))}(hs:∀v,step v=((bif decide (v<l.length)then some (decide (v<K))else some false):Option Bool).bind λb=>bif b then(b7 l v).bind λx=>bif decide ((f x:Int)>c)then(some false).map λa=>.inr (.inr a)else some (.inl (i64.wrap (v+1)))else some (.inr (.inl ())))(hK:K<1000)(hn:K+1<n):
 iter step n 0=some (.inr false)\/(iter step n 0=some (.inl ())/\(l.length<=K->∀x∈l,f x<=c)):=by refine TJ (good:=λx=>f x<=c) (λ i hi hi2=>?_) (λ i h=>?_) hn;rw[hs,Im i l.length K rfl,show decide (i<l.length/\i<K)=true by simp[hi,hi2]];simp only[ai,aj,bG hi,aY i];by_cases h:(f l[i]:Int)>c;left;simp only[h,decide_true,aj];rfl;right;simp only[h,decide_false,ax];exact⟨trivial,by omega⟩;rw[hs,Im i l.length K rfl,show decide (i<l.length/\i<K)=false by simp;omega];rfl
theorem KW(hn:4000002<=n):∀(m:Nat) (e:bU) most (L:Nat),(toE e).wt<=4000000->0<=most->most<=1000->L<=100->L+1<=m->∃r,sD n m e most L=some r/\1<=r/\r<=most+1
 | 0,_,_,_,_,_,_,_,h=>absurd h (by omega)
 |m+1,e,most,L,hw,h0,h1,hL,hm=>by have hla:=abm e;show ∃r,Ag n (sD n m) e most L=some r/\_;simp[Ag];by_cases hL1:(L:Int)<1;simp only[hL1,decide_true,aj];rw[aO (by omega) (by omega)];exact⟨most+1,rfl,by omega,by omega⟩;simp[hL1];obtain⟨o,g1,g2,g3⟩:=fC (step:=uf (sD n m) e most L) (λ i (v:Int×Int)=>v.2=i/\i<=e.args.length/\1<=v.1/\v.1<=most+1) (λ o=>1<=o/\o<=most+1) e.args.length (λ k v h=>h.2.1) (by rintro i ⟨v1,v2⟩ ⟨hv,hi,i1,i2⟩;subst hv;by_cases hlt:i<e.args.length;by_cases hle:v1<=most;left;have hwx:=af9 (getElem_mem hlt);obtain⟨r,r1,r2,r3⟩:=KW hn m e.args[i] (most-v1) (L-1) (by omega) (by omega) (by omega) (by omega) (by omega);have eL:i64.wrap (L-1)=(L-1:Nat):=ni (by omega) (by omega);refine⟨(v1+r,(i+1:Nat)),?_,rfl,hlt,by omega,by omega⟩;simp only[uf,show decide ((i:Int)<e.args.length)=true from by simp;omega,aj,hle,decide_true,ai,bG hlt,aO (show -9223372036854775808<=most-v1 by omega) (show most-v1<=9223372036854775807 by omega),eL,r1,aO (show -9223372036854775808<=v1+r by omega) (show v1+r<=9223372036854775807 by omega),aY i];right;refine⟨v1,?_,i1,i2⟩;simp[uf,hle];right;refine⟨v1,?_,i1,i2⟩;simp only[uf,show decide ((i:Int)<e.args.length)=false from by simp;omega,ax,ai]) n 0 (1,0) ⟨rfl,Nat.zero_le _,by simp,by omega⟩ (by omega);simp only[g1];exact⟨o,rfl,g2,g3⟩
def alc(p:cB):Prop:=(p.tables.length<=4/\∀t∈p.tables,t.rows.length<=8)/\p.zones.length<=5/\p.caps.length<=3/\p.rules.length<=6/\∀r∈p.rules,Wp r
theorem ajb{p:cB}(hd:gp p.defs)(hw:WtR p.rules)(hn:WB n):∃b,MZ n p=some b/\(b=true->alc p):=by
 obtain⟨hn1,hn2⟩:=hn;have s1:=TJ (l:=p.rules) (K:=5) (n:=n) (step:=Ah n p) (good:=Wp) (λ i hi hK=>by obtain⟨r,hr,_,_⟩:=KW (n:=n) (by omega) n (lj p.rules[i]) 20 14 (hw _ (getElem_mem hi)) (by omega) (by omega) (by omega) (by omega);have hr':Cq n (bU.mk p.rules[i].ky p.rules[i].m7 p.rules[i].m6 p.rules[i].i8 p.rules[i].fS) 20 14=some r:=hr;have e:=Im i p.rules.length 5 (k:=5) rfl;simp only[Ah,e,show decide (i<p.rules.length/\i<5)=true from by simp[hi,hK],ai,aj,bG hi,hr',aY i];by_cases c1:r>20;left;simp only[c1,decide_true,aj,ai];rfl;by_cases c2:(p.rules[i].zones.length:Int)>6;left;simp only[c1,c2,decide_true,decide_false,aj,ax,ai];rfl;by_cases c3:(p.rules[i].except.length:Int)>6;left;simp only[c1,c2,c3,decide_true,decide_false,aj,ax,ai];rfl;right;simp only[c1,c2,c3,decide_false,ax,ai];exact⟨trivial,by omega,by omega⟩) (λ i h=>by have e:=Im i p.rules.length 5 (k:=5) rfl;simp only[Ah,e,show decide (i<p.rules.length/\i<5)=false from by simp;omega,ai,ax]) (by omega);have s2:=TJ (l:=p.defs) (K:=5) (n:=n) (step:=Ai n p) (good:=λ_=>True) (λ i hi hK=>by
  obtain⟨r,hr,_,_⟩:=KW (n:=n) (by omega) n _ 20 14 (hd.body (getElem_mem hi)) (by omega) (by omega) (by omega) (by omega);have hr':Cq n (bU.mk p.defs[i].iu p.defs[i].ly p.defs[i].kq p.defs[i].ik p.defs[i].el) 20 14=some r:=hr;have e:=Im i p.defs.length 5 (k:=5) rfl;simp only[Ai,e,show decide (i<p.defs.length/\i<5)=true from by simp[hi,hK],ai,aj,bG hi,hr',aY i];cases decide (r>20)with
  |true=>exact .inl rfl
  |false=>exact .inr ⟨rfl,trivial⟩) (λ i h=>by have e:=Im i p.defs.length 5 (k:=5) rfl;simp only[Ai,e,show decide (i<p.defs.length/\i<5)=false from by simp;omega,ai,ax]) (by omega)
 have s3:=Ip (l:=p.zones) (K:=5) (n:=n) (step:=Rc p) (λ x=>x.corners.length) 12 (λ v=>rfl) (by decide) (by omega);have s4:=Ip (l:=p.caps) (K:=4) (n:=n) (step:=Rf p) (λ x=>x.corners.length) 12 (λ v=>rfl) (by decide) (by omega);have s5:=Ip (l:=p.tables) (K:=3) (n:=n) (step:=Rh p) (λ x=>x.rows.length) 8 (λ v=>rfl) (by decide) (by omega);have no:∃b,some false=some b/\(b=true->alc p):=⟨false,rfl,λh=>(by cases h)⟩;unfold MZ;rcases s1 with h1|⟨h1,hr⟩;rw[h1];exact no;rcases s2 with h2|⟨h2,_⟩;rw[h1,h2];exact no;rcases s3 with h3|⟨h3,_⟩;rw[h1,h2,h3];exact no;rcases s4 with h4|⟨h4,_⟩;rw[h1,h2,h3,h4];exact no;rcases s5 with h5|⟨h5,ht⟩;rw[h1,h2,h3,h4,h5];exact no;rw[h1,h2,h3,h4,h5];simp only[bA];refine⟨_,rfl,λhb=>?_⟩;simp at hb;exact⟨⟨by omega,ht (by omega)⟩,by omega,by omega,by omega,hr (by omega)⟩
theorem flat3:∀{l:List eH},(∀ p∈l,p.aE.length<=3)->(l.flatMap (·.aE)).length<=l.length*3
 |[],_=>by simp
 |p::l,h=>by have:=flat3 λq hq=>h q (dZ _ hq);have:=h p (by simp);rw[List.flatMap_cons,fG,fU];omega
theorem ald{t:eY}{d:aG}(hz:Se t)(hn:WB n):∃b,Ty n t d=some b/\(b=true->Nn t/\G0 d):=by
 have hn':=hn;obtain⟨hn1,hn2⟩:=hn;have s1:=Ip (l:=t.land) (K:=4) (n:=n) (step:=VO t) (λ x=>x.area.length) 4 (λ v=>rfl) (by decide) (by omega);have s2:=Ip (l:=t.bj) (K:=4) (n:=n) (step:=VP t) (λ x=>x.area.length) 4 (λ v=>rfl) (by decide) (by omega);have s3:=TJ (l:=d.phases) (K:=4) (n:=n) (step:=Eu d) (good:=λx=>x.aE.length<=3/\x.gives.length<=3) (λ i hi hK=>by have e:=Im i d.phases.length 4 (k:=4) rfl;simp only[Eu,e,show decide (i<d.phases.length/\i<4)=true from by simp[hi,hK],ai,aj,bG hi,aY i];by_cases c1:(d.phases[i].aE.length:Int)>3;left;simp only[c1,decide_true,aj,ai];rfl;by_cases c2:(d.phases[i].gives.length:Int)>3;left;simp only[c1,c2,decide_true,decide_false,aj,ax,ai];rfl;right;simp only[c1,c2,decide_false,ax,ai];exact⟨trivial,by omega,by omega⟩) (λ i h=>by have e:=Im i d.phases.length 4 (k:=4) rfl;simp only[Eu,e,show decide (i<d.phases.length/\i<4)=false from by simp;omega,ai,ax]) (by omega);have no:∃b,some false=some b/\(b=true->Nn t/\G0 d):=⟨false,rfl,λh=>(by cases h)⟩;obtain⟨b,hb,hb2⟩:=ajb (n:=n) (p:=cB.mk t.ch t.b9 t.b8 t.az t.ci t.cd t.cp t.cg) hz.defs hz.rules hn';unfold Ty;rcases s1 with h1|⟨h1,hl⟩;rw[h1];exact no;rcases s2 with h2|⟨h2,he⟩;rw[h1,h2];exact no;rcases s3 with h3|⟨h3,hd⟩;rw[h1,h2,h3];exact no;rw[h1,h2,h3,hb];cases b with
 |false=>exact no
 |true=>
  have⟨⟨t1,t2⟩,z1,c1,r1,r2⟩:=hb2 rfl;simp at t1 t2 z1 c1 r1 r2;by_cases d4:(d.phases.length:Int)<=3;have hd':=hd (by omega);have hF:AR d:=⟨by omega,λp hm=>by have:=(hd' p hm).1;omega⟩;have hG:AE d:=λp hm=>by have:=(hd' p hm).2;omega
  obtain⟨r,hr,hr2⟩:=amn (n:=n) hF (by omega);have d4':decide ((d.phases.length:Int)<=3)=true:=by simpa using d4
  rw[hr];simp only[aj,ai,bA];refine⟨_,rfl,λh=>?_⟩;simp at h;obtain⟨d1,d2,d3,d5⟩:=h;have hl':=hl (by omega);have he':=he (by omega);refine⟨⟨λ l hm=>⟨by have:=hl' l hm;omega,hz.z6 l hm⟩,by omega,⟨by omega,λe hm=>by have:=he' e hm;omega⟩,by omega,by omega,by omega,by omega,λr hm=>⟨r2 r hm,hz.rules r hm⟩,⟨hz.defs,⟨by show t.b9.length<=_;omega,λx hx=>by have:=t2 x hx;omega⟩⟩⟩,⟨hF,hG⟩,?_,by omega⟩;have:=flat3 λp hp=>(hd' p hp).1;show(d.phases.flatMap (·.aE)).length<=1000;omega;have d4':decide ((d.phases.length:Int)<=3)=false:=by simpa using d4
  rw[d4'];cases decide ((t.land.length:Int)<=3)<;>cases decide ((t.bj.length:Int)<=3)<;>cases decide ((t.built.length:Int)<=4)<;>exact no
def KX:aG:=aG.mk 1 [eH.mk [aC.mk 1 1 5 6 0 10 1 0 false] []]
def KY(m:Int):eY:=eY.mk [] [] [] [bP.mk (⟨#[114]⟩) ([]) ([]) 0 0 0 false 0 12 0 (⟨#[]⟩) (⟨#[]⟩) [(bU.mk 1 0 (⟨#[104,101,105,103,104,116]⟩) (⟨#[]⟩) ([])),(bU.mk 0 m (⟨#[]⟩) (⟨#[]⟩) ([]))] 0 0 0 0 0 0 0] [] [] [] 0 [jN.mk 1 0 [au.mk 0 0 9 9] []] [] [] [] []
theorem ahX m:Nn (KY m) where
 lots:=λl hl=>by simp only[KY,bq]at hl;subst hl;exact⟨by decide,by decide⟩
 land:=Nat.le_of_ble_eq_true (by kernel_rfl)
 L3:=⟨Nat.le_of_ble_eq_true (by kernel_rfl),λe he=>by simp[KY]at he⟩
 built:=Nat.le_of_ble_eq_true (by kernel_rfl)
 zones:=Nat.le_of_ble_eq_true (by kernel_rfl)
 caps:=Nat.le_of_ble_eq_true (by kernel_rfl)
 rules:=Nat.le_of_ble_eq_true (by kernel_rfl)
 rule:=λr hr=>by simp only[KY,bq]at hr;subst hr;exact⟨⟨Nat.le_of_ble_eq_true (by kernel_rfl),Nat.le_of_ble_eq_true (by kernel_rfl)⟩,Nat.le_of_ble_eq_true (by kernel_rfl)⟩
 plan:=⟨Nat.le_of_ble_eq_true (by kernel_rfl),Nat.le_of_ble_eq_true (by kernel_rfl),λx hx=>by simp[ll,KY]at hx⟩
theorem kA:G0 KX where
 law:=by refine⟨⟨by decide,λp hp=>?_⟩,λp hp=>?_⟩<;>(simp only[KX,bq]at hp;subst hp;decide)
 Bi:=by decide
 top:=by decide
theorem aoe:JF KX=[[0],[1],[2],[3],[4]]:=by kernel_rfl
theorem anw:bT 5000003 (KY 8) KX 0=some ([2],40,0):=by
 obtain⟨fl,c,e,h1,_,h3⟩:=wu (n:=5000003) (day:=0) (ahX 8) kA WE;have f0:yP 5000003 (KY 8) KX 0 [0]=false:=by kernel_rfl
 have f1:yP 5000003 (KY 8) KX 0 [1]=false:=by kernel_rfl
 have f2:yP 5000003 (KY 8) KX 0 [2]=true:=by kernel_rfl
 have f4:yP 5000003 (KY 8) KX 0 [4]=false:=by kernel_rfl
 have k2:EL KX [2]=aD.mk [2] 40:=by kernel_rfl
 have k3:EL KX [3]=aD.mk [3] 60:=by kernel_rfl
 rcases h3 (by kernel_rfl)with ⟨rfl,y,hy,rfl,rfl,g1,g2,_⟩|⟨_,_,_,g⟩;rw[aoe]at hy g2;have g2:=g2 [2] (by simp) f2;simp at hy;rcases hy with rfl|rfl|rfl|rfl|rfl;rw[f0]at g1;cases g1;rw[f1]at g1;cases g1;rw[h1];rfl;exact absurd g2 (by decide);cases g1;have:=g [2] (by rw[aoe];simp);rw[f2]at this;cases this
theorem anx:bT 5000003 (KY 2) KX 0=some ([],0,4):=by
 obtain⟨fl,c,e,h1,_,h3⟩:=wu (n:=5000003) (day:=0) (ahX 2) kA WE;have f:(JF KX).all (λ y=>!yP 5000003 (KY 2) KX 0 y)=true:=by kernel_rfl
 rcases h3 (by kernel_rfl)with ⟨rfl,y,hy,rfl,rfl,g1,_⟩|⟨rfl,rfl,rfl,_⟩;have:=List.all_eq_true.1 f y hy;rw[g1]at this;cases this;exact h1
theorem amo:Jq 5000003=some true:=by
 have s8:yD 8=some (KY 8,KX):=by kernel_rfl
 have s2:yD 2=some (KY 2,KX):=by kernel_rfl
 obtain⟨hf,_⟩:=aby (n:=5000003) (t:=KY 8) kA.law WE (by kernel_rfl);have hC:=λl=>ZT (n:=5000003) (l:=l) kA.law.1 kA.law.2 kA.Bi hf (λ _=>by decide) (by decide);unfold Jq;simp[s8,s2,anw,anx,hC];rfl
theorem aea(out:List ByteArray)(s:ByteArray)(b:Bool):addN out s b=[]↔out=[]/\b=false:=by
 cases b with
 |false=>exact⟨λ h=>⟨h,rfl⟩,λh=>h.1⟩
 |true=>
  cases out with
  |nil=>simp[addN]
  |cons x l=>unfold addN;cases (true&&!((x::l).any (fW s)))<;>simp
theorem aeb(f:bP->Bool):∀(l:List bP)(out:List ByteArray),l.foldl (λ out r=>addN out r.name (f r)) out=[]↔out=[]/\∀r∈l,f r=false
 |[],out=>by simp
 |r::l,out=>by rw[List.foldl_cons,aeb f l,aea,List.forall_mem_cons];exact and_assoc
section
variable {n:Nat} {t:eY} {d:aG} {day:Int}
theorem ale:Io n t d day=true↔qU n t d=0/\(∀ r∈t.az,pQ (uo t (sK t d)) day r=true->E2 n t (sK t d) d r=false)/\N4 t d=false:=by
 unfold Io Ju;by_cases h0:qU n t d=0
 ·have hb:(qU n t d==0)=true:=by simp[h0]
  rw[hb,Bool.true_and,aj,bE,aea];unfold KT applied;rw[aeb];simp[h0]
 ·have hb:(qU n t d==0)=false:=by simpa using h0
  simp[h0]
def PV(t:eY)(l:List bP)(es:List gM):eY:=eY.mk t.ch t.b9 t.b8 l t.ci t.cd t.cp t.cg t.land es t.windows t.built t.base
theorem PW(h:Nn t){l:List bP}{es:List gM}(hl:∀r∈l,r∈t.az)(he:∀e∈es,e∈t.bj)(h1:l.length<=100)(h2:es.length<=900):Nn (PV t l es):=
 ⟨h.lots,h.land,⟨h2,λe hm=>h.L3.2 e (he e hm)⟩,h.built,h.zones,h.caps,h1,λr hm=>h.rule r (hl r hm),h.plan⟩
theorem ajc{l:List bP}{es:List gM}(hl:∀r∈l,r∈t.az)(he:∀e∈es,e∈t.bj)(h:Io n t d day=true):Io n (PV t l es) d day=true:=by
 rw[ale]at h ⊢;obtain⟨h0,h1,h2⟩:=h;refine⟨h0,λr hm ha=>h1 r (hl r hm) ha,?_⟩;unfold N4 at h2 ⊢;rw[List.any_eq_false]at h2 ⊢;intro v hv;have h3:Nj t.bj d.lot (qF v)=true:=by simpa using h2 v hv
 have h4:Nj es d.lot (qF v)=true:=by unfold Nj at h3 ⊢;rw[bg,Bool.not_eq_true',List.any_eq_false]at h3 ⊢;exact⟨h3.1,λe hm=>h3.2 e (he e hm)⟩
 show ¬(!Nj es d.lot (qF v))=true;rw[h4];decide
theorem WN(ht:Nn t)(hd:G0 d)(hn:WB n){l:List bP}{es:List gM}(hl:∀r∈l,r∈t.az)(he:∀e∈es,e∈t.bj)(h1:l.length<=100)(h2:es.length<=900){fl:List Int}{c:Int}(h:bT n t d day=some (fl,c,0)):
 ∃Lq c',bT n (PV t l es) d day=some (Lq,c',0)/\c'<=c:=by
 have⟨Lo,c1,e1,g1,g2,g3⟩:=wu (day:=day) ht hd hn;have⟨fl2,c2,e2,k1,k2,k3⟩:=wu (day:=day) (PW ht hl he h1 h2) hd hn;rw[g1]at h;injection h with h;injection h with q1 h;injection h with q2 q3;subst q1 q2 q3;have h0:qU n t d=0:=rQ λh=>h (g2 h).2.2.symm;rcases g3 h0 with ⟨_,y,hy,rfl,rfl,hy4,_⟩|⟨h,_⟩
 ·have hf:yP n (PV t l es) d day y=true:=by unfold yP at hy4 ⊢;rw[bg]at hy4 ⊢;exact⟨hy4.1,ajc hl he hy4.2⟩
  rcases k3 h0 with ⟨rfl,z,hz,rfl,rfl,_,hz5,_⟩|⟨_,_,_,hno⟩
  ·exact⟨_,_,k1,hz5 y hy hf⟩
  ·rw[hno y hy]at hf;cases hf
 ·cases h
theorem alf{v:aC}(h:okV v=true):0<mU (dU v):=by have:=Cw h;simp at this;exact Int.mul_pos (by omega) (by omega)
theorem amq{v:aC}(h:okV v=true):0<j8 v:=by have:=N2 h;unfold j8;rw[h,aj];omega
theorem ZU:∀vs:List aC,(∀ v∈vs,okV v=true)->PS vs (List.replicate vs.length 0)=some (vs,0)
 |[],_=>rfl
 |v::vs,h=>by have hp:=amq (h v (by simp));have ih:=ZU vs λx hx=>h x (dZ _ hx);rw[fU,List.replicate_succ,PS,ih];rw[show (decide ((0:Int)<0) || decide ((0:Int)>j8 v))=false by simp;omega,show decide ((0:Int)<j8 v)=true by simpa using hp];simp[cutV]
theorem ZV:∀ps:List eH,(∀ v∈ps.flatMap (·.aE),okV v=true)->JG ps (List.replicate (ps.flatMap (·.aE)).length 0)=some (ps,0)
 |[],_=>rfl
 |p::ps,h=>by have ih:=ZV ps λx hx=>h x (by simp at hx ⊢;exact .inr hx);have i2:=ZU p.aE λx hx=>h x (by simp;exact .inl hx);rw[JG,List.flatMap_cons,fG,List.take_replicate,List.drop_replicate,Nat.min_eq_left (by omega),i2,show p.aE.length+(ps.flatMap (·.aE)).length-p.aE.length=(ps.flatMap (·.aE)).length by omega];simp only[ai,ih,Option.map_some];rfl
theorem ZW:∀(vs:List aC)(l:List Int)(r:List aC×Int),(∀ v∈vs,okV v=true)->PS vs l=some r->0<=r.2/\(r.2=0->l.length=vs.length->l=List.replicate vs.length 0)
 |[],l,r,_,h=>by cases h;exact⟨Int.le_refl _,λ_ h=>eq_nil_of_length_eq_zero h⟩
 |v::vs,[],r,_,h=>by cases h
 |v::vs,k::ks,r,hv,h=>by
  rw[PS]at h;cases hc:(decide (k<0) || decide (k>j8 v))with
  |true=>rw[hc]at h;cases h
  |false=>
   rw[hc,ax]at h;obtain⟨q,hq,rfl⟩:=iW.1 h;obtain⟨h1,h2⟩:=ZW vs ks q (λ x hx=>hv x (dZ _ hx)) hq;have ha:=alf (hv v (by simp));simp at hc;have hk:0<=k*mU (dU v):=Int.mul_nonneg hc.1 (by omega);refine⟨by show 0<=_+q.2;omega,λh0 hl=>?_⟩;have h0:k*mU (dU v)+q.2=0:=h0;have hk0:k*mU (dU v)=0:=(by omega);have:k=0:=(Int.mul_eq_zero.1 hk0).resolve_right (by omega);simp only[fU]at hl;rw[this,h2 (by omega) (by omega),fU,List.replicate_succ]
theorem ZX:∀(ps:List eH)(l:List Int)(q:List eH×Int),(∀ v∈ps.flatMap (·.aE),okV v=true)->JG ps l=some q->0<=q.2/\(q.2=0->l.length=(ps.flatMap (·.aE)).length->l=List.replicate (ps.flatMap (·.aE)).length 0)
 |[],l,q,_,h=>by cases h;exact⟨Int.le_refl _,λ_ h=>eq_nil_of_length_eq_zero h⟩
 |p::ps,l,q,hv,h=>by rw[JG]at h;have⟨r,hr,h⟩:=ah.1 h;obtain⟨s,hs,rfl⟩:=iW.1 h;obtain⟨i1,i2⟩:=ZW _ _ r (λ x hx=>hv x (by simp;exact .inl hx)) hr;obtain⟨j1,j2⟩:=ZX ps _ s (λ x hx=>hv x (by simp at hx ⊢;exact .inr hx)) hs;refine⟨by show 0<=r.2+s.2;omega,λh0 hl=>?_⟩;have h0:r.2+s.2=0:=h0;rw[List.flatMap_cons,fG]at hl ⊢;have e1:=i2 (by omega) (by rw[length_take];omega);have e2:=j2 (by omega) (by rw[List.length_drop];omega);rw[<- List.take_append_drop p.aE.length l,e1,e2,List.replicate_append_replicate]
theorem aec(hv:∀v∈cj d,okV v=true)(hne:cj d≠[]):CG d (oK d)=(d,0,0):=by
 have e:toI (oK d)=List.replicate (cj d).length 0:=by simp[toI,oK]
 have h:=ZV d.phases hv;have hl:(!true || decide ((List.replicate (cj d).length (0:Int)).length≠(cj d).length))=false:=by simp
 have hn:(d.phases.flatMap (·.aE)).isEmpty=false:=by
  cases hq:cj d with
  |nil=>exact(hne hq).elim
  |cons x l=>show(cj d).isEmpty=false;rw[hq];rfl
 unfold CG yf;rw[e,hl,ax];have h':JG d.phases (List.replicate (cj d).length 0)=some (d.phases,0):=h;rw[h'];show(bif (d.phases.flatMap (·.aE)).isEmpty then _ else _)=_;rw[hn];rfl
theorem alg(hv:∀v∈cj d,okV v=true){y:List Nat}(hy:sC d y=true):0<=(CG d y).2.1/\((CG d y).2.1=0->y=oK d):=by
 unfold sC CG yf at hy;unfold CG yf;cases hl:(!true || decide ((toI y).length≠(cj d).length))with
 |true=>rw[hl]at hy;cases hy
 |false=>
  rw[hl]at hy;simp only[ax]at hy ⊢;cases hq:JG d.phases (toI y)with
  |none=>rw[hq]at hy;cases hy
  |some q=>
   rw[hq]at hy;simp only at hy ⊢;cases hz:(q.1.flatMap (·.aE)).isEmpty with
   |true=>rw[hz]at hy;cases hy
   |false=>
    obtain⟨h1,h2⟩:=ZX _ _ q hv hq;refine⟨h1,λh0=>?_⟩;have hl':(toI y).length=(cj d).length:=(by simpa using hl);have:=h2 h0 hl';refine ahV ?_;rw[this];simp[toI,oK,cj]
theorem agq(ht:Nn t)(hd:G0 d)(hn:WB n){fl:List Int}{c e:Int}(h:bT n t d day=some (fl,c,e)):Io n t d day=((e==0)&&(c==0)):=by
 have⟨Lo,c1,e1,g1,g2,g3⟩:=wu (day:=day) ht hd hn;rw[g1]at h;injection h with h;injection h with q1 h;injection h with q2 q3;subst q1 q2 q3;by_cases h0:qU n t d=0
 ·obtain⟨_,hv⟩:=look_eq ht hd.law hn;have hv:=hv h0;have⟨_,hne⟩:=aby hd.law hn h0;have hzm:oK d∈JF d:=by have⟨q,hq⟩:=ak9 (caps d) (ea (caps d)-1) (oK d);unfold JF;rw[hq];simp
  have B7:yP n t d day (oK d)=Io n t d day:=by unfold yP sC;rw[aec hv hne];rfl
  have hze:(EL d (oK d)).cost=0:=by unfold EL;rw[aec hv hne]
  rcases g3 h0 with ⟨rfl,y,hy,rfl,rfl,hy4,We,_⟩|⟨rfl,_,_,hno⟩
  ·have hoy:sC d y=true:=(by unfold yP at hy4;rw[bg]at hy4;exact hy4.1);have⟨z1,z2⟩:=alg hv hoy;have hb:((0:Int)==0)=true:=rfl;rw[hb,Bool.true_and];cases hl:Io n t d day with
   |true=>
    rw[hl]at B7;have h1:=We _ hzm B7;rw[hze]at h1;have:(EL d y).cost=0:=(by unfold EL at h1 ⊢;simp only at h1 ⊢;omega);rw[this];rfl
   |false=>
    symm;rw[beq_eq_false_iff_ne];intro hc;rw[z2 hc,B7,hl]at hy4;cases hy4
  ·rw[<- B7,hno _ hzm];rfl
 ·obtain⟨_,_,rfl⟩:=g2 h0;have hb:(qU n t d==0)=false:=by simpa using h0
  unfold Io;rw[hb];rfl
end
theorem PX(t:eY)(d:aG)(day a3:Int)(h3:0<=a3/\a3<256)(hz:Se t):rD 5000003 t d day a3=some true:=by
 have⟨b,hb,hb2⟩:=ald (n:=5000003) (t:=t) (d:=d) hz WE;unfold rD;rw[amo,ai,hb,ai];cases b with
 |false=>rfl
 |true=>
  have⟨ht,hd⟩:=hb2 rfl;have⟨fl,c,e,hL,hL1,hL2⟩:=wu (day:=day) ht hd WE;have hlw:mM 5000003 t d day=some (Io 5000003 t d day):=ZM day ht hd.law WE;have hzero:=agq (day:=day) ht hd WE hL;rw[Bool.not_true,ax,hL,ai,hlw,ai];have hv1:((bif (e==(0:Int))then some (!(Io 5000003 t d day==(c==(0:Int))))else some (!(Io 5000003 t d day==false))):Option Bool)=some false:=by rw[hzero];cases (e==(0:Int))<;>simp
  have hel:=ht.L3.1;have hrl:=ht.rules;have hU:∃Lq c' e',bT 5000003 (PV t t.az (t.bj.take (t.bj.length-1))) d day=some (Lq,c',e')/\(e=0->e'=0/\c'<=c):=by have hs:∀x∈t.bj.take (t.bj.length-1),x∈t.bj:=λx hx=>List.mem_of_mem_take hx;have hl:(t.bj.take (t.bj.length-1)).length<=900:=(by rw[length_take];omega);obtain⟨Lo,c1,e1,g1,_⟩:=wu (day:=day) (PW ht (λ r h=>h) hs hrl hl) hd WE;refine⟨Lo,c1,e1,g1,λhe=>?_⟩;subst he;obtain⟨fl2,c2,k1,k2⟩:=WN (day:=day) ht hd WE (λ r h=>h) hs hrl hl hL;rw[g1]at k1;injection k1 with k1;injection k1 with q1 k1;injection k1 with q2 q3;exact⟨q3,by rw[q2];exact k2⟩
  have hW:∀k,∃Lq c' e',bT 5000003 (PV t (t.az.take k++t.az.drop (k+1)) t.bj) d day=some (Lq,c',e')/\(e=0->e'=0/\c'<=c):=λk=>by have hs:∀x∈t.az.take k++t.az.drop (k+1),x∈t.az:=λx hx=>(by rcases bK.1 hx with h|h;exact List.mem_of_mem_take h;exact List.mem_of_mem_drop h);have hl:(t.az.take k++t.az.drop (k+1)).length<=100:=(by rw[fG,length_take,List.length_drop];omega);obtain⟨Lo,c1,e1,g1,_⟩:=wu (day:=day) (PW ht hs (λ r h=>h) hl hel) hd WE;refine⟨Lo,c1,e1,g1,λhe=>?_⟩;subst he;obtain⟨fl2,c2,k1,k2⟩:=WN (day:=day) ht hd WE hs (λ r h=>h) hl hel hL;rw[g1]at k1;injection k1 with k1;injection k1 with q1 k1;injection k1 with q2 q3;exact⟨q3,by rw[q2];exact k2⟩
  obtain⟨fu,cu,eu,u1,u2⟩:=hU;have hmx:max (i64.wrap ((t.bj.length:Int)-1)) (0:Int)=((t.bj.length-1:Nat):Int):=by rw[aO (by omega) (by omega)];omega
  have hso:sI 0 ((t.bj.length-1:Nat):Int) t.bj.length=true:=by simp[sI]
  have hsu:sub t.bj 0 (((t.bj.length-1:Nat):Int)).toNat=t.bj.take (t.bj.length-1):=by simp[sub]
  have u1':bT 5000003 (eY.mk t.ch t.b9 t.b8 t.az t.ci t.cd t.cp t.cg t.land (t.bj.take (t.bj.length-1)) t.windows t.built t.base) d day=some (fu,cu,eu):=u1;have last:∀e1 c1 e2 c2:Int,(e=0->e1=0/\c1<=c)->(e=0->e2=0/\c2<=c)->((bif (e !=(0:Int))then some true else(bif (e1==(0:Int))then(bif (e2==(0:Int))then(bif (decide (c1<=c))then some (decide (c2<=c))else some false)else some false)else some false)):Option Bool)=some true:=λe1 c1 e2 c2 h1 h2=>by
   by_cases he:e=0
   ·obtain⟨rfl,a1⟩:=h1 he;obtain⟨rfl,a2⟩:=h2 he;simp[he,a1,a2]
   ·have:(e !=0)=true:=(by simpa using he);rw[this];rfl
  simp only[hv1,ai,ax,hmx,hso,aj,hsu,u1'];by_cases hr0:t.az.length=0
  ·have hc:decide ((t.az.length:Int)>(0:Int))=false:=(by simp[hr0]);rw[hc,ax];exact last eu cu e c u2 λh=>⟨h,Int.le_refl _⟩
  ·have hc:decide ((t.az.length:Int)>(0:Int))=true:=(by simp;omega);have hc2:((t.az.length:Int) !=0)=true:=(by simpa using hr0);obtain⟨k,hk,hkl⟩:∃k:Nat,Int.tmod (i64.wrap a3) (t.az.length:Int)=(k:Int)/\k<t.az.length:=(by rw[aO (by omega) (by omega)];have h1:=Int.tmod_nonneg (t.az.length:Int) h3.1;have h2:=Int.tmod_lt_of_pos a3 (show (0:Int)<(t.az.length:Int)by omega);exact⟨(Int.tmod a3 (t.az.length:Int)).toNat,by omega,by omega⟩);have⟨fw,cw,ew,w1,w2⟩:=hW k;have w1':bT 5000003 (eY.mk t.ch t.b9 t.b8 (t.az.take k++t.az.drop (k+1)) t.ci t.cd t.cp t.cg t.land t.bj t.windows t.built t.base) d day=some (fw,cw,ew):=w1;have hk1:sI 0 (k:Int) t.az.length=true:=(by simp[sI];omega);have hk2:sI ((k+1:Nat):Int) (t.az.length:Int) t.az.length=true:=(by simp[sI];omega);have hw:i64.wrap ((k:Int)+1)=((k+1:Nat):Int):=aQ (by omega);have hs1:sub t.az 0 ((k:Int)).toNat=t.az.take k:=(by simp[sub]);have hs2:sub t.az (((k+1:Nat):Int)).toNat (t.az.length-(((k+1:Nat):Int)).toNat)=t.az.drop (k+1):=(by simp[sub,List.take_of_length_le]);have hml:maxLen=9223372036854775807:=rfl;have ha1:bL ([]:List bP).length 0 (t.az.take k).length ((t.az.take k).length) 232=true:=(by simp[bL];omega);have ha2:bL (([]:List bP)++t.az.take k).length (([]:List bP)++t.az.take k).length (t.az.drop (k+1)).length ((t.az.drop (k+1)).length) 232=true:=(by simp[bL];omega);simp only[hc,aj,hc2,hk,hk1,hs1,hw,hk2,hs2,gJ,ha1,jh,aN,fP,w1',ai];simp only[fP]at ha2;simp only[ha2,aj];exact last eu cu ew cw u2 w2
mutual
theorem amr:∀g:bU,(toE g).wt<=lg (qY g)
 |⟨op,n,s,key,args⟩=>by have:=Nu args;simp[toE,ET.wt,qY,lg,oE];omega
theorem Nu:∀l:List bU,ET.tf (Hy l)<=Av (tu l)
 |[]=>by simp[Hy,ET.tf]
 |x::xs=>by have h1:=amr x;have h2:=Nu xs;simp[Hy,ET.tf,tu,Av];omega
end
theorem ZY:∀l:List gP,rk (l.map toD)<=Av (l.map Eb)
 |[]=>by simp[rk]
 |x::xs=>by have h1:=ZY xs;have h2:=Nu x.el;simp[rk]at h1;simp[rk,toD,ET.wt,Av,Eb,lg,oE,<- tC];omega
theorem ajd(t:eY):rk (t.ch.map toD)<=lg (Jh t):=by have:=ZY t.ch;simp[Jh,lg,oE];omega
theorem WO{r:List Tree}:∀{l:List (List Tree)},r∈l->lg r<=Av l
 |x::l,h=>by rw[Av];rcases aR.1 h with rfl|h;omega;have:=WO h;omega
theorem aje(r:bP):(toE (lj r)).wt<=lg (wX r):=by have h:=Nu r.fS;rw[tC]at h;simp[lj,toE,ET.wt,wX,lg,oE];omega
theorem Z0:∀l:List Int,l.length<=Av (l.map λy=>[Tree.sc (.int .i64 y)])
 |[]=>by simp
 |x::l=>by have:=Z0 l;simp[Av,lg,oE];omega
theorem anz{t:eY}(h:lg (Jh t)<=2000000):Se t:=by
 have hd:=Nat.le_trans (ajd t) h;simp[Jh,lg,oE]at h;refine⟨by unfold gp;omega,λr hr=>?_,λl hl=>?_⟩;have h1:=aje r;have h2:=WO (mem_map.2 ⟨r,hr,rfl⟩:wX r∈t.az.map wX);omega;have h1:=Z0 l.from_;have h2:=WO (mem_map.2 ⟨l,hl,rfl⟩:KN l∈t.land.map KN);have h3:Av (l.from_.map λy=>[Tree.sc (.int .i64 y)])<=lg (KN l):=by simp[KN,lg,oE];omega
 omega
theorem anA{cs:List (CT xx.ι)}(q:HL xx.toSE (.st SI.ir::cs))(hb:UB (HL.m5 xx.toSE (.st SI.ir::cs) q)<=1048576):Se q.1:=by have h2:lg (Jh q.1)+UB (HL.m5 xx.toSE cs q.2)<=1048576:=hb;exact anz (by omega)
theorem ams{k:IntKind}{s:VS}(h:xd (X:=xx) n (.int k)=some s){y:Int}(hx:AH s (CT.tv xx.toSE (.int k) y)):(Lit.int k y).wf=true:=by
 cases n with
 |zero=>simp[xd,s9]at h
 |succ n=>
  simp[xd,s9]at h;subst h;simp[AH]at hx;obtain⟨t,e,ht⟩:=hx;obtain⟨m,rfl,hm⟩:=ht;simp[CT.tv]at e;rw[e];exact hm
theorem u8_in{ss:List VS}(hs:Cj (xd (X:=xx) n) [.st SI.ir,.st SI.eC,.int .i64,.int .u8]=some ss){q:HL xx.toSE [.st SI.ir,.st SI.eC,.int .i64,.int .u8]}(hx:QJ ss (HL.m5 xx.toSE [.st SI.ir,.st SI.eC,.int .i64,.int .u8] q)):0<=q.2.2.2.1/\q.2.2.2.1<256:=by
 simp only[Cj,ah]at hs;obtain⟨a,h1,b,⟨c,h2,d,⟨e,h3,f,⟨g,h4,i,h5,h6⟩,h7⟩,h8⟩,h9⟩:=hs;injection h6 with h6;injection h7 with h7;injection h8 with h8;injection h9 with h9;subst h9 h8 h7 h6;have h:=ams h4 hx.2.2.2.1;have e0:IntKind.u8.min=0:=rfl;have e1:IntKind.u8.max=255:=rfl;have g:∀z:Int,(Lit.int .u8 z).wf=true->0<=z/\z<256:=λz h=>by simp[Lit.wf]at h;omega
 exact g _ h
theorem RX(q:HL xx.toSE [.st SI.ir,.st SI.eC,.int .i64,.int .u8])(h3:0<=q.2.2.2.1/\q.2.2.2.1<256)(hb:UB (HL.m5 xx.toSE [.st SI.ir,.st SI.eC,.int .i64,.int .u8] q)<=1048576):∃k,rD k q.1 q.2.1 q.2.2.1 q.2.2.2.1=some true:=
 ⟨5000003,PX q.1 q.2.1 q.2.2.1 q.2.2.2.1 h3 (anA q hb)⟩
end Go.Proofs
