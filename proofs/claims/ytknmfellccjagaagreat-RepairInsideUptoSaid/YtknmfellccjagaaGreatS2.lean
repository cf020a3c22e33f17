import Derived.Test.YtknmfellccjagaaGreatS1
open Go.IntKind (i64)
open List (length_take mem_map getElem_mem length_map mem_iff_getElem append_nil length_nil foldl_cons mem_filter pairwise_cons filter_append map_append pairwise_append)
namespace Go.Proofs
open Go.Gb Go.RowKit
variable {n:Nat}
theorem VY{α:Type}{l:U α}{K n:Nat}{step:Int->J (Int⊕(Unit⊕Bool))}{good:α->Prop}(h1:∀i (hi:i<l.length),i<K->step i=some (.inr (.inr false))\/(step i=some (.inl (i+1:Nat))/\good l[i]))
 (h2:∀i:Nat,(¬ i<l.length\/¬i<K)->step i=some (.inr (.inl ()))) (hn:K+1<n):iter step n 0=some (.inr false)\/(iter step n 0=some (.inl ())/\(l.length<=K->∀x∈l,good x)):=by obtain⟨o,g1,g2⟩:=fu (step:=step) (λ i v=>v=i/\i<=l.length/\i<=K/\∀x∈l.take i,good x) (λ o=>o=.inr false\/(o=.inl ()/\(l.length<=K->∀x∈l,good x))) K (λ k v h=>h.2.2.1) (by rintro i v ⟨rfl,hi,hK,hall⟩;by_cases hlt:i<l.length/\i<K;rcases h1 i hlt.1 hlt.2 with h|⟨h,hg⟩;exact .inr ⟨_,h,.inl rfl⟩;refine .inl ⟨_,h,rfl,hlt.1,hlt.2,λx hx=>?_⟩;rw[List.take_add_one,dP hlt.1,bF]at hx;rcases hx with hx|hx;exact hall x hx;simp at hx;subst hx;exact hg;refine .inr ⟨_,h2 i (by omega),.inr ⟨rfl,λhl x hx=>hall x ?_⟩⟩;rw[List.take_of_length_le (by omega)];exact hx) n 0 0 ⟨rfl,Nat.zero_le _,Nat.zero_le _,by simp⟩ (by omega);rcases g2 with rfl|⟨rfl,g2⟩;exact .inl g1;exact .inr ⟨g1,g2⟩
def WtR(l:U dw):Prop:=∀r∈l,(toE (mf r)).wt<=4000000
structure anH(t:gL):Prop where
 defs:io t.cw
 rules:WtR t.br
 B4:∀l∈t.land,l.from_.length*8<=140737488355328
theorem JH(i len K:Nat){k:Int}(hk:k=K):((bif (decide ((i:Int)<(len:Nat)))then some (decide (i<k))else some false):J Bool)=some (decide (i<len/\i<K)):=by subst hk;by_cases h1:i<len<;>by_cases h2:i<K<;>simp[h1]
structure ark(t:gL)(d:aG):Prop where
 town:yn t
 draw:YR d
 built:t.built.length<=8
 rules:t.br.length<=6
 zones:∀z∈t.cm,z.corners.length<=12
 caps:∀c∈t.cx,c.corners.length<=12/\t.cx.length<=3
theorem TE:AI 5000003:=⟨aB _,by omega⟩
theorem rO{α:Type}{d U V:List α}{x:α}{k:Nat}(h:d=U++x::V)(hk:k=U.length):d[k]? =some x:=by subst h;subst hk;simp
theorem yZ{α:Type}{d U V:List α}{x y:α}{k:Nat}(h:d=U++x::V)(hk:k=U.length):d.set k y=U++y::V:=by subst h;subst hk;simp
theorem TC(k:Nat):(((0:Nat):Int)+(k:Nat)).toNat=k:=by simp
theorem G1{a b:Nat}(h:a+b<4611686018427387904):i64.wrap ((a:Nat)+(b:Nat))=(a+b:Nat):=by rw[aQ (by omega) (by omega)];omega
def cX(r l:U aD):Prop:=∀c:Int,r.filter (λ x=>x.cost==c)=l.filter λx=>x.cost==c
theorem cX.refl l:cX l l:=λ_=>rfl
theorem cX.trans{a b c:U aD}(h:cX a b)(h':cX b c):cX a c:=λx=>(h x).trans (h' x)
theorem cX.app{a b c d:U aD}(h:cX a b)(h':cX c d):cX (a++c) (b++d):=λx=>by simp[h x,h' x]
theorem cX.mem{a b:U aD}(h:cX a b)(x:aD):x∈a↔x∈b:=by
 constructor<;>intro hx;have:x∈a.filter λy=>y.cost==x.cost:=by simp[hx]
 rw[h]at this;exact(mem_filter.1 this).1;have:x∈b.filter λy=>y.cost==x.cost:=by simp[hx]
 rw[<- h]at this;exact(mem_filter.1 this).1
theorem cX.swap{u v:U aD}(h:∀x∈u,∀y∈v,y.cost<x.cost):cX (v++u) (u++v):=by
 intro c;simp;by_cases hu:∃x∈u,x.cost=c;obtain⟨x,hx,rfl⟩:=hu;have:v.filter (λ y=>y.cost==x.cost)=[]:=by rw[List.filter_eq_nil_iff];intro y hy;have:=h x hx y hy;simp;omega
 rw[this];simp;have:u.filter (λ y=>y.cost==c)=[]:=by rw[List.filter_eq_nil_iff];intro y hy e;exact hu ⟨y,hy,by simpa using e⟩
 rw[this];simp
def lv(l:U aD):Prop:=l.Pairwise λa b=>a.cost<=b.cost
section
variable {φ:(aD×aD×Unit)->Option Int}
theorem LF:∀(A2 B2 P A1 M B1 Q:List aD) a0 (fuel:Nat),A1.length=B1.length->A2.length=B2.length->a0.length=P.length+(A1.length+A2.length)+M.length+(A1.length+A2.length)+Q.length->a0.length<1099511627776->A2.length<fuel->
 iter (fD a0 (P.length:Nat) (P.length+(A1.length+A2.length)+M.length:Nat) (A1.length+A2.length:Nat)) fuel ((A1.length:Nat),P++(B1++(A2++(M++(A1++(B2++Q))))))=some (P++((B1++B2)++(M++((A1++A2)++Q))))
 |[],B2,P,A1,M,B1,Q,a0,fuel,h1,h2,h3,h4,h5=>by obtain⟨f,rfl⟩:∃f,fuel=f+1:=⟨fuel-1,by omega⟩;have:B2=[]:=List.eq_nil_of_length_eq_zero h2.symm;subst this;refine dn ?_;simp[fD]
 |x::A2,B2,P,A1,M,B1,Q,a0,fuel,h1,h2,h3,h4,h5=>by
  obtain⟨f,rfl⟩:∃f,fuel=f+1:=⟨fuel-1,by omega⟩;obtain⟨y,B2,rfl⟩:∃y B,B2=y::B:=by
   cases B2 with
   |nil=>simp at h2
   |cons y B=>exact⟨y,B,rfl⟩
  simp at h2 h3 h5;have d1:decide ((A1.length:Int)<(A1.length+(x::A2).length:Nat))=true:=by simp<;>omega
  have w1:i64.wrap ((P.length+(A1.length+(x::A2).length)+M.length:Nat)+(A1.length:Nat))=(P.length+(A1.length+(x::A2).length)+M.length+A1.length:Nat):=G1 (by simp<;>omega);have w2:i64.wrap ((P.length:Nat)+(A1.length:Nat))=(P.length+A1.length:Nat):=G1 (by omega);have w3:i64.wrap ((A1.length:Nat)+1)=((A1++[x]).length:Nat):=by rw[aO (by omega)];simp
  have i1:cz (P.length+(A1.length+(x::A2).length)+M.length+A1.length:Nat) a0.length=true:=aU (by simp<;>omega);have i2:cz (P.length+A1.length:Nat) a0.length=true:=aU (by omega);have g1:(P++(B1++(x::A2++(M++(A1++(y::B2++Q))))))[P.length+(A1.length+(x::A2).length)+M.length+A1.length]? =some y:=rO (U:=P++(B1++(x::A2++(M++A1)))) (V:=B2++Q) (by simp) (by simp<;>omega);have g2:(P++(B1++(x::A2++(M++(A1++(y::B2++Q))))))[P.length+A1.length]? =some x:=rO (U:=P++B1) (V:=A2++(M++(A1++(y::B2++Q)))) (by simp) (by simp<;>omega);have s1:(P++(B1++(x::A2++(M++(A1++(y::B2++Q)))))).set (P.length+A1.length) y=(P++B1)++y::(A2++(M++(A1++(y::B2++Q)))):=yZ (U:=P++B1) (V:=A2++(M++(A1++(y::B2++Q)))) (x:=x) (by simp) (by simp<;>omega);have g3:((P++B1)++y::(A2++(M++(A1++(y::B2++Q)))))[P.length+(A1.length+(x::A2).length)+M.length+A1.length]? =some y:=rO (U:=P++(B1++(y::A2++(M++A1)))) (V:=B2++Q) (by simp) (by simp<;>omega);have s2:((P++B1)++y::(A2++(M++(A1++(y::B2++Q))))).set (P.length+(A1.length+(x::A2).length)+M.length+A1.length) x=(P++(B1++(y::A2++(M++A1))))++x::(B2++Q):=yZ (U:=P++(B1++(y::A2++(M++A1)))) (V:=B2++Q) (x:=y) (by simp) (by simp<;>omega)
  have step:fD a0 (P.length:Nat) (P.length+(A1.length+(x::A2).length)+M.length:Nat) (A1.length+(x::A2).length:Nat) ((A1.length:Nat),P++(B1++(x::A2++(M++(A1++(y::B2++Q))))))=
   some (.inl (((A1++[x]).length:Nat),P++((B1++[y])++(A2++(M++((A1++[x])++(B2++Q))))))):=by simp only[fD,d1,aj,w1,w2,w3,i1,i2,oC,g1,g2,ai,TC,s1,g3,s2];simp
  rw[dV step];have:=LF A2 B2 P (A1++[x]) M (B1++[y]) Q a0 f (by simp[h1]) h2 (by simp<;>omega) h4 (by omega);have e1:(A1++[x]).length+A2.length=A1.length+(x::A2).length:=by simp<;>omega
  rw[e1]at this;rw[this];simp
theorem FV(P A M B Q:U aD)(h:A.length=B.length)(hl:(P++(A++(M++(B++Q)))).length<1099511627776)(hn:A.length<n){a b k:Int}(ha:a=(P.length:Nat))(hb:b=(P.length+A.length+M.length:Nat))(hk:k=(A.length:Nat)):
 dX n (P++(A++(M++(B++Q)))) a b k φ=some (P++(B++(M++(A++Q)))):=by subst ha hb hk;have:=LF A B P [] M [] Q (P++(A++(M++(B++Q)))) n rfl h (by simp<;>omega) hl hn;simp only[length_nil,Nat.zero_add,fw]at this;unfold dX;have e:((0:Nat):Int)=0:=rfl;rw[e]at this;rw[this];rfl
theorem Ms:∀(w:Nat) (P A B Q:U aD) a0 (fuel:Nat),A.length+B.length<=w->0<A.length->0<B.length->a0.length=(P++(A++(B++Q))).length->a0.length<1099511627776->a0.length<n->w<fuel->
 (iter (dY n a0 (P.length+A.length:Nat) φ) fuel ((A.length:Nat),(B.length:Nat),P++(A++(B++Q)))).bind (λ (w1,w2)=>ck (aE a0.length w2.length) ((dX n w2 (i64.wrap ((P.length+A.length:Nat)-w1)) (P.length+A.length:Nat) w1 φ).bind λr3=>some r3))=some (P++(B++(A++Q)))
 | 0,P,A,B,Q,a0,fuel,h1,h2,h3,h4,h5,h6,h7=>by omega
 |w+1,P,A,B,Q,a0,fuel,h1,h2,h3,h4,h5,h6,h7=>by
  obtain⟨f,rfl⟩:∃f,fuel=f+1:=⟨fuel-1,by omega⟩;simp at h4;rcases Nat.lt_trichotomy A.length B.length with hlt|heq|hgt;obtain⟨B1,B2,rfl,hB2⟩:∃B1 B2,B=B1++B2/\B2.length=A.length:=⟨B.take (B.length-A.length),B.drop (B.length-A.length),by simp,by simp<;>omega⟩;simp at h1 h3 h4 hlt;have sw:=FV (φ:=φ) (n:=n) P A B1 B2 Q hB2.symm (by simp<;>omega) (by omega) (a:=((P.length+A.length:Nat)-(A.length:Nat))) (b:=(P.length+A.length+B1.length:Nat)) (k:=(A.length:Nat)) (by omega) rfl rfl;have step:dY n a0 (P.length+A.length:Nat) φ ((A.length:Nat),((B1++B2).length:Nat),P++(A++(B1++B2++Q)))=some (.inl ((A.length:Nat),(B1.length:Nat),P++(B2++(B1++(A++Q))))):=by have d1:((A.length:Int) !=((B1++B2).length:Nat))=true:=(by simp<;>omega);have d2:decide ((A.length:Int)>((B1++B2).length:Nat))=false:=(by simp<;>omega);have e1:aE a0.length (P++(A++(B1++B2++Q))).length=true:=pR (by simp<;>omega);have w1:i64.wrap ((P.length+A.length:Nat)-(A.length:Nat))=(P.length+A.length:Nat)-(A.length:Nat):=aQ (by omega) (by omega);have w2:i64.wrap (i64.wrap ((P.length+A.length:Nat)+((B1++B2).length:Nat))-(A.length:Nat))=(P.length+A.length+B1.length:Nat):=(by rw[aQ (x:=(P.length+A.length:Nat)+((B1++B2).length:Nat)) (by simp<;>omega) (by simp<;>omega),aQ (by simp<;>omega) (by simp<;>omega)];simp<;>omega);have w3:i64.wrap (((B1++B2).length:Nat)-(A.length:Nat))=(B1.length:Nat):=(by rw[aQ (by simp<;>omega) (by simp<;>omega)];simp<;>omega);have e2:P++(A++(B1++B2++Q))=P++(A++(B1++(B2++Q))):=(by simp);simp only[dY,d1,d2,e1,aj,au,w1,w2,w3];rw[e2,sw];rfl
  rw[dV step];have ih:=Ms w P B2 B1 (A++Q) a0 f (by omega) (by omega) (by omega) (by simp<;>omega) h5 h6 (by omega);rw[hB2]at ih;rw[ih];simp;refine(congrArg (λ o=>Option.bind o _) (dn (o:=((A.length:Int),P++(A++(B++Q)))) ?_)).trans ?_;simp[dY,heq];have sw:=FV (φ:=φ) (n:=n) P A [] B Q heq (by simp<;>omega) (by omega) (a:=((P.length+A.length:Nat)-(A.length:Nat))) (b:=(P.length+A.length:Nat)) (k:=(A.length:Nat)) (by omega) (by simp) rfl;have w1:i64.wrap ((P.length+A.length:Nat)-(A.length:Nat))=(P.length+A.length:Nat)-(A.length:Nat):=aQ (by omega) (by omega);have e1:aE a0.length (P++(A++(B++Q))).length=true:=pR (by simp<;>omega);simp only[ai,e1,aj,w1];simp only[fw]at sw;rw[sw];rfl;obtain⟨A1,A2,rfl,hA1⟩:∃A1 A2,A=A1++A2/\A1.length=B.length:=⟨A.take B.length,A.drop B.length,by simp,by simp<;>omega⟩;simp at h1 h2 h4 hgt;have sw:=FV (φ:=φ) (n:=n) P A1 A2 B Q hA1 (by simp<;>omega) (by omega) (a:=((P.length+(A1++A2).length:Nat)-((A1++A2).length:Nat))) (b:=(P.length+(A1++A2).length:Nat)) (k:=(B.length:Nat)) (by simp<;>omega) (by simp<;>omega) (by rw[hA1]);have step:dY n a0 (P.length+(A1++A2).length:Nat) φ (((A1++A2).length:Nat),(B.length:Nat),P++(A1++A2++(B++Q)))=some (.inl ((A2.length:Nat),(B.length:Nat),P++(B++(A2++(A1++Q))))):=by have d1:((((A1++A2).length:Nat):Int) !=(B.length:Nat))=true:=(by simp<;>omega);have d2:decide ((((A1++A2).length:Nat):Int)>(B.length:Nat))=true:=(by simp<;>omega);have e1:aE a0.length (P++(A1++A2++(B++Q))).length=true:=pR (by simp<;>omega);have w1:i64.wrap ((P.length+(A1++A2).length:Nat)-((A1++A2).length:Nat))=(P.length+(A1++A2).length:Nat)-((A1++A2).length:Nat):=aQ (by simp<;>omega) (by simp<;>omega);have w3:i64.wrap (((A1++A2).length:Nat)-(B.length:Nat))=(A2.length:Nat):=(by rw[aQ (by simp<;>omega) (by simp<;>omega)];simp<;>omega);have e2:P++(A1++A2++(B++Q))=P++(A1++(A2++(B++Q))):=(by simp);simp only[dY,d1,d2,e1,aj,w1,w3];rw[e2,sw];rfl
  rw[dV step];have ih:=Ms w (P++B) A2 A1 Q a0 f (by omega) (by omega) (by omega) (by simp<;>omega) h5 h6 (by omega);have e3:(P++B).length+A2.length=P.length+(A1++A2).length:=by simp<;>omega
  rw[e3,hA1]at ih;simp at ih ⊢;rw[ih]
theorem alC(P A B Q:U aD)(hA:0<A.length)(hB:0<B.length)(hl:(P++(A++(B++Q))).length<1099511627776)(hn:(P++(A++(B++Q))).length<n){a m b:Int}(ha:a=(P.length:Nat))(hm:m=(P.length+A.length:Nat))(hb:b=(P.length+A.length+B.length:Nat)):
 iK n (P++(A++(B++Q))) a m b φ=some (P++(B++(A++Q))):=by
 subst ha hm hb;have:=Ms (φ:=φ) (n:=n) (A.length+B.length) P A B Q (P++(A++(B++Q))) n (aB _) hA hB rfl hl hn (by simp at hn;omega);unfold iK;simp at hl;have w1:i64.wrap ((P.length+A.length:Nat)-(P.length:Nat))=(A.length:Nat):=by rw[aQ (by omega) (by omega)];omega
 have w2:i64.wrap ((P.length+A.length+B.length:Nat)-(P.length+A.length:Nat))=(B.length:Nat):=by rw[aQ (by omega) (by omega)];omega
 rw[w1,w2];exact this
theorem PF{a b:Nat}(h:a+b<4611686018427387904):i64.wrap ((IntKind.u64.wrap (i64.wrap ((a:Nat)+(b:Nat))))/2 ^ (1:Int).toNat)=((a+b)/2:Nat):=by rw[G1 h,abB (by omega)];show i64.wrap ((a+b:Nat)/2 ^ 1)=_;rw[aQ (by omega) (by omega)];omega
theorem P2{step:(Int×Int)->J ((Int×Int)⊕Int)}{p:Nat->Bool}{lo hi:Nat}(hstep:∀i j:Nat,lo<=i->i<j->j<=hi->step (i,j)=some (bif p ((i+j)/2)then .inl (((i+j)/2+1:Nat),j)else .inl (i,((i+j)/2:Nat))))
 (hend:∀i:Nat,step (i,i)=some (.inr i)) (mono:∀x y:Nat,lo<=x->x<=y->y<hi->p y=true->p x=true):∀(fuel i j:Nat),lo<=i->i<=j->j<=hi->j-i<fuel->(∀ x,lo<=x->x<i->p x=true)->(∀ x,j<=x->x<hi->p x=false)->
  ∃r:Nat,iter step fuel (i,j)=some (r:Int)/\lo<=r/\r<=hi/\(∀ x,lo<=x->x<r->p x=true)/\∀x,r<=x->x<hi->p x=false
 | 0,_,_,_,_,_,h,_,_=>by omega
 |f+1,i,j,h1,h2,h3,h4,h5,h6=>by
  by_cases hij:i=j;subst hij;exact⟨i,dn (hend i),h1,h3,h5,h6⟩;have hs:=hstep i j h1 (by omega) h3;cases hp:p ((i+j)/2)with
  |true=>
   rw[hp]at hs;rw[dV hs];exact P2 hstep hend mono f ((i+j)/2+1) j (by omega) (by omega) h3 (by omega) (λ x hx hx2=>mono x ((i+j)/2) hx (by omega) (by omega) hp) h6
  |false=>
   rw[hp]at hs;rw[dV hs];refine P2 hstep hend mono f i ((i+j)/2) h1 (by omega) (by omega) (by omega) h5 λx hx hx2=>?_;cases hq:p x with
   |false=>rfl
   |true=>rw[mono ((i+j)/2) x (by omega) hx hx2 hq]at hp;cases hp
theorem lv.le{l:U aD}(h:lv l){i j:Nat}(hij:i<=j)(hj:j<l.length):l[i].cost<=l[j].cost:=by
 rcases Nat.lt_or_ge i j with hlt|hge;exact List.pairwise_iff_getElem.1 h i j (by omega) hj hlt;have:i=j:=by omega
 subst this;exact Int.le_refl _
theorem akd:∀(R P Q:List aD) (x:aD) a0 (fuel:Nat),a0.length=P.length+1+R.length+Q.length->a0.length<1099511627776->R.length<fuel->
 iter (fP a0 (P.length+R.length+1:Nat)) fuel ((P.length:Nat),P++x::(R++Q))=some (P++(R++x::Q))
 |[],P,Q,x,a0,fuel,h1,h2,h3=>by
  obtain⟨f,rfl⟩:∃f,fuel=f+1:=⟨fuel-1,by omega⟩;refine dn ?_;have w:i64.wrap ((P.length+([]:List aD).length+1:Nat)-1)=(P.length:Nat):=by rw[aQ (by simp<;>omega) (by simp<;>omega)];simp
  simp only[fP,w];simp
 |y::R,P,Q,x,a0,fuel,h1,h2,h3=>by
  obtain⟨f,rfl⟩:∃f,fuel=f+1:=⟨fuel-1,by omega⟩;simp at h1 h3;have w:i64.wrap ((P.length+(y::R).length+1:Nat)-1)=(P.length+(y::R).length:Nat):=by rw[aQ (by simp<;>omega) (by simp<;>omega)];simp<;>omega
  have d1:decide ((P.length:Int)<(P.length+(y::R).length:Nat))=true:=by simp<;>omega
  have w1:i64.wrap ((P.length:Nat)+1)=(P.length+1:Nat):=aO (by omega);have i1:cz (P.length+1:Nat) a0.length=true:=aU (by omega);have i2:cz (P.length:Nat) a0.length=true:=aU (by omega);have g1:(P++x::(y::R++Q))[P.length+1]? =some y:=rO (U:=P++[x]) (V:=R++Q) (by simp) (by simp);have g2:(P++x::(y::R++Q))[P.length]? =some x:=rO (U:=P) rfl rfl;have s1:(P++x::(y::R++Q)).set P.length y=P++y::(y::R++Q):=yZ rfl rfl;have g3:(P++y::(y::R++Q))[P.length+1]? =some y:=rO (U:=P++[y]) (V:=R++Q) (by simp) (by simp);have s2:(P++y::(y::R++Q)).set (P.length+1) x=(P++[y])++x::(R++Q):=yZ (U:=P++[y]) (V:=R++Q) (x:=y) (by simp) (by simp);have step:fP a0 (P.length+(y::R).length+1:Nat) ((P.length:Nat),P++x::(y::R++Q))=some (.inl (((P++[y]).length:Nat),(P++[y])++x::(R++Q))):=by simp only[fP,w,d1,aj,w1,i1,i2,oC,g1,g2,ai,TC,s1,g3,s2];simp
  rw[dV step];have:=akd R (P++[y]) Q x a0 f (by simp<;>omega) h2 (by omega);have e:(P++[y]).length+R.length+1=P.length+(y::R).length+1:=by simp<;>omega
  rw[e]at this;rw[this];simp
theorem ake:∀(L:List aD) (P Q:List aD) (x:aD) a0 (fuel:Nat),a0.length=P.length+1+L.length+Q.length->a0.length<1099511627776->L.length<fuel->
 iter (fQ a0 (P.length:Nat)) fuel ((P.length+L.length:Nat),P++(L.reverse++x::Q))=some (P++x::(L.reverse++Q))
 |[],P,Q,x,a0,fuel,h1,h2,h3=>by obtain⟨f,rfl⟩:∃f,fuel=f+1:=⟨fuel-1,by omega⟩;refine dn ?_;simp[fQ]
 |y::L,P,Q,x,a0,fuel,h1,h2,h3=>by
  obtain⟨f,rfl⟩:∃f,fuel=f+1:=⟨fuel-1,by omega⟩;simp at h1 h3;have d1:decide (((P.length+(y::L).length:Nat):Int)>(P.length:Nat))=true:=by simp<;>omega
  have w1:i64.wrap ((P.length+(y::L).length:Nat)-1)=(P.length+L.length:Nat):=by rw[aQ (by simp<;>omega) (by simp<;>omega)];simp<;>omega
  have i1:cz (P.length+L.length:Nat) a0.length=true:=aU (by omega);have i2:cz (P.length+(y::L).length:Nat) a0.length=true:=aU (by simp<;>omega);have g1:(P++((y::L).reverse++x::Q))[P.length+L.length]? =some y:=rO (U:=P++L.reverse) (V:=x::Q) (by simp) (by simp);have g2:(P++((y::L).reverse++x::Q))[P.length+(y::L).length]? =some x:=rO (U:=P++(y::L).reverse) (V:=Q) (by simp) (by simp);have s1:(P++((y::L).reverse++x::Q)).set (P.length+(y::L).length) y=(P++(y::L).reverse)++y::Q:=yZ (U:=P++(y::L).reverse) (V:=Q) (x:=x) (by simp) (by simp);have g3:((P++(y::L).reverse)++y::Q)[P.length+L.length]? =some y:=rO (U:=P++L.reverse) (V:=y::Q) (by simp) (by simp);have s2:((P++(y::L).reverse)++y::Q).set (P.length+L.length) x=(P++L.reverse)++x::(y::Q):=yZ (U:=P++L.reverse) (V:=y::Q) (x:=y) (by simp) (by simp);have step:fQ a0 (P.length:Nat) ((P.length+(y::L).length:Nat),P++((y::L).reverse++x::Q))=some (.inl ((P.length+L.length:Nat),P++(L.reverse++x::(y::Q)))):=by simp only[fQ,d1,aj,w1,i1,i2,oC,g1,g2,ai,TC,s1,g3,s2];simp
  rw[dV step];have:=ake L P (y::Q) x a0 f (by simp<;>omega) h2 (by omega);rw[this];simp
def Gl(d:U aD)(k:Nat):Int:=(d[k]?.elim 0 λx=>x.cost)
theorem KA{d U V W:List aD}{t:Nat}(h:d=U++(V++W))(ht:t<V.length):d[U.length+t]? =some V[t]/\Gl d (U.length+t)=V[t].cost:=by
 have:d[U.length+t]? =some V[t]:=by subst h;rw[pX (by omega),List.getElem?_append_left (by omega)];simp
 exact⟨this,by simp[Gl,this]⟩
theorem FW{d:U aD}{k:Nat}(h:k<d.length):∃x,d[k]? =some x/\Gl d k=x.cost:=⟨d[k],by simp,by simp[Gl,h]⟩
theorem adM{a b:U aD}(ha:lv a)(hb:lv b)(h:∀x∈a,∀y∈b,x.cost<=y.cost):lv (a++b):=pairwise_append.2 ⟨ha,hb,h⟩
theorem DX{a b:U aD}(h:lv (a++b)):lv a:=(pairwise_append.1 h).1
theorem zl{a b:U aD}(h:lv (a++b)):lv b:=(pairwise_append.1 h).2.1
theorem O9{a b:U aD}(h:lv (a++b)):∀x∈a,∀y∈b,x.cost<=y.cost:=(pairwise_append.1 h).2.2
theorem Tu:(decide (0<=1)&&decide (1<=IntKind.u64.bits))=true:=by decide
def ut(x y:aD):Bool:=decide (x.cost<y.cost)
theorem Ue(x:aD):∀ys:U aD,cX (gF ut x ys).reverse (ys.reverse++[x])
 |[]=>cX.refl _
 |y::ys=>by
  simp[gF];cases h:ut x y with
  |true=>
   simp;have:=(Ue x ys).app (cX.refl [y]);refine this.trans ?_;simp;exact(cX.refl _).app (cX.swap (u:=[y]) (v:=[x]) λa ha b hb=>by rw[bg.1 ha,bg.1 hb];exact of_decide_eq_true h)
  |false=>simp;exact cX.refl _
theorem YT(x:aD):∀ys:U aD,ys.Pairwise (λ a b=>b.cost<=a.cost)->(gF ut x ys).Pairwise λa b=>b.cost<=a.cost
 |[],_=>by simp[gF]
 |y::ys,h=>by
  rw[pairwise_cons]at h;simp[gF];cases hx:ut x y with
  |true=>
   have hxy:x.cost<y.cost:=of_decide_eq_true hx;simp;refine⟨λ z hz=>?_,YT x ys h.2⟩;rcases (E5 x z ys).1 hz with rfl|hz;exact Int.le_of_lt hxy;exact h.1 z hz
  |false=>
   have hxy:¬x.cost<y.cost:=of_decide_eq_false hx;simp only[au,pairwise_cons,aL];refine⟨λ z hz=>?_,h⟩;rcases hz with rfl|hz;omega;have:=h.1 z hz;omega
inductive Ch(bs:Nat):List aD->Prop
 |last {l:List aD}:lv l->l.length<=bs->Ch bs l
 |cons {b l:List aD}:lv b->b.length=bs->Ch bs l->Ch bs (b++l)
theorem Ch.zj{bs:Nat}{l:U aD}(h:Ch bs l)(hl:l.length<=bs)(_:0<bs):lv l:=by
 cases h with
 |last h1 h2=>exact h1
 | @cons b l h1 h2 h3=>
  simp at hl;have:l=[]:=List.eq_nil_of_length_eq_zero (by omega);rw[this];simpa using h1
variable (hφ:∀x y:aD,∃c,φ (x,y,())=some c/\(c<0↔x.cost<y.cost))
include hφ
theorem ard{rc}(P R Q:List aD)(x:aD)(hR:lv R)(hl:(P++(x::(R++Q))).length<1099511627776)(hn:(P++(x::(R++Q))).length<n):
 ∃M,dG n rc (P++(x::(R++Q))) (P.length:Nat) (P.length+1:Nat) (P.length+1+R.length:Nat) φ=some (P++(M++Q))/\M.length=1+R.length/\lv M/\cX M ([x]++R):=by
 obtain⟨d,hd⟩:∃d,P++(x::(R++Q))=d:=⟨_,rfl⟩;have hdl:d.length=P.length+1+R.length+Q.length:=by rw[<- hd];simp<;>omega
 rw[hd]at hl hn ⊢;have hx:d[P.length]? =some x:=rO hd.symm rfl;have hkey:∀k,(hk0:P.length+1<=k)->(hk:k<P.length+1+R.length)->Gl d k=(R[k-(P.length+1)]'(by omega)).cost:=λk h1 h2=>by have:=(KA (d:=d) (U:=P++[x]) (V:=R) (W:=Q) (t:=k-(P.length+1)) (by rw[<- hd];simp) (by omega)).2;rw[<- this];congr 1;simp<;>omega
 obtain⟨r,hr,r1,r2,r3,r4⟩:=P2 (step:=iA d (P.length:Nat) φ) (p:=λk=>decide (Gl d k<x.cost)) (lo:=P.length+1) (hi:=P.length+1+R.length) (λ i j h1 h2 h3=>by
  obtain⟨z,hz,LI⟩:=FW (d:=d) (k:=(i+j)/2) (by omega);have d1:decide ((i:Int)<j)=true:=by simp<;>omega
  have i1:cz ((i+j)/2:Nat) d.length=true:=aU (by omega);have i2:cz (P.length:Nat) d.length=true:=aU (by omega);have⟨c,c1,c2⟩:=hφ z x;simp only[iA,d1,aj,Tu,PF (show i+j<4611686018427387904 by omega),i1,i2,oC,hz,hx,ai,c1];rw[LI,aO (by omega)];by_cases hc:c<0;simp[hc,c2.1 hc];have hc':¬z.cost<x.cost:=λh=>hc (c2.2 h);simp[hc,hc']) (λ i=>by simp[iA]) (λ a b h1 h2 h3 h4=>by simp at h4 ⊢;rw[hkey a h1 (by omega)];rw[hkey b (by omega) h3]at h4;have:=hR.le (i:=a-(P.length+1)) (j:=b-(P.length+1)) (by omega) (by omega);omega) n (P.length+1) (P.length+1+R.length) (aB _) (by omega) (aB _) (by omega) (λ _ h1 h2=>by omega) (λ _ h1 h2=>by omega)
 obtain⟨R1,R2,nF,hR1⟩:∃R1 R2,R=R1++R2/\R1.length=r-(P.length+1):=⟨R.take (r-(P.length+1)),R.drop (r-(P.length+1)),by simp,by simp<;>omega⟩;have hf:=akd R1 P (R2++Q) x d n (by rw[hdl,nF];simp<;>omega) hl (by omega);have e1:P.length+R1.length+1=r:=by omega
 have e2:P++x::(R1++(R2++Q))=d:=by rw[<- hd,nF];simp
 rw[e1,e2]at hf;have hlt:∀y∈R1,y.cost<x.cost:=λy hy=>by
  obtain⟨k,hk,rfl⟩:=mem_iff_getElem.1 hy;have:=r3 (P.length+1+k) (by omega) (by omega);simp at this;rw[hkey _ (by omega) (by omega)]at this;simp[nF]at this
  rwa [List.getElem_append_left hk]at this
 have hge:∀y∈R2,x.cost<=y.cost:=λy hy=>by
  obtain⟨k,hk,rfl⟩:=mem_iff_getElem.1 hy;have hlen:R.length=R1.length+R2.length:=by rw[nF];simp
  have:=r4 (r+k) (by omega) (by omega);simp at this;rw[hkey _ (by omega) (by omega)]at this;have e:r+k-(P.length+1)=R1.length+k:=by omega
  simp only[e,nF]at this;rw[List.getElem_append_right (by omega)]at this;simp at this;omega
 refine⟨R1++x::R2,?_,by rw[nF];simp<;>omega,?_,?_⟩;have c1:(i64.wrap ((P.length+1:Nat)-(P.length:Nat))==1)=true:=by rw[aQ (by omega) (by omega)];simp<;>omega
 unfold dG;rw[c1,aj,hr];simp only[ai];rw[hf];simp;rw[nF]at hR;refine adM (DX hR) (pairwise_cons.2 ⟨hge,zl hR⟩) λy hy z hz=>?_;rcases aL.1 hz with rfl|hz;exact Int.le_of_lt (hlt y hy);exact O9 hR y hy z hz;have:=(cX.swap (u:=[x]) (v:=R1) λa ha b hb=>by rw[bg.1 ha];exact hlt b hb).app (cX.refl R2);rw[nF];simpa using this
theorem arf{rc}(P L Q:List aD)(y:aD)(hL:lv L)(hL1:1<L.length)(hl:(P++(L++y::Q)).length<1099511627776)(hn:(P++(L++y::Q)).length<n):
 ∃M,dG n rc (P++(L++y::Q)) (P.length:Nat) (P.length+L.length:Nat) (P.length+L.length+1:Nat) φ=some (P++(M++Q))/\M.length=L.length+1/\lv M/\cX M (L++[y]):=by
 obtain⟨d,hd⟩:∃d,P++(L++y::Q)=d:=⟨_,rfl⟩;have hdl:d.length=P.length+L.length+1+Q.length:=by rw[<- hd];simp<;>omega
 rw[hd]at hl hn ⊢;have hy:d[P.length+L.length]? =some y:=rO (U:=P++L) (V:=Q) (by rw[<- hd];simp) (by simp);have hkey:∀k,(hk0:P.length<=k)->(hk:k<P.length+L.length)->Gl d k=(L[k-P.length]'(by omega)).cost:=λk h1 h2=>by have:=(KA (d:=d) (U:=P) (V:=L) (W:=y::Q) (t:=k-P.length) hd.symm (by omega)).2;rw[<- this];congr 1;omega
 obtain⟨r,hr,r1,r2,r3,r4⟩:=P2 (step:=iB d (P.length+L.length:Nat) φ) (p:=λk=>decide (Gl d k<=y.cost)) (lo:=P.length) (hi:=P.length+L.length) (λ i j h1 h2 h3=>by
  obtain⟨z,hz,LI⟩:=FW (d:=d) (k:=(i+j)/2) (by omega);have d1:decide ((i:Int)<j)=true:=by simp<;>omega
  have i1:cz ((i+j)/2:Nat) d.length=true:=aU (by omega);have i2:cz (P.length+L.length:Nat) d.length=true:=aU (by omega);have⟨c,c1,c2⟩:=hφ y z;simp only[iB,d1,aj,Tu,PF (show i+j<4611686018427387904 by omega),i1,i2,oC,hz,hy,ai,c1];rw[LI,aO (by omega)];by_cases hc:c<0;have:=c2.1 hc;simp[hc,show ¬z.cost<=y.cost by omega];have:¬y.cost<z.cost:=λh=>hc (c2.2 h);simp[hc,show z.cost<=y.cost by omega]) (λ i=>by simp[iB]) (λ a b h1 h2 h3 h4=>by simp at h4 ⊢;rw[hkey a h1 (by omega)];rw[hkey b (by omega) h3]at h4;have:=hL.le (i:=a-P.length) (j:=b-P.length) (by omega) (by omega);omega) n P.length (P.length+L.length) (aB _) (by omega) (aB _) (by omega) (λ _ h1 h2=>by omega) (λ _ h1 h2=>by omega)
 obtain⟨L1,L2,pN,hLl⟩:∃L1 L2,L=L1++L2/\L1.length=r-P.length:=⟨L.take (r-P.length),L.drop (r-P.length),by simp,by simp<;>omega⟩;have hlen:L.length=L1.length+L2.length:=by rw[pN];simp
 have hf:=ake L2.reverse (P++L1) Q y d n (by rw[hdl];simp<;>omega) hl (by simp<;>omega);have e1:(P++L1).length=r:=by simp<;>omega
 have e2:(P++L1)++(L2.reverse.reverse++y::Q)=d:=by rw[<- hd,pN];simp
 rw[e1,e2]at hf;have e3:r+L2.reverse.length=P.length+L.length:=by simp<;>omega
 rw[e3]at hf;have hle:∀z∈L1,z.cost<=y.cost:=λz hz=>by
  obtain⟨k,hk,rfl⟩:=mem_iff_getElem.1 hz;have:=r3 (P.length+k) (by omega) (by omega);simp at this;rw[hkey _ (by omega) (by omega)]at this;simp[pN]at this
  rwa [List.getElem_append_left hk]at this
 have hgt:∀z∈L2,y.cost<z.cost:=λz hz=>by
  obtain⟨k,hk,rfl⟩:=mem_iff_getElem.1 hz;have:=r4 (r+k) (by omega) (by omega);simp at this;rw[hkey _ (by omega) (by omega)]at this;have e:r+k-P.length=L1.length+k:=by omega
  simp only[e,pN]at this;rw[List.getElem_append_right (by omega)]at this;simp at this;omega
 refine⟨L1++y::L2,?_,by rw[hlen];simp<;>omega,?_,?_⟩;have c1:(i64.wrap ((P.length+L.length:Nat)-(P.length:Nat))==1)=false:=by rw[aQ (by omega) (by omega)];simp<;>omega
 have c2:(i64.wrap ((P.length+L.length+1:Nat)-(P.length+L.length:Nat))==1)=true:=by rw[aQ (by omega) (by omega)];simp<;>omega
 unfold dG;rw[c1,au,c2,aj,hr];simp only[ai];rw[hf];simp;rw[pN]at hL;refine adM (DX hL) (pairwise_cons.2 ⟨λ z hz=>Int.le_of_lt (hgt z hz),zl hL⟩) λa ha b hb=>?_;rcases aL.1 hb with rfl|hb;exact hle a ha;exact O9 hL a ha b hb;have:=(cX.refl L1).app (cX.swap (u:=L2) (v:=[y]) λa ha b hb=>by rw[bg.1 hb];exact hgt a ha);rw[pN];simpa using this
theorem arh(P L R Q:List aD)(hL:lv L)(hR:lv R)(hL1:0<L.length)(hR1:0<R.length)(hl:(P++(L++(R++Q))).length<1099511627776)(hn:(P++(L++(R++Q))).length<n)(mid:Nat)(hmid:mid=(P.length+(P.length+L.length+R.length))/2)(s0 t0:Nat)
 (hst:(mid<P.length+L.length/\s0=mid+(P.length+L.length)-(P.length+L.length+R.length)/\t0=mid)\/(P.length+L.length<=mid/\s0=P.length/\t0=P.length+L.length)):
 ∃L1 L2 R1 R2,L=L1++L2/\R=R1++R2/\P.length+L1.length+R1.length=mid/\(∀ x∈L1,∀y∈R2,x.cost<=y.cost)/\(∀ y∈R1,∀x∈L2,y.cost<x.cost)/\
  iter (fT (P++(L++(R++Q))) (P.length:Nat) (P.length+L.length:Nat) (P.length+L.length+R.length:Nat) φ) n (s0,t0)=some ((P.length+L1.length:Nat):Int):=by
 obtain⟨d,hd⟩:∃d,P++(L++(R++Q))=d:=⟨_,rfl⟩;have hdl:d.length=P.length+L.length+R.length+Q.length:=by rw[<- hd];simp<;>omega
 rw[hd]at hl hn ⊢;have SM:∀k,(hk0:P.length<=k)->(hk:k<P.length+L.length)->Gl d k=(L[k-P.length]'(by omega)).cost:=λk h1 h2=>by have:=(KA (d:=d) (U:=P) (V:=L) (W:=R++Q) (t:=k-P.length) hd.symm (by omega)).2;rw[<- this];congr 1;omega
 have SJ:∀k,(hk0:P.length+L.length<=k)->(hk:k<P.length+L.length+R.length)->Gl d k=(R[k-(P.length+L.length)]'(by omega)).cost:=λk h1 h2=>by have:=(KA (d:=d) (U:=P++L) (V:=R) (W:=Q) (t:=k-(P.length+L.length)) (by rw[<- hd];simp) (by omega)).2;rw[<- this];congr 1;simp<;>omega
 have hb:s0<=t0/\P.length<=s0/\t0<=P.length+L.length/\(∀ k,s0<=k->k<t0->P.length+L.length<=mid+(P.length+L.length)-1-k/\mid+(P.length+L.length)-1-k<P.length+L.length+R.length):=by rcases hst with ⟨h1,h2,h3⟩|⟨h1,h2,h3⟩;refine⟨by omega,by omega,by omega,λk h4 h5=>by omega⟩;refine⟨by omega,by omega,by omega,λk h4 h5=>by omega⟩
 obtain⟨b1,b2,b3,b4⟩:=hb;obtain⟨r,hr,r1,r2,r3,r4⟩:=P2 (step:=fT d (P.length:Nat) (P.length+L.length:Nat) (P.length+L.length+R.length:Nat) φ) (p:=λk=>decide (Gl d k<=Gl d (mid+(P.length+L.length)-1-k))) (lo:=s0) (hi:=t0) (λ i j h1 h2 h3=>by
  have hk:=b4 ((i+j)/2) (by omega) (by omega);obtain⟨z,hz,LI⟩:=FW (d:=d) (k:=(i+j)/2) (by omega);obtain⟨y,hy,hyk⟩:=FW (d:=d) (k:=mid+(P.length+L.length)-1-(i+j)/2) (by omega);have d1:decide ((i:Int)<j)=true:=by simp<;>omega
  have wm:i64.wrap ((IntKind.u64.wrap (i64.wrap ((P.length:Nat)+(P.length+L.length+R.length:Nat))))/2 ^ (1:Int).toNat)=(mid:Nat):=by rw[PF (by omega),<- hmid]
  have wp:i64.wrap (i64.wrap (i64.wrap ((mid:Nat)+(P.length+L.length:Nat))-1)-((i+j)/2:Nat))=(mid+(P.length+L.length)-1-(i+j)/2:Nat):=by rw[G1 (by omega),aQ (x:=(mid+(P.length+L.length):Nat)-1),aQ (by omega) (by omega)];omega
  have i1:cz ((i+j)/2:Nat) d.length=true:=aU (by omega);have i2:cz (mid+(P.length+L.length)-1-(i+j)/2:Nat) d.length=true:=aU (by omega);have⟨c,c1,c2⟩:=hφ y z;simp only[fT,d1,aj,Tu,wm,PF (show i+j<4611686018427387904 by omega),wp,i1,i2,oC,hz,hy,ai,c1];rw[LI,hyk,aO (by omega)];by_cases hc:c<0;have:=c2.1 hc;simp[hc,show ¬z.cost<=y.cost by omega];have:¬y.cost<z.cost:=λh=>hc (c2.2 h);simp[hc,show z.cost<=y.cost by omega]) (λ i=>by simp[fT]) (λ a b h1 h2 h3 h4=>by simp[bq]at h4 ⊢;have ha:=b4 a h1 (by omega);have hb':=b4 b (by omega) h3;rw[SM a (by omega) (by omega),SJ _ ha.1 ha.2];rw[SM b (by omega) (by omega),SJ _ hb'.1 hb'.2]at h4;have e1:=hL.le (i:=a-P.length) (j:=b-P.length) (by omega) (by omega);have e2:=hR.le (i:=mid+(P.length+L.length)-1-b-(P.length+L.length)) (j:=mid+(P.length+L.length)-1-a-(P.length+L.length)) (by omega) (by omega);omega) n s0 t0 (aB _) b1 (aB _) (by omega) (λ _ h1 h2=>by omega) (λ _ h1 h2=>by omega)
 obtain⟨L1,L2,pN,hLl⟩:∃L1 L2,L=L1++L2/\L1.length=r-P.length:=⟨L.take (r-P.length),L.drop (r-P.length),by simp,by simp<;>omega⟩;obtain⟨R1,R2,nF,hRl⟩:∃R1 R2,R=R1++R2/\R1.length=mid-r:=⟨R.take (mid-r),R.drop (mid-r),by simp,by simp<;>omega⟩;have lL:L.length=L1.length+L2.length:=by rw[pN];simp
 have lR:R.length=R1.length+R2.length:=by rw[nF];simp
 refine⟨L1,L2,R1,R2,pN,nF,by omega,λx hx y hy=>?_,λy hy x hx=>?_,by rw[hr];congr 1;omega⟩;obtain⟨k,hk,rfl⟩:=mem_iff_getElem.1 hx;obtain⟨q,hq,rfl⟩:=mem_iff_getElem.1 hy;have hr1:=r3 (r-1) (by omega) (by omega);simp[bq]at hr1;have hbb:=b4 (r-1) (by omega) (by omega);rw[SM (r-1) (by omega) (by omega),SJ _ hbb.1 hbb.2]at hr1;have e1:=hL.le (i:=k) (j:=r-1-P.length) (by omega) (by omega);have e2:=hR.le (i:=mid+(P.length+L.length)-1-(r-1)-(P.length+L.length)) (j:=R1.length+q) (by omega) (by omega);have f1:L[k]'(by omega)=L1[k]:=by simp[pN];exact List.getElem_append_left hk
 have f2:R[R1.length+q]'(by omega)=R2[q]:=by simp only[nF];rw[List.getElem_append_right (by omega)];simp
 rw[f1]at e1;rw[f2]at e2;omega;obtain⟨k,hk,rfl⟩:=mem_iff_getElem.1 hx;obtain⟨q,hq,rfl⟩:=mem_iff_getElem.1 hy;have hs:r<t0:=by rcases hst with h|h<;>omega
 have hr1:=r4 r (by omega) hs;simp[cB]at hr1;have hbb:=b4 r (by omega) hs;rw[SM r (by omega) (by omega),SJ _ hbb.1 hbb.2]at hr1;have e1:=hL.le (i:=r-P.length) (j:=L1.length+k) (by omega) (by omega);have e2:=hR.le (i:=q) (j:=mid+(P.length+L.length)-1-r-(P.length+L.length)) (by omega) (by omega);have f1:L[L1.length+k]'(by omega)=L2[k]:=by simp only[pN];rw[List.getElem_append_right (by omega)];simp
 have f2:R[q]'(by omega)=R1[q]:=by simp[nF];exact List.getElem_append_left hq
 rw[f1]at e1;rw[f2]at e2;omega
theorem adN:∀(m:Nat)(P L R Q:U aD),lv L->lv R->0<L.length->0<R.length->L.length+R.length<=m->(P++(L++(R++Q))).length<1099511627776->(P++(L++(R++Q))).length<n->
 ∃M,cK n m (P++(L++(R++Q))) (P.length:Int) ((P.length+L.length:Nat):Int) ((P.length+L.length+R.length:Nat):Int) φ=some (P++(M++Q))/\M.length=L.length+R.length/\lv M/\cX M (L++R)
 | 0,P,L,R,Q,_,_,h1,h2,h3,_,_=>by omega
 |m+1,P,L,R,Q,hL,hR,h1,h2,h3,hl,hn=>by
  show ∃M,dG n (cK n m) (P++(L++(R++Q))) (P.length:Int) ((P.length+L.length:Nat):Int) ((P.length+L.length+R.length:Nat):Int) φ=some (P++(M++Q))/\M.length=L.length+R.length/\lv M/\cX M (L++R);by_cases hL1:L.length=1;obtain⟨x,rfl⟩:=List.length_eq_one_iff.1 hL1;obtain⟨M,g1,g2,g3,g4⟩:=ard hφ (n:=n) (rc:=cK n m) P R Q x hR (by simpa using hl) (by simpa using hn);exact⟨M,by simpa using g1,by simpa using g2,g3,g4⟩;by_cases hR1:R.length=1;obtain⟨y,rfl⟩:=List.length_eq_one_iff.1 hR1;obtain⟨M,g1,g2,g3,g4⟩:=arf hφ (n:=n) (rc:=cK n m) P L Q y hL (by omega) (by simpa using hl) (by simpa using hn);exact⟨M,by simpa using g1,by simpa using g2,g3,g4⟩;have hlen:(P++(L++(R++Q))).length=P.length+L.length+R.length+Q.length:=by simp<;>omega
  rw[hlen]at hl hn;obtain⟨mid,hmid⟩:∃mid,mid=(P.length+(P.length+L.length+R.length))/2:=⟨_,rfl⟩;obtain⟨s0,t0,hst⟩:∃s0 t0,(mid<P.length+L.length/\s0=mid+(P.length+L.length)-(P.length+L.length+R.length)/\t0=mid)\/(P.length+L.length<=mid/\s0=P.length/\t0=P.length+L.length):=by rcases Nat.lt_or_ge mid (P.length+L.length)with h|h;exact⟨_,_,.inl ⟨h,rfl,rfl⟩⟩;exact⟨_,_,.inr ⟨h,rfl,rfl⟩⟩
  obtain⟨L1,L2,R1,R2,rfl,rfl,k1,k2,k3,k4⟩:=arh hφ (n:=n) P L R Q hL hR h1 h2 (by rw[hlen];exact hl) (by rw[hlen];exact hn) mid hmid s0 t0 hst;have lL:(L1++L2).length=L1.length+L2.length:=by simp
  have lR:(R1++R2).length=R1.length+R2.length:=by simp
  have wm:i64.wrap ((IntKind.u64.wrap (i64.wrap ((P.length:Int)+((P.length+(L1++L2).length+(R1++R2).length:Nat):Int))))/2 ^ (1:Int).toNat)=(mid:Int):=by rw[PF (by omega),<- hmid]
  have wn:i64.wrap ((mid:Int)+((P.length+(L1++L2).length:Nat):Int))=((mid+(P.length+(L1++L2).length):Nat):Int):=G1 (by omega);have we:i64.wrap (((mid+(P.length+(L1++L2).length):Nat):Int)-((P.length+L1.length:Nat):Int))=((P.length+L1.length+L2.length+R1.length:Nat):Int):=by rw[aQ (by omega) (by omega)];omega
  have c1:(i64.wrap (((P.length+(L1++L2).length:Nat):Int)-(P.length:Int))==(1:Int))=false:=by rw[aQ (by omega) (by omega)];simp only[beq_eq_false_iff_ne];omega
  have c2:(i64.wrap (((P.length+(L1++L2).length+(R1++R2).length:Nat):Int)-((P.length+(L1++L2).length:Nat):Int))==(1:Int))=false:=by rw[aQ (by omega) (by omega)];simp only[beq_eq_false_iff_ne];omega
  have hsel:((bif decide (((P.length+(L1++L2).length:Nat):Int)>(mid:Int))then some (i64.wrap (((mid+(P.length+(L1++L2).length):Nat):Int)-((P.length+(L1++L2).length+(R1++R2).length:Nat):Int)),(mid:Int))else some ((P.length:Int),((P.length+(L1++L2).length:Nat):Int))):J (Int×Int))=some ((s0:Int),(t0:Int)):=by rcases hst with ⟨q1,q2,q3⟩|⟨q1,q2,q3⟩;rw[show decide (((P.length+(L1++L2).length:Nat):Int)>(mid:Int))=true by simp only[bq];omega,aj,aQ (by omega) (by omega),q2,q3];congr 2;omega;rw[show decide (((P.length+(L1++L2).length:Nat):Int)>(mid:Int))=false by simp only[cB];omega,au,q2,q3]
  have arE:((bif decide (((P.length+L1.length:Nat):Int)<((P.length+(L1++L2).length:Nat):Int))then some (decide (((P.length+(L1++L2).length:Nat):Int)<((P.length+L1.length+L2.length+R1.length:Nat):Int)))else some false:J Bool).bind λv13=>bif v13 then(ck (aE (P++(L1++L2++(R1++R2++Q))).length (P++(L1++L2++(R1++R2++Q))).length) ((iK n (P++(L1++L2++(R1++R2++Q))) ((P.length+L1.length:Nat):Int) ((P.length+(L1++L2).length:Nat):Int) ((P.length+L1.length+L2.length+R1.length:Nat):Int) φ).bind λr4=>some r4))else some (P++(L1++L2++(R1++R2++Q))))=some (P++(L1++(R1++(L2++(R2++Q))))):=by by_cases e1:L2=[];subst e1;simp;by_cases e2:R1=[];subst e2;rw[show decide (((P.length+(L1++L2).length:Nat):Int)<((P.length+L1.length+L2.length+([]:U aD).length:Nat):Int))=false by simp only[cB,length_nil];omega];cases decide (((P.length+L1.length:Nat):Int)<((P.length+(L1++L2).length:Nat):Int))<;>simp;have p1:0<L2.length:=List.length_pos_iff.2 e1;have p2:0<R1.length:=List.length_pos_iff.2 e2;have:=alC (φ:=φ) (n:=n) (P++L1) L2 R1 (R2++Q) p1 p2 (by simp;simp at hl;omega) (by simp;simp at hn;omega) (a:=((P.length+L1.length:Nat):Int)) (m:=((P.length+(L1++L2).length:Nat):Int)) (b:=((P.length+L1.length+L2.length+R1.length:Nat):Int)) (by simp) (by simp<;>omega) (by simp);have e3:P++(L1++L2++(R1++R2++Q))=P++L1++(L2++(R1++(R2++Q))):=(by simp);rw[show decide (((P.length+L1.length:Nat):Int)<((P.length+(L1++L2).length:Nat):Int))=true by simp only[bq];omega,aj,show decide (((P.length+(L1++L2).length:Nat):Int)<((P.length+L1.length+L2.length+R1.length:Nat):Int))=true by simp only[bq];omega];simp only[ai,aj,aK];rw[e3,this];simp
  obtain⟨M1,m1,m2,m3,m4⟩:∃M1,((bif decide ((P.length:Int)<((P.length+L1.length:Nat):Int))then some (decide (((P.length+L1.length:Nat):Int)<(mid:Int)))else some false:J Bool).bind λv15=>bif v15 then(ck (aE (P++(L1++L2++(R1++R2++Q))).length (P++(L1++(R1++(L2++(R2++Q))))).length) ((cK n m (P++(L1++(R1++(L2++(R2++Q))))) (P.length:Int) ((P.length+L1.length:Nat):Int) (mid:Int) φ).bind λr5=>some r5))else some (P++(L1++(R1++(L2++(R2++Q))))))=some (P++(M1++(L2++(R2++Q))))/\M1.length=L1.length+R1.length/\lv M1/\cX M1 (L1++R1):=by by_cases e1:L1=[];subst e1;exact⟨R1,by simp,by simp,DX hR,cX.refl _⟩;by_cases e2:R1=[];subst e2;have:(mid:Int)=((P.length+L1.length:Nat):Int):=(by simp at k1;omega);exact⟨L1,by rw[this];simp,by simp,DX hL,by simpa using cX.refl L1⟩;have p1:0<L1.length:=List.length_pos_iff.2 e1;have p2:0<R1.length:=List.length_pos_iff.2 e2;obtain⟨M,g1,g2,g3,g4⟩:=adN m P L1 R1 (L2++(R2++Q)) (DX hL) (DX hR) p1 p2 (by omega) (by simp;simp at hl;omega) (by simp;simp at hn;omega);refine⟨M,?_,g2,g3,g4⟩;rw[show decide ((P.length:Int)<((P.length+L1.length:Nat):Int))=true by simp only[bq];omega,aj,show decide (((P.length+L1.length:Nat):Int)<(mid:Int))=true by simp only[bq];omega];simp only[ai,aj];rw[pR (by simp<;>omega)];simp only[aj];rw[<- k1,g1];rfl
  obtain⟨M2,q1,q2,q3,q4⟩:∃M2,((bif decide ((mid:Int)<((P.length+L1.length+L2.length+R1.length:Nat):Int))then some (decide (((P.length+L1.length+L2.length+R1.length:Nat):Int)<((P.length+(L1++L2).length+(R1++R2).length:Nat):Int)))else some false:J Bool).bind λv17=>bif v17 then(ck (aE (P++(L1++L2++(R1++R2++Q))).length (P++(M1++(L2++(R2++Q)))).length) ((cK n m (P++(M1++(L2++(R2++Q)))) (mid:Int) ((P.length+L1.length+L2.length+R1.length:Nat):Int) ((P.length+(L1++L2).length+(R1++R2).length:Nat):Int) φ).bind λr6=>some r6))else some (P++(M1++(L2++(R2++Q)))))=some (P++(M1++(M2++Q)))/\M2.length=L2.length+R2.length/\lv M2/\cX M2 (L2++R2):=by have hm1:P.length+M1.length=mid:=(by omega);by_cases e1:L2=[];subst e1;exact⟨R2,by rw[show decide ((mid:Int)<((P.length+L1.length+([]:U aD).length+R1.length:Nat):Int))=false by simp only[cB,length_nil];omega];simp,by simp,zl hR,cX.refl _⟩;by_cases e2:R2=[];subst e2;refine⟨L2,?_,by simp,zl hL,by simpa using cX.refl L2⟩;rw[show decide (((P.length+L1.length+L2.length+R1.length:Nat):Int)<((P.length+(L1++L2).length+(R1++([]:U aD)).length:Nat):Int))=false by simp only[cB,append_nil];omega];cases decide ((mid:Nat)<(P.length+L1.length+L2.length+R1.length:Nat))<;>simp;have p1:0<L2.length:=List.length_pos_iff.2 e1;have p2:0<R2.length:=List.length_pos_iff.2 e2;obtain⟨M,g1,g2,g3,g4⟩:=adN m (P++M1) L2 R2 Q (zl hL) (zl hR) p1 p2 (by omega) (by simp;simp at hl;omega) (by simp;simp at hn;omega);refine⟨M,?_,g2,g3,g4⟩;rw[show decide ((mid:Int)<(P.length+L1.length+L2.length+R1.length:Nat))=true by simp only[bq];omega,aj,show decide (((P.length+L1.length+L2.length+R1.length:Nat):Int)<(P.length+(L1++L2).length+(R1++R2).length:Nat))=true by simp only[bq];omega];simp only[ai,aj];have f1:(P++M1).length=mid:=(by simp<;>omega);have f2:mid+L2.length=P.length+L1.length+L2.length+R1.length:=(by omega);have f3:mid+L2.length+R2.length=P.length+(L1++L2).length+(R1++R2).length:=(by omega);rw[f1,f3,f2]at g1;rw[pR (by simp<;>omega)];simp only[aj];simp only[aV]at g1;rw[g1];simp
  refine⟨M1++M2,?_,by simp<;>omega,?_,?_⟩;unfold dG;rw[c1,au,c2,au,Tu];simp only[aj];simp only[wm,wn];rw[hsel];simp only[ai];rw[k4];simp only[ai,we];rw[arE];simp only[ai];rw[m1];simp only[ai];rw[q1];simp;refine adM m3 q3 λx hx y hy=>?_;have hx:=(m4.mem x).1 hx;have hy:=(q4.mem y).1 hy;rcases bF.1 hx with hx|hx<;>rcases bF.1 hy with hy|hy;exact O9 hL x hx y hy;exact k2 x hx y hy;exact Int.le_of_lt (k3 x hx y hy);exact O9 hR x hx y hy;refine(m4.app q4).trans ?_;have:=((cX.refl L1).app (cX.swap (u:=L2) (v:=R1) λx hx y hy=>k3 y hy x hx)).app (cX.refl R2);simpa using this
theorem agp:∀ys (x:aD) (P R:List aD) a0 (fuel:Nat),a0.length=P.length+ys.length+1+R.length->a0.length<1099511627776->ys.length<fuel->
 iter (dJ a0 (P.length:Nat) φ) fuel ((P.length+ys.length:Nat),P++(ys.reverse++x::R))=some (P++((gF ut x ys).reverse++R))
 |[],x,P,R,a0,fuel,h1,h2,h3=>by obtain⟨f,rfl⟩:∃f,fuel=f+1:=⟨fuel-1,by omega⟩;refine dn ?_;simp[dJ,gF]
 |y::ys,x,P,R,a0,fuel,h1,h2,h3=>by
  obtain⟨f,rfl⟩:∃f,fuel=f+1:=⟨fuel-1,by omega⟩;simp at h1 h3;have d1:decide (((P.length+(y::ys).length:Nat):Int)>(P.length:Nat))=true:=by simp<;>omega
  have w1:i64.wrap ((P.length+(y::ys).length:Nat)-1)=(P.length+ys.length:Nat):=by rw[aQ (by simp<;>omega) (by simp<;>omega)];simp<;>omega
  have i1:cz (P.length+(y::ys).length:Nat) a0.length=true:=aU (by simp<;>omega);have i2:cz (P.length+ys.length:Nat) a0.length=true:=aU (by omega);have g1:(P++((y::ys).reverse++x::R))[P.length+(y::ys).length]? =some x:=rO (U:=P++(y::ys).reverse) (V:=R) (by simp) (by simp);have g2:(P++((y::ys).reverse++x::R))[P.length+ys.length]? =some y:=rO (U:=P++ys.reverse) (V:=x::R) (by simp) (by simp);have⟨c,c1,c2⟩:=hφ x y;have hlt:decide (c<0)=ut x y:=by unfold ut;by_cases h:c<0;simp[h,c2.1 h];have:¬x.cost<y.cost:=λe=>h (c2.2 e);simp[h,this]
  cases hxy:ut x y with
  |true=>
   have s1:(P++((y::ys).reverse++x::R)).set (P.length+(y::ys).length) y=(P++(y::ys).reverse)++y::R:=yZ (U:=P++(y::ys).reverse) (V:=R) (x:=x) (by simp) (by simp);have g3:((P++(y::ys).reverse)++y::R)[P.length+ys.length]? =some y:=rO (U:=P++ys.reverse) (V:=y::R) (by simp) (by simp);have s2:((P++(y::ys).reverse)++y::R).set (P.length+ys.length) x=(P++ys.reverse)++x::(y::R):=yZ (U:=P++ys.reverse) (V:=y::R) (x:=y) (by simp) (by simp);have step:dJ a0 (P.length:Nat) φ ((P.length+(y::ys).length:Nat),P++((y::ys).reverse++x::R))=some (.inl ((P.length+ys.length:Nat),P++(ys.reverse++x::(y::R)))):=(by simp only[dJ,d1,aj,w1,i1,i2,oC,g1,g2,ai,c1,hlt,hxy,TC,s1,g3,s2];simp);rw[dV step];have:=agp ys x P (y::R) a0 f (by simp<;>omega) h2 (by omega);rw[this];simp[gF,hxy]
  |false=>
   refine(dn ?_).trans rfl;simp only[dJ,d1,aj,w1,i1,i2,oC,g1,g2,ai,c1,hlt,hxy,au];simp[gF,hxy]
theorem agq:∀(B S P Q:U aD) a0 (fuel:Nat),lv S->a0.length=P.length+S.length+B.length+Q.length->a0.length<1099511627776->a0.length<n->B.length<fuel->
 ∃S',iter (dK n a0 (P.length:Nat) (P.length+S.length+B.length:Nat) φ) fuel ((P.length+S.length:Nat),P++(S++(B++Q)))=some (P++(S'++Q))/\S'.length=S.length+B.length/\lv S'/\cX S' (S++B)
 |[],S,P,Q,a0,fuel,hS,h1,h2,h3,h4=>by obtain⟨f,rfl⟩:∃f,fuel=f+1:=⟨fuel-1,by omega⟩;refine⟨S,dn ?_,by simp,hS,by simpa using cX.refl S⟩;simp[dK]
 |x::B,S,P,Q,a0,fuel,hS,h1,h2,h3,h4=>by
  obtain⟨f,rfl⟩:∃f,fuel=f+1:=⟨fuel-1,by omega⟩;simp at h1 h4;have hi:=agp hφ S.reverse x P (B++Q) a0 n (by simp<;>omega) h2 (by simp<;>omega);simp only[List.length_reverse,List.reverse_reverse]at hi;have hl:(gF ut x S.reverse).reverse.length=S.length+1:=by simp[BP]
  have d1:decide (((P.length+S.length:Nat):Int)<(P.length+S.length+(x::B).length:Nat))=true:=by simp<;>omega
  have step:dK n a0 (P.length:Nat) (P.length+S.length+(x::B).length:Nat) φ ((P.length+S.length:Nat),P++(S++(x::B++Q)))=some (.inl ((P.length+(gF ut x S.reverse).reverse.length:Nat),P++((gF ut x S.reverse).reverse++(B++Q)))):=by have e:P++(S++(x::B++Q))=P++(S++x::(B++Q)):=rfl;simp only[dK,d1,aj];rw[e,hi];simp only[ai,hl];rw[aO (by omega)];rfl
  rw[dV step];have hs:lv (gF ut x S.reverse).reverse:=List.pairwise_reverse.2 (YT x S.reverse (List.pairwise_reverse.2 hS));obtain⟨S',g1,g2,g3,g4⟩:=agq B (gF ut x S.reverse).reverse P Q a0 f hs (by omega) h2 h3 (by omega);refine⟨S',?_,by simp<;>omega,g3,g4.trans ?_⟩;have e:P.length+(gF ut x S.reverse).reverse.length+B.length=P.length+S.length+(x::B).length:=by rw[hl];simp<;>omega
  rw[e]at g1;exact g1;have:=(Ue x S.reverse).app (cX.refl B);simpa using this
theorem anJ(P B Q:U aD)(hl:(P++(B++Q)).length<1099511627776)(hn:(P++(B++Q)).length<n){a b:Int}(ha:a=(P.length:Nat))(hb:b=(P.length+B.length:Nat)):
 ∃B',dH n (P++(B++Q)) a b φ=some (P++(B'++Q))/\B'.length=B.length/\lv B'/\cX B' B:=by
 subst ha hb;unfold dH;simp at hl hn;cases B with
 |nil=>
  refine⟨[],?_,rfl,List.Pairwise.nil,cX.refl _⟩;obtain⟨f,rfl⟩:∃f,n=f+1:=⟨n-1,by omega⟩;have w:i64.wrap ((P.length:Nat)+1)=(P.length+1:Nat):=aO (by omega);rw[w,dn (o:=P++([]++Q))];rfl;simp only[dK];rw[show decide (((P.length+1:Nat):Int)<(P.length+[].length:Nat))=false by simp;omega];rfl
 |cons x B=>
  simp at hl hn;obtain⟨S',g1,g2,g3,g4⟩:=agq hφ (n:=n) B [x] P Q (P++(x::B++Q)) n (List.pairwise_singleton _ _) (by simp<;>omega) (by simp<;>omega) (by simp<;>omega) (by omega);refine⟨S',?_,by rw[g2];simp<;>omega,g3,by simpa using g4⟩;have w:i64.wrap ((P.length:Nat)+1)=(P.length+[x].length:Nat):=aO (by omega);have e:P.length+[x].length+B.length=P.length+(x::B).length:=by simp<;>omega
  rw[e]at g1;rw[w];have e2:P++([x]++(B++Q))=P++(x::B++Q):=rfl;rw[e2]at g1;rw[g1];rfl
theorem abZ:∀(w:Nat) (P R:U aD) a0 (fuel:Nat),R.length<=w->a0.length=P.length+R.length->a0.length<1099511627776->a0.length<n->w<fuel->
 ∃R',(iter (dN n a0 (a0.length:Nat) φ) fuel ((P.length:Nat),(P.length+20:Nat),P++R)).bind (λ (w1,w2)=>ck (aE a0.length w2.length) ((dH n w2 w1 (a0.length:Nat) φ).bind λr2=>some r2))=some (P++R')/\R'.length=R.length/\Ch 20 R'/\cX R' R
 |w,P,R,a0,fuel,h1,h2,h3,h4,h5=>by
  obtain⟨f,rfl⟩:∃f,fuel=f+1:=⟨fuel-1,by omega⟩;by_cases hR:20<=R.length;obtain⟨B,T,rfl,hB⟩:∃B T,R=B++T/\B.length=20:=⟨R.take 20,R.drop 20,by simp,by simp<;>omega⟩;simp at h1 h2 hR;obtain⟨B',g1,g2,g3,g4⟩:=anJ hφ (n:=n) P B T (by simp<;>omega) (by simp<;>omega) (a:=(P.length:Nat)) (b:=(P.length+20:Nat)) rfl (by rw[hB]);have step:dN n a0 (a0.length:Nat) φ ((P.length:Nat),(P.length+20:Nat),P++(B++T))=some (.inl (((P++B').length:Nat),((P++B').length+20:Nat),(P++B')++T)):=by simp only[dN];rw[show decide (((P.length+20:Nat):Int)<=(a0.length:Nat))=true by simp;omega,pR (by simp<;>omega),g1];have w1:i64.wrap ((P.length+20:Nat)+20)=((P++B').length+20:Nat):=(by rw[aQ (by omega) (by omega)];simp[g2,hB]);rw[w1];simp[g2,hB]
  rw[dV step];cases w with
  |zero=>omega
  |succ w=>
   obtain⟨R',q1,q2,q3,q4⟩:=abZ w (P++B') T a0 f (by omega) (by simp<;>omega) h3 h4 (by omega);exact⟨B'++R',by rw[q1];simp,by simp[q2,g2],.cons g3 (by omega) q3,g4.app q4⟩
  have ex:dN n a0 (a0.length:Nat) φ ((P.length:Nat),(P.length+20:Nat),P++R)=some (.inr ((P.length:Nat),P++R)):=by simp only[dN];rw[show decide (((P.length+20:Nat):Int)<=(a0.length:Nat))=false by simp;omega];rfl
  rw[dn ex];obtain⟨B',g1,g2,g3,g4⟩:=anJ hφ (n:=n) P R [] (by simp<;>omega) (by simp<;>omega) (a:=(P.length:Nat)) (b:=(a0.length:Nat)) rfl (by rw[h2]);simp at g1;refine⟨B',?_,g2,.last g3 (by omega),g4⟩;simp only[ai];rw[pR (by simp<;>omega),g1];rfl
theorem alD{n bs:Nat}(hbs:0<bs):∀(w:Nat) (P R:U aD) a0 (fuel:Nat),Ch bs R->R.length<=w->a0.length=P.length+R.length->a0.length<1099511627776->bs<1099511627776->a0.length<n->w<fuel->
 ∃R',(iter (dO n a0 (a0.length:Nat) φ (bs:Nat)) fuel ((P.length:Nat),(P.length+2*bs:Nat),P++R)).bind (λ (w3,w4)=>((bif (decide ((i64.wrap (w3+(bs:Nat)))<(a0.length:Nat)))then(ck (aE a0.length w4.length) ((fG n w4 w3 (i64.wrap (w3+(bs:Nat))) (a0.length:Nat) φ).bind λr4=>some r4))else some w4):J (List aD)))=some (P++R')/\R'.length=R.length/\Ch (2*bs) R'/\cX R' R:=by
 intro w
 induction w using Nat.strongRecOn with
 |ind w ih=>
  intro P R a0 fuel hc h1 h2 h3 hb3 h4 h5;obtain⟨f,rfl⟩:∃f,fuel=f+1:=⟨fuel-1,by omega⟩;have wb:i64.wrap ((P.length:Nat)+(bs:Nat))=(P.length+bs:Nat):=G1 (by omega);have fin:∀R:U aD,a0.length=P.length+R.length->R.length<2*bs->(∀ X,iter (dO n a0 (a0.length:Nat) φ (bs:Nat)) (f+1) ((P.length:Nat),(P.length+2*bs:Nat),X)=some ((P.length:Int),X)):=by intro R h2 hR X;refine dn ?_;simp only[dO];rw[show decide (((P.length+2*bs:Nat):Int)<=(a0.length:Nat))=false by simp;omega];rfl
  cases hc with
  |last s1 s2=>
   rw[fin R h2 (by omega)];refine⟨R,?_,rfl,.last s1 (by omega),cX.refl _⟩;simp only[ai,wb];rw[show decide (((P.length+bs:Nat):Int)<(a0.length:Nat))=false by simp;omega];rfl
  | @cons b l s1 s2 s3=>
   simp at h1 h2;have merge:∀(c l2:U aD),l=c++l2->lv c->0<c.length->∃M,fG n (P++(b++l)) (P.length:Nat) (P.length+bs:Nat) (P.length+bs+c.length:Nat) φ=some (P++(M++l2))/\M.length=bs+c.length/\lv M/\cX M (b++c):=(by intro c l2 hl hcs hcl;subst hl;obtain⟨M,q1,q2,q3,q4⟩:=adN hφ (n:=n) n P b c l2 s1 hcs (by omega) hcl (by simp at h1 h2;omega) (by simp;simp at h2;omega) (by simp;simp at h2;omega);rw[s2]at q1 q2;exact⟨M,q1,q2,q3,q4⟩)
   have A5:∀(c l2 M:U aD),l=c++l2->c.length=bs->M.length=bs+c.length->fG n (P++(b++l)) (P.length:Nat) (P.length+bs:Nat) (P.length+bs+c.length:Nat) φ=some (P++(M++l2))->
    dO n a0 (a0.length:Nat) φ (bs:Nat) ((P.length:Nat),(P.length+2*bs:Nat),P++(b++l))=some (.inl (((P++M).length:Nat),((P++M).length+2*bs:Nat),(P++M)++l2)):=by intro c l2 M hl hcl hM hq;have hll:l.length=c.length+l2.length:=(by rw[hl];simp);simp only[dO];rw[show decide (((P.length+2*bs:Nat):Int)<=(a0.length:Nat))=true by simp;omega,aj,pR (by simp<;>omega)];simp only[aj];rw[wb];have e1:(P.length+bs+c.length:Nat)=(P.length+2*bs:Nat):=(by omega);rw[e1]at hq;rw[hq];have w2:i64.wrap (2*(bs:Nat))=(2*bs:Nat):=(by rw[aQ (by omega) (by omega)];omega);have w3:i64.wrap ((P.length+2*bs:Nat)+(2*bs:Nat))=(P.length+2*bs+2*bs:Nat):=G1 (by omega);rw[w2,w3];have e2:(P++M).length=P.length+2*bs:=(by simp<;>omega);rw[e2];simp
   cases s3 with
   |last t1 t2=>
    by_cases hl:l.length=bs;obtain⟨M,q1,q2,q3,q4⟩:=merge l [] (by simp) t1 (by omega);rw[dV (A5 l [] M (by simp) hl q2 q1)];obtain⟨R',r1,r2,r3,r4⟩:=ih 0 (by omega) (P++M) [] a0 f (.last List.Pairwise.nil (by simp)) (by simp) (by simp<;>omega) h3 hb3 h4 (by omega);have:R'=[]:=List.eq_nil_of_length_eq_zero (by simpa using r2);subst this;exact⟨M,by rw[r1];simp,by simp<;>omega,.last q3 (by omega),by simpa using q4⟩;rw[fin (b++l) (by simp<;>omega) (by simp<;>omega)];simp only[ai,wb];by_cases hl0:l.length=0;have:l=[]:=List.eq_nil_of_length_eq_zero hl0;subst this;refine⟨b,?_,by simp,.last s1 (by omega),by simpa using cX.refl b⟩;rw[show decide (((P.length+bs:Nat):Int)<(a0.length:Nat))=false by simp;simp at h2;omega];simp;obtain⟨M,q1,q2,q3,q4⟩:=merge l [] (by simp) t1 (by omega);refine⟨M,?_,by simp<;>omega,.last q3 (by omega),by simpa using q4⟩;rw[show decide (((P.length+bs:Nat):Int)<(a0.length:Nat))=true by simp;omega,aj,pR (by simp<;>omega)];simp only[aj];have e1:(P.length+bs+l.length:Nat)=(a0.length:Nat):=(by omega);rw[e1]at q1;rw[q1];simp
   | @cons c l2 t1 t2 t3=>
    obtain⟨M,q1,q2,q3,q4⟩:=merge c l2 rfl t1 (by omega);rw[dV (A5 c l2 M rfl t2 q2 q1)];simp at h1 h2;obtain⟨R',r1,r2,r3,r4⟩:=ih (w-2*bs) (by omega) (P++M) l2 a0 f t3 (by omega) (by simp<;>omega) h3 hb3 h4 (by omega);refine⟨M++R',by rw[r1];simp,by simp<;>omega,.cons q3 (by omega) r3,?_⟩;have:=q4.app r4;simpa using this
theorem ab0:∀(w bs:Nat) R a0 (fuel:Nat),0<bs->Ch bs R->a0.length<=bs+w->a0.length=R.length->a0.length<1099511627776->a0.length<n->w<fuel->bs<2199023255552->
 ∃R',iter (gH n a0 (a0.length:Nat) φ) fuel ((bs:Nat),R)=some R'/\lv R'/\cX R' R
 |w,bs,R,a0,fuel,hb,hc,h1,h2,h3,h4,h5,h6=>by
  obtain⟨f,rfl⟩:∃f,fuel=f+1:=⟨fuel-1,by omega⟩;by_cases hlt:bs<a0.length;obtain⟨R',q1,q2,q3,q4⟩:=alD hφ (n:=n) hb R.length [] R a0 n hc (aB _) (by simp<;>omega) h3 (by omega) h4 (by omega);simp only[length_nil,Nat.zero_add,fw]at q1;have w2:i64.wrap (2*(bs:Nat))=(2*bs:Nat):=by rw[aQ (by omega) (by omega)];omega
  have w3:i64.wrap ((bs:Nat)*2)=(2*bs:Nat):=by rw[aQ (by omega) (by omega)];omega
  have step:gH n a0 (a0.length:Nat) φ ((bs:Nat),R)=some (.inl ((2*bs:Nat),R')):=by
   simp only[gH];rw[show decide ((bs:Int)<(a0.length:Nat))=true by simp;omega,w2,w3];have e0:((0:Nat):Int)=0:=rfl;rw[e0]at q1;obtain⟨⟨u1,u2⟩,hu⟩:∃u,iter (dO n a0 (a0.length:Nat) φ (bs:Nat)) n (0,(2*bs:Nat),R)=some u:=by
    cases hh:iter (dO n a0 (a0.length:Nat) φ (bs:Nat)) n (0,(2*bs:Nat),R)with
    |none=>rw[hh]at q1;cases q1
    |some u=>exact⟨u,rfl⟩
   rw[hu]at q1 ⊢;simp at q1 ⊢;rw[q1];rfl
  rw[dV step];cases w with
  |zero=>omega
  |succ w=>
   obtain⟨R2,r1,r2,r3⟩:=ab0 w (2*bs) R' a0 f (by omega) q3 (by omega) (by omega) h3 h4 (by omega) (by omega);exact⟨R2,r1,r2,r3.trans q4⟩
  refine⟨R,dn ?_,hc.zj (by omega) hb,cX.refl _⟩;simp only[gH];rw[show decide ((bs:Int)<(a0.length:Nat))=false by simp;omega];rfl
theorem RA l (hl:l.length<1099511627776) (hn:l.length<n):∃r,jG n l φ=some r/\lv r/\cX r l:=by
 obtain⟨R1,q1,q2,q3,q4⟩:=abZ hφ (n:=n) l.length [] l l n (aB _) (by simp) hl hn hn;simp only[length_nil,Nat.zero_add,fw]at q1;obtain⟨R2,r1,r2,r3⟩:=ab0 hφ (n:=n) l.length 20 R1 l n (by omega) q3 (by omega) (by omega) hl hn hn (by omega);refine⟨R2,?_,r2,r3.trans q4⟩;unfold jG nT;rw[aK];have e0:((0:Nat):Int)=0:=rfl;have e20:((20:Nat):Int)=20:=rfl;rw[e0,e20]at q1;rw[e20]at r1;obtain⟨⟨u1,u2⟩,hu⟩:∃u,iter (dN n l (l.length:Nat) φ) n (0,20,l)=some u:=by
  cases hh:iter (dN n l (l.length:Nat) φ) n (0,20,l)with
  |none=>rw[hh]at q1;cases q1
  |some u=>exact⟨u,rfl⟩
 rw[hu]at q1 ⊢;simp[ai]at q1 ⊢;cases he:aE l.length u2.length with
 |false=>rw[he]at q1;cases q1
 |true=>
  rw[he]at q1;cases hi:dH n u2 u1 (l.length:Nat) φ with
  |none=>rw[hi]at q1;cases q1
  |some r=>
   rw[hi]at q1;cases q1;simp only[ai];rw[r1];rfl
end
def eJ(v:ay):Int:=bif okV v then(v.cg-v.ca+2)/3 else 0
theorem JI{v:ay}(h:okV v=true):0<=v.ca/\v.ca<v.cg/\v.cg<=4096:=by simp[okV]at h;omega
theorem Mt(v:ay):0<=eJ v/\eJ v<=1366:=by
 unfold eJ;cases h:okV v with
 |false=>simp
 |true=>
  have:=JI h;simp;omega
theorem DY(v:ay):nC v=some (eJ v):=by
 unfold nC eJ;rw[lJ];cases h:okV v with
 |false=>rfl
 |true=>
  have⟨h1,h2,h3⟩:=JI h;simp;rw[aQ (x:=v.cg-v.ca),aQ (x:=v.cg-v.ca+3),aQ (x:=v.cg-v.ca+3-1),Int.tdiv_eq_ediv_of_nonneg (by omega),aQ (by omega) (by omega)];omega
theorem bA(a b:Bool):((bif a then some b else some false):J Bool)=some (a&&b):=by cases a<;>rfl
theorem bO(a b:Bool):((bif a then some true else some b):J Bool)=some (a || b):=by cases a<;>rfl
theorem RB(r:ax):wO r=some (d8 r):=by simp[wO,bA]
theorem Mv(v:ay):sV v=some (okV v):=by
 simp only[sV,FB,RB,ai,bA,bO,FC,okV];have e:d8 (ax.mk v.bj v.bo v.be v.bk)=d8 (bT v):=rfl;rw[e];congr 1;cases d8 (bT v)with
 |false=>rfl
 |true=>
  rw[gu];simp;omega
theorem aap(v:ay):FD v=some (eJ v):=by
 unfold FD eJ;rw[Mv];cases h:okV v with
 |false=>rfl
 |true=>
  have⟨h1,h2,h3⟩:=JI h;simp;rw[aQ (x:=v.cg-v.ca),aQ (x:=v.cg-v.ca+2),Int.tdiv_eq_ediv_of_nonneg (by omega),aQ (by omega) (by omega)]
def kB(v:ay):Nat:=(eJ v).toNat
theorem Pb(v:ay):(kB v:Nat)=eJ v:=by have:=Mt v;unfold kB;omega
theorem anK(v:ay):kB v<=1366:=by have:=Mt v;unfold kB;omega
theorem YU{d:aG}(h:xV d)(hn:1001<=n):nS n d=some (ch d):=agk h hn
theorem aiE l:qa l=some l:=by simp[qa]
def ej:U Nat->Nat
 |[]=>1
 |c::cs=>(c+1)*ej cs
theorem YV:∀cs,0<ej cs
 |[]=>by simp[ej]
 |c::cs=>Nat.mul_pos (by omega) (YV cs)
theorem YW b:∀a,ej (a++b)=ej a*ej b
 |[]=>by simp[ej]
 |c::cs=>by simp[ej,YW b cs,Nat.mul_assoc]
theorem YX:∀a,ej a.reverse=ej a
 |[]=>rfl
 |c::cs=>by simp[ej,YW,YX cs,Nat.mul_comm]
theorem ao4 l (h:ej (l.map kB)<=2001) (hL:l.length<=1000000) (hl:l.length<n):Bt n l=some false:=by
 have main:∀r (k a fuel:Nat),l.drop k=r->a*ej (r.map kB)<=2001->0<a->r.length<fuel->iter (qz l) fuel (a,k)=some (.inl ()):=by
  intro r
  induction r with
  |nil=>
   intro k a fuel hk ha h0 hf;obtain⟨f,rfl⟩:∃f,fuel=f+1:=⟨fuel-1,by omega⟩;refine dn ?_;have:l.length<=k:=List.drop_eq_nil_iff.1 hk;simp only[qz];rw[show decide ((k:Int)<l.length)=false by simp;omega];rfl
  |cons v r ih=>
   intro k a fuel hk ha h0 hf;obtain⟨f,rfl⟩:∃f,fuel=f+1:=⟨fuel-1,by omega⟩;have hlt:k<l.length:=(by rcases Nat.lt_or_ge k l.length with h|h;exact h;rw[List.drop_eq_nil_of_le h]at hk;cases hk);have hv:l[k]? =some v:=(by have:(l.drop k)[0]? =some v:=(by rw[hk];rfl);simpa using this);have hk':l.drop (k+1)=r:=(by rw[<- List.drop_drop,hk];rfl);have hp:=YV (r.map kB);have ha2:a*(kB v+1)*ej (r.map kB)<=2001:=(by rw[Nat.mul_assoc];exact ha);have E3:a*(kB v+1)<=2001:=Nat.le_trans (Nat.le_mul_of_pos_right _ hp) ha2;have e:(a*(eJ v+1))=(a*(kB v+1):Nat):=(by simp[Pb]);have hfl:=Mt v;have step:qz l (a,k)=some (.inl ((a*(kB v+1):Nat),(k+1:Nat))):=(by simp only[qz];rw[show decide ((k:Int)<l.length)=true by simp;omega,aj,BN,hv];simp only[ai,DY];rw[aQ (x:=eJ v+1),e,aQ (by omega) (by omega),show decide (((a*(kB v+1):Nat):Int)>2001)=false by simp only[cB];omega,au,aO (by omega)]);rw[dV step];exact ih (k+1) _ f hk' ha2 (Nat.mul_pos h0 (by omega)) (by simp at hf;omega)
 unfold Bt;have:=main l 0 1 n (by simp) (by omega) (by omega) hl;have e0:((0:Nat):Int)=0:=rfl;have e1:((1:Nat):Int)=1:=rfl;rw[e0,e1]at this;rw[this];rfl
def zr:U Nat->U Nat->J (List Nat)
 |c::cs,x::xs=>if x=c then(zr cs xs).map (0:: ·)else some ((x+1)::xs)
 |_,_=>none
def Pd:U Nat->U Nat->Nat
 |c::cs,x::xs=>x+(c+1)*Pd cs xs
 |_,_=>0
def k8:U Nat->U Nat->Prop
 |c::cs,x::xs=>x<=c/\k8 cs xs
 |[],[]=>True
 |_,_=>False
theorem k8.length:∀{cs xs:U Nat},k8 cs xs->xs.length=cs.length
 |[],[],_=>rfl
 |c::cs,x::xs,h=>by simp[k8.length h.2]
 |[],_::_,h|_::_,[],h=>h.elim
theorem anL:∀{cs xs:U Nat},k8 cs xs->Pd cs xs<ej cs
 |[],[],_=>by simp[Pd,ej]
 |c::cs,x::xs,h=>by have:=anL h.2;have h1:=h.1;simp[Pd,ej];have:(c+1)*(Pd cs xs+1)<=(c+1)*ej cs:=Nat.mul_le_mul_left _ this;rw[Nat.mul_add]at this;omega
 |[],_::_,h|_::_,[],h=>h.elim
theorem anM:∀{cs xs:U Nat},k8 cs xs->(∀ ys,zr cs xs=some ys->k8 cs ys/\Pd cs ys=Pd cs xs+1)/\(zr cs xs=none->Pd cs xs+1=ej cs)
 |[],[],_=>⟨λ ys h=>(by cases h),λ_=>rfl⟩
 |c::cs,x::xs,h=>by have⟨i1,i2⟩:=anM h.2;have h1:=h.1;simp[zr];by_cases hx:x=c;rw[aY hx];constructor;intro ys hy;obtain⟨zs,hz,rfl⟩:=iE.1 hy;have⟨j1,j2⟩:=i1 zs hz;refine⟨⟨Nat.zero_le _,j1⟩,?_⟩;simp[Pd,j2,Nat.mul_add];omega;intro hn;have:=i2 (Option.map_eq_none_iff.1 hn);simp[Pd,ej,<- this,Nat.mul_add];omega;rw[aT hx];constructor;intro ys hy;cases hy;refine⟨⟨by omega,h.2⟩,?_⟩;simp[Pd];omega;intro hn;cases hn
 |[],_::_,h|_::_,[],h=>h.elim
def toI(l:U Nat):U Int:=l.map λ(k:Nat)=>k
theorem step_eq x l0:∀(ys zs:List Nat)(vs ws:List ay)(fuel:Nat),k8 (vs.map kB) ys->x=vs.reverse++ws->l0.length=ys.length+zs.length->l0.length<=1000000->ys.length<fuel->
 (iter (eT x l0) fuel ((ys.length:Nat)-1,toI (ys.reverse++zs))).bind (λ (w1,w2)=>(bif (decide (w1<0))then some (Sum.inr ())else(ck (cz w1 l0.length) ((bu w2 ((0:Nat)+w1:Int)).bind λx4=>ck (cz w1 l0.length) ((bu w2 ((0:Nat)+w1:Int)).bind λ_=>ck (aE l0.length (w2.set ((0:Nat)+w1:Int).toNat (i64.wrap (x4+1))).length) (some (.inl (w2.set ((0:Nat)+w1:Int).toNat (i64.wrap (x4+1)))))))):J (List Int⊕Unit)))=some (match zr (vs.map kB) ys with|none=>.inr ()|some r=>.inl (toI (r.reverse++zs)))
 |[],zs,vs,ws,fuel,hf,hx,hl,hL,hn=>by
  obtain⟨f,rfl⟩:∃f,fuel=f+1:=⟨fuel-1,by omega⟩;have:vs=[]:=by
   cases vs with
   |nil=>rfl
   |cons v vs=>exact hf.elim
  subst this;have e:eT x l0 ((([]:List Nat).length:Nat)-1,toI ([].reverse++zs))=some (.inr (-1,toI zs)):=by simp[eT]
  rfl
 |y::ys,zs,vs,ws,fuel,hf,hx,hl,hL,hn=>by
  obtain⟨f,rfl⟩:∃f,fuel=f+1:=⟨fuel-1,by omega⟩;obtain⟨v,vs,rfl⟩:∃v vt,vs=v::vt:=by
   cases vs with
   |nil=>exact hf.elim
   |cons v vs=>exact⟨v,vs,rfl⟩
  have hlen:=hf.2.length;have hi:(((y::ys).length:Nat):Int)-1=(ys.length:Nat):=by simp
  have hin:cz (ys.length:Nat) l0.length=true:=aU (by omega);have hat:bu (toI ((y::ys).reverse++zs)) ((0:Nat)+(ys.length:Nat))=some (y:Int):=by exact rO (U:=toI ys.reverse) (V:=toI zs) (by simp[toI]) (by simp[toI])
  have hav:bu x (ys.length:Nat)=some v:=by exact rO (U:=vs.reverse) (V:=ws) (by rw[hx];simp) (by simp[hlen])
  have hset:∀z:Int,(toI ((y::ys).reverse++zs)).set (((0:Nat):Int)+(ys.length:Nat)).toNat z=toI ys.reverse++z::toI zs:=λz=>by exact yZ (U:=toI ys.reverse) (V:=toI zs) (x:=y) (by simp[toI]) (by simp[toI])
  have hge:decide ((ys.length:Nat)>=0)=true:=by simp
  have hy1:=hf.1;have hfl:=anK v;rw[hi];simp only[bK,zr];by_cases hyc:y=kB v;rw[aY hyc];have hw:i64.wrap ((ys.length:Nat)-1)=(ys.length:Nat)-1:=aQ (by omega) (by omega);have step:eT x l0 ((ys.length:Nat),toI ((y::ys).reverse++zs))=some (.inl ((ys.length:Nat)-1,toI (ys.reverse++(0::zs)))):=by simp only[eT,hge,aj,hin,hat,hav,ai,DY,hset,hw];rw[show (y==eJ v)=true by rw[beq_iff_eq,hyc,Pb]];simp[toI]
  rw[dV step];have ih:=step_eq x l0 ys (0::zs) vs (v::ws) f hf.2 (by rw[hx];simp) (by simp;omega) hL (by omega);rw[ih];cases zr (vs.map kB) ys with
  |none=>rfl
  |some r=>simp
  rw[aT hyc];have e:eT x l0 ((ys.length:Nat),toI ((y::ys).reverse++zs))=some (.inr ((ys.length:Nat),toI ((y::ys).reverse++zs))):=by simp only[eT,hge,aj,hin,hat,hav,ai,DY];rw[show (y==eJ v)=false by rw[beq_eq_false_iff_ne,<- Pb];omega];rfl
  rw[dn e];simp only[ai];rw[show decide ((ys.length:Int)<0)=false by simp only[cB];omega,hin,hat];simp;have hw:i64.wrap (y+1)=(y+1:Nat):=aO (by omega);rw[hw,pR (by simp[toI];omega)];simp[toI]
def ye(cs l:U Nat):J (List Nat):=(zr cs.reverse l.reverse).map List.reverse
def fits(cs l:U Nat):Prop:=k8 cs.reverse l.reverse
theorem fits.length{cs l:U Nat}(h:fits cs l):l.length=cs.length:=by have:=k8.length h;simpa using this
def caps(d:aG):U Nat:=(ch d).map kB
theorem agr(l:U ay):(l.map kB).reverse=l.reverse.map kB:=by simp
theorem apG{d:aG}{l:U Nat}(hd:xV d)(hf:fits (caps d) l)(hn:1000002<=n):lT n (ch d) (toI l)=some (match ye (caps d) l with|none=>.inr ()|some r=>.inl (toI r)):=by
 have hvl:=wu hd;have hlen:l.length=(ch d).length:=by have:=hf.length;simpa[caps]using this
 have hl:(toI l).length=l.length:=by simp[toI]
 have w:i64.wrap (((toI l).length:Nat)-1)=(l.reverse.length:Nat)-1:=by rw[hl];simp;exact aQ (by omega) (by omega)
 have hf':k8 ((ch d).reverse.map kB) l.reverse:=by rw[<- agr];exact hf
 have:=step_eq (ch d) (toI l) l.reverse [] (ch d).reverse [] n hf' (by simp) (by simp[toI]) (by omega) (by simp;omega);simp only[List.reverse_reverse,append_nil]at this;unfold lT;rw[w];refine this.trans ?_;unfold ye caps;rw[agr];cases zr ((ch d).reverse.map kB) l.reverse with
 |none|some r=>rfl
def DZ(cs:U Nat):Nat->U Nat->U (List Nat)
 | 0,l=>[l]
 |k+1,l=>match ye cs l with
  |none=>[l]
  |some l'=>l::DZ cs k l'
def ym(cs l:U Nat):Nat:=Pd cs.reverse l.reverse
theorem Pe{cs l:U Nat}(h:fits cs l):(∀ r,ye cs l=some r->fits cs r/\ym cs r=ym cs l+1)/\(ye cs l=none->ym cs l+1=ej cs):=by have⟨h1,h2⟩:=anM h;refine⟨λ r hr=>?_,λhn=>?_⟩;obtain⟨q,hq,rfl⟩:=iE.1 hr;have:=h1 q hq;exact⟨by unfold fits;rw[List.reverse_reverse];exact this.1,by unfold ym;rw[List.reverse_reverse];exact this.2⟩;have:=h2 (Option.map_eq_none_iff.1 hn);rw[YX]at this;exact this
theorem FX{cs:U Nat}:∀(k:Nat) l,fits cs l->∀y∈DZ cs k l,fits cs y/\ym cs l<=ym cs y
 | 0,l,h,y,hy=>by simp[DZ]at hy;subst hy;exact⟨h,aB _⟩
 |k+1,l,h,y,hy=>by
  simp[DZ]at hy;cases hn:ye cs l with
  |none=>rw[hn]at hy;simp at hy;subst hy;exact⟨h,aB _⟩
  |some r=>
   rw[hn]at hy;have⟨g1,g2⟩:=(Pe h).1 r hn;rcases aL.1 hy with rfl|hy;exact⟨h,aB _⟩;have:=FX k r g1 y hy;exact⟨this.1,by omega⟩
theorem Uf{cs:U Nat}:∀(k:Nat) l,fits cs l->(DZ cs k l).Nodup
 | 0,l,h=>by simp[DZ]
 |k+1,l,h=>by
  simp[DZ];cases hn:ye cs l with
  |none=>simp
  |some r=>
   have⟨g1,g2⟩:=(Pe h).1 r hn;simp;refine⟨λ hm=>?_,Uf k r g1⟩;have:=(FX k r g1 l hm).2;omega
theorem akf{d:aG}(hd:xV d)(hn:1000002<=n):∀(k m:Nat) l,fits (caps d) l->ym (caps d) l+k+1=ej (caps d)->k<m->CA (lT n (ch d)) m (toI l)=some ((DZ (caps d) k l).map toI)
 | 0,m,l,hf,hv,hm=>by
  obtain⟨m,rfl⟩:∃q,m=q+1:=⟨m-1,by omega⟩;simp[CA,apG hd hf hn];cases hx:ye (caps d) l with
  |none=>rfl
  |some r=>
   have:=(Pe hf).1 r hx;have h2:=anL this.1;rw[YX]at h2;unfold ym at this hv;omega
 |k+1,m,l,hf,hv,hm=>by
  obtain⟨m,rfl⟩:∃q,m=q+1:=⟨m-1,by omega⟩;simp[CA,apG hd hf hn,DZ];cases hx:ye (caps d) l with
  |none=>
   have:=(Pe hf).2 hx;omega
  |some r=>
   have⟨g1,g2⟩:=(Pe hf).1 r hx;simp only[ai];rw[akf hd hn k m r g1 (by omega) (by omega)];rfl
def FY(d:aG):U Nat:=List.replicate (ch d).length 0
theorem ab1:∀cs:U Nat,k8 cs (List.replicate cs.length 0)
 |[]=>trivial
 |_::cs=>⟨Nat.zero_le _,ab1 cs⟩
theorem val_zero:∀cs:U Nat,Pd cs (List.replicate cs.length 0)=0
 |[]=>rfl
 |c::cs=>by simp[List.replicate_succ,Pd,val_zero cs]
theorem YZ(d:aG):fits (caps d) (FY d)/\ym (caps d) (FY d)=0:=by
 have e:(FY d).reverse=List.replicate (caps d).reverse.length 0:=by simp[FY,caps]
 unfold fits ym;rw[e];exact⟨ab1 _,val_zero _⟩
def Pf(d:aG):U (List Nat):=DZ (caps d) (ej (caps d)-1) (FY d)
theorem adO{d:aG}(hd:xV d)(hn:1000002<=n)(ht:ej (caps d)<=n):ko n (ch d)=some ((Pf d).map toI):=by
 have hvl:=wu hd;have hz:=YZ d;have hp:=YV (caps d);have h0:pW (ch d)=some (toI (FY d)):=by
  have hmx:maxLen=9223372036854775807:=rfl;have hk:xN ((ch d).length:Nat) 8=true:=by simp[xN];omega
  simp[pW,hk];simp[toI,FY]
 unfold ko Sp;rw[h0];simp;rw[akf hd hn (ej (caps d)-1) n (FY d) hz.1 (by omega) (by omega)];simp only[ai];rw[aY];rfl;intro y hy;obtain⟨l,hl,rfl⟩:=mem_map.1 hy;have:=(FX _ _ hz.1 l hl).1.length;exact Uu (by simp[toI];simp[caps]at this;omega)
theorem drop_at{α:Type}{l r:U α}{v:α}{k:Nat}(h:l.drop k=v::r):l[k]? =some v/\k<l.length/\l.drop (k+1)=r:=by
 have h0:(l.drop k)[0]? =some v:=by rw[h];rfl
 have h1:l[k]? =some v:=by simpa using h0
 refine⟨h1,(dx.1 h1).1,by rw[<- List.drop_drop,h];rfl⟩
theorem akg{d:aG}{v2:Nat}{p:dF}(hp:d.phases[v2]? =some p):∀r (k a fuel:Nat),p.az.drop k=r->a<=2001->p.az.length<=1000000->r.length<fuel->
 iter (qC d v2) fuel (a,k)=some (.inr (.inr (.inr 2001)))\/(iter (qC d v2) fuel (a,k)=some (.inl (a*ej (r.map kB):Nat))/\a*ej (r.map kB)<=2001)
 |[],k,a,fuel,hk,ha,hl,hf=>by obtain⟨f,rfl⟩:∃f,fuel=f+1:=⟨fuel-1,by omega⟩;have:p.az.length<=k:=List.drop_eq_nil_iff.1 hk;refine .inr ⟨dn ?_,by simpa[ej]using ha⟩;simp only[qC,BN,hp,ai];rw[show decide ((k:Int)<p.az.length)=false by simp;omega];simp[ej]
 |v::r,k,a,fuel,hk,ha,hl,hf=>by
  obtain⟨f,rfl⟩:∃f,fuel=f+1:=⟨fuel-1,by omega⟩;obtain⟨h1,h2,h3⟩:=drop_at hk;have hfl:=Mt v;have hfn:=anK v;have e:(a*(eJ v+1))=(a*(kB v+1):Nat):=by simp[Pb]
  have hb:a*(kB v+1)<=2001*1367:=Nat.mul_le_mul ha (by omega);have base:qC d v2 (a,k)=bif decide (((a*(kB v+1):Nat):Int)>2001)then some (.inr (.inr (.inr (.inr 2001))))else some (.inl ((a*(kB v+1):Nat),(k+1:Nat))):=by simp only[qC,BN,hp,ai];rw[show decide ((k:Int)<p.az.length)=true by simp;omega,h1];simp[aap];rw[aQ (x:=eJ v+1),e,aQ (by omega) (by omega),aO (by omega)];rfl
  by_cases hgt:2001<a*(kB v+1);refine .inl (dn ?_);rw[base,show decide (((a*(kB v+1):Nat):Int)>2001)=true by simp only[bq];omega];rfl;have step:qC d v2 (a,k)=some (.inl ((a*(kB v+1):Nat),(k+1:Nat))):=by rw[base,show decide (((a*(kB v+1):Nat):Int)>2001)=false by simp only[cB];omega];rfl
  rw[dV step];have:=akg hp r (k+1) (a*(kB v+1)) f h3 (by omega) hl (by simp at hf;omega);simpa[ej,Nat.mul_assoc]using this
theorem akh{d:aG}(hd:xV d)(hn:1000002<=n):∀r (k a fuel:Nat),d.phases.drop k=r->a<=2001->r.length<fuel->
 iter (qD n d) fuel (a,k)=some (.inr 2001)\/(iter (qD n d) fuel (a,k)=some (.inl ((a*ej ((r.flatMap (·.az)).map kB):Nat):Int))/\a*ej ((r.flatMap (·.az)).map kB)<=2001)
 |[],k,a,fuel,hk,ha,hf=>by obtain⟨f,rfl⟩:∃f,fuel=f+1:=⟨fuel-1,by omega⟩;have:d.phases.length<=k:=List.drop_eq_nil_iff.1 hk;refine .inr ⟨dn ?_,by simpa[ej]using ha⟩;simp only[qD];rw[show decide ((k:Int)<d.phases.length)=false by simp;omega];simp[ej]
 |p::r,k,a,fuel,hk,ha,hf=>by
  obtain⟨f,rfl⟩:∃f,fuel=f+1:=⟨fuel-1,by omega⟩;obtain⟨h1,h2,h3⟩:=drop_at hk;have hpl:=hd.2 p (cZ h1);have hph:=hd.1;have e0:((0:Nat):Int)=0:=rfl;have hs:=akg h1 p.az 0 a n (by simp) ha (by omega) (by omega);rw[e0]at hs;have hcond:decide ((k:Int)<d.phases.length)=true:=by simp;omega
  rcases hs with hs|⟨hs,hle⟩;refine .inl (dn ?_);simp only[qD,hcond,aj,hs];rfl;have step:qD n d (a,k)=some (.inl ((a*ej (p.az.map kB):Nat),(k+1:Nat))):=by simp only[qD,hcond,aj,hs,gM];rw[aO (by omega)]
  rw[dV step];have:=akh hd hn r (k+1) (a*ej (p.az.map kB)) f h3 hle (by simp at hf;omega);simpa[YW,Nat.mul_assoc]using this
theorem ao5{d:aG}(hd:xV d)(hn:1000002<=n):∃r,OG n d=some r/\(r<=60->ej (caps d)<=61):=by have hph:=hd.1;have hs:=akh hd hn d.phases 0 1 n (by simp) (by omega) (by omega);have e0:((0:Nat):Int)=0:=rfl;have e1:((1:Nat):Int)=1:=rfl;rw[e0,e1]at hs;unfold OG;rcases hs with hs|⟨hs,hle⟩;rw[hs];exact⟨2001,rfl,λh=>by omega⟩;rw[hs];refine⟨_,rfl,λh=>?_⟩;rw[aQ (by omega) (by omega)]at h;show ej ((d.phases.flatMap (·.az)).map kB)<=61;omega
theorem BG{l:U bG}(h:l.length<=1000):zN l=some l:=Bb (b:=24) (by omega) (by simp[maxLen];omega)
def cutV(v:ay)(k:Int):ay:=bif decide (k>0)then ay.mk v.bj v.bo v.be v.bk v.ca (v.ca+3*(eJ v-k)) v.use v.units v.extra else v
def RD:U ay->U Int->J (List ay×Int)
 |[],_=>some ([],0)
 |v::vs,k::ks=>bif decide (k<0) || decide (k>eJ v)then none else(RD vs ks).map λr=>(bif decide (k<eJ v)then cutV v k::r.1 else r.1,k*lI (bT v)+r.2)
 |_::_,[]=>none
def Mw:U dF->U Int->J (List dF×Int)
 |[],_=>some ([],0)
 |p::ps,l=>(RD p.az (l.take p.az.length)).bind λr=>(Mw ps (l.drop p.az.length)).map λq=>(dF.mk r.1 p.gives::q.1,r.2+q.2)
theorem adP{v:ay}(h:okV v=true):0<=lI (bT v)/\lI (bT v)<=1099511627776:=by have:=BD (pq h);omega
theorem RF:∀vs l (r:U ay×Int),(∀ v∈vs,okV v=true)->RD vs l=some r->0<=r.2/\r.2<=vs.length*1501933683542016/\r.1.length<=vs.length
 |[],l,r,_,h=>by cases h;simp
 |v::vs,[],r,_,h=>by cases h
 |v::vs,k::ks,r,hv,h=>by
  simp[RD]at h;cases hc:(decide (k<0) || decide (k>eJ v))with
  |true=>rw[hc]at h;cases h
  |false=>
   rw[hc]at h;obtain⟨q,hq,rfl⟩:=iE.1 h;obtain⟨h1,h2,h3⟩:=RF vs ks q (λ x hx=>hv x (by simp[hx])) hq;obtain⟨a1,a2⟩:=adP (hv v (by simp));have hfl:=Mt v;simp at hc;have hk0:0<=k:=(by omega);have hk1:k<=1366:=(by omega);have e1:0<=k*lI (bT v):=Int.mul_nonneg hk0 a1;have e2:k*lI (bT v)<=1366*1099511627776:=Int.mul_le_mul hk1 a2 a1 (by omega);refine⟨by omega,by simp;omega,?_⟩;cases decide (k<eJ v)<;>simp<;>omega
theorem ab2{l:U Int}{p:dF}:∀r (j at':Nat) (c:Int) an (fuel:Nat),p.az.drop j=r->p.az.length<=1000->(∀ v∈r,okV v=true)->at'+r.length<=l.length->l.length<=1000000->0<=c->c+r.length*1501933683542016<=4611686018427387904->an.length+r.length<=1000->r.length<fuel->
 iter (kY l p) fuel (c,at',j,p.gives,an)=some (match RD r ((l.drop at').take r.length)with
  |none=>.inr (.inr (.inr (aG.mk 0 [],0,1)))
  |some q=>.inl (c+q.2,(at'+r.length:Nat),p.gives,an++q.1))
 |[],j,at',c,an,fuel,hj,hp,hv,ha,hl,hc,hcm,hacc,hf=>by obtain⟨f,rfl⟩:∃f,fuel=f+1:=⟨fuel-1,by omega⟩;have:p.az.length<=j:=List.drop_eq_nil_iff.1 hj;refine(dn ?_).trans rfl;simp only[kY];rw[show decide ((j:Int)<p.az.length)=false by simp;omega];simp[RD]
 |v::r,j,at',c,an,fuel,hj,hp,hv,ha,hl,hc,hcm,hacc,hf=>by
  obtain⟨f,rfl⟩:∃f,fuel=f+1:=⟨fuel-1,by omega⟩;obtain⟨h1,h2,h3⟩:=drop_at hj;simp at ha hacc hf;have hlt:at'<l.length:=by omega
  have hk:=dP hlt;obtain⟨k,hkd⟩:∃k,l[at']=k:=⟨_,rfl⟩;rw[hkd]at hk;have htk:(l.drop at').take (v::r).length=k::(l.drop (at'+1)).take r.length:=by rw[List.drop_eq_getElem_cons hlt,hkd];simp
  rw[htk];have HE:=hv v (by simp);have⟨a1,a2⟩:=adP HE;have hfl:=Mt v;have hAr:uM (ax.mk v.bj v.bo v.be v.bk)=some (lI (bT v)):=Rp (pq HE);have hcond:decide ((j:Int)<p.az.length)=true:=by simp;omega
  have hbad:((bif decide (k<0)then some true else some (decide (k>eJ v))):J Bool)=some (decide (k<0) || decide (k>eJ v)):=bO _ _;simp[RD];cases hc0:(decide (k<0) || decide (k>eJ v))with
  |true=>
   refine(dn ?_).trans rfl;simp only[kY,hcond,aj,BN,h1,hk,ai,DY,hbad,hc0];rfl
  |false=>
   simp at hc0;have hk0:0<=k:=(by omega);have e1:0<=k*lI (bT v):=Int.mul_nonneg hk0 a1;have e2:k*lI (bT v)<=1366*1099511627776:=Int.mul_le_mul (by omega) a2 a1 (by omega);simp at hcm;have w1:i64.wrap (k*lI (bT v))=k*lI (bT v):=aQ (by omega) (by omega);have w2:i64.wrap (c+k*lI (bT v))=c+k*lI (bT v):=aQ (by omega) (by omega);have⟨z1,z2,z3⟩:=JI HE;have w3:i64.wrap (v.ca+i64.wrap (3*i64.wrap (eJ v-k)))=v.ca+3*(eJ v-k):=(by rw[aQ (x:=eJ v-k),aQ (x:=3*(eJ v-k)),aQ (by omega) (by omega)]);have step:kY l p (c,at',j,p.gives,an)=some (.inl (c+k*lI (bT v),(at'+1:Nat),(j+1:Nat),p.gives,an++(bif decide (k<eJ v)then [cutV v k]else []))):=(by have hmx:maxLen=9223372036854775807:=rfl;have hap:∀x:ay,bR an.length an.length (sub [x] 0 1).length 1 72=true:=λx=>(by simp[bR,sub];omega);simp only[kY,hcond,aj,BN,h1,hk,ai,DY,hbad,hAr,w1,w2,w3,aO (show at'<9223372036854775807 by omega),bn j,hap,fI,aK];rw[show (decide (k<0) || decide (k>eJ v))=false by simp;omega];by_cases hkp:k>0<;>by_cases hkf:k<eJ v<;>simp[hkp,hkf,cutV,sub]);rw[dV step];have ih:=ab2 (l:=l) (p:=p) r (j+1) (at'+1) (c+k*lI (bT v)) (an++(bif decide (k<eJ v)then [cutV v k]else [])) f h3 hp (λ x hx=>hv x (by simp[hx])) (by omega) hl (by omega) (by omega) (by cases decide (k<eJ v)<;>simp<;>omega) (by omega);rw[ih];cases hq:RD r ((l.drop (at'+1)).take r.length)with
   |none=>rfl
   |some q=>
    have e3:(at'+1+r.length:Nat)=(at'+(v::r).length:Nat):=(by simp;omega);simp[e3];rw[show c+k*lI (bT v)+q.2=c+(k*lI (bT v)+q.2)by omega];cases decide (k<eJ v)<;>simp
theorem ab3{d:aG}{l:U Int}(hn:1000002<=n)(hl:l.length<=1000000)(hg:YO d)(hdl:d.phases.length<=1000) xm:∀r (j at':Nat) (c:Int) an (fuel:Nat),d.phases.drop j=r->(∀ v∈r.flatMap (·.az),okV v=true)->at'+(r.flatMap (·.az)).length<=l.length->0<=c->(r.flatMap (·.az)).length<=1000->c+(r.flatMap (·.az)).length*1501933683542016<=4611686018427387904->an.length+r.length<=1000->r.length<fuel->
 iter (kZ n d l) fuel (c,at',j,xm,an)=some (match Mw r (l.drop at')with
  |none=>.inr (aG.mk 0 [],0,1)
  |some q=>.inl (c+q.2,xm,an++q.1))
 |[],j,at',c,an,fuel,hj,hv,ha,hc,hvl,hcm,hacc,hf=>by obtain⟨f,rfl⟩:∃f,fuel=f+1:=⟨fuel-1,by omega⟩;have:d.phases.length<=j:=List.drop_eq_nil_iff.1 hj;refine(dn ?_).trans rfl;simp only[kZ];rw[show decide ((j:Int)<d.phases.length)=false by simp;omega];simp[Mw]
 |p::r,j,at',c,an,fuel,hj,hv,ha,hc,hvl,hcm,hacc,hf=>by
  obtain⟨f,rfl⟩:∃f,fuel=f+1:=⟨fuel-1,by omega⟩;obtain⟨h1,h2,h3⟩:=drop_at hj;simp only[List.flatMap_cons,dZ,gB]at ha hvl hcm hacc hf;have hgl:=hg p (cZ h1);have hs:=ab2 (l:=l) (p:=p) p.az 0 at' c [] n (by simp) (by omega) (λ v hm=>hv v (by simp[hm])) (by omega) hl hc (by omega) (by simp;omega) (by omega);have e0:((0:Nat):Int)=0:=rfl;rw[e0]at hs;have hcond:decide ((j:Int)<d.phases.length)=true:=by simp;omega
  have hnil:aE 0 ([]:U ay).length=true:=rfl;simp[Mw];cases hq:RD p.az ((l.drop at').take p.az.length)with
  |none=>
   rw[hq]at hs;refine(dn ?_).trans rfl;simp only[kZ,hcond,aj,BN,h1,ai,BG hgl,hnil,aK,hs];rfl
  |some q=>
   rw[hq]at hs;obtain⟨c1,c2,c3⟩:=RF p.az _ q (λ v hm=>hv v (by simp[hm])) hq;have step:kZ n d l (c,at',j,xm,an)=some (.inl (c+q.2,(at'+p.az.length:Nat),(j+1:Nat),xm,an++[dF.mk q.1 p.gives])):=(by have hmx:maxLen=9223372036854775807:=rfl;have hap:∀x:dF,bR an.length an.length (sub [x] 0 1).length 1 48=true:=λx=>(by simp[bR,sub];omega);simp only[kZ,hcond,aj,BN,h1,ai,BG hgl,hnil,aK,hs,gM,fJ,hap,fI,bn j];simp[sub]);rw[dV step];have ih:=ab3 (l:=l) hn hl hg hdl xm r (j+1) (at'+p.az.length) (c+q.2) (an++[dF.mk q.1 p.gives]) f h3 (λ v hm=>hv v (by simp only[List.flatMap_cons,bF];exact .inr hm)) (by omega) (by omega) (by omega) (by omega) (by simp;omega) (by omega);rw[ih];cases Mw r (l.drop (at'+p.az.length))with
   |none=>rfl
   |some w=>simp[Int.add_assoc]
def G0(b:Bool)(d:aG)(l:U Int):aG×Int×Int:=
 bif !b || decide (l.length≠(ch d).length)then(aG.mk 0 [],0,1)else match Mw d.phases l with
  |none=>(aG.mk 0 [],0,1)
  |some q=>bif(q.1.flatMap (·.az)).isEmpty then(aG.mk 0 [],0,1)else(aG.mk d.lot q.1,q.2,0)
theorem Pg:∀ps l (q:U dF×Int),(∀ v∈ps.flatMap (·.az),okV v=true)->Mw ps l=some q->q.1.length=ps.length/\(∀ i (h:i<q.1.length) (h':i<ps.length),q.1[i].az.length<=ps[i].az.length/\q.1[i].gives=ps[i].gives)
 |[],l,q,_,h=>by cases h;exact⟨rfl,λi h=>by cases h⟩
 |p::ps,l,q,hv,h=>by
  simp[Mw]at h;rw[ah]at h;obtain⟨r,h1,h⟩:=h;obtain⟨w,h2,rfl⟩:=iE.1 h;have i1:=RF p.az _ r (λ v hm=>hv v (by simp[hm])) h1;obtain⟨i2,i3⟩:=Pg ps _ w (λ v hm=>hv v (by simp only[List.flatMap_cons,bF];exact .inr hm)) h2;refine⟨by simp[i2],λi h h'=>?_⟩;cases i with
  |zero=>exact⟨i1.2.2,rfl⟩
  |succ i=>exact i3 i (by simpa using h) (by simpa using h')
theorem RG{d:aG}{l:U Int}{b:Bool}(hd:xV d)(hg:YO d)(hv:(ch d).length<=1000)(hb:eY n d=some b)(hbv:b=true->∀v∈ch d,okV v=true)(hn:4000002<=n):gK n d l=some (G0 b d l):=by
 unfold gK G0;rw[YU hd (by omega),hb];cases b with
 |false=>simp
 |true=>
  simp only[Bool.not_true,au,ai,Bool.false_or];by_cases hl:l.length=(ch d).length;rw[show ((l.length:Int) !=((ch d).length:Nat))=false by simp[hl],show decide (l.length≠(ch d).length)=false by simp[hl]];have hs:=ab3 (n:=n) (d:=d) (l:=l) (by omega) (by omega) hg hd.1 d.lot d.phases 0 0 0 [] n (by simp) (hbv rfl) (by rw[hl];exact Nat.le_of_eq (Nat.zero_add _)) (Int.le_refl _) hv (by have:(d.phases.flatMap (·.az)).length=(ch d).length:=rfl;omega) (by simp;exact hd.1) (by have:=hd.1;omega);have e0:((0:Nat):Int)=0:=rfl;rw[e0]at hs;have hnil:aE 0 ([]:U dF).length=true:=rfl;rw[hnil,hs];simp;cases hq:Mw d.phases l with
  |none=>rfl
  |some q=>
   have⟨q1,q2⟩:=Pg d.phases l q (hbv rfl) hq;have arO:xV (aG.mk d.lot q.1):=⟨by rw[q1];exact hd.1,λp hp=>by obtain⟨i,hi,rfl⟩:=mem_iff_getElem.1 hp;have h2:=q2 i hi (by rw[<- q1];exact hi);exact Nat.le_trans h2.1 (hd.2 _ (getElem_mem _))⟩;simp;rw[YU arO (by omega)];simp;have hvl:ch (aG.mk d.lot q.1)=q.1.flatMap (·.az):=rfl;rw[hvl];cases q.1.flatMap (·.az)with
   |nil=>rfl
   |cons x t=>
    rfl
  rw[show ((l.length:Int) !=((ch d).length:Nat))=true by simpa using λe:l.length=((ch d).length:Int)=>hl (by omega),show decide (l.length≠(ch d).length)=true by simp[hl]];rfl
theorem cX.length{a b:U aD}(h:cX a b):a.length=b.length:=by
 have:a.Perm b:=by
  rw[List.perm_iff_count];intro x;have h1:∀l:U aD,(l.filter λy=>y.cost==x.cost).count x=l.count x:=λl=>by simp
  rw[<- h1 a,<- h1 b,h x.cost]
 exact this.length_eq
theorem anN{Y:Type}{ys:U Y}{ok:Y->Bool}{f:Y->aD}{r:U aD}{p:aD->Bool}(hn:ys.Nodup)(hf:∀y z,f y=f z->y=z)(hs:lv r)(hst:cX r ((ys.filter ok).map f)):
 (∀ c,r.find? p=some c->∃y∈ys,ok y=true/\f y=c/\p c=true/\(∀ z∈ys,ok z=true->p (f z)=true->c.cost<=(f z).cost)/\∀pre post,ys=pre++y::post->∀z∈pre,ok z=true->p (f z)=true->(f z).cost≠c.cost)/\
 (r.find? p=none->∀z∈ys,ok z=true->p (f z)=false):=by
 constructor;intro c hc;obtain⟨hp,A,B,hr,hA⟩:=List.find?_eq_some_iff_append.1 hc;have hcm:c∈r:=by rw[hr];simp
 obtain⟨y,hy,rfl⟩:=mem_map.1 ((hst.mem c).1 hcm);obtain⟨hy1,hy2⟩:=mem_filter.1 hy;refine⟨y,hy1,hy2,rfl,hp,λz hz hz1 hz2=>?_,λpre post hys z hz hz1 hz2 he=>?_⟩;have Sx:f z∈r:=(hst.mem _).2 (mem_map.2 ⟨z,mem_filter.2 ⟨hz,hz1⟩,rfl⟩);rw[hr]at Sx hs;rcases bF.1 Sx with h|h;have:=hA _ h;rw[hz2]at this;cases this;rcases aL.1 h with h|h;rw[h];exact Int.le_refl _;exact(pairwise_cons.1 (pairwise_append.1 hs).2.1).1 _ h;have h1:(r.filter λx=>x.cost==(f y).cost).find? p=some (f y):=by rw[hr,filter_append,List.find?_append,List.filter_cons_of_pos (by simp)];rw[List.find?_eq_none.2 λa ha=>?_,Option.none_or,List.find?_cons_of_pos hp];have:=hA a (mem_filter.1 ha).1;simpa using this
 rw[hst (f y).cost,hys]at h1;rw[filter_append,map_append,filter_append,List.find?_append]at h1;obtain⟨w,hw⟩:∃w,((List.map f (pre.filter ok)).filter λx=>x.cost==(f y).cost).find? p=some w:=by
  cases hh:((List.map f (pre.filter ok)).filter λx=>x.cost==(f y).cost).find? p with
  |some w=>exact⟨w,rfl⟩
  |none=>
   have:=List.find?_eq_none.1 hh (f z) (mem_filter.2 ⟨mem_map.2 ⟨z,mem_filter.2 ⟨hz,hz1⟩,rfl⟩,by simp[he]⟩);rw[hz2]at this;exact(this rfl).elim
 rw[hw]at h1;injection h1 with h1;have hwm:=(mem_filter.1 (List.mem_of_find?_eq_some hw)).1;obtain⟨u,hu,hu2⟩:=mem_map.1 hwm;have hu1:=(mem_filter.1 hu).1;have:u=y:=hf u y (hu2.trans h1);rw[hys]at hn;exact(List.nodup_append.1 hn).2.2 u hu1 y (by simp) this;intro hc z hz hz1;have Sx:f z∈r:=(hst.mem _).2 (mem_map.2 ⟨z,mem_filter.2 ⟨hz,hz1⟩,rfl⟩);have:=List.find?_eq_none.1 hc _ Sx;simpa using this
def HN(n:Nat)(t:gL)(d:aG)(day:Int):Bool:=(xW n t d==0)&&decide (O8 n t d day=[])
def Ph(d:aG)(y:U Nat):aG×Int×Int:=G0 true d (toI y)
def xf(d:aG)(y:U Nat):Bool:=(Ph d y).2.2==0
def Mx(d:aG)(y:U Nat):aD:=aD.mk (toI y) (Ph d y).2.1
def LG(n:Nat)(t:gL)(d:aG)(day:Int)(y:U Nat):Bool:=xf d y&&HN n t (Ph d y).1 day
theorem ao6{a b:U Nat}(h:toI a=toI b):a=b:=by exact(List.map_inj_right λx y e=>by omega).1 h
structure Ts(d:aG):Prop where
 law:YR d
 y6:(ch d).length<=1000
 top:ej (caps d)<=2001
theorem anO{d:aG}(hd:YR d)(hv:∀v∈ch d,okV v=true) y:YR (Ph d y).1:=by
 have he:YR (aG.mk 0 []):=⟨⟨by simp,λp hp=>by simp at hp⟩,λp hp=>by simp at hp⟩;unfold Ph G0;cases (!true || decide ((toI y).length≠(ch d).length))with
 |true=>exact he
 |false=>
  cases hq:Mw d.phases (toI y)with
  |none=>exact he
  |some q=>
   simp;cases (q.1.flatMap (·.az)).isEmpty with
   |true=>exact he
   |false=>
    have⟨q1,q2⟩:=Pg d.phases (toI y) q hv hq;refine⟨⟨by show q.1.length<=1000;rw[q1];exact hd.1.1,λp hp=>?_⟩,λp hp=>?_⟩;obtain⟨i,hi,rfl⟩:=mem_iff_getElem.1 hp;have h2:=q2 i hi (by rw[<- q1];exact hi);exact Nat.le_trans h2.1 (hd.1.2 _ (getElem_mem _));obtain⟨i,hi,rfl⟩:=mem_iff_getElem.1 hp;have h2:=q2 i hi (by rw[<- q1];exact hi);show(q.1[i]).gives.length<=1000;rw[h2.2];exact hd.2 _ (getElem_mem _)
theorem ags:∀cs (k:Nat) l,(DZ cs k l).length<=k+1
 |cs,0,l=>by simp[DZ]
 |cs,k+1,l=>by
  simp[DZ];cases ye cs l with
  |none=>simp
  |some r=>have:=ags cs k r;simp;omega
section
variable {n:Nat} {t:gL} {d:aG} {day:Int}
theorem aki(hC:∀y,fits (caps d) y->gK n d (toI y)=some (Ph d y)) c1 c2 c3 c4 c5 c6 c7 c8 c9 c10 c11 c12 c13 c16:
 ∀(ys:U (List Nat)) l,(∀ y∈ys,fits (caps d) y)->l.length+ys.length<=100000->
  Tv (oN n) (ys.map toI) (c1,c2,c3,c4,c5,c6,c7,c8,c9,c10,c11,c12,c13,d.lot,d.phases,c16,l)=some (c1,c2,c3,c4,c5,c6,c7,c8,c9,c10,c11,c12,c13,d.lot,d.phases,c16,l++(ys.filter (xf d)).map (Mx d))
 |[],l,_,_=>by simp[Tv]
 |y::ys,l,hf,hl=>by
  have hc:=hC y (hf y (by simp));have hmx:maxLen=9223372036854775807:=rfl;simp at hl;have hap:∀x:aD,bR l.length l.length (sub [x] 0 1).length 1 32=true:=λx=>by simp[bR,sub];omega
  have step:oN n (c1,c2,c3,c4,c5,c6,c7,c8,c9,c10,c11,c12,c13,d.lot,d.phases,c16,l) (toI y)=some (c1,c2,c3,c4,c5,c6,c7,c8,c9,c10,c11,c12,c13,d.lot,d.phases,c16,bif xf d y then l++[Mx d y]else l):=by have hc':gK n (aG.mk d.lot d.phases) (toI y)=some (Ph d y):=hc;simp[oN,hc',hap];unfold xf Mx;cases ((Ph d y).2.2==0)<;>rfl
  simp[Tv,step];rw[aki hC c1 c2 c3 c4 c5 c6 c7 c8 c9 c10 c11 c12 c13 c16 ys _ (λ z hz=>hf z (by simp[hz])) (by cases xf d y<;>simp<;>omega)];cases h:xf d y<;>simp[h]
theorem ari(x y:aD):∃c,(λ (y1:aD×aD×Unit)=>o7 y1.1 y1.2.1) (x,y,())=some c/\(c<0↔x.cost<y.cost):=by refine⟨if x.cost<y.cost then -1 else if y.cost<x.cost then 1 else 0,by simp[o7,jw],?_⟩;by_cases h1:x.cost<y.cost;simp[h1];by_cases h2:y.cost<x.cost<;>simp[h1,h2]
theorem akj(hd:YR d)(hn:AI n)(h0:xW n t d=0):eY n d=some true/\ch d≠[]:=by
 have hn1:=hn.1;obtain⟨b,hb,_⟩:=adF (n:=n) (d:=d) hd.1 hd.2 (by omega);cases b with
 |true=>
  refine⟨hb,λh=>?_⟩;simp only[eY,all_eq hd.1 (show 1001<=n by omega),ai,h]at hb;cases hc1:decide (d.lot<0)<;>cases hc2:decide (d.lot>1073741824)<;>cases hc3:decide (d.phases.length<1)<;>cases hc4:decide (d.phases.length>8)<;>simp at hb
 |false=>
  have hR:kS n (mi t) (mQ t.land d.lot).1 d=some false:=by unfold kS;rw[hb];rfl
  refine absurd h0 ?_;unfold xW T0;rw[hR];cases (mQ t.land d.lot).2<;>decide
theorem agt(ht:yn t)(hd:Ts d)(hn:AI n):∃fl c e,jY n t d day=some (fl,c,e)/\(xW n t d≠0->fl=[]/\c=0/\e=xW n t d)/\
 (xW n t d=0->(e=0/\∃y∈Pf d,fl=toI y/\c=(Mx d y).cost/\LG n t d day y=true/\(∀ z∈Pf d,LG n t d day z=true->(Mx d y).cost<=(Mx d z).cost)/\∀pre post,Pf d=pre++y::post->∀z∈pre,LG n t d day z=true->(Mx d z).cost≠(Mx d y).cost)\/
  (e=4/\fl=[]/\c=0/\∀y∈Pf d,LG n t d day y=false)):=by
 have hn1:=hn.1;have hB:=abY (n:=n) day ht hd.law hn;unfold jY;rw[hB];simp only[ai];by_cases h0:xW n t d=0;rw[show (xW n t d !=0)=false by simp[h0],au];obtain⟨_,hv⟩:=look_eq (n:=n) ht hd.law hn;have hv:=hv h0;have hvl:=hd.y6;have⟨hform,_⟩:=akj hd.law hn h0;have hC:∀y,fits (caps d) y->gK n d (toI y)=some (Ph d y):=λy hy=>RG hd.law.1 hd.law.2 hvl hform (λ _=>hv) (by omega);have hz:=YZ d;have hfits:∀y∈Pf d,fits (caps d) y:=λy hy=>(FX _ _ hz.1 y hy).1;have hall:(Pf d).length<=2001:=by have:=ags (caps d) (ej (caps d)-1) (FY d);have:=hd.top;unfold Pf;omega
 have htop:ej ((ch d).map kB)<=2001:=hd.top;rw[YU hd.law.1 (by omega)];simp only[ai,fJ,aK,aj];rw[ao4 (ch d) htop (by omega) (by omega)];simp only[ai,au,aiE];have e0:aE 0 ([]:U aD).length=true:=rfl;rw[e0];simp[aj];rw[adO hd.law.1 (by omega) (by have:=hd.top;omega)];simp;rw[aki hC t.cw t.co t.cm t.br t.cx t.cp t.cL t.ct t.land t.cA t.windows t.built t.base 0 (Pf d) [] hfits (by simp;omega)]
 try simp
 obtain⟨L0,hL0⟩:∃L0,((Pf d).filter (xf d)).map (Mx d)=L0:=⟨_,rfl⟩;have hL0l:L0.length<=2001:=by rw[<- hL0,length_map];exact Nat.le_trans (List.length_filter_le _ _) hall
 rw[hL0];obtain⟨r,hr,hsr,hst⟩:=RA (φ:=λ(y1:aD×aD×Unit)=>o7 y1.1 y1.2.1) ari (n:=n) L0 (by omega) (by omega);rw[hr];have hlen:=hst.length;have hmem:∀x∈r,∃y∈Pf d,xf d y=true/\Mx d y=x:=λx hx=>by have:=(hst.mem x).1 hx;rw[<- hL0]at this;obtain⟨y,hy,rfl⟩:=mem_map.1 this;exact⟨y,(mem_filter.1 hy).1,(mem_filter.1 hy).2,rfl⟩
 let p:aD->Bool:=λx=>HN n t (G0 true d x.floors).1 day
 obtain⟨o,g1,g2⟩:=fu (step:=lH n day t.cw t.co t.cm t.br t.cx t.cp t.cL t.ct t.land t.cA t.windows t.built t.base d.lot d.phases L0 r) (λ i v=>v=i/\i<=r.length/\∀x∈r.take i,p x=false)
  (λ o=>(o=.inl ()/\r.find? p=none)\/∃x,o=.inr (x.floors,x.cost,0)/\r.find? p=some x) r.length (λ k v h=>h.2.1) (by
  rintro i v ⟨rfl,hi,hpre⟩;by_cases hlt:i<r.length;obtain⟨y,hy1,hy2,hy3⟩:=hmem r[i] (getElem_mem hlt);have hch:gK n (aG.mk d.lot d.phases) r[i].floors=some (Ph d y):=by rw[<- hy3];exact hC y (hfits y hy1)
  have hla:rZ n (gL.mk t.cw t.co t.cm t.br t.cx t.cp t.cL t.ct t.land t.cA t.windows t.built t.base) (Ph d y).1 day=some (HN n t (Ph d y).1 day):=alB day ht (anO hd.law hv y) hn;have hpx:p r[i]=HN n t (Ph d y).1 day:=by show HN n t (G0 true d r[i].floors).1 day=_;rw[<- hy3];rfl
  have hg:bu r ((0:Nat)+i)=some r[i]:=bM hlt;have hb:decide (i<(L0.length:Int))=true:=by simp;omega
  have hin:cz i L0.length=true:=aU (by omega);cases hp:HN n t (Ph d y).1 day with
  |true=>
   refine .inr ⟨.inr (r[i].floors,r[i].cost,0),?_,.inr ⟨r[i],rfl,?_⟩⟩;simp only[lH,hb,aj,hin,hg,ai,hch,hla,hp];rfl;rw[hp]at hpx;rw[List.find?_eq_some_iff_append];refine⟨hpx,r.take i,r.drop (i+1),?_,λa ha=>by rw[hpre a ha];rfl⟩;rw[<- List.drop_eq_getElem_cons hlt,List.take_append_drop]
  |false=>
   refine .inl ⟨_,?_,rfl,hlt,λx hx=>?_⟩;simp only[lH,hb,aj,hin,hg,ai,hch,hla,hp,au];rw[aO (by omega)];rw[List.take_add_one,dP hlt,bF]at hx;rcases hx with hx|hx;exact hpre x hx;simp at hx;rw[hx,hpx,hp]
  refine .inr ⟨.inl (),?_,.inl ⟨rfl,?_⟩⟩;simp only[lH];rw[show decide (i<(L0.length:Int))=false by simp;omega];rfl;rw[List.find?_eq_none];intro x hx;rw[List.take_of_length_le (by omega)]at hpre;rw[hpre x hx];simp) n 0 0 ⟨rfl,Nat.zero_le _,by simp⟩ (by omega)
 have hfo:=anN (ys:=Pf d) (ok:=xf d) (f:=Mx d) (r:=r) (p:=p) (Uf _ _ hz.1) (λ y z e=>ao6 (by injection e)) hsr (by rw[hL0];exact hst);have uv:∀z,LG n t d day z=(xf d z&&p (Mx d z)):=λz=>rfl;rcases g2 with ⟨rfl,hno⟩|⟨x,rfl,hx⟩;refine⟨[],0,4,?_,λh=>(h h0).elim,λ_=>.inr ⟨rfl,rfl,rfl,λy hy=>?_⟩⟩;show dM (iter _ n 0) _=_;rw[g1,gM];rw[uv];cases hoy:xf d y with
 |false=>rfl
 |true=>rw[hfo.2 hno y hy hoy];rfl
 obtain⟨y,hy1,hy2,rfl,hy4,hy5,hy6⟩:=hfo.1 x hx;refine⟨toI y,(Mx d y).cost,0,?_,λh=>(h h0).elim,λ_=>.inl ⟨rfl,y,hy1,rfl,rfl,by rw[uv,hy2,hy4];rfl,λz hz h=>?_,λpre post he z hz h=>?_⟩⟩;show dM (iter _ n 0) _=_;rw[g1,nO];rfl;rw[uv,aX]at h;exact hy5 z hz h.1 h.2;rw[uv,aX]at h;exact hy6 pre post he z hz h.1 h.2;rw[show (xW n t d !=0)=true by simpa using h0,aj];exact⟨[],0,xW n t d,rfl,λ_=>⟨rfl,rfl,rfl⟩,λh=>(h0 h).elim⟩
end
theorem JJ{α:Type}{l:U α}{K n:Nat}(f:α->Nat)(c:Nat){step:Int->J (Int⊕(Unit⊕Bool))}(hs:∀v,step v=((bif decide (v<l.length)then some (decide (v<K))else some false):J Bool).bind λb=>bif b then(bu l v).bind λx=>bif decide ((f x:Int)>c)then(some false).map λa=>.inr (.inr a)else some (.inl (i64.wrap (v+1)))else some (.inr (.inl ())))(hK:K<1000)(hn:K+1<n):
 iter step n 0=some (.inr false)\/(iter step n 0=some (.inl ())/\(l.length<=K->∀x∈l,f x<=c)):=by refine VY (good:=λx=>f x<=c) (λ i hi hi2=>?_) (λ i h=>?_) hn;rw[hs,JH i l.length K rfl,show decide (i<l.length/\i<K)=true by simp[hi,hi2]];simp only[ai,aj,bB hi,bn i];by_cases h:(f l[i]:Int)>c;left;simp only[h,decide_true,aj];rfl;right;simp only[h,decide_false,au];exact⟨trivial,by omega⟩;rw[hs,JH i l.length K rfl,show decide (i<l.length/\i<K)=false by simp;omega];rfl
theorem MB(hn:4000002<=n):∀(m:Nat) (e:bZ) most (L:Nat),(toE e).wt<=4000000->0<=most->most<=1000->L<=100->L+1<=m->∃r,tZ n m e most L=some r/\1<=r/\r<=most+1
 | 0,_,_,_,_,_,_,_,h=>absurd h (by omega)
 |m+1,e,most,L,hw,h0,h1,hL,hm=>by have hla:=adE e;show ∃r,Bu n (tZ n m) e most L=some r/\_;simp[Bu];by_cases hL1:(L:Int)<1;simp only[hL1,decide_true,aj];rw[aQ (by omega) (by omega)];exact⟨most+1,rfl,by omega,by omega⟩;simp[hL1];obtain⟨o,g1,g2,g3⟩:=fu (step:=uV (tZ n m) e most L) (λ i (v:Int×Int)=>v.2=i/\i<=e.args.length/\1<=v.1/\v.1<=most+1) (λ o=>1<=o/\o<=most+1) e.args.length (λ k v h=>h.2.1) (by rintro i ⟨v1,v2⟩ ⟨hv,hi,i1,i2⟩;subst hv;by_cases hlt:i<e.args.length;by_cases hle:v1<=most;left;have hwx:=aiu (getElem_mem hlt);obtain⟨r,r1,r2,r3⟩:=MB hn m e.args[i] (most-v1) (L-1) (by omega) (by omega) (by omega) (by omega) (by omega);have eL:i64.wrap (L-1)=(L-1:Nat):=jq (by omega) (by omega);refine⟨(v1+r,(i+1:Nat)),?_,rfl,hlt,by omega,by omega⟩;simp only[uV,show decide ((i:Int)<e.args.length)=true from by simp;omega,aj,hle,decide_true,ai,bB hlt,aQ (show -9223372036854775808<=most-v1 by omega) (show most-v1<=9223372036854775807 by omega),eL,r1,aQ (show -9223372036854775808<=v1+r by omega) (show v1+r<=9223372036854775807 by omega),bn i];right;refine⟨v1,?_,i1,i2⟩;simp[uV,hle];right;refine⟨v1,?_,i1,i2⟩;simp only[uV,show decide ((i:Int)<e.args.length)=false from by simp;omega,au,ai]) n 0 (1,0) ⟨rfl,Nat.zero_le _,by simp,by omega⟩ (by omega);simp only[g1];exact⟨o,rfl,g2,g3⟩
def anP(p:dh):Prop:=(p.tables.length<=4/\∀t∈p.tables,t.rows.length<=8)/\p.zones.length<=5/\p.caps.length<=3/\p.rules.length<=6/\∀r∈p.rules,YE r
theorem alF{p:dh}(hd:io p.defs)(hw:WtR p.rules)(hn:AI n):∃b,OE n p=some b/\(b=true->anP p):=by
 obtain⟨hn1,hn2⟩:=hn;have s1:=VY (l:=p.rules) (K:=5) (n:=n) (step:=Bv n p) (good:=YE) (λ i hi hK=>by obtain⟨r,hr,_,_⟩:=MB (n:=n) (by omega) n (mf p.rules[i]) 20 14 (hw _ (getElem_mem hi)) (by omega) (by omega) (by omega) (by omega);have hr':Dz n (bZ.mk p.rules[i].lp p.rules[i].nq p.rules[i].np p.rules[i].ke p.rules[i].gz) 20 14=some r:=hr;have e:=JH i p.rules.length 5 (k:=5) rfl;simp only[Bv,e,show decide (i<p.rules.length/\i<5)=true from by simp[hi,hK],ai,aj,bB hi,hr',bn i];by_cases c1:r>20;left;simp only[c1,decide_true,aj,ai];rfl;by_cases c2:(p.rules[i].zones.length:Int)>6;left;simp only[c1,c2,decide_true,decide_false,aj,au,ai];rfl;by_cases c3:(p.rules[i].except.length:Int)>6;left;simp only[c1,c2,c3,decide_true,decide_false,aj,au,ai];rfl;right;simp only[c1,c2,c3,decide_false,au,ai];exact⟨trivial,by omega,by omega⟩) (λ i h=>by have e:=JH i p.rules.length 5 (k:=5) rfl;simp only[Bv,e,show decide (i<p.rules.length/\i<5)=false from by simp;omega,ai,au]) (by omega);have s2:=VY (l:=p.defs) (K:=5) (n:=n) (step:=Bw n p) (good:=λ_=>True) (λ i hi hK=>by
  obtain⟨r,hr,_,_⟩:=MB (n:=n) (by omega) n _ 20 14 (hd.body (getElem_mem hi)) (by omega) (by omega) (by omega) (by omega);have hr':Dz n (bZ.mk p.defs[i].ju p.defs[i].mn p.defs[i].lj p.defs[i].jn p.defs[i].ez) 20 14=some r:=hr;have e:=JH i p.defs.length 5 (k:=5) rfl;simp only[Bw,e,show decide (i<p.defs.length/\i<5)=true from by simp[hi,hK],ai,aj,bB hi,hr',bn i];cases decide (r>20)with
  |true=>exact .inl rfl
  |false=>exact .inr ⟨rfl,trivial⟩) (λ i h=>by have e:=JH i p.defs.length 5 (k:=5) rfl;simp only[Bw,e,show decide (i<p.defs.length/\i<5)=false from by simp;omega,ai,au]) (by omega)
 have s3:=JJ (l:=p.zones) (K:=5) (n:=n) (step:=TF p) (λ x=>x.corners.length) 12 (λ v=>rfl) (by decide) (by omega);have s4:=JJ (l:=p.caps) (K:=4) (n:=n) (step:=TH p) (λ x=>x.corners.length) 12 (λ v=>rfl) (by decide) (by omega);have s5:=JJ (l:=p.tables) (K:=3) (n:=n) (step:=TJ p) (λ x=>x.rows.length) 8 (λ v=>rfl) (by decide) (by omega);have no:∃b,some false=some b/\(b=true->anP p):=⟨false,rfl,λh=>(by cases h)⟩;unfold OE;rcases s1 with h1|⟨h1,hr⟩;rw[h1];exact no;rcases s2 with h2|⟨h2,_⟩;rw[h1,h2];exact no;rcases s3 with h3|⟨h3,_⟩;rw[h1,h2,h3];exact no;rcases s4 with h4|⟨h4,_⟩;rw[h1,h2,h3,h4];exact no;rcases s5 with h5|⟨h5,ht⟩;rw[h1,h2,h3,h4,h5];exact no;rw[h1,h2,h3,h4,h5];simp only[bA];refine⟨_,rfl,λhb=>?_⟩;simp at hb;exact⟨⟨by omega,ht (by omega)⟩,by omega,by omega,by omega,hr (by omega)⟩
theorem flat3:∀{l:U dF},(∀ p∈l,p.az.length<=3)->(l.flatMap (·.az)).length<=l.length*3
 |[],_=>by simp
 |p::l,h=>by have:=flat3 λq hq=>h q (bQ _ hq);have:=h p (by simp);rw[List.flatMap_cons,dZ,gB];omega
theorem anQ{t:gL}{d:aG}(hz:anH t)(hn:AI n):∃b,VK n t d=some b/\(b=true->yn t/\Ts d):=by
 have hn':=hn;obtain⟨hn1,hn2⟩:=hn;have s1:=JJ (l:=t.land) (K:=4) (n:=n) (step:=Yi t) (λ x=>x.area.length) 4 (λ v=>rfl) (by decide) (by omega);have s2:=JJ (l:=t.cA) (K:=4) (n:=n) (step:=Yj t) (λ x=>x.area.length) 4 (λ v=>rfl) (by decide) (by omega);have s3:=VY (l:=d.phases) (K:=4) (n:=n) (step:=FE d) (good:=λx=>x.az.length<=3/\x.gives.length<=3) (λ i hi hK=>by have e:=JH i d.phases.length 4 (k:=4) rfl;simp only[FE,e,show decide (i<d.phases.length/\i<4)=true from by simp[hi,hK],ai,aj,bB hi,bn i];by_cases c1:(d.phases[i].az.length:Int)>3;left;simp only[c1,decide_true,aj,ai];rfl;by_cases c2:(d.phases[i].gives.length:Int)>3;left;simp only[c1,c2,decide_true,decide_false,aj,au,ai];rfl;right;simp only[c1,c2,decide_false,au,ai];exact⟨trivial,by omega,by omega⟩) (λ i h=>by have e:=JH i d.phases.length 4 (k:=4) rfl;simp only[FE,e,show decide (i<d.phases.length/\i<4)=false from by simp;omega,ai,au]) (by omega);have no:∃b,some false=some b/\(b=true->yn t/\Ts d):=⟨false,rfl,λh=>(by cases h)⟩;obtain⟨b,hb,hb2⟩:=alF (n:=n) (p:=dh.mk t.cw t.co t.cm t.br t.cx t.cp t.cL t.ct) hz.defs hz.rules hn';unfold VK;rcases s1 with h1|⟨h1,hl⟩;rw[h1];exact no;rcases s2 with h2|⟨h2,he⟩;rw[h1,h2];exact no;rcases s3 with h3|⟨h3,hd⟩;rw[h1,h2,h3];exact no;rw[h1,h2,h3,hb];cases b with
 |false=>exact no
 |true=>
  have⟨⟨t1,t2⟩,z1,c1,r1,r2⟩:=hb2 rfl;simp at t1 t2 z1 c1 r1 r2;by_cases d4:(d.phases.length:Int)<=3;have hd':=hd (by omega);have hF:xV d:=⟨by omega,λp hm=>by have:=(hd' p hm).1;omega⟩;have hG:YO d:=λp hm=>by have:=(hd' p hm).2;omega
  obtain⟨r,hr,hr2⟩:=ao5 (n:=n) hF (by omega);have d4':decide ((d.phases.length:Int)<=3)=true:=by simpa using d4
  rw[hr];simp only[aj,ai,bA];refine⟨_,rfl,λh=>?_⟩;simp at h;obtain⟨d1,d2,d3,d5⟩:=h;have hl':=hl (by omega);have he':=he (by omega);refine⟨⟨λ l hm=>⟨by have:=hl' l hm;omega,hz.B4 l hm⟩,by omega,⟨by omega,λe hm=>by have:=he' e hm;omega⟩,by omega,by omega,by omega,by omega,λr hm=>⟨r2 r hm,hz.rules r hm⟩,⟨hz.defs,⟨by show t.co.length<=_;omega,λx hx=>by have:=t2 x hx;omega⟩⟩⟩,⟨hF,hG⟩,?_,by omega⟩;have:=flat3 λp hp=>(hd' p hp).1;show(d.phases.flatMap (·.az)).length<=1000;omega;have d4':decide ((d.phases.length:Int)<=3)=false:=by simpa using d4
  rw[d4'];cases decide ((t.land.length:Int)<=3)<;>cases decide ((t.cA.length:Int)<=3)<;>cases decide ((t.built.length:Int)<=4)<;>exact no
def MC:aG:=aG.mk 1 [dF.mk [ay.mk 1 1 5 6 0 10 1 0 false] []]
def ME(m:Int):gL:=gL.mk [] [] [] [dw.mk (⟨#[114]⟩) ([]) ([]) 0 0 0 false 0 12 0 (⟨#[]⟩) (⟨#[]⟩) [(bZ.mk 1 0 (⟨#[104,101,105,103,104,116]⟩) (⟨#[]⟩) ([])),(bZ.mk 0 m (⟨#[]⟩) (⟨#[]⟩) ([]))] 0 0 0 0 0 0 0] [] [] [] 0 [j5.mk 1 0 [ax.mk 0 0 9 9] []] [] [] [] []
theorem akk m:yn (ME m) where
 lots:=λl hl=>by simp only[ME,bg]at hl;subst hl;exact⟨by decide,by decide⟩
 land:=Nat.le_of_ble_eq_true (by kernel_rfl)
 eas:=⟨Nat.le_of_ble_eq_true (by kernel_rfl),λe he=>by simp[ME]at he⟩
 built:=Nat.le_of_ble_eq_true (by kernel_rfl)
 zones:=Nat.le_of_ble_eq_true (by kernel_rfl)
 caps:=Nat.le_of_ble_eq_true (by kernel_rfl)
 rules:=Nat.le_of_ble_eq_true (by kernel_rfl)
 rule:=λr hr=>by simp only[ME,bg]at hr;subst hr;exact⟨⟨Nat.le_of_ble_eq_true (by kernel_rfl),Nat.le_of_ble_eq_true (by kernel_rfl)⟩,Nat.le_of_ble_eq_true (by kernel_rfl)⟩
 plan:=⟨Nat.le_of_ble_eq_true (by kernel_rfl),Nat.le_of_ble_eq_true (by kernel_rfl),λx hx=>by simp[mi,ME]at hx⟩
theorem lr:Ts MC where
 law:=by refine⟨⟨by decide,λp hp=>?_⟩,λp hp=>?_⟩<;>(simp only[MC,bg]at hp;subst hp;decide)
 y6:=by decide
 top:=by decide
theorem aq2:Pf MC=[[0],[1],[2],[3],[4]]:=by kernel_rfl
theorem aql:jY 5000003 (ME 8) MC 0=some ([2],40,0):=by
 obtain⟨fl,c,e,h1,_,h3⟩:=agt (n:=5000003) (day:=0) (akk 8) lr TE;have f0:LG 5000003 (ME 8) MC 0 [0]=false:=by kernel_rfl
 have f1:LG 5000003 (ME 8) MC 0 [1]=false:=by kernel_rfl
 have f2:LG 5000003 (ME 8) MC 0 [2]=true:=by kernel_rfl
 have f4:LG 5000003 (ME 8) MC 0 [4]=false:=by kernel_rfl
 have k2:Mx MC [2]=aD.mk [2] 40:=by kernel_rfl
 have k3:Mx MC [3]=aD.mk [3] 60:=by kernel_rfl
 rcases h3 (by kernel_rfl)with ⟨rfl,y,hy,rfl,rfl,g1,g2,_⟩|⟨_,_,_,g⟩;rw[aq2]at hy g2;have g2:=g2 [2] (by simp) f2;simp at hy;rcases hy with rfl|rfl|rfl|rfl|rfl;rw[f0]at g1;cases g1;rw[f1]at g1;cases g1;rw[h1];rfl;exact absurd g2 (by decide);cases g1;have:=g [2] (by rw[aq2];simp);rw[f2]at this;cases this
theorem aqm:jY 5000003 (ME 2) MC 0=some ([],0,4):=by
 obtain⟨fl,c,e,h1,_,h3⟩:=agt (n:=5000003) (day:=0) (akk 2) lr TE;have f:(Pf MC).all (λ y=>!LG 5000003 (ME 2) MC 0 y)=true:=by kernel_rfl
 rcases h3 (by kernel_rfl)with ⟨rfl,y,hy,rfl,rfl,g1,_⟩|⟨rfl,rfl,rfl,_⟩;have:=List.all_eq_true.1 f y hy;rw[g1]at this;cases this;exact h1
theorem ao8:Kw 5000003=some true:=by
 have s8:zF 8=some (ME 8,MC):=by kernel_rfl
 have s2:zF 2=some (ME 2,MC):=by kernel_rfl
 obtain⟨hf,_⟩:=akj (n:=5000003) (t:=ME 8) lr.law TE (by kernel_rfl);have hC:=λl=>RG (n:=5000003) (l:=l) lr.law.1 lr.law.2 lr.y6 hf (λ _=>by decide) (by decide);unfold Kw;simp[s8,s2,aql,aqm,hC];rfl
inductive iz:List ay->List ay->Int->Prop
 |nil:iz [] [] 0
 |cut {l l' c} (v:ay) (k:Int) (h:0<=k/\k<eJ v):iz l l' c->iz (v::l) (cutV v k::l') (k*lI (bT v)+c)
 |drop {l l' c} (v:ay):iz l l' c->iz (v::l) l' (eJ v*lI (bT v)+c)
theorem iz.app{l2 l2':U ay}{c2:Int}(h2:iz l2 l2' c2):∀{l l':U ay}{c:Int},iz l l' c->iz (l++l2) (l'++l2') (c+c2):=by
 intro l l' c h
 induction h with
 |nil=>simpa using h2
 |cut v k hk _ ih=>rw[Int.add_assoc];exact .cut v k hk ih
 |drop v _ ih=>rw[Int.add_assoc];exact .drop v ih
theorem agu:∀(vs:U ay)(l:U Int)(r:U ay×Int),RD vs l=some r->iz vs r.1 r.2
 |[],l,r,h=>by cases h;exact .nil
 |v::vs,[],r,h=>by cases h
 |v::vs,k::ks,r,h=>by
  rw[RD]at h;cases hc:(decide (k<0) || decide (k>eJ v))with
  |true=>rw[hc]at h;cases h
  |false=>
   rw[hc,au]at h;obtain⟨q,hq,rfl⟩:=iE.1 h;have ih:=agu vs ks q hq;simp at hc;by_cases hk:k<eJ v
   .rw[show decide (k<eJ v)=true by simpa using hk];exact .cut v k ⟨hc.1,hk⟩ ih
   .rw[show decide (k<eJ v)=false by simpa using hk,show k=eJ v by omega];exact .drop v ih
theorem agv:∀(ps:U dF)(l:U Int)(q:U dF×Int),Mw ps l=some q->iz (ps.flatMap (·.az)) (q.1.flatMap (·.az)) q.2/\q.1.map (·.gives)=ps.map (·.gives)
 |[],l,q,h=>by cases h;exact⟨.nil,rfl⟩
 |p::ps,l,q,h=>by rw[Mw]at h;have⟨r,hr,h⟩:=ah.1 h;obtain⟨s,hs,rfl⟩:=iE.1 h;obtain⟨i1,i2⟩:=agv ps _ s hs;exact⟨iz.app i1 (agu _ _ r hr),by simp[i2]⟩
theorem iz.mem{l l':U ay}{c:Int}(h:iz l l' c):∀w∈l',∃v∈l,∃k,(0<=k/\k<eJ v)/\w=cutV v k:=by
 induction h with
 |nil=>intro w hw;cases hw
 |cut v k hk _ ih=>
  intro w hw;rcases aL.1 hw with rfl|hw;exact⟨v,by simp,k,hk,rfl⟩;have⟨u,hu,x⟩:=ih w hw;exact⟨u,bQ _ hu,x⟩
 |drop v _ ih=>
  intro w hw;have⟨u,hu,x⟩:=ih w hw;exact⟨u,bQ _ hu,x⟩
theorem iz.len{l l':U ay}{c:Int}(h:iz l l' c):l'.length<=l.length:=by
 induction h with
 |nil=>exact aB _
 |cut v k _ _ ih=>simp;omega
 |drop v _ ih=>simp;omega
theorem TZ{v:ay}{k:Int}(h:okV v=true)(hk:0<=k/\k<eJ v):(cutV v k).ca<(cutV v k).cg/\(cutV v k).cg<=v.cg:=by
 have hz:=JI h;have hf:eJ v=(v.cg-v.ca+2)/3:=by unfold eJ;rw[h];rfl
 unfold cutV;by_cases h0:k>0
 .rw[show decide (k>0)=true by simpa using h0];show v.ca<v.ca+3*(eJ v-k)/\v.ca+3*(eJ v-k)<=v.cg;omega
 .rw[show decide (k>0)=false by simpa using h0];exact⟨hz.2.1,Int.le_refl _⟩
theorem JK(v:ay)(k:Int):bT (cutV v k)=bT v/\(cutV v k).ca=v.ca/\(cutV v k).use=v.use/\(cutV v k).units=v.units/\(cutV v k).extra=v.extra:=by unfold cutV;cases decide (k>0)<;>exact⟨rfl,rfl,rfl,rfl,rfl⟩
theorem aiG{v:ay}{k:Int}(h:okV v=true)(hk:0<=k/\k<eJ v):okV (cutV v k)=true:=by have⟨z1,z2⟩:=TZ h hk;have⟨e1,e2,e3,e4,_⟩:=JK v k;have hz:=JI h;unfold okV at h ⊢;rw[e1,e2,e3,e4];simp[bq]at h ⊢;rw[e2]at z1;exact⟨h.1,h.2.1,z1,by omega,h.2.2.2.2⟩
theorem anR{step:Int->J (Int⊕(Unit⊕Bool))}{N n:Nat}(bad:Nat->Bool)(h1:∀i:Nat,i<N->step i=some (bif bad i then .inr (.inr false)else .inl ((i+1:Nat):Int)))(h2:step N=some (.inr (.inl ())))(hn:N<n):
 (iter step n 0=some (.inl ())/\∀i<N,bad i=false)\/(iter step n 0=some (.inr false)/\∃i<N,bad i=true):=by
 obtain⟨o,g1,g2⟩:=fu (step:=step) (λ i v=>v=(i:Int)/\i<=N/\∀j<i,bad j=false) (λ o=>(o=.inl ()/\∀i<N,bad i=false)\/(o=.inr false/\∃i<N,bad i=true)) N (λ k v h=>h.2.1) (by
  rintro i v ⟨rfl,hi,hall⟩;by_cases hlt:i<N
  .rw[h1 i hlt];cases hb:bad i with
   |true=>exact .inr ⟨_,rfl,.inr ⟨rfl,i,hlt,hb⟩⟩
   |false=>
    refine .inl ⟨_,rfl,rfl,hlt,λj hj=>?_⟩;by_cases hji:j=i
    .rw[hji,hb]
    .exact hall j (by omega)
  .have:i=N:=(by omega);subst this;exact .inr ⟨_,h2,.inl ⟨rfl,hall⟩⟩) n 0 0 ⟨rfl,Nat.zero_le _,λj hj=>by omega⟩ (by omega)
 rcases g2 with ⟨rfl,g2⟩|⟨rfl,g2⟩;exact .inl ⟨g1,g2⟩;exact .inr ⟨g1,g2⟩
def xJ(w v:ay):Bool:=(iy w v).getD false
theorem anS(w v:ay):iy w v=some (xJ w v):=by obtain⟨b,hb⟩:∃b,iy w v=some b:=rf (abX _ _) λ_=>⟨_,rfl⟩;unfold xJ;rw[hb];rfl
theorem ab4(w v:ay):xJ w v=((d8 (bT v)&&(d8 (bT w)&&d8 (vJ (bT v) (bT w))))&&(decide (v.ca<w.cg)&&decide (w.ca<v.cg))):=by
 unfold xJ iy uH;rw[u6];show Option.getD ((Option.bind (some (bif (d8 (bT v)&&(d8 (bT w)&&d8 (vJ (bT v) (bT w))))then _ else _)) _).bind _) _=_;cases (d8 (bT v)&&(d8 (bT w)&&d8 (vJ (bT v) (bT w))))with
 |false=>rfl
 |true=>
  simp only[ai,aj,bA];rfl
theorem anT{v w:ay}{k j:Int}(hv:okV v=true)(hw:okV w=true)(hk:0<=k/\k<eJ v)(hj:0<=j/\j<eJ w)(h:xJ v w=false):xJ (cutV v k) (cutV w j)=false:=by
 have⟨_,a2⟩:=TZ hv hk;have⟨_,b2⟩:=TZ hw hj;have⟨e1,e2,_⟩:=JK v k;have⟨f1,f2,_⟩:=JK w j;rw[ab4]at h ⊢;rw[e1,f1,e2,f2];cases hc:(d8 (bT w)&&(d8 (bT v)&&d8 (vJ (bT w) (bT v))))with
 |false=>rfl
 |true=>
  rw[hc]at h;simp[cB]at h ⊢;omega
def Cl(l:U ay)(i:Nat):Bool:=((l[i]?).map λv=>!okV v || (l.take i).any (xJ · v)).getD false
theorem agy{l:U ay}(hl:l.length<=1000000)(hn:4000002<=n):(iter (gI n l) n 0=some (.inl ())/\∀i<l.length,Cl l i=false)\/(iter (gI n l) n 0=some (.inr false)/\∃i<l.length,Cl l i=true):=by
 refine anR (Cl l) (λ i hlt=>?_) ?_ (by omega)
 .have hb:Cl l i=(!okV l[i] || (l.take i).any (xJ · l[i])):=by unfold Cl;rw[dP hlt];rfl
  simp only[gI,show decide ((i:Int)<l.length)=true from by simp;omega,aj,aU hlt,bM hlt,ai,lJ,bn i];rw[hb];cases hv:okV l[i]with
  |false=>rfl
  |true=>
   have hs:sub l 0 i=l.take i:=(by simp[sub]);have hsub:(l.take i).length=i:=(by simp;omega);have hc:=fH (n:=n) (l:=l.take i) (φ:=λ(y1:ay×Unit)=>iy y1.1 l[i]) (xJ · l[i]) (λ x _=>anS x l[i]) (by omega) (by omega);simp only[vT (show 0<=0 by omega) (show (0:Int)<=i by omega) (show (i:Int)<=l.length by omega),hs,Int.toNat_natCast,pR hsub,hc,Bool.not_true,au,aj,ai,Bool.false_or];cases (l.take i).any (xJ · l[i])<;>rfl
 .simp[gI]
theorem anU{l:U ay}:(∀ i<l.length,Cl l i=false)↔(∀ v∈l,okV v=true)/\l.Pairwise λw v=>xJ w v=false:=by
 have hb:∀i (h:i<l.length),Cl l i=(!okV l[i] || (l.take i).any (xJ · l[i])):=λi h=>by unfold Cl;rw[dP h];rfl
 rw[List.pairwise_iff_getElem];constructor
 .intro h;refine⟨λ v hv=>?_,λi j hi hj hij=>?_⟩
  .obtain⟨i,hi,rfl⟩:=mem_iff_getElem.1 hv;have:=h i hi;rw[hb i hi]at this;simp at this;exact this.1
  .have:=h j hj;rw[hb j hj,Bool.or_eq_false_iff]at this;exact List.any_eq_false.1 this.2 l[i] (by rw[mem_iff_getElem];exact⟨i,by simp;omega,by simp⟩) |> (by simpa using ·)
 .rintro⟨h1,h2⟩ i hi;rw[hb i hi,h1 _ (getElem_mem hi)];simp;intro w hw;obtain⟨j,hj,rfl⟩:=mem_iff_getElem.1 hw;simp at hj ⊢;exact h2 j i (by omega) hi (by omega)
theorem iz.apart{l l':U ay}{c:Int}(h:iz l l' c):(∀ v∈l,okV v=true)->l.Pairwise (λ w v=>xJ w v=false)->(∀ v∈l',okV v=true)/\l'.Pairwise (λ w v=>xJ w v=false):=by
 induction h with
 |nil=>exact λ_ _=>⟨by simp,.nil⟩
 |cut v k hk hr ih=>
  intro h1 h2;obtain⟨i1,i2⟩:=ih (λ x hx=>h1 x (bQ _ hx)) (pairwise_cons.1 h2).2;have hv:=h1 v (by simp);refine⟨λ x hx=>?_,pairwise_cons.2 ⟨λ x hx=>?_,i2⟩⟩
  .rcases aL.1 hx with rfl|hx;exact aiG hv hk;exact i1 x hx
  .obtain⟨w,hw,j,hj,rfl⟩:=hr.mem x hx;exact anT hv (h1 w (bQ _ hw)) hk hj ((pairwise_cons.1 h2).1 w hw)
 |drop v _ ih=>exact λh1 h2=>ih (λ x hx=>h1 x (bQ _ hx)) (pairwise_cons.1 h2).2
theorem ao9{α β:Type}(f:α->β)(l:U α)(i:Int):bu (l.map f) i=(bu l i).map f:=by unfold bu;cases decide (0<=i)<;>simp
def Iv(d:aG):aG:=aG.mk 0 (d.phases.map λp=>dF.mk [] p.gives)
theorem agz(n:Nat)(d:aG):gJ n d=gJ n (Iv d):=by funext v;simp[gJ,Iv,ao9];cases bu d.phases v<;>rfl
theorem apa{d x:aG}(h:x.phases.map (·.gives)=d.phases.map (·.gives)):Iv x=Iv d:=by
 have e:∀z:aG,Iv z=aG.mk 0 ((z.phases.map (·.gives)).map λg=>dF.mk [] g):=λz=>by simp[Iv]
 rw[e,e,h]
theorem RH{d:aG}(hd:xV d)(hg:YO d)(hn:4000002<=n):eY n d=some true↔(0<=d.lot/\d.lot<=1073741824/\1<=d.phases.length/\d.phases.length<=8/\1<=(ch d).length/\(ch d).length<=40)/\((∀ v∈ch d,okV v=true)/\(ch d).Pairwise λw v=>xJ w v=false)/\iter (gJ n d) n 0=some (.inl ()):=by
 simp[eY,all_eq hd (show 1001<=n by omega),bO];have hc:(decide (d.lot<0) || (decide (d.lot>1073741824) || (decide ((d.phases.length:Int)<1) || (decide ((d.phases.length:Int)>8) || (decide (((ch d).length:Int)<1) || decide (((ch d).length:Int)>40))))))=false↔(0<=d.lot/\d.lot<=1073741824/\1<=d.phases.length/\d.phases.length<=8/\1<=(ch d).length/\(ch d).length<=40):=by simp;omega
 rw[<- hc,<- anU];cases (decide (d.lot<0) || (decide (d.lot>1073741824) || (decide ((d.phases.length:Int)<1) || (decide ((d.phases.length:Int)>8) || (decide (((ch d).length:Int)<1) || decide (((ch d).length:Int)>40))))))with
 |true=>simp
 |false=>
  simp;rcases agy (n:=n) (wu hd) hn with ⟨h,hall⟩|⟨h,i,hi,hb⟩
  .rw[h,gM];rcases YP (n:=n) hd hg hn with h2|h2
   .rw[h2,gM];exact⟨λ _=>⟨hall,rfl⟩,λ_=>rfl⟩
   .rw[h2,nO];exact⟨λ h=>(by cases h),λh=>(by cases h.2)⟩
  .rw[h,nO];refine⟨λ h=>(by cases h),λh=>?_⟩;rw[h.1 i hi]at hb;cases hb
theorem anV{d x:aG}{c:Int}(hd:xV d)(hg:YO d)(hd':xV x)(hg':YO x)(hl:x.lot=d.lot)(hgv:x.phases.map (·.gives)=d.phases.map (·.gives))(hc:iz (ch d) (ch x) c)(hne:ch x≠[])(hn:4000002<=n)(hb:eY n d=some true):eY n x=some true:=by
 have hpl:x.phases.length=d.phases.length:=by have:=congrArg List.length hgv;simpa using this
 have⟨f1,⟨f2,f3⟩,f4⟩:=(RH hd hg hn).1 hb;have hcl:=hc.len;have hpos:=List.length_pos_iff.2 hne;exact(RH hd' hg' hn).2 ⟨⟨by rw[hl];exact f1.1,by rw[hl];exact f1.2.1,by rw[hpl];exact f1.2.2.1,by rw[hpl];exact f1.2.2.2.1,hpos,by omega⟩,hc.apart f2 f3,by rw[agz,apa hgv,<- agz];exact f4⟩
theorem RI{v:ay}(h:okV v=true)(hx:v.extra=false):FQ v=lI (bT v)*eJ v:=by
 have hz:=JI h;have hf:eJ v=(v.cg-v.ca+2)/3:=by unfold eJ;rw[h];rfl
 have ha:=adP h;have hA':uM (ax.mk v.bj v.bo v.be v.bk)=some (lI (bT v)):=Rp (pq h);have hfl:=Mt v;have hm:0<=lI (bT v)*eJ v/\lI (bT v)*eJ v<=1099511627776*1366:=⟨Int.mul_nonneg ha.1 hfl.1,Int.mul_le_mul ha.2 hfl.2 hfl.1 (by omega)⟩;unfold FQ ng jV;simp[lJ,h,hA',hx];rw[aQ (x:=v.cg-v.ca),aQ (x:=v.cg-v.ca+3),aQ (x:=v.cg-v.ca+3-1),Int.tdiv_eq_ediv_of_nonneg (by omega),aQ (x:=(v.cg-v.ca+3-1)/3),show(v.cg-v.ca+3-1)/3=eJ v by rw[hf];congr 1;omega];exact aQ (by omega) (by omega)
theorem aqn{v:ay}{k:Int}(h:okV v=true)(hk:0<=k/\k<eJ v):eJ (cutV v k)=eJ v-k:=by
 have hf:eJ v=(v.cg-v.ca+2)/3:=by unfold eJ;rw[h];rfl
 have hf':eJ (cutV v k)=((cutV v k).cg-(cutV v k).ca+2)/3:=by unfold eJ;rw[aiG h hk];rfl
 rw[hf'];unfold cutV;by_cases h0:k>0
 .rw[show decide (k>0)=true by simpa using h0];show(v.ca+3*(eJ v-k)-v.ca+2)/3=_;omega
 .rw[show decide (k>0)=false by simpa using h0];show(v.cg-v.ca+2)/3=_;omega
def SU(l:U ay):Int:=(l.map FQ).sum
theorem iz.sum{l l':U ay}{c:Int}(h:iz l l' c):(∀ v∈l,okV v=true/\v.extra=false)->SU l'+c=SU l:=by
 induction h with
 |nil=>exact λ_=>rfl
 |cut v k hk _ ih=>
  intro h1;obtain⟨a1,a2⟩:=h1 v (by simp);have ih:=ih λx hx=>h1 x (bQ _ hx);have e:=JK v k;have e1:=RI (aiG a1 hk) (by rw[e.2.2.2.2];exact a2);rw[e.1,aqn a1 hk,Int.mul_sub,Int.mul_comm _ k]at e1;have e2:=RI a1 a2;unfold SU at ih ⊢;simp;omega
 |drop v _ ih=>
  intro h1;obtain⟨a1,a2⟩:=h1 v (by simp);have ih:=ih λx hx=>h1 x (bQ _ hx);have e2:=RI a1 a2;rw[Int.mul_comm]at e2;unfold SU at ih ⊢;simp;omega
def qe(l:U aN):U Int:=l.flatMap λs=>[s.z0,s.z1]
def pp(ls:U (List aN)):U Int:=AW (qe ls.flatten)
theorem VZ(l:U aN):(qe l).length=2*l.length:=by
 induction l with
 |nil=>rfl
 |cons s l ih=>
  have e:qe (s::l)=[s.z0,s.z1]++qe l:=rfl;rw[e,dZ,ih];simp;omega
theorem adQ(a b:U aN):qe (a++b)=qe a++qe b:=by simp[qe]
theorem Pj{l:U aN}(hl:l.length<=900)(hn:1000<=n)(b:U Int)(hb:b.length<=100000):iter (sj l) n ((0:Int),b)=some (b++qe l):=by
 have:=jD (step:=sj l) (λ i=>((i:Int),b++qe (l.take i))) l.length (b++qe l) (λ i hi=>?_) ?_ n (by omega)
 .simpa[qe]using this
 .have hi':decide ((i:Int)<(l.length:Int))=true:=by simpa using hi
  have lt:=VZ (l.take i);rw[length_take]at lt;have s1:(sub ([l[i].z0,l[i].z1]:U Int) 0 2)=[l[i].z0,l[i].z1]:=rfl;have ap:bR (b++qe (l.take i)).length (b++qe (l.take i)).length ([l[i].z0,l[i].z1]:U Int).length 2 8=true:=by
   refine dS (n:=2) ?_ ?_
   .rw[dZ];omega
   .rw[dZ];simp[maxLen];omega
  simp only[sj,hi',aj,bB hi,ai,s1,ap,fI,aK];rw[aO (by omega),iF hi,adQ,aV];rfl
 .simp[sj]
theorem LJ{ls:U (List aN)}(h1:ls.length<=10)(h2:∀l∈ls,l.length<=400)(hn:10000<=n):tK n ls=some (pp ls):=by
 have fl:∀ks:U (List aN),(∀ l∈ks,l.length<=400)->(qe ks.flatten).length<=800*ks.length:=by
  intro ks
  induction ks with
  |nil=>simp[qe]
  |cons k ks ih=>
   intro h;have:=ih λl hl=>h l (bQ _ hl);have:=h k List.mem_cons_self;rw[List.flatten_cons,adQ,dZ,VZ,gB];omega
 have run:iter (sD n ls) n ((0:Int),([]:U Int))=some (qe ls.flatten):=by
  have:=jD (step:=sD n ls) (λ i=>((i:Int),qe (ls.take i).flatten)) ls.length (qe ls.flatten) (λ i hi=>?_) ?_ n (by omega)
  .simpa[qe]using this
  .have hi':decide ((i:Int)<(ls.length:Int))=true:=(by simpa using hi);have:=fl (ls.take i) λl hl=>h2 l (List.mem_of_mem_take hl);rw[length_take]at this;have h3:=h2 _ (getElem_mem hi);simp only[sD,hi',aj,bB hi,ai,aK,Pj (n:=n) (l:=ls[i]) (by omega) (by omega) (qe (ls.take i).flatten) (by omega)];rw[aO (by omega),iF hi,List.flatten_append,adQ];simp
  .simp[sD]
 have hz:=fl ls h2;unfold tK;simp[run];rw[nV (by omega) (by omega)];simp[dQ];rw[qb (by rw[dQ];omega) (by rw[dQ];omega)];simp;rfl
theorem ab6{out:U aN}{x:aN}(hl:out.length<=10000)(ha:∀s∈out,s.area.length<=900)(hn:1000<=n):Rb n out x=some (mR out x,()):=by
 unfold Rb mR;have z:∀l:U ax,(((l.length:Int))==0)=decide (l=[]):=λl=>by cases l<;>simp<;>omega
 rw[z];by_cases hx:x.area=[]
 .simp[hx]
 .simp only[hx,decide_false,au,if_false];have s1:(sub ([x]:U aN) 0 1)=[x]:=rfl;have ap:bR out.length out.length ([x]:U aN).length 1 40=true:=dS (n:=1);rcases List.eq_nil_or_concat out with rfl|⟨o,q,e⟩
  .have w:i64.wrap (((0:Nat):Int)-1)=-1:=(by rw[aQ (by simp) (by simp)];simp);have d:decide ((-1:Int)>=0)=false:=rfl;simp only[length_nil]at ap;simp only[w,d,au,ai,s1,ap,aj,fI,fJ,aK,length_nil,List.getLast?_nil,fw]
  .rw[List.concat_eq_append]at e;subst e;have hq:=ha q (by simp);have lq:(o++[q]).length=o.length+1:=(by simp);have w:i64.wrap ((((o++[q]).length:Nat):Int)-1)=(o.length:Int):=(by rw[jq (by simp) (by omega),lq];rfl);have d:decide ((o.length:Int)>=0)=true:=(by simp);have ib:cz (o.length:Int) (o++[q]).length=true:=aU (by omega);have g:bu (o++[q]) (((0:Nat):Int)+(o.length:Int))=some q:=(by rw[oC];simp);have zz:(((0:Nat):Int)+(o.length:Int)).toNat=o.length:=(by simp);have st:(o++[q]).set o.length (aN.mk q.z0 x.z1 q.area)=o++[⟨q.z0,x.z1,q.area⟩]:=(by simp);have sb:sub (o++[(⟨q.z0,x.z1,q.area⟩:aN)]) 0 (o++[q]).length=o++[⟨q.z0,x.z1,q.area⟩]:=(by rw[amH,List.take_of_length_le (by simp)]);have el:aE (o++[(⟨q.z0,x.z1,q.area⟩:aN)]).length (o++[q]).length=true:=(by apply pR;simp);have gl:(o++[q]).getLast? =some q:=(by simp);have dl:(o++[q]).dropLast=o:=(by simp);simp only[w,d,aj,ib,g,ai,Yz (n:=n) (a:=q.area) (b:=x.area) (by omega) (by omega),zz,st,sb,el,s1,ap,fI,fJ,aK,gl,dl];by_cases h1:q.z1=x.z0
   .by_cases h2:q.area=x.area
    .simp[h1,h2]
    .simp[h2]
   .have:(q.z1==x.z0)=false:=(by simp[h1]);simp[h1,this]
def GD(S:U aN)(x y z:Int):Prop:=∃c∈S,(c.z0<=z/\z<c.z1)/\qG c.area x y=true
theorem V3{a b:U aN}{x y z:Int}:GD (a++b) x y z↔GD a x y z\/GD b x y z:=by simp[GD];exact⟨λ ⟨c,h,r⟩=>h.elim (λ h=>.inl ⟨c,h,r⟩) λh=>.inr ⟨c,h,r⟩,λh=>h.elim (λ ⟨c,h,r⟩=>⟨c,.inl h,r⟩) λ⟨c,h,r⟩=>⟨c,.inr h,r⟩⟩
theorem V4{s:aN}{x y z:Int}:GD [s] x y z↔(s.z0<=z/\z<s.z1)/\qG s.area x y=true:=by simp[GD]
theorem alG{out:U aN}{s:aN}(h:∀c∈out,c.z0<c.z1)(hs:s.z0<s.z1):(∀ c∈mR out s,c.z0<c.z1)/\∀x y z,GD (mR out s) x y z↔GD out x y z\/GD [s] x y z:=by
 unfold mR;by_cases he:s.area=[]
 .rw[aY he];refine⟨h,λx y z=>⟨.inl,λe=>e.elim id λe=>?_⟩⟩;rw[V4,he]at e;cases e.2
 .rw[aT he];rcases List.eq_nil_or_concat out with e|⟨a,q,e⟩
  .subst e;exact⟨λ c hc=>by simp at hc;subst hc;exact hs,λx y z=>⟨.inr,λe=>e.elim (λ ⟨c,hc,_⟩=>by cases hc) id⟩⟩
  .rw[List.concat_eq_append]at e;subst e;have hq:=h q (by simp);rw[List.getLast?_append,List.getLast?_singleton,Option.some_or];simp only;by_cases c:q.z1=s.z0/\q.area=s.area
   .rw[aY c,List.dropLast_concat];refine⟨λ t ht=>?_,λx y z=>?_⟩
    .rcases bF.1 ht with ht|ht
     .exact h t (by simp[ht])
     .simp at ht;subst ht;simp;omega
    .rw[V3,V3,or_assoc,V4,V4,V4,c.2];refine or_congr_right ?_;simp;have:=c.1;constructor
     .rintro⟨⟨a,b⟩,d⟩;by_cases e:z<q.z1
      .exact .inl ⟨⟨a,e⟩,d⟩
      .exact .inr ⟨⟨by omega,b⟩,d⟩
     .rintro (⟨⟨a,b⟩,d⟩|⟨⟨a,b⟩,d⟩)
      .exact⟨⟨a,by omega⟩,d⟩
      .exact⟨⟨by omega,b⟩,d⟩
   .rw[aT c];refine⟨λ t ht=>?_,λx y z=>V3⟩;rcases bF.1 ht with ht|ht
    .exact h t ht
    .simp at ht;subst ht;exact hs
theorem agA:∀(ps out:U aN),(∀ c∈out,c.z0<c.z1)->(∀ c∈ps,c.z0<c.z1)->∀x y z,GD (ps.foldl mR out) x y z↔GD out x y z\/GD ps x y z
 |[],out,_,_,x,y,z=>⟨.inl,λe=>e.elim id λ⟨c,hc,_⟩=>by cases hc⟩
 |s::ps,out,h1,h2,x,y,z=>by obtain⟨a1,a2⟩:=alG h1 (h2 s (by simp));rw[foldl_cons,agA ps _ a1 (λ c hc=>h2 c (by simp[hc])) x y z,a2,or_assoc,<- V3];rfl
theorem Y0:∀{S:U aN},(∀ c∈S,c.z0<c.z1)->JE S->S.Pairwise λa b=>a.z1<=b.z0
 |[],_,_=>List.Pairwise.nil
 |[s],_,_=>by simp
 |s::t::S,hv,hn=>by
  have ih:=Y0 (S:=t::S) (λ c hc=>hv c (by simp[hc])) (λ i hi=>hn (i+1) (by simpa using hi));have h0:=(hn 0 (by simp)).1;rw[pairwise_cons];refine⟨λ c hc=>?_,ih⟩;have h0:s.z1<=t.z0:=h0;rcases aL.1 hc with rfl|hc
  .exact h0
  .have:=(pairwise_cons.1 ih).1 c hc;have:=hv t (by simp);omega
theorem akm{S:U aN}(hv:∀c∈S,c.z0<c.z1)(hn:JE S)(x y z:Int):qG (AD S z) x y=true↔GD S x y z:=by
 have hp:=Y0 hv hn;unfold AD;constructor
 .intro h;split at h
  .rename_i c hc;have h1:=List.find?_some hc;simp[bq]at h1;exact⟨c,List.mem_of_find?_eq_some hc,h1,h⟩
  .cases h
 .rintro⟨c,hc,hz,hx⟩;have key:S.find? (λ x=>decide (x.z0<=z)&&decide (z<x.z1))=some c:=by
   clear hn
   induction S with
   |nil=>cases hc
   |cons s S ih=>
    obtain⟨p1,p2⟩:=pairwise_cons.1 hp;rw[List.find?_cons];rcases aL.1 hc with rfl|hc
    .rw[show (decide (c.z0<=z)&&decide (z<c.z1))=true by simp[hz]]
    .have:=p1 c hc;rw[show (decide (s.z0<=z)&&decide (z<s.z1))=false by rw[Bool.and_eq_false_iff,cB,cB];omega];exact ih (λ c hc=>hv c (by simp[hc])) p2 hc
  rw[key];exact hx
def AC(b:qf):ax:=⟨b.ga,b.fX,b.fY,b.fW⟩
def HM(b:qf):Bool:=d8 (AC b)&&(decide (0<=b.z0)&&(decide (b.z0<b.z1)&&decide (b.z1<=4096)))
def gR(l:U qf):U Int:=pp [l.map λb=>aN.mk b.z0 b.z1 []]
def iT(l:U qf)(p:aJ):U ax:=(l.filter λb=>decide (b.z0<p.to)&&decide (p.from_<b.z1)).map AC
def xK(l:U qf)(p:aJ):aN:=⟨p.from_,p.to,(k7 (iT l p)).1⟩
theorem FZ{l:U qf}{z:Int}:z∈gR l↔∃b∈l,z=b.z0\/z=b.z1:=by unfold gR pp qe;rw[XV];simp;exact⟨λ ⟨a,⟨b,hb,e⟩,h⟩=>⟨b,hb,by subst e;exact h⟩,λ⟨b,hb,h⟩=>⟨_,⟨b,hb,rfl⟩,h⟩⟩
theorem apc(l:U qf):(gR l).length<=2*l.length:=by have h1:(gR l).length<=_:=TW _;rw[VZ]at h1;simpa using h1
theorem aq3{l:U qf}(hv:∀b∈l,HM b=true)(hl:l.length<=100)(hn:1000<=n):iter (Ji l) n (0,[])=some (.inl (l.map λb=>aN.mk b.z0 b.z1 [])):=by
 have:=jD (step:=Ji l) (λ i=>((i:Int),(l.take i).map λb=>aN.mk b.z0 b.z1 [])) l.length (.inl (l.map λb=>aN.mk b.z0 b.z1 [])) (λ i hi=>?_) (by simp[Ji]) n (by omega)
 .simpa using this
 .have hb:=hv _ (getElem_mem hi);simp[HM]at hb;obtain⟨-,b2,b3,b4⟩:=hb;have hr:nJ (ax.mk l[i].ga l[i].fX l[i].fY l[i].fW)=some true:=by rw[jy];exact congrArg some (Bool.and_eq_true_iff.1 (hv _ (getElem_mem hi))).1
  have ap:∀x:aN,bR ((l.take i).map λb=>aN.mk b.z0 b.z1 []).length ((l.take i).map λb=>aN.mk b.z0 b.z1 []).length ([x]:U aN).length 1 40=true:=λx=>dS (n:=1) (by rw[length_map,length_take];omega) (by rw[length_map,length_take];simp[maxLen];omega);have s1:∀x:aN,sub ([x]:U aN) 0 1=[x]:=λx=>rfl;simp only[Ji,dR hi,aj,bB hi,ai,hr,Bool.not_true,au,decide_eq_false (show ¬l[i].z0<0 by omega),decide_eq_false (show ¬l[i].z0>=l[i].z1 by omega),decide_eq_false (show ¬l[i].z1>4096 by omega),s1,ap,fI,aK];rw[aO (by omega),iF hi,map_append];rfl
theorem aq4{l:U qf}{zs:U Int}{i:Nat}(hi:i+1<zs.length)(hz:zs.length<=1000)(hl:l.length<=100)(hn:1000<=n):iter (Jj l zs ((i+1:Nat):Int)) n (0,[])=some (iT l ⟨zs[i],zs[i+1]⟩):=by
 have:=gD (l:=l) (step:=Jj l zs ((i+1:Nat):Int)) (λ i (s:List ax)=>((i:Int),s)) (λ b s=>bif decide (b.z0<zs[i+1])&&decide (zs[i] <b.z1)then s++[AC b]else s) (λ s=>s) (λ k s=>s.length<=k) (λ k hk s hs=>?_) (λ s _=>by simp[Jj]) n (by omega) [] (aB _)
 .rw[ky]at this;rw[this];have gen:∀(l:U qf)(s:U ax),l.foldl (λ s b=>bif decide (b.z0<zs[i+1])&&decide (zs[i] <b.z1)then s++[AC b]else s) s=s++iT l ⟨zs[i],zs[i+1]⟩:=by
   intro l
   induction l with
   |nil=>intro s;simp[iT]
   |cons b l ih=>
    intro s;rw[foldl_cons,ih];unfold iT;rw[List.filter_cons];cases decide (b.z0<zs[i+1])&&decide (zs[i] <b.z1)<;>simp
  rw[gen,fw]
 .have ap:bR s.length s.length ([AC l[k]]:U ax).length 1 32=true:=dS (n:=1);have s1:∀x:ax,sub ([x]:U ax) 0 1=[x]:=λx=>rfl;have w:i64.wrap (((i+1:Nat):Int)-1)=(i:Int):=by rw[jq (by omega) (by omega)];rfl
  have e:ax.mk l[k].ga l[k].fX l[k].fY l[k].fW=AC l[k]:=rfl;simp only[Jj,dR hk,aj,bB hk,ai,aU hi,ky,Int.zero_add,bB hi,w,aU (show i<zs.length by omega),bB (show i<zs.length by omega),Ri,e,s1];rw[aO (by omega)];cases decide (l[k].z0<zs[i+1])&&decide (zs[i] <l[k].z1)with
  |true=>simp only[aj,ap,fI,aK,ai];exact⟨trivial,by simp;omega⟩
  |false=>simp only[au,aK,aj,ai];exact⟨trivial,by omega⟩
theorem alI(zs:U Int):(eD aJ.mk zs).length=zs.length-1/\∀i (h:i+1<zs.length) (h':i<(eD aJ.mk zs).length),(eD aJ.mk zs)[i]=⟨zs[i],zs[i+1]⟩:=qF aJ.mk zs
theorem aiH{l:U qf}(hv:∀b∈l,HM b=true)(hl:l.length<=60)(hn:10000<=n):∃r,Q3 n l=some r/\(r.2=0->wh r.1=true/\∀x y z,GD r.1 x y z↔∃b∈l,(b.z0<=z/\z<b.z1)/\OY (AC b) x y=true):=by
 have hz:=apc l;have hstr:(gR l).Pairwise (· < ·):=IW _;have⟨p1,p2⟩:=alI (gR l);have⟨m1,m2⟩:=Yq (gR l) hstr;have hb:∀p,(iT l p).length<=60:=λp=>by unfold iT;rw[length_map];exact Nat.le_trans (List.length_filter_le _ _) hl
 have run:=XT (l:=eD aJ.mk (gR l)) (step:=OH n l (gR l)) (λ i (s:List aN)=>(((i+1:Nat):Int),s)) (λ p s=>bif(k7 (iT l p)).2 !=0 then .inr (.inr (([]:U aN),(k7 (iT l p)).2))else .inl (mR s (xK l p))) (λ s=>(.inl s:(List aN)⊕((List aN)×Int))) (λ i s=>s.length<=i/\∀x∈s,x.area.length<=900)
  (λ i hi s hs=>?_) (λ s _=>?_) n (by omega) [] ⟨by simp,by simp⟩
 .rw[show (((0+1:Nat)):Int)=1 from rfl]at run
  have gen:∀(ps:U aJ)(s:U aN),(∃ e,e≠0/\NV (λ p s=>bif(k7 (iT l p)).2 !=0 then .inr (.inr (([]:U aN),(k7 (iT l p)).2))else .inl (mR s (xK l p))) (λ s=>(.inl s:(List aN)⊕((List aN)×Int))) ps s=.inr ([],e))\/
   (NV (λ p s=>bif(k7 (iT l p)).2 !=0 then .inr (.inr (([]:U aN),(k7 (iT l p)).2))else .inl (mR s (xK l p))) (λ s=>(.inl s:(List aN)⊕((List aN)×Int))) ps s=.inl ((ps.map (xK l)).foldl mR s)/\∀p∈ps,(k7 (iT l p)).2=0):=by
   intro ps
   induction ps with
   |nil=>intro s;exact .inr ⟨rfl,by simp⟩
   |cons p ps ih=>
    intro s;simp only[NV];by_cases h0:(k7 (iT l p)).2=0
    .have:((k7 (iT l p)).2 !=0)=false:=(by simp[h0]);simp only[this,au];rcases ih (mR s (xK l p))with h|⟨h1,h2⟩
     .exact .inl h
     .refine .inr ⟨h1,λq hq=>?_⟩;rcases aL.1 hq with rfl|hq
      .exact h0
      .exact h2 q hq
    .have:((k7 (iT l p)).2 !=0)=true:=(by simp[h0]);simp only[this,aj];exact .inl ⟨_,h0,rfl⟩
  have s1:∀x:U aN,sub ([x]:U (List aN)) 0 1=[x]:=λx=>rfl;have hh:tK n [l.map λb=>aN.mk b.z0 b.z1 []]=some (gR l):=LJ (by simp) (λ x hx=>by simp at hx;subst hx;rw[length_map];omega) hn;unfold Q3;simp only[length_nil,aK,aj,aq3 hv (show l.length<=100 by omega) (show 1000<=n by omega),gM,decide_eq_false (show ¬(l.length:Int)>200 by omega),au,fJ,s1,List.length_singleton,hh,ai,run];rcases gen (eD aJ.mk (gR l)) []with ⟨e,he,h⟩|⟨h1,h2⟩
  .rw[h];exact⟨([],e),rfl,λh0=>absurd h0 he⟩
  .rw[h1];simp only[gM,fJ,aK,aj];have sp:∀p∈eD aJ.mk (gR l),cE (xK l p).area=true/\∀x y,qG (xK l p).area x y=qG (iT l p) x y:=λp hp=>(by have:=afO (l:=iT l p) (r:=(k7 (iT l p)).1) (by rw[<- h2 p hp]);exact⟨this.1,this.2.1⟩);have pz:∀p∈eD aJ.mk (gR l),0<=p.from_/\p.to<=4096:=λp hp=>(by have⟨_,g2,g3,_⟩:=m1 p hp;have v:∀z∈gR l,0<=z/\z<=4096:=λz hz=>(by have⟨b,hb,e⟩:=FZ.1 hz;have:=hv b hb;simp only[HM,aX,bq]at this;omega);exact⟨(v _ g2).1,(v _ g3).2⟩);have lt:∀c∈(eD aJ.mk (gR l)).map (xK l),c.z0<c.z1:=λc hc=>(by obtain⟨p,hp,rfl⟩:=mem_map.1 hc;exact(m1 p hp).1);have fp:=af2 ((eD aJ.mk (gR l)).map (xK l)) [] (λ s h=>by cases h) (λ i hi=>by simp at hi) (λ c hc=>⟨lt c hc,λhne=>by obtain⟨p,hp,rfl⟩:=mem_map.1 hc;exact⟨(pz p hp).1,(m1 p hp).1,(pz p hp).2,hne,(sp p hp).1⟩⟩) (by rw[List.pairwise_map];exact m2) (λ q hq=>by cases hq);have fl:(((eD aJ.mk (gR l)).map (xK l)).foldl mR []).length<=(gR l).length:=by
    have gl:∀(ps out:U aN),(ps.foldl mR out).length<=out.length+ps.length:=by
     intro ps
     induction ps with
     |nil=>intro out;simp
     |cons s ps ih=>intro out;have:=ih (mR out s);have:=abT out s;rw[foldl_cons,gB];omega
    have:=gl ((eD aJ.mk (gR l)).map (xK l)) [];rw[length_map,p1]at this;simp only[length_nil]at this;omega
   unfold VL;by_cases h8:(((eD aJ.mk (gR l)).map (xK l)).foldl mR []).length<=80
   .simp only[decide_eq_false (show ¬((((eD aJ.mk (gR l)).map (xK l)).foldl mR []).length:Int)>80 by omega),au,ai];refine⟨_,rfl,λ_=>⟨(wo _).2 ⟨h8,fp.1,fp.2.1⟩,λx y z=>?_⟩⟩;rw[agA _ _ (λ c hc=>by cases hc) lt];constructor
    .rintro (⟨c,hc,_⟩|⟨c,hc,hz,hx⟩)
     .cases hc
     .obtain⟨p,hp,rfl⟩:=mem_map.1 hc;rw[(sp p hp).2,Ua]at hx;obtain⟨r,hr,hx⟩:=hx;unfold iT at hr;obtain⟨b,hb,rfl⟩:=mem_map.1 hr;rw[mem_filter]at hb;obtain⟨hb,hq⟩:=hb;simp only[aX,bq]at hq;have⟨_,_,_,g4⟩:=m1 p hp;have c0:=g4 b.z0 (FZ.2 ⟨b,hb,.inl rfl⟩);have c1:=g4 b.z1 (FZ.2 ⟨b,hb,.inr rfl⟩);have hz:p.from_<=z/\z<p.to:=hz;exact⟨b,hb,⟨by omega,by omega⟩,hx⟩
    .rintro⟨b,hb,hz,hx⟩;have⟨p,hp,q1,q2⟩:=Ju (gR l) z ⟨b.z0,FZ.2 ⟨b,hb,.inl rfl⟩,hz.1⟩ ⟨b.z1,FZ.2 ⟨b,hb,.inr rfl⟩,hz.2⟩ hstr;have⟨_,_,_,g4⟩:=m1 p hp;have c0:=g4 b.z0 (FZ.2 ⟨b,hb,.inl rfl⟩);have c1:=g4 b.z1 (FZ.2 ⟨b,hb,.inr rfl⟩);refine .inr ⟨xK l p,mem_map.2 ⟨p,hp,rfl⟩,⟨q1,q2⟩,?_⟩;rw[(sp p hp).2,Ua];refine⟨AC b,?_,hx⟩;unfold iT;exact mem_map.2 ⟨b,mem_filter.2 ⟨hb,by simp only[aX,bq];omega⟩,rfl⟩
   .simp only[decide_eq_true (show ((((eD aJ.mk (gR l)).map (xK l)).foldl mR []).length:Int)>80 by omega),aj,ai];exact⟨_,rfl,λe=>by cases e⟩
 .obtain⟨hs1,hs2⟩:=hs;have hi2:i+1<(gR l).length:=by omega
  have g:=p2 i hi2 hi;have w:i64.wrap (((i+1:Nat):Int)-1)=(i:Int):=by rw[jq (by omega) (by omega)];rfl
  have ofe:Is n (iT l ⟨(gR l)[i],(gR l)[i+1]⟩)=some (k7 (iT l ⟨(gR l)[i],(gR l)[i+1]⟩)):=afL (by have:=hb ⟨(gR l)[i],(gR l)[i+1]⟩;omega) (by have:=hb ⟨(gR l)[i],(gR l)[i+1]⟩;omega) (by omega);rw[g];simp only[OH,show decide ((((i+1:Nat)):Int)<((gR l).length:Int))=true from decide_eq_true (by omega),aj,length_nil,aK,aq4 (n:=n) (l:=l) hi2 (by omega) (by omega) (by omega),ai,fJ,ofe,w,aU (show i<(gR l).length by omega),ky,Int.zero_add,bB (show i<(gR l).length by omega),aU hi2,bB hi2,ab6 (n:=n) (out:=s) (x:=aN.mk (gR l)[i] (gR l)[i+1] (k7 (iT l ⟨(gR l)[i],(gR l)[i+1]⟩)).1) (by omega) hs2 (by omega)];rw[aO (by omega)];cases h0:(k7 (iT l ⟨(gR l)[i],(gR l)[i+1]⟩)).2 !=0 with
  |true=>exact⟨rfl,λs' e=>by cases e⟩
  |false=>
   refine⟨rfl,λs' e=>?_⟩;cases e;have ar:(k7 (iT l ⟨(gR l)[i],(gR l)[i+1]⟩)).1.length<=900:=(by have:=afO (l:=iT l ⟨(gR l)[i],(gR l)[i+1]⟩) (r:=(k7 (iT l ⟨(gR l)[i],(gR l)[i+1]⟩)).1) (by rw[show (0:Int)=(k7 (iT l ⟨(gR l)[i],(gR l)[i+1]⟩)).2 by simpa using Eq.symm (by simpa using h0)]);have:=(gU this.1).2.1;omega);refine⟨by have:=abT s (xK l ⟨(gR l)[i],(gR l)[i+1]⟩);omega,λx hx=>?_⟩;unfold mR xK at hx;split at hx
   .exact hs2 x hx
   .split at hx
    .rename_i q hq;split at hx
     .rcases bF.1 hx with hx|hx
      .exact hs2 x ((List.dropLast_sublist s).subset hx)
      .simp at hx;subst hx;exact hs2 q (List.mem_of_getLast? hq)
     .rcases bF.1 hx with hx|hx
      .exact hs2 x hx
      .simp at hx;subst hx;exact ar
    .simp at hx;subst hx;exact ar
 .have c:decide ((((eD aJ.mk (gR l)).length+1:Nat):Int)<((gR l).length:Int))=false:=decide_eq_false (by omega);simp only[OH,c,au,aK,aj]
theorem aar{keep:Bool->Bool->Bool}(hk:keep false false=false){a b:U ax}(ha:cE a=true)(hb:cE b=true)(h:∀x y,keep (qG a x y) (qG b x y)=false):o9 keep a b=([],0):=by
 have hS:qH (qc keep a b):=FJ _ _ (wP _);have⟨a1,_,_⟩:=gU ha;have⟨b1,_,_⟩:=gU hb;have hw:iw (qc keep a b)=iw []:=LA hS (m:=[]) trivial λx=>by rw[alg hk];exact FH (TU hk _ _).1 ⟨List.Pairwise.nil,λ_ h=>(by cases h)⟩ λy=>by rw[(TU hk _ _).2,(oO a1 x).2,(oO b1 x).2,h];rfl
 unfold o9;rw[ha,hb,hw];rfl
theorem aas{a b:U aN}(ha:wh a=true)(hb:wh b=true)(h:∀x y z,GD a x y z->GD b x y z)(hn:10000<=n):Jl n a b=some ([],0):=by
 have⟨la,oa,na⟩:=(wo a).1 ha;have⟨lb,ob,nb⟩:=(wo b).1 hb;have ra:∀x∈a,x.area.length<=900:=λx hx=>by have:=(gU (oa x hx).rt).2.1;omega
 have rb:∀x∈b,x.area.length<=900:=λx hx=>by have:=(gU (ob x hx).rt).2.1;omega
 have hz:(pp [a,b]).length<=400:=by have h1:(pp [a,b]).length<=_:=TW _;rw[VZ]at h1;simp only[List.flatten_cons,List.flatten_nil,append_nil,dZ]at h1;omega
 have s2:(sub ([a,b]:U (List aN)) 0 2)=[a,b]:=rfl;have q2:aE ([a,b]:U (List aN)).length 2=true:=rfl;have hh:tK n [a,b]=some (pp [a,b]):=LJ (by simp) (λ l hl=>by
  have:l=a\/l=b:=by simpa using hl
  rcases this with rfl|rfl<;>omega) hn
 have loop:iter (nU n a b (pp [a,b])) n (1,[])=some (.inl []):=by
  have:=jD (step:=nU n a b (pp [a,b])) (λ i=>(((i+1:Nat):Int),([]:U aN))) ((pp [a,b]).length-1) (.inl []) (λ i hi=>?_) ?_ n (by omega)
  .exact this
  .have hi2:i+1<(pp [a,b]).length:=(by omega);have w:i64.wrap (((i+1:Nat):Int)-1)=(i:Int):=(by rw[jq (by omega) (by omega)];rfl);have u1:=(gU (V1 oa (pp [a,b])[i])).2.1;have u2:=(gU (V1 ob (pp [a,b])[i])).2.1;have un:Jk n (AD a (pp [a,b])[i]) (AD b (pp [a,b])[i])=some ([],0):=by
    rw[afS (by omega) (by omega) (by omega) (by omega) (by omega),aar rfl (V1 oa _) (V1 ob _) λx y=>by
     cases hA:qG (AD a (pp [a,b])[i]) x y with
     |false=>rfl
     |true=>
      have:=(akm (λ c hc=>(ob c hc).lt) nb x y _).2 (h x y _ ((akm (λ c hc=>(oa c hc).lt) na x y _).1 hA));rw[this];rfl]
   have hp:Rb n [] (aN.mk (pp [a,b])[i] (pp [a,b])[i+1] [])=some ([],()):=(by rw[ab6 (by simp) (by simp) (by omega)];rfl);simp only[nU,fJ,show decide ((((i+1:Nat)):Int)<((pp [a,b]).length:Int))=true from decide_eq_true (by omega),aj,w,bB (show i<(pp [a,b]).length by omega),bB hi2,ai,af0 (n:=n) (s:=a) (z:=(pp [a,b])[i]) (by omega) (by omega),af0 (n:=n) (s:=b) (z:=(pp [a,b])[i]) (by omega) (by omega),un,show((0:Int) !=0)=false from rfl,au,aK,hp];rw[aO (by omega)]
  .simp only[nU,fJ,show decide ((((pp [a,b]).length-1+1:Nat):Int)<((pp [a,b]).length:Int))=false from decide_eq_false (by omega),au,length_nil,aK,aj]
 unfold Jl BX;rw[BF ra (by omega),BF rb (by omega),ha,hb];simp only[ai,Bool.not_true,au,s2,q2,aj,hh,fJ,aK,length_nil,loop,gM];rfl
theorem agB{α:Type}[DecidableEq α]{a b:U α}{step:Int->J (Int⊕(Unit⊕Bool))}{n:Nat}(hl:a.length=b.length)(h:∀i (h1:i<a.length) (h2:i<b.length),step (i:Int)=some (bif decide (a[i]=b[i])then .inl ((i+1:Nat):Int)else .inr (.inr false)))(hend:step (a.length:Int)=some (.inr (.inl ())))(hn:a.length<n):iter step n 0=some (bif decide (a=b)then .inl ()else .inr false):=by
 have hz:(a.zip b).length=a.length:=by simp[hl]
 have:=pI (l:=a.zip b) (step:=step) (λ i=>(i:Int)) (λ p=>!decide (p.1=p.2)) () (λ _=>false) (λ i hi=>by rw[h i (by omega) (by omega),List.getElem_zip];cases decide (a[i]'(by omega)=b[i]'(by omega))<;>rfl) (by rw[hz];exact hend) n (by omega);rw[ky]at this;rw[this];have e:=qP (λ p:α×α=>!decide (p.1=p.2)) (a.zip b);have key:∀(a b:U α),a.length=b.length->((a.zip b).any λp=>!decide (p.1=p.2))=!decide (a=b):=by
  intro a
  induction a with
  |nil=>intro b hb;cases b<;>simp_all
  |cons x a ih=>
   intro b hb;cases b with
   |nil=>simp at hb
   |cons y b=>
    rw[List.zip_cons_cons,List.any_cons,ih b (by simpa using hb)];by_cases c:x=y<;>by_cases d:a=b<;>simp[c,d]
 rw[key a b hl]at e;cases hf:oU (λ p:α×α=>!decide (p.1=p.2)) (a.zip b)with
 |none=>rw[hf]at e;rw[show decide (a=b)=true by simpa using e];rfl
 |some i=>rw[hf]at e;rw[show decide (a=b)=false by simpa using e.symm];rfl
theorem UF{a b:U ay}(hl:a.length<=1000)(hn:2000<=n):sW n a b=some (decide (a=b)):=by
 have e:sW n a b=E8 n (λ x1 x2:ay=>!((x1.bj==x2.bj)&&((x1.bo==x2.bo)&&((x1.be==x2.be)&&((x1.bk==x2.bk)&&((x1.ca==x2.ca)&&((x1.cg==x2.cg)&&((x1.use==x2.use)&&((x1.units==x2.units)&&((x1.extra==x2.extra)&&true)))))))))) a b:=by kernel_rfl
 rw[e];refine xk (λ x y=>?_) (by omega) (by omega);obtain⟨a1,a2,a3,a4,a5,a6,a7,a8,a9⟩:=x;obtain⟨b1,b2,b3,b4,b5,b6,b7,b8,b9⟩:=y;rw[gu];simp
theorem Y1{a b:U bG}(hl:a.length<=1000)(hn:2000<=n):uW n a b=some (decide (a=b)):=by
 have e:uW n a b=E8 n (λ x1 x2:bG=>!((ByteArray.toList x1.name==ByteArray.toList x2.name)&&((x1.n==x2.n)&&true))) a b:=by kernel_rfl
 rw[e];refine xk (λ x y=>?_) (by omega) (by omega);obtain⟨a1,a2⟩:=x;obtain⟨b1,b2⟩:=y;have h1:(a1.toList==b1.toList)=decide (a1=b1):=by have:=VW a1 b1;unfold Gb.gA at this;rw[gu,this,bq]
 simp only[h1];by_cases c:a1=b1<;>by_cases d:a2=b2<;>simp[c,d]
theorem anW{x d:aG}(hp:x.phases.length<=1000)(hv:∀p∈x.phases,p.az.length<=1000/\p.gives.length<=1000)(hn:2000<=n):yR n x d=some (decide (x=d)):=by
 have f1:∀p∈x.phases,∀q,sZ n p q=some (decide (p=q)):=λp hp q=>by unfold sZ;rw[UF (hv p hp).1 hn,ai,Y1 (hv p hp).2 hn];obtain⟨a1,a2⟩:=p;obtain⟨b1,b2⟩:=q;by_cases c:a1=b1<;>by_cases e:a2=b2<;>simp[c,e]
 obtain⟨xl,xp⟩:=x;obtain⟨dl,dp⟩:=d;simp only at hp hv f1;unfold yR nD;simp only;by_cases c:xl=dl
 .subst c;rw[beq_self_eq_true,aj];by_cases hl:xp.length=dp.length
  .rw[show ((xp.length:Int) !=(dp.length:Int))=false by simp[hl],au,agB (a:=xp) (b:=dp) hl (λ i h1 h2=>?_) (by simp[kP]) (by omega)]
   .by_cases e:xp=dp<;>simp[e]
   .simp only[kP,dR h1,aj,bB h1,bB h2,ai,f1 _ (getElem_mem h1)];rw[aO (by omega)];cases decide (xp[i]=dp[i])<;>rfl
  .have:¬xp=dp:=λe=>hl (by rw[e]);rw[show ((xp.length:Int) !=(dp.length:Int))=true by simp;omega];simp[this]
 .rw[show (xl==dl)=false by simpa using c];simp[c]
theorem anX{a b:U aN}(hl:a.length<=1000)(ha:∀s∈a,s.area.length<=1000)(hn:2000<=n):OM n a b=some (decide (a=b)):=by
 have q6:∀s∈a,∀r,OL n s.area r=some (decide (s.area=r)):=λs hs r=>by
  have hsl:=ha s hs;have e:OL n s.area r=E8 n (λ x1 x2:ax=>!((x1.x0==x2.x0)&&((x1.y0==x2.y0)&&((x1.x1==x2.x1)&&((x1.y1==x2.y1)&&true))))) s.area r:=by kernel_rfl
  rw[e];refine xk (λ x y=>?_) (by omega) (by omega);obtain⟨a1,a2,a3,a4⟩:=x;obtain⟨b1,b2,b3,b4⟩:=y;rw[gu];simp
 unfold OM;by_cases h:a.length=b.length
 .rw[show ((a.length:Int) !=(b.length:Int))=false by simp[h],au,agB (a:=a) (b:=b) h (λ i h1 h2=>?_) (by simp[Jm]) (by omega)]
  .by_cases e:a=b<;>simp[e]
  .simp only[Jm,dR h1,aj,bB h1,bB h2,ai,q6 _ (getElem_mem h1)];rw[aO (by omega)];cases hs:a[i]with
   |mk a1 a2 a3=>
    cases ht:b[i]with
    |mk b1 b2 b3=>
     have e0:decide (aN.mk a1 a2 a3=aN.mk b1 b2 b3)=(decide (a1=b1)&&(decide (a2=b2)&&decide (a3=b3))):=(by rw[gu];simp);have e1:∀x y:Int,(x !=y)=!decide (x=y):=λx y=>(by rw[gu];simp[bne]);simp only[e0,e1];cases decide (a1=b1)<;>cases decide (a2=b2)<;>cases decide (a3=b3)<;>rfl
 .have:¬a=b:=λe=>h (by rw[e]);rw[show ((a.length:Int) !=(b.length:Int))=true by simp;omega];simp[this]
mutual
theorem apd:∀g:bZ,(toE g).wt<=lU (sM g)
 |⟨op,n,s,key,args⟩=>by have:=Pk args;simp[toE,ET.wt,sM,lU,oY];omega
theorem Pk:∀l:List bZ,ET.tU (Jg l)<=Ak (uE l)
 |[]=>by simp[Jg,ET.tU]
 |x::xs=>by have h1:=apd x;have h2:=Pk xs;simp[Jg,ET.tU,uE,Ak];omega
end
theorem ab7:∀l:U gZ,sq (l.map toD)<=Ak (l.map Fe)
 |[]=>by simp[sq]
 |x::xs=>by have h1:=ab7 xs;have h2:=Pk x.ez;simp[sq]at h1;simp[sq,toD,ET.wt,Ak,Fe,lU,oY,<- uF];omega
theorem alJ(t:gL):sq (t.cw.map toD)<=lU (Km t):=by have:=ab7 t.cw;simp[Km,lU,oY];omega
theorem Y2{r:U Tree}:∀{l:U (List Tree)},r∈l->lU r<=Ak l
 |x::l,h=>by rw[Ak];rcases aL.1 h with rfl|h;omega;have:=Y2 h;omega
theorem alK(r:dw):(toE (mf r)).wt<=lU (yH r):=by have h:=Pk r.gz;rw[uF]at h;simp[mf,toE,ET.wt,yH,lU,oY];omega
theorem ab8:∀l:U Int,l.length<=Ak (l.map λy=>[Tree.sc (.int .i64 y)])
 |[]=>by simp
 |x::l=>by have:=ab8 l;simp[Ak,lU,oY];omega
theorem aqo{t:gL}(h:lU (Km t)<=2000000):anH t:=by
 have hd:=Nat.le_trans (alJ t) h;simp[Km,lU,oY]at h;refine⟨by unfold io;omega,λr hr=>?_,λl hl=>?_⟩;have h1:=alK r;have h2:=Y2 (mem_map.2 ⟨r,hr,rfl⟩:yH r∈t.br.map yH);omega;have h1:=ab8 l.from_;have h2:=Y2 (mem_map.2 ⟨l,hl,rfl⟩:Md l∈t.land.map Md);have h3:Ak (l.from_.map λy=>[Tree.sc (.int .i64 y)])<=lU (Md l):=by simp[Md,lU,oY];omega
 omega
def Ax(v:ay):qf:=⟨v.bj,v.bo,v.be,v.bk,v.ca,v.cg⟩
theorem aqp{v:ay}(h:okV v=true):HM (Ax v)=true:=by have hz:=JI h;unfold HM;rw[show d8 (AC (Ax v))=true from pq h,Bool.true_and];exact Bool.and_eq_true_iff.2 ⟨decide_eq_true hz.1,Bool.and_eq_true_iff.2 ⟨decide_eq_true hz.2.1,decide_eq_true hz.2.2⟩⟩
theorem Y3{d:aG}(hd:xV d)(hF:eY n d=some true)(hv:∀v∈ch d,okV v=true)(hl:(ch d).length<=40)(hn:4000002<=n):∃r,pM n d 0 d.phases.length=some r/\Q3 n ((ch d).map Ax)=some r/\(r.2=0->wh r.1=true/\∀x y z,GD r.1 x y z↔∃v∈ch d,(v.ca<=z/\z<v.cg)/\OY (bT v) x y=true):=by
 obtain⟨r,h1,h2⟩:=aiH (n:=n) (l:=(ch d).map Ax) (λ b hb=>by obtain⟨v,hm,rfl⟩:=mem_map.1 hb;exact aqp (hv v hm)) (by rw[length_map];omega) (by omega);have it:=jD (step:=qZ (ch d)) (λ i=>((i:Int),((ch d).take i).map Ax)) (ch d).length ((ch d).map Ax) (λ i hi=>by have ap:∀x:qf,bR (((ch d).take i).map Ax).length (((ch d).take i).map Ax).length ([x]:U qf).length 1 48=true:=λx=>dS (n:=1) (by rw[length_map,length_take];omega) (by rw[length_map,length_take];simp only[maxLen];omega);have s1:∀x:qf,sub ([x]:U qf) 0 1=[x]:=λx=>rfl;simp only[qZ,dR hi,aj,aU hi,ky,Int.zero_add,bB hi,ai,s1,ap,fI,aK];rw[aO (by omega),iF hi,map_append];rfl) (by simp[qZ]) n (by omega);rw[ky,List.take_zero,List.map_nil]at it;refine⟨r,?_,h1,λh0=>⟨(h2 h0).1,λx y z=>?_⟩⟩
 .unfold pM;rw[hF];simp only[ai,Bool.not_true,au,Mq hd (show 1001<=n by omega),length_nil,aK,aj,it,fJ,h1]
 .rw[(h2 h0).2];constructor
  .rintro⟨b,hb,hz,hx⟩;obtain⟨v,hm,rfl⟩:=mem_map.1 hb;exact⟨v,hm,hz,hx⟩
  .rintro⟨v,hm,hz,hx⟩;exact⟨Ax v,mem_map.2 ⟨v,hm,rfl⟩,hz,hx⟩
theorem Y4{v:ay}(h:okV v=true):0<lI (bT v):=by have hb:=pq h;rw[DR]at hb;obtain⟨⟨a1,a2,a3⟩,b1,b2,b3⟩:=hb;exact Int.mul_pos (by omega) (by omega)
theorem MF{v u:ay}(hv:okV v=true)(hu:okV u=true)(h:xJ v u=false){x y z:Int}(h1:(v.ca<=z/\z<v.cg)/\OY (bT v) x y=true):¬((u.ca<=z/\z<u.cg)/\OY (bT u) x y=true):=by
 rintro⟨h2,h3⟩;have hb:=pq hv;have hc:=pq hu;have hk:d8 (vJ (bT u) (bT v))=true:=by have h4:=h1.2;rw[DR]at hb hc ⊢;simp only[OY,aX,bq]at h3 h4;simp only[vJ];omega
 rw[ab4,hb,hc,hk]at h;simp only[Bool.and_self,Bool.true_and,Bool.and_eq_false_iff,cB]at h;omega
theorem aiI{u:ay}{j:Int}(hu:okV u=true)(hj:0<=j/\j<eJ u){x y z:Int}(h:((cutV u j).ca<=z/\z<(cutV u j).cg)/\OY (bT (cutV u j)) x y=true):(u.ca<=z/\z<u.cg)/\OY (bT u) x y=true:=by have h1:=JK u j;have h2:=TZ hu hj;rw[h1.1,h1.2.1]at h;exact⟨⟨h.1.1,by omega⟩,h.2⟩
theorem iz.less{l l':U ay}{c:Int}(h:iz l l' c):(∀ v∈l,okV v=true)->l.Pairwise (λ w v=>xJ w v=false)->0<=c/\(c=0->l'=l)/\(c≠0->∃v∈l,∃z,(v.ca<=z/\z<v.cg)/\∀w∈l',¬((w.ca<=z/\z<w.cg)/\OY (bT w) (bT v).x0 (bT v).y0=true)):=by
 have tI:∀v,okV v=true->OY (bT v) (bT v).x0 (bT v).y0=true:=λv hv=>by have hb:=pq hv;rw[DR]at hb;simp only[OY,aX,bq];omega
 induction h with
 |nil=>exact λ_ _=>⟨Int.le_refl _,λ_=>rfl,λh=>absurd rfl h⟩
 |cut v k hk hR ih=>
  intro hv hp;obtain⟨p1,p2⟩:=pairwise_cons.1 hp;have hv0:=hv v (by simp);have sB:∀u∈_,okV u=true:=λu hu=>hv u (bQ _ hu);have⟨i1,i2,i3⟩:=ih sB p2;have ha:=Y4 hv0;have hm:=Int.mul_nonneg hk.1 (Int.le_of_lt ha);refine⟨by omega,λh0=>?_,λh0=>?_⟩
  .have hk0:k=0:=(by refine Int.not_lt.1 (λ h=>?_) |> λh=>Int.le_antisymm h hk.1;have:=Int.mul_pos h ha;omega);subst hk0;rw[i2 (by omega)];rfl
  .by_cases hk0:k=0
   .subst hk0;obtain⟨u,hu,z,hz,hw⟩:=i3 (by omega);refine⟨u,bQ _ hu,z,hz,λw hm=>?_⟩;rcases aL.1 hm with e|hm
    .rw[e];intro hc;have hc:(v.ca<=z/\z<v.cg)/\OY (bT v) (bT u).x0 (bT u).y0=true:=hc;exact MF hv0 (sB u hu) (p1 u hu) hc ⟨hz,tI u (sB u hu)⟩
    .exact hw w hm
   .have hz:=JI hv0;refine⟨v,by simp,v.cg-1,by omega,λw hm=>?_⟩;rcases aL.1 hm with rfl|hm
    .rintro⟨⟨_,h2⟩,_⟩;have hf:eJ v=(v.cg-v.ca+2)/3:=(by unfold eJ;rw[hv0];rfl);unfold cutV at h2;rw[decide_eq_true (show k>0 by omega),aj]at h2;simp only at h2;omega
    .intro hc;obtain⟨u,hu,j,hj,rfl⟩:=hR.mem w hm;exact MF hv0 (sB u hu) (p1 u hu) ⟨by omega,tI v hv0⟩ (aiI (sB u hu) hj hc)
 |drop v hR ih=>
  intro hv hp;obtain⟨p1,p2⟩:=pairwise_cons.1 hp;have hv0:=hv v (by simp);have sB:∀u∈_,okV u=true:=λu hu=>hv u (bQ _ hu);have⟨i1,i2,i3⟩:=ih sB p2;have ha:=Y4 hv0;have hz:=JI hv0;have hf:eJ v=(v.cg-v.ca+2)/3:=by unfold eJ;rw[hv0];rfl
  have hm:=Int.mul_pos (show 0<eJ v by omega) ha;refine⟨by omega,λh0=>by omega,λ_=>⟨v,by simp,v.cg-1,by omega,λw hw hc=>?_⟩⟩;obtain⟨u,hu,j,hj,rfl⟩:=hR.mem w hw;exact MF hv0 (sB u hu) (p1 u hu) ⟨by omega,tI v hv0⟩ (aiI (sB u hu) hj hc)
theorem ab9:∀(vs:U ay)(l:U Int)(r:U ay×Int),(∀ v∈vs,okV v=true)->RD vs l=some r->0<=r.2/\(r.2=0->r.1=vs)
 |[],l,r,_,h=>by cases h;exact⟨Int.le_refl _,λ_=>rfl⟩
 |v::vs,[],r,_,h=>by cases h
 |v::vs,k::ks,r,hv,h=>by
  rw[RD]at h;cases hc:(decide (k<0) || decide (k>eJ v))with
  |true=>rw[hc]at h;cases h
  |false=>
   rw[hc,au]at h;obtain⟨q,hq,rfl⟩:=iE.1 h;obtain⟨i1,i2⟩:=ab9 vs ks q (λ u hu=>hv u (by simp[hu])) hq;simp at hc;have hv0:=hv v (by simp);have ha:=Y4 hv0;have hz:=JI hv0;have hf:eJ v=(v.cg-v.ca+2)/3:=(by unfold eJ;rw[hv0];rfl);have hm:=Int.mul_nonneg hc.1 (Int.le_of_lt ha);refine⟨by simp only;omega,λh0=>?_⟩;simp only at h0;have hk0:k=0:=(by refine Int.not_lt.1 (λ h=>?_) |> λh=>Int.le_antisymm h hc.1;have:=Int.mul_pos h ha;omega);subst hk0;rw[decide_eq_true (show (0:Int)<eJ v by omega),aj,i2 (by omega)];rfl
theorem acd:∀(ps:U dF)(l:U Int)(q:U dF×Int),(∀ v∈ps.flatMap (·.az),okV v=true)->Mw ps l=some q->0<=q.2/\(q.2=0->q.1=ps)
 |[],l,q,_,h=>by cases h;exact⟨Int.le_refl _,λ_=>rfl⟩
 |p::ps,l,q,hv,h=>by rw[Mw]at h;have⟨r,hr,h⟩:=ah.1 h;obtain⟨s,hs,rfl⟩:=iE.1 h;obtain⟨i1,i2⟩:=acd ps _ s (λ v hm=>hv v (by simp only[List.flatMap_cons,bF];exact .inr hm)) hs;obtain⟨j1,j2⟩:=ab9 _ _ r (λ v hm=>hv v (by simp only[List.flatMap_cons,bF];exact .inl hm)) hr;refine⟨by simp only;omega,λh0=>?_⟩;simp only at h0;rw[i2 (by omega),j2 (by omega)]
theorem anY:anH (gL.mk [] [] [] [] [] [] [] 0 [] [] [] [] []):=aqo (by simp[Km,lU,oY,Ak])
theorem Pm(d:aG)(l:U Int):q8 5000003 d l=some true:=by
 have⟨b,hb,hb2⟩:=anQ (n:=5000003) (d:=d) anY TE;unfold q8;rw[ao8,ai,hb,ai];cases b with
 |false=>rfl
 |true=>
  have⟨ht,hd⟩:=hb2 rfl;rw[Bool.not_true,au,ai];by_cases h10:(l.length:Int)>10
  .rw[decide_eq_true h10];rfl
  .rw[decide_eq_false h10,au];obtain⟨bf,hF,hFv⟩:=adF (n:=5000003) hd.law.1 hd.law.2 (by decide);have hC:=RG (n:=5000003) (l:=l) hd.law.1 hd.law.2 hd.y6 hF hFv (by decide);rw[hC,ai];unfold G0;cases hc1:(!bf || decide (l.length≠(ch d).length))with
   |true=>rfl
   |false=>
    have hbf:bf=true:=by
     cases bf with
     |true=>rfl
     |false=>cases hc1
    subst hbf;have hv:=hFv rfl;rw[au];cases hq:Mw d.phases l with
    |none=>rfl
    |some q=>
     simp only;cases hz:(q.1.flatMap (·.az)).isEmpty with
     |true=>rfl
     |false=>
      have⟨q1,q2⟩:=Pg d.phases l q hv hq;have⟨g1,g2⟩:=agv d.phases l q hq;have g1:iz (ch d) (ch (aG.mk d.lot q.1)) q.2:=g1;have hx:YR (aG.mk d.lot q.1):=by
       refine⟨⟨by show q.1.length<=1000;rw[q1];exact hd.law.1.1,λp hp=>?_⟩,λp hp=>?_⟩
       .obtain⟨i,hi,rfl⟩:=mem_iff_getElem.1 hp;have h2:=q2 i hi (by rw[<- q1];exact hi);exact Nat.le_trans h2.1 (hd.law.1.2 _ (getElem_mem _))
       .obtain⟨i,hi,rfl⟩:=mem_iff_getElem.1 hp;have h2:=q2 i hi (by rw[<- q1];exact hi);show(q.1[i]).gives.length<=1000;rw[h2.2];exact hd.law.2 _ (getElem_mem _)
      have hne:ch (aG.mk d.lot q.1)≠[]:=λh=>(by have h:q.1.flatMap (·.az)=[]:=h;rw[h]at hz;cases hz);have hFx:=anV hd.law.1 hd.law.2 hx.1 hx.2 rfl g2 g1 hne (by decide) hF;obtain⟨f1,⟨f2,f3⟩,_⟩:=(RH hd.law.1 hd.law.2 (by decide)).1 hF;have⟨x2,x3⟩:=g1.apart f2 f3;have hlen:=g1.len;obtain⟨r4,s1,s2,s3⟩:=Y3 hd.law.1 hF f2 (by omega) (by decide);obtain⟨r5,t1,t2,t3⟩:=Y3 hx.1 hFx x2 (by omega) (by decide);have t1':pM 5000003 (aG.mk d.lot q.1) 0 (q.1.length:Int)=some r5:=t1;simp only[au,show((0:Int) !=0)=false from rfl,s1,t1',hFx,ai,Bool.not_true,aj];cases e4:(r4.2 !=0)with
      |true=>rfl
      |false=>
       cases e5:(r5.2 !=0)with
       |true=>rfl
       |false=>
        obtain⟨u1,u2⟩:=s3 (by simpa using e4);obtain⟨w1,w2⟩:=t3 (by simpa using e5);have hM:Jl 5000003 r5.1 r4.1=some ([],0):=aas w1 u1 (λ x y z h=>by have⟨w,hw,h⟩:=(w2 x y z).1 h;obtain⟨v,hm,k,hk,rfl⟩:=g1.mem w hw;exact(u2 x y z).2 ⟨v,hm,aiI (hv v hm) hk h⟩) (by decide);have⟨z1,z2⟩:=acd d.phases l q hv hq;have⟨_,_,l3⟩:=g1.less f2 f3;have⟨la,oa,_⟩:=(wo r4.1).1 u1;have hS:=anX (n:=5000003) (a:=r4.1) (b:=r5.1) (by omega) (λ s hs=>by have:=(gU (oa s hs).rt).2.1;omega) (by decide);have hD:=anW (n:=5000003) (x:=aG.mk d.lot q.1) (d:=d) hx.1.1 (λ p hp=>⟨hx.1.2 p hp,hx.2 p hp⟩) (by decide);simp only[au,ai,hM,length_nil,hS,hD];by_cases hc:q.2=0
        .have hx0:aG.mk d.lot q.1=d:=(by rw[z2 hc]);have hr:r4.1=r5.1:=(by rw[hx0]at t2;rw[s2]at t2;injection t2 with t2;rw[t2]);rw[decide_eq_true hx0,decide_eq_true hr,hc];rfl
        .have⟨v,hm,z,hzz,hno⟩:=l3 hc;have hr:r4.1≠r5.1:=λe=>(by have hcb:GD r4.1 (bT v).x0 (bT v).y0 z:=(u2 _ _ _).2 ⟨v,hm,hzz,by have hb:=pq (f2 v hm);rw[DR]at hb;simp only[OY,aX,bq];omega⟩;rw[e]at hcb;obtain⟨w,hw,h⟩:=(w2 _ _ _).1 hcb;exact hno w hw h);have hx0:aG.mk d.lot q.1≠d:=λe=>(by rw[e]at t2;rw[s2]at t2;injection t2 with t2;exact hr (by rw[t2]));rw[decide_eq_false hx0,decide_eq_false hr,show(q.2==0)=false by simpa using hc];rfl
theorem RJ(q:HL xx.toSE [.st SI.ix,.sl (.int .i64)]):∃k,q8 k q.1 q.2.1=some true:=⟨5000003,Pm q.1 q.2.1⟩
end Go.Proofs
