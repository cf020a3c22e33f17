import Derived.Test.YtbdekfpclohfnaaGreatS3
open Go.IntKind (i64)
open List (length_take mem_map getElem_mem length_map append_nil foldl_cons length_singleton map_append)
namespace Go.Proofs
open Go.Gb Go.RowKit
variable {n:Nat}
theorem sumTo_le{f g:Nat->Int}:∀n,(∀ i,i<n->f i<=g i)->sumTo n f<=sumTo n g
 | 0,_=>Int.le_refl _
 |k+1,h=>by
  have:=sumTo_le k λi hi=>h i (by omega);have:=h k (by omega);simp only[sumTo];omega
theorem Ug{f g:Nat->Int}:∀n,(∀ i,i<n->f i<=g i)->sumTo n f=sumTo n g->∀i,i<n->f i=g i
 | 0,_,_,i,hi=>by omega
 |k+1,h,he,i,hi=>by
  have h1:=sumTo_le k λi hi=>h i (by omega);have h2:=h k (by omega);simp only[sumTo]at he;by_cases e:i=k
  ·subst e;omega
  ·exact Ug k (λ i hi=>h i (by omega)) (by omega) i (by omega)
theorem aiM{p q:Int->Int->Bool}(h:∀x y,p x y=true->q x y=true)(he:tC p=tC q){x y:Int}(hx:0<=x/\x<1048576)(hy:0<=y/\y<1048576):p x y=q x y:=by
 have hle:∀x y,Ji (p x y)<=Ji (q x y):=λx y=>by
  have:=h x y;cases hp:p x y<;>cases hq:q x y<;>simp_all [Ji]
 have h1:=Ug EC (λ i _=>sumTo_le EC λj _=>hle (i:Int) (j:Int)) he x.toNat (by unfold EC;omega);have h2:=Ug EC (λ j _=>hle (x.toNat:Int) (j:Int)) h1 y.toNat (by unfold EC;omega);rw[show (x.toNat:Int)=x by omega,show(y.toNat:Int)=y by omega]at h2;cases hp:p x y<;>cases hq:q x y<;>simp_all [Ji]
theorem RG{r:ay}(h:cL r=true):JX r=GK r:=by
 have:=yV h;rw[sO]at h;unfold GK at*;unfold JX;rw[cB (x:=r.x1 -r.x0),cB (x:=r.y1 -r.y0),cB (by omega) (by omega)]
theorem anT{r:ay}(h:cL r=true):0<JX r:=by
 rw[RG h];rw[sO]at h;unfold GK;exact Int.mul_pos (by omega) (by omega)
theorem aiN{g y:ay}(hg:cL g=true)(hy:cL y=true):(bif cL g&&(cL y&&cL (oM g y))then JX (oM g y)else 0)=tC λa b=>wW g a b&&wW y a b:=by
 rw[hg,hy,Bool.true_and,Bool.true_and,<- ED (anm g y)];cases h:cL (oM g y)with
 |true=>rw[ai,RG h,YV h]
 |false=>
  rw[ak,<- Vj];refine ED λa b=>Eq.symm ?_;rw[Bool.eq_false_iff];intro hc;rw[vC]at hc;rw[sO]at hg hy;have:cL (oM g y)=true:=by
   rw[sO];unfold oM at hc ⊢;simp only at hc ⊢;omega
  rw[this]at h;cases h
theorem ao1(g:ay)(s:Int)(y:ay):sR g s y=bif cL g&&(cL y&&cL (oM g y))then i64.wrap (s+JX (oM g y))else s:=rfl
theorem Zn{g:ay}(hg:cL g=true):∀(A:List ay)(s:Int),T4 A->A.length<=1000->0<=s->s+1099511627776*(A.length:Int)<=9223372036854775807->A.foldl (sR g) s=s+tC λx y=>wW g x y&&jF A x y
 |[],s,_,_,_,_=>by
  have:tC (λ x y=>wW g x y&&jF [] x y)=0:=by
   rw[<- Vj];exact ED λx y=>by simp[jF]
  rw[this];simp
 |y::A,s,hd,hl,h0,h1=>by
  obtain⟨hp,ho⟩:=hd;rw[List.pairwise_cons]at hp;have hy:=ho y (by simp);have hc:=aiN hg hy;have hb:0<=(bif cL g&&(cL y&&cL (oM g y))then JX (oM g y)else 0)/\(bif cL g&&(cL y&&cL (oM g y))then JX (oM g y)else 0)<=1099511627776:=by
   rw[hg,hy,Bool.true_and,Bool.true_and];cases h:cL (oM g y)with
   |true=>rw[ai,RG h];exact yV h
   |false=>simp
  simp only[bH]at hl h1;have e:sR g s y=s+(bif cL g&&(cL y&&cL (oM g y))then JX (oM g y)else 0):=by
   rw[ao1];cases h:cL g&&(cL y&&cL (oM g y))with
   |true=>
    rw[h]at hb;simp only[ai]at hb ⊢;rw[cB (by omega) (by omega)]
   |false=>simp
  rw[foldl_cons,e,Zn hg A _ ⟨hp.2,λr hr=>ho r (by simp[hr])⟩ (by omega) (by omega) (by omega),hc,Int.add_assoc];refine congrArg (λ t=>s+t) (ala λx z=>?_).symm;have hsp:jF (y::A) x z=(wW y x z || jF A x z):=by simp[jF,wW]
  rw[hsp];cases h1:wW y x z with
  |false=>simp[Ji]
  |true=>
   have:jF A x z=false:=by
    rw[Bool.eq_false_iff];intro hc;have⟨r,hr,hh⟩:=(Pe A x z).1 hc;exact hp.1 r hr x z h1 hh
   rw[this];cases wW g x z<;>rfl
def wB:ay:=⟨0,0,1048576,1048576⟩
def Nv(a:List ay):List ay:=fI (Ce (fG 2) [wB] a)
def An(b r:ay):Int:=max (max (max (max 0 (r.x0 -b.x1)) (b.x0 -r.x1)) (r.y0 -b.y1)) (b.y0 -r.y1)
def AW(b:ay):Int:=min (min (min b.x0 b.y0) (1048576 -b.x1)) (1048576 -b.y1)
def GZ(a:List ay)(b:ay):Int:=bif cD a then(Nv a).foldl (λ s r=>min s (An b r)) (AW b)else 0
theorem agE:∀r∈[wB],cL r=true:=λr hr=>by rw[aW.1 hr];decide
theorem acJ{a:List ay}(ha:∀r∈a,cL r=true):(∀ x y,jF (Nv a) x y=((decide (0<=x)&&decide (x<1048576))&&(decide (0<=y)&&decide (y<1048576))&&!(jF a x y)))/\∀r∈Nv a,cL r=true:=by
 have hk:fG 2 false false=false:=GL 2;have hS:qQ (Ce (fG 2) [wB] a):=Ar _ _ (rT _);have hin:∀x y,ej (jD (Ce (fG 2) [wB] a) x) y=((decide (0<=x)&&decide (x<1048576))&&(decide (0<=y)&&decide (y<1048576))&&!(jF a x y)):=λx y=>by
  rw[M9 hk,(EB hk _ _).2,(lG agE x).2,(lG ha x).2];simp only[fG,jF,wB,List.any_cons,List.any_nil,Bool.or_false];rfl
 refine⟨λ x y=>by rw[Nv,adQ hS,hin],λr hr=>?_⟩;have⟨r1,r2⟩:=Cc hS;rw[Nv,yU,Vh]at hr;obtain⟨s,hs,q,hq,rfl⟩:=hr;have⟨g1,g2⟩:=EA r1 s hs;have c0:=g2 s.x0 (Int.le_refl _) g1;have c1:=g2 (s.x1 -1) (by omega) (by omega);rw[r2]at c0 c1;have hcan:Can (jD (Ce (fG 2) [wB] a) s.x0):=by rw[M9 hk];exact(EB hk _ _).1
 rw[c0]at hcan;have hq1:q.from_<q.to:=hcan.2 q hq;have b0:ej (jD (Ce (fG 2) [wB] a) s.x0) q.from_=true:=by rw[c0,Ap];exact⟨q,hq,Int.le_refl _,hq1⟩
 have b1:ej (jD (Ce (fG 2) [wB] a) (s.x1 -1)) (q.to -1)=true:=by rw[c1,Ap];exact⟨q,hq,by omega,by omega⟩
 rw[hin]at b0 b1;simp only[aD,aG]at b0 b1;rw[sO];simp only;omega
theorem anU{a:List ay}(ha:a.length<=200):(Nv a).length<=170000:=by
 have h1:(Ce (fG 2) [wB] a).length<=402:=by
  have:=Rn 2 [wB] a;have h2:=l7 ([wB]++a);unfold Rm at this;simp only[bW,length_singleton]at h2;omega
 have h2:=Oc (Ce (fG 2) [wB] a) 402 λs hs=>by
  rw[ak9]at hs;obtain⟨t,_,rfl⟩:=mem_map.1 hs;have l1:=Og (fG 2) (bR [wB] t.x0) (bR a t.x0);have l2:=pJ [wB] t.x0;have l3:=pJ a t.x0;simp only[length_singleton]at l2;simp only;omega
 have h3:(Ce (fG 2) [wB] a).length*402<=402*402:=Nat.mul_le_mul_right _ h1;unfold Nv;omega
theorem Zo{α:Type}(f:α->Int)(k:Int):∀(l:List α)(s:Int),k<=l.foldl (λ s r=>min s (f r)) s↔k<=s/\∀r∈l,k<=f r
 |[],s=>by simp
 |a::l,s=>by
  rw[foldl_cons,Zo f k l,List.forall_mem_cons];constructor
  ·rintro⟨h1,h2⟩;exact⟨by omega,by omega,h2⟩
  ·rintro⟨h1,h2,h3⟩;exact⟨by omega,h3⟩
theorem aiO{a:List ay}{b:ay}(ha:cD a=true)(hb:cL b=true){k:Int}(hk:1<=k):mE a b k=true↔k<=GZ a b:=by
 have hd:=Y2 ha;have⟨o1,o2⟩:=acJ hd.2;have hlen:=(vB ha).2.1;unfold GZ;rw[ha,ai,Zo,mE,aD,aG];have t7:cL (pM b k)=true↔k<=AW b:=by
  rw[sO]at hb ⊢;unfold pM AW;simp only;omega
 rw[t7];refine and_congr_right λhe=>?_;have hg:=t7.2 he;have hf:a.foldl (λ s y=>sR (pM b k) s y) 0=tC λx y=>wW (pM b k) x y&&jF a x y:=by
  have:=Zn hg a 0 hd (by omega) (by omega) (by omega);rw[show a.foldl (λ s y=>sR (pM b k) s y) 0=a.foldl (sR (pM b k)) 0 from rfl,this];omega
 rw[hf,RG hg,<- YV hg];have hgr:∀x y,wW (pM b k) x y=true->(0<=x/\x<1048576)/\(0<=y/\y<1048576):=λx y h=>by
  rw[sO]at hg;rw[vC]at h;omega
 constructor
 ·intro h r hr;have hro:=o2 r hr;refine Int.not_lt.1 λhlt=>?_;have hc:∃x y,wW (pM b k) x y=true/\wW r x y=true:=by
   refine⟨max (pM b k).x0 r.x0,max (pM b k).y0 r.y0,?_,?_⟩<;>
   ·rw[vC];rw[sO]at hro hb;unfold An at hlt;unfold pM;simp only;omega
  obtain⟨x,y,h1,h2⟩:=hc;have hx:=hgr x y h1;have:=aiM (p:=λx y=>wW (pM b k) x y&&jF a x y) (q:=wW (pM b k)) (λ x y h=>by simp only[aD]at h;exact h.1) h hx.1 hx.2;simp only[h1,Bool.true_and]at this;have hout:jF (Nv a) x y=true:=(Pe _ _ _).2 ⟨r,hr,h2⟩;rw[o1,this]at hout;simp at hout
 ·intro h;refine ED λx y=>?_;cases h1:wW (pM b k) x y with
  |false=>rfl
  |true=>
   rw[Bool.true_and];cases h2:jF a x y with
   |true=>rfl
   |false=>
    exfalso;have hx:=hgr x y h1;have hout:jF (Nv a) x y=true:=by
     rw[o1,h2];simp only[aD,aG,Bool.not_false,and_true];exact hx
    obtain⟨r,hr,hh⟩:=(Pe _ _ _).1 hout;have:=h r hr;rw[vC]at h1 hh;unfold An at this;unfold pM at h1;simp only at h1;omega
theorem aiP{b:ay}{k:Int}:mE [] b k=false:=by
 unfold mE;cases h:cL (pM b k)with
 |false=>rfl
 |true=>
  have:=anT h;have e:decide (([]:List ay).foldl (λ s y=>sR (pM b k) s y) 0=JX (pM b k))=false:=by
   rw[dn];show ¬((0:Int)=_);omega
  rw[e];rfl
theorem alA(a:List ay){b:ay}(hb:cL b=true):0<=GZ a b:=by
 unfold GZ;cases cD a with
 |false=>exact Int.le_refl _
 |true=>
  rw[ai,Zo];rw[sO]at hb;refine⟨by unfold AW;omega,λr _=>by unfold An;omega⟩
theorem anV{p:Int->Bool}{S hi:Int}(hS:0<=S)(h:∀k,1<=k->(p k=true↔k<=S))(h0:0<=hi)(h1:hi<=1048576):zG p 21 0 hi=min hi S:=by
 have a:=Rx p 21 0 hi h0;obtain⟨b,c⟩:=Ud p 21 0 hi h0 (by have:(2:Int) ^ 21=2097152:=rfl;omega);generalize zG p 21 0 hi=s at a b c;have hb:s<=S:=by
  rcases b with b |b
  ·omega
  ·by_cases hs:1<=s
   ·exact(h s hs).1 b
   ·omega
 have hc:s=hi\/S<=s:=by
  rcases c with c |c
  ·exact Or.inl c
  ·right;refine Int.not_lt.1 λhlt=>?_;rw[(h (s+1) (by omega)).2 (by omega)]at c;cases c
 omega
theorem Vo{lot:fU}:∀(l:List aQ)(s:Int),(∀ v∈l,okV v=true)->0<=s->s<=1048576->l.foldl (λ b v=>zG (mE (kF lot) (dZ v)) 21 0 b) s=l.foldl (λ b v=>min b (GZ lot.area (dZ v))) s
 |[],_,_,_,_=>rfl
 |v::l,s,hv,h0,h1=>by
  have hb:=Me (hv v (by simp));have hp:=alA lot.area hb;have e:zG (mE (kF lot) (dZ v)) 21 0 s=min s (GZ lot.area (dZ v)):=by
   refine anV hp (λ k hk=>?_) h0 h1;unfold kF;cases hr:cD lot.area with
   |true=>rw[ai];exact aiO hr hb hk
   |false=>
    rw[ak,aiP];have:GZ lot.area (dZ v)=0:=(by unfold GZ;rw[hr];rfl);rw[this];constructor
    ·intro h;cases h
    ·intro h;omega
  rw[foldl_cons,foldl_cons,e];exact Vo l _ (λ v hv2=>hv v (by simp[hv2])) (by omega) (by omega)
theorem agF(lot:fU)(d:bi):nY (kF lot) (dV d)=(dV d).foldl (λ b v=>min b (GZ lot.area (dZ v))) 1048576:=
 Vo _ _ (Jv d) (by omega) (by omega)
theorem tJ(v:aQ):kT v=some (okV v):=by
 unfold kT I4 I5 okV;rw[show ay.mk v.bz v.cg v.bx v.cf=dZ v from rfl,GN];have e4:(v.use==0)=decide (v.use=0):=by by_cases h:v.use=0<;>simp[h]
 have e5:(v.units==0)=decide (v.units=0):=by by_cases h:v.units=0<;>simp[h]
 have e6:decide (v.use<=5)=decide (v.use<6):=by rw[decide_eq_decide];omega
 rw[e4,e5,e6];simp only[ge_iff_le,ah];generalize cL (dZ v)=a1;generalize decide (0<=v.dy)=a2;generalize decide (v.dy<v.dg)=a3;generalize decide (v.dg<=4096)=a4;generalize decide (v.use=0)=a5;generalize decide (v.units=0)=a6;generalize decide (0<=v.use)=a7;generalize decide (v.use<6)=a8;generalize decide (0<=v.units)=a9;generalize decide (v.units<=1048576)=gR;cases a1<;>cases a2<;>cases a3<;>cases a4<;>cases a5<;>cases a6<;>cases a7<;>cases a8<;>cases a9<;>cases gR<;>rfl
theorem Zp{d:bi}(h:yi d)(hn:1001<=n):Ej n d 0 (d.phases.length:Int)=some (EI d):=by
 obtain⟨h1,h2⟩:=h;unfold Ej;have key:=dz (step:=u7 d 0 (d.phases.length:Int)) (λ i=>((i:Int),(d.phases.take i).flatMap (·.cp))) (s:=((0:Int),([]:List aQ))) d.phases.length (EI d) rfl (λ i hi=>by
  have e2:decide ((0:Int)<=(i:Int))=true:=by simp
  have hl:=Ze (l:=d.phases.take i) λp hp=>h2 p (List.mem_of_mem_take hp);rw[length_take]at hl;have hv:=h2 _ (getElem_mem hi);generalize hL:(d.phases.take i).flatMap (·.cp)=L at hl;have hap:bD L.length L.length d.phases[i].cp.length d.phases[i].cp.length 72=true:=bB (by omega) (by simp only[maxLen];omega);simp only[u7,dm hi,ai,aZ hi,ah,e2,hap,dH,aB,aR i];rw[dG hi,List.flatMap_append,hL];simp only[List.flatMap_cons,List.flatMap_nil,append_nil]) (by simp only[u7,bT,ak,aB,ai,List.take_length,EI]) n (by omega)
 have hz:bb 0 ([]:List aQ).length=true:=rfl;simp only[hz,ai,key,ah,bG,aB]
theorem Zq{d:bi}(h:yi d)(hn:1001<=n):El n d=some (dV d):=by
 unfold El;rw[Zp h hn];have hz:bb 0 ([]:List aQ).length=true:=rfl;have hr:dV d=((EI d).take 40).filter okV:=rfl;simp only[ah,hz,ai];rw[hr];generalize EI d=l;have hT:l.take (min l.length 40)=l.take 40:=by
  by_cases h:l.length<=40
  ·rw[Nat.min_eq_left h,List.take_length,List.take_of_length_le h]
  ·rw[Nat.min_eq_right (by omega)]
 have key:=dz (step:=ve l) (λ i=>((i:Int),(l.take i).filter okV)) (s:=((0:Int),([]:List aQ))) (min l.length 40) ((l.take 40).filter okV) (by simp) (λ i hi=>by
  have hi1:i<l.length:=by omega
  have e40:decide ((i:Int)<40)=true:=by rw[aG];omega
  have hlen:((l.take i).filter okV).length<=i:=Nat.le_trans (List.length_filter_le _ _) (by rw[length_take];omega);have hs:sub ([l[i]]:List aQ) 0 1=[l[i]]:=rfl;have hN:(l.take (i+1)).filter okV=(l.take i).filter okV++(bif okV l[i]then [l[i]]else []):=by
   rw[dG hi1,List.filter_append];cases h4:okV l[i]<;>simp[h4]
  rw[hN];generalize (l.take i).filter okV=L at hlen;have hap:bD L.length L.length 1 1 72=true:=bB (by omega) (by simp only[maxLen];omega);simp only[ve,dm hi1,ai,e40,bS hi1,eY hi1,ah,tJ,aR i];cases okV l[i]with
  |false=>simp only[ak,aB,ai,ah,append_nil]
  |true=>simp only[ai,hs,length_singleton,hap,dH,aB,ah]) (by
  have e:((bif decide (((min l.length 40:Nat):Int)<(l.length:Int))then some (decide (((min l.length 40:Nat):Int)<40))else some false):Option Bool)=some false:=by
   by_cases h:l.length<=40
   ·rw[Nat.min_eq_left h,bT];rfl
   ·have e1:decide (((min l.length 40:Nat):Int)<40)=false:=(by rw[dn];omega);rw[e1];cases decide (((min l.length 40:Nat):Int)<(l.length:Int))<;>rfl
  simp only[ve,e,ah,ak,aB,ai,hT]) n (by omega)
 simp only[key,ah,bG,aB,ai]
theorem Zr{a:List ay}(hl:a.length<=900){b:ay}(hb:cL b=true)(hn:2000000<=n):Ep n a b=some (GZ a b):=by
 unfold Ep GZ;rw[vD (by omega) (by omega)];simp only[ah];cases hr:cD a with
 |false=>rfl
 |true=>
  have hd:=Y2 hr;have hs:sub ([ay.mk 0 0 1048576 1048576]:List ay) 0 1=[wB]:=rfl;have hz:bb ([wB]:List ay).length 1=true:=rfl;have hl2:=anU (vB hr).2.1;have hF:yP n [wB] a 2=some (Nv a):=Oj agE hd.2 (by simp) (by omega) (by simp;omega);rw[sO]at hb;have key:=kR (l:=Nv a) (step:=vo b (Nv a)) (λ i (s:Int)=>(s,(i:Int))) (λ r s=>min s (An b r)) (λ s=>s) (λ i hi s=>by
   have ho:=(acJ hd.2).2 _ (getElem_mem hi);rw[sO]at ho;simp only[vo,dm hi,ai,bS hi,eY hi,ah,An,cB (x:=(Nv a)[i].x0 -b.x1),cB (x:=b.x0 -(Nv a)[i].x1),cB (x:=(Nv a)[i].y0 -b.y1),cB (x:=b.y0 -(Nv a)[i].y1),aR i]) (λ s=>by simp only[vo,bT,ak]) n (by omega) (AW b)
  rw[show ((0:Nat):Int)=0 from rfl]at key;have he:min (min (min b.x0 b.y0) (i64.wrap (1048576 -b.x1))) (i64.wrap (1048576 -b.y1))=AW b:=by rw[cB (x:=1048576 -b.x1),cB (x:=1048576 -b.y1)];rfl
  simp only[Bool.not_true,ak,ai,hs,hz,hF,ah,he,key]
theorem Mi(v:aQ):∃z,yM v=some z:=by
 unfold yM;rw[tJ];cases v.extra<;>cases okV v<;>exact⟨_,rfl⟩
theorem RH(v:aQ):∃z,Gz v=some z:=by
 have⟨z,hz⟩:=Mi v;unfold Gz;rw[tJ,hz];cases okV v<;>exact⟨_,rfl⟩
theorem aiQ{u:Int}(h0:0<=u)(h6:u<6):∃s,WN u=some s:=by
 obtain⟨k,rfl⟩:∃k:Nat,u=(k:Int):=⟨u.toNat,by omega⟩;have hk:k<6:=by omega
 unfold WN;have e:∀L:List ByteArray,k<L.length->∃s,((bh L (k:Int)).bind λx1=>some x1)=some s:=λL h=>by rw[aZ h];exact⟨_,rfl⟩
 rw[bS hk,show((0:Nat):Int)+(k:Int)=(k:Int)by omega];exact e _ hk
theorem aiR(p:gQ){u:Int}(h0:0<=u)(h6:u<6)(ht:p.tables.length<n)(ht2:p.tables.length<=9223372036854775807)(hr:∀t∈p.tables,t.rows.length<n/\t.rows.length<=9223372036854775807):∃r,WO n p u=some r:=by
 have⟨s,hs⟩:=aiQ h0 h6;have two:∀t:fH,t.rows.length<n->t.rows.length<=9223372036854775807->∃o,iter (BP n u t) n (0:Int)=some o/\(∃ z,o= .inr (.inr (.inr z))\/o= .inl ()):=λt t1 t2=>by
  refine Bc (step:=BP n u t) (λ i (v:Int)=>v=(i:Int)) t.rows.length (λ o=>∃z,o= .inr (.inr (.inr z))\/o= .inl ()) (λ i v hi hv=>?_) (λ v hv=>?_) (Nat.zero_le _) n (by omega) 0 rfl
  ·subst hv;simp only[BP,dm hi,ai,aZ hi,ah,hs,aR i];cases ByteArray.toList t.rows[i].name==ByteArray.toList s with
   |true=>exact Or.inr ⟨_,rfl,_,Or.inl rfl⟩
   |false=>exact Or.inl ⟨_,rfl,rfl⟩
  ·subst hv;exact⟨.inl (),by simp only[BP,bT,ak],0,Or.inr rfl⟩
 have one:∃o,iter (BQ n p u) n (0:Int)=some o/\True:=by
  refine Bc (step:=BQ n p u) (λ i (v:Int)=>v=(i:Int)) p.tables.length (λ _=>True) (λ i v hi hv=>?_) (λ v hv=>?_) (Nat.zero_le _) n (by omega) 0 rfl
  ·subst hv;obtain⟨t1,t2⟩:=hr _ (getElem_mem hi);obtain⟨o,g1,z,g2⟩:=two _ t1 t2;simp only[BQ,dm hi,ai,aZ hi,ah,g1,aR i];cases ByteArray.toList p.tables[i].name==ByteArray.toList ⟨#[116,114,97,102,102,105,99]⟩with
   |true=>
    rcases g2 with rfl |rfl
    ·exact Or.inr ⟨_,rfl,trivial⟩
    ·exact Or.inr ⟨_,rfl,trivial⟩
   |false=>exact Or.inl ⟨_,rfl,rfl⟩
  ·subst hv;exact⟨.inl (),by simp only[BQ,bT,ak],trivial⟩
 obtain⟨o,g,_⟩:=one;unfold WO;rw[g];cases o with
 |inl w=>exact⟨_,rfl⟩
 |inr r=>exact⟨_,rfl⟩
theorem Zt{p:gQ}(hp:HW n p){v:aQ}(hv:okV v=true):∃z,Em n p v=some z:=by
 simp only[okV,aD,aG]at hv;have⟨r,h1⟩:=aiR (n:=n) p (u:=v.use) hv.2.2.2.2.2.1 hv.2.2.2.2.2.2.1 hp.1 hp.2.1 hp.2.2;have⟨f,h2⟩:=RH v;unfold Em;rw[h1,h2];simp only[ah];have e100:((100:Int) !=0)=true:=rfl;cases h:r==0 with
 |true=>exact⟨_,rfl⟩
 |false=>
  have e:(r !=0)=true:=by rw[bne,h];rfl
  cases f==0 with
  |true=>exact⟨_,rfl⟩
  |false=>
   simp only[ak,ah,e,ai,e100];cases decide (f>i64.wrap (Int.tdiv 109951162777600 r))<;>exact⟨_,rfl⟩
theorem agG{a:List ay}(hl:a.length<=900)(hn:50000<=n):∃z,QZ n a=some z:=by
 unfold QZ;rw[vD (by omega) hn];have key:=kR (l:=a) (step:=Er a) (λ i (s:Int)=>(s,(i:Int))) (λ r s=>i64.wrap (s+i64.wrap (i64.wrap (r.x1 -r.x0)*i64.wrap (r.y1 -r.y0)))) (λ s=>s) (λ i hi s=>by simp only[Er,dm hi,ai,aZ hi,ah,aR i]) (λ s=>by simp only[Er,bT,ak]) n (by omega) 0;rw[show ((0:Nat):Int)=0 from rfl]at key;rw[key];cases cD a<;>exact⟨_,rfl⟩
theorem alB{p:gQ}{lot:fU}{d:bi}(hp:HW n p)(hl:lot.area.length<=900)(hd:yi d)(hn:2000000<=n):∃e1 e2 e3 e4 e5 e6 e7 e8:Int,HP n p lot d=some [⟨⟨#[97,114,101,97]⟩,e1⟩,⟨⟨#[99,111,118,101,114]⟩,e2⟩,⟨⟨#[102,108,111,111,114]⟩,e3⟩,⟨⟨#[102,108,111,111,114,115]⟩,e4⟩,⟨⟨#[104,101,105,103,104,116]⟩,e5⟩,⟨⟨#[104,111,109,101,115]⟩,e6⟩,⟨⟨#[114,117,110,111,102,102]⟩,e7⟩,⟨⟨#[115,101,116,98,97,99,107]⟩,nY (kF lot) (dV d)⟩,⟨⟨#[116,114,97,102,102,105,99]⟩,e8⟩]:=by
 rw[agF];have hvl:=Ol d;have z5:=Jv d;unfold HP;rw[Zq hd (by omega)];generalize dV d=l at hvl z5;have hz:bb 0 ([]:List ay).length=true:=rfl;obtain⟨r,h1,h2,h3⟩:∃r,iter (GA n p lot l) n ((0:Int),(0:Int),(0:Int),(0:Int),(0:Int),(1048576:Int),(0:Int),([]:List ay))=some r/\r.2.2.2.2.2.1=l.foldl (λ b v=>min b (GZ lot.area (dZ v))) 1048576/\r.2.2.2.2.2.2=l.map dZ:=by
  refine Rh (step:=GA n p lot l) (λ i (v:Int×Int×Int×Int×Int×Int×Int×(List ay))=>v.2.2.2.2.2.1=(l.take i).foldl (λ b v=>min b (GZ lot.area (dZ v))) 1048576/\v.2.2.2.2.2.2.1=(i:Int)/\v.2.2.2.2.2.2.2=(l.take i).map dZ) l.length _ (λ i v hi hv=>?_) (λ v hv=>?_) n (by omega) _ ⟨rfl,rfl,rfl⟩
  ·obtain⟨v1,v2,v3,v4,v5,v6,v7,v8⟩:=v;obtain⟨a1,a2,a3⟩:=hv;simp only at a1 a2 a3;subst a2;have SW:=z5 _ (getElem_mem hi);have⟨f,hf⟩:=RH l[i];have⟨s,hs⟩:=Mi l[i];have⟨t,ht⟩:=Zt hp SW;have hb:=Zr (n:=n) hl (Me SW) hn;have hln:v8.length<=1000:=(by rw[a3,length_map,length_take];omega);have hs1:∀r:ay,sub ([r]:List ay) 0 1=[r]:=λ_=>rfl;have hap:bD v8.length v8.length 1 1 32=true:=bB (by omega) (by simp only[maxLen];omega);unfold dZ at hb;simp only[GA,dm hi,ai,bS hi,eY hi,ah,hs1,length_singleton,hap,dH,hf,hs,ht,hb,aB,aR i];refine⟨_,rfl,?_,rfl,?_⟩
   ·rw[dG hi,List.foldl_append,<- a1];rfl
   ·rw[dG hi,map_append,<- a3];rfl
  ·obtain⟨v1,v2,v3,v4,v5,v6,v7,v8⟩:=v;obtain⟨a1,a2,a3⟩:=hv;simp only at a1 a2 a3;subst a2;rw[List.take_length]at a1 a3;simp only[GA,bT,ak,aB,ai];exact⟨_,rfl,a1,a3⟩
 obtain⟨r1,r2,r3,r4,r5,r6,r7⟩:=r;simp only at h2 h3;subst h2;subst h3;have hF:=Ro (n:=n) (l:=l.map dZ) (λ r hr=>by obtain⟨v,hv,rfl⟩:=mem_map.1 hr;exact Me (z5 v hv)) (by rw[length_map];omega) (by omega);have hFl:(fI (dh (l.map dZ))).length<=80*40:=by
  have h1:=Oc (dh (l.map dZ)) 40 λs hs=>Nat.le_trans (Vb hs) (by rw[length_map];omega);have h2:(dh (l.map dZ)).length<=80:=by
   have:=(pK (λ a b=>(⟨a,b,bR (l.map dZ) a⟩:bF)) (bP (l.map dZ))).1;have h3:=l7 (l.map dZ);rw[length_map]at h3;have h4:(dh (l.map dZ)).length=(bP (l.map dZ)).length -1:=this;omega
  exact Nat.le_trans h1 (Nat.mul_le_mul_right _ h2)
 generalize fI (dh (l.map dZ))=F at hF hFl;have two:=kR (l:=F) (step:=M7 F) (λ i (s:Int)=>(s,(i:Int))) (λ r s=>i64.wrap (s+i64.wrap (i64.wrap (r.x1 -r.x0)*i64.wrap (r.y1 -r.y0)))) (λ s=>s) (λ i hi s=>by simp only[M7,M4,dm hi,ai,bS hi,eY hi,ah,aR i]) (λ s=>by simp only[M7,bT,ak]) n (by omega) 0;rw[show ((0:Nat):Int)=0 from rfl]at two;obtain⟨z,hA⟩:=agG (n:=n) hl (by omega);simp only[ah,hz,ai,h1,bG,aB,hF,two,hA];exact⟨_,_,_,_,_,_,_,_,rfl⟩
theorem RI(r:ay):GD r=some (cL r):=by simp only[GD,Q0,TG,ah,Bool.and_assoc]
theorem aiS(a b:ay):WQ a b=some (TM a b):=by
 unfold WQ TM;rw[RI,RI];simp only[ah];cases ha:cL a with
 |false=>rfl
 |true=>
  cases hb:cL b with
  |false=>rfl
  |true=>
   simp only[cL,aD,aG]at ha hb;obtain⟨a1,a2,a3,a4,a5,a6⟩:=ha;obtain⟨b1,b2,b3,b4,b5,b6⟩:=hb;have ap:∀p q r s:Int,0<=p->p<q->q<=1048576->0<=r->r<s->s<=1048576->GH p q r s=some (max 0 (max p r -min q s+1)):=by
    intro p q r s h1 h2 h3 h4 h5 h6;unfold GH;by_cases c1:r>=q
    ·simp only[c1,decide_true,ai];rw[cB (x:=r -q),cB (by omega) (by omega)];congr 1;omega
    ·simp only[c1,decide_false,ak];by_cases c2:p>=s
     ·simp only[c2,decide_true,ai];rw[cB (x:=p -s),cB (by omega) (by omega)];congr 1;omega
     ·simp only[c2,decide_false,ak];congr 1;omega
   rw[ap _ _ _ _ a1 a2 a3 b1 b2 b3,ap _ _ _ _ a4 a5 a6 b4 b5 b6];simp only[Bool.not_true,ak,ah,Bool.or_self];rw[cB (x:=max a.x0 b.x0 -min a.x1 b.x1),cB (x:=max a.y0 b.y0 -min a.y1 b.y1),cB (by omega) (by omega)];congr 1;omega
theorem Zu{a b:List ay}{i:Nat}(hi:i<a.length)(hb:b.length<1099511627776)(hn:b.length<n)(m:Int):iter (BR a b (i:Int)) n (m,(0:Int))=some (b.foldl (λ m y=>min m (TM a[i] y)) m):=by
 have:=kR (l:=b) (step:=BR a b (i:Int)) (λ i (s:Int)=>(s,(i:Int))) (λ y m=>min m (TM a[i] y)) (λ s=>s) (λ j hj s=>?_) (λ s=>by simp[BR]) n hn m
 ·exact this
 ·have hj':decide ((j:Int)<(b.length:Int))=true:=by simpa using hj
  simp only[BR,hj',ai,aZ hi,aZ hj,ah,aiS];rw[aO (by omega)]
theorem aiT{a b:List ay}(ha:a.length<=900)(hb:b.length<=900)(hn:50000<=n):Q5 n a b=some (Nt a b):=by
 unfold Q5 Nt;have z:∀l:List ay,(((l.length:Int))==0)=decide (l=[]):=λl=>by cases l<;>simp<;>omega
 rw[z a,z b,vD (by omega) hn,vD (by omega) hn];have loop:(iter (BS n a b) n ((1048576:Int),(0:Int)))=some (a.foldl (λ m x=>b.foldl (λ m y=>min m (TM x y)) m) 1048576):=by
  have:=kR (l:=a) (step:=BS n a b) (λ i (s:Int)=>(s,(i:Int))) (λ x m=>b.foldl (λ m y=>min m (TM x y)) m) (λ s=>s) (λ i hi s=>?_) (λ s=>by simp[BS]) n (by omega) 1048576
  ·exact this
  ·have hi':decide ((i:Int)<(a.length:Int))=true:=(by simpa using hi);simp only[BS,hi',ai];rw[Zu hi (by omega) (by omega),ah,aO (by omega)]
 simp only[ah,loop];cases decide (a=[])<;>cases decide (b=[])<;>cases cD a<;>cases cD b<;>rfl
theorem agH{t:fU}(h:sL t):QX t=some t:=by
 unfold QX;have a1:bD ([]:List ay).length 0 t.area.length t.area.length 32=true:=bB (a:=0) (by omega) (by simp only[maxLen];omega);have a2:bD ([]:List Int).length 0 t.from_.length t.from_.length 8=true:=bB (a:=0) (by omega) (by simp only[maxLen];omega);simp only[a1,a2,ai,dH,bI,bG,aB]
theorem Vp{land:List fU}{id:Int}(h:∀t∈land,sL t)(hl:land.length<1099511627776)(hn:land.length<n):LM n land id=some (cu land id):=by
 unfold LM;have:=iK (l:=land) (step:=Ei land id) (λ i=>(i:Int)) (λ t=>t.id==id) () (λ i=>(land.getD i F2,true)) (λ i hi=>?_) ?_ n hn
 ·rw[show ((0:Nat):Int)=0 from rfl]at this;rw[this];unfold cu;rcases YZ (λ t:fU=>t.id==id) land with ⟨i,hi,h1,h2⟩ |⟨h1,h2⟩
  ·rw[h1,h2];simp[hi]
  ·rw[h1,h2];rfl
 ·have hi':decide ((i:Int)<(land.length:Int))=true:=by simpa using hi
  simp only[Ei,hi',ai,aZ hi,ah,agH (h _ (getElem_mem hi))];cases land[i].id==id with
  |true=>simp[hi]
  |false=>simp only[ak];rw[aO (by omega)]
 ·simp[Ei]
theorem aiU{l:List Int}{a:Int}(hl:l.length<1099511627776)(hn:l.length<n):WR n l a=some (decide (a∈l)):=by
 have tA:(l.any λx=>x==a)=decide (a∈l):=by rw[eu];simp
 unfold WR;have:=iK (l:=l) (step:=I7 l a) (λ i=>(i:Int)) (λ x=>x==a) () (λ _=>true) (λ i hi=>?_) ?_ n hn
 ·rw[show ((0:Nat):Int)=0 from rfl]at this;rw[this,<- tA,<- jf];cases kK (λ x=>x==a) l<;>rfl
 ·have hi':decide ((i:Int)<(l.length:Int))=true:=by simpa using hi
  simp only[I7,hi',ai,aZ hi,ah];cases l[i]==a with
  |true=>rfl
  |false=>simp only[ak];rw[aO (by omega)]
 ·simp[I7]
theorem agI{l:List Int}{a:Int}(hs:l.Pairwise (· < ·))(hl:l.length<10995116277)(hn:l.length<n):Q6 n l a=some (uF (l++[a])):=by
 unfold Q6;rw[aiU (by omega) hn];simp only[ah];by_cases ha:a∈l
 ·simp only[ha,decide_true,ai];congr 1;exact Lh hs λz=>by simp only[bf,aW];exact⟨λ h=> .inl h,λh=>by rcases h with h |rfl<;>assumption⟩
 ·simp only[ha,decide_false,ak];obtain⟨k,k1,k2,k3,k4⟩:∃k,k<=l.length/\iter (pz l a) n (0:Int)=some (k:Int)/\(∀ j (h:j<l.length),k<=j->a<l[j])/\(∀ h:0<k,∀h':k -1<l.length,l[k -1] <a):=by
   have gen:∀(m i:Nat),i+m=l.length->(∀ h:0<i,∀h':i -1<l.length,l[i -1] <a)->∀q,m<q->∃k,k<=l.length/\iter (pz l a) q (i:Int)=some (k:Int)/\(∀ j (h:j<l.length),k<=j->a<l[j])/\(∀ h:0<k,∀h':k -1<l.length,l[k -1] <a):=by
    intro m
    induction m with
    |zero=>
     intro i hi h q hq;obtain⟨q,rfl⟩:∃j,q=j+1:=⟨q -1,by omega⟩;have:i=l.length:=(by omega);subst this;exact⟨l.length,aT _,bn (by simp[pz]),λj h1 h2=>by omega,h⟩
    |succ m ih=>
     intro i hi h q hq;obtain⟨q,rfl⟩:∃j,q=j+1:=⟨q -1,by omega⟩;have hil:i<l.length:=(by omega);have d:decide ((i:Int)<(l.length:Int))=true:=(by simpa using hil);by_cases hla:l[i] <a
     ·have s8:pz l a (i:Int)=some (.inl (((i+1:Nat)):Int)):=by
       simp only[pz,d,ai,aZ hil,ah,hla,decide_true];rw[aO (by omega)]
      rw[dw s8];exact ih (i+1) (by omega) (λ _ _=>hla) q (by omega)
     ·refine⟨i,by omega,bn ?_,λj h1 h2=>?_,h⟩
      ·simp only[pz,d,ai,aZ hil,ah,hla,decide_false,ak]
      ·have hne:l[i]≠a:=λe=>ha (e ▸ getElem_mem hil);by_cases e:j=i
       ·subst e;omega
       ·have:=Y3 hs (show i<j by omega) h1;omega
   exact gen l.length 0 (by omega) (λ h=>by omega) n hn
  have lt:(l.take k).length=k:=by rw[length_take];omega
  have s1:sub l 0 ((k:Int)).toNat=l.take k:=by simp[sub]
  have s2:sub l ((k:Int)).toNat (l.length -((k:Int)).toNat)=l.drop k:=by
   simp only[sub,Int.toNat_natCast];rw[List.take_of_length_le (by rw[List.length_drop];omega)]
  have o1:q8 0 (k:Int) l.length=true:=wM (by omega) (by omega) (by omega);have o2:q8 (k:Int) (l.length:Int) l.length=true:=wM (by omega) (by omega) (by omega);have a1:bD 0 0 (l.take k).length (l.take k).length 8=true:=bB (a:=0) (by omega) (by simp only[maxLen];omega);have a2:bD (l.take k).length (l.take k).length (sub ([a]:List Int) 0 1).length 1 8=true:=bB (n:=1);have sb:(sub ([a]:List Int) 0 1)=[a]:=rfl;rw[sb]at a2;have ld:(l.drop k).length=l.length -k:=by rw[List.length_drop]
  have a3:bD (l.take k++[a]).length (l.take k++[a]).length (l.drop k).length (l.drop k).length 8=true:=bB (by simp;omega) (by rw[bW];simp only[maxLen,length_singleton];omega);simp only[k2,ah,o1,ai,s1,a1,dH,sb,a2,o2,s2,a3,bG,aB];congr 1;rw[aN];exact Lh (Y4 hs k1 k3 (λ h=>k4 h (by omega))) λz=>by rw[List.singleton_append,aj4];simp
theorem alC(l:List Int)(a:Int):uF (uF l++[a])=uF (l++[a]):=ahY λz=>by simp[BD]
theorem agJ{land:List fU}{id d:Int}(h:∀t∈land,sL t)(hl:land.length<=100)(hn:50000<=n):Q7 n land id d=some (Oh land id d):=by
 unfold Q7 Oh;rw[Vp h (by omega) (by omega)];simp only[ah];cases hf:(cu land id).2 with
 |false=>rfl
 |true=>
  have ht:=Na h id;simp only[Bool.not_true,ak,ai];have:=jK (step:=Es n land id d (cu land id)) (λ i=>(uF (lK (land.take i) (cu land id).1 id d),(i:Int))) land.length (uF (lK land (cu land id).1 id d)) (λ i hi=>?_) ?_ n (by omega)
  ·have z:uF (lK (land.take 0) (cu land id).1 id d)=[]:=(by simp[lK,uF,mH,gP]);simp only[z]at this;rw[show ((0:Nat):Int)=0 from rfl]at this;rw[this];rfl
  ·have hi':decide ((i:Int)<(land.length:Int))=true:=(by simpa using hi);have hu:=h _ (getElem_mem hi);have gp:Q5 n (cu land id).1.area land[i].area=some (Nt (cu land id).1.area land[i].area):=aiT ht.1 hu.1 hn;have e:((bif (Nt (cu land id).1.area land[i].area).2 then(bif (decide ((Nt (cu land id).1.area land[i].area).1<=d))then some (land[i].id !=id)else some false)else some false):Option Bool)=some (zC (cu land id).1 id d land[i]):=by
    unfold zC;cases (Nt (cu land id).1.area land[i].area).2<;>cases decide ((Nt (cu land id).1.area land[i].area).1<=d)<;>rfl
   have ll:(uF (lK (land.take i) (cu land id).1 id d)).length<=100:=by
    refine Nat.le_trans (Vk _) ?_;unfold lK;rw[length_map];refine Nat.le_trans (List.length_filter_le _ _) ?_;rw[length_take];omega
   have nx:lK (land.take (i+1)) (cu land id).1 id d=lK (land.take i) (cu land id).1 id d++(bif zC (cu land id).1 id d land[i]then [land[i].id]else []):=by
    rw[dG hi];unfold lK;rw[List.filter_append,map_append];congr 1;cases hb:zC (cu land id).1 id d land[i]<;>simp[hb]
   simp only[Es,hi',ai,aZ hi,ah,gp,e];rw[nx];cases zC (cu land id).1 id d land[i]with
   |true=>
    simp only[ai];rw[agI (o7 _) (by omega) (by omega),alC];simp only[ah];rw[aO (by omega)]
   |false=>
    simp only[ak,ah,append_nil];rw[aO (by omega)]
  ·simp[Es]
def gb(s:ByteArray)(x:ByteArray):Bool:=ByteArray.toList x==ByteArray.toList s
theorem aiV{l:List ByteArray}(s:ByteArray)(hl:l.length<9223372036854775807)(hn:l.length<n):WM n l s=some (l.any (gb s)):=by
 unfold WM;rw[fV (l:=l) (step:=IZ l s) (gb s) () true (λ i hi=>by
  simp only[IZ,dm hi,ai,aZ hi,ah,aR i,gb];cases ByteArray.toList l[i]==ByteArray.toList s<;>rfl) (by simp only[IZ,bT,ak]) n hn]
 cases l.any (gb s)<;>rfl
theorem Vq(l:List ByteArray):gX l<=l.length:=by
 have:∀l:List (List UInt8),VN l<=l.length:=by
  intro l;induction l with
  |nil=>exact aT _
  |cons a l ih=>simp only[VN,bH];split<;>omega
 have:=this (l.map ByteArray.toList)
 rwa [length_map]at this
theorem aaN(s:ByteArray)(l:List ByteArray):gX (s::l)=gX l+(bif l.any (gb s)then 0 else 1):=by
 unfold gX;rw[aF,VN];congr 1;cases h:l.any (gb s)with
 |true=>
  rw[List.any_eq_true]at h;obtain⟨x,h1,h2⟩:=h;rw[aP (mem_map.2 ⟨x,h1,by simpa[gb]using h2⟩)];rfl
 |false=>
  rw[List.any_eq_false]at h;rw[aM];rfl;rw[mem_map];rintro⟨x,h1,h2⟩;exact h x h1 (by simpa[gb]using h2)
theorem Pm{am:List ByteArray}(hl:am.length<=1000)(hn:1001<=n):iter (pE n am) n ((0:Int),(0:Int))=some ((gX am:Nat):Int):=by
 have hrev:gX am.reverse=gX am:=Zi λz=>by simp
 rw[<- hrev];refine dz (step:=pE n am) (λ i=>(((gX (am.take i).reverse:Nat):Int),(i:Int))) am.length _ rfl (λ i hi=>?_) ?_ n (by omega)
 ·have so:q8 0 (i:Int) am.length=true:=by simp[q8];omega
  have st:sub am 0 (i:Int).toNat=am.take i:=by simp[sub]
  have hD:gX (am.take (i+1)).reverse=gX (am.take i).reverse+(bif (am.take i).any (gb am[i])then 0 else 1):=by rw[dG hi,List.reverse_append,List.reverse_singleton,List.singleton_append,aaN,List.any_reverse]
  have hc:gX (am.take i).reverse<=1000:=Nat.le_trans (Vq _) (by rw[List.length_reverse,length_take];omega);rw[hD];simp only[pE,dm hi,ai,so,st,aZ hi,ah,aiV (n:=n) (l:=am.take i) am[i] (by rw[length_take];omega) (by rw[length_take];omega),aR i,aO (show gX (am.take i).reverse<9223372036854775807 by omega)];cases (am.take i).any (gb am[i])<;>rfl
 ·simp only[pE,bT,ak,List.take_length]
theorem Mj{t:gU}{d:bi}(h:Vn n t d)(hn:2000000<=n){am:List ByteArray}(hl:am.length<=1000):yQ n t d am=some (EJ t d am):=by
 have hF:=Vp (n:=n) (id:=d.lot) h.lots (by have:=h.land;omega) (by have:=h.land;omega);have hN:=agJ (n:=n) (id:=d.lot) (d:=10) h.lots h.land (by omega);have hw:=Na h.lots d.lot;have⟨e1,e2,e3,e4,e5,e6,e7,e8,he⟩:=alB (n:=n) h.tabs (lot:=Nu t d) hw.1 h.few hn;have hL:(cu t.land d.lot).1=Nu t d:=rfl;unfold yQ EJ;rw[Pm hl (by omega),hF];simp only[ah,hL,he,hN];obtain⟨m,rfl⟩:∃m,n=m+20:=⟨n -20,by omega⟩;generalize nY (kF (Nu t d)) (dV d)=B;generalize ((gX am:Nat):Int)=A;generalize (((Oh t.land d.lot 10).length:Nat):Int)=C;generalize (((Nu t d).area.length:Nat):Int)=D;have s2:∀L:List bQ,L=[⟨⟨#[97,114,101,97]⟩,e1⟩,⟨⟨#[99,111,118,101,114]⟩,e2⟩,⟨⟨#[102,108,111,111,114]⟩,e3⟩,⟨⟨#[102,108,111,111,114,115]⟩,e4⟩,⟨⟨#[104,101,105,103,104,116]⟩,e5⟩,⟨⟨#[104,111,109,101,115]⟩,e6⟩,⟨⟨#[114,117,110,111,102,102]⟩,e7⟩,⟨⟨#[115,101,116,98,97,99,107]⟩,B⟩,⟨⟨#[116,114,97,102,102,105,99]⟩,e8⟩]->iter (LQ (m+20) L) (m+20) ((0:Int),(0:Int))=some B:=λL hL=>by
  subst hL;show _=_
  kernel_rfl
 rw[s2 _ rfl];rfl
def Pn(N:List Int)(k:Nat)(V:Int):Int:=bif k%2==0 then V -1 -min (N.getD (k%4) 0) (V -1)else min (N.getD (k%4) 0) (V -1)
def G5(N:List Int)(os:List aU):List Int:=(List.range os.length).map λk=>Pn N k ((os[k]?.map (·.values)).getD 1)
def V2(N:List Int):Prop:=N.length=4/\∀x∈N,0<=x/\x<=1099511627776
theorem W6{t:gU}{d:bi}{am:List ByteArray}(h:Vn n t d)(hl:am.length<=1000):V2 (EJ t d am):=by
 have h1:=Vq am;have h2:=agx (kF (Nu t d)) (dV d);have h3:(Oh t.land d.lot 10).length<=100:=by
  unfold Oh;cases (cu t.land d.lot).2 with
  |false=>simp
  |true=>
   rw[ai];refine Nat.le_trans (Vk _) ?_;unfold lK;rw[length_map];exact Nat.le_trans (List.length_filter_le _ _) h.land
 have h4:=(Na h.lots d.lot).1;refine⟨rfl,λx hx=>?_⟩;simp only[EJ,aK,iw,or_false]at hx;rcases hx with rfl |rfl |rfl |rfl
 ·omega
 ·omega
 ·omega
 ·show 0<=(((cu t.land d.lot).1.area.length:Nat):Int)/\(((cu t.land d.lot).1.area.length:Nat):Int)<=_;omega
theorem V1{N:List Int}(h:V2 N)(k:Nat):br (Int.tmod (k:Int) 4) N.length=true/\bh N (((0:Nat):Int)+Int.tmod (k:Int) 4)=some (N.getD (k%4) 0)/\0<=N.getD (k%4) 0/\N.getD (k%4) 0<=1099511627776:=by
 have hk:k%4<N.length:=by rw[h.1];omega
 have e:Int.tmod (k:Int) 4=((k%4:Nat):Int):=acr k 4;have g:N.getD (k%4) 0=N[k%4]:=by rw[List.getD_eq_getElem?_getD,dI hk];rfl
 rw[e,g];exact⟨bS hk,eY hk,h.2 _ (getElem_mem hk)⟩
theorem W0(k:Nat):(Int.tmod (k:Int) 2==(0:Int))=(k%2==0):=by
 have e:Int.tmod (k:Int) 2=((k%2:Nat):Int):=acr k 2;rw[e,eu,beq_iff_eq,beq_iff_eq];omega
theorem alD{N:List Int}{os:List aU}{i:Nat}(hi:i<os.length):(List.range (i+1)).map (λ k=>Pn N k ((os[k]?.map (·.values)).getD 1))=(List.range i).map (λ k=>Pn N k ((os[k]?.map (·.values)).getD 1))++[Pn N i os[i].values]:=by
 rw[List.range_succ,map_append];simp[hi]
theorem WP{o:aU}(h:l8 o=true):1<=o.values/\o.values<=12:=by
 simp only[l8,aD]at h;have⟨V,hV,_,_⟩:=Ni h.1;omega
theorem aaO{t:gU}{d:bi}(h:Vn n t d)(hn:2000000<=n){os:List aU}{am:List ByteArray}(hl:am.length<=1000)(ho:os.length<=1000):I8 n t os d am=some (bif os.all l8&&decide (os.length<=12)then G5 (EJ t d am) os else []):=by
 unfold I8;rw[RA (by omega) os (by omega) (by omega)];simp only[ah];cases hk:os.all l8&&decide (os.length<=12)with
 |false=>rfl
 |true=>
  rw[aD]at hk;have hz:bb 0 ([]:List Int).length=true:=rfl;have e4:((4:Nat) !=0)=true:=rfl;have e2:((2:Nat) !=0)=true:=rfl;have N4:=W6 h hl;simp only[Bool.not_true,ak,Mj h hn hl,ah,hz,ai];generalize EJ t d am=N at N4;have key:=dz (step:=xS os N) (λ i=>((i:Int),(List.range i).map λk=>Pn N k ((os[k]?.map (·.values)).getD 1))) (s:=((0:Int),([]:List Int))) os.length (G5 N os) rfl (λ i hi=>by
   have⟨n1,n2,n3,n4⟩:=V1 N4 i;have hv:=WP (List.all_eq_true.1 hk.1 _ (getElem_mem hi));have hs1:∀z:Int,sub ([z]:List Int) 0 1=[z]:=λ_=>rfl;have hlen:((List.range i).map λk=>Pn N k ((os[k]?.map (·.values)).getD 1)).length=i:=(by simp);have hap:bD i i 1 1 8=true:=bB (by omega) (by simp only[maxLen];omega);have hx:((bif i%2==0 then some (max (0:Int) (i64.wrap ((i64.wrap (os[i].values -1)) -N.getD (i%4) 0)))else some (min (N.getD (i%4) 0) (i64.wrap (os[i].values -1)))):Option Int)=some (Pn N i os[i].values):=by
    rw[cB (x:=os[i].values -1),cB (x:=os[i].values -1 -N.getD (i%4) 0),sk];unfold Pn;cases i%2==0 with
    |true=>simp only[ai];congr 1;omega
    |false=>rfl
   simp only[xS,dm hi,ai,aZ hi,ah,e4,e2,n1,n2,W0,hx,hs1,length_singleton,hlen,hap,dH,aB,aR i,alD hi]) (by simp only[xS,bT,ak,aB,ai,G5]) n (by omega)
  simp only[key,ah,bG,aB,ai]
theorem alE{t:gU}{d:bi}(h:Vn n t d)(hn:2000000<=n){os:List aU}{am:List ByteArray}(hl:am.length<=1000)(ho:os.length<=1000):jE n t os d am=some (bif os.all l8&&decide (os.length<=12)then G5 (EJ t d am) os else []):=by
 unfold jE;rw[agz (by omega) os (by omega) (by omega)];simp only[ah];cases hk:os.all l8&&decide (os.length<=12)with
 |false=>rfl
 |true=>
  rw[aD]at hk;have e4:((4:Nat) !=0)=true:=rfl;have e2:((2:Nat) !=0)=true:=rfl;have mk:(decide ((os.length:Int)<=(os.length:Int))&&(decide (0<=(os.length:Int))&&J9 (os.length:Int) 8))=true:=by rw[Rr (by omega) (by simp only[maxLen];omega)];simp
  have N4:=W6 h hl;simp only[Bool.not_true,ak,Pk h hn (show am.length<=100000 by omega),ah,mk,ai,Int.toNat_natCast];generalize EJ t d am=N at N4;have hlen:∀i,((List.range os.length).map λk=>if k<i then Pn N k ((os[k]?.map (·.values)).getD 1)else 0).length=os.length:=λi=>by simp
  have key:=dz (step:=nI os N) (λ i=>((i:Int),(List.range os.length).map λk=>if k<i then Pn N k ((os[k]?.map (·.values)).getD 1)else 0)) (s:=((0:Int),List.replicate os.length (0:Int))) os.length (G5 N os) (by
   congr 1;apply List.ext_getElem
   ·simp
   ·intro j h1 h2;simp) (λ i hi=>by
   have⟨n1,n2,n3,n4⟩:=V1 N4 i;have hv:=WP (List.all_eq_true.1 hk.1 _ (getElem_mem hi));have hx:((bif i%2==0 then some (i64.wrap ((i64.wrap (os[i].values -1)) -(min (N.getD (i%4) 0) (i64.wrap (os[i].values -1)))))else some (min (N.getD (i%4) 0) (i64.wrap (os[i].values -1)))):Option Int)=some (Pn N i os[i].values):=by
    rw[cB (x:=os[i].values -1),cB (x:=os[i].values -1 -min (N.getD (i%4) 0) (os[i].values -1)),sk];rfl
   have hset:((List.range os.length).map λk=>if k<i then Pn N k ((os[k]?.map (·.values)).getD 1)else 0).set (((0:Nat):Int)+(i:Int)).toNat (Pn N i os[i].values)=(List.range os.length).map λk=>if k<i+1 then Pn N k ((os[k]?.map (·.values)).getD 1)else 0:=by
    rw[show (((0:Nat):Int)+(i:Int)).toNat=i by omega];apply List.ext_getElem
    ·simp
    ·intro j h1 h2;have hj:j<os.length:=(by simpa using h2);rw[List.getElem_set];by_cases hji:i=j
     ·subst hji;simp[hj]
     ·by_cases hlt:j<i
      ·simp[hji,hlt,show j<i+1 by omega]
      ·simp[hji,hlt,show ¬j<i+1 by omega]
   have hi2:i<((List.range os.length).map λk=>if k<i then Pn N k ((os[k]?.map (·.values)).getD 1)else 0).length:=(by rw[hlen];exact hi);have ib:br (i:Int) os.length=true:=bS hi;simp only[nI,dm hi,ai,aZ hi,ah,e4,e2,n1,n2,W0,hx,Int.toNat_natCast,ib,eY hi2,hset,aR i]) (by
   simp only[nI,bT,ak];congr 2;unfold G5;exact List.map_congr_left λk hk=>by rw[aP (List.mem_range.1 hk)]) n (by omega)
  have hvl:(G5 N os).length=os.length:=by simp[G5]
  have hsub:sub (G5 N os) 0 os.length=G5 N os:=by rw[<- hvl,bG]
  simp only[key,ah,hsub,hvl,aB,ai]
def ym(rules:List dL)(s:ByteArray):Bool:=!(rules.any λr=>gb s r.name) || rules.any λr=>gb s r.name&&!r.vary
def Hj(rules:List dL)(am:List ByteArray):Bool:=!(am.any (ym rules))&&decide (0<am.length)
theorem Mk{l:List dL}{φ:(dL×Unit)->Option Bool}(p:dL->Bool)(h:∀x∈l,φ (x,())=some (p x))(hl:l.length<1099511627776)(hn:l.length<n):u6 n l φ=some (sq p l):=JV p h hl hn
theorem G6{l:List dL}{φ:(dL×Unit)->Option Bool}(p:dL->Bool)(h:∀x∈l,φ (x,())=some (p x))(hl:l.length<1099511627776)(hn:l.length<n):lC n l φ=some (l.any p):=by
 unfold lC;rw[Mk p h hl hn];simp only[ah,PT]
theorem Ck{l:List dL}(s:ByteArray)(hl:l.length<1099511627776)(hn:l.length<n):jC n l s=some (l.any λr=>gb s r.name&&!r.vary,s):=by
 have key:=iK (l:=l) (step:=jB l) (λ i=>((i:Int),s)) (λ r=>gb s r.name&&!r.vary) s (λ i=>((i:Int),s)) (λ i hi=>by
  have hf:nK l[i] s=some (gb s l[i].name&&!l[i].vary,s):=by
   unfold nK nV gb;cases ByteArray.toList l[i].name==ByteArray.toList s<;>rfl
  simp only[jB,dm hi,ai,aZ hi,ah,hf,aR i];cases gb s l[i].name&&!l[i].vary<;>rfl) (by simp only[jB,bT,ak]) n hn
 rw[show ((0:Nat):Int)=0 from rfl]at key;unfold jC pq;rw[key,<- jf];cases kK (λ r=>gb s r.name&&!r.vary) l with
 |none=>rfl
 |some i=>
  have:decide ((i:Int)>=0)=true:=by simp
  simp only[nZ,ah,this,Option.isSome_some]
theorem VO(p:gQ)(am:List ByteArray)(hr:p.rules.length<=1000)(hl:am.length<=1000)(hn:1001<=n):nL n p am=some (Hj p.rules am):=by
 unfold nL Hj;rw[fV (l:=am) (step:=sJ n p am) (ym p.rules) () false (λ i hi=>by
  simp only[sJ,dm hi,ai,aZ hi,ah,G6 (n:=n) (l:=p.rules) (φ:=λy1=>nV y1.1 am[i]) (λ r=>gb am[i] r.name) (λ x _=>rfl) (by omega) (by omega),Ck (n:=n) (l:=p.rules) am[i] (by omega) (by omega),aR i];unfold ym;cases p.rules.any λr=>gb am[i] r.name with
  |false=>rfl
  |true=>cases p.rules.any λr=>gb am[i] r.name&&!r.vary<;>rfl) (by simp only[sJ,bT,ak]) n (by omega)]
 have d:decide ((am.length:Int)>0)=decide (0<am.length):=by rw[decide_eq_decide];omega
 rw[d];cases am.any (ym p.rules)<;>rfl
theorem aiX(p:gQ)(am:List ByteArray)(hr:p.rules.length<=1000)(hl:am.length<=1000)(hn:1001<=n):WS n p am=some (Hj p.rules am):=by
 have bd:∀i (hi:i<am.length),iter (BU p am (i:Int)) n (false,(0:Int))=some (bif p.rules.any λr=>gb am[i] r.name&&!r.vary then .inr (.inr (.inr false))else .inl (p.rules.any λr=>gb am[i] r.name)):=λi hi=>by
  have key:=iK (l:=p.rules) (step:=BU p am (i:Int)) (λ k=>((p.rules.take k).any (λ r=>gb am[i] r.name),(k:Int))) (λ r=>gb am[i] r.name&&!r.vary) (p.rules.any λr=>gb am[i] r.name) (λ _=> .inr (.inr false)) (λ k hk=>by
   have hsn:(p.rules.take (k+1)).any (λ r=>gb am[i] r.name)=((p.rules.take k).any (λ r=>gb am[i] r.name) || gb am[i] p.rules[k].name):=(by rw[dG hk,List.any_append];simp);rw[hsn];simp only[BU,dm hk,ai,aZ hk,aZ hi,ah,aR k];rw[show (ByteArray.toList p.rules[k].name==ByteArray.toList am[i])=gb am[i] p.rules[k].name from rfl];cases gb am[i] p.rules[k].name with
   |false=>cases (p.rules.take k).any (λ r=>gb am[i] r.name)<;>rfl
   |true=>
    cases p.rules[k].vary with
    |false=>rfl
    |true=>cases (p.rules.take k).any (λ r=>gb am[i] r.name)<;>rfl) (by simp only[BU,bT,ak,List.take_length]) n (by omega)
  rw[show ((0:Nat):Int)=0 from rfl]at key;simp only[List.take_zero,List.any_nil]at key;have hs:(kK (λ r=>gb am[i] r.name&&!r.vary) p.rules).isSome=p.rules.any λr=>gb am[i] r.name&&!r.vary:=jf _ _;rw[key,<- hs];cases kK (λ r=>gb am[i] r.name&&!r.vary) p.rules<;>rfl
 unfold WS Hj;rw[fV (l:=am) (step:=I9 n p am) (ym p.rules) () false (λ i hi=>by
  simp only[I9,dm hi,ai,bd i hi,aR i];unfold ym;cases p.rules.any λr=>gb am[i] r.name&&!r.vary with
  |true=>cases p.rules.any λr=>gb am[i] r.name<;>rfl
  |false=>cases p.rules.any λr=>gb am[i] r.name<;>rfl) (by simp only[I9,bT,ak]) n (by omega)]
 have d:decide ((am.length:Int)>0)=decide (0<am.length):=by rw[decide_eq_decide];omega
 rw[d];cases am.any (ym p.rules)<;>rfl
theorem RJ{os:List aU}{base:List aH}(hb:Ci base)(h14:base.length<=14)(id:Int){w:List Int}(hw:w.length<1000)(g:Bool):Ci (jl os base id w g).2.1:=by
 rcases ad5 os base id w g with ⟨_,h⟩ |⟨_,_,h⟩ |⟨_,_,_,h⟩ |⟨_,_,_,h⟩
 ·rw[h];exact hb
 ·rw[h];exact hb
 ·rw[h];exact hb
 ·rw[h];refine⟨by simp only[bW,length_singleton];omega,λc hc=>?_⟩;rcases bf.1 hc with hc |hc
  ·exact hb.2 c hc
  ·rw[aW.1 hc];exact hw
theorem Po(t:gU)(d:bi)(am:List ByteArray)(os:List aU)(base:List aH)(a:E7)(hf:TP t)(hr:Zk t)(hd:d.phases.length<=1000000000000000000)(h1:os.length<=1000000000000000000)(h2:base.length<=1000000000000000000)(hn:2000000+RR t+d.phases.length+os.length+base.length<=n):oL n t d am os base a=some true:=by
 unfold oL;rw[aoV (by omega),anN t am hd (by omega) (by omega),agA h1 h2 (by omega) (by omega)];simp only[ah];cases h:As t d am with
 |false=>rfl
 |true=>
  cases hC:Fi os base with
  |false=>rfl
  |true=>
   have⟨hs,hl,hb⟩:=alq hC;by_cases h8:a.values.length>8
   ·have e:decide ((a.values.length:Int)>8)=true:=(by rw[aG];omega);rw[e];rfl
   ·have e:decide ((a.values.length:Int)>8)=false:=(by rw[dn];omega);rw[e];obtain⟨V,hN⟩:=aoY (n:=n) h hf hr (by omega);have hR:t.bp.length<=20:=by
     simp only[As,aD]at h;exact(aj3 h.1 hf).rules
    have hW:(bif os.all l8&&decide (os.length<=12)then G5 (EJ t d am) os else []).length<=5:=by
     cases os.all l8&&decide (os.length<=12)with
     |false=>simp
     |true=>simp only[ai,G5,length_map,List.length_range];exact hl
    have m1:=VO (n:=n) (gQ.mk t.cy t.bu t.b9 t.bp t.c9 t.cT t.dt t.cU) am (show t.bp.length<=1000 by omega) (by omega) (by omega);have m2:=aiX (n:=n) (gQ.mk t.cy t.bu t.b9 t.bp t.c9 t.cT t.dt t.cU) am (show t.bp.length<=1000 by omega) (by omega) (by omega);simp only[Bool.not_true,ak,ah,alE V (by omega) (show am.length<=1000 by omega) (show os.length<=1000 by omega),aaO V (by omega) (show am.length<=1000 by omega) (show os.length<=1000 by omega)];generalize (bif os.all l8&&decide (os.length<=12)then G5 (EJ t d am) os else [])=W at hW;have n1:∀z:Int,(z==z)=true:=λz=>(by simp);have n2:∀z:Bool,(z==z)=true:=λz=>(by simp)
    simp only[bG,aB,ai,Om (n:=n) (a:=W) (by omega) (by omega),ah,Bool.not_true,ak,Pk V (by omega) (show am.length<=100000 by omega),Mj V (by omega) (show am.length<=1000 by omega),Om (n:=n) (a:=EJ t d am) (by show 4<=1000;omega) (by omega),m1,m2,n2,
     Bb (n:=n) (by omega) os hs a.id (show a.values.length<1000 by omega) a.cm,Ow (n:=n) (by omega) os hs a.id (show a.values.length<1000 by omega) a.cm (by omega) (by omega),
     Bb (n:=n) (by omega) os hs a.id (show W.length<1000 by omega) a.cm,Ow (n:=n) (by omega) os hs a.id (show W.length<1000 by omega) a.cm (by omega) (by omega),n1,
     Oo (n:=n) (RJ (os:=os) hs hb a.id (show a.values.length<1000 by omega) a.cm) (by omega),Oo (n:=n) (RJ (os:=os) hs hb a.id (show W.length<1000 by omega) a.cm) (by omega)]
theorem RL(t:gU)(d:bi)(am:List ByteArray)(os:List aU)(base:List aH)(a:E7)(hf:TP t)(hr:Zk t)(hd:d.phases.length<=1000000000000000000)(h1:os.length<=1000000000000000000)(h2:base.length<=1000000000000000000):∃k,oL k t d am os base a=some true:=⟨_,Po t d am os base a hf hr hd h1 h2 (aT _)⟩
theorem Cm{ss:List VS}{q:HL xx.toSE [.st SI.eS,.st SI.df,.sl .str,.sl (.st SI.Order),.sl (.st SI.Case),.st SI.Ask]}(hs:CU (nz (X:=xx) (n+8)) [.st SI.eS,.st SI.df,.sl .str,.sl (.st SI.Order),.sl (.st SI.Case),.st SI.Ask]=some ss)(hq:NV ss (HL.k6 xx.toSE _ q)):(TP q.1/\Zk q.1)/\(List.length (bi.phases q.2.1)<=1000000000000000000/\(List.length (α:=aU) q.2.2.2.1<=1000000000000000000/\List.length (α:=aH) q.2.2.2.2.1<=1000000000000000000)):=by
 have⟨_,_,h1,a1,h2,b1⟩:=Mg hs q hq;have⟨_,_,h3,a2,h4,b2⟩:=Mg a1 q.2 b1;have⟨_,_,h5,a3,h6,b3⟩:=Mg a2 q.2.2 b2;have⟨_,_,h7,a4,h8,b4⟩:=Mg a3 q.2.2.2 b3;have⟨_,_,h9,_,h10,_⟩:=Mg a4 q.2.2.2.2 b4;exact⟨⟨aoW (n:=n) h1 h2,rows_ok (n:=n) h1 h2⟩,als (n:=n+1) h3 h4,We (X:=xx) (n:=n+7) (e:= .st SI.Order) (b:=32) (by kernel_rfl) (by kernel_rfl) (by omega) h7 h8,We (X:=xx) (n:=n+7) (e:= .st SI.Case) (b:=40) (by kernel_rfl) (by kernel_rfl) (by omega) h9 h10⟩
end Go.Proofs
