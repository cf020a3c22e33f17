import Derived.Test.YthdllpdbgdfmiaaGreatS1
open Go.IntKind (i64)
open List (mem_map all_eq_true getElem_mem length_map append_nil length_nil foldl_cons length_singleton pairwise_cons)
namespace Go.Proofs
open Go.Gb Go.RowKit
variable {n:Nat}
theorem LQ(r:ax):∃q,sS r=some q:=by rw[yM];cases d7 r<;>exact⟨_,rfl⟩
theorem Yd(r:ax):∃q,pG r=some q:=by
 unfold pG;have⟨q,hq⟩:=LQ r;rw[hq];simp only[ai]
 first|exact⟨_,rfl⟩|(cases q.2<;>exact⟨_,rfl⟩)
theorem acX(r:ax) d:∃q,I4 r d=some q:=by
 unfold I4;rw[iU];simp only[ai];have key:∀c x:Bool,∃b,((bif c then some true else some x):Option Bool)=some b:=λc x=>cu ⟨_,rfl⟩ ⟨_,rfl⟩;have⟨b,hb⟩:=key (!d7 r) (decide (d<0));rw[hb];cases b with
 |true=>exact⟨_,rfl⟩
 |false=>
  simp only[ai,au];have⟨q,hq⟩:=LQ (ax.mk (i64.wrap (r.x0+(min d 1048576))) (i64.wrap (r.y0+(min d 1048576))) (i64.wrap (r.x1-(min d 1048576))) (i64.wrap (r.y1-(min d 1048576))));rw[hq];exact⟨_,rfl⟩
theorem anG{lot:bW}(ha:lot.area.length<=900)(hn:4000002<=n) i:∃q,l8 n lot i=some q:=by
 unfold l8;rw[FD (n:=n) lot.area ha (by omega)];simp only[ai];have key:∀c1 c2 c3:Bool,∃b,((bif c1 then some true else(bif c2 then some true else some c3)):Option Bool)=some b:=λc1 c2 c3=>cu ⟨_,rfl⟩ (cu ⟨_,rfl⟩ ⟨_,rfl⟩);have⟨b,hb⟩:=key (!(qE lot.area).2) (decide (i<0)) (decide (i>20));rw[hb];cases b with
 |true=>exact⟨_,rfl⟩
 |false=>
  simp only[ai,au];have⟨q,hq⟩:=acX (qE lot.area).1 i;rw[hq];simp only[ai];cases q.2 with
  |false=>exact⟨_,rfl⟩
  |true=>
   have hcl:=yL (keep:=λp q=>p&&q) lot.area [q.1];have hc:=yK (n:=n) (a:=lot.area) (b:=[q.1]) (by omega) (by simp) (by omega) (by simp;omega) (by omega);have hA:=zF (n:=n) (a:=(df (λ p q=>p&&q) lot.area [q.1]).1) (by omega) (by omega);have⟨z,hz⟩:=Yd q.1;simp only[Bool.not_true,au,show ∀r:ax,sub [r] 0 1=[r]from λ_=>rfl,length_singleton,aH,aj,hc,ai,hA,hz];cases ((df (λ p q=>p&&q) lot.area [q.1]).2==0)<;>exact⟨_,rfl⟩
def cH(n:Nat)(lot:bW)(i:Int):ax×Bool:=(l8 n lot i).getD (⟨0,0,0,0⟩,false)
theorem acY{lot:bW}(ha:lot.area.length<=900)(hn:4000002<=n) i:l8 n lot i=some (cH n lot i):=by have⟨q,hq⟩:=anG ha hn i;unfold cH;rw[hq];rfl
def pZ(r:ax):Int:=(pG r).getD 0
theorem Ye(r:ax):pG r=some (pZ r):=by have⟨q,hq⟩:=Yd r;unfold pZ;rw[hq];rfl
def vj(lot:bW)(cE:Int)(k:Nat):bg:=bg.mk lot.id (Int.tmod (k:Int) 6) (i64.wrap ((i64.wrap (Int.tdiv (k:Int) 6))+1)) cE
theorem als(lot:bW) v l (hl:l.length<=1000000) (hn:1000<=n):iter (l9 lot v) n (0,l)=some (l++(List.range 72).map (vj lot v)):=by
 refine iF (step:=l9 lot v) (λ i=>(i,l++(List.range i).map (vj lot v))) (s:=(0,l)) 72 (l++(List.range 72).map (vj lot v)) (by simp) (λ i hi=>?_) ?_ n (by omega);have hap:bH (l++(List.range i).map (vj lot v)).length (l++(List.range i).map (vj lot v)).length 1 1 32=true:=bU (by simp;omega) (by simp[maxLen];omega);have hlt:decide ((i:Int)<72)=true:=by simp;omega
 simp only[l9,hlt,aj,show((6:Nat) !=0)=true from rfl,show(6 !=0)=true from rfl,show ∀r:bg,sub [r] 0 1=[r]from λ_=>rfl,length_singleton,hap,dO,aH,aG i];rw[List.range_succ,List.map_append,<- aM];rfl;have hlt:decide ((72:Nat)<72)=false:=by simp
 simp[l9]
abbrev QY:=List (ng×Int)
def Ju(n:Nat)(lot:bW)(i:Nat)(s:QY×List bg):QY×List bg:=
 bif(cH n lot i).2 then(oI (Ip (X:=xx) SI.ff) (ng.mk lot.id i) (pZ (cH n lot i).1) s.1,s.2++(List.range 72).map (vj lot i))else s
def AI(n:Nat)(lot:bW)(s:QY×List bg):QY×List bg:=(List.range 21).foldl (λ s i=>Ju n lot i s) s
theorem abq(n:Nat)(lot:bW)(i:Nat)(s:QY×List bg):(Ju n lot i s).2.length<=s.2.length+72:=by unfold Ju;cases (cH n lot i).2<;>simp
theorem abr(n:Nat)(lot:bW):∀(l:List Nat)(s:QY×List bg),(l.foldl (λ s i=>Ju n lot i s) s).2.length<=s.2.length+72*l.length
 |[],s=>by simp
 |i::l,s=>by have h1:=abr n lot l (Ju n lot i s);have h2:=abq n lot i s;rw[foldl_cons,dX];omega
theorem alu{lot:bW}(ha:lot.area.length<=900)(hn:4000002<=n)(s:QY×List bg)(hs:s.2.length<=900000):iter (mh n lot) n (0,s.1,s.2)=some (AI n lot s):=by
 have key:=fF (l:=List.range 21) (step:=mh n lot) (λ i (s:QY×List bg)=>(i,s.1,s.2)) (λ i s=>Ju n lot i s) (λ s=>s) (λ i s=>s.2.length<=900000+72*i) (λ i hi s hs=>by
  rw[List.length_range]at hi;have hlt:decide ((i:Int)<21)=true:=by simp;omega
  have hg:(List.range 21)[i]'(by rw[List.length_range];exact hi)=i:=List.getElem_range _;rw[hg];refine⟨?_,by have:=abq n lot i s;show(Ju n lot i s).2.length<=_;omega⟩;simp[mh,hlt,acY ha hn,Ju];cases hb:(cH n lot i).2 with
  |false=>simp[aG i]
  |true=>simp[Ye,als (n:=n) lot i s.2 (by omega) (by omega),aG i]) (λ s _=>by
  have hlt:decide (((List.range 21).length:Int)<21)=false:=by simp
  simp[mh]) n (by rw[List.length_range];omega) s (by simpa using hs)
 exact key
def Tf(lot:bW)(seen:List (Int×Bool)):Bool:=(dL ie lot.id seen).getD false || (decide (lot.id<0) || decide (lot.id>1073741824))
abbrev zc:=QY×List (Int×Bool)×List bg
def zH(n:Nat)(lot:bW)(s:zc):zc:=
 bif Tf lot s.2.1 then s else((AI n lot (s.1,s.2.2)).1,oI ie lot.id true s.2.1,(AI n lot (s.1,s.2.2)).2)
def xN(n:Nat)(land:List bW):zc:=land.foldl (λ s lot=>zH n lot s) ([],[],[])
theorem anH(n:Nat)(lot:bW)(s:QY×List bg):(AI n lot s).2.length<=s.2.length+1512:=by have:=abr n lot (List.range 21) s;rw[List.length_range]at this;unfold AI;omega
theorem abt(n:Nat)(lot:bW)(s:zc):(zH n lot s).2.2.length<=s.2.2.length+1512:=by have:=anH n lot (s.1,s.2.2);unfold zH;cases Tf lot s.2.1;exact this;simp
theorem O3(n:Nat):∀(land:List bW)(s:zc),(land.foldl (λ s lot=>zH n lot s) s).2.2.length<=s.2.2.length+1512*land.length
 |[],s=>by simp
 |lot::l,s=>by have h1:=O3 n l (zH n lot s);have h2:=abt n lot s;rw[foldl_cons,dX];omega
def dP(n:Nat)(land:List bW):List bg:=lU (α:=bg) (N9 wy (xN n land).1) (xN n land).2.2
theorem xB(n:Nat) land:(dP n land).Perm (xN n land).2.2:=Mi (α:=bg) (Xw wy (xN n land).1) _
theorem QZ{land:List bW}(ha:∀l∈land,l.area.length<=900)(hl:land.length<=500)(hn:4000002<=n):kT n land=some (dP n land):=by
 have key:=fF (l:=land) (step:=mq n land) (λ i (s:zc)=>(i,s.1,s.2.1,s.2.2)) (λ lot s=>zH n lot s) (λ s=>(s.1,s.2.2)) (λ i s=>s.2.2.length<=1512*i) (λ i hi s hs=>by
  refine⟨?_,by have:=abt n land[i] s;show(zH n land[i] s).2.2.length<=_;omega⟩;simp only[mq,aW hi,aj,aN hi,ai,zH];have hk:((bif ((dL ie land[i].id s.2.1).getD false)then some true else(bif (decide (land[i].id<0))then some true else some (decide (land[i].id>1073741824)))):Option (Bool))=some (Tf land[i] s.2.1):=by unfold Tf;cases (dL ie land[i].id s.2.1).getD false<;>cases decide (land[i].id<0)<;>rfl
  rw[hk];cases hb:Tf land[i] s.2.1 with
  |true=>simp[aG i]
  |false=>simp[alu (n:=n) (ha _ (getElem_mem hi)) hn (s.1,s.2.2) (by show s.2.2.length<=_;omega),aG i]) (λ s _=>by simp[mq]) n (by omega) ([],[],[]) (by simp)
 have hz:aE 0 ([]:List bg).length=true:=rfl;rw[lE]at key;have hlen:=O3 n land ([],[],[]);have arL:(xN n land).2.2.length<=1512*land.length:=by unfold xN;simpa using hlen
 have hS:=(xB n land).length_eq;have hps:ajF (xN n land).2.2 (xN n land).1=some (dP n land,(xN n land).1):=by exact @sx xx SI.lf SI.ff (inferInstance:Inhabited bg) wy (xN n land).2.2 (xN n land).1 (show List.length (xN n land).2.2<=_ by omega)
 have key':iter (mq n land) n (0,[],[],[])=some ((xN n land).1,(xN n land).2.2):=key;unfold kT;rw[hz,key'];simp[hps,<- hS]
theorem anI{lot:bW}{s:QY×List bg}{p:bg}(h:p∈(AI n lot s).2):p∈s.2\/∃i k:Nat,i<21/\k<72/\(cH n lot i).2=true/\p=vj lot i k:=by
 have gen:∀(l:List Nat)(s:QY×List bg),(∀ i∈l,i<21)->p∈(l.foldl (λ s i=>Ju n lot i s) s).2->p∈s.2\/∃i k:Nat,i<21/\k<72/\(cH n lot i).2=true/\p=vj lot i k:=by
  intro l
  induction l with
  |nil=>intro s _ h;exact .inl h
  |cons i l ih=>
   intro s hl h;rcases ih (Ju n lot i s) (λ j hj=>hl j (by simp[hj])) h with h|h;unfold Ju at h;cases hb:(cH n lot i).2 with
   |false=>rw[hb]at h;exact .inl h
   |true=>
    rw[hb]at h;simp at h;rcases h with h|⟨k,hk,rfl⟩;exact .inl h;exact .inr ⟨i,k,hl i (by simp),hk,hb,rfl⟩
   exact .inr h
 exact gen (List.range 21) s (λ i hi=>List.mem_range.1 hi) h
theorem abu(k k':Int) v:∀l:List (Int×Bool),dL ie k (oI ie k' v l)=if k=k' then some v else dL ie k l
 |[]=>by
  show(bif ie k k' then some v else dL ie k [])=_;by_cases h:k=k';subst h;simp[ie];have e2:ie k k'=false:=by simp[ie,h]
  rw[e2,aU h];rfl
 |p::l=>by
  have ih:=abu k k' v l;show dL ie k (bif ie k' p.1 then(k',v)::l else p::oI ie k' v l)=_;by_cases h1:k'=p.1;have e1:ie k' p.1=true:=by simp[ie,h1]
  rw[e1];show(bif ie k k' then some v else dL ie k l)=if k=k' then some v else(bif ie k p.1 then some p.2 else dL ie k l)
  by_cases h:k=k';subst h;simp[ie];have e2:ie k k'=false:=by simp[ie,h]
  have e3:ie k p.1=false:=by rw[<- h1];exact e2
  rw[e2,e3,aU h];rfl;have e1:ie k' p.1=false:=by simp[ie,h1]
  rw[e1];show(bif ie k p.1 then some p.2 else dL ie k (oI ie k' v l))=if k=k' then some v else(bif ie k p.1 then some p.2 else dL ie k l)
  rw[ih];by_cases h:k=k';subst h;rw[e1];simp;rw[aU h,aU h]
structure HR(n:Nat)(land:List bW)(p:bg)(lot:bW):Prop where
 PA:land.find? (λ x=>x.id==p.lot)=some lot
 id0:0<=lot.id
 id1:lot.id<=1073741824
 ex:∃i k:Nat,i<21/\k<72/\(cH n lot (i:Int)).2=true/\p=vj lot (i:Int) k
theorem ajV(n:Nat) land:∀i,i<=land.length->(∀ p∈((land.take i).foldl (λ s lot=>zH n lot s) (([],[],[]):zc)).2.2,∃lot,HR n land p lot)/\
 (∀ j (hj:j<land.length),j<i->0<=land[j].id->land[j].id<=1073741824->dL ie land[j].id ((land.take i).foldl (λ s lot=>zH n lot s) (([],[],[]):zc)).2.1=some true)
 | 0,_=>by simp
 |i+1,hi=>by
  obtain⟨h1,h2⟩:=ajV n land i (by omega);rw[jl (show i<land.length by omega),List.foldl_append];generalize hs:(land.take i).foldl (λ s lot=>zH n lot s) (([],[],[]):zc)=s at h1 h2;simp;have hi':i<land.length:=by omega
  cases hb:Tf land[i] s.2.1 with
  |true=>
   have e:zH n land[i] s=s:=(by unfold zH;rw[hb];rfl);rw[e];refine⟨h1,λj hj hji h0 h3=>?_⟩;rcases Nat.lt_or_ge j i with h|h;exact h2 j hj h h0 h3;obtain rfl:j=i:=(by omega);unfold Tf at hb;have e1:decide (land[j].id<0)=false:=(by simp;omega);have e2:decide (land[j].id>1073741824)=false:=(by simp;omega);rw[e1,e2]at hb;simp at hb;cases hm:dL ie land[j].id s.2.1 with
   |none=>rw[hm]at hb;cases hb
   |some b=>rw[hm]at hb;simp at hb;rw[hb]
  |false=>
   have e:zH n land[i] s=((AI n land[i] (s.1,s.2.2)).1,oI ie land[i].id true s.2.1,(AI n land[i] (s.1,s.2.2)).2):=(by unfold zH;rw[hb];rfl);rw[e];simp[Tf]at hb;obtain⟨b1,b2,b3⟩:=hb;refine⟨λ p hp=>?_,λj hj hji h0 h3=>?_⟩;rcases anI hp with hp|⟨a,k,ha,hk,hbs,rfl⟩;exact h1 p hp;refine⟨land[i],?_,by omega,by omega,a,k,ha,hk,hbs,rfl⟩;rw[List.find?_eq_some_iff_getElem];refine⟨by simp[vj],i,hi',rfl,λj hj=>?_⟩;simp[vj];intro hj2;have:=h2 j (by omega) hj (by rw[hj2];omega) (by rw[hj2];omega);rw[hj2]at this;rw[this]at b1;cases b1;show dL ie land[j].id (oI ie land[i].id true s.2.1)=some true;rw[abu];by_cases hij:land[j].id=land[i].id;rw[aX hij];rw[aU hij];rcases Nat.lt_or_ge j i with h|h;exact h2 j hj h h0 h3;obtain rfl:j=i:=(by omega);exact absurd rfl hij
theorem abv{land:List bW}{p:bg}(h:p∈dP n land):∃lot,HR n land p lot:=by have h1:=(xB n land).mem_iff.1 h;have:=(ajV n land land.length (aB _)).1 p;rw[List.take_length]at this;exact this h1
def oC(r:ax)(p:bg):aF:=aF.mk r.x0 r.y0 r.x1 r.y1 0 (i64.wrap (p.floors*3)) p.use (bif (p.use==0)then p.floors else 0) false
def oD(n:Nat)(lot:bW)(p:bg):bf:=bf.mk p.lot [pF.mk [oC (cH n lot p.cE).1 p] []]
def Ga(n:Nat)(lot:bW)(p:bg):Bool:=(cH n lot p.cE).2&&(decide (p.lot=lot.id)&&(decide (0<=p.lot)&&(decide (p.lot<=1073741824)&&(decide (0<=p.use)&&(decide (p.use<6)&&(decide (1<=p.floors)&&decide (p.floors<=12)))))))
theorem Yf{lot:bW}(ha:lot.area.length<=900)(hn:4000002<=n)(p:bg):mQ n lot p=some (bif Ga n lot p then(oD n lot p,true)else(bf.mk 0 [],false)):=by
 unfold mQ;rw[acY ha hn];simp only[ai];have hk:((bif (!(cH n lot p.cE).2)then some true else(bif (p.lot !=lot.id)then some true else(bif (decide (p.lot<0))then some true else(bif (decide (p.lot>1073741824))then some true else(bif (decide (p.use<0))then some true else(bif (decide (p.use>=6))then some true else(bif (decide (p.floors<1))then some true else some (decide (p.floors>12))))))))):Option (Bool))=some (!Ga n lot p):=by
  unfold Ga;have e1:(p.lot !=lot.id)=!decide (p.lot=lot.id):=by rw[kQ];simp
  have e2:decide (p.lot<0)=!decide (0<=p.lot):=by rw[<- decide_not,decide_eq_decide];omega
  have e3:decide (p.lot>1073741824)=!decide (p.lot<=1073741824):=by rw[<- decide_not,decide_eq_decide];omega
  have e4:decide (p.use<0)=!decide (0<=p.use):=by rw[<- decide_not,decide_eq_decide];omega
  have e5:decide (p.use>=6)=!decide (p.use<6):=by rw[<- decide_not,decide_eq_decide];omega
  have e6:decide (p.floors<1)=!decide (1<=p.floors):=by rw[<- decide_not,decide_eq_decide];omega
  have e7:decide (p.floors>12)=!decide (p.floors<=12):=by rw[<- decide_not,decide_eq_decide];omega
  rw[e1,e2,e3,e4,e5,e6,e7];cases (cH n lot p.cE).2<;>cases decide (p.lot=lot.id)<;>cases decide (0<=p.lot)<;>cases decide (p.lot<=1073741824)<;>cases decide (0<=p.use)<;>cases decide (p.use<6)<;>cases decide (1<=p.floors)<;>rfl
 rw[hk];cases Ga n lot p with
 |false=>rfl
 |true=>
  simp[oD,oC];cases (p.use==0)<;>rfl
theorem KF{land:List bW}{p:bg}{lot:bW}(h:HR n land p lot):Ga n lot p=true:=by
 obtain⟨h1,h2,h3,i,k,hi,hk,hb,rfl⟩:=h;have e1:Int.tmod k 6=(k%6:Nat):=by rw[show (6:Int)=(6:Nat)from rfl,<- Int.ofNat_tmod]
 have e2:Int.tdiv k 6=(k/6:Nat):=by rw[show (6:Int)=(6:Nat)from rfl,<- Int.ofNat_tdiv]
 have e3:i64.wrap ((i64.wrap (Int.tdiv k 6))+1)=(k/6+1:Nat):=by rw[e2,IE (by omega),bB (by omega)]
 simp only[Ga,vj,e1,e3,hb,Bool.true_and,bK,bT];refine⟨trivial,h2,h3,?_,?_,?_,?_⟩<;>omega
theorem Vg(n:Nat)(lot:bW)(p:bg):yv (oD n lot p):=by refine⟨⟨by simp[oD],λq hq=>?_⟩,λq hq=>?_⟩<;> · simp[oD]at hq;subst hq;simp
theorem anJ:yv (bf.mk 0 []):=by refine⟨⟨by simp,λq hq=>?_⟩,λq hq=>?_⟩<;>simp at hq
def Nm:bg:=bg.mk 0 0 0 0
def uX(n:Nat)(t:bR)(d:bf)(day:Int):Bool:=(BU n t d==0)&&decide (ow n t d day=[])
theorem ajW{t:bR}{d:bf} day (ht:vU t) (hd:yv d) (hn:O1 n):kL n t d day=some (uX n t d day):=alr day ht hd hn
def NX(land:List bW):Prop:=(∀ l∈land,l.area.length<=900)/\land.length<=500
def anK(n:Nat)(land:List bW)(p:bg):bf×Bool:=match land.find? λx=>x.id==p.lot with
 |none=>(bf.mk 0 [],false)
 |some lot=>bif Ga n lot p then(oD n lot p,true)else(bf.mk 0 [],false)
theorem ah5(n:Nat) land (h:land.length<=500):(dP n land).length<=756000:=by
 have h1:=(xB n land).length_eq;have h2:=O3 n land ([],[],[]);have h3:(xN n land).2.2.length<=1512*land.length:=by unfold xN;simpa using h2
 omega
def pn(t:bR)(p:bn):bR:=bR.mk p.defs p.tables p.zones p.rules p.caps p.views p.vh p.hours t.land t.cC t.windows t.built t.base
def vV(l:List bg)(q:bg->Bool):bg×Bool:=match l.find? q with
 |some p=>(p,true)
 |none=>(Nm,false)
theorem FL l (q:bg->Bool):(∃ p,l.find? q=some p/\vV l q=(p,true)/\p∈l/\q p=true)\/(vV l q=(Nm,false)/\∀p∈l,q p=false):=by
 unfold vV;cases h:l.find? q with
 |none=>exact .inr ⟨rfl,λp hp=>by have:=List.find?_eq_none.1 h p hp;simpa using this⟩
 |some p=>exact .inl ⟨p,rfl,rfl,List.mem_of_find?_eq_some h,List.find?_some h⟩
theorem afB{l:List bg}{q:bg->Bool}(h:∀p∈l,q p=false):vV l q=(Nm,false):=by unfold vV;rw[List.find?_eq_none.2 λp hp=>by rw[h p hp];decide]
theorem O4(j:Nat):decide (((j+1:Nat):Int)>0)=true:=by simp
theorem afC:decide (((0:Nat):Int)>0)=false:=rfl
theorem pred_succ{j:Nat}(h:j<9223372036854775807):i64.wrap ((j+1:Nat)-1)=j:=by rw[nD (by omega) (by omega)];simp
theorem Q0{i n:Nat}(h:¬i<n):decide ((i:Int)<(n:Nat))=false:=by simp;omega
theorem ajX(c1 c2:Bool):∃b,((bif c1 then some true else some c2):Option Bool)=some b:=cu ⟨_,rfl⟩ ⟨_,rfl⟩
theorem qs2{a0 v2:List Int}{k:Nat}(hk:k<a0.length)(hl:v2.length<=1000)(hn:2000<=n):∃w:Nat,iter (rz a0 k v2) n (v2.length:Nat)=some (w:Int)/\w<=v2.length:=by
 obtain⟨o,h1,w,rfl,h2⟩:=Bg (step:=rz a0 k v2) (λ v=>∃j:Nat,v=j/\j<=v2.length) (λ o=>∃j:Nat,o=j/\j<=v2.length) Int.toNat (by
  rintro v ⟨j,rfl,hj⟩;cases j with
  |zero=>simp only[rz,afC,au,ai];exact .inr ⟨_,rfl,0,rfl,hj⟩
  |succ j=>
   have hj':j<v2.length:=hj;simp only[rz,O4,aj,pred_succ (show j<9223372036854775807 by omega),aO hj',aQ hj',aN hk,ai];cases decide (v2[j]>a0[k])with
   |false=>exact .inr ⟨_,rfl,j+1,rfl,hj⟩
   |true=>exact .inl ⟨_,rfl,⟨j,rfl,by omega⟩,by omega⟩) n _ ⟨_,rfl,aB _⟩ (by omega)
 exact⟨w,h1,h2⟩
theorem qs3{r1:List Int}{w m:Nat}(hm:r1.length=m+1)(hw:w<=m)(hl:m<=1000)(hn:2000<=n):∃o,iter (rC w r1) n (i64.wrap ((r1.length:Nat)-1),r1)=some o/\o.length=r1.length:=by
 rw[hm,pred_succ (by omega)];obtain⟨o,h1,h2⟩:=Bg (step:=rC w r1) (λ v=>∃j:Nat,v.1=j/\w<=j/\j<=m/\v.2.length=r1.length) (λ o=>o.length=r1.length) (λ v=>v.1.toNat) (by
  rintro⟨v,l⟩ ⟨j,rfl,hj,hjm,hlen⟩;simp at hlen;by_cases h:w<j;obtain⟨j,rfl⟩:∃i,j=i+1:=⟨j-1,by omega⟩;have e:decide (((j+1:Nat):Int)>w)=true:=by simp;omega
  have a1:j<r1.length:=by omega
  have a2:j<l.length:=by omega
  have a3:j+1<r1.length:=by omega
  have a4:j+1<l.length:=by omega
  simp only[rC,e,aj,pred_succ (show j<9223372036854775807 by omega),aO a1,aQ a2,aO a3,aQ a4,ai];exact .inl ⟨_,rfl,⟨j,rfl,by omega,by omega,by simpa using hlen⟩,by simp⟩;have e:decide ((j:Int)>w)=false:=by simp;omega
  simp only[rC,e,au];exact .inr ⟨_,rfl,hlen⟩) n (m,r1) ⟨m,rfl,hw,aB _,rfl⟩ (by simp;omega)
 rw[<- hm];exact⟨o,h1,h2⟩
theorem anL{a0:List Int}(hl:a0.length<=1000)(hn:2000<=n):∃o,Ff n a0=some o/\o.length<=a0.length:=by
 obtain⟨o,h1,h2⟩:=dw (step:=wG n a0) (λ i (v:Int×List Int)=>v.1=i/\i<=a0.length/\v.2.length<=i) (λ o=>o.length<=a0.length) a0.length (λ k v h=>h.2.1) (by
  rintro i ⟨v,l⟩ ⟨hv,hi,sg⟩;simp at hv sg;subst hv;by_cases hlt:i<a0.length;obtain⟨w,e1,hw⟩:=qs2 (n:=n) (v2:=l) hlt (by omega) hn;have hv5:∃b,((bif (decide ((w:Int)>0))then(ck (cM (i64.wrap (w-1)) l.length) ((bj l ((0:Nat)+(i64.wrap (w-1)):Int)).bind λx3=>some (x3==a0[i])))else some false):Option Bool)=some b:=by
   cases w with
   |zero=>exact⟨false,rfl⟩
   |succ w=>
    have hw':w<l.length:=hw;simp only[O4,aj,pred_succ (show w<9223372036854775807 by omega),aO hw',aQ hw',ai];exact⟨_,rfl⟩
  obtain⟨b,e2⟩:=hv5;have hap:bH l.length l.length 1 1 8=true:=bU (by omega) (by simp[maxLen];omega);obtain⟨o,e3,ho⟩:=qs3 (n:=n) (r1:=l++[0]) (w:=w) (m:=l.length) (by simp) hw (by omega) hn;have hz:sub ([0]:List Int) 0 1=[0]:=rfl;have ho':o.length=l.length+1:=by rw[ho];simp
  have i1:w<(l++[0]).length:=by simp;omega
  have i2:w<o.length:=by omega
  have e4:aE (l++[0]).length (o.set ((0:Nat)+w:Int).toNat a0[i]).length=true:=by rw[List.length_set,ho];exact aH _
  simp only[wG,aW hlt,aj,e1,ai,e2,hz,length_singleton,hap,dO,e3,aN hlt,aO i1,aQ i2,e4,aG i];cases b with
  |true=>simp only[aj,aH,ai];exact .inl ⟨_,rfl,rfl,hlt,by show l.length<=_;omega⟩
  |false=>simp only[au,aH,ai,aj];exact .inl ⟨_,rfl,rfl,hlt,by show(o.set _ _).length<=_;rw[List.length_set];omega⟩
  obtain rfl:i=a0.length:=by omega
  simp only[wG,gY,au,aH,aj];exact .inr ⟨_,rfl,sg⟩) n 0 (0,[]) ⟨rfl,Nat.zero_le _,aB _⟩ (by omega)
 have hz:aE 0 ([]:List Int).length=true:=rfl;exact⟨o,by simp[Ff,h1],h2⟩
theorem apo{a:List ax}(hl:a.length<=400)(hn:2000<=n):∃o,Ky n a []=some o/\o.length<=2*a.length:=by
 obtain⟨o,h1,h2⟩:=dw (step:=yI a) (λ i (v:Int×List Int)=>v.1=i/\i<=a.length/\v.2.length=2*i) (λ o=>o.length=2*a.length) a.length (λ k v h=>h.2.1) (by
  rintro i ⟨v,l⟩ ⟨hv,hi,sg⟩;simp at hv sg;subst hv;by_cases hlt:i<a.length;have hap:bH l.length l.length 2 2 8=true:=bU (by omega) (by simp[maxLen];omega);simp only[yI,aW hlt,aj,aN hlt,ai,show ∀x y:Int,sub ([x,y]:List Int) 0 2=[x,y]from λ_ _=>rfl,dX,length_nil,Nat.zero_add,Nat.reduceAdd,hap,dO,aH,aG i];exact .inl ⟨_,rfl,rfl,hlt,by simp;omega⟩;obtain rfl:i=a.length:=by omega
  simp only[yI,gY,au,aH,aj];exact .inr ⟨_,rfl,sg⟩) n 0 (0,[]) ⟨rfl,Nat.zero_le _,rfl⟩ (by omega)
 obtain⟨m,rfl⟩:∃m,n=m+1:=⟨n-1,by omega⟩;have e2:iter (Fg []) (m+1) (0,o)=some o:=dU (by have hz:decide (0<(([]:List ax).length:Int))=false:=rfl;simp[Fg]);obtain⟨p,e3,h3⟩:=anL (n:=m+1) (a0:=o) (by omega) hn;have hz:aE 0 ([]:List Int).length=true:=rfl;exact⟨p,by simp[Ky,h1,e2,e3],by omega⟩
theorem qc2{a0:List ax}{k m:Nat}{r1 r2:List Int}(hk:k<a0.length)(h1:r1.length=m+1)(h2:r2.length=m+1)(hm:m<=1000)(hn:2000<=n):∃(w:Nat)(o1 o2:List Int),iter (rD a0 k r1 r2) n (m,r1,r2)=some ((w:Int),o1,o2)/\w<=m/\o1.length=m+1/\o2.length=m+1:=by
 obtain⟨⟨o,o1,o2⟩,g1,w,rfl,g2⟩:=Bg (step:=rD a0 k r1 r2) (λ v=>∃j:Nat,v.1=j/\j<=m/\v.2.1.length=m+1/\v.2.2.length=m+1) (λ o=>∃j:Nat,o.1=j/\j<=m/\o.2.1.length=m+1/\o.2.2.length=m+1) (λ v=>v.1.toNat) (by
  rintro⟨v,l1,l2⟩ ⟨j,rfl,hj,hl1,hl2⟩;simp at hl1 hl2;cases j with
  |zero=>simp only[rD,afC,au,ai];exact .inr ⟨_,rfl,0,rfl,hj,hl1,hl2⟩
  |succ j=>
   have a1:j<r1.length:=(by omega);have a2:j<l1.length:=(by omega);have a3:j+1<r1.length:=(by omega);have a4:j+1<l1.length:=(by omega);have b1:j<r2.length:=(by omega);have b2:j<l2.length:=(by omega);have b3:j+1<r2.length:=(by omega);have b4:j+1<l2.length:=(by omega);simp only[rD,O4,aj,pred_succ (show j<9223372036854775807 by omega),aO a1,aQ a2,aN hk,aO a3,aQ a4,aO b1,aQ b2,aO b3,aQ b4,ai];cases decide (l1[j]>a0[k].y0)with
   |false=>exact .inr ⟨_,rfl,j+1,rfl,hj,hl1,hl2⟩
   |true=>exact .inl ⟨_,rfl,⟨j,rfl,by omega,by simpa using hl1,by simpa using hl2⟩,by simp⟩) n (m,r1,r2) ⟨m,rfl,aB _,h1,h2⟩ (by simp;omega)
 exact⟨w,o1,o2,g1,g2⟩
theorem qc1{a0:List ax} x (hl:a0.length<=400) (hn:2000<=n):∃o1 o2:List Int,iter (rE n a0 x) n (0,[],[])=some (o1,o2)/\o1.length=o2.length/\o1.length<=a0.length:=by
 obtain⟨⟨o1,o2⟩,g1,g2⟩:=dw (step:=rE n a0 x) (λ i (v:Int×List Int×List Int)=>v.1=i/\i<=a0.length/\v.2.1.length=v.2.2.length/\v.2.1.length<=i) (λ o=>o.1.length=o.2.length/\o.1.length<=a0.length) a0.length (λ k v h=>h.2.1) (by
  rintro i ⟨v,l1,l2⟩ ⟨hv,hi,sg,hl2⟩;simp at hv sg hl2;subst hv;by_cases hlt:i<a0.length;have hap:bH l1.length l1.length 1 1 8=true:=bU (by omega) (by simp[maxLen];omega);have W6:bH l2.length l2.length 1 1 8=true:=sg ▸ hap;have hz:sub ([0]:List Int) 0 1=[0]:=rfl;obtain⟨w,p1,p2,e1,hw,hp1,hp2⟩:=qc2 (n:=n) (a0:=a0) (k:=i) (m:=l1.length) (r1:=l1++[0]) (r2:=l2++[0]) hlt (by simp) (by simp[sg]) (by omega) hn;have i1:w<(l1++[0]).length:=by simp;omega
  have i2:w<p1.length:=by omega
  have i3:w<(l2++[0]).length:=by simp;omega
  have i4:w<p2.length:=by omega
  have f1:∀y:Int,aE (l1++[0]).length (p1.set ((0:Nat)+w:Int).toNat y).length=true:=λy=>by rw[List.length_set,hp1];exact EL (by simp)
  have f2:∀y:Int,aE (l2++[0]).length (p2.set ((0:Nat)+w:Int).toNat y).length=true:=λy=>by rw[List.length_set,hp2];exact EL (by simp[sg])
  have⟨b,hb⟩:=ajX (decide (a0[i].x0>x)) (decide (a0[i].x1<=x));simp only[rE,aW hlt,aj,aN hlt,ai,hb,hz,length_singleton,hap,W6,dO,e1,aO i1,aQ i2,aO i3,aQ i4,f1,f2,aG i];cases b with
  |true=>simp only[aj,aH,ai];exact .inl ⟨_,rfl,rfl,hlt,sg,by show l1.length<=_;omega⟩
  |false=>
   simp only[au,aj,aH,ai];exact .inl ⟨_,rfl,rfl,hlt,by simp;omega,by simp;omega⟩
  obtain rfl:i=a0.length:=by omega
  simp only[rE,gY,au,aH,aj];exact .inr ⟨_,rfl,sg,hl2⟩) n 0 (0,[],[]) ⟨rfl,Nat.zero_le _,rfl,aB _⟩ (by omega)
 exact⟨o1,o2,g1,g2⟩
theorem afD{a0:List ax} x (hl:a0.length<=400) (hn:2000<=n):∃o,zy n a0 x=some o/\o.length<=2*a0.length:=by
 have⟨w4,w5,g1,g2,g3⟩:=qc1 (n:=n) (a0:=a0) x hl hn;obtain⟨o,h1,h2⟩:=dw (step:=rF w4 w5) (λ i (v:Int×List Int)=>v.1=i/\i<=w4.length/\v.2.length<=2*i) (λ o=>o.length<=2*w4.length) w4.length (λ k v h=>h.2.1) (by
  rintro i ⟨v,l⟩ ⟨hv,hi,sg⟩;simp at hv sg;subst hv;by_cases hlt:i<w4.length;have xz:i<w5.length:=by omega
  have hap:bH l.length l.length 2 2 8=true:=bU (by omega) (by simp[maxLen];omega);have hs:∀x y:Int,sub ([x,y]:List Int) 0 2=[x,y]:=λ_ _=>rfl;cases hL:l.length with
  |zero=>
   have hz0:decide ((l.length:Int)>0)=false:=(by rw[hL];rfl);simp only[rF,aW hlt,aj,hz0,au,ai,aO hlt,aQ hlt,aO xz,aQ xz,hs,dX,length_nil,Nat.zero_add,Nat.reduceAdd,hap,dO,aH,aG i];exact .inl ⟨_,rfl,rfl,hlt,by simp;omega⟩
  |succ m=>
   have hm:m<l.length:=(by omega);have hpos:decide ((l.length:Int)>0)=true:=(by rw[hL];exact O4 m);have hpred:i64.wrap ((l.length:Nat)-1)=m:=(by rw[hL];exact pred_succ (by omega));have f1:∀y:Int,aE l.length (l.set ((0:Nat)+m:Int).toNat y).length=true:=λy=>(by rw[List.length_set];exact aH _);simp only[rF,aW hlt,aj,hpos,hpred,ai,aO hlt,aQ hlt,aO xz,aQ xz,aO hm,aQ hm,hs,dX,length_nil,Nat.zero_add,Nat.reduceAdd,hap,dO,f1,aH,aG i];cases decide (w4[i]<=l[m])with
   |true=>exact .inl ⟨_,rfl,rfl,hlt,by show(l.set _ _).length<=_;rw[List.length_set];omega⟩
   |false=>exact .inl ⟨_,rfl,rfl,hlt,by show(l++_).length<=_;simp;omega⟩
  obtain rfl:i=w4.length:=by omega
  simp only[rF,gY,au,aH,aj];exact .inr ⟨_,rfl,sg⟩) n 0 (0,[]) ⟨rfl,Nat.zero_le _,aB _⟩ (by omega)
 have hz:aE 0 ([]:List Int).length=true:=rfl;exact⟨o,by simp[zy,g1,h1],by omega⟩
theorem alv{a0:List Int}(hl:a0.length<=1000)(hn:2000<=n):∃o,Bb n a0 [] 0=some o/\o.length<=a0.length:=by
 obtain⟨o,h1,h2⟩:=dw (step:=uQ a0 [] 0) (λ i (v:Int×Int×Bool×List Int)=>v.1=i/\v.2.1=0/\i<=a0.length/\v.2.2.2.length<=i) (λ o=>o.length<=a0.length) a0.length (λ k v h=>h.2.2.1) (by
  rintro i ⟨v,v2,v3,l⟩ ⟨hv,hv2,hi,sg⟩;simp at hv hv2 sg;subst hv;subst hv2;have z1:decide (0<(([]:List Int).length:Int))=false:=rfl;have z2:decide (0>=(([]:List Int).length:Int))=true:=rfl;by_cases hlt:i<a0.length;have hap:bH l.length l.length 1 1 8=true:=bU (by omega) (by simp[maxLen];omega);have be:∀x:Int,(x==x)=true:=λx=>by simp
  have⟨b,hb⟩:=ajX (Int.tmod (i+1:Nat) 2==1) (Int.tmod 0 2==1);simp only[uQ,aW hlt,aj,z1,z2,aN hlt,ai,be,au,aG i,show((2:Nat) !=0)=true from rfl,show(2 !=0)=true from rfl,hb,show((0:Int)==1)=false from rfl,show((0:Int)==2)=false from rfl,show ∀x:Int,sub ([x]:List Int) 0 1=[x]from λ_=>rfl,length_singleton,hap,dO,aH];cases (!(b==v3))with
  |true=>exact .inl ⟨_,rfl,rfl,rfl,hlt,by show(l++_).length<=_;simp;omega⟩
  |false=>exact .inl ⟨_,rfl,rfl,rfl,hlt,by show l.length<=_;omega⟩
  obtain rfl:i=a0.length:=by omega
  simp only[uQ,gY,au,z1,ai,aH,aj];exact .inr ⟨_,rfl,sg⟩) n 0 (0,0,false,[]) ⟨rfl,rfl,Nat.zero_le _,aB _⟩ (by omega)
 have hz:aE 0 ([]:List Int).length=true:=rfl;exact⟨o,by simp[Bb,h1],h2⟩
theorem anM{α O:Type}{l:List α}{step:Int->Option (Int⊕(Unit⊕O))}(h1:∀i (hi:i<l.length),(∃ o,step i=some (.inr (.inr o)))\/step i=some (.inl (i+1:Nat)))
 (h2:step l.length=some (.inr (.inl ()))) (hn:l.length<n):(∃ o,iter step n 0=some (.inr o))\/iter step n 0=some (.inl ()):=by
 obtain⟨o,g1,_⟩:=dw (step:=step) (λ i v=>v=i/\i<=l.length) (λ _=>True) l.length (λ k v h=>h.2) (by
  rintro i v ⟨rfl,hi⟩;by_cases hlt:i<l.length;rcases h1 i hlt with ⟨o,h⟩|h;exact .inr ⟨_,h,trivial⟩;exact .inl ⟨_,h,rfl,hlt⟩;obtain rfl:i=l.length:=by omega
  exact .inr ⟨_,h2,trivial⟩) n 0 0 ⟨rfl,Nat.zero_le _⟩ (by omega)
 rcases o with ⟨⟩|o;exact .inr g1;exact .inl ⟨o,g1⟩
theorem aqE{a b:List Int}(hl:a.length<=1000)(hn:2000<=n):∃r,Oz n a b=some r:=by
 unfold Oz;by_cases h:a.length=b.length;have e:((a.length:Int) !=b.length)=false:=by simp[h]
 rw[e];simp only[au];rcases anM (l:=a) (n:=n) (step:=Bc a b) (λ i hi=>by
  simp only[Bc,aW hi,aj,aN hi,aN (show i<b.length by omega),ai,aG i];cases (a[i] !=b[i]'(by omega))with
  |true=>exact .inl ⟨_,rfl⟩
  |false=>exact .inr rfl) (by simp[Bc]) (by omega)with ⟨o,h⟩|h
 rw[h];exact⟨_,rfl⟩;rw[h];exact⟨_,rfl⟩;have e:((a.length:Int) !=b.length)=true:=by simpa using λe:(a.length:Int)=b.length=>h (by omega)
 rw[e];exact⟨_,rfl⟩
theorem qf2{r1:List Int}{k:Nat}{v3:List ax}{q:Nat}(hk:k+1<r1.length)(hl:r1.length<=1000)(h3:v3.length<=100000)(hn:200000<=n):∃o,iter (xu r1 k v3) n (q,v3)=some o/\o.length=v3.length:=by
 refine Bg (step:=xu r1 k v3) (λ v=>∃j:Nat,v.1=j/\v.2.length=v3.length) (λ o=>o.length=v3.length) (λ v=>v3.length-v.1.toNat) (by
  rintro⟨v,l⟩ ⟨j,rfl,hl⟩;simp at hl;by_cases hlt:j<v3.length;have hj:j<l.length:=by omega
  simp only[xu,aW hlt,aj,aG k,aO hk,aQ hk,aO hlt,aQ hj,ai,aG j];exact .inl ⟨_,rfl,⟨j+1,rfl,by simpa using hl⟩,by simp;omega⟩;simp only[xu,Q0 hlt,au];exact .inr ⟨_,rfl,hl⟩) n (q,v3) ⟨q,rfl,rfl⟩ (by omega)
theorem qf3{r1 r4:List Int}{k:Nat}{v3:List ax}(hk:k+1<r1.length)(hl:r1.length<=1000)(h4:r4.length<=1000)(h3:v3.length<=100000)(hn:200000<=n):∃o,iter (xw r1 k r4) n (0,v3)=some o/\o.length<=v3.length+r4.length:=by
 refine Bg (step:=xw r1 k r4) (λ v=>∃j:Nat,v.1=j/\j<=r4.length/\v.2.length<=v3.length+j) (λ o=>o.length<=v3.length+r4.length) (λ v=>r4.length-v.1.toNat) (by
  rintro⟨v,l⟩ ⟨j,rfl,hj,hl⟩;simp at hl;by_cases hlt:j+1<r4.length;have hj:j<r4.length:=by omega
  have hk':k<r1.length:=by omega
  have hap:bH l.length l.length 1 1 32=true:=bU (by omega) (by simp[maxLen];omega);have w2:i64.wrap (j+2)=(j+2:Nat):=by rw[dS (by omega) (by omega)];omega
  simp only[xw,aG j,aW hlt,aj,aG k,aO hk,aQ hk,aO hk',aQ hk',aO hj,aQ hj,aO hlt,aQ hlt,ai,show ∀x:ax,sub ([x]:List ax) 0 1=[x]from λ_=>rfl,length_singleton,hap,dO,aH,w2];exact .inl ⟨_,rfl,⟨j+2,rfl,by omega,by simp;omega⟩,by simp;omega⟩;simp only[xw,aG j,Q0 hlt,au,aH,aj];exact .inr ⟨_,rfl,by omega⟩) n (0,v3) ⟨0,rfl,Nat.zero_le _,by simp⟩ (by simp;omega)
theorem aqF{a:List ax}(hl:a.length<=4)(hn:200000<=n):∃o,OA n a [] 0=some o:=by
 obtain⟨r1,e1,h1⟩:=apo (n:=n) (a:=a) (by omega) (by omega);obtain⟨o,g1,_⟩:=dw (step:=Bd n a [] 0 r1) (λ i (v:Int×Int×List ax×List Int)=>(∃ q:Nat,v.1=q)/\v.2.1=i/\i<=r1.length/\v.2.2.1.length<=8*i/\v.2.2.2.length<=8) (λ _=>True) r1.length (λ k v h=>h.2.2.1) (by
  rintro i ⟨v1,v2,v3,v4⟩ ⟨⟨q,hq⟩,hv,hi,h3,h4⟩;simp at hq hv h3 h4;subst hq;subst hv;by_cases hlt:i+1<r1.length;have hi':i<r1.length:=by omega
  obtain⟨r2,e2,h2⟩:=afD (n:=n) (a0:=a) r1[i] (by omega) (by omega);obtain⟨r3,e3,h3'⟩:=afD (n:=n) (a0:=[]) r1[i] (by simp) (by omega);obtain rfl:r3=[]:=List.eq_nil_of_length_eq_zero (by simpa using h3');obtain⟨r4,e4,h4'⟩:=alv (n:=n) (a0:=r2) (by omega) (by omega);obtain⟨b5,e5⟩:=aqE (n:=n) (a:=r4) (b:=v4) (by omega) (by omega);have hv5:∃b,((bif (decide ((i:Int)>0))then(bif (decide ((r4.length:Int)>0))then some b5 else some false)else some false):Option Bool)=some b:=cu (cu ⟨_,rfl⟩ ⟨_,rfl⟩) ⟨_,rfl⟩;obtain⟨b,e6⟩:=hv5;obtain⟨o2,f2,k2⟩:=qf2 (n:=n) (r1:=r1) (k:=i) (v3:=v3) (q:=q) hlt (by omega) (by omega) hn;obtain⟨o3,f3,k3⟩:=qf3 (n:=n) (r1:=r1) (r4:=r4) (k:=i) (v3:=v3) hlt (by omega) (by omega) (by omega) hn;have e7:aE v3.length o2.length=true:=EL k2.symm;simp only[Bd,aG i,aW hlt,aj,aO hi',aQ hi',ai,e2,e3,dY,aH,e4,e5,e6,f2,f3,e7];cases b with
  |true=>exact .inl ⟨_,rfl,⟨q,rfl⟩,rfl,by omega,by show o2.length<=_;omega,h4⟩
  |false=>exact .inl ⟨_,rfl,⟨_,rfl⟩,rfl,by omega,by show o3.length<=_;omega,by show r4.length<=_;omega⟩
  simp only[Bd,aG i,Q0 hlt,au,aH,aj];exact .inr ⟨_,rfl,trivial⟩) n 0 (0,0,[],[]) ⟨⟨0,rfl⟩,rfl,Nat.zero_le _,aB _,Nat.zero_le _⟩ (by omega)
 have hz:aE 0 ([]:List ax).length=true:=rfl;have hz2:aE 0 ([]:List Int).length=true:=rfl;exact⟨o,by simp[OA,e1,g1]⟩
theorem apq{a:List ax}(hl:a.length<=4)(hn:200000<=n):∃b,KA n a=some b:=by
 have⟨f,hf⟩:=aqF (n:=n) hl hn;have hO:∃o,S4 n a=some o:=by
  unfold S4;have yd:decide ((a.length:Int)>400)=false:=by simp;omega
  rcases anM (l:=a) (n:=n) (step:=Kz a) (λ i hi=>by
   have hr:∃b,wF a[i]=some b:=(by unfold wF;exact cu (cu (cu (cu (cu ⟨_,rfl⟩ ⟨_,rfl⟩) ⟨_,rfl⟩) ⟨_,rfl⟩) ⟨_,rfl⟩) ⟨_,rfl⟩);obtain⟨b,hb⟩:=hr;simp only[Kz,aW hi,aj,aN hi,ai,hb,aG i];cases b with
   |false=>exact .inl ⟨_,rfl⟩
   |true=>exact .inr rfl) (by simp[Kz]) (by omega)with ⟨o,h⟩|h
  rw[h];exact⟨_,rfl⟩;rw[h];simp only[dF,yd,au,hf,ai,dY,aH,aj];exact cu ⟨_,rfl⟩ ⟨_,rfl⟩
 obtain⟨o,ho⟩:=hO;unfold KA;rw[ho];simp only[ai,dY,aH,aj];refine cu ?_ ⟨_,rfl⟩;have hS:∃r,OC n o.1 a=some r:=by
  unfold OC;by_cases h:o.1.length=a.length;have e:((o.1.length:Int) !=a.length)=false:=by simp[h]
  rw[e];simp only[au];rcases anM (l:=o.1) (n:=n) (step:=Be o.1 a) (λ i hi=>by
   simp only[Be,aW hi,aj,aN hi,aN (show i<a.length by omega),ai,aG i];generalize (!((o.1[i].x0==((a[i]'(by omega)).x0:Int))&&((o.1[i].y0==((a[i]'(by omega)).y0:Int))&&((o.1[i].x1==((a[i]'(by omega)).x1:Int))&&((o.1[i].y1==((a[i]'(by omega)).y1:Int))&&true)))))=c;cases c with
   |true=>exact .inl ⟨_,rfl⟩
   |false=>exact .inr rfl) (by simp[Be]) (by omega)with ⟨o,h⟩|h
  rw[h];exact⟨_,rfl⟩;rw[h];exact⟨_,rfl⟩;have e:((o.1.length:Int) !=a.length)=true:=by simpa using λe:(o.1.length:Int)=a.length=>h (by omega)
  rw[e];exact⟨_,rfl⟩
 obtain⟨r,hr⟩:=hS;rw[hr];exact⟨_,rfl⟩
theorem anN{a:List ax}(hl:a.length<=4)(hn:200000<=n):∃b,Fh n a=some b:=by
 unfold Fh;cases a with
 |nil=>exact⟨_,rfl⟩
 |cons r l=>
  have⟨b,hb⟩:=apq (n:=n) hl hn;have e:((((r::l).length:Nat):Int)==0)=false:=by simp;omega
  rw[hb,e];simp only[au,ai];refine cu ⟨_,rfl⟩ ?_;have g0:bj (r::l) 0=some r:=rfl;obtain⟨o,g1,_⟩:=dw (step:=wH (r::l) r) (λ i (v:Int×Int×Int×Int×Int)=>v.1=i/\i<=(r::l).length) (λ _=>True) (r::l).length (λ k v h=>h.2) (by rintro i ⟨v,v3,v4,v5,v6⟩ ⟨hv,hi⟩;simp at hv;subst hv;by_cases hlt:i<(r::l).length;simp only[wH,aW hlt,aj,aN hlt,ai,aG i];exact .inl ⟨_,rfl,rfl,hlt⟩;obtain rfl:i=(r::l).length:=(by omega);simp only[wH,gY,au];exact .inr ⟨_,rfl,trivial⟩) n 1 (1,r.x0,r.y0,r.x1,r.y1) ⟨rfl,by simp⟩ (by omega);simp only[g0,ai,g1];exact⟨_,rfl⟩
theorem Yg{α:Type}{l:List α}{step:Int->Option (Int⊕(Unit⊕Bool))}{good:α->Prop}(h1:∀i (hi:i<l.length),step i=some (.inr (.inr false))\/(step i=some (.inl (i+1:Nat))/\good l[i]))
 (h2:step l.length=some (.inr (.inl ()))) (hn:l.length<n):iter step n 0=some (.inr false)\/(iter step n 0=some (.inl ())/\∀x∈l,good x):=by
 obtain⟨o,g1,g2⟩:=dw (step:=step) (λ i v=>v=i/\i<=l.length/\∀x∈l.take i,good x) (λ o=>o=.inr false\/(o=.inl ()/\∀x∈l,good x)) l.length (λ k v h=>h.2.1) (by
  rintro i v ⟨rfl,hi,hall⟩;by_cases hlt:i<l.length;rcases h1 i hlt with h|⟨h,hg⟩;exact .inr ⟨_,h,.inl rfl⟩;refine .inl ⟨_,h,rfl,hlt,λx hx=>?_⟩;rw[List.take_add_one,dI hlt,bV]at hx;rcases hx with hx|hx;exact hall x hx;simp at hx;subst hx;exact hg;obtain rfl:i=l.length:=by omega
  exact .inr ⟨_,h2,.inr ⟨rfl,λx hx=>hall x (by rw[List.take_length];exact hx)⟩⟩) n 0 0 ⟨rfl,Nat.zero_le _,by simp⟩ (by omega)
 rcases g2 with rfl|⟨rfl,g2⟩;exact .inl g1;exact .inr ⟨g1,g2⟩
theorem acZ(hn:4000002<=n):∀(m:Nat)(e:bP),(toE e).wt<m->(toE e).wt<=4000000->∃r,vR n m e=some r
 | 0,_,h,_=>absurd h (by omega)
 |m+1,e,h,hw=>by have hla:=acO e;show ∃r,Fe n (vR n m) e=some r;simp[Fe];obtain⟨o,g1,_⟩:=dw (step:=Ba (vR n m) e) (λ i (v:Int×Int)=>v.2=i/\i<=e.args.length) (λ _=>True) e.args.length (λ k v h=>h.2) (by rintro i ⟨v1,v2⟩ ⟨hv,hi⟩;simp at hv;subst hv;by_cases hlt:i<e.args.length;have hwx:=ahV (getElem_mem hlt);obtain⟨r,hr⟩:=acZ hn m e.args[i] (by omega) (by omega);simp only[Ba,aW hlt,aj,aN hlt,ai,hr,aG i];exact .inl ⟨_,rfl,rfl,hlt⟩;obtain rfl:i=e.args.length:=(by omega);simp only[Ba,gY,au];exact .inr ⟨_,rfl,trivial⟩) n 0 (1,0) ⟨rfl,Nat.zero_le _⟩ (by omega);rw[g1];exact⟨_,rfl⟩
structure RK(p:bn):Prop where
 defs:fX p.defs
 rules:∀r∈p.rules,(toE (ld r)).wt<=4000000
structure HD(p:bn):Prop where
 defs:p.defs.length<=5
 rules:p.rules.length<=5
 rule:∀r∈p.rules,QU r
 tabs:p.tables.length<=4/\∀t∈p.tables,t.rows.length<=8
 zones:p.zones.length<=5
 caps:p.caps.length<=3
theorem ah6{p:bn}(hp:RK p)(hn:4000002<=n):∃b,xq n p=some b/\(b=true->HD p):=by
 have no:∃b,some false=some b/\(b=true->HD p):=⟨false,rfl,λh=>(by cases h)⟩;unfold xq;have hk:((bif (decide ((p.defs.length:Int)>(5:Int)))then some true else(bif (decide ((p.rules.length:Int)>(5:Int)))then some true else(bif (decide ((p.tables.length:Int)>(4:Int)))then some true else(bif (decide ((p.zones.length:Int)>(5:Int)))then some true else some (decide ((p.caps.length:Int)>(3:Int))))))):Option (Bool))=some (decide (p.defs.length>5\/p.rules.length>5\/p.tables.length>4\/p.zones.length>5\/p.caps.length>3)):=by
  have c:∀a k:Nat,decide ((a:Int)>(k:Int))=decide (a>k):=λa k=>by rw[decide_eq_decide];omega
  have e1:=c p.defs.length 5;have e2:=c p.rules.length 5;have e3:=c p.tables.length 4;have e4:=c p.zones.length 5;have e5:=c p.caps.length 3;rw[show decide ((p.defs.length:Int)>(5:Int))=_ from e1,show decide ((p.rules.length:Int)>(5:Int))=_ from e2,show decide ((p.tables.length:Int)>(4:Int))=_ from e3,show decide ((p.zones.length:Int)>(5:Int))=_ from e4,show decide ((p.caps.length:Int)>(3:Int))=_ from e5,Bool.decide_or,Bool.decide_or,Bool.decide_or,Bool.decide_or];cases decide (p.defs.length>5)<;>cases decide (p.rules.length>5)<;>cases decide (p.tables.length>4)<;>cases decide (p.zones.length>5)<;>rfl
 rw[hk];by_cases hc:p.defs.length>5\/p.rules.length>5\/p.tables.length>4\/p.zones.length>5\/p.caps.length>3;rw[decide_eq_true hc];exact no;rw[decide_eq_false hc];simp only[ai,au];have s1:=Yg (l:=p.defs) (n:=n) (step:=uL n p) (good:=λ_=>True) (λ i hi=>by
  obtain⟨r,hr⟩:=acZ hn n _ (show _<n by have:=hp.defs.body (getElem_mem hi);omega) (hp.defs.body (getElem_mem hi));have hr':Jb n (bP.mk p.defs[i].eW p.defs[i].gp p.defs[i].fW p.defs[i].ep p.defs[i].c8)=some r:=hr;simp only[uL,aW hi,aj,aN hi,ai,hr',aG i];cases decide (r>30)with
  |true=>exact .inl rfl
  |false=>exact .inr ⟨rfl,trivial⟩) (by simp[uL,gY,au]) (by omega)
 have s2:=Yg (l:=p.rules) (n:=n) (step:=uM n p) (good:=QU) (λ i hi=>by obtain⟨r,hr⟩:=acZ hn n (ld p.rules[i]) (show _<n by have:=hp.rules _ (getElem_mem hi);omega) (hp.rules _ (getElem_mem hi));have hr':Jb n (bP.mk p.rules[i].lw p.rules[i].m8 p.rules[i].m7 p.rules[i].ky p.rules[i].gO)=some r:=hr;simp only[uM,aW hi,aj,aN hi,ai,hr',aG i];by_cases c1:r>30;simp only[c1,decide_true,aj,ai];exact .inl rfl;by_cases c2:(p.rules[i].zones.length:Int)>5;simp only[c1,c2,decide_true,decide_false,aj,au,ai];exact .inl rfl;by_cases c3:(p.rules[i].except.length:Int)>5;simp only[c1,c2,c3,decide_true,decide_false,aj,au,ai];exact .inl rfl;simp only[c1,c2,c3,decide_false,au,ai];exact .inr ⟨trivial,by omega,by omega⟩) (by simp[uM,gY,au]) (by omega);have s3:=Yg (l:=p.tables) (n:=n) (step:=uN p) (good:=λt=>t.rows.length<=8) (λ i hi=>by simp only[uN,aW hi,aj,aN hi,ai,aG i];by_cases c1:(p.tables[i].rows.length:Int)>8;simp only[c1,decide_true,aj];exact .inl rfl;simp only[c1,decide_false,au];exact .inr ⟨trivial,by omega⟩) (by simp[uN,gY,au]) (by omega);have s4:=Yg (l:=p.zones) (n:=n) (step:=uO p) (good:=λ_=>True) (λ i hi=>by
  simp only[uO,aW hi,aj,aN hi,ai,aG i];cases decide ((p.zones[i].corners.length:Int)>12)with
  |true=>exact .inl rfl
  |false=>exact .inr ⟨rfl,trivial⟩) (by simp[uO,gY,au]) (by omega)
 have s5:=Yg (l:=p.caps) (n:=n) (step:=uP p) (good:=λ_=>True) (λ i hi=>by
  simp only[uP,aW hi,aj,aN hi,ai,aG i];cases decide ((p.caps[i].corners.length:Int)>12)with
  |true=>exact .inl rfl
  |false=>exact .inr ⟨rfl,trivial⟩) (by simp[uP,gY,au]) (by omega)
 rcases s1 with h|⟨h,_⟩;simp[h,iy];rcases s2 with h2|⟨h2,g2⟩;simp[h,h2,iy,dF];rcases s3 with h3|⟨h3,g3⟩;simp[h,h2,h3,iy,dF];rcases s4 with h4|⟨h4,_⟩;simp[h,h2,h3,h4,iy,dF];rcases s5 with h5|⟨h5,_⟩;simp[h,h2,h3,h4,h5,iy,dF];simp only[h,h2,h3,h4,h5,dF];exact⟨true,rfl,λ_=>⟨by omega,by omega,g2,⟨by omega,g3⟩,by omega,by omega⟩⟩
theorem alx(lot:bW)(hn:4000002<=n):∃b,Fj n lot=some b/\(b=true->lot.area.length<=4):=by unfold Fj;by_cases h:(lot.area.length:Int)>4;simp only[h,decide_true,aj];exact⟨false,rfl,λh=>(by cases h)⟩;obtain⟨r,hr⟩:=anN (n:=n) (a:=lot.area) (by omega) (by omega);simp only[h,decide_false,au,hr,ai];have:∃b,((bif (!r.2)then some true else(bif (decide ((i64.wrap (r.1.x1-r.1.x0))<=4))then some true else some (decide ((i64.wrap (r.1.y1-r.1.y0))<=4)))):Option Bool)=some b:=cu ⟨_,rfl⟩ (cu ⟨_,rfl⟩ ⟨_,rfl⟩);obtain⟨b,hb⟩:=this;exact⟨b,hb,λ_=>by omega⟩
def eL(t:bR):bn:=bn.mk t.cj t.bp t.aw t.az t.cm t.b8 t.cD t.b9
structure NO(t:bR):Prop where
 land:t.land.length<=2/\∀l∈t.land,l.area.length<=4
 E0:t.cC.length<=3/\∀e∈t.cC,e.area.length<=4
 built:t.built.length<=6
theorem aqG{t:bR}(hp:RK (eL t))(hn:4000002<=n):∃b,U7 n t=some b/\(b=true->HD (eL t)/\NO t):=by
 have no:∃b,some false=some b/\(b=true->HD (eL t)/\NO t):=⟨false,rfl,λh=>(by cases h)⟩;have⟨b,hb,hf⟩:=ah6 hp hn;have hb':xq n (bn.mk t.cj t.bp t.aw t.az t.cm t.b8 t.cD t.b9)=some b:=hb;unfold U7;rw[hb'];cases b with
 |false=>exact no
 |true=>
  simp only[ai,Bool.not_true,au];by_cases c1:(t.land.length:Int)>2;simp only[c1,decide_true,aj,ai];exact no;by_cases c2:(t.cC.length:Int)>3;simp only[c1,c2,decide_true,decide_false,aj,au,ai];exact no;by_cases c3:(t.built.length:Int)>6;simp only[c1,c2,c3,decide_true,decide_false,aj,au,ai];exact no;simp only[c1,c2,c3,decide_false,au,ai];have s1:=Yg (l:=t.land) (n:=n) (step:=Fp n t) (good:=λl=>l.area.length<=4) (λ i hi=>by
   have⟨b,hb,h4⟩:=alx (n:=n) t.land[i] hn;simp only[Fp,aW hi,aj,aN hi,ai,hb,aG i];cases b with
   |false=>exact .inl rfl
   |true=>exact .inr ⟨rfl,h4 rfl⟩) (by simp[Fp]) (by omega)
  have s2:=Yg (l:=t.cC) (n:=n) (step:=Fq t) (good:=λe=>e.area.length<=4) (λ i hi=>by simp only[Fq,aW hi,aj,aN hi,ai,aG i];by_cases c1:(t.cC[i].area.length:Int)>4;simp only[c1,decide_true,aj];exact .inl rfl;simp only[c1,decide_false,au];exact .inr ⟨trivial,by omega⟩) (by simp[Fq]) (by omega);rcases s1 with h|⟨h,g1⟩;simp[h,iy];rcases s2 with h2|⟨h2,g2⟩;simp[h,h2,iy,dF];simp only[h,h2,dF];exact⟨true,rfl,λ_=>⟨hf rfl,⟨by omega,g1⟩,⟨by omega,g2⟩,by omega⟩⟩
theorem apr{t:bR}{p:bn}(hz:RK p)(hf:HD p)(ht:NO t)(hr:∀l∈t.land,l.from_.length*8<=140737488355328):vU (pn t p) where
 lots:=λl hl=>⟨by have:=ht.land.2 l hl;omega,hr l hl⟩
 land:=by have:=ht.land.1;show t.land.length<=_;omega
 E0:=⟨by have:=ht.E0.1;show t.cC.length<=_;omega,λe he=>by have:=ht.E0.2 e he;omega⟩
 built:=by have:=ht.built;show t.built.length<=_;omega
 zones:=by have:=hf.zones;show p.zones.length<=_;omega
 caps:=by have:=hf.caps;show p.caps.length<=_;omega
 rules:=by have:=hf.rules;show p.rules.length<=_;omega
 rule:=λr hr=>⟨hf.rule r hr,hz.rules r hr⟩
 plan:=⟨hz.defs,by have:=hf.tabs.1;show p.tables.length<=_;omega,λx hx=>by have:=hf.tabs.2 x hx;omega⟩
theorem anO{t:bR}(ht:NO t):NX t.land:=⟨λ l hl=>by have:=ht.land.2 l hl;omega,by have:=ht.land.1;omega⟩
def In(x y:bg):Bool:=(x.lot==y.lot)&&((x.use==y.use)&&((x.floors==y.floors)&&((x.cE==y.cE)&&true)))
theorem Vh(x y:bg):In x y=true↔x=y:=by cases x;cases y;simp[In]
structure arJ(n:Nat)(t:bR)(l:List bn):Prop where
 land:NX t.land
 plans:∀p∈l,vU (pn t p)
 n:O1 n
theorem n42:O1 5000003:=⟨aB _,by omega⟩
structure anP(t:bR):Prop where
 plan:RK (eL t)
 Ax:∀l∈t.land,l.from_.length*8<=140737488355328
theorem aps{out:List ByteArray}{name:ByteArray}{bad:Bool}(h:out≠[]):addN out name bad≠[]:=by
 unfold addN;cases (bad&&!(out.any (gR name)))with
 |false=>exact h
 |true=>simp
def gj:List bW:=[bW.mk 1 0 [ax.mk 0 0 4 4] []]
def E1:bR:=bR.mk [] [] [] [] [] [] [] 0 gj [] [] [] []
def aro(k:Int):bn:=bn.mk [] [] [] [(cK.mk (⟨#[97]⟩) ([]) ([]) 0 0 0 false 0 12 0 (⟨#[]⟩) (⟨#[]⟩) [(bP.mk 1 0 (⟨#[104,101,105,103,104,116]⟩) (⟨#[]⟩) ([])),(bP.mk 0 k (⟨#[]⟩) (⟨#[]⟩) ([]))] 0 0 0 0 0 0 0)] [] [] [] 0
theorem zI:NX E1.land:=⟨λ l hl=>by have hl:l∈gj:=hl;simp[gj]at hl;subst hl;decide,by show gj.length<=500;decide⟩
def pN:List bg:=(List.range 2).flatMap λ(i:Nat)=>(List.range 72).map λ(k:Nat)=>bg.mk 1 (k%6:Nat) (k/6+1:Nat) i
def My:QY:=[(ng.mk 1 0,16),(ng.mk 1 1,4)]
theorem ajZ:((xN 5000003 gj).1,(xN 5000003 gj).2.2)=(My,pN):=by kernel_rfl
def cO:bW:=bW.mk 1 0 [ax.mk 0 0 4 4] []
def arp(p:bg):bf:=(anK 5000003 gj p).1
set_option maxRecDepth 100000 in
theorem aqH:(pN.all λp=>((jT 5000003 (j7 (pn E1 (aro 0))) cO (arp p)).bind λms=>(ms[4]?).map λe=>e.n)==some (p.floors*3))=true:=by kernel_rfl
def anR(e1 e2 e3 e4 e5 e6 e7 e8 e9:Int):List bS:=[⟨⟨#[97,114,101,97]⟩,e1⟩,⟨⟨#[99,111,118,101,114]⟩,e2⟩,⟨⟨#[102,108,111,111,114]⟩,e3⟩,⟨⟨#[102,108,111,111,114,115]⟩,e4⟩,⟨⟨#[104,101,105,103,104,116]⟩,e5⟩,⟨⟨#[104,111,109,101,115]⟩,e6⟩,⟨⟨#[114,117,110,111,102,102]⟩,e7⟩,⟨yV,e8⟩,⟨⟨#[116,114,97,102,102,105,99]⟩,e9⟩]
def E2:List Int:=[1,2,3,4,5,6,7,8,9,10,11,12]
theorem ah7:(pN.all λp=>E2.contains p.floors)=true:=by kernel_rfl
theorem afF:(xN 5000003 gj).1=My:=congrArg Prod.fst ajZ
theorem anS:(xN 5000003 gj).2.2=pN:=congrArg Prod.snd ajZ
theorem O5{p:bg}:p∈dP 5000003 gj↔p∈pN:=by rw[(xB 5000003 gj).mem_iff,anS]
def anT(x y:bg):Bool:=N9 wy My x y
theorem aj0(x:bg):anT x x=false:=(Xw wy My).irrefl x
theorem Yh:List.Pairwise (α:=bg) (λ x y=>anT y x=false) (dP 5000003 gj):=by
 have:=NU (α:=bg) (Xw wy (xN 5000003 gj).1) (xN 5000003 gj).2.2;rw[afF]at this;have e:dP 5000003 gj=lU (α:=bg) (N9 wy My) (xN 5000003 gj).2.2:=by unfold dP;rw[afF]
 rw[e];exact this
mutual
theorem apt:∀g:bP,(toE g).wt<=lC (rO g)
 |⟨op,n,s,key,args⟩=>by have:=O6 args;simp[toE,ET.wt,rO,lC,oY];omega
theorem O6:∀l:List bP,ET.tE (IY l)<=Bz (ul l)
 |[]=>by simp[IY,ET.tE]
 |x::xs=>by have h1:=apt x;have h2:=O6 xs;simp[IY,ET.tE,ul,Bz];omega
end
theorem Q5:∀l:List fB,rS (l.map toD)<=Bz (l.map BK)
 |[]=>by simp[rS]
 |x::xs=>by have h1:=Q5 xs;have h2:=O6 x.c8;simp[rS]at h1;simp[rS,toD,ET.wt,Bz,BK,lC,oY,<- um];omega
theorem aly(t:bR):rS (t.cj.map toD)<=lC (Km t):=by have:=Q5 t.cj;simp[Km,lC,oY];omega
theorem Yi{r:List Tree}:∀{l:List (List Tree)},r∈l->lC r<=Bz l
 |x::l,h=>by
  rw[Bz];rcases aR.1 h with rfl|h
  ·omega
  ·have:=Yi h;omega
theorem alz(r:cK):(toE (ld r)).wt<=lC (wu r):=by have h:=O6 r.gO;rw[um]at h;simp only[ld,toE,ET.wt,wu,lC,oY];omega
theorem abx:∀l:List Int,l.length<=Bz (l.map λy=>[Tree.sc (.int .i64 y)])
 |[]=>by simp
 |x::l=>by have:=abx l;simp only[bE,Bz,lC,oY,dX];omega
theorem aqI{t:bR}(h:lC (Km t)<=1048576):anP t:=by
 have hd:=aly t;have hd2:=Q5 t.cj;simp only[Km,lC,oY]at h;refine⟨⟨by show rS (t.cj.map toD)<=_;omega,λr hr=>?_⟩,λl hl=>?_⟩
 ·have h1:=alz r;have h2:=Yi (mem_map.2 ⟨r,hr,rfl⟩:wu r∈t.az.map wu);omega
 ·have h1:=abx l.from_;have h2:=Yi (mem_map.2 ⟨l,hl,rfl⟩:IX l∈t.land.map IX);have h3:Bz (l.from_.map λy=>[Tree.sc (.int .i64 y)])<=lC (IX l):=by simp only[IX,lC,oY];omega
  omega
def So(p:bn)(r:(List Int)×bQ×Bool):Prop:=r.2.2=true->∃i k:Nat,i<p.zones.length/\k<p.zones.length/\r.1=[(i:Int),k]
theorem Yj{p:bn}(hz:p.zones.length<=100)(hn:4000002<=n):∃r,gT n p=some r/\So p r:=by
 have et:(p.zones.length:Int).toNat=p.zones.length:=by omega
 have mk:xE (p.zones.length:Nat) 24=true:=U9 (by omega) (by simp[maxLen];omega);have d1:decide ((p.zones.length:Int)<=(p.zones.length:Nat))=true:=by simp
 have d2:decide (0<=(p.zones.length:Nat))=true:=by simp
 obtain⟨w,h1,hwl,hwa⟩:=dw (step:=iR n p) (λ i (v:Int×List (List ax))=>v.1=i/\i<=p.zones.length/\v.2.length=p.zones.length/\∀x∈v.2,x.length<=200) (λ o=>o.length=p.zones.length/\∀x∈o,x.length<=200) p.zones.length (λ k v h=>h.2.1) (by
  rintro i ⟨v,l⟩ ⟨hv,hi,hl,ha⟩;simp at hv hl ha;subst hv;by_cases hlt:i<p.zones.length;have hil:i<l.length:=by omega
  simp only[iR,aW hlt,aj,aN hlt,ai,xL (n:=n) p.zones[i] (by omega),et,aO hlt,dY,aH,aQ hil,aG i];cases p.zones[i].overlay with
  |true=>exact .inl ⟨_,rfl,rfl,hlt,hl,ha⟩
  |false=>
   refine .inl ⟨_,rfl,rfl,hlt,by simpa using hl,λx hx=>?_⟩;rcases List.mem_or_eq_of_mem_set hx with hx|rfl;exact ha x hx;exact Mv _
  obtain rfl:i=p.zones.length:=by omega
  simp only[iR,gY,au];exact .inr ⟨_,rfl,hl,ha⟩) n 0 (0,List.replicate p.zones.length []) ⟨rfl,Nat.zero_le _,by simp,λx hx=>by rw[(List.mem_replicate.1 hx).2];simp⟩ (by omega)
 have s3:∀i:Nat,i<p.zones.length->iter (eT n p w i) n ((i+1:Nat))=some (.inl ())\/∃r,iter (eT n p w i) n ((i+1:Nat))=some (.inr (.inr (.inr r)))/\So p r:=by
  intro i hi;obtain⟨o,g1,g2⟩:=Bg (step:=eT n p w i) (λ v=>∃j:Nat,v=j/\j<=p.zones.length) (λ o=>o=.inl ()\/∃r,o=.inr (.inr (.inr r))/\So p r) (λ v=>p.zones.length-v.toNat) (by
   rintro v ⟨j,rfl,hj⟩;by_cases hlt:j<p.zones.length;have hiw:i<w.length:=(by omega);have hjw:j<w.length:=(by omega);have l1:=hwa _ (getElem_mem hiw);have l2:=hwa _ (getElem_mem hjw);obtain⟨q,hq⟩:=vS (n:=n) w[i] w[j] (by omega) (by omega) (by omega);simp only[eT,et,aW hlt,aj,aO hi,aQ hiw,aO hlt,aQ hjw,ai,hq,show ∀x y:Int,sub ([x,y]:List Int) 0 2=[x,y]from λ_ _=>rfl,dX,length_nil,Nat.zero_add,Nat.reduceAdd,aH,aG j];cases decide (jd w[i] w[j]>0)with
   |true=>exact .inr ⟨_,rfl,.inr ⟨_,rfl,λ_=>⟨i,j,hi,hlt,rfl⟩⟩⟩
   |false=>exact .inl ⟨_,rfl,⟨j+1,rfl,hlt⟩,by simp;omega⟩
   obtain rfl:j=p.zones.length:=(by omega);simp only[eT,et,gY,au];exact .inr ⟨_,rfl,.inl rfl⟩) n _ ⟨i+1,rfl,hi⟩ (by omega)
  rcases g2 with rfl|⟨r,rfl,hr⟩;exact .inl g1;exact .inr ⟨r,g1,hr⟩
 obtain⟨o,g1,g2⟩:=dw (step:=gM n p w) (λ i v=>v=i/\i<=p.zones.length) (λ o=>o=.inl ()\/∃r,o=.inr r/\So p r) p.zones.length (λ k v h=>h.2) (by
  rintro i v ⟨rfl,hi⟩;by_cases hlt:i<p.zones.length;simp only[gM,et,aW hlt,aj,aG i];rcases s3 i hlt with h|⟨r,h,hr⟩;rw[h];exact .inl ⟨_,rfl,rfl,hlt⟩;rw[h];exact .inr ⟨_,rfl,.inr ⟨r,rfl,hr⟩⟩;obtain rfl:i=p.zones.length:=by omega
  simp only[gM,et,gY,au];exact .inr ⟨_,rfl,.inl rfl⟩) n 0 0 ⟨rfl,Nat.zero_le _⟩ (by omega)
 unfold gT;simp only[d1,d2,mk,Bool.and_self,aj,et,h1,ai];rcases g2 with rfl|⟨r,rfl,hr⟩;rw[g1];exact⟨_,rfl,λh=>(by cases h)⟩;rw[g1];exact⟨r,rfl,hr⟩
def ef(t:bR)(day:Int):kS:=kS.mk t.cj t.bp t.aw t.az t.cm t.b8 t.cD t.b9 t.land t.cC t.windows t.built t.base day
theorem ah8{t:bR}(day:Int)(ht:vU t)(hn:O1 n):∃g,dR n (ef t day)=some g/\g.length<=2/\∀f∈g,(f.kind=3\/f.kind=2)/\f.names.length<=4000001:=by
 obtain⟨hn1,hn2⟩:=hn;have hdl:=ht.plan.defs.len;have⟨o,ho,_,_,hol⟩:=rY (n:=n) (p:=eL t) ht.plan.defs hn1;obtain⟨r,hr,hq⟩:=Yj (n:=n) (p:=eL t) ht.zones (by omega);have ho':fQ n (bn.mk (ef t day).co (ef t day).bx (ef t day).bm (ef t day).cg (ef t day).cp (ef t day).ca (ef t day).cy (ef t day).ci)=some o:=ho;have hr':gT n (bn.mk (ef t day).co (ef t day).bx (ef t day).bm (ef t day).cg (ef t day).cp (ef t day).ca (ef t day).cy (ef t day).ci)=some r:=hr;have ap0:bH 0 0 1 1 88=true:=bU (by omega) (by simp only[maxLen];omega);have s1:∀x:aC,sub ([x]:List aC) 0 1=[x]:=λ_=>rfl;have hv1:∃v1:List aC,((bif (o.2.2==(16:Int))then(ck (bH 0 0 1 1 88) (iM [(aC.mk 3 0 o.2.1 0 0 0 0 0 0)] λr2=>ck (aE r2.length r2.length) (some r2)))else(ck (aE 0 ([]:List aC).length) (some ([]:List aC)))):Option (List aC))=some v1/\v1.length<=1/\∀f∈v1,f.kind=3/\f.names.length<=4000001:=by
  rw[ap0];cases (o.2.2==(16:Int))with
  |true=>exact⟨_,rfl,by simp,λf hf=>by simp at hf;subst hf;exact⟨rfl,Nat.le_trans hol (Nat.succ_le_succ hdl)⟩⟩
  |false=>exact⟨[],rfl,by simp,λf hf=>by simp at hf⟩
 obtain⟨v1,e1,l1,k1⟩:=hv1;unfold dR;simp only[ho',ai,s1,length_singleton,e1,hr'];cases hb:r.2.2 with
 |false=>simp only[au,aH,aj,ai,dY];exact⟨v1,rfl,by omega,λf hf=>⟨.inl (k1 f hf).1,(k1 f hf).2⟩⟩
 |true=>
  have⟨i,k,hi,hk,hik⟩:=hq hb;have loop:∃ns:List ByteArray,iter (dx (ef t day) r) n ((0:Int),(2:Int),(0:Int),(0:Int),(0:Int),(0:Int),(0:Int),r.2.1.x,r.2.1.y,([]:List ByteArray))=some ((2:Int),(0:Int),(0:Int),(0:Int),(0:Int),(0:Int),r.2.1.x,r.2.1.y,ns)/\ns.length<=2:=by
   have hl2:r.1.length=2:=(by rw[hik];rfl);obtain⟨o,g1,ns,rfl,g2⟩:=dw (step:=dx (ef t day) r) (λ j v=>∃ns:List ByteArray,v=((j:Int),(2:Int),(0:Int),(0:Int),(0:Int),(0:Int),(0:Int),r.2.1.x,r.2.1.y,ns)/\j<=2/\ns.length=j) (λ o=>∃ns:List ByteArray,o=((2:Int),(0:Int),(0:Int),(0:Int),(0:Int),(0:Int),r.2.1.x,r.2.1.y,ns)/\ns.length<=2) 2 (λ k v ⟨_,_,h,_⟩=>h) (by rintro j v ⟨ns,rfl,hj,hns⟩;by_cases hlt:j<r.1.length;have hz:∃z:Nat,r.1[j]=(z:Int)/\z<(ef t day).bm.length:=(by have hj2:j=0\/j=1:=(by omega);rcases hj2 with rfl|rfl;exact⟨i,by simp[hik],hi⟩;exact⟨k,by simp[hik],hk⟩);obtain⟨z,hz1,hz2⟩:=hz;have hap:bH ns.length ns.length 1 1 16=true:=bU (by omega) (by simp[maxLen];omega);simp only[dx,aW hlt,aj,aO hlt,aQ hlt,hz1,aN hz2,ai,show ∀x:ByteArray,sub ([x]:List ByteArray) 0 1=[x]from λ_=>rfl,length_singleton,hap,dO,aH,aG j];exact .inl ⟨_,rfl,_,rfl,by omega,by simp[hns]⟩;have hj2:j=r.1.length:=(by omega);have hd:decide ((j:Int)<(r.1.length:Int))=false:=(by rw[hj2];exact gY _);simp only[dx,hd,au,aH,aj];exact .inr ⟨_,rfl,ns,rfl,by omega⟩) n 0 ((0:Int),(2:Int),(0:Int),0,0,0,0,r.2.1.x,r.2.1.y,[]) ⟨[],rfl,by omega,rfl⟩ (by omega);exact⟨ns,g1,g2⟩
  obtain⟨ns,e2,hns⟩:=loop;have hz:aE 0 ([]:List ByteArray).length=true:=rfl;have ap1:bH v1.length v1.length 1 1 88=true:=bU (by omega) (by simp[maxLen];omega);simp only[aj,hz,e2,ai,dY,aH,ap1,dO];refine⟨_,rfl,by simp;omega,λf hf=>?_⟩;rcases bV.1 hf with hf|hf;exact⟨.inl (k1 f hf).1,(k1 f hf).2⟩;simp at hf;subst hf;exact⟨.inr rfl,by show ns.length<=_;omega⟩
def iX(n:Nat)(t:bR):List aC:=(dR n (ef t 0)).getD []
theorem aj2{n:Nat}{t:bR} day (ht:vU t) (hn:O1 n):dR n (ef t day)=some (iX n t)/\(iX n t).length<=2/\∀f∈iX n t,(f.kind=3\/f.kind=2)/\f.names.length<=4000001:=by
 have⟨g,h1,h2,h3⟩:=ah8 (n:=n) (t:=t) 0 ht hn;have e:iX n t=g:=by unfold iX;rw[h1];rfl
 rw[e];exact⟨h1,h2,h3⟩
def kH(n:Nat)(lot:bW)(p:bg):bf:=bif Ga n lot p then oD n lot p else bf.mk 0 []
theorem ac0(n:Nat)(lot:bW)(p:bg):yv (kH n lot p):=by unfold kH;cases Ga n lot p;exact anJ;exact Vg _ _ _
theorem anU{lot:bW}(ha:lot.area.length<=900)(hn:4000002<=n)(p:bg):I6 n lot p=some (kH n lot p):=by unfold I6;rw[Yf ha hn];unfold kH;cases Ga n lot p<;>rfl
def FM(n:Nat)(t:bR)(lot:bW)(day:Int):bg×Bool:=vV (dP n [lot]) λp=>uX n t (kH n lot p) day
theorem afG{t:bR}{lot:bW}{L:List bg} day (ht:vU t) (ha:lot.area.length<=900) (hL:L.length<=756000) (hn:O1 n):jA n (ef t day) lot L=some (vV L λp=>uX n t (kH n lot p) day):=by
 have hn1:=hn.1;unfold jA;have hi:sI n L (λ (y1:bg×Unit)=>jk n y1.1 (ef t day) lot)=some (xH (λ p=>uX n t (kH n lot p) day) L):=fZ (l:=L) (φ:=λ(y1:bg×Unit)=>jk n y1.1 (ef t day) lot) (λ p=>uX n t (kH n lot p) day) (λ p _=>by have tx:kL n t (kH n lot p) day=some (uX n t (kH n lot p) day):=ajW day ht (ac0 n lot p) hn;have JT:kL n (bR.mk (ef t day).co (ef t day).bx (ef t day).bm (ef t day).cg (ef t day).cp (ef t day).ca (ef t day).cy (ef t day).ci (ef t day).fm (ef t day).dc (ef t day).eb (ef t day).du (ef t day).fp) (kH n lot p) (ef t day).day=some (uX n t (kH n lot p) day):=tx;simp[jk,anU (n:=n) ha (by omega),JT]) (by omega) (by omega);rw[hi];simp[aeJ];unfold vV;cases hany:L.any λp=>uX n t (kH n lot p) day with
 |false=>
  have:L.find? (λ p=>uX n t (kH n lot p) day)=none:=List.find?_eq_none.2 λx hx hc=>List.any_eq_false.1 hany x hx hc;rw[this];rfl
 |true=>
  have⟨i,hi,e,hf⟩:=Xl hany;rw[e,hf];simp[aN hi]
theorem Yk(n:Nat)(lot:bW):(dP n [lot]).length<=1512:=by
 have h1:=(xB n [lot]).length_eq;have h2:=O3 n [lot] ([],[],[]);have h3:(xN n [lot]).2.2.length<=1512*[lot].length:=by unfold xN;simpa using h2
 simp at h3;omega
theorem anV{t:bR}(id day:Int)(ht:vU t)(hl:NX t.land)(hn:O1 n):zw n t id day=some (match t.land.find? λx=>x.id==id with|some lot=>FM n t lot day|none=>(Nm,false)):=by
 have hn1:=hn.1;have hl2:=hl.2;unfold zw;have hi:vQ n t.land (λ (y1:bW×Unit)=>wE y1.1 id)=some (xH (λ x:bW=>x.id==id) t.land):=fZ (l:=t.land) (φ:=λ(y1:bW×Unit)=>wE y1.1 id) (λ x:bW=>x.id==id) (λ _ _=>rfl) (by omega) (by omega);rw[hi];simp[aeJ];cases hany:t.land.any λx:bW=>x.id==id with
 |false=>
  have:t.land.find? (λ x=>x.id==id)=none:=List.find?_eq_none.2 λx hx hc=>List.any_eq_false.1 hany x hx hc;rw[this];rfl
 |true=>
  have⟨i,hi,e,hf⟩:=Xl hany;have ha:=hl.1 _ (getElem_mem hi);have hsl:tT i (i+1:Nat) t.land.length=true:=o7 (by omega) (by omega) (by omega);have hsub:sub t.land (i:Int).toNat (((i+1:Nat):Int).toNat-(i:Int).toNat)=[t.land[i]]:=by have e1:(i:Int).toNat=i:=(by omega);have e2:((i+1:Nat):Int).toNat-i=1:=(by omega);rw[e1,e2];unfold sub;rw[List.drop_eq_getElem_cons hi];rfl
  have hP:=QZ (n:=n) (land:=[t.land[i]]) (λ l hl=>by simp at hl;subst hl;exact ha) (by simp) (by omega);have hle:=afG (n:=n) (t:=t) (lot:=t.land[i]) (L:=dP n [t.land[i]]) day ht ha (by have:=Yk n t.land[i];omega) hn;have hle':jA n (kS.mk t.cj t.bp t.aw t.az t.cm t.b8 t.cD t.b9 t.land t.cC t.windows t.built t.base day) t.land[i] (dP n [t.land[i]])=some (FM n t t.land[i] day):=hle;rw[e,hf];simp only[Bool.not_true,au,aN hi,ai,aG i,hsl,aj,hsub,hP,dY,aH,hle',show decide (i<0)=false from by simp]
def FG(lot:bW):aC:=aC.mk 0 lot.id [] 0 0 0 0 0 0
def HC(n:Nat)(t:bR)(lot:bW)(day:Int):aC:=match dP n [lot]with
 |[]=>aC.mk 1 lot.id [] 0 0 0 0 0 0
 |p::_=>aC.mk 1 lot.id (ow n t (kH n lot p) day) p.lot p.use p.floors p.cE 0 0
def pQ(n:Nat)(t:bR)(lot:bW)(day:Int):aC×Bool:=
 bif(applied t lot day).isEmpty then(FG lot,true)else bif(FM n t lot day).2 then(FG lot,false)else(HC n t lot day,true)
theorem afH{t:bR}{d:bf}{day:Int}(ht:vU t):(ow n t d day).length<=101:=by
 unfold ow;cases (BU n t d==0)with
 |false=>simp
 |true=>
  have h1:=Yc (FK n t (qF t d) d (applied t (qF t d) day)) abp (RM t d);have h2:=BV (yr n t (qF t d) d) (applied t (qF t d) day) [];have h3:(applied t (qF t d) day).length<=t.az.length:=List.length_filter_le _ _;have h4:=ht.rules;simp;unfold FK at*;simp at h2;omega
theorem apu{t:bR}{lot:bW} day (ht:vU t) (ha:lot.area.length<=900) (hn:O1 n):mE n (ef t day) lot=some (pQ n t lot day):=by
 have hn1:=hn.1;have hz:pq n (eL t) lot.area=some (iq t lot):=Fw _ _ ht.zones ha (by omega);have hz':pq n (bn.mk (ef t day).co (ef t day).bx (ef t day).bm (ef t day).cg (ef t day).cp (ef t day).ca (ef t day).cy (ef t day).ci) lot.area=some (iq t lot):=hz;have hA:j3 n (bn.mk (ef t day).co (ef t day).bx (ef t day).bm (ef t day).cg (ef t day).cp (ef t day).ca (ef t day).cy (ef t day).ci) (iq t lot) (ef t day).day=some ((qV t.az (iq t lot) day).map λ(i:Nat)=>(i:Int)):=xM _ _ _ (λ r hr=>(ht.rule r hr).1) ht.rules (FJ ht lot) (by omega);have hpick:(qV t.az (iq t lot) day).filterMap (λ i=>t.az[i]?)=applied t lot day:=Bj (oW (iq t lot) day) t.az;have hempty:(((((qV t.az (iq t lot) day).map λ(i:Nat)=>(i:Int)).length:Nat):Int)==0)=(applied t lot day).isEmpty:=by
  rw[length_map];cases hap:qV t.az (iq t lot) day with
  |nil=>
   rw[hap]at hpick;rw[<- hpick];rfl
  |cons j l=>
   have hj:j∈qV t.az (iq t lot) day:=(by rw[hap];simp);have h2:=(List.mem_filter.1 hj).2;obtain⟨r,hr⟩:∃r,t.az[j]? =some r:=by
    cases hc:t.az[j]? with
    |none=>rw[hc]at h2;cases h2
    |some r=>exact⟨r,rfl⟩
   have hmem:r∈applied t lot day:=(by rw[<- hpick];exact List.mem_filterMap.2 ⟨j,hj,hr⟩);have e1:((((j::l).length:Nat):Int)==0)=false:=(by simp;omega);rw[e1];cases hq:applied t lot day with
   |nil=>rw[hq]at hmem;simp at hmem
   |cons _ _=>rfl
 have hP:=QZ (n:=n) (land:=[lot]) (λ l hl=>by simp at hl;subst hl;exact ha) (by simp) (by omega);have hle:=afG (n:=n) (t:=t) (lot:=lot) (L:=dP n [lot]) day ht ha (by have:=Yk n lot;omega) hn;have hs1:sub [lot] 0 1=[lot]:=rfl;unfold mE pQ;simp only[hz',ai,dY,aH,aj,hA,hempty];cases (applied t lot day).isEmpty with
 |true=>rfl
 |false=>
  simp[hs1,hP,hle];have hL:(vV (dP n [lot]) λp=>uX n t (kH n lot p) day)=FM n t lot day:=rfl;rw[hL];cases (FM n t lot day).2 with
  |true=>rfl
  |false=>
   simp[HC];cases hq:dP n [lot]with
   |nil=>rfl
   |cons p l=>
    have hd:decide (((p::l).length:Int)>0)=true:=(by simp);have hB:=QX (n:=n) (t:=t) (d:=kH n lot p) day ht (ac0 n lot p) hn;have hB':mW n (bR.mk (ef t day).co (ef t day).bx (ef t day).bm (ef t day).cg (ef t day).cp (ef t day).ca (ef t day).cy (ef t day).ci (ef t day).fm (ef t day).dc (ef t day).eb (ef t day).du (ef t day).fp) (kH n lot p) (ef t day).day=some (ow n t (kH n lot p) day,BU n t (kH n lot p)):=hB;simp[show bj (p::l) 0=some p from rfl,anU (n:=n) ha (by omega),hB']
def Yl(n:Nat)(t:bR)(day:Int)(lot:bW)(s:List (Int×Bool)×List aC):List (Int×Bool)×List aC:=
 bif(dL ie lot.id s.1).getD false then s else(oI ie lot.id true s.1,bif(pQ n t lot day).2 then s.2++[(pQ n t lot day).1]else s.2)
def LU(n:Nat)(t:bR)(day:Int):List aC:=(t.land.foldl (λ s lot=>Yl n t day lot s) ([],iX n t)).2
theorem alA(n:Nat)(t:bR) day (lot:bW) (s:List (Int×Bool)×List aC):(Yl n t day lot s).2.length<=s.2.length+1:=by
 unfold Yl;cases (dL ie lot.id s.1).getD false with
 |true=>simp
 |false=>cases (pQ n t lot day).2<;>simp
theorem FN{t:bR} day (ht:vU t) (hl:NX t.land) (hn:O1 n):gP n t day=some (LU n t day):=by
 have hn1:=hn.1;have hl2:=hl.2;have⟨hg,hgl,_⟩:=aj2 (n:=n) (t:=t) day ht hn;have hg':dR n (kS.mk t.cj t.bp t.aw t.az t.cm t.b8 t.cD t.b9 t.land t.cC t.windows t.built t.base day)=some (iX n t):=hg;have key:=fF (l:=t.land) (step:=uK n t day) (λ i (s:List (Int×Bool)×List aC)=>(i,s.1,s.2)) (λ lot s=>Yl n t day lot s) (λ s=>s.2) (λ i s=>s.2.length<=i+2) (λ i hi s hs=>by
  refine⟨?_,by have:=alA n t day t.land[i] s;omega⟩;have hlk:mE n (kS.mk t.cj t.bp t.aw t.az t.cm t.b8 t.cD t.b9 t.land t.cC t.windows t.built t.base day) t.land[i]=some (pQ n t t.land[i] day):=apu day ht (hl.1 _ (getElem_mem hi)) hn;have hap:bH s.2.length s.2.length 1 1 88=true:=bU (by omega) (by simp[maxLen];omega);simp only[uK,aW hi,aj,aN hi,ai,Yl];cases (dL ie t.land[i].id s.1).getD false with
  |true=>simp[aG i]
  |false=>
   simp[hlk,show ∀x:aC,sub ([x]:List aC) 0 1=[x]from λ_=>rfl,hap,aG i];cases (pQ n t t.land[i] day).2<;>rfl) (λ s _=>by simp[uK]) n (by omega) ([],iX n t) (by show(iX n t).length<=0+2;omega)
 unfold gP;have key':iter (uK n t day) n (0,[],iX n t)=some (LU n t day):=key;simp[hg',key']
theorem Tg k:dL ie k ([]:List (Int×Bool))=none:=rfl
theorem aia l (hl:l.length<=4000001) (hn:4000003<=n):Kw n l l=some true:=by
 unfold Kw;have e:((l.length:Int) !=l.length)=false:=by simp
 have key:=iF (step:=yH l l) (λ i=>(i:Nat)) (s:=0) l.length (.inl ()) rfl (λ i hi=>by
  have be:(ByteArray.toList l[i]==ByteArray.toList l[i])=true:=by simp
  simp only[yH,aW hi,aj,aN hi,ai,be,Bool.not_true,au,aG i]) (by simp[yH]) n (by omega)
 rw[e,key];rfl
theorem Q6 l (hl:l.length<=1000) (hm:∀f∈l,f.names.length<=4000001) (hn:4000003<=n):Dt n l l=some true:=by
 unfold Dt;have e:((l.length:Int) !=l.length)=false:=by simp
 have key:=iF (step:=A9 n l l) (λ i=>(i:Nat)) (s:=0) l.length (.inl ()) rfl (λ i hi=>by
  have ne:∀x:Int,(x !=x)=false:=λx=>by simp
  have be:∀x:Int,(x==x)=true:=λx=>by simp
  simp only[A9,aW hi,aj,aN hi,ai,ne,be,Bool.and_self,Bool.not_true,au,aia _ (hm _ (getElem_mem hi)) hn,aG i]) (by simp[A9]) n (by omega)
 rw[e,key];rfl
structure arI(F:Int->List aC)(fr to:Int)(r:Int×Bool):Prop where
 some:r.2=true->fr<=r.1/\r.1<=to/\F r.1≠[]/\(r.1=fr\/F (r.1-1)=[]/\F fr=[])
 none:r.2=false->r.1=0/\∀d,fr<=d->d<=to->F d=[]
theorem alB(t:bR):pn t (eL t)=t:=by cases t;rfl
theorem alC{t:bR}(ht:anP t)(hf:HD (eL t))(hF:NO t):vU t:=by
 have:=apr ht.plan hf hF ht.Ax
 rwa [alB]at this
def anW:ByteArray:=⟨#[99,111,114,101]⟩
def PC:eX:=eX.mk (⟨#[99,111,114,101]⟩) false [(bQ.mk 0 0),(bQ.mk 9 0),(bQ.mk 9 9),(bQ.mk 0 9)]
def ZG(zs:List ByteArray)(u k:Int):cK:=cK.mk (⟨#[97]⟩) zs ([]) 0 u 0 false 0 12 0 (⟨#[]⟩) (⟨#[]⟩) [(bP.mk 1 0 (⟨#[104,101,105,103,104,116]⟩) (⟨#[]⟩) ([])),(bP.mk 0 k (⟨#[]⟩) (⟨#[]⟩) ([]))] 0 0 0 0 0 0 0
def arq:cK:=cK.mk (⟨#[97]⟩) ([]) ([]) 0 0 0 false 0 0 1 (⟨#[]⟩) (⟨#[]⟩) ([]) 0 0 0 0 0 0 0
def ars:List fB:=[(fB.mk (⟨#[120]⟩) 1 0 (⟨#[121]⟩) (⟨#[]⟩) ([])),(fB.mk (⟨#[121]⟩) 1 0 (⟨#[120]⟩) (⟨#[]⟩) ([]))]
def yy(d:List fB)(r:cK):bR:=bR.mk d [] [PC] [r] [] [] [] 0 gj [] [] [] []
theorem anX(r:cK):zl r=some (yy [] r):=rfl
def sR:bR:=yy [] (ZG [⟨#[99,111,114,101]⟩] 0 6)
def Mu:bR:=yy [] (ZG [⟨#[114,105,109]⟩] 0 6)
def Jv:bR:=yy [] (ZG [] 0 2)
def ij:bR:=yy [] (ZG [] 9 6)
def Hd:bR:=yy ars arq
theorem Ym{d:List fB}{r:cK}(hd:fX d)(hr:QU r/\(toE (ld r)).wt<=4000000):vU (yy d r) where
 lots:=λl hl=>by have hl:l∈gj:=hl;simp only[gj,bD]at hl;subst hl;exact⟨by decide,by decide⟩
 land:=by show gj.length<=1000;decide
 E0:=⟨Nat.zero_le _,λe he=>by have he:e∈[]:=he;simp at he⟩
 built:=Nat.zero_le _
 zones:=by show 1<=100;decide
 caps:=Nat.zero_le _
 rules:=by show 1<=100;decide
 rule:=λx hx=>by have hx:x∈[r]:=hx;rw[bD.1 hx];exact hr
 plan:=⟨hd,⟨Nat.zero_le _,λx hx=>by have hx:x∈[]:=hx;simp at hx⟩⟩
theorem S5:fX []:=Nat.le_of_ble_eq_true (by kernel_rfl)
theorem aj3:vU sR:=Ym S5 ⟨⟨by decide,by decide⟩,Nat.le_of_ble_eq_true (by kernel_rfl)⟩
theorem apw:vU Mu:=Ym S5 ⟨⟨by decide,by decide⟩,Nat.le_of_ble_eq_true (by kernel_rfl)⟩
theorem apx:vU Jv:=Ym S5 ⟨⟨by decide,by decide⟩,Nat.le_of_ble_eq_true (by kernel_rfl)⟩
theorem aj4:vU ij:=Ym S5 ⟨⟨by decide,by decide⟩,Nat.le_of_ble_eq_true (by kernel_rfl)⟩
theorem apy:vU Hd:=Ym (Nat.le_of_ble_eq_true (by kernel_rfl)) ⟨⟨by decide,by decide⟩,Nat.le_of_ble_eq_true (by kernel_rfl)⟩
def FO:bg:=bg.mk 1 0 1 1
theorem anZ:iX 5000003 sR=[]:=by kernel_rfl
theorem an0:iX 5000003 Mu=[]:=by kernel_rfl
theorem an1:iX 5000003 Jv=[]:=by kernel_rfl
theorem afI:iX 5000003 ij=[]:=by kernel_rfl
theorem an2:iX 5000003 Hd=[aC.mk 3 0 [⟨#[120]⟩,⟨#[121]⟩] 0 0 0 0 0 0]:=by kernel_rfl
theorem apz:(applied sR cO 0).isEmpty=false:=by kernel_rfl
theorem apB:(applied Mu cO 0).isEmpty=true:=by kernel_rfl
theorem aj5:applied Jv cO 0=[ZG [] 0 2]:=by kernel_rfl
theorem an3:(applied ij cO 0).isEmpty=false:=by kernel_rfl
theorem an4:(applied ij cO 8).isEmpty=false:=by kernel_rfl
theorem an5:(applied ij cO 9).isEmpty=true:=by kernel_rfl
theorem apC:(applied Hd cO 0).isEmpty=false:=by kernel_rfl
theorem aj6:uX 5000003 sR (kH 5000003 cO FO) 0=true:=by kernel_rfl
theorem an6:uX 5000003 ij (kH 5000003 cO FO) 0=true:=by kernel_rfl
theorem an7:uX 5000003 ij (kH 5000003 cO FO) 8=true:=by kernel_rfl
theorem apD:uX 5000003 Hd (kH 5000003 cO FO) 0=true:=by kernel_rfl
theorem apE:ow 5000003 Jv (kH 5000003 cO FO) 0=[⟨#[97]⟩]:=by kernel_rfl
theorem aqJ:iq Jv cO=[anW]:=by kernel_rfl
theorem an8:A8 5000003 (eL ij) 0=some (9,true):=by kernel_rfl
theorem an9(e1 e2 e3 e4 e6 e7 e8 e9:Int):(E2.all λf=>(yC 5000003 (j7 Jv) (anR e1 e2 e3 e4 (f*3) e6 e7 e8 e9) [anW] (ld (ZG [] 0 2))==some 0))=true:=by kernel_rfl
theorem aj7:(pN.all λp=>In p FO || anT FO p)=true:=by kernel_rfl
theorem vW{t:bR}{lot:bW}{day:Int}(h:t.land=[lot]):LU n t day=bif(pQ n t lot day).2 then iX n t++[(pQ n t lot day).1]else iX n t:=by unfold LU;rw[h];simp[Yl,Tg]
theorem KG{t:bR}{day:Int}(h:uX 5000003 t (kH 5000003 cO FO) day=true):FM 5000003 t cO day=(FO,true):=by
 have hin:∀p∈dP 5000003 gj,p∈pN:=λp hp=>O5.1 hp;have hs:=Yh;have hmem:FO∈dP 5000003 gj:=O5.2 (by
  have:(pN.any λp=>In p FO)=true:=by kernel_rfl
  obtain⟨p,hp,he⟩:=List.any_eq_true.1 this;rw[Vh]at he;rw[<- he];exact hp)
 show vV (dP 5000003 gj) (λ p=>uX 5000003 t (kH 5000003 cO p) day)=_;generalize dP 5000003 gj=L at hin hs hmem;rcases FL L (λ p=>uX 5000003 t (kH 5000003 cO p) day)with ⟨p,hf,hr,hp,hq⟩|⟨_,hn⟩;have:=all_eq_true.1 aj7 p (hin p hp);rw[Bool.or_eq_true]at this;rcases this with h'|h';rw[Vh]at h';rw[hr,h'];exfalso;obtain⟨_,i,hi,rfl,hbef⟩:=List.find?_eq_some_iff_getElem.1 hf;obtain⟨j,hj,Wf⟩:=List.getElem_of_mem hmem;rcases Nat.lt_trichotomy i j with hij|hij|hij;rw[List.pairwise_iff_getElem]at hs;have:=hs i j hi hj hij;rw[Wf,h']at this;cases this;subst hij;rw[Wf,aj0]at h';cases h';have:=hbef j hij;rw[Wf,h]at this;cases this;have:=hn FO hmem;rw[h]at this;cases this
theorem aoa:∃l,dP 5000003 gj=FO::l:=by
 have hin:∀p∈dP 5000003 gj,p∈pN:=λp hp=>O5.1 hp;have hs:=Yh;have hmem:FO∈dP 5000003 gj:=O5.2 (by
  have:(pN.any λp=>In p FO)=true:=by kernel_rfl
  obtain⟨p,hp,he⟩:=List.any_eq_true.1 this;rw[Vh]at he;rw[<- he];exact hp)
 generalize dP 5000003 gj=L at hin hs hmem;cases L with
 |nil=>simp at hmem
 |cons p l=>
  have:=all_eq_true.1 aj7 p (hin p (by simp));rw[Bool.or_eq_true]at this;rcases this with h'|h';rw[Vh]at h';exact⟨l,by rw[h']⟩;rcases aR.1 hmem with h|h;rw[<- h,aj0]at h';cases h';rw[pairwise_cons]at hs;have:=hs.1 _ h;rw[h']at this;cases this
theorem aoc{p:bg}(hp:p∈dP 5000003 [cO]):uX 5000003 Jv (kH 5000003 cO p) 0=false:=by
 have hpR:p∈pN:=O5.1 hp;have⟨lot,hof⟩:=abv hp;have V2:lot=cO:=by have:=List.mem_of_find?_eq_some hof.PA;simpa using this
 subst V2;have hfits:=KF hof;have hd:kH 5000003 cO p=oD 5000003 cO p:=by unfold kH;rw[hfits];rfl
 have hD:arp p=oD 5000003 cO p:=by show(anK 5000003 [cO] p).1=_;unfold anK;rw[hof.PA];simp[hfits]
 have hpl:p.lot=1:=by have:=hof.PA;obtain⟨i,k,_,_,_,hpk⟩:=hof.ex;rw[hpk];rfl
 rw[hd];unfold uX;cases C3:(BU 5000003 Jv (oD 5000003 cO p)==0)with
 |false=>rfl
 |true=>
  rw[Bool.true_and];have h2:=all_eq_true.1 aqH p hpR;rw[hD]at h2;have hLD:yv (oD 5000003 cO p):=Vg _ _ _;have hlt:qF Jv (oD 5000003 cO p)=cO:=by show(kG gj p.lot).1=_;rw[hpl];rfl
  obtain⟨e1,e2,e3,e4,e5,e6,e7,e8,Lo⟩:=anz (n:=5000003) (p:=j7 Jv) (lot:=cO) (d:=oD 5000003 cO p) ⟨Nat.zero_lt_succ _,Nat.zero_le _,λx hx=>by have hx:x∈[]:=hx;simp at hx⟩ (by decide) hLD.1 (by omega);have hms:jT 5000003 (j7 (pn E1 (aro 0))) cO (oD 5000003 cO p)=some (anR e1 e2 e3 e4 e5 e6 e7 (uW (pO cO) (fT (oD 5000003 cO p))) e8):=Lo [] [] [] [] [] [] 0;have hmD:jT 5000003 (j7 Jv) cO (oD 5000003 cO p)=some (anR e1 e2 e3 e4 e5 e6 e7 (uW (pO cO) (fT (oD 5000003 cO p))) e8):=Lo [] [PC] [] [] [] [] 0;have h5:e5=p.floors*3:=by rw[hms,beq_iff_eq]at h2;have:some e5=some (p.floors*3):=h2;injection this
  have hfl:p.floors∈E2:=by have:=all_eq_true.1 ah7 p hpR;simpa using this
  have hev:=all_eq_true.1 (an9 e1 e2 e3 e4 e6 e7 (uW (pO cO) (fT (oD 5000003 cO p))) e8) p.floors hfl;rw[beq_iff_eq,<- h5]at hev;have hb:yr 5000003 Jv cO (oD 5000003 cO p) (ZG [] 0 2)=true:=by have ht:RR 5000003 Jv cO (oD 5000003 cO p) (ZG [] 0 2)=true:=(by unfold RR;rw[hmD,aqJ];simp only[ai,hev,Option.getD_some];rfl);unfold yr;exact ht
  unfold ow FK;rw[C3,hlt,aj5];simp only[foldl_cons,List.foldl_nil,hb,aj];exact decide_eq_false (aps (by rw[show addN [] (ZG [] 0 2).name true=[⟨#[97]⟩]from rfl];simp))
theorem aqK:gP 5000003 sR 0=some []:=by rw[FN 0 aj3 zI n42,vW (lot:=cO) rfl];unfold pQ;rw[apz,KG aj6,anZ];rfl
theorem aqL:gP 5000003 Mu 0=some [FG cO]:=by rw[FN 0 apw zI n42,vW (lot:=cO) rfl];unfold pQ;rw[apB,an0];rfl
theorem aqM:gP 5000003 Jv 0=some [aC.mk 1 1 [⟨#[97]⟩] 1 0 1 1 0 0]:=by
 rw[FN 0 apx zI n42,vW (lot:=cO) rfl];have hl:FM 5000003 Jv cO 0=(Nm,false):=afB λp hp=>aoc hp;have hdf:HC 5000003 Jv cO 0=aC.mk 1 1 [⟨#[97]⟩] 1 0 1 1 0 0:=by obtain⟨l,hl⟩:=aoa;have hl':dP 5000003 [cO]=FO::l:=hl;unfold HC;rw[hl'];simp only[apE];rfl
 unfold pQ;rw[aj5,hl,hdf,an1];rfl
theorem aod day (h1:(applied ij cO day).isEmpty=false) (h2:uX 5000003 ij (kH 5000003 cO FO) day=true):gP 5000003 ij day=some []:=by rw[FN day aj4 zI n42,vW (lot:=cO) rfl];unfold pQ;rw[h1,KG h2,afI];rfl
theorem aj8:gP 5000003 ij 9=some [FG cO]:=by rw[FN 9 aj4 zI n42,vW (lot:=cO) rfl];unfold pQ;rw[an5,afI];rfl
theorem aqN:gP 5000003 Hd 0=some [aC.mk 3 0 [⟨#[120]⟩,⟨#[121]⟩] 0 0 0 0 0 0]:=by rw[FN 0 apy zI n42,vW (lot:=cO) rfl];unfold pQ;rw[apC,KG apD,an2];rfl
theorem aru:zw 5000003 sR 1 0=some (FO,true):=by rw[anV 1 0 aj3 zI n42];have:(sR.land.find? λx=>x.id==1)=some cO:=rfl;rw[this];simp[KG aj6]
theorem arv:Kv 5000003 ij 0 20=some (9,true):=by
 unfold Kv;have s1:oq 5000003 ij 20 (0,true)=some (.inl (9,true)):=by have hd:decide (0<=20)=true:=rfl;have hN:A8 5000003 (bn.mk ij.cj ij.bp ij.aw ij.az ij.cm ij.b8 ij.cD ij.b9) 0=some (9,true):=an8;simp only[oq,aj,hd,ai,aod 0 an3 an6,hN];rfl
 have s2:oq 5000003 ij 20 (9,true)=some (.inr (.inr (9,true))):=by have hd:decide (9<=20)=true:=rfl;simp only[oq,aj,hd,ai,aj8];rfl
 have h1:iter (oq 5000003 ij 20) (5000002+1) (0,true)=some (.inr (9,true)):=by rw[fU s1];exact dU (n:=5000001) s2
 have h2:iter (oq 5000003 ij 20) 5000003 (0,true)=some (.inr (9,true)):=h1;rw[h2];rfl
theorem apF:Du 5000003=some true:=by have a1:=aqK;have a2:=aqL;have a3:=aqM;have a4:=aod 8 an4 an7;have a5:=aj8;have a6:=aqN;have a7:=aru;have a8:=arv;have b1:=Q6 (n:=5000003) [FG cO] (by simp) (λ f hf=>by simp only[bD]at hf;subst hf;simp[FG]) (by omega);have b2:=Q6 (n:=5000003) [aC.mk 1 1 [⟨#[97]⟩] 1 0 1 1 0 0] (by simp) (λ f hf=>by simp only[bD]at hf;subst hf;simp) (by omega);have b3:=Q6 (n:=5000003) [aC.mk 3 0 [⟨#[120]⟩,⟨#[121]⟩] 0 0 0 0 0 0] (by simp) (λ f hf=>by simp only[bD]at hf;subst hf;simp) (by omega);have c1:∀k:Int,vK k=some (bP.mk 12 0 (⟨#[]⟩) (⟨#[]⟩) [(bP.mk 1 0 (⟨#[104,101,105,103,104,116]⟩) (⟨#[]⟩) ([])),(bP.mk 0 k (⟨#[]⟩) (⟨#[]⟩) ([]))]):=λ_=>rfl;have s1:∀r:ByteArray,sub [r] 0 1=[r]:=λ_=>rfl;have s2:∀r:aC,sub [r] 0 1=[r]:=λ_=>rfl;have s3:∀x y:fB,sub [x,y] 0 2=[x,y]:=λ_ _=>rfl;have s4:∀x y:ByteArray,sub [x,y] 0 2=[x,y]:=λ_ _=>rfl;simp only[sR,Mu,Jv,ij,Hd,yy,ZG,arq,ars,PC,FO,FG,cO]at a1 a2 a3 a4 a5 a6 a7 a8 b1;simp only[Du,c1,anX,yy,PC,ai,s1,s2,s3,s4,length_singleton,dX,length_nil,Nat.zero_add,Nat.reduceAdd,aH,aj,a1,a2,a3,a4,a5,a6,a7,a8,b1,b2,b3];rfl
theorem tJ{V O:Type}{step:V->Option (V⊕O)}(Inv:V->Prop)(Post:O->Prop)(h1:∀v v',Inv v->step v=some (.inl v')->Inv v')(h2:∀v o,Inv v->step v=some (.inr o)->Post o):∀(n:Nat)(v:V)(o:O),Inv v->iter step n v=some o->Post o
 | 0,_,_,_,h=>by cases h
 |n+1,v,o,hi,h=>by
  cases hs:step v with
  |none=>unfold iter at h;rw[hs]at h;cases h
  |some r=>
   cases r with
   |inl v'=>rw[fU hs]at h;exact tJ Inv Post h1 h2 n v' o (h1 v v' hi hs) h
   |inr o'=>
    rw[dU hs]at h;cases h;exact h2 v _ hi hs
def O7(a1:List fB)(us:List (List Int))(c:List ByteArray):Prop:=
 ∃xs:List Nat,xs.length=c.length/\∀i,i<xs.length->xs.getD i 0<a1.length/\c[i]? =(a1[xs.getD i 0]?).map (·.name)/\((xs.getD ((i+1)%xs.length) 0:Nat):Int)∈us.getD (xs.getD i 0) []
structure rh(a1:List fB)(us:List (List Int))(fr x:Nat)(xs:List Nat)(c:List ByteArray):Prop where
 len:xs.length=c.length
 home:(xs++[x]).getD 0 0=fr
 step:∀i,i<xs.length->xs.getD i 0<a1.length/\c[i]? =(a1[xs.getD i 0]?).map (·.name)/\(((xs++[x]).getD (i+1) 0:Nat):Int)∈us.getD (xs.getD i 0) []
theorem rh.go{a1:List fB}{us:List (List Int)}{fr x z:Nat}{xs:List Nat}{c:List ByteArray}(h:rh a1 us fr x xs c)(hx:x<a1.length)(hz:(z:Int)∈us.getD x []):rh a1 us fr z (xs++[x]) (c++[a1[x].name]) where
 len:=by simp[h.len]
 home:=by rw[<- h.home];simp only[List.getD,aM];cases xs<;>rfl
 step:=λi hi=>by
  rw[fP,length_singleton]at hi;rcases Nat.lt_or_ge i xs.length with hlt|hge
  ·have⟨h1,h2,h3⟩:=h.step i hlt;have e1:(xs++[x]).getD i 0=xs.getD i 0:=(by simp only[List.getD];rw[List.getElem?_append_left hlt]);have e2:(xs++[x]++[z]).getD (i+1) 0=(xs++[x]).getD (i+1) 0:=(by simp only[List.getD];rw[List.getElem?_append_left (by simp;omega)]);rw[e1,e2];exact⟨h1,by rw[List.getElem?_append_left (by have:=h.len;omega)];exact h2,h3⟩
  ·obtain rfl:i=xs.length:=(by omega);have e1:(xs++[x]).getD xs.length 0=x:=(by simp[List.getD]);have e2:(xs++[x]++[z]).getD (xs.length+1) 0=z:=(by simp);rw[e1,e2];refine⟨hx,?_,hz⟩;rw[h.len,pJ (aB _),Nat.sub_self,dI hx];rfl
theorem rh.close{a1:List fB}{us:List (List Int)}{fr:Nat}{xs:List Nat}{c:List ByteArray}(h:rh a1 us fr fr xs c)(h0:xs≠[]):O7 a1 us c:=by
 refine⟨xs,h.len,λi hi=>?_⟩;have⟨h1,h2,h3⟩:=h.step i hi;refine⟨h1,h2,?_⟩;rcases Nat.lt_or_ge (i+1) xs.length with hlt|hge;rw[Nat.mod_eq_of_lt hlt];have e:(xs++[fr]).getD (i+1) 0=xs.getD (i+1) 0:=by simp;rw[List.getElem?_append_left hlt]
 rwa [e]at h3
 have hl:i+1=xs.length:=by omega
 rw[hl,Nat.mod_self];have e:(xs++[fr]).getD (i+1) 0=fr:=by rw[hl];simp
 rw[e]at h3;have e2:xs.getD 0 0=fr:=by
  rw[<- h.home];cases xs with
  |nil=>exact absurd rfl h0
  |cons y l=>rfl
 rw[e2];exact h3
theorem afJ{n N fr:Nat}{a1:List fB}{us:List (List Int)}(hg:QH us N)(hd:a1.length=N)(hn:4000003<=n)(hf:fr<N){c:List ByteArray}(hc:gD n fr a1 us=some (a1,us,c)):c=[]\/O7 a1 us c:=by
 obtain⟨d,F,hdi,hb⟩:=OH (n:=n) (a0:=nW.mk a1 us) hg hd (by omega) hf;have B9:=hg.1;unfold gD at hc;rw[hdi]at hc;simp only[ai]at hc;rw[show aE 0 [].length=true from rfl]at hc;simp only[aj]at hc;cases hi:iter (fD n fr a1 us d) n (fr,[])with
 |none=>rw[hi]at hc;cases hc
 |some o=>
  have hP:=tJ (step:=fD n fr a1 us d) (λ v=>∃(x:Nat)(xs:List Nat),v.1=x/\x<N/\rh a1 us fr x xs v.2) (λ o=>∃c,o=.inr (a1,us,c)/\(c=[]\/O7 a1 us c)) ?_ ?_ n _ _ ⟨fr,[],rfl,hf,rfl,rfl,λi hi=>absurd hi (by simp)⟩ hi;obtain⟨c',rfl,h⟩:=hP;rw[hi]at hc;simp at hc;rw[<- hc];exact h
  all_goals
   rintro⟨v1,v2⟩ r ⟨x,xs,rfl,hx,hW⟩ hr;have hxa:x<a1.length:=(by omega);have hxu:x<us.length:=(by omega);have hl:=hg.2.2 us[x] (getElem_mem hxu);obtain⟨w,hw,hnr⟩:=ajH (n:=n) (d:=d) (l:=us[x]) hb.dl hl.1 hl.2 (by omega);have hgu:us.getD x []=us[x]:=(by simp[hxu]);have hs1:sub [a1[x].name] 0 1=[a1[x].name]:=rfl;simp only[fD,aN hxa,aN hxu,ai,dO,hw,hs1]at hr;cases hap:bH v2.length v2.length [a1[x].name].length 1 16 with
   |false=>rw[hap]at hr;cases hr
   |true=>
    rw[hap]at hr;simp only[aj]at hr;rcases hnr with ⟨rfl,hno⟩|⟨Pc,hw0,hmin⟩
    first|(simp at hr;subst hr;exact⟨[],rfl,.inl rfl⟩)|simp at hr
    have hwr:=hl.2 w Pc;obtain⟨z,rfl⟩:=Int.eq_ofNat_of_zero_le hwr.1;have hz:(z:Int)∈us.getD x []:=(by rw[hgu];exact Pc);have hW':=hW.go hxa hz;rw[show decide ((z:Int)<0)=false from by simp,au]at hr;by_cases Pa:z=fr
    ·subst Pa;have hne:((v2++[a1[x].name]).length==0)=false:=(by simp);rw[show ((z:Int)==z)=true from by simp,aj,hne]at hr;simp only[Bool.not_false,Bool.true_and,aH,aj,Option.map_some,aZ]at hr
     first|(cases hr;done)|(cases hr;exact⟨_,rfl,.inr (hW'.close (by simp))⟩)
    rw[show ((z:Int)==fr)=false from by rw[beq_eq_false_iff_ne];omega,au]at hr;simp only[aH,aj,aZ]at hr
    first|(cases hr;done)|(cases hr;exact⟨z,xs++[x],rfl,by have:=hwr.2;omega,hW'⟩)
theorem ZH{n N:Nat}{a0:List fB}{us:List (List Int)}(hg:QH us N)(hd:a0.length=N)(hn:5000003<=n){c:List ByteArray}(hc:fJ n a0 us=some (a0,us,c)):c=[]\/O7 a0 us c:=by
 unfold fJ at hc;rw[show aE 0 [].length=true from rfl]at hc;simp only[aj]at hc;cases hi:iter (dD n a0) n (0,a0,us,[])with
 |none=>rw[hi]at hc;cases hc
 |some o=>
  have hN:=hg.2.1;have hP:=tJ (step:=dD n a0) (λ v=>∃(i:Nat)(c:List ByteArray),v=((i:Int),a0,us,c)/\(c=[]\/O7 a0 us c)) (λ o=>∃c,o=(a0,us,c)/\(c=[]\/O7 a0 us c)) ?_ ?_ n _ _ ⟨0,[],rfl,.inl rfl⟩ hi;obtain⟨c',rfl,h⟩:=hP;rw[hi]at hc;simp at hc;rw[<- hc];exact h
  all_goals
   rintro v r ⟨i,c,rfl,hr0⟩ hr;by_cases hlt:i<N
   ·obtain⟨d,F,c2,hb,hci,Kf,hc2⟩:=abd (n:=n) (a1:=a0) hg hd (by omega) hlt;have hring:=afJ (n:=n) hg hd (by omega) hlt hci;simp only[dD,show decide ((i:Int)<a0.length)=true from by simp;omega,aj,hci,ai,aG i,dY,aH]at hr;have⟨q,h1,h2⟩:=ah.1 hr;have hq:∃c',q=(a0,us,c')/\(c'=[]\/O7 a0 us c'):=by
     cases h0:(c2.length==0)with
     |true=>
      rw[h0]at h1;simp at h1;exact⟨c,h1.symm,hr0⟩
     |false=>
      rw[h0]at h1;simp at h1;have⟨b,h3,h4⟩:=ah.1 h1;cases b with
      |true=>simp at h4;exact⟨c2,h4.symm,hring⟩
      |false=>simp at h4;exact⟨c,h4.symm,hr0⟩
    obtain⟨c',rfl,hc'⟩:=hq;simp only[aH,aj,aZ]at h2
    first|(cases h2;done)|(cases h2;exact⟨i+1,c',rfl,hc'⟩)
   simp only[dD,show decide ((i:Int)<a0.length)=false from by simp;omega,au,aH,aj,aZ]at hr
   first|(cases hr;done)|(cases hr;exact⟨c,rfl,hr0⟩)
theorem aib{p:bn}(hp:fX p.defs)(hn:5000003<=n){r:List Int×List ByteArray×Int}(h:fQ n p=some r)(h16:(r.2.2==16)=true):r.2.1≠[]/\O7 p.defs (jq (p.defs.map toD)) r.2.1:=by
 obtain⟨M,hM,hM9⟩:=Ta;obtain⟨w,hw⟩:=SY (n:=n) (M:=M) (by omega) (by omega) [];have hg:QH (jq (p.defs.map toD)) p.defs.length:=by have:=ajN hp;rwa [length_map]at this
 have CD:iZ p.defs=some (p.defs,jq (p.defs.map toD)):=by unfold iZ;rw[Nat.ble_eq_true_of_le hp];rfl
 simp[fQ,hM,hw]at h;rcases S9 (n:=n) (p:=p) hp.len (by omega) w with h2|h2;have⟨c,hc,hc2,hc3⟩:=SH (n:=n) (a0:=p.defs) hg rfl hn;have hring:=ZH (n:=n) hg rfl hn hc;simp[h2,CD,hc]at h;cases h0:(c.length==0)with
 |true=>
  have e:c=[]:=List.eq_nil_of_length_eq_zero (by simpa using h0);obtain⟨l,hl,hll,hlr⟩:=ae4 (n:=n) (a0:=nW.mk p.defs (jq (p.defs.map toD))) hg rfl (hc2 e) (by omega);rw[h0]at h;simp[hl]at h;rw[<- h]at h16;cases h16
 |false=>
  rw[h0]at h;simp at h;rw[<- h];have hne:c≠[]:=λe=>by rw[e]at h0;cases h0
  exact⟨hne,hring.resolve_left hne⟩
 simp[h2]at h;rw[<- h]at h16;cases h16
theorem aj9(ds:List (ByteArray×ET)) s:∀(k:Nat)(y:Nat),IU ds s k=some (y:Int)->(ds.getD y (⟨#[]⟩,.mk 0 ⟨#[]⟩ [])).1.data.toList=s
 | 0,y,h=>by simp[IU]at h
 |k+1,y,h=>by
  simp[IU]at h;split at h;rename_i h1;injection h with h;have:k=y:=by omega
  rw[<- this];exact h1;exact aj9 ds s k y h
theorem aoe{l:List fB}{x y:Nat}(hx:x<l.length)(hy:y<l.length)(h:(y:Int)∈(jq (l.map toD)).getD x []):l[y].name∈xr (toE (bP.mk l[x].eW l[x].gp l[x].fW l[x].ep l[x].c8)).names:=by
 have hx2:x<(l.map toD).length:=by simpa using hx
 have e:(jq (l.map toD)).getD x []=iA (l.map toD) (qI (toD l[x]).2.names):=by simp only[jq,List.getD,List.getElem?_map,dI hx];rfl
 rw[e]at h;simp[iA]at h;obtain⟨s,hs,hk⟩:=h;have hn:=aj9 _ _ _ _ hk;have e2:((l.map toD).getD y (⟨#[]⟩,.mk 0 ⟨#[]⟩ [])).1=l[y].name:=by simp[dI hy];rfl
 rw[e2]at hn;refine mem_map.2 ⟨s,hs,?_⟩;rw[<- hn]
theorem apG{L:List ByteArray}{other:ByteArray}(hl:L.length<=4000000)(hn:4000002<=n):iter (tq other L) n 0=some (.inl ())/\other∉L\/iter (tq other L) n 0=some (.inr (.inr (.inr (.inr true)))):=by
 obtain⟨o,h1,h2⟩:=dw (step:=tq other L) (λ i v=>v=i/\i<=L.length/\∀j (hj:j<L.length),j<i->L[j]≠other) (λ o=>(o=.inl ()/\other∉L)\/o=.inr (.inr (.inr (.inr true)))) L.length (λ k v h=>h.2.1) (by
  rintro i v ⟨rfl,hi,hall⟩;by_cases hlt:i<L.length;simp only[tq,aW hlt,aj,aO hlt,aQ hlt,ai,aG i];cases he:(ByteArray.toList L[i]==ByteArray.toList other)with
  |true=>exact .inr ⟨_,rfl,.inr rfl⟩
  |false=>
   refine .inl ⟨_,rfl,rfl,hlt,λj hj hji h=>?_⟩;rcases Nat.lt_or_ge j i with h3|h3;exact hall j hj h3 h;obtain rfl:j=i:=(by omega);rw[h]at he;simp at he
  obtain rfl:i=L.length:=by omega
  simp only[tq,gY,au];refine .inr ⟨_,rfl,.inl ⟨rfl,λhm=>?_⟩⟩;obtain⟨j,hj,hjo⟩:=List.getElem_of_mem hm;exact hall j hj hj hjo) n 0 0 ⟨rfl,Nat.zero_le _,λj hj h=>absurd h (by omega)⟩ (by omega)
 rcases h2 with ⟨rfl,h⟩|rfl;exact .inl ⟨h1,h⟩;exact .inr h1
theorem apH{p:bn}(hp:fX p.defs)(hn:4000003<=n){x y:Nat}(hx:x<p.defs.length)(hy:y<p.defs.length)(h:(y:Int)∈(jq (p.defs.map toD)).getD x []):OD n p p.defs[x].name p.defs[y].name=some true:=by
 have hlen:=hp.len;have CH:∀d∈p.defs,qp (bP.mk d.eW d.gp d.fW d.ep d.c8)=some (xr (toE (bP.mk d.eW d.gp d.fW d.ep d.c8)).names):=λd hd=>by unfold qp;rw[Nat.ble_eq_true_of_le (hp.body hd)];rfl
 have hnl:∀d∈p.defs,(xr (toE (bP.mk d.eW d.gp d.fW d.ep d.c8)).names).length<=4000000:=λd hd=>by have h1:=Xo (toE (bP.mk d.eW d.gp d.fW d.ep d.c8)).names;have h2:=ET.ll (toE (bP.mk d.eW d.gp d.fW d.ep d.c8));have h3:=hp.body hd;simp[xr];omega
 have hin:=aoe hx hy h;obtain⟨o,h1,h2⟩:=dw (step:=Bf n p p.defs[x].name p.defs[y].name) (λ i v=>v=i/\i<=x) (λ o=>o=.inr true) x (λ k v h=>h.2) (by
  rintro i v ⟨rfl,hi⟩;have hlt:i<p.defs.length:=by omega
  have hm:=getElem_mem hlt;cases he:(ByteArray.toList p.defs[i].name==ByteArray.toList p.defs[x].name)with
  |false=>
   have hne:i≠x:=λe=>(by subst e;simp at he);simp only[Bf,aW hlt,aj,aN hlt,ai,he,Bool.not_false,dF,aG i];exact .inl ⟨_,rfl,rfl,by omega⟩
  |true=>
   simp only[Bf,aW hlt,aj,aN hlt,ai,he,Bool.not_true,au,CH _ hm,aG i];rcases apG (n:=n) (other:=p.defs[y].name) (hnl _ hm) (by omega)with ⟨h3,h4⟩|h3;have hne:i≠x:=λe=>(by subst e;exact h4 hin);rw[h3];exact .inl ⟨_,rfl,rfl,by omega⟩;rw[h3];exact .inr ⟨_,rfl,rfl⟩) n 0 0 ⟨rfl,Nat.zero_le _⟩ (by omega)
 unfold OD;rw[h1,h2];rfl
theorem alE{p:bn}{f:aC}(hp:fX p.defs)(hn:5000003<=n)(hr:O7 p.defs (jq (p.defs.map toD)) f.names)(hl:f.names.length<=4000001):iter (p9 n p f) n 0=some (.inl ()):=by
 obtain⟨xs,hxl,hxs⟩:=hr;refine iF (step:=p9 n p f) (λ i=>(i:Nat)) (s:=0) f.names.length (.inl ()) rfl (λ i hi=>?_) (by simp[p9]) n (by omega);obtain⟨a1,a2,a3⟩:=hxs i (by omega);have hm:(i+1)%xs.length<xs.length:=Nat.mod_lt _ (by omega);obtain⟨b1,b2,_⟩:=hxs _ hm;rw[hxl]at hm b1 b2 a3;have e1:f.names[i]=p.defs[xs.getD i 0].name:=by rw[dI hi,dI a1]at a2;injection a2
 have e2:f.names[(i+1)%f.names.length]=p.defs[xs.getD ((i+1)%f.names.length) 0].name:=by rw[dI hm,dI b1]at b2;injection b2
 have hu:=apH (n:=n) hp (by omega) a1 b1 a3;rw[<- e1,<- e2]at hu;have hne:((f.names.length:Int) !=0)=true:=by rw[bne_iff_ne];omega
 have et:Int.tmod ((i+1:Nat)) (f.names.length:Nat)=((i+1)%f.names.length:Nat):=(Int.ofNat_tmod _ _).symm;simp only[p9,aW hi,aj,aN hi,ai,aG i,hne,et,aN hm,hu,Bool.not_true,au]
def HU(r s:ax):Prop:=∀x y,OV r x y=true->OV s x y=true->False
theorem DI(r:ax)(x y:Int):OV r x y=true↔(r.x0<=x/\x<r.x1)/\(r.y0<=y/\y<r.y1):=by simp[OV]
theorem O8(x0 x1:Int):∀ys (r:ax),r∈qJ x0 x1 ys->r.x0=x0/\r.x1=x1/\r.y0∈ys
 |a::b::l,r,h=>by rcases aR.1 h with rfl|h;exact⟨rfl,rfl,by simp⟩;have⟨h1,h2,h3⟩:=O8 x0 x1 l r h;exact⟨h1,h2,by simp[h3]⟩
 |[],r,h|[_],r,h=>by simp[qJ]at h
theorem Ti(x0 x1:Int):∀ys:List Int,ys.Pairwise (· <= ·)->(qJ x0 x1 ys).Pairwise HU
 |a::b::l,h=>by rw[pairwise_cons,pairwise_cons]at h;obtain⟨_,h2,h3⟩:=h;show(_::qJ x0 x1 l).Pairwise HU;refine pairwise_cons.2 ⟨λ s hs x y hr hs2=>?_,Ti x0 x1 l h3⟩;have⟨_,_,h5⟩:=O8 x0 x1 l s hs;have:=h2 _ h5;rw[DI]at hr hs2;have:=hr.2.2;have:=hs2.2.1;simp at*;omega
 |[],_|[_],_=>List.Pairwise.nil
theorem akb(g:Int->List Int):∀l b,(b::l).Pairwise (· < ·)->∀s∈(ig (λ a b=>qJ a b (g a)) (b::l)).flatten,b<=s.x0
 |[],b,_,s,hs=>by simp[ig]at hs
 |c::l,b,h,s,hs=>by have hs:s∈(qJ b c (g b)::ig (λ a b=>qJ a b (g a)) (c::l)).flatten:=hs;rw[List.flatten_cons,bV]at hs;rcases hs with hs|hs;have:=(O8 b c _ s hs).1;omega;have h2:=pairwise_cons.1 h;have:=akb g l c h2.2 s hs;have:=h2.1 c (by simp);omega
theorem Yn(g:Int->List Int)(hg:∀a,(g a).Pairwise (· <= ·)):∀l:List Int,l.Pairwise (· < ·)->((ig (λ a b=>qJ a b (g a)) l).flatten).Pairwise HU
 |[],_|[_],_=>List.Pairwise.nil
 |b::c::l,h=>by show((qJ b c (g b)::ig (λ a b=>qJ a b (g a)) (c::l)).flatten).Pairwise HU;have h2:=pairwise_cons.1 h;rw[List.flatten_cons,List.pairwise_append];refine⟨Ti b c _ (hg b),Yn g hg (c::l) h2.2,λr hr s hs x y h3 h4=>?_⟩;have h5:=(O8 b c _ r hr).2.1;have h6:=akb g l c h2.2 s hs;rw[DI]at h3 h4;omega
theorem afK(z:eX):(gH z).Pairwise HU:=by unfold gH;split;unfold wI;split;split;exact List.Pairwise.nil;exact Yn (λ a=>kJ oc (zG z.corners a)) (λ a=>NS _) _ (IG _);exact List.Pairwise.nil;exact List.Pairwise.nil
def ja(x y:Int):ax:=⟨x,y,x+1,y+1⟩
theorem abz{x y:Int}(hx:0<=x/\x<1048576)(hy:0<=y/\y<1048576) m (r:ax):KP (ja x y) m r=bif d7 r&&OV r x y then i64.wrap (m+1)else m:=by
 have hu:d7 (ja x y)=true:=by rw[FB];simp[ja];omega
 unfold KP;rw[hu,Bool.true_and];cases hr:d7 r with
 |false=>rfl
 |true=>
  rw[Bool.true_and,Bool.true_and];rw[FB]at hr;cases hh:OV r x y with
  |false=>
   have:d7 (kN (ja x y) r)=false:=(by rw[Bool.eq_false_iff,Ne,FB];intro h;have h2:¬OV r x y=true:=(by rw[hh];decide);apply h2;rw[DI];simp[kN,ja]at h;omega);rw[this];rfl
  |true=>
   rw[DI]at hh;have e:kN (ja x y) r=ja x y:=(by simp[kN,ja];omega);have ea:XW (ja x y)=1:=(by unfold XW;simp[ja];rw[show x+1-x=1 by omega,show y+1-y=1 by omega];rfl);rw[e,hu,ea]
theorem abA{x y:Int}(hx:0<=x/\x<1048576)(hy:0<=y/\y<1048576):∀(l:List ax) m,(∀ r∈l,OV r x y=false)->l.foldl (KP (ja x y)) m=m
 |[],_,_=>rfl
 |r::l,m,h=>by rw[foldl_cons,abz hx hy,h r (by simp),Bool.and_false];exact abA hx hy l m λs hs=>h s (by simp[hs])
theorem afL{x y:Int}(hx:0<=x/\x<1048576)(hy:0<=y/\y<1048576):∀(l:List ax),l.Pairwise HU->(∃ r∈l,d7 r=true/\OV r x y=true)->l.foldl (KP (ja x y)) 0=1
 |[],_,h=>by obtain⟨r,hr,_⟩:=h;simp at hr
 |s::l,hp,h=>by
  rw[pairwise_cons]at hp;rw[foldl_cons,abz hx hy];cases hs:d7 s&&OV s x y with
  |true=>
   rw[bK]at hs;show l.foldl (KP (ja x y)) (i64.wrap (0+1))=1;rw[abA hx hy l _ λr hr=>by
    cases hh:OV r x y with
    |false=>rfl
    |true=>exact(hp.1 r hr x y hs.2 hh).elim]
   rfl
  |false=>
   refine afL hx hy l hp.2 ?_;obtain⟨r,hr,h1,h2⟩:=h;rcases aR.1 hr with rfl|hr;rw[h1,h2]at hs;cases hs;exact⟨r,hr,h1,h2⟩
theorem Tj{x y:Int}{z:eX}(hx:0<=x/\x<1048576)(hy:0<=y/\y<1048576)(h:∃r∈gH z,d7 r=true/\OV r x y=true):jd [ja x y] (gH z)=1:=afL hx hy _ (afK z) h
def Bi(a b:List ax)(u v:Int):Prop:=∃x∈a,∃y∈b,d7 x=true/\d7 y=true/\d7 (kN x y)=true/\u=(kN x y).x0/\v=(kN x y).y0
def Fc(a b:List ax)(m u v:Int):Prop:=(m=0/\u=1048576)\/Bi a b u v
theorem ac3{a b:List ax}{x:ax}(hx:x∈a)(hn:2000<=n)(hb:b.length<=1000){m u v:Int}{o:Int×Int×Int}(hi:iter (iC n b x) n (m,0,u,v)=some o)(h:Fc a b m u v):Fc a b o.1 o.2.1 o.2.2:=by
 refine tJ (step:=iC n b x) (λ w=>∃i:Nat,w.2.1=i/\Fc a b w.1 w.2.2.1 w.2.2.2) (λ o=>Fc a b o.1 o.2.1 o.2.2) ?_ ?_ n _ _ ⟨0,rfl,h⟩ hi
 all_goals
  rintro⟨w1,w2,w3,w4⟩ r ⟨i,rfl,hc⟩ hr;simp at hc;by_cases hlt:i<b.length;simp only[iC,aW hlt,aj,aN hlt,ai,uV,aG i]at hr;cases hk:d7 x&&(d7 b[i]&&d7 (kN x b[i]))with
  |false=>
   rw[hk]at hr;simp only[au,Bool.not_false,aj,ai,aZ]at hr
   first|(cases hr;done)|(cases hr;exact⟨i+1,rfl,hc⟩)
  |true=>
   rw[hk]at hr;have hk':d7 x=true/\d7 b[i]=true/\d7 (kN x b[i])=true:=(by revert hk;generalize d7 x=p;generalize d7 b[i]=q;generalize d7 (kN x b[i])=c;cases p<;>cases q<;>cases c<;>simp);obtain⟨k1,k2,k3⟩:=hk';have mS:Bi a b (kN x b[i]).x0 (kN x b[i]).y0:=⟨x,hx,b[i],getElem_mem hlt,k1,k2,k3,rfl,rfl⟩;have hlo:(kN x b[i]).x0<1048576:=(by rw[FB]at k3;omega);simp[yU k3,jB]at hr;rw[show ∀u v:Int,sub [u,v] 0 2=[u,v]from λ_ _=>rfl,Mr _ _ (by omega)]at hr;simp at hr;have⟨q,h1,h2⟩:=ah.1 hr;have hq:Fc a b q.1 q.2.1 q.2.2:=by
    generalize hd:decide ((if (if (kN x b[i]).x0<w3 then -1 else if w3<(kN x b[i]).x0 then 1 else 0)=0 then(if (kN x b[i]).y0<w4 then -1 else if w4<(kN x b[i]).y0 then 1 else 0)else(if (kN x b[i]).x0<w3 then -1 else if w3<(kN x b[i]).x0 then 1 else 0))<0)=c at h1;cases c with
    |true=>
     simp at h1;rw[<- h1];exact .inr mS
    |false=>
     simp at h1;rw[<- h1];rcases hc with ⟨_,hu⟩|hc;exfalso;rw[dW]at hd;apply hd;rw[hu,aX hlo,aU (by decide)];decide;exact .inr hc
   obtain⟨q1,q2,q3⟩:=q;simp only[aZ]at h2
   first|(cases h2;done)|(cases h2;exact⟨i+1,rfl,hq⟩)
  have hf:decide ((i:Int)<(b.length:Nat))=false:=by simp;omega
  simp only[iC,hf,au,aZ]at hr
  first|(cases hr;done)|(cases hr;exact hc)
theorem alF{a b:List ax}(ha:a.length<=1000)(hb:b.length<=1000)(hn:2000<=n){c:Int}{q:bQ}(h:mO n a b=some (c,q))(h0:c>0):Bi a b q.x q.y:=by
 unfold mO at h;have⟨o,h1,h2⟩:=ah.1 h;have hP:=tJ (step:=jv n a b) (λ w=>∃i:Nat,w.2.1=i/\Fc a b w.1 w.2.2.1 w.2.2.2) (λ o=>Fc a b o.1 o.2.1 o.2.2) ?_ ?_ n _ _ ⟨0,rfl,.inl ⟨rfl,rfl⟩⟩ h1;obtain⟨o1,o2,o3⟩:=o;simp at h2;obtain⟨rfl,rfl⟩:=h2;rcases hP with ⟨hz,_⟩|hP;simp at hz;omega;exact hP
 all_goals
  rintro⟨w1,w2,w3,w4⟩ r ⟨i,rfl,hc⟩ hr;simp at hc;by_cases hlt:i<a.length
  ·simp only[jv,aW hlt,aj,aN hlt,ai,aG i]at hr;have⟨q,g1,g2⟩:=ah.1 hr;have hq:=ac3 (getElem_mem hlt) hn hb g1 hc;obtain⟨q1,q2,q3⟩:=q;simp only[aZ]at g2
   first|(cases g2;done)|(cases g2;exact⟨i+1,rfl,hq⟩)
  have hf:decide ((i:Int)<(a.length:Nat))=false:=by simp;omega
  simp only[jv,hf,au,aZ]at hr
  first|(cases hr;done)|(cases hr;exact hc)
def N5(p:bn)(r:(List Int)×bQ×Bool):Prop:=∃i k:Nat,∃hi:i<p.zones.length,∃hk:k<p.zones.length,i<k/\r.1=[(i:Int),k]/\p.zones[i].overlay=false/\p.zones[k].overlay=false/\Bi (gH p.zones[i]) (gH p.zones[k]) r.2.1.x r.2.1.y
def HQ(p:bn)(w:List (List ax)):Prop:=w.length=p.zones.length/\∀(j:Nat)(h1:j<w.length)(h2:j<p.zones.length),w[j]=[]\/(p.zones[j].overlay=false/\w[j]=gH p.zones[j])
theorem HQ.len{p:bn}{w:List (List ax)}(h:HQ p w){j:Nat}(h1:j<w.length):w[j].length<=1000:=by rcases h.2 j h1 (by have:=h.1;omega)with h2|⟨_,h2⟩;rw[h2];simp;rw[h2];have:=Mv (p.zones[j]'(by have:=h.1;omega));omega
theorem aid{p:bn}(hz:p.zones.length<=100)(hn:4000002<=n){r:(List Int)×bQ×Bool}(h:gT n p=some r)(h2:r.2.2=true):N5 p r:=by
 have et:((p.zones.length:Int):Int).toNat=p.zones.length:=by omega
 have mk:xE (p.zones.length:Int) 24=true:=U9 (by omega) (by simp only[maxLen];omega);have d1:decide ((p.zones.length:Int)<=(p.zones.length:Int))=true:=by simp
 have d2:decide (0<=(p.zones.length:Int))=true:=by simp
 unfold gT at h;simp only[d1,d2,mk,Bool.and_self,aj,et]at h;have⟨w,hw,h⟩:=ah.1 h;have hW:HQ p w:=by
  refine tJ (step:=iR n p) (λ v=>(∃ i:Nat,v.1=(i:Int))/\HQ p v.2) (HQ p) ?_ ?_ n _ _ ⟨⟨0,rfl⟩,by simp,λj h1 h2=>.inl (by simp)⟩ hw
  all_goals
   rintro⟨v,l⟩ o ⟨⟨i,hi⟩,hO⟩ hr;simp only at hi hO;subst hi;by_cases hlt:i<p.zones.length;have hil:i<l.length:=(by have:=hO.1;omega);simp only[iR,aW hlt,aj,aN hlt,ai,xL (n:=n) p.zones[i] (by omega),et,aO hlt,dY,aH,aQ hil,aG i]at hr;cases hov:p.zones[i].overlay with
   |true=>
    rw[hov]at hr;simp only[Bool.not_true,au,ai,aZ]at hr
    first|(cases hr;done)|(cases hr;exact⟨⟨i+1,rfl⟩,hO⟩)
   |false=>
    rw[hov]at hr;simp only[Bool.not_false,aj,ai,aZ]at hr;have hO':HQ p (l.set (((0:Nat):Int)+(i:Int)).toNat (gH p.zones[i])):=by have e:(((0:Nat):Int)+(i:Int)).toNat=i:=(by omega);rw[e];refine⟨by simp[hO.1],λj h1 h2=>?_⟩;rw[List.getElem_set];split;rename_i he;subst he;exact .inr ⟨hov,rfl⟩;exact hO.2 j (by simpa using h1) h2
    first|(cases hr;done)|(cases hr;exact⟨⟨i+1,rfl⟩,hO'⟩)
   have hf:decide ((i:Int)<(p.zones.length:Int))=false:=(by simp;omega);simp only[iR,hf,au,aZ]at hr
   first|(cases hr;done)|(cases hr;exact hO)
 have s3:∀(i:Nat) (hi:i<p.zones.length) (o:Unit⊕(Int⊕(Unit⊕((List Int)×bQ×Bool)))),iter (eT n p w (i:Int)) n (((i+1:Nat):Int))=some o->o=.inl ()\/∃r,o=.inr (.inr (.inr r))/\N5 p r:=by
  intro i hi o ho;refine tJ (step:=eT n p w (i:Int)) (λ v=>∃k:Nat,v=(k:Int)/\i<k) (λ o=>o=.inl ()\/∃r,o=.inr (.inr (.inr r))/\N5 p r) ?_ ?_ n _ _ ⟨i+1,rfl,Nat.lt_succ_self i⟩ ho
  all_goals
   rintro v o ⟨k,rfl,hik⟩ hr;by_cases hlt:k<p.zones.length
   ·have hiw:i<w.length:=(by have:=hW.1;omega);have vl:k<w.length:=(by have:=hW.1;omega);obtain⟨q,hq⟩:=vS (n:=n) w[i] w[k] (hW.len hiw) (hW.len vl) (by omega);simp only[eT,et,aW hlt,aj,aO hi,aQ hiw,aO hlt,aQ vl,ai,hq,show ∀x y:Int,sub ([x,y]:List Int) 0 2=[x,y]from λ_ _=>rfl,dX,length_nil,Nat.zero_add,Nat.reduceAdd,aH,aG k]at hr;by_cases hc:jd w[i] w[k]>0
    ·rw[decide_eq_true hc]at hr;simp only[aj,Option.map_some,aZ]at hr;have hQ:N5 p ([(i:Int),(k:Int)],q,true):=by have mS:=alF (hW.len hiw) (hW.len vl) (by omega) hq hc;refine⟨i,k,hi,hlt,hik,rfl,?_⟩;rcases hW.2 i hiw hi with e1|⟨o1,e1⟩;rw[e1]at mS;obtain⟨x,hx,_⟩:=mS;simp at hx;rcases hW.2 k vl hlt with e2|⟨o2,e2⟩;rw[e2]at mS;obtain⟨_,_,y,hy,_⟩:=mS;simp at hy;rw[e1,e2]at mS;exact⟨o1,o2,mS⟩
     first|(cases hr;done)|(cases hr;exact .inr ⟨_,rfl,hQ⟩)
    rw[decide_eq_false hc]at hr;simp only[au,aZ]at hr
    first|(cases hr;done)|(cases hr;exact⟨k+1,rfl,by omega⟩)
   have hf:decide ((k:Int)<(p.zones.length:Int))=false:=(by simp;omega);simp only[eT,et,hf,au,aZ]at hr
   first|(cases hr;done)|(cases hr;exact .inl rfl)
 cases h5:iter (gM n p w) n (0:Int)with
 |none=>rw[h5]at h;cases h
 |some o=>
  have hP:=tJ (step:=gM n p w) (λ v=>∃k:Nat,v=(k:Int)) (λ o=>o=.inl ()\/∃r,o=.inr r/\N5 p r) ?_ ?_ n _ _ ⟨0,rfl⟩ h5;rcases hP with rfl|⟨r',rfl,hQ⟩;rw[h5]at h;simp only[dF,aZ]at h;rw[<- h]at h2;cases h2;rw[h5]at h;simp only[iy,aZ]at h;rw[<- h];exact hQ
  all_goals
   rintro v o ⟨i,rfl⟩ hr;by_cases hlt:i<p.zones.length;simp only[gM,et,aW hlt,aj,aG i]at hr;cases h6:iter (eT n p w (i:Int)) n (((i+1:Nat):Int))with
   |none=>rw[h6]at hr;cases hr
   |some o'=>
    rw[h6]at hr;rcases s3 i hlt o' h6 with rfl|⟨r',rfl,hQ⟩
    ·simp only[dF,aZ]at hr
     first|(cases hr;done)|(cases hr;exact⟨i+1,rfl⟩)
    simp only[iy,aZ]at hr
    first|(cases hr;done)|(cases hr;exact .inr ⟨_,rfl,hQ⟩)
   have hf:decide ((i:Int)<(p.zones.length:Int))=false:=(by simp;omega);simp only[gM,et,hf,au,aZ]at hr
   first|(cases hr;done)|(cases hr;exact .inl rfl)
theorem aie{x y:Int}(hx:0<=x/\x<1048576)(hy:0<=y/\y<1048576):cQ [ja x y]=true:=by
 have h:d7 (ja x y)=true:=by rw[FB];simp[ja];omega
 have e1:gX [ja x y]=[x,x+1]:=by unfold gX;refine(aeI (List.Pairwise.cons (by simp;omega) (List.pairwise_singleton _ _)) λz=>?_).symm;simp[ja]
 have e2:dm [ja x y] x=[⟨y,y+1⟩]:=by
  unfold dm kF;have:(decide ((ja x y).x0<=x)&&decide (x<(ja x y).x1))=true:=by rw[bK,bT,bT];show x<=x/\x<x+1;omega
  simp[this];rfl
 have e3:nK (bq [ja x y])=[ja x y]:=by unfold bq;rw[e1];simp[ig,e2];rfl
 unfold cQ sd;rw[e3];have:([ja x y].all d7)=true:=by simpa using h
 rw[this];simp
theorem afM{p:bn}{x y:Int}(hz:p.zones.length<=100)(hn:2000<=n)(hx:0<=x/\x<1048576)(hy:0<=y/\y<1048576):jC n p [ja x y]=some (p.zones.map λz=>jd [ja x y] (gH z)):=by rw[Dz p _ hz (by simp) hn];unfold wJ;rw[aie hx hy];rfl
def O9(x y:Int)(a b:ByteArray)(z:eX):Bool:=(jd [ja x y] (gH z)==1)&&(!z.overlay&&(ByteArray.toList z.name==ByteArray.toList a || ByteArray.toList z.name==ByteArray.toList b))
theorem aof{p:bn}{l:List aC}{v:Int}{f:aC}{x y:Int}{a b:ByteArray}(hz:p.zones.length<=100)(hn:2000<=n)(hf:bj l v=some f)(hab:f.names=[a,b]):iter (nJ p l v (p.zones.map λz=>jd [ja x y] (gH z))) n (0,0)=some ((p.zones.countP (O9 x y a b):Nat):Int):=by
 refine iF (step:=nJ p l v (p.zones.map λz=>jd [ja x y] (gH z))) (λ j=>(((p.zones.take j).countP (O9 x y a b):Nat),(j:Nat))) (s:=(0,0)) p.zones.length _ (by simp) (λ j hj=>?_) ?_ n (by omega);have hl:(((p.zones.map λz=>jd [ja x y] (gH z)).length:Nat):Int)==(p.zones.length:Nat):=by simp
 have hjm:j<(p.zones.map λz=>jd [ja x y] (gH z)).length:=by simpa using hj
 have h0:bj f.names 0=some a:=by rw[hab];rfl
 have h1:bj f.names 1=some b:=by rw[hab];rfl
 have hc:(p.zones.take j).countP (O9 x y a b)<=j:=Nat.le_trans List.countP_le_length (by simp;omega);have e:(p.zones.take (j+1)).countP (O9 x y a b)=(p.zones.take j).countP (O9 x y a b)+(if O9 x y a b p.zones[j]then 1 else 0):=by rw[jl hj,List.countP_append,List.countP_singleton]
 simp only[nJ,aW hj,aj,hl,ai,aO hjm,aQ hjm,aN hj,hf,h0,h1,aG j,List.getElem_map];rw[e];have hk:((bif jd [ja x y] (gH p.zones[j])==1 then(bif !p.zones[j].overlay then(bif ByteArray.toList p.zones[j].name==ByteArray.toList a then some true else some (ByteArray.toList p.zones[j].name==ByteArray.toList b))else some false)else some false):Option Bool)=some (O9 x y a b p.zones[j]):=by unfold O9;cases (jd [ja x y] (gH p.zones[j])==1)<;>cases p.zones[j].overlay<;>cases (ByteArray.toList p.zones[j].name==ByteArray.toList a)<;>rfl
 rw[hk];cases O9 x y a b p.zones[j]with
 |false=>rfl
 |true=>
  simp[bB (show (p.zones.take j).countP (O9 x y a b)<9223372036854775807 by omega)]
 simp[nJ]
theorem aqO{α:Type}{P:α->Bool}{l:List α}{i k:Nat}(hi:i<l.length)(hk:k<l.length)(hik:i<k)(h1:P l[i]=true)(h2:P l[k]=true):2<=l.countP P:=by have e:l=l.take k++l.drop k:=(List.take_append_drop k l).symm;rw[e,List.countP_append];have a1:0<(l.take k).countP P:=List.countP_pos_iff.2 ⟨l[i],by rw[List.mem_take_iff_getElem];exact⟨i,by omega,rfl⟩,h1⟩;have hm:l[k]∈l.drop k:=List.mem_drop_iff_getElem.2 ⟨0,by omega,by simp⟩;have a2:0<(l.drop k).countP P:=List.countP_pos_iff.2 ⟨l[k],hm,h2⟩;omega
theorem Bi.cell{a b:List ax}{u v:Int}(h:Bi a b u v):((0<=u/\u<1048576)/\(0<=v/\v<1048576))/\(∃ r∈a,d7 r=true/\OV r u v=true)/\∃r∈b,d7 r=true/\OV r u v=true:=by obtain⟨x,hx,y,hy,h1,h2,h3,rfl,rfl⟩:=h;rw[FB]at h3;have h3':=h3;simp only[kN]at h3 ⊢;refine⟨by omega,⟨x,hx,h1,?_⟩,y,hy,h2,?_⟩;rw[DI];omega;rw[DI];omega
def TS(o:List Int×List ByteArray×Int):List aC:=bif o.2.2==16 then [aC.mk 3 0 o.2.1 0 0 0 0 0 0]else []
def mw(a b:ByteArray)(q:bQ):aC:=aC.mk 2 0 [a,b] 0 0 0 0 q.x q.y
theorem alG{t:bR}(ht:vU t)(hn:O1 n):∃o r,fQ n (eL t)=some o/\gT n (eL t)=some r/\((r.2.2=false/\iX n t=TS o)\/(r.2.2=true/\∃i k:Nat,∃hi:i<t.aw.length,∃hk:k<t.aw.length,i<k/\r.1=[(i:Int),(k:Int)]/\t.aw[i].overlay=false/\t.aw[k].overlay=false/\Bi (gH t.aw[i]) (gH t.aw[k]) r.2.1.x r.2.1.y/\iX n t=TS o++[mw t.aw[i].name t.aw[k].name r.2.1])):=by
 obtain⟨hn1,hn2⟩:=hn;have⟨o,ho,_,_,hol⟩:=rY (n:=n) (p:=eL t) ht.plan.defs hn1;obtain⟨r,hr,hq⟩:=Yj (n:=n) (p:=eL t) ht.zones (by omega);refine⟨o,r,ho,hr,?_⟩;have ho':fQ n (bn.mk (ef t 0).co (ef t 0).bx (ef t 0).bm (ef t 0).cg (ef t 0).cp (ef t 0).ca (ef t 0).cy (ef t 0).ci)=some o:=ho;have hr':gT n (bn.mk (ef t 0).co (ef t 0).bx (ef t 0).bm (ef t 0).cg (ef t 0).cp (ef t 0).ca (ef t 0).cy (ef t 0).ci)=some r:=hr;have ap0:bH 0 0 1 1 88=true:=bU (by omega) (by simp only[maxLen];omega);have s1:∀x:aC,sub ([x]:List aC) 0 1=[x]:=λ_=>rfl;have e1:((bif (o.2.2==(16:Int))then(ck (bH 0 0 1 1 88) (iM [(aC.mk 3 0 o.2.1 0 0 0 0 0 0)] λr2=>ck (aE r2.length r2.length) (some r2)))else(ck (aE 0 ([]:List aC).length) (some ([]:List aC)))):Option (List aC))=some (TS o):=by rw[ap0];unfold TS;cases (o.2.2==(16:Int))<;>rfl
 have hcl:(TS o).length<=1:=by unfold TS;cases (o.2.2==(16:Int))<;>simp
 have key:∀g,dR n (ef t 0)=some g->iX n t=g:=λg h=>by unfold iX;rw[h];rfl
 cases hb:r.2.2 with
 |false=>
  refine .inl ⟨rfl,key _ ?_⟩;unfold dR;simp only[ho',ai,s1,length_singleton,e1,hr'];simp[hb]
 |true=>
  obtain⟨i,k,hi,hk,hik,zE,v1,v2,mS⟩:=aid (n:=n) (p:=eL t) ht.zones (by omega) hr hb;refine .inr ⟨rfl,i,k,hi,hk,hik,zE,v1,v2,mS,key _ ?_⟩;have hloop:iter (dx (ef t 0) r) n ((0:Int),(2:Int),(0:Int),(0:Int),(0:Int),(0:Int),(0:Int),r.2.1.x,r.2.1.y,([]:List ByteArray))=some ((2:Int),(0:Int),(0:Int),(0:Int),(0:Int),(0:Int),r.2.1.x,r.2.1.y,[t.aw[i].name,t.aw[k].name]):=by refine iF (step:=dx (ef t 0) r) (λ j=>((j:Int),(2:Int),(0:Int),(0:Int),(0:Int),(0:Int),(0:Int),r.2.1.x,r.2.1.y,[t.aw[i].name,t.aw[k].name].take j)) 2 _ rfl (λ j hj=>?_) ?_ n (by omega);have hz1:bj (ef t 0).bm (i:Int)=some t.aw[i]:=aN hi;have hz2:bj (ef t 0).bm (k:Int)=some t.aw[k]:=aN hk;have hs:∀x:ByteArray,sub ([x]:List ByteArray) 0 1=[x]:=λ_=>rfl;have hj2:j=0\/j=1:=(by omega);rcases hj2 with rfl|rfl;have a1:bj [(i:Int),(k:Int)] (((0:Nat):Int)+((0:Nat):Int))=some (i:Int):=rfl;have a2:decide (((0:Nat):Int)<((([(i:Int),(k:Int)].length:Nat):Int):Int))=true:=rfl;have a3:cM ((0:Nat):Int) [(i:Int),(k:Int)].length=true:=rfl;have a4:bH ([]:List ByteArray).length ([]:List ByteArray).length 1 1 16=true:=bU (by simp) (by simp only[maxLen,length_nil];omega);simp only[dx,zE,a1,a2,a3,aj,ai,hz1,hs,length_singleton,List.take_zero,a4,dO,aH];rfl;have a1:bj [(i:Int),(k:Int)] (((0:Nat):Int)+((1:Nat):Int))=some (k:Int):=rfl;have a2:decide (((1:Nat):Int)<(([(i:Int),(k:Int)].length:Nat):Int))=true:=rfl;have a3:cM (1:Nat) [i,k].length=true:=rfl;have a4:bH ([t.aw[i].name,t.aw[k].name].take 1).length ([t.aw[i].name,t.aw[k].name].take 1).length 1 1 16=true:=bU (by simp) (by simp[maxLen]);simp only[dx,zE,a1,a2,a3,aj,ai,hz2,hs,length_singleton,a4,dO,aH];rfl;have a2:decide ((2:Nat)<(([(i:Int),(k:Int)].length:Nat):Int))=false:=rfl;simp only[dx,zE,a2,au,aH,aj];rfl
  have hz:aE 0 ([]:List ByteArray).length=true:=rfl;have ap1:bH (TS o).length (TS o).length 1 1 88=true:=bU (by omega) (by simp[maxLen];omega);unfold dR;simp only[ho',ai,s1,length_singleton,e1,hr'];simp[hb,hloop,ap1];rfl
theorem pm{α:Type}(a:α) l:bj (a::l) 0=some a:=rfl
theorem at_one{α:Type}(a b:α) l:bj (a::b::l) 1=some b:=rfl
theorem akc{t:bR}(ht:vU t){r:(List Int)×bQ×Bool}{i k:Nat}(hi:i<t.aw.length)(hk:k<t.aw.length)(hik:i<k)(h1:t.aw[i].overlay=false)(h2:t.aw[k].overlay=false)(hc:Bi (gH t.aw[i]) (gH t.aw[k]) r.2.1.x r.2.1.y){l:List aC}{v:Int}(hl:bj l v=some (mw t.aw[i].name t.aw[k].name r.2.1)):
 jC 5000003 (eL t) (sub ([(ax.mk r.2.1.x r.2.1.y (i64.wrap (r.2.1.x+1)) (i64.wrap (r.2.1.y+1)))]:List ax) 0 1)=some (t.aw.map λz=>jd [ja r.2.1.x r.2.1.y] (gH z))/\∃c:Nat,2<=c/\iter (nJ (eL t) l v (t.aw.map λz=>jd [ja r.2.1.x r.2.1.y] (gH z))) 5000003 (0,0)=some (c:Int):=by
 obtain⟨⟨hx,hy⟩,hci,hck⟩:=hc.cell;have ex:i64.wrap (r.2.1.x+1)=r.2.1.x+1:=by obtain⟨a,ha⟩:=Int.eq_ofNat_of_zero_le hx.1;rw[ha,bB (by omega)];rfl
 have ey:i64.wrap (r.2.1.y+1)=r.2.1.y+1:=by obtain⟨a,ha⟩:=Int.eq_ofNat_of_zero_le hy.1;rw[ha,bB (by omega)];rfl
 rw[ex,ey];have hz:=ht.zones;refine⟨afM (n:=5000003) (p:=eL t) hz (by omega) hx hy,_,?_,aof (n:=5000003) (p:=eL t) hz (by omega) hl rfl⟩;have m1:O9 r.2.1.x r.2.1.y t.aw[i].name t.aw[k].name t.aw[i]=true:=by unfold O9;rw[Tj hx hy hci,h1];simp
 have m2:O9 r.2.1.x r.2.1.y t.aw[i].name t.aw[k].name t.aw[k]=true:=by unfold O9;rw[Tj hx hy hck,h2];simp
 exact aqO (l:=t.aw) hi hk hik m1 m2
theorem alH{t:bR}(ht:vU t)(ae:List aC):tu 5000003 (eL t) (iX 5000003 t++ae)=some ((((iX 5000003 t).length:Nat):Int),true):=by
 have⟨o,r,ho,hr,h⟩:=alG (n:=5000003) ht n42;have hdl:=ht.plan.defs.len;obtain⟨o',ho',_,_,hol⟩:=rY (n:=5000003) (p:=eL t) ht.plan.defs (by omega);have:o'=o:=by rw[ho]at ho';injection ho' with h;exact h.symm
 subst this;unfold tu;rw[ho];simp only[ai];have w1:i64.wrap (0+1)=1:=rfl;have w2:i64.wrap (1+1)=2:=rfl;cases hc:(o'.2.2==(16:Int))with
 |false=>
  have hcy:TS o'=[]:=by unfold TS;rw[hc];rfl
  rw[hcy]at h;simp only[au,dF,hr,ai];rcases h with ⟨hb,hg⟩|⟨hb,i,k,hi,hk,hik,zE,v1,v2,mS,hg⟩;rw[hb,hg];rfl;rw[hg];have hl:bj (([]++[mw t.aw[i].name t.aw[k].name r.2.1])++ae) 0=some (mw t.aw[i].name t.aw[k].name r.2.1):=rfl;have⟨hs,c,hc2,hit⟩:=akc ht hi hk hik v1 v2 mS hl;have hlen:decide (((([]++[mw t.aw[i].name t.aw[k].name r.2.1])++ae:List aC).length:Int)<=0)=false:=by rw[dW];simp only[fP,length_singleton,length_nil];omega
  have hr1:((r.1.length:Int) !=2)=false:=by rw[zE];rfl
  have hs1:aE (sub ([(ax.mk (mw t.aw[i].name t.aw[k].name r.2.1).k8 (mw t.aw[i].name t.aw[k].name r.2.1).k7 (i64.wrap ((mw t.aw[i].name t.aw[k].name r.2.1).k8+1)) (i64.wrap ((mw t.aw[i].name t.aw[k].name r.2.1).k7+1)))]:List ax) 0 1).length 1=true:=rfl;have hs':jC 5000003 (eL t) (sub ([(ax.mk (mw t.aw[i].name t.aw[k].name r.2.1).k8 (mw t.aw[i].name t.aw[k].name r.2.1).k7 (i64.wrap ((mw t.aw[i].name t.aw[k].name r.2.1).k8+1)) (i64.wrap ((mw t.aw[i].name t.aw[k].name r.2.1).k7+1)))]:List ax) 0 1)=some (t.aw.map λz=>jd [ja r.2.1.x r.2.1.y] (gH z)):=hs;have hk1:((mw t.aw[i].name t.aw[k].name r.2.1).kind !=2)=false:=rfl;have hk2:(((mw t.aw[i].name t.aw[k].name r.2.1).names.length:Int) !=2)=false:=rfl;have hc3:decide ((c:Int)<2)=false:=by simp;omega
  simp only[hb,aj,hlen,hl,au,ai,hk1,hk2,hr1,hs1,hs',hit,hc3,w1,dF];rfl
 |true=>
  have hcy:TS o'=[aC.mk 3 0 o'.2.1 0 0 0 0 0 0]:=by unfold TS;rw[hc];rfl
  rw[hcy]at h;obtain⟨hne,hring⟩:=aib (n:=5000003) (p:=eL t) ht.plan.defs (by omega) ho hc;have hdl2:(eL t).defs.length<=4000000:=hdl;have hrl:=alE (n:=5000003) (p:=eL t) (f:=aC.mk 3 0 o'.2.1 0 0 0 0 0 0) ht.plan.defs (by omega) hring (by show o'.2.1.length<=4000001;omega);have hn0:((o'.2.1.length:Int)==0)=false:=by rw[beq_eq_false_iff_ne];intro h0;exact hne (List.eq_nil_of_length_eq_zero (by omega))
  have hnn:(((aC.mk 3 0 o'.2.1 0 0 0 0 0 0).names.length:Int) !=(o'.2.1.length:Int))=false:=by simp
  have hk1:((aC.mk 3 0 o'.2.1 0 0 0 0 0 0).kind !=3)=false:=rfl;rcases h with ⟨hb,hg⟩|⟨hb,i,k,hi,hk,hik,zE,v1,v2,mS,hg⟩;rw[hg];have hl0:bj ([aC.mk 3 0 o'.2.1 0 0 0 0 0 0]++ae) 0=some (aC.mk 3 0 o'.2.1 0 0 0 0 0 0):=rfl;have hlen:((([aC.mk 3 0 o'.2.1 0 0 0 0 0 0]++ae:List aC).length:Int)==0)=false:=by rw[beq_eq_false_iff_ne];simp;omega
  simp only[aj,hlen,au,hl0,ai,hk1,hnn,hn0,hrl,dF,w1,hr,hb];rfl;rw[hg];have hl0:bj (([aC.mk 3 0 o'.2.1 0 0 0 0 0 0]++[mw t.aw[i].name t.aw[k].name r.2.1])++ae) 0=some (aC.mk 3 0 o'.2.1 0 0 0 0 0 0):=rfl;have hl:bj (([aC.mk 3 0 o'.2.1 0 0 0 0 0 0]++[mw t.aw[i].name t.aw[k].name r.2.1])++ae) 1=some (mw t.aw[i].name t.aw[k].name r.2.1):=rfl;have ra:(((([aC.mk 3 0 o'.2.1 0 0 0 0 0 0]++[mw t.aw[i].name t.aw[k].name r.2.1])++ae:List aC).length:Int)==0)=false:=by rw[beq_eq_false_iff_ne];simp;omega
  have⟨hs,c,hc2,hit⟩:=akc ht hi hk hik v1 v2 mS hl;have hlen:decide (((([aC.mk 3 0 o'.2.1 0 0 0 0 0 0]++[mw t.aw[i].name t.aw[k].name r.2.1])++ae:List aC).length:Int)<=1)=false:=by rw[dW];simp;omega
  have hr1:((r.1.length:Int) !=2)=false:=by rw[zE];rfl
  have hs1:aE (sub ([(ax.mk (mw t.aw[i].name t.aw[k].name r.2.1).k8 (mw t.aw[i].name t.aw[k].name r.2.1).k7 (i64.wrap ((mw t.aw[i].name t.aw[k].name r.2.1).k8+1)) (i64.wrap ((mw t.aw[i].name t.aw[k].name r.2.1).k7+1)))]:List ax) 0 1).length 1=true:=rfl;have hs':jC 5000003 (eL t) (sub ([(ax.mk (mw t.aw[i].name t.aw[k].name r.2.1).k8 (mw t.aw[i].name t.aw[k].name r.2.1).k7 (i64.wrap ((mw t.aw[i].name t.aw[k].name r.2.1).k8+1)) (i64.wrap ((mw t.aw[i].name t.aw[k].name r.2.1).k7+1)))]:List ax) 0 1)=some (t.aw.map λz=>jd [ja r.2.1.x r.2.1.y] (gH z)):=hs;have Wc:((mw t.aw[i].name t.aw[k].name r.2.1).kind !=2)=false:=rfl;have hk2:(((mw t.aw[i].name t.aw[k].name r.2.1).names.length:Int) !=2)=false:=rfl;have hc3:decide ((c:Int)<2)=false:=by simp;omega
  simp only[aj,ra,au,hl0,ai,hk1,hnn,hn0,hrl,dF,w1,hr,hb,hlen,hl,Wc,hk2,hr1,hs1,hs',hit,hc3,w2];rfl
structure arw(lot:bW)(R:ax):Prop where
 ok:d7 R=true
 area:cQ lot.area=true
 err:(df (λ p q=>p&&q) lot.area [R]).2=0
 eq:(bif cQ (df (λ p q=>p&&q) lot.area [R]).1 then ly (df (λ p q=>p&&q) lot.area [R]).1 else 0)=pZ R
theorem aif{lot:bW}(ha:lot.area.length<=900)(hn:4000002<=n) i (h:(cH n lot i).2=true):arw lot (cH n lot i).1:=by
 have e:=acY ha hn i;unfold l8 at e;rw[FD (n:=n) lot.area ha (by omega)]at e;simp only[ai]at e;have key2:∀c x:Bool,∃b,((bif c then some true else some x):Option Bool)=some b:=λc x=>cu ⟨_,rfl⟩ ⟨_,rfl⟩;cases Kx:(qE lot.area).2 with
 |false=>
  rw[Kx]at e;simp only[Bool.not_false,aj,ai]at e;injection e with e;rw[<- e]at h;cases h
 |true=>
  have hright:cQ lot.area=true:=by
   unfold qE at Kx;cases hd:decide (lot.area≠[])&&cQ lot.area with
   |false=>rw[hd]at Kx;cases Kx
   |true=>rw[bK]at hd;exact hd.2
  rw[Kx]at e;simp at e;have⟨b,hb⟩:=key2 (decide (i<0)) (decide (i>20));rw[hb]at e;cases b with
  |true=>injection e with e;rw[<- e]at h;cases h
  |false=>
   simp at e;unfold I4 at e;rw[iU]at e;simp only[ai]at e;have⟨c,hc⟩:=key2 (!d7 (qE lot.area).1) (decide (i<0));rw[hc]at e;cases c with
   |true=>injection e with e;rw[<- e]at h;cases h
   |false=>
    simp[yM]at e;generalize ax.mk (i64.wrap ((qE lot.area).1.x0+(min i 1048576))) (i64.wrap ((qE lot.area).1.y0+(min i 1048576))) (i64.wrap ((qE lot.area).1.x1-(min i 1048576))) (i64.wrap ((qE lot.area).1.y1-(min i 1048576)))=R at e;cases hR:d7 R with
    |false=>rw[hR]at e;injection e with e;rw[<- e]at h;cases h
    |true=>
     rw[hR]at e;have hcl:=yL (keep:=λp q=>p&&q) lot.area [R];have hc:=yK (n:=n) (a:=lot.area) (b:=[R]) (by omega) (by simp) (by omega) (by simp;omega) (by omega);have hA:=zF (n:=n) (a:=(df (λ p q=>p&&q) lot.area [R]).1) (by omega) (by omega);simp[show ∀r:ax,sub [r] 0 1=[r]from λ_=>rfl,hc,hA,Ye]at e;cases hk:((df (λ p q=>p&&q) lot.area [R]).2==0)with
     |false=>rw[hk]at e;injection e with e;rw[<- e]at h;cases h
     |true=>
      rw[hk]at e;injection e with e;rw[<- e]at h ⊢;exact⟨hR,hright,by simpa using hk,by simpa using h⟩
theorem alI{lot:bW}{p:bg}(h:HR n [lot] p lot)(hR:d7 (cH n lot p.cE).1=true):okV (oC (cH n lot p.cE).1 p)=true:=by
 have hf:=KF h;unfold Ga at hf;simp at hf;obtain⟨_,_,_,_,u0,u1,f1,f2⟩:=hf;obtain⟨fl,hfl⟩:=Int.eq_ofNat_of_zero_le (show 0<=p.floors by omega);have hw:i64.wrap (p.floors*3)=p.floors*3:=by rw[hfl,show((fl:Int)*3)=(fl*3:Nat)by omega,IE (by omega)]
 have hR':d7 (iG (oC (cH n lot p.cE).1 p))=true:=hR;unfold okV;rw[hR',Bool.true_and];unfold oC;rw[hw];by_cases hu:p.use=0;simp[hu];omega;have:(p.use==0)=false:=by simpa using hu
 simp[this];omega
theorem afN{lot:bW}{p:bg}(pl:bn)(ha:lot.area.length<=900)(hn:4000002<=n)(h:HR n [lot] p lot):kK n pl lot (oD n lot p)=some true:=by
 have hf:=KF h;unfold Ga at hf;simp at hf;obtain⟨hb,hl,l0,l1,_⟩:=hf;have hB:=aif ha hn p.cE hb;have hV:=alI h hB.ok;have hall:sW n (oD n lot p)=some [oC (cH n lot p.cE).1 p]:=by rw[all_eq (Vg n lot p).1 (by omega)];rfl
 have c1:decide ((oD n lot p).lot<(0:Int))=false:=by rw[dW];show ¬p.lot<0;omega
 have c2:decide ((oD n lot p).lot>(1073741824:Int))=false:=by rw[dW];show ¬p.lot>1073741824;omega
 have hl1:((oD n lot p).phases.length:Int)=1:=rfl;have s1:iter (gm n [oC (cH n lot p.cE).1 p]) n (0:Int)=some (.inl ()):=by
  refine iF (step:=gm n [oC (cH n lot p.cE).1 p]) (λ i=>(i:Int)) (s:=(0:Int)) 1 (.inl ()) rfl (λ i hi=>?_) ?_ n (by omega);obtain rfl:i=0:=by omega
  have hc:=fE (n:=n) (l:=([]:List aF)) (φ:=λ(y1:aF×Unit)=>oO y1.1 (oC (cH n lot p.cE).1 p)) (λ _=>false) (λ x hx=>by simp at hx) (by simp) (by simp;omega);have a1:decide (((0:Nat):Int)<((([oC (cH n lot p.cE).1 p].length:Nat):Int):Int))=true:=rfl;have a2:cM ((0:Nat):Int) [oC (cH n lot p.cE).1 p].length=true:=rfl;have a3:bj [oC (cH n lot p.cE).1 p] (((0:Nat):Int)+((0:Nat):Int))=some (oC (cH n lot p.cE).1 p):=rfl;have a4:tT 0 ((0:Nat):Int) [oC (cH n lot p.cE).1 p].length=true:=rfl;have a5:sub [oC (cH n lot p.cE).1 p] 0 (((0:Nat):Int).toNat)=[]:=rfl;have a6:aE ([]:List aF).length (((0:Nat):Int).toNat)=true:=rfl;simp only[gm,a1,a2,a3,a4,a5,a6,aj,ai,qd,hV,Bool.not_true,au,hc,List.any_nil];rfl;have a1:decide (((1:Nat):Int)<((([oC (cH n lot p.cE).1 p].length:Nat):Int):Int))=false:=rfl;simp[gm]
 have s3:iter (jR n (pF.mk [oC (cH n lot p.cE).1 p] [])) n ((0:Int),([]:List (ByteArray×Bool)))=some (.inl ()):=by obtain⟨m,rfl⟩:∃m,n=m+1:=⟨n-1,by omega⟩;exact dU (by rfl)
 have s2:iter (gq n (oD n lot p)) n (0:Int)=some (.inl ()):=by
  refine iF (step:=gq n (oD n lot p)) (λ i=>(i:Int)) (s:=(0:Int)) 1 (.inl ()) rfl (λ i hi=>?_) ?_ n (by omega);obtain rfl:i=0:=by omega
  have a1:decide (((0:Nat):Int)<(((oD n lot p).phases.length:Int):Int))=true:=rfl;have a2:bj (oD n lot p).phases ((0:Nat):Int)=some (pF.mk [oC (cH n lot p.cE).1 p] []):=rfl;simp only[gq,a1,a2,aj,ai,s3,dF];rfl;have a1:decide (((1:Nat):Int)<(((oD n lot p).phases.length:Int):Int))=false:=rfl;simp only[gq,a1,au]
 have Lt:qC n (oD n lot p)=some true:=by unfold qC;rw[hall];simp[c1,c2,hl1];have b1:decide ((1:Int)<1)=false:=rfl;have b2:decide ((1:Int)>8)=false:=rfl;have b3:decide (((1:Nat):Int)<1)=false:=rfl;have b4:decide (((1:Nat):Int)>40)=false:=rfl;simp[ai,s1,s2,dF]
 have hid:(lot.id !=(oD n lot p).lot)=false:=by show(lot.id !=p.lot)=false;rw[hl,bne];simp
 have r1:iter (fK n lot [oC (cH n lot p.cE).1 p]) n (0:Int)=some (.inl ()):=by
  refine iF (step:=fK n lot [oC (cH n lot p.cE).1 p]) (λ i=>(i:Int)) (s:=(0:Int)) 1 (.inl ()) rfl (λ i hi=>?_) ?_ n (by omega);obtain rfl:i=0:=by omega
  have a1:decide (((0:Nat):Int)<((([oC (cH n lot p.cE).1 p].length:Nat):Int):Int))=true:=rfl;have a2:cM ((0:Nat):Int) [oC (cH n lot p.cE).1 p].length=true:=rfl;have a3:bj [oC (cH n lot p.cE).1 p] (((0:Nat):Int)+((0:Nat):Int))=some (oC (cH n lot p.cE).1 p):=rfl;have hcl:=yL (keep:=λp q=>p&&q) lot.area [(cH n lot p.cE).1];have hc:yT n lot.area (sub ([(ax.mk (oC (cH n lot p.cE).1 p).bu (oC (cH n lot p.cE).1 p).cw (oC (cH n lot p.cE).1 p).br (oC (cH n lot p.cE).1 p).ct)]:List ax) 0 1)=some (df (λ p q=>p&&q) lot.area [(cH n lot p.cE).1]):=yK (n:=n) (a:=lot.area) (b:=[(cH n lot p.cE).1]) (by omega) (by simp) (by omega) (by simp;omega) (by omega);have hA:=zF (n:=n) (a:=(df (λ p q=>p&&q) lot.area [(cH n lot p.cE).1]).1) (by omega) (by omega);have hA2:pG (ax.mk (oC (cH n lot p.cE).1 p).bu (oC (cH n lot p.cE).1 p).cw (oC (cH n lot p.cE).1 p).br (oC (cH n lot p.cE).1 p).ct)=some (pZ (cH n lot p.cE).1):=Ye _;have hs1:aE (sub ([(ax.mk (oC (cH n lot p.cE).1 p).bu (oC (cH n lot p.cE).1 p).cw (oC (cH n lot p.cE).1 p).br (oC (cH n lot p.cE).1 p).ct)]:List ax) 0 1).length 1=true:=rfl;have he:((df (λ p q=>p&&q) lot.area [(cH n lot p.cE).1]).2 !=(0:Int))=false:=by rw[hB.err];rfl
  have hlt:decide ((pZ (cH n lot p.cE).1)<(pZ (cH n lot p.cE).1:Int))=false:=by simp
  rw[hB.eq]at hA;simp only[fK,a1,a2,a3,aj,ai,hs1,hc,he,au,hA,hA2,hlt];rfl;have a1:decide (((1:Nat):Int)<((([oC (cH n lot p.cE).1 p].length:Nat):Int):Int))=false:=rfl;simp[fK,a1,au]
 have r3:iter (jw n pl (pF.mk [oC (cH n lot p.cE).1 p] [])) n (0:Int)=some (.inl ()):=by obtain⟨m,rfl⟩:∃m,n=m+1:=⟨n-1,by omega⟩;exact dU (by rfl)
 have r2:iter (fM n pl (oD n lot p)) n (0:Int)=some (.inl ()):=by
  refine iF (step:=fM n pl (oD n lot p)) (λ i=>(i:Int)) (s:=(0:Int)) 1 (.inl ()) rfl (λ i hi=>?_) ?_ n (by omega);obtain rfl:i=0:=by omega
  have a1:decide (((0:Nat):Int)<(((oD n lot p).phases.length:Int):Int))=true:=rfl;have a2:bj (oD n lot p).phases ((0:Nat):Int)=some (pF.mk [oC (cH n lot p.cE).1 p] []):=rfl;simp only[fM,a1,a2,aj,ai,r3,dF];rfl;have a1:decide (((1:Nat):Int)<(((oD n lot p).phases.length:Int):Int))=false:=rfl;simp only[fM,a1,au]
 unfold kK;rw[Lt];simp[ai,Bool.not_true,au,hid,kM (n:=n) (l:=lot.area) (by omega) (by omega) (by omega),hB.area,hall,r1,r2,dF]
def oF(t:bR)(lot:bW)(day:Int):List aC:=bif(pQ 5000003 t lot day).2 then [(pQ 5000003 t lot day).1]else []
theorem apI{t:bR}{lot:bW}{day:Int}{L:List bg}(hL:L.length<=756000)(hlp:∀p∈L,oU 5000003 t lot p day=some (uX 5000003 t (kH 5000003 lot p) day)):iter (qa 5000003 t lot day L) 5000003 (false,0)=some (vV L λp=>uX 5000003 t (kH 5000003 lot p) day).2:=by
 rcases FL L (λ p=>uX 5000003 t (kH 5000003 lot p) day)with ⟨p,hfp,hr,hp,hq⟩|⟨hr,hq⟩;rw[hr];obtain⟨_,i,hi',hip,hbef⟩:=List.find?_eq_some_iff_getElem.1 hfp;refine iF (step:=qa 5000003 t lot day L) (λ j=>(decide (i<j),(j:Nat))) (s:=(false,0)) (i+1) true (by simp) (λ j hj=>?_) ?_ 5000003 (by omega);have z7:j<L.length:=by omega
 have e1:decide (i<j)=false:=by rw[dW];omega
 have e2:=hlp _ (getElem_mem z7);simp only[qa,dY,e1,aW z7,aj,aN z7,ai,Bool.not_false,e2,aG j];by_cases hji:j=i;subst hji;rw[hip,hq];simp;have hq2:=hbef j (by omega);simp at hq2;have e3:decide (i<j+1)=false:=by rw[dW];omega
 rw[hq2,e3];have e1:decide (i<i+1)=true:=by simp
 simp only[qa,e1];cases decide ((i+1:Nat)<((sub L 0 L.length).length:Int))<;>rfl;rw[hr];refine iF (step:=qa 5000003 t lot day L) (λ j=>(false,(j:Nat))) (s:=(false,0)) L.length false rfl (λ j z7=>?_) ?_ 5000003 (by omega);have e2:=hlp _ (getElem_mem z7);rw[hq _ (getElem_mem z7)]at e2;simp only[qa,dY,aW z7,aj,aN z7,ai,Bool.not_false,e2,aG j];simp[qa]
theorem aog{f:aC}{names:List ByteArray}{e:Int}(hf:f.names=names)(hl:names.length<=1000):iter (zA [f] (names,e)) 5000003 (true,0)=some true:=by
 refine iF (step:=zA [f] (names,e)) (λ j=>(true,(j:Nat))) (s:=(true,0)) names.length true rfl (λ j hj=>?_) ?_ 5000003 (by omega);have a1:cM 0 [f].length=true:=rfl;have a2:bj [f] ((0:Nat)+0:Int)=some f:=rfl;have We:j<f.names.length:=by rw[hf];exact hj
 have a3:bj f.names (j:Nat)=some names[j]:=by rw[aN We];simp[hf]
 have a4:(ByteArray.toList names[j]==ByteArray.toList names[j])=true:=by simp
 simp only[zA,aW hj,aj,ai,aO hj,aQ hj,a1,a2,a3,a4,aG j];simp[zA]
theorem arx{t:bR}{lot:bW}(day:Int)(ht:vU t)(WD:t.land.find? (λ x=>x.id==lot.id)=some lot)(ha:lot.area.length<=900):U8 5000003 t lot (oF t lot day) day=some true:=by
 have hz:pq 5000003 (bn.mk t.cj t.bp t.aw t.az t.cm t.b8 t.cD t.b9) lot.area=some (iq t lot):=Fw _ _ ht.zones ha (by omega);have hA:j3 5000003 (bn.mk t.cj t.bp t.aw t.az t.cm t.b8 t.cD t.b9) (iq t lot) day=some ((qV t.az (iq t lot) day).map λ(i:Nat)=>(i:Int)):=xM _ _ _ (λ r hr=>(ht.rule r hr).1) ht.rules (FJ ht lot) (by omega);have hpick:(qV t.az (iq t lot) day).filterMap (λ i=>t.az[i]?)=applied t lot day:=Bj (oW (iq t lot) day) t.az;have hempty:(((((qV t.az (iq t lot) day).map λ(i:Nat)=>(i:Int)).length:Nat):Int)==(0:Int))=(applied t lot day).isEmpty:=by
  rw[length_map];cases hap:qV t.az (iq t lot) day with
  |nil=>
   rw[hap]at hpick;rw[<- hpick];rfl
  |cons j l=>
   have hj:j∈qV t.az (iq t lot) day:=(by rw[hap];simp);have h2:=(List.mem_filter.1 hj).2;obtain⟨r,hr⟩:∃r,t.az[j]? =some r:=by
    cases hc:t.az[j]? with
    |none=>rw[hc]at h2;cases h2
    |some r=>exact⟨r,rfl⟩
   have hmem:r∈applied t lot day:=(by rw[<- hpick];exact List.mem_filterMap.2 ⟨j,hj,hr⟩);have e1:((((j::l).length:Nat):Int)==0)=false:=(by simp;omega);rw[e1];cases hq:applied t lot day with
   |nil=>rw[hq]at hmem;simp at hmem
   |cons _ _=>rfl
 have hP:kT 5000003 [lot]=some (dP 5000003 [lot]):=QZ (λ l hl=>by rw[bD.1 hl];exact ha) (by simp) (by omega);have hof:∀p∈dP 5000003 [lot],HR 5000003 [lot] p lot:=by intro p hp;have⟨l',h⟩:=abv hp;have:=List.mem_of_find?_eq_some h.PA;rw[bD]at this;subst this;exact h
 have Cl:∀p∈dP 5000003 [lot],kH 5000003 lot p=oD 5000003 lot p:=λp hp=>by unfold kH;rw[KF (hof p hp)];rfl
 have hlp:∀p∈dP 5000003 [lot],oU 5000003 t lot p day=some (uX 5000003 t (kH 5000003 lot p) day):=by intro p hp;have hfp:=KF (hof p hp);rw[Cl p hp];unfold oU;rw[Yf ha (by omega),hfp];simp[ajW day ht (Vg _ _ _) n42]
 have C3:∀p∈dP 5000003 [lot],BU 5000003 t (kH 5000003 lot p)=0:=by
  intro p hp;have hid:p.lot=lot.id:=by obtain⟨_,_,_,i,k,_,_,_,rfl⟩:=hof p hp;rfl
  rw[Cl p hp];have hfl:kG t.land (oD 5000003 lot p).lot=(lot,true):=by show kG t.land p.lot=_;unfold kG;rw[hid,WD]
  unfold BU RW;rw[hfl,afN (j7 t) ha (by omega) (hof p hp)];rfl
 have hlen:=ah5 5000003 [lot] (by simp);have hs1:sub [lot] 0 1=[lot]:=rfl;have hany:=apI (t:=t) (lot:=lot) (day:=day) hlen hlp;have hap:∀l:List aC,l.length<=1->bH ([]:List aC).length 0 l.length l.length 88=true:=λl hl=>by
  have:bH 0 0 l.length l.length 88=true:=by rw[akT,bK,bT,bT];exact⟨by omega,by simp[maxLen];omega⟩
  exact this
 have hbl:∀d,(ow 5000003 t d day).length<=101:=λd=>afH ht;have hLa:FM 5000003 t lot day=vV (dP 5000003 [lot]) λp=>uX 5000003 t (kH 5000003 lot p) day:=rfl;have Kd:HC 5000003 t lot day=(match dP 5000003 [lot]with|[]=>aC.mk 1 lot.id [] 0 0 0 0 0 0|p::_=>aC.mk 1 lot.id (ow 5000003 t (kH 5000003 lot p) day) p.lot p.use p.floors p.cE 0 0):=rfl;unfold U8;unfold oF pQ;cases hemp:(applied t lot day).isEmpty with
 |true=>
  simp only[aj];rw[hap _ (by simp)];simp only[aj,dO,hz,ai,dY,aH,hA,hempty,hemp];rfl
 |false=>
  simp only[au];rw[hLa];cases hle:(vV (dP 5000003 [lot]) λp=>uX 5000003 t (kH 5000003 lot p) day).2 with
  |true=>
   rw[hle]at hany;simp only[aj,au];rw[hap _ (by simp)];simp only[aj,dO,hz,ai,dY,aH,hA,hempty,hemp,au,hs1,length_singleton,hP,hany];rfl
  |false=>
   rw[hle]at hany;simp only[aj,au];rw[hap _ (by simp)];rw[Kd];simp only[aj,dO,hz,ai,dY,aH,hA,hempty,hemp,au,hs1,length_singleton,hP,hany,gu];cases hL:dP 5000003 [lot]with
   |nil=>rfl
   |cons p ae=>
    have hp:p∈dP 5000003 [lot]:=(by rw[hL];simp);have tx:uX 5000003 t (kH 5000003 lot p) day=false:=(by rcases FL (dP 5000003 [lot]) (λ p=>uX 5000003 t (kH 5000003 lot p) day)with ⟨q,_,hr,_⟩|⟨_,hq⟩;rw[hr]at hle;cases hle;exact hq p hp);have he:=C3 p hp;have hne:ow 5000003 t (kH 5000003 lot p) day≠[]:=(by intro h0;unfold uX at tx;rw[he,h0]at tx;cases tx);have hB:=QX (n:=5000003) (t:=t) (d:=kH 5000003 lot p) day ht (ac0 _ _ _) n42;rw[he]at hB;have hD:mQ 5000003 lot p=some (kH 5000003 lot p,true):=(by rw[Yf ha (by omega),KF (hof p hp),Cl p hp];rfl);have W5:=hbl (kH 5000003 lot p);generalize hN:ow 5000003 t (kH 5000003 lot p) day=N at hB hne W5;have hsm:=aog (f:=aC.mk 1 lot.id N p.lot p.use p.floors p.cE 0 0) (names:=N) (e:=0) rfl (by omega);have c0:(((p::ae).length:Int)==0)=false:=(by rw[beq_eq_false_iff_ne];simp;omega);have c1:((((1:Nat):Int)) !=(1:Int))=false:=rfl;have c2:cM 0 1=true:=rfl;have c3:bj [aC.mk 1 lot.id N p.lot p.use p.floors p.cE 0 0] ((0:Nat)+0:Int)=some (aC.mk 1 lot.id N p.lot p.use p.floors p.cE 0 0):=rfl;have c4:bj (p::ae) 0=some p:=rfl;have c5:decide ((N.length:Int)>0)=true:=(by rw[bT];have:N.length≠0:=λh0=>hne (List.eq_nil_of_length_eq_zero h0);omega);have c6:((N.length:Int)==((N.length:Int):Int))=true:=(by simp);have c7:((p.lot==(p.lot:Int))&&((p.use==(p.use:Int))&&((p.floors==(p.floors:Int))&&((p.cE==p.cE)&&true))))=true:=(by simp);simp only[hN,length_singleton,c0,c1,c2,c3,c4,aj,au,ai,show((1:Int) !=1)=false from rfl,hD,hB,c5,c6,hsm,c7,show((0:Int)==0)=true from rfl]
theorem akd{t:bR}{lot:bW}{day:Int}{f:aC}(h:f∈oF t lot day):oF t lot day=[f]/\f.lot=lot.id/\(f.kind=0\/f.kind=1):=by
 unfold oF at h ⊢;cases h2:(pQ 5000003 t lot day).2 with
 |false=>rw[h2]at h;simp at h
 |true=>
  rw[h2]at h;simp at h ⊢;subst h;refine⟨rfl,?_⟩;unfold pQ at h2 ⊢;cases he:(applied t lot day).isEmpty with
  |true=>exact⟨rfl,.inl rfl⟩
  |false=>
   rw[he]at h2;cases hl:(FM 5000003 t lot day).2 with
   |true=>rw[hl]at h2;cases h2
   |false=>
    simp;unfold HC;cases dP 5000003 [lot]<;>exact⟨rfl,.inr rfl⟩
theorem Yo{t:bR}{day:Int}{pre post:List aC}{i:Nat}(ht:vU t)(hi:i<t.land.length)(WD:t.land.find? (λ x=>x.id==t.land[i].id)=some t.land[i])(ha:t.land[i].area.length<=900)(hl:pre.length+post.length<=1000000)(hpost:∀f∈post,f.lot≠t.land[i].id):
 dG 5000003 t day ((pre++oF t t.land[i] day)++post) ((pre.length:Nat),(i:Nat))=some (.inl (((pre++oF t t.land[i] day).length:Nat),(i+1:Nat))):=by
 have hown:=arx day ht WD ha;have hi2:i<9223372036854775807:=by have:=ht.land;omega
 cases hL:oF t t.land[i] day with
 |nil=>
  rw[hL]at hown;rw[append_nil];have s1:tT (pre.length:Nat) (pre.length:Nat) (pre++post).length=true:=o7 (by omega) (by omega) (by simp;omega);have hsub:sub (pre++post) ((pre.length:Int)).toNat (((pre.length:Int)).toNat-((pre.length:Int)).toNat)=[]:=by rw[Nat.sub_self];unfold sub;exact List.take_zero
  have hv4:((bif (decide ((pre.length:Nat)<((pre++post).length:Int)))then(bj (pre++post) (pre.length:Nat)).bind λx3=>(bif (x3.lot==(t.land[i].id:Int))then(bj (pre++post) (pre.length:Nat)).bind λx5=>(bif (x5.kind==0)then some true else(bj (pre++post) (pre.length:Nat)).bind λx6=>some (x6.kind==1))else some false)else some false):Option Bool)=some false:=by
   cases hp:post with
   |nil=>
    have:decide ((pre.length:Nat)<((pre++([]:List aC)).length:Int))=false:=(by rw[append_nil];exact gY _);rw[this];rfl
   |cons f l=>
    have hlt:pre.length<(pre++f::l).length:=(by simp);have hg:(pre++f::l)[pre.length]=f:=(by rw[List.getElem_append_right (aB _)];simp);have hne:(f.lot==t.land[i].id)=false:=(by rw[beq_eq_false_iff_ne];exact hpost f (by rw[hp];simp));simp[hne]
  simp only[dG,aW hi,aj,dY,s1,hv4,ai,au,hsub,aN hi,hown,Bool.not_true,bB hi2]
 |cons f l=>
  obtain⟨h1,h2,h3⟩:=akd (t:=t) (lot:=t.land[i]) (day:=day) (f:=f) (by rw[hL];simp);rw[hL]at h1;injection h1 with _ h1;subst h1;rw[hL]at hown;have hlt:pre.length<((pre++[f])++post).length:=by simp
  have hg:((pre++[f])++post)[pre.length]=f:=by rw[List.getElem_append_left (by simp),List.getElem_append_right (aB _)];simp
  have s1:tT (pre.length:Nat) (pre.length:Nat) ((pre++[f])++post).length=true:=o7 (by omega) (by omega) (by simp;omega);have s2:tT (pre.length:Nat) (pre.length+1:Nat) ((pre++[f])++post).length=true:=o7 (by omega) (by omega) (by simp;omega);have hsub:sub ((pre++[f])++post) ((pre.length:Int)).toNat ((((pre.length+1:Nat):Int)).toNat-((pre.length:Int)).toNat)=[f]:=by have e1:((pre.length:Int)).toNat=pre.length:=(by omega);have e2:(((pre.length+1:Nat):Int)).toNat-pre.length=1:=(by omega);rw[e1,e2];unfold sub;rw[aM,List.drop_left];rfl
  have hid:(f.lot==t.land[i].id)=true:=by rw[h2];simp
  have hk:((bif (f.kind==0)then some true else some (f.kind==1)):Option Bool)=some true:=by rcases h3 with h|h<;>rw[h]<;>rfl
  have hw:i64.wrap ((pre.length:Nat)+1)=(pre.length+1:Nat):=bB (by omega);have hlen:(pre++[f]).length=pre.length+1:=by simp
  simp only[dG,aW hi,aj,dY,s1,aW hlt,aN hlt,hg,ai,aN hi,hid,hk,hw,s2,hsub,hown,Bool.not_true,au,bB hi2,hlen]
theorem Jw{t:bR}{day:Int} l (m:Nat):dG 5000003 t day l (m,(t.land.length:Nat))=some (.inr (.inl m)):=by simp[dG]
theorem Q7(hs:Du 5000003=some true)(t:bR) day (ht:anP t):rW 5000003 t day=some true:=by
 obtain⟨few,hf,Wr⟩:=aqG (n:=5000003) (t:=t) ht.plan (by omega);unfold rW;rw[hs,hf];simp only[ai];cases few with
 |false=>rfl
 |true=>
  have⟨f1,f2⟩:=Wr rfl;have hT:=alC ht f1 f2;have tS:=anO f2;have hfi:=FN (n:=5000003) (t:=t) day hT tS n42;have hgl:=(aj2 (n:=5000003) (t:=t) day hT n42).2.1;have hG:=alH (t:=t) hT;have hG':∀ae,tu 5000003 (bn.mk t.cj t.bp t.aw t.az t.cm t.b8 t.cD t.b9) (iX 5000003 t++ae)=some ((((iX 5000003 t).length:Nat):Int),true):=hG;have hlf:∀lot,(oF t lot day).length<=1:=λlot=>by unfold oF;cases (pQ 5000003 t lot day).2<;>simp
  simp only[Bool.not_true,au]
  have fin:∀ae,LU 5000003 t day=iX 5000003 t++ae->iter (dG 5000003 t day (iX 5000003 t++ae)) 5000003 (((iX 5000003 t).length:Nat),0)=some (.inl ((iX 5000003 t++ae).length:Nat))->
   (((gP 5000003 t day).bind λr3=>ck (aE (sub r3 0 r3.length).length r3.length) ((tu 5000003 (bn.mk t.cj t.bp t.aw t.az t.cm t.b8 t.cD t.b9) (sub r3 0 r3.length)).bind λr4=>(bif (!r4.2)then some false else dn (iter (dG 5000003 t day r3) 5000003 (r4.1,0)) λw1=>(bif true then some (w1==((sub r3 0 r3.length).length:Int))else some false)))):Option Bool)=some true:=by intro ae h1 h2;rw[hfi,h1];simp only[ai,dY,aH,aj,hG',Bool.not_true,au,h2,dF];simp
  match hq:t.land with
  |[]=>
   have e:LU 5000003 t day=iX 5000003 t++[]:=(by unfold LU;rw[hq];simp);have c:((([]:List bW).length:Int)==2)=false:=rfl;simp only[c,au,ai];refine fin [] e ?_;have h0:=Jw (t:=t) (day:=day) (iX 5000003 t++[]) (iX 5000003 t).length;rw[hq]at h0;have e2:(iX 5000003 t++[]).length=(iX 5000003 t).length:=(by simp);rw[e2];exact dU (n:=5000002) h0
  |[a]=>
   have c:((([a]:List bW).length:Int)==2)=false:=rfl;simp only[c,au,ai];have e:LU 5000003 t day=iX 5000003 t++oF t a day:=(by rw[vW hq];unfold oF;cases (pQ 5000003 t a day).2<;>simp);refine fin _ e ?_;have hi:0<t.land.length:=(by rw[hq];simp);have hg:t.land[0]=a:=(by simp[hq]);have st:=Yo (t:=t) (day:=day) (pre:=iX 5000003 t) (post:=[]) (i:=0) hT hi (by rw[hg,hq];simp) (tS.1 _ (getElem_mem hi)) (by simp;omega) (by simp);rw[hg,append_nil]at st;have en:=Jw (t:=t) (day:=day) (iX 5000003 t++oF t a day) (iX 5000003 t++oF t a day).length;rw[hq]at en;have st':dG 5000003 t day (iX 5000003 t++oF t a day) (((iX 5000003 t).length:Nat),0)=some (.inl (((iX 5000003 t++oF t a day).length:Nat),([a].length:Nat))):=st;have h1:iter (dG 5000003 t day (iX 5000003 t++oF t a day)) (5000002+1) (((iX 5000003 t).length:Nat),0)=some (.inl (((iX 5000003 t++oF t a day).length:Nat))):=(by rw[fU st'];exact dU (n:=5000001) en);exact h1
  |[a,b]=>
   by_cases hab:a.id=b.id;have c:((([a,b]:List bW).length:Int)==2)=true:=rfl;have c2:(a.id==b.id)=true:=(by rw[hab];simp);simp[pm,at_one,c2];have c:((([a,b]:List bW).length:Int)==2)=true:=rfl;have c2:(a.id==b.id)=false:=(by rw[beq_eq_false_iff_ne];exact hab);simp only[c,aj,pm,at_one,ai,c2,au];have e:LU 5000003 t day=iX 5000003 t++(oF t a day++oF t b day):=(by unfold LU;rw[hq];have hm:dL ie b.id (oI ie a.id true [])=none:=(by show(ck (ie b.id a.id) (some true))=none;have:ie b.id a.id=false:=(by unfold ie;rw[beq_eq_false_iff_ne];exact λh=>hab h.symm);rw[this];rfl);simp[Yl,Tg,hm];unfold oF;cases (pQ 5000003 t a day).2<;>cases (pQ 5000003 t b day).2<;>simp);refine fin _ e ?_;have hi:0<t.land.length:=(by rw[hq];simp);have hi1:1<t.land.length:=(by rw[hq];simp);have hg:t.land[0]=a:=(by simp[hq]);have hg1:t.land[1]=b:=(by simp[hq]);have hla:=hlf a;have hlb:=hlf b;have st:=Yo (t:=t) (day:=day) (pre:=iX 5000003 t) (post:=oF t b day) (i:=0) hT hi (by rw[hg,hq];simp) (tS.1 _ (getElem_mem hi)) (by omega) (by intro f hm;rw[hg,(akd hm).2.1];exact λh=>hab h.symm);have st1:=Yo (t:=t) (day:=day) (pre:=iX 5000003 t++oF t a day) (post:=[]) (i:=1) hT hi1 (by rw[hg1,hq,List.find?_cons,c2];simp) (tS.1 _ (getElem_mem hi1)) (by simp;omega) (by simp);rw[hg]at st;rw[hg1,append_nil]at st1;have en:=Jw (t:=t) (day:=day) ((iX 5000003 t++oF t a day)++oF t b day) ((iX 5000003 t++oF t a day)++oF t b day).length;rw[hq]at en;have st':dG 5000003 t day ((iX 5000003 t++oF t a day)++oF t b day) (((iX 5000003 t).length:Nat),0)=some (.inl (((iX 5000003 t++oF t a day).length:Nat),(1:Nat))):=st;have st1':dG 5000003 t day ((iX 5000003 t++oF t a day)++oF t b day) (((iX 5000003 t++oF t a day).length:Nat),(1:Nat))=some (.inl ((((iX 5000003 t++oF t a day)++oF t b day).length:Nat),([a,b].length:Nat))):=st1;rw[<- aM];have h1:iter (dG 5000003 t day ((iX 5000003 t++oF t a day)++oF t b day)) (5000001+1+1) (((iX 5000003 t).length:Nat),0)=some (.inl ((((iX 5000003 t++oF t a day)++oF t b day).length:Nat))):=(by rw[fU st',fU st1'];exact dU (n:=5000000) en);exact h1
  |a::b::c::l=>
   exfalso;have:=f2.land.1;rw[hq]at this;simp at this
theorem TU(q:HL xx.toSE [.st SI.kw,.int .i64])(hb:yz (HL.oR xx.toSE [.st SI.kw,.int .i64] q)<=1048576):∃k,rW k q.1 q.2.1=some true:=by have h2:lC (Km q.1)+(1+0)<=1048576:=hb;exact⟨5000003,Q7 apF q.1 q.2.1 (aqI (by omega))⟩
end Go.Proofs
