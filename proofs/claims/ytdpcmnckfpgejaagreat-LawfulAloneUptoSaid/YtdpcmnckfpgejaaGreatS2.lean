import Derived.Test.YtdpcmnckfpgejaaGreatS1
open Go.IntKind (i64)
open List (length_take mem_map getElem_mem length_map mem_iff_getElem append_nil length_nil foldl_cons take_of_length_le length_singleton map_nil length_filter_le)
namespace Go.Proofs
open Go.Gb Go.RowKit
variable {n:Nat}
def tG(ab:List fI)(x:fI):List fI:=
 if x.area=[]then ab else match ab.getLast? with
 |some q=>if q.z1=x.z0/\q.area=x.area then ab.dropLast++[⟨q.z0,x.z1,q.area⟩]else ab++[x]
 |none=>[x]
def C3(x:fI):Bool:=decide (x.z0<0) || (decide (x.z0>=x.z1) || (decide (x.z1>4096) || (decide (x.area=[]) || !cJ x.area)))
def xm(p:Option fI×fI):Bool:=C3 p.2 || p.1.any λq=>decide (q.z1>p.2.z0) || (q.z1==p.2.z0&&decide (q.area=p.2.area))
def DL(s:List fI):List (Option fI×fI):=(none::s.map some).zip s
def DR(s:List fI):Bool:=decide (s.length<=80)&&!((DL s).any xm)
theorem pX(s:List fI):(DL s).length=s.length:=by simp[DL]
theorem H6{s:List fI}{i:Nat}(h:i<(DL s).length):(DL s)[i]=(if h0:i=0 then none else some (s[i -1]'(by rw[pX]at h;omega)),s[i]'(by rw[pX]at h;exact h)):=by
 simp only[DL,List.getElem_zip,Prod.mk.injEq,and_true];cases i with
 |zero=>simp
 |succ i=>simp
theorem TU{s:List fI}(ha:∀x∈s,x.area.length<=900)(hn:1000<=n):KC n s=some (DR s):=by
 unfold KC DR;by_cases h80:s.length<=80
 ·have d:decide ((s.length:Int)>80)=false:=by simp;omega
  have d2:decide (s.length<=80)=true:=by simpa using h80
  have z:∀l:List ay,(((l.length:Int))==0)=decide (l=[]):=λl=>by cases l<;>simp<;>omega
  have:=tJ (l:=DL s) (step:=CV n s) (λ i=>(i:Int)) xm () (λ _=>false) (λ i hi=>?_) ?_ n (by rw[pX];omega)
  ·rw[show ((0:Nat):Int)=0 from rfl]at this;rw[d,d2,this,<- RN];cases pq xm (DL s)<;>rfl
  ·rw[H6];rw[pX]at hi;have hi':decide ((i:Int)<(s.length:Int))=true:=(by simpa using hi);have h1:=ha _ (getElem_mem hi);simp only[CV,hi',aj,bB hi,ah,z,mE (n:=n) (l:=s[i].area) (by omega) (by omega) hn,xm];rw[aR (by omega)];have b:((bif decide (s[i].z0<0)then some true else bif decide (s[i].z0>=s[i].z1)then some true else bif decide (s[i].z1>4096)then some true else bif decide (s[i].area=[])then some true else some (!cJ s[i].area)):Option Bool)=some (C3 s[i]):=by
    unfold C3;cases decide (s[i].z0<0)<;>cases decide (s[i].z0>=s[i].z1)<;>cases decide (s[i].z1>4096)<;>cases decide (s[i].area=[])<;>rfl
   rw[b];simp only[ah];cases C3 s[i]with
   |true=>simp[dh]
   |false=>
    by_cases h0:i=0
    ·subst h0;have:((((0:Nat):Int))==0)=true:=rfl;simp only[this,aj,ak,dw,dif_pos,Option.any_none,Bool.or_false]
    ·have e0:((i:Int)==0)=false:=(by simp;omega);have w:i64.wrap ((i:Int) -1)=((i -1:Nat):Int):=lC (by omega) (by omega);have h2:=ha _ (getElem_mem (show i -1<s.length by omega));simp only[e0,ak,w,bB (show i -1<s.length by omega),ah,agQ (n:=n) (a:=s[i -1].area) (b:=s[i].area) (by omega) (by omega),h0,dif_neg,not_false_eq_true,Option.any_some,Bool.false_or];cases decide (s[i -1].z1>s[i].z0)with
     |true=>simp[dh]
     |false=>
      cases s[i -1].z1==s[i].z0 with
      |false=>simp[dh]
      |true=>cases decide (s[i -1].area=s[i].area)<;>simp[dh]
  ·rw[pX];simp[CV]
 ·have d:decide ((s.length:Int)>80)=true:=by simp;omega
  have d2:decide (s.length<=80)=false:=by simpa using h80
  rw[d,d2];rfl
structure ale(x:fI):Prop where
 lo:0<=x.z0
 lt:x.z0<x.z1
 hi:x.z1<=4096
 ne:x.area≠[]
 rt:cJ x.area=true
def aof(s:List fI):Prop:=∀i (h:i+1<s.length),s[i].z1<=s[i+1].z0/\¬(s[i].z1=s[i+1].z0/\s[i].area=s[i+1].area)
theorem aeO(x:fI):C3 x=false↔ale x:=by
 unfold C3;simp only[Bool.or_eq_false_iff,dN,Bool.not_eq_false'];constructor
 ·rintro⟨h1,h2,h3,h4,h5⟩;exact⟨by omega,by omega,by omega,h4,h5⟩
 ·rintro⟨h1,h2,h3,h4,h5⟩;exact⟨by omega,by omega,by omega,h4,h5⟩
theorem NG(s:List fI):DR s=true↔s.length<=80/\(∀ x∈s,ale x)/\aof s:=by
 unfold DR;rw[aJ,aT,Bool.not_eq_true',List.any_eq_false];refine and_congr_right λ_=>?_;constructor
 ·intro h;have key:∀i (hi:i<s.length),xm ((DL s)[i]'(by rw[pX];exact hi))=false:=λi hi=>by
   have:=h _ (getElem_mem (show i<(DL s).length by rw[pX];exact hi));simpa using this
  refine⟨λ x hx=>?_,λi hi=>?_⟩
  ·obtain⟨i,hi,rfl⟩:=mem_iff_getElem.1 hx;have:=key i hi;rw[H6]at this;unfold xm at this;rw[Bool.or_eq_false_iff]at this;exact(aeO _).1 this.1
  ·have:=key (i+1) hi;rw[H6]at this;unfold xm at this;rw[Bool.or_eq_false_iff]at this;have h2:=this.2;simp only[Nat.succ_ne_zero,dif_neg,not_false_eq_true,Option.any_some,Nat.add_sub_cancel,Bool.or_eq_false_iff,dN,Bool.and_eq_false_iff,beq_eq_false_iff_ne]at h2;refine⟨by omega,λ⟨e1,e2⟩=>?_⟩;rcases h2.2 with h3 |h3
   ·exact h3 e1
   ·exact h3 e2
 ·rintro⟨h1,h2⟩ p hp;obtain⟨i,hi,rfl⟩:=mem_iff_getElem.1 hp;rw[H6];rw[pX]at hi;unfold xm;have hb:=(aeO _).2 (h1 _ (getElem_mem hi));by_cases h0:i=0
  ·simp[h0]at hb ⊢;exact hb
  ·obtain⟨j,rfl⟩:∃j,i=j+1:=⟨i -1,by omega⟩;have⟨n1,n2⟩:=h2 j hi;simp only[Nat.succ_ne_zero,dif_neg,not_false_eq_true,Option.any_some,Nat.add_sub_cancel];rw[hb];simp only[Bool.false_or,Bool.or_eq_true,aT,aJ,beq_iff_eq];rintro (h |h)
   ·omega
   ·exact n2 h
theorem tX{l:List fI}{φ:(fI×Unit)->Option Bool}(p:fI->Bool)(h:∀x∈l,φ (x,())=some (p x))(hl:l.length<1099511627776)(hn:l.length<n):jh n l φ=some (l.any p):=by
 unfold jh uP;have:=tJ (l:=l) (step:=mD l φ) (λ i=>(i:Int)) p () (λ i=>(i:Int)) (λ i hi=>?_) (by simp[mD]) n hn
 ·rw[show ((0:Nat):Int)=0 from rfl]at this;rw[this,<- RN];cases pq p l with
  |none=>rfl
  |some i=>simp<;>omega
 ·have hi':decide ((i:Int)<(l.length:Int))=true:=by simpa using hi
  simp only[mD,hi',aj,bB hi,ah,h _ (getElem_mem hi)];rw[aR (by omega)];cases p l[i]<;>rfl
def IN(s:List fI)(lot:Int)(e:j4):Bool:=e.lot==lot&&(cJ e.area&&s.any λc=>decide (c.z1>e.top)&&HU c.area e.area)
def Ym(l:List j4)(lot:Int)(s:List fI):Bool:=DR s&&!(l.any (IN s lot))
theorem ZQ{l:List j4}{lot:Int}{s:List fI}(hl:l.length<=900)(he:∀e∈l,e.area.length<=900)(ha:∀x∈s,x.area.length<=900)(hn:1000<=n):Hq n l lot s=some (Ym l lot s):=by
 unfold Hq Ym;rw[TU ha hn];simp only[ah];cases hr:DR s with
 |false=>rfl
 |true=>
 have l80:=((NG s).1 hr).1;have:=tJ (l:=l) (step:=wT n l lot s) (λ i=>(i:Int)) (IN s lot) () (λ _=>false) (λ i hi=>?_) (by simp[wT]) n (by omega)
 ·rw[show ((0:Nat):Int)=0 from rfl]at this;simp only[Bool.not_true,ak];rw[this,<- RN];cases pq (IN s lot) l<;>rfl
 ·have hi':decide ((i:Int)<(l.length:Int))=true:=by simpa using hi
  have h1:=he _ (getElem_mem hi);have cf:=tX (n:=n) (l:=s) (φ:=λy:fI×Unit=>rO n y.1 l[i]) (λ c=>decide (c.z1>l[i].top)&&HU c.area l[i].area) (λ c hc=>by
   have:=ha c hc;show rO n c l[i]=_;unfold rO;rw[agP (by omega) (by omega) (by omega) (by omega)];cases decide (c.z1>l[i].top)<;>rfl) (by omega) (by omega)
  simp only[wT,hi',aj,bB hi,ah,mE (n:=n) (l:=l[i].area) (by omega) (by omega) hn,cf];rw[aR (by omega)];unfold IN;cases h2:l[i].lot==lot with
  |false=>
   have:(l[i].lot !=lot)=true:=(by simp[bne,h2]);simp[this,dh]
  |true=>
   have:(l[i].lot !=lot)=false:=(by simp[bne,h2]);simp only[this,ak,ah];cases cJ l[i].area with
   |false=>simp[dh]
   |true=>cases s.any λc=>decide (c.z1>l[i].top)&&HU c.area l[i].area<;>simp[dh]
theorem aeP(r:ay):d6 r=true↔(0<=r.x0/\r.x0<r.x1/\r.x1<=1048576)/\(0<=r.y0/\r.y0<r.y1/\r.y1<=1048576):=by simp only[d6,aJ,aT];omega
theorem Mh{b:ay}{l:List dS}(r:ay)(x:Int)(hb:d6 b=true)(hp:∀p∈l,Yi p=true)(hr:d6 r=true)(hx:0<=x/\x<1048576)(hl:l.length<=1000)(hn:2000<=n)(v:Int):
 iter (oH n b l r x) n (v,(0:Int))=some (min (min v (ZP b l x r.y0)) (ZP b l x (r.y1 -1))):=by
 have ho:=(aeP r).1 hr;have w:i64.wrap (r.y1 -1)=r.y1 -1:=bS (by omega) (by omega);have:=oK (l:=[r.y0,r.y1 -1]) (step:=oH n b l r x) (λ i (s:Int)=>(s,(i:Int))) (λ y m=>min m (ZP b l x y)) (λ s=>s) (λ i hi s=>?_) (λ s=>by simp[oH]) n (by simp;omega) v
 ·rw[show ((0:Nat):Int)=0 from rfl]at this;exact this
 ·have h2:i<2:=by simpa using hi
  have yb:0<=([r.y0,r.y1 -1]:List Int)[i]/\([r.y0,r.y1 -1]:List Int)[i] <1048576:=by
   rcases i with _ |_ |i
   ·simp only[List.getElem_cons_zero];omega
   ·simp only[List.getElem_cons_succ,List.getElem_cons_zero];omega
   ·omega
  simp only[oH,show decide ((i:Int)<2)=true from decide_eq_true (by omega),dU h2,aj,bL h2,w,bM hi,ah,acG hb hp ⟨hx,yb⟩ hl hn,aY i]
def S4(b:ay)(l:List dS)(v:Int)(r:ay):Int:=min (min (min (min v (ZP b l r.x0 r.y0)) (ZP b l r.x0 (r.y1 -1))) (ZP b l (r.x1 -1) r.y0)) (ZP b l (r.x1 -1) (r.y1 -1))
theorem Mi{b:ay}{l:List dS}(r:ay)(hb:d6 b=true)(hp:∀p∈l,Yi p=true)(hr:d6 r=true)(hl:l.length<=1000)(hn:2000<=n)(v:Int):
 iter (oI n b l r) n (v,(0:Int))=some (S4 b l v r):=by
 have ho:=(aeP r).1 hr;have w:i64.wrap (r.x1 -1)=r.x1 -1:=bS (by omega) (by omega);have:=oK (l:=[r.x0,r.x1 -1]) (step:=oI n b l r) (λ i (s:Int)=>(s,(i:Int))) (λ x m=>min (min m (ZP b l x r.y0)) (ZP b l x (r.y1 -1))) (λ s=>s) (λ i hi s=>?_) (λ s=>by simp[oI]) n (by simp;omega) v
 ·rw[show ((0:Nat):Int)=0 from rfl]at this;exact this
 ·have h2:i<2:=by simpa using hi
  have xb:0<=([r.x0,r.x1 -1]:List Int)[i]/\([r.x0,r.x1 -1]:List Int)[i] <1048576:=by
   rcases i with _ |_ |i
   ·simp only[List.getElem_cons_zero];omega
   ·simp only[List.getElem_cons_succ,List.getElem_cons_zero];omega
   ·omega
  simp only[oI,show decide ((i:Int)<2)=true from decide_eq_true (by omega),dU h2,aj,bL h2,w,bM hi,ah,Mh r _ hb hp hr xb hl hn,aY i]
def IM(b:ay)(l:List dS)(a:List ay):Int:=a.foldl (S4 b l) 4096
theorem Ux{b:ay}{l:List dS}{a:List ay}(hb:d6 b=true)(hp:∀p∈l,Yi p=true)(ha:∀r∈a,d6 r=true)(hal:a.length<=1000)(hl:l.length<=1000)(hn:2000<=n):zC n b l a=some (IM b l a):=by
 unfold zC;have:=oK (l:=a) (step:=sD n b l a) (λ i (s:Int)=>(s,(i:Int))) (λ r m=>S4 b l m r) (λ s=>s) (λ i hi s=>?_) (λ s=>by simp[sD]) n (by omega) 4096
 ·rw[show ((0:Nat):Int)=0 from rfl]at this;rw[this];rfl
 ·simp only[sD,dU hi,aj,bB hi,ah,Mi a[i] hb hp (ha _ (getElem_mem hi)) hl hn,aY i]
theorem amw(r:ay):d6 r=true↔(0<=r.x0/\r.x0<r.x1/\r.x1<=1048576)/\(0<=r.y0/\r.y0<r.y1/\r.y1<=1048576):=by simp only[d6,aJ,aT];omega
def four(r m:ay):List ay:=[⟨r.x0,r.y0,m.x0,r.y1⟩,⟨m.x1,r.y0,r.x1,r.y1⟩,⟨m.x0,r.y0,m.x1,m.y0⟩,⟨m.x0,m.y1,m.x1,r.y1⟩]
abbrev BT(t:gZ):Prop:=t.area.length<=900/\t.from_.length*8<=140737488355328
theorem agW{t:gZ}(h:BT t):Pk t=some t:=by
 unfold Pk;have h2:=h.2;rw[RF (by omega),ah,show GV t.from_=some t.from_ from TJ (b:=8) (by omega) (by simp only[maxLen];omega),ah];simp only[dn,aG,aj]
theorem ajr{land:List gZ}{id:Int}(h:∀t∈land,BT t)(hl:land.length<1099511627776)(hn:land.length<n):Pm n land id=some (ny land id):=by
 unfold Pm;have:=tJ (l:=land) (step:=GX land id) (λ i=>(i:Int)) (λ t=>t.id==id) () (λ i=>(land.getD i Tr,true)) (λ i hi=>?_) ?_ n hn
 ·rw[show ((0:Nat):Int)=0 from rfl]at this;rw[this];unfold ny;rcases Yf (λ t:gZ=>t.id==id) land with ⟨i,hi,h1,h2⟩ |⟨h1,h2⟩
  ·rw[h1,h2];simp[hi]
  ·rw[h1,h2];rfl
 ·simp only[GX,dU hi,aj,bB hi,ah,agW (h _ (getElem_mem hi))];cases land[i].id==id with
  |true=>simp[hi]
  |false=>simp only[ak];rw[aR (by omega)]
 ·simp[GX]
theorem RY{land:List gZ}(h:∀t∈land,BT t)(id:Int):BT (ny land id).1:=by
 unfold ny;split
 ·rename_i t ht;exact h t (List.mem_of_find?_eq_some ht)
 ·simp[BT,Tr]
structure aot(t:dG):Prop where
 rules:t.az.length<=20
 NL:∀r∈t.az,KV r
 zones:t.b8.length<=20
 land:t.land.length<=20
 lots:∀l∈t.land,BT l
 cy:t.cy.length<=5
 aow:∀e∈t.cy,e.area.length<=10
theorem TW{α:Type}(p:α->Bool):∀l:List α,((List.range l.length).filter λi=>(l[i]?).any p).filterMap (λ i=>l[i]?)=l.filter p
 |[]=>rfl
 |a::l=>by
  have ih:=TW p l;rw[bE,List.range_succ_eq_map,List.filter_cons,List.filter_cons];have e:(List.filter (λ i=>((a::l)[i]?).any p) (List.map Nat.succ (List.range l.length))).filterMap (λ i=>(a::l)[i]?)=l.filter p:=by
   rw[List.filter_map,List.filterMap_map];exact ih
  cases hp:p a with
  |true=>simp[hp];simpa using e
  |false=>simp[hp];simpa using e
def DH(a r:ay):ay:=⟨min a.x0 r.x0,min a.y0 r.y0,max a.x1 r.x1,max a.y1 r.y1⟩
def aif:List ay->ay
 |[]=>⟨0,0,0,0⟩
 |r::l=>l.foldl DH r
def VA(a:List ay):ay×Bool:=bif decide (a≠[])&&cJ a then(aif a,true)else(⟨0,0,0,0⟩,false)
theorem aeQ{a:List ay}(ha:a≠[])(hv:∀r∈a,d6 r=true)(hl:a.length<=900)(hn:2000<=n):PG n a=some (aif a,true):=by
 unfold PG;have:=oK (l:=a.zip (List.range a.length)) (step:=CQ a) (λ i (s:Bool×Int×Int×Int×Int)=>(s.1,(i:Int),s.2)) (λ p s=>bif !s.1 then(true,p.1.x0,p.1.y0,p.1.x1,p.1.y1)else(s.1,min s.2.1 p.1.x0,min s.2.2.1 p.1.y0,max s.2.2.2.1 p.1.x1,max s.2.2.2.2 p.1.y1)) (λ s=>s) (λ i hi s=>?_) (λ s=>?_) n (by simp;omega) (false,0,0,0,0)
 ·rw[show ((0:Nat):Int)=0 from rfl]at this;simp only at this;rw[this];cases a with
  |nil=>exact absurd rfl ha
  |cons r l=>
   have gen:∀(l:List ay) (k:List Nat) (s:ay),l.length<=k.length->(l.zip k).foldl (λ (s:Bool×Int×Int×Int×Int) p=>bif !s.1 then(true,p.1.x0,p.1.y0,p.1.x1,p.1.y1)else(s.1,min s.2.1 p.1.x0,min s.2.2.1 p.1.y0,max s.2.2.2.1 p.1.x1,max s.2.2.2.2 p.1.y1)) (true,s.x0,s.y0,s.x1,s.y1)=(true,(l.foldl DH s).x0,(l.foldl DH s).y0,(l.foldl DH s).x1,(l.foldl DH s).y1):=by
    intro l
    induction l with
    |nil=>intro k s _;rfl
    |cons r l ih=>
     intro k s hk;cases k with
     |nil=>simp at hk
     |cons j k=>
      rw[List.zip_cons_cons,foldl_cons,foldl_cons];exact ih k (DH s r) (by simpa using hk)
   rw[bE,List.range_succ_eq_map,List.zip_cons_cons,foldl_cons];simp only[Bool.not_false,aj];rw[gen l _ r (by simp)];rfl
 ·have hi':i<a.length:=by simpa using hi
  obtain⟨s1,s2,s3,s4,s5⟩:=s;have ok:=hv _ (getElem_mem hi');simp only[CQ,dU hi',aj,bB hi',ah,jD,ok,Bool.not_true,ak,PS,List.getElem_zip,aY i]
 ·obtain⟨s1,s2,s3,s4,s5⟩:=s;have:(a.zip (List.range a.length)).length=a.length:=by simp
  simp only[this,CQ,fU,ak]
theorem acH(a:List ay)(hl:a.length<=900)(hn:2000<=n):LM n a=some (VA a):=by
 unfold LM VA;cases a with
 |nil=>rfl
 |cons r l=>
  have e:((((r::l).length:Nat):Int)==0)=false:=by simp;omega
  have e2:decide (r::l≠[])=true:=by simp
  rw[mE (by omega) (by omega) (by omega),e,e2];simp only[ak,ah,Bool.true_and];cases hr:cJ (r::l)with
  |false=>rfl
  |true=>
   simp only[Bool.not_true,ak];rw[aeQ (by simp) (uU hr).1 hl hn];rfl
theorem LX{V O:Type}{step:V->Option (V⊕O)}(f:Nat->V){s:V}(N:Nat)(o:O)(h0:s=f 0)
 (h1:∀i,i<N->step (f i)=some (.inl (f (i+1)))) (h2:step (f N)=some (.inr o)) (n:Nat) (hn:N<n):iter step n s=some o:=by rw[h0];exact ng f N o h1 h2 n hn
def tb(f:Nat->Nat->Bool):List Bool:=(List.range 144).map λi=>f (i/12) (i%12)
def upd(f:Nat->Nat->Bool)(a b:Nat)(v:Bool):Nat->Nat->Bool:=λx y=>if x=a/\y=b then v else f x y
inductive Tc(e:Nat->Nat->Bool):Nat->Nat->Prop
 |one {a b:Nat}:a<12->b<12->e a b=true->Tc e a b
 |trans {a b c:Nat}:Tc e a b->Tc e b c->Tc e a c
theorem Tc.lt{e:Nat->Nat->Bool}{a b:Nat}(h:Tc e a b):a<12/\b<12:=by
 induction h with
 |one h1 h2 _=>exact⟨h1,h2⟩
 |trans _ _ i1 i2=>exact⟨i1.1,i2.2⟩
def ic(v:aF):ay:=ay.mk v.bz v.cj v.bx v.ci
def okV(v:aF):Bool:=d6 (ic v)&&(decide (0<=v.ek)&&(decide (v.ek<v.dE)&&(decide (v.dE<=4096)&&((decide (v.use=0) || decide (v.units=0))&&(decide (0<=v.use)&&(decide (v.use<6)&&(decide (0<=v.units)&&decide (v.units<=1048576))))))))
theorem uX(v:aF):gm v=some (okV v):=by
 unfold gm okV;rw[jD];have e1:decide (v.ek<0)=!decide (0<=v.ek):=by rw[<- decide_not,decide_eq_decide];omega
 have e2:decide (v.ek>=v.dE)=!decide (v.ek<v.dE):=by rw[<- decide_not,decide_eq_decide];omega
 have e3:decide (v.dE>4096)=!decide (v.dE<=4096):=by rw[<- decide_not,decide_eq_decide];omega
 have e4:(v.use !=0)=!decide (v.use=0):=by by_cases h:v.use=0<;>simp[h]
 have e5:(v.units !=0)=!decide (v.units=0):=by by_cases h:v.units=0<;>simp[h]
 rw[e1,e2,e3,e4,e5,show ay.mk v.bz v.cj v.bx v.ci=ic v from rfl];simp only[ge_iff_le];generalize d6 (ic v)=a1;generalize decide (0<=v.ek)=a2;generalize decide (v.ek<v.dE)=a3;generalize decide (v.dE<=4096)=a4;generalize decide (v.use=0)=a5;generalize decide (v.units=0)=a6;generalize decide (0<=v.use)=a7;generalize decide (v.use<6)=a8;generalize decide (0<=v.units)=a9;generalize decide (v.units<=1048576)=jt;cases a1<;>cases a2<;>cases a3<;>cases a4<;>cases a5<;>cases a6<;>cases a7<;>cases a8<;>cases a9<;>rfl
theorem Qa{v:aF}(h:okV v=true):d6 (ic v)=true:=by rw[okV,aJ]at h;exact h.1
def kM(d:aV):List aF:=d.phases.flatMap (·.cx)
theorem Qb{l:List iH}(h:∀p∈l,p.cx.length<=1000):(l.flatMap (·.cx)).length<=l.length*1000:=by
 induction l with
 |nil=>simp
 |cons p l ih=>
  have h1:=h p (by simp);have h2:=ih λq hq=>h q (by simp[hq]);simp only[List.flatMap_cons,dH,bE];omega
def ZR(d:aV):Prop:=d.phases.length<=1000/\∀p∈d.phases,p.cx.length<=1000
theorem Yn{d:aV}(h:ZR d)(hn:1001<=n):oD n d 0 (d.phases.length:Int)=some (kM d):=by
 obtain⟨h1,h2⟩:=h;unfold oD;have key:=LX (step:=nV d 0 (d.phases.length:Int)) (λ i=>((i:Int),(d.phases.take i).flatMap (·.cx))) (s:=((0:Int),([]:List aF))) d.phases.length (kM d) rfl (λ i hi=>by
  have e2:decide ((i:Int)>=0)=true:=by simp
  have hl:=Qb (l:=d.phases.take i) λp hp=>h2 p (List.mem_of_mem_take hp);rw[length_take]at hl;have hv:=h2 _ (getElem_mem hi);generalize hL:(d.phases.take i).flatMap (·.cx)=L at hl;have hap:bW L.length L.length d.phases[i].cx.length d.phases[i].cx.length 72=true:=eX (by omega) (by simp only[maxLen];omega);simp only[nV,dU hi,aj,bB hi,ah,e2,hap,fF,aG,aY i];rw[jl hi,List.flatMap_append,hL];simp only[List.flatMap_cons,List.flatMap_nil,append_nil]) (by simp only[nV,fU,ak,aG,aj,List.take_length,kM]) n (by omega)
 have hz:bm 0 ([]:List aF).length=true:=rfl;simp only[hz,aj,key,ah,dn,aG]
def To(v:aF):Int:=(lH v).getD 0
theorem Yo(v:aF):lH v=some (To v):=by
 unfold To lH;rw[uX];cases v.extra<;>cases okV v<;>rfl
def Mm(v:aF):Int:=(oU v).getD 0
theorem aeR(v:aF):oU v=some (Mm v):=by
 unfold Mm oU;rw[uX,Yo];cases h:okV v with
 |false=>rfl
 |true=>
  have e:=FI (Qa h);unfold ic at e;simp only[ah,Bool.not_true,ak,e,Option.getD_some]
theorem anG(a0:List fJ)(a1:List bX)(a2:List dY)(a4:List ig)(a5:List fH)(a6:List bU)(a7:Int)(a8:List ay){a9:List aF}(hl:a9.length<=1000)(hn:1001<=n):∃r,∀a3:List aP,kP n a0 a1 a2 a3 a4 a5 a6 a7 a8 a9=some (r,a0,a1,a2,a3,a4,a5,a6,a7,a8,a9):=by
 have key:=oK (l:=a9) (step:=jK a9) (λ i (s:Int)=>(s,(i:Int))) (λ v s=>i64.wrap (s+Mm v)) (λ s=>s) (λ i hi s=>by simp only[jK,dU hi,aj,bL hi,bM hi,ah,aeR,aY i]) (λ s=>by simp only[jK,fU,ak]) n (by omega) 0;rw[show ((0:Nat):Int)=0 from rfl]at key;unfold kP qR;simp only[key,ah,aG,aj];exact⟨_,λ_=>rfl⟩
theorem anH(a0:List fJ)(a1:List bX)(a2:List dY)(a4:List ig)(a5:List fH)(a6:List bU)(a7:Int)(a8:List ay){a9:List aF}(hl:a9.length<=1000)(hn:1001<=n):∃r,∀a3:List aP,kQ n a0 a1 a2 a3 a4 a5 a6 a7 a8 a9=some (r,a0,a1,a2,a3,a4,a5,a6,a7,a8,a9):=by
 have key:=oK (l:=a9) (step:=jN a9) (λ i (s:Int)=>(s,(i:Int))) (λ v s=>i64.wrap (s+v.units)) (λ s=>s) (λ i hi s=>by simp only[jN,dU hi,aj,bL hi,bM hi,ah,o7,aY i]) (λ s=>by simp only[jN,fU,ak]) n (by omega) 0;rw[show ((0:Nat):Int)=0 from rfl]at key;unfold kQ qU;simp only[key,ah,aG,aj];exact⟨_,λ_=>rfl⟩
theorem alg(a0:List fJ)(a1:List bX)(a2:List dY)(a4:List ig)(a5:List fH)(a6:List bU)(a7:Int)(a8:List ay){a9:List aF}(hl:a9.length<=1000)(hn:1001<=n):∃r,∀a3:List aP,jL n a0 a1 a2 a3 a4 a5 a6 a7 a8 a9=some (r,a0,a1,a2,a3,a4,a5,a6,a7,a8,a9):=by
 have key:=oK (l:=a9) (step:=gW a9) (λ i (s:Int)=>(s,(i:Int))) (λ v s=>max s (To v)) (λ s=>s) (λ i hi s=>by simp only[gW,dU hi,aj,bL hi,bM hi,ah,Yo,aY i]) (λ s=>by simp only[gW,fU,ak]) n (by omega) 0;rw[show ((0:Nat):Int)=0 from rfl]at key;unfold jL mR;simp only[key,ah,aG,aj];exact⟨_,λ_=>rfl⟩
theorem alh(a0:List fJ)(a1:List bX)(a2:List dY)(a4:List ig)(a5:List fH)(a6:List bU)(a7:Int)(a8:List ay){a9:List aF}(hl:a9.length<=1000)(hn:1001<=n):∃r,∀a3:List aP,jM n a0 a1 a2 a3 a4 a5 a6 a7 a8 a9=some (r,a0,a1,a2,a3,a4,a5,a6,a7,a8,a9):=by
 have key:=oK (l:=a9) (step:=gX a9) (λ i (s:Int)=>(s,(i:Int))) (λ v s=>max s v.dE) (λ s=>s) (λ i hi s=>by simp only[gX,dU hi,aj,bL hi,bM hi,ah,nZ,aY i]) (λ s=>by simp only[gX,fU,ak]) n (by omega) 0;rw[show ((0:Nat):Int)=0 from rfl]at key;unfold jM mU;simp only[key,ah,aG,aj];exact⟨_,λ_=>rfl⟩
theorem ajs(e:bP)(a:LF){u:Int}(h0:0<=u)(h6:u<6):∃b,kG e a u=some b:=by
 obtain⟨k,rfl⟩:∃k:Nat,u=(k:Int):=⟨u.toNat,by omega⟩;have hk:k<6:=by omega
 unfold kG;rw[bL hk,bB (l:=[a.a0,a.a1,a.a2,a.a3,a.a4,a.a5]) hk];exact⟨_,rfl⟩
theorem H7{l:List bP}{φ:(bP×Unit)->Option Bool}(p:bP->Bool)(h:∀x∈l,φ (x,())=some (p x))(hl:l.length<=9223372036854775807)(hn:l.length<n):kH n l φ=some (Du p l):=Iz p h hl hn
theorem anI(p:cK){u:Int}(h0:0<=u)(h6:u<6)(ht:p.tables.length<n)(ht2:p.tables.length<=9223372036854775807)(hr:∀t∈p.tables,t.rows.length<n/\t.rows.length<=9223372036854775807):∃r,CG n p u=some r:=by
 have key:∃o,iter (kI n p u) n (0:Int)=some o/\True:=by
  have step:∀i (hi:i<p.tables.length),kI n p u (i:Int)=some (.inl ((i+1:Nat):Int))\/∃z,kI n p u (i:Int)=some (.inr (.inr z)):=by
   intro i hi;obtain⟨r1,r2⟩:=hr _ (getElem_mem hi);simp only[kI,dU hi,aj,bB hi,ah,aY i];cases ByteArray.toList p.tables[i].name==ByteArray.toList ⟨#[116,114,97,102,102,105,99]⟩with
   |false=>exact Or.inl rfl
   |true=>
    right;simp only[Bool.not_true,ak];generalize LF.mk _ _ _ _ _ _=A;have hx:=H7 (n:=n) (l:=p.tables[i].rows) (φ:=λy1=>kG y1.1 A u) (λ e=>(kG e A u).getD false) (λ e _=>by have⟨b,hb⟩:=ajs e A h0 h6;simp[hb]) r2 r1;rw[hx];simp only[ah,ze];cases hany:p.tables[i].rows.any λe=>(kG e A u).getD false with
    |false=>exact⟨_,rfl⟩
    |true=>
     have⟨j,hj,h1,_⟩:=akD hany;rw[h1];simp only[aj,bB hj,ah];exact⟨_,rfl⟩
  have main:∀k i m,i+k=p.tables.length->k<m->∃o,iter (kI n p u) m (i:Int)=some o/\True:=by
   intro k
   induction k with
   |zero=>
    intro i m hi hm;obtain⟨q,rfl⟩:∃q,m=q+1:=⟨m -1,by omega⟩;have:i=p.tables.length:=(by omega);subst this;exact⟨.inl (),bI (by simp only[kI,fU,ak]),trivial⟩
   |succ k ih=>
    intro i m hi hm;obtain⟨q,rfl⟩:∃q,m=q+1:=⟨m -1,by omega⟩;rcases step i (by omega)with h |⟨z,h⟩
    ·rw[dm h];exact ih (i+1) q (by omega) (by omega)
    ·exact⟨_,bI h,trivial⟩
  exact main p.tables.length 0 n (by omega) ht
 obtain⟨o,h1,_⟩:=key;unfold CG;rw[h1];cases o with
 |inl w=>exact⟨_,rfl⟩
 |inr r=>exact⟨_,rfl⟩
theorem agX(p:cK){v:aF}(hv:okV v=true)(ht:p.tables.length<n)(ht2:p.tables.length<=9223372036854775807)(hr:∀t∈p.tables,t.rows.length<n/\t.rows.length<=9223372036854775807):∃r,lI n p v=some r:=by
 simp only[okV,aJ,aT]at hv;have⟨r,h1⟩:=anI (n:=n) p (u:=v.use) hv.2.2.2.2.2.1 hv.2.2.2.2.2.2.1 ht ht2 hr;unfold lI;rw[h1,aeR];simp only[ah];have e100:((100:Int) !=0)=true:=rfl;by_cases h:r>0
 ·have e:(r !=0)=true:=by simp only[bne_iff_ne,ne_eq];omega
  have e2:decide (r>0)=true:=by simpa using h
  rw[e,e2];simp only[aj,ah,e100];cases decide (Mm v>i64.wrap (Int.tdiv 109951162777600 r))<;>exact⟨_,rfl⟩
 ·have e2:decide (r>0)=false:=by simpa using h
  rw[e2];exact⟨_,rfl⟩
theorem anJ(a0:List fJ)(a1:List bX)(a2:List dY)(a4:List ig)(a5:List fH)(a6:List bU)(a7:Int)(a8:List ay){a9:List aF}(hl:a9.length<=1000)(hn:1001<=n)(hv:∀v∈a9,okV v=true)(ht:a1.length<n)(ht2:a1.length<=9223372036854775807)(hr:∀t∈a1,t.rows.length<n/\t.rows.length<=9223372036854775807):∃r,∀a3:List aP,jv n a0 a1 a2 a3 a4 a5 a6 a7 a8 a9=some (r,a0,a1,a2,a3,a4,a5,a6,a7,a8,a9):=by
 have key:=λa3:List aP=>fZ (l:=a9) (step:=jP n a9) (λ i (s:Int)=>(s,(i:Int),a0,a1,a2,a3,a4,a5,a6,a7,a8,a9)) (λ v s=>i64.wrap (s+(lI n (cK.mk a0 a1 a2 [] a4 a5 a6 a7) v).getD 0)) (λ s=>(s,a0,a1,a2,a3,a4,a5,a6,a7,a8,a9)) (λ _ _=>True) (λ i hi s _=>⟨by
  obtain⟨r,h1⟩:=agX (n:=n) (cK.mk a0 a1 a2 [] a4 a5 a6 a7) (hv _ (getElem_mem hi)) ht ht2 hr;have h2:lI n (cK.mk a0 a1 a2 a3 a4 a5 a6 a7) a9[i]=some r:=h1;simp only[jP,dU hi,aj,bL hi,bM hi,ah,kJ,h1,h2,aG,aY i,Option.getD_some],trivial⟩) (λ s _=>by simp only[jP,fU,ak,aG,aj]) n (by omega) 0 trivial
 have key:=λa3=>(show ((0:Nat):Int)=0 from rfl) ▸ key a3;unfold jv qV;simp only[key,ah,aG,aj];exact⟨_,λ_=>rfl⟩
theorem ali{α β:Type}(l:List α)(f:α->β)(z:β){i:Nat}(hi:i<l.length):((l.take i).map f++List.replicate (l.length -i) z).set i (f l[i])=(l.take (i+1)).map f++List.replicate (l.length -(i+1)) z:=by
 have h1:((l.take i).map f).length=i:=by simp;omega
 rw[List.set_append_right _ _ (by omega),h1,Nat.sub_self,show l.length -i=(l.length -(i+1))+1 by omega,List.replicate_succ,List.set_cons_zero,jl hi,List.map_append,aK];rfl
theorem alj{α β:Type}(l:List α)(f:α->β)(z:β){i:Nat}(hi:i<=l.length):((l.take i).map f++List.replicate (l.length -i) z).length=l.length:=by simp;omega
theorem alk{α β:Type}(l:List α)(f:α->β)(z:β){i:Nat}(hi:i<l.length):((l.take (i+1)).map f++List.replicate (l.length -(i+1)) z)[i]? =some (f l[i]):=by rw[List.getElem?_append_left (by simp;omega)];simp[hi]
theorem alm{l:List aF}(hl:l.length<=1000)(hn:1001<=n):iter (gD l) n ((0:Int),List.replicate l.length (ay.mk 0 0 0 0),([]:List Int))=some (l.map ic,l.flatMap λv=>[v.bz,v.bx]):=by
 refine LX (step:=gD l) (λ i=>((i:Int),(l.take i).map ic++List.replicate (l.length -i) (ay.mk 0 0 0 0),(l.take i).flatMap λv=>[v.bz,v.bx])) l.length _ ?_ (λ i hi=>?_) ?_ n (by omega)
 ·simp
 ·have h1:=alj l ic (ay.mk 0 0 0 0) (Nat.le_of_lt hi);have h2:=ali l ic (ay.mk 0 0 0 0) hi;have h3:=alk l ic (ay.mk 0 0 0 0) hi;have h4:((l.take i).flatMap λv=>[v.bz,v.bx]).length=2*i:=by
   have:∀m:List aF,(m.flatMap λv=>[v.bz,v.bx]).length=2*m.length:=by
    intro m;induction m with
    |nil=>rfl
    |cons a m ih=>simp only[List.flatMap_cons,dH,ih,bE,length_nil];omega
   rw[this,length_take];omega
  generalize (l.take i).map ic++List.replicate (l.length -i) (ay.mk 0 0 0 0)=B at h1 h2;have e0:(((0:Nat):Int)+(i:Int)).toNat=i:=by omega
  have et:((l.length:Int):Int).toNat=l.length:=by omega
  have hb:ay.mk l[i].bz l[i].cj l[i].bx l[i].ci=ic l[i]:=rfl;have hiB:i<B.length:=by omega
  rw[<- h2]at h3;have g3:bp (B.set i (ic l[i])) (((0:Nat):Int)+(i:Int))=some (ic l[i]):=by rw[Cy];exact h3
  have hs:sub ([(ic l[i]).x0,(ic l[i]).x1]:List Int) 0 2=[(ic l[i]).x0,(ic l[i]).x1]:=rfl;have hap:bW (2*i) (2*i) 2 2 8=true:=eX (by omega) (by simp only[maxLen];omega);have hl2:([(ic l[i]).x0,(ic l[i]).x1]:List Int).length=2:=rfl;simp only[gD,dU hi,aj,bL hi,bM hi,ah,et,bM hiB,e0,hb,g3,hs,hl2,h4,hap,fF,aG,aY i];rw[<- h2,jl hi,List.flatMap_append];rfl
 ·simp only[gD,fU,ak,aG,aj,List.take_length];simp
theorem aln{l:List aF}{R:List ay}{X:List Int}(w2:List Int)(hR:R.length=l.length)(hX:X.length=w2.length)(hl:l.length<=1000)(hn:1001<=n){k:Nat}(hk:k+1<w2.length)(hw:w2.length<=10000)(s:Int):∃o,iter (jc l w2 R X (k:Int)) n (s,(0:Int),(0:Int))=some o/\True:=by
 refine P7 (λ i (v:Int×Int×Int)=>v.2.2=(i:Int)) l.length (λ _=>True) (λ i v hi hv=>?_) (λ v hv=>?_) n (by omega) _ rfl
 ·obtain⟨a,b,c⟩:=v;simp only at hv;subst hv;have et:(((l.length:Int):Int).toNat)=l.length:=by omega
  have ew:i64.wrap ((k:Int)+1)=((k+1:Nat):Int):=aR (by omega);simp only[jc,et,dU hi,aj,bL hi,bM (show i<R.length by omega),ah,bL (show k<w2.length by omega),bM (show k<X.length by omega),ew,bL hk,bM (show k+1<X.length by omega),aY i];cases decide ((R[i]'(by omega)).x0<=X[k]'(by omega))with
  |false=>exact⟨_,rfl,rfl⟩
  |true=>
   simp only[aj,ah];cases decide (X[k]'(by omega)<(R[i]'(by omega)).x1)with
   |false=>exact⟨_,rfl,rfl⟩
   |true=>
    simp only[aj,ah];cases decide ((R[i]'(by omega)).y1>b)<;>exact⟨_,rfl,rfl⟩
 ·obtain⟨a,b,c⟩:=v;simp only at hv;subst hv;have et:(((l.length:Int):Int).toNat)=l.length:=by omega
  simp only[jc,et,fU,ak];exact⟨_,rfl,trivial⟩
theorem alo(a0:List fJ)(a1:List bX)(a2:List dY)(a4:List ig)(a5:List fH)(a6:List bU)(a7:Int)(a8:List ay){a9:List aF}(hl:a9.length<=1000)(hn:10000<=n):∃r,∀a3:List aP,iP n a0 a1 a2 a3 a4 a5 a6 a7 a8 a9=some (r,a0,a1,a2,a3,a4,a5,a6,a7,a8,a9):=by
 have et:(((a9.length:Int):Int).toNat)=a9.length:=by omega
 have mk:Bz (a9.length:Int) 32=true:=aic (by omega) (by simp only[maxLen];omega);have d1:decide ((a9.length:Int)<=(a9.length:Int))=true:=by simp
 have d2:decide (0<=(a9.length:Int))=true:=by simp
 have hz:bm 0 ([]:List Int).length=true:=rfl;have hx:(a9.flatMap λv=>[v.bz,v.bx]).length<=2000:=by
  have:∀m:List aF,(m.flatMap λv=>[v.bz,v.bx]).length=2*m.length:=by
   intro m;induction m with
   |nil=>rfl
   |cons a m ih=>simp only[List.flatMap_cons,dH,ih,bE,length_nil];omega
  rw[this];omega
 unfold iP;rw[et,alm hl (by omega)];generalize (a9.flatMap λv=>[v.bz,v.bx])=W at hx;have srt:=Mg (n:=n) (l:=a9.map ic) (φ:=λy1=>iO y1.1 y1.2.1) (λ x y=>if x.y0<y.y0 then -1 else if y.y0<x.y0 then 1 else 0) (λ x y=>by
  show iO x y=_;unfold iO;rw[kL];rfl) (λ x y=>by
  unfold ur;rw[decide_eq_decide];constructor
  ·intro h;split at h
   ·assumption
   ·split at h<;>omega
  ·intro h;rw[aO h];decide) (by simp;omega) (by simp;omega)
 have hm:bm a9.length (a9.map ic).length=true:=by simp
 have hR:(Av ur (a9.map ic)).length=a9.length:=by rw[Pd aie];simp
 have hX:(kW mn W).length=W.length:=(Nz mn W).length_eq;simp only[d1,d2,mk,Bool.and_self,aj,hz,ah,hm,srt,aG,pW (show W.length<1099511627776 by omega) (show W.length<n by omega)];generalize Av ur (a9.map ic)=R at hR;generalize kW mn W=X at hX;have key:∃o,iter (jd n a9 W R X) n ((0:Int),(0:Int))=some o/\True:=by
  have eN:max (0:Int) (i64.wrap ((W.length:Int) -1))=((W.length -1:Nat):Int):=by
   cases h:W.length with
   |zero=>rfl
   |succ k=>rw[lC (by omega) (by omega)];omega
  refine P7 (λ i (v:Int×Int)=>v.2=(i:Int)) (W.length -1) (λ _=>True) (λ i v hi hv=>?_) (λ v hv=>?_) n (by omega) _ rfl
  ·obtain⟨a,b⟩:=v;simp only at hv;subst hv;obtain⟨o,ho,_⟩:=aln (n:=n) (l:=a9) (R:=R) (X:=X) W hR hX hl (by omega) (k:=i) (by omega) (by omega) a;simp only[jd,eN,dU hi,aj,ho,ah,aY i];exact⟨_,rfl,rfl⟩
  ·obtain⟨a,b⟩:=v;simp only at hv;subst hv;simp only[jd,eN,fU,ak];exact⟨_,rfl,trivial⟩
 obtain⟨o,ho,_⟩:=key;rw[ho];exact⟨o,λ_=>rfl⟩
def HS(b:ay)(k:Int):ay:=⟨b.x0 -k,b.y0 -k,b.x1+k,b.y1+k⟩
def H8(area:List ay)(b:ay)(k:Int):Bool:=d6 (HS b k)&&decide (area.foldl (λ s y=>Yh (HS b k) s y) 0=HT (HS b k))
theorem ajt(b:ay)(k:Int)(a2:List fJ)(a3:List bX)(a4:List dY)(a5:List aP)(a6:List ig)(a7:List fH)(a8:List bU)(a9:Int){jt:List ay}(so:List aF)(hb:d6 b=true)(h0:0<=k)(h1:k<=1048576)(hl:jt.length<=1000)(hn:1001<=n):
 jO n b k a2 a3 a4 a5 a6 a7 a8 a9 jt so=some (H8 jt b k,a2,a3,a4,a5,a6,a7,a8,a9,jt,so):=by
 rw[amw]at hb;unfold jO Dz H8;rw[bS (x:=b.x0 -k),bS (x:=b.y0 -k),bS (x:=b.x1+k),bS (x:=b.y1+k),show ay.mk (b.x0 -k) (b.y0 -k) (b.x1+k) (b.y1+k)=HS b k from rfl,jD];generalize HS b k=g;simp only[ah];cases hg:d6 g with
 |false=>simp only[Bool.not_false,aj,aG,Bool.false_and]
 |true=>
  have key:=oK (l:=jt) (step:=iK jt (g,true)) (λ i (s:Int)=>(s,(i:Int))) (λ y s=>Yh g s y) (λ s=>s) (λ i hi s=>by
   simp only[iK,dU hi,aj,bB hi,ah,AY,aY i,Yh];cases h1:d6 g with
   |false=>rfl
   |true=>
    cases h2:d6 jt[i]with
    |false=>rfl
    |true=>
     cases h3:d6 (IA g jt[i])with
     |false=>rfl
     |true=>simp only[Bool.and_self,aj,FI h3,ah]) (λ s=>by simp only[iK,fU,ak]) n (by omega) 0
  rw[show ((0:Nat):Int)=0 from rfl]at key;simp only[Bool.not_true,ak,key,ah,FI hg,aG,aj,Bool.true_and];congr 2
def RZ(p:Int->Bool):Nat->Int->Int->Int
 | 0,lo,_=>lo
 |k+1,lo,hi=>bif decide (lo<hi)then(bif p ((lo+hi+1)/2)then RZ p k ((lo+hi+1)/2) hi else RZ p k lo ((lo+hi+1)/2 -1))else lo
theorem We(p:Int->Bool):∀k lo hi,lo<=hi->lo<=RZ p k lo hi/\RZ p k lo hi<=hi
 | 0,lo,hi,h=>by simp only[RZ];omega
 |k+1,lo,hi,h=>by
  simp only[RZ];by_cases h1:lo<hi
  ·have e:decide (lo<hi)=true:=(by simpa using h1);rw[e,aj];cases p ((lo+hi+1)/2)with
   |true=>have:=We p k ((lo+hi+1)/2) hi (by omega);simp only[aj];omega
   |false=>have:=We p k lo ((lo+hi+1)/2 -1) (by omega);simp only[ak];omega
  ·have e:decide (lo<hi)=false:=(by simpa using h1);rw[e,ak];omega
theorem agY{v:aF}(hv:d6 (ic v)=true)(a2:List fJ)(a3:List bX)(a4:List dY)(a5:List aP)(a6:List ig)(a7:List fH)(a8:List bU)(a9:Int){jt:List ay}(so:List aF)(hl:jt.length<=1000)(hn:1001<=n):
 ∀(k:Nat) lo hi m,0<=lo->lo<=hi->hi<=1048576->hi -lo<2 ^ k->k<m->iter (eY n v) m (lo,hi,a2,a3,a4,a5,a6,a7,a8,a9,jt,so)=some (RZ (H8 jt (ic v)) k lo hi,a2,a3,a4,a5,a6,a7,a8,a9,jt,so):=by
 intro k
 induction k with
 |zero=>
  intro lo hi m h0 h1 h2 h3 hm;obtain⟨q,rfl⟩:∃q,m=q+1:=⟨m -1,by omega⟩;have:lo=hi:=by simp at h3;omega
  subst this;refine bI ?_;have e:decide (lo<lo)=false:=by simp
  simp only[eY,e,ak,aG,aj,RZ]
 |succ k ih=>
  intro lo hi m h0 h1 h2 h3 hm;obtain⟨q,rfl⟩:∃q,m=q+1:=⟨m -1,by omega⟩;have hp:(2:Int) ^ (k+1)=2*2 ^ k:=by rw[Int.pow_succ];omega
  rw[hp]at h3;by_cases hlt:lo<hi
  ·have e:decide (lo<hi)=true:=(by simpa using hlt);have e2:((2:Nat) !=0)=true:=rfl;have em:i64.wrap (Int.tdiv (i64.wrap (i64.wrap (lo+hi)+1)) 2)=(lo+hi+1)/2:=(by rw[bS (x:=lo+hi),bS (x:=lo+hi+1),Int.tdiv_eq_ediv_of_nonneg (by omega),bS (by omega) (by omega)]);have hi2:=ajt (n:=n) (ic v) ((lo+hi+1)/2) a2 a3 a4 a5 a6 a7 a8 a9 (jt:=jt) so hv (by omega) (by omega) hl hn;unfold ic at hi2;cases hc:H8 jt (ic v) ((lo+hi+1)/2)with
   |true=>
    rw[dm (v':=((lo+hi+1)/2,hi,a2,a3,a4,a5,a6,a7,a8,a9,jt,so)) (by
     unfold ic at hc;simp only[eY,e,aj,e2,aG,em,hi2,ah,hc]),ih _ _ _ (by omega) (by omega) (by omega) (by omega) (by omega)]
    simp only[RZ,e,aj,hc]
   |false=>
    rw[dm (v':=(lo,(lo+hi+1)/2 -1,a2,a3,a4,a5,a6,a7,a8,a9,jt,so)) (by
     unfold ic at hc;simp only[eY,e,aj,e2,aG,em,hi2,ah,hc,ak,bS (x:=(lo+hi+1)/2 -1)]),ih _ _ _ (by omega) (by omega) (by omega) (by omega) (by omega)]
    simp only[RZ,e,aj,hc,ak]
  ·have e:decide (lo<hi)=false:=(by simpa using hlt);refine bI ?_;simp only[eY,e,ak,aG,aj,RZ]
def Qc(area:List ay)(l:List aF):Int:=l.foldl (λ b v=>RZ (H8 area (ic v)) 21 0 b) 1048576
theorem agZ(a0:List fJ)(a1:List bX)(a2:List dY)(a3:List aP)(a4:List ig)(a5:List fH)(a6:List bU)(a7:Int){a8:List ay}{a9:List aF}(hv:∀v∈a9,okV v=true)(hl:a9.length<=1000)(h8:a8.length<=1000)(hn:1001<=n):jr n a0 a1 a2 a3 a4 a5 a6 a7 a8 a9=some (Qc a8 a9,a0,a1,a2,a3,a4,a5,a6,a7,a8,a9):=by
 have key:=fZ (l:=a9) (step:=iC n a9) (λ i (s:Int)=>(s,(i:Int),a0,a1,a2,a3,a4,a5,a6,a7,a8,a9)) (λ v s=>RZ (H8 a8 (ic v)) 21 0 s) (λ s=>(s,a0,a1,a2,a3,a4,a5,a6,a7,a8,a9)) (λ _ s=>0<=s/\s<=1048576) (λ i hi s hs=>by
  have h1:=agY (n:=n) (Qa (hv _ (getElem_mem hi))) a0 a1 a2 a3 a4 a5 a6 a7 (jt:=a8) a9 h8 hn 21 0 s n (by omega) hs.1 hs.2 (by have:(2:Int) ^ 21=2097152:=rfl;omega) (by omega);have h2:=We (H8 a8 (ic a9[i])) 21 0 s hs.1;refine⟨?_,by omega,by omega⟩;simp only[iC,dU hi,aj,bL hi,bM hi,ah,aG,h1,aY i]) (λ s _=>by simp only[iC,fU,ak,aG,aj]) n (by omega) 1048576 (by omega)
 rw[show ((0:Nat):Int)=0 from rfl]at key;unfold jr;simp only[aG,aj,key,ah];rfl
def iZ(d:aV):List aF:=((kM d).take 40).filter okV
theorem acK(d:aV):∀v∈iZ d,okV v=true:=λv hv=>(List.mem_filter.1 hv).2
theorem ZT(d:aV):(iZ d).length<=40:=Nat.le_trans (length_filter_le _ _) (by rw[length_take];omega)
def rQ(lot:gZ):List ay:=bif cJ lot.area then lot.area else []
theorem aog{l:List aF}(a0:List fJ)(a1:List bX)(a2:List dY)(a3:List aP)(a4:List ig)(a5:List fH)(a6:List bU)(a7:Int)(a8:List ay)(hl:l.length<=9223372036854775807)(hn:l.length<n):
 iter (rJ l) n ((0:Int),a0,a1,a2,a3,a4,a5,a6,a7,a8,([]:List aF))=some (a0,a1,a2,a3,a4,a5,a6,a7,a8,(l.take 40).filter okV):=by
 refine LX (step:=rJ l) (λ i=>((i:Int),a0,a1,a2,a3,a4,a5,a6,a7,a8,((l.take i).take 40).filter okV)) l.length _ (by simp) (λ i hi=>?_) ?_ n hn
 ·have hlen:(((l.take i).take 40).filter okV).length<=40:=Nat.le_trans (length_filter_le _ _) (by rw[length_take];omega);have e40:decide ((i:Int)<40)=decide (i<40):=by rw[decide_eq_decide];omega
  have hs:sub ([l[i]]:List aF) 0 1=[l[i]]:=rfl;have hN:((l.take (i+1)).take 40).filter okV=((l.take i).take 40).filter okV++(bif decide (i<40)&&okV l[i]then [l[i]]else []):=by
   by_cases h:i<40
   ·have h1:(l.take i).take 40=l.take i:=take_of_length_le (by rw[length_take];omega);have h2:(l.take (i+1)).take 40=l.take (i+1):=take_of_length_le (by rw[length_take];omega);have h3:decide (i<40)=true:=(by simpa using h);rw[h1,h2,jl hi,List.filter_append,h3];cases h4:okV l[i]<;>simp[h4]
   ·have h3:decide (i<40)=false:=(by simpa using h);rw[List.take_take,List.take_take,h3,show min 40 (i+1)=40 by omega,show min 40 i=40 by omega];simp
  rw[hN];generalize ((l.take i).take 40).filter okV=L at hlen;have hap:bW L.length L.length 1 1 72=true:=eX (by omega) (by simp only[maxLen];omega);simp only[rJ,dU hi,aj,bL hi,bM hi,ah,e40,uX,aY i];cases decide (i<40)with
  |false=>simp only[ak,ah,aG,aj,Bool.false_and,append_nil]
  |true=>
   simp only[aj,ah,Bool.true_and];cases okV l[i]with
   |false=>simp only[ak,aG,aj,ah,append_nil]
   |true=>simp only[aj,hs,length_singleton,hap,fF,aG,ah]
 ·simp only[rJ,fU,ak,aG,aj,List.take_length]
def anK(n:Nat)(p:cK):Prop:=p.tables.length<n/\p.tables.length<=9223372036854775807/\∀t∈p.tables,t.rows.length<n/\t.rows.length<=9223372036854775807
def R3:ByteArray:=⟨#[115,101,116,98,97,99,107]⟩
theorem aoh{p:cK}{lot:gZ}{d:aV}(hp:anK n p)(hl:lot.area.length<=900)(hd:ZR d)(hn:2000000<=n):∃e1 e2 e3 e4 e5 e6 e7 e8:Int,∀R:List aP,sQ n (cK.mk p.defs p.tables p.zones R p.caps p.views p.nt p.hours) lot d=some [⟨⟨#[97,114,101,97]⟩,e1⟩,⟨⟨#[99,111,118,101,114]⟩,e2⟩,⟨⟨#[102,108,111,111,114]⟩,e3⟩,⟨⟨#[102,108,111,111,114,115]⟩,e4⟩,⟨⟨#[104,101,105,103,104,116]⟩,e5⟩,⟨⟨#[104,111,109,101,115]⟩,e6⟩,⟨⟨#[114,117,110,111,102,102]⟩,e7⟩,⟨R3,Qc (rQ lot) (iZ d)⟩,⟨⟨#[116,114,97,102,102,105,99]⟩,e8⟩]:=by
 have hs1:rQ lot=(bif cJ lot.area then lot.area else []):=rfl;have hsl:(rQ lot).length<=900:=by unfold rQ;cases cJ lot.area<;>simp[hl]
 have hvl:=ZT d;have hvo:=acK d;have hfl:=Qb hd.2;have hd1:=hd.1;obtain⟨hp1,hp2,hp3⟩:=hp;have hz:bm 0 ([]:List aF).length=true:=rfl;have GB:∀R:List aP,((bif cJ lot.area then some (p.defs,p.tables,p.zones,R,p.caps,p.views,p.nt,p.hours,lot.area)else some (p.defs,p.tables,p.zones,R,p.caps,p.views,p.nt,p.hours,([]:(List ay)))):Option ((List fJ)×(List bX)×(List dY)×(List aP)×(List ig)×(List fH)×(List bU)×Int×(List ay)))=some (p.defs,p.tables,p.zones,R,p.caps,p.views,p.nt,p.hours,rQ lot):=by intro R;rw[hs1];cases cJ lot.area<;>rfl
 obtain⟨e2,h2⟩:=alo (n:=n) p.defs p.tables p.zones p.caps p.views p.nt p.hours (rQ lot) (a9:=iZ d) (by omega) (by omega);obtain⟨e3,h3⟩:=anG (n:=n) p.defs p.tables p.zones p.caps p.views p.nt p.hours (rQ lot) (a9:=iZ d) (by omega) (by omega);obtain⟨e4,h4⟩:=alg (n:=n) p.defs p.tables p.zones p.caps p.views p.nt p.hours (rQ lot) (a9:=iZ d) (by omega) (by omega);obtain⟨e5,h5⟩:=alh (n:=n) p.defs p.tables p.zones p.caps p.views p.nt p.hours (rQ lot) (a9:=iZ d) (by omega) (by omega);obtain⟨e6,h6⟩:=anH (n:=n) p.defs p.tables p.zones p.caps p.views p.nt p.hours (rQ lot) (a9:=iZ d) (by omega) (by omega);have h8:=λR:List aP=>agZ (n:=n) p.defs p.tables p.zones R p.caps p.views p.nt p.hours (a8:=rQ lot) (a9:=iZ d) hvo (by omega) (by omega) (by omega);obtain⟨e9,h9⟩:=anJ (n:=n) p.defs p.tables p.zones p.caps p.views p.nt p.hours (rQ lot) (a9:=iZ d) (by omega) (by omega) hvo hp1 hp2 hp3;refine⟨bif cJ (rQ lot)then NF (rQ lot)else 0,e2,e3,e4,e5,e6,e2,e9,λR=>?_⟩;unfold sQ;rw[mE (by omega) (by omega) (by omega),Yn hd (by omega)];simp only[ah,GB,hz,aj];rw[aog (n:=n) p.defs p.tables p.zones R p.caps p.views p.nt p.hours (rQ lot) (by show(kM d).length<=_;unfold kM;omega) (by show(kM d).length<_;unfold kM;omega)];have hr:((kM d).take 40).filter okV=iZ d:=rfl;have s1:∀e:bP,sub ([e]:List bP) 0 1=[e]:=λ_=>rfl;have ap:∀k,k<=20->bW k k 1 1 24=true:=λk hk=>eX (by omega) (by simp only[maxLen];omega);have lot:nk n p.defs p.tables p.zones R p.caps p.views p.nt p.hours (rQ lot) (iZ d)=some (bif cJ (rQ lot)then NF (rQ lot)else 0,p.defs,p.tables,p.zones,R,p.caps,p.views,p.nt,p.hours,rQ lot,iZ d):=by
  unfold nk;rw[Yc (by omega) (by omega)];simp only[ah,aG,aj]
 simp only[hr,ah,aG,aj,lot,s1,length_singleton,ap 0 (by omega),fF,h2,ap 1 (by omega),dH,ap 2 (by omega),h3,ap 3 (by omega),h4,ap 4 (by omega),h5,ap 5 (by omega),h6,ap 6 (by omega),h8,ap 7 (by omega),h9,ap 8 (by omega),Nat.reduceAdd,Nat.zero_add,dn];rfl
theorem aii(ds:List (ByteArray×ET))(s:List UInt8):∀(k:Nat)(i:Int),Pe ds s k=some i->0<=i/\i<(k:Int)
 | 0,i,h=>by simp[Pe]at h
 |k+1,i,h=>by
  simp only[Pe]at h;split at h
  ·cases h;omega
  ·have:=aii ds s k i h;omega
theorem amx{ds:List (ByteArray×ET)}(h:q7 ds<=4000000):ZL (oZ ds) ds.length:=by
 have hl:=Vp ds;refine⟨by simp[oZ],by omega,λl hl=>?_⟩;simp only[oZ,mem_map]at hl;obtain⟨d,hd,rfl⟩:=hl;have h1:=Vq hd;have h2:=ET.oB d.2;have h3:=aep d.2.names;refine⟨Nat.le_trans (List.length_filterMap_le _ _) (by omega),λk hk=>?_⟩;simp only[iB,List.mem_filterMap]at hk;obtain⟨s,_,hk⟩:=hk;exact aii ds s _ k hk
theorem aeT{M:List ByteArray}(hM:M.length<=1000)(hn:1001<=n)(w0:List (ByteArray×Bool)):∃w,iter (oG M) n ((0:Int),w0)=some w:=by
 obtain⟨o,h,_⟩:=eH (step:=oG M) (λ i (v:Int×List (ByteArray×Bool))=>∃w,v=((i:Int),w)/\i<=M.length) (λ _=>True) M.length (λ k v ⟨_,_,h⟩=>h) (by
  rintro i v ⟨w,rfl,hi⟩;by_cases hlt:i<M.length
  ·simp only[oG,show decide ((i:Int)<(M.length:Int))=true from by simp;omega,aj,bL hlt,bM hlt,ah,aY i];exact .inl ⟨_,rfl,_,rfl,hlt⟩
  ·simp only[oG,show decide ((i:Int)<(M.length:Int))=false from by simp;omega,ak];exact .inr ⟨_,rfl,trivial⟩) n 0 ((0:Int),w0) ⟨_,rfl,Nat.zero_le _⟩ (by omega)
 exact⟨o,h⟩
theorem aeU{p:cK}(hp:p.defs.length<=4000000)(hn:4000001<=n)(w0:List (ByteArray×Bool)):iter (lK p) n ((0:Int),w0)=some (.inl ())\/iter (lK p) n ((0:Int),w0)=some (.inr ([],[],5)):=by
 obtain⟨o,h,h2⟩:=eH (step:=lK p) (λ i (v:Int×List (ByteArray×Bool))=>∃w,v=((i:Int),w)/\i<=p.defs.length) (λ o=>o= .inl ()\/o= .inr ([],[],5)) p.defs.length (λ k v ⟨_,_,h⟩=>h) (by
  rintro i v ⟨w,rfl,hi⟩;by_cases hlt:i<p.defs.length
  ·simp only[lK,show decide ((i:Int)<(p.defs.length:Int))=true from by simp;omega,aj,bB hlt,ah,aY i];cases (qH Gb.gS p.defs[i].name w).getD false with
   |true=>exact .inr ⟨_,rfl,.inr rfl⟩
   |false=>exact .inl ⟨_,rfl,_,rfl,hlt⟩
  ·simp only[lK,show decide ((i:Int)<(p.defs.length:Int))=false from by simp;omega,ak];exact .inr ⟨_,rfl,.inl rfl⟩) n 0 ((0:Int),w0) ⟨_,rfl,Nat.zero_le _⟩ (by omega)
 rcases h2 with rfl |rfl
 ·exact .inl h
 ·exact .inr h
theorem aeV:∃M,yI=some M/\M.length=9:=⟨_,rfl,rfl⟩
def gE(l:List fJ):Prop:=q7 (l.map toD)<=4000000
theorem gE.len{l:List fJ}(h:gE l):l.length<=4000000:=by
 have:=Vp (l.map toD);rw[length_map]at this;unfold gE at h;omega
theorem gE.body{l:List fJ}(h:gE l){d:fJ}(hd:d∈l):(toE (bK.mk d.iu d.lz d.kh d.io d.er)).wt<=4000000:=by
 have h1:=Vq (mem_map.2 ⟨d,hd,rfl⟩:toD d∈l.map toD);unfold gE at h;simp only[toD,ET.wt]at h1;simp only[toE,ET.wt];omega
theorem Uy{p:cK}(hp:gE p.defs)(hn:5000003<=n):∃r,om n p=some r/\r.1.length<=p.defs.length/\∀k∈r.1,0<=k/\k<(p.defs.length:Int):=by
 obtain⟨M,hM,hM9⟩:=aeV;obtain⟨w,hw⟩:=aeT (n:=n) (M:=M) (by omega) (by omega) [];have hg:ZL (oZ (p.defs.map toD)) p.defs.length:=by have:=amx hp;rwa [length_map]at this
 have GG:lJ p.defs=some (p.defs,oZ (p.defs.map toD)):=by
  unfold lJ;rw[Nat.ble_eq_true_of_le hp];rfl
 simp only[om,hM,ah,hw];rcases aeU (n:=n) (p:=p) hp.len (by omega) w with h |h
 ·have⟨c,hc,hc2⟩:=aew (n:=n) (a0:=p.defs) hg rfl hn;simp only[h,dw,GG,ah,hc];cases h0:(c.length==0)with
  |true=>
   have e:c=[]:=List.eq_nil_of_length_eq_zero (by simpa using h0);obtain⟨l,hl,hll,hlr⟩:=ak3 (n:=n) (a0:=pR.mk p.defs (oZ (p.defs.map toD))) hg rfl (hc2 e) (by omega);simp only[aj,ah,ak,hl,dn,aG];exact⟨_,rfl,by simp[hll],hlr⟩
  |false=>
   simp only[aj,ah,ak,dn,aG];exact⟨_,rfl,by simp,by simp⟩
 ·simp only[h,fG];exact⟨_,rfl,by simp,by simp⟩
theorem AZ(x:bK):bK.mk x.op x.n x.s x.key x.args=x:=by cases x;rfl
theorem Qd:∀l:List bK,KA l=l.map toE
 |[]=>rfl
 |x::xs=>by simp only[KA,aC,Qd xs]
theorem aij:∀{l:List ET}{t:ET},t∈l->t.wt<=ET.sC l
 |x::l,t,h=>by
  simp only[ET.sC];rcases aM.1 h with rfl |h
  ·omega
  ·have:=aij h;omega
theorem UP{e x:bK}(h:x∈e.args):(toE x).wt<(toE e).wt:=by
 have h1:(toE x).wt<=ET.sC (KA e.args):=aij (by rw[Qd];exact mem_map.2 ⟨x,h,rfl⟩);cases e;simp only[toE,ET.wt]at *;omega
theorem Wc(e:bK):e.args.length<(toE e).wt:=by
 have h1:=ET.p7 (KA e.args);rw[Qd,length_map]at h1;cases e;simp only[toE,ET.wt,Qd]at *;omega
def VR:Nat->bK->Prop
 | 0,_=>False
 |k+1,e=>AP e.op=some ((e.args.length:Int),true)/\∀x∈e.args,VR k x
theorem ag1(op:Int):∃a b,AP op=some (a,b):=by
 simp only[AP];cases (op==0)<;>cases (op==1)<;>cases (op==2)<;>cases (op==3)<;>cases (op==9)<;>cases (op==15)<;>cases (op==16)<;>cases (decide (op>=0))<;>exact⟨_,_,rfl⟩
theorem abm(hn:4000002<=n):∀(m:Nat)(e:bK)(a:Int),m<=9223372036854775000->0<=a->a<=12->13<=a+m->(toE e).wt<=4000000->∃r,tQ n m e a=some r/\1<=r/\r<=13+m/\(r<=12->VR m e)
 | 0,_,_,_,_,_,h,_=>absurd h (by omega)
 |m+1,e,a,hm,h0,h1,h2,h3=>by
  have⟨x,b,hx⟩:=ag1 e.op;have hla:=Wc e;show ∃r,CJ n (tQ n m) e a=some r/\_;simp only[CJ,hx,ah];have bad:∃r,some (13:Int)=some r/\1<=r/\r<=13+((m+1:Nat):Int)/\(r<=12->VR (m+1) e):=⟨13,rfl,by omega,by omega,λh=>absurd h (by omega)⟩;cases b with
  |false=>simpa only[Bool.not_false,aj,ah]using bad
  |true=>
   simp only[Bool.not_true,ak];by_cases hxl:x=(e.args.length:Int)
   ·subst hxl;simp only[show ((e.args.length:Int) !=(e.args.length:Int))=false from by simp,ak,ah];by_cases ha:a>=12
    ·simpa only[ha,decide_true,aj]using bad
    ·simp only[ha,decide_false,ak]
     obtain⟨o,g1,g2,g3,g4⟩:=eH (step:=zy n (tQ n m) e a) (λ i (v:Int×Int)=>v.2=(i:Int)/\i<=e.args.length/\0<=v.1/\v.1<=13+m/\(v.1<=11->∀y∈e.args.take i,VR m y))
      (λ o=>0<=o/\o<=13+m/\(o<=11->∀y∈e.args,VR m y)) e.args.length (λ k v h=>h.2.1) (by
      rintro i ⟨v2,v3⟩ ⟨hv,hi,i1,i2,i3⟩;simp only at hv i1 i2 i3;subst hv;by_cases hlt:i<e.args.length
      ·left;have hwx:=UP (getElem_mem hlt);obtain⟨r,r1,r2,r3,r4⟩:=abm hn m e.args[i] (a+1) (by omega) (by omega) (by omega) (by omega) (by omega);refine⟨(max v2 r,((i+1:Nat):Int)),?_,rfl,hlt,by show 0<=max v2 r;omega,by show max v2 r<=_;omega,λh y hy=>?_⟩
       ·simp only[zy,show decide ((i:Int)<(e.args.length:Int))=true from by simp;omega,aj,bB hlt,ah,AZ,bS (show -9223372036854775808<=a+1 by omega) (show a+1<=9223372036854775807 by omega),r1,aY i]
       ·have h':max v2 r<=11:=h;rw[List.take_add_one,dI hlt]at hy;rw[aW]at hy;rcases hy with hy |hy
        ·exact i3 (by omega) y hy
        ·simp at hy;subst hy;exact r4 (by omega)
      ·right;refine⟨v2,?_,i1,i2,λh y hy=>i3 h y (by rw[take_of_length_le (by omega)];exact hy)⟩;simp only[zy,show decide ((i:Int)<(e.args.length:Int))=false from by simp;omega,ak]) n 0 ((0:Int),(0:Int)) ⟨rfl,Nat.zero_le _,by simp,by show(0:Int)<=_;omega,by simp⟩ (by omega)
     simp only[g1,ah];rw[bS (by omega) (by omega)];exact⟨o+1,rfl,by omega,by omega,λh=>⟨hx,g4 (by omega)⟩⟩
   ·simpa only[show (x !=(e.args.length:Int))=true from by simpa using hxl,aj,ah]using bad
theorem TY(hn:4000002<=n)(hn2:n<=9223372036854775000){e:bK}(h:(toE e).wt<=4000000):∃b,Kz n e=some b/\(b=true->VR n e):=by
 obtain⟨r,h1,h2,h3,h4⟩:=abm hn n e 0 hn2 (by omega) (by omega) (by omega) h;refine⟨decide (r<=12),?_,λh=>h4 (by simpa using h)⟩;simp only[Kz,AZ,RD,h1,ah]
def aoi(tables:List bX)(s key:ByteArray):Int:=match tables.find? λt=>ByteArray.toList t.name==ByteArray.toList s with
 |some t=>aod t key
 |none=>0
def Kf(ts:List bX):Prop:=ts.length<=4000000/\∀t∈ts,t.rows.length<=4000000
theorem aju(hn:4000002<=n){a0:List fJ}{ts:List bX}{a2:List dY}{a3:List aP}{a4:List ig}{a5:List fH}{a6:List bU}{a7:Int}{zs:List ByteArray}(ht:Kf ts)(e:bK)(kn:List (ByteArray×Int)):jw n a0 ts a2 a3 a4 a5 a6 a7 zs e kn=some (aoi ts e.s e.key,kn):=by
 have h1:=ht.1;simp only[jw,AZ];rw[IY (λ t=>ByteArray.toList t.name==ByteArray.toList e.s) (λ x _=>rfl) (by omega) (by omega)];simp only[ah,aoi];rcases Yg (λ t:bX=>ByteArray.toList t.name==ByteArray.toList e.s) ts with ⟨i,hi,h1,h2⟩ |⟨h1,h2⟩
 ·rw[h1,h2];have d:decide ((i:Int)<0)=false:=by simp
  have hr:=ht.2 _ (getElem_mem hi);simp only[d,ak,bB hi,ah];rw[IZ (λ x=>ByteArray.toList x.name==ByteArray.toList e.key) (λ x _=>rfl) (by omega) (by omega)];simp only[ah,aod];rcases Yg (λ x:bP=>ByteArray.toList x.name==ByteArray.toList e.key) ts[i].rows with ⟨j,hj,g1,g2⟩ |⟨g1,g2⟩
  ·rw[g1,g2];have d:decide ((j:Int)>=0)=true:=(by simp);simp only[d,aj,bB hj,ah]
  ·rw[g1,g2];rfl
 ·rw[h1,h2];rfl
theorem fq{α:Type}{c:Bool}{x y:Option α}(hx:∃r,x=some r)(hy:∃r,y=some r):∃r,(bif c then x else y)=some r:=by cases c<;>assumption
theorem ZU(a b:Int):∃r,xQ a b=some r:=by
 simp only[xQ];cases h:(b==0)with
 |true=>exact⟨_,rfl⟩
 |false=>
  have:(b !=0)=true:=by simp[bne,h]
  simp only[this,aj,ak];cases (Int.tmod a b !=0)<;>cases (decide (Int.tmod a b<0)==decide (b<0))<;>exact⟨_,rfl⟩
theorem Yp(b:Bool):∃r,AQ b=some r:=fq ⟨_,rfl⟩ ⟨_,rfl⟩
theorem tY{α β:Type}{x:Option α}{f:α->Option β}(hx:∃r,x=some r)(hf:∀r,∃s,f r=some s):∃s,x.bind f=some s:=by obtain⟨r,rfl⟩:=hx;exact hf r
theorem aeW(op a b:Int):∃r,LK op a b=some r:=by
 have q:=ZU a b;have t:=λc=>Yp c;unfold LK
 repeat' first
  |exact⟨_,rfl⟩
  |exact q
  |exact t _
  |apply fq
  |(refine tY ?_ λr=>?_)
theorem KW(h:0<n):ca 0 n=true:=by simp[ca];omega
theorem aeX(h:1<n):ca 1 n=true:=by simp[ca];omega
theorem alp(h:2<n):ca 2 n=true:=by simp[ca];omega
theorem Qe{α:Type}{l:List α}(h:0<l.length):bp l (((0:Nat):Int)+0)=some l[0]:=bM (i:=0) h
theorem ail{α:Type}{l:List α}(h:1<l.length):bp l (((0:Nat):Int)+1)=some l[1]:=bM (i:=1) h
theorem amy{α:Type}{l:List α}(h:2<l.length):bp l (((0:Nat):Int)+2)=some l[2]:=bM (i:=2) h
theorem ZV{l:List ByteArray}{s:ByteArray}(hl:l.length<=4000000)(hn:4000002<=n):∃r,fK n l s=some r:=by
 obtain⟨o,h,_⟩:=eH (step:=nX l s) (λ i (v:Int)=>v=(i:Int)/\i<=l.length) (λ _=>True) l.length (λ k v h=>h.2) (by
  rintro i v ⟨rfl,hi⟩;by_cases hlt:i<l.length
  ·simp only[nX,show decide ((i:Int)<(l.length:Int))=true from by simp;omega,aj,bB hlt,ah,aY i];cases (ByteArray.toList s==ByteArray.toList l[i])with
   |true=>exact .inr ⟨_,rfl,trivial⟩
   |false=>exact .inl ⟨_,rfl,rfl,hlt⟩
  ·simp only[nX,show decide ((i:Int)<(l.length:Int))=false from by simp;omega,ak];exact .inr ⟨_,rfl,trivial⟩) n 0 0 ⟨rfl,Nat.zero_le _⟩ (by omega)
 simp only[fK,rZ,h];cases o with
 |inl u=>cases u;simp only[dw,ah];exact⟨_,rfl⟩
 |inr r=>simp only[fG,ah];exact⟨_,rfl⟩
theorem ajv{op a:Int}(h0:(op==0)=false)(h1:(op==1)=false)(h2:(op==2)=false)(h3:(op==3)=false)(h9:(op==9)=false)(IF:(op==15)=false)(h16:(op==16)=false)(h:AP op=some (a,true)):a=2:=by
 simp only[AP,h0,h1,h2,h3,h9,IF,h16,ak,ah]at h;cases hd:decide (op>=0)with
 |true=>rw[hd]at h;simp only[aj,aA,Prod.mk.injEq]at h;exact h.1.symm
 |false=>rw[hd]at h;simp at h
section
variable {n:Nat} {a0:List fJ} {ts:List bX} {a2:List dY} {a3:List aP} {a4:List ig} {a5:List fH} {a6:List bU} {a7:Int} {zs:List ByteArray}
theorem Yq(hn:4000002<=n)(ht:Kf ts)(hz:zs.length<=4000000):∀(m:Nat)(e:bK)(kn:List (ByteArray×Int)),VR m e->(toE e).wt<=4000000->∃v,bR n m a0 ts a2 a3 a4 a5 a6 a7 zs e kn=some (v,kn)
 | 0,_,_,h,_=>h.elim
 |m+1,e,kn,⟨ha,hr⟩,hw=>by
  have hla:=Wc e;have hmx:maxLen=9223372036854775807:=rfl;show ∃v,fE n (bR n m) a0 ts a2 a3 a4 a5 a6 a7 zs e kn=some (v,kn)
  obtain⟨o,h1,l,rfl,hl⟩:=eH (step:=fw n (bR n m) a0 ts a2 a3 a4 a5 a6 a7 zs e) (λ i (v:Int×List (ByteArray×Int)×List Int)=>∃l,v=((i:Int),kn,l)/\i<=e.args.length/\l.length=i)
   (λ o=>∃l,o=(kn,l)/\l.length=e.args.length) e.args.length (λ k v ⟨_,_,h,_⟩=>h) (by
   rintro i v ⟨l,rfl,hi,hl⟩;by_cases hlt:i<e.args.length
   ·left;have hwx:=UP (getElem_mem hlt);obtain⟨x,hx⟩:=Yq hn ht hz m e.args[i] kn (hr _ (getElem_mem hlt)) (by omega);have key:∃b,((bif (e.op==(16:Int))then(bif (decide ((i:Int)>(0:Int)))then(ck (ca 0 l.length) ((bp l ((0:Nat)+0:Int)).bind λx2=>some (!((x2 !=(0:Int))==((i:Int)==(1:Int))))))else some false)else some false):Option (Bool))=some b:=by
     refine fq ?_ ⟨_,rfl⟩;by_cases h0:(i:Int)>0
     ·simp only[h0,decide_true,aj,KW (show 0<l.length by omega),Qe (show 0<l.length by omega),ah];exact⟨_,rfl⟩
     ·simp only[h0,decide_false,ak];exact⟨_,rfl⟩
    obtain⟨b,hb⟩:=key;have hap:∀z:Int,bW l.length l.length (sub [z] 0 1).length 1 8=true:=λz=>(by simp[bW,sub];omega);simp only[fw,show decide ((i:Int)<(e.args.length:Int))=true from by simp;omega,aj,bB hlt,ah,hb,AZ,hx,hap,fF,aG,aY i];cases b with
    |true=>exact⟨_,rfl,_,rfl,hlt,by simp[sub,hl]⟩
    |false=>exact⟨_,rfl,_,rfl,hlt,by simp[sub,hl]⟩
   ·right;refine⟨(kn,l),?_,l,rfl,by omega⟩;simp only[fw,show decide ((i:Int)<(e.args.length:Int))=false from by simp;omega,ak,aG,aj]) n 0 ((0:Int),kn,[]) ⟨[],rfl,Nat.zero_le _,rfl⟩ (by omega)
  simp only[fE,length_nil,aG,aj,h1,ah,AZ,aju hn ht];cases h0:(e.op==0)with
  |true=>exact⟨_,rfl⟩
  |false=>
  cases h1:(e.op==1)with
  |true=>exact⟨_,rfl⟩
  |false=>
  cases h2:(e.op==2)with
  |true=>exact⟨_,rfl⟩
  |false=>
  cases h3:(e.op==3)with
  |true=>
   have⟨r,hr⟩:=ZV (n:=n) (l:=zs) (s:=e.s) hz hn;have⟨r2,hr2⟩:=Yp r;simp only[ak,aj,hr,hr2,ah];exact⟨_,rfl⟩
  |false=>
  cases h9:(e.op==9)with
  |true=>
   have e9:e.op=9:=(by simpa using h9);rw[e9]at ha;have:l.length=1:=(by have h:some ((1:Int),true)=some ((e.args.length:Int),true):=ha;simp at h;omega);simp only[ak,aj,KW (show 0<l.length by omega),Qe (show 0<l.length by omega),ah];exact⟨_,rfl⟩
  |false=>
  cases IF:(e.op==15)with
  |true=>
   have e15:e.op=15:=(by simpa using IF);rw[e15]at ha;have:l.length=1:=(by have h:some ((1:Int),true)=some ((e.args.length:Int),true):=ha;simp at h;omega);obtain⟨r2,hr2⟩:=Yp (l[0]'(by omega)==0);simp only[ak,aj,KW (show 0<l.length by omega),Qe (show 0<l.length by omega),ah,hr2];exact⟨_,rfl⟩
  |false=>
  cases h16:(e.op==16)with
  |true=>
   have e16:e.op=16:=(by simpa using h16);rw[e16]at ha;have:l.length=3:=(by have h:some ((3:Int),true)=some ((e.args.length:Int),true):=ha;simp at h;omega);simp only[ak,aj,KW (show 0<l.length by omega),Qe (show 0<l.length by omega),aeX (show 1<l.length by omega),ail (show 1<l.length by omega),alp (show 2<l.length by omega),amy (show 2<l.length by omega),ah];cases (l[0]'(by omega) !=0)<;>exact⟨_,rfl⟩
  |false=>
   have:l.length=2:=(by have:=ajv h0 h1 h2 h3 h9 IF h16 ha;omega);obtain⟨r,hr⟩:=aeW e.op (l[0]'(by omega)) (l[1]'(by omega));simp only[ak,aj,KW (show 0<l.length by omega),Qe (show 0<l.length by omega),aeX (show 1<l.length by omega),ail (show 1<l.length by omega),ah,hr];exact⟨_,rfl⟩
end
theorem ag2{ms:List bP}(h:ms.length<=4000000)(hn:4000002<=n):∃o,iter (kr n ms) n ((0:Int),([]:List (ByteArray×Int)),([]:List (ByteArray×Bool)))=some o:=by
 obtain⟨o,h,_⟩:=eH (step:=kr n ms) (λ i (v:Int×List (ByteArray×Int)×List (ByteArray×Bool))=>∃a b,v=((i:Int),a,b)/\i<=ms.length) (λ _=>True) ms.length (λ k v ⟨_,_,_,h⟩=>h) (by
  rintro i v ⟨a,b,rfl,hi⟩;by_cases hlt:i<ms.length
  ·left;simp only[kr,show decide ((i:Int)<(ms.length:Int))=true from by simp;omega,aj,bB hlt,ah,aY i];cases (!((qH Gb.gS ms[i].name b).getD false))<;>exact⟨_,rfl,_,_,rfl,hlt⟩
  ·right;simp only[kr,show decide ((i:Int)<(ms.length:Int))=false from by simp;omega,ak];exact⟨_,rfl,trivial⟩) n 0 _ ⟨[],[],rfl,Nat.zero_le _⟩ (by omega)
 exact⟨o,h⟩
structure Up(p:cK):Prop where
 defs:gE p.defs
 tabs:Kf p.tables
theorem NH{p:cK}{ms:List bP}{zs:List ByteArray}(hp:Up p)(hm:ms.length<=4000000)(hz:zs.length<=4000000)(hn:5000003<=n)(hn2:n<=9223372036854775000):∃kn ab,mW n p ms zs=some (p.defs,p.tables,p.zones,p.rules,p.caps,p.views,p.nt,p.hours,zs,kn,ab)/\ab.length=p.defs.length:=by
 obtain⟨⟨w1,w2⟩,hs1⟩:=ag2 (n:=n) hm (by omega);have⟨r,hr,hrl,hrr⟩:=Uy (n:=n) hp.defs hn;have hl:=hp.defs.len;have hmx:maxLen=9223372036854775807:=rfl;have hmk:Bz (p.defs.length:Int) 8=true:=by simp[Bz];omega
 simp only[mW,hs1,ah,Int.le_refl,decide_true,Bool.true_and,show decide ((0:Int)<=(p.defs.length:Int))=true from by simp,hmk,aj,hr];cases hb:(r.2.2 !=(0:Int))with
 |true=>
  simp only[aj,Int.toNat_natCast,List.length_replicate,aG];exact⟨_,_,rfl,by simp⟩
 |false=>
  obtain⟨o,h1,kn,ab,rfl,h2⟩:=eH (step:=gQ n p zs w2 r) (λ i (v:Int×List (ByteArray×Int)×List Int)=>∃kn ab,v=((i:Int),kn,ab)/\i<=r.1.length/\ab.length=p.defs.length)
   (λ o=>∃kn ab,o=(kn,ab)/\ab.length=p.defs.length) r.1.length (λ k v ⟨_,_,_,h,_⟩=>h) (by
   rintro i v ⟨kn,ab,rfl,hi,hol⟩;by_cases hlt:i<r.1.length
   ·left;have hk:=hrr r.1[i] (getElem_mem hlt);obtain⟨k,hk2⟩:=Int.eq_ofNat_of_zero_le hk.1;have hkd:k<p.defs.length:=(by omega);have hko:k<ab.length:=(by omega);have hbw:=hp.defs.body (getElem_mem hkd);obtain⟨b,hb1,hb2⟩:=TY (n:=n) (by omega) hn2 hbw;simp only[gQ,show decide ((i:Int)<(r.1.length:Int))=true from by simp;omega,aj,bL hlt,bM hlt,ah,hk2,bB hkd,hb1,Int.toNat_natCast,bL hkd,bM hko,aY i,show(((0:Nat):Int)+(k:Int)).toNat=k by omega];have step2:∀(On:List (ByteArray×Int)) (out':List Int),out'.length=p.defs.length->∃Ok,((bif (!((qH Gb.gS p.defs[k].name w2).getD false))then(bp out' ((0:Nat)+(k:Int):Int)).bind λx5=>some ((Ng Gb.gS p.defs[k].name x5 On),out')else some (On,out')):Option ((List (ByteArray×Int))×(List Int)))=some (Ok,out'):=by
     intro On out' ho;cases (!((qH Gb.gS p.defs[k].name w2).getD false))with
     |true=>simp only[aj,bM (show k<out'.length by omega),ah];exact⟨_,rfl⟩
     |false=>exact⟨_,rfl⟩
    cases b with
    |true=>
     obtain⟨v,hv⟩:=Yq (n:=n) (a0:=p.defs) (a2:=p.zones) (a3:=p.rules) (a4:=p.caps) (a5:=p.views) (a6:=p.nt) (a7:=p.hours) (by omega) hp.tabs hz n _ kn (hb2 rfl) hbw;simp only[gq,hv,aj,ah];obtain⟨ZS,h2⟩:=step2 kn (ab.set k v) (by simp[hol]);rw[h2];exact⟨_,rfl,_,_,rfl,hlt,by simp[hol]⟩
    |false=>
     simp only[ak,ah];have⟨ZS,h2⟩:=step2 kn ab hol;rw[h2];exact⟨_,rfl,_,_,rfl,hlt,hol⟩
   ·right;simp only[gQ,show decide ((i:Int)<(r.1.length:Int))=false from by simp;omega,ak];exact⟨_,rfl,_,_,rfl,hol⟩) n 0 ((0:Int),w1,List.replicate p.defs.length 0) ⟨_,_,rfl,Nat.zero_le _,by simp⟩ (by omega)
  simp only[ak,Int.toNat_natCast,h1,ah,h2,aG,aj];exact⟨_,_,rfl,h2⟩
theorem all_eq{d:aV}(h:ZR d)(hn:1001<=n):xD n d=some (kM d):=by simp only[xD,Yn h hn,ah,dn,aG,aj]
theorem ZW(a b:ByteArray)(h:a.size<=4000000):∃r,strings_Contains a b=some r:=by
 simp only[strings_Contains,Nat.ble_eq_true_of_le h,aj];exact⟨_,rfl⟩
theorem T9(c:Int):∃b,GZ c=some b:=fq ⟨_,rfl⟩ ⟨_,rfl⟩
theorem ag4(c:Int):∃b,Rz c=some b:=fq ⟨_,rfl⟩ ⟨_,rfl⟩
theorem ajw(c:Int):∃b,CF c=some b:=tY (T9 c) λ_=>fq ⟨_,rfl⟩ (tY (ag4 c) λ_=>⟨_,rfl⟩)
theorem aeY{s:ByteArray}{i:Nat}(h:i<s.size):∃c,J3 s (i:Int)=some c:=by
 simp only[J3,show decide (0<=(i:Int))=true from by simp,aj,Int.toNat_natCast];rw[getElem?_pos s i h];exact⟨_,rfl⟩
theorem ajx{s:ByteArray}{φ:(Int×Unit)->Option Bool}(h:∀c,∃b,φ (c,())=some b)(hs:s.size<=4000000)(hn:4000002<=n):∃r,Pn n s φ=some r:=by
 obtain⟨o,h1,_⟩:=eH (step:=CB s φ) (λ i (v:Int)=>v=(i:Int)/\i<=s.size) (λ _=>True) s.size (λ k v h=>h.2) (by
  rintro i v ⟨rfl,hi⟩;by_cases hlt:i<s.size
  ·have⟨c,hc⟩:=aeY hlt;have⟨b,hb⟩:=h c;simp only[CB,show decide ((i:Int)<(s.size:Int))=true from by simp;omega,aj,hc,ah,hb,aY i];cases b with
   |true=>exact .inl ⟨_,rfl,rfl,hlt⟩
   |false=>exact .inr ⟨_,rfl,trivial⟩
  ·simp only[CB,show decide ((i:Int)<(s.size:Int))=false from by simp;omega,ak,ah];exact .inr ⟨_,rfl,trivial⟩) n 0 0 ⟨rfl,Nat.zero_le _⟩ (by omega)
 simp only[Pn,h1,ah];exact⟨_,rfl⟩
theorem ajy(s:ByteArray)(hn:4000002<=n):∃b,Po n s=some b/\(b=true->s.size<=20):=by
 simp only[Po];cases h0:(ByteArray.toList s==ByteArray.toList (⟨#[]⟩))with
 |true=>exact⟨false,by simp only[aj,ah],λh=>(by cases h)⟩
 |false=>
  have hs:0<s.size:=by
   refine Nat.pos_of_ne_zero λh=>?_;have:s=⟨#[]⟩:=by
    obtain⟨⟨l⟩⟩:=s;have:l.length=0:=h;rw[List.eq_nil_of_length_eq_zero this]
   rw[this]at h0;simp at h0
  have⟨c,hc⟩:=aeY hs;have hc':J3 s 0=some c:=hc;have⟨b,hb⟩:=T9 c;simp only[ak,hc',ah,hb];cases b with
  |false=>exact⟨false,by simp only[Bool.not_false,aj,ah],λh=>(by cases h)⟩
  |true=>
   simp only[Bool.not_true,ak,ah];by_cases h20:(s.size:Int)>20
   ·exact⟨false,by simp only[h20,decide_true,aj],λh=>(by cases h)⟩
   ·obtain⟨r,hr⟩:=ajx (n:=n) (s:=s) (φ:=λ(y1:Int×Unit)=>CF y1.1) (λ c=>ajw c) (by omega) hn;simp only[h20,decide_false,ak,hr,ah];exact⟨_,rfl,λ_=>by omega⟩
theorem ajz(s:ByteArray)(hn:4000002<=n):∃b,xE n s=some b:=by
 have⟨b,hb,h20⟩:=ajy (n:=n) s hn;simp only[xE,hb,ah];cases b with
 |false=>exact⟨_,rfl⟩
 |true=>
  have hs:=h20 rfl;have hmx:maxLen=9223372036854775807:=rfl;have c1:WG (⟨#[32]⟩) s=true:=by
   have:(⟨#[32]⟩:ByteArray).size=1:=rfl;simp only[WG,aT];omega
  have c2:WG ((⟨#[32]⟩)++s) (⟨#[32]⟩)=true:=by
   have h1:(⟨#[32]⟩:ByteArray).size=1:=rfl;simp only[WG,aT,ByteArray.size_append];omega
  simp only[aj,c1,c2];refine tY (ZW _ _ (Nat.le_of_ble_eq_true ?_)) λ_=>⟨_,rfl⟩
  kernel_rfl
theorem ajA(a b:BY):∃r,zi a b=some r:=by
 unfold zi;rw[AY];exact fq (fq ⟨_,rfl⟩ ⟨_,rfl⟩) ⟨_,rfl⟩
theorem fV{l:List aF}{φ:(aF×Unit)->Option Bool}(p:aF->Bool)(h:∀x∈l,φ (x,())=some (p x))(hl:l.length<1099511627776)(hn:l.length<n):fP n l φ=some (l.any p):=by
 have:qP n l φ=some (Du p l):=iG p h hl hn;simp only[fP,this,ah,ze]
theorem zL{l:List aF}{φ:(aF×Unit)->Option Bool}(h:∀x∈l,∃b,φ (x,())=some b)(hl:l.length<1099511627776)(hn:l.length<n):fP n l φ=some (l.any λx=>(φ (x,())).getD false):=
 fV _ (λ x hx=>by have⟨b,hb⟩:=h x hx;rw[hb];rfl) hl hn
def HF(d:aV):Prop:=∀p∈d.phases,p.gives.length<=1000
theorem ag5{l:List aF}(hl:l.length<=1000000)(hn:4000002<=n):iter (lD n l) n (0:Int)=some (.inr false)\/(iter (lD n l) n (0:Int)=some (.inl ())/\∀v∈l,okV v=true):=by
 obtain⟨o,h1,h2⟩:=eH (step:=lD n l) (λ i (v:Int)=>v=(i:Int)/\i<=l.length/\∀x∈l.take i,okV x=true) (λ o=>o= .inr false\/(o= .inl ()/\∀v∈l,okV v=true)) l.length (λ k v h=>h.2.1) (by
  rintro i v ⟨rfl,hi,hall⟩;by_cases hlt:i<l.length
  ·simp only[lD,show decide ((i:Int)<(l.length:Int))=true from by simp;omega,aj,bL hlt,bM hlt,ah,uX,aY i];cases hv:okV l[i]with
   |false=>exact .inr ⟨_,by simp only[Bool.not_false,aj,ah];rfl,.inl rfl⟩
   |true=>
    have hsub:(sub l 0 i).length=i:=(by simp[sub];omega);have hc:=zL (n:=n) (l:=sub l 0 i) (φ:=λ(y1:aF×Unit)=>rX y1.1 l[i]) (λ x _=>tY (ajA _ _) λ_=>⟨_,rfl⟩) (by omega) (by omega);simp only[Bool.not_true,ak,zX (show (0:Int)<=0 by omega) (show (0:Int)<=(i:Int)by omega) (show (i:Int)<=(l.length:Int)by omega),aj,Int.toNat_natCast,Rt hsub,hc,ah];cases ((sub l 0 i).any λx=>((λ (y1:aF×Unit)=>rX y1.1 l[i]) (x,())).getD false)with
    |true=>exact .inr ⟨_,rfl,.inl rfl⟩
    |false=>
     refine .inl ⟨_,rfl,rfl,hlt,λx hx=>?_⟩;rw[List.take_add_one,dI hlt,aW]at hx;rcases hx with hx |hx
     ·exact hall x hx
     ·simp at hx;subst hx;exact hv
  ·refine .inr ⟨.inl (),?_,.inr ⟨rfl,λv hv=>hall v (by rw[take_of_length_le (by omega)];exact hv)⟩⟩;simp only[lD,show decide ((i:Int)<(l.length:Int))=false from by simp;omega,ak]) n 0 0 ⟨rfl,Nat.zero_le _,by simp⟩ (by omega)
 rcases h2 with rfl |⟨rfl,h2⟩
 ·exact .inl h1
 ·exact .inr ⟨h1,h2⟩
theorem ag6{p:iH}(hp:p.gives.length<=1000)(hn:4000002<=n):iter (lF n p) n ((0:Int),([]:List (ByteArray×Bool)))=some (.inl ())\/iter (lF n p) n ((0:Int),([]:List (ByteArray×Bool)))=some (.inr (.inr (.inr false))):=by
 obtain⟨o,h1,h2⟩:=eH (step:=lF n p) (λ i (v:Int×List (ByteArray×Bool))=>∃m,v=((i:Int),m)/\i<=p.gives.length) (λ o=>o= .inl ()\/o= .inr (.inr (.inr false))) p.gives.length (λ k v ⟨_,_,h⟩=>h) (by
  rintro i v ⟨m,rfl,hi⟩;by_cases hlt:i<p.gives.length
  ·have key:∃b,((bif ((qH Gb.gS p.gives[i].name m).getD false)then some true else(xE n p.gives[i].name).bind λr4=>(bif (!r4)then some true else(bif (decide (p.gives[i].n<(0:Int)))then some true else some (decide (p.gives[i].n>(1073741824:Int)))))):Option (Bool))=some b:=
    fq ⟨_,rfl⟩ (tY (ajz _ hn) λ_=>fq ⟨_,rfl⟩ (fq ⟨_,rfl⟩ ⟨_,rfl⟩))
   obtain⟨b,hb⟩:=key;simp only[lF,show decide ((i:Int)<(p.gives.length:Int))=true from by simp;omega,aj,bB hlt,ah,hb,aY i];cases b with
   |true=>exact .inr ⟨_,rfl,.inr rfl⟩
   |false=>exact .inl ⟨_,rfl,_,rfl,hlt⟩
  ·simp only[lF,show decide ((i:Int)<(p.gives.length:Int))=false from by simp;omega,ak];exact .inr ⟨_,rfl,.inl rfl⟩) n 0 _ ⟨[],rfl,Nat.zero_le _⟩ (by omega)
 rcases h2 with rfl |rfl
 ·exact .inl h1
 ·exact .inr h1
theorem ag7{d:aV}(hd:ZR d)(hg:HF d)(hn:4000002<=n):iter (lG n d) n (0:Int)=some (.inl ())\/iter (lG n d) n (0:Int)=some (.inr false):=by
 have hd1:=hd.1;obtain⟨o,h1,h2⟩:=eH (step:=lG n d) (λ i (v:Int)=>v=(i:Int)/\i<=d.phases.length) (λ o=>o= .inl ()\/o= .inr false) d.phases.length (λ k v h=>h.2) (by
  rintro i v ⟨rfl,hi⟩;by_cases hlt:i<d.phases.length
  ·simp only[lG,show decide ((i:Int)<(d.phases.length:Int))=true from by simp;omega,aj,bB hlt,ah,aY i];rcases ag6 (n:=n) (hg _ (getElem_mem hlt)) hn with h |h
   ·simp only[h,dw];cases decide ((d.phases[i].gives.length:Int)>30)with
    |true=>exact .inr ⟨_,rfl,.inr rfl⟩
    |false=>exact .inl ⟨_,rfl,rfl,hlt⟩
   ·simp only[h,fG];exact .inr ⟨_,rfl,.inr rfl⟩
  ·simp only[lG,show decide ((i:Int)<(d.phases.length:Int))=false from by simp;omega,ak];exact .inr ⟨_,rfl,.inl rfl⟩) n 0 0 ⟨rfl,Nat.zero_le _⟩ (by omega)
 rcases h2 with rfl |rfl
 ·exact .inl h1
 ·exact .inr h1
theorem LY{d:aV}(hd:ZR d):(kM d).length<=1000000:=by
 have:=Qb hd.2;have:=hd.1;unfold kM;omega
theorem amz{d:aV}(hd:ZR d)(hg:HF d)(hn:4000002<=n):∃b,zk n d=some b/\(b=true->∀v∈kM d,okV v=true):=by
 simp only[zk,all_eq hd (show 1001<=n by omega),ah];have key:∀c1 c2 c3 c4 c5 c6:Bool,∃b,((bif c1 then some true else(bif c2 then some true else(bif c3 then some true else(bif c4 then some true else(bif c5 then some true else some c6))))):Option Bool)=some b:=by
  intro c1 c2 c3 c4 c5 c6;exact fq ⟨_,rfl⟩ (fq ⟨_,rfl⟩ (fq ⟨_,rfl⟩ (fq ⟨_,rfl⟩ (fq ⟨_,rfl⟩ ⟨_,rfl⟩))))
 have⟨b,hb⟩:=key (decide (d.lot<0)) (decide (d.lot>1073741824)) (decide ((d.phases.length:Int)<1)) (decide ((d.phases.length:Int)>8)) (decide (((kM d).length:Int)<1)) (decide (((kM d).length:Int)>40));rw[hb];cases b with
 |true=>exact⟨false,rfl,λh=>(by cases h)⟩
 |false=>
  simp only[ah,ak];rcases ag5 (n:=n) (LY hd) hn with h |⟨h,hall⟩
  ·simp only[h,fG];exact⟨false,rfl,λh=>(by cases h)⟩
  ·simp only[h,dw];rcases ag7 (n:=n) hd hg hn with h2 |h2
   ·simp only[h2,dw];exact⟨true,rfl,λ_=>hall⟩
   ·simp only[h2,fG];exact⟨false,rfl,λh=>(by cases h)⟩
theorem H9{l:List ig}{φ:(ig×Unit)->Option Bool}(p:ig->Bool)(h:∀x∈l,φ (x,())=some (p x))(hl:l.length<1099511627776)(hn:l.length<n):ni n l φ=some (l.any p):=by
 have:vU n l φ=some (Du p l):=iG p h hl hn;simp only[ni,this,ah,ze]
theorem alr{lot:gZ}{l:List aF}(ha:lot.area.length<=900)(hv:∀v∈l,okV v=true)(hl:l.length<=1000000)(hn:4000002<=n):iter (j5 n lot l) n (0:Int)=some (.inl ())\/iter (j5 n lot l) n (0:Int)=some (.inr false):=by
 obtain⟨o,h1,h2⟩:=eH (step:=j5 n lot l) (λ i (v:Int)=>v=(i:Int)/\i<=l.length) (λ o=>o= .inl ()\/o= .inr false) l.length (λ k v h=>h.2) (by
  rintro i v ⟨rfl,hi⟩;by_cases hlt:i<l.length
  ·have hb:=Qa (hv _ (getElem_mem hlt));have hcl:=acE (keep:=λp q=>p&&q) lot.area [ic l[i]];have hc:=acD (n:=n) (a:=lot.area) (b:=[ic l[i]]) (by omega) (by simp) (by omega) (by simp;omega) (by omega);have hA:=Yc (n:=n) (a:=(uW (λ p q=>p&&q) lot.area [ic l[i]]).1) (by omega) (by omega);have hr:=FI hb;simp only[ic]at hc hA hr;simp only[j5,show decide ((i:Int)<(l.length:Int))=true from by simp;omega,aj,bL hlt,bM hlt,ah,show ∀r:ay,sub [r] 0 1=[r]from λ_=>rfl,length_singleton,aG,hc,hA,hr,aY i];have key:∀c x:Bool,∃b,((bif c then some true else some x):Option Bool)=some b:=λc x=>fq ⟨_,rfl⟩ ⟨_,rfl⟩;obtain⟨b,hb2⟩:=key ((uW (λ p q=>p&&q) lot.area [⟨l[i].bz,l[i].cj,l[i].bx,l[i].ci⟩]).2 !=0) (decide ((bif cJ (uW (λ p q=>p&&q) lot.area [⟨l[i].bz,l[i].cj,l[i].bx,l[i].ci⟩]).1 then NF (uW (λ p q=>p&&q) lot.area [⟨l[i].bz,l[i].cj,l[i].bx,l[i].ci⟩]).1 else 0)<HT ⟨l[i].bz,l[i].cj,l[i].bx,l[i].ci⟩));rw[hb2];cases b with
   |true=>exact .inr ⟨_,rfl,.inr rfl⟩
   |false=>exact .inl ⟨_,rfl,rfl,hlt⟩
  ·simp only[j5,show decide ((i:Int)<(l.length:Int))=false from by simp;omega,ak];exact .inr ⟨_,rfl,.inl rfl⟩) n 0 0 ⟨rfl,Nat.zero_le _⟩ (by omega)
 rcases h2 with rfl |rfl
 ·exact .inl h1
 ·exact .inr h1
theorem als{p:cK}{ph:iH}(hc:p.caps.length<=1000)(hp:ph.gives.length<=1000)(hn:4000002<=n):iter (j6 n p ph) n (0:Int)=some (.inl ())\/iter (j6 n p ph) n (0:Int)=some (.inr (.inr (.inr false))):=by
 obtain⟨o,h1,h2⟩:=eH (step:=j6 n p ph) (λ i (v:Int)=>v=(i:Int)/\i<=ph.gives.length) (λ o=>o= .inl ()\/o= .inr (.inr (.inr false))) ph.gives.length (λ k v h=>h.2) (by
  rintro i v ⟨rfl,hi⟩;by_cases hlt:i<ph.gives.length
  ·simp only[j6,show decide ((i:Int)<(ph.gives.length:Int))=true from by simp;omega,aj,bB hlt,ah,H9 (n:=n) (l:=p.caps) (φ:=λ(y1:ig×Unit)=>vT y1.1 ph.gives[i]) (λ c=>ByteArray.toList c.name==ByteArray.toList ph.gives[i].name) (λ _ _=>rfl) (by omega) (by omega),aY i];cases (p.caps.any λc=>ByteArray.toList c.name==ByteArray.toList ph.gives[i].name)with
   |false=>exact .inr ⟨_,rfl,.inr rfl⟩
   |true=>exact .inl ⟨_,rfl,rfl,hlt⟩
  ·simp only[j6,show decide ((i:Int)<(ph.gives.length:Int))=false from by simp;omega,ak];exact .inr ⟨_,rfl,.inl rfl⟩) n 0 0 ⟨rfl,Nat.zero_le _⟩ (by omega)
 rcases h2 with rfl |rfl
 ·exact .inl h1
 ·exact .inr h1
theorem alu{p:cK}{d:aV}(hc:p.caps.length<=1000)(hd:ZR d)(hg:HF d)(hn:4000002<=n):iter (kg n p d) n (0:Int)=some (.inl ())\/iter (kg n p d) n (0:Int)=some (.inr false):=by
 have hd1:=hd.1;obtain⟨o,h1,h2⟩:=eH (step:=kg n p d) (λ i (v:Int)=>v=(i:Int)/\i<=d.phases.length) (λ o=>o= .inl ()\/o= .inr false) d.phases.length (λ k v h=>h.2) (by
  rintro i v ⟨rfl,hi⟩;by_cases hlt:i<d.phases.length
  ·simp only[kg,show decide ((i:Int)<(d.phases.length:Int))=true from by simp;omega,aj,bB hlt,ah,aY i];rcases als (n:=n) hc (hg _ (getElem_mem hlt)) hn with h |h
   ·simp only[h,dw];exact .inl ⟨_,rfl,rfl,hlt⟩
   ·simp only[h,fG];exact .inr ⟨_,rfl,.inr rfl⟩
  ·simp only[kg,show decide ((i:Int)<(d.phases.length:Int))=false from by simp;omega,ak];exact .inr ⟨_,rfl,.inl rfl⟩) n 0 0 ⟨rfl,Nat.zero_le _⟩ (by omega)
 rcases h2 with rfl |rfl
 ·exact .inl h1
 ·exact .inr h1
theorem ajB{p:cK}{lot:gZ}{d:aV}(hc:p.caps.length<=1000)(ha:lot.area.length<=900)(hd:ZR d)(hg:HF d)(hn:4000002<=n):∃b,oQ n p lot d=some b/\(b=true->∀v∈kM d,okV v=true):=by
 have⟨b,hb,hv⟩:=amz (n:=n) hd hg hn;simp only[oQ,hb,ah];cases b with
 |false=>exact⟨false,by simp only[Bool.not_false,aj,ah],λh=>(by cases h)⟩
 |true=>
  simp only[Bool.not_true,ak,mE (n:=n) (l:=lot.area) (by omega) (by omega) (by omega),ah];cases (lot.id !=d.lot)with
  |true=>exact⟨false,by simp only[aj,ah],λh=>(by cases h)⟩
  |false=>
   cases cJ lot.area with
   |false=>exact⟨false,by simp only[Bool.not_false,aj,ak,ah],λh=>(by cases h)⟩
   |true=>
    simp only[Bool.not_true,ak,ah,all_eq hd (show 1001<=n by omega)];rcases alr (n:=n) ha (hv rfl) (LY hd) hn with h |h
    ·simp only[h,dw];rcases alu (n:=n) hc hd hg hn with h2 |h2
     ·simp only[h2,dw];exact⟨true,rfl,λ_=>hv rfl⟩
     ·simp only[h2,fG];exact⟨false,rfl,λh=>(by cases h)⟩
    ·simp only[h,fG];exact⟨false,rfl,λh=>(by cases h)⟩
theorem amA{p:cK}{ms:List bP}{zs:List ByteArray}{e:bK}(hp:Up p)(hm:ms.length<=4000000)(hz:zs.length<=4000000)(he:(toE e).wt<=4000000)(hn:5000003<=n)(hn2:n<=9223372036854775000):∃v,CP n p ms zs e=some v:=by
 obtain⟨b,hb,hv⟩:=TY (n:=n) (by omega) hn2 he;simp only[CP,AZ,hb,ah];cases b with
 |false=>exact⟨_,rfl⟩
 |true=>
  have⟨kn,ab,h1,_⟩:=NH (n:=n) hp hm hz hn hn2;obtain⟨v,h2⟩:=Yq (n:=n) (a0:=p.defs) (a2:=p.zones) (a3:=p.rules) (a4:=p.caps) (a5:=p.views) (a6:=p.nt) (a7:=p.hours) (by omega) hp.tabs hz n e kn (hv rfl) he;simp only[Bool.not_true,ak,h1,ah,gq,h2];exact⟨_,rfl⟩
section
variable {n:Nat} {d:List fJ} {ts:List bX} {z:List dY} {r r':List aP} {c:List ig} {v:List fH} {su:List bU} {h:Int} {zs:List ByteArray}
theorem KX:∀(m:Nat)(e:bK)(kn:List (ByteArray×Int)),bR n m d ts z r c v su h zs e kn=bR n m d ts z r' c v su h zs e kn
 | 0,_,_=>rfl
 |m+1,e,kn=>by
  have ih:=KX m;have hs:fw n (bR n m) d ts z r c v su h zs e=fw n (bR n m) d ts z r' c v su h zs e:=by
   funext ⟨v1,v2,v3⟩;simp only[fw,ih]
  have hr:∀w,jw n d ts z r c v su h zs e w=jw n d ts z r' c v su h zs e w:=λ_=>rfl;show fE n (bR n m) d ts z r c v su h zs e kn=fE n (bR n m) d ts z r' c v su h zs e kn;simp only[fE,hs,AZ,hr]
theorem ag8{ms:List bP}:(mW n (cK.mk d ts z r c v su h) ms zs).map (λ q=>q.2.2.2.2.2.2.2.2.2)=(mW n (cK.mk d ts z r' c v su h) ms zs).map (λ q=>q.2.2.2.2.2.2.2.2.2):=by
 have hs:∀w2 r1,gQ n (cK.mk d ts z r c v su h) zs w2 r1=gQ n (cK.mk d ts z r' c v su h) zs w2 r1:=by
  intro w2 r1;funext ⟨v6,v7,v8⟩;have hv:∀e kn,gq n d ts z r c v su h zs e kn=gq n d ts z r' c v su h zs e kn:=λe kn=>KX n e kn;simp only[gQ,hv]
 have ho:om n (cK.mk d ts z r c v su h)=om n (cK.mk d ts z r' c v su h):=rfl;simp only[mW,hs,ho];cases iter (kr n ms) n ((0:Int),([]:(List (ByteArray×Int))),([]:(List (ByteArray×Bool))))with
 |none=>rfl
 |some w=>
  obtain⟨w1,w2⟩:=w;simp only[ah];cases (decide ((d.length:Int)<=(d.length:Int))&&(decide (0<=(d.length:Int))&&Bz (d.length:Int) 8))with
  |false=>rfl
  |true=>
   simp only[aj];cases om n (cK.mk d ts z r' c v su h)with
   |none=>rfl
   |some r1=>
    simp only[ah];cases (r1.2.2 !=(0:Int))with
    |true=>
     simp only[aj];cases bm (((d.length:Int):Int).toNat) (List.replicate ((d.length:Int):Int).toNat (0:Int)).length<;>rfl
    |false=>
     simp only[ak];cases iter (gQ n (cK.mk d ts z r' c v su h) zs w2 r1) n ((0:Int),w1,(List.replicate ((d.length:Int):Int).toNat (0:Int)))with
     |none=>rfl
     |some q=>
      obtain⟨w3,w4⟩:=q;simp only[ah];cases bm (((d.length:Int):Int).toNat) w4.length<;>rfl
theorem ag9{ms:List bP}{e:bK}(hp:gE d)(ht:Kf ts)(hm:ms.length<=4000000)(hz:zs.length<=4000000)(hn:5000003<=n)(hn2:n<=9223372036854775000):CP n (cK.mk d ts z r c v su h) ms zs e=CP n (cK.mk d ts z r' c v su h) ms zs e:=by
 have⟨kn,ab,h1,_⟩:=NH (n:=n) (p:=cK.mk d ts z r c v su h) ⟨hp,ht⟩ hm hz hn hn2;have⟨ZS,out2,h2,_⟩:=NH (n:=n) (p:=cK.mk d ts z r' c v su h) ⟨hp,ht⟩ hm hz hn hn2;have h3:=ag8 (n:=n) (d:=d) (ts:=ts) (z:=z) (r:=r) (r':=r') (c:=c) (v:=v) (su:=su) (h:=h) (zs:=zs) (ms:=ms);rw[h1,h2]at h3;simp only[Option.map_some,aA,Prod.mk.injEq]at h3;obtain⟨rfl,rfl⟩:=h3;simp only[CP,h1,h2,ah,gq,KX (r:=r) (r':=r')]
end
theorem Uz{b:ay}{l:List dS}{s:List fI}(ha:∀c∈s,c.area.length<=200)(hs:s.length<=1000)(hl:l.length<=1000)(hn:2000<=n):
 zF n b l s=some (HZ b l&&(DR s&&!(s.any λc=>decide (IM b l c.area<c.z1)))):=by
 unfold zF;rw[Yk b l hl hn];simp only[ah];cases hv:HZ b l with
 |false=>simp only[Bool.not_false,aj,ah,Bool.false_and]
 |true=>
  have⟨v1,v2⟩:=(aeM b l).1 hv;simp only[Bool.not_true,ak,TU (n:=n) (s:=s) (λ x hx=>by have:=ha x hx;omega) (by omega),ah,Bool.true_and];cases hr:DR s with
  |false=>simp only[Bool.not_false,aj,Bool.false_and]
  |true=>
   have⟨_,sok,_⟩:=(NG s).1 hr;simp only[Bool.not_true,ak,Bool.true_and];rw[tX (λ c=>decide (IM b l c.area<c.z1)) (λ c hc=>by
    have:=ha c hc;show sF n c b l=_;unfold sF;rw[Ux v1 v2 (uU (sok c hc).rt).1 (by omega) hl hn];rfl) (by omega) (by omega)]
   simp only[ah]
def o8(v:aF):List fI:=[⟨v.ek,v.dE,[ic v]⟩]
theorem aeZ(v:aF):zA v=some (o8 v):=rfl
def VB(b:ay)(p:dS)(v:aF):Bool:=HZ b [p]&&(DR (o8 v)&&!((o8 v).any λc=>decide (IM b [p] c.area<c.z1)))
def R4(r:aP):dS:=dS.mk r.ii r.ij r.i9 r.jj
theorem acM(v:aF)(b:ay)(r:aP)(hn:2000<=n):jU n v b r=some (!VB b (R4 r) v):=by
 have h:=Uz (n:=n) (b:=b) (l:=[R4 r]) (s:=o8 v) (by simp[o8]) (by simp[o8]) (by simp) hn;unfold R4 at h;have hl:(o8 v).length=1:=rfl;simp only[jU,aeZ,ah,dn,aG,aj,show ∀x:dS,sub [x] 0 1=[x]from λ_=>rfl,length_singleton,h,VB,R4];rfl
def Kd(r:aP)(v:aF):Bool:=bits .and .i64 r.uses (i64.wrap (1*2 ^ (v.use:Int).toNat))==(0:Int)
theorem acN{v:aF}(h:okV v=true)(r:aP):jV v r=some (Kd r v):=by
 have hu:0<=v.use/\v.use<6:=by
  simp only[okV,aJ,aT]at h;omega
 have hb:i64.bits=64:=rfl;simp only[jV,Kd,show(decide (0<=v.use)&&decide (v.use<=i64.bits))=true from by simp[hb];omega,aj]
def Mb(lot:Int)(r:aP)(v:aF)(b:dx):Bool:=(dQ b (mO.mk [] [] [] [] [] [] [] 0 [] [] [] [] [] 0 0 [] [] lot [] [] []) v r).getD false
theorem ae0{b:dx}{s:mO}{v:aF}{r:aP}:dQ b s v r=some (Mb s.dy r v b):=by
 have key:∃x,dQ b (mO.mk [] [] [] [] [] [] [] 0 [] [] [] [] [] 0 0 [] [] s.dy [] [] []) v r=some x:=by
  simp only[dQ,jD,ala,ah];refine tY (fq ⟨_,rfl⟩ (fq ⟨_,rfl⟩ (fq ⟨_,rfl⟩ ⟨_,rfl⟩))) λ_=>fq ⟨_,rfl⟩ (tY (fq (fq ⟨_,rfl⟩ (fq ⟨_,rfl⟩ ⟨_,rfl⟩)) (fq ⟨_,rfl⟩ ⟨_,rfl⟩)) λ_=>fq ⟨_,rfl⟩ ⟨_,rfl⟩)
 have e:dQ b s v r=dQ b (mO.mk [] [] [] [] [] [] [] 0 [] [] [] [] [] 0 0 [] [] s.dy [] [] []) v r:=rfl;obtain⟨x,hx⟩:=key;rw[e,Mb,hx];rfl
theorem BD{l:List dx}{φ:(dx×Unit)->Option Bool}(p:dx->Bool)(h:∀x∈l,φ (x,())=some (p x))(hl:l.length<1099511627776)(hn:l.length<n):jW n l φ=some (l.any p):=by
 have:qW n l φ=some (Du p l):=iG p h hl hn;simp only[jW,this,ah,ze]
def L7(built:List dx)(lot:Int)(r:aP)(v:aF):Bool:=built.any (Mb lot r v)
theorem acQ{s:mO}{v:aF}{r:aP}(hb:s.fS.length<=1000)(hn:2000<=n):jX n v s r=some (L7 s.fS s.dy r v):=by simp only[jX,sV,BD (n:=n) (l:=s.fS) (φ:=λ(y1:dx×Unit)=>dQ y1.1 s v r) (Mb s.dy r v) (λ x _=>ae0) (by omega) (by omega),ah,L7]
def i8(r:aP):bK:=bK.mk r.kA r.mm r.ml r.i7 r.fW
def l4(t:dG):cK:=cK.mk t.cm t.b7 t.b8 [] t.cp t.cd t.cz t.cg
structure NI(t:dG):Prop where
 lots:∀l∈t.land,BT l
 land:t.land.length<=1000
 Sf:t.cy.length<=900/\∀e∈t.cy,e.area.length<=900
 built:t.built.length<=1000
 zones:t.b8.length<=100
 caps:t.cp.length<=1000
 rules:t.az.length<=100
 rule:∀r∈t.az,KV r/\(toE (i8 r)).wt<=4000000
 plan:Up (l4 t)
def vy(d:aV):Prop:=ZR d/\HF d
def Yr(n:Nat):Prop:=5000003<=n/\n<=9223372036854775000
def o9(t:dG)(lot:gZ):List ByteArray:=CI t.b8 lot.area
def rb(t:dG)(lot:gZ)(d:aV):mO:=mO.mk t.cm t.b7 t.b8 t.az t.cp t.cd t.cz t.cg t.land t.cy t.windows t.built t.base lot.id lot.owner lot.area lot.from_ d.lot d.phases (kM d) (o9 t lot)
theorem alv{d:aV}(h:ZR d)(hn:1001<=n):uJ n d=some (kM d):=by
 obtain⟨h1,h2⟩:=h;unfold uJ;have key:=LX (step:=pz d) (λ i=>((i:Int),(d.phases.take i).flatMap (·.cx))) (s:=((0:Int),([]:List aF))) d.phases.length (kM d) rfl (λ i hi=>by
  have hl:=Qb (l:=d.phases.take i) λp hp=>h2 p (List.mem_of_mem_take hp);rw[length_take]at hl;have hv:=h2 _ (getElem_mem hi);generalize hL:(d.phases.take i).flatMap (·.cx)=L at hl;have hap:bW L.length L.length d.phases[i].cx.length d.phases[i].cx.length 72=true:=eX (by omega) (by simp only[maxLen];omega);simp only[pz,dU hi,aj,bB hi,ah,hap,fF,aG,aY i];rw[jl hi,List.flatMap_append,hL];simp only[List.flatMap_cons,List.flatMap_nil,append_nil]) (by simp only[pz,fU,ak,aG,aj,List.take_length,kM]) n (by omega)
 have hz:bm 0 ([]:List aF).length=true:=rfl;simp only[hz,aj,key,ah,dn,aG]
def Tl(n:Nat)(t:dG)(d:aV):Bool:=(oQ n (l4 t) (ny t.land d.lot).1 d).getD false
def lq(n:Nat)(t:dG)(d:aV):Int:=bif(ny t.land d.lot).2 then(bif Tl n t d then 0 else 1)else 4
def aoj:mO:=mO.mk ([]) ([]) ([]) ([]) ([]) ([]) ([]) 0 ([]) ([]) ([]) ([]) ([]) 0 0 ([]) ([]) 0 ([]) ([]) ([])
theorem look_eq{t:dG}{d:aV}(ht:NI t)(hd:vy d)(hn:Yr n):xN n t d=some (bif lq n t d==0 then rb t (ny t.land d.lot).1 d else aoj,lq n t d)/\(lq n t d=0->∀v∈kM d,okV v=true):=by
 obtain⟨hn1,hn2⟩:=hn;have hl:=ht.land;have e1:Pm n t.land d.lot=some (ny t.land d.lot):=ajr ht.lots (by omega) (by omega);have hw:=RY ht.lots d.lot;obtain⟨b,hb,hv⟩:=ajB (n:=n) (p:=l4 t) (lot:=(ny t.land d.lot).1) (d:=d) ht.caps hw.1 hd.1 hd.2 (by omega);have e2:oQ n (cK.mk t.cm t.b7 t.b8 t.az t.cp t.cd t.cz t.cg) (ny t.land d.lot).1 d=some b:=hb;have e3:Fw n (cK.mk t.cm t.b7 t.b8 t.az t.cp t.cd t.cz t.cg) (ny t.land d.lot).1.area=some (CI t.b8 (ny t.land d.lot).1.area):=acF _ _ ht.zones hw.1 (by omega);have e4:Tl n t d=b:=by unfold Tl;rw[hb];rfl
 simp only[xN,e1,e2,e3,alv hd.1 (show 1001<=n by omega),ah,dn,aG,aj,lq,e4];cases (ny t.land d.lot).2 with
 |false=>exact⟨rfl,λh=>absurd (show (4:Int)=0 from h) (by decide)⟩
 |true=>
  cases b with
  |false=>exact⟨rfl,λh=>absurd (show (1:Int)=0 from h) (by decide)⟩
  |true=>exact⟨rfl,λ_=>hv rfl⟩
def am0(n:Nat)(t:dG)(lot:gZ)(d:aV)(r:aP):Bool:=((sQ n (l4 t) lot d).bind λms=>CP n (l4 t) ms (o9 t lot) (i8 r)).getD 1==0
def Mj(n:Nat)(t:dG)(lot:gZ)(d:aV)(r:aP):Bool:=
 bif r.kind==0 then am0 n t lot d r else bif r.kind==1 then(kM d).any (λ v=>!VB (VA lot.area).1 (R4 r) v)else bif r.kind==2 then(kM d).any (Kd r)else bif r.kind==3 then(kM d).any (L7 t.built d.lot r)else false
theorem Yt{t:dG}(ht:NI t)(lot:gZ):(o9 t lot).length<=100:=Nat.le_trans (amt _ _) ht.zones
theorem abn{t:dG}{lot:gZ}{d:aV}{r:aP}(ht:NI t)(hl:lot.area.length<=900)(hd:vy d)(hv:∀v∈kM d,okV v=true)(hr:(toE (i8 r)).wt<=4000000)(hn:Yr n):jF n (rb t lot d) r=some (Mj n t lot d r):=by
 obtain⟨hn1,hn2⟩:=hn;have hvl:=LY hd.1;have hz:=Yt ht lot;simp only[jF,gT,Mj];cases (r.kind==0)with
 |true=>
  have htb:=ht.plan.tabs;obtain⟨e1,e2,e3,e4,e5,e6,e7,e8,hOf⟩:=aoh (n:=n) (p:=l4 t) (lot:=lot) (d:=d) ⟨by have:=htb.1;omega,by have:=htb.1;omega,λx hx=>by have:=htb.2 x hx;omega⟩ hl hd.1 (by omega);have h1:=hOf t.az;have h2:=hOf [];have h2':sQ n (l4 t) lot d=_:=h2;have h1':sQ n (cK.mk t.cm t.b7 t.b8 t.az t.cp t.cd t.cz t.cg) (gZ.mk lot.id lot.owner lot.area lot.from_) (aV.mk d.lot d.phases)=_:=h1;obtain⟨v,hE⟩:=amA (n:=n) (p:=l4 t) (ms:=[⟨⟨#[97,114,101,97]⟩,e1⟩,⟨⟨#[99,111,118,101,114]⟩,e2⟩,⟨⟨#[102,108,111,111,114]⟩,e3⟩,⟨⟨#[102,108,111,111,114,115]⟩,e4⟩,⟨⟨#[104,101,105,103,104,116]⟩,e5⟩,⟨⟨#[104,111,109,101,115]⟩,e6⟩,⟨⟨#[114,117,110,111,102,102]⟩,e7⟩,⟨R3,Qc (rQ lot) (iZ d)⟩,⟨⟨#[116,114,97,102,102,105,99]⟩,e8⟩]) (zs:=o9 t lot) (e:=i8 r) ht.plan (by simp) (by omega) hr hn1 hn2;have hE':=(ag9 (n:=n) (d:=t.cm) (ts:=t.b7) (z:=t.b8) (r:=t.az) (r':=[]) (c:=t.cp) (v:=t.cd) (su:=t.cz) (h:=t.cg) (zs:=o9 t lot) (ms:=[⟨⟨#[97,114,101,97]⟩,e1⟩,⟨⟨#[99,111,118,101,114]⟩,e2⟩,⟨⟨#[102,108,111,111,114]⟩,e3⟩,⟨⟨#[102,108,111,111,114,115]⟩,e4⟩,⟨⟨#[104,101,105,103,104,116]⟩,e5⟩,⟨⟨#[104,111,109,101,115]⟩,e6⟩,⟨⟨#[114,117,110,111,102,102]⟩,e7⟩,⟨R3,Qc (rQ lot) (iZ d)⟩,⟨⟨#[116,114,97,102,102,105,99]⟩,e8⟩]) (e:=i8 r) ht.plan.defs ht.plan.tabs (by simp) (by omega) hn1 hn2).trans hE;unfold i8 at hE';simp only[aj,rb,h1',ah,dn,aG,hE',am0,h2',hE,Option.getD_some]
 |false=>
  cases (r.kind==1)with
  |true=>
   simp only[aj,ak,show(rb t lot d).ke=lot.area from rfl,show(rb t lot d).cx=kM d from rfl,acH (n:=n) lot.area hl (by omega),ah];rw[fV (λ v=>!VB (VA lot.area).1 (R4 r) v) (λ v _=>acM v _ r (by omega)) (by omega) (by omega)];rfl
  |false=>
   cases (r.kind==2)with
   |true=>
    simp only[aj,ak,show(rb t lot d).cx=kM d from rfl];rw[fV (Kd r) (λ v hm=>acN (hv v hm) r) (by omega) (by omega)];rfl
   |false=>
    cases (r.kind==3)with
    |true=>
     simp only[aj,ak,show(rb t lot d).cx=kM d from rfl];rw[fV (L7 t.built d.lot r) (λ v _=>acQ (s:=rb t lot d) ht.built (by omega)) (by omega) (by omega)];rfl
    |false=>rfl
def addN(ab:List ByteArray)(name:ByteArray)(bad:Bool):List ByteArray:=bif bad&&!(ab.any (gS name))then ab++[name]else ab
theorem Yu(ab:List ByteArray)(name:ByteArray)(bad:Bool):(addN ab name bad).length<=ab.length+1:=by
 unfold addN;cases (bad&&!(ab.any (gS name)))<;>simp
theorem ae1{name:ByteArray}{bad:Bool}{ab:List ByteArray}(hl:ab.length<=1000)(hn:2000<=n):jG n name bad ab=some (addN ab name bad):=by
 have hmx:maxLen=9223372036854775807:=rfl;have hap:bW ab.length ab.length (sub [name] 0 1).length 1 16=true:=by simp[bW,sub];omega
 simp only[jG,dn,aG,aj,vI (n:=n) (l:=ab) (a:=name) (by omega) (by omega),ah,addN,hap,fF];cases bad with
 |false=>rfl
 |true=>cases (ab.any (gS name))<;>rfl
def HW(t:dG)(d:aV):Bool:=(kM d).any λv=>!Ym t.cy d.lot (o8 v)
def LZ:ByteArray:=⟨#[101,97,115,101,109,101,110,116]⟩
def Ia(n:Nat)(t:dG)(lot:gZ)(d:aV)(l:List aP):List ByteArray:=l.foldl (λ ab r=>addN ab r.name (Mj n t lot d r)) []
theorem wU(f:aP->Bool):∀(l:List aP)(ab:List ByteArray),(l.foldl (λ ab r=>addN ab r.name (f r)) ab).length<=ab.length+l.length
 |[],ab=>by simp
 |r::l,ab=>by
  have h1:=wU f l (addN ab r.name (f r));have h2:=Yu ab r.name (f r);rw[foldl_cons,bE];omega
def applied(t:dG)(lot:gZ)(day:Int):List aP:=t.az.filter (iR (o9 t lot) day)
def jH(t:dG)(d:aV):gZ:=(ny t.land d.lot).1
def oq(n:Nat)(t:dG)(d:aV)(day:Int):List ByteArray:=bif lq n t d==0 then addN (Ia n t (jH t d) d (applied t (jH t d) day)) LZ (HW t d)else []
theorem FJ{t:dG}{d:aV}(day:Int)(ht:NI t)(hd:vy d)(hn:Yr n):iq n t d day=some (oq n t d day,lq n t d):=by
 obtain⟨hk,hv⟩:=look_eq (n:=n) ht hd hn;have hn1:=hn.1;have hvl:=LY hd.1;simp only[iq,hk,ah,oq];by_cases h0:lq n t d=0
 ·have t8:(lq n t d==0)=true:=by simp[h0]
  have RK:(lq n t d !=0)=false:=by simp[h0]
  have hw:=RY ht.lots d.lot;have hz:=Yt ht (jH t d);have hA:uM n (cK.mk t.cm t.b7 t.b8 t.az t.cp t.cd t.cz t.cg) (o9 t (jH t d)) day=some ((RX t.az (o9 t (jH t d)) day).map λ(i:Nat)=>(i:Int)):=Uv _ _ _ (λ r hr=>(ht.rule r hr).1) ht.rules hz (by omega);have hal:(RX t.az (o9 t (jH t d)) day).length<=100:=Nat.le_trans (length_filter_le _ _) (by rw[List.length_range];exact ht.rules);have hpick:(RX t.az (o9 t (jH t d)) day).filterMap (λ i=>t.az[i]?)=applied t (jH t d) day:=TW (iR (o9 t (jH t d)) day) t.az;have hloop:∀A:List Nat,A.length<=100->(∀ i∈A,i<t.az.length)->iter (nI n t (rb t (jH t d) d,lq n t d) (A.map λ(i:Nat)=>(i:Int))) n ((0:Int),([]:List ByteArray))=some (Ia n t (jH t d) d (A.filterMap λi=>t.az[i]?)):=by
   intro A hA hAr
   have key:=fZ (l:=A) (step:=nI n t (rb t (jH t d) d,lq n t d) (A.map λ(i:Nat)=>(i:Int))) (λ i (s:List ByteArray)=>((i:Int),s)) (λ i s=>match t.az[i]? with
    |some r=>addN s r.name (Mj n t (jH t d) d r)
    |none=>s) (λ s=>s) (λ i s=>s.length<=i) (λ i hi s hs=>by
    have hr:=hAr _ (getElem_mem hi);have hlm:(A.map λ(i:Nat)=>(i:Int)).length=A.length:=(by simp);have hg:bp (A.map λ(i:Nat)=>(i:Int)) (((0:Nat):Int)+(i:Int))=some ((A[i]:Nat):Int):=(by rw[bM (by omega)];simp);have hrr:=ht.rule _ (getElem_mem hr);have hb:=abn (n:=n) (t:=t) (lot:=jH t d) (d:=d) ht hw.1 hd (hv h0) hrr.2 hn;have e:=dI hr;simp only[nI,hlm,dU hi,aj,bL hi,hg,ah,bB hr,hb,aG,ae1 (n:=n) (name:=t.az[A[i]].name) (bad:=Mj n t (jH t d) d t.az[A[i]]) (ab:=s) (by omega) (by omega),aY i,e];exact⟨trivial,Nat.le_trans (Yu _ _ _) (by omega)⟩) (λ s _=>by
    have hlm:(A.map λ(i:Nat)=>(i:Int)).length=A.length:=(by simp);simp only[nI,hlm,fU,ak,aG,aj]) n (by omega) [] (aQ _)
   rw[show ((0:Nat):Int)=0 from rfl]at key;rw[key];congr 1;unfold Ia;generalize ([]:List ByteArray)=s0;clear key hA
   induction A generalizing s0 with
   |nil=>rfl
   |cons a A ih=>
    have ha:=hAr a (by simp);rw[foldl_cons,List.filterMap_cons];simp only[dI ha];rw[foldl_cons];exact ih (λ i hi=>hAr i (by simp[hi])) _
  have hlo:=hloop (RX t.az (o9 t (jH t d)) day) hal (λ i hi=>by
   have:=(List.mem_filter.1 hi).1;simpa using this)
  rw[hpick]at hlo;have hrl:(Ia n t (jH t d) d (applied t (jH t d) day)).length<=100:=by
   have h1:=wU (Mj n t (jH t d) d) (applied t (jH t d) day) [];have h2:(applied t (jH t d) day).length<=100:=Nat.le_trans (length_filter_le _ _) ht.rules;unfold Ia;simp only[length_nil]at h1;omega
  have hany:gT n (rb t (jH t d) d) (λ (y1:aF×Unit)=>nH n y1.1 t d)=some (HW t d):=by
   have hs:∀v,nH n v t d=some (!Ym t.cy d.lot (o8 v)):=by
    intro v;have hl1:(o8 v).length=1:=rfl;have h:=ZQ (n:=n) (l:=t.cy) (lot:=d.lot) (s:=o8 v) ht.Sf.1 ht.Sf.2 (by simp[o8]) (by omega);simp only[nH,aeZ,ah,dn,aG,aj,h]
   simp only[gT,show(rb t (jH t d) d).cx=kM d from rfl];rw[fV (λ v=>!Ym t.cy d.lot (o8 v)) (λ v _=>hs v) (by omega) (by omega)];rfl
  have hsc:rb t (ny t.land d.lot).1 d=rb t (jH t d) d:=rfl;simp only[t8,RK,aj,ak,hsc,show(rb t (jH t d) d).zones=o9 t (jH t d)from rfl,hA,ah,length_nil,aG,hlo,hany,ae1 (n:=n) (name:=⟨#[101,97,115,101,109,101,110,116]⟩) (bad:=HW t d) (ab:=Ia n t (jH t d) d (applied t (jH t d) day)) (by omega) (by omega),dn];rw[h0];rfl
 ·have t8:(lq n t d==0)=false:=by simpa using h0
  have RK:(lq n t d !=0)=true:=by simpa using h0
  simp only[t8,RK,aj,ak]
theorem abo{t:dG}{d:aV}{r:aP}(ht:NI t)(hd:vy d)(hr:(toE (i8 r)).wt<=4000000)(hn:Yr n):mX n t d r=some ((lq n t d==0)&&Mj n t (jH t d) d r):=by
 obtain⟨hk,hv⟩:=look_eq (n:=n) ht hd hn;have hw:=RY ht.lots d.lot;simp only[mX,hk,ah];by_cases h0:lq n t d=0
 ·have t8:(lq n t d==0)=true:=by simp[h0]
  have hb:=abn (n:=n) (t:=t) (lot:=jH t d) (d:=d) (r:=r) ht hw.1 hd (hv h0) hr hn;have hsc:rb t (ny t.land d.lot).1 d=rb t (jH t d) d:=rfl;simp only[t8,aj,hsc,hb,ah,Bool.true_and]
 ·have t8:(lq n t d==0)=false:=by simpa using h0
  simp only[t8,ak,Bool.false_and]
theorem abp{t:dG}{d:aV}(day:Int)(ht:NI t)(hd:vy d)(hn:Yr n):oV n t d day=some ((lq n t d==0)&&decide (oq n t d day=[])):=by
 simp only[oV,FJ day ht hd hn,ah];cases (lq n t d==0)with
 |false=>rfl
 |true=>
  simp only[aj,Bool.true_and];cases oq n t d day with
  |nil=>rfl
  |cons x l=>
   have:(((x::l).length:Nat):Int)≠0:=(by simp;omega);rw[beq_eq_false_iff_ne.2 this];simp
theorem Db{α:Type}{l:List α}{K n:Nat}{step:Int->Option (Int⊕(Unit⊕Bool))}{good:α->Prop}(h1:∀i (hi:i<l.length),i<K->step (i:Int)=some (.inr (.inr false))\/(step (i:Int)=some (.inl ((i+1:Nat):Int))/\good l[i]))
 (h2:∀i:Nat,(¬ i<l.length\/¬i<K)->step (i:Int)=some (.inr (.inl ()))) (hn:K+1<n):iter step n (0:Int)=some (.inr false)\/(iter step n (0:Int)=some (.inl ())/\(l.length<=K->∀x∈l,good x)):=by
 obtain⟨o,g1,g2⟩:=eH (step:=step) (λ i (v:Int)=>v=(i:Int)/\i<=l.length/\i<=K/\∀x∈l.take i,good x) (λ o=>o= .inr false\/(o= .inl ()/\(l.length<=K->∀x∈l,good x))) K (λ k v h=>h.2.2.1) (by
  rintro i v ⟨rfl,hi,hK,hall⟩;by_cases hlt:i<l.length/\i<K
  ·rcases h1 i hlt.1 hlt.2 with h |⟨h,hg⟩
   ·exact .inr ⟨_,h,.inl rfl⟩
   ·refine .inl ⟨_,h,rfl,hlt.1,hlt.2,λx hx=>?_⟩;rw[List.take_add_one,dI hlt.1,aW]at hx;rcases hx with hx |hx
    ·exact hall x hx
    ·simp at hx;subst hx;exact hg
  ·refine .inr ⟨_,h2 i (by omega),.inr ⟨rfl,λhl x hx=>hall x ?_⟩⟩;rw[take_of_length_le (by omega)];exact hx) n 0 0 ⟨rfl,Nat.zero_le _,Nat.zero_le _,by simp⟩ (by omega)
 rcases g2 with rfl |⟨rfl,g2⟩
 ·exact .inl g1
 ·exact .inr ⟨g1,g2⟩
theorem Yv(hn:4000002<=n):∀(m:Nat)(e:bK)(most:Int)(L:Nat),(toE e).wt<=4000000->0<=most->most<=1000->L<=100->L+1<=m->∃r,tT n m e most (L:Int)=some r/\1<=r/\r<=most+1
 | 0,_,_,_,_,_,_,_,h=>absurd h (by omega)
 |m+1,e,most,L,hw,h0,h1,hL,hm=>by
  have hla:=Wc e;show ∃r,CW n (tT n m) e most (L:Int)=some r/\_;simp only[CW];by_cases hL1:(L:Int)<1
  ·simp only[hL1,decide_true,aj];rw[bS (by omega) (by omega)];exact⟨most+1,rfl,by omega,by omega⟩
  ·simp only[hL1,decide_false,ak];obtain⟨o,g1,g2,g3⟩:=eH (step:=uR (tT n m) e most (L:Int)) (λ i (v:Int×Int)=>v.2=(i:Int)/\i<=e.args.length/\1<=v.1/\v.1<=most+1) (λ o=>1<=o/\o<=most+1) e.args.length (λ k v h=>h.2.1) (by
    rintro i ⟨v1,v2⟩ ⟨hv,hi,i1,i2⟩;simp only at hv i1 i2;subst hv;by_cases hlt:i<e.args.length
    ·by_cases hle:v1<=most
     ·left;have hwx:=UP (getElem_mem hlt);obtain⟨r,r1,r2,r3⟩:=Yv hn m e.args[i] (most -v1) (L -1) (by omega) (by omega) (by omega) (by omega) (by omega);have eL:i64.wrap ((L:Int) -1)=((L -1:Nat):Int):=lC (by omega) (by omega);refine⟨(v1+r,((i+1:Nat):Int)),?_,rfl,hlt,by show 1<=v1+r;omega,by show v1+r<=_;omega⟩;simp only[uR,show decide ((i:Int)<(e.args.length:Int))=true from by simp;omega,aj,hle,decide_true,ah,bB hlt,bS (show -9223372036854775808<=most -v1 by omega) (show most -v1<=9223372036854775807 by omega),eL,r1,bS (show -9223372036854775808<=v1+r by omega) (show v1+r<=9223372036854775807 by omega),aY i]
     ·right;refine⟨v1,?_,i1,i2⟩;simp only[uR,show decide ((i:Int)<(e.args.length:Int))=true from by simp;omega,aj,hle,decide_false,ah,ak]
    ·right;refine⟨v1,?_,i1,i2⟩;simp only[uR,show decide ((i:Int)<(e.args.length:Int))=false from by simp;omega,ak,ah]) n 0 ((1:Int),(0:Int)) ⟨rfl,Nat.zero_le _,by simp,by show(1:Int)<=_;omega⟩ (by omega)
   simp only[g1,ah];exact⟨o,rfl,g2,g3⟩
def W8(l:List aP):Prop:=∀r∈l,(toE (i8 r)).wt<=4000000
structure J1(t:dG):Prop where
 defs:gE t.cm
 rules:W8 t.az
 wA:∀l∈t.land,l.from_.length*8<=140737488355328
theorem qX(i len K:Nat){k:Int}(hk:k=(K:Int)):((bif (decide ((i:Int)<(len:Int)))then some (decide ((i:Int)<k))else some false):Option Bool)=some (decide (i<len/\i<K)):=by
 subst hk;by_cases h1:i<len<;>by_cases h2:i<K<;>simp[h1,h2]
theorem aly{l:List aP}(hw:W8 l)(hn:Yr n):∃b,LU n l=some b/\(b=true->l.length<=6/\∀r∈l,KV r):=by
 obtain⟨hn1,hn2⟩:=hn;have h:=Db (l:=l) (K:=7) (n:=n) (step:=zH n l) (good:=KV) (λ i hi hK=>by
  obtain⟨r,hr,_,_⟩:=Yv (n:=n) (by omega) n (i8 l[i]) 40 14 (hw _ (getElem_mem hi)) (by omega) (by omega) (by omega) (by omega);have hr':Fz n (bK.mk l[i].kA l[i].mm l[i].ml l[i].i7 l[i].fW) 40 14=some r:=hr;have e:=qX i l.length 7 (k:=7) rfl;simp only[zH,e,show decide (i<l.length/\i<7)=true from by simp[hi,hK],ah,aj,bB hi,hr',aY i];by_cases c1:r>40
  ·left;simp only[c1,decide_true,aj,ah];rfl
  ·by_cases c2:(l[i].zones.length:Int)>6
   ·left;simp only[c1,c2,decide_true,decide_false,aj,ak,ah];rfl
   ·by_cases c3:(l[i].except.length:Int)>6
    ·left;simp only[c1,c2,c3,decide_true,decide_false,aj,ak,ah];rfl
    ·right;simp only[c1,c2,c3,decide_false,ak,ah];exact⟨trivial,by omega,by omega⟩) (λ i h=>by
  have e:=qX i l.length 7 (k:=7) rfl;simp only[zH,e,show decide (i<l.length/\i<7)=false from by simp;omega,ah,ak]) (by omega)
 simp only[LU];rcases h with h |⟨h,h2⟩
 ·simp only[h,fG];exact⟨false,rfl,λh=>(by cases h)⟩
 ·simp only[h,dw];exact⟨_,rfl,λhb=>by
   have:(l.length:Int)<=6:=(by simpa using hb);exact⟨by omega,h2 (by omega)⟩⟩
theorem amB{p:cK}(hd:gE p.defs)(hw:W8 p.rules)(hn:Yr n):∃b,PI n p=some b/\(b=true->(p.tables.length<=4/\∀t∈p.tables,t.rows.length<=8)/\p.zones.length<=5/\p.caps.length<=3/\p.rules.length<=6/\∀r∈p.rules,KV r):=by
 have hn':=hn;obtain⟨hn1,hn2⟩:=hn;have s1:=Db (l:=p.defs) (K:=6) (n:=n) (step:=CX n p) (good:=λ_=>True) (λ i hi hK=>by
  obtain⟨r,hr,_,_⟩:=Yv (n:=n) (by omega) n _ 40 14 (hd.body (getElem_mem hi)) (by omega) (by omega) (by omega) (by omega);have hr':Fz n (bK.mk p.defs[i].iu p.defs[i].lz p.defs[i].kh p.defs[i].io p.defs[i].er) 40 14=some r:=hr;have e:=qX i p.defs.length 6 (k:=6) rfl;simp only[CX,e,show decide (i<p.defs.length/\i<6)=true from by simp[hi,hK],ah,aj,bB hi,hr',aY i];cases decide (r>40)with
  |true=>exact .inl rfl
  |false=>exact .inr ⟨rfl,trivial⟩) (λ i h=>by
  have e:=qX i p.defs.length 6 (k:=6) rfl;simp only[CX,e,show decide (i<p.defs.length/\i<6)=false from by simp;omega,ah,ak]) (by omega)
 have s2:=Db (l:=p.tables) (K:=5) (n:=n) (step:=CY p) (good:=λt=>t.rows.length<=8) (λ i hi hK=>by
  have e:=qX i p.tables.length 5 (k:=5) rfl;simp only[CY,e,show decide (i<p.tables.length/\i<5)=true from by simp[hi,hK],ah,aj,bB hi,aY i];by_cases c1:(p.tables[i].rows.length:Int)>8
  ·left;simp only[c1,decide_true,aj];rfl
  ·right;simp only[c1,decide_false,ak];exact⟨trivial,by omega⟩) (λ i h=>by
  have e:=qX i p.tables.length 5 (k:=5) rfl;simp only[CY,e,show decide (i<p.tables.length/\i<5)=false from by simp;omega,ah,ak]) (by omega)
 have s3:=Db (l:=p.zones) (K:=6) (n:=n) (step:=CZ p) (good:=λ_=>True) (λ i hi hK=>by
  have e:=qX i p.zones.length 6 (k:=6) rfl;simp only[CZ,e,show decide (i<p.zones.length/\i<6)=true from by simp[hi,hK],ah,aj,bB hi,aY i];cases decide ((p.zones[i].corners.length:Int)>12)with
  |true=>exact .inl rfl
  |false=>exact .inr ⟨rfl,trivial⟩) (λ i h=>by
  have e:=qX i p.zones.length 6 (k:=6) rfl;simp only[CZ,e,show decide (i<p.zones.length/\i<6)=false from by simp;omega,ah,ak]) (by omega)
 have s4:=Db (l:=p.caps) (K:=4) (n:=n) (step:=C8 p) (good:=λ_=>True) (λ i hi hK=>by
  have e:=qX i p.caps.length 4 (k:=4) rfl;simp only[C8,e,show decide (i<p.caps.length/\i<4)=true from by simp[hi,hK],ah,aj,bB hi,aY i];cases decide ((p.caps[i].corners.length:Int)>12)with
  |true=>exact .inl rfl
  |false=>exact .inr ⟨rfl,trivial⟩) (λ i h=>by
  have e:=qX i p.caps.length 4 (k:=4) rfl;simp only[C8,e,show decide (i<p.caps.length/\i<4)=false from by simp;omega,ah,ak]) (by omega)
 have no:∃b,some false=some b/\(b=true->(p.tables.length<=4/\∀t∈p.tables,t.rows.length<=8)/\p.zones.length<=5/\p.caps.length<=3/\p.rules.length<=6/\∀r∈p.rules,KV r):=⟨false,rfl,λh=>(by cases h)⟩;have⟨b,hb,hb2⟩:=aly (n:=n) hw hn';simp only[PI];rcases s1 with h |⟨h,_⟩
 ·simpa only[h,fG]using no
 rcases s2 with h2 |⟨h2,ht⟩
 ·simpa only[h,h2,fG,dw]using no
 rcases s3 with h3 |⟨h3,_⟩
 ·simpa only[h,h2,h3,fG,dw]using no
 rcases s4 with h4 |⟨h4,_⟩
 ·simpa only[h,h2,h3,h4,fG,dw]using no
 simp only[h,h2,h3,h4,dw];by_cases c1:(p.defs.length:Int)<=5
 ·by_cases c2:(p.tables.length:Int)<=4
  ·by_cases c3:(p.zones.length:Int)<=5
   ·by_cases c4:(p.caps.length:Int)<=3
    ·simp only[c1,c2,c3,c4,decide_true,aj,hb,ah];exact⟨b,rfl,λh=>⟨⟨by omega,ht (by omega)⟩,by omega,by omega,hb2 h⟩⟩
    ·simpa only[c1,c2,c3,c4,decide_true,decide_false,aj,ak]using no
   ·simpa only[c1,c2,c3,decide_true,decide_false,aj,ak]using no
  ·simpa only[c1,c2,decide_true,decide_false,aj,ak]using no
 ·simpa only[c1,decide_false,ak]using no
structure am1(t:dG)(d:aV):Prop where
 town:NI t
 draw:vy d
 built:t.built.length<=8
 rules:t.az.length<=6
theorem alz{t:dG}{d:aV}(hz:J1 t)(hn:Yr n):∃b,Vu n t d=some b/\(b=true->am1 t d):=by
 have hn':=hn;obtain⟨hn1,hn2⟩:=hn;have s1:=Db (l:=t.land) (K:=5) (n:=n) (step:=Ht t) (good:=λx=>x.area.length<=6) (λ i hi hK=>by
  have e:=qX i t.land.length 5 (k:=5) rfl;simp only[Ht,e,show decide (i<t.land.length/\i<5)=true from by simp[hi,hK],ah,aj,bB hi,aY i];by_cases c1:(t.land[i].area.length:Int)>6
  ·left;simp only[c1,decide_true,aj];rfl
  ·right;simp only[c1,decide_false,ak];exact⟨trivial,by omega⟩) (λ i h=>by
  have e:=qX i t.land.length 5 (k:=5) rfl;simp only[Ht,e,show decide (i<t.land.length/\i<5)=false from by simp;omega,ah,ak]) (by omega)
 have s2:=Db (l:=t.cy) (K:=4) (n:=n) (step:=Hu t) (good:=λx=>x.area.length<=6) (λ i hi hK=>by
  have e:=qX i t.cy.length 4 (k:=4) rfl;simp only[Hu,e,show decide (i<t.cy.length/\i<4)=true from by simp[hi,hK],ah,aj,bB hi,aY i];by_cases c1:(t.cy[i].area.length:Int)>6
  ·left;simp only[c1,decide_true,aj];rfl
  ·right;simp only[c1,decide_false,ak];exact⟨trivial,by omega⟩) (λ i h=>by
  have e:=qX i t.cy.length 4 (k:=4) rfl;simp only[Hu,e,show decide (i<t.cy.length/\i<4)=false from by simp;omega,ah,ak]) (by omega)
 have s3:=Db (l:=d.phases) (K:=4) (n:=n) (step:=Hw d) (good:=λx=>x.cx.length<=3/\x.gives.length<=3) (λ i hi hK=>by
  have e:=qX i d.phases.length 4 (k:=4) rfl;simp only[Hw,e,show decide (i<d.phases.length/\i<4)=true from by simp[hi,hK],ah,aj,bB hi,aY i];by_cases c1:(d.phases[i].cx.length:Int)>3
  ·left;simp only[c1,decide_true,aj,ah];rfl
  ·by_cases c2:(d.phases[i].gives.length:Int)>3
   ·left;simp only[c1,c2,decide_true,decide_false,aj,ak,ah];rfl
   ·right;simp only[c1,c2,decide_false,ak,ah];exact⟨trivial,by omega,by omega⟩) (λ i h=>by
  have e:=qX i d.phases.length 4 (k:=4) rfl;simp only[Hw,e,show decide (i<d.phases.length/\i<4)=false from by simp;omega,ah,ak]) (by omega)
 have no:∃b,some false=some b/\(b=true->am1 t d):=⟨false,rfl,λh=>(by cases h)⟩;obtain⟨b,hb,hb2⟩:=amB (n:=n) (p:=cK.mk t.cm t.b7 t.b8 t.az t.cp t.cd t.cz t.cg) hz.defs hz.rules hn';simp only[Vu];rcases s1 with h |⟨h,hl⟩
 ·simpa only[h,fG]using no
 rcases s2 with h2 |⟨h2,he⟩
 ·simpa only[h,h2,fG,dw]using no
 rcases s3 with h3 |⟨h3,hd⟩
 ·simpa only[h,h2,h3,fG,dw]using no
 simp only[h,h2,h3,dw,hb,ah];cases b with
 |false=>simpa only[ak]using no
 |true=>
  have⟨⟨t1,t2⟩,z1,c1,r1,r2⟩:=hb2 rfl;simp only at t1 t2 z1 c1 r1 r2;simp only[aj];by_cases d1:(t.land.length:Int)<=4
  ·by_cases d2:(t.cy.length:Int)<=3
   ·by_cases d3:(t.built.length:Int)<=8
    ·simp only[d1,d2,d3,decide_true,aj];refine⟨_,rfl,λh4=>?_⟩;have h4i:(d.phases.length:Int)<=3:=(by simpa using h4);have h4':d.phases.length<=3:=(by omega);have hl':=hl (by omega);have he':=he (by omega);have hd':=hd (by omega)
     exact⟨⟨λ l hm=>⟨by have:=hl' l hm;omega,hz.wA l hm⟩,by omega,⟨by omega,λe hm=>by have:=he' e hm;omega⟩,by omega,by omega,by omega,by omega,λr hm=>⟨r2 r hm,hz.rules r hm⟩,⟨hz.defs,⟨by show t.b7.length<=_;omega,λx hx=>by have:=t2 x hx;omega⟩⟩⟩,
      ⟨⟨by omega,λp hm=>by have:=(hd' p hm).1;omega⟩,λp hm=>by have:=(hd' p hm).2;omega⟩,by omega,r1⟩
    ·simpa only[d1,d2,d3,decide_true,decide_false,aj,ak]using no
   ·simpa only[d1,d2,decide_true,decide_false,aj,ak]using no
  ·simpa only[d1,decide_false,ak]using no
def L5(a b:List ByteArray):Bool:=decide (a.length=b.length)&&(a.zip b).all λp=>gS p.1 p.2
theorem ae3(a:List ByteArray):L5 a a=true:=by
 simp only[L5,decide_true,Bool.true_and,List.all_eq_true];intro p hp;have:p.1=p.2:=by
  obtain⟨i,hi,rfl⟩:=mem_iff_getElem.1 hp;simp
 rw[this];simp[gS]
theorem ae4{a b:List ByteArray}(hl:a.length<=1000)(hn:2000<=n):Aa n a b=some (L5 a b):=by
 simp only[Aa,L5];by_cases h:a.length=b.length
 ·have hne:((a.length:Int) !=(b.length:Int))=false:=by simp[h]
  have hd:decide (a.length=b.length)=true:=by simp[h]
  rw[hne,hd];simp only[ak,Bool.true_and];obtain⟨o,g1,g2⟩:=eH (step:=zG a b) (λ i (v:Int)=>v=(i:Int)/\i<=a.length/\((a.take i).zip (b.take i)).all (λ p=>gS p.1 p.2)=true) (λ o=>(o= .inr false/\(a.zip b).all (λ p=>gS p.1 p.2)=false)\/(o= .inl ()/\(a.zip b).all (λ p=>gS p.1 p.2)=true)) a.length (λ k v h=>h.2.1) (by
   rintro i v ⟨rfl,hi,hall⟩;by_cases hlt:i<a.length
   ·have hlb:i<b.length:=(by omega);simp only[zG,show decide ((i:Int)<(a.length:Int))=true from by simp;omega,aj,bB hlt,bB hlb,ah,aY i];cases he:(ByteArray.toList a[i]==ByteArray.toList b[i])with
    |false=>
     refine .inr ⟨_,rfl,.inl ⟨rfl,?_⟩⟩;rw[List.all_eq_false];exact⟨(a[i],b[i]),by rw[mem_iff_getElem];exact⟨i,by simp;omega,by simp⟩,by simp[gS,he]⟩
    |true=>
     refine .inl ⟨_,rfl,rfl,hlt,?_⟩;rw[List.take_add_one,List.take_add_one,dI hlt,dI hlb,List.zip_append (by simp;omega),List.all_append,hall];simp[gS,he]
   ·refine .inr ⟨.inl (),?_,.inr ⟨rfl,?_⟩⟩
    ·simp only[zG,show decide ((i:Int)<(a.length:Int))=false from by simp;omega,ak]
    ·rw[take_of_length_le (by omega),take_of_length_le (by omega)]at hall;exact hall) n 0 0 ⟨rfl,Nat.zero_le _,by simp⟩ (by omega)
  rcases g2 with ⟨rfl,g2⟩ |⟨rfl,g2⟩
  ·simp only[g1,fG,g2]
  ·simp only[g1,dw,g2]
 ·have hne:((a.length:Int) !=(b.length:Int))=true:=by simpa using λe:(a.length:Int)=(b.length:Int)=>h (by omega)
  have hd:decide (a.length=b.length)=false:=by simp[h]
  rw[hne,hd];rfl
theorem alA{l:List ByteArray}{s:ByteArray}(hl:l.length<=1000)(hn:2000<=n):PK n l s=some (l.any λx=>gS x s):=by
 obtain⟨o,g1,g2⟩:=eH (step:=Hy l s) (λ i (v:Int)=>v=(i:Int)/\i<=l.length/\(l.take i).any (λ x=>gS x s)=false) (λ o=>(o= .inr true/\l.any (λ x=>gS x s)=true)\/(o= .inl ()/\l.any (λ x=>gS x s)=false)) l.length (λ k v h=>h.2.1) (by
  rintro i v ⟨rfl,hi,hall⟩;by_cases hlt:i<l.length
  ·simp only[Hy,show decide ((i:Int)<(l.length:Int))=true from by simp;omega,aj,bB hlt,ah,aY i];cases he:(ByteArray.toList l[i]==ByteArray.toList s)with
   |true=>exact .inr ⟨_,rfl,.inl ⟨rfl,List.any_eq_true.2 ⟨_,getElem_mem hlt,he⟩⟩⟩
   |false=>
    refine .inl ⟨_,rfl,rfl,hlt,?_⟩;rw[List.take_add_one,dI hlt,List.any_append,hall];simp[gS,he]
  ·refine .inr ⟨.inl (),?_,.inr ⟨rfl,?_⟩⟩
   ·simp only[Hy,show decide ((i:Int)<(l.length:Int))=false from by simp;omega,ak]
   ·rw[take_of_length_le (by omega)]at hall;exact hall) n 0 0 ⟨rfl,Nat.zero_le _,by simp⟩ (by omega)
 rcases g2 with ⟨rfl,g2⟩ |⟨rfl,g2⟩
 ·simp only[PK,g1,fG,g2]
 ·simp only[PK,g1,dw,g2]
theorem alB(a b:ByteArray):gS a b=gS b a:=by simp only[gS];rw[ku,beq_iff_eq,beq_iff_eq];exact⟨Eq.symm,Eq.symm⟩
def S3:aF:=aF.mk 2 2 8 8 0 14 2 0 false
def ZX:aV:=aV.mk 1 [iH.mk [S3] []]
def Bs:List aP:=[(aP.mk (⟨#[97]⟩) ([]) ([]) 0 0 0 false 0 12 0 (⟨#[]⟩) (⟨#[]⟩) [(bK.mk 1 0 (⟨#[104,101,105,103,104,116]⟩) (⟨#[]⟩) ([])),(bK.mk 0 12 (⟨#[]⟩) (⟨#[]⟩) ([]))] 0 0 0 0 0 0 0),(aP.mk (⟨#[98]⟩) ([]) ([]) 0 0 0 false 1 0 0 (⟨#[]⟩) (⟨#[]⟩) ([]) 0 9 3 1 0 0 0),(aP.mk (⟨#[99]⟩) ([]) ([]) 0 0 0 false 1 0 0 (⟨#[]⟩) (⟨#[]⟩) ([]) 0 9 1 1 0 0 0),(aP.mk (⟨#[100]⟩) ([]) ([]) 0 0 0 false 2 0 0 (⟨#[]⟩) (⟨#[]⟩) ([]) 0 0 0 0 5 0 0),(aP.mk (⟨#[101]⟩) ([]) ([]) 0 0 0 false 3 0 0 (⟨#[]⟩) (⟨#[]⟩) ([]) 0 0 0 0 2 0 5)]
def aok:gZ:=gZ.mk 1 0 [ay.mk 0 0 10 10] []
def I8:dG:=dG.mk [] [] [] Bs [] [] [] 0 [aok] [] [] [dx.mk 2 12 2 14 4 0 3 0 0 false] []
theorem VD:NI I8 where
 lots:=λl hl=>by
  simp only[I8,aZ]at hl;subst hl;exact⟨by decide,by decide⟩
 land:=by decide
 Sf:=⟨by decide,λe he=>by simp[I8]at he⟩
 built:=by decide
 zones:=by decide
 caps:=by decide
 rules:=by decide
 rule:=λr hr=>by
  simp only[I8,Bs,aM,jA,or_false]at hr;rcases hr with rfl |rfl |rfl |rfl |rfl<;>exact⟨⟨by decide,by decide⟩,Nat.le_of_ble_eq_true (by kernel_rfl)⟩
 plan:=⟨Nat.le_of_ble_eq_true (by kernel_rfl),⟨by decide,λx hx=>by simp[l4,I8]at hx⟩⟩
theorem VE(lot:Int)(ps:List iH)(h:ps=[iH.mk [S3] []]\/ps=[]):vy (aV.mk lot ps):=by
 rcases h with rfl |rfl
 ·refine⟨⟨by simp,λp hp=>?_⟩,λp hp=>?_⟩<;> · simp only[aZ]at hp;subst hp;decide
 ·refine⟨⟨by simp,λp hp=>?_⟩,λp hp=>?_⟩<;>simp at hp
theorem HG:Yr 5000003:=⟨aQ _,by omega⟩
theorem amC:LQ 5000003=some true:=by
 have b1:=FJ (n:=5000003) (t:=I8) (d:=ZX) 7 VD (VE 1 _ (.inl rfl)) HG;have b2:=FJ (n:=5000003) (t:=I8) (d:=aV.mk 3 []) 7 VD (VE 3 _ (.inr rfl)) HG;have v1:oq 5000003 I8 ZX 7=[⟨#[97]⟩,⟨#[99]⟩,⟨#[101]⟩]:=by kernel_rfl
 have v2:lq 5000003 I8 ZX=0:=by kernel_rfl
 have v3:lq 5000003 I8 (aV.mk 3 [])=4:=by kernel_rfl
 have v4:oq 5000003 I8 (aV.mk 3 []) 7=[]:=by kernel_rfl
 have c:=λ(r:aP)(h:(toE (i8 r)).wt<=4000000)=>abo (n:=5000003) (t:=I8) (d:=ZX) (r:=r) VD (VE 1 _ (.inl rfl)) h HG;have c1:=c (Bs[0]'(by decide)) (Nat.le_of_ble_eq_true (by kernel_rfl));have c2:=c (Bs[1]'(by decide)) (Nat.le_of_ble_eq_true (by kernel_rfl));have w1:Mj 5000003 I8 (jH I8 ZX) ZX (Bs[0]'(by decide))=true:=by kernel_rfl
 have w2:Mj 5000003 I8 (jH I8 ZX) ZX (Bs[1]'(by decide))=false:=by kernel_rfl
 have l1:=abp (n:=5000003) (t:=I8) (d:=ZX) 7 VD (VE 1 _ (.inl rfl)) HG;rw[v1,v2]at b1;rw[v3,v4]at b2;rw[v2,w1]at c1;rw[v2,w2]at c2;rw[v2,v1]at l1;have hnm:Aa 5000003 [⟨#[97]⟩,⟨#[99]⟩,⟨#[101]⟩] [⟨#[97]⟩,⟨#[99]⟩,⟨#[101]⟩]=some true:=by rw[ae4 (by decide) (by decide)];kernel_rfl
 simp only[I8,ZX,Bs,aok,S3]at b1 b2 c1 c2 l1;simp only[List.getElem_cons_zero,List.getElem_cons_succ]at c1 c2;simp only[LQ,V0,ah,sub,List.drop_zero,List.take_succ_cons,List.take_zero,bE,length_nil,Nat.zero_add,Nat.reduceAdd,aG,aj];have a0:∀(x:aP)(l:List aP),bp (x::l) (((0:Nat):Int)+0)=some x:=λ_ _=>rfl;have a1:∀(x y:aP)(l:List aP),bp (x::y::l) (((0:Nat):Int)+1)=some y:=λ_ _ _=>rfl;simp only[b1,b2,ah,bE,length_nil,Nat.zero_add,Nat.reduceAdd,List.take_succ_cons,List.take_zero,hnm,aG,aj,show((0:Int)==0)=true from rfl,show((4:Int)==4)=true from rfl,show ca 0 5=true from rfl,show ca 1 5=true from rfl,a0,a1,c1,c2,l1];rfl
theorem ae5{t:dG}{d:aV}(h:t.az.length<=10)(day:Int):(oq n t d day).length<=11:=by
 unfold oq;cases (lq n t d==0)with
 |false=>simp
 |true=>
  have h1:=Yu (Ia n t (jH t d) d (applied t (jH t d) day)) LZ (HW t d);have h2:=wU (Mj n t (jH t d) d) (applied t (jH t d) day) [];have h3:(applied t (jH t d) day).length<=t.az.length:=length_filter_le _ _;simp only[aj];unfold Ia at*;simp only[length_nil]at h2;omega
theorem ae6{r:ay}(h:d6 r=true):p4 [r]=([r],0):=by
 have hx:=aoa h;have hy:=amZ h;have e1:gF [r]=[r.x0,r.x1]:=by
  unfold gF;refine(aei (List.Pairwise.cons (by simpa using hx) (List.pairwise_singleton _ _)) λz=>?_).symm;simp
 have e2:cB [r] r.x0=[⟨r.y0,r.y1⟩]:=by
  unfold cB jy;have:(decide (r.x0<=r.x0)&&decide (r.x0<r.x1))=true:=by simp[hx]
  simp only[List.filter_cons,this,if_true,List.filter_nil,aC,map_nil];rfl
 have e3:mY (bn [r])=[r]:=by
  unfold bn;rw[e1];simp only[iY,e2,mY,xn,DF,aC,map_nil]
 unfold p4;rw[e3];have:([r].all d6)=true:=by simpa using h
 rw[this];simp
theorem acT{r:ay}(h:d6 r=true):cJ [r]=true:=by
 unfold cJ;rw[ae6 h];simp
theorem acU{v:aF}(h:okV v=true):DR (o8 v)=true:=by
 have hb:=Qa h;simp only[okV,aJ,aT]at h;rw[NG];refine⟨by simp[o8],λx hx=>?_,λi hi=>by simp[o8]at hi⟩;have:x=⟨v.ek,v.dE,[ic v]⟩:=by simpa[o8]using hx
 rw[this];exact⟨h.2.1,h.2.2.1,h.2.2.2.1,by simp,acT hb⟩
def FK(t:dG):dG:=dG.mk t.cm t.b7 t.b8 t.az t.cp t.cd t.cz t.cg t.land ([]) t.windows t.built t.base
def Qf(t:dG)(l:List aP):dG:=dG.mk t.cm t.b7 t.b8 l t.cp t.cd t.cz t.cg t.land ([]) t.windows t.built t.base
theorem ae7(t:dG):FK t=Qf t t.az:=rfl
theorem Yw{t:dG}(h:NI t){l:List aP}(hl:l.length<=100)(hr:∀r∈l,KV r/\(toE (i8 r)).wt<=4000000):NI (Qf t l):=
 ⟨h.lots,h.land,⟨by show([]:List j4).length<=900;simp,λe he=>absurd he (by show ¬e∈([]:List j4);simp)⟩,h.built,h.zones,h.caps,hl,hr,h.plan⟩
def nN(n:Nat)(t:dG)(d:aV)(day:Int)(l:List aP):List ByteArray:=bif lq n t d==0 then l.foldl (λ ab r=>addN ab r.name (iR (o9 t (jH t d)) day r&&Mj n t (jH t d) d r)) []else []
theorem fold_filter(zs:List ByteArray)(day:Int)(f:aP->Bool):∀(l:List aP)(ab:List ByteArray),(l.filter (iR zs day)).foldl (λ ab r=>addN ab r.name (f r)) ab=l.foldl (λ ab r=>addN ab r.name (iR zs day r&&f r)) ab
 |[],ab=>rfl
 |r::l,ab=>by
  rw[List.filter_cons];cases h:iR zs day r with
  |true=>simp only[if_true,foldl_cons,h,Bool.true_and];exact fold_filter zs day f l _
  |false=>
   simp only[Bool.false_eq_true,if_false,foldl_cons,h,Bool.false_and];rw[fold_filter zs day f l ab];rfl
theorem Ua{t:dG}{d:aV}{day:Int}(l:List aP)(ht:NI t)(hd:vy d)(hn:Yr n):lq n (Qf t l) d=lq n t d/\oq n (Qf t l) d day=nN n t d day l:=by
 refine⟨rfl,?_⟩;have he:lq n (Qf t l) d=lq n t d:=rfl;unfold oq nN;rw[he];by_cases h0:lq n t d=0
 ·have t8:(lq n t d==0)=true:=by simp[h0]
  obtain⟨_,hv⟩:=look_eq (n:=n) ht hd hn;have hE:HW (Qf t l) d=false:=by
   show((kM d).any λv=>!Ym ([]:List j4) d.lot (o8 v))=false;rw[List.any_eq_false];intro v hm;simp[Ym,acU (hv h0 v hm)]
  rw[t8,hE];simp only[aj];show addN (Ia n (Qf t l) (jH t d) d (l.filter (iR (o9 t (jH t d)) day))) LZ false=_;have:∀ab,addN ab LZ false=ab:=λ_=>rfl;rw[this];exact fold_filter _ _ _ l []
 ·have t8:(lq n t d==0)=false:=by simpa using h0
  rw[t8];rfl
theorem alD(l:List ByteArray)(s:ByteArray):(l.any λx=>gS x s)=l.any (gS s):=by congr 1;funext x;exact alB x s
theorem alE{t:dG}{d:aV}{day:Int}(ht:NI t)(hd:vy d)(h6:t.az.length<=6)(hn:Yr n):
 iter (kK n t d day (oq n (FK t) d day,lq n t d)) n ((0:Int),([]:List ByteArray))=some (.inl (nN n t d day t.az)):=by
 have hn1:=hn.1;have hmx:maxLen=9223372036854775807:=rfl;have h0r:∀ab:List ByteArray,(lq n t d==0)=false->nN n t d day t.az=[]:=λab h=>by simp only[nN,h,ak]
 obtain⟨o,g1,g2⟩:=eH (step:=kK n t d day (oq n (FK t) d day,lq n t d)) (λ i (v:Int×List ByteArray)=>v=((i:Int),nN n t d day (t.az.take i))/\i<=t.az.length) (λ o=>o= .inl (nN n t d day t.az)) t.az.length (λ k v h=>h.2) (by
  rintro i v ⟨rfl,hi⟩;by_cases hlt:i<t.az.length
  ·left;have hr:=ht.rule _ (getElem_mem hlt);have hw:NI (Qf t [t.az[i]]):=Yw ht (by simp) (λ r hm=>by simp only[aZ]at hm;subst hm;exact hr);have hne:NI (FK t):=(by rw[ae7];exact Yw ht ht.rules ht.rule);obtain⟨be,bl⟩:=Ua (n:=n) (day:=day) [t.az[i]] ht hd hn;have hB:iq n (dG.mk t.cm t.b7 t.b8 [t.az[i]] t.cp t.cd t.cz t.cg t.land ([]) t.windows t.built t.base) d day=some (nN n t d day [t.az[i]],lq n t d):=by
    have h:=FJ (n:=n) (t:=Qf t [t.az[i]]) (d:=d) day hw hd hn;rw[bl,be]at h;exact h
   have hBr:mX n (dG.mk t.cm t.b7 t.b8 t.az t.cp t.cd t.cz t.cg t.land ([]) t.windows t.built t.base) d t.az[i]=some ((lq n t d==0)&&Mj n t (jH t d) d t.az[i]):=abo (n:=n) (t:=FK t) (d:=d) (r:=t.az[i]) hne hd hr.2 hn;have hol:(nN n t d day (t.az.take i)).length<=6:=by
    unfold nN;cases (lq n t d==0)with
    |false=>simp
    |true=>
     have:=wU (λ r=>iR (o9 t (jH t d)) day r&&Mj n t (jH t d) d r) (t.az.take i) [];simp only[aj];rw[length_take,length_nil]at this;omega
   have hnext:nN n t d day (t.az.take (i+1))=bif lq n t d==0 then addN (nN n t d day (t.az.take i)) t.az[i].name (iR (o9 t (jH t d)) day t.az[i]&&Mj n t (jH t d) d t.az[i])else []:=by
    unfold nN;cases (lq n t d==0)with
    |false=>rfl
    |true=>
     simp only[aj];rw[jl hlt,List.foldl_append];rfl
   refine⟨_,?_,rfl,hlt⟩;rw[hnext];generalize hO:nN n t d day (t.az.take i)=O at hol;have hO0:(lq n t d==0)=false->O=[]:=λh=>(by rw[<- hO];simp only[nN,h,ak]);simp only[kK,show decide ((i:Int)<(t.az.length:Int))=true from by simp;omega,aj,bB hlt,ah,show ∀r:aP,sub [r] 0 1=[r]from λ_=>rfl,length_singleton,aG,hB,hBr,show(lq n t d !=lq n t d)=false from by simp,ak,aY i];cases h0:(lq n t d==0)with
   |false=>
    have e1:nN n t d day [t.az[i]]=[]:=(by simp only[nN,h0,ak]);rw[e1,hO0 h0];rfl
   |true=>
    cases hbad:(iR (o9 t (jH t d)) day t.az[i]&&Mj n t (jH t d) d t.az[i])with
    |false=>
     have e1:nN n t d day [t.az[i]]=[]:=(by simp only[nN,h0,aj,foldl_cons,List.foldl_nil,hbad];rfl);rw[e1];simp only[length_nil,show decide (((0:Nat):Int)>1)=false from rfl,show(((0:Nat):Int)==1)=false from rfl,ak,ah,aG,aj,dw,addN,Bool.false_and]
    |true=>
     have hbk:Mj n t (jH t d) d t.az[i]=true:=(by rw[aJ]at hbad;exact hbad.2);have e1:nN n t d day [t.az[i]]=[t.az[i].name]:=(by simp only[nN,h0,aj,foldl_cons,List.foldl_nil,hbad];rfl);have hap:bW O.length O.length (sub [t.az[i].name] 0 1).length 1 16=true:=(by simp[bW,sub];omega);have a0:bp [t.az[i].name] (((0:Nat):Int)+0)=some t.az[i].name:=rfl;rw[e1];simp only[length_singleton,show decide (((1:Nat):Int)>1)=false from rfl,show(((1:Nat):Int)==1)=true from rfl,show ca 0 1=true from rfl,ak,aj,a0,ah,beq_self_eq_true,Bool.not_true,hbk,Bool.and_self,dn,aG,alA (n:=n) (l:=O) (s:=t.az[i].name) (by omega) (by omega),alD,hap,fF,addN,Bool.true_and];cases (O.any (gS t.az[i].name))with
     |true=>rfl
     |false=>
      simp only[Bool.not_false,aj,dw,aG];rfl
  ·right;have hin:i=t.az.length:=(by omega);refine⟨_,?_,rfl⟩;simp only[kK,show decide ((i:Int)<(t.az.length:Int))=false from by simp;omega,ak,aG,aj];rw[hin,List.take_length]) n 0 ((0:Int),([]:List ByteArray)) ⟨by simp[nN],Nat.zero_le _⟩ (by omega)
 rw[g1,g2]
theorem R5(t:dG)(d:aV)(day:Int)(hz:J1 t):sG 5000003 t d day=some true:=by
 have hn:=HG;have⟨b,hb,PQ⟩:=alz (n:=5000003) (t:=t) (d:=d) hz hn;unfold sG;rw[amC,hb];simp only[ah];cases b with
 |false=>rfl
 |true=>
  have⟨ht,hd,_,hr⟩:=PQ rfl;have hne:NI (FK t):=by rw[ae7];exact Yw ht ht.rules ht.rule
  obtain⟨be,bl⟩:=Ua (n:=5000003) (day:=day) t.az ht hd hn;have hB:iq 5000003 (dG.mk t.cm t.b7 t.b8 t.az t.cp t.cd t.cz t.cg t.land ([]) t.windows t.built t.base) d day=some (oq 5000003 (FK t) d day,lq 5000003 t d):=FJ (n:=5000003) (t:=FK t) (d:=d) day hne hd hn;have hL:oV 5000003 (dG.mk t.cm t.b7 t.b8 t.az t.cp t.cd t.cz t.cg t.land ([]) t.windows t.built t.base) d day=some ((lq 5000003 t d==0)&&decide (oq 5000003 (FK t) d day=[])):=abp (n:=5000003) (t:=FK t) (d:=d) day hne hd hn;have hall:oq 5000003 (FK t) d day=nN 5000003 t d day t.az:=bl;have hlen:=ae5 (n:=5000003) (t:=FK t) (d:=d) (show (FK t).az.length<=10 by show t.az.length<=10;omega) day;have hs1:=alE (n:=5000003) (t:=t) (d:=d) (day:=day) ht hd hr hn;rw[hall]at hlen hs1 hL hB;simp only[Bool.not_true,ak,hB,ah,length_nil,aG,aj,hs1,dw,dn,ae4 (n:=5000003) (a:=nN 5000003 t d day t.az) (b:=nN 5000003 t d day t.az) (by omega) (by omega),ae3,hL];cases h0:(lq 5000003 t d==0)with
  |false=>rfl
  |true=>
   simp only[aj,Bool.true_and];cases nN 5000003 t d day t.az with
   |nil=>rfl
   |cons x l=>
    have:(((x::l).length:Nat):Int)≠0:=(by simp;omega);rw[beq_eq_false_iff_ne.2 this];simp
mutual
theorem amD:∀g:bK,(toE g).wt<=kU (rW g)
 |⟨op,n,s,key,args⟩=>by
  have:=Qg args;simp only[toE,ET.wt,rW,kU,nr];omega
theorem Qg:∀l:List bK,ET.sC (KA l)<=Dm (uD l)
 |[]=>by simp[KA,ET.sC]
 |x::xs=>by
  have h1:=amD x;have h2:=Qg xs;simp only[KA,ET.sC,uD,Dm];omega
end
theorem abq:∀l:List fJ,q7 (l.map toD)<=Dm (l.map GU)
 |[]=>by simp[q7]
 |x::xs=>by
  have h1:=abq xs;have h2:=Qg x.er;simp only[q7]at h1;simp only[aC,q7,List.foldr_cons,toD,ET.wt,Dm,GU,kU,nr,<- uE];omega
theorem ajC(t:dG):q7 (t.cm.map toD)<=kU (LD t):=by
 have:=abq t.cm;simp only[LD,kU,nr];omega
theorem Yx{r:List Tree}:∀{l:List (List Tree)},r∈l->kU r<=Dm l
 |x::l,h=>by
  rw[Dm];rcases aM.1 h with rfl |h
  ·omega
  ·have:=Yx h;omega
theorem ajD(r:aP):(toE (i8 r)).wt<=kU (zh r):=by
 have h:=Qg r.fW;rw[uE]at h;simp only[i8,toE,ET.wt,zh,kU,nr];omega
theorem abr:∀l:List Int,l.length<=Dm (l.map λy=>[Tree.sc (.int .i64 y)])
 |[]=>by simp
 |x::l=>by
  have:=abr l;simp only[aC,Dm,kU,nr,bE];omega
theorem anM{t:dG}(h:kU (LD t)<=1048576):J1 t:=by
 have hd:=Nat.le_trans (ajC t) h;simp only[LD,kU,nr]at h;refine⟨by unfold gE;omega,λr hr=>?_,λl hl=>?_⟩
 ·have h1:=ajD r;have h2:=Yx (mem_map.2 ⟨r,hr,rfl⟩:zh r∈t.az.map zh);omega
 ·have h1:=abr l.from_;have h2:=Yx (mem_map.2 ⟨l,hl,rfl⟩:Ny l∈t.land.map Ny);have h3:Dm (l.from_.map λy=>[Tree.sc (.int .i64 y)])<=kU (Ny l):=by simp only[Ny,kU,nr];omega
  omega
theorem anN{cs:List (CT xx.ι)}(q:HL xx.toSE (.st SI.ju::cs))(hb:WA (HL.nq xx.toSE (.st SI.ju::cs) q)<=1048576):J1 q.1:=by
 have h2:kU (LD q.1)+WA (HL.nq xx.toSE cs q.2)<=1048576:=hb;exact anM (by omega)
theorem UA(q:HL xx.toSE [.st SI.ju,.st SI.gd,.int .i64])(hb:WA (HL.nq xx.toSE [.st SI.ju,.st SI.gd,.int .i64] q)<=1048576):∃k,sG k q.1 q.2.1 q.2.2.1=some true:=
 ⟨5000003,R5 q.1 q.2.1 q.2.2.1 (anN q hb)⟩
end Go.Proofs
