import Derived.Test.YtnagaonenljjiaaGreatS1
open Go.IntKind (i64)
open List (length_take mem_map getElem_mem length_map mem_iff_getElem append_nil length_nil foldl_cons take_of_length_le length_singleton length_filter_le)
namespace Go.Proofs
open Go.Gb Go.RowKit
variable {n:Nat}
def tE(ab:List fH)(x:fH):List fH:=
 if x.area=[]then ab else match ab.getLast? with
 |some q=>if q.z1=x.z0/\q.area=x.area then ab.dropLast++[⟨q.z0,x.z1,q.area⟩]else ab++[x]
 |none=>[x]
def C3(x:fH):Bool:=decide (x.z0<0) || (decide (x.z0>=x.z1) || (decide (x.z1>4096) || (decide (x.area=[]) || !cJ x.area)))
def xf(p:Option fH×fH):Bool:=C3 p.2 || p.1.any λq=>decide (q.z1>p.2.z0) || (q.z1==p.2.z0&&decide (q.area=p.2.area))
def DI(s:List fH):List (Option fH×fH):=(none::s.map some).zip s
def Hz(s:List fH):Bool:=decide (s.length<=80)&&!((DI s).any xf)
theorem pM(s:List fH):(DI s).length=s.length:=by simp[DI]
theorem HV{s:List fH}{i:Nat}(h:i<(DI s).length):(DI s)[i]=(if h0:i=0 then none else some (s[i -1]'(by rw[pM]at h;omega)),s[i]'(by rw[pM]at h;exact h)):=by
 simp only[DI,List.getElem_zip,Prod.mk.injEq,and_true];cases i with
 |zero=>simp
 |succ i=>simp
theorem Ty{s:List fH}(ha:∀x∈s,x.area.length<=900)(hn:1000<=n):Ku n s=some (Hz s):=by
 unfold Ku Hz;by_cases h80:s.length<=80
 ·have d:decide ((s.length:Int)>80)=false:=by simp;omega
  have d2:decide (s.length<=80)=true:=by simpa using h80
  have z:∀l:List ay,(((l.length:Int))==0)=decide (l=[]):=λl=>by cases l<;>simp<;>omega
  have:=sZ (l:=DI s) (step:=CR n s) (λ i=>(i:Int)) xf () (λ _=>false) (λ i hi=>?_) ?_ n (by rw[pM];omega)
  ·rw[show ((0:Nat):Int)=0 from rfl]at this;rw[d,d2,this,<- Ru];cases oV xf (DI s)<;>rfl
  ·rw[HV];rw[pM]at hi;have hi':decide ((i:Int)<(s.length:Int))=true:=(by simpa using hi);have h1:=ha _ (getElem_mem hi);simp only[CR,hi',aj,bB hi,ah,z,l9 (n:=n) (l:=s[i].area) (by omega) (by omega) hn,xf];rw[aR (by omega)];have b:((bif decide (s[i].z0<0)then some true else bif decide (s[i].z0>=s[i].z1)then some true else bif decide (s[i].z1>4096)then some true else bif decide (s[i].area=[])then some true else some (!cJ s[i].area)):Option Bool)=some (C3 s[i]):=by
    unfold C3;cases decide (s[i].z0<0)<;>cases decide (s[i].z0>=s[i].z1)<;>cases decide (s[i].z1>4096)<;>cases decide (s[i].area=[])<;>rfl
   rw[b];simp only[ah];cases C3 s[i]with
   |true=>simp[dm]
   |false=>
    by_cases h0:i=0
    ·subst h0;have:((((0:Nat):Int))==0)=true:=rfl;simp only[this,aj,ak,dP,dif_pos,Option.any_none,Bool.or_false]
    ·have e0:((i:Int)==0)=false:=(by simp;omega);have w:i64.wrap ((i:Int) -1)=((i -1:Nat):Int):=kX (by omega) (by omega);have h2:=ha _ (getElem_mem (show i -1<s.length by omega));simp only[e0,ak,w,bB (show i -1<s.length by omega),ah,agz (n:=n) (a:=s[i -1].area) (b:=s[i].area) (by omega) (by omega),h0,dif_neg,not_false_eq_true,Option.any_some,Bool.false_or];cases decide (s[i -1].z1>s[i].z0)with
     |true=>simp[dm]
     |false=>
      cases s[i -1].z1==s[i].z0 with
      |false=>simp[dm]
      |true=>cases decide (s[i -1].area=s[i].area)<;>simp[dm]
  ·rw[pM];simp[CR]
 ·have d:decide ((s.length:Int)>80)=true:=by simp;omega
  have d2:decide (s.length<=80)=false:=by simpa using h80
  rw[d,d2];rfl
structure ak0(x:fH):Prop where
 lo:0<=x.z0
 lt:x.z0<x.z1
 hi:x.z1<=4096
 ne:x.area≠[]
 rt:cJ x.area=true
def anW(s:List fH):Prop:=∀i (h:i+1<s.length),s[i].z1<=s[i+1].z0/\¬(s[i].z1=s[i+1].z0/\s[i].area=s[i+1].area)
theorem aex(x:fH):C3 x=false↔ak0 x:=by
 unfold C3;simp only[Bool.or_eq_false_iff,dL,Bool.not_eq_false'];constructor
 ·rintro⟨h1,h2,h3,h4,h5⟩;exact⟨by omega,by omega,by omega,h4,h5⟩
 ·rintro⟨h1,h2,h3,h4,h5⟩;exact⟨by omega,by omega,by omega,h4,h5⟩
theorem X8(s:List fH):Hz s=true↔s.length<=80/\(∀ x∈s,ak0 x)/\anW s:=by
 unfold Hz;rw[aJ,aT,Bool.not_eq_true',List.any_eq_false];refine and_congr_right λ_=>?_;constructor
 ·intro h;have key:∀i (hi:i<s.length),xf ((DI s)[i]'(by rw[pM];exact hi))=false:=λi hi=>by
   have:=h _ (getElem_mem (show i<(DI s).length by rw[pM];exact hi));simpa using this
  refine⟨λ x hx=>?_,λi hi=>?_⟩
  ·obtain⟨i,hi,rfl⟩:=mem_iff_getElem.1 hx;have:=key i hi;rw[HV]at this;unfold xf at this;rw[Bool.or_eq_false_iff]at this;exact(aex _).1 this.1
  ·have:=key (i+1) hi;rw[HV]at this;unfold xf at this;rw[Bool.or_eq_false_iff]at this;have h2:=this.2;simp only[Nat.succ_ne_zero,dif_neg,not_false_eq_true,Option.any_some,Nat.add_sub_cancel,Bool.or_eq_false_iff,dL,Bool.and_eq_false_iff,beq_eq_false_iff_ne]at h2;refine⟨by omega,λ⟨e1,e2⟩=>?_⟩;rcases h2.2 with h3 |h3
   ·exact h3 e1
   ·exact h3 e2
 ·rintro⟨h1,h2⟩ p hp;obtain⟨i,hi,rfl⟩:=mem_iff_getElem.1 hp;rw[HV];rw[pM]at hi;unfold xf;have hb:=(aex _).2 (h1 _ (getElem_mem hi));by_cases h0:i=0
  ·simp[h0]at hb ⊢;exact hb
  ·obtain⟨j,rfl⟩:∃j,i=j+1:=⟨i -1,by omega⟩;have⟨n1,n2⟩:=h2 j hi;simp only[Nat.succ_ne_zero,dif_neg,not_false_eq_true,Option.any_some,Nat.add_sub_cancel];rw[hb];simp only[Bool.false_or,Bool.or_eq_true,aT,aJ,beq_iff_eq];rintro (h |h)
   ·omega
   ·exact n2 h
theorem tL{l:List fH}{φ:(fH×Unit)->Option Bool}(p:fH->Bool)(h:∀x∈l,φ (x,())=some (p x))(hl:l.length<1099511627776)(hn:l.length<n):je n l φ=some (l.any p):=by
 unfold je uJ;have:=sZ (l:=l) (step:=l8 l φ) (λ i=>(i:Int)) p () (λ i=>(i:Int)) (λ i hi=>?_) (by simp[l8]) n hn
 ·rw[show ((0:Nat):Int)=0 from rfl]at this;rw[this,<- Ru];cases oV p l with
  |none=>rfl
  |some i=>simp<;>omega
 ·have hi':decide ((i:Int)<(l.length:Int))=true:=by simpa using hi
  simp only[l8,hi',aj,bB hi,ah,h _ (getElem_mem hi)];rw[aR (by omega)];cases p l[i]<;>rfl
def IP(s:List fH)(lot:Int)(e:oJ):Bool:=e.lot==lot&&(cJ e.area&&s.any λc=>decide (c.z1>e.top)&&HU c.area e.area)
def HS(l:List oJ)(lot:Int)(s:List fH):Bool:=Hz s&&!(l.any (IP s lot))
theorem ZB{l:List oJ}{lot:Int}{s:List fH}(hl:l.length<=900)(he:∀e∈l,e.area.length<=900)(ha:∀x∈s,x.area.length<=900)(hn:1000<=n):Hf n l lot s=some (HS l lot s):=by
 unfold Hf HS;rw[Ty ha hn];simp only[ah];cases hr:Hz s with
 |false=>rfl
 |true=>
 have l80:=((X8 s).1 hr).1;have:=sZ (l:=l) (step:=wQ n l lot s) (λ i=>(i:Int)) (IP s lot) () (λ _=>false) (λ i hi=>?_) (by simp[wQ]) n (by omega)
 ·rw[show ((0:Nat):Int)=0 from rfl]at this;simp only[Bool.not_true,ak];rw[this,<- Ru];cases oV (IP s lot) l<;>rfl
 ·have hi':decide ((i:Int)<(l.length:Int))=true:=by simpa using hi
  have h1:=he _ (getElem_mem hi);have cf:=tL (n:=n) (l:=s) (φ:=λy:fH×Unit=>rE n y.1 l[i]) (λ c=>decide (c.z1>l[i].top)&&HU c.area l[i].area) (λ c hc=>by
   have:=ha c hc;show rE n c l[i]=_;unfold rE;rw[agy (by omega) (by omega) (by omega) (by omega)];cases decide (c.z1>l[i].top)<;>rfl) (by omega) (by omega)
  simp only[wQ,hi',aj,bB hi,ah,l9 (n:=n) (l:=l[i].area) (by omega) (by omega) hn,cf];rw[aR (by omega)];unfold IP;cases h2:l[i].lot==lot with
  |false=>
   have:(l[i].lot !=lot)=true:=(by simp[bne,h2]);simp[this,dm]
  |true=>
   have:(l[i].lot !=lot)=false:=(by simp[bne,h2]);simp only[this,ak,ah];cases cJ l[i].area with
   |false=>simp[dm]
   |true=>cases s.any λc=>decide (c.z1>l[i].top)&&HU c.area l[i].area<;>simp[dm]
theorem aez(r:ay):en r=true↔(0<=r.x0/\r.x0<r.x1/\r.x1<=1048576)/\(0<=r.y0/\r.y0<r.y1/\r.y1<=1048576):=by simp only[en,aJ,aT];omega
theorem L9{b:ay}{l:List dQ}(r:ay)(x:Int)(hb:en b=true)(hp:∀p∈l,X4 p=true)(hr:en r=true)(hx:0<=x/\x<1048576)(hl:l.length<=1000)(hn:2000<=n)(v:Int):
 iter (ow n b l r x) n (v,(0:Int))=some (min (min v (ZA b l x r.y0)) (ZA b l x (r.y1 -1))):=by
 have ho:=(aez r).1 hr;have w:i64.wrap (r.y1 -1)=r.y1 -1:=bS (by omega) (by omega);have:=oF (l:=[r.y0,r.y1 -1]) (step:=ow n b l r x) (λ i (s:Int)=>(s,(i:Int))) (λ y m=>min m (ZA b l x y)) (λ s=>s) (λ i hi s=>?_) (λ s=>by simp[ow]) n (by simp;omega) v
 ·rw[show ((0:Nat):Int)=0 from rfl]at this;exact this
 ·have h2:i<2:=by simpa using hi
  have yb:0<=([r.y0,r.y1 -1]:List Int)[i]/\([r.y0,r.y1 -1]:List Int)[i] <1048576:=by
   rcases i with _ |_ |i
   ·simp only[List.getElem_cons_zero];omega
   ·simp only[List.getElem_cons_succ,List.getElem_cons_zero];omega
   ·omega
  simp only[ow,show decide ((i:Int)<2)=true from decide_eq_true (by omega),aj,bL h2,w,bM hi,ah,acp hb hp ⟨hx,yb⟩ hl hn,aX i]
def SJ(b:ay)(l:List dQ)(v:Int)(r:ay):Int:=min (min (min (min v (ZA b l r.x0 r.y0)) (ZA b l r.x0 (r.y1 -1))) (ZA b l (r.x1 -1) r.y0)) (ZA b l (r.x1 -1) (r.y1 -1))
theorem Ma{b:ay}{l:List dQ}(r:ay)(hb:en b=true)(hp:∀p∈l,X4 p=true)(hr:en r=true)(hl:l.length<=1000)(hn:2000<=n)(v:Int):
 iter (oC n b l r) n (v,(0:Int))=some (SJ b l v r):=by
 have ho:=(aez r).1 hr;have w:i64.wrap (r.x1 -1)=r.x1 -1:=bS (by omega) (by omega);have:=oF (l:=[r.x0,r.x1 -1]) (step:=oC n b l r) (λ i (s:Int)=>(s,(i:Int))) (λ x m=>min (min m (ZA b l x r.y0)) (ZA b l x (r.y1 -1))) (λ s=>s) (λ i hi s=>?_) (λ s=>by simp[oC]) n (by simp;omega) v
 ·rw[show ((0:Nat):Int)=0 from rfl]at this;exact this
 ·have h2:i<2:=by simpa using hi
  have xb:0<=([r.x0,r.x1 -1]:List Int)[i]/\([r.x0,r.x1 -1]:List Int)[i] <1048576:=by
   rcases i with _ |_ |i
   ·simp only[List.getElem_cons_zero];omega
   ·simp only[List.getElem_cons_succ,List.getElem_cons_zero];omega
   ·omega
  simp only[oC,show decide ((i:Int)<2)=true from decide_eq_true (by omega),aj,bL h2,w,bM hi,ah,L9 r _ hb hp hr xb hl hn,aX i]
def IN(b:ay)(l:List dQ)(a:List ay):Int:=a.foldl (SJ b l) 4096
theorem Uh{b:ay}{l:List dQ}{a:List ay}(hb:en b=true)(hp:∀p∈l,X4 p=true)(ha:∀r∈a,en r=true)(hal:a.length<=1000)(hl:l.length<=1000)(hn:2000<=n):zy n b l a=some (IN b l a):=by
 unfold zy;have:=oF (l:=a) (step:=rX n b l a) (λ i (s:Int)=>(s,(i:Int))) (λ r m=>SJ b l m r) (λ s=>s) (λ i hi s=>?_) (λ s=>by simp[rX]) n (by omega) 4096
 ·rw[show ((0:Nat):Int)=0 from rfl]at this;rw[this];rfl
 ·simp only[rX,dR hi,aj,bB hi,ah,Ma a[i] hb hp (ha _ (getElem_mem hi)) hl hn,aX i]
theorem amd(r:ay):en r=true↔(0<=r.x0/\r.x0<r.x1/\r.x1<=1048576)/\(0<=r.y0/\r.y0<r.y1/\r.y1<=1048576):=by simp only[en,aJ,aT];omega
def four(r m:ay):List ay:=[⟨r.x0,r.y0,m.x0,r.y1⟩,⟨m.x1,r.y0,r.x1,r.y1⟩,⟨m.x0,r.y0,m.x1,m.y0⟩,⟨m.x0,m.y1,m.x1,r.y1⟩]
abbrev BW(t:gY):Prop:=t.area.length<=900/\t.from_.length*8<=140737488355328
theorem agF{t:gY}(h:BW t):O8 t=some t:=by
 unfold O8;have h2:=h.2;rw[Rn (by omega),ah,show GN t.from_=some t.from_ from Tn (b:=8) (by omega) (by simp only[maxLen];omega),ah];simp only[dn,aG,aj]
theorem ajd{land:List gY}{id:Int}(h:∀t∈land,BW t)(hl:land.length<1099511627776)(hn:land.length<n):O9 n land id=some (mY land id):=by
 unfold O9;have:=sZ (l:=land) (step:=GQ land id) (λ i=>(i:Int)) (λ t=>t.id==id) () (λ i=>(land.getD i Ts,true)) (λ i hi=>?_) ?_ n hn
 ·rw[show ((0:Nat):Int)=0 from rfl]at this;rw[this];unfold mY;rcases XY (λ t:gY=>t.id==id) land with ⟨i,hi,h1,h2⟩ |⟨h1,h2⟩
  ·rw[h1,h2];simp[hi]
  ·rw[h1,h2];rfl
 ·simp only[GQ,dR hi,aj,bB hi,ah,agF (h _ (getElem_mem hi))];cases land[i].id==id with
  |true=>simp[hi]
  |false=>simp only[ak];rw[aR (by omega)]
 ·simp[GQ]
theorem RB{land:List gY}(h:∀t∈land,BW t)(id:Int):BW (mY land id).1:=by
 unfold mY;split
 ·rename_i t ht;exact h t (List.mem_of_find?_eq_some ht)
 ·simp[BW,Ts]
structure aoa(t:fE):Prop where
 rules:t.az.length<=20
 NX:∀r∈t.az,Nw r
 zones:t.cd.length<=20
 land:t.land.length<=20
 lots:∀l∈t.land,BW l
 co:t.co.length<=5
 aoe:∀e∈t.co,e.area.length<=10
theorem Tz{α:Type}(p:α->Bool):∀l:List α,((List.range l.length).filter λi=>(l[i]?).any p).filterMap (λ i=>l[i]?)=l.filter p
 |[]=>rfl
 |a::l=>by
  have ih:=Tz p l;rw[bE,List.range_succ_eq_map,List.filter_cons,List.filter_cons];have e:(List.filter (λ i=>((a::l)[i]?).any p) (List.map Nat.succ (List.range l.length))).filterMap (λ i=>(a::l)[i]?)=l.filter p:=by
   rw[List.filter_map,List.filterMap_map];exact ih
  cases hp:p a with
  |true=>simp[hp];simpa using e
  |false=>simp[hp];simpa using e
def EV(a r:ay):ay:=⟨min a.x0 r.x0,min a.y0 r.y0,max a.x1 r.x1,max a.y1 r.y1⟩
def ahZ:List ay->ay
 |[]=>⟨0,0,0,0⟩
 |r::l=>l.foldl EV r
def Vn(a:List ay):ay×Bool:=bif decide (a≠[])&&cJ a then(ahZ a,true)else(⟨0,0,0,0⟩,false)
theorem aeA{a:List ay}(ha:a≠[])(hv:∀r∈a,en r=true)(hl:a.length<=900)(hn:2000<=n):Pq n a=some (ahZ a,true):=by
 unfold Pq;have:=oF (l:=a.zip (List.range a.length)) (step:=CO a) (λ i (s:Bool×Int×Int×Int×Int)=>(s.1,(i:Int),s.2)) (λ p s=>bif !s.1 then(true,p.1.x0,p.1.y0,p.1.x1,p.1.y1)else(s.1,min s.2.1 p.1.x0,min s.2.2.1 p.1.y0,max s.2.2.2.1 p.1.x1,max s.2.2.2.2 p.1.y1)) (λ s=>s) (λ i hi s=>?_) (λ s=>?_) n (by simp;omega) (false,0,0,0,0)
 ·rw[show ((0:Nat):Int)=0 from rfl]at this;simp only at this;rw[this];cases a with
  |nil=>exact absurd rfl ha
  |cons r l=>
   have gen:∀(l:List ay) (k:List Nat) (s:ay),l.length<=k.length->(l.zip k).foldl (λ (s:Bool×Int×Int×Int×Int) p=>bif !s.1 then(true,p.1.x0,p.1.y0,p.1.x1,p.1.y1)else(s.1,min s.2.1 p.1.x0,min s.2.2.1 p.1.y0,max s.2.2.2.1 p.1.x1,max s.2.2.2.2 p.1.y1)) (true,s.x0,s.y0,s.x1,s.y1)=(true,(l.foldl EV s).x0,(l.foldl EV s).y0,(l.foldl EV s).x1,(l.foldl EV s).y1):=by
    intro l
    induction l with
    |nil=>intro k s _;rfl
    |cons r l ih=>
     intro k s hk;cases k with
     |nil=>simp at hk
     |cons j k=>
      rw[List.zip_cons_cons,foldl_cons,foldl_cons];exact ih k (EV s r) (by simpa using hk)
   rw[bE,List.range_succ_eq_map,List.zip_cons_cons,foldl_cons];simp only[Bool.not_false,aj];rw[gen l _ r (by simp)];rfl
 ·have hi':i<a.length:=by simpa using hi
  obtain⟨s1,s2,s3,s4,s5⟩:=s;have ok:=hv _ (getElem_mem hi');simp only[CO,dR hi',aj,bB hi',ah,jA,ok,Bool.not_true,ak,Py,List.getElem_zip,aX i]
 ·obtain⟨s1,s2,s3,s4,s5⟩:=s;have:(a.zip (List.range a.length)).length=a.length:=by simp
  simp only[this,CO,fU,ak]
theorem acr(a:List ay)(hl:a.length<=900)(hn:2000<=n):LC n a=some (Vn a):=by
 unfold LC Vn;cases a with
 |nil=>rfl
 |cons r l=>
  have e:((((r::l).length:Nat):Int)==0)=false:=by simp;omega
  have e2:decide (r::l≠[])=true:=by simp
  rw[l9 (by omega) (by omega) (by omega),e,e2];simp only[ak,ah,Bool.true_and];cases hr:cJ (r::l)with
  |false=>rfl
  |true=>
   simp only[Bool.not_true,ak];rw[aeA (by simp) (uP hr).1 hl hn];rfl
theorem LM{V O:Type}{step:V->Option (V⊕O)}(f:Nat->V){s:V}(N:Nat)(o:O)(h0:s=f 0)
 (h1:∀i,i<N->step (f i)=some (.inl (f (i+1)))) (h2:step (f N)=some (.inr o)) (n:Nat) (hn:N<n):iter step n s=some o:=by rw[h0];exact mU f N o h1 h2 n hn
def tb(f:Nat->Nat->Bool):List Bool:=(List.range 144).map λi=>f (i/12) (i%12)
def upd(f:Nat->Nat->Bool)(a b:Nat)(v:Bool):Nat->Nat->Bool:=λx y=>if x=a/\y=b then v else f x y
inductive Tc(e:Nat->Nat->Bool):Nat->Nat->Prop
 |one {a b:Nat}:a<12->b<12->e a b=true->Tc e a b
 |trans {a b c:Nat}:Tc e a b->Tc e b c->Tc e a c
theorem Tc.lt{e:Nat->Nat->Bool}{a b:Nat}(h:Tc e a b):a<12/\b<12:=by
 induction h with
 |one h1 h2 _=>exact⟨h1,h2⟩
 |trans _ _ i1 i2=>exact⟨i1.1,i2.2⟩
def iC(v:aF):ay:=ay.mk v.bx v.b9 v.bu v.b8
def okV(v:aF):Bool:=en (iC v)&&(decide (0<=v.er)&&(decide (v.er<v.d5)&&(decide (v.d5<=4096)&&((decide (v.use=0) || decide (v.units=0))&&(decide (0<=v.use)&&(decide (v.use<6)&&(decide (0<=v.units)&&decide (v.units<=1048576))))))))
theorem uS(v:aF):gm v=some (okV v):=by
 unfold gm okV;rw[jA];have e1:decide (v.er<0)=!decide (0<=v.er):=by rw[<- decide_not,decide_eq_decide];omega
 have e2:decide (v.er>=v.d5)=!decide (v.er<v.d5):=by rw[<- decide_not,decide_eq_decide];omega
 have e3:decide (v.d5>4096)=!decide (v.d5<=4096):=by rw[<- decide_not,decide_eq_decide];omega
 have e4:(v.use !=0)=!decide (v.use=0):=by by_cases h:v.use=0<;>simp[h]
 have e5:(v.units !=0)=!decide (v.units=0):=by by_cases h:v.units=0<;>simp[h]
 rw[e1,e2,e3,e4,e5,show ay.mk v.bx v.b9 v.bu v.b8=iC v from rfl];simp only[ge_iff_le];generalize en (iC v)=a1;generalize decide (0<=v.er)=a2;generalize decide (v.er<v.d5)=a3;generalize decide (v.d5<=4096)=a4;generalize decide (v.use=0)=a5;generalize decide (v.units=0)=a6;generalize decide (0<=v.use)=a7;generalize decide (v.use<6)=a8;generalize decide (0<=v.units)=a9;generalize decide (v.units<=1048576)=jp;cases a1<;>cases a2<;>cases a3<;>cases a4<;>cases a5<;>cases a6<;>cases a7<;>cases a8<;>cases a9<;>rfl
theorem X9{v:aF}(h:okV v=true):en (iC v)=true:=by rw[okV,aJ]at h;exact h.1
def kS(d:bf):List aF:=d.phases.flatMap (·.cm)
theorem PV{l:List iG}(h:∀p∈l,p.cm.length<=1000):(l.flatMap (·.cm)).length<=l.length*1000:=by
 induction l with
 |nil=>simp
 |cons p l ih=>
  have h1:=h p (by simp);have h2:=ih λq hq=>h q (by simp[hq]);simp only[List.flatMap_cons,dF,bE];omega
def ZC(d:bf):Prop:=d.phases.length<=1000/\∀p∈d.phases,p.cm.length<=1000
theorem Ya{d:bf}(h:ZC d)(hn:1001<=n):oo n d 0 (d.phases.length:Int)=some (kS d):=by
 obtain⟨h1,h2⟩:=h;unfold oo;have key:=LM (step:=nQ d 0 (d.phases.length:Int)) (λ i=>((i:Int),(d.phases.take i).flatMap (·.cm))) (s:=((0:Int),([]:List aF))) d.phases.length (kS d) rfl (λ i hi=>by
  have e2:decide ((i:Int)>=0)=true:=by simp
  have hl:=PV (l:=d.phases.take i) λp hp=>h2 p (List.mem_of_mem_take hp);rw[length_take]at hl;have hv:=h2 _ (getElem_mem hi);generalize hL:(d.phases.take i).flatMap (·.cm)=L at hl;have hap:cu L.length L.length d.phases[i].cm.length d.phases[i].cm.length 72=true:=eT (by omega) (by simp only[maxLen];omega);simp only[nQ,dR hi,aj,bB hi,ah,e2,hap,fI,aG,aX i];rw[jX hi,List.flatMap_append,hL];simp only[List.flatMap_cons,List.flatMap_nil,append_nil]) (by simp only[nQ,fU,ak,aG,aj,List.take_length,kS]) n (by omega)
 have hz:bk 0 ([]:List aF).length=true:=rfl;simp only[hz,aj,key,ah,dn,aG]
def TE(v:aF):Int:=(lq v).getD 0
theorem Yb(v:aF):lq v=some (TE v):=by
 unfold TE lq;rw[uS];cases v.extra<;>cases okV v<;>rfl
def L0(v:aF):Int:=(oN v).getD 0
theorem aeB(v:aF):oN v=some (L0 v):=by
 unfold L0 oN;rw[uS,Yb];cases h:okV v with
 |false=>rfl
 |true=>
  have e:=FD (X9 h);unfold iC at e;simp only[ah,Bool.not_true,ak,e,Option.getD_some]
theorem anl(a0:List fJ)(a1:List bW)(a2:List dW)(a4:List ic)(a5:List fG)(a6:List bU)(a7:Int)(a8:List ay){a9:List aF}(hl:a9.length<=1000)(hn:1001<=n):∃r,∀a3:List aQ,kJ n a0 a1 a2 a3 a4 a5 a6 a7 a8 a9=some (r,a0,a1,a2,a3,a4,a5,a6,a7,a8,a9):=by
 have key:=oF (l:=a9) (step:=jG a9) (λ i (s:Int)=>(s,(i:Int))) (λ v s=>i64.wrap (s+L0 v)) (λ s=>s) (λ i hi s=>by simp only[jG,dR hi,aj,bL hi,bM hi,ah,aeB,aX i]) (λ s=>by simp only[jG,fU,ak]) n (by omega) 0;rw[show ((0:Nat):Int)=0 from rfl]at key;unfold kJ qL;simp only[key,ah,aG,aj];exact⟨_,λ_=>rfl⟩
theorem anm(a0:List fJ)(a1:List bW)(a2:List dW)(a4:List ic)(a5:List fG)(a6:List bU)(a7:Int)(a8:List ay){a9:List aF}(hl:a9.length<=1000)(hn:1001<=n):∃r,∀a3:List aQ,kK n a0 a1 a2 a3 a4 a5 a6 a7 a8 a9=some (r,a0,a1,a2,a3,a4,a5,a6,a7,a8,a9):=by
 have key:=oF (l:=a9) (step:=jJ a9) (λ i (s:Int)=>(s,(i:Int))) (λ v s=>i64.wrap (s+v.units)) (λ s=>s) (λ i hi s=>by simp only[jJ,dR hi,aj,bL hi,bM hi,ah,oU,aX i]) (λ s=>by simp only[jJ,fU,ak]) n (by omega) 0;rw[show ((0:Nat):Int)=0 from rfl]at key;unfold kK qM;simp only[key,ah,aG,aj];exact⟨_,λ_=>rfl⟩
theorem ak2(a0:List fJ)(a1:List bW)(a2:List dW)(a4:List ic)(a5:List fG)(a6:List bU)(a7:Int)(a8:List ay){a9:List aF}(hl:a9.length<=1000)(hn:1001<=n):∃r,∀a3:List aQ,jH n a0 a1 a2 a3 a4 a5 a6 a7 a8 a9=some (r,a0,a1,a2,a3,a4,a5,a6,a7,a8,a9):=by
 have key:=oF (l:=a9) (step:=gV a9) (λ i (s:Int)=>(s,(i:Int))) (λ v s=>max s (TE v)) (λ s=>s) (λ i hi s=>by simp only[gV,dR hi,aj,bL hi,bM hi,ah,Yb,aX i]) (λ s=>by simp only[gV,fU,ak]) n (by omega) 0;rw[show ((0:Nat):Int)=0 from rfl]at key;unfold jH mK;simp only[key,ah,aG,aj];exact⟨_,λ_=>rfl⟩
theorem ak3(a0:List fJ)(a1:List bW)(a2:List dW)(a4:List ic)(a5:List fG)(a6:List bU)(a7:Int)(a8:List ay){a9:List aF}(hl:a9.length<=1000)(hn:1001<=n):∃r,∀a3:List aQ,jI n a0 a1 a2 a3 a4 a5 a6 a7 a8 a9=some (r,a0,a1,a2,a3,a4,a5,a6,a7,a8,a9):=by
 have key:=oF (l:=a9) (step:=gW a9) (λ i (s:Int)=>(s,(i:Int))) (λ v s=>max s v.d5) (λ s=>s) (λ i hi s=>by simp only[gW,dR hi,aj,bL hi,bM hi,ah,nU,aX i]) (λ s=>by simp only[gW,fU,ak]) n (by omega) 0;rw[show ((0:Nat):Int)=0 from rfl]at key;unfold jI mM;simp only[key,ah,aG,aj];exact⟨_,λ_=>rfl⟩
theorem aje(e:bP)(a:Lv){u:Int}(h0:0<=u)(h6:u<6):∃b,kD e a u=some b:=by
 obtain⟨k,rfl⟩:∃k:Nat,u=(k:Int):=⟨u.toNat,by omega⟩;have hk:k<6:=by omega
 unfold kD;rw[bL hk,bB (l:=[a.a0,a.a1,a.a2,a.a3,a.a4,a.a5]) hk];exact⟨_,rfl⟩
theorem HY{l:List bP}{φ:(bP×Unit)->Option Bool}(p:bP->Bool)(h:∀x∈l,φ (x,())=some (p x))(hl:l.length<=9223372036854775807)(hn:l.length<n):kE n l φ=some (Dr p l):=Ir p h hl hn
theorem ano(p:cK){u:Int}(h0:0<=u)(h6:u<6)(ht:p.tables.length<n)(ht2:p.tables.length<=9223372036854775807)(hr:∀t∈p.tables,t.rows.length<n/\t.rows.length<=9223372036854775807):∃r,CB n p u=some r:=by
 have key:∃o,iter (kF n p u) n (0:Int)=some o/\True:=by
  have step:∀i (hi:i<p.tables.length),kF n p u (i:Int)=some (.inl ((i+1:Nat):Int))\/∃z,kF n p u (i:Int)=some (.inr (.inr z)):=by
   intro i hi;obtain⟨r1,r2⟩:=hr _ (getElem_mem hi);simp only[kF,dR hi,aj,bB hi,ah,aX i];cases ByteArray.toList p.tables[i].name==ByteArray.toList ⟨#[116,114,97,102,102,105,99]⟩with
   |false=>exact Or.inl rfl
   |true=>
    right;simp only[Bool.not_true,ak];generalize Lv.mk _ _ _ _ _ _=A;have hx:=HY (n:=n) (l:=p.tables[i].rows) (φ:=λy1=>kD y1.1 A u) (λ e=>(kD e A u).getD false) (λ e _=>by have⟨b,hb⟩:=aje e A h0 h6;simp[hb]) r2 r1;rw[hx];simp only[ah,y9];cases hany:p.tables[i].rows.any λe=>(kD e A u).getD false with
    |false=>exact⟨_,rfl⟩
    |true=>
     have⟨j,hj,h1,_⟩:=akp hany;rw[h1];simp only[aj,bB hj,ah];exact⟨_,rfl⟩
  have main:∀k i m,i+k=p.tables.length->k<m->∃o,iter (kF n p u) m (i:Int)=some o/\True:=by
   intro k
   induction k with
   |zero=>
    intro i m hi hm;obtain⟨q,rfl⟩:∃q,m=q+1:=⟨m -1,by omega⟩;have:i=p.tables.length:=(by omega);subst this;exact⟨.inl (),bI (by simp only[kF,fU,ak]),trivial⟩
   |succ k ih=>
    intro i m hi hm;obtain⟨q,rfl⟩:∃q,m=q+1:=⟨m -1,by omega⟩;rcases step i (by omega)with h |⟨z,h⟩
    ·rw[dh h];exact ih (i+1) q (by omega) (by omega)
    ·exact⟨_,bI h,trivial⟩
  exact main p.tables.length 0 n (by omega) ht
 obtain⟨o,h1,_⟩:=key;unfold CB;rw[h1];cases o with
 |inl w=>exact⟨_,rfl⟩
 |inr r=>exact⟨_,rfl⟩
theorem agG(p:cK){v:aF}(hv:okV v=true)(ht:p.tables.length<n)(ht2:p.tables.length<=9223372036854775807)(hr:∀t∈p.tables,t.rows.length<n/\t.rows.length<=9223372036854775807):∃r,lu n p v=some r:=by
 simp only[okV,aJ,aT]at hv;have⟨r,h1⟩:=ano (n:=n) p (u:=v.use) hv.2.2.2.2.2.1 hv.2.2.2.2.2.2.1 ht ht2 hr;unfold lu;rw[h1,aeB];simp only[ah];have e100:((100:Int) !=0)=true:=rfl;by_cases h:r>0
 ·have e:(r !=0)=true:=by simp only[bne_iff_ne,ne_eq];omega
  have e2:decide (r>0)=true:=by simpa using h
  rw[e,e2];simp only[aj,ah,e100];cases decide (L0 v>i64.wrap (Int.tdiv 109951162777600 r))<;>exact⟨_,rfl⟩
 ·have e2:decide (r>0)=false:=by simpa using h
  rw[e2];exact⟨_,rfl⟩
theorem anp(a0:List fJ)(a1:List bW)(a2:List dW)(a4:List ic)(a5:List fG)(a6:List bU)(a7:Int)(a8:List ay){a9:List aF}(hl:a9.length<=1000)(hn:1001<=n)(hv:∀v∈a9,okV v=true)(ht:a1.length<n)(ht2:a1.length<=9223372036854775807)(hr:∀t∈a1,t.rows.length<n/\t.rows.length<=9223372036854775807):∃r,∀a3:List aQ,jo n a0 a1 a2 a3 a4 a5 a6 a7 a8 a9=some (r,a0,a1,a2,a3,a4,a5,a6,a7,a8,a9):=by
 have key:=λa3:List aQ=>fZ (l:=a9) (step:=jL n a9) (λ i (s:Int)=>(s,(i:Int),a0,a1,a2,a3,a4,a5,a6,a7,a8,a9)) (λ v s=>i64.wrap (s+(lu n (cK.mk a0 a1 a2 [] a4 a5 a6 a7) v).getD 0)) (λ s=>(s,a0,a1,a2,a3,a4,a5,a6,a7,a8,a9)) (λ _ _=>True) (λ i hi s _=>⟨by
  obtain⟨r,h1⟩:=agG (n:=n) (cK.mk a0 a1 a2 [] a4 a5 a6 a7) (hv _ (getElem_mem hi)) ht ht2 hr;have h2:lu n (cK.mk a0 a1 a2 a3 a4 a5 a6 a7) a9[i]=some r:=h1;simp only[jL,dR hi,aj,bL hi,bM hi,ah,kG,h1,h2,aG,aX i,Option.getD_some],trivial⟩) (λ s _=>by simp only[jL,fU,ak,aG,aj]) n (by omega) 0 trivial
 have key:=λa3=>(show ((0:Nat):Int)=0 from rfl) ▸ key a3;unfold jo qN;simp only[key,ah,aG,aj];exact⟨_,λ_=>rfl⟩
theorem ak4{α β:Type}(l:List α)(f:α->β)(z:β){i:Nat}(hi:i<l.length):((l.take i).map f++List.replicate (l.length -i) z).set i (f l[i])=(l.take (i+1)).map f++List.replicate (l.length -(i+1)) z:=by
 have h1:((l.take i).map f).length=i:=by simp;omega
 rw[List.set_append_right _ _ (by omega),h1,Nat.sub_self,show l.length -i=(l.length -(i+1))+1 by omega,List.replicate_succ,List.set_cons_zero,jX hi,List.map_append,aK];rfl
theorem ak5{α β:Type}(l:List α)(f:α->β)(z:β){i:Nat}(hi:i<=l.length):((l.take i).map f++List.replicate (l.length -i) z).length=l.length:=by simp;omega
theorem ak6{α β:Type}(l:List α)(f:α->β)(z:β){i:Nat}(hi:i<l.length):((l.take (i+1)).map f++List.replicate (l.length -(i+1)) z)[i]? =some (f l[i]):=by rw[List.getElem?_append_left (by simp;omega)];simp[hi]
theorem ak7{l:List aF}(hl:l.length<=1000)(hn:1001<=n):iter (gD l) n ((0:Int),List.replicate l.length (ay.mk 0 0 0 0),([]:List Int))=some (l.map iC,l.flatMap λv=>[v.bx,v.bu]):=by
 refine LM (step:=gD l) (λ i=>((i:Int),(l.take i).map iC++List.replicate (l.length -i) (ay.mk 0 0 0 0),(l.take i).flatMap λv=>[v.bx,v.bu])) l.length _ ?_ (λ i hi=>?_) ?_ n (by omega)
 ·simp
 ·have h1:=ak5 l iC (ay.mk 0 0 0 0) (Nat.le_of_lt hi);have h2:=ak4 l iC (ay.mk 0 0 0 0) hi;have h3:=ak6 l iC (ay.mk 0 0 0 0) hi;have h4:((l.take i).flatMap λv=>[v.bx,v.bu]).length=2*i:=by
   have:∀m:List aF,(m.flatMap λv=>[v.bx,v.bu]).length=2*m.length:=by
    intro m;induction m with
    |nil=>rfl
    |cons a m ih=>simp only[List.flatMap_cons,dF,ih,bE,length_nil];omega
   rw[this,length_take];omega
  generalize (l.take i).map iC++List.replicate (l.length -i) (ay.mk 0 0 0 0)=B at h1 h2;have e0:(((0:Nat):Int)+(i:Int)).toNat=i:=by omega
  have et:((l.length:Int):Int).toNat=l.length:=by omega
  have hb:ay.mk l[i].bx l[i].b9 l[i].bu l[i].b8=iC l[i]:=rfl;have hiB:i<B.length:=by omega
  rw[<- h2]at h3;have g3:bo (B.set i (iC l[i])) (((0:Nat):Int)+(i:Int))=some (iC l[i]):=by rw[Cw];exact h3
  have hs:sub ([(iC l[i]).x0,(iC l[i]).x1]:List Int) 0 2=[(iC l[i]).x0,(iC l[i]).x1]:=rfl;have hap:cu (2*i) (2*i) 2 2 8=true:=eT (by omega) (by simp only[maxLen];omega);have hl2:([(iC l[i]).x0,(iC l[i]).x1]:List Int).length=2:=rfl;simp only[gD,dR hi,aj,bL hi,bM hi,ah,et,bM hiB,e0,hb,g3,hs,hl2,h4,hap,fI,aG,aX i];rw[<- h2,jX hi,List.flatMap_append];rfl
 ·simp only[gD,fU,ak,aG,aj,List.take_length];simp
theorem ak8{l:List aF}{R:List ay}{X:List Int}(w2:List Int)(hR:R.length=l.length)(hX:X.length=w2.length)(hl:l.length<=1000)(hn:1001<=n){k:Nat}(hk:k+1<w2.length)(hw:w2.length<=10000)(s:Int):∃o,iter (iZ l w2 R X (k:Int)) n (s,(0:Int),(0:Int))=some o/\True:=by
 refine PO (λ i (v:Int×Int×Int)=>v.2.2=(i:Int)) l.length (λ _=>True) (λ i v hi hv=>?_) (λ v hv=>?_) n (by omega) _ rfl
 ·obtain⟨a,b,c⟩:=v;simp only at hv;subst hv;have et:(((l.length:Int):Int).toNat)=l.length:=by omega
  have ew:i64.wrap ((k:Int)+1)=((k+1:Nat):Int):=aR (by omega);simp only[iZ,et,dR hi,aj,bL hi,bM (show i<R.length by omega),ah,bL (show k<w2.length by omega),bM (show k<X.length by omega),ew,bL hk,bM (show k+1<X.length by omega),aX i];cases decide ((R[i]'(by omega)).x0<=X[k]'(by omega))with
  |false=>exact⟨_,rfl,rfl⟩
  |true=>
   simp only[aj,ah];cases decide (X[k]'(by omega)<(R[i]'(by omega)).x1)with
   |false=>exact⟨_,rfl,rfl⟩
   |true=>
    simp only[aj,ah];cases decide ((R[i]'(by omega)).y1>b)<;>exact⟨_,rfl,rfl⟩
 ·obtain⟨a,b,c⟩:=v;simp only at hv;subst hv;have et:(((l.length:Int):Int).toNat)=l.length:=by omega
  simp only[iZ,et,fU,ak];exact⟨_,rfl,trivial⟩
theorem ak9(a0:List fJ)(a1:List bW)(a2:List dW)(a4:List ic)(a5:List fG)(a6:List bU)(a7:Int)(a8:List ay){a9:List aF}(hl:a9.length<=1000)(hn:10000<=n):∃r,∀a3:List aQ,iO n a0 a1 a2 a3 a4 a5 a6 a7 a8 a9=some (r,a0,a1,a2,a3,a4,a5,a6,a7,a8,a9):=by
 have et:(((a9.length:Int):Int).toNat)=a9.length:=by omega
 have mk:Bu (a9.length:Int) 32=true:=ahW (by omega) (by simp only[maxLen];omega);have d1:decide ((a9.length:Int)<=(a9.length:Int))=true:=by simp
 have d2:decide (0<=(a9.length:Int))=true:=by simp
 have hz:bk 0 ([]:List Int).length=true:=rfl;have hx:(a9.flatMap λv=>[v.bx,v.bu]).length<=2000:=by
  have:∀m:List aF,(m.flatMap λv=>[v.bx,v.bu]).length=2*m.length:=by
   intro m;induction m with
   |nil=>rfl
   |cons a m ih=>simp only[List.flatMap_cons,dF,ih,bE,length_nil];omega
  rw[this];omega
 unfold iO;rw[et,ak7 hl (by omega)];generalize (a9.flatMap λv=>[v.bx,v.bu])=W at hx;have srt:=L8 (n:=n) (l:=a9.map iC) (φ:=λy1=>iM y1.1 y1.2.1) (λ x y=>if x.y0<y.y0 then -1 else if y.y0<x.y0 then 1 else 0) (λ x y=>by
  show iM x y=_;unfold iM;rw[kH];rfl) (λ x y=>by
  unfold ue;rw[decide_eq_decide];constructor
  ·intro h;split at h
   ·assumption
   ·split at h<;>omega
  ·intro h;rw[aN h];decide) (by simp;omega) (by simp;omega)
 have hm:bk a9.length (a9.map iC).length=true:=by simp
 have hR:(Aq ue (a9.map iC)).length=a9.length:=by rw[O1 ahY];simp
 have hX:(kR mm W).length=W.length:=(Np mm W).length_eq;simp only[d1,d2,mk,Bool.and_self,aj,hz,ah,hm,srt,aG,pK (show W.length<1099511627776 by omega) (show W.length<n by omega)];generalize Aq ue (a9.map iC)=R at hR;generalize kR mm W=X at hX;have key:∃o,iter (ja n a9 W R X) n ((0:Int),(0:Int))=some o/\True:=by
  have eN:max (0:Int) (i64.wrap ((W.length:Int) -1))=((W.length -1:Nat):Int):=by
   cases h:W.length with
   |zero=>rfl
   |succ k=>rw[kX (by omega) (by omega)];omega
  refine PO (λ i (v:Int×Int)=>v.2=(i:Int)) (W.length -1) (λ _=>True) (λ i v hi hv=>?_) (λ v hv=>?_) n (by omega) _ rfl
  ·obtain⟨a,b⟩:=v;simp only at hv;subst hv;obtain⟨o,ho,_⟩:=ak8 (n:=n) (l:=a9) (R:=R) (X:=X) W hR hX hl (by omega) (k:=i) (by omega) (by omega) a;simp only[ja,eN,dR hi,aj,ho,ah,aX i];exact⟨_,rfl,rfl⟩
  ·obtain⟨a,b⟩:=v;simp only at hv;subst hv;simp only[ja,eN,fU,ak];exact⟨_,rfl,trivial⟩
 obtain⟨o,ho,_⟩:=key;rw[ho];exact⟨o,λ_=>rfl⟩
def HW(b:ay)(k:Int):ay:=⟨b.x0 -k,b.y0 -k,b.x1+k,b.y1+k⟩
def HZ(area:List ay)(b:ay)(k:Int):Bool:=en (HW b k)&&decide (area.foldl (λ s y=>X0 (HW b k) s y) 0=HT (HW b k))
theorem ajf(b:ay)(k:Int)(a2:List fJ)(a3:List bW)(a4:List dW)(a5:List aQ)(a6:List ic)(a7:List fG)(a8:List bU)(a9:Int){jp:List ay}(sn:List aF)(hb:en b=true)(h0:0<=k)(h1:k<=1048576)(hl:jp.length<=1000)(hn:1001<=n):
 jK n b k a2 a3 a4 a5 a6 a7 a8 a9 jp sn=some (HZ jp b k,a2,a3,a4,a5,a6,a7,a8,a9,jp,sn):=by
 rw[amd]at hb;unfold jK Dx HZ;rw[bS (x:=b.x0 -k),bS (x:=b.y0 -k),bS (x:=b.x1+k),bS (x:=b.y1+k),show ay.mk (b.x0 -k) (b.y0 -k) (b.x1+k) (b.y1+k)=HW b k from rfl,jA];generalize HW b k=g;simp only[ah];cases hg:en g with
 |false=>simp only[Bool.not_false,aj,aG,Bool.false_and]
 |true=>
  have key:=oF (l:=jp) (step:=iJ jp (g,true)) (λ i (s:Int)=>(s,(i:Int))) (λ y s=>X0 g s y) (λ s=>s) (λ i hi s=>by
   simp only[iJ,dR hi,aj,bB hi,ah,AR,aX i,X0];cases h1:en g with
   |false=>rfl
   |true=>
    cases h2:en jp[i]with
    |false=>rfl
    |true=>
     cases h3:en (Iu g jp[i])with
     |false=>rfl
     |true=>simp only[Bool.and_self,aj,FD h3,ah]) (λ s=>by simp only[iJ,fU,ak]) n (by omega) 0
  rw[show ((0:Nat):Int)=0 from rfl]at key;simp only[Bool.not_true,ak,key,ah,FD hg,aG,aj,Bool.true_and];congr 2
def RD(p:Int->Bool):Nat->Int->Int->Int
 | 0,lo,_=>lo
 |k+1,lo,hi=>bif decide (lo<hi)then(bif p ((lo+hi+1)/2)then RD p k ((lo+hi+1)/2) hi else RD p k lo ((lo+hi+1)/2 -1))else lo
theorem Wa(p:Int->Bool):∀k lo hi,lo<=hi->lo<=RD p k lo hi/\RD p k lo hi<=hi
 | 0,lo,hi,h=>by simp only[RD];omega
 |k+1,lo,hi,h=>by
  simp only[RD];by_cases h1:lo<hi
  ·have e:decide (lo<hi)=true:=(by simpa using h1);rw[e,aj];cases p ((lo+hi+1)/2)with
   |true=>have:=Wa p k ((lo+hi+1)/2) hi (by omega);simp only[aj];omega
   |false=>have:=Wa p k lo ((lo+hi+1)/2 -1) (by omega);simp only[ak];omega
  ·have e:decide (lo<hi)=false:=(by simpa using h1);rw[e,ak];omega
theorem agH{v:aF}(hv:en (iC v)=true)(a2:List fJ)(a3:List bW)(a4:List dW)(a5:List aQ)(a6:List ic)(a7:List fG)(a8:List bU)(a9:Int){jp:List ay}(sn:List aF)(hl:jp.length<=1000)(hn:1001<=n):
 ∀(k:Nat) lo hi m,0<=lo->lo<=hi->hi<=1048576->hi -lo<2 ^ k->k<m->iter (eU n v) m (lo,hi,a2,a3,a4,a5,a6,a7,a8,a9,jp,sn)=some (RD (HZ jp (iC v)) k lo hi,a2,a3,a4,a5,a6,a7,a8,a9,jp,sn):=by
 intro k
 induction k with
 |zero=>
  intro lo hi m h0 h1 h2 h3 hm;obtain⟨q,rfl⟩:∃q,m=q+1:=⟨m -1,by omega⟩;have:lo=hi:=by simp at h3;omega
  subst this;refine bI ?_;have e:decide (lo<lo)=false:=by simp
  simp only[eU,e,ak,aG,aj,RD]
 |succ k ih=>
  intro lo hi m h0 h1 h2 h3 hm;obtain⟨q,rfl⟩:∃q,m=q+1:=⟨m -1,by omega⟩;have hp:(2:Int) ^ (k+1)=2*2 ^ k:=by rw[Int.pow_succ];omega
  rw[hp]at h3;by_cases hlt:lo<hi
  ·have e:decide (lo<hi)=true:=(by simpa using hlt);have e2:((2:Nat) !=0)=true:=rfl;have em:i64.wrap (Int.tdiv (i64.wrap (i64.wrap (lo+hi)+1)) 2)=(lo+hi+1)/2:=(by rw[bS (x:=lo+hi),bS (x:=lo+hi+1),Int.tdiv_eq_ediv_of_nonneg (by omega),bS (by omega) (by omega)]);have hi2:=ajf (n:=n) (iC v) ((lo+hi+1)/2) a2 a3 a4 a5 a6 a7 a8 a9 (jp:=jp) sn hv (by omega) (by omega) hl hn;unfold iC at hi2;cases hc:HZ jp (iC v) ((lo+hi+1)/2)with
   |true=>
    rw[dh (v':=((lo+hi+1)/2,hi,a2,a3,a4,a5,a6,a7,a8,a9,jp,sn)) (by
     unfold iC at hc;simp only[eU,e,aj,e2,aG,em,hi2,ah,hc]),ih _ _ _ (by omega) (by omega) (by omega) (by omega) (by omega)]
    simp only[RD,e,aj,hc]
   |false=>
    rw[dh (v':=(lo,(lo+hi+1)/2 -1,a2,a3,a4,a5,a6,a7,a8,a9,jp,sn)) (by
     unfold iC at hc;simp only[eU,e,aj,e2,aG,em,hi2,ah,hc,ak,bS (x:=(lo+hi+1)/2 -1)]),ih _ _ _ (by omega) (by omega) (by omega) (by omega) (by omega)]
    simp only[RD,e,aj,hc,ak]
  ·have e:decide (lo<hi)=false:=(by simpa using hlt);refine bI ?_;simp only[eU,e,ak,aG,aj,RD]
def PW(area:List ay)(l:List aF):Int:=l.foldl (λ b v=>RD (HZ area (iC v)) 21 0 b) 1048576
theorem agI(a0:List fJ)(a1:List bW)(a2:List dW)(a3:List aQ)(a4:List ic)(a5:List fG)(a6:List bU)(a7:Int){a8:List ay}{a9:List aF}(hv:∀v∈a9,okV v=true)(hl:a9.length<=1000)(h8:a8.length<=1000)(hn:1001<=n):jm n a0 a1 a2 a3 a4 a5 a6 a7 a8 a9=some (PW a8 a9,a0,a1,a2,a3,a4,a5,a6,a7,a8,a9):=by
 have key:=fZ (l:=a9) (step:=iA n a9) (λ i (s:Int)=>(s,(i:Int),a0,a1,a2,a3,a4,a5,a6,a7,a8,a9)) (λ v s=>RD (HZ a8 (iC v)) 21 0 s) (λ s=>(s,a0,a1,a2,a3,a4,a5,a6,a7,a8,a9)) (λ _ s=>0<=s/\s<=1048576) (λ i hi s hs=>by
  have h1:=agH (n:=n) (X9 (hv _ (getElem_mem hi))) a0 a1 a2 a3 a4 a5 a6 a7 (jp:=a8) a9 h8 hn 21 0 s n (by omega) hs.1 hs.2 (by have:(2:Int) ^ 21=2097152:=rfl;omega) (by omega);have h2:=Wa (HZ a8 (iC a9[i])) 21 0 s hs.1;refine⟨?_,by omega,by omega⟩;simp only[iA,dR hi,aj,bL hi,bM hi,ah,aG,h1,aX i]) (λ s _=>by simp only[iA,fU,ak,aG,aj]) n (by omega) 1048576 (by omega)
 rw[show ((0:Nat):Int)=0 from rfl]at key;unfold jm;simp only[aG,aj,key,ah];rfl
def iW(d:bf):List aF:=((kS d).take 40).filter okV
theorem acv(d:bf):∀v∈iW d,okV v=true:=λv hv=>(List.mem_filter.1 hv).2
theorem ZE(d:bf):(iW d).length<=40:=Nat.le_trans (length_filter_le _ _) (by rw[length_take];omega)
def rH(lot:gY):List ay:=bif cJ lot.area then lot.area else []
theorem anX{l:List aF}(a0:List fJ)(a1:List bW)(a2:List dW)(a3:List aQ)(a4:List ic)(a5:List fG)(a6:List bU)(a7:Int)(a8:List ay)(hl:l.length<=9223372036854775807)(hn:l.length<n):
 iter (rC l) n ((0:Int),a0,a1,a2,a3,a4,a5,a6,a7,a8,([]:List aF))=some (a0,a1,a2,a3,a4,a5,a6,a7,a8,(l.take 40).filter okV):=by
 refine LM (step:=rC l) (λ i=>((i:Int),a0,a1,a2,a3,a4,a5,a6,a7,a8,((l.take i).take 40).filter okV)) l.length _ (by simp) (λ i hi=>?_) ?_ n hn
 ·have hlen:(((l.take i).take 40).filter okV).length<=40:=Nat.le_trans (length_filter_le _ _) (by rw[length_take];omega);have e40:decide ((i:Int)<40)=decide (i<40):=by rw[decide_eq_decide];omega
  have hs:sub ([l[i]]:List aF) 0 1=[l[i]]:=rfl;have hN:((l.take (i+1)).take 40).filter okV=((l.take i).take 40).filter okV++(bif decide (i<40)&&okV l[i]then [l[i]]else []):=by
   by_cases h:i<40
   ·have h1:(l.take i).take 40=l.take i:=take_of_length_le (by rw[length_take];omega);have h2:(l.take (i+1)).take 40=l.take (i+1):=take_of_length_le (by rw[length_take];omega);have h3:decide (i<40)=true:=(by simpa using h);rw[h1,h2,jX hi,List.filter_append,h3];cases h4:okV l[i]<;>simp[h4]
   ·have h3:decide (i<40)=false:=(by simpa using h);rw[List.take_take,List.take_take,h3,show min 40 (i+1)=40 by omega,show min 40 i=40 by omega];simp
  rw[hN];generalize ((l.take i).take 40).filter okV=L at hlen;have hap:cu L.length L.length 1 1 72=true:=eT (by omega) (by simp only[maxLen];omega);simp only[rC,dR hi,aj,bL hi,bM hi,ah,e40,uS,aX i];cases decide (i<40)with
  |false=>simp only[ak,ah,aG,aj,Bool.false_and,append_nil]
  |true=>
   simp only[aj,ah,Bool.true_and];cases okV l[i]with
   |false=>simp only[ak,aG,aj,ah,append_nil]
   |true=>simp only[aj,hs,length_singleton,hap,fI,aG,ah]
 ·simp only[rC,fU,ak,aG,aj,List.take_length]
def anq(n:Nat)(p:cK):Prop:=p.tables.length<n/\p.tables.length<=9223372036854775807/\∀t∈p.tables,t.rows.length<n/\t.rows.length<=9223372036854775807
def RF:ByteArray:=⟨#[115,101,116,98,97,99,107]⟩
theorem anY{p:cK}{lot:gY}{d:bf}(hp:anq n p)(hl:lot.area.length<=900)(hd:ZC d)(hn:2000000<=n):∃e1 e2 e3 e4 e5 e6 e7 e8:Int,∀R:List aQ,sJ n (cK.mk p.defs p.tables p.zones R p.caps p.views p.nr p.hours) lot d=some [⟨⟨#[97,114,101,97]⟩,e1⟩,⟨⟨#[99,111,118,101,114]⟩,e2⟩,⟨⟨#[102,108,111,111,114]⟩,e3⟩,⟨⟨#[102,108,111,111,114,115]⟩,e4⟩,⟨⟨#[104,101,105,103,104,116]⟩,e5⟩,⟨⟨#[104,111,109,101,115]⟩,e6⟩,⟨⟨#[114,117,110,111,102,102]⟩,e7⟩,⟨RF,PW (rH lot) (iW d)⟩,⟨⟨#[116,114,97,102,102,105,99]⟩,e8⟩]:=by
 have hs1:rH lot=(bif cJ lot.area then lot.area else []):=rfl;have hsl:(rH lot).length<=900:=by unfold rH;cases cJ lot.area<;>simp[hl]
 have hvl:=ZE d;have hvo:=acv d;have hfl:=PV hd.2;have hd1:=hd.1;obtain⟨hp1,hp2,hp3⟩:=hp;have hz:bk 0 ([]:List aF).length=true:=rfl;have GC:∀R:List aQ,((bif cJ lot.area then some (p.defs,p.tables,p.zones,R,p.caps,p.views,p.nr,p.hours,lot.area)else some (p.defs,p.tables,p.zones,R,p.caps,p.views,p.nr,p.hours,([]:(List ay)))):Option ((List fJ)×(List bW)×(List dW)×(List aQ)×(List ic)×(List fG)×(List bU)×Int×(List ay)))=some (p.defs,p.tables,p.zones,R,p.caps,p.views,p.nr,p.hours,rH lot):=by intro R;rw[hs1];cases cJ lot.area<;>rfl
 obtain⟨e2,h2⟩:=ak9 (n:=n) p.defs p.tables p.zones p.caps p.views p.nr p.hours (rH lot) (a9:=iW d) (by omega) (by omega);obtain⟨e3,h3⟩:=anl (n:=n) p.defs p.tables p.zones p.caps p.views p.nr p.hours (rH lot) (a9:=iW d) (by omega) (by omega);obtain⟨e4,h4⟩:=ak2 (n:=n) p.defs p.tables p.zones p.caps p.views p.nr p.hours (rH lot) (a9:=iW d) (by omega) (by omega);obtain⟨e5,h5⟩:=ak3 (n:=n) p.defs p.tables p.zones p.caps p.views p.nr p.hours (rH lot) (a9:=iW d) (by omega) (by omega);obtain⟨e6,h6⟩:=anm (n:=n) p.defs p.tables p.zones p.caps p.views p.nr p.hours (rH lot) (a9:=iW d) (by omega) (by omega);have h8:=λR:List aQ=>agI (n:=n) p.defs p.tables p.zones R p.caps p.views p.nr p.hours (a8:=rH lot) (a9:=iW d) hvo (by omega) (by omega) (by omega);obtain⟨e9,h9⟩:=anp (n:=n) p.defs p.tables p.zones p.caps p.views p.nr p.hours (rH lot) (a9:=iW d) (by omega) (by omega) hvo hp1 hp2 hp3;refine⟨bif cJ (rH lot)then Nv (rH lot)else 0,e2,e3,e4,e5,e6,e2,e9,λR=>?_⟩;unfold sJ;rw[l9 (by omega) (by omega) (by omega),Ya hd (by omega)];simp only[ah,GC,hz,aj];rw[anX (n:=n) p.defs p.tables p.zones R p.caps p.views p.nr p.hours (rH lot) (by show(kS d).length<=_;unfold kS;omega) (by show(kS d).length<_;unfold kS;omega)];have hr:((kS d).take 40).filter okV=iW d:=rfl;have s1:∀e:bP,sub ([e]:List bP) 0 1=[e]:=λ_=>rfl;have ap:∀k,k<=20->cu k k 1 1 24=true:=λk hk=>eT (by omega) (by simp only[maxLen];omega);have lot:mW n p.defs p.tables p.zones R p.caps p.views p.nr p.hours (rH lot) (iW d)=some (bif cJ (rH lot)then Nv (rH lot)else 0,p.defs,p.tables,p.zones,R,p.caps,p.views,p.nr,p.hours,rH lot,iW d):=by
  unfold mW;rw[XU (by omega) (by omega)];simp only[ah,aG,aj]
 simp only[hr,ah,aG,aj,lot,s1,length_singleton,ap 0 (by omega),fI,h2,ap 1 (by omega),dF,ap 2 (by omega),h3,ap 3 (by omega),h4,ap 4 (by omega),h5,ap 5 (by omega),h6,ap 6 (by omega),h8,ap 7 (by omega),h9,ap 8 (by omega),Nat.reduceAdd,Nat.zero_add,dn];rfl
theorem ah0(ds:List (ByteArray×ET))(s:List UInt8):∀(k:Nat)(i:Int),O3 ds s k=some i->0<=i/\i<(k:Int)
 | 0,i,h=>by simp[O3]at h
 |k+1,i,h=>by
  simp only[O3]at h;split at h
  ·cases h;omega
  ·have:=ah0 ds s k i h;omega
theorem ame{ds:List (ByteArray×ET)}(h:qT ds<=4000000):Zw (oP ds) ds.length:=by
 have hl:=Vb ds;refine⟨by simp[oP],by omega,λl hl=>?_⟩;simp only[oP,mem_map]at hl;obtain⟨d,hd,rfl⟩:=hl;have h1:=Vd hd;have h2:=ET.oA d.2;have h3:=ad9 d.2.names;refine⟨Nat.le_trans (List.length_filterMap_le _ _) (by omega),λk hk=>?_⟩;simp only[iy,List.mem_filterMap]at hk;obtain⟨s,_,hk⟩:=hk;exact ah0 ds s _ k hk
theorem aeD{M:List ByteArray}(hM:M.length<=1000)(hn:1001<=n)(w0:List (ByteArray×Bool)):∃w,iter (ou M) n ((0:Int),w0)=some w:=by
 obtain⟨o,h,_⟩:=eX (step:=ou M) (λ i (v:Int×List (ByteArray×Bool))=>∃w,v=((i:Int),w)/\i<=M.length) (λ _=>True) M.length (λ k v ⟨_,_,h⟩=>h) (by
  rintro i v ⟨w,rfl,hi⟩;by_cases hlt:i<M.length
  ·simp only[ou,show decide ((i:Int)<(M.length:Int))=true from by simp;omega,aj,bL hlt,bM hlt,ah,aX i];exact .inl ⟨_,rfl,_,rfl,hlt⟩
  ·simp only[ou,show decide ((i:Int)<(M.length:Int))=false from by simp;omega,ak];exact .inr ⟨_,rfl,trivial⟩) n 0 ((0:Int),w0) ⟨_,rfl,Nat.zero_le _⟩ (by omega)
 exact⟨o,h⟩
theorem aeE{p:cK}(hp:p.defs.length<=4000000)(hn:4000001<=n)(w0:List (ByteArray×Bool)):iter (lD p) n ((0:Int),w0)=some (.inl ())\/iter (lD p) n ((0:Int),w0)=some (.inr ([],[],5)):=by
 obtain⟨o,h,h2⟩:=eX (step:=lD p) (λ i (v:Int×List (ByteArray×Bool))=>∃w,v=((i:Int),w)/\i<=p.defs.length) (λ o=>o= .inl ()\/o= .inr ([],[],5)) p.defs.length (λ k v ⟨_,_,h⟩=>h) (by
  rintro i v ⟨w,rfl,hi⟩;by_cases hlt:i<p.defs.length
  ·simp only[lD,show decide ((i:Int)<(p.defs.length:Int))=true from by simp;omega,aj,bB hlt,ah,aX i];cases (qz Gb.jt p.defs[i].name w).getD false with
   |true=>exact .inr ⟨_,rfl,.inr rfl⟩
   |false=>exact .inl ⟨_,rfl,_,rfl,hlt⟩
  ·simp only[lD,show decide ((i:Int)<(p.defs.length:Int))=false from by simp;omega,ak];exact .inr ⟨_,rfl,.inl rfl⟩) n 0 ((0:Int),w0) ⟨_,rfl,Nat.zero_le _⟩ (by omega)
 rcases h2 with rfl |rfl
 ·exact .inl h
 ·exact .inr h
theorem aeF:∃M,yF=some M/\M.length=9:=⟨_,rfl,rfl⟩
def gE(l:List fJ):Prop:=qT (l.map toD)<=4000000
theorem gE.len{l:List fJ}(h:gE l):l.length<=4000000:=by
 have:=Vb (l.map toD);rw[length_map]at this;unfold gE at h;omega
theorem gE.body{l:List fJ}(h:gE l){d:fJ}(hd:d∈l):(toE (bK.mk d.ir d.ly d.kf d.il d.eo)).wt<=4000000:=by
 have h1:=Vd (mem_map.2 ⟨d,hd,rfl⟩:toD d∈l.map toD);unfold gE at h;simp only[toD,ET.wt]at h1;simp only[toE,ET.wt];omega
theorem Ui{p:cK}(hp:gE p.defs)(hn:5000003<=n):∃r,nX n p=some r/\r.1.length<=p.defs.length/\∀k∈r.1,0<=k/\k<(p.defs.length:Int):=by
 obtain⟨M,hM,hM9⟩:=aeF;obtain⟨w,hw⟩:=aeD (n:=n) (M:=M) (by omega) (by omega) [];have hg:Zw (oP (p.defs.map toD)) p.defs.length:=by have:=ame hp;rwa [length_map]at this
 have GM:lC p.defs=some (p.defs,oP (p.defs.map toD)):=by
  unfold lC;rw[Nat.ble_eq_true_of_le hp];rfl
 simp only[nX,hM,ah,hw];rcases aeE (n:=n) (p:=p) hp.len (by omega) w with h |h
 ·have⟨c,hc,hc2⟩:=aee (n:=n) (a0:=p.defs) hg rfl hn;simp only[h,dP,GM,ah,hc];cases h0:(c.length==0)with
  |true=>
   have e:c=[]:=List.eq_nil_of_length_eq_zero (by simpa using h0);obtain⟨l,hl,hll,hlr⟩:=akP (n:=n) (a0:=pG.mk p.defs (oP (p.defs.map toD))) hg rfl (hc2 e) (by omega);simp only[aj,ah,ak,hl,dn,aG];exact⟨_,rfl,by simp[hll],hlr⟩
  |false=>
   simp only[aj,ah,ak,dn,aG];exact⟨_,rfl,by simp,by simp⟩
 ·simp only[h,fF];exact⟨_,rfl,by simp,by simp⟩
theorem AU(x:bK):bK.mk x.op x.n x.s x.key x.args=x:=by cases x;rfl
theorem PX:∀l:List bK,Kt l=l.map toE
 |[]=>rfl
 |x::xs=>by simp only[Kt,aC,PX xs]
theorem ah1:∀{l:List ET}{t:ET},t∈l->t.wt<=ET.sB l
 |x::l,t,h=>by
  simp only[ET.sB];rcases aO.1 h with rfl |h
  ·omega
  ·have:=ah1 h;omega
theorem T6{e x:bK}(h:x∈e.args):(toE x).wt<(toE e).wt:=by
 have h1:(toE x).wt<=ET.sB (Kt e.args):=ah1 (by rw[PX];exact mem_map.2 ⟨x,h,rfl⟩);cases e;simp only[toE,ET.wt]at *;omega
theorem V2(e:bK):e.args.length<(toE e).wt:=by
 have h1:=ET.p5 (Kt e.args);rw[PX,length_map]at h1;cases e;simp only[toE,ET.wt,PX]at *;omega
def VR:Nat->bK->Prop
 | 0,_=>False
 |k+1,e=>AJ e.op=some ((e.args.length:Int),true)/\∀x∈e.args,VR k x
theorem agK(op:Int):∃a b,AJ op=some (a,b):=by
 simp only[AJ];cases (op==0)<;>cases (op==1)<;>cases (op==2)<;>cases (op==3)<;>cases (op==9)<;>cases (op==15)<;>cases (op==16)<;>cases (decide (op>=0))<;>exact⟨_,_,rfl⟩
theorem aa6(hn:4000002<=n):∀(m:Nat)(e:bK)(a:Int),m<=9223372036854775000->0<=a->a<=12->13<=a+m->(toE e).wt<=4000000->∃r,tH n m e a=some r/\1<=r/\r<=13+m/\(r<=12->VR m e)
 | 0,_,_,_,_,_,h,_=>absurd h (by omega)
 |m+1,e,a,hm,h0,h1,h2,h3=>by
  have⟨x,b,hx⟩:=agK e.op;have hla:=V2 e;show ∃r,CF n (tH n m) e a=some r/\_;simp only[CF,hx,ah];have bad:∃r,some (13:Int)=some r/\1<=r/\r<=13+((m+1:Nat):Int)/\(r<=12->VR (m+1) e):=⟨13,rfl,by omega,by omega,λh=>absurd h (by omega)⟩;cases b with
  |false=>simpa only[Bool.not_false,aj,ah]using bad
  |true=>
   simp only[Bool.not_true,ak];by_cases hxl:x=(e.args.length:Int)
   ·subst hxl;simp only[show ((e.args.length:Int) !=(e.args.length:Int))=false from by simp,ak,ah];by_cases ha:a>=12
    ·simpa only[ha,decide_true,aj]using bad
    ·simp only[ha,decide_false,ak]
     obtain⟨o,g1,g2,g3,g4⟩:=eX (step:=zu n (tH n m) e a) (λ i (v:Int×Int)=>v.2=(i:Int)/\i<=e.args.length/\0<=v.1/\v.1<=13+m/\(v.1<=11->∀y∈e.args.take i,VR m y))
      (λ o=>0<=o/\o<=13+m/\(o<=11->∀y∈e.args,VR m y)) e.args.length (λ k v h=>h.2.1) (by
      rintro i ⟨v2,v3⟩ ⟨hv,hi,i1,i2,i3⟩;simp only at hv i1 i2 i3;subst hv;by_cases hlt:i<e.args.length
      ·left;have hwx:=T6 (getElem_mem hlt);obtain⟨r,r1,r2,r3,r4⟩:=aa6 hn m e.args[i] (a+1) (by omega) (by omega) (by omega) (by omega) (by omega);refine⟨(max v2 r,((i+1:Nat):Int)),?_,rfl,hlt,by show 0<=max v2 r;omega,by show max v2 r<=_;omega,λh y hy=>?_⟩
       ·simp only[zu,show decide ((i:Int)<(e.args.length:Int))=true from by simp;omega,aj,bB hlt,ah,AU,bS (show -9223372036854775808<=a+1 by omega) (show a+1<=9223372036854775807 by omega),r1,aX i]
       ·have h':max v2 r<=11:=h;rw[List.take_add_one,dG hlt]at hy;rw[aV]at hy;rcases hy with hy |hy
        ·exact i3 (by omega) y hy
        ·simp at hy;subst hy;exact r4 (by omega)
      ·right;refine⟨v2,?_,i1,i2,λh y hy=>i3 h y (by rw[take_of_length_le (by omega)];exact hy)⟩;simp only[zu,show decide ((i:Int)<(e.args.length:Int))=false from by simp;omega,ak]) n 0 ((0:Int),(0:Int)) ⟨rfl,Nat.zero_le _,by simp,by show(0:Int)<=_;omega,by simp⟩ (by omega)
     simp only[g1,ah];rw[bS (by omega) (by omega)];exact⟨o+1,rfl,by omega,by omega,λh=>⟨hx,g4 (by omega)⟩⟩
   ·simpa only[show (x !=(e.args.length:Int))=true from by simpa using hxl,aj,ah]using bad
theorem TA(hn:4000002<=n)(hn2:n<=9223372036854775000){e:bK}(h:(toE e).wt<=4000000):∃b,Kr n e=some b/\(b=true->VR n e):=by
 obtain⟨r,h1,h2,h3,h4⟩:=aa6 hn n e 0 hn2 (by omega) (by omega) (by omega) h;refine⟨decide (r<=12),?_,λh=>h4 (by simpa using h)⟩;simp only[Kr,AU,Rm,h1,ah]
def anZ(tables:List bW)(s key:ByteArray):Int:=match tables.find? λt=>ByteArray.toList t.name==ByteArray.toList s with
 |some t=>anU t key
 |none=>0
def LS(ts:List bW):Prop:=ts.length<=4000000/\∀t∈ts,t.rows.length<=4000000
theorem ajg(hn:4000002<=n){a0:List fJ}{ts:List bW}{a2:List dW}{a3:List aQ}{a4:List ic}{a5:List fG}{a6:List bU}{a7:Int}{zs:List ByteArray}(ht:LS ts)(e:bK)(kn:List (ByteArray×Int)):jq n a0 ts a2 a3 a4 a5 a6 a7 zs e kn=some (anZ ts e.s e.key,kn):=by
 have h1:=ht.1;simp only[jq,AU];rw[IL (λ t=>ByteArray.toList t.name==ByteArray.toList e.s) (λ x _=>rfl) (by omega) (by omega)];simp only[ah,anZ];rcases XZ (λ t:bW=>ByteArray.toList t.name==ByteArray.toList e.s) ts with ⟨i,hi,h1,h2⟩ |⟨h1,h2⟩
 ·rw[h1,h2];have d:decide ((i:Int)<0)=false:=by simp
  have hr:=ht.2 _ (getElem_mem hi);simp only[d,ak,bB hi,ah];rw[IQ (λ x=>ByteArray.toList x.name==ByteArray.toList e.key) (λ x _=>rfl) (by omega) (by omega)];simp only[ah,anU];rcases XZ (λ x:bP=>ByteArray.toList x.name==ByteArray.toList e.key) ts[i].rows with ⟨j,hj,g1,g2⟩ |⟨g1,g2⟩
  ·rw[g1,g2];have d:decide ((j:Int)>=0)=true:=(by simp);simp only[d,aj,bB hj,ah]
  ·rw[g1,g2];rfl
 ·rw[h1,h2];rfl
theorem fe{α:Type}{c:Bool}{x y:Option α}(hx:∃r,x=some r)(hy:∃r,y=some r):∃r,(bif c then x else y)=some r:=by cases c<;>assumption
theorem ZF(a b:Int):∃r,xN a b=some r:=by
 simp only[xN];cases h:(b==0)with
 |true=>exact⟨_,rfl⟩
 |false=>
  have:(b !=0)=true:=by simp[bne,h]
  simp only[this,aj,ak];cases (Int.tmod a b !=0)<;>cases (decide (Int.tmod a b<0)==decide (b<0))<;>exact⟨_,rfl⟩
theorem Yc(b:Bool):∃r,AL b=some r:=fe ⟨_,rfl⟩ ⟨_,rfl⟩
theorem tN{α β:Type}{x:Option α}{f:α->Option β}(hx:∃r,x=some r)(hf:∀r,∃s,f r=some s):∃s,x.bind f=some s:=by obtain⟨r,rfl⟩:=hx;exact hf r
theorem aeG(op a b:Int):∃r,LB op a b=some r:=by
 have q:=ZF a b;have t:=λc=>Yc c;unfold LB
 repeat' first
  |exact⟨_,rfl⟩
  |exact q
  |exact t _
  |apply fe
  |(refine tN ?_ λr=>?_)
theorem KP(h:0<n):b7 0 n=true:=by simp[b7];omega
theorem aeH(h:1<n):b7 1 n=true:=by simp[b7];omega
theorem ala(h:2<n):b7 2 n=true:=by simp[b7];omega
theorem PY{α:Type}{l:List α}(h:0<l.length):bo l (((0:Nat):Int)+0)=some l[0]:=bM (i:=0) h
theorem ah3{α:Type}{l:List α}(h:1<l.length):bo l (((0:Nat):Int)+1)=some l[1]:=bM (i:=1) h
theorem amf{α:Type}{l:List α}(h:2<l.length):bo l (((0:Nat):Int)+2)=some l[2]:=bM (i:=2) h
theorem ZG{l:List ByteArray}{s:ByteArray}(hl:l.length<=4000000)(hn:4000002<=n):∃r,fK n l s=some r:=by
 obtain⟨o,h,_⟩:=eX (step:=nS l s) (λ i (v:Int)=>v=(i:Int)/\i<=l.length) (λ _=>True) l.length (λ k v h=>h.2) (by
  rintro i v ⟨rfl,hi⟩;by_cases hlt:i<l.length
  ·simp only[nS,show decide ((i:Int)<(l.length:Int))=true from by simp;omega,aj,bB hlt,ah,aX i];cases (ByteArray.toList s==ByteArray.toList l[i])with
   |true=>exact .inr ⟨_,rfl,trivial⟩
   |false=>exact .inl ⟨_,rfl,rfl,hlt⟩
  ·simp only[nS,show decide ((i:Int)<(l.length:Int))=false from by simp;omega,ak];exact .inr ⟨_,rfl,trivial⟩) n 0 0 ⟨rfl,Nat.zero_le _⟩ (by omega)
 simp only[fK,rU,h];cases o with
 |inl u=>cases u;simp only[dP,ah];exact⟨_,rfl⟩
 |inr r=>simp only[fF,ah];exact⟨_,rfl⟩
theorem ajh{op a:Int}(h0:(op==0)=false)(h1:(op==1)=false)(h2:(op==2)=false)(h3:(op==3)=false)(h9:(op==9)=false)(IH:(op==15)=false)(h16:(op==16)=false)(h:AJ op=some (a,true)):a=2:=by
 simp only[AJ,h0,h1,h2,h3,h9,IH,h16,ak,ah]at h;cases hd:decide (op>=0)with
 |true=>rw[hd]at h;simp only[aj,aA,Prod.mk.injEq]at h;exact h.1.symm
 |false=>rw[hd]at h;simp at h
section
variable {n:Nat} {a0:List fJ} {ts:List bW} {a2:List dW} {a3:List aQ} {a4:List ic} {a5:List fG} {a6:List bU} {a7:Int} {zs:List ByteArray}
theorem Yd(hn:4000002<=n)(ht:LS ts)(hz:zs.length<=4000000):∀(m:Nat)(e:bK)(kn:List (ByteArray×Int)),VR m e->(toE e).wt<=4000000->∃v,bR n m a0 ts a2 a3 a4 a5 a6 a7 zs e kn=some (v,kn)
 | 0,_,_,h,_=>h.elim
 |m+1,e,kn,⟨ha,hr⟩,hw=>by
  have hla:=V2 e;have hmx:maxLen=9223372036854775807:=rfl;show ∃v,fD n (bR n m) a0 ts a2 a3 a4 a5 a6 a7 zs e kn=some (v,kn)
  obtain⟨o,h1,l,rfl,hl⟩:=eX (step:=fq n (bR n m) a0 ts a2 a3 a4 a5 a6 a7 zs e) (λ i (v:Int×List (ByteArray×Int)×List Int)=>∃l,v=((i:Int),kn,l)/\i<=e.args.length/\l.length=i)
   (λ o=>∃l,o=(kn,l)/\l.length=e.args.length) e.args.length (λ k v ⟨_,_,h,_⟩=>h) (by
   rintro i v ⟨l,rfl,hi,hl⟩;by_cases hlt:i<e.args.length
   ·left;have hwx:=T6 (getElem_mem hlt);obtain⟨x,hx⟩:=Yd hn ht hz m e.args[i] kn (hr _ (getElem_mem hlt)) (by omega);have key:∃b,((bif (e.op==(16:Int))then(bif (decide ((i:Int)>(0:Int)))then(ck (b7 0 l.length) ((bo l ((0:Nat)+0:Int)).bind λx2=>some (!((x2 !=(0:Int))==((i:Int)==(1:Int))))))else some false)else some false):Option (Bool))=some b:=by
     refine fe ?_ ⟨_,rfl⟩;by_cases h0:(i:Int)>0
     ·simp only[h0,decide_true,aj,KP (show 0<l.length by omega),PY (show 0<l.length by omega),ah];exact⟨_,rfl⟩
     ·simp only[h0,decide_false,ak];exact⟨_,rfl⟩
    obtain⟨b,hb⟩:=key;have hap:∀z:Int,cu l.length l.length (sub [z] 0 1).length 1 8=true:=λz=>(by simp[cu,sub];omega);simp only[fq,show decide ((i:Int)<(e.args.length:Int))=true from by simp;omega,aj,bB hlt,ah,hb,AU,hx,hap,fI,aG,aX i];cases b with
    |true=>exact⟨_,rfl,_,rfl,hlt,by simp[sub,hl]⟩
    |false=>exact⟨_,rfl,_,rfl,hlt,by simp[sub,hl]⟩
   ·right;refine⟨(kn,l),?_,l,rfl,by omega⟩;simp only[fq,show decide ((i:Int)<(e.args.length:Int))=false from by simp;omega,ak,aG,aj]) n 0 ((0:Int),kn,[]) ⟨[],rfl,Nat.zero_le _,rfl⟩ (by omega)
  simp only[fD,length_nil,aG,aj,h1,ah,AU,ajg hn ht];cases h0:(e.op==0)with
  |true=>exact⟨_,rfl⟩
  |false=>
  cases h1:(e.op==1)with
  |true=>exact⟨_,rfl⟩
  |false=>
  cases h2:(e.op==2)with
  |true=>exact⟨_,rfl⟩
  |false=>
  cases h3:(e.op==3)with
  |true=>
   have⟨r,hr⟩:=ZG (n:=n) (l:=zs) (s:=e.s) hz hn;have⟨r2,hr2⟩:=Yc r;simp only[ak,aj,hr,hr2,ah];exact⟨_,rfl⟩
  |false=>
  cases h9:(e.op==9)with
  |true=>
   have e9:e.op=9:=(by simpa using h9);rw[e9]at ha;have:l.length=1:=(by have h:some ((1:Int),true)=some ((e.args.length:Int),true):=ha;simp at h;omega);simp only[ak,aj,KP (show 0<l.length by omega),PY (show 0<l.length by omega),ah];exact⟨_,rfl⟩
  |false=>
  cases IH:(e.op==15)with
  |true=>
   have e15:e.op=15:=(by simpa using IH);rw[e15]at ha;have:l.length=1:=(by have h:some ((1:Int),true)=some ((e.args.length:Int),true):=ha;simp at h;omega);obtain⟨r2,hr2⟩:=Yc (l[0]'(by omega)==0);simp only[ak,aj,KP (show 0<l.length by omega),PY (show 0<l.length by omega),ah,hr2];exact⟨_,rfl⟩
  |false=>
  cases h16:(e.op==16)with
  |true=>
   have e16:e.op=16:=(by simpa using h16);rw[e16]at ha;have:l.length=3:=(by have h:some ((3:Int),true)=some ((e.args.length:Int),true):=ha;simp at h;omega);simp only[ak,aj,KP (show 0<l.length by omega),PY (show 0<l.length by omega),aeH (show 1<l.length by omega),ah3 (show 1<l.length by omega),ala (show 2<l.length by omega),amf (show 2<l.length by omega),ah];cases (l[0]'(by omega) !=0)<;>exact⟨_,rfl⟩
  |false=>
   have:l.length=2:=(by have:=ajh h0 h1 h2 h3 h9 IH h16 ha;omega);obtain⟨r,hr⟩:=aeG e.op (l[0]'(by omega)) (l[1]'(by omega));simp only[ak,aj,KP (show 0<l.length by omega),PY (show 0<l.length by omega),aeH (show 1<l.length by omega),ah3 (show 1<l.length by omega),ah,hr];exact⟨_,rfl⟩
end
theorem agL{ms:List bP}(h:ms.length<=4000000)(hn:4000002<=n):∃o,iter (kg n ms) n ((0:Int),([]:List (ByteArray×Int)),([]:List (ByteArray×Bool)))=some o:=by
 obtain⟨o,h,_⟩:=eX (step:=kg n ms) (λ i (v:Int×List (ByteArray×Int)×List (ByteArray×Bool))=>∃a b,v=((i:Int),a,b)/\i<=ms.length) (λ _=>True) ms.length (λ k v ⟨_,_,_,h⟩=>h) (by
  rintro i v ⟨a,b,rfl,hi⟩;by_cases hlt:i<ms.length
  ·left;simp only[kg,show decide ((i:Int)<(ms.length:Int))=true from by simp;omega,aj,bB hlt,ah,aX i];cases (!((qz Gb.jt ms[i].name b).getD false))<;>exact⟨_,rfl,_,_,rfl,hlt⟩
  ·right;simp only[kg,show decide ((i:Int)<(ms.length:Int))=false from by simp;omega,ak];exact⟨_,rfl,trivial⟩) n 0 _ ⟨[],[],rfl,Nat.zero_le _⟩ (by omega)
 exact⟨o,h⟩
structure T5(p:cK):Prop where
 defs:gE p.defs
 tabs:LS p.tables
theorem Ny{p:cK}{ms:List bP}{zs:List ByteArray}(hp:T5 p)(hm:ms.length<=4000000)(hz:zs.length<=4000000)(hn:5000003<=n)(hn2:n<=9223372036854775000):∃kn ab,mQ n p ms zs=some (p.defs,p.tables,p.zones,p.rules,p.caps,p.views,p.nr,p.hours,zs,kn,ab)/\ab.length=p.defs.length:=by
 obtain⟨⟨w1,w2⟩,hs1⟩:=agL (n:=n) hm (by omega);have⟨r,hr,hrl,hrr⟩:=Ui (n:=n) hp.defs hn;have hl:=hp.defs.len;have hmx:maxLen=9223372036854775807:=rfl;have hmk:Bu (p.defs.length:Int) 8=true:=by simp[Bu];omega
 simp only[mQ,hs1,ah,Int.le_refl,decide_true,Bool.true_and,show decide ((0:Int)<=(p.defs.length:Int))=true from by simp,hmk,aj,hr];cases hb:(r.2.2 !=(0:Int))with
 |true=>
  simp only[aj,Int.toNat_natCast,List.length_replicate,aG];exact⟨_,_,rfl,by simp⟩
 |false=>
  obtain⟨o,h1,kn,ab,rfl,h2⟩:=eX (step:=gP n p zs w2 r) (λ i (v:Int×List (ByteArray×Int)×List Int)=>∃kn ab,v=((i:Int),kn,ab)/\i<=r.1.length/\ab.length=p.defs.length)
   (λ o=>∃kn ab,o=(kn,ab)/\ab.length=p.defs.length) r.1.length (λ k v ⟨_,_,_,h,_⟩=>h) (by
   rintro i v ⟨kn,ab,rfl,hi,hol⟩;by_cases hlt:i<r.1.length
   ·left;have hk:=hrr r.1[i] (getElem_mem hlt);obtain⟨k,hk2⟩:=Int.eq_ofNat_of_zero_le hk.1;have hkd:k<p.defs.length:=(by omega);have hko:k<ab.length:=(by omega);have hbw:=hp.defs.body (getElem_mem hkd);obtain⟨b,hb1,hb2⟩:=TA (n:=n) (by omega) hn2 hbw;simp only[gP,show decide ((i:Int)<(r.1.length:Int))=true from by simp;omega,aj,bL hlt,bM hlt,ah,hk2,bB hkd,hb1,Int.toNat_natCast,bL hkd,bM hko,aX i,show(((0:Nat):Int)+(k:Int)).toNat=k by omega];have step2:∀(OK:List (ByteArray×Int)) (out':List Int),out'.length=p.defs.length->∃OF,((bif (!((qz Gb.jt p.defs[k].name w2).getD false))then(bo out' ((0:Nat)+(k:Int):Int)).bind λx5=>some ((M6 Gb.jt p.defs[k].name x5 OK),out')else some (OK,out')):Option ((List (ByteArray×Int))×(List Int)))=some (OF,out'):=by
     intro OK out' ho;cases (!((qz Gb.jt p.defs[k].name w2).getD false))with
     |true=>simp only[aj,bM (show k<out'.length by omega),ah];exact⟨_,rfl⟩
     |false=>exact⟨_,rfl⟩
    cases b with
    |true=>
     obtain⟨v,hv⟩:=Yd (n:=n) (a0:=p.defs) (a2:=p.zones) (a3:=p.rules) (a4:=p.caps) (a5:=p.views) (a6:=p.nr) (a7:=p.hours) (by omega) hp.tabs hz n _ kn (hb2 rfl) hbw;simp only[gq,hv,aj,ah];obtain⟨Z1,h2⟩:=step2 kn (ab.set k v) (by simp[hol]);rw[h2];exact⟨_,rfl,_,_,rfl,hlt,by simp[hol]⟩
    |false=>
     simp only[ak,ah];have⟨Z1,h2⟩:=step2 kn ab hol;rw[h2];exact⟨_,rfl,_,_,rfl,hlt,hol⟩
   ·right;simp only[gP,show decide ((i:Int)<(r.1.length:Int))=false from by simp;omega,ak];exact⟨_,rfl,_,_,rfl,hol⟩) n 0 ((0:Int),w1,List.replicate p.defs.length 0) ⟨_,_,rfl,Nat.zero_le _,by simp⟩ (by omega)
  simp only[ak,Int.toNat_natCast,h1,ah,h2,aG,aj];exact⟨_,_,rfl,h2⟩
theorem all_eq{d:bf}(h:ZC d)(hn:1001<=n):xA n d=some (kS d):=by simp only[xA,Ya h hn,ah,dn,aG,aj]
theorem ZH(a b:ByteArray)(h:a.size<=4000000):∃r,strings_Contains a b=some r:=by
 simp only[strings_Contains,Nat.ble_eq_true_of_le h,aj];exact⟨_,rfl⟩
theorem TB(c:Int):∃b,GU c=some b:=fe ⟨_,rfl⟩ ⟨_,rfl⟩
theorem agN(c:Int):∃b,Rj c=some b:=fe ⟨_,rfl⟩ ⟨_,rfl⟩
theorem aji(c:Int):∃b,Cz c=some b:=tN (TB c) λ_=>fe ⟨_,rfl⟩ (tN (agN c) λ_=>⟨_,rfl⟩)
theorem aeI{s:ByteArray}{i:Nat}(h:i<s.size):∃c,JV s (i:Int)=some c:=by
 simp only[JV,show decide (0<=(i:Int))=true from by simp,aj,Int.toNat_natCast];rw[getElem?_pos s i h];exact⟨_,rfl⟩
theorem ajj{s:ByteArray}{φ:(Int×Unit)->Option Bool}(h:∀c,∃b,φ (c,())=some b)(hs:s.size<=4000000)(hn:4000002<=n):∃r,Pb n s φ=some r:=by
 obtain⟨o,h1,_⟩:=eX (step:=Cy s φ) (λ i (v:Int)=>v=(i:Int)/\i<=s.size) (λ _=>True) s.size (λ k v h=>h.2) (by
  rintro i v ⟨rfl,hi⟩;by_cases hlt:i<s.size
  ·have⟨c,hc⟩:=aeI hlt;have⟨b,hb⟩:=h c;simp only[Cy,show decide ((i:Int)<(s.size:Int))=true from by simp;omega,aj,hc,ah,hb,aX i];cases b with
   |true=>exact .inl ⟨_,rfl,rfl,hlt⟩
   |false=>exact .inr ⟨_,rfl,trivial⟩
  ·simp only[Cy,show decide ((i:Int)<(s.size:Int))=false from by simp;omega,ak,ah];exact .inr ⟨_,rfl,trivial⟩) n 0 0 ⟨rfl,Nat.zero_le _⟩ (by omega)
 simp only[Pb,h1,ah];exact⟨_,rfl⟩
theorem ajk(s:ByteArray)(hn:4000002<=n):∃b,Pd n s=some b/\(b=true->s.size<=20):=by
 simp only[Pd];cases h0:(ByteArray.toList s==ByteArray.toList (⟨#[]⟩))with
 |true=>exact⟨false,by simp only[aj,ah],λh=>(by cases h)⟩
 |false=>
  have hs:0<s.size:=by
   refine Nat.pos_of_ne_zero λh=>?_;have:s=⟨#[]⟩:=by
    obtain⟨⟨l⟩⟩:=s;have:l.length=0:=h;rw[List.eq_nil_of_length_eq_zero this]
   rw[this]at h0;simp at h0
  have⟨c,hc⟩:=aeI hs;have hc':JV s 0=some c:=hc;have⟨b,hb⟩:=TB c;simp only[ak,hc',ah,hb];cases b with
  |false=>exact⟨false,by simp only[Bool.not_false,aj,ah],λh=>(by cases h)⟩
  |true=>
   simp only[Bool.not_true,ak,ah];by_cases h20:(s.size:Int)>20
   ·exact⟨false,by simp only[h20,decide_true,aj],λh=>(by cases h)⟩
   ·obtain⟨r,hr⟩:=ajj (n:=n) (s:=s) (φ:=λ(y1:Int×Unit)=>Cz y1.1) (λ c=>aji c) (by omega) hn;simp only[h20,decide_false,ak,hr,ah];exact⟨_,rfl,λ_=>by omega⟩
theorem ajl(s:ByteArray)(hn:4000002<=n):∃b,xB n s=some b:=by
 have⟨b,hb,h20⟩:=ajk (n:=n) s hn;simp only[xB,hb,ah];cases b with
 |false=>exact⟨_,rfl⟩
 |true=>
  have hs:=h20 rfl;have hmx:maxLen=9223372036854775807:=rfl;have c1:Wq (⟨#[32]⟩) s=true:=by
   have:(⟨#[32]⟩:ByteArray).size=1:=rfl;simp only[Wq,aT];omega
  have c2:Wq ((⟨#[32]⟩)++s) (⟨#[32]⟩)=true:=by
   have h1:(⟨#[32]⟩:ByteArray).size=1:=rfl;simp only[Wq,aT,ByteArray.size_append];omega
  simp only[aj,c1,c2];refine tN (ZH _ _ (Nat.le_of_ble_eq_true ?_)) λ_=>⟨_,rfl⟩
  kernel_rfl
theorem ajm(a b:By):∃r,ze a b=some r:=by
 unfold ze;rw[AR];exact fe (fe ⟨_,rfl⟩ ⟨_,rfl⟩) ⟨_,rfl⟩
theorem fV{l:List aF}{φ:(aF×Unit)->Option Bool}(p:aF->Bool)(h:∀x∈l,φ (x,())=some (p x))(hl:l.length<1099511627776)(hn:l.length<n):fP n l φ=some (l.any p):=by
 have:qJ n l φ=some (Dr p l):=iF p h hl hn;simp only[fP,this,ah,y9]
theorem zI{l:List aF}{φ:(aF×Unit)->Option Bool}(h:∀x∈l,∃b,φ (x,())=some b)(hl:l.length<1099511627776)(hn:l.length<n):fP n l φ=some (l.any λx=>(φ (x,())).getD false):=
 fV _ (λ x hx=>by have⟨b,hb⟩:=h x hx;rw[hb];rfl) hl hn
def HH(d:bf):Prop:=∀p∈d.phases,p.gives.length<=1000
theorem agO{l:List aF}(hl:l.length<=1000000)(hn:4000002<=n):iter (kY n l) n (0:Int)=some (.inr false)\/(iter (kY n l) n (0:Int)=some (.inl ())/\∀v∈l,okV v=true):=by
 obtain⟨o,h1,h2⟩:=eX (step:=kY n l) (λ i (v:Int)=>v=(i:Int)/\i<=l.length/\∀x∈l.take i,okV x=true) (λ o=>o= .inr false\/(o= .inl ()/\∀v∈l,okV v=true)) l.length (λ k v h=>h.2.1) (by
  rintro i v ⟨rfl,hi,hall⟩;by_cases hlt:i<l.length
  ·simp only[kY,show decide ((i:Int)<(l.length:Int))=true from by simp;omega,aj,bL hlt,bM hlt,ah,uS,aX i];cases hv:okV l[i]with
   |false=>exact .inr ⟨_,by simp only[Bool.not_false,aj,ah];rfl,.inl rfl⟩
   |true=>
    have hsub:(sub l 0 i).length=i:=(by simp[sub];omega);have hc:=zI (n:=n) (l:=sub l 0 i) (φ:=λ(y1:aF×Unit)=>rR y1.1 l[i]) (λ x _=>tN (ajm _ _) λ_=>⟨_,rfl⟩) (by omega) (by omega);simp only[Bool.not_true,ak,zT (show (0:Int)<=0 by omega) (show (0:Int)<=(i:Int)by omega) (show (i:Int)<=(l.length:Int)by omega),aj,Int.toNat_natCast,Ra hsub,hc,ah];cases ((sub l 0 i).any λx=>((λ (y1:aF×Unit)=>rR y1.1 l[i]) (x,())).getD false)with
    |true=>exact .inr ⟨_,rfl,.inl rfl⟩
    |false=>
     refine .inl ⟨_,rfl,rfl,hlt,λx hx=>?_⟩;rw[List.take_add_one,dG hlt,aV]at hx;rcases hx with hx |hx
     ·exact hall x hx
     ·simp at hx;subst hx;exact hv
  ·refine .inr ⟨.inl (),?_,.inr ⟨rfl,λv hv=>hall v (by rw[take_of_length_le (by omega)];exact hv)⟩⟩;simp only[kY,show decide ((i:Int)<(l.length:Int))=false from by simp;omega,ak]) n 0 0 ⟨rfl,Nat.zero_le _,by simp⟩ (by omega)
 rcases h2 with rfl |⟨rfl,h2⟩
 ·exact .inl h1
 ·exact .inr ⟨h1,h2⟩
theorem agP{p:iG}(hp:p.gives.length<=1000)(hn:4000002<=n):iter (kZ n p) n ((0:Int),([]:List (ByteArray×Bool)))=some (.inl ())\/iter (kZ n p) n ((0:Int),([]:List (ByteArray×Bool)))=some (.inr (.inr (.inr false))):=by
 obtain⟨o,h1,h2⟩:=eX (step:=kZ n p) (λ i (v:Int×List (ByteArray×Bool))=>∃m,v=((i:Int),m)/\i<=p.gives.length) (λ o=>o= .inl ()\/o= .inr (.inr (.inr false))) p.gives.length (λ k v ⟨_,_,h⟩=>h) (by
  rintro i v ⟨m,rfl,hi⟩;by_cases hlt:i<p.gives.length
  ·have key:∃b,((bif ((qz Gb.jt p.gives[i].name m).getD false)then some true else(xB n p.gives[i].name).bind λr4=>(bif (!r4)then some true else(bif (decide (p.gives[i].n<(0:Int)))then some true else some (decide (p.gives[i].n>(1073741824:Int)))))):Option (Bool))=some b:=
    fe ⟨_,rfl⟩ (tN (ajl _ hn) λ_=>fe ⟨_,rfl⟩ (fe ⟨_,rfl⟩ ⟨_,rfl⟩))
   obtain⟨b,hb⟩:=key;simp only[kZ,show decide ((i:Int)<(p.gives.length:Int))=true from by simp;omega,aj,bB hlt,ah,hb,aX i];cases b with
   |true=>exact .inr ⟨_,rfl,.inr rfl⟩
   |false=>exact .inl ⟨_,rfl,_,rfl,hlt⟩
  ·simp only[kZ,show decide ((i:Int)<(p.gives.length:Int))=false from by simp;omega,ak];exact .inr ⟨_,rfl,.inl rfl⟩) n 0 _ ⟨[],rfl,Nat.zero_le _⟩ (by omega)
 rcases h2 with rfl |rfl
 ·exact .inl h1
 ·exact .inr h1
theorem agQ{d:bf}(hd:ZC d)(hg:HH d)(hn:4000002<=n):iter (lg n d) n (0:Int)=some (.inl ())\/iter (lg n d) n (0:Int)=some (.inr false):=by
 have hd1:=hd.1;obtain⟨o,h1,h2⟩:=eX (step:=lg n d) (λ i (v:Int)=>v=(i:Int)/\i<=d.phases.length) (λ o=>o= .inl ()\/o= .inr false) d.phases.length (λ k v h=>h.2) (by
  rintro i v ⟨rfl,hi⟩;by_cases hlt:i<d.phases.length
  ·simp only[lg,show decide ((i:Int)<(d.phases.length:Int))=true from by simp;omega,aj,bB hlt,ah,aX i];rcases agP (n:=n) (hg _ (getElem_mem hlt)) hn with h |h
   ·simp only[h,dP];cases decide ((d.phases[i].gives.length:Int)>30)with
    |true=>exact .inr ⟨_,rfl,.inr rfl⟩
    |false=>exact .inl ⟨_,rfl,rfl,hlt⟩
   ·simp only[h,fF];exact .inr ⟨_,rfl,.inr rfl⟩
  ·simp only[lg,show decide ((i:Int)<(d.phases.length:Int))=false from by simp;omega,ak];exact .inr ⟨_,rfl,.inl rfl⟩) n 0 0 ⟨rfl,Nat.zero_le _⟩ (by omega)
 rcases h2 with rfl |rfl
 ·exact .inl h1
 ·exact .inr h1
theorem LP{d:bf}(hd:ZC d):(kS d).length<=1000000:=by
 have:=PV hd.2;have:=hd.1;unfold kS;omega
theorem amg{d:bf}(hd:ZC d)(hg:HH d)(hn:4000002<=n):∃b,zf n d=some b/\(b=true->∀v∈kS d,okV v=true):=by
 simp only[zf,all_eq hd (show 1001<=n by omega),ah];have key:∀c1 c2 c3 c4 c5 c6:Bool,∃b,((bif c1 then some true else(bif c2 then some true else(bif c3 then some true else(bif c4 then some true else(bif c5 then some true else some c6))))):Option Bool)=some b:=by
  intro c1 c2 c3 c4 c5 c6;exact fe ⟨_,rfl⟩ (fe ⟨_,rfl⟩ (fe ⟨_,rfl⟩ (fe ⟨_,rfl⟩ (fe ⟨_,rfl⟩ ⟨_,rfl⟩))))
 have⟨b,hb⟩:=key (decide (d.lot<0)) (decide (d.lot>1073741824)) (decide ((d.phases.length:Int)<1)) (decide ((d.phases.length:Int)>8)) (decide (((kS d).length:Int)<1)) (decide (((kS d).length:Int)>40));rw[hb];cases b with
 |true=>exact⟨false,rfl,λh=>(by cases h)⟩
 |false=>
  simp only[ah,ak];rcases agO (n:=n) (LP hd) hn with h |⟨h,hall⟩
  ·simp only[h,fF];exact⟨false,rfl,λh=>(by cases h)⟩
  ·simp only[h,dP];rcases agQ (n:=n) hd hg hn with h2 |h2
   ·simp only[h2,dP];exact⟨true,rfl,λ_=>hall⟩
   ·simp only[h2,fF];exact⟨false,rfl,λh=>(by cases h)⟩
theorem H6{l:List ic}{φ:(ic×Unit)->Option Bool}(p:ic->Bool)(h:∀x∈l,φ (x,())=some (p x))(hl:l.length<1099511627776)(hn:l.length<n):mV n l φ=some (l.any p):=by
 have:vP n l φ=some (Dr p l):=iF p h hl hn;simp only[mV,this,ah,y9]
theorem alc{lot:gY}{l:List aF}(ha:lot.area.length<=900)(hv:∀v∈l,okV v=true)(hl:l.length<=1000000)(hn:4000002<=n):iter (j3 n lot l) n (0:Int)=some (.inl ())\/iter (j3 n lot l) n (0:Int)=some (.inr false):=by
 obtain⟨o,h1,h2⟩:=eX (step:=j3 n lot l) (λ i (v:Int)=>v=(i:Int)/\i<=l.length) (λ o=>o= .inl ()\/o= .inr false) l.length (λ k v h=>h.2) (by
  rintro i v ⟨rfl,hi⟩;by_cases hlt:i<l.length
  ·have hb:=X9 (hv _ (getElem_mem hlt));have hcl:=acn (keep:=λp q=>p&&q) lot.area [iC l[i]];have hc:=ack (n:=n) (a:=lot.area) (b:=[iC l[i]]) (by omega) (by simp) (by omega) (by simp;omega) (by omega);have hA:=XU (n:=n) (a:=(uR (λ p q=>p&&q) lot.area [iC l[i]]).1) (by omega) (by omega);have hr:=FD hb;simp only[iC]at hc hA hr;simp only[j3,show decide ((i:Int)<(l.length:Int))=true from by simp;omega,aj,bL hlt,bM hlt,ah,show ∀r:ay,sub [r] 0 1=[r]from λ_=>rfl,length_singleton,aG,hc,hA,hr,aX i];have key:∀c x:Bool,∃b,((bif c then some true else some x):Option Bool)=some b:=λc x=>fe ⟨_,rfl⟩ ⟨_,rfl⟩;obtain⟨b,hb2⟩:=key ((uR (λ p q=>p&&q) lot.area [⟨l[i].bx,l[i].b9,l[i].bu,l[i].b8⟩]).2 !=0) (decide ((bif cJ (uR (λ p q=>p&&q) lot.area [⟨l[i].bx,l[i].b9,l[i].bu,l[i].b8⟩]).1 then Nv (uR (λ p q=>p&&q) lot.area [⟨l[i].bx,l[i].b9,l[i].bu,l[i].b8⟩]).1 else 0)<HT ⟨l[i].bx,l[i].b9,l[i].bu,l[i].b8⟩));rw[hb2];cases b with
   |true=>exact .inr ⟨_,rfl,.inr rfl⟩
   |false=>exact .inl ⟨_,rfl,rfl,hlt⟩
  ·simp only[j3,show decide ((i:Int)<(l.length:Int))=false from by simp;omega,ak];exact .inr ⟨_,rfl,.inl rfl⟩) n 0 0 ⟨rfl,Nat.zero_le _⟩ (by omega)
 rcases h2 with rfl |rfl
 ·exact .inl h1
 ·exact .inr h1
theorem ald{p:cK}{ph:iG}(hc:p.caps.length<=1000)(hp:ph.gives.length<=1000)(hn:4000002<=n):iter (j4 n p ph) n (0:Int)=some (.inl ())\/iter (j4 n p ph) n (0:Int)=some (.inr (.inr (.inr false))):=by
 obtain⟨o,h1,h2⟩:=eX (step:=j4 n p ph) (λ i (v:Int)=>v=(i:Int)/\i<=ph.gives.length) (λ o=>o= .inl ()\/o= .inr (.inr (.inr false))) ph.gives.length (λ k v h=>h.2) (by
  rintro i v ⟨rfl,hi⟩;by_cases hlt:i<ph.gives.length
  ·simp only[j4,show decide ((i:Int)<(ph.gives.length:Int))=true from by simp;omega,aj,bB hlt,ah,H6 (n:=n) (l:=p.caps) (φ:=λ(y1:ic×Unit)=>vO y1.1 ph.gives[i]) (λ c=>ByteArray.toList c.name==ByteArray.toList ph.gives[i].name) (λ _ _=>rfl) (by omega) (by omega),aX i];cases (p.caps.any λc=>ByteArray.toList c.name==ByteArray.toList ph.gives[i].name)with
   |false=>exact .inr ⟨_,rfl,.inr rfl⟩
   |true=>exact .inl ⟨_,rfl,rfl,hlt⟩
  ·simp only[j4,show decide ((i:Int)<(ph.gives.length:Int))=false from by simp;omega,ak];exact .inr ⟨_,rfl,.inl rfl⟩) n 0 0 ⟨rfl,Nat.zero_le _⟩ (by omega)
 rcases h2 with rfl |rfl
 ·exact .inl h1
 ·exact .inr h1
theorem ale{p:cK}{d:bf}(hc:p.caps.length<=1000)(hd:ZC d)(hg:HH d)(hn:4000002<=n):iter (j5 n p d) n (0:Int)=some (.inl ())\/iter (j5 n p d) n (0:Int)=some (.inr false):=by
 have hd1:=hd.1;obtain⟨o,h1,h2⟩:=eX (step:=j5 n p d) (λ i (v:Int)=>v=(i:Int)/\i<=d.phases.length) (λ o=>o= .inl ()\/o= .inr false) d.phases.length (λ k v h=>h.2) (by
  rintro i v ⟨rfl,hi⟩;by_cases hlt:i<d.phases.length
  ·simp only[j5,show decide ((i:Int)<(d.phases.length:Int))=true from by simp;omega,aj,bB hlt,ah,aX i];rcases ald (n:=n) hc (hg _ (getElem_mem hlt)) hn with h |h
   ·simp only[h,dP];exact .inl ⟨_,rfl,rfl,hlt⟩
   ·simp only[h,fF];exact .inr ⟨_,rfl,.inr rfl⟩
  ·simp only[j5,show decide ((i:Int)<(d.phases.length:Int))=false from by simp;omega,ak];exact .inr ⟨_,rfl,.inl rfl⟩) n 0 0 ⟨rfl,Nat.zero_le _⟩ (by omega)
 rcases h2 with rfl |rfl
 ·exact .inl h1
 ·exact .inr h1
theorem ajn{p:cK}{lot:gY}{d:bf}(hc:p.caps.length<=1000)(ha:lot.area.length<=900)(hd:ZC d)(hg:HH d)(hn:4000002<=n):∃b,oM n p lot d=some b/\(b=true->∀v∈kS d,okV v=true):=by
 have⟨b,hb,hv⟩:=amg (n:=n) hd hg hn;simp only[oM,hb,ah];cases b with
 |false=>exact⟨false,by simp only[Bool.not_false,aj,ah],λh=>(by cases h)⟩
 |true=>
  simp only[Bool.not_true,ak,l9 (n:=n) (l:=lot.area) (by omega) (by omega) (by omega),ah];cases (lot.id !=d.lot)with
  |true=>exact⟨false,by simp only[aj,ah],λh=>(by cases h)⟩
  |false=>
   cases cJ lot.area with
   |false=>exact⟨false,by simp only[Bool.not_false,aj,ak,ah],λh=>(by cases h)⟩
   |true=>
    simp only[Bool.not_true,ak,ah,all_eq hd (show 1001<=n by omega)];rcases alc (n:=n) ha (hv rfl) (LP hd) hn with h |h
    ·simp only[h,dP];rcases ale (n:=n) hc hd hg hn with h2 |h2
     ·simp only[h2,dP];exact⟨true,rfl,λ_=>hv rfl⟩
     ·simp only[h2,fF];exact⟨false,rfl,λh=>(by cases h)⟩
    ·simp only[h,fF];exact⟨false,rfl,λh=>(by cases h)⟩
theorem amh{p:cK}{ms:List bP}{zs:List ByteArray}{e:bK}(hp:T5 p)(hm:ms.length<=4000000)(hz:zs.length<=4000000)(he:(toE e).wt<=4000000)(hn:5000003<=n)(hn2:n<=9223372036854775000):∃v,CK n p ms zs e=some v:=by
 obtain⟨b,hb,hv⟩:=TA (n:=n) (by omega) hn2 he;simp only[CK,AU,hb,ah];cases b with
 |false=>exact⟨_,rfl⟩
 |true=>
  have⟨kn,ab,h1,_⟩:=Ny (n:=n) hp hm hz hn hn2;obtain⟨v,h2⟩:=Yd (n:=n) (a0:=p.defs) (a2:=p.zones) (a3:=p.rules) (a4:=p.caps) (a5:=p.views) (a6:=p.nr) (a7:=p.hours) (by omega) hp.tabs hz n e kn (hv rfl) he;simp only[Bool.not_true,ak,h1,ah,gq,h2];exact⟨_,rfl⟩
section
variable {n:Nat} {d:List fJ} {ts:List bW} {z:List dW} {r r':List aQ} {c:List ic} {v:List fG} {su:List bU} {h:Int} {zs:List ByteArray}
theorem KQ:∀(m:Nat)(e:bK)(kn:List (ByteArray×Int)),bR n m d ts z r c v su h zs e kn=bR n m d ts z r' c v su h zs e kn
 | 0,_,_=>rfl
 |m+1,e,kn=>by
  have ih:=KQ m;have hs:fq n (bR n m) d ts z r c v su h zs e=fq n (bR n m) d ts z r' c v su h zs e:=by
   funext ⟨v1,v2,v3⟩;simp only[fq,ih]
  have hr:∀w,jq n d ts z r c v su h zs e w=jq n d ts z r' c v su h zs e w:=λ_=>rfl;show fD n (bR n m) d ts z r c v su h zs e kn=fD n (bR n m) d ts z r' c v su h zs e kn;simp only[fD,hs,AU,hr]
theorem agR{ms:List bP}:(mQ n (cK.mk d ts z r c v su h) ms zs).map (λ q=>q.2.2.2.2.2.2.2.2.2)=(mQ n (cK.mk d ts z r' c v su h) ms zs).map (λ q=>q.2.2.2.2.2.2.2.2.2):=by
 have hs:∀w2 r1,gP n (cK.mk d ts z r c v su h) zs w2 r1=gP n (cK.mk d ts z r' c v su h) zs w2 r1:=by
  intro w2 r1;funext ⟨v6,v7,v8⟩;have hv:∀e kn,gq n d ts z r c v su h zs e kn=gq n d ts z r' c v su h zs e kn:=λe kn=>KQ n e kn;simp only[gP,hv]
 have ho:nX n (cK.mk d ts z r c v su h)=nX n (cK.mk d ts z r' c v su h):=rfl;simp only[mQ,hs,ho];cases iter (kg n ms) n ((0:Int),([]:(List (ByteArray×Int))),([]:(List (ByteArray×Bool))))with
 |none=>rfl
 |some w=>
  obtain⟨w1,w2⟩:=w;simp only[ah];cases (decide ((d.length:Int)<=(d.length:Int))&&(decide (0<=(d.length:Int))&&Bu (d.length:Int) 8))with
  |false=>rfl
  |true=>
   simp only[aj];cases nX n (cK.mk d ts z r' c v su h)with
   |none=>rfl
   |some r1=>
    simp only[ah];cases (r1.2.2 !=(0:Int))with
    |true=>
     simp only[aj];cases bk (((d.length:Int):Int).toNat) (List.replicate ((d.length:Int):Int).toNat (0:Int)).length<;>rfl
    |false=>
     simp only[ak];cases iter (gP n (cK.mk d ts z r' c v su h) zs w2 r1) n ((0:Int),w1,(List.replicate ((d.length:Int):Int).toNat (0:Int)))with
     |none=>rfl
     |some q=>
      obtain⟨w3,w4⟩:=q;simp only[ah];cases bk (((d.length:Int):Int).toNat) w4.length<;>rfl
theorem agS{ms:List bP}{e:bK}(hp:gE d)(ht:LS ts)(hm:ms.length<=4000000)(hz:zs.length<=4000000)(hn:5000003<=n)(hn2:n<=9223372036854775000):CK n (cK.mk d ts z r c v su h) ms zs e=CK n (cK.mk d ts z r' c v su h) ms zs e:=by
 have⟨kn,ab,h1,_⟩:=Ny (n:=n) (p:=cK.mk d ts z r c v su h) ⟨hp,ht⟩ hm hz hn hn2;have⟨Z1,out2,h2,_⟩:=Ny (n:=n) (p:=cK.mk d ts z r' c v su h) ⟨hp,ht⟩ hm hz hn hn2;have h3:=agR (n:=n) (d:=d) (ts:=ts) (z:=z) (r:=r) (r':=r') (c:=c) (v:=v) (su:=su) (h:=h) (zs:=zs) (ms:=ms);rw[h1,h2]at h3;simp only[Option.map_some,aA,Prod.mk.injEq]at h3;obtain⟨rfl,rfl⟩:=h3;simp only[CK,h1,h2,ah,gq,KQ (r:=r) (r':=r')]
end
theorem Uj{b:ay}{l:List dQ}{s:List fH}(ha:∀c∈s,c.area.length<=200)(hs:s.length<=1000)(hl:l.length<=1000)(hn:2000<=n):
 zA n b l s=some (Hy b l&&(Hz s&&!(s.any λc=>decide (IN b l c.area<c.z1)))):=by
 unfold zA;rw[X6 b l hl hn];simp only[ah];cases hv:Hy b l with
 |false=>simp only[Bool.not_false,aj,ah,Bool.false_and]
 |true=>
  have⟨v1,v2⟩:=(aev b l).1 hv;simp only[Bool.not_true,ak,Ty (n:=n) (s:=s) (λ x hx=>by have:=ha x hx;omega) (by omega),ah,Bool.true_and];cases hr:Hz s with
  |false=>simp only[Bool.not_false,aj,Bool.false_and]
  |true=>
   have⟨_,sok,_⟩:=(X8 s).1 hr;simp only[Bool.not_true,ak,Bool.true_and];rw[tL (λ c=>decide (IN b l c.area<c.z1)) (λ c hc=>by
    have:=ha c hc;show rY n c b l=_;unfold rY;rw[Uh v1 v2 (uP (sok c hc).rt).1 (by omega) hl hn];rfl) (by omega) (by omega)]
   simp only[ah]
def vQ(v:aF):List fH:=[⟨v.er,v.d5,[iC v]⟩]
theorem aeJ(v:aF):zw v=some (vQ v):=rfl
def Vo(b:ay)(p:dQ)(v:aF):Bool:=Hy b [p]&&(Hz (vQ v)&&!((vQ v).any λc=>decide (IN b [p] c.area<c.z1)))
def RG(r:aQ):dQ:=dQ.mk r.ie r.ii r.i7 r.i8
theorem acy(v:aF)(b:ay)(r:aQ)(hn:2000<=n):jQ n v b r=some (!Vo b (RG r) v):=by
 have h:=Uj (n:=n) (b:=b) (l:=[RG r]) (s:=vQ v) (by simp[vQ]) (by simp[vQ]) (by simp) hn;unfold RG at h;have hl:(vQ v).length=1:=rfl;simp only[jQ,aeJ,ah,dn,aG,aj,show ∀x:dQ,sub [x] 0 1=[x]from λ_=>rfl,length_singleton,h,Vo,RG];rfl
def LR(r:aQ)(v:aF):Bool:=bits .and .i64 r.uses (i64.wrap (1*2 ^ (v.use:Int).toNat))==(0:Int)
theorem acz{v:aF}(h:okV v=true)(r:aQ):jR v r=some (LR r v):=by
 have hu:0<=v.use/\v.use<6:=by
  simp only[okV,aJ,aT]at h;omega
 have hb:i64.bits=64:=rfl;simp only[jR,LR,show(decide (0<=v.use)&&decide (v.use<=i64.bits))=true from by simp[hb];omega,aj]
def Mb(lot:Int)(r:aQ)(v:aF)(b:dw):Bool:=(dO b (mI.mk [] [] [] [] [] [] [] 0 [] [] [] [] [] 0 0 [] [] lot [] [] []) v r).getD false
theorem aeK{b:dw}{s:mI}{v:aF}{r:aQ}:dO b s v r=some (Mb s.dy r v b):=by
 have key:∃x,dO b (mI.mk [] [] [] [] [] [] [] 0 [] [] [] [] [] 0 0 [] [] s.dy [] [] []) v r=some x:=by
  simp only[dO,jA,akW,ah];refine tN (fe ⟨_,rfl⟩ (fe ⟨_,rfl⟩ (fe ⟨_,rfl⟩ ⟨_,rfl⟩))) λ_=>fe ⟨_,rfl⟩ (tN (fe (fe ⟨_,rfl⟩ (fe ⟨_,rfl⟩ ⟨_,rfl⟩)) (fe ⟨_,rfl⟩ ⟨_,rfl⟩)) λ_=>fe ⟨_,rfl⟩ ⟨_,rfl⟩)
 have e:dO b s v r=dO b (mI.mk [] [] [] [] [] [] [] 0 [] [] [] [] [] 0 0 [] [] s.dy [] [] []) v r:=rfl;obtain⟨x,hx⟩:=key;rw[e,Mb,hx];rfl
theorem Bz{l:List dw}{φ:(dw×Unit)->Option Bool}(p:dw->Bool)(h:∀x∈l,φ (x,())=some (p x))(hl:l.length<1099511627776)(hn:l.length<n):jS n l φ=some (l.any p):=by
 have:qO n l φ=some (Dr p l):=iF p h hl hn;simp only[jS,this,ah,y9]
def L7(built:List dw)(lot:Int)(r:aQ)(v:aF):Bool:=built.any (Mb lot r v)
theorem acC{s:mI}{v:aF}{r:aQ}(hb:s.fS.length<=1000)(hn:2000<=n):jT n v s r=some (L7 s.fS s.dy r v):=by simp only[jT,sN,Bz (n:=n) (l:=s.fS) (φ:=λ(y1:dw×Unit)=>dO y1.1 s v r) (Mb s.dy r v) (λ x _=>aeK) (by omega) (by omega),ah,L7]
def js(r:aQ):bK:=bK.mk r.ky r.ml r.mj r.i6 r.fW
def lR(t:fE):cK:=cK.mk t.ct t.cj t.cd [] t.cD t.cw t.cQ t.cx
structure xi(t:fE):Prop where
 lots:∀l∈t.land,BW l
 land:t.land.length<=1000
 Sp:t.co.length<=900/\∀e∈t.co,e.area.length<=900
 built:t.built.length<=1000
 zones:t.cd.length<=100
 caps:t.cD.length<=1000
 rules:t.az.length<=100
 rule:∀r∈t.az,Nw r/\(toE (js r)).wt<=4000000
 plan:T5 (lR t)
def BT(d:bf):Prop:=ZC d/\HH d
def vq(n:Nat):Prop:=5000003<=n/\n<=9223372036854775000
def vR(t:fE)(lot:gY):List ByteArray:=CI t.cd lot.area
def q7(t:fE)(lot:gY)(d:bf):mI:=mI.mk t.ct t.cj t.cd t.az t.cD t.cw t.cQ t.cx t.land t.co t.windows t.built t.base lot.id lot.owner lot.area lot.from_ d.lot d.phases (kS d) (vR t lot)
theorem alf{d:bf}(h:ZC d)(hn:1001<=n):uD n d=some (kS d):=by
 obtain⟨h1,h2⟩:=h;unfold uD;have key:=LM (step:=oZ d) (λ i=>((i:Int),(d.phases.take i).flatMap (·.cm))) (s:=((0:Int),([]:List aF))) d.phases.length (kS d) rfl (λ i hi=>by
  have hl:=PV (l:=d.phases.take i) λp hp=>h2 p (List.mem_of_mem_take hp);rw[length_take]at hl;have hv:=h2 _ (getElem_mem hi);generalize hL:(d.phases.take i).flatMap (·.cm)=L at hl;have hap:cu L.length L.length d.phases[i].cm.length d.phases[i].cm.length 72=true:=eT (by omega) (by simp only[maxLen];omega);simp only[oZ,dR hi,aj,bB hi,ah,hap,fI,aG,aX i];rw[jX hi,List.flatMap_append,hL];simp only[List.flatMap_cons,List.flatMap_nil,append_nil]) (by simp only[oZ,fU,ak,aG,aj,List.take_length,kS]) n (by omega)
 have hz:bk 0 ([]:List aF).length=true:=rfl;simp only[hz,aj,key,ah,dn,aG]
def Tr(n:Nat)(t:fE)(d:bf):Bool:=(oM n (lR t) (mY t.land d.lot).1 d).getD false
def BA(n:Nat)(t:fE)(d:bf):Int:=bif(mY t.land d.lot).2 then(bif Tr n t d then 0 else 1)else 4
def an0:mI:=mI.mk ([]) ([]) ([]) ([]) ([]) ([]) ([]) 0 ([]) ([]) ([]) ([]) ([]) 0 0 ([]) ([]) 0 ([]) ([]) ([])
theorem look_eq{t:fE}{d:bf}(ht:xi t)(hd:BT d)(hn:vq n):xK n t d=some (bif BA n t d==0 then q7 t (mY t.land d.lot).1 d else an0,BA n t d)/\(BA n t d=0->∀v∈kS d,okV v=true):=by
 obtain⟨hn1,hn2⟩:=hn;have hl:=ht.land;have e1:O9 n t.land d.lot=some (mY t.land d.lot):=ajd ht.lots (by omega) (by omega);have hw:=RB ht.lots d.lot;obtain⟨b,hb,hv⟩:=ajn (n:=n) (p:=lR t) (lot:=(mY t.land d.lot).1) (d:=d) ht.caps hw.1 hd.1 hd.2 (by omega);have e2:oM n (cK.mk t.ct t.cj t.cd t.az t.cD t.cw t.cQ t.cx) (mY t.land d.lot).1 d=some b:=hb;have e3:Fs n (cK.mk t.ct t.cj t.cd t.az t.cD t.cw t.cQ t.cx) (mY t.land d.lot).1.area=some (CI t.cd (mY t.land d.lot).1.area):=aco _ _ ht.zones hw.1 (by omega);have e4:Tr n t d=b:=by unfold Tr;rw[hb];rfl
 simp only[xK,e1,e2,e3,alf hd.1 (show 1001<=n by omega),ah,dn,aG,aj,BA,e4];cases (mY t.land d.lot).2 with
 |false=>exact⟨rfl,λh=>absurd (show (4:Int)=0 from h) (by decide)⟩
 |true=>
  cases b with
  |false=>exact⟨rfl,λh=>absurd (show (1:Int)=0 from h) (by decide)⟩
  |true=>exact⟨rfl,λ_=>hv rfl⟩
def amI(n:Nat)(t:fE)(lot:gY)(d:bf)(r:aQ):Bool:=((sJ n (lR t) lot d).bind λms=>CK n (lR t) ms (vR t lot) (js r)).getD 1==0
def ZI(n:Nat)(t:fE)(lot:gY)(d:bf)(r:aQ):Bool:=
 bif r.kind==0 then amI n t lot d r else bif r.kind==1 then(kS d).any (λ v=>!Vo (Vn lot.area).1 (RG r) v)else bif r.kind==2 then(kS d).any (LR r)else bif r.kind==3 then(kS d).any (L7 t.built d.lot r)else false
theorem Ye{t:fE}(ht:xi t)(lot:gY):(vR t lot).length<=100:=Nat.le_trans (ama _ _) ht.zones
theorem aa7{t:fE}{lot:gY}{d:bf}{r:aQ}(ht:xi t)(hl:lot.area.length<=900)(hd:BT d)(hv:∀v∈kS d,okV v=true)(hr:(toE (js r)).wt<=4000000)(hn:vq n):jC n (q7 t lot d) r=some (ZI n t lot d r):=by
 obtain⟨hn1,hn2⟩:=hn;have hvl:=LP hd.1;have hz:=Ye ht lot;simp only[jC,gQ,ZI];cases (r.kind==0)with
 |true=>
  have htb:=ht.plan.tabs;obtain⟨e1,e2,e3,e4,e5,e6,e7,e8,hOf⟩:=anY (n:=n) (p:=lR t) (lot:=lot) (d:=d) ⟨by have:=htb.1;omega,by have:=htb.1;omega,λx hx=>by have:=htb.2 x hx;omega⟩ hl hd.1 (by omega);have h1:=hOf t.az;have h2:=hOf [];have h2':sJ n (lR t) lot d=_:=h2;have h1':sJ n (cK.mk t.ct t.cj t.cd t.az t.cD t.cw t.cQ t.cx) (gY.mk lot.id lot.owner lot.area lot.from_) (bf.mk d.lot d.phases)=_:=h1;obtain⟨v,hE⟩:=amh (n:=n) (p:=lR t) (ms:=[⟨⟨#[97,114,101,97]⟩,e1⟩,⟨⟨#[99,111,118,101,114]⟩,e2⟩,⟨⟨#[102,108,111,111,114]⟩,e3⟩,⟨⟨#[102,108,111,111,114,115]⟩,e4⟩,⟨⟨#[104,101,105,103,104,116]⟩,e5⟩,⟨⟨#[104,111,109,101,115]⟩,e6⟩,⟨⟨#[114,117,110,111,102,102]⟩,e7⟩,⟨RF,PW (rH lot) (iW d)⟩,⟨⟨#[116,114,97,102,102,105,99]⟩,e8⟩]) (zs:=vR t lot) (e:=js r) ht.plan (by simp) (by omega) hr hn1 hn2;have hE':=(agS (n:=n) (d:=t.ct) (ts:=t.cj) (z:=t.cd) (r:=t.az) (r':=[]) (c:=t.cD) (v:=t.cw) (su:=t.cQ) (h:=t.cx) (zs:=vR t lot) (ms:=[⟨⟨#[97,114,101,97]⟩,e1⟩,⟨⟨#[99,111,118,101,114]⟩,e2⟩,⟨⟨#[102,108,111,111,114]⟩,e3⟩,⟨⟨#[102,108,111,111,114,115]⟩,e4⟩,⟨⟨#[104,101,105,103,104,116]⟩,e5⟩,⟨⟨#[104,111,109,101,115]⟩,e6⟩,⟨⟨#[114,117,110,111,102,102]⟩,e7⟩,⟨RF,PW (rH lot) (iW d)⟩,⟨⟨#[116,114,97,102,102,105,99]⟩,e8⟩]) (e:=js r) ht.plan.defs ht.plan.tabs (by simp) (by omega) hn1 hn2).trans hE;unfold js at hE';simp only[aj,q7,h1',ah,dn,aG,hE',amI,h2',hE,Option.getD_some]
 |false=>
  cases (r.kind==1)with
  |true=>
   simp only[aj,ak,show(q7 t lot d).ka=lot.area from rfl,show(q7 t lot d).cm=kS d from rfl,acr (n:=n) lot.area hl (by omega),ah];rw[fV (λ v=>!Vo (Vn lot.area).1 (RG r) v) (λ v _=>acy v _ r (by omega)) (by omega) (by omega)];rfl
  |false=>
   cases (r.kind==2)with
   |true=>
    simp only[aj,ak,show(q7 t lot d).cm=kS d from rfl];rw[fV (LR r) (λ v hm=>acz (hv v hm) r) (by omega) (by omega)];rfl
   |false=>
    cases (r.kind==3)with
    |true=>
     simp only[aj,ak,show(q7 t lot d).cm=kS d from rfl];rw[fV (L7 t.built d.lot r) (λ v _=>acC (s:=q7 t lot d) ht.built (by omega)) (by omega) (by omega)];rfl
    |false=>rfl
def addN(ab:List ByteArray)(name:ByteArray)(bad:Bool):List ByteArray:=bif bad&&!(ab.any (jt name))then ab++[name]else ab
theorem Yf(ab:List ByteArray)(name:ByteArray)(bad:Bool):(addN ab name bad).length<=ab.length+1:=by
 unfold addN;cases (bad&&!(ab.any (jt name)))<;>simp
theorem aeM{name:ByteArray}{bad:Bool}{ab:List ByteArray}(hl:ab.length<=1000)(hn:2000<=n):jD n name bad ab=some (addN ab name bad):=by
 have hmx:maxLen=9223372036854775807:=rfl;have hap:cu ab.length ab.length (sub [name] 0 1).length 1 16=true:=by simp[cu,sub];omega
 simp only[jD,dn,aG,aj,vD (n:=n) (l:=ab) (a:=name) (by omega) (by omega),ah,addN,hap,fI];cases bad with
 |false=>rfl
 |true=>cases (ab.any (jt name))<;>rfl
def LO(t:fE)(d:bf):Bool:=(kS d).any λv=>!HS t.co d.lot (vQ v)
def aa8:ByteArray:=⟨#[101,97,115,101,109,101,110,116]⟩
def KR(n:Nat)(t:fE)(lot:gY)(d:bf)(l:List aQ):List ByteArray:=l.foldl (λ ab r=>addN ab r.name (ZI n t lot d r)) []
theorem DJ(f:aQ->Bool):∀(l:List aQ)(ab:List ByteArray),(l.foldl (λ ab r=>addN ab r.name (f r)) ab).length<=ab.length+l.length
 |[],ab=>by simp
 |r::l,ab=>by
  have h1:=DJ f l (addN ab r.name (f r));have h2:=Yf ab r.name (f r);rw[foldl_cons,bE];omega
def applied(t:fE)(lot:gY)(day:Int):List aQ:=t.az.filter (nD (vR t lot) day)
def nE(t:fE)(d:bf):gY:=(mY t.land d.lot).1
def qi(n:Nat)(t:fE)(d:bf)(day:Int):List ByteArray:=bif BA n t d==0 then addN (KR n t (nE t d) d (applied t (nE t d) day)) aa8 (LO t d)else []
theorem FE{t:fE}{d:bf}(day:Int)(ht:xi t)(hd:BT d)(hn:vq n):jW n t d day=some (qi n t d day,BA n t d):=by
 obtain⟨hk,hv⟩:=look_eq (n:=n) ht hd hn;have hn1:=hn.1;have hvl:=LP hd.1;simp only[jW,hk,ah,qi];by_cases h0:BA n t d=0
 ·have zE:(BA n t d==0)=true:=by simp[h0]
  have RR:(BA n t d !=0)=false:=by simp[h0]
  have hw:=RB ht.lots d.lot;have hz:=Ye ht (nE t d);have hA:uG n (cK.mk t.ct t.cj t.cd t.az t.cD t.cw t.cQ t.cx) (vR t (nE t d)) day=some ((RA t.az (vR t (nE t d)) day).map λ(i:Nat)=>(i:Int)):=Uf _ _ _ (λ r hr=>(ht.rule r hr).1) ht.rules hz (by omega);have hal:(RA t.az (vR t (nE t d)) day).length<=100:=Nat.le_trans (length_filter_le _ _) (by rw[List.length_range];exact ht.rules);have hpick:(RA t.az (vR t (nE t d)) day).filterMap (λ i=>t.az[i]?)=applied t (nE t d) day:=Tz (nD (vR t (nE t d)) day) t.az;have hloop:∀A:List Nat,A.length<=100->(∀ i∈A,i<t.az.length)->iter (ny n t (q7 t (nE t d) d,BA n t d) (A.map λ(i:Nat)=>(i:Int))) n ((0:Int),([]:List ByteArray))=some (KR n t (nE t d) d (A.filterMap λi=>t.az[i]?)):=by
   intro A hA hAr
   have key:=fZ (l:=A) (step:=ny n t (q7 t (nE t d) d,BA n t d) (A.map λ(i:Nat)=>(i:Int))) (λ i (s:List ByteArray)=>((i:Int),s)) (λ i s=>match t.az[i]? with
    |some r=>addN s r.name (ZI n t (nE t d) d r)
    |none=>s) (λ s=>s) (λ i s=>s.length<=i) (λ i hi s hs=>by
    have hr:=hAr _ (getElem_mem hi);have hlm:(A.map λ(i:Nat)=>(i:Int)).length=A.length:=(by simp);have hg:bo (A.map λ(i:Nat)=>(i:Int)) (((0:Nat):Int)+(i:Int))=some ((A[i]:Nat):Int):=(by rw[bM (by omega)];simp);have hrr:=ht.rule _ (getElem_mem hr);have hb:=aa7 (n:=n) (t:=t) (lot:=nE t d) (d:=d) ht hw.1 hd (hv h0) hrr.2 hn;have e:=dG hr;simp only[ny,hlm,dR hi,aj,bL hi,hg,ah,bB hr,hb,aG,aeM (n:=n) (name:=t.az[A[i]].name) (bad:=ZI n t (nE t d) d t.az[A[i]]) (ab:=s) (by omega) (by omega),aX i,e];exact⟨trivial,Nat.le_trans (Yf _ _ _) (by omega)⟩) (λ s _=>by
    have hlm:(A.map λ(i:Nat)=>(i:Int)).length=A.length:=(by simp);simp only[ny,hlm,fU,ak,aG,aj]) n (by omega) [] (aP _)
   rw[show ((0:Nat):Int)=0 from rfl]at key;rw[key];congr 1;unfold KR;generalize ([]:List ByteArray)=s0;clear key hA
   induction A generalizing s0 with
   |nil=>rfl
   |cons a A ih=>
    have ha:=hAr a (by simp);rw[foldl_cons,List.filterMap_cons];simp only[dG ha];rw[foldl_cons];exact ih (λ i hi=>hAr i (by simp[hi])) _
  have hlo:=hloop (RA t.az (vR t (nE t d)) day) hal (λ i hi=>by
   have:=(List.mem_filter.1 hi).1;simpa using this)
  rw[hpick]at hlo;have hrl:(KR n t (nE t d) d (applied t (nE t d) day)).length<=100:=by
   have h1:=DJ (ZI n t (nE t d) d) (applied t (nE t d) day) [];have h2:(applied t (nE t d) day).length<=100:=Nat.le_trans (length_filter_le _ _) ht.rules;unfold KR;simp only[length_nil]at h1;omega
  have hany:gQ n (q7 t (nE t d) d) (λ (y1:aF×Unit)=>nu n y1.1 t d)=some (LO t d):=by
   have hs:∀v,nu n v t d=some (!HS t.co d.lot (vQ v)):=by
    intro v;have hl1:(vQ v).length=1:=rfl;have h:=ZB (n:=n) (l:=t.co) (lot:=d.lot) (s:=vQ v) ht.Sp.1 ht.Sp.2 (by simp[vQ]) (by omega);simp only[nu,aeJ,ah,dn,aG,aj,h]
   simp only[gQ,show(q7 t (nE t d) d).cm=kS d from rfl];rw[fV (λ v=>!HS t.co d.lot (vQ v)) (λ v _=>hs v) (by omega) (by omega)];rfl
  have hsc:q7 t (mY t.land d.lot).1 d=q7 t (nE t d) d:=rfl;simp only[zE,RR,aj,ak,hsc,show(q7 t (nE t d) d).zones=vR t (nE t d)from rfl,hA,ah,length_nil,aG,hlo,hany,aeM (n:=n) (name:=⟨#[101,97,115,101,109,101,110,116]⟩) (bad:=LO t d) (ab:=KR n t (nE t d) d (applied t (nE t d) day)) (by omega) (by omega),dn];rw[h0];rfl
 ·have zE:(BA n t d==0)=false:=by simpa using h0
  have RR:(BA n t d !=0)=true:=by simpa using h0
  simp only[zE,RR,aj,ak]
theorem ajo{t:fE}{d:bf}{r:aQ}(ht:xi t)(hd:BT d)(hr:(toE (js r)).wt<=4000000)(hn:vq n):rF n t d r=some ((BA n t d==0)&&ZI n t (nE t d) d r):=by
 obtain⟨hk,hv⟩:=look_eq (n:=n) ht hd hn;have hw:=RB ht.lots d.lot;simp only[rF,hk,ah];by_cases h0:BA n t d=0
 ·have zE:(BA n t d==0)=true:=by simp[h0]
  have hb:=aa7 (n:=n) (t:=t) (lot:=nE t d) (d:=d) (r:=r) ht hw.1 hd (hv h0) hr hn;have hsc:q7 t (mY t.land d.lot).1 d=q7 t (nE t d) d:=rfl;simp only[zE,aj,hsc,hb,ah,Bool.true_and]
 ·have zE:(BA n t d==0)=false:=by simpa using h0
  simp only[zE,ak,Bool.false_and]
theorem ajp{t:fE}{d:bf}(day:Int)(ht:xi t)(hd:BT d)(hn:vq n):wR n t d day=some ((BA n t d==0)&&decide (qi n t d day=[])):=by
 simp only[wR,FE day ht hd hn,ah];cases (BA n t d==0)with
 |false=>rfl
 |true=>
  simp only[aj,Bool.true_and];cases qi n t d day with
  |nil=>rfl
  |cons x l=>
   have:(((x::l).length:Nat):Int)≠0:=(by simp;omega);rw[beq_eq_false_iff_ne.2 this];simp
theorem C9{α:Type}{l:List α}{K n:Nat}{step:Int->Option (Int⊕(Unit⊕Bool))}{good:α->Prop}(h1:∀i (hi:i<l.length),i<K->step (i:Int)=some (.inr (.inr false))\/(step (i:Int)=some (.inl ((i+1:Nat):Int))/\good l[i]))
 (h2:∀i:Nat,(¬ i<l.length\/¬i<K)->step (i:Int)=some (.inr (.inl ()))) (hn:K+1<n):iter step n (0:Int)=some (.inr false)\/(iter step n (0:Int)=some (.inl ())/\(l.length<=K->∀x∈l,good x)):=by
 obtain⟨o,g1,g2⟩:=eX (step:=step) (λ i (v:Int)=>v=(i:Int)/\i<=l.length/\i<=K/\∀x∈l.take i,good x) (λ o=>o= .inr false\/(o= .inl ()/\(l.length<=K->∀x∈l,good x))) K (λ k v h=>h.2.2.1) (by
  rintro i v ⟨rfl,hi,hK,hall⟩;by_cases hlt:i<l.length/\i<K
  ·rcases h1 i hlt.1 hlt.2 with h |⟨h,hg⟩
   ·exact .inr ⟨_,h,.inl rfl⟩
   ·refine .inl ⟨_,h,rfl,hlt.1,hlt.2,λx hx=>?_⟩;rw[List.take_add_one,dG hlt.1,aV]at hx;rcases hx with hx |hx
    ·exact hall x hx
    ·simp at hx;subst hx;exact hg
  ·refine .inr ⟨_,h2 i (by omega),.inr ⟨rfl,λhl x hx=>hall x ?_⟩⟩;rw[take_of_length_le (by omega)];exact hx) n 0 0 ⟨rfl,Nat.zero_le _,Nat.zero_le _,by simp⟩ (by omega)
 rcases g2 with rfl |⟨rfl,g2⟩
 ·exact .inl g1
 ·exact .inr ⟨g1,g2⟩
theorem Yg(hn:4000002<=n):∀(m:Nat)(e:bK)(most:Int)(L:Nat),(toE e).wt<=4000000->0<=most->most<=1000->L<=100->L+1<=m->∃r,tJ n m e most (L:Int)=some r/\1<=r/\r<=most+1
 | 0,_,_,_,_,_,_,_,h=>absurd h (by omega)
 |m+1,e,most,L,hw,h0,h1,hL,hm=>by
  have hla:=V2 e;show ∃r,CU n (tJ n m) e most (L:Int)=some r/\_;simp only[CU];by_cases hL1:(L:Int)<1
  ·simp only[hL1,decide_true,aj];rw[bS (by omega) (by omega)];exact⟨most+1,rfl,by omega,by omega⟩
  ·simp only[hL1,decide_false,ak];obtain⟨o,g1,g2,g3⟩:=eX (step:=uL (tJ n m) e most (L:Int)) (λ i (v:Int×Int)=>v.2=(i:Int)/\i<=e.args.length/\1<=v.1/\v.1<=most+1) (λ o=>1<=o/\o<=most+1) e.args.length (λ k v h=>h.2.1) (by
    rintro i ⟨v1,v2⟩ ⟨hv,hi,i1,i2⟩;simp only at hv i1 i2;subst hv;by_cases hlt:i<e.args.length
    ·by_cases hle:v1<=most
     ·left;have hwx:=T6 (getElem_mem hlt);obtain⟨r,r1,r2,r3⟩:=Yg hn m e.args[i] (most -v1) (L -1) (by omega) (by omega) (by omega) (by omega) (by omega);have eL:i64.wrap ((L:Int) -1)=((L -1:Nat):Int):=kX (by omega) (by omega);refine⟨(v1+r,((i+1:Nat):Int)),?_,rfl,hlt,by show 1<=v1+r;omega,by show v1+r<=_;omega⟩;simp only[uL,show decide ((i:Int)<(e.args.length:Int))=true from by simp;omega,aj,hle,decide_true,ah,bB hlt,bS (show -9223372036854775808<=most -v1 by omega) (show most -v1<=9223372036854775807 by omega),eL,r1,bS (show -9223372036854775808<=v1+r by omega) (show v1+r<=9223372036854775807 by omega),aX i]
     ·right;refine⟨v1,?_,i1,i2⟩;simp only[uL,show decide ((i:Int)<(e.args.length:Int))=true from by simp;omega,aj,hle,decide_false,ah,ak]
    ·right;refine⟨v1,?_,i1,i2⟩;simp only[uL,show decide ((i:Int)<(e.args.length:Int))=false from by simp;omega,ak,ah]) n 0 ((1:Int),(0:Int)) ⟨rfl,Nat.zero_le _,by simp,by show(1:Int)<=_;omega⟩ (by omega)
   simp only[g1,ah];exact⟨o,rfl,g2,g3⟩
def XN(l:List aQ):Prop:=∀r∈l,(toE (js r)).wt<=4000000
structure LN(t:fE):Prop where
 defs:gE t.ct
 rules:XN t.az
 wv:∀l∈t.land,l.from_.length*8<=140737488355328
theorem qP(i len K:Nat){k:Int}(hk:k=(K:Int)):((bif (decide ((i:Int)<(len:Int)))then some (decide ((i:Int)<k))else some false):Option Bool)=some (decide (i<len/\i<K)):=by
 subst hk;by_cases h1:i<len<;>by_cases h2:i<K<;>simp[h1,h2]
theorem alh{l:List aQ}(hw:XN l)(hn:vq n):∃b,LG n l=some b/\(b=true->l.length<=6/\∀r∈l,Nw r):=by
 obtain⟨hn1,hn2⟩:=hn;have h:=C9 (l:=l) (K:=7) (n:=n) (step:=zC n l) (good:=Nw) (λ i hi hK=>by
  obtain⟨r,hr,_,_⟩:=Yg (n:=n) (by omega) n (js l[i]) 40 14 (hw _ (getElem_mem hi)) (by omega) (by omega) (by omega) (by omega);have hr':Fw n (bK.mk l[i].ky l[i].ml l[i].mj l[i].i6 l[i].fW) 40 14=some r:=hr;have e:=qP i l.length 7 (k:=7) rfl;simp only[zC,e,show decide (i<l.length/\i<7)=true from by simp[hi,hK],ah,aj,bB hi,hr',aX i];by_cases c1:r>40
  ·left;simp only[c1,decide_true,aj,ah];rfl
  ·by_cases c2:(l[i].zones.length:Int)>6
   ·left;simp only[c1,c2,decide_true,decide_false,aj,ak,ah];rfl
   ·by_cases c3:(l[i].except.length:Int)>6
    ·left;simp only[c1,c2,c3,decide_true,decide_false,aj,ak,ah];rfl
    ·right;simp only[c1,c2,c3,decide_false,ak,ah];exact⟨trivial,by omega,by omega⟩) (λ i h=>by
  have e:=qP i l.length 7 (k:=7) rfl;simp only[zC,e,show decide (i<l.length/\i<7)=false from by simp;omega,ah,ak]) (by omega)
 simp only[LG];rcases h with h |⟨h,h2⟩
 ·simp only[h,fF];exact⟨false,rfl,λh=>(by cases h)⟩
 ·simp only[h,dP];exact⟨_,rfl,λhb=>by
   have:(l.length:Int)<=6:=(by simpa using hb);exact⟨by omega,h2 (by omega)⟩⟩
theorem ami{p:cK}(hd:gE p.defs)(hw:XN p.rules)(hn:vq n):∃b,Ps n p=some b/\(b=true->(p.tables.length<=4/\∀t∈p.tables,t.rows.length<=8)/\p.zones.length<=5/\p.caps.length<=3/\p.rules.length<=6/\∀r∈p.rules,Nw r):=by
 have hn':=hn;obtain⟨hn1,hn2⟩:=hn;have s1:=C9 (l:=p.defs) (K:=6) (n:=n) (step:=CV n p) (good:=λ_=>True) (λ i hi hK=>by
  obtain⟨r,hr,_,_⟩:=Yg (n:=n) (by omega) n _ 40 14 (hd.body (getElem_mem hi)) (by omega) (by omega) (by omega) (by omega);have hr':Fw n (bK.mk p.defs[i].ir p.defs[i].ly p.defs[i].kf p.defs[i].il p.defs[i].eo) 40 14=some r:=hr;have e:=qP i p.defs.length 6 (k:=6) rfl;simp only[CV,e,show decide (i<p.defs.length/\i<6)=true from by simp[hi,hK],ah,aj,bB hi,hr',aX i];cases decide (r>40)with
  |true=>exact .inl rfl
  |false=>exact .inr ⟨rfl,trivial⟩) (λ i h=>by
  have e:=qP i p.defs.length 6 (k:=6) rfl;simp only[CV,e,show decide (i<p.defs.length/\i<6)=false from by simp;omega,ah,ak]) (by omega)
 have s2:=C9 (l:=p.tables) (K:=5) (n:=n) (step:=CW p) (good:=λt=>t.rows.length<=8) (λ i hi hK=>by
  have e:=qP i p.tables.length 5 (k:=5) rfl;simp only[CW,e,show decide (i<p.tables.length/\i<5)=true from by simp[hi,hK],ah,aj,bB hi,aX i];by_cases c1:(p.tables[i].rows.length:Int)>8
  ·left;simp only[c1,decide_true,aj];rfl
  ·right;simp only[c1,decide_false,ak];exact⟨trivial,by omega⟩) (λ i h=>by
  have e:=qP i p.tables.length 5 (k:=5) rfl;simp only[CW,e,show decide (i<p.tables.length/\i<5)=false from by simp;omega,ah,ak]) (by omega)
 have s3:=C9 (l:=p.zones) (K:=6) (n:=n) (step:=CX p) (good:=λ_=>True) (λ i hi hK=>by
  have e:=qP i p.zones.length 6 (k:=6) rfl;simp only[CX,e,show decide (i<p.zones.length/\i<6)=true from by simp[hi,hK],ah,aj,bB hi,aX i];cases decide ((p.zones[i].corners.length:Int)>12)with
  |true=>exact .inl rfl
  |false=>exact .inr ⟨rfl,trivial⟩) (λ i h=>by
  have e:=qP i p.zones.length 6 (k:=6) rfl;simp only[CX,e,show decide (i<p.zones.length/\i<6)=false from by simp;omega,ah,ak]) (by omega)
 have s4:=C9 (l:=p.caps) (K:=4) (n:=n) (step:=CY p) (good:=λ_=>True) (λ i hi hK=>by
  have e:=qP i p.caps.length 4 (k:=4) rfl;simp only[CY,e,show decide (i<p.caps.length/\i<4)=true from by simp[hi,hK],ah,aj,bB hi,aX i];cases decide ((p.caps[i].corners.length:Int)>12)with
  |true=>exact .inl rfl
  |false=>exact .inr ⟨rfl,trivial⟩) (λ i h=>by
  have e:=qP i p.caps.length 4 (k:=4) rfl;simp only[CY,e,show decide (i<p.caps.length/\i<4)=false from by simp;omega,ah,ak]) (by omega)
 have no:∃b,some false=some b/\(b=true->(p.tables.length<=4/\∀t∈p.tables,t.rows.length<=8)/\p.zones.length<=5/\p.caps.length<=3/\p.rules.length<=6/\∀r∈p.rules,Nw r):=⟨false,rfl,λh=>(by cases h)⟩;have⟨b,hb,hb2⟩:=alh (n:=n) hw hn';simp only[Ps];rcases s1 with h |⟨h,_⟩
 ·simpa only[h,fF]using no
 rcases s2 with h2 |⟨h2,ht⟩
 ·simpa only[h,h2,fF,dP]using no
 rcases s3 with h3 |⟨h3,_⟩
 ·simpa only[h,h2,h3,fF,dP]using no
 rcases s4 with h4 |⟨h4,_⟩
 ·simpa only[h,h2,h3,h4,fF,dP]using no
 simp only[h,h2,h3,h4,dP];by_cases c1:(p.defs.length:Int)<=5
 ·by_cases c2:(p.tables.length:Int)<=4
  ·by_cases c3:(p.zones.length:Int)<=5
   ·by_cases c4:(p.caps.length:Int)<=3
    ·simp only[c1,c2,c3,c4,decide_true,aj,hb,ah];exact⟨b,rfl,λh=>⟨⟨by omega,ht (by omega)⟩,by omega,by omega,hb2 h⟩⟩
    ·simpa only[c1,c2,c3,c4,decide_true,decide_false,aj,ak]using no
   ·simpa only[c1,c2,c3,decide_true,decide_false,aj,ak]using no
  ·simpa only[c1,c2,decide_true,decide_false,aj,ak]using no
 ·simpa only[c1,decide_false,ak]using no
structure amJ(t:fE)(d:bf):Prop where
 town:xi t
 draw:BT d
 built:t.built.length<=8
 rules:t.az.length<=6
theorem ali{t:fE}{d:bf}(hz:LN t)(hn:vq n):∃b,Vh n t d=some b/\(b=true->amJ t d):=by
 have hn':=hn;obtain⟨hn1,hn2⟩:=hn;have s1:=C9 (l:=t.land) (K:=5) (n:=n) (step:=Hl t) (good:=λx=>x.area.length<=6) (λ i hi hK=>by
  have e:=qP i t.land.length 5 (k:=5) rfl;simp only[Hl,e,show decide (i<t.land.length/\i<5)=true from by simp[hi,hK],ah,aj,bB hi,aX i];by_cases c1:(t.land[i].area.length:Int)>6
  ·left;simp only[c1,decide_true,aj];rfl
  ·right;simp only[c1,decide_false,ak];exact⟨trivial,by omega⟩) (λ i h=>by
  have e:=qP i t.land.length 5 (k:=5) rfl;simp only[Hl,e,show decide (i<t.land.length/\i<5)=false from by simp;omega,ah,ak]) (by omega)
 have s2:=C9 (l:=t.co) (K:=4) (n:=n) (step:=Ho t) (good:=λx=>x.area.length<=6) (λ i hi hK=>by
  have e:=qP i t.co.length 4 (k:=4) rfl;simp only[Ho,e,show decide (i<t.co.length/\i<4)=true from by simp[hi,hK],ah,aj,bB hi,aX i];by_cases c1:(t.co[i].area.length:Int)>6
  ·left;simp only[c1,decide_true,aj];rfl
  ·right;simp only[c1,decide_false,ak];exact⟨trivial,by omega⟩) (λ i h=>by
  have e:=qP i t.co.length 4 (k:=4) rfl;simp only[Ho,e,show decide (i<t.co.length/\i<4)=false from by simp;omega,ah,ak]) (by omega)
 have s3:=C9 (l:=d.phases) (K:=4) (n:=n) (step:=Hq d) (good:=λx=>x.cm.length<=3/\x.gives.length<=3) (λ i hi hK=>by
  have e:=qP i d.phases.length 4 (k:=4) rfl;simp only[Hq,e,show decide (i<d.phases.length/\i<4)=true from by simp[hi,hK],ah,aj,bB hi,aX i];by_cases c1:(d.phases[i].cm.length:Int)>3
  ·left;simp only[c1,decide_true,aj,ah];rfl
  ·by_cases c2:(d.phases[i].gives.length:Int)>3
   ·left;simp only[c1,c2,decide_true,decide_false,aj,ak,ah];rfl
   ·right;simp only[c1,c2,decide_false,ak,ah];exact⟨trivial,by omega,by omega⟩) (λ i h=>by
  have e:=qP i d.phases.length 4 (k:=4) rfl;simp only[Hq,e,show decide (i<d.phases.length/\i<4)=false from by simp;omega,ah,ak]) (by omega)
 have no:∃b,some false=some b/\(b=true->amJ t d):=⟨false,rfl,λh=>(by cases h)⟩;obtain⟨b,hb,hb2⟩:=ami (n:=n) (p:=cK.mk t.ct t.cj t.cd t.az t.cD t.cw t.cQ t.cx) hz.defs hz.rules hn';simp only[Vh];rcases s1 with h |⟨h,hl⟩
 ·simpa only[h,fF]using no
 rcases s2 with h2 |⟨h2,he⟩
 ·simpa only[h,h2,fF,dP]using no
 rcases s3 with h3 |⟨h3,hd⟩
 ·simpa only[h,h2,h3,fF,dP]using no
 simp only[h,h2,h3,dP,hb,ah];cases b with
 |false=>simpa only[ak]using no
 |true=>
  have⟨⟨t1,t2⟩,z1,c1,r1,r2⟩:=hb2 rfl;simp only at t1 t2 z1 c1 r1 r2;simp only[aj];by_cases d1:(t.land.length:Int)<=4
  ·by_cases d2:(t.co.length:Int)<=3
   ·by_cases d3:(t.built.length:Int)<=8
    ·simp only[d1,d2,d3,decide_true,aj];refine⟨_,rfl,λh4=>?_⟩
     have h4i:(d.phases.length:Int)<=3:=by simpa using h4
     have h4':d.phases.length<=3:=by omega
     have hl':=hl (by omega);have he':=he (by omega);have hd':=hd (by omega)
     exact⟨⟨λ l hm=>⟨by have:=hl' l hm;omega,hz.wv l hm⟩,by omega,⟨by omega,λe hm=>by have:=he' e hm;omega⟩,by omega,by omega,by omega,by omega,λr hm=>⟨r2 r hm,hz.rules r hm⟩,⟨hz.defs,⟨by show t.cj.length<=_;omega,λx hx=>by have:=t2 x hx;omega⟩⟩⟩,
      ⟨⟨by omega,λp hm=>by have:=(hd' p hm).1;omega⟩,λp hm=>by have:=(hd' p hm).2;omega⟩,by omega,r1⟩
    ·simpa only[d1,d2,d3,decide_true,decide_false,aj,ak]using no
   ·simpa only[d1,d2,decide_true,decide_false,aj,ak]using no
  ·simpa only[d1,decide_false,ak]using no
def L5(a b:List ByteArray):Bool:=decide (a.length=b.length)&&(a.zip b).all λp=>jt p.1 p.2
theorem aeN(a:List ByteArray):L5 a a=true:=by
 simp only[L5,decide_true,Bool.true_and,List.all_eq_true];intro p hp;have:p.1=p.2:=by
  obtain⟨i,hi,rfl⟩:=mem_iff_getElem.1 hp;simp
 rw[this];simp[jt]
theorem aeO{a b:List ByteArray}(hl:a.length<=1000)(hn:2000<=n):zY n a b=some (L5 a b):=by
 simp only[zY,L5];by_cases h:a.length=b.length
 ·have hne:((a.length:Int) !=(b.length:Int))=false:=by simp[h]
  have hd:decide (a.length=b.length)=true:=by simp[h]
  rw[hne,hd];simp only[ak,Bool.true_and];obtain⟨o,g1,g2⟩:=eX (step:=zB a b) (λ i (v:Int)=>v=(i:Int)/\i<=a.length/\((a.take i).zip (b.take i)).all (λ p=>jt p.1 p.2)=true) (λ o=>(o= .inr false/\(a.zip b).all (λ p=>jt p.1 p.2)=false)\/(o= .inl ()/\(a.zip b).all (λ p=>jt p.1 p.2)=true)) a.length (λ k v h=>h.2.1) (by
   rintro i v ⟨rfl,hi,hall⟩;by_cases hlt:i<a.length
   ·have hlb:i<b.length:=(by omega);simp only[zB,show decide ((i:Int)<(a.length:Int))=true from by simp;omega,aj,bB hlt,bB hlb,ah,aX i];cases he:(ByteArray.toList a[i]==ByteArray.toList b[i])with
    |false=>
     refine .inr ⟨_,rfl,.inl ⟨rfl,?_⟩⟩;rw[List.all_eq_false];exact⟨(a[i],b[i]),by rw[mem_iff_getElem];exact⟨i,by simp;omega,by simp⟩,by simp[jt,he]⟩
    |true=>
     refine .inl ⟨_,rfl,rfl,hlt,?_⟩;rw[List.take_add_one,List.take_add_one,dG hlt,dG hlb,List.zip_append (by simp;omega),List.all_append,hall];simp[jt,he]
   ·refine .inr ⟨.inl (),?_,.inr ⟨rfl,?_⟩⟩
    ·simp only[zB,show decide ((i:Int)<(a.length:Int))=false from by simp;omega,ak]
    ·rw[take_of_length_le (by omega),take_of_length_le (by omega)]at hall;exact hall) n 0 0 ⟨rfl,Nat.zero_le _,by simp⟩ (by omega)
  rcases g2 with ⟨rfl,g2⟩ |⟨rfl,g2⟩
  ·simp only[g1,fF,g2]
  ·simp only[g1,dP,g2]
 ·have hne:((a.length:Int) !=(b.length:Int))=true:=by simpa using λe:(a.length:Int)=(b.length:Int)=>h (by omega)
  have hd:decide (a.length=b.length)=false:=by simp[h]
  rw[hne,hd];rfl
def SD:aF:=aF.mk 2 2 8 8 0 14 2 0 false
def ZJ:bf:=bf.mk 1 [iG.mk [SD] []]
def BE:List aQ:=[(aQ.mk (⟨#[97]⟩) ([]) ([]) 0 0 0 false 0 12 0 (⟨#[]⟩) (⟨#[]⟩) [(bK.mk 1 0 (⟨#[104,101,105,103,104,116]⟩) (⟨#[]⟩) ([])),(bK.mk 0 12 (⟨#[]⟩) (⟨#[]⟩) ([]))] 0 0 0 0 0 0 0),(aQ.mk (⟨#[98]⟩) ([]) ([]) 0 0 0 false 1 0 0 (⟨#[]⟩) (⟨#[]⟩) ([]) 0 9 3 1 0 0 0),(aQ.mk (⟨#[99]⟩) ([]) ([]) 0 0 0 false 1 0 0 (⟨#[]⟩) (⟨#[]⟩) ([]) 0 9 1 1 0 0 0),(aQ.mk (⟨#[100]⟩) ([]) ([]) 0 0 0 false 2 0 0 (⟨#[]⟩) (⟨#[]⟩) ([]) 0 0 0 0 5 0 0),(aQ.mk (⟨#[101]⟩) ([]) ([]) 0 0 0 false 3 0 0 (⟨#[]⟩) (⟨#[]⟩) ([]) 0 0 0 0 2 0 5)]
def an1:gY:=gY.mk 1 0 [ay.mk 0 0 10 10] []
def IY:fE:=fE.mk [] [] [] BE [] [] [] 0 [an1] [] [] [dw.mk 2 12 2 14 4 0 3 0 0 false] []
theorem Vp:xi IY where
 lots:=λl hl=>by
  simp only[IY,aY]at hl;subst hl;exact⟨by decide,by decide⟩
 land:=by decide
 Sp:=⟨by decide,λe he=>by simp[IY]at he⟩
 built:=by decide
 zones:=by decide
 caps:=by decide
 rules:=by decide
 rule:=λr hr=>by
  simp only[IY,BE,aO,jv,or_false]at hr;rcases hr with rfl |rfl |rfl |rfl |rfl<;>exact⟨⟨by decide,by decide⟩,Nat.le_of_ble_eq_true (by kernel_rfl)⟩
 plan:=⟨Nat.le_of_ble_eq_true (by kernel_rfl),⟨by decide,λx hx=>by simp[lR,IY]at hx⟩⟩
theorem Vq(lot:Int)(ps:List iG)(h:ps=[iG.mk [SD] []]\/ps=[]):BT (bf.mk lot ps):=by
 rcases h with rfl |rfl
 ·refine⟨⟨by simp,λp hp=>?_⟩,λp hp=>?_⟩<;> · simp only[aY]at hp;subst hp;decide
 ·refine⟨⟨by simp,λp hp=>?_⟩,λp hp=>?_⟩<;>simp at hp
theorem HG:vq 5000003:=⟨aP _,by omega⟩
theorem amj:LF 5000003=some true:=by
 have b1:=FE (n:=5000003) (t:=IY) (d:=ZJ) 7 Vp (Vq 1 _ (.inl rfl)) HG;have b2:=FE (n:=5000003) (t:=IY) (d:=bf.mk 3 []) 7 Vp (Vq 3 _ (.inr rfl)) HG;have v1:qi 5000003 IY ZJ 7=[⟨#[97]⟩,⟨#[99]⟩,⟨#[101]⟩]:=by kernel_rfl
 have v2:BA 5000003 IY ZJ=0:=by kernel_rfl
 have v3:BA 5000003 IY (bf.mk 3 [])=4:=by kernel_rfl
 have v4:qi 5000003 IY (bf.mk 3 []) 7=[]:=by kernel_rfl
 have c:=λ(r:aQ)(h:(toE (js r)).wt<=4000000)=>ajo (n:=5000003) (t:=IY) (d:=ZJ) (r:=r) Vp (Vq 1 _ (.inl rfl)) h HG;have c1:=c (BE[0]'(by decide)) (Nat.le_of_ble_eq_true (by kernel_rfl));have c2:=c (BE[1]'(by decide)) (Nat.le_of_ble_eq_true (by kernel_rfl));have w1:ZI 5000003 IY (nE IY ZJ) ZJ (BE[0]'(by decide))=true:=by kernel_rfl
 have w2:ZI 5000003 IY (nE IY ZJ) ZJ (BE[1]'(by decide))=false:=by kernel_rfl
 have l1:=ajp (n:=5000003) (t:=IY) (d:=ZJ) 7 Vp (Vq 1 _ (.inl rfl)) HG;rw[v1,v2]at b1;rw[v3,v4]at b2;rw[v2,w1]at c1;rw[v2,w2]at c2;rw[v2,v1]at l1;have hnm:zY 5000003 [⟨#[97]⟩,⟨#[99]⟩,⟨#[101]⟩] [⟨#[97]⟩,⟨#[99]⟩,⟨#[101]⟩]=some true:=by rw[aeO (by decide) (by decide)];kernel_rfl
 simp only[IY,ZJ,BE,an1,SD]at b1 b2 c1 c2 l1;simp only[List.getElem_cons_zero,List.getElem_cons_succ]at c1 c2;simp only[LF,Wc,ah,sub,List.drop_zero,List.take_succ_cons,List.take_zero,bE,length_nil,Nat.zero_add,Nat.reduceAdd,aG,aj];have a0:∀(x:aQ)(l:List aQ),bo (x::l) (((0:Nat):Int)+0)=some x:=λ_ _=>rfl;have a1:∀(x y:aQ)(l:List aQ),bo (x::y::l) (((0:Nat):Int)+1)=some y:=λ_ _ _=>rfl;simp only[b1,b2,ah,bE,length_nil,Nat.zero_add,Nat.reduceAdd,List.take_succ_cons,List.take_zero,hnm,aG,aj,show((0:Int)==0)=true from rfl,show((4:Int)==4)=true from rfl,show b7 0 5=true from rfl,show b7 1 5=true from rfl,a0,a1,c1,c2,l1];rfl
theorem aeP{t:fE}{d:bf}(h:t.az.length<=10)(day:Int):(qi n t d day).length<=11:=by
 unfold qi;cases (BA n t d==0)with
 |false=>simp
 |true=>
  have h1:=Yf (KR n t (nE t d) d (applied t (nE t d) day)) aa8 (LO t d);have h2:=DJ (ZI n t (nE t d) d) (applied t (nE t d) day) [];have h3:(applied t (nE t d) day).length<=t.az.length:=length_filter_le _ _;simp only[aj];unfold KR at*;simp only[length_nil]at h2;omega
theorem acF{zs:List ByteArray}{day later:Int}(h:day<=later){r:aQ}(h1:¬(r.from_>day/\r.from_<=later))(h2:¬(r.cC>day/\r.cC<=later)):nD zs day r=nD zs later r:=by
 unfold nD;have e1:decide (r.from_<=day)=decide (r.from_<=later):=by rw[decide_eq_decide];omega
 have e2:decide (day<r.cC)=decide (later<r.cC):=by rw[decide_eq_decide];omega
 rw[e1,e2]
theorem aeQ{t:fE}{d:bf}{day later:Int}(h:day<=later)(hb:∀r∈t.az,¬(r.from_>day/\r.from_<=later)/\¬(r.cC>day/\r.cC<=later)):qi n t d day=qi n t d later:=by
 have:applied t (nE t d) day=applied t (nE t d) later:=by
  unfold applied;exact List.filter_congr λr hr=>acF h (hb r hr).1 (hb r hr).2
 unfold qi;rw[this]
theorem amk{t:fE}{day later:Int}(hl:t.az.length<=10)(hn:2000<=n):iter (jr t day later true) n (0:Int)=some (.inr true)\/(iter (jr t day later true) n (0:Int)=some (.inl ())/\∀r∈t.az,¬(r.from_>day/\r.from_<=later)/\¬(r.cC>day/\r.cC<=later)):=by
 obtain⟨o,g1,g2⟩:=eX (step:=jr t day later true) (λ i (v:Int)=>v=(i:Int)/\i<=t.az.length/\∀r∈t.az.take i,¬(r.from_>day/\r.from_<=later)/\¬(r.cC>day/\r.cC<=later))
  (λ o=>o= .inr true\/(o= .inl ()/\∀r∈t.az,¬(r.from_>day/\r.from_<=later)/\¬(r.cC>day/\r.cC<=later))) t.az.length (λ k v h=>h.2.1) (by
  rintro i v ⟨rfl,hi,hall⟩;by_cases hlt:i<t.az.length
  ·simp only[jr,show decide ((i:Int)<(t.az.length:Int))=true from by simp;omega,aj,bB hlt,ah,aX i];have key:((bif (decide (t.az[i].from_>(day:Int)))then(bif (decide (t.az[i].from_<=(later:Int)))then some true else(bif (decide (t.az[i].cC>(day:Int)))then some (decide (t.az[i].cC<=(later:Int)))else some false))else(bif (decide (t.az[i].cC>(day:Int)))then some (decide (t.az[i].cC<=(later:Int)))else some false)):Option (Bool))=some (decide ((t.az[i].from_>day/\t.az[i].from_<=later)\/(t.az[i].cC>day/\t.az[i].cC<=later))):=(by by_cases c1:t.az[i].from_>day<;>by_cases c2:t.az[i].from_<=later<;>by_cases c3:t.az[i].cC>day<;>by_cases c4:t.az[i].cC<=later<;>simp only[c1,c2,c3,c4,decide_true,decide_false,aj,ak,and_true,and_false,or_true,or_false,and_self,or_self]);rw[key];by_cases c:(t.az[i].from_>day/\t.az[i].from_<=later)\/(t.az[i].cC>day/\t.az[i].cC<=later)
   ·simp only[c,decide_true,ah,aj];exact .inr ⟨_,rfl,.inl rfl⟩
   ·simp only[c,decide_false,ah,ak];refine .inl ⟨_,rfl,rfl,hlt,λr hr=>?_⟩;rw[List.take_add_one,dG hlt,aV]at hr;rcases hr with hr |hr
    ·exact hall r hr
    ·simp at hr;subst hr;exact⟨λ h=>c (.inl h),λh=>c (.inr h)⟩
  ·refine .inr ⟨.inl (),?_,.inr ⟨rfl,?_⟩⟩
   ·simp only[jr,show decide ((i:Int)<(t.az.length:Int))=false from by simp;omega,ak]
   ·rw[take_of_length_le (by omega)]at hall;exact hall) n 0 0 ⟨rfl,Nat.zero_le _,by simp⟩ (by omega)
 rcases g2 with rfl |⟨rfl,g2⟩
 ·exact .inl g1
 ·exact .inr ⟨g1,g2⟩
theorem Uk(t:fE)(d:bf)(day later:Int)(hz:LN t):uM 5000003 t d day later=some true:=by
 have hn:=HG;have⟨b,hb,PT⟩:=ali (n:=5000003) (t:=t) (d:=d) hz hn;unfold uM;rw[amj,hb];simp only[ah];cases b with
 |false=>rfl
 |true=>
  have⟨ht,hd,_,hr⟩:=PT rfl;simp only[Bool.not_true,ak];by_cases c1:day<0
  ·simp only[c1,decide_true,aj,ah]
  ·by_cases c2:later<day
   ·simp only[c1,c2,decide_true,decide_false,aj,ak,ah]
   ·by_cases c3:later>1073741824
    ·simp only[c1,c2,c3,decide_true,decide_false,aj,ak,ah]
    ·simp only[c1,c2,c3,decide_false,ak,ah];rcases amk (n:=5000003) (t:=t) (day:=day) (later:=later) (by omega) (by omega)with h |⟨h,hq⟩
     ·simp only[h,fF]
     ·have e:=aeQ (n:=5000003) (t:=t) (d:=d) (day:=day) (later:=later) (by omega) hq;have hl:=aeP (n:=5000003) (t:=t) (d:=d) (by omega) later;simp only[h,dP,FE (n:=5000003) day ht hd hn,FE (n:=5000003) later ht hd hn,ah,aj,beq_self_eq_true,dn,aG,e,aeO (n:=5000003) (a:=qi 5000003 t d later) (b:=qi 5000003 t d later) (by omega) (by omega),aeN]
mutual
theorem aml:∀g:bK,(toE g).wt<=kP (rQ g)
 |⟨op,n,s,key,args⟩=>by
  have:=PZ args;simp only[toE,ET.wt,rQ,kP,nq];omega
theorem PZ:∀l:List bK,ET.sB (Kt l)<=Dk (um l)
 |[]=>by simp[Kt,ET.sB]
 |x::xs=>by
  have h1:=aml x;have h2:=PZ xs;simp only[Kt,ET.sB,um,Dk];omega
end
theorem aa9:∀l:List fJ,qT (l.map toD)<=Dk (l.map GL)
 |[]=>by simp[qT]
 |x::xs=>by
  have h1:=aa9 xs;have h2:=PZ x.eo;simp only[qT]at h1;simp only[aC,qT,List.foldr_cons,toD,ET.wt,Dk,GL,kP,nq,<- uo];omega
theorem ajq(t:fE):qT (t.ct.map toD)<=kP (Lu t):=by
 have:=aa9 t.ct;simp only[Lu,kP,nq];omega
theorem Yh{r:List Tree}:∀{l:List (List Tree)},r∈l->kP r<=Dk l
 |x::l,h=>by
  rw[Dk];rcases aO.1 h with rfl |h
  ·omega
  ·have:=Yh h;omega
theorem ajr(r:aQ):(toE (js r)).wt<=kP (zb r):=by
 have h:=PZ r.fW;rw[uo]at h;simp only[js,toE,ET.wt,zb,kP,nq];omega
theorem abb:∀l:List Int,l.length<=Dk (l.map λy=>[Tree.sc (.int .i64 y)])
 |[]=>by simp
 |x::l=>by
  have:=abb l;simp only[aC,Dk,kP,nq,bE];omega
theorem ant{t:fE}(h:kP (Lu t)<=1048576):LN t:=by
 have hd:=Nat.le_trans (ajq t) h;simp only[Lu,kP,nq]at h;refine⟨by unfold gE;omega,λr hr=>?_,λl hl=>?_⟩
 ·have h1:=ajr r;have h2:=Yh (mem_map.2 ⟨r,hr,rfl⟩:zb r∈t.az.map zb);omega
 ·have h1:=abb l.from_;have h2:=Yh (mem_map.2 ⟨l,hl,rfl⟩:Nn l∈t.land.map Nn);have h3:Dk (l.from_.map λy=>[Tree.sc (.int .i64 y)])<=kP (Nn l):=by simp only[Nn,kP,nq];omega
  omega
theorem anu{cs:List (CT xx.ι)}(q:HL xx.toSE (.st SI.ju::cs))(hb:Wm (HL.np xx.toSE (.st SI.ju::cs) q)<=1048576):LN q.1:=by
 have h2:kP (Lu q.1)+Wm (HL.np xx.toSE cs q.2)<=1048576:=hb;exact ant (by omega)
theorem Yi(q:HL xx.toSE [.st SI.ju,.st SI.gd,.int .i64,.int .i64])(hb:Wm (HL.np xx.toSE [.st SI.ju,.st SI.gd,.int .i64,.int .i64] q)<=1048576):∃k,uM k q.1 q.2.1 q.2.2.1 q.2.2.2.1=some true:=
 ⟨5000003,Uk q.1 q.2.1 q.2.2.1 q.2.2.2.1 (anu q hb)⟩
end Go.Proofs
