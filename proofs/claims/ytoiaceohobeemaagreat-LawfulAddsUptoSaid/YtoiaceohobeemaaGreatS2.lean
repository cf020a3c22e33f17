import Derived.Test.YtoiaceohobeemaaGreatS1
open Go.IntKind (i64)
open List (length_take mem_map getElem_mem length_map mem_iff_getElem append_nil length_nil foldl_cons take_of_length_le mem_filter any_eq_true length_singleton map_nil length_filter_le)
namespace Go.Proofs
open Go.Gb Go.RowKit
variable {n:Nat}
def tI(ab:List fJ)(x:fJ):List fJ:=
 if x.area=[]then ab else match ab.getLast? with
 |some q=>if q.z1=x.z0/\q.area=x.area then ab.dropLast++[⟨q.z0,x.z1,q.area⟩]else ab++[x]
 |none=>[x]
def C7(x:fJ):Bool:=decide (x.z0<0) || (decide (x.z0>=x.z1) || (decide (x.z1>4096) || (decide (x.area=[]) || !cI x.area)))
def xp(p:Option fJ×fJ):Bool:=C7 p.2 || p.1.any λq=>decide (q.z1>p.2.z0) || (q.z1==p.2.z0&&decide (q.area=p.2.area))
def DX(s:List fJ):List (Option fJ×fJ):=(none::s.map some).zip s
def DY(s:List fJ):Bool:=decide (s.length<=80)&&!((DX s).any xp)
theorem pX(s:List fJ):(DX s).length=s.length:=by simp[DX]
theorem Ie{s:List fJ}{i:Nat}(h:i<(DX s).length):(DX s)[i]=(if h0:i=0 then none else some (s[i -1]'(by rw[pX]at h;omega)),s[i]'(by rw[pX]at h;exact h)):=by
 simp only[DX,List.getElem_zip,Prod.mk.injEq,and_true];cases i with
 |zero=>simp
 |succ i=>simp
theorem Ud{s:List fJ}(ha:∀x∈s,x.area.length<=900)(hn:1000<=n):KI n s=some (DY s):=by
 unfold KI DY;by_cases h80:s.length<=80
 ·have d:decide ((s.length:Int)>80)=false:=by simp;omega
  have d2:decide (s.length<=80)=true:=by simpa using h80
  have z:∀l:List ay,(((l.length:Int))==0)=decide (l=[]):=λl=>by cases l<;>simp<;>omega
  have:=tL (l:=DX s) (step:=C8 n s) (λ i=>(i:Int)) xp () (λ _=>false) (λ i hi=>?_) ?_ n (by rw[pX];omega)
  ·rw[show ((0:Nat):Int)=0 from rfl]at this;rw[d,d2,this,<- RU];cases pq xp (DX s)<;>rfl
  ·rw[Ie];rw[pX]at hi;have hi':decide ((i:Int)<(s.length:Int))=true:=(by simpa using hi);have h1:=ha _ (getElem_mem hi);simp only[C8,hi',aj,bB hi,ah,z,mH (n:=n) (l:=s[i].area) (by omega) (by omega) hn,xp];rw[aR (by omega)];have b:((bif decide (s[i].z0<0)then some true else bif decide (s[i].z0>=s[i].z1)then some true else bif decide (s[i].z1>4096)then some true else bif decide (s[i].area=[])then some true else some (!cI s[i].area)):Option Bool)=some (C7 s[i]):=by
    unfold C7;cases decide (s[i].z0<0)<;>cases decide (s[i].z0>=s[i].z1)<;>cases decide (s[i].z1>4096)<;>cases decide (s[i].area=[])<;>rfl
   rw[b];simp only[ah];cases C7 s[i]with
   |true=>simp[dw]
   |false=>
    by_cases h0:i=0
    ·subst h0;have:((((0:Nat):Int))==0)=true:=rfl;simp only[this,aj,ak,dP,dif_pos,Option.any_none,Bool.or_false]
    ·have e0:((i:Int)==0)=false:=(by simp;omega);have w:i64.wrap ((i:Int) -1)=((i -1:Nat):Int):=lC (by omega) (by omega);have h2:=ha _ (getElem_mem (show i -1<s.length by omega));simp only[e0,ak,w,bB (show i -1<s.length by omega),ah,ag1 (n:=n) (a:=s[i -1].area) (b:=s[i].area) (by omega) (by omega),h0,dif_neg,not_false_eq_true,Option.any_some,Bool.false_or];cases decide (s[i -1].z1>s[i].z0)with
     |true=>simp[dw]
     |false=>
      cases s[i -1].z1==s[i].z0 with
      |false=>simp[dw]
      |true=>cases decide (s[i -1].area=s[i].area)<;>simp[dw]
  ·rw[pX];simp[C8]
 ·have d:decide ((s.length:Int)>80)=true:=by simp;omega
  have d2:decide (s.length<=80)=false:=by simpa using h80
  rw[d,d2];rfl
structure alv(x:fJ):Prop where
 lo:0<=x.z0
 lt:x.z0<x.z1
 hi:x.z1<=4096
 ne:x.area≠[]
 rt:cI x.area=true
def aou(s:List fJ):Prop:=∀i (h:i+1<s.length),s[i].z1<=s[i+1].z0/\¬(s[i].z1=s[i+1].z0/\s[i].area=s[i+1].area)
theorem aeX(x:fJ):C7 x=false↔alv x:=by
 unfold C7;simp only[Bool.or_eq_false_iff,dN,Bool.not_eq_false'];constructor
 ·rintro⟨h1,h2,h3,h4,h5⟩;exact⟨by omega,by omega,by omega,h4,h5⟩
 ·rintro⟨h1,h2,h3,h4,h5⟩;exact⟨by omega,by omega,by omega,h4,h5⟩
theorem NR(s:List fJ):DY s=true↔s.length<=80/\(∀ x∈s,alv x)/\aou s:=by
 unfold DY;rw[aJ,aT,Bool.not_eq_true',List.any_eq_false];refine and_congr_right λ_=>?_;constructor
 ·intro h;have key:∀i (hi:i<s.length),xp ((DX s)[i]'(by rw[pX];exact hi))=false:=λi hi=>by
   have:=h _ (getElem_mem (show i<(DX s).length by rw[pX];exact hi));simpa using this
  refine⟨λ x hx=>?_,λi hi=>?_⟩
  ·obtain⟨i,hi,rfl⟩:=mem_iff_getElem.1 hx;have:=key i hi;rw[Ie]at this;unfold xp at this;rw[Bool.or_eq_false_iff]at this;exact(aeX _).1 this.1
  ·have:=key (i+1) hi;rw[Ie]at this;unfold xp at this;rw[Bool.or_eq_false_iff]at this;have h2:=this.2;simp only[Nat.succ_ne_zero,dif_neg,not_false_eq_true,Option.any_some,Nat.add_sub_cancel,Bool.or_eq_false_iff,dN,Bool.and_eq_false_iff,beq_eq_false_iff_ne]at h2;refine⟨by omega,λ⟨e1,e2⟩=>?_⟩;rcases h2.2 with h3 |h3
   ·exact h3 e1
   ·exact h3 e2
 ·rintro⟨h1,h2⟩ p hp;obtain⟨i,hi,rfl⟩:=mem_iff_getElem.1 hp;rw[Ie];rw[pX]at hi;unfold xp;have hb:=(aeX _).2 (h1 _ (getElem_mem hi));by_cases h0:i=0
  ·simp[h0]at hb ⊢;exact hb
  ·obtain⟨j,rfl⟩:∃j,i=j+1:=⟨i -1,by omega⟩;have⟨n1,n2⟩:=h2 j hi;simp only[Nat.succ_ne_zero,dif_neg,not_false_eq_true,Option.any_some,Nat.add_sub_cancel];rw[hb];simp only[Bool.false_or,Bool.or_eq_true,aT,aJ,beq_iff_eq];rintro (h |h)
   ·omega
   ·exact n2 h
theorem tZ{l:List fJ}{φ:(fJ×Unit)->Option Bool}(p:fJ->Bool)(h:∀x∈l,φ (x,())=some (p x))(hl:l.length<1099511627776)(hn:l.length<n):ji n l φ=some (l.any p):=by
 unfold ji uR;have:=tL (l:=l) (step:=mD l φ) (λ i=>(i:Int)) p () (λ i=>(i:Int)) (λ i hi=>?_) (by simp[mD]) n hn
 ·rw[show ((0:Nat):Int)=0 from rfl]at this;rw[this,<- RU];cases pq p l with
  |none=>rfl
  |some i=>simp<;>omega
 ·have hi':decide ((i:Int)<(l.length:Int))=true:=by simpa using hi
  simp only[mD,hi',aj,bB hi,ah,h _ (getElem_mem hi)];rw[aR (by omega)];cases p l[i]<;>rfl
def J0(s:List fJ)(lot:Int)(e:ko):Bool:=e.lot==lot&&(cI e.area&&s.any λc=>decide (c.z1>e.top)&&H2 c.area e.area)
def Yx(l:List ko)(lot:Int)(s:List fJ):Bool:=DY s&&!(l.any (J0 s lot))
theorem Z5{l:List ko}{lot:Int}{s:List fJ}(hl:l.length<=900)(he:∀e∈l,e.area.length<=900)(ha:∀x∈s,x.area.length<=900)(hn:1000<=n):Hz n l lot s=some (Yx l lot s):=by
 unfold Hz Yx;rw[Ud ha hn];simp only[ah];cases hr:DY s with
 |false=>rfl
 |true=>
 have l80:=((NR s).1 hr).1;have:=tL (l:=l) (step:=wZ n l lot s) (λ i=>(i:Int)) (J0 s lot) () (λ _=>false) (λ i hi=>?_) (by simp[wZ]) n (by omega)
 ·rw[show ((0:Nat):Int)=0 from rfl]at this;simp only[Bool.not_true,ak];rw[this,<- RU];cases pq (J0 s lot) l<;>rfl
 ·have hi':decide ((i:Int)<(l.length:Int))=true:=by simpa using hi
  have h1:=he _ (getElem_mem hi);have cf:=tZ (n:=n) (l:=s) (φ:=λy:fJ×Unit=>rQ n y.1 l[i]) (λ c=>decide (c.z1>l[i].top)&&H2 c.area l[i].area) (λ c hc=>by
   have:=ha c hc;show rQ n c l[i]=_;unfold rQ;rw[ag0 (by omega) (by omega) (by omega) (by omega)];cases decide (c.z1>l[i].top)<;>rfl) (by omega) (by omega)
  simp only[wZ,hi',aj,bB hi,ah,mH (n:=n) (l:=l[i].area) (by omega) (by omega) hn,cf];rw[aR (by omega)];unfold J0;cases h2:l[i].lot==lot with
  |false=>
   have:(l[i].lot !=lot)=true:=(by simp[bne,h2]);simp[this,dw]
  |true=>
   have:(l[i].lot !=lot)=false:=(by simp[bne,h2]);simp only[this,ak,ah];cases cI l[i].area with
   |false=>simp[dw]
   |true=>cases s.any λc=>decide (c.z1>l[i].top)&&H2 c.area l[i].area<;>simp[dw]
theorem aeY(r:ay):d5 r=true↔(0<=r.x0/\r.x0<r.x1/\r.x1<=1048576)/\(0<=r.y0/\r.y0<r.y1/\r.y1<=1048576):=by simp only[d5,aJ,aT];omega
theorem Ms{b:ay}{l:List dU}(r:ay)(x:Int)(hb:d5 b=true)(hp:∀p∈l,Yt p=true)(hr:d5 r=true)(hx:0<=x/\x<1048576)(hl:l.length<=1000)(hn:2000<=n)(v:Int):
 iter (oJ n b l r x) n (v,(0:Int))=some (min (min v (Z4 b l x r.y0)) (Z4 b l x (r.y1 -1))):=by
 have ho:=(aeY r).1 hr;have w:i64.wrap (r.y1 -1)=r.y1 -1:=bU (by omega) (by omega);have:=nH (l:=[r.y0,r.y1 -1]) (step:=oJ n b l r x) (λ i (s:Int)=>(s,(i:Int))) (λ y m=>min m (Z4 b l x y)) (λ s=>s) (λ i hi s=>?_) (λ s=>by simp[oJ]) n (by simp;omega) v
 ·rw[show ((0:Nat):Int)=0 from rfl]at this;exact this
 ·have h2:i<2:=by simpa using hi
  have yb:0<=([r.y0,r.y1 -1]:List Int)[i]/\([r.y0,r.y1 -1]:List Int)[i] <1048576:=by
   rcases i with _ |_ |i
   ·simp only[List.getElem_cons_zero];omega
   ·simp only[List.getElem_cons_succ,List.getElem_cons_zero];omega
   ·omega
  simp only[oJ,show decide ((i:Int)<2)=true from decide_eq_true (by omega),dR h2,aj,bE h2,w,bM hi,ah,acS hb hp ⟨hx,yb⟩ hl hn,aW i]
def S3(b:ay)(l:List dU)(v:Int)(r:ay):Int:=min (min (min (min v (Z4 b l r.x0 r.y0)) (Z4 b l r.x0 (r.y1 -1))) (Z4 b l (r.x1 -1) r.y0)) (Z4 b l (r.x1 -1) (r.y1 -1))
theorem Mt{b:ay}{l:List dU}(r:ay)(hb:d5 b=true)(hp:∀p∈l,Yt p=true)(hr:d5 r=true)(hl:l.length<=1000)(hn:2000<=n)(v:Int):
 iter (oK n b l r) n (v,(0:Int))=some (S3 b l v r):=by
 have ho:=(aeY r).1 hr;have w:i64.wrap (r.x1 -1)=r.x1 -1:=bU (by omega) (by omega);have:=nH (l:=[r.x0,r.x1 -1]) (step:=oK n b l r) (λ i (s:Int)=>(s,(i:Int))) (λ x m=>min (min m (Z4 b l x r.y0)) (Z4 b l x (r.y1 -1))) (λ s=>s) (λ i hi s=>?_) (λ s=>by simp[oK]) n (by simp;omega) v
 ·rw[show ((0:Nat):Int)=0 from rfl]at this;exact this
 ·have h2:i<2:=by simpa using hi
  have xb:0<=([r.x0,r.x1 -1]:List Int)[i]/\([r.x0,r.x1 -1]:List Int)[i] <1048576:=by
   rcases i with _ |_ |i
   ·simp only[List.getElem_cons_zero];omega
   ·simp only[List.getElem_cons_succ,List.getElem_cons_zero];omega
   ·omega
  simp only[oK,show decide ((i:Int)<2)=true from decide_eq_true (by omega),dR h2,aj,bE h2,w,bM hi,ah,Ms r _ hb hp hr xb hl hn,aW i]
def JT(b:ay)(l:List dU)(a:List ay):Int:=a.foldl (S3 b l) 4096
theorem UF{b:ay}{l:List dU}{a:List ay}(hb:d5 b=true)(hp:∀p∈l,Yt p=true)(ha:∀r∈a,d5 r=true)(hal:a.length<=1000)(hl:l.length<=1000)(hn:2000<=n):zL n b l a=some (JT b l a):=by
 unfold zL;have:=nH (l:=a) (step:=sG n b l a) (λ i (s:Int)=>(s,(i:Int))) (λ r m=>S3 b l m r) (λ s=>s) (λ i hi s=>?_) (λ s=>by simp[sG]) n (by omega) 4096
 ·rw[show ((0:Nat):Int)=0 from rfl]at this;rw[this];rfl
 ·simp only[sG,dR hi,aj,bB hi,ah,Mt a[i] hb hp (ha _ (getElem_mem hi)) hl hn,aW i]
theorem amI(r:ay):d5 r=true↔(0<=r.x0/\r.x0<r.x1/\r.x1<=1048576)/\(0<=r.y0/\r.y0<r.y1/\r.y1<=1048576):=by simp only[d5,aJ,aT];omega
def four(r m:ay):List ay:=[⟨r.x0,r.y0,m.x0,r.y1⟩,⟨m.x1,r.y0,r.x1,r.y1⟩,⟨m.x0,r.y0,m.x1,m.y0⟩,⟨m.x0,m.y1,m.x1,r.y1⟩]
abbrev B9(t:gK):Prop:=t.area.length<=900/\t.from_.length*8<=140737488355328
theorem ag7{t:gK}(h:B9 t):Px t=some t:=by
 unfold Px;have h2:=h.2;rw[RL (by omega),ah,show G7 t.from_=some t.from_ from TU (b:=8) (by omega) (by simp only[maxLen];omega),ah];simp only[cZ,aG,aj]
theorem ajE{land:List gK}{id:Int}(h:∀t∈land,B9 t)(hl:land.length<1099511627776)(hn:land.length<n):Py n land id=some (nE land id):=by
 unfold Py;have:=tL (l:=land) (step:=G8 land id) (λ i=>(i:Int)) (λ t=>t.id==id) () (λ i=>(land.getD i Tr,true)) (λ i hi=>?_) ?_ n hn
 ·rw[show ((0:Nat):Int)=0 from rfl]at this;rw[this];unfold nE;rcases Yp (λ t:gK=>t.id==id) land with ⟨i,hi,h1,h2⟩ |⟨h1,h2⟩
  ·rw[h1,h2];simp[hi]
  ·rw[h1,h2];rfl
 ·simp only[G8,dR hi,aj,bB hi,ah,ag7 (h _ (getElem_mem hi))];cases land[i].id==id with
  |true=>simp[hi]
  |false=>simp only[ak];rw[aR (by omega)]
 ·simp[G8]
theorem R6{land:List gK}(h:∀t∈land,B9 t)(id:Int):B9 (nE land id).1:=by
 unfold nE;split
 ·rename_i t ht;exact h t (List.mem_of_find?_eq_some ht)
 ·simp[B9,Tr]
structure aoI(t:dh):Prop where
 rules:t.az.length<=20
 NX:∀r∈t.az,Ib r
 zones:t.b8.length<=20
 land:t.land.length<=20
 lots:∀l∈t.land,B9 l
 cp:t.cp.length<=5
 aoL:∀e∈t.cp,e.area.length<=10
theorem Ue{α:Type}(p:α->Bool):∀l:List α,((List.range l.length).filter λi=>(l[i]?).any p).filterMap (λ i=>l[i]?)=l.filter p
 |[]=>rfl
 |a::l=>by
  have ih:=Ue p l;rw[bF,List.range_succ_eq_map,List.filter_cons,List.filter_cons];have e:(List.filter (λ i=>((a::l)[i]?).any p) (List.map Nat.succ (List.range l.length))).filterMap (λ i=>(a::l)[i]?)=l.filter p:=by
   rw[List.filter_map,List.filterMap_map];exact ih
  cases hp:p a with
  |true=>simp[hp];simpa using e
  |false=>simp[hp];simpa using e
def DQ(a r:ay):ay:=⟨min a.x0 r.x0,min a.y0 r.y0,max a.x1 r.x1,max a.y1 r.y1⟩
def ait:List ay->ay
 |[]=>⟨0,0,0,0⟩
 |r::l=>l.foldl DQ r
def VK(a:List ay):ay×Bool:=bif decide (a≠[])&&cI a then(ait a,true)else(⟨0,0,0,0⟩,false)
theorem aeZ{a:List ay}(ha:a≠[])(hv:∀r∈a,d5 r=true)(hl:a.length<=900)(hn:2000<=n):PW n a=some (ait a,true):=by
 unfold PW;have:=nH (l:=a.zip (List.range a.length)) (step:=CX a) (λ i (s:Bool×Int×Int×Int×Int)=>(s.1,(i:Int),s.2)) (λ p s=>bif !s.1 then(true,p.1.x0,p.1.y0,p.1.x1,p.1.y1)else(s.1,min s.2.1 p.1.x0,min s.2.2.1 p.1.y0,max s.2.2.2.1 p.1.x1,max s.2.2.2.2 p.1.y1)) (λ s=>s) (λ i hi s=>?_) (λ s=>?_) n (by simp;omega) (false,0,0,0,0)
 ·rw[show ((0:Nat):Int)=0 from rfl]at this;simp only at this;rw[this];cases a with
  |nil=>exact absurd rfl ha
  |cons r l=>
   have gen:∀(l:List ay) (k:List Nat) (s:ay),l.length<=k.length->(l.zip k).foldl (λ (s:Bool×Int×Int×Int×Int) p=>bif !s.1 then(true,p.1.x0,p.1.y0,p.1.x1,p.1.y1)else(s.1,min s.2.1 p.1.x0,min s.2.2.1 p.1.y0,max s.2.2.2.1 p.1.x1,max s.2.2.2.2 p.1.y1)) (true,s.x0,s.y0,s.x1,s.y1)=(true,(l.foldl DQ s).x0,(l.foldl DQ s).y0,(l.foldl DQ s).x1,(l.foldl DQ s).y1):=by
    intro l
    induction l with
    |nil=>intro k s _;rfl
    |cons r l ih=>
     intro k s hk;cases k with
     |nil=>simp at hk
     |cons j k=>
      rw[List.zip_cons_cons,foldl_cons,foldl_cons];exact ih k (DQ s r) (by simpa using hk)
   rw[bF,List.range_succ_eq_map,List.zip_cons_cons,foldl_cons];simp only[Bool.not_false,aj];rw[gen l _ r (by simp)];rfl
 ·have hi':i<a.length:=by simpa using hi
  obtain⟨s1,s2,s3,s4,s5⟩:=s;have ok:=hv _ (getElem_mem hi');simp only[CX,dR hi',aj,bB hi',ah,jE,ok,Bool.not_true,ak,P6,List.getElem_zip,aW i]
 ·obtain⟨s1,s2,s3,s4,s5⟩:=s;have:(a.zip (List.range a.length)).length=a.length:=by simp
  simp only[this,CX,fO,ak]
theorem acT(a:List ay)(hl:a.length<=900)(hn:2000<=n):LZ n a=some (VK a):=by
 unfold LZ VK;cases a with
 |nil=>rfl
 |cons r l=>
  have e:((((r::l).length:Nat):Int)==0)=false:=by simp;omega
  have e2:decide (r::l≠[])=true:=by simp
  rw[mH (by omega) (by omega) (by omega),e,e2];simp only[ak,ah,Bool.true_and];cases hr:cI (r::l)with
  |false=>rfl
  |true=>
   simp only[Bool.not_true,ak];rw[aeZ (by simp) (uX hr).1 hl hn];rfl
theorem Md{V O:Type}{step:V->Option (V⊕O)}(f:Nat->V){s:V}(N:Nat)(o:O)(h0:s=f 0)
 (h1:∀i,i<N->step (f i)=some (.inl (f (i+1)))) (h2:step (f N)=some (.inr o)) (n:Nat) (hn:N<n):iter step n s=some o:=by rw[h0];exact nu f N o h1 h2 n hn
def tb(f:Nat->Nat->Bool):List Bool:=(List.range 144).map λi=>f (i/12) (i%12)
def upd(f:Nat->Nat->Bool)(a b:Nat)(v:Bool):Nat->Nat->Bool:=λx y=>if x=a/\y=b then v else f x y
inductive Tc(e:Nat->Nat->Bool):Nat->Nat->Prop
 |one {a b:Nat}:a<12->b<12->e a b=true->Tc e a b
 |trans {a b c:Nat}:Tc e a b->Tc e b c->Tc e a c
theorem Tc.lt{e:Nat->Nat->Bool}{a b:Nat}(h:Tc e a b):a<12/\b<12:=by
 induction h with
 |one h1 h2 _=>exact⟨h1,h2⟩
 |trans _ _ i1 i2=>exact⟨i1.1,i2.2⟩
def iq(v:aF):ay:=ay.mk v.bx v.cd v.bu v.ca
def okV(v:aF):Bool:=d5 (iq v)&&(decide (0<=v.ek)&&(decide (v.ek<v.dC)&&(decide (v.dC<=4096)&&((decide (v.use=0) || decide (v.units=0))&&(decide (0<=v.use)&&(decide (v.use<6)&&(decide (0<=v.units)&&decide (v.units<=1048576))))))))
theorem u6(v:aF):gq v=some (okV v):=by
 unfold gq okV;rw[jE];have e1:decide (v.ek<0)=!decide (0<=v.ek):=by rw[<- decide_not,decide_eq_decide];omega
 have e2:decide (v.ek>=v.dC)=!decide (v.ek<v.dC):=by rw[<- decide_not,decide_eq_decide];omega
 have e3:decide (v.dC>4096)=!decide (v.dC<=4096):=by rw[<- decide_not,decide_eq_decide];omega
 have e4:(v.use !=0)=!decide (v.use=0):=by by_cases h:v.use=0<;>simp[h]
 have e5:(v.units !=0)=!decide (v.units=0):=by by_cases h:v.units=0<;>simp[h]
 rw[e1,e2,e3,e4,e5,show ay.mk v.bx v.cd v.bu v.ca=iq v from rfl];simp only[ge_iff_le];generalize d5 (iq v)=a1;generalize decide (0<=v.ek)=a2;generalize decide (v.ek<v.dC)=a3;generalize decide (v.dC<=4096)=a4;generalize decide (v.use=0)=a5;generalize decide (v.units=0)=a6;generalize decide (0<=v.use)=a7;generalize decide (v.use<6)=a8;generalize decide (0<=v.units)=a9;generalize decide (v.units<=1048576)=js;cases a1<;>cases a2<;>cases a3<;>cases a4<;>cases a5<;>cases a6<;>cases a7<;>cases a8<;>cases a9<;>rfl
theorem Qi{v:aF}(h:okV v=true):d5 (iq v)=true:=by rw[okV,aJ]at h;exact h.1
def kQ(d:aV):List aF:=d.phases.flatMap (·.cx)
theorem Qj{l:List iJ}(h:∀p∈l,p.cx.length<=1000):(l.flatMap (·.cx)).length<=l.length*1000:=by
 induction l with
 |nil=>simp
 |cons p l ih=>
  have h1:=h p (by simp);have h2:=ih λq hq=>h q (by simp[hq]);simp only[List.flatMap_cons,dH,bF];omega
def Z6(d:aV):Prop:=d.phases.length<=1000/\∀p∈d.phases,p.cx.length<=1000
theorem Yy{d:aV}(h:Z6 d)(hn:1001<=n):oG n d 0 (d.phases.length:Int)=some (kQ d):=by
 obtain⟨h1,h2⟩:=h;unfold oG;have key:=Md (step:=nY d 0 (d.phases.length:Int)) (λ i=>((i:Int),(d.phases.take i).flatMap (·.cx))) (s:=((0:Int),([]:List aF))) d.phases.length (kQ d) rfl (λ i hi=>by
  have e2:decide ((i:Int)>=0)=true:=by simp
  have hl:=Qj (l:=d.phases.take i) λp hp=>h2 p (List.mem_of_mem_take hp);rw[length_take]at hl;have hv:=h2 _ (getElem_mem hi);generalize hL:(d.phases.take i).flatMap (·.cx)=L at hl;have hap:bR L.length L.length d.phases[i].cx.length d.phases[i].cx.length 72=true:=eX (by omega) (by simp only[maxLen];omega);simp only[nY,dR hi,aj,bB hi,ah,e2,hap,fG,aG,aW i];rw[j4 hi,List.flatMap_append,hL];simp only[List.flatMap_cons,List.flatMap_nil,append_nil]) (by simp only[nY,fO,ak,aG,aj,List.take_length,kQ]) n (by omega)
 have hz:bk 0 ([]:List aF).length=true:=rfl;simp only[hz,aj,key,ah,cZ,aG]
def To(v:aF):Int:=(lH v).getD 0
theorem Yz(v:aF):lH v=some (To v):=by
 unfold To lH;rw[u6];cases v.extra<;>cases okV v<;>rfl
def Mm(v:aF):Int:=(oV v).getD 0
theorem ae0(v:aF):oV v=some (Mm v):=by
 unfold Mm oV;rw[u6,Yz];cases h:okV v with
 |false=>rfl
 |true=>
  have e:=FP (Qi h);unfold iq at e;simp only[ah,Bool.not_true,ak,e,Option.getD_some]
theorem anV(a0:List fK)(a1:List bZ)(a2:List dY)(a4:List iw)(a5:List fI)(a6:List bX)(a7:Int)(a8:List ay){a9:List aF}(hl:a9.length<=1000)(hn:1001<=n):∃r,∀a3:List aM,kS n a0 a1 a2 a3 a4 a5 a6 a7 a8 a9=some (r,a0,a1,a2,a3,a4,a5,a6,a7,a8,a9):=by
 have key:=nH (l:=a9) (step:=jM a9) (λ i (s:Int)=>(s,(i:Int))) (λ v s=>i64.wrap (s+Mm v)) (λ s=>s) (λ i hi s=>by simp only[jM,dR hi,aj,bE hi,bM hi,ah,ae0,aW i]) (λ s=>by simp only[jM,fO,ak]) n (by omega) 0;rw[show ((0:Nat):Int)=0 from rfl]at key;unfold kS qV;simp only[key,ah,aG,aj];exact⟨_,λ_=>rfl⟩
theorem anW(a0:List fK)(a1:List bZ)(a2:List dY)(a4:List iw)(a5:List fI)(a6:List bX)(a7:Int)(a8:List ay){a9:List aF}(hl:a9.length<=1000)(hn:1001<=n):∃r,∀a3:List aM,kT n a0 a1 a2 a3 a4 a5 a6 a7 a8 a9=some (r,a0,a1,a2,a3,a4,a5,a6,a7,a8,a9):=by
 have key:=nH (l:=a9) (step:=jP a9) (λ i (s:Int)=>(s,(i:Int))) (λ v s=>i64.wrap (s+v.units)) (λ s=>s) (λ i hi s=>by simp only[jP,dR hi,aj,bE hi,bM hi,ah,o8,aW i]) (λ s=>by simp only[jP,fO,ak]) n (by omega) 0;rw[show ((0:Nat):Int)=0 from rfl]at key;unfold kT qW;simp only[key,ah,aG,aj];exact⟨_,λ_=>rfl⟩
theorem aly(a0:List fK)(a1:List bZ)(a2:List dY)(a4:List iw)(a5:List fI)(a6:List bX)(a7:Int)(a8:List ay){a9:List aF}(hl:a9.length<=1000)(hn:1001<=n):∃r,∀a3:List aM,jN n a0 a1 a2 a3 a4 a5 a6 a7 a8 a9=some (r,a0,a1,a2,a3,a4,a5,a6,a7,a8,a9):=by
 have key:=nH (l:=a9) (step:=gZ a9) (λ i (s:Int)=>(s,(i:Int))) (λ v s=>max s (To v)) (λ s=>s) (λ i hi s=>by simp only[gZ,dR hi,aj,bE hi,bM hi,ah,Yz,aW i]) (λ s=>by simp only[gZ,fO,ak]) n (by omega) 0;rw[show ((0:Nat):Int)=0 from rfl]at key;unfold jN mW;simp only[key,ah,aG,aj];exact⟨_,λ_=>rfl⟩
theorem alz(a0:List fK)(a1:List bZ)(a2:List dY)(a4:List iw)(a5:List fI)(a6:List bX)(a7:Int)(a8:List ay){a9:List aF}(hl:a9.length<=1000)(hn:1001<=n):∃r,∀a3:List aM,jO n a0 a1 a2 a3 a4 a5 a6 a7 a8 a9=some (r,a0,a1,a2,a3,a4,a5,a6,a7,a8,a9):=by
 have key:=nH (l:=a9) (step:=ic a9) (λ i (s:Int)=>(s,(i:Int))) (λ v s=>max s v.dC) (λ s=>s) (λ i hi s=>by simp only[ic,dR hi,aj,bE hi,bM hi,ah,om,aW i]) (λ s=>by simp only[ic,fO,ak]) n (by omega) 0;rw[show ((0:Nat):Int)=0 from rfl]at key;unfold jO mX;simp only[key,ah,aG,aj];exact⟨_,λ_=>rfl⟩
theorem ajF(e:bP)(a:LV){u:Int}(h0:0<=u)(h6:u<6):∃b,kK e a u=some b:=by
 obtain⟨k,rfl⟩:∃k:Nat,u=(k:Int):=⟨u.toNat,by omega⟩;have hk:k<6:=by omega
 unfold kK;rw[bE hk,bB (l:=[a.a0,a.a1,a.a2,a.a3,a.a4,a.a5]) hk];exact⟨_,rfl⟩
theorem Ig{l:List bP}{φ:(bP×Unit)->Option Bool}(p:bP->Bool)(h:∀x∈l,φ (x,())=some (p x))(hl:l.length<=9223372036854775807)(hn:l.length<n):kL n l φ=some (Dz p l):=II p h hl hn
theorem anX(p:cO){u:Int}(h0:0<=u)(h6:u<6)(ht:p.tables.length<n)(ht2:p.tables.length<=9223372036854775807)(hr:∀t∈p.tables,t.rows.length<n/\t.rows.length<=9223372036854775807):∃r,CQ n p u=some r:=by
 have key:∃o,iter (kM n p u) n (0:Int)=some o/\True:=by
  have step:∀i (hi:i<p.tables.length),kM n p u (i:Int)=some (.inl ((i+1:Nat):Int))\/∃z,kM n p u (i:Int)=some (.inr (.inr z)):=by
   intro i hi;obtain⟨r1,r2⟩:=hr _ (getElem_mem hi);simp only[kM,dR hi,aj,bB hi,ah,aW i];cases ByteArray.toList p.tables[i].name==ByteArray.toList ⟨#[116,114,97,102,102,105,99]⟩with
   |false=>exact Or.inl rfl
   |true=>
    right;simp only[Bool.not_true,ak];generalize LV.mk _ _ _ _ _ _=A;have hx:=Ig (n:=n) (l:=p.tables[i].rows) (φ:=λy1=>kK y1.1 A u) (λ e=>(kK e A u).getD false) (λ e _=>by have⟨b,hb⟩:=ajF e A h0 h6;simp[hb]) r2 r1;rw[hx];simp only[ah,zo];cases hany:p.tables[i].rows.any λe=>(kK e A u).getD false with
    |false=>exact⟨_,rfl⟩
    |true=>
     have⟨j,hj,h1,_⟩:=akS hany;rw[h1];simp only[aj,bB hj,ah];exact⟨_,rfl⟩
  have main:∀k i m,i+k=p.tables.length->k<m->∃o,iter (kM n p u) m (i:Int)=some o/\True:=by
   intro k
   induction k with
   |zero=>
    intro i m hi hm;obtain⟨q,rfl⟩:∃q,m=q+1:=⟨m -1,by omega⟩;have:i=p.tables.length:=(by omega);subst this;exact⟨.inl (),bJ (by simp only[kM,fO,ak]),trivial⟩
   |succ k ih=>
    intro i m hi hm;obtain⟨q,rfl⟩:∃q,m=q+1:=⟨m -1,by omega⟩;rcases step i (by omega)with h |⟨z,h⟩
    ·rw[dx h];exact ih (i+1) q (by omega) (by omega)
    ·exact⟨_,bJ h,trivial⟩
  exact main p.tables.length 0 n (by omega) ht
 obtain⟨o,h1,_⟩:=key;unfold CQ;rw[h1];cases o with
 |inl w=>exact⟨_,rfl⟩
 |inr r=>exact⟨_,rfl⟩
theorem ag8(p:cO){v:aF}(hv:okV v=true)(ht:p.tables.length<n)(ht2:p.tables.length<=9223372036854775807)(hr:∀t∈p.tables,t.rows.length<n/\t.rows.length<=9223372036854775807):∃r,lI n p v=some r:=by
 simp only[okV,aJ,aT]at hv;have⟨r,h1⟩:=anX (n:=n) p (u:=v.use) hv.2.2.2.2.2.1 hv.2.2.2.2.2.2.1 ht ht2 hr;unfold lI;rw[h1,ae0];simp only[ah];have e100:((100:Int) !=0)=true:=rfl;by_cases h:r>0
 ·have e:(r !=0)=true:=by simp only[bne_iff_ne,ne_eq];omega
  have e2:decide (r>0)=true:=by simpa using h
  rw[e,e2];simp only[aj,ah,e100];cases decide (Mm v>i64.wrap (Int.tdiv 109951162777600 r))<;>exact⟨_,rfl⟩
 ·have e2:decide (r>0)=false:=by simpa using h
  rw[e2];exact⟨_,rfl⟩
theorem anY(a0:List fK)(a1:List bZ)(a2:List dY)(a4:List iw)(a5:List fI)(a6:List bX)(a7:Int)(a8:List ay){a9:List aF}(hl:a9.length<=1000)(hn:1001<=n)(hv:∀v∈a9,okV v=true)(ht:a1.length<n)(ht2:a1.length<=9223372036854775807)(hr:∀t∈a1,t.rows.length<n/\t.rows.length<=9223372036854775807):∃r,∀a3:List aM,jw n a0 a1 a2 a3 a4 a5 a6 a7 a8 a9=some (r,a0,a1,a2,a3,a4,a5,a6,a7,a8,a9):=by
 have key:=λa3:List aM=>gm (l:=a9) (step:=jR n a9) (λ i (s:Int)=>(s,(i:Int),a0,a1,a2,a3,a4,a5,a6,a7,a8,a9)) (λ v s=>i64.wrap (s+(lI n (cO.mk a0 a1 a2 [] a4 a5 a6 a7) v).getD 0)) (λ s=>(s,a0,a1,a2,a3,a4,a5,a6,a7,a8,a9)) (λ _ _=>True) (λ i hi s _=>⟨by
  obtain⟨r,h1⟩:=ag8 (n:=n) (cO.mk a0 a1 a2 [] a4 a5 a6 a7) (hv _ (getElem_mem hi)) ht ht2 hr;have h2:lI n (cO.mk a0 a1 a2 a3 a4 a5 a6 a7) a9[i]=some r:=h1;simp only[jR,dR hi,aj,bE hi,bM hi,ah,kN,h1,h2,aG,aW i,Option.getD_some],trivial⟩) (λ s _=>by simp only[jR,fO,ak,aG,aj]) n (by omega) 0 trivial
 have key:=λa3=>(show ((0:Nat):Int)=0 from rfl) ▸ key a3;unfold jw qX;simp only[key,ah,aG,aj];exact⟨_,λ_=>rfl⟩
theorem alA{α β:Type}(l:List α)(f:α->β)(z:β){i:Nat}(hi:i<l.length):((l.take i).map f++List.replicate (l.length -i) z).set i (f l[i])=(l.take (i+1)).map f++List.replicate (l.length -(i+1)) z:=by
 have h1:((l.take i).map f).length=i:=by simp;omega
 rw[List.set_append_right _ _ (by omega),h1,Nat.sub_self,show l.length -i=(l.length -(i+1))+1 by omega,List.replicate_succ,List.set_cons_zero,j4 hi,List.map_append,aK];rfl
theorem alB{α β:Type}(l:List α)(f:α->β)(z:β){i:Nat}(hi:i<=l.length):((l.take i).map f++List.replicate (l.length -i) z).length=l.length:=by simp;omega
theorem alC{α β:Type}(l:List α)(f:α->β)(z:β){i:Nat}(hi:i<l.length):((l.take (i+1)).map f++List.replicate (l.length -(i+1)) z)[i]? =some (f l[i]):=by rw[List.getElem?_append_left (by simp;omega)];simp[hi]
theorem alD{l:List aF}(hl:l.length<=1000)(hn:1001<=n):iter (gF l) n ((0:Int),List.replicate l.length (ay.mk 0 0 0 0),([]:List Int))=some (l.map iq,l.flatMap λv=>[v.bx,v.bu]):=by
 refine Md (step:=gF l) (λ i=>((i:Int),(l.take i).map iq++List.replicate (l.length -i) (ay.mk 0 0 0 0),(l.take i).flatMap λv=>[v.bx,v.bu])) l.length _ ?_ (λ i hi=>?_) ?_ n (by omega)
 ·simp
 ·have h1:=alB l iq (ay.mk 0 0 0 0) (Nat.le_of_lt hi);have h2:=alA l iq (ay.mk 0 0 0 0) hi;have h3:=alC l iq (ay.mk 0 0 0 0) hi;have h4:((l.take i).flatMap λv=>[v.bx,v.bu]).length=2*i:=by
   have:∀m:List aF,(m.flatMap λv=>[v.bx,v.bu]).length=2*m.length:=by
    intro m;induction m with
    |nil=>rfl
    |cons a m ih=>simp only[List.flatMap_cons,dH,ih,bF,length_nil];omega
   rw[this,length_take];omega
  generalize (l.take i).map iq++List.replicate (l.length -i) (ay.mk 0 0 0 0)=B at h1 h2;have e0:(((0:Nat):Int)+(i:Int)).toNat=i:=by omega
  have et:((l.length:Int):Int).toNat=l.length:=by omega
  have hb:ay.mk l[i].bx l[i].cd l[i].bu l[i].ca=iq l[i]:=rfl;have hiB:i<B.length:=by omega
  rw[<- h2]at h3;have g3:bo (B.set i (iq l[i])) (((0:Nat):Int)+(i:Int))=some (iq l[i]):=by rw[zm];exact h3
  have hs:sub ([(iq l[i]).x0,(iq l[i]).x1]:List Int) 0 2=[(iq l[i]).x0,(iq l[i]).x1]:=rfl;have hap:bR (2*i) (2*i) 2 2 8=true:=eX (by omega) (by simp only[maxLen];omega);have hl2:([(iq l[i]).x0,(iq l[i]).x1]:List Int).length=2:=rfl;simp only[gF,dR hi,aj,bE hi,bM hi,ah,et,bM hiB,e0,hb,g3,hs,hl2,h4,hap,fG,aG,aW i];rw[<- h2,j4 hi,List.flatMap_append];rfl
 ·simp only[gF,fO,ak,aG,aj,List.take_length];simp
theorem alE{l:List aF}{R:List ay}{X:List Int}(w2:List Int)(hR:R.length=l.length)(hX:X.length=w2.length)(hl:l.length<=1000)(hn:1001<=n){k:Nat}(hk:k+1<w2.length)(hw:w2.length<=10000)(s:Int):∃o,iter (jd l w2 R X (k:Int)) n (s,(0:Int),(0:Int))=some o/\True:=by
 refine Qf (λ i (v:Int×Int×Int)=>v.2.2=(i:Int)) l.length (λ _=>True) (λ i v hi hv=>?_) (λ v hv=>?_) n (by omega) _ rfl
 ·obtain⟨a,b,c⟩:=v;simp only at hv;subst hv;have et:(((l.length:Int):Int).toNat)=l.length:=by omega
  have ew:i64.wrap ((k:Int)+1)=((k+1:Nat):Int):=aR (by omega);simp only[jd,et,dR hi,aj,bE hi,bM (show i<R.length by omega),ah,bE (show k<w2.length by omega),bM (show k<X.length by omega),ew,bE hk,bM (show k+1<X.length by omega),aW i];cases decide ((R[i]'(by omega)).x0<=X[k]'(by omega))with
  |false=>exact⟨_,rfl,rfl⟩
  |true=>
   simp only[aj,ah];cases decide (X[k]'(by omega)<(R[i]'(by omega)).x1)with
   |false=>exact⟨_,rfl,rfl⟩
   |true=>
    simp only[aj,ah];cases decide ((R[i]'(by omega)).y1>b)<;>exact⟨_,rfl,rfl⟩
 ·obtain⟨a,b,c⟩:=v;simp only at hv;subst hv;have et:(((l.length:Int):Int).toNat)=l.length:=by omega
  simp only[jd,et,fO,ak];exact⟨_,rfl,trivial⟩
theorem alF(a0:List fK)(a1:List bZ)(a2:List dY)(a4:List iw)(a5:List fI)(a6:List bX)(a7:Int)(a8:List ay){a9:List aF}(hl:a9.length<=1000)(hn:10000<=n):∃r,∀a3:List aM,iQ n a0 a1 a2 a3 a4 a5 a6 a7 a8 a9=some (r,a0,a1,a2,a3,a4,a5,a6,a7,a8,a9):=by
 have et:(((a9.length:Int):Int).toNat)=a9.length:=by omega
 have mk:BH (a9.length:Int) 32=true:=aiq (by omega) (by simp only[maxLen];omega);have d1:decide ((a9.length:Int)<=(a9.length:Int))=true:=by simp
 have d2:decide (0<=(a9.length:Int))=true:=by simp
 have hz:bk 0 ([]:List Int).length=true:=rfl;have hx:(a9.flatMap λv=>[v.bx,v.bu]).length<=2000:=by
  have:∀m:List aF,(m.flatMap λv=>[v.bx,v.bu]).length=2*m.length:=by
   intro m;induction m with
   |nil=>rfl
   |cons a m ih=>simp only[List.flatMap_cons,dH,ih,bF,length_nil];omega
  rw[this];omega
 unfold iQ;rw[et,alD hl (by omega)];generalize (a9.flatMap λv=>[v.bx,v.bu])=W at hx;have srt:=Mr (n:=n) (l:=a9.map iq) (φ:=λy1=>iP y1.1 y1.2.1) (λ x y=>if x.y0<y.y0 then -1 else if y.y0<x.y0 then 1 else 0) (λ x y=>by
  show iP x y=_;unfold iP;rw[kP];rfl) (λ x y=>by
  unfold ur;rw[decide_eq_decide];constructor
  ·intro h;split at h
   ·assumption
   ·split at h<;>omega
  ·intro h;rw[aP h];decide) (by simp;omega) (by simp;omega)
 have hm:bk a9.length (a9.map iq).length=true:=by simp
 have hR:(AJ ur (a9.map iq)).length=a9.length:=by rw[Po ais];simp
 have hX:(kY mn W).length=W.length:=(NI mn W).length_eq;simp only[d1,d2,mk,Bool.and_self,aj,hz,ah,hm,srt,aG,pW (show W.length<1099511627776 by omega) (show W.length<n by omega)];generalize AJ ur (a9.map iq)=R at hR;generalize kY mn W=X at hX;have key:∃o,iter (je n a9 W R X) n ((0:Int),(0:Int))=some o/\True:=by
  have eN:max (0:Int) (i64.wrap ((W.length:Int) -1))=((W.length -1:Nat):Int):=by
   cases h:W.length with
   |zero=>rfl
   |succ k=>rw[lC (by omega) (by omega)];omega
  refine Qf (λ i (v:Int×Int)=>v.2=(i:Int)) (W.length -1) (λ _=>True) (λ i v hi hv=>?_) (λ v hv=>?_) n (by omega) _ rfl
  ·obtain⟨a,b⟩:=v;simp only at hv;subst hv;obtain⟨o,ho,_⟩:=alE (n:=n) (l:=a9) (R:=R) (X:=X) W hR hX hl (by omega) (k:=i) (by omega) (by omega) a;simp only[je,eN,dR hi,aj,ho,ah,aW i];exact⟨_,rfl,rfl⟩
  ·obtain⟨a,b⟩:=v;simp only at hv;subst hv;simp only[je,eN,fO,ak];exact⟨_,rfl,trivial⟩
 obtain⟨o,ho,_⟩:=key;rw[ho];exact⟨o,λ_=>rfl⟩
def H3(b:ay)(k:Int):ay:=⟨b.x0 -k,b.y0 -k,b.x1+k,b.y1+k⟩
def Ih(area:List ay)(b:ay)(k:Int):Bool:=d5 (H3 b k)&&decide (area.foldl (λ s y=>Yr (H3 b k) s y) 0=H0 (H3 b k))
theorem ajG(b:ay)(k:Int)(a2:List fK)(a3:List bZ)(a4:List dY)(a5:List aM)(a6:List iw)(a7:List fI)(a8:List bX)(a9:Int){js:List ay}(sq:List aF)(hb:d5 b=true)(h0:0<=k)(h1:k<=1048576)(hl:js.length<=1000)(hn:1001<=n):
 jQ n b k a2 a3 a4 a5 a6 a7 a8 a9 js sq=some (Ih js b k,a2,a3,a4,a5,a6,a7,a8,a9,js,sq):=by
 rw[amI]at hb;unfold jQ DL Ih;rw[bU (x:=b.x0 -k),bU (x:=b.y0 -k),bU (x:=b.x1+k),bU (x:=b.y1+k),show ay.mk (b.x0 -k) (b.y0 -k) (b.x1+k) (b.y1+k)=H3 b k from rfl,jE];generalize H3 b k=g;simp only[ah];cases hg:d5 g with
 |false=>simp only[Bool.not_false,aj,aG,Bool.false_and]
 |true=>
  have key:=nH (l:=js) (step:=iL js (g,true)) (λ i (s:Int)=>(s,(i:Int))) (λ y s=>Yr g s y) (λ s=>s) (λ i hi s=>by
   simp only[iL,dR hi,aj,bB hi,ah,Bb,aW i,Yr];cases h1:d5 g with
   |false=>rfl
   |true=>
    cases h2:d5 js[i]with
    |false=>rfl
    |true=>
     cases h3:d5 (IJ g js[i])with
     |false=>rfl
     |true=>simp only[Bool.and_self,aj,FP h3,ah]) (λ s=>by simp only[iL,fO,ak]) n (by omega) 0
  rw[show ((0:Nat):Int)=0 from rfl]at key;simp only[Bool.not_true,ak,key,ah,FP hg,aG,aj,Bool.true_and];congr 2
def R7(p:Int->Bool):Nat->Int->Int->Int
 | 0,lo,_=>lo
 |k+1,lo,hi=>bif decide (lo<hi)then(bif p ((lo+hi+1)/2)then R7 p k ((lo+hi+1)/2) hi else R7 p k lo ((lo+hi+1)/2 -1))else lo
theorem Wk(p:Int->Bool):∀k lo hi,lo<=hi->lo<=R7 p k lo hi/\R7 p k lo hi<=hi
 | 0,lo,hi,h=>by simp only[R7];omega
 |k+1,lo,hi,h=>by
  simp only[R7];by_cases h1:lo<hi
  ·have e:decide (lo<hi)=true:=(by simpa using h1);rw[e,aj];cases p ((lo+hi+1)/2)with
   |true=>have:=Wk p k ((lo+hi+1)/2) hi (by omega);simp only[aj];omega
   |false=>have:=Wk p k lo ((lo+hi+1)/2 -1) (by omega);simp only[ak];omega
  ·have e:decide (lo<hi)=false:=(by simpa using h1);rw[e,ak];omega
theorem ag9{v:aF}(hv:d5 (iq v)=true)(a2:List fK)(a3:List bZ)(a4:List dY)(a5:List aM)(a6:List iw)(a7:List fI)(a8:List bX)(a9:Int){js:List ay}(sq:List aF)(hl:js.length<=1000)(hn:1001<=n):
 ∀(k:Nat) lo hi m,0<=lo->lo<=hi->hi<=1048576->hi -lo<2 ^ k->k<m->iter (eY n v) m (lo,hi,a2,a3,a4,a5,a6,a7,a8,a9,js,sq)=some (R7 (Ih js (iq v)) k lo hi,a2,a3,a4,a5,a6,a7,a8,a9,js,sq):=by
 intro k
 induction k with
 |zero=>
  intro lo hi m h0 h1 h2 h3 hm;obtain⟨q,rfl⟩:∃q,m=q+1:=⟨m -1,by omega⟩;have:lo=hi:=by simp at h3;omega
  subst this;refine bJ ?_;have e:decide (lo<lo)=false:=by simp
  simp only[eY,e,ak,aG,aj,R7]
 |succ k ih=>
  intro lo hi m h0 h1 h2 h3 hm;obtain⟨q,rfl⟩:∃q,m=q+1:=⟨m -1,by omega⟩;have hp:(2:Int) ^ (k+1)=2*2 ^ k:=by rw[Int.pow_succ];omega
  rw[hp]at h3;by_cases hlt:lo<hi
  ·have e:decide (lo<hi)=true:=(by simpa using hlt);have e2:((2:Nat) !=0)=true:=rfl;have em:i64.wrap (Int.tdiv (i64.wrap (i64.wrap (lo+hi)+1)) 2)=(lo+hi+1)/2:=(by rw[bU (x:=lo+hi),bU (x:=lo+hi+1),Int.tdiv_eq_ediv_of_nonneg (by omega),bU (by omega) (by omega)]);have hi2:=ajG (n:=n) (iq v) ((lo+hi+1)/2) a2 a3 a4 a5 a6 a7 a8 a9 (js:=js) sq hv (by omega) (by omega) hl hn;unfold iq at hi2;cases hc:Ih js (iq v) ((lo+hi+1)/2)with
   |true=>
    rw[dx (v':=((lo+hi+1)/2,hi,a2,a3,a4,a5,a6,a7,a8,a9,js,sq)) (by
     unfold iq at hc;simp only[eY,e,aj,e2,aG,em,hi2,ah,hc]),ih _ _ _ (by omega) (by omega) (by omega) (by omega) (by omega)]
    simp only[R7,e,aj,hc]
   |false=>
    rw[dx (v':=(lo,(lo+hi+1)/2 -1,a2,a3,a4,a5,a6,a7,a8,a9,js,sq)) (by
     unfold iq at hc;simp only[eY,e,aj,e2,aG,em,hi2,ah,hc,ak,bU (x:=(lo+hi+1)/2 -1)]),ih _ _ _ (by omega) (by omega) (by omega) (by omega) (by omega)]
    simp only[R7,e,aj,hc,ak]
  ·have e:decide (lo<hi)=false:=(by simpa using hlt);refine bJ ?_;simp only[eY,e,ak,aG,aj,R7]
def Qk(area:List ay)(l:List aF):Int:=l.foldl (λ b v=>R7 (Ih area (iq v)) 21 0 b) 1048576
theorem aha(a0:List fK)(a1:List bZ)(a2:List dY)(a3:List aM)(a4:List iw)(a5:List fI)(a6:List bX)(a7:Int){a8:List ay}{a9:List aF}(hv:∀v∈a9,okV v=true)(hl:a9.length<=1000)(h8:a8.length<=1000)(hn:1001<=n):jv n a0 a1 a2 a3 a4 a5 a6 a7 a8 a9=some (Qk a8 a9,a0,a1,a2,a3,a4,a5,a6,a7,a8,a9):=by
 have key:=gm (l:=a9) (step:=iD n a9) (λ i (s:Int)=>(s,(i:Int),a0,a1,a2,a3,a4,a5,a6,a7,a8,a9)) (λ v s=>R7 (Ih a8 (iq v)) 21 0 s) (λ s=>(s,a0,a1,a2,a3,a4,a5,a6,a7,a8,a9)) (λ _ s=>0<=s/\s<=1048576) (λ i hi s hs=>by
  have h1:=ag9 (n:=n) (Qi (hv _ (getElem_mem hi))) a0 a1 a2 a3 a4 a5 a6 a7 (js:=a8) a9 h8 hn 21 0 s n (by omega) hs.1 hs.2 (by have:(2:Int) ^ 21=2097152:=rfl;omega) (by omega);have h2:=Wk (Ih a8 (iq a9[i])) 21 0 s hs.1;refine⟨?_,by omega,by omega⟩;simp only[iD,dR hi,aj,bE hi,bM hi,ah,aG,h1,aW i]) (λ s _=>by simp only[iD,fO,ak,aG,aj]) n (by omega) 1048576 (by omega)
 rw[show ((0:Nat):Int)=0 from rfl]at key;unfold jv;simp only[aG,aj,key,ah];rfl
def ja(d:aV):List aF:=((kQ d).take 40).filter okV
theorem acW(d:aV):∀v∈ja d,okV v=true:=λv hv=>(mem_filter.1 hv).2
theorem Z7(d:aV):(ja d).length<=40:=Nat.le_trans (length_filter_le _ _) (by rw[length_take];omega)
def rT(lot:gK):List ay:=bif cI lot.area then lot.area else []
theorem aov{l:List aF}(a0:List fK)(a1:List bZ)(a2:List dY)(a3:List aM)(a4:List iw)(a5:List fI)(a6:List bX)(a7:Int)(a8:List ay)(hl:l.length<=9223372036854775807)(hn:l.length<n):
 iter (rO l) n ((0:Int),a0,a1,a2,a3,a4,a5,a6,a7,a8,([]:List aF))=some (a0,a1,a2,a3,a4,a5,a6,a7,a8,(l.take 40).filter okV):=by
 refine Md (step:=rO l) (λ i=>((i:Int),a0,a1,a2,a3,a4,a5,a6,a7,a8,((l.take i).take 40).filter okV)) l.length _ (by simp) (λ i hi=>?_) ?_ n hn
 ·have hlen:(((l.take i).take 40).filter okV).length<=40:=Nat.le_trans (length_filter_le _ _) (by rw[length_take];omega);have e40:decide ((i:Int)<40)=decide (i<40):=by rw[decide_eq_decide];omega
  have hs:sub ([l[i]]:List aF) 0 1=[l[i]]:=rfl;have hN:((l.take (i+1)).take 40).filter okV=((l.take i).take 40).filter okV++(bif decide (i<40)&&okV l[i]then [l[i]]else []):=by
   by_cases h:i<40
   ·have h1:(l.take i).take 40=l.take i:=take_of_length_le (by rw[length_take];omega);have h2:(l.take (i+1)).take 40=l.take (i+1):=take_of_length_le (by rw[length_take];omega);have h3:decide (i<40)=true:=(by simpa using h);rw[h1,h2,j4 hi,List.filter_append,h3];cases h4:okV l[i]<;>simp[h4]
   ·have h3:decide (i<40)=false:=(by simpa using h);rw[List.take_take,List.take_take,h3,show min 40 (i+1)=40 by omega,show min 40 i=40 by omega];simp
  rw[hN];generalize ((l.take i).take 40).filter okV=L at hlen;have hap:bR L.length L.length 1 1 72=true:=eX (by omega) (by simp only[maxLen];omega);simp only[rO,dR hi,aj,bE hi,bM hi,ah,e40,u6,aW i];cases decide (i<40)with
  |false=>simp only[ak,ah,aG,aj,Bool.false_and,append_nil]
  |true=>
   simp only[aj,ah,Bool.true_and];cases okV l[i]with
   |false=>simp only[ak,aG,aj,ah,append_nil]
   |true=>simp only[aj,hs,length_singleton,hap,fG,aG,ah]
 ·simp only[rO,fO,ak,aG,aj,List.take_length]
def anZ(n:Nat)(p:cO):Prop:=p.tables.length<n/\p.tables.length<=9223372036854775807/\∀t∈p.tables,t.rows.length<n/\t.rows.length<=9223372036854775807
def R8:ByteArray:=⟨#[115,101,116,98,97,99,107]⟩
theorem aow{p:cO}{lot:gK}{d:aV}(hp:anZ n p)(hl:lot.area.length<=900)(hd:Z6 d)(hn:2000000<=n):∃e1 e2 e3 e4 e5 e6 e7 e8:Int,∀R:List aM,sS n (cO.mk p.defs p.tables p.zones R p.caps p.views p.nt p.hours) lot d=some [⟨⟨#[97,114,101,97]⟩,e1⟩,⟨⟨#[99,111,118,101,114]⟩,e2⟩,⟨⟨#[102,108,111,111,114]⟩,e3⟩,⟨⟨#[102,108,111,111,114,115]⟩,e4⟩,⟨⟨#[104,101,105,103,104,116]⟩,e5⟩,⟨⟨#[104,111,109,101,115]⟩,e6⟩,⟨⟨#[114,117,110,111,102,102]⟩,e7⟩,⟨R8,Qk (rT lot) (ja d)⟩,⟨⟨#[116,114,97,102,102,105,99]⟩,e8⟩]:=by
 have hs1:rT lot=(bif cI lot.area then lot.area else []):=rfl;have hsl:(rT lot).length<=900:=by unfold rT;cases cI lot.area<;>simp[hl]
 have hvl:=Z7 d;have hvo:=acW d;have hfl:=Qj hd.2;have hd1:=hd.1;obtain⟨hp1,hp2,hp3⟩:=hp;have hz:bk 0 ([]:List aF).length=true:=rfl;have GM:∀R:List aM,((bif cI lot.area then some (p.defs,p.tables,p.zones,R,p.caps,p.views,p.nt,p.hours,lot.area)else some (p.defs,p.tables,p.zones,R,p.caps,p.views,p.nt,p.hours,([]:(List ay)))):Option ((List fK)×(List bZ)×(List dY)×(List aM)×(List iw)×(List fI)×(List bX)×Int×(List ay)))=some (p.defs,p.tables,p.zones,R,p.caps,p.views,p.nt,p.hours,rT lot):=by intro R;rw[hs1];cases cI lot.area<;>rfl
 obtain⟨e2,h2⟩:=alF (n:=n) p.defs p.tables p.zones p.caps p.views p.nt p.hours (rT lot) (a9:=ja d) (by omega) (by omega);obtain⟨e3,h3⟩:=anV (n:=n) p.defs p.tables p.zones p.caps p.views p.nt p.hours (rT lot) (a9:=ja d) (by omega) (by omega);obtain⟨e4,h4⟩:=aly (n:=n) p.defs p.tables p.zones p.caps p.views p.nt p.hours (rT lot) (a9:=ja d) (by omega) (by omega);obtain⟨e5,h5⟩:=alz (n:=n) p.defs p.tables p.zones p.caps p.views p.nt p.hours (rT lot) (a9:=ja d) (by omega) (by omega);obtain⟨e6,h6⟩:=anW (n:=n) p.defs p.tables p.zones p.caps p.views p.nt p.hours (rT lot) (a9:=ja d) (by omega) (by omega);have h8:=λR:List aM=>aha (n:=n) p.defs p.tables p.zones R p.caps p.views p.nt p.hours (a8:=rT lot) (a9:=ja d) hvo (by omega) (by omega) (by omega);obtain⟨e9,h9⟩:=anY (n:=n) p.defs p.tables p.zones p.caps p.views p.nt p.hours (rT lot) (a9:=ja d) (by omega) (by omega) hvo hp1 hp2 hp3;refine⟨bif cI (rT lot)then NQ (rT lot)else 0,e2,e3,e4,e5,e6,e2,e9,λR=>?_⟩;unfold sS;rw[mH (by omega) (by omega) (by omega),Yy hd (by omega)];simp only[ah,GM,hz,aj];rw[aov (n:=n) p.defs p.tables p.zones R p.caps p.views p.nt p.hours (rT lot) (by show(kQ d).length<=_;unfold kQ;omega) (by show(kQ d).length<_;unfold kQ;omega)];have hr:((kQ d).take 40).filter okV=ja d:=rfl;have s1:∀e:bP,sub ([e]:List bP) 0 1=[e]:=λ_=>rfl;have ap:∀k,k<=20->bR k k 1 1 24=true:=λk hk=>eX (by omega) (by simp only[maxLen];omega);have lot:nC n p.defs p.tables p.zones R p.caps p.views p.nt p.hours (rT lot) (ja d)=some (bif cI (rT lot)then NQ (rT lot)else 0,p.defs,p.tables,p.zones,R,p.caps,p.views,p.nt,p.hours,rT lot,ja d):=by
  unfold nC;rw[Ym (by omega) (by omega)];simp only[ah,aG,aj]
 simp only[hr,ah,aG,aj,lot,s1,length_singleton,ap 0 (by omega),fG,h2,ap 1 (by omega),dH,ap 2 (by omega),h3,ap 3 (by omega),h4,ap 4 (by omega),h5,ap 5 (by omega),h6,ap 6 (by omega),h8,ap 7 (by omega),h9,ap 8 (by omega),Nat.reduceAdd,Nat.zero_add,cZ];rfl
theorem aiu(ds:List (ByteArray×ET))(s:List UInt8):∀(k:Nat)(i:Int),Pp ds s k=some i->0<=i/\i<(k:Int)
 | 0,i,h=>by simp[Pp]at h
 |k+1,i,h=>by
  simp only[Pp]at h;split at h
  ·cases h;omega
  ·have:=aiu ds s k i h;omega
theorem amJ{ds:List (ByteArray×ET)}(h:q7 ds<=4000000):ZW (o6 ds) ds.length:=by
 have hl:=Vy ds;refine⟨by simp[o6],by omega,λl hl=>?_⟩;simp only[o6,mem_map]at hl;obtain⟨d,hd,rfl⟩:=hl;have h1:=Vz hd;have h2:=ET.oB d.2;have h3:=aeA d.2.names;refine⟨Nat.le_trans (List.length_filterMap_le _ _) (by omega),λk hk=>?_⟩;simp only[iC,List.mem_filterMap]at hk;obtain⟨s,_,hk⟩:=hk;exact aiu ds s _ k hk
theorem ae2{M:List ByteArray}(hM:M.length<=1000)(hn:1001<=n)(w0:List (ByteArray×Bool)):∃w,iter (oI M) n ((0:Int),w0)=some w:=by
 obtain⟨o,h,_⟩:=dZ (step:=oI M) (λ i (v:Int×List (ByteArray×Bool))=>∃w,v=((i:Int),w)/\i<=M.length) (λ _=>True) M.length (λ k v ⟨_,_,h⟩=>h) (by
  rintro i v ⟨w,rfl,hi⟩;by_cases hlt:i<M.length
  ·simp only[oI,show decide ((i:Int)<(M.length:Int))=true from by simp;omega,aj,bE hlt,bM hlt,ah,aW i];exact .inl ⟨_,rfl,_,rfl,hlt⟩
  ·simp only[oI,show decide ((i:Int)<(M.length:Int))=false from by simp;omega,ak];exact .inr ⟨_,rfl,trivial⟩) n 0 ((0:Int),w0) ⟨_,rfl,Nat.zero_le _⟩ (by omega)
 exact⟨o,h⟩
theorem ae3{p:cO}(hp:p.defs.length<=4000000)(hn:4000001<=n)(w0:List (ByteArray×Bool)):iter (lK p) n ((0:Int),w0)=some (.inl ())\/iter (lK p) n ((0:Int),w0)=some (.inr ([],[],5)):=by
 obtain⟨o,h,h2⟩:=dZ (step:=lK p) (λ i (v:Int×List (ByteArray×Bool))=>∃w,v=((i:Int),w)/\i<=p.defs.length) (λ o=>o= .inl ()\/o= .inr ([],[],5)) p.defs.length (λ k v ⟨_,_,h⟩=>h) (by
  rintro i v ⟨w,rfl,hi⟩;by_cases hlt:i<p.defs.length
  ·simp only[lK,show decide ((i:Int)<(p.defs.length:Int))=true from by simp;omega,aj,bB hlt,ah,aW i];cases (qI Gb.d6 p.defs[i].name w).getD false with
   |true=>exact .inr ⟨_,rfl,.inr rfl⟩
   |false=>exact .inl ⟨_,rfl,_,rfl,hlt⟩
  ·simp only[lK,show decide ((i:Int)<(p.defs.length:Int))=false from by simp;omega,ak];exact .inr ⟨_,rfl,.inl rfl⟩) n 0 ((0:Int),w0) ⟨_,rfl,Nat.zero_le _⟩ (by omega)
 rcases h2 with rfl |rfl
 ·exact .inl h
 ·exact .inr h
theorem ae4:∃M,yP=some M/\M.length=9:=⟨_,rfl,rfl⟩
def gE(l:List fK):Prop:=q7 (l.map toD)<=4000000
theorem gE.len{l:List fK}(h:gE l):l.length<=4000000:=by
 have:=Vy (l.map toD);rw[length_map]at this;unfold gE at h;omega
theorem gE.body{l:List fK}(h:gE l){d:fK}(hd:d∈l):(toE (bL.mk d.iu d.lz d.kf d.il d.er)).wt<=4000000:=by
 have h1:=Vz (mem_map.2 ⟨d,hd,rfl⟩:toD d∈l.map toD);unfold gE at h;simp only[toD,ET.wt]at h1;simp only[toE,ET.wt];omega
theorem UG{p:cO}(hp:gE p.defs)(hn:5000003<=n):∃r,ou n p=some r/\r.1.length<=p.defs.length/\∀k∈r.1,0<=k/\k<(p.defs.length:Int):=by
 obtain⟨M,hM,hM9⟩:=ae4;obtain⟨w,hw⟩:=ae2 (n:=n) (M:=M) (by omega) (by omega) [];have hg:ZW (o6 (p.defs.map toD)) p.defs.length:=by have:=amJ hp;rwa [length_map]at this
 have GT:lJ p.defs=some (p.defs,o6 (p.defs.map toD)):=by
  unfold lJ;rw[Nat.ble_eq_true_of_le hp];rfl
 simp only[ou,hM,ah,hw];rcases ae3 (n:=n) (p:=p) hp.len (by omega) w with h |h
 ·have⟨c,hc,hc2⟩:=aeF (n:=n) (a0:=p.defs) hg rfl hn;simp only[h,dP,GT,ah,hc];cases h0:(c.length==0)with
  |true=>
   have e:c=[]:=List.eq_nil_of_length_eq_zero (by simpa using h0);obtain⟨l,hl,hll,hlr⟩:=ali (n:=n) (a0:=pR.mk p.defs (o6 (p.defs.map toD))) hg rfl (hc2 e) (by omega);simp only[aj,ah,ak,hl,cZ,aG];exact⟨_,rfl,by simp[hll],hlr⟩
  |false=>
   simp only[aj,ah,ak,cZ,aG];exact⟨_,rfl,by simp,by simp⟩
 ·simp only[h,fH];exact⟨_,rfl,by simp,by simp⟩
theorem Bc(x:bL):bL.mk x.op x.n x.s x.key x.args=x:=by cases x;rfl
theorem Ql:∀l:List bL,KH l=l.map toE
 |[]=>rfl
 |x::xs=>by simp only[KH,aC,Ql xs]
theorem aiv:∀{l:List ET}{t:ET},t∈l->t.wt<=ET.sE l
 |x::l,t,h=>by
  simp only[ET.sE];rcases aN.1 h with rfl |h
  ·omega
  ·have:=aiv h;omega
theorem T3{e x:bL}(h:x∈e.args):(toE x).wt<(toE e).wt:=by
 have h1:(toE x).wt<=ET.sE (KH e.args):=aiv (by rw[Ql];exact mem_map.2 ⟨x,h,rfl⟩);cases e;simp only[toE,ET.wt]at *;omega
theorem Wg(e:bL):e.args.length<(toE e).wt:=by
 have h1:=ET.qe (KH e.args);rw[Ql,length_map]at h1;cases e;simp only[toE,ET.wt,Ql]at *;omega
def VR:Nat->bL->Prop
 | 0,_=>False
 |k+1,e=>AZ e.op=some ((e.args.length:Int),true)/\∀x∈e.args,VR k x
theorem ahc(op:Int):∃a b,AZ op=some (a,b):=by
 simp only[AZ];cases (op==0)<;>cases (op==1)<;>cases (op==2)<;>cases (op==3)<;>cases (op==9)<;>cases (op==15)<;>cases (op==16)<;>cases (decide (op>=0))<;>exact⟨_,_,rfl⟩
theorem aby(hn:4000002<=n):∀(m:Nat)(e:bL)(a:Int),m<=9223372036854775000->0<=a->a<=12->13<=a+m->(toE e).wt<=4000000->∃r,tV n m e a=some r/\1<=r/\r<=13+m/\(r<=12->VR m e)
 | 0,_,_,_,_,_,h,_=>absurd h (by omega)
 |m+1,e,a,hm,h0,h1,h2,h3=>by
  have⟨x,b,hx⟩:=ahc e.op;have hla:=Wg e;show ∃r,CR n (tV n m) e a=some r/\_;simp only[CR,hx,ah];have bad:∃r,some (13:Int)=some r/\1<=r/\r<=13+((m+1:Nat):Int)/\(r<=12->VR (m+1) e):=⟨13,rfl,by omega,by omega,λh=>absurd h (by omega)⟩;cases b with
  |false=>simpa only[Bool.not_false,aj,ah]using bad
  |true=>
   simp only[Bool.not_true,ak];by_cases hxl:x=(e.args.length:Int)
   ·subst hxl;simp only[show ((e.args.length:Int) !=(e.args.length:Int))=false from by simp,ak,ah];by_cases ha:a>=12
    ·simpa only[ha,decide_true,aj]using bad
    ·simp only[ha,decide_false,ak]
     obtain⟨o,g1,g2,g3,g4⟩:=dZ (step:=zI n (tV n m) e a) (λ i (v:Int×Int)=>v.2=(i:Int)/\i<=e.args.length/\0<=v.1/\v.1<=13+m/\(v.1<=11->∀y∈e.args.take i,VR m y))
      (λ o=>0<=o/\o<=13+m/\(o<=11->∀y∈e.args,VR m y)) e.args.length (λ k v h=>h.2.1) (by
      rintro i ⟨v2,v3⟩ ⟨hv,hi,i1,i2,i3⟩;simp only at hv i1 i2 i3;subst hv;by_cases hlt:i<e.args.length
      ·left;have hwx:=T3 (getElem_mem hlt);obtain⟨r,r1,r2,r3,r4⟩:=aby hn m e.args[i] (a+1) (by omega) (by omega) (by omega) (by omega) (by omega);refine⟨(max v2 r,((i+1:Nat):Int)),?_,rfl,hlt,by show 0<=max v2 r;omega,by show max v2 r<=_;omega,λh y hy=>?_⟩
       ·simp only[zI,show decide ((i:Int)<(e.args.length:Int))=true from by simp;omega,aj,bB hlt,ah,Bc,bU (show -9223372036854775808<=a+1 by omega) (show a+1<=9223372036854775807 by omega),r1,aW i]
       ·have h':max v2 r<=11:=h;rw[List.take_add_one,dI hlt]at hy;rw[aX]at hy;rcases hy with hy |hy
        ·exact i3 (by omega) y hy
        ·simp at hy;subst hy;exact r4 (by omega)
      ·right;refine⟨v2,?_,i1,i2,λh y hy=>i3 h y (by rw[take_of_length_le (by omega)];exact hy)⟩;simp only[zI,show decide ((i:Int)<(e.args.length:Int))=false from by simp;omega,ak]) n 0 ((0:Int),(0:Int)) ⟨rfl,Nat.zero_le _,by simp,by show(0:Int)<=_;omega,by simp⟩ (by omega)
     simp only[g1,ah];rw[bU (by omega) (by omega)];exact⟨o+1,rfl,by omega,by omega,λh=>⟨hx,g4 (by omega)⟩⟩
   ·simpa only[show (x !=(e.args.length:Int))=true from by simpa using hxl,aj,ah]using bad
theorem Uf(hn:4000002<=n)(hn2:n<=9223372036854775000){e:bL}(h:(toE e).wt<=4000000):∃b,KG n e=some b/\(b=true->VR n e):=by
 obtain⟨r,h1,h2,h3,h4⟩:=aby hn n e 0 hn2 (by omega) (by omega) (by omega) h;refine⟨decide (r<=12),?_,λh=>h4 (by simpa using h)⟩;simp only[KG,Bc,RJ,h1,ah]
def aox(tables:List bZ)(s key:ByteArray):Int:=match tables.find? λt=>ByteArray.toList t.name==ByteArray.toList s with
 |some t=>aos t key
 |none=>0
def Lk(ts:List bZ):Prop:=ts.length<=4000000/\∀t∈ts,t.rows.length<=4000000
theorem ajH(hn:4000002<=n){a0:List fK}{ts:List bZ}{a2:List dY}{a3:List aM}{a4:List iw}{a5:List fI}{a6:List bX}{a7:Int}{zs:List ByteArray}(ht:Lk ts)(e:bL)(kn:List (ByteArray×Int)):jy n a0 ts a2 a3 a4 a5 a6 a7 zs e kn=some (aox ts e.s e.key,kn):=by
 have h1:=ht.1;simp only[jy,Bc];rw[I8 (λ t=>ByteArray.toList t.name==ByteArray.toList e.s) (λ x _=>rfl) (by omega) (by omega)];simp only[ah,aox];rcases Yq (λ t:bZ=>ByteArray.toList t.name==ByteArray.toList e.s) ts with ⟨i,hi,h1,h2⟩ |⟨h1,h2⟩
 ·rw[h1,h2];have d:decide ((i:Int)<0)=false:=by simp
  have hr:=ht.2 _ (getElem_mem hi);simp only[d,ak,bB hi,ah];rw[I9 (λ x=>ByteArray.toList x.name==ByteArray.toList e.key) (λ x _=>rfl) (by omega) (by omega)];simp only[ah,aos];rcases Yq (λ x:bP=>ByteArray.toList x.name==ByteArray.toList e.key) ts[i].rows with ⟨j,hj,g1,g2⟩ |⟨g1,g2⟩
  ·rw[g1,g2];have d:decide ((j:Int)>=0)=true:=(by simp);simp only[d,aj,bB hj,ah]
  ·rw[g1,g2];rfl
 ·rw[h1,h2];rfl
theorem fq{α:Type}{c:Bool}{x y:Option α}(hx:∃r,x=some r)(hy:∃r,y=some r):∃r,(bif c then x else y)=some r:=by cases c<;>assumption
theorem Z8(a b:Int):∃r,xX a b=some r:=by
 simp only[xX];cases h:(b==0)with
 |true=>exact⟨_,rfl⟩
 |false=>
  have:(b !=0)=true:=by simp[bne,h]
  simp only[this,aj,ak];cases (Int.tmod a b !=0)<;>cases (decide (Int.tmod a b<0)==decide (b<0))<;>exact⟨_,rfl⟩
theorem YA(b:Bool):∃r,A7 b=some r:=fq ⟨_,rfl⟩ ⟨_,rfl⟩
theorem uf{α β:Type}{x:Option α}{f:α->Option β}(hx:∃r,x=some r)(hf:∀r,∃s,f r=some s):∃s,x.bind f=some s:=by obtain⟨r,rfl⟩:=hx;exact hf r
theorem ae5(op a b:Int):∃r,LY op a b=some r:=by
 have q:=Z8 a b;have t:=λc=>YA c;unfold LY
 repeat' first
  |exact⟨_,rfl⟩
  |exact q
  |exact t _
  |apply fq
  |(refine uf ?_ λr=>?_)
theorem K4(h:0<n):b9 0 n=true:=by simp[b9];omega
theorem ae6(h:1<n):b9 1 n=true:=by simp[b9];omega
theorem alG(h:2<n):b9 2 n=true:=by simp[b9];omega
theorem Qm{α:Type}{l:List α}(h:0<l.length):bo l (((0:Nat):Int)+0)=some l[0]:=bM (i:=0) h
theorem aix{α:Type}{l:List α}(h:1<l.length):bo l (((0:Nat):Int)+1)=some l[1]:=bM (i:=1) h
theorem amK{α:Type}{l:List α}(h:2<l.length):bo l (((0:Nat):Int)+2)=some l[2]:=bM (i:=2) h
theorem Z9{l:List ByteArray}{s:ByteArray}(hl:l.length<=4000000)(hn:4000002<=n):∃r,fM n l s=some r:=by
 obtain⟨o,h,_⟩:=dZ (step:=og l s) (λ i (v:Int)=>v=(i:Int)/\i<=l.length) (λ _=>True) l.length (λ k v h=>h.2) (by
  rintro i v ⟨rfl,hi⟩;by_cases hlt:i<l.length
  ·simp only[og,show decide ((i:Int)<(l.length:Int))=true from by simp;omega,aj,bB hlt,ah,aW i];cases (ByteArray.toList s==ByteArray.toList l[i])with
   |true=>exact .inr ⟨_,rfl,trivial⟩
   |false=>exact .inl ⟨_,rfl,rfl,hlt⟩
  ·simp only[og,show decide ((i:Int)<(l.length:Int))=false from by simp;omega,ak];exact .inr ⟨_,rfl,trivial⟩) n 0 0 ⟨rfl,Nat.zero_le _⟩ (by omega)
 simp only[fM,sw,h];cases o with
 |inl u=>cases u;simp only[dP,ah];exact⟨_,rfl⟩
 |inr r=>simp only[fH,ah];exact⟨_,rfl⟩
theorem ajI{op a:Int}(h0:(op==0)=false)(h1:(op==1)=false)(h2:(op==2)=false)(h3:(op==3)=false)(h9:(op==9)=false)(IP:(op==15)=false)(h16:(op==16)=false)(h:AZ op=some (a,true)):a=2:=by
 simp only[AZ,h0,h1,h2,h3,h9,IP,h16,ak,ah]at h;cases hd:decide (op>=0)with
 |true=>rw[hd]at h;simp only[aj,aA,Prod.mk.injEq]at h;exact h.1.symm
 |false=>rw[hd]at h;simp at h
section
variable {n:Nat} {a0:List fK} {ts:List bZ} {a2:List dY} {a3:List aM} {a4:List iw} {a5:List fI} {a6:List bX} {a7:Int} {zs:List ByteArray}
theorem YB(hn:4000002<=n)(ht:Lk ts)(hz:zs.length<=4000000):∀(m:Nat)(e:bL)(kn:List (ByteArray×Int)),VR m e->(toE e).wt<=4000000->∃v,bT n m a0 ts a2 a3 a4 a5 a6 a7 zs e kn=some (v,kn)
 | 0,_,_,h,_=>h.elim
 |m+1,e,kn,⟨ha,hr⟩,hw=>by
  have hla:=Wg e;have hmx:maxLen=9223372036854775807:=rfl;show ∃v,fF n (bT n m) a0 ts a2 a3 a4 a5 a6 a7 zs e kn=some (v,kn)
  obtain⟨o,h1,l,rfl,hl⟩:=dZ (step:=fw n (bT n m) a0 ts a2 a3 a4 a5 a6 a7 zs e) (λ i (v:Int×List (ByteArray×Int)×List Int)=>∃l,v=((i:Int),kn,l)/\i<=e.args.length/\l.length=i)
   (λ o=>∃l,o=(kn,l)/\l.length=e.args.length) e.args.length (λ k v ⟨_,_,h,_⟩=>h) (by
   rintro i v ⟨l,rfl,hi,hl⟩;by_cases hlt:i<e.args.length
   ·left;have hwx:=T3 (getElem_mem hlt);obtain⟨x,hx⟩:=YB hn ht hz m e.args[i] kn (hr _ (getElem_mem hlt)) (by omega);have key:∃b,((bif (e.op==(16:Int))then(bif (decide ((i:Int)>(0:Int)))then(ck (b9 0 l.length) ((bo l ((0:Nat)+0:Int)).bind λx2=>some (!((x2 !=(0:Int))==((i:Int)==(1:Int))))))else some false)else some false):Option (Bool))=some b:=by
     refine fq ?_ ⟨_,rfl⟩;by_cases h0:(i:Int)>0
     ·simp only[h0,decide_true,aj,K4 (show 0<l.length by omega),Qm (show 0<l.length by omega),ah];exact⟨_,rfl⟩
     ·simp only[h0,decide_false,ak];exact⟨_,rfl⟩
    obtain⟨b,hb⟩:=key;have hap:∀z:Int,bR l.length l.length (sub [z] 0 1).length 1 8=true:=λz=>(by simp[bR,sub];omega);simp only[fw,show decide ((i:Int)<(e.args.length:Int))=true from by simp;omega,aj,bB hlt,ah,hb,Bc,hx,hap,fG,aG,aW i];cases b with
    |true=>exact⟨_,rfl,_,rfl,hlt,by simp[sub,hl]⟩
    |false=>exact⟨_,rfl,_,rfl,hlt,by simp[sub,hl]⟩
   ·right;refine⟨(kn,l),?_,l,rfl,by omega⟩;simp only[fw,show decide ((i:Int)<(e.args.length:Int))=false from by simp;omega,ak,aG,aj]) n 0 ((0:Int),kn,[]) ⟨[],rfl,Nat.zero_le _,rfl⟩ (by omega)
  simp only[fF,length_nil,aG,aj,h1,ah,Bc,ajH hn ht];cases h0:(e.op==0)with
  |true=>exact⟨_,rfl⟩
  |false=>
  cases h1:(e.op==1)with
  |true=>exact⟨_,rfl⟩
  |false=>
  cases h2:(e.op==2)with
  |true=>exact⟨_,rfl⟩
  |false=>
  cases h3:(e.op==3)with
  |true=>
   have⟨r,hr⟩:=Z9 (n:=n) (l:=zs) (s:=e.s) hz hn;have⟨r2,hr2⟩:=YA r;simp only[ak,aj,hr,hr2,ah];exact⟨_,rfl⟩
  |false=>
  cases h9:(e.op==9)with
  |true=>
   have e9:e.op=9:=(by simpa using h9);rw[e9]at ha;have:l.length=1:=(by have h:some ((1:Int),true)=some ((e.args.length:Int),true):=ha;simp at h;omega);simp only[ak,aj,K4 (show 0<l.length by omega),Qm (show 0<l.length by omega),ah];exact⟨_,rfl⟩
  |false=>
  cases IP:(e.op==15)with
  |true=>
   have e15:e.op=15:=(by simpa using IP);rw[e15]at ha;have:l.length=1:=(by have h:some ((1:Int),true)=some ((e.args.length:Int),true):=ha;simp at h;omega);obtain⟨r2,hr2⟩:=YA (l[0]'(by omega)==0);simp only[ak,aj,K4 (show 0<l.length by omega),Qm (show 0<l.length by omega),ah,hr2];exact⟨_,rfl⟩
  |false=>
  cases h16:(e.op==16)with
  |true=>
   have e16:e.op=16:=(by simpa using h16);rw[e16]at ha;have:l.length=3:=(by have h:some ((3:Int),true)=some ((e.args.length:Int),true):=ha;simp at h;omega);simp only[ak,aj,K4 (show 0<l.length by omega),Qm (show 0<l.length by omega),ae6 (show 1<l.length by omega),aix (show 1<l.length by omega),alG (show 2<l.length by omega),amK (show 2<l.length by omega),ah];cases (l[0]'(by omega) !=0)<;>exact⟨_,rfl⟩
  |false=>
   have:l.length=2:=(by have:=ajI h0 h1 h2 h3 h9 IP h16 ha;omega);obtain⟨r,hr⟩:=ae5 e.op (l[0]'(by omega)) (l[1]'(by omega));simp only[ak,aj,K4 (show 0<l.length by omega),Qm (show 0<l.length by omega),ae6 (show 1<l.length by omega),aix (show 1<l.length by omega),ah,hr];exact⟨_,rfl⟩
end
theorem ahd{ms:List bP}(h:ms.length<=4000000)(hn:4000002<=n):∃o,iter (kD n ms) n ((0:Int),([]:List (ByteArray×Int)),([]:List (ByteArray×Bool)))=some o:=by
 obtain⟨o,h,_⟩:=dZ (step:=kD n ms) (λ i (v:Int×List (ByteArray×Int)×List (ByteArray×Bool))=>∃a b,v=((i:Int),a,b)/\i<=ms.length) (λ _=>True) ms.length (λ k v ⟨_,_,_,h⟩=>h) (by
  rintro i v ⟨a,b,rfl,hi⟩;by_cases hlt:i<ms.length
  ·left;simp only[kD,show decide ((i:Int)<(ms.length:Int))=true from by simp;omega,aj,bB hlt,ah,aW i];cases (!((qI Gb.d6 ms[i].name b).getD false))<;>exact⟨_,rfl,_,_,rfl,hlt⟩
  ·right;simp only[kD,show decide ((i:Int)<(ms.length:Int))=false from by simp;omega,ak];exact⟨_,rfl,trivial⟩) n 0 _ ⟨[],[],rfl,Nat.zero_le _⟩ (by omega)
 exact⟨o,h⟩
structure T2(p:cO):Prop where
 defs:gE p.defs
 tabs:Lk p.tables
theorem NS{p:cO}{ms:List bP}{zs:List ByteArray}(hp:T2 p)(hm:ms.length<=4000000)(hz:zs.length<=4000000)(hn:5000003<=n)(hn2:n<=9223372036854775000):∃kn ab,mZ n p ms zs=some (p.defs,p.tables,p.zones,p.rules,p.caps,p.views,p.nt,p.hours,zs,kn,ab)/\ab.length=p.defs.length:=by
 obtain⟨⟨w1,w2⟩,hs1⟩:=ahd (n:=n) hm (by omega);have⟨r,hr,hrl,hrr⟩:=UG (n:=n) hp.defs hn;have hl:=hp.defs.len;have hmx:maxLen=9223372036854775807:=rfl;have hmk:BH (p.defs.length:Int) 8=true:=by simp[BH];omega
 simp only[mZ,hs1,ah,Int.le_refl,decide_true,Bool.true_and,show decide ((0:Int)<=(p.defs.length:Int))=true from by simp,hmk,aj,hr];cases hb:(r.2.2 !=(0:Int))with
 |true=>
  simp only[aj,Int.toNat_natCast,List.length_replicate,aG];exact⟨_,_,rfl,by simp⟩
 |false=>
  obtain⟨o,h1,kn,ab,rfl,h2⟩:=dZ (step:=gV n p zs w2 r) (λ i (v:Int×List (ByteArray×Int)×List Int)=>∃kn ab,v=((i:Int),kn,ab)/\i<=r.1.length/\ab.length=p.defs.length)
   (λ o=>∃kn ab,o=(kn,ab)/\ab.length=p.defs.length) r.1.length (λ k v ⟨_,_,_,h,_⟩=>h) (by
   rintro i v ⟨kn,ab,rfl,hi,hol⟩;by_cases hlt:i<r.1.length
   ·left;have hk:=hrr r.1[i] (getElem_mem hlt);obtain⟨k,hk2⟩:=Int.eq_ofNat_of_zero_le hk.1;have hkd:k<p.defs.length:=(by omega);have hko:k<ab.length:=(by omega);have hbw:=hp.defs.body (getElem_mem hkd);obtain⟨b,hb1,hb2⟩:=Uf (n:=n) (by omega) hn2 hbw;simp only[gV,show decide ((i:Int)<(r.1.length:Int))=true from by simp;omega,aj,bE hlt,bM hlt,ah,hk2,bB hkd,hb1,Int.toNat_natCast,bE hkd,bM hko,aW i,show(((0:Nat):Int)+(k:Int)).toNat=k by omega];have step2:∀(On:List (ByteArray×Int)) (out':List Int),out'.length=p.defs.length->∃Ok,((bif (!((qI Gb.d6 p.defs[k].name w2).getD false))then(bo out' ((0:Nat)+(k:Int):Int)).bind λx5=>some ((Nq Gb.d6 p.defs[k].name x5 On),out')else some (On,out')):Option ((List (ByteArray×Int))×(List Int)))=some (Ok,out'):=by
     intro On out' ho;cases (!((qI Gb.d6 p.defs[k].name w2).getD false))with
     |true=>simp only[aj,bM (show k<out'.length by omega),ah];exact⟨_,rfl⟩
     |false=>exact⟨_,rfl⟩
    cases b with
    |true=>
     obtain⟨v,hv⟩:=YB (n:=n) (a0:=p.defs) (a2:=p.zones) (a3:=p.rules) (a4:=p.caps) (a5:=p.views) (a6:=p.nt) (a7:=p.hours) (by omega) hp.tabs hz n _ kn (hb2 rfl) hbw;simp only[gu,hv,aj,ah];obtain⟨ZZ,h2⟩:=step2 kn (ab.set k v) (by simp[hol]);rw[h2];exact⟨_,rfl,_,_,rfl,hlt,by simp[hol]⟩
    |false=>
     simp only[ak,ah];have⟨ZZ,h2⟩:=step2 kn ab hol;rw[h2];exact⟨_,rfl,_,_,rfl,hlt,hol⟩
   ·right;simp only[gV,show decide ((i:Int)<(r.1.length:Int))=false from by simp;omega,ak];exact⟨_,rfl,_,_,rfl,hol⟩) n 0 ((0:Int),w1,List.replicate p.defs.length 0) ⟨_,_,rfl,Nat.zero_le _,by simp⟩ (by omega)
  simp only[ak,Int.toNat_natCast,h1,ah,h2,aG,aj];exact⟨_,_,rfl,h2⟩
theorem all_eq{d:aV}(h:Z6 d)(hn:1001<=n):xK n d=some (kQ d):=by simp only[xK,Yy h hn,ah,cZ,aG,aj]
theorem aac(a b:ByteArray)(h:a.size<=4000000):∃r,strings_Contains a b=some r:=by
 simp only[strings_Contains,Nat.ble_eq_true_of_le h,aj];exact⟨_,rfl⟩
theorem Ug(c:Int):∃b,He c=some b:=fq ⟨_,rfl⟩ ⟨_,rfl⟩
theorem ahf(c:Int):∃b,RG c=some b:=fq ⟨_,rfl⟩ ⟨_,rfl⟩
theorem ajJ(c:Int):∃b,CP c=some b:=uf (Ug c) λ_=>fq ⟨_,rfl⟩ (uf (ahf c) λ_=>⟨_,rfl⟩)
theorem ae7{s:ByteArray}{i:Nat}(h:i<s.size):∃c,J9 s (i:Int)=some c:=by
 simp only[J9,show decide (0<=(i:Int))=true from by simp,aj,Int.toNat_natCast];rw[getElem?_pos s i h];exact⟨_,rfl⟩
theorem ajK{s:ByteArray}{φ:(Int×Unit)->Option Bool}(h:∀c,∃b,φ (c,())=some b)(hs:s.size<=4000000)(hn:4000002<=n):∃r,Pz n s φ=some r:=by
 obtain⟨o,h1,_⟩:=dZ (step:=CO s φ) (λ i (v:Int)=>v=(i:Int)/\i<=s.size) (λ _=>True) s.size (λ k v h=>h.2) (by
  rintro i v ⟨rfl,hi⟩;by_cases hlt:i<s.size
  ·have⟨c,hc⟩:=ae7 hlt;have⟨b,hb⟩:=h c;simp only[CO,show decide ((i:Int)<(s.size:Int))=true from by simp;omega,aj,hc,ah,hb,aW i];cases b with
   |true=>exact .inl ⟨_,rfl,rfl,hlt⟩
   |false=>exact .inr ⟨_,rfl,trivial⟩
  ·simp only[CO,show decide ((i:Int)<(s.size:Int))=false from by simp;omega,ak,ah];exact .inr ⟨_,rfl,trivial⟩) n 0 0 ⟨rfl,Nat.zero_le _⟩ (by omega)
 simp only[Pz,h1,ah];exact⟨_,rfl⟩
theorem ajL(s:ByteArray)(hn:4000002<=n):∃b,PD n s=some b/\(b=true->s.size<=20):=by
 simp only[PD];cases h0:(ByteArray.toList s==ByteArray.toList (⟨#[]⟩))with
 |true=>exact⟨false,by simp only[aj,ah],λh=>(by cases h)⟩
 |false=>
  have hs:0<s.size:=by
   refine Nat.pos_of_ne_zero λh=>?_;have:s=⟨#[]⟩:=by
    obtain⟨⟨l⟩⟩:=s;have:l.length=0:=h;rw[List.eq_nil_of_length_eq_zero this]
   rw[this]at h0;simp at h0
  have⟨c,hc⟩:=ae7 hs;have hc':J9 s 0=some c:=hc;have⟨b,hb⟩:=Ug c;simp only[ak,hc',ah,hb];cases b with
  |false=>exact⟨false,by simp only[Bool.not_false,aj,ah],λh=>(by cases h)⟩
  |true=>
   simp only[Bool.not_true,ak,ah];by_cases h20:(s.size:Int)>20
   ·exact⟨false,by simp only[h20,decide_true,aj],λh=>(by cases h)⟩
   ·obtain⟨r,hr⟩:=ajK (n:=n) (s:=s) (φ:=λ(y1:Int×Unit)=>CP y1.1) (λ c=>ajJ c) (by omega) hn;simp only[h20,decide_false,ak,hr,ah];exact⟨_,rfl,λ_=>by omega⟩
theorem ajM(s:ByteArray)(hn:4000002<=n):∃b,xL n s=some b:=by
 have⟨b,hb,h20⟩:=ajL (n:=n) s hn;simp only[xL,hb,ah];cases b with
 |false=>exact⟨_,rfl⟩
 |true=>
  have hs:=h20 rfl;have hmx:maxLen=9223372036854775807:=rfl;have c1:WQ (⟨#[32]⟩) s=true:=by
   have:(⟨#[32]⟩:ByteArray).size=1:=rfl;simp only[WQ,aT];omega
  have c2:WQ ((⟨#[32]⟩)++s) (⟨#[32]⟩)=true:=by
   have h1:(⟨#[32]⟩:ByteArray).size=1:=rfl;simp only[WQ,aT,ByteArray.size_append];omega
  simp only[aj,c1,c2];refine uf (aac _ _ (Nat.le_of_ble_eq_true ?_)) λ_=>⟨_,rfl⟩
  kernel_rfl
theorem ajN(a b:B4):∃r,zu a b=some r:=by
 unfold zu;rw[Bb];exact fq (fq ⟨_,rfl⟩ ⟨_,rfl⟩) ⟨_,rfl⟩
theorem fZ{l:List aF}{φ:(aF×Unit)->Option Bool}(p:aF->Bool)(h:∀x∈l,φ (x,())=some (p x))(hl:l.length<1099511627776)(hn:l.length<n):fT n l φ=some (l.any p):=by
 have:qR n l φ=some (Dz p l):=iH p h hl hn;simp only[fT,this,ah,zo]
theorem zT{l:List aF}{φ:(aF×Unit)->Option Bool}(h:∀x∈l,∃b,φ (x,())=some b)(hl:l.length<1099511627776)(hn:l.length<n):fT n l φ=some (l.any λx=>(φ (x,())).getD false):=
 fZ _ (λ x hx=>by have⟨b,hb⟩:=h x hx;rw[hb];rfl) hl hn
def HN(d:aV):Prop:=∀p∈d.phases,p.gives.length<=1000
theorem ahg{l:List aF}(hl:l.length<=1000000)(hn:4000002<=n):iter (lD n l) n (0:Int)=some (.inr false)\/(iter (lD n l) n (0:Int)=some (.inl ())/\∀v∈l,okV v=true):=by
 obtain⟨o,h1,h2⟩:=dZ (step:=lD n l) (λ i (v:Int)=>v=(i:Int)/\i<=l.length/\∀x∈l.take i,okV x=true) (λ o=>o= .inr false\/(o= .inl ()/\∀v∈l,okV v=true)) l.length (λ k v h=>h.2.1) (by
  rintro i v ⟨rfl,hi,hall⟩;by_cases hlt:i<l.length
  ·simp only[lD,show decide ((i:Int)<(l.length:Int))=true from by simp;omega,aj,bE hlt,bM hlt,ah,u6,aW i];cases hv:okV l[i]with
   |false=>exact .inr ⟨_,by simp only[Bool.not_false,aj,ah];rfl,.inl rfl⟩
   |true=>
    have hsub:(sub l 0 i).length=i:=(by simp[sub];omega);have hc:=zT (n:=n) (l:=sub l 0 i) (φ:=λ(y1:aF×Unit)=>rZ y1.1 l[i]) (λ x _=>uf (ajN _ _) λ_=>⟨_,rfl⟩) (by omega) (by omega);simp only[Bool.not_true,ak,tK (show (0:Int)<=0 by omega) (show (0:Int)<=(i:Int)by omega) (show (i:Int)<=(l.length:Int)by omega),aj,Int.toNat_natCast,Rz hsub,hc,ah];cases ((sub l 0 i).any λx=>((λ (y1:aF×Unit)=>rZ y1.1 l[i]) (x,())).getD false)with
    |true=>exact .inr ⟨_,rfl,.inl rfl⟩
    |false=>
     refine .inl ⟨_,rfl,rfl,hlt,λx hx=>?_⟩;rw[List.take_add_one,dI hlt,aX]at hx;rcases hx with hx |hx
     ·exact hall x hx
     ·simp at hx;subst hx;exact hv
  ·refine .inr ⟨.inl (),?_,.inr ⟨rfl,λv hv=>hall v (by rw[take_of_length_le (by omega)];exact hv)⟩⟩;simp only[lD,show decide ((i:Int)<(l.length:Int))=false from by simp;omega,ak]) n 0 0 ⟨rfl,Nat.zero_le _,by simp⟩ (by omega)
 rcases h2 with rfl |⟨rfl,h2⟩
 ·exact .inl h1
 ·exact .inr ⟨h1,h2⟩
theorem ahh{p:iJ}(hp:p.gives.length<=1000)(hn:4000002<=n):iter (lF n p) n ((0:Int),([]:List (ByteArray×Bool)))=some (.inl ())\/iter (lF n p) n ((0:Int),([]:List (ByteArray×Bool)))=some (.inr (.inr (.inr false))):=by
 obtain⟨o,h1,h2⟩:=dZ (step:=lF n p) (λ i (v:Int×List (ByteArray×Bool))=>∃m,v=((i:Int),m)/\i<=p.gives.length) (λ o=>o= .inl ()\/o= .inr (.inr (.inr false))) p.gives.length (λ k v ⟨_,_,h⟩=>h) (by
  rintro i v ⟨m,rfl,hi⟩;by_cases hlt:i<p.gives.length
  ·have key:∃b,((bif ((qI Gb.d6 p.gives[i].name m).getD false)then some true else(xL n p.gives[i].name).bind λr4=>(bif (!r4)then some true else(bif (decide (p.gives[i].n<(0:Int)))then some true else some (decide (p.gives[i].n>(1073741824:Int)))))):Option (Bool))=some b:=
    fq ⟨_,rfl⟩ (uf (ajM _ hn) λ_=>fq ⟨_,rfl⟩ (fq ⟨_,rfl⟩ ⟨_,rfl⟩))
   obtain⟨b,hb⟩:=key;simp only[lF,show decide ((i:Int)<(p.gives.length:Int))=true from by simp;omega,aj,bB hlt,ah,hb,aW i];cases b with
   |true=>exact .inr ⟨_,rfl,.inr rfl⟩
   |false=>exact .inl ⟨_,rfl,_,rfl,hlt⟩
  ·simp only[lF,show decide ((i:Int)<(p.gives.length:Int))=false from by simp;omega,ak];exact .inr ⟨_,rfl,.inl rfl⟩) n 0 _ ⟨[],rfl,Nat.zero_le _⟩ (by omega)
 rcases h2 with rfl |rfl
 ·exact .inl h1
 ·exact .inr h1
theorem ahi{d:aV}(hd:Z6 d)(hg:HN d)(hn:4000002<=n):iter (lG n d) n (0:Int)=some (.inl ())\/iter (lG n d) n (0:Int)=some (.inr false):=by
 have hd1:=hd.1;obtain⟨o,h1,h2⟩:=dZ (step:=lG n d) (λ i (v:Int)=>v=(i:Int)/\i<=d.phases.length) (λ o=>o= .inl ()\/o= .inr false) d.phases.length (λ k v h=>h.2) (by
  rintro i v ⟨rfl,hi⟩;by_cases hlt:i<d.phases.length
  ·simp only[lG,show decide ((i:Int)<(d.phases.length:Int))=true from by simp;omega,aj,bB hlt,ah,aW i];rcases ahh (n:=n) (hg _ (getElem_mem hlt)) hn with h |h
   ·simp only[h,dP];cases decide ((d.phases[i].gives.length:Int)>30)with
    |true=>exact .inr ⟨_,rfl,.inr rfl⟩
    |false=>exact .inl ⟨_,rfl,rfl,hlt⟩
   ·simp only[h,fH];exact .inr ⟨_,rfl,.inr rfl⟩
  ·simp only[lG,show decide ((i:Int)<(d.phases.length:Int))=false from by simp;omega,ak];exact .inr ⟨_,rfl,.inl rfl⟩) n 0 0 ⟨rfl,Nat.zero_le _⟩ (by omega)
 rcases h2 with rfl |rfl
 ·exact .inl h1
 ·exact .inr h1
theorem Me{d:aV}(hd:Z6 d):(kQ d).length<=1000000:=by
 have:=Qj hd.2;have:=hd.1;unfold kQ;omega
theorem amL{d:aV}(hd:Z6 d)(hg:HN d)(hn:4000002<=n):∃b,zw n d=some b/\(b=true->∀v∈kQ d,okV v=true):=by
 simp only[zw,all_eq hd (show 1001<=n by omega),ah];have key:∀c1 c2 c3 c4 c5 c6:Bool,∃b,((bif c1 then some true else(bif c2 then some true else(bif c3 then some true else(bif c4 then some true else(bif c5 then some true else some c6))))):Option Bool)=some b:=by
  intro c1 c2 c3 c4 c5 c6;exact fq ⟨_,rfl⟩ (fq ⟨_,rfl⟩ (fq ⟨_,rfl⟩ (fq ⟨_,rfl⟩ (fq ⟨_,rfl⟩ ⟨_,rfl⟩))))
 have⟨b,hb⟩:=key (decide (d.lot<0)) (decide (d.lot>1073741824)) (decide ((d.phases.length:Int)<1)) (decide ((d.phases.length:Int)>8)) (decide (((kQ d).length:Int)<1)) (decide (((kQ d).length:Int)>40));rw[hb];cases b with
 |true=>exact⟨false,rfl,λh=>(by cases h)⟩
 |false=>
  simp only[ah,ak];rcases ahg (n:=n) (Me hd) hn with h |⟨h,hall⟩
  ·simp only[h,fH];exact⟨false,rfl,λh=>(by cases h)⟩
  ·simp only[h,dP];rcases ahi (n:=n) hd hg hn with h2 |h2
   ·simp only[h2,dP];exact⟨true,rfl,λ_=>hall⟩
   ·simp only[h2,fH];exact⟨false,rfl,λh=>(by cases h)⟩
theorem Ii{l:List iw}{φ:(iw×Unit)->Option Bool}(p:iw->Bool)(h:∀x∈l,φ (x,())=some (p x))(hl:l.length<1099511627776)(hn:l.length<n):ny n l φ=some (l.any p):=by
 have:vY n l φ=some (Dz p l):=iH p h hl hn;simp only[ny,this,ah,zo]
theorem alI{lot:gK}{l:List aF}(ha:lot.area.length<=900)(hv:∀v∈l,okV v=true)(hl:l.length<=1000000)(hn:4000002<=n):iter (kr n lot l) n (0:Int)=some (.inl ())\/iter (kr n lot l) n (0:Int)=some (.inr false):=by
 obtain⟨o,h1,h2⟩:=dZ (step:=kr n lot l) (λ i (v:Int)=>v=(i:Int)/\i<=l.length) (λ o=>o= .inl ()\/o= .inr false) l.length (λ k v h=>h.2) (by
  rintro i v ⟨rfl,hi⟩;by_cases hlt:i<l.length
  ·have hb:=Qi (hv _ (getElem_mem hlt));have hcl:=acQ (keep:=λp q=>p&&q) lot.area [iq l[i]];have hc:=acP (n:=n) (a:=lot.area) (b:=[iq l[i]]) (by omega) (by simp) (by omega) (by simp;omega) (by omega);have hA:=Ym (n:=n) (a:=(uZ (λ p q=>p&&q) lot.area [iq l[i]]).1) (by omega) (by omega);have hr:=FP hb;simp only[iq]at hc hA hr;simp only[kr,show decide ((i:Int)<(l.length:Int))=true from by simp;omega,aj,bE hlt,bM hlt,ah,show ∀r:ay,sub [r] 0 1=[r]from λ_=>rfl,length_singleton,aG,hc,hA,hr,aW i];have key:∀c x:Bool,∃b,((bif c then some true else some x):Option Bool)=some b:=λc x=>fq ⟨_,rfl⟩ ⟨_,rfl⟩;obtain⟨b,hb2⟩:=key ((uZ (λ p q=>p&&q) lot.area [⟨l[i].bx,l[i].cd,l[i].bu,l[i].ca⟩]).2 !=0) (decide ((bif cI (uZ (λ p q=>p&&q) lot.area [⟨l[i].bx,l[i].cd,l[i].bu,l[i].ca⟩]).1 then NQ (uZ (λ p q=>p&&q) lot.area [⟨l[i].bx,l[i].cd,l[i].bu,l[i].ca⟩]).1 else 0)<H0 ⟨l[i].bx,l[i].cd,l[i].bu,l[i].ca⟩));rw[hb2];cases b with
   |true=>exact .inr ⟨_,rfl,.inr rfl⟩
   |false=>exact .inl ⟨_,rfl,rfl,hlt⟩
  ·simp only[kr,show decide ((i:Int)<(l.length:Int))=false from by simp;omega,ak];exact .inr ⟨_,rfl,.inl rfl⟩) n 0 0 ⟨rfl,Nat.zero_le _⟩ (by omega)
 rcases h2 with rfl |rfl
 ·exact .inl h1
 ·exact .inr h1
theorem alJ{p:cO}{ph:iJ}(hc:p.caps.length<=1000)(hp:ph.gives.length<=1000)(hn:4000002<=n):iter (ku n p ph) n (0:Int)=some (.inl ())\/iter (ku n p ph) n (0:Int)=some (.inr (.inr (.inr false))):=by
 obtain⟨o,h1,h2⟩:=dZ (step:=ku n p ph) (λ i (v:Int)=>v=(i:Int)/\i<=ph.gives.length) (λ o=>o= .inl ()\/o= .inr (.inr (.inr false))) ph.gives.length (λ k v h=>h.2) (by
  rintro i v ⟨rfl,hi⟩;by_cases hlt:i<ph.gives.length
  ·simp only[ku,show decide ((i:Int)<(ph.gives.length:Int))=true from by simp;omega,aj,bB hlt,ah,Ii (n:=n) (l:=p.caps) (φ:=λ(y1:iw×Unit)=>vX y1.1 ph.gives[i]) (λ c=>ByteArray.toList c.name==ByteArray.toList ph.gives[i].name) (λ _ _=>rfl) (by omega) (by omega),aW i];cases (p.caps.any λc=>ByteArray.toList c.name==ByteArray.toList ph.gives[i].name)with
   |false=>exact .inr ⟨_,rfl,.inr rfl⟩
   |true=>exact .inl ⟨_,rfl,rfl,hlt⟩
  ·simp only[ku,show decide ((i:Int)<(ph.gives.length:Int))=false from by simp;omega,ak];exact .inr ⟨_,rfl,.inl rfl⟩) n 0 0 ⟨rfl,Nat.zero_le _⟩ (by omega)
 rcases h2 with rfl |rfl
 ·exact .inl h1
 ·exact .inr h1
theorem alK{p:cO}{d:aV}(hc:p.caps.length<=1000)(hd:Z6 d)(hg:HN d)(hn:4000002<=n):iter (kz n p d) n (0:Int)=some (.inl ())\/iter (kz n p d) n (0:Int)=some (.inr false):=by
 have hd1:=hd.1;obtain⟨o,h1,h2⟩:=dZ (step:=kz n p d) (λ i (v:Int)=>v=(i:Int)/\i<=d.phases.length) (λ o=>o= .inl ()\/o= .inr false) d.phases.length (λ k v h=>h.2) (by
  rintro i v ⟨rfl,hi⟩;by_cases hlt:i<d.phases.length
  ·simp only[kz,show decide ((i:Int)<(d.phases.length:Int))=true from by simp;omega,aj,bB hlt,ah,aW i];rcases alJ (n:=n) hc (hg _ (getElem_mem hlt)) hn with h |h
   ·simp only[h,dP];exact .inl ⟨_,rfl,rfl,hlt⟩
   ·simp only[h,fH];exact .inr ⟨_,rfl,.inr rfl⟩
  ·simp only[kz,show decide ((i:Int)<(d.phases.length:Int))=false from by simp;omega,ak];exact .inr ⟨_,rfl,.inl rfl⟩) n 0 0 ⟨rfl,Nat.zero_le _⟩ (by omega)
 rcases h2 with rfl |rfl
 ·exact .inl h1
 ·exact .inr h1
theorem ajO{p:cO}{lot:gK}{d:aV}(hc:p.caps.length<=1000)(ha:lot.area.length<=900)(hd:Z6 d)(hg:HN d)(hn:4000002<=n):∃b,oU n p lot d=some b/\(b=true->∀v∈kQ d,okV v=true):=by
 have⟨b,hb,hv⟩:=amL (n:=n) hd hg hn;simp only[oU,hb,ah];cases b with
 |false=>exact⟨false,by simp only[Bool.not_false,aj,ah],λh=>(by cases h)⟩
 |true=>
  simp only[Bool.not_true,ak,mH (n:=n) (l:=lot.area) (by omega) (by omega) (by omega),ah];cases (lot.id !=d.lot)with
  |true=>exact⟨false,by simp only[aj,ah],λh=>(by cases h)⟩
  |false=>
   cases cI lot.area with
   |false=>exact⟨false,by simp only[Bool.not_false,aj,ak,ah],λh=>(by cases h)⟩
   |true=>
    simp only[Bool.not_true,ak,ah,all_eq hd (show 1001<=n by omega)];rcases alI (n:=n) ha (hv rfl) (Me hd) hn with h |h
    ·simp only[h,dP];rcases alK (n:=n) hc hd hg hn with h2 |h2
     ·simp only[h2,dP];exact⟨true,rfl,λ_=>hv rfl⟩
     ·simp only[h2,fH];exact⟨false,rfl,λh=>(by cases h)⟩
    ·simp only[h,fH];exact⟨false,rfl,λh=>(by cases h)⟩
theorem amM{p:cO}{ms:List bP}{zs:List ByteArray}{e:bL}(hp:T2 p)(hm:ms.length<=4000000)(hz:zs.length<=4000000)(he:(toE e).wt<=4000000)(hn:5000003<=n)(hn2:n<=9223372036854775000):∃v,CW n p ms zs e=some v:=by
 obtain⟨b,hb,hv⟩:=Uf (n:=n) (by omega) hn2 he;simp only[CW,Bc,hb,ah];cases b with
 |false=>exact⟨_,rfl⟩
 |true=>
  have⟨kn,ab,h1,_⟩:=NS (n:=n) hp hm hz hn hn2;obtain⟨v,h2⟩:=YB (n:=n) (a0:=p.defs) (a2:=p.zones) (a3:=p.rules) (a4:=p.caps) (a5:=p.views) (a6:=p.nt) (a7:=p.hours) (by omega) hp.tabs hz n e kn (hv rfl) he;simp only[Bool.not_true,ak,h1,ah,gu,h2];exact⟨_,rfl⟩
section
variable {n:Nat} {d:List fK} {ts:List bZ} {z:List dY} {r r':List aM} {c:List iw} {v:List fI} {su:List bX} {h:Int} {zs:List ByteArray}
theorem K5:∀(m:Nat)(e:bL)(kn:List (ByteArray×Int)),bT n m d ts z r c v su h zs e kn=bT n m d ts z r' c v su h zs e kn
 | 0,_,_=>rfl
 |m+1,e,kn=>by
  have ih:=K5 m;have hs:fw n (bT n m) d ts z r c v su h zs e=fw n (bT n m) d ts z r' c v su h zs e:=by
   funext ⟨v1,v2,v3⟩;simp only[fw,ih]
  have hr:∀w,jy n d ts z r c v su h zs e w=jy n d ts z r' c v su h zs e w:=λ_=>rfl;show fF n (bT n m) d ts z r c v su h zs e kn=fF n (bT n m) d ts z r' c v su h zs e kn;simp only[fF,hs,Bc,hr]
theorem ahj{ms:List bP}:(mZ n (cO.mk d ts z r c v su h) ms zs).map (λ q=>q.2.2.2.2.2.2.2.2.2)=(mZ n (cO.mk d ts z r' c v su h) ms zs).map (λ q=>q.2.2.2.2.2.2.2.2.2):=by
 have hs:∀w2 r1,gV n (cO.mk d ts z r c v su h) zs w2 r1=gV n (cO.mk d ts z r' c v su h) zs w2 r1:=by
  intro w2 r1;funext ⟨v6,v7,v8⟩;have hv:∀e kn,gu n d ts z r c v su h zs e kn=gu n d ts z r' c v su h zs e kn:=λe kn=>K5 n e kn;simp only[gV,hv]
 have ho:ou n (cO.mk d ts z r c v su h)=ou n (cO.mk d ts z r' c v su h):=rfl;simp only[mZ,hs,ho];cases iter (kD n ms) n ((0:Int),([]:(List (ByteArray×Int))),([]:(List (ByteArray×Bool))))with
 |none=>rfl
 |some w=>
  obtain⟨w1,w2⟩:=w;simp only[ah];cases (decide ((d.length:Int)<=(d.length:Int))&&(decide (0<=(d.length:Int))&&BH (d.length:Int) 8))with
  |false=>rfl
  |true=>
   simp only[aj];cases ou n (cO.mk d ts z r' c v su h)with
   |none=>rfl
   |some r1=>
    simp only[ah];cases (r1.2.2 !=(0:Int))with
    |true=>
     simp only[aj];cases bk (((d.length:Int):Int).toNat) (List.replicate ((d.length:Int):Int).toNat (0:Int)).length<;>rfl
    |false=>
     simp only[ak];cases iter (gV n (cO.mk d ts z r' c v su h) zs w2 r1) n ((0:Int),w1,(List.replicate ((d.length:Int):Int).toNat (0:Int)))with
     |none=>rfl
     |some q=>
      obtain⟨w3,w4⟩:=q;simp only[ah];cases bk (((d.length:Int):Int).toNat) w4.length<;>rfl
theorem ahk{ms:List bP}{e:bL}(hp:gE d)(ht:Lk ts)(hm:ms.length<=4000000)(hz:zs.length<=4000000)(hn:5000003<=n)(hn2:n<=9223372036854775000):CW n (cO.mk d ts z r c v su h) ms zs e=CW n (cO.mk d ts z r' c v su h) ms zs e:=by
 have⟨kn,ab,h1,_⟩:=NS (n:=n) (p:=cO.mk d ts z r c v su h) ⟨hp,ht⟩ hm hz hn hn2;have⟨ZZ,out2,h2,_⟩:=NS (n:=n) (p:=cO.mk d ts z r' c v su h) ⟨hp,ht⟩ hm hz hn hn2;have h3:=ahj (n:=n) (d:=d) (ts:=ts) (z:=z) (r:=r) (r':=r') (c:=c) (v:=v) (su:=su) (h:=h) (zs:=zs) (ms:=ms);rw[h1,h2]at h3;simp only[Option.map_some,aA,Prod.mk.injEq]at h3;obtain⟨rfl,rfl⟩:=h3;simp only[CW,h1,h2,ah,gu,K5 (r:=r) (r':=r')]
end
theorem UH{b:ay}{l:List dU}{s:List fJ}(ha:∀c∈s,c.area.length<=200)(hs:s.length<=1000)(hl:l.length<=1000)(hn:2000<=n):
 zM n b l s=some (Ic b l&&(DY s&&!(s.any λc=>decide (JT b l c.area<c.z1)))):=by
 unfold zM;rw[Yv b l hl hn];simp only[ah];cases hv:Ic b l with
 |false=>simp only[Bool.not_false,aj,ah,Bool.false_and]
 |true=>
  have⟨v1,v2⟩:=(aeV b l).1 hv;simp only[Bool.not_true,ak,Ud (n:=n) (s:=s) (λ x hx=>by have:=ha x hx;omega) (by omega),ah,Bool.true_and];cases hr:DY s with
  |false=>simp only[Bool.not_false,aj,Bool.false_and]
  |true=>
   have⟨_,sok,_⟩:=(NR s).1 hr;simp only[Bool.not_true,ak,Bool.true_and];rw[tZ (λ c=>decide (JT b l c.area<c.z1)) (λ c hc=>by
    have:=ha c hc;show sH n c b l=_;unfold sH;rw[UF v1 v2 (uX (sok c hc).rt).1 (by omega) hl hn];rfl) (by omega) (by omega)]
   simp only[ah]
def o9(v:aF):List fJ:=[⟨v.ek,v.dC,[iq v]⟩]
theorem ae8(v:aF):zJ v=some (o9 v):=rfl
def VL(b:ay)(p:dU)(v:aF):Bool:=Ic b [p]&&(DY (o9 v)&&!((o9 v).any λc=>decide (JT b [p] c.area<c.z1)))
def R9(r:aM):dU:=dU.mk r.ie r.ii r.i8 r.i9
theorem acY(v:aF)(b:ay)(r:aM)(hn:2000<=n):jW n v b r=some (!VL b (R9 r) v):=by
 have h:=UH (n:=n) (b:=b) (l:=[R9 r]) (s:=o9 v) (by simp[o9]) (by simp[o9]) (by simp) hn;unfold R9 at h;have hl:(o9 v).length=1:=rfl;simp only[jW,ae8,ah,cZ,aG,aj,show ∀x:dU,sub [x] 0 1=[x]from λ_=>rfl,length_singleton,h,VL,R9];rfl
def K0(r:aM)(v:aF):Bool:=bits .and .i64 r.uses (i64.wrap (1*2 ^ (v.use:Int).toNat))==(0:Int)
theorem acZ{v:aF}(h:okV v=true)(r:aM):jX v r=some (K0 r v):=by
 have hu:0<=v.use/\v.use<6:=by
  simp only[okV,aJ,aT]at h;omega
 have hb:i64.bits=64:=rfl;simp only[jX,K0,show(decide (0<=v.use)&&decide (v.use<=i64.bits))=true from by simp[hb];omega,aj]
def K6(lot:Int)(r:aM)(v:aF)(b:bS):Bool:=(dD b (mU.mk [] [] [] [] [] [] [] 0 [] [] [] [] [] 0 0 [] [] lot [] [] []) v r).getD false
theorem ae9{b:bS}{s:mU}{v:aF}{r:aM}:dD b s v r=some (K6 s.du r v b):=by
 have key:∃x,dD b (mU.mk [] [] [] [] [] [] [] 0 [] [] [] [] [] 0 0 [] [] s.du [] [] []) v r=some x:=by
  simp only[dD,jE,alq,ah];refine uf (fq ⟨_,rfl⟩ (fq ⟨_,rfl⟩ (fq ⟨_,rfl⟩ ⟨_,rfl⟩))) λ_=>fq ⟨_,rfl⟩ (uf (fq (fq ⟨_,rfl⟩ (fq ⟨_,rfl⟩ ⟨_,rfl⟩)) (fq ⟨_,rfl⟩ ⟨_,rfl⟩)) λ_=>fq ⟨_,rfl⟩ ⟨_,rfl⟩)
 have e:dD b s v r=dD b (mU.mk [] [] [] [] [] [] [] 0 [] [] [] [] [] 0 0 [] [] s.du [] [] []) v r:=rfl;obtain⟨x,hx⟩:=key;rw[e,K6,hx];rfl
theorem BL{l:List bS}{φ:(bS×Unit)->Option Bool}(p:bS->Bool)(h:∀x∈l,φ (x,())=some (p x))(hl:l.length<1099511627776)(hn:l.length<n):jY n l φ=some (l.any p):=by
 have:qY n l φ=some (Dz p l):=iH p h hl hn;simp only[jY,this,ah,zo]
def NT(built:List bS)(lot:Int)(r:aM)(v:aF):Bool:=built.any (K6 lot r v)
theorem ac0{s:mU}{v:aF}{r:aM}(hb:s.fW.length<=1000)(hn:2000<=n):jZ n v s r=some (NT s.fW s.du r v):=by simp only[jZ,sW,BL (n:=n) (l:=s.fW) (φ:=λ(y1:bS×Unit)=>dD y1.1 s v r) (K6 s.du r v) (λ x _=>ae9) (by omega) (by omega),ah,NT]
def ir(r:aM):bL:=bL.mk r.ky r.mm r.ml r.i7 r.fX
def l4(t:dh):cO:=cO.mk t.cm t.b7 t.b8 [] t.co t.ci t.cz t.cj
structure Mv(t:dh):Prop where
 lots:∀l∈t.land,B9 l
 land:t.land.length<=1000
 IR:t.cp.length<=900/\∀e∈t.cp,e.area.length<=900
 built:t.built.length<=1000
 zones:t.b8.length<=100
 caps:t.co.length<=1000
 rules:t.az.length<=100
 rule:∀r∈t.az,Ib r/\(toE (ir r)).wt<=4000000
 plan:T2 (l4 t)
def xl(d:aV):Prop:=Z6 d/\HN d
def uA(n:Nat):Prop:=5000003<=n/\n<=9223372036854775000
def pY(t:dh)(lot:gK):List ByteArray:=CN t.b8 lot.area
def rh(t:dh)(lot:gK)(d:aV):mU:=mU.mk t.cm t.b7 t.b8 t.az t.co t.ci t.cz t.cj t.land t.cp t.windows t.built t.base lot.id lot.owner lot.area lot.from_ d.lot d.phases (kQ d) (pY t lot)
theorem alL{d:aV}(h:Z6 d)(hn:1001<=n):uL n d=some (kQ d):=by
 obtain⟨h1,h2⟩:=h;unfold uL;have key:=Md (step:=pz d) (λ i=>((i:Int),(d.phases.take i).flatMap (·.cx))) (s:=((0:Int),([]:List aF))) d.phases.length (kQ d) rfl (λ i hi=>by
  have hl:=Qj (l:=d.phases.take i) λp hp=>h2 p (List.mem_of_mem_take hp);rw[length_take]at hl;have hv:=h2 _ (getElem_mem hi);generalize hL:(d.phases.take i).flatMap (·.cx)=L at hl;have hap:bR L.length L.length d.phases[i].cx.length d.phases[i].cx.length 72=true:=eX (by omega) (by simp only[maxLen];omega);simp only[pz,dR hi,aj,bB hi,ah,hap,fG,aG,aW i];rw[j4 hi,List.flatMap_append,hL];simp only[List.flatMap_cons,List.flatMap_nil,append_nil]) (by simp only[pz,fO,ak,aG,aj,List.take_length,kQ]) n (by omega)
 have hz:bk 0 ([]:List aF).length=true:=rfl;simp only[hz,aj,key,ah,cZ,aG]
def TC(n:Nat)(t:dh)(d:aV):Bool:=(oU n (l4 t) (nE t.land d.lot).1 d).getD false
def jJ(n:Nat)(t:dh)(d:aV):Int:=bif(nE t.land d.lot).2 then(bif TC n t d then 0 else 1)else 4
def aoy:mU:=mU.mk ([]) ([]) ([]) ([]) ([]) ([]) ([]) 0 ([]) ([]) ([]) ([]) ([]) 0 0 ([]) ([]) 0 ([]) ([]) ([])
theorem look_eq{t:dh}{d:aV}(ht:Mv t)(hd:xl d)(hn:uA n):xU n t d=some (bif jJ n t d==0 then rh t (nE t.land d.lot).1 d else aoy,jJ n t d)/\(jJ n t d=0->∀v∈kQ d,okV v=true):=by
 obtain⟨hn1,hn2⟩:=hn;have hl:=ht.land;have e1:Py n t.land d.lot=some (nE t.land d.lot):=ajE ht.lots (by omega) (by omega);have hw:=R6 ht.lots d.lot;obtain⟨b,hb,hv⟩:=ajO (n:=n) (p:=l4 t) (lot:=(nE t.land d.lot).1) (d:=d) ht.caps hw.1 hd.1 hd.2 (by omega);have e2:oU n (cO.mk t.cm t.b7 t.b8 t.az t.co t.ci t.cz t.cj) (nE t.land d.lot).1 d=some b:=hb;have e3:FD n (cO.mk t.cm t.b7 t.b8 t.az t.co t.ci t.cz t.cj) (nE t.land d.lot).1.area=some (CN t.b8 (nE t.land d.lot).1.area):=acR _ _ ht.zones hw.1 (by omega);have e4:TC n t d=b:=by unfold TC;rw[hb];rfl
 simp only[xU,e1,e2,e3,alL hd.1 (show 1001<=n by omega),ah,cZ,aG,aj,jJ,e4];cases (nE t.land d.lot).2 with
 |false=>exact⟨rfl,λh=>absurd (show (4:Int)=0 from h) (by decide)⟩
 |true=>
  cases b with
  |false=>exact⟨rfl,λh=>absurd (show (1:Int)=0 from h) (by decide)⟩
  |true=>exact⟨rfl,λ_=>hv rfl⟩
def DP(n:Nat)(t:dh)(lot:gK)(d:aV)(r:aM):Bool:=((sS n (l4 t) lot d).bind λms=>CW n (l4 t) ms (pY t lot) (ir r)).getD 1==0
def zV(n:Nat)(t:dh)(lot:gK)(d:aV)(r:aM):Bool:=
 bif r.kind==0 then DP n t lot d r else bif r.kind==1 then(kQ d).any (λ v=>!VL (VK lot.area).1 (R9 r) v)else bif r.kind==2 then(kQ d).any (K0 r)else bif r.kind==3 then(kQ d).any (NT t.built d.lot r)else false
theorem YC{t:dh}(ht:Mv t)(lot:gK):(pY t lot).length<=100:=Nat.le_trans (amF _ _) ht.zones
theorem abA{t:dh}{lot:gK}{d:aV}{r:aM}(ht:Mv t)(hl:lot.area.length<=900)(hd:xl d)(hv:∀v∈kQ d,okV v=true)(hr:(toE (ir r)).wt<=4000000)(hn:uA n):jH n (rh t lot d) r=some (zV n t lot d r):=by
 obtain⟨hn1,hn2⟩:=hn;have hvl:=Me hd.1;have hz:=YC ht lot;simp only[jH,gW,zV];cases (r.kind==0)with
 |true=>
  have htb:=ht.plan.tabs;obtain⟨e1,e2,e3,e4,e5,e6,e7,e8,hOf⟩:=aow (n:=n) (p:=l4 t) (lot:=lot) (d:=d) ⟨by have:=htb.1;omega,by have:=htb.1;omega,λx hx=>by have:=htb.2 x hx;omega⟩ hl hd.1 (by omega);have h1:=hOf t.az;have h2:=hOf [];have h2':sS n (l4 t) lot d=_:=h2;have h1':sS n (cO.mk t.cm t.b7 t.b8 t.az t.co t.ci t.cz t.cj) (gK.mk lot.id lot.owner lot.area lot.from_) (aV.mk d.lot d.phases)=_:=h1;obtain⟨v,hE⟩:=amM (n:=n) (p:=l4 t) (ms:=[⟨⟨#[97,114,101,97]⟩,e1⟩,⟨⟨#[99,111,118,101,114]⟩,e2⟩,⟨⟨#[102,108,111,111,114]⟩,e3⟩,⟨⟨#[102,108,111,111,114,115]⟩,e4⟩,⟨⟨#[104,101,105,103,104,116]⟩,e5⟩,⟨⟨#[104,111,109,101,115]⟩,e6⟩,⟨⟨#[114,117,110,111,102,102]⟩,e7⟩,⟨R8,Qk (rT lot) (ja d)⟩,⟨⟨#[116,114,97,102,102,105,99]⟩,e8⟩]) (zs:=pY t lot) (e:=ir r) ht.plan (by simp) (by omega) hr hn1 hn2;have hE':=(ahk (n:=n) (d:=t.cm) (ts:=t.b7) (z:=t.b8) (r:=t.az) (r':=[]) (c:=t.co) (v:=t.ci) (su:=t.cz) (h:=t.cj) (zs:=pY t lot) (ms:=[⟨⟨#[97,114,101,97]⟩,e1⟩,⟨⟨#[99,111,118,101,114]⟩,e2⟩,⟨⟨#[102,108,111,111,114]⟩,e3⟩,⟨⟨#[102,108,111,111,114,115]⟩,e4⟩,⟨⟨#[104,101,105,103,104,116]⟩,e5⟩,⟨⟨#[104,111,109,101,115]⟩,e6⟩,⟨⟨#[114,117,110,111,102,102]⟩,e7⟩,⟨R8,Qk (rT lot) (ja d)⟩,⟨⟨#[116,114,97,102,102,105,99]⟩,e8⟩]) (e:=ir r) ht.plan.defs ht.plan.tabs (by simp) (by omega) hn1 hn2).trans hE;unfold ir at hE';simp only[aj,rh,h1',ah,cZ,aG,hE',DP,h2',hE,Option.getD_some]
 |false=>
  cases (r.kind==1)with
  |true=>
   simp only[aj,ak,show(rh t lot d).ka=lot.area from rfl,show(rh t lot d).cx=kQ d from rfl,acT (n:=n) lot.area hl (by omega),ah];rw[fZ (λ v=>!VL (VK lot.area).1 (R9 r) v) (λ v _=>acY v _ r (by omega)) (by omega) (by omega)];rfl
  |false=>
   cases (r.kind==2)with
   |true=>
    simp only[aj,ak,show(rh t lot d).cx=kQ d from rfl];rw[fZ (K0 r) (λ v hm=>acZ (hv v hm) r) (by omega) (by omega)];rfl
   |false=>
    cases (r.kind==3)with
    |true=>
     simp only[aj,ak,show(rh t lot d).cx=kQ d from rfl];rw[fZ (NT t.built d.lot r) (λ v _=>ac0 (s:=rh t lot d) ht.built (by omega)) (by omega) (by omega)];rfl
    |false=>rfl
def addN(ab:List ByteArray)(name:ByteArray)(bad:Bool):List ByteArray:=bif bad&&!(ab.any (d6 name))then ab++[name]else ab
theorem YD(ab:List ByteArray)(name:ByteArray)(bad:Bool):(addN ab name bad).length<=ab.length+1:=by
 unfold addN;cases (bad&&!(ab.any (d6 name)))<;>simp
theorem afb{name:ByteArray}{bad:Bool}{ab:List ByteArray}(hl:ab.length<=1000)(hn:2000<=n):jI n name bad ab=some (addN ab name bad):=by
 have hmx:maxLen=9223372036854775807:=rfl;have hap:bR ab.length ab.length (sub [name] 0 1).length 1 16=true:=by simp[bR,sub];omega
 simp only[jI,cZ,aG,aj,vM (n:=n) (l:=ab) (a:=name) (by omega) (by omega),ah,addN,hap,fG];cases bad with
 |false=>rfl
 |true=>cases (ab.any (d6 name))<;>rfl
def YE(t:dh)(d:aV):Bool:=(kQ d).any λv=>!Yx t.cp d.lot (o9 v)
def Ah:ByteArray:=⟨#[101,97,115,101,109,101,110,116]⟩
def u7(n:Nat)(t:dh)(lot:gK)(d:aV)(l:List aM):List ByteArray:=l.foldl (λ ab r=>addN ab r.name (zV n t lot d r)) []
theorem DZ(f:aM->Bool):∀(l:List aM)(ab:List ByteArray),(l.foldl (λ ab r=>addN ab r.name (f r)) ab).length<=ab.length+l.length
 |[],ab=>by simp
 |r::l,ab=>by
  have h1:=DZ f l (addN ab r.name (f r));have h2:=YD ab r.name (f r);rw[foldl_cons,bF];omega
def applied(t:dh)(lot:gK)(day:Int):List aM:=t.az.filter (jm (pY t lot) day)
def iT(t:dh)(d:aV):gK:=(nE t.land d.lot).1
def gH(n:Nat)(t:dh)(d:aV)(day:Int):List ByteArray:=bif jJ n t d==0 then addN (u7 n t (iT t d) d (applied t (iT t d) day)) Ah (YE t d)else []
theorem vZ{t:dh}{d:aV}(day:Int)(ht:Mv t)(hd:xl d)(hn:uA n):fC n t d day=some (gH n t d day,jJ n t d):=by
 obtain⟨hk,hv⟩:=look_eq (n:=n) ht hd hn;have hn1:=hn.1;have hvl:=Me hd.1;simp only[fC,hk,ah,gH];by_cases h0:jJ n t d=0
 ·have ua:(jJ n t d==0)=true:=by simp[h0]
  have RR:(jJ n t d !=0)=false:=by simp[h0]
  have hw:=R6 ht.lots d.lot;have hz:=YC ht (iT t d);have hA:uO n (cO.mk t.cm t.b7 t.b8 t.az t.co t.ci t.cz t.cj) (pY t (iT t d)) day=some ((R5 t.az (pY t (iT t d)) day).map λ(i:Nat)=>(i:Int)):=UD _ _ _ (λ r hr=>(ht.rule r hr).1) ht.rules hz (by omega);have hal:(R5 t.az (pY t (iT t d)) day).length<=100:=Nat.le_trans (length_filter_le _ _) (by rw[List.length_range];exact ht.rules);have hpick:(R5 t.az (pY t (iT t d)) day).filterMap (λ i=>t.az[i]?)=applied t (iT t d) day:=Ue (jm (pY t (iT t d)) day) t.az;have hloop:∀A:List Nat,A.length<=100->(∀ i∈A,i<t.az.length)->iter (nM n t (rh t (iT t d) d,jJ n t d) (A.map λ(i:Nat)=>(i:Int))) n ((0:Int),([]:List ByteArray))=some (u7 n t (iT t d) d (A.filterMap λi=>t.az[i]?)):=by
   intro A hA hAr
   have key:=gm (l:=A) (step:=nM n t (rh t (iT t d) d,jJ n t d) (A.map λ(i:Nat)=>(i:Int))) (λ i (s:List ByteArray)=>((i:Int),s)) (λ i s=>match t.az[i]? with
    |some r=>addN s r.name (zV n t (iT t d) d r)
    |none=>s) (λ s=>s) (λ i s=>s.length<=i) (λ i hi s hs=>by
    have hr:=hAr _ (getElem_mem hi);have hlm:(A.map λ(i:Nat)=>(i:Int)).length=A.length:=(by simp);have hg:bo (A.map λ(i:Nat)=>(i:Int)) (((0:Nat):Int)+(i:Int))=some ((A[i]:Nat):Int):=(by rw[bM (by omega)];simp);have hrr:=ht.rule _ (getElem_mem hr);have hb:=abA (n:=n) (t:=t) (lot:=iT t d) (d:=d) ht hw.1 hd (hv h0) hrr.2 hn;have e:=dI hr;simp only[nM,hlm,dR hi,aj,bE hi,hg,ah,bB hr,hb,aG,afb (n:=n) (name:=t.az[A[i]].name) (bad:=zV n t (iT t d) d t.az[A[i]]) (ab:=s) (by omega) (by omega),aW i,e];exact⟨trivial,Nat.le_trans (YD _ _ _) (by omega)⟩) (λ s _=>by
    have hlm:(A.map λ(i:Nat)=>(i:Int)).length=A.length:=(by simp);simp only[nM,hlm,fO,ak,aG,aj]) n (by omega) [] (aQ _)
   rw[show ((0:Nat):Int)=0 from rfl]at key;rw[key];congr 1;unfold u7;generalize ([]:List ByteArray)=s0;clear key hA
   induction A generalizing s0 with
   |nil=>rfl
   |cons a A ih=>
    have ha:=hAr a (by simp);rw[foldl_cons,List.filterMap_cons];simp only[dI ha];rw[foldl_cons];exact ih (λ i hi=>hAr i (by simp[hi])) _
  have hlo:=hloop (R5 t.az (pY t (iT t d)) day) hal (λ i hi=>by
   have:=(mem_filter.1 hi).1;simpa using this)
  rw[hpick]at hlo;have hrl:(u7 n t (iT t d) d (applied t (iT t d) day)).length<=100:=by
   have h1:=DZ (zV n t (iT t d) d) (applied t (iT t d) day) [];have h2:(applied t (iT t d) day).length<=100:=Nat.le_trans (length_filter_le _ _) ht.rules;unfold u7;simp only[length_nil]at h1;omega
  have hany:gW n (rh t (iT t d) d) (λ (y1:aF×Unit)=>nL n y1.1 t d)=some (YE t d):=by
   have hs:∀v,nL n v t d=some (!Yx t.cp d.lot (o9 v)):=by
    intro v;have hl1:(o9 v).length=1:=rfl;have h:=Z5 (n:=n) (l:=t.cp) (lot:=d.lot) (s:=o9 v) ht.IR.1 ht.IR.2 (by simp[o9]) (by omega);simp only[nL,ae8,ah,cZ,aG,aj,h]
   simp only[gW,show(rh t (iT t d) d).cx=kQ d from rfl];rw[fZ (λ v=>!Yx t.cp d.lot (o9 v)) (λ v _=>hs v) (by omega) (by omega)];rfl
  have hsc:rh t (nE t.land d.lot).1 d=rh t (iT t d) d:=rfl;simp only[ua,RR,aj,ak,hsc,show(rh t (iT t d) d).zones=pY t (iT t d)from rfl,hA,ah,length_nil,aG,hlo,hany,afb (n:=n) (name:=⟨#[101,97,115,101,109,101,110,116]⟩) (bad:=YE t d) (ab:=u7 n t (iT t d) d (applied t (iT t d) day)) (by omega) (by omega),cZ];rw[h0];rfl
 ·have ua:(jJ n t d==0)=false:=by simpa using h0
  have RR:(jJ n t d !=0)=true:=by simpa using h0
  simp only[ua,RR,aj,ak]
theorem abB{t:dh}{d:aV}{r:aM}(ht:Mv t)(hd:xl d)(hr:(toE (ir r)).wt<=4000000)(hn:uA n):ng n t d r=some ((jJ n t d==0)&&zV n t (iT t d) d r):=by
 obtain⟨hk,hv⟩:=look_eq (n:=n) ht hd hn;have hw:=R6 ht.lots d.lot;simp only[ng,hk,ah];by_cases h0:jJ n t d=0
 ·have ua:(jJ n t d==0)=true:=by simp[h0]
  have hb:=abA (n:=n) (t:=t) (lot:=iT t d) (d:=d) (r:=r) ht hw.1 hd (hv h0) hr hn;have hsc:rh t (nE t.land d.lot).1 d=rh t (iT t d) d:=rfl;simp only[ua,aj,hsc,hb,ah,Bool.true_and]
 ·have ua:(jJ n t d==0)=false:=by simpa using h0
  simp only[ua,ak,Bool.false_and]
theorem ajP{t:dh}{d:aV}(day:Int)(ht:Mv t)(hd:xl d)(hn:uA n):xg n t d day=some ((jJ n t d==0)&&decide (gH n t d day=[])):=by
 simp only[xg,vZ day ht hd hn,ah];cases (jJ n t d==0)with
 |false=>rfl
 |true=>
  simp only[aj,Bool.true_and];cases gH n t d day with
  |nil=>rfl
  |cons x l=>
   have:(((x::l).length:Nat):Int)≠0:=(by simp;omega);rw[beq_eq_false_iff_ne.2 this];simp
theorem Di{α:Type}{l:List α}{K n:Nat}{step:Int->Option (Int⊕(Unit⊕Bool))}{good:α->Prop}(h1:∀i (hi:i<l.length),i<K->step (i:Int)=some (.inr (.inr false))\/(step (i:Int)=some (.inl ((i+1:Nat):Int))/\good l[i]))
 (h2:∀i:Nat,(¬ i<l.length\/¬i<K)->step (i:Int)=some (.inr (.inl ()))) (hn:K+1<n):iter step n (0:Int)=some (.inr false)\/(iter step n (0:Int)=some (.inl ())/\(l.length<=K->∀x∈l,good x)):=by
 obtain⟨o,g1,g2⟩:=dZ (step:=step) (λ i (v:Int)=>v=(i:Int)/\i<=l.length/\i<=K/\∀x∈l.take i,good x) (λ o=>o= .inr false\/(o= .inl ()/\(l.length<=K->∀x∈l,good x))) K (λ k v h=>h.2.2.1) (by
  rintro i v ⟨rfl,hi,hK,hall⟩;by_cases hlt:i<l.length/\i<K
  ·rcases h1 i hlt.1 hlt.2 with h |⟨h,hg⟩
   ·exact .inr ⟨_,h,.inl rfl⟩
   ·refine .inl ⟨_,h,rfl,hlt.1,hlt.2,λx hx=>?_⟩;rw[List.take_add_one,dI hlt.1,aX]at hx;rcases hx with hx |hx
    ·exact hall x hx
    ·simp at hx;subst hx;exact hg
  ·refine .inr ⟨_,h2 i (by omega),.inr ⟨rfl,λhl x hx=>hall x ?_⟩⟩;rw[take_of_length_le (by omega)];exact hx) n 0 0 ⟨rfl,Nat.zero_le _,Nat.zero_le _,by simp⟩ (by omega)
 rcases g2 with rfl |⟨rfl,g2⟩
 ·exact .inl g1
 ·exact .inr ⟨g1,g2⟩
theorem YF(hn:4000002<=n):∀(m:Nat)(e:bL)(most:Int)(L:Nat),(toE e).wt<=4000000->0<=most->most<=1000->L<=100->L+1<=m->∃r,tX n m e most (L:Int)=some r/\1<=r/\r<=most+1
 | 0,_,_,_,_,_,_,_,h=>absurd h (by omega)
 |m+1,e,most,L,hw,h0,h1,hL,hm=>by
  have hla:=Wg e;show ∃r,C9 n (tX n m) e most (L:Int)=some r/\_;simp only[C9];by_cases hL1:(L:Int)<1
  ·simp only[hL1,decide_true,aj];rw[bU (by omega) (by omega)];exact⟨most+1,rfl,by omega,by omega⟩
  ·simp only[hL1,decide_false,ak];obtain⟨o,g1,g2,g3⟩:=dZ (step:=uT (tX n m) e most (L:Int)) (λ i (v:Int×Int)=>v.2=(i:Int)/\i<=e.args.length/\1<=v.1/\v.1<=most+1) (λ o=>1<=o/\o<=most+1) e.args.length (λ k v h=>h.2.1) (by
    rintro i ⟨v1,v2⟩ ⟨hv,hi,i1,i2⟩;simp only at hv i1 i2;subst hv;by_cases hlt:i<e.args.length
    ·by_cases hle:v1<=most
     ·left;have hwx:=T3 (getElem_mem hlt);obtain⟨r,r1,r2,r3⟩:=YF hn m e.args[i] (most -v1) (L -1) (by omega) (by omega) (by omega) (by omega) (by omega);have eL:i64.wrap ((L:Int) -1)=((L -1:Nat):Int):=lC (by omega) (by omega);refine⟨(v1+r,((i+1:Nat):Int)),?_,rfl,hlt,by show 1<=v1+r;omega,by show v1+r<=_;omega⟩;simp only[uT,show decide ((i:Int)<(e.args.length:Int))=true from by simp;omega,aj,hle,decide_true,ah,bB hlt,bU (show -9223372036854775808<=most -v1 by omega) (show most -v1<=9223372036854775807 by omega),eL,r1,bU (show -9223372036854775808<=v1+r by omega) (show v1+r<=9223372036854775807 by omega),aW i]
     ·right;refine⟨v1,?_,i1,i2⟩;simp only[uT,show decide ((i:Int)<(e.args.length:Int))=true from by simp;omega,aj,hle,decide_false,ah,ak]
    ·right;refine⟨v1,?_,i1,i2⟩;simp only[uT,show decide ((i:Int)<(e.args.length:Int))=false from by simp;omega,ak,ah]) n 0 ((1:Int),(0:Int)) ⟨rfl,Nat.zero_le _,by simp,by show(1:Int)<=_;omega⟩ (by omega)
   simp only[g1,ah];exact⟨o,rfl,g2,g3⟩
def Xs(l:List aM):Prop:=∀r∈l,(toE (ir r)).wt<=4000000
structure KB(t:dh):Prop where
 defs:gE t.cm
 rules:Xs t.az
 wA:∀l∈t.land,l.from_.length*8<=140737488355328
theorem qZ(i len K:Nat){k:Int}(hk:k=(K:Int)):((bif (decide ((i:Int)<(len:Int)))then some (decide ((i:Int)<k))else some false):Option Bool)=some (decide (i<len/\i<K)):=by
 subst hk;by_cases h1:i<len<;>by_cases h2:i<K<;>simp[h1,h2]
theorem afc{l:List aM}(hw:Xs l)(hn:uA n):∃b,FJ n l=some b/\(b=true->l.length<=6/\∀r∈l,Ib r):=by
 obtain⟨hn1,hn2⟩:=hn;have h:=Di (l:=l) (K:=7) (n:=n) (step:=zO n l) (good:=Ib) (λ i hi hK=>by
  obtain⟨r,hr,_,_⟩:=YF (n:=n) (by omega) n (ir l[i]) 40 14 (hw _ (getElem_mem hi)) (by omega) (by omega) (by omega) (by omega);have hr':FI n (bL.mk l[i].ky l[i].mm l[i].ml l[i].i7 l[i].fX) 40 14=some r:=hr;have e:=qZ i l.length 7 (k:=7) rfl;simp only[zO,e,show decide (i<l.length/\i<7)=true from by simp[hi,hK],ah,aj,bB hi,hr',aW i];by_cases c1:r>40
  ·left;simp only[c1,decide_true,aj,ah];rfl
  ·by_cases c2:(l[i].zones.length:Int)>6
   ·left;simp only[c1,c2,decide_true,decide_false,aj,ak,ah];rfl
   ·by_cases c3:(l[i].except.length:Int)>6
    ·left;simp only[c1,c2,c3,decide_true,decide_false,aj,ak,ah];rfl
    ·right;simp only[c1,c2,c3,decide_false,ak,ah];exact⟨trivial,by omega,by omega⟩) (λ i h=>by
  have e:=qZ i l.length 7 (k:=7) rfl;simp only[zO,e,show decide (i<l.length/\i<7)=false from by simp;omega,ah,ak]) (by omega)
 simp only[FJ];rcases h with h |⟨h,h2⟩
 ·simp only[h,fH];exact⟨false,rfl,λh=>(by cases h)⟩
 ·simp only[h,dP];exact⟨_,rfl,λhb=>by
   have:(l.length:Int)<=6:=(by simpa using hb);exact⟨by omega,h2 (by omega)⟩⟩
theorem amN{p:cO}(hd:gE p.defs)(hw:Xs p.rules)(hn:uA n):∃b,PX n p=some b/\(b=true->(p.tables.length<=4/\∀t∈p.tables,t.rows.length<=8)/\p.zones.length<=5/\p.caps.length<=3/\p.rules.length<=6/\∀r∈p.rules,Ib r):=by
 have hn':=hn;obtain⟨hn1,hn2⟩:=hn;have s1:=Di (l:=p.defs) (K:=6) (n:=n) (step:=Da n p) (good:=λ_=>True) (λ i hi hK=>by
  obtain⟨r,hr,_,_⟩:=YF (n:=n) (by omega) n _ 40 14 (hd.body (getElem_mem hi)) (by omega) (by omega) (by omega) (by omega);have hr':FI n (bL.mk p.defs[i].iu p.defs[i].lz p.defs[i].kf p.defs[i].il p.defs[i].er) 40 14=some r:=hr;have e:=qZ i p.defs.length 6 (k:=6) rfl;simp only[Da,e,show decide (i<p.defs.length/\i<6)=true from by simp[hi,hK],ah,aj,bB hi,hr',aW i];cases decide (r>40)with
  |true=>exact .inl rfl
  |false=>exact .inr ⟨rfl,trivial⟩) (λ i h=>by
  have e:=qZ i p.defs.length 6 (k:=6) rfl;simp only[Da,e,show decide (i<p.defs.length/\i<6)=false from by simp;omega,ah,ak]) (by omega)
 have s2:=Di (l:=p.tables) (K:=5) (n:=n) (step:=Db p) (good:=λt=>t.rows.length<=8) (λ i hi hK=>by
  have e:=qZ i p.tables.length 5 (k:=5) rfl;simp only[Db,e,show decide (i<p.tables.length/\i<5)=true from by simp[hi,hK],ah,aj,bB hi,aW i];by_cases c1:(p.tables[i].rows.length:Int)>8
  ·left;simp only[c1,decide_true,aj];rfl
  ·right;simp only[c1,decide_false,ak];exact⟨trivial,by omega⟩) (λ i h=>by
  have e:=qZ i p.tables.length 5 (k:=5) rfl;simp only[Db,e,show decide (i<p.tables.length/\i<5)=false from by simp;omega,ah,ak]) (by omega)
 have s3:=Di (l:=p.zones) (K:=6) (n:=n) (step:=Dc p) (good:=λ_=>True) (λ i hi hK=>by
  have e:=qZ i p.zones.length 6 (k:=6) rfl;simp only[Dc,e,show decide (i<p.zones.length/\i<6)=true from by simp[hi,hK],ah,aj,bB hi,aW i];cases decide ((p.zones[i].corners.length:Int)>12)with
  |true=>exact .inl rfl
  |false=>exact .inr ⟨rfl,trivial⟩) (λ i h=>by
  have e:=qZ i p.zones.length 6 (k:=6) rfl;simp only[Dc,e,show decide (i<p.zones.length/\i<6)=false from by simp;omega,ah,ak]) (by omega)
 have s4:=Di (l:=p.caps) (K:=4) (n:=n) (step:=Df p) (good:=λ_=>True) (λ i hi hK=>by
  have e:=qZ i p.caps.length 4 (k:=4) rfl;simp only[Df,e,show decide (i<p.caps.length/\i<4)=true from by simp[hi,hK],ah,aj,bB hi,aW i];cases decide ((p.caps[i].corners.length:Int)>12)with
  |true=>exact .inl rfl
  |false=>exact .inr ⟨rfl,trivial⟩) (λ i h=>by
  have e:=qZ i p.caps.length 4 (k:=4) rfl;simp only[Df,e,show decide (i<p.caps.length/\i<4)=false from by simp;omega,ah,ak]) (by omega)
 have no:∃b,some false=some b/\(b=true->(p.tables.length<=4/\∀t∈p.tables,t.rows.length<=8)/\p.zones.length<=5/\p.caps.length<=3/\p.rules.length<=6/\∀r∈p.rules,Ib r):=⟨false,rfl,λh=>(by cases h)⟩;have⟨b,hb,hb2⟩:=afc (n:=n) hw hn';simp only[PX];rcases s1 with h |⟨h,_⟩
 ·simpa only[h,fH]using no
 rcases s2 with h2 |⟨h2,ht⟩
 ·simpa only[h,h2,fH,dP]using no
 rcases s3 with h3 |⟨h3,_⟩
 ·simpa only[h,h2,h3,fH,dP]using no
 rcases s4 with h4 |⟨h4,_⟩
 ·simpa only[h,h2,h3,h4,fH,dP]using no
 simp only[h,h2,h3,h4,dP];by_cases c1:(p.defs.length:Int)<=5
 ·by_cases c2:(p.tables.length:Int)<=4
  ·by_cases c3:(p.zones.length:Int)<=5
   ·by_cases c4:(p.caps.length:Int)<=3
    ·simp only[c1,c2,c3,c4,decide_true,aj,hb,ah];exact⟨b,rfl,λh=>⟨⟨by omega,ht (by omega)⟩,by omega,by omega,hb2 h⟩⟩
    ·simpa only[c1,c2,c3,c4,decide_true,decide_false,aj,ak]using no
   ·simpa only[c1,c2,c3,decide_true,decide_false,aj,ak]using no
  ·simpa only[c1,c2,decide_true,decide_false,aj,ak]using no
 ·simpa only[c1,decide_false,ak]using no
structure ani(t:dh)(d:aV):Prop where
 town:Mv t
 draw:xl d
 built:t.built.length<=8
 rules:t.az.length<=6
theorem alN{t:dh}{d:aV}(hz:KB t)(hn:uA n):∃b,VE n t d=some b/\(b=true->ani t d):=by
 have hn':=hn;obtain⟨hn1,hn2⟩:=hn;have s1:=Di (l:=t.land) (K:=5) (n:=n) (step:=HY t) (good:=λx=>x.area.length<=6) (λ i hi hK=>by
  have e:=qZ i t.land.length 5 (k:=5) rfl;simp only[HY,e,show decide (i<t.land.length/\i<5)=true from by simp[hi,hK],ah,aj,bB hi,aW i];by_cases c1:(t.land[i].area.length:Int)>6
  ·left;simp only[c1,decide_true,aj];rfl
  ·right;simp only[c1,decide_false,ak];exact⟨trivial,by omega⟩) (λ i h=>by
  have e:=qZ i t.land.length 5 (k:=5) rfl;simp only[HY,e,show decide (i<t.land.length/\i<5)=false from by simp;omega,ah,ak]) (by omega)
 have s2:=Di (l:=t.cp) (K:=4) (n:=n) (step:=HZ t) (good:=λx=>x.area.length<=6) (λ i hi hK=>by
  have e:=qZ i t.cp.length 4 (k:=4) rfl;simp only[HZ,e,show decide (i<t.cp.length/\i<4)=true from by simp[hi,hK],ah,aj,bB hi,aW i];by_cases c1:(t.cp[i].area.length:Int)>6
  ·left;simp only[c1,decide_true,aj];rfl
  ·right;simp only[c1,decide_false,ak];exact⟨trivial,by omega⟩) (λ i h=>by
  have e:=qZ i t.cp.length 4 (k:=4) rfl;simp only[HZ,e,show decide (i<t.cp.length/\i<4)=false from by simp;omega,ah,ak]) (by omega)
 have s3:=Di (l:=d.phases) (K:=4) (n:=n) (step:=H6 d) (good:=λx=>x.cx.length<=3/\x.gives.length<=3) (λ i hi hK=>by
  have e:=qZ i d.phases.length 4 (k:=4) rfl;simp only[H6,e,show decide (i<d.phases.length/\i<4)=true from by simp[hi,hK],ah,aj,bB hi,aW i];by_cases c1:(d.phases[i].cx.length:Int)>3
  ·left;simp only[c1,decide_true,aj,ah];rfl
  ·by_cases c2:(d.phases[i].gives.length:Int)>3
   ·left;simp only[c1,c2,decide_true,decide_false,aj,ak,ah];rfl
   ·right;simp only[c1,c2,decide_false,ak,ah];exact⟨trivial,by omega,by omega⟩) (λ i h=>by
  have e:=qZ i d.phases.length 4 (k:=4) rfl;simp only[H6,e,show decide (i<d.phases.length/\i<4)=false from by simp;omega,ah,ak]) (by omega)
 have no:∃b,some false=some b/\(b=true->ani t d):=⟨false,rfl,λh=>(by cases h)⟩;obtain⟨b,hb,hb2⟩:=amN (n:=n) (p:=cO.mk t.cm t.b7 t.b8 t.az t.co t.ci t.cz t.cj) hz.defs hz.rules hn';simp only[VE];rcases s1 with h |⟨h,hl⟩
 ·simpa only[h,fH]using no
 rcases s2 with h2 |⟨h2,he⟩
 ·simpa only[h,h2,fH,dP]using no
 rcases s3 with h3 |⟨h3,hd⟩
 ·simpa only[h,h2,h3,fH,dP]using no
 simp only[h,h2,h3,dP,hb,ah];cases b with
 |false=>simpa only[ak]using no
 |true=>
  have⟨⟨t1,t2⟩,z1,c1,r1,r2⟩:=hb2 rfl;simp only at t1 t2 z1 c1 r1 r2;simp only[aj];by_cases d1:(t.land.length:Int)<=4
  ·by_cases d2:(t.cp.length:Int)<=3
   ·by_cases d3:(t.built.length:Int)<=8
    ·simp only[d1,d2,d3,decide_true,aj];refine⟨_,rfl,λh4=>?_⟩;have h4i:(d.phases.length:Int)<=3:=(by simpa using h4);have h4':d.phases.length<=3:=(by omega);have hl':=hl (by omega);have he':=he (by omega);have hd':=hd (by omega)
     exact⟨⟨λ l hm=>⟨by have:=hl' l hm;omega,hz.wA l hm⟩,by omega,⟨by omega,λe hm=>by have:=he' e hm;omega⟩,by omega,by omega,by omega,by omega,λr hm=>⟨r2 r hm,hz.rules r hm⟩,⟨hz.defs,⟨by show t.b7.length<=_;omega,λx hx=>by have:=t2 x hx;omega⟩⟩⟩,
      ⟨⟨by omega,λp hm=>by have:=(hd' p hm).1;omega⟩,λp hm=>by have:=(hd' p hm).2;omega⟩,by omega,r1⟩
    ·simpa only[d1,d2,d3,decide_true,decide_false,aj,ak]using no
   ·simpa only[d1,d2,decide_true,decide_false,aj,ak]using no
  ·simpa only[d1,decide_false,ak]using no
def My(a b:List ByteArray):Bool:=decide (a.length=b.length)&&(a.zip b).all λp=>d6 p.1 p.2
theorem K7(a:List ByteArray):My a a=true:=by
 simp only[My,decide_true,Bool.true_and,List.all_eq_true];intro p hp;have:p.1=p.2:=by
  obtain⟨i,hi,rfl⟩:=mem_iff_getElem.1 hp;simp
 rw[this];simp[d6]
theorem Qn{a b:List ByteArray}(hl:a.length<=1000)(hn:2000<=n):oW n a b=some (My a b):=by
 simp only[oW,My];by_cases h:a.length=b.length
 ·have hne:((a.length:Int) !=(b.length:Int))=false:=by simp[h]
  have hd:decide (a.length=b.length)=true:=by simp[h]
  rw[hne,hd];simp only[ak,Bool.true_and];obtain⟨o,g1,g2⟩:=dZ (step:=zN a b) (λ i (v:Int)=>v=(i:Int)/\i<=a.length/\((a.take i).zip (b.take i)).all (λ p=>d6 p.1 p.2)=true) (λ o=>(o= .inr false/\(a.zip b).all (λ p=>d6 p.1 p.2)=false)\/(o= .inl ()/\(a.zip b).all (λ p=>d6 p.1 p.2)=true)) a.length (λ k v h=>h.2.1) (by
   rintro i v ⟨rfl,hi,hall⟩;by_cases hlt:i<a.length
   ·have hlb:i<b.length:=(by omega);simp only[zN,show decide ((i:Int)<(a.length:Int))=true from by simp;omega,aj,bB hlt,bB hlb,ah,aW i];cases he:(ByteArray.toList a[i]==ByteArray.toList b[i])with
    |false=>
     refine .inr ⟨_,rfl,.inl ⟨rfl,?_⟩⟩;rw[List.all_eq_false];exact⟨(a[i],b[i]),by rw[mem_iff_getElem];exact⟨i,by simp;omega,by simp⟩,by simp[d6,he]⟩
    |true=>
     refine .inl ⟨_,rfl,rfl,hlt,?_⟩;rw[List.take_add_one,List.take_add_one,dI hlt,dI hlb,List.zip_append (by simp;omega),List.all_append,hall];simp[d6,he]
   ·refine .inr ⟨.inl (),?_,.inr ⟨rfl,?_⟩⟩
    ·simp only[zN,show decide ((i:Int)<(a.length:Int))=false from by simp;omega,ak]
    ·rw[take_of_length_le (by omega),take_of_length_le (by omega)]at hall;exact hall) n 0 0 ⟨rfl,Nat.zero_le _,by simp⟩ (by omega)
  rcases g2 with ⟨rfl,g2⟩ |⟨rfl,g2⟩
  ·simp only[g1,fH,g2]
  ·simp only[g1,dP,g2]
 ·have hne:((a.length:Int) !=(b.length:Int))=true:=by simpa using λe:(a.length:Int)=(b.length:Int)=>h (by omega)
  have hd:decide (a.length=b.length)=false:=by simp[h]
  rw[hne,hd];rfl
theorem afd{l:List ByteArray}{s:ByteArray}(hl:l.length<=1000)(hn:2000<=n):L9 n l s=some (l.any λx=>d6 x s):=by
 obtain⟨o,g1,g2⟩:=dZ (step:=H7 l s) (λ i (v:Int)=>v=(i:Int)/\i<=l.length/\(l.take i).any (λ x=>d6 x s)=false) (λ o=>(o= .inr true/\l.any (λ x=>d6 x s)=true)\/(o= .inl ()/\l.any (λ x=>d6 x s)=false)) l.length (λ k v h=>h.2.1) (by
  rintro i v ⟨rfl,hi,hall⟩;by_cases hlt:i<l.length
  ·simp only[H7,show decide ((i:Int)<(l.length:Int))=true from by simp;omega,aj,bB hlt,ah,aW i];cases he:(ByteArray.toList l[i]==ByteArray.toList s)with
   |true=>exact .inr ⟨_,rfl,.inl ⟨rfl,any_eq_true.2 ⟨_,getElem_mem hlt,he⟩⟩⟩
   |false=>
    refine .inl ⟨_,rfl,rfl,hlt,?_⟩;rw[List.take_add_one,dI hlt,List.any_append,hall];simp[d6,he]
  ·refine .inr ⟨.inl (),?_,.inr ⟨rfl,?_⟩⟩
   ·simp only[H7,show decide ((i:Int)<(l.length:Int))=false from by simp;omega,ak]
   ·rw[take_of_length_le (by omega)]at hall;exact hall) n 0 0 ⟨rfl,Nat.zero_le _,by simp⟩ (by omega)
 rcases g2 with ⟨rfl,g2⟩ |⟨rfl,g2⟩
 ·simp only[L9,g1,fH,g2]
 ·simp only[L9,g1,dP,g2]
theorem afe(a b:ByteArray):d6 a b=d6 b a:=by simp only[d6];rw[kE,beq_iff_eq,beq_iff_eq];exact⟨Eq.symm,Eq.symm⟩
theorem alO(a:ByteArray):d6 a a=true:=by simp[d6]
def Tl:aF:=aF.mk 2 2 8 8 0 14 2 0 false
def ux:aV:=aV.mk 1 [iJ.mk [Tl] []]
def BE:List aM:=[(aM.mk (⟨#[97]⟩) ([]) ([]) 0 0 0 false 0 12 0 (⟨#[]⟩) (⟨#[]⟩) [(bL.mk 1 0 (⟨#[104,101,105,103,104,116]⟩) (⟨#[]⟩) ([])),(bL.mk 0 12 (⟨#[]⟩) (⟨#[]⟩) ([]))] 0 0 0 0 0 0 0),(aM.mk (⟨#[98]⟩) ([]) ([]) 0 0 0 false 1 0 0 (⟨#[]⟩) (⟨#[]⟩) ([]) 0 9 3 1 0 0 0),(aM.mk (⟨#[99]⟩) ([]) ([]) 0 0 0 false 1 0 0 (⟨#[]⟩) (⟨#[]⟩) ([]) 0 9 1 1 0 0 0),(aM.mk (⟨#[100]⟩) ([]) ([]) 0 0 0 false 2 0 0 (⟨#[]⟩) (⟨#[]⟩) ([]) 0 0 0 0 5 0 0),(aM.mk (⟨#[101]⟩) ([]) ([]) 0 0 0 false 3 0 0 (⟨#[]⟩) (⟨#[]⟩) ([]) 0 0 0 0 2 0 5)]
def aoz:gK:=gK.mk 1 0 [ay.mk 0 0 10 10] []
def Je:dh:=dh.mk [] [] [] BE [] [] [] 0 [aoz] [] [] [bS.mk 2 12 2 14 4 0 3 0 0 false] []
theorem VN:Mv Je where
 lots:=λl hl=>by
  simp only[Je,aY]at hl;subst hl;exact⟨by decide,by decide⟩
 land:=by decide
 IR:=⟨by decide,λe he=>by simp[Je]at he⟩
 built:=by decide
 zones:=by decide
 caps:=by decide
 rules:=by decide
 rule:=λr hr=>by
  simp only[Je,BE,aN,jB,or_false]at hr;rcases hr with rfl |rfl |rfl |rfl |rfl<;>exact⟨⟨by decide,by decide⟩,Nat.le_of_ble_eq_true (by kernel_rfl)⟩
 plan:=⟨Nat.le_of_ble_eq_true (by kernel_rfl),⟨by decide,λx hx=>by simp[l4,Je]at hx⟩⟩
theorem VO(lot:Int)(ps:List iJ)(h:ps=[iJ.mk [Tl] []]\/ps=[]):xl (aV.mk lot ps):=by
 rcases h with rfl |rfl
 ·refine⟨⟨by simp,λp hp=>?_⟩,λp hp=>?_⟩<;> · simp only[aY]at hp;subst hp;decide
 ·refine⟨⟨by simp,λp hp=>?_⟩,λp hp=>?_⟩<;>simp at hp
theorem HM:uA 5000003:=⟨aQ _,by omega⟩
theorem amO:L8 5000003=some true:=by
 have b1:=vZ (n:=5000003) (t:=Je) (d:=ux) 7 VN (VO 1 _ (.inl rfl)) HM;have b2:=vZ (n:=5000003) (t:=Je) (d:=aV.mk 3 []) 7 VN (VO 3 _ (.inr rfl)) HM;have v1:gH 5000003 Je ux 7=[⟨#[97]⟩,⟨#[99]⟩,⟨#[101]⟩]:=by kernel_rfl
 have v2:jJ 5000003 Je ux=0:=by kernel_rfl
 have v3:jJ 5000003 Je (aV.mk 3 [])=4:=by kernel_rfl
 have v4:gH 5000003 Je (aV.mk 3 []) 7=[]:=by kernel_rfl
 have c:=λ(r:aM)(h:(toE (ir r)).wt<=4000000)=>abB (n:=5000003) (t:=Je) (d:=ux) (r:=r) VN (VO 1 _ (.inl rfl)) h HM;have c1:=c (BE[0]'(by decide)) (Nat.le_of_ble_eq_true (by kernel_rfl));have c2:=c (BE[1]'(by decide)) (Nat.le_of_ble_eq_true (by kernel_rfl));have w1:zV 5000003 Je (iT Je ux) ux (BE[0]'(by decide))=true:=by kernel_rfl
 have w2:zV 5000003 Je (iT Je ux) ux (BE[1]'(by decide))=false:=by kernel_rfl
 have l1:=ajP (n:=5000003) (t:=Je) (d:=ux) 7 VN (VO 1 _ (.inl rfl)) HM;rw[v1,v2]at b1;rw[v3,v4]at b2;rw[v2,w1]at c1;rw[v2,w2]at c2;rw[v2,v1]at l1;have hnm:oW 5000003 [⟨#[97]⟩,⟨#[99]⟩,⟨#[101]⟩] [⟨#[97]⟩,⟨#[99]⟩,⟨#[101]⟩]=some true:=by rw[Qn (by decide) (by decide)];kernel_rfl
 simp only[Je,ux,BE,aoz,Tl]at b1 b2 c1 c2 l1;simp only[List.getElem_cons_zero,List.getElem_cons_succ]at c1 c2;simp only[L8,Wr,ah,sub,List.drop_zero,List.take_succ_cons,List.take_zero,bF,length_nil,Nat.zero_add,Nat.reduceAdd,aG,aj];have a0:∀(x:aM)(l:List aM),bo (x::l) (((0:Nat):Int)+0)=some x:=λ_ _=>rfl;have a1:∀(x y:aM)(l:List aM),bo (x::y::l) (((0:Nat):Int)+1)=some y:=λ_ _ _=>rfl;simp only[b1,b2,ah,bF,length_nil,Nat.zero_add,Nat.reduceAdd,List.take_succ_cons,List.take_zero,hnm,aG,aj,show((0:Int)==0)=true from rfl,show((4:Int)==4)=true from rfl,show b9 0 5=true from rfl,show b9 1 5=true from rfl,a0,a1,c1,c2,l1];rfl
theorem K8{t:dh}{d:aV}(h:t.az.length<=10)(day:Int):(gH n t d day).length<=11:=by
 unfold gH;cases (jJ n t d==0)with
 |false=>simp
 |true=>
  have h1:=YD (u7 n t (iT t d) d (applied t (iT t d) day)) Ah (YE t d);have h2:=DZ (zV n t (iT t d) d) (applied t (iT t d) day) [];have h3:(applied t (iT t d) day).length<=t.az.length:=length_filter_le _ _;simp only[aj];unfold u7 at*;simp only[length_nil]at h2;omega
theorem aff{r:ay}(h:d5 r=true):p5 [r]=([r],0):=by
 have hx:=aoq h;have hy:=anh h;have e1:gG [r]=[r.x0,r.x1]:=by
  unfold gG;refine(aes (List.Pairwise.cons (by simpa using hx) (List.pairwise_singleton _ _)) λz=>?_).symm;simp
 have e2:cK [r] r.x0=[⟨r.y0,r.y1⟩]:=by
  unfold cK jA;have:(decide (r.x0<=r.x0)&&decide (r.x0<r.x1))=true:=by simp[hx]
  simp only[List.filter_cons,this,if_true,List.filter_nil,aC,map_nil];rfl
 have e3:ni (bn [r])=[r]:=by
  unfold bn;rw[e1];simp only[iZ,e2,ni,xr,DR,aC,map_nil]
 unfold p5;rw[e3];have:([r].all d5)=true:=by simpa using h
 rw[this];simp
theorem ac2{r:ay}(h:d5 r=true):cI [r]=true:=by
 unfold cI;rw[aff h];simp
theorem ac3{v:aF}(h:okV v=true):DY (o9 v)=true:=by
 have hb:=Qi h;simp only[okV,aJ,aT]at h;rw[NR];refine⟨by simp[o9],λx hx=>?_,λi hi=>by simp[o9]at hi⟩;have:x=⟨v.ek,v.dC,[iq v]⟩:=by simpa[o9]using hx
 rw[this];exact⟨h.2.1,h.2.2.1,h.2.2.2.1,by simp,ac2 hb⟩
def IK(t:dh)(l:List aM):dh:=dh.mk t.cm t.b7 t.b8 l t.co t.ci t.cz t.cj t.land ([]) t.windows t.built t.base
theorem afg{t:dh}(h:Mv t){l:List aM}(hl:l.length<=100)(hr:∀r∈l,Ib r/\(toE (ir r)).wt<=4000000):Mv (IK t l):=
 ⟨h.lots,h.land,⟨by show([]:List ko).length<=900;simp,λe he=>absurd he (by show ¬e∈([]:List ko);simp)⟩,h.built,h.zones,h.caps,hl,hr,h.plan⟩
def Ng(n:Nat)(t:dh)(d:aV)(day:Int)(l:List aM):List ByteArray:=bif jJ n t d==0 then l.foldl (λ ab r=>addN ab r.name (jm (pY t (iT t d)) day r&&zV n t (iT t d) d r)) []else []
theorem fold_filter(zs:List ByteArray)(day:Int)(f:aM->Bool):∀(l:List aM)(ab:List ByteArray),(l.filter (jm zs day)).foldl (λ ab r=>addN ab r.name (f r)) ab=l.foldl (λ ab r=>addN ab r.name (jm zs day r&&f r)) ab
 |[],ab=>rfl
 |r::l,ab=>by
  rw[List.filter_cons];cases h:jm zs day r with
  |true=>simp only[if_true,foldl_cons,h,Bool.true_and];exact fold_filter zs day f l _
  |false=>
   simp only[Bool.false_eq_true,if_false,foldl_cons,h,Bool.false_and];rw[fold_filter zs day f l ab];rfl
theorem Uh{t:dh}{d:aV}{day:Int}(l:List aM)(ht:Mv t)(hd:xl d)(hn:uA n):jJ n (IK t l) d=jJ n t d/\gH n (IK t l) d day=Ng n t d day l:=by
 refine⟨rfl,?_⟩;have he:jJ n (IK t l) d=jJ n t d:=rfl;unfold gH Ng;rw[he];by_cases h0:jJ n t d=0
 ·have ua:(jJ n t d==0)=true:=by simp[h0]
  obtain⟨_,hv⟩:=look_eq (n:=n) ht hd hn;have hE:YE (IK t l) d=false:=by
   show((kQ d).any λv=>!Yx ([]:List ko) d.lot (o9 v))=false;rw[List.any_eq_false];intro v hm;simp[Yx,ac3 (hv h0 v hm)]
  rw[ua,hE];simp only[aj];show addN (u7 n (IK t l) (iT t d) d (l.filter (jm (pY t (iT t d)) day))) Ah false=_;have:∀ab,addN ab Ah false=ab:=λ_=>rfl;rw[this];exact fold_filter _ _ _ l []
 ·have ua:(jJ n t d==0)=false:=by simpa using h0
  rw[ua];rfl
theorem afh(l:List ByteArray)(s:ByteArray):(l.any λx=>d6 x s)=l.any (d6 s):=by congr 1;funext x;exact afe x s
theorem ajQ{a b c:ByteArray}(h1:d6 a b=true)(h2:d6 b c=true):d6 a c=true:=by
 simp only[d6,beq_iff_eq]at*;rw[h1,h2]
theorem afi(ab:List ByteArray)(name:ByteArray)(bad:Bool)(s:ByteArray):(addN ab name bad).any (d6 s)=(ab.any (d6 s) || (bad&&d6 s name)):=by
 unfold addN;cases bad with
 |false=>simp
 |true=>
  simp only[Bool.true_and];cases h:ab.any (d6 name)with
  |false=>simp[List.any_append]
  |true=>
   simp only[Bool.not_true,ak];cases h2:d6 s name with
   |false=>simp
   |true=>
    obtain⟨x,hx,hx2⟩:=any_eq_true.1 h;simp only[Bool.or_true];exact any_eq_true.2 ⟨x,hx,ajQ h2 hx2⟩
theorem afj(f:aM->Bool)(s:ByteArray):∀(l:List aM)(ab:List ByteArray),(l.foldl (λ ab r=>addN ab r.name (f r)) ab).any (d6 s)=(ab.any (d6 s) || l.any λr=>f r&&d6 s r.name)
 |[],ab=>by simp
 |r::l,ab=>by rw[foldl_cons,afj f s l,afi,List.any_cons,Bool.or_assoc]
theorem NU(n:Nat)(t:dh)(d:aV)(day:Int)(s:ByteArray):(gH n t d day).any (d6 s)=((jJ n t d==0)&&(((applied t (iT t d) day).any λr=>zV n t (iT t d) d r&&d6 s r.name) || (YE t d&&d6 s Ah))):=by
 unfold gH;cases (jJ n t d==0)with
 |false=>rfl
 |true=>
  simp only[aj,Bool.true_and];rw[afi];unfold u7;rw[afj];simp
def qK(t:dh)(l:List bS):dh:=dh.mk t.cm t.b7 t.b8 t.az t.co t.ci t.cz t.cj t.land t.cp t.windows l t.base
theorem alQ{t:dh}(h:Mv t){l:List bS}(hl:l.length<=1000):Mv (qK t l):=⟨h.lots,h.land,h.IR,hl,h.zones,h.caps,h.rules,h.rule,h.plan⟩
theorem aiA{t:dh}{lot:gK}{d:aV}{r:aM}{b:bS}:(zV n t lot d r=true->zV n (qK t (t.built++[b])) lot d r=true)/\(zV n (qK t (t.built++[b])) lot d r=true->zV n t lot d r=true\/(r.kind==3)=true):=by
 have ht:DP n (qK t (t.built++[b])) lot d r=DP n t lot d r:=rfl;unfold zV;rw[ht];cases (r.kind==0)with
 |true=>exact⟨id,.inl⟩
 |false=>
  cases (r.kind==1)with
  |true=>exact⟨id,.inl⟩
  |false=>
   cases (r.kind==2)with
   |true=>exact⟨id,.inl⟩
   |false=>
    cases (r.kind==3)with
    |false=>exact⟨id,.inl⟩
    |true=>
     refine⟨λ h=>?_,λ_=> .inr rfl⟩;simp only[aj,ak]at h ⊢;obtain⟨v,hv,hc⟩:=any_eq_true.1 h;refine any_eq_true.2 ⟨v,hv,?_⟩;show(t.built++[b]).any (K6 d.lot r v)=true;rw[List.any_append];rw[show t.built.any (K6 d.lot r v)=true from hc];rfl
theorem amP{t:dh}{lot:gK}{d:aV}{r:aM}{b:bS}(h:(b.lot==d.lot)=true):zV n (qK t (t.built++[b])) lot d r=zV n t lot d r:=by
 have hc:∀v,NT (t.built++[b]) d.lot r v=NT t.built d.lot r v:=by
  intro v;have:K6 d.lot r v b=false:=by simp only[K6,dD,h,aj,ah,Option.getD_some]
  simp only[NT,List.any_append,List.any_cons,List.any_nil,this,Bool.or_false]
 have ht:DP n (qK t (t.built++[b])) lot d r=DP n t lot d r:=rfl;unfold zV;rw[ht,show(qK t (t.built++[b])).built=t.built++[b]from rfl,funext hc]
theorem afk{t:dh}{d:aV}{day:Int}{b:bS}{s:ByteArray}(h:(gH n t d day).any (d6 s)=true):(gH n (qK t (t.built++[b])) d day).any (d6 s)=true:=by
 rw[NU]at h ⊢;have he:jJ n (qK t (t.built++[b])) d=jJ n t d:=rfl;rw[he];rw[aJ,Bool.or_eq_true]at h ⊢;refine⟨h.1,h.2.imp (λ h=>?_) id⟩;obtain⟨r,hr,hb⟩:=any_eq_true.1 h;rw[aJ]at hb;refine any_eq_true.2 ⟨r,hr,?_⟩;rw[aJ];exact⟨(aiA (b:=b)).1 hb.1,hb.2⟩
theorem ahm{t:dh}{d:aV}{day:Int}{b:bS}{s:ByteArray}(h:(gH n (qK t (t.built++[b])) d day).any (d6 s)=true):(gH n t d day).any (d6 s)=true\/(t.az.any λr=>d6 r.name s&&r.kind==3)=true:=by
 rw[NU]at h;rw[NU];have he:jJ n (qK t (t.built++[b])) d=jJ n t d:=rfl;rw[he]at h;rw[aJ,Bool.or_eq_true]at h;rw[aJ,Bool.or_eq_true];obtain⟨h0,h |h⟩:=h
 ·obtain⟨r,hr,hb⟩:=any_eq_true.1 h;rw[aJ]at hb;rcases (aiA (b:=b)).2 hb.1 with h1 |h1
  ·exact .inl ⟨h0,.inl (any_eq_true.2 ⟨r,hr,by rw[aJ];exact⟨h1,hb.2⟩⟩)⟩
  ·exact .inr (any_eq_true.2 ⟨r,(mem_filter.1 hr).1,by rw[aJ,afe];exact⟨hb.2,h1⟩⟩)
 ·exact .inl ⟨h0,.inr h⟩
theorem amQ{l m:List ByteArray}{e f:Int}(hl:l.length<=1000)(hm:m.length<=1000)(h:∀x∈l,m.any (d6 x)=true)(hn:2000<=n):iter (mE n (l,e) (m,f)) n (0:Int)=some (.inl ()):=by
 obtain⟨o,g1,rfl⟩:=dZ (step:=mE n (l,e) (m,f)) (λ i (v:Int)=>v=(i:Int)/\i<=l.length) (λ o=>o= .inl ()) l.length (λ k v h=>h.2) (by
  rintro i v ⟨rfl,hi⟩;by_cases hlt:i<l.length
  ·simp only[mE,show decide ((i:Int)<(l.length:Int))=true from by simp;omega,aj,bE hlt,bM hlt,ah,cZ,aG,afd (n:=n) (l:=m) (s:=l[i]) hm hn,afh,h _ (getElem_mem hlt),Bool.not_true,ak,aW i];exact .inl ⟨_,rfl,rfl,hlt⟩
  ·simp only[mE,show decide ((i:Int)<(l.length:Int))=false from by simp;omega,ak];exact .inr ⟨_,rfl,rfl⟩) n 0 0 ⟨rfl,Nat.zero_le _⟩ (by omega)
 exact g1
theorem amR{t:dh}{m:List ByteArray}{f:Int}{i:Nat}(hi:i<m.length)(hr:t.az.length<=1000)(hn:2000<=n):iter (mF t (m,f) (i:Int)) n (false,(0:Int))=some (t.az.any λr=>d6 r.name m[i]&&r.kind==3):=by
 have key:=nH (l:=t.az) (step:=mF t (m,f) (i:Int)) (λ k (s:Bool)=>(s,(k:Int))) (λ r s=>s || (d6 r.name m[i]&&r.kind==3)) (λ s=>s) (λ k hk s=>by
  simp only[mF,dR hk,aj,bB hk,bE hi,bM hi,ah,aW k];unfold d6;cases s with
  |true=>rfl
  |false=>cases (ByteArray.toList t.az[k].name==ByteArray.toList m[i])<;>rfl) (λ s=>by simp only[mF,fO,ak]) n (by omega) false
 rw[show ((0:Nat):Int)=0 from rfl]at key;rw[key];congr 1;have gen:∀(l:List aM)(s:Bool),l.foldl (λ s r=>s || (d6 r.name m[i]&&r.kind==3)) s=(s || l.any λr=>d6 r.name m[i]&&r.kind==3):=by
  intro l
  induction l with
  |nil=>intro s;simp
  |cons x l ih=>intro s;rw[foldl_cons,ih,List.any_cons,Bool.or_assoc]
 rw[gen,Bool.false_or]
theorem amS{t:dh}{l m:List ByteArray}{e f:Int}(hl:l.length<=1000)(hm:m.length<=1000)(hr:t.az.length<=1000)(h:∀x∈m,l.any (d6 x)=true\/(t.az.any λr=>d6 r.name x&&r.kind==3)=true)(hn:2000<=n):iter (mG n t (l,e) (m,f)) n (0:Int)=some (.inl ()):=by
 obtain⟨o,g1,rfl⟩:=dZ (step:=mG n t (l,e) (m,f)) (λ i (v:Int)=>v=(i:Int)/\i<=m.length) (λ o=>o= .inl ()) m.length (λ k v h=>h.2) (by
  rintro i v ⟨rfl,hi⟩;by_cases hlt:i<m.length
  ·simp only[mG,show decide ((i:Int)<(m.length:Int))=true from by simp;omega,aj,amR (n:=n) (t:=t) (f:=f) hlt hr hn,bE hlt,bM hlt,ah,cZ,aG,afd (n:=n) (l:=l) (s:=m[i]) hl hn,afh,aW i];rcases h _ (getElem_mem hlt)with h1 |h1
   ·rw[h1];exact .inl ⟨_,rfl,rfl,hlt⟩
   ·rw[h1];cases (l.any (d6 m[i]))<;>exact .inl ⟨_,rfl,rfl,hlt⟩
  ·simp only[mG,show decide ((i:Int)<(m.length:Int))=false from by simp;omega,ak];exact .inr ⟨_,rfl,rfl⟩) n 0 0 ⟨rfl,Nat.zero_le _⟩ (by omega)
 exact g1
theorem ajR(n:Nat)(t:dh)(d:aV)(day:Int)(r:aM):Ng n t d day (t.az++[r])=bif jJ n t d==0 then addN (Ng n t d day t.az) r.name (jm (pY t (iT t d)) day r&&zV n t (iT t d) d r)else []:=by
 unfold Ng;cases (jJ n t d==0)with
 |false=>rfl
 |true=>simp only[aj];rw[List.foldl_append];rfl
theorem Qo{l:List ByteArray}{x:ByteArray}(h:x∈l):l.any (d6 x)=true:=any_eq_true.2 ⟨x,h,alO x⟩
theorem UI(t:dh)(d:aV)(day:Int)(r:aM)(b:bS)(hz:KB t)(hw:(toE (ir r)).wt<=4000000):uU 5000003 t d day r b=some true:=by
 have hn:=HM;have hmx:maxLen=9223372036854775807:=rfl;have⟨q,hb,PT⟩:=alN (n:=5000003) (t:=t) (d:=d) hz hn;obtain⟨q2,hr1,hr2⟩:=afc (n:=5000003) (l:=[r]) (λ x hx=>by simp only[aY]at hx;subst hx;exact hw) hn;unfold uU;rw[amO,hb];simp only[ah];cases q with
 |false=>rfl
 |true=>
  have⟨ht,hd,hbl,hrl⟩:=PT rfl;have s1:∀x:aM,sub [x] 0 1=[x]:=λ_=>rfl;have s2:∀x:bS,sub [x] 0 1=[x]:=λ_=>rfl;simp only[Bool.not_true,ak,s1,length_singleton,aG,aj,hr1,ah];cases q2 with
  |false=>rfl
  |true=>
   have⟨_,hrr⟩:=hr2 rfl;have PA:Ib r:=hrr r (by simp);have hu:Mv (qK t (t.built++[b])):=alQ ht (by simp;omega);have hB1:=vZ (n:=5000003) (t:=t) (d:=d) day ht hd hn;have hB2:fC 5000003 (dh.mk t.cm t.b7 t.b8 t.az t.co t.ci t.cz t.cj t.land t.cp t.windows (t.built++[b]) t.base) d day=some (gH 5000003 (qK t (t.built++[b])) d day,jJ 5000003 t d):=vZ (n:=5000003) (t:=qK t (t.built++[b])) (d:=d) day hu hd hn;obtain⟨be0,bl0⟩:=Uh (n:=5000003) (day:=day) t.az ht hd hn;have hw0:Mv (IK t t.az):=afg ht ht.rules ht.rule;have hB3:fC 5000003 (dh.mk t.cm t.b7 t.b8 t.az t.co t.ci t.cz t.cj t.land ([]) t.windows t.built t.base) d day=some (Ng 5000003 t d day t.az,jJ 5000003 t d):=by
    have h:=vZ (n:=5000003) (t:=IK t t.az) (d:=d) day hw0 hd hn;rw[bl0,be0]at h;exact h
   obtain⟨be1,bl1⟩:=Uh (n:=5000003) (day:=day) (t.az++[r]) ht hd hn;have hw1:Mv (IK t (t.az++[r])):=afg ht (by simp;omega) (λ x hx=>by
    rw[aX]at hx;rcases hx with hx |hx
    ·exact ht.rule x hx
    ·simp only[aY]at hx;subst hx;exact⟨PA,hw⟩)
   have hB4:fC 5000003 (dh.mk t.cm t.b7 t.b8 (t.az++[r]) t.co t.ci t.cz t.cj t.land ([]) t.windows t.built t.base) d day=some (Ng 5000003 t d day (t.az++[r]),jJ 5000003 t d):=by
    have h:=vZ (n:=5000003) (t:=IK t (t.az++[r])) (d:=d) day hw1 hd hn;rw[bl1,be1]at h;exact h
   have hL:ng 5000003 t d r=some ((jJ 5000003 t d==0)&&zV 5000003 t (iT t d) d r):=abB (n:=5000003) (t:=t) (d:=d) (r:=r) ht hd hw hn;have l1:=K8 (n:=5000003) (t:=t) (d:=d) (by omega) day;have l2:=K8 (n:=5000003) (t:=qK t (t.built++[b])) (d:=d) (show (qK t (t.built++[b])).az.length<=10 by show t.az.length<=10;omega) day;have l3:=K8 (n:=5000003) (t:=IK t t.az) (d:=d) (show (IK t t.az).az.length<=10 by show t.az.length<=10;omega) day;rw[bl0]at l3;have ap1:bR ([]:List bS).length 0 t.built.length t.built.length 80=true:=(by simp[bR];omega);have ap2:bR t.built.length t.built.length 1 1 80=true:=(by simp[bR];omega);have ap3:bR ([]:List aM).length 0 t.az.length t.az.length 232=true:=(by simp[bR];omega);have ap4:bR t.az.length t.az.length 1 1 232=true:=(by simp[bR];omega);have hown:((bif (b.lot==(d.lot:Int))then(oW 5000003 (gH 5000003 t d day) (gH 5000003 (qK t (t.built++[b])) d day)).bind λr8=>some (!r8)else some false):Option Bool)=some false:=by
    cases PM:(b.lot==d.lot)with
    |false=>rfl
    |true=>
     have e:gH 5000003 (qK t (t.built++[b])) d day=gH 5000003 t d day:=by
      have e2:u7 5000003 (qK t (t.built++[b])) (iT t d) d (applied t (iT t d) day)=u7 5000003 t (iT t d) d (applied t (iT t d) day):=by
       unfold u7;congr 1;funext ab x;rw[amP PM]
      show(bif jJ 5000003 t d==0 then addN (u7 5000003 (qK t (t.built++[b])) (iT t d) d (applied t (iT t d) day)) Ah (YE t d)else [])=_;rw[e2];rfl
     rw[e,Qn (by omega) (by omega),K7];rfl
   have h1:=amQ (n:=5000003) (l:=gH 5000003 t d day) (m:=gH 5000003 (qK t (t.built++[b])) d day) (e:=jJ 5000003 t d) (f:=jJ 5000003 t d) (by omega) (by omega) (λ x hx=>afk (Qo hx)) (by omega);have h2:=amS (n:=5000003) (t:=t) (l:=gH 5000003 t d day) (m:=gH 5000003 (qK t (t.built++[b])) d day) (e:=jJ 5000003 t d) (f:=jJ 5000003 t d) (by omega) (by omega) (by omega) (λ x hx=>ahm (Qo hx)) (by omega);simp only[Bool.not_true,ak,hB1,ah,ap1,aj,fG,bO,s2,length_singleton,ap2,cZ,aG,hB2,show(jJ 5000003 t d !=jJ 5000003 t d)=false from by simp,hown,h1,h2,dP,hB3,ap3,ap4,s1,hB4,hL];rw[ajR];cases h0:(jJ 5000003 t d==0)with
   |false=>
    have e0:Ng 5000003 t d day t.az=[]:=(by simp only[Ng,h0,ak]);rw[e0];have hnm:oW 5000003 [] []=some true:=(by rw[Qn (by simp) (by omega),K7]);simp only[ak,length_nil,show decide (((0:Nat):Int)<((0:Nat):Int))=false from rfl,show yF 0 ((0:Nat):Int) 0=true from rfl,aj,show(sub ([]:List ByteArray) 0 (((0:Nat):Int).toNat))=[]from rfl,length_nil,show bk 0 (((0:Nat):Int).toNat)=true from rfl,hnm,ah,Bool.not_true];rfl
   |true=>
    simp only[aj];generalize Ng 5000003 t d day t.az=O at l3;have hnm:oW 5000003 O O=some true:=(by rw[Qn (by omega) (by omega),K7]);unfold addN;cases hbad:((jm (pY t (iT t d)) day r&&zV 5000003 t (iT t d) d r)&&!(O.any (d6 r.name)))with
    |false=>
     simp only[ak,show decide ((O.length:Int)<(O.length:Int))=false from by simp,tK (show (0:Int)<=0 by omega) (show (0:Int)<=(O.length:Int)by omega) (Int.le_refl _),aj,Int.toNat_natCast,cZ,aG,hnm,ah,Bool.not_true,beq_self_eq_true]
    |true=>
     have hbk:zV 5000003 t (iT t d) d r=true:=(by simp only[aJ]at hbad;exact hbad.1.2);have hl1:(O++[r.name]).length=O.length+1:=(by simp);have hsub:sub (O++[r.name]) 0 O.length=O:=(by simp[sub]);have hw2:i64.wrap ((O.length:Int)+1)=((O.length+1:Nat):Int):=aR (by omega);have hgt:bo (O++[r.name]) (((0:Nat):Int)+(O.length:Int))=some r.name:=(by rw[zm];simp);simp only[aj,hl1,show decide (((O.length+1:Nat):Int)<(O.length:Int))=false from by simp;omega,ak,tK (show (0:Int)<=0 by omega) (show (0:Int)<=(O.length:Int)by omega) (show (O.length:Int)<=((O.length+1:Nat):Int)by omega),Int.toNat_natCast,hsub,aG,hnm,ah,Bool.not_true,show(((O.length+1:Nat):Int)==(O.length:Int))=false from by simp;omega,hw2,beq_self_eq_true,bE (show O.length<O.length+1 by omega),hgt,hbk,Bool.and_self]
mutual
theorem amT:∀g:bL,(toE g).wt<=jF (rY g)
 |⟨op,n,s,key,args⟩=>by
  have:=Qp args;simp only[toE,ET.wt,rY,jF,nr];omega
theorem Qp:∀l:List bL,ET.sE (KH l)<=Dt (uF l)
 |[]=>by simp[KH,ET.sE]
 |x::xs=>by
  have h1:=amT x;have h2:=Qp xs;simp only[KH,ET.sE,uF,Dt];omega
end
theorem abC:∀l:List fK,q7 (l.map toD)<=Dt (l.map G5)
 |[]=>by simp[q7]
 |x::xs=>by
  have h1:=abC xs;have h2:=Qp x.er;simp only[q7]at h1;simp only[aC,q7,List.foldr_cons,toD,ET.wt,Dt,G5,jF,nr,<- uG];omega
theorem ajS(t:dh):q7 (t.cm.map toD)<=jF (G6 t):=by
 have:=abC t.cm;simp only[G6,jF,nr];omega
theorem YG{r:List Tree}:∀{l:List (List Tree)},r∈l->jF r<=Dt l
 |x::l,h=>by
  rw[Dt];rcases aN.1 h with rfl |h
  ·omega
  ·have:=YG h;omega
theorem abD(r:aM):(toE (ir r)).wt<=jF (wS r):=by
 have h:=Qp r.fX;rw[uG]at h;simp only[ir,toE,ET.wt,wS,jF,nr];omega
theorem abE:∀l:List Int,l.length<=Dt (l.map λy=>[Tree.sc (.int .i64 y)])
 |[]=>by simp
 |x::l=>by
  have:=abE l;simp only[aC,Dt,jF,nr,bF];omega
theorem an1{t:dh}(h:jF (G6 t)<=1048576):KB t:=by
 have hd:=Nat.le_trans (ajS t) h;simp only[G6,jF,nr]at h;refine⟨by unfold gE;omega,λr hr=>?_,λl hl=>?_⟩
 ·have h1:=abD r;have h2:=YG (mem_map.2 ⟨r,hr,rfl⟩:wS r∈t.az.map wS);omega
 ·have h1:=abE l.from_;have h2:=YG (mem_map.2 ⟨l,hl,rfl⟩:NH l∈t.land.map NH);have h3:Dt (l.from_.map λy=>[Tree.sc (.int .i64 y)])<=jF (NH l):=by simp only[NH,jF,nr];omega
  omega
theorem an2{cs:List (CT xx.ι)}(q:HL xx.toSE (.st SI.jt::cs))(hb:WL (HL.nq xx.toSE (.st SI.jt::cs) q)<=1048576):KB q.1:=by
 have h2:jF (G6 q.1)+WL (HL.nq xx.toSE cs q.2)<=1048576:=hb;exact an1 (by omega)
theorem YH(q:HL xx.toSE [.st SI.jt,.st SI.gd,.int .i64,.st SI.Rule,.st SI.ev])(hb:WL (HL.nq xx.toSE [.st SI.jt,.st SI.gd,.int .i64,.st SI.Rule,.st SI.ev] q)<=1048576):∃k,uU k q.1 q.2.1 q.2.2.1 q.2.2.2.1 q.2.2.2.2.1=some true:=by
 have h2:jF (G6 q.1)+(jF (X7 q.2.1)+(1+(jF (wS q.2.2.2.1)+(jF (LU q.2.2.2.2.1)+0))))<=1048576:=hb;exact⟨5000003,UI q.1 q.2.1 q.2.2.1 q.2.2.2.1 q.2.2.2.2.1 (an2 q hb) (Nat.le_trans (abD q.2.2.2.1) (by omega))⟩
end Go.Proofs
