import Derived.Test.YtjkanncjllckgaaGreatS1
open Go.IntKind (i64)
open List (length_take mem_map all_eq_true getElem_mem length_map append_nil length_nil foldl_cons take_of_length_le length_singleton length_filter_le map_append)
namespace Go.Proofs
open Go.Gb Go.RowKit
variable {n:Nat}
theorem aek(r:ax):ek r=true↔(0<=r.x0/\r.x0<r.x1/\r.x1<=1048576)/\(0<=r.y0/\r.y0<r.y1/\r.y1<=1048576):=by simp only[ek,aL,aV];omega
theorem JW{b:ax}{l:List dX}(r:ax)(x:Int)(hb:ek b=true)(hp:∀p∈l,Xd p=true)(hr:ek r=true)(hx:0<=x/\x<1048576)(hl:l.length<=1000)(hn:2000<=n)(v:Int):
 iter (nU n b l r x) n (v,(0:Int))=some (min (min v (YR b l x r.y0)) (YR b l x (r.y1 -1))):=by
 have ho:=(aek r).1 hr;have w:i64.wrap (r.y1 -1)=r.y1 -1:=dU (by omega) (by omega);have:=og (l:=[r.y0,r.y1 -1]) (step:=nU n b l r x) (λ i (s:Int)=>(s,(i:Int))) (λ y m=>min m (YR b l x y)) (λ s=>s) (λ i hi s=>?_) (λ s=>by simp[nU]) n (by simp;omega) v
 ·rw[show ((0:Nat):Int)=0 from rfl]at this;exact this
 ·have h2:i<2:=by simpa using hi
  have yb:0<=([r.y0,r.y1 -1]:List Int)[i]/\([r.y0,r.y1 -1]:List Int)[i] <1048576:=by
   rcases i with _ |_ |i
   ·simp only[List.getElem_cons_zero];omega
   ·simp only[List.getElem_cons_succ,List.getElem_cons_zero];omega
   ·omega
  simp only[nU,show decide ((i:Int)<2)=true from decide_eq_true (by omega),bO h2,aj,aT h2,w,aX hi,af,abN hb hp ⟨hx,yb⟩ hl hn,aM i]
def T5(b:ax)(l:List dX)(v:Int)(r:ax):Int:=min (min (min (min v (YR b l r.x0 r.y0)) (YR b l r.x0 (r.y1 -1))) (YR b l (r.x1 -1) r.y0)) (YR b l (r.x1 -1) (r.y1 -1))
theorem JX{b:ax}{l:List dX}(r:ax)(hb:ek b=true)(hp:∀p∈l,Xd p=true)(hr:ek r=true)(hl:l.length<=1000)(hn:2000<=n)(v:Int):
 iter (nV n b l r) n (v,(0:Int))=some (T5 b l v r):=by
 have ho:=(aek r).1 hr;have w:i64.wrap (r.x1 -1)=r.x1 -1:=dU (by omega) (by omega);have:=og (l:=[r.x0,r.x1 -1]) (step:=nV n b l r) (λ i (s:Int)=>(s,(i:Int))) (λ x m=>min (min m (YR b l x r.y0)) (YR b l x (r.y1 -1))) (λ s=>s) (λ i hi s=>?_) (λ s=>by simp[nV]) n (by simp;omega) v
 ·rw[show ((0:Nat):Int)=0 from rfl]at this;exact this
 ·have h2:i<2:=by simpa using hi
  have xb:0<=([r.x0,r.x1 -1]:List Int)[i]/\([r.x0,r.x1 -1]:List Int)[i] <1048576:=by
   rcases i with _ |_ |i
   ·simp only[List.getElem_cons_zero];omega
   ·simp only[List.getElem_cons_succ,List.getElem_cons_zero];omega
   ·omega
  simp only[nV,show decide ((i:Int)<2)=true from decide_eq_true (by omega),bO h2,aj,aT h2,w,aX hi,af,JW r _ hb hp hr xb hl hn,aM i]
def LS(b:ax)(l:List dX)(a:List ax):Int:=a.foldl (T5 b l) 4096
theorem Sy{b:ax}{l:List dX}{a:List ax}(hb:ek b=true)(hp:∀p∈l,Xd p=true)(ha:∀r∈a,ek r=true)(hal:a.length<=1000)(hl:l.length<=1000)(hn:2000<=n):xQ n b l a=some (LS b l a):=by
 unfold xQ;have:=og (l:=a) (step:=qX n b l a) (λ i (s:Int)=>(s,(i:Int))) (λ r m=>T5 b l m r) (λ s=>s) (λ i hi s=>?_) (λ s=>by simp[qX]) n (by omega) 4096
 ·rw[show ((0:Nat):Int)=0 from rfl]at this;rw[this];rfl
 ·simp only[qX,bO hi,aj,bq hi,af,JX a[i] hb hp (ha _ (getElem_mem hi)) hl hn,aM i]
theorem anh(r:ax):ek r=true↔(0<=r.x0/\r.x0<r.x1/\r.x1<=1048576)/\(0<=r.y0/\r.y0<r.y1/\r.y1<=1048576):=by simp only[ek,aL,aV];omega
abbrev Dd(t:bS):Prop:=t.area.length<=900/\t.from_.length*8<=140737488355328
theorem agz{t:bS}(h:Dd t):NG t=some t:=by
 unfold NG;have h2:=h.2;rw[P9 (by omega),af,show Ej t.from_=some t.from_ from Rz (b:=8) (by omega) (by simp only[maxLen];omega),af];simp only[cZ,aD,aj]
theorem ajr{land:List bS}{id:Int}(h:∀t∈land,Dd t)(hl:land.length<1099511627776)(hn:land.length<n):NH n land id=some (jo land id):=by
 unfold NH;have:=pz (l:=land) (step:=El land id) (λ i=>(i:Int)) (λ t=>t.id==id) () (λ i=>(land.getD i MY,true)) (λ i hi=>?_) ?_ n hn
 ·rw[show ((0:Nat):Int)=0 from rfl]at this;rw[this];unfold jo;rcases K9 (λ t:bS=>t.id==id) land with ⟨i,hi,h1,h2⟩ |⟨h1,h2⟩
  ·rw[h1,h2];simp[hi]
  ·rw[h1,h2];rfl
 ·simp only[El,bO hi,aj,bq hi,af,agz (h _ (getElem_mem hi))];cases land[i].id==id with
  |true=>simp[hi]
  |false=>simp only[ak];rw[bK (by omega)]
 ·simp[El]
theorem aat{land:List bS}(h:∀t∈land,Dd t)(id:Int):Dd (jo land id).1:=by
 unfold jo;split
 ·rename_i t ht;exact h t (List.mem_of_find?_eq_some ht)
 ·simp[Dd,MY]
structure apl(t:bU):Prop where
 rules:t.bj.length<=20
 PP:∀r∈t.bj,Xc r
 zones:t.b7.length<=20
 land:t.land.length<=20
 lots:∀l∈t.land,Dd l
 bz:t.bz.length<=5
 apn:∀e∈t.bz,e.area.length<=10
theorem RO{α:Type}(p:α->Bool):∀l:List α,((List.range l.length).filter λi=>(l[i]?).any p).filterMap (λ i=>l[i]?)=l.filter p
 |[]=>rfl
 |a::l=>by
  have ih:=RO p l;rw[bI,List.range_succ_eq_map,List.filter_cons,List.filter_cons];have e:(List.filter (λ i=>((a::l)[i]?).any p) (List.map Nat.succ (List.range l.length))).filterMap (λ i=>(a::l)[i]?)=l.filter p:=by
   rw[List.filter_map,List.filterMap_map];exact ih
  cases hp:p a with
  |true=>simp[hp];simpa using e
  |false=>simp[hp];simpa using e
def F1(a r:ax):ax:=⟨min a.x0 r.x0,min a.y0 r.y0,max a.x1 r.x1,max a.y1 r.y1⟩
def aic:List ax->ax
 |[]=>⟨0,0,0,0⟩
 |r::l=>l.foldl F1 r
def JG(a:List ax):ax×Bool:=bif decide (a≠[])&&cR a then(aic a,true)else(⟨0,0,0,0⟩,false)
theorem ael{a:List ax}(ha:a≠[])(hv:∀r∈a,ek r=true)(hl:a.length<=900)(hn:2000<=n):NA n a=some (aic a,true):=by
 unfold NA;have:=og (l:=a.zip (List.range a.length)) (step:=Aa a) (λ i (s:Bool×Int×Int×Int×Int)=>(s.1,(i:Int),s.2)) (λ p s=>bif !s.1 then(true,p.1.x0,p.1.y0,p.1.x1,p.1.y1)else(s.1,min s.2.1 p.1.x0,min s.2.2.1 p.1.y0,max s.2.2.2.1 p.1.x1,max s.2.2.2.2 p.1.y1)) (λ s=>s) (λ i hi s=>?_) (λ s=>?_) n (by simp;omega) (false,0,0,0,0)
 ·rw[show ((0:Nat):Int)=0 from rfl]at this;simp only at this;rw[this];cases a with
  |nil=>exact absurd rfl ha
  |cons r l=>
   have gen:∀(l:List ax) (k:List Nat) (s:ax),l.length<=k.length->(l.zip k).foldl (λ (s:Bool×Int×Int×Int×Int) p=>bif !s.1 then(true,p.1.x0,p.1.y0,p.1.x1,p.1.y1)else(s.1,min s.2.1 p.1.x0,min s.2.2.1 p.1.y0,max s.2.2.2.1 p.1.x1,max s.2.2.2.2 p.1.y1)) (true,s.x0,s.y0,s.x1,s.y1)=(true,(l.foldl F1 s).x0,(l.foldl F1 s).y0,(l.foldl F1 s).x1,(l.foldl F1 s).y1):=by
    intro l
    induction l with
    |nil=>intro k s _;rfl
    |cons r l ih=>
     intro k s hk;cases k with
     |nil=>simp at hk
     |cons j k=>
      rw[List.zip_cons_cons,foldl_cons,foldl_cons];exact ih k (F1 s r) (by simpa using hk)
   rw[bI,List.range_succ_eq_map,List.zip_cons_cons,foldl_cons];simp only[Bool.not_false,aj];rw[gen l _ r (by simp)];rfl
 ·have hi':i<a.length:=by simpa using hi
  obtain⟨s1,s2,s3,s4,s5⟩:=s;have ok:=hv _ (getElem_mem hi');simp only[Aa,bO hi',aj,bq hi',af,iT,ok,Bool.not_true,ak,NT,List.getElem_zip,aM i]
 ·obtain⟨s1,s2,s3,s4,s5⟩:=s;have:(a.zip (List.range a.length)).length=a.length:=by simp
  simp only[this,Aa,bW,ak]
theorem Oe(a:List ax)(hl:a.length<=900)(hn:2000<=n):CB n a=some (JG a):=by
 unfold CB JG;cases a with
 |nil=>rfl
 |cons r l=>
  have e:((((r::l).length:Nat):Int)==0)=false:=by simp;omega
  have e2:decide (r::l≠[])=true:=by simp
  rw[lT (by omega) (by omega) (by omega),e,e2];simp only[ak,af,Bool.true_and];cases hr:cR (r::l)with
  |false=>rfl
  |true=>
   simp only[Bool.not_true,ak];rw[ael (by simp) (ul hr).1 hl hn];rfl
theorem sF{V O:Type}{step:V->Option (V⊕O)}(f:Nat->V){s:V}(N:Nat)(o:O)(h0:s=f 0)
 (h1:∀i,i<N->step (f i)=some (.inl (f (i+1)))) (h2:step (f N)=some (.inr o)) (n:Nat) (hn:N<n):iter step n s=some o:=by rw[h0];exact mD f N o h1 h2 n hn
def tb(f:Nat->Nat->Bool):List Bool:=(List.range 144).map λi=>f (i/12) (i%12)
def upd(f:Nat->Nat->Bool)(a b:Nat)(v:Bool):Nat->Nat->Bool:=λx y=>if x=a/\y=b then v else f x y
inductive Tc(e:Nat->Nat->Bool):Nat->Nat->Prop
 |one {a b:Nat}:a<12->b<12->e a b=true->Tc e a b
 |trans {a b c:Nat}:Tc e a b->Tc e b c->Tc e a c
theorem Tc.lt{e:Nat->Nat->Bool}{a b:Nat}(h:Tc e a b):a<12/\b<12:=by
 induction h with
 |one h1 h2 _=>exact⟨h1,h2⟩
 |trans _ _ i1 i2=>exact⟨i1.1,i2.2⟩
def iy(v:aH):ax:=ax.mk v.bu v.ca v.br v.b9
def okV(v:aH):Bool:=ek (iy v)&&(decide (0<=v.er)&&(decide (v.er<v.ec)&&(decide (v.ec<=4096)&&((decide (v.use=0) || decide (v.units=0))&&(decide (0<=v.use)&&(decide (v.use<6)&&(decide (0<=v.units)&&decide (v.units<=1048576))))))))
theorem uo(v:aH):gm v=some (okV v):=by
 unfold gm okV;rw[iT];have e1:decide (v.er<0)=!decide (0<=v.er):=by rw[<- decide_not,decide_eq_decide];omega
 have e2:decide (v.er>=v.ec)=!decide (v.er<v.ec):=by rw[<- decide_not,decide_eq_decide];omega
 have e3:decide (v.ec>4096)=!decide (v.ec<=4096):=by rw[<- decide_not,decide_eq_decide];omega
 have e4:(v.use !=0)=!decide (v.use=0):=by by_cases h:v.use=0<;>simp[h]
 have e5:(v.units !=0)=!decide (v.units=0):=by by_cases h:v.units=0<;>simp[h]
 rw[e1,e2,e3,e4,e5,show ax.mk v.bu v.ca v.br v.b9=iy v from rfl];simp only[ge_iff_le];generalize ek (iy v)=a1;generalize decide (0<=v.er)=a2;generalize decide (v.er<v.ec)=a3;generalize decide (v.ec<=4096)=a4;generalize decide (v.use=0)=a5;generalize decide (v.units=0)=a6;generalize decide (0<=v.use)=a7;generalize decide (v.use<6)=a8;generalize decide (0<=v.units)=a9;generalize decide (v.units<=1048576)=jz;cases a1<;>cases a2<;>cases a3<;>cases a4<;>cases a5<;>cases a6<;>cases a7<;>cases a8<;>cases a9<;>rfl
theorem Xi{v:aH}(h:okV v=true):ek (iy v)=true:=by rw[okV,aL]at h;exact h.1
def kJ(d:bn):List aH:=d.phases.flatMap (·.cy)
theorem dC{l:List rC}(h:∀p∈l,p.cy.length<=1000):(l.flatMap (·.cy)).length<=l.length*1000:=by
 induction l with
 |nil=>simp
 |cons p l ih=>
  have h1:=h p (by simp);have h2:=ih λq hq=>h q (by simp[hq]);simp only[List.flatMap_cons,dM,bI];omega
def Xj(d:bn):Prop:=d.phases.length<=1000/\∀p∈d.phases,p.cy.length<=1000
theorem Xk{d:bn}(h:Xj d)(hn:1001<=n):nS n d 0 (d.phases.length:Int)=some (kJ d):=by
 obtain⟨h1,h2⟩:=h;unfold nS;have key:=sF (step:=nD d 0 (d.phases.length:Int)) (λ i=>((i:Int),(d.phases.take i).flatMap (·.cy))) (s:=((0:Int),([]:List aH))) d.phases.length (kJ d) rfl (λ i hi=>by
  have e2:decide ((i:Int)>=0)=true:=by simp
  have hl:=dC (l:=d.phases.take i) λp hp=>h2 p (List.mem_of_mem_take hp);rw[length_take]at hl;have hv:=h2 _ (getElem_mem hi);generalize hL:(d.phases.take i).flatMap (·.cy)=L at hl;have hap:bP L.length L.length d.phases[i].cy.length d.phases[i].cy.length 72=true:=dm (by omega) (by simp only[maxLen];omega);simp only[nD,bO hi,aj,bq hi,af,e2,hap,dQ,aD,aM i];rw[gG hi,List.flatMap_append,hL];simp only[List.flatMap_cons,List.flatMap_nil,append_nil]) (by simp only[nD,bW,ak,aD,aj,List.take_length,kJ]) n (by omega)
 have hz:az 0 ([]:List aH).length=true:=rfl;simp only[hz,aj,key,af,cZ,aD]
def Wf(v:aH):Int:=(kQ v).getD 0
theorem Xl(v:aH):kQ v=some (Wf v):=by
 unfold Wf kQ;rw[uo];cases v.extra<;>cases okV v<;>rfl
def ON(v:aH):Int:=(oq v).getD 0
theorem aem(v:aH):oq v=some (ON v):=by
 unfold ON oq;rw[uo,Xl];cases h:okV v with
 |false=>rfl
 |true=>
  have e:=CV (Xi h);unfold iy at e;simp only[af,Bool.not_true,ak,e,Option.getD_some]
theorem aox(a0:List fH)(a1:List cu)(a2:List dV)(a8:List ax){a9:List aH}(hl:a9.length<=1000)(hn:1001<=n):∃r,∀(a3:List bX)(a4:List fZ)(a5:List eX)(a6:List bT)(a7:Int),kE n a0 a1 a2 a3 a4 a5 a6 a7 a8 a9=some (r,a0,a1,a2,a3,a4,a5,a6,a7,a8,a9):=by
 have key:=og (l:=a9) (step:=jF a9) (λ i (s:Int)=>(s,(i:Int))) (λ v s=>i64.wrap (s+ON v)) (λ s=>s) (λ i hi s=>by simp only[jF,bO hi,aj,aT hi,aX hi,af,aem,aM i]) (λ s=>by simp only[jF,bW,ak]) n (by omega) 0;rw[show ((0:Nat):Int)=0 from rfl]at key;unfold kE qf;simp only[key,af,aD,aj];exact⟨_,λ_ _ _ _ _=>rfl⟩
theorem aoy(a0:List fH)(a1:List cu)(a2:List dV)(a8:List ax){a9:List aH}(hl:a9.length<=1000)(hn:1001<=n):∃r,∀(a3:List bX)(a4:List fZ)(a5:List eX)(a6:List bT)(a7:Int),kF n a0 a1 a2 a3 a4 a5 a6 a7 a8 a9=some (r,a0,a1,a2,a3,a4,a5,a6,a7,a8,a9):=by
 have key:=og (l:=a9) (step:=jI a9) (λ i (s:Int)=>(s,(i:Int))) (λ v s=>i64.wrap (s+v.units)) (λ s=>s) (λ i hi s=>by simp only[jI,bO hi,aj,aT hi,aX hi,af,oD,aM i]) (λ s=>by simp only[jI,bW,ak]) n (by omega) 0;rw[show ((0:Nat):Int)=0 from rfl]at key;unfold kF qg;simp only[key,af,aD,aj];exact⟨_,λ_ _ _ _ _=>rfl⟩
theorem alB(a0:List fH)(a1:List cu)(a2:List dV)(a8:List ax){a9:List aH}(hl:a9.length<=1000)(hn:1001<=n):∃r,∀(a3:List bX)(a4:List fZ)(a5:List eX)(a6:List bT)(a7:Int),jG n a0 a1 a2 a3 a4 a5 a6 a7 a8 a9=some (r,a0,a1,a2,a3,a4,a5,a6,a7,a8,a9):=by
 have key:=og (l:=a9) (step:=gQ a9) (λ i (s:Int)=>(s,(i:Int))) (λ v s=>max s (Wf v)) (λ s=>s) (λ i hi s=>by simp only[gQ,bO hi,aj,aT hi,aX hi,af,Xl,aM i]) (λ s=>by simp only[gQ,bW,ak]) n (by omega) 0;rw[show ((0:Nat):Int)=0 from rfl]at key;unfold jG l5;simp only[key,af,aD,aj];exact⟨_,λ_ _ _ _ _=>rfl⟩
theorem alC(a0:List fH)(a1:List cu)(a2:List dV)(a8:List ax){a9:List aH}(hl:a9.length<=1000)(hn:1001<=n):∃r,∀(a3:List bX)(a4:List fZ)(a5:List eX)(a6:List bT)(a7:Int),jH n a0 a1 a2 a3 a4 a5 a6 a7 a8 a9=some (r,a0,a1,a2,a3,a4,a5,a6,a7,a8,a9):=by
 have key:=og (l:=a9) (step:=gT a9) (λ i (s:Int)=>(s,(i:Int))) (λ v s=>max s v.ec) (λ s=>s) (λ i hi s=>by simp only[gT,bO hi,aj,aT hi,aX hi,af,nG,aM i]) (λ s=>by simp only[gT,bW,ak]) n (by omega) 0;rw[show ((0:Nat):Int)=0 from rfl]at key;unfold jH l6;simp only[key,af,aD,aj];exact⟨_,λ_ _ _ _ _=>rfl⟩
theorem ajs(e:bR)(a:Jv){u:Int}(h0:0<=u)(h6:u<6):∃b,ko e a u=some b:=by
 obtain⟨k,rfl⟩:∃k:Nat,u=(k:Int):=⟨u.toNat,by omega⟩;have hk:k<6:=by omega
 unfold ko;rw[aT hk,bq (l:=[a.a0,a.a1,a.a2,a.a3,a.a4,a.a5]) hk];exact⟨_,rfl⟩
theorem EQ{l:List bR}{φ:(bR×Unit)->Option Bool}(p:bR->Bool)(h:∀x∈l,φ (x,())=some (p x))(hl:l.length<=9223372036854775807)(hn:l.length<n):kr n l φ=some (xB p l):=Fq p h hl hn
theorem aoz(p:bB){u:Int}(h0:0<=u)(h6:u<6)(ht:p.tables.length<n)(ht2:p.tables.length<=9223372036854775807)(hr:∀t∈p.tables,t.rows.length<n/\t.rows.length<=9223372036854775807):∃r,Ae n p u=some r:=by
 have key:∃o,iter (ku n p u) n (0:Int)=some o/\True:=by
  have step:∀i (hi:i<p.tables.length),ku n p u (i:Int)=some (.inl ((i+1:Nat):Int))\/∃z,ku n p u (i:Int)=some (.inr (.inr z)):=by
   intro i hi;obtain⟨r1,r2⟩:=hr _ (getElem_mem hi);simp only[ku,bO hi,aj,bq hi,af,aM i];cases ByteArray.toList p.tables[i].name==ByteArray.toList ⟨#[116,114,97,102,102,105,99]⟩with
   |false=>exact Or.inl rfl
   |true=>
    right;simp only[Bool.not_true,ak];generalize Jv.mk _ _ _ _ _ _=A;have hx:=EQ (n:=n) (l:=p.tables[i].rows) (φ:=λy1=>ko y1.1 A u) (λ e=>(ko e A u).getD false) (λ e _=>by have⟨b,hb⟩:=ajs e A h0 h6;simp[hb]) r2 r1;rw[hx];simp only[af,xC];cases hany:p.tables[i].rows.any λe=>(ko e A u).getD false with
    |false=>exact⟨_,rfl⟩
    |true=>
     have⟨j,hj,h1,_⟩:=adG hany;rw[h1];simp only[aj,bq hj,af];exact⟨_,rfl⟩
  have main:∀k i m,i+k=p.tables.length->k<m->∃o,iter (ku n p u) m (i:Int)=some o/\True:=by
   intro k
   induction k with
   |zero=>
    intro i m hi hm;obtain⟨q,rfl⟩:∃q,m=q+1:=⟨m -1,by omega⟩;have:i=p.tables.length:=(by omega);subst this;exact⟨.inl (),fG (by simp only[ku,bW,ak]),trivial⟩
   |succ k ih=>
    intro i m hi hm;obtain⟨q,rfl⟩:∃q,m=q+1:=⟨m -1,by omega⟩;rcases step i (by omega)with h |⟨z,h⟩
    ·rw[iK h];exact ih (i+1) q (by omega) (by omega)
    ·exact⟨_,fG h,trivial⟩
  exact main p.tables.length 0 n (by omega) ht
 obtain⟨o,h1,_⟩:=key;unfold Ae;rw[h1];cases o with
 |inl w=>exact⟨_,rfl⟩
 |inr r=>exact⟨_,rfl⟩
theorem agA(p:bB){v:aH}(hv:okV v=true)(ht:p.tables.length<n)(ht2:p.tables.length<=9223372036854775807)(hr:∀t∈p.tables,t.rows.length<n/\t.rows.length<=9223372036854775807):∃r,kR n p v=some r:=by
 simp only[okV,aL,aV]at hv;have⟨r,h1⟩:=aoz (n:=n) p (u:=v.use) hv.2.2.2.2.2.1 hv.2.2.2.2.2.2.1 ht ht2 hr;unfold kR;rw[h1,aem];simp only[af];have e100:((100:Int) !=0)=true:=rfl;by_cases h:r>0
 ·have e:(r !=0)=true:=by simp only[bne_iff_ne,ne_eq];omega
  have e2:decide (r>0)=true:=by simpa using h
  rw[e,e2];simp only[aj,af,e100];cases decide (ON v>i64.wrap (Int.tdiv 109951162777600 r))<;>exact⟨_,rfl⟩
 ·have e2:decide (r>0)=false:=by simpa using h
  rw[e2];exact⟨_,rfl⟩
theorem aoA(a0:List fH)(a1:List cu)(a2:List dV)(a8:List ax){a9:List aH}(hl:a9.length<=1000)(hn:1001<=n)(hv:∀v∈a9,okV v=true)(ht:a1.length<n)(ht2:a1.length<=9223372036854775807)(hr:∀t∈a1,t.rows.length<n/\t.rows.length<=9223372036854775807):∃r,∀(a3:List bX)(a4:List fZ)(a5:List eX)(a6:List bT)(a7:Int),jl n a0 a1 a2 a3 a4 a5 a6 a7 a8 a9=some (r,a0,a1,a2,a3,a4,a5,a6,a7,a8,a9):=by
 have key:=λ(a3:List bX)(a4:List fZ)(a5:List eX)(a6:List bT)(a7:Int)=>fE (l:=a9) (step:=jK n a9) (λ i (s:Int)=>(s,(i:Int),a0,a1,a2,a3,a4,a5,a6,a7,a8,a9)) (λ v s=>i64.wrap (s+(kR n (bB.mk a0 a1 a2 [] [] [] [] 0) v).getD 0)) (λ s=>(s,a0,a1,a2,a3,a4,a5,a6,a7,a8,a9)) (λ _ _=>True) (λ i hi s _=>⟨by
  obtain⟨r,h1⟩:=agA (n:=n) (bB.mk a0 a1 a2 [] [] [] [] 0) (hv _ (getElem_mem hi)) ht ht2 hr;have h2:kR n (bB.mk a0 a1 a2 a3 a4 a5 a6 a7) a9[i]=some r:=h1;simp only[jK,bO hi,aj,aT hi,aX hi,af,kz,h1,h2,aD,aM i,Option.getD_some],trivial⟩) (λ s _=>by simp only[jK,bW,ak,aD,aj]) n (by omega) 0 trivial
 have key:=λa3 a4 a5 a6 a7=>(show ((0:Nat):Int)=0 from rfl) ▸ key a3 a4 a5 a6 a7;unfold jl qh;simp only[key,af,aD,aj];exact⟨_,λ_ _ _ _ _=>rfl⟩
theorem alD{α β:Type}(l:List α)(f:α->β)(z:β){i:Nat}(hi:i<l.length):((l.take i).map f++List.replicate (l.length -i) z).set i (f l[i])=(l.take (i+1)).map f++List.replicate (l.length -(i+1)) z:=by
 have h1:((l.take i).map f).length=i:=by simp;omega
 rw[List.set_append_right _ _ (by omega),h1,Nat.sub_self,show l.length -i=(l.length -(i+1))+1 by omega,List.replicate_succ,List.set_cons_zero,gG hi,map_append,aK];rfl
theorem alE{α β:Type}(l:List α)(f:α->β)(z:β){i:Nat}(hi:i<=l.length):((l.take i).map f++List.replicate (l.length -i) z).length=l.length:=by simp;omega
theorem alF{α β:Type}(l:List α)(f:α->β)(z:β){i:Nat}(hi:i<l.length):((l.take (i+1)).map f++List.replicate (l.length -(i+1)) z)[i]? =some (f l[i]):=by rw[List.getElem?_append_left (by simp;omega)];simp[hi]
theorem alG{l:List aH}(hl:l.length<=1000)(hn:1001<=n):iter (gB l) n ((0:Int),List.replicate l.length (ax.mk 0 0 0 0),([]:List Int))=some (l.map iy,l.flatMap λv=>[v.bu,v.br]):=by
 refine sF (step:=gB l) (λ i=>((i:Int),(l.take i).map iy++List.replicate (l.length -i) (ax.mk 0 0 0 0),(l.take i).flatMap λv=>[v.bu,v.br])) l.length _ ?_ (λ i hi=>?_) ?_ n (by omega)
 ·simp
 ·have h1:=alE l iy (ax.mk 0 0 0 0) (Nat.le_of_lt hi);have h2:=alD l iy (ax.mk 0 0 0 0) hi;have h3:=alF l iy (ax.mk 0 0 0 0) hi;have h4:((l.take i).flatMap λv=>[v.bu,v.br]).length=2*i:=by
   have:∀m:List aH,(m.flatMap λv=>[v.bu,v.br]).length=2*m.length:=by
    intro m;induction m with
    |nil=>rfl
    |cons a m ih=>simp only[List.flatMap_cons,dM,ih,bI,length_nil];omega
   rw[this,length_take];omega
  generalize (l.take i).map iy++List.replicate (l.length -i) (ax.mk 0 0 0 0)=B at h1 h2;have e0:(((0:Nat):Int)+(i:Int)).toNat=i:=by omega
  have et:((l.length:Int):Int).toNat=l.length:=by omega
  have hb:ax.mk l[i].bu l[i].ca l[i].br l[i].b9=iy l[i]:=rfl;have hiB:i<B.length:=by omega
  rw[<- h2]at h3;have g3:bp (B.set i (iy l[i])) (((0:Nat):Int)+(i:Int))=some (iy l[i]):=by rw[D9];exact h3
  have hs:sub ([(iy l[i]).x0,(iy l[i]).x1]:List Int) 0 2=[(iy l[i]).x0,(iy l[i]).x1]:=rfl;have hap:bP (2*i) (2*i) 2 2 8=true:=dm (by omega) (by simp only[maxLen];omega);have hl2:([(iy l[i]).x0,(iy l[i]).x1]:List Int).length=2:=rfl;simp only[gB,bO hi,aj,aT hi,aX hi,af,et,aX hiB,e0,hb,g3,hs,hl2,h4,hap,dQ,aD,aM i];rw[<- h2,gG hi,List.flatMap_append];rfl
 ·simp only[gB,bW,ak,aD,aj,List.take_length];simp
theorem alH{l:List aH}{R:List ax}{X:List Int}(w2:List Int)(hR:R.length=l.length)(hX:X.length=w2.length)(hl:l.length<=1000)(hn:1001<=n){k:Nat}(hk:k+1<w2.length)(hw:w2.length<=10000)(s:Int):∃o,iter (iU l w2 R X (k:Int)) n (s,(0:Int),(0:Int))=some o/\True:=by
 refine Oc (λ i (v:Int×Int×Int)=>v.2.2=(i:Int)) l.length (λ _=>True) (λ i v hi hv=>?_) (λ v hv=>?_) n (by omega) _ rfl
 ·obtain⟨a,b,c⟩:=v;simp only at hv;subst hv;have et:(((l.length:Int):Int).toNat)=l.length:=by omega
  have ew:i64.wrap ((k:Int)+1)=((k+1:Nat):Int):=bK (by omega);simp only[iU,et,bO hi,aj,aT hi,aX (show i<R.length by omega),af,aT (show k<w2.length by omega),aX (show k<X.length by omega),ew,aT hk,aX (show k+1<X.length by omega),aM i];cases decide ((R[i]'(by omega)).x0<=X[k]'(by omega))with
  |false=>exact⟨_,rfl,rfl⟩
  |true=>
   simp only[aj,af];cases decide (X[k]'(by omega)<(R[i]'(by omega)).x1)with
   |false=>exact⟨_,rfl,rfl⟩
   |true=>
    simp only[aj,af];cases decide ((R[i]'(by omega)).y1>b)<;>exact⟨_,rfl,rfl⟩
 ·obtain⟨a,b,c⟩:=v;simp only at hv;subst hv;have et:(((l.length:Int):Int).toNat)=l.length:=by omega
  simp only[iU,et,bW,ak];exact⟨_,rfl,trivial⟩
theorem alI(a0:List fH)(a1:List cu)(a2:List dV)(a8:List ax){a9:List aH}(hl:a9.length<=1000)(hn:10000<=n):∃r,∀(a3:List bX)(a4:List fZ)(a5:List eX)(a6:List bT)(a7:Int),iM n a0 a1 a2 a3 a4 a5 a6 a7 a8 a9=some (r,a0,a1,a2,a3,a4,a5,a6,a7,a8,a9):=by
 have et:(((a9.length:Int):Int).toNat)=a9.length:=by omega
 have mk:zC (a9.length:Int) 32=true:=ah8 (by omega) (by simp only[maxLen];omega);have d1:decide ((a9.length:Int)<=(a9.length:Int))=true:=by simp
 have d2:decide (0<=(a9.length:Int))=true:=by simp
 have hz:az 0 ([]:List Int).length=true:=rfl;have hx:(a9.flatMap λv=>[v.bu,v.br]).length<=2000:=by
  have:∀m:List aH,(m.flatMap λv=>[v.bu,v.br]).length=2*m.length:=by
   intro m;induction m with
   |nil=>rfl
   |cons a m ih=>simp only[List.flatMap_cons,dM,ih,bI,length_nil];omega
  rw[this];omega
 unfold iM;rw[et,alG hl (by omega)];generalize (a9.flatMap λv=>[v.bu,v.br])=W at hx;have srt:=JV (n:=n) (l:=a9.map iy) (φ:=λy1=>iL y1.1 y1.2.1) (λ x y=>if x.y0<y.y0 then -1 else if y.y0<x.y0 then 1 else 0) (λ x y=>by
  show iL x y=_;unfold iL;rw[kD];rfl) (λ x y=>by
  unfold wx;rw[decide_eq_decide];constructor
  ·intro h;split at h
   ·assumption
   ·split at h<;>omega
  ·intro h;rw[aY h];decide) (by simp;omega) (by simp;omega)
 have hm:az a9.length (a9.map iy).length=true:=by simp
 have hR:(lg wx (a9.map iy)).length=a9.length:=by rw[xD aia];simp
 have hX:(kg oc W).length=W.length:=(Ed oc W).length_eq;simp only[d1,d2,mk,Bool.and_self,aj,hz,af,hm,srt,aD,oW (show W.length<1099511627776 by omega) (show W.length<n by omega)];generalize lg wx (a9.map iy)=R at hR;generalize kg oc W=X at hX;have key:∃o,iter (iV n a9 W R X) n ((0:Int),(0:Int))=some o/\True:=by
  have eN:max (0:Int) (i64.wrap ((W.length:Int) -1))=((W.length -1:Nat):Int):=by
   cases h:W.length with
   |zero=>rfl
   |succ k=>rw[mK (by omega) (by omega)];omega
  refine Oc (λ i (v:Int×Int)=>v.2=(i:Int)) (W.length -1) (λ _=>True) (λ i v hi hv=>?_) (λ v hv=>?_) n (by omega) _ rfl
  ·obtain⟨a,b⟩:=v;simp only at hv;subst hv;obtain⟨o,ho,_⟩:=alH (n:=n) (l:=a9) (R:=R) (X:=X) W hR hX hl (by omega) (k:=i) (by omega) (by omega) a;simp only[iV,eN,bO hi,aj,ho,af,aM i];exact⟨_,rfl,rfl⟩
  ·obtain⟨a,b⟩:=v;simp only at hv;subst hv;simp only[iV,eN,bW,ak];exact⟨_,rfl,trivial⟩
 obtain⟨o,ho,_⟩:=key;rw[ho];exact⟨o,λ_ _ _ _ _=>rfl⟩
def Jn(b:ax)(k:Int):ax:=⟨b.x0 -k,b.y0 -k,b.x1+k,b.y1+k⟩
def ER(area:List ax)(b:ax)(k:Int):Bool:=ek (Jn b k)&&decide (area.foldl (λ s y=>Xb (Jn b k) s y) 0=JT (Jn b k))
theorem ajt(b:ax)(k:Int)(a2:List fH)(a3:List cu)(a4:List dV)(a5:List bX)(a6:List fZ)(a7:List eX)(a8:List bT)(a9:Int){jz:List ax}(ta:List aH)(hb:ek b=true)(h0:0<=k)(h1:k<=1048576)(hl:jz.length<=1000)(hn:1001<=n):
 jJ n b k a2 a3 a4 a5 a6 a7 a8 a9 jz ta=some (ER jz b k,a2,a3,a4,a5,a6,a7,a8,a9,jz,ta):=by
 rw[anh]at hb;unfold jJ A8 ER;rw[dU (x:=b.x0 -k),dU (x:=b.y0 -k),dU (x:=b.x1+k),dU (x:=b.y1+k),show ax.mk (b.x0 -k) (b.y0 -k) (b.x1+k) (b.y1+k)=Jn b k from rfl,iT];generalize Jn b k=g;simp only[af];cases hg:ek g with
 |false=>simp only[Bool.not_false,aj,aD,Bool.false_and]
 |true=>
  have key:=og (l:=jz) (step:=iF jz (g,true)) (λ i (s:Int)=>(s,(i:Int))) (λ y s=>Xb g s y) (λ s=>s) (λ i hi s=>by
   simp only[iF,bO hi,aj,bq hi,af,yX,aM i,Xb];cases h1:ek g with
   |false=>rfl
   |true=>
    cases h2:ek jz[i]with
    |false=>rfl
    |true=>
     cases h3:ek (Fu g jz[i])with
     |false=>rfl
     |true=>simp only[Bool.and_self,aj,CV h3,af]) (λ s=>by simp only[iF,bW,ak]) n (by omega) 0
  rw[show ((0:Nat):Int)=0 from rfl]at key;simp only[Bool.not_true,ak,key,af,CV hg,aD,aj,Bool.true_and];congr 2
def Qm(p:Int->Bool):Nat->Int->Int->Int
 | 0,lo,_=>lo
 |k+1,lo,hi=>bif decide (lo<hi)then(bif p ((lo+hi+1)/2)then Qm p k ((lo+hi+1)/2) hi else Qm p k lo ((lo+hi+1)/2 -1))else lo
theorem abP(p:Int->Bool):∀k lo hi,lo<=hi->lo<=Qm p k lo hi/\Qm p k lo hi<=hi
 | 0,lo,hi,h=>by simp only[Qm];omega
 |k+1,lo,hi,h=>by
  simp only[Qm];by_cases h1:lo<hi
  ·have e:decide (lo<hi)=true:=(by simpa using h1);rw[e,aj];cases p ((lo+hi+1)/2)with
   |true=>have:=abP p k ((lo+hi+1)/2) hi (by omega);simp only[aj];omega
   |false=>have:=abP p k lo ((lo+hi+1)/2 -1) (by omega);simp only[ak];omega
  ·have e:decide (lo<hi)=false:=(by simpa using h1);rw[e,ak];omega
theorem agB{v:aH}(hv:ek (iy v)=true)(a2:List fH)(a3:List cu)(a4:List dV)(a5:List bX)(a6:List fZ)(a7:List eX)(a8:List bT)(a9:Int){jz:List ax}(ta:List aH)(hl:jz.length<=1000)(hn:1001<=n):
 ∀(k:Nat) lo hi m,0<=lo->lo<=hi->hi<=1048576->hi -lo<2 ^ k->k<m->iter (eY n v) m (lo,hi,a2,a3,a4,a5,a6,a7,a8,a9,jz,ta)=some (Qm (ER jz (iy v)) k lo hi,a2,a3,a4,a5,a6,a7,a8,a9,jz,ta):=by
 intro k
 induction k with
 |zero=>
  intro lo hi m h0 h1 h2 h3 hm;obtain⟨q,rfl⟩:∃q,m=q+1:=⟨m -1,by omega⟩;have:lo=hi:=by simp at h3;omega
  subst this;refine fG ?_;have e:decide (lo<lo)=false:=by simp
  simp only[eY,e,ak,aD,aj,Qm]
 |succ k ih=>
  intro lo hi m h0 h1 h2 h3 hm;obtain⟨q,rfl⟩:∃q,m=q+1:=⟨m -1,by omega⟩;have hp:(2:Int) ^ (k+1)=2*2 ^ k:=by rw[Int.pow_succ];omega
  rw[hp]at h3;by_cases hlt:lo<hi
  ·have e:decide (lo<hi)=true:=(by simpa using hlt);have e2:((2:Nat) !=0)=true:=rfl;have em:i64.wrap (Int.tdiv (i64.wrap (i64.wrap (lo+hi)+1)) 2)=(lo+hi+1)/2:=(by rw[dU (x:=lo+hi),dU (x:=lo+hi+1),Int.tdiv_eq_ediv_of_nonneg (by omega),dU (by omega) (by omega)]);have hi2:=ajt (n:=n) (iy v) ((lo+hi+1)/2) a2 a3 a4 a5 a6 a7 a8 a9 (jz:=jz) ta hv (by omega) (by omega) hl hn;unfold iy at hi2;cases hc:ER jz (iy v) ((lo+hi+1)/2)with
   |true=>
    rw[iK (v':=((lo+hi+1)/2,hi,a2,a3,a4,a5,a6,a7,a8,a9,jz,ta)) (by
     unfold iy at hc;simp only[eY,e,aj,e2,aD,em,hi2,af,hc]),ih _ _ _ (by omega) (by omega) (by omega) (by omega) (by omega)]
    simp only[Qm,e,aj,hc]
   |false=>
    rw[iK (v':=(lo,(lo+hi+1)/2 -1,a2,a3,a4,a5,a6,a7,a8,a9,jz,ta)) (by
     unfold iy at hc;simp only[eY,e,aj,e2,aD,em,hi2,af,hc,ak,dU (x:=(lo+hi+1)/2 -1)]),ih _ _ _ (by omega) (by omega) (by omega) (by omega) (by omega)]
    simp only[Qm,e,aj,hc,ak]
  ·have e:decide (lo<hi)=false:=(by simpa using hlt);refine fG ?_;simp only[eY,e,ak,aD,aj,Qm]
def uq(area:List ax)(l:List aH):Int:=l.foldl (λ b v=>Qm (ER area (iy v)) 21 0 b) 1048576
theorem agC(a0:List fH)(a1:List cu)(a2:List dV)(a3:List bX)(a4:List fZ)(a5:List eX)(a6:List bT)(a7:Int){a8:List ax}{a9:List aH}(hv:∀v∈a9,okV v=true)(hl:a9.length<=1000)(h8:a8.length<=1000)(hn:1001<=n):jk n a0 a1 a2 a3 a4 a5 a6 a7 a8 a9=some (uq a8 a9,a0,a1,a2,a3,a4,a5,a6,a7,a8,a9):=by
 have key:=fE (l:=a9) (step:=iq n a9) (λ i (s:Int)=>(s,(i:Int),a0,a1,a2,a3,a4,a5,a6,a7,a8,a9)) (λ v s=>Qm (ER a8 (iy v)) 21 0 s) (λ s=>(s,a0,a1,a2,a3,a4,a5,a6,a7,a8,a9)) (λ _ s=>0<=s/\s<=1048576) (λ i hi s hs=>by
  have h1:=agB (n:=n) (Xi (hv _ (getElem_mem hi))) a0 a1 a2 a3 a4 a5 a6 a7 (jz:=a8) a9 h8 hn 21 0 s n (by omega) hs.1 hs.2 (by have:(2:Int) ^ 21=2097152:=rfl;omega) (by omega);have h2:=abP (ER a8 (iy a9[i])) 21 0 s hs.1;refine⟨?_,by omega,by omega⟩;simp only[iq,bO hi,aj,aT hi,aX hi,af,aD,h1,aM i]) (λ s _=>by simp only[iq,bW,ak,aD,aj]) n (by omega) 1048576 (by omega)
 rw[show ((0:Nat):Int)=0 from rfl]at key;unfold jk;simp only[aD,aj,key,af];rfl
def fI(d:bn):List aH:=((kJ d).take 40).filter okV
theorem abQ(d:bn):∀v∈fI d,okV v=true:=λv hv=>(List.mem_filter.1 hv).2
theorem YT(d:bn):(fI d).length<=40:=Nat.le_trans (length_filter_le _ _) (by rw[length_take];omega)
def mX(lot:bS):List ax:=bif cR lot.area then lot.area else []
theorem ao6{l:List aH}(a0:List fH)(a1:List cu)(a2:List dV)(a3:List bX)(a4:List fZ)(a5:List eX)(a6:List bT)(a7:Int)(a8:List ax)(hl:l.length<=9223372036854775807)(hn:l.length<n):
 iter (qy l) n ((0:Int),a0,a1,a2,a3,a4,a5,a6,a7,a8,([]:List aH))=some (a0,a1,a2,a3,a4,a5,a6,a7,a8,(l.take 40).filter okV):=by
 refine sF (step:=qy l) (λ i=>((i:Int),a0,a1,a2,a3,a4,a5,a6,a7,a8,((l.take i).take 40).filter okV)) l.length _ (by simp) (λ i hi=>?_) ?_ n hn
 ·have hlen:(((l.take i).take 40).filter okV).length<=40:=Nat.le_trans (length_filter_le _ _) (by rw[length_take];omega);have e40:decide ((i:Int)<40)=decide (i<40):=by rw[decide_eq_decide];omega
  have hs:sub ([l[i]]:List aH) 0 1=[l[i]]:=rfl;have hN:((l.take (i+1)).take 40).filter okV=((l.take i).take 40).filter okV++(bif decide (i<40)&&okV l[i]then [l[i]]else []):=by
   by_cases h:i<40
   ·have h1:(l.take i).take 40=l.take i:=take_of_length_le (by rw[length_take];omega);have h2:(l.take (i+1)).take 40=l.take (i+1):=take_of_length_le (by rw[length_take];omega);have h3:decide (i<40)=true:=(by simpa using h);rw[h1,h2,gG hi,List.filter_append,h3];cases h4:okV l[i]<;>simp[h4]
   ·have h3:decide (i<40)=false:=(by simpa using h);rw[List.take_take,List.take_take,h3,show min 40 (i+1)=40 by omega,show min 40 i=40 by omega];simp
  rw[hN];generalize ((l.take i).take 40).filter okV=L at hlen;have hap:bP L.length L.length 1 1 72=true:=dm (by omega) (by simp only[maxLen];omega);simp only[qy,bO hi,aj,aT hi,aX hi,af,e40,uo,aM i];cases decide (i<40)with
  |false=>simp only[ak,af,aD,aj,Bool.false_and,append_nil]
  |true=>
   simp only[aj,af,Bool.true_and];cases okV l[i]with
   |false=>simp only[ak,aD,aj,af,append_nil]
   |true=>simp only[aj,hs,length_singleton,hap,dQ,aD,af]
 ·simp only[qy,bW,ak,aD,aj,List.take_length]
def alJ(n:Nat)(p:bB):Prop:=p.tables.length<n/\p.tables.length<=9223372036854775807/\∀t∈p.tables,t.rows.length<n/\t.rows.length<=9223372036854775807
def CW:ByteArray:=⟨#[115,101,116,98,97,99,107]⟩
theorem aoB{p:bB}{lot:bS}{d:bn}(hp:alJ n p)(hl:lot.area.length<=900)(hd:Xj d)(hn:2000000<=n):∃e1 e2 e3 e4 e5 e6 e7 e8:Int,∀(R:List bX)(C:List fZ)(V:List eX)(S:List bT)(H:Int),kC n (bB.mk p.defs p.tables p.zones R C V S H) lot d=some [⟨⟨#[97,114,101,97]⟩,e1⟩,⟨⟨#[99,111,118,101,114]⟩,e2⟩,⟨⟨#[102,108,111,111,114]⟩,e3⟩,⟨⟨#[102,108,111,111,114,115]⟩,e4⟩,⟨⟨#[104,101,105,103,104,116]⟩,e5⟩,⟨⟨#[104,111,109,101,115]⟩,e6⟩,⟨⟨#[114,117,110,111,102,102]⟩,e7⟩,⟨CW,uq (mX lot) (fI d)⟩,⟨⟨#[116,114,97,102,102,105,99]⟩,e8⟩]:=by
 have hs1:mX lot=(bif cR lot.area then lot.area else []):=rfl;have hsl:(mX lot).length<=900:=by unfold mX;cases cR lot.area<;>simp[hl]
 have hvl:=YT d;have hvo:=abQ d;have hfl:=dC hd.2;have hd1:=hd.1;obtain⟨hp1,hp2,hp3⟩:=hp;have hz:az 0 ([]:List aH).length=true:=rfl;have Hp:∀(R:List bX)(C:List fZ)(V:List eX)(S:List bT)(H:Int),((bif cR lot.area then some (p.defs,p.tables,p.zones,R,C,V,S,H,lot.area)else some (p.defs,p.tables,p.zones,R,C,V,S,H,([]:(List ax)))):Option ((List fH)×(List cu)×(List dV)×(List bX)×(List fZ)×(List eX)×(List bT)×Int×(List ax)))=some (p.defs,p.tables,p.zones,R,C,V,S,H,mX lot):=by intro R C V S H;rw[hs1];cases cR lot.area<;>rfl
 obtain⟨e2,h2⟩:=alI (n:=n) p.defs p.tables p.zones (mX lot) (a9:=fI d) (by omega) (by omega);obtain⟨e3,h3⟩:=aox (n:=n) p.defs p.tables p.zones (mX lot) (a9:=fI d) (by omega) (by omega);obtain⟨e4,h4⟩:=alB (n:=n) p.defs p.tables p.zones (mX lot) (a9:=fI d) (by omega) (by omega);obtain⟨e5,h5⟩:=alC (n:=n) p.defs p.tables p.zones (mX lot) (a9:=fI d) (by omega) (by omega);obtain⟨e6,h6⟩:=aoy (n:=n) p.defs p.tables p.zones (mX lot) (a9:=fI d) (by omega) (by omega);have h8:=λ(R:List bX)(C:List fZ)(V:List eX)(S:List bT)(H:Int)=>agC (n:=n) p.defs p.tables p.zones R C V S H (a8:=mX lot) (a9:=fI d) hvo (by omega) (by omega) (by omega);obtain⟨e9,h9⟩:=aoA (n:=n) p.defs p.tables p.zones (mX lot) (a9:=fI d) (by omega) (by omega) hvo hp1 hp2 hp3;refine⟨bif cR (mX lot)then K7 (mX lot)else 0,e2,e3,e4,e5,e6,e2,e9,λR C V S H=>?_⟩;unfold kC;rw[lT (by omega) (by omega) (by omega),Xk hd (by omega)];simp only[af,Hp,hz,aj];rw[ao6 (n:=n) p.defs p.tables p.zones R C V S H (mX lot) (by show(kJ d).length<=_;unfold kJ;omega) (by show(kJ d).length<_;unfold kJ;omega)];have hr:((kJ d).take 40).filter okV=fI d:=rfl;have s1:∀e:bR,sub ([e]:List bR) 0 1=[e]:=λ_=>rfl;have ap:∀k,k<=20->bP k k 1 1 24=true:=λk hk=>dm (by omega) (by simp only[maxLen];omega);have lot:mF n p.defs p.tables p.zones R C V S H (mX lot) (fI d)=some (bif cR (mX lot)then K7 (mX lot)else 0,p.defs,p.tables,p.zones,R,C,V,S,H,mX lot,fI d):=by
  unfold mF;rw[K8 (by omega) (by omega)];simp only[af,aD,aj]
 simp only[hr,af,aD,aj,lot,s1,length_singleton,ap 0 (by omega),dQ,h2,ap 1 (by omega),dM,ap 2 (by omega),h3,ap 3 (by omega),h4,ap 4 (by omega),h5,ap 5 (by omega),h6,ap 6 (by omega),h8,ap 7 (by omega),h9,ap 8 (by omega),Nat.reduceAdd,Nat.zero_add,cZ];rfl
theorem anX{p:bB}{lot:bS}{d:bn}(hp:alJ n p)(hl:lot.area.length<=900)(hd:Xj d)(hn:2000000<=n):∃e1 e2 e3 e4 e5 e6 e7 e8:Int,∀R:List bX,kC n (bB.mk p.defs p.tables p.zones R p.caps p.views p.sm p.hours) lot d=some [⟨⟨#[97,114,101,97]⟩,e1⟩,⟨⟨#[99,111,118,101,114]⟩,e2⟩,⟨⟨#[102,108,111,111,114]⟩,e3⟩,⟨⟨#[102,108,111,111,114,115]⟩,e4⟩,⟨⟨#[104,101,105,103,104,116]⟩,e5⟩,⟨⟨#[104,111,109,101,115]⟩,e6⟩,⟨⟨#[114,117,110,111,102,102]⟩,e7⟩,⟨CW,uq (mX lot) (fI d)⟩,⟨⟨#[116,114,97,102,102,105,99]⟩,e8⟩]:=by
 have⟨e1,e2,e3,e4,e5,e6,e7,e8,h⟩:=aoB (n:=n) hp hl hd hn;exact⟨e1,e2,e3,e4,e5,e6,e7,e8,λR=>h R _ _ _ _⟩
theorem aid(ds:List (ByteArray×ET))(s:List UInt8):∀(k:Nat)(i:Int),Nc ds s k=some i->0<=i/\i<(k:Int)
 | 0,i,h=>by simp[Nc]at h
 |k+1,i,h=>by
  simp only[Nc]at h;split at h
  ·cases h;omega
  ·have:=aid ds s k i h;omega
theorem ani{ds:List (ByteArray×ET)}(h:rh ds<=4000000):YN (oC ds) ds.length:=by
 have hl:=Us ds;refine⟨by simp[oC],by omega,λl hl=>?_⟩;simp only[oC,mem_map]at hl;obtain⟨d,hd,rfl⟩:=hl;have h1:=Ut hd;have h2:=ET.oT d.2;have h3:=adN d.2.names;refine⟨Nat.le_trans (List.length_filterMap_le _ _) (by omega),λk hk=>?_⟩;simp only[ig,List.mem_filterMap]at hk;obtain⟨s,_,hk⟩:=hk;exact aid ds s _ k hk
theorem aeo{M:List ByteArray}(hM:M.length<=1000)(hn:1001<=n)(w0:List (ByteArray×Bool)):∃w,iter (nT M) n ((0:Int),w0)=some w:=by
 obtain⟨o,h,_⟩:=dI (step:=nT M) (λ i (v:Int×List (ByteArray×Bool))=>∃w,v=((i:Int),w)/\i<=M.length) (λ _=>True) M.length (λ k v ⟨_,_,h⟩=>h) (by
  rintro i v ⟨w,rfl,hi⟩;by_cases hlt:i<M.length
  ·simp only[nT,show decide ((i:Int)<(M.length:Int))=true from by simp;omega,aj,aT hlt,aX hlt,af,aM i];exact .inl ⟨_,rfl,_,rfl,hlt⟩
  ·simp only[nT,show decide ((i:Int)<(M.length:Int))=false from by simp;omega,ak];exact .inr ⟨_,rfl,trivial⟩) n 0 ((0:Int),w0) ⟨_,rfl,Nat.zero_le _⟩ (by omega)
 exact⟨o,h⟩
theorem aep{p:bB}(hp:p.defs.length<=4000000)(hn:4000001<=n)(w0:List (ByteArray×Bool)):iter (kT p) n ((0:Int),w0)=some (.inl ())\/iter (kT p) n ((0:Int),w0)=some (.inr ([],[],5)):=by
 obtain⟨o,h,h2⟩:=dI (step:=kT p) (λ i (v:Int×List (ByteArray×Bool))=>∃w,v=((i:Int),w)/\i<=p.defs.length) (λ o=>o= .inl ()\/o= .inr ([],[],5)) p.defs.length (λ k v ⟨_,_,h⟩=>h) (by
  rintro i v ⟨w,rfl,hi⟩;by_cases hlt:i<p.defs.length
  ·simp only[kT,show decide ((i:Int)<(p.defs.length:Int))=true from by simp;omega,aj,bq hlt,af,aM i];cases (fP Gb.lj p.defs[i].name w).getD false with
   |true=>exact .inr ⟨_,rfl,.inr rfl⟩
   |false=>exact .inl ⟨_,rfl,_,rfl,hlt⟩
  ·simp only[kT,show decide ((i:Int)<(p.defs.length:Int))=false from by simp;omega,ak];exact .inr ⟨_,rfl,.inl rfl⟩) n 0 ((0:Int),w0) ⟨_,rfl,Nat.zero_le _⟩ (by omega)
 rcases h2 with rfl |rfl
 ·exact .inl h
 ·exact .inr h
theorem aer:∃M,wU=some M/\M.length=9:=⟨_,rfl,rfl⟩
def ii(l:List fH):Prop:=rh (l.map toD)<=4000000
theorem ii.len{l:List fH}(h:ii l):l.length<=4000000:=by
 have:=Us (l.map toD);rw[length_map]at this;unfold ii at h;omega
theorem ii.body{l:List fH}(h:ii l){d:fH}(hd:d∈l):(toE (bZ.mk d.io d.lw d.kq d.ia d.eo)).wt<=4000000:=by
 have h1:=Ut (mem_map.2 ⟨d,hd,rfl⟩:toD d∈l.map toD);unfold ii at h;simp only[toD,ET.wt]at h1;simp only[toE,ET.wt];omega
theorem Sz{p:bB}(hp:ii p.defs)(hn:5000003<=n):∃r,nJ n p=some r/\r.1.length<=p.defs.length/\∀k∈r.1,0<=k/\k<(p.defs.length:Int):=by
 obtain⟨M,hM,hM9⟩:=aer;obtain⟨w,hw⟩:=aeo (n:=n) (M:=M) (by omega) (by omega) [];have hg:YN (oC (p.defs.map toD)) p.defs.length:=by have:=ani hp;rwa [length_map]at this
 have HA:kS p.defs=some (p.defs,oC (p.defs.map toD)):=by
  unfold kS;rw[Nat.ble_eq_true_of_le hp];rfl
 simp only[nJ,hM,af,hw];rcases aep (n:=n) (p:=p) hp.len (by omega) w with h |h
 ·have⟨c,hc,hc2⟩:=ad1 (n:=n) (a0:=p.defs) hg rfl hn;simp only[h,eD,HA,af,hc];cases h0:(c.length==0)with
  |true=>
   have e:c=[]:=List.eq_nil_of_length_eq_zero (by simpa using h0);obtain⟨l,hl,hll,hlr⟩:=aln (n:=n) (a0:=oN.mk p.defs (oC (p.defs.map toD))) hg rfl (hc2 e) (by omega);simp only[aj,af,ak,hl,cZ,aD];exact⟨_,rfl,by simp[hll],hlr⟩
  |false=>
   simp only[aj,af,ak,cZ,aD];exact⟨_,rfl,by simp,by simp⟩
 ·simp only[h,iA];exact⟨_,rfl,by simp,by simp⟩
theorem yY(x:bZ):bZ.mk x.op x.n x.s x.key x.args=x:=by cases x;rfl
theorem Og:∀l:List bZ,Ia l=l.map toE
 |[]=>rfl
 |x::xs=>by simp only[Ia,aF,Og xs]
theorem aie:∀{l:List ET}{t:ET},t∈l->t.wt<=ET.te l
 |x::l,t,h=>by
  simp only[ET.te];rcases aN.1 h with rfl |h
  ·omega
  ·have:=aie h;omega
theorem Xs{e x:bZ}(h:x∈e.args):(toE x).wt<(toE e).wt:=by
 have h1:(toE x).wt<=ET.te (Ia e.args):=aie (by rw[Og];exact mem_map.2 ⟨x,h,rfl⟩);cases e;simp only[toE,ET.wt]at *;omega
theorem abR(e:bZ):e.args.length<(toE e).wt:=by
 have h1:=ET.qv (Ia e.args);rw[Og,length_map]at h1;cases e;simp only[toE,ET.wt,Og]at *;omega
def VR:Nat->bZ->Prop
 | 0,_=>False
 |k+1,e=>yQ e.op=some ((e.args.length:Int),true)/\∀x∈e.args,VR k x
theorem agE(op:Int):∃a b,yQ op=some (a,b):=by
 simp only[yQ];cases (op==0)<;>cases (op==1)<;>cases (op==2)<;>cases (op==3)<;>cases (op==9)<;>cases (op==15)<;>cases (op==16)<;>cases (decide (op>=0))<;>exact⟨_,_,rfl⟩
theorem aav(hn:4000002<=n):∀(m:Nat)(e:bZ)(a:Int),m<=9223372036854775000->0<=a->a<=12->13<=a+m->(toE e).wt<=4000000->∃r,rZ n m e a=some r/\1<=r/\r<=13+m/\(r<=12->VR m e)
 | 0,_,_,_,_,_,h,_=>absurd h (by omega)
 |m+1,e,a,hm,h0,h1,h2,h3=>by
  have⟨x,b,hx⟩:=agE e.op;have hla:=abR e;show ∃r,Af n (rZ n m) e a=some r/\_;simp only[Af,hx,af];have bad:∃r,some (13:Int)=some r/\1<=r/\r<=13+((m+1:Nat):Int)/\(r<=12->VR (m+1) e):=⟨13,rfl,by omega,by omega,λh=>absurd h (by omega)⟩;cases b with
  |false=>simpa only[Bool.not_false,aj,af]using bad
  |true=>
   simp only[Bool.not_true,ak];by_cases hxl:x=(e.args.length:Int)
   ·subst hxl;simp only[show ((e.args.length:Int) !=(e.args.length:Int))=false from by simp,ak,af];by_cases ha:a>=12
    ·simpa only[ha,decide_true,aj]using bad
    ·simp only[ha,decide_false,ak]
     obtain⟨o,g1,g2,g3,g4⟩:=dI (step:=xN n (rZ n m) e a) (λ i (v:Int×Int)=>v.2=(i:Int)/\i<=e.args.length/\0<=v.1/\v.1<=13+m/\(v.1<=11->∀y∈e.args.take i,VR m y))
      (λ o=>0<=o/\o<=13+m/\(o<=11->∀y∈e.args,VR m y)) e.args.length (λ k v h=>h.2.1) (by
      rintro i ⟨v2,v3⟩ ⟨hv,hi,i1,i2,i3⟩;simp only at hv i1 i2 i3;subst hv;by_cases hlt:i<e.args.length
      ·left;have hwx:=Xs (getElem_mem hlt);obtain⟨r,r1,r2,r3,r4⟩:=aav hn m e.args[i] (a+1) (by omega) (by omega) (by omega) (by omega) (by omega);refine⟨(max v2 r,((i+1:Nat):Int)),?_,rfl,hlt,by show 0<=max v2 r;omega,by show max v2 r<=_;omega,λh y hy=>?_⟩
       ·simp only[xN,show decide ((i:Int)<(e.args.length:Int))=true from by simp;omega,aj,bq hlt,af,yY,dU (show -9223372036854775808<=a+1 by omega) (show a+1<=9223372036854775807 by omega),r1,aM i]
       ·have h':max v2 r<=11:=h;rw[List.take_add_one,dL hlt]at hy;rw[bf]at hy;rcases hy with hy |hy
        ·exact i3 (by omega) y hy
        ·simp at hy;subst hy;exact r4 (by omega)
      ·right;refine⟨v2,?_,i1,i2,λh y hy=>i3 h y (by rw[take_of_length_le (by omega)];exact hy)⟩;simp only[xN,show decide ((i:Int)<(e.args.length:Int))=false from by simp;omega,ak]) n 0 ((0:Int),(0:Int)) ⟨rfl,Nat.zero_le _,by simp,by show(0:Int)<=_;omega,by simp⟩ (by omega)
     simp only[g1,af];rw[dU (by omega) (by omega)];exact⟨o+1,rfl,by omega,by omega,λh=>⟨hx,g4 (by omega)⟩⟩
   ·simpa only[show (x !=(e.args.length:Int))=true from by simpa using hxl,aj,af]using bad
theorem RP(hn:4000002<=n)(hn2:n<=9223372036854775000){e:bZ}(h:(toE e).wt<=4000000):∃b,H9 n e=some b/\(b=true->VR n e):=by
 obtain⟨r,h1,h2,h3,h4⟩:=aav hn n e 0 hn2 (by omega) (by omega) (by omega) h;refine⟨decide (r<=12),?_,λh=>h4 (by simpa using h)⟩;simp only[H9,yY,P8,h1,af]
def ao7(tables:List cu)(s key:ByteArray):Int:=match tables.find? λt=>ByteArray.toList t.name==ByteArray.toList s with
 |some t=>ao3 t key
 |none=>0
def MT(ts:List cu):Prop:=ts.length<=4000000/\∀t∈ts,t.rows.length<=4000000
theorem aju(hn:4000002<=n){a0:List fH}{ts:List cu}{a2:List dV}{a3:List bX}{a4:List fZ}{a5:List eX}{a6:List bT}{a7:Int}{zs:List ByteArray}(ht:MT ts)(e:bZ)(kn:List (ByteArray×Int)):jm n a0 ts a2 a3 a4 a5 a6 a7 zs e kn=some (ao7 ts e.s e.key,kn):=by
 have h1:=ht.1;simp only[jm,yY];rw[FH (λ t=>ByteArray.toList t.name==ByteArray.toList e.s) (λ x _=>rfl) (by omega) (by omega)];simp only[af,ao7];rcases Xa (λ t:cu=>ByteArray.toList t.name==ByteArray.toList e.s) ts with ⟨i,hi,h1,h2⟩ |⟨h1,h2⟩
 ·rw[h1,h2];have d:decide ((i:Int)<0)=false:=by simp
  have hr:=ht.2 _ (getElem_mem hi);simp only[d,ak,bq hi,af];rw[FI (λ x=>ByteArray.toList x.name==ByteArray.toList e.key) (λ x _=>rfl) (by omega) (by omega)];simp only[af,ao3];rcases Xa (λ x:bR=>ByteArray.toList x.name==ByteArray.toList e.key) ts[i].rows with ⟨j,hj,g1,g2⟩ |⟨g1,g2⟩
  ·rw[g1,g2];have d:decide ((j:Int)>=0)=true:=(by simp);simp only[d,aj,bq hj,af]
  ·rw[g1,g2];rfl
 ·rw[h1,h2];rfl
theorem cO{α:Type}{c:Bool}{x y:Option α}(hx:∃r,x=some r)(hy:∃r,y=some r):∃r,(bif c then x else y)=some r:=by cases c<;>assumption
theorem YU(a b:Int):∃r,wI a b=some r:=by
 simp only[wI];cases h:(b==0)with
 |true=>exact⟨_,rfl⟩
 |false=>
  have:(b !=0)=true:=by simp[bne,h]
  simp only[this,aj,ak];cases (Int.tmod a b !=0)<;>cases (decide (Int.tmod a b<0)==decide (b<0))<;>exact⟨_,rfl⟩
theorem Xm(b:Bool):∃r,yR b=some r:=cO ⟨_,rfl⟩ ⟨_,rfl⟩
theorem sG{α β:Type}{x:Option α}{f:α->Option β}(hx:∃r,x=some r)(hf:∀r,∃s,f r=some s):∃s,x.bind f=some s:=by obtain⟨r,rfl⟩:=hx;exact hf r
theorem aes(op a b:Int):∃r,Jz op a b=some r:=by
 have q:=YU a b;have t:=λc=>Xm c;unfold Jz
 repeat' first
  |exact⟨_,rfl⟩
  |exact q
  |exact t _
  |apply cO
  |(refine sG ?_ λr=>?_)
theorem IB(h:0<n):cz 0 n=true:=by simp[cz];omega
theorem aeu(h:1<n):cz 1 n=true:=by simp[cz];omega
theorem alK(h:2<n):cz 2 n=true:=by simp[cz];omega
theorem Oh{α:Type}{l:List α}(h:0<l.length):bp l (((0:Nat):Int)+0)=some l[0]:=aX (i:=0) h
theorem aii{α:Type}{l:List α}(h:1<l.length):bp l (((0:Nat):Int)+1)=some l[1]:=aX (i:=1) h
theorem anj{α:Type}{l:List α}(h:2<l.length):bp l (((0:Nat):Int)+2)=some l[2]:=aX (i:=2) h
theorem YV{l:List ByteArray}{s:ByteArray}(hl:l.length<=4000000)(hn:4000002<=n):∃r,fK n l s=some r:=by
 obtain⟨o,h,_⟩:=dI (step:=nE l s) (λ i (v:Int)=>v=(i:Int)/\i<=l.length) (λ _=>True) l.length (λ k v h=>h.2) (by
  rintro i v ⟨rfl,hi⟩;by_cases hlt:i<l.length
  ·simp only[nE,show decide ((i:Int)<(l.length:Int))=true from by simp;omega,aj,bq hlt,af,aM i];cases (ByteArray.toList s==ByteArray.toList l[i])with
   |true=>exact .inr ⟨_,rfl,trivial⟩
   |false=>exact .inl ⟨_,rfl,rfl,hlt⟩
  ·simp only[nE,show decide ((i:Int)<(l.length:Int))=false from by simp;omega,ak];exact .inr ⟨_,rfl,trivial⟩) n 0 0 ⟨rfl,Nat.zero_le _⟩ (by omega)
 simp only[fK,qU,h];cases o with
 |inl u=>cases u;simp only[eD,af];exact⟨_,rfl⟩
 |inr r=>simp only[iA,af];exact⟨_,rfl⟩
theorem ajv{op a:Int}(h0:(op==0)=false)(h1:(op==1)=false)(h2:(op==2)=false)(h3:(op==3)=false)(h9:(op==9)=false)(LN:(op==15)=false)(h16:(op==16)=false)(h:yQ op=some (a,true)):a=2:=by
 simp only[yQ,h0,h1,h2,h3,h9,LN,h16,ak,af]at h;cases hd:decide (op>=0)with
 |true=>rw[hd]at h;simp only[aj,aA,Prod.mk.injEq]at h;exact h.1.symm
 |false=>rw[hd]at h;simp at h
section
variable {n:Nat} {a0:List fH} {ts:List cu} {a2:List dV} {a3:List bX} {a4:List fZ} {a5:List eX} {a6:List bT} {a7:Int} {zs:List ByteArray}
theorem Xn(hn:4000002<=n)(ht:MT ts)(hz:zs.length<=4000000):∀(m:Nat)(e:bZ)(kn:List (ByteArray×Int)),VR m e->(toE e).wt<=4000000->∃v,cB n m a0 ts a2 a3 a4 a5 a6 a7 zs e kn=some (v,kn)
 | 0,_,_,h,_=>h.elim
 |m+1,e,kn,⟨ha,hr⟩,hw=>by
  have hla:=abR e;have hmx:maxLen=9223372036854775807:=rfl;show ∃v,fF n (cB n m) a0 ts a2 a3 a4 a5 a6 a7 zs e kn=some (v,kn)
  obtain⟨o,h1,l,rfl,hl⟩:=dI (step:=fA n (cB n m) a0 ts a2 a3 a4 a5 a6 a7 zs e) (λ i (v:Int×List (ByteArray×Int)×List Int)=>∃l,v=((i:Int),kn,l)/\i<=e.args.length/\l.length=i)
   (λ o=>∃l,o=(kn,l)/\l.length=e.args.length) e.args.length (λ k v ⟨_,_,h,_⟩=>h) (by
   rintro i v ⟨l,rfl,hi,hl⟩;by_cases hlt:i<e.args.length
   ·left;have hwx:=Xs (getElem_mem hlt);obtain⟨x,hx⟩:=Xn hn ht hz m e.args[i] kn (hr _ (getElem_mem hlt)) (by omega);have key:∃b,((bif (e.op==(16:Int))then(bif (decide ((i:Int)>(0:Int)))then(ck (cz 0 l.length) ((bp l ((0:Nat)+0:Int)).bind λx2=>some (!((x2 !=(0:Int))==((i:Int)==(1:Int))))))else some false)else some false):Option (Bool))=some b:=by
     refine cO ?_ ⟨_,rfl⟩;by_cases h0:(i:Int)>0
     ·simp only[h0,decide_true,aj,IB (show 0<l.length by omega),Oh (show 0<l.length by omega),af];exact⟨_,rfl⟩
     ·simp only[h0,decide_false,ak];exact⟨_,rfl⟩
    obtain⟨b,hb⟩:=key;have hap:∀z:Int,bP l.length l.length (sub [z] 0 1).length 1 8=true:=λz=>(by simp[bP,sub];omega);simp only[fA,show decide ((i:Int)<(e.args.length:Int))=true from by simp;omega,aj,bq hlt,af,hb,yY,hx,hap,dQ,aD,aM i];cases b with
    |true=>exact⟨_,rfl,_,rfl,hlt,by simp[sub,hl]⟩
    |false=>exact⟨_,rfl,_,rfl,hlt,by simp[sub,hl]⟩
   ·right;refine⟨(kn,l),?_,l,rfl,by omega⟩;simp only[fA,show decide ((i:Int)<(e.args.length:Int))=false from by simp;omega,ak,aD,aj]) n 0 ((0:Int),kn,[]) ⟨[],rfl,Nat.zero_le _,rfl⟩ (by omega)
  simp only[fF,length_nil,aD,aj,h1,af,yY,aju hn ht];cases h0:(e.op==0)with
  |true=>exact⟨_,rfl⟩
  |false=>
  cases h1:(e.op==1)with
  |true=>exact⟨_,rfl⟩
  |false=>
  cases h2:(e.op==2)with
  |true=>exact⟨_,rfl⟩
  |false=>
  cases h3:(e.op==3)with
  |true=>
   have⟨r,hr⟩:=YV (n:=n) (l:=zs) (s:=e.s) hz hn;have⟨r2,hr2⟩:=Xm r;simp only[ak,aj,hr,hr2,af];exact⟨_,rfl⟩
  |false=>
  cases h9:(e.op==9)with
  |true=>
   have e9:e.op=9:=(by simpa using h9);rw[e9]at ha;have:l.length=1:=(by have h:some ((1:Int),true)=some ((e.args.length:Int),true):=ha;simp at h;omega);simp only[ak,aj,IB (show 0<l.length by omega),Oh (show 0<l.length by omega),af];exact⟨_,rfl⟩
  |false=>
  cases LN:(e.op==15)with
  |true=>
   have e15:e.op=15:=(by simpa using LN);rw[e15]at ha;have:l.length=1:=(by have h:some ((1:Int),true)=some ((e.args.length:Int),true):=ha;simp at h;omega);obtain⟨r2,hr2⟩:=Xm (l[0]'(by omega)==0);simp only[ak,aj,IB (show 0<l.length by omega),Oh (show 0<l.length by omega),af,hr2];exact⟨_,rfl⟩
  |false=>
  cases h16:(e.op==16)with
  |true=>
   have e16:e.op=16:=(by simpa using h16);rw[e16]at ha;have:l.length=3:=(by have h:some ((3:Int),true)=some ((e.args.length:Int),true):=ha;simp at h;omega);simp only[ak,aj,IB (show 0<l.length by omega),Oh (show 0<l.length by omega),aeu (show 1<l.length by omega),aii (show 1<l.length by omega),alK (show 2<l.length by omega),anj (show 2<l.length by omega),af];cases (l[0]'(by omega) !=0)<;>exact⟨_,rfl⟩
  |false=>
   have:l.length=2:=(by have:=ajv h0 h1 h2 h3 h9 LN h16 ha;omega);obtain⟨r,hr⟩:=aes e.op (l[0]'(by omega)) (l[1]'(by omega));simp only[ak,aj,IB (show 0<l.length by omega),Oh (show 0<l.length by omega),aeu (show 1<l.length by omega),aii (show 1<l.length by omega),af,hr];exact⟨_,rfl⟩
end
theorem agF{ms:List bR}(h:ms.length<=4000000)(hn:4000002<=n):∃o,iter (jZ n ms) n ((0:Int),([]:List (ByteArray×Int)),([]:List (ByteArray×Bool)))=some o:=by
 obtain⟨o,h,_⟩:=dI (step:=jZ n ms) (λ i (v:Int×List (ByteArray×Int)×List (ByteArray×Bool))=>∃a b,v=((i:Int),a,b)/\i<=ms.length) (λ _=>True) ms.length (λ k v ⟨_,_,_,h⟩=>h) (by
  rintro i v ⟨a,b,rfl,hi⟩;by_cases hlt:i<ms.length
  ·left;simp only[jZ,show decide ((i:Int)<(ms.length:Int))=true from by simp;omega,aj,bq hlt,af,aM i];cases (!((fP Gb.lj ms[i].name b).getD false))<;>exact⟨_,rfl,_,_,rfl,hlt⟩
  ·right;simp only[jZ,show decide ((i:Int)<(ms.length:Int))=false from by simp;omega,ak];exact⟨_,rfl,trivial⟩) n 0 _ ⟨[],[],rfl,Nat.zero_le _⟩ (by omega)
 exact⟨o,h⟩
structure W8(p:bB):Prop where
 defs:ii p.defs
 tabs:MT p.tables
theorem La{p:bB}{ms:List bR}{zs:List ByteArray}(hp:W8 p)(hm:ms.length<=4000000)(hz:zs.length<=4000000)(hn:5000003<=n)(hn2:n<=9223372036854775000):∃kn ab,l8 n p ms zs=some (p.defs,p.tables,p.zones,p.rules,p.caps,p.views,p.sm,p.hours,zs,kn,ab)/\ab.length=p.defs.length:=by
 obtain⟨⟨w1,w2⟩,hs1⟩:=agF (n:=n) hm (by omega);have⟨r,hr,hrl,hrr⟩:=Sz (n:=n) hp.defs hn;have hl:=hp.defs.len;have hmx:maxLen=9223372036854775807:=rfl;have hmk:zC (p.defs.length:Int) 8=true:=by simp[zC];omega
 simp only[l8,hs1,af,Int.le_refl,decide_true,Bool.true_and,show decide ((0:Int)<=(p.defs.length:Int))=true from by simp,hmk,aj,hr];cases hb:(r.2.2 !=(0:Int))with
 |true=>
  simp only[aj,Int.toNat_natCast,List.length_replicate,aD];exact⟨_,_,rfl,by simp⟩
 |false=>
  obtain⟨o,h1,kn,ab,rfl,h2⟩:=dI (step:=gK n p zs w2 r) (λ i (v:Int×List (ByteArray×Int)×List Int)=>∃kn ab,v=((i:Int),kn,ab)/\i<=r.1.length/\ab.length=p.defs.length)
   (λ o=>∃kn ab,o=(kn,ab)/\ab.length=p.defs.length) r.1.length (λ k v ⟨_,_,_,h,_⟩=>h) (by
   rintro i v ⟨kn,ab,rfl,hi,hol⟩;by_cases hlt:i<r.1.length
   ·left;have hk:=hrr r.1[i] (getElem_mem hlt);obtain⟨k,hk2⟩:=Int.eq_ofNat_of_zero_le hk.1;have hkd:k<p.defs.length:=(by omega);have hko:k<ab.length:=(by omega);have hbw:=hp.defs.body (getElem_mem hkd);obtain⟨b,hb1,hb2⟩:=RP (n:=n) (by omega) hn2 hbw;simp only[gK,show decide ((i:Int)<(r.1.length:Int))=true from by simp;omega,aj,aT hlt,aX hlt,af,hk2,bq hkd,hb1,Int.toNat_natCast,aT hkd,aX hko,aM i,show(((0:Nat):Int)+(k:Int)).toNat=k by omega];have step2:∀(P4:List (ByteArray×Int)) (out':List Int),out'.length=p.defs.length->∃P3,((bif (!((fP Gb.lj p.defs[k].name w2).getD false))then(bp out' ((0:Nat)+(k:Int):Int)).bind λx5=>some ((ru Gb.lj p.defs[k].name x5 P4),out')else some (P4,out')):Option ((List (ByteArray×Int))×(List Int)))=some (P3,out'):=by
     intro P4 out' ho;cases (!((fP Gb.lj p.defs[k].name w2).getD false))with
     |true=>simp only[aj,aX (show k<out'.length by omega),af];exact⟨_,rfl⟩
     |false=>exact⟨_,rfl⟩
    cases b with
    |true=>
     obtain⟨v,hv⟩:=Xn (n:=n) (a0:=p.defs) (a2:=p.zones) (a3:=p.rules) (a4:=p.caps) (a5:=p.views) (a6:=p.sm) (a7:=p.hours) (by omega) hp.tabs hz n _ kn (hb2 rfl) hbw;simp only[gq,hv,aj,af];obtain⟨kn2,h2⟩:=step2 kn (ab.set k v) (by simp[hol]);rw[h2];exact⟨_,rfl,_,_,rfl,hlt,by simp[hol]⟩
    |false=>
     simp only[ak,af];have⟨kn2,h2⟩:=step2 kn ab hol;rw[h2];exact⟨_,rfl,_,_,rfl,hlt,hol⟩
   ·right;simp only[gK,show decide ((i:Int)<(r.1.length:Int))=false from by simp;omega,ak];exact⟨_,rfl,_,_,rfl,hol⟩) n 0 ((0:Int),w1,List.replicate p.defs.length 0) ⟨_,_,rfl,Nat.zero_le _,by simp⟩ (by omega)
  simp only[ak,Int.toNat_natCast,h1,af,h2,aD,aj];exact⟨_,_,rfl,h2⟩
theorem all_eq{d:bn}(h:Xj d)(hn:1001<=n):wG n d=some (kJ d):=by simp only[wG,Xk h hn,af,cZ,aD,aj]
theorem YW(a b:ByteArray)(h:a.size<=4000000):∃r,strings_Contains a b=some r:=by
 simp only[strings_Contains,Nat.ble_eq_true_of_le h,aj];exact⟨_,rfl⟩
theorem RQ(c:Int):∃b,En c=some b:=cO ⟨_,rfl⟩ ⟨_,rfl⟩
theorem agH(c:Int):∃b,P7 c=some b:=cO ⟨_,rfl⟩ ⟨_,rfl⟩
theorem ajw(c:Int):∃b,Ac c=some b:=sG (RQ c) λ_=>cO ⟨_,rfl⟩ (sG (agH c) λ_=>⟨_,rfl⟩)
theorem aev{s:ByteArray}{i:Nat}(h:i<s.size):∃c,Ro s (i:Int)=some c:=by
 simp only[Ro,show decide (0<=(i:Int))=true from by simp,aj,Int.toNat_natCast];rw[getElem?_pos s i h];exact⟨_,rfl⟩
theorem ajx{s:ByteArray}{φ:(Int×Unit)->Option Bool}(h:∀c,∃b,φ (c,())=some b)(hs:s.size<=4000000)(hn:4000002<=n):∃r,NI n s φ=some r:=by
 obtain⟨o,h1,_⟩:=dI (step:=Ab s φ) (λ i (v:Int)=>v=(i:Int)/\i<=s.size) (λ _=>True) s.size (λ k v h=>h.2) (by
  rintro i v ⟨rfl,hi⟩;by_cases hlt:i<s.size
  ·have⟨c,hc⟩:=aev hlt;have⟨b,hb⟩:=h c;simp only[Ab,show decide ((i:Int)<(s.size:Int))=true from by simp;omega,aj,hc,af,hb,aM i];cases b with
   |true=>exact .inl ⟨_,rfl,rfl,hlt⟩
   |false=>exact .inr ⟨_,rfl,trivial⟩
  ·simp only[Ab,show decide ((i:Int)<(s.size:Int))=false from by simp;omega,ak,af];exact .inr ⟨_,rfl,trivial⟩) n 0 0 ⟨rfl,Nat.zero_le _⟩ (by omega)
 simp only[NI,h1,af];exact⟨_,rfl⟩
theorem ajy(s:ByteArray)(hn:4000002<=n):∃b,NJ n s=some b/\(b=true->s.size<=20):=by
 simp only[NJ];cases h0:(ByteArray.toList s==ByteArray.toList (⟨#[]⟩))with
 |true=>exact⟨false,by simp only[aj,af],λh=>(by cases h)⟩
 |false=>
  have hs:0<s.size:=by
   refine Nat.pos_of_ne_zero λh=>?_;have:s=⟨#[]⟩:=by
    obtain⟨⟨l⟩⟩:=s;have:l.length=0:=h;rw[List.eq_nil_of_length_eq_zero this]
   rw[this]at h0;simp at h0
  have⟨c,hc⟩:=aev hs;have hc':Ro s 0=some c:=hc;have⟨b,hb⟩:=RQ c;simp only[ak,hc',af,hb];cases b with
  |false=>exact⟨false,by simp only[Bool.not_false,aj,af],λh=>(by cases h)⟩
  |true=>
   simp only[Bool.not_true,ak,af];by_cases h20:(s.size:Int)>20
   ·exact⟨false,by simp only[h20,decide_true,aj],λh=>(by cases h)⟩
   ·obtain⟨r,hr⟩:=ajx (n:=n) (s:=s) (φ:=λ(y1:Int×Unit)=>Ac y1.1) (λ c=>ajw c) (by omega) hn;simp only[h20,decide_false,ak,hr,af];exact⟨_,rfl,λ_=>by omega⟩
theorem ajz(s:ByteArray)(hn:4000002<=n):∃b,wH n s=some b:=by
 have⟨b,hb,h20⟩:=ajy (n:=n) s hn;simp only[wH,hb,af];cases b with
 |false=>exact⟨_,rfl⟩
 |true=>
  have hs:=h20 rfl;have hmx:maxLen=9223372036854775807:=rfl;have c1:Vo (⟨#[32]⟩) s=true:=by
   have:(⟨#[32]⟩:ByteArray).size=1:=rfl;simp only[Vo,aV];omega
  have c2:Vo ((⟨#[32]⟩)++s) (⟨#[32]⟩)=true:=by
   have h1:(⟨#[32]⟩:ByteArray).size=1:=rfl;simp only[Vo,aV,ByteArray.size_append];omega
  simp only[aj,c1,c2];refine sG (YW _ _ (Nat.le_of_ble_eq_true ?_)) λ_=>⟨_,rfl⟩
  kernel_rfl
theorem ajA(a b:DA):∃r,xJ a b=some r:=by
 unfold xJ;rw[yX];exact cO (cO ⟨_,rfl⟩ ⟨_,rfl⟩) ⟨_,rfl⟩
theorem fV{l:List aH}{φ:(aH×Unit)->Option Bool}(p:aH->Bool)(h:∀x∈l,φ (x,())=some (p x))(hl:l.length<1099511627776)(hn:l.length<n):fM n l φ=some (l.any p):=by
 have:qc n l φ=some (xB p l):=gF p h hl hn;simp only[fM,this,af,xC]
theorem xX{l:List aH}{φ:(aH×Unit)->Option Bool}(h:∀x∈l,∃b,φ (x,())=some b)(hl:l.length<1099511627776)(hn:l.length<n):fM n l φ=some (l.any λx=>(φ (x,())).getD false):=
 fV _ (λ x hx=>by have⟨b,hb⟩:=h x hx;rw[hb];rfl) hl hn
def ID(d:bn):Prop:=∀p∈d.phases,p.gives.length<=1000
theorem agI{l:List aH}(hl:l.length<=1000000)(hn:4000002<=n):iter (kM n l) n (0:Int)=some (.inr false)\/(iter (kM n l) n (0:Int)=some (.inl ())/\∀v∈l,okV v=true):=by
 obtain⟨o,h1,h2⟩:=dI (step:=kM n l) (λ i (v:Int)=>v=(i:Int)/\i<=l.length/\∀x∈l.take i,okV x=true) (λ o=>o= .inr false\/(o= .inl ()/\∀v∈l,okV v=true)) l.length (λ k v h=>h.2.1) (by
  rintro i v ⟨rfl,hi,hall⟩;by_cases hlt:i<l.length
  ·simp only[kM,show decide ((i:Int)<(l.length:Int))=true from by simp;omega,aj,aT hlt,aX hlt,af,uo,aM i];cases hv:okV l[i]with
   |false=>exact .inr ⟨_,by simp only[Bool.not_false,aj,af];rfl,.inl rfl⟩
   |true=>
    have hsub:(sub l 0 i).length=i:=(by simp[sub];omega);have hc:=xX (n:=n) (l:=sub l 0 i) (φ:=λ(y1:aH×Unit)=>qQ y1.1 l[i]) (λ x _=>sG (ajA _ _) λ_=>⟨_,rfl⟩) (by omega) (by omega);simp only[Bool.not_true,ak,yj (show (0:Int)<=0 by omega) (show (0:Int)<=(i:Int)by omega) (show (i:Int)<=(l.length:Int)by omega),aj,Int.toNat_natCast,Ea hsub,hc,af];cases ((sub l 0 i).any λx=>((λ (y1:aH×Unit)=>qQ y1.1 l[i]) (x,())).getD false)with
    |true=>exact .inr ⟨_,rfl,.inl rfl⟩
    |false=>
     refine .inl ⟨_,rfl,rfl,hlt,λx hx=>?_⟩;rw[List.take_add_one,dL hlt,bf]at hx;rcases hx with hx |hx
     ·exact hall x hx
     ·simp at hx;subst hx;exact hv
  ·refine .inr ⟨.inl (),?_,.inr ⟨rfl,λv hv=>hall v (by rw[take_of_length_le (by omega)];exact hv)⟩⟩;simp only[kM,show decide ((i:Int)<(l.length:Int))=false from by simp;omega,ak]) n 0 0 ⟨rfl,Nat.zero_le _,by simp⟩ (by omega)
 rcases h2 with rfl |⟨rfl,h2⟩
 ·exact .inl h1
 ·exact .inr ⟨h1,h2⟩
theorem agJ{p:rC}(hp:p.gives.length<=1000)(hn:4000002<=n):iter (kN n p) n ((0:Int),([]:List (ByteArray×Bool)))=some (.inl ())\/iter (kN n p) n ((0:Int),([]:List (ByteArray×Bool)))=some (.inr (.inr (.inr false))):=by
 obtain⟨o,h1,h2⟩:=dI (step:=kN n p) (λ i (v:Int×List (ByteArray×Bool))=>∃m,v=((i:Int),m)/\i<=p.gives.length) (λ o=>o= .inl ()\/o= .inr (.inr (.inr false))) p.gives.length (λ k v ⟨_,_,h⟩=>h) (by
  rintro i v ⟨m,rfl,hi⟩;by_cases hlt:i<p.gives.length
  ·have key:∃b,((bif ((fP Gb.lj p.gives[i].name m).getD false)then some true else(wH n p.gives[i].name).bind λr4=>(bif (!r4)then some true else(bif (decide (p.gives[i].n<(0:Int)))then some true else some (decide (p.gives[i].n>(1073741824:Int)))))):Option (Bool))=some b:=
    cO ⟨_,rfl⟩ (sG (ajz _ hn) λ_=>cO ⟨_,rfl⟩ (cO ⟨_,rfl⟩ ⟨_,rfl⟩))
   obtain⟨b,hb⟩:=key;simp only[kN,show decide ((i:Int)<(p.gives.length:Int))=true from by simp;omega,aj,bq hlt,af,hb,aM i];cases b with
   |true=>exact .inr ⟨_,rfl,.inr rfl⟩
   |false=>exact .inl ⟨_,rfl,_,rfl,hlt⟩
  ·simp only[kN,show decide ((i:Int)<(p.gives.length:Int))=false from by simp;omega,ak];exact .inr ⟨_,rfl,.inl rfl⟩) n 0 _ ⟨[],rfl,Nat.zero_le _⟩ (by omega)
 rcases h2 with rfl |rfl
 ·exact .inl h1
 ·exact .inr h1
theorem agK{d:bn}(hd:Xj d)(hg:ID d)(hn:4000002<=n):iter (kP n d) n (0:Int)=some (.inl ())\/iter (kP n d) n (0:Int)=some (.inr false):=by
 have hd1:=hd.1;obtain⟨o,h1,h2⟩:=dI (step:=kP n d) (λ i (v:Int)=>v=(i:Int)/\i<=d.phases.length) (λ o=>o= .inl ()\/o= .inr false) d.phases.length (λ k v h=>h.2) (by
  rintro i v ⟨rfl,hi⟩;by_cases hlt:i<d.phases.length
  ·simp only[kP,show decide ((i:Int)<(d.phases.length:Int))=true from by simp;omega,aj,bq hlt,af,aM i];rcases agJ (n:=n) (hg _ (getElem_mem hlt)) hn with h |h
   ·simp only[h,eD];cases decide ((d.phases[i].gives.length:Int)>30)with
    |true=>exact .inr ⟨_,rfl,.inr rfl⟩
    |false=>exact .inl ⟨_,rfl,rfl,hlt⟩
   ·simp only[h,iA];exact .inr ⟨_,rfl,.inr rfl⟩
  ·simp only[kP,show decide ((i:Int)<(d.phases.length:Int))=false from by simp;omega,ak];exact .inr ⟨_,rfl,.inl rfl⟩) n 0 0 ⟨rfl,Nat.zero_le _⟩ (by omega)
 rcases h2 with rfl |rfl
 ·exact .inl h1
 ·exact .inr h1
theorem JH{d:bn}(hd:Xj d):(kJ d).length<=1000000:=by
 have:=dC hd.2;have:=hd.1;unfold kJ;omega
theorem ank{d:bn}(hd:Xj d)(hg:ID d)(hn:4000002<=n):∃b,xK n d=some b/\(b=true->∀v∈kJ d,okV v=true):=by
 simp only[xK,all_eq hd (show 1001<=n by omega),af];have key:∀c1 c2 c3 c4 c5 c6:Bool,∃b,((bif c1 then some true else(bif c2 then some true else(bif c3 then some true else(bif c4 then some true else(bif c5 then some true else some c6))))):Option Bool)=some b:=by
  intro c1 c2 c3 c4 c5 c6;exact cO ⟨_,rfl⟩ (cO ⟨_,rfl⟩ (cO ⟨_,rfl⟩ (cO ⟨_,rfl⟩ (cO ⟨_,rfl⟩ ⟨_,rfl⟩))))
 have⟨b,hb⟩:=key (decide (d.lot<0)) (decide (d.lot>1073741824)) (decide ((d.phases.length:Int)<1)) (decide ((d.phases.length:Int)>8)) (decide (((kJ d).length:Int)<1)) (decide (((kJ d).length:Int)>40));rw[hb];cases b with
 |true=>exact⟨false,rfl,λh=>(by cases h)⟩
 |false=>
  simp only[af,ak];rcases agI (n:=n) (JH hd) hn with h |⟨h,hall⟩
  ·simp only[h,iA];exact⟨false,rfl,λh=>(by cases h)⟩
  ·simp only[h,eD];rcases agK (n:=n) hd hg hn with h2 |h2
   ·simp only[h2,eD];exact⟨true,rfl,λ_=>hall⟩
   ·simp only[h2,iA];exact⟨false,rfl,λh=>(by cases h)⟩
theorem ES{l:List fZ}{φ:(fZ×Unit)->Option Bool}(p:fZ->Bool)(h:∀x∈l,φ (x,())=some (p x))(hl:l.length<1099511627776)(hn:l.length<n):mE n l φ=some (l.any p):=by
 have:u6 n l φ=some (xB p l):=gF p h hl hn;simp only[mE,this,af,xC]
theorem alM{lot:bS}{l:List aH}(ha:lot.area.length<=900)(hv:∀v∈l,okV v=true)(hl:l.length<=1000000)(hn:4000002<=n):iter (jV n lot l) n (0:Int)=some (.inl ())\/iter (jV n lot l) n (0:Int)=some (.inr false):=by
 obtain⟨o,h1,h2⟩:=dI (step:=jV n lot l) (λ i (v:Int)=>v=(i:Int)/\i<=l.length) (λ o=>o= .inl ()\/o= .inr false) l.length (λ k v h=>h.2) (by
  rintro i v ⟨rfl,hi⟩;by_cases hlt:i<l.length
  ·have hb:=Xi (hv _ (getElem_mem hlt));have hcl:=Oa (keep:=λp q=>p&&q) lot.area [iy l[i]];have hc:=N9 (n:=n) (a:=lot.area) (b:=[iy l[i]]) (by omega) (by simp) (by omega) (by simp;omega) (by omega);have hA:=K8 (n:=n) (a:=(oZ (λ p q=>p&&q) lot.area [iy l[i]]).1) (by omega) (by omega);have hr:=CV hb;simp only[iy]at hc hA hr;simp only[jV,show decide ((i:Int)<(l.length:Int))=true from by simp;omega,aj,aT hlt,aX hlt,af,show ∀r:ax,sub [r] 0 1=[r]from λ_=>rfl,length_singleton,aD,hc,hA,hr,aM i];have key:∀c x:Bool,∃b,((bif c then some true else some x):Option Bool)=some b:=λc x=>cO ⟨_,rfl⟩ ⟨_,rfl⟩;obtain⟨b,hb2⟩:=key ((oZ (λ p q=>p&&q) lot.area [⟨l[i].bu,l[i].ca,l[i].br,l[i].b9⟩]).2 !=0) (decide ((bif cR (oZ (λ p q=>p&&q) lot.area [⟨l[i].bu,l[i].ca,l[i].br,l[i].b9⟩]).1 then K7 (oZ (λ p q=>p&&q) lot.area [⟨l[i].bu,l[i].ca,l[i].br,l[i].b9⟩]).1 else 0)<JT ⟨l[i].bu,l[i].ca,l[i].br,l[i].b9⟩));rw[hb2];cases b with
   |true=>exact .inr ⟨_,rfl,.inr rfl⟩
   |false=>exact .inl ⟨_,rfl,rfl,hlt⟩
  ·simp only[jV,show decide ((i:Int)<(l.length:Int))=false from by simp;omega,ak];exact .inr ⟨_,rfl,.inl rfl⟩) n 0 0 ⟨rfl,Nat.zero_le _⟩ (by omega)
 rcases h2 with rfl |rfl
 ·exact .inl h1
 ·exact .inr h1
theorem alN{p:bB}{ph:rC}(hc:p.caps.length<=1000)(hp:ph.gives.length<=1000)(hn:4000002<=n):iter (jW n p ph) n (0:Int)=some (.inl ())\/iter (jW n p ph) n (0:Int)=some (.inr (.inr (.inr false))):=by
 obtain⟨o,h1,h2⟩:=dI (step:=jW n p ph) (λ i (v:Int)=>v=(i:Int)/\i<=ph.gives.length) (λ o=>o= .inl ()\/o= .inr (.inr (.inr false))) ph.gives.length (λ k v h=>h.2) (by
  rintro i v ⟨rfl,hi⟩;by_cases hlt:i<ph.gives.length
  ·simp only[jW,show decide ((i:Int)<(ph.gives.length:Int))=true from by simp;omega,aj,bq hlt,af,ES (n:=n) (l:=p.caps) (φ:=λ(y1:fZ×Unit)=>uZ y1.1 ph.gives[i]) (λ c=>ByteArray.toList c.name==ByteArray.toList ph.gives[i].name) (λ _ _=>rfl) (by omega) (by omega),aM i];cases (p.caps.any λc=>ByteArray.toList c.name==ByteArray.toList ph.gives[i].name)with
   |false=>exact .inr ⟨_,rfl,.inr rfl⟩
   |true=>exact .inl ⟨_,rfl,rfl,hlt⟩
  ·simp only[jW,show decide ((i:Int)<(ph.gives.length:Int))=false from by simp;omega,ak];exact .inr ⟨_,rfl,.inl rfl⟩) n 0 0 ⟨rfl,Nat.zero_le _⟩ (by omega)
 rcases h2 with rfl |rfl
 ·exact .inl h1
 ·exact .inr h1
theorem alO{p:bB}{d:bn}(hc:p.caps.length<=1000)(hd:Xj d)(hg:ID d)(hn:4000002<=n):iter (jX n p d) n (0:Int)=some (.inl ())\/iter (jX n p d) n (0:Int)=some (.inr false):=by
 have hd1:=hd.1;obtain⟨o,h1,h2⟩:=dI (step:=jX n p d) (λ i (v:Int)=>v=(i:Int)/\i<=d.phases.length) (λ o=>o= .inl ()\/o= .inr false) d.phases.length (λ k v h=>h.2) (by
  rintro i v ⟨rfl,hi⟩;by_cases hlt:i<d.phases.length
  ·simp only[jX,show decide ((i:Int)<(d.phases.length:Int))=true from by simp;omega,aj,bq hlt,af,aM i];rcases alN (n:=n) hc (hg _ (getElem_mem hlt)) hn with h |h
   ·simp only[h,eD];exact .inl ⟨_,rfl,rfl,hlt⟩
   ·simp only[h,iA];exact .inr ⟨_,rfl,.inr rfl⟩
  ·simp only[jX,show decide ((i:Int)<(d.phases.length:Int))=false from by simp;omega,ak];exact .inr ⟨_,rfl,.inl rfl⟩) n 0 0 ⟨rfl,Nat.zero_le _⟩ (by omega)
 rcases h2 with rfl |rfl
 ·exact .inl h1
 ·exact .inr h1
theorem ajB{p:bB}{lot:bS}{d:bn}(hc:p.caps.length<=1000)(ha:lot.area.length<=900)(hd:Xj d)(hg:ID d)(hn:4000002<=n):∃b,oo n p lot d=some b/\(b=true->∀v∈kJ d,okV v=true):=by
 have⟨b,hb,hv⟩:=ank (n:=n) hd hg hn;simp only[oo,hb,af];cases b with
 |false=>exact⟨false,by simp only[Bool.not_false,aj,af],λh=>(by cases h)⟩
 |true=>
  simp only[Bool.not_true,ak,lT (n:=n) (l:=lot.area) (by omega) (by omega) (by omega),af];cases (lot.id !=d.lot)with
  |true=>exact⟨false,by simp only[aj,af],λh=>(by cases h)⟩
  |false=>
   cases cR lot.area with
   |false=>exact⟨false,by simp only[Bool.not_false,aj,ak,af],λh=>(by cases h)⟩
   |true=>
    simp only[Bool.not_true,ak,af,all_eq hd (show 1001<=n by omega)];rcases alM (n:=n) ha (hv rfl) (JH hd) hn with h |h
    ·simp only[h,eD];rcases alO (n:=n) hc hd hg hn with h2 |h2
     ·simp only[h2,eD];exact⟨true,rfl,λ_=>hv rfl⟩
     ·simp only[h2,iA];exact⟨false,rfl,λh=>(by cases h)⟩
    ·simp only[h,iA];exact⟨false,rfl,λh=>(by cases h)⟩
theorem anl{p:bB}{ms:List bR}{zs:List ByteArray}{e:bZ}(hp:W8 p)(hm:ms.length<=4000000)(hz:zs.length<=4000000)(he:(toE e).wt<=4000000)(hn:5000003<=n)(hn2:n<=9223372036854775000):∃v,vJ n p ms zs e=some v:=by
 obtain⟨b,hb,hv⟩:=RP (n:=n) (by omega) hn2 he;simp only[vJ,yY,hb,af];cases b with
 |false=>exact⟨_,rfl⟩
 |true=>
  have⟨kn,ab,h1,_⟩:=La (n:=n) hp hm hz hn hn2;obtain⟨v,h2⟩:=Xn (n:=n) (a0:=p.defs) (a2:=p.zones) (a3:=p.rules) (a4:=p.caps) (a5:=p.views) (a6:=p.sm) (a7:=p.hours) (by omega) hp.tabs hz n e kn (hv rfl) he;simp only[Bool.not_true,ak,h1,af,gq,h2];exact⟨_,rfl⟩
section
variable {n:Nat} {d:List fH} {ts:List cu} {z:List dV} {r r':List bX} {c c':List fZ} {v v':List eX} {su sn:List bT} {h h':Int} {zs:List ByteArray}
theorem IC:∀(m:Nat)(e:bZ)(kn:List (ByteArray×Int)),cB n m d ts z r c v su h zs e kn=cB n m d ts z r' c' v' sn h' zs e kn
 | 0,_,_=>rfl
 |m+1,e,kn=>by
  have ih:=IC m;have hs:fA n (cB n m) d ts z r c v su h zs e=fA n (cB n m) d ts z r' c' v' sn h' zs e:=by
   funext ⟨v1,v2,v3⟩;simp only[fA,ih]
  have hr:∀w,jm n d ts z r c v su h zs e w=jm n d ts z r' c' v' sn h' zs e w:=λ_=>rfl;show fF n (cB n m) d ts z r c v su h zs e kn=fF n (cB n m) d ts z r' c' v' sn h' zs e kn;simp only[fF,hs,yY,hr]
theorem agL{ms:List bR}:(l8 n (bB.mk d ts z r c v su h) ms zs).map (λ q=>q.2.2.2.2.2.2.2.2.2)=(l8 n (bB.mk d ts z r' c' v' sn h') ms zs).map (λ q=>q.2.2.2.2.2.2.2.2.2):=by
 have hs:∀w2 r1,gK n (bB.mk d ts z r c v su h) zs w2 r1=gK n (bB.mk d ts z r' c' v' sn h') zs w2 r1:=by
  intro w2 r1;funext ⟨v6,v7,v8⟩;have hv:∀e kn,gq n d ts z r c v su h zs e kn=gq n d ts z r' c' v' sn h' zs e kn:=λe kn=>IC n e kn;simp only[gK,hv]
 have ho:nJ n (bB.mk d ts z r c v su h)=nJ n (bB.mk d ts z r' c' v' sn h'):=rfl;simp only[l8,hs,ho];cases iter (jZ n ms) n ((0:Int),([]:(List (ByteArray×Int))),([]:(List (ByteArray×Bool))))with
 |none=>rfl
 |some w=>
  obtain⟨w1,w2⟩:=w;simp only[af];cases (decide ((d.length:Int)<=(d.length:Int))&&(decide (0<=(d.length:Int))&&zC (d.length:Int) 8))with
  |false=>rfl
  |true=>
   simp only[aj];cases nJ n (bB.mk d ts z r' c' v' sn h')with
   |none=>rfl
   |some r1=>
    simp only[af];cases (r1.2.2 !=(0:Int))with
    |true=>
     simp only[aj];cases az (((d.length:Int):Int).toNat) (List.replicate ((d.length:Int):Int).toNat (0:Int)).length<;>rfl
    |false=>
     simp only[ak];cases iter (gK n (bB.mk d ts z r' c' v' sn h') zs w2 r1) n ((0:Int),w1,(List.replicate ((d.length:Int):Int).toNat (0:Int)))with
     |none=>rfl
     |some q=>
      obtain⟨w3,w4⟩:=q;simp only[af];cases az (((d.length:Int):Int).toNat) w4.length<;>rfl
theorem agM{ms:List bR}{e:bZ}(hp:ii d)(ht:MT ts)(hm:ms.length<=4000000)(hz:zs.length<=4000000)(hn:5000003<=n)(hn2:n<=9223372036854775000):vJ n (bB.mk d ts z r c v su h) ms zs e=vJ n (bB.mk d ts z r' c' v' sn h') ms zs e:=by
 have⟨kn,ab,h1,_⟩:=La (n:=n) (p:=bB.mk d ts z r c v su h) ⟨hp,ht⟩ hm hz hn hn2;have⟨kn2,out2,h2,_⟩:=La (n:=n) (p:=bB.mk d ts z r' c' v' sn h') ⟨hp,ht⟩ hm hz hn hn2;have h3:=agL (n:=n) (d:=d) (ts:=ts) (z:=z) (r:=r) (r':=r') (c:=c) (c':=c') (v:=v) (v':=v') (su:=su) (sn:=sn) (h:=h) (h':=h') (zs:=zs) (ms:=ms);rw[h1,h2]at h3;simp only[Option.map_some,aA,Prod.mk.injEq]at h3;obtain⟨rfl,rfl⟩:=h3;simp only[vJ,h1,h2,af,gq,IC (r:=r) (r':=r') (c:=c) (c':=c') (v:=v) (v':=v') (su:=su) (sn:=sn) (h:=h) (h':=h')]
end
theorem SA{b:ax}{l:List dX}{s:List fT}(ha:∀c∈s,c.area.length<=200)(hs:s.length<=1000)(hl:l.length<=1000)(hn:2000<=n):
 xR n b l s=some (EN b l&&(EO s&&!(s.any λc=>decide (LS b l c.area<c.z1)))):=by
 unfold xR;rw[Xf b l hl hn];simp only[af];cases hv:EN b l with
 |false=>simp only[Bool.not_false,aj,af,Bool.false_and]
 |true=>
  have⟨v1,v2⟩:=(aeg b l).1 hv;simp only[Bool.not_true,ak,RN (n:=n) (s:=s) (λ x hx=>by have:=ha x hx;omega) (by omega),af,Bool.true_and];cases hr:EO s with
  |false=>simp only[Bool.not_false,aj,Bool.false_and]
  |true=>
   have⟨_,sok,_⟩:=(Xh s).1 hr;simp only[Bool.not_true,ak,Bool.true_and];rw[sD (λ c=>decide (LS b l c.area<c.z1)) (λ c hc=>by
    have:=ha c hc;show qY n c b l=_;unfold qY;rw[Sy v1 v2 (ul (sok c hc).rt).1 (by omega) hl hn];rfl) (by omega) (by omega)]
   simp only[af]
def vo(v:aH):List fT:=[⟨v.er,v.ec,[iy v]⟩]
theorem aew(v:aH):xO v=some (vo v):=rfl
def UB(b:ax)(p:dX)(v:aH):Bool:=EN b [p]&&(EO (vo v)&&!((vo v).any λc=>decide (LS b [p] c.area<c.z1)))
def Qn(r:bX):dX:=dX.mk r.gR r.gS r.jj r.jn
theorem abS(v:aH)(b:ax)(r:bX)(hn:2000<=n):jP n v b r=some (!UB b (Qn r) v):=by
 have h:=SA (n:=n) (b:=b) (l:=[Qn r]) (s:=vo v) (by simp[vo]) (by simp[vo]) (by simp) hn;unfold Qn at h;have hl:(vo v).length=1:=rfl;simp only[jP,aew,af,cZ,aD,aj,show ∀x:dX,sub [x] 0 1=[x]from λ_=>rfl,length_singleton,h,UB,Qn];rfl
def MM(r:bX)(v:aH):Bool:=bits .and .i64 r.uses (i64.wrap (1*2 ^ (v.use:Int).toNat))==(0:Int)
theorem abT{v:aH}(h:okV v=true)(r:bX):jQ v r=some (MM r v):=by
 have hu:0<=v.use/\v.use<6:=by
  simp only[okV,aL,aV]at h;omega
 have hb:i64.bits=64:=rfl;simp only[jQ,MM,show(decide (0<=v.use)&&decide (v.use<=i64.bits))=true from by simp[hb];omega,aj]
def OK(lot:Int)(r:bX)(v:aH)(b:iE):Bool:=(dW b (lZ.mk [] [] [] [] [] [] [] 0 [] [] [] [] [] 0 0 [] [] lot [] [] []) v r).getD false
theorem aex{b:iE}{s:lZ}{v:aH}{r:bX}:dW b s v r=some (OK s.cC r v b):=by
 have key:∃x,dW b (lZ.mk [] [] [] [] [] [] [] 0 [] [] [] [] [] 0 0 [] [] s.cC [] [] []) v r=some x:=by
  simp only[dW,iT,alv,af];refine sG (cO ⟨_,rfl⟩ (cO ⟨_,rfl⟩ (cO ⟨_,rfl⟩ ⟨_,rfl⟩))) λ_=>cO ⟨_,rfl⟩ (sG (cO (cO ⟨_,rfl⟩ (cO ⟨_,rfl⟩ ⟨_,rfl⟩)) (cO ⟨_,rfl⟩ ⟨_,rfl⟩)) λ_=>cO ⟨_,rfl⟩ ⟨_,rfl⟩)
 have e:dW b s v r=dW b (lZ.mk [] [] [] [] [] [] [] 0 [] [] [] [] [] 0 0 [] [] s.cC [] [] []) v r:=rfl;obtain⟨x,hx⟩:=key;rw[e,OK,hx];rfl
theorem zG{l:List iE}{φ:(iE×Unit)->Option Bool}(p:iE->Bool)(h:∀x∈l,φ (x,())=some (p x))(hl:l.length<1099511627776)(hn:l.length<n):jR n l φ=some (l.any p):=by
 have:qi n l φ=some (xB p l):=gF p h hl hn;simp only[jR,this,af,xC]
def OF(built:List iE)(lot:Int)(r:bX)(v:aH):Bool:=built.any (OK lot r v)
theorem abW{s:lZ}{v:aH}{r:bX}(hb:s.fS.length<=1000)(hn:2000<=n):jS n v s r=some (OF s.fS s.cC r v):=by simp only[jS,rG,zG (n:=n) (l:=s.fS) (φ:=λ(y1:iE×Unit)=>dW y1.1 s v r) (OK s.cC r v) (λ x _=>aex) (by omega) (by omega),af,OF]
def j0(r:bX):bZ:=bZ.mk r.kB r.mn r.mm r.i9 r.fW
def il(t:bU):bB:=bB.mk t.ci t.b8 t.b7 [] t.ct t.cj t.cD t.cm
structure Bd(t:bU):Prop where
 lots:∀l∈t.land,Dd l
 land:t.land.length<=1000
 zg:t.bz.length<=900/\∀e∈t.bz,e.area.length<=900
 built:t.built.length<=1000
 zones:t.b7.length<=100
 caps:t.ct.length<=1000
 rules:t.bj.length<=100
 rule:∀r∈t.bj,Xc r/\(toE (j0 r)).wt<=4000000
 plan:W8 (il t)
def xr(d:bn):Prop:=Xj d/\ID d
def Oi(n:Nat):Prop:=5000003<=n/\n<=9223372036854775000
def uw(t:bU)(lot:bS):List ByteArray:=D4 t.b7 lot.area
def sL(t:bU)(lot:bS)(d:bn):lZ:=lZ.mk t.ci t.b8 t.b7 t.bj t.ct t.cj t.cD t.cm t.land t.bz t.windows t.built t.base lot.id lot.owner lot.area lot.from_ d.lot d.phases (kJ d) (uw t lot)
theorem alP{d:bn}(h:Xj d)(hn:1001<=n):tH n d=some (kJ d):=by
 obtain⟨h1,h2⟩:=h;unfold tH;have key:=sF (step:=oF d) (λ i=>((i:Int),(d.phases.take i).flatMap (·.cy))) (s:=((0:Int),([]:List aH))) d.phases.length (kJ d) rfl (λ i hi=>by
  have hl:=dC (l:=d.phases.take i) λp hp=>h2 p (List.mem_of_mem_take hp);rw[length_take]at hl;have hv:=h2 _ (getElem_mem hi);generalize hL:(d.phases.take i).flatMap (·.cy)=L at hl;have hap:bP L.length L.length d.phases[i].cy.length d.phases[i].cy.length 72=true:=dm (by omega) (by simp only[maxLen];omega);simp only[oF,bO hi,aj,bq hi,af,hap,dQ,aD,aM i];rw[gG hi,List.flatMap_append,hL];simp only[List.flatMap_cons,List.flatMap_nil,append_nil]) (by simp only[oF,bW,ak,aD,aj,List.take_length,kJ]) n (by omega)
 have hz:az 0 ([]:List aH).length=true:=rfl;simp only[hz,aj,key,af,cZ,aD]
def We(n:Nat)(t:bU)(d:bn):Bool:=(oo n (il t) (jo t.land d.lot).1 d).getD false
def CX(n:Nat)(t:bU)(d:bn):Int:=bif(jo t.land d.lot).2 then(bif We n t d then 0 else 1)else 4
def ao8:lZ:=lZ.mk ([]) ([]) ([]) ([]) ([]) ([]) ([]) 0 ([]) ([]) ([]) ([]) ([]) 0 0 ([]) ([]) 0 ([]) ([]) ([])
theorem look_eq{t:bU}{d:bn}(ht:Bd t)(hd:xr d)(hn:Oi n):Ad n t d=some (bif CX n t d==0 then sL t (jo t.land d.lot).1 d else ao8,CX n t d)/\(CX n t d=0->∀v∈kJ d,okV v=true):=by
 obtain⟨hn1,hn2⟩:=hn;have hl:=ht.land;have e1:NH n t.land d.lot=some (jo t.land d.lot):=ajr ht.lots (by omega) (by omega);have hw:=aat ht.lots d.lot;obtain⟨b,hb,hv⟩:=ajB (n:=n) (p:=il t) (lot:=(jo t.land d.lot).1) (d:=d) ht.caps hw.1 hd.1 hd.2 (by omega);have e2:oo n (bB.mk t.ci t.b8 t.b7 t.bj t.ct t.cj t.cD t.cm) (jo t.land d.lot).1 d=some b:=hb;have e3:CJ n (bB.mk t.ci t.b8 t.b7 t.bj t.ct t.cj t.cD t.cm) (jo t.land d.lot).1.area=some (D4 t.b7 (jo t.land d.lot).1.area):=abM _ _ ht.zones hw.1 (by omega);have e4:We n t d=b:=by unfold We;rw[hb];rfl
 simp only[Ad,e1,e2,e3,alP hd.1 (show 1001<=n by omega),af,cZ,aD,aj,CX,e4];cases (jo t.land d.lot).2 with
 |false=>exact⟨rfl,λh=>absurd (show (4:Int)=0 from h) (by decide)⟩
 |true=>
  cases b with
  |false=>exact⟨rfl,λh=>absurd (show (1:Int)=0 from h) (by decide)⟩
  |true=>exact⟨rfl,λ_=>hv rfl⟩
def MD(n:Nat)(t:bU)(lot:bS)(d:bn)(r:bX):Bool:=((kC n (il t) lot d).bind λms=>vJ n (il t) ms (uw t lot) (j0 r)).getD 1==0
def zt(n:Nat)(t:bU)(lot:bS)(d:bn)(r:bX):Bool:=
 bif r.kind==0 then MD n t lot d r else bif r.kind==1 then(kJ d).any (λ v=>!UB (JG lot.area).1 (Qn r) v)else bif r.kind==2 then(kJ d).any (MM r)else bif r.kind==3 then(kJ d).any (OF t.built d.lot r)else false
theorem Xo{t:bU}(ht:Bd t)(lot:bS):(uw t lot).length<=100:=Nat.le_trans (ane _ _) ht.zones
theorem ajC{t:bU}{lot:bS}{d:bn}{r:bX}(ht:Bd t)(hl:lot.area.length<=900)(hd:xr d)(hv:∀v∈kJ d,okV v=true)(hr:(toE (j0 r)).wt<=4000000)(hn:Oi n):mH n (sL t lot d) r=some (zt n t lot d r):=by
 obtain⟨hn1,hn2⟩:=hn;have hvl:=JH hd.1;have hz:=Xo ht lot;simp only[mH,gL,zt];cases (r.kind==0)with
 |true=>
  have htb:=ht.plan.tabs;obtain⟨e1,e2,e3,e4,e5,e6,e7,e8,Lz⟩:=anX (n:=n) (p:=il t) (lot:=lot) (d:=d) ⟨by have:=htb.1;omega,by have:=htb.1;omega,λx hx=>by have:=htb.2 x hx;omega⟩ hl hd.1 (by omega);have h1:=Lz t.bj;have h2:=Lz [];have h2':kC n (il t) lot d=_:=h2;have h1':kC n (bB.mk t.ci t.b8 t.b7 t.bj t.ct t.cj t.cD t.cm) (bS.mk lot.id lot.owner lot.area lot.from_) (bn.mk d.lot d.phases)=_:=h1;obtain⟨v,hE⟩:=anl (n:=n) (p:=il t) (ms:=[⟨⟨#[97,114,101,97]⟩,e1⟩,⟨⟨#[99,111,118,101,114]⟩,e2⟩,⟨⟨#[102,108,111,111,114]⟩,e3⟩,⟨⟨#[102,108,111,111,114,115]⟩,e4⟩,⟨⟨#[104,101,105,103,104,116]⟩,e5⟩,⟨⟨#[104,111,109,101,115]⟩,e6⟩,⟨⟨#[114,117,110,111,102,102]⟩,e7⟩,⟨CW,uq (mX lot) (fI d)⟩,⟨⟨#[116,114,97,102,102,105,99]⟩,e8⟩]) (zs:=uw t lot) (e:=j0 r) ht.plan (by simp) (by omega) hr hn1 hn2;have hE':=(agM (n:=n) (d:=t.ci) (ts:=t.b8) (z:=t.b7) (r:=t.bj) (r':=[]) (c:=t.ct) (v:=t.cj) (su:=t.cD) (h:=t.cm) (zs:=uw t lot) (ms:=[⟨⟨#[97,114,101,97]⟩,e1⟩,⟨⟨#[99,111,118,101,114]⟩,e2⟩,⟨⟨#[102,108,111,111,114]⟩,e3⟩,⟨⟨#[102,108,111,111,114,115]⟩,e4⟩,⟨⟨#[104,101,105,103,104,116]⟩,e5⟩,⟨⟨#[104,111,109,101,115]⟩,e6⟩,⟨⟨#[114,117,110,111,102,102]⟩,e7⟩,⟨CW,uq (mX lot) (fI d)⟩,⟨⟨#[116,114,97,102,102,105,99]⟩,e8⟩]) (e:=j0 r) ht.plan.defs ht.plan.tabs (by simp) (by omega) hn1 hn2).trans hE;unfold j0 at hE';simp only[aj,sL,h1',af,cZ,aD,hE',MD,h2',hE,Option.getD_some]
 |false=>
  cases (r.kind==1)with
  |true=>
   simp only[aj,ak,show(sL t lot d).kh=lot.area from rfl,show(sL t lot d).cy=kJ d from rfl,Oe (n:=n) lot.area hl (by omega),af];rw[fV (λ v=>!UB (JG lot.area).1 (Qn r) v) (λ v _=>abS v _ r (by omega)) (by omega) (by omega)];rfl
  |false=>
   cases (r.kind==2)with
   |true=>
    simp only[aj,ak,show(sL t lot d).cy=kJ d from rfl];rw[fV (MM r) (λ v hm=>abT (hv v hm) r) (by omega) (by omega)];rfl
   |false=>
    cases (r.kind==3)with
    |true=>
     simp only[aj,ak,show(sL t lot d).cy=kJ d from rfl];rw[fV (OF t.built d.lot r) (λ v _=>abW (s:=sL t lot d) ht.built (by omega)) (by omega) (by omega)];rfl
    |false=>rfl
def addN(ab:List ByteArray)(name:ByteArray)(bad:Bool):List ByteArray:=bif bad&&!(ab.any (lj name))then ab++[name]else ab
theorem aez(ab:List ByteArray)(name:ByteArray)(bad:Bool):(addN ab name bad).length<=ab.length+1:=by
 unfold addN;cases (bad&&!(ab.any (lj name)))<;>simp
theorem aeA{name:ByteArray}{bad:Bool}{ab:List ByteArray}(hl:ab.length<=1000)(hn:2000<=n):jB n name bad ab=some (addN ab name bad):=by
 have hmx:maxLen=9223372036854775807:=rfl;have hap:bP ab.length ab.length (sub [name] 0 1).length 1 16=true:=by simp[bP,sub];omega
 simp only[jB,cZ,aD,aj,uM (n:=n) (l:=ab) (a:=name) (by omega) (by omega),af,addN,hap,dQ];cases bad with
 |false=>rfl
 |true=>cases (ab.any (lj name))<;>rfl
def J1(t:bU)(d:bn):Bool:=(kJ d).any λv=>!Jx t.bz d.lot (vo v)
def ajD:ByteArray:=⟨#[101,97,115,101,109,101,110,116]⟩
def Lb(n:Nat)(t:bU)(lot:bS)(d:bn)(l:List bX):List ByteArray:=l.foldl (λ ab r=>addN ab r.name (zt n t lot d r)) []
theorem KG(f:bX->Bool):∀(l:List bX)(ab:List ByteArray),(l.foldl (λ ab r=>addN ab r.name (f r)) ab).length<=ab.length+l.length
 |[],ab=>by simp
 |r::l,ab=>by
  have h1:=KG f l (addN ab r.name (f r));have h2:=aez ab r.name (f r);rw[foldl_cons,bI];omega
def applied(t:bU)(lot:bS)(day:Int):List bX:=t.bj.filter (qJ (uw t lot) day)
def uy(t:bU)(d:bn):bS:=(jo t.land d.lot).1
def JI(n:Nat)(t:bU)(d:bn)(day:Int):List ByteArray:=bif CX n t d==0 then addN (Lb n t (uy t d) d (applied t (uy t d) day)) ajD (J1 t d)else []
theorem ajE{t:bU}{d:bn}(day:Int)(ht:Bd t)(hd:xr d)(hn:Oi n):vM n t d day=some (JI n t d day,CX n t d):=by
 obtain⟨hk,hv⟩:=look_eq (n:=n) ht hd hn;have hn1:=hn.1;have hvl:=JH hd.1;simp only[vM,hk,af,JI];by_cases h0:CX n t d=0
 ·have Ts:(CX n t d==0)=true:=by simp[h0]
  have Tr:(CX n t d !=0)=false:=by simp[h0]
  have hw:=aat ht.lots d.lot;have hz:=Xo ht (uy t d);have hA:tL n (bB.mk t.ci t.b8 t.b7 t.bj t.ct t.cj t.cD t.cm) (uw t (uy t d)) day=some ((Ql t.bj (uw t (uy t d)) day).map λ(i:Nat)=>(i:Int)):=Sv _ _ _ (λ r hr=>(ht.rule r hr).1) ht.rules hz (by omega);have hal:(Ql t.bj (uw t (uy t d)) day).length<=100:=Nat.le_trans (length_filter_le _ _) (by rw[List.length_range];exact ht.rules);have hpick:(Ql t.bj (uw t (uy t d)) day).filterMap (λ i=>t.bj[i]?)=applied t (uy t d) day:=RO (qJ (uw t (uy t d)) day) t.bj;have hloop:∀A:List Nat,A.length<=100->(∀ i∈A,i<t.bj.length)->iter (mQ n t (sL t (uy t d) d,CX n t d) (A.map λ(i:Nat)=>(i:Int))) n ((0:Int),([]:List ByteArray))=some (Lb n t (uy t d) d (A.filterMap λi=>t.bj[i]?)):=by
   intro A hA hAr
   have key:=fE (l:=A) (step:=mQ n t (sL t (uy t d) d,CX n t d) (A.map λ(i:Nat)=>(i:Int))) (λ i (s:List ByteArray)=>((i:Int),s)) (λ i s=>match t.bj[i]? with
    |some r=>addN s r.name (zt n t (uy t d) d r)
    |none=>s) (λ s=>s) (λ i s=>s.length<=i) (λ i hi s hs=>by
    have hr:=hAr _ (getElem_mem hi);have hlm:(A.map λ(i:Nat)=>(i:Int)).length=A.length:=(by simp);have hg:bp (A.map λ(i:Nat)=>(i:Int)) (((0:Nat):Int)+(i:Int))=some ((A[i]:Nat):Int):=(by rw[aX (by omega)];simp);have hrr:=ht.rule _ (getElem_mem hr);have hb:=ajC (n:=n) (t:=t) (lot:=uy t d) (d:=d) ht hw.1 hd (hv h0) hrr.2 hn;have e:=dL hr;simp only[mQ,hlm,bO hi,aj,aT hi,hg,af,bq hr,hb,aD,aeA (n:=n) (name:=t.bj[A[i]].name) (bad:=zt n t (uy t d) d t.bj[A[i]]) (ab:=s) (by omega) (by omega),aM i,e];exact⟨trivial,Nat.le_trans (aez _ _ _) (by omega)⟩) (λ s _=>by
    have hlm:(A.map λ(i:Nat)=>(i:Int)).length=A.length:=(by simp);simp only[mQ,hlm,bW,ak,aD,aj]) n (by omega) [] (aC _)
   rw[show ((0:Nat):Int)=0 from rfl]at key;rw[key];congr 1;unfold Lb;generalize ([]:List ByteArray)=s0;clear key hA
   induction A generalizing s0 with
   |nil=>rfl
   |cons a A ih=>
    have ha:=hAr a (by simp);rw[foldl_cons,List.filterMap_cons];simp only[dL ha];rw[foldl_cons];exact ih (λ i hi=>hAr i (by simp[hi])) _
  have hlo:=hloop (Ql t.bj (uw t (uy t d)) day) hal (λ i hi=>by
   have:=(List.mem_filter.1 hi).1;simpa using this)
  rw[hpick]at hlo;have hrl:(Lb n t (uy t d) d (applied t (uy t d) day)).length<=100:=by
   have h1:=KG (zt n t (uy t d) d) (applied t (uy t d) day) [];have h2:(applied t (uy t d) day).length<=100:=Nat.le_trans (length_filter_le _ _) ht.rules;unfold Lb;simp only[length_nil]at h1;omega
  have hany:gL n (sL t (uy t d) d) (λ (y1:aH×Unit)=>mO n y1.1 t d)=some (J1 t d):=by
   have hs:∀v,mO n v t d=some (!Jx t.bz d.lot (vo v)):=by
    intro v;have hl1:(vo v).length=1:=rfl;have h:=YS (n:=n) (l:=t.bz) (lot:=d.lot) (s:=vo v) ht.zg.1 ht.zg.2 (by simp[vo]) (by omega);simp only[mO,aew,af,cZ,aD,aj,h]
   simp only[gL,show(sL t (uy t d) d).cy=kJ d from rfl];rw[fV (λ v=>!Jx t.bz d.lot (vo v)) (λ v _=>hs v) (by omega) (by omega)];rfl
  have hsc:sL t (jo t.land d.lot).1 d=sL t (uy t d) d:=rfl;simp only[Ts,Tr,aj,ak,hsc,show(sL t (uy t d) d).zones=uw t (uy t d)from rfl,hA,af,length_nil,aD,hlo,hany,aeA (n:=n) (name:=⟨#[101,97,115,101,109,101,110,116]⟩) (bad:=J1 t d) (ab:=Lb n t (uy t d) d (applied t (uy t d) day)) (by omega) (by omega),cZ];rw[h0];rfl
 ·have Ts:(CX n t d==0)=false:=by simpa using h0
  have Tr:(CX n t d !=0)=true:=by simpa using h0
  simp only[Ts,Tr,aj,ak]
theorem ajF{t:bU}{d:bn}(day:Int)(ht:Bd t)(hd:xr d)(hn:Oi n):iX n t d day=some ((CX n t d==0)&&decide (JI n t d day=[])):=by
 simp only[iX,ajE day ht hd hn,af];cases (CX n t d==0)with
 |false=>rfl
 |true=>
  simp only[aj,Bool.true_and];cases JI n t d day with
  |nil=>rfl
  |cons x l=>
   have:(((x::l).length:Nat):Int)≠0:=(by simp;omega);rw[beq_eq_false_iff_ne.2 this];simp
theorem KH(r:ax):∃q,rX r=some q:=by rw[EK];cases ek r<;>exact⟨_,rfl⟩
theorem Xp(r:ax):∃q,oQ r=some q:=by
 unfold oQ;have⟨q,hq⟩:=KH r;rw[hq];simp only[af]
 first |exact⟨_,rfl⟩ |(cases q.2<;>exact⟨_,rfl⟩)
theorem abY(r:ax)(d:Int):∃q,NC r d=some q:=by
 unfold NC;rw[iT];simp only[af];have key:∀c x:Bool,∃b,((bif c then some true else some x):Option Bool)=some b:=λc x=>cO ⟨_,rfl⟩ ⟨_,rfl⟩;have⟨b,hb⟩:=key (!ek r) (decide (d<0));rw[hb];cases b with
 |true=>exact⟨_,rfl⟩
 |false=>
  simp only[af,ak];have⟨q,hq⟩:=KH (ax.mk (i64.wrap (r.x0+(min d (1048576:Int)))) (i64.wrap (r.y0+(min d (1048576:Int)))) (i64.wrap (r.x1 -(min d (1048576:Int)))) (i64.wrap (r.y1 -(min d (1048576:Int)))));rw[hq];exact⟨_,rfl⟩
theorem alR{lot:bS}(ha:lot.area.length<=900)(hn:4000002<=n)(i:Int):∃q,nC n lot i=some q:=by
 unfold nC;rw[Oe (n:=n) lot.area ha (by omega)];simp only[af];have key:∀c1 c2 c3:Bool,∃b,((bif c1 then some true else(bif c2 then some true else some c3)):Option Bool)=some b:=λc1 c2 c3=>cO ⟨_,rfl⟩ (cO ⟨_,rfl⟩ ⟨_,rfl⟩);have⟨b,hb⟩:=key (!(JG lot.area).2) (decide (i<0)) (decide (i>20));rw[hb];cases b with
 |true=>exact⟨_,rfl⟩
 |false=>
  simp only[af,ak];have⟨q,hq⟩:=abY (JG lot.area).1 i;rw[hq];simp only[af];cases q.2 with
  |false=>exact⟨_,rfl⟩
  |true=>
   have hcl:=Oa (keep:=λp q=>p&&q) lot.area [q.1];have hc:=N9 (n:=n) (a:=lot.area) (b:=[q.1]) (by omega) (by simp) (by omega) (by simp;omega) (by omega);have hA:=K8 (n:=n) (a:=(oZ (λ p q=>p&&q) lot.area [q.1]).1) (by omega) (by omega);have⟨z,hz⟩:=Xp q.1;simp only[Bool.not_true,ak,show ∀r:ax,sub [r] 0 1=[r]from λ_=>rfl,length_singleton,aD,aj,hc,af,hA,hz];cases ((oZ (λ p q=>p&&q) lot.area [q.1]).2==0)<;>exact⟨_,rfl⟩
def ir(n:Nat)(lot:bS)(i:Int):ax×Bool:=(nC n lot i).getD (⟨0,0,0,0⟩,false)
theorem ail{lot:bS}(ha:lot.area.length<=900)(hn:4000002<=n)(i:Int):nC n lot i=some (ir n lot i):=by
 have⟨q,hq⟩:=alR ha hn i;unfold ir;rw[hq];rfl
def Wc(r:ax):Int:=(oQ r).getD 0
theorem alT(r:ax):oQ r=some (Wc r):=by
 have⟨q,hq⟩:=Xp r;unfold Wc;rw[hq];rfl
def ud(lot:bS)(d6:Int)(k:Nat):aQ:=aQ.mk lot.id (Int.tmod (k:Int) 6) (i64.wrap ((i64.wrap (Int.tdiv (k:Int) 6))+1)) d6
theorem ajG(lot:bS)(v:Int)(l:List aQ)(hl:l.length<=1000000)(hn:1000<=n):iter (lD lot v) n ((0:Int),l)=some (l++(List.range 72).map (ud lot v)):=by
 refine sF (step:=lD lot v) (λ i=>((i:Int),l++(List.range i).map (ud lot v))) (s:=((0:Int),l)) 72 (l++(List.range 72).map (ud lot v)) (by simp) (λ i hi=>?_) ?_ n (by omega)
 ·have hap:bP (l++(List.range i).map (ud lot v)).length (l++(List.range i).map (ud lot v)).length 1 1 32=true:=dm (by simp;omega) (by simp only[maxLen,dM,length_map,List.length_range];omega);have hlt:decide ((i:Int)<72)=true:=by simp;omega
  simp only[lD,hlt,aj,show((6:Nat) !=0)=true from rfl,show((6:Int) !=0)=true from rfl,show ∀r:aQ,sub [r] 0 1=[r]from λ_=>rfl,length_singleton,hap,dQ,aD,aM i];rw[List.range_succ,map_append,<- aK];rfl
 ·have hlt:decide (((72:Nat):Int)<72)=false:=by simp
  simp only[lD,hlt,ak,aD,aj]
abbrev Qo:=List (lq×Int)
def IE(n:Nat)(lot:bS)(i:Nat)(s:Qo×List aQ):Qo×List aQ:=
 bif(ir n lot (i:Int)).2 then(ru (G6 (X:=xx) SI.ev) (lq.mk lot.id (i:Int)) (Wc (ir n lot (i:Int)).1) s.1,s.2++(List.range 72).map (ud lot (i:Int)))else s
def zz(n:Nat)(lot:bS)(s:Qo×List aQ):Qo×List aQ:=(List.range 21).foldl (λ s i=>IE n lot i s) s
theorem aaw(n:Nat)(lot:bS)(i:Nat)(s:Qo×List aQ):(IE n lot i s).2.length<=s.2.length+72:=by
 unfold IE;cases (ir n lot (i:Int)).2<;>simp
theorem aax(n:Nat)(lot:bS):∀(l:List Nat)(s:Qo×List aQ),(l.foldl (λ s i=>IE n lot i s) s).2.length<=s.2.length+72*l.length
 |[],s=>by simp
 |i::l,s=>by
  have h1:=aax n lot l (IE n lot i s);have h2:=aaw n lot i s;rw[foldl_cons,bI];omega
theorem ajH{lot:bS}(ha:lot.area.length<=900)(hn:4000002<=n)(s:Qo×List aQ)(hs:s.2.length<=900000):iter (lF n lot) n ((0:Int),s.1,s.2)=some (zz n lot s):=by
 have key:=fE (l:=List.range 21) (step:=lF n lot) (λ i (s:Qo×List aQ)=>((i:Int),s.1,s.2)) (λ i s=>IE n lot i s) (λ s=>s) (λ i s=>s.2.length<=900000+72*i) (λ i hi s hs=>by
  rw[List.length_range]at hi;have hlt:decide ((i:Int)<21)=true:=by simp;omega
  have hg:(List.range 21)[i]'(by rw[List.length_range];exact hi)=i:=List.getElem_range _;rw[hg];refine⟨?_,by have:=aaw n lot i s;show(IE n lot i s).2.length<=_;omega⟩;simp only[lF,hlt,aj,ail ha hn,af,IE];cases hb:(ir n lot (i:Int)).2 with
  |false=>simp only[Bool.not_false,aj,ak,aD,af,aM i]
  |true=>simp only[Bool.not_true,aj,ak,alT,af,aD,ajG (n:=n) lot (i:Int) s.2 (by omega) (by omega),aM i]) (λ s _=>by
  have hlt:decide (((List.range 21).length:Int)<21)=false:=by simp
  simp only[lF,hlt,ak,aD,aj]) n (by rw[List.length_range];omega) s (by simpa using hs)
 exact key
def RS(lot:bS)(seen:List (Int×Bool)):Bool:=(fP jp lot.id seen).getD false || (decide (lot.id<0) || decide (lot.id>1073741824))
abbrev xF:=Qo×List (Int×Bool)×List aQ
def yZ(n:Nat)(lot:bS)(s:xF):xF:=
 bif RS lot s.2.1 then s else((zz n lot (s.1,s.2.2)).1,ru jp lot.id true s.2.1,(zz n lot (s.1,s.2.2)).2)
def y5(n:Nat)(land:List bS):xF:=land.foldl (λ s lot=>yZ n lot s) ([],[],[])
theorem alU(n:Nat)(lot:bS)(s:Qo×List aQ):(zz n lot s).2.length<=s.2.length+1512:=by
 have:=aax n lot (List.range 21) s;rw[List.length_range]at this;unfold zz;omega
theorem aay(n:Nat)(lot:bS)(s:xF):(yZ n lot s).2.2.length<=s.2.2.length+1512:=by
 have:=alU n lot (s.1,s.2.2);unfold yZ;cases RS lot s.2.1
 ·exact this
 ·simp
theorem Xq(n:Nat):∀(land:List bS)(s:xF),(land.foldl (λ s lot=>yZ n lot s) s).2.2.length<=s.2.2.length+1512*land.length
 |[],s=>by simp
 |lot::l,s=>by
  have h1:=Xq n l (yZ n lot s);have h2:=aay n lot s;rw[foldl_cons,bI];omega
def dG(n:Nat)(land:List bS):List aQ:=lg (α:=aQ) (Nh vy (y5 n land).1) (y5 n land).2.2
theorem wN(n:Nat)(land:List bS):(dG n land).Perm (y5 n land).2.2:=KV (α:=aQ) (WE vy (y5 n land).1) _
theorem aaz{land:List bS}(ha:∀l∈land,l.area.length<=900)(hl:land.length<=500)(hn:4000002<=n):oU n land=some (dG n land):=by
 have key:=fE (l:=land) (step:=lG n land) (λ i (s:xF)=>((i:Int),s.1,s.2.1,s.2.2)) (λ lot s=>yZ n lot s) (λ s=>(s.1,s.2.2)) (λ i s=>s.2.2.length<=1512*i) (λ i hi s hs=>by
  refine⟨?_,by have:=aay n land[i] s;show(yZ n land[i] s).2.2.length<=_;omega⟩;simp only[lG,bO hi,aj,bq hi,af,yZ];have hk:((bif ((fP jp land[i].id s.2.1).getD false)then some true else(bif (decide (land[i].id<(0:Int)))then some true else some (decide (land[i].id>(1073741824:Int))))):Option (Bool))=some (RS land[i] s.2.1):=by
   unfold RS;cases (fP jp land[i].id s.2.1).getD false<;>cases decide (land[i].id<(0:Int))<;>rfl
  rw[hk];cases hb:RS land[i] s.2.1 with
  |true=>simp only[af,aj,aD,aM i]
  |false=>simp only[af,ak,aj,aD,ajH (n:=n) (ha _ (getElem_mem hi)) hn (s.1,s.2.2) (by show s.2.2.length<=_;omega),aM i]) (λ s _=>by simp only[lG,bW,ak,aD,aj]) n (by omega) ([],[],[]) (by simp)
 have hz:az 0 ([]:List aQ).length=true:=rfl;rw[show ((0:Nat):Int)=0 from rfl]at key;have hlen:=Xq n land ([],[],[]);have apm:(y5 n land).2.2.length<=1512*land.length:=by unfold y5;simpa using hlen
 have hS:=(wN n land).length_eq;have hps:ah5 (y5 n land).2.2 (y5 n land).1=some (dG n land,(y5 n land).1):=by exact @rI xx SI.kw SI.ev (inferInstance:Inhabited aQ) vy (y5 n land).2.2 (y5 n land).1 (show List.length (y5 n land).2.2<=_ by omega)
 have key':iter (lG n land) n ((0:Int),([]:List (lq×Int)),([]:List (Int×Bool)),([]:List aQ))=some ((y5 n land).1,(y5 n land).2.2):=key;unfold oU;rw[hz,key'];simp only[aj,af,aD,hps,<- hS,cZ]
theorem alV{lot:bS}{s:Qo×List aQ}{p:aQ}(h:p∈(zz n lot s).2):p∈s.2\/∃i k:Nat,i<21/\k<72/\(ir n lot (i:Int)).2=true/\p=ud lot (i:Int) k:=by
 have gen:∀(l:List Nat)(s:Qo×List aQ),(∀ i∈l,i<21)->p∈(l.foldl (λ s i=>IE n lot i s) s).2->p∈s.2\/∃i k:Nat,i<21/\k<72/\(ir n lot (i:Int)).2=true/\p=ud lot (i:Int) k:=by
  intro l
  induction l with
  |nil=>intro s _ h;exact .inl h
  |cons i l ih=>
   intro s hl h;rcases ih (IE n lot i s) (λ j hj=>hl j (by simp[hj])) h with h |h
   ·unfold IE at h;cases hb:(ir n lot (i:Int)).2 with
    |false=>rw[hb]at h;exact .inl h
    |true=>
     rw[hb]at h;simp only[aj,bf,mem_map,List.mem_range]at h;rcases h with h |⟨k,hk,rfl⟩
     ·exact .inl h
     ·exact .inr ⟨i,k,hl i (by simp),hk,hb,rfl⟩
   ·exact .inr h
 exact gen (List.range 21) s (λ i hi=>List.mem_range.1 hi) h
theorem aaA(k k':Int)(v:Bool):∀l:List (Int×Bool),fP jp k (ru jp k' v l)=if k=k' then some v else fP jp k l
 |[]=>by
  show(bif jp k k' then some v else fP jp k [])=_;by_cases h:k=k'
  ·subst h;simp[jp]
  ·have e2:jp k k'=false:=(by simp[jp,h]);rw[e2,aR h];rfl
 |p::l=>by
  have ih:=aaA k k' v l;show fP jp k (bif jp k' p.1 then(k',v)::l else p::ru jp k' v l)=_;by_cases h1:k'=p.1
  ·have e1:jp k' p.1=true:=(by simp[jp,h1]);rw[e1];show(bif jp k k' then some v else fP jp k l)=if k=k' then some v else(bif jp k p.1 then some p.2 else fP jp k l)
   by_cases h:k=k'
   ·subst h;simp[jp]
   ·have e2:jp k k'=false:=(by simp[jp,h]);have e3:jp k p.1=false:=(by rw[<- h1];exact e2);rw[e2,e3,aR h];rfl
  ·have e1:jp k' p.1=false:=(by simp[jp,h1]);rw[e1];show(bif jp k p.1 then some p.2 else fP jp k (ru jp k' v l))=if k=k' then some v else(bif jp k p.1 then some p.2 else fP jp k l)
   rw[ih];by_cases h:k=k'
   ·subst h;rw[e1];simp
   ·rw[aR h,aR h]
structure OfP(n:Nat)(land:List bS)(p:aQ)(lot:bS):Prop where
 fnd:land.find? (λ x=>x.id==p.lot)=some lot
 id0:0<=lot.id
 id1:lot.id<=1073741824
 ex:∃i k:Nat,i<21/\k<72/\(ir n lot (i:Int)).2=true/\p=ud lot (i:Int) k
theorem aim(n:Nat)(land:List bS):∀i,i<=land.length->(∀ p∈((land.take i).foldl (λ s lot=>yZ n lot s) (([],[],[]):xF)).2.2,∃lot,OfP n land p lot)/\
 (∀ j (hj:j<land.length),j<i->0<=land[j].id->land[j].id<=1073741824->fP jp land[j].id ((land.take i).foldl (λ s lot=>yZ n lot s) (([],[],[]):xF)).2.1=some true)
 | 0,_=>by simp
 |i+1,hi=>by
  obtain⟨h1,h2⟩:=aim n land i (by omega);rw[gG (show i<land.length by omega),List.foldl_append];generalize hs:(land.take i).foldl (λ s lot=>yZ n lot s) (([],[],[]):xF)=s at h1 h2;simp only[foldl_cons,List.foldl_nil];have hi':i<land.length:=by omega
  cases hb:RS land[i] s.2.1 with
  |true=>
   have e:yZ n land[i] s=s:=(by unfold yZ;rw[hb];rfl);rw[e];refine⟨h1,λj hj hji h0 h3=>?_⟩;rcases Nat.lt_or_ge j i with h |h
   ·exact h2 j hj h h0 h3
   ·obtain rfl:j=i:=(by omega);unfold RS at hb;have e1:decide (land[j].id<0)=false:=(by simp;omega);have e2:decide (land[j].id>1073741824)=false:=(by simp;omega);rw[e1,e2]at hb;simp only[Bool.or_false]at hb;cases hm:fP jp land[j].id s.2.1 with
    |none=>rw[hm]at hb;cases hb
    |some b=>rw[hm]at hb;simp only[Option.getD_some]at hb;rw[hb]
  |false=>
   have e:yZ n land[i] s=((zz n land[i] (s.1,s.2.2)).1,ru jp land[i].id true s.2.1,(zz n land[i] (s.1,s.2.2)).2):=(by unfold yZ;rw[hb];rfl);rw[e];simp only[RS,Bool.or_eq_false_iff,dO]at hb;obtain⟨b1,b2,b3⟩:=hb;refine⟨λ p hp=>?_,λj hj hji h0 h3=>?_⟩
   ·rcases alV hp with hp |⟨a,k,ha,hk,hbs,rfl⟩
    ·exact h1 p hp
    ·refine⟨land[i],?_,by omega,by omega,a,k,ha,hk,hbs,rfl⟩;rw[List.find?_eq_some_iff_getElem];refine⟨by simp[ud],i,hi',rfl,λj hj=>?_⟩;simp only[ud,Bool.not_eq_true',beq_eq_false_iff_ne];intro hj2;have:=h2 j (by omega) hj (by rw[hj2];omega) (by rw[hj2];omega);rw[hj2]at this;rw[this]at b1;cases b1
   ·show fP jp land[j].id (ru jp land[i].id true s.2.1)=some true;rw[aaA];by_cases hij:land[j].id=land[i].id
    ·rw[aY hij]
    ·rw[aR hij];rcases Nat.lt_or_ge j i with h |h
     ·exact h2 j hj h h0 h3
     ·obtain rfl:j=i:=(by omega);exact absurd rfl hij
theorem ajI{land:List bS}{p:aQ}(h:p∈dG n land):∃lot,OfP n land p lot:=by
 have h1:=(wN n land).mem_iff.1 h;have:=(aim n land land.length (aC _)).1 p;rw[List.take_length]at this;exact this h1
def ao9(r:ax)(p:aQ):aH:=aH.mk r.x0 r.y0 r.x1 r.y1 0 (i64.wrap (p.floors*3)) p.use (bif (p.use==(0:Int))then p.floors else 0) false
def E4(n:Nat)(lot:bS)(p:aQ):bn:=bn.mk p.lot [rC.mk [ao9 (ir n lot p.d6).1 p] []]
def RU(n:Nat)(lot:bS)(p:aQ):Bool:=(ir n lot p.d6).2&&(decide (p.lot=lot.id)&&(decide (0<=p.lot)&&(decide (p.lot<=1073741824)&&(decide (0<=p.use)&&(decide (p.use<6)&&(decide (1<=p.floors)&&decide (p.floors<=12)))))))
theorem alW{lot:bS}(ha:lot.area.length<=900)(hn:4000002<=n)(p:aQ):vF n lot p=some (bif RU n lot p then(E4 n lot p,true)else(bn.mk 0 [],false)):=by
 unfold vF;rw[ail ha hn];simp only[af];have hk:((bif (!(ir n lot p.d6).2)then some true else(bif (p.lot !=(lot.id:Int))then some true else(bif (decide (p.lot<(0:Int)))then some true else(bif (decide (p.lot>(1073741824:Int)))then some true else(bif (decide (p.use<(0:Int)))then some true else(bif (decide (p.use>=(6:Int)))then some true else(bif (decide (p.floors<(1:Int)))then some true else some (decide (p.floors>(12:Int)))))))))):Option (Bool))=some (!RU n lot p):=by
  unfold RU;have e1:(p.lot !=lot.id)=!decide (p.lot=lot.id):=by rw[j3];simp
  have e2:decide (p.lot<0)=!decide (0<=p.lot):=by rw[<- decide_not,decide_eq_decide];omega
  have e3:decide (p.lot>1073741824)=!decide (p.lot<=1073741824):=by rw[<- decide_not,decide_eq_decide];omega
  have e4:decide (p.use<0)=!decide (0<=p.use):=by rw[<- decide_not,decide_eq_decide];omega
  have e5:decide (p.use>=6)=!decide (p.use<6):=by rw[<- decide_not,decide_eq_decide];omega
  have e6:decide (p.floors<1)=!decide (1<=p.floors):=by rw[<- decide_not,decide_eq_decide];omega
  have e7:decide (p.floors>12)=!decide (p.floors<=12):=by rw[<- decide_not,decide_eq_decide];omega
  rw[e1,e2,e3,e4,e5,e6,e7];cases (ir n lot p.d6).2<;>cases decide (p.lot=lot.id)<;>cases decide (0<=p.lot)<;>cases decide (p.lot<=1073741824)<;>cases decide (0<=p.use)<;>cases decide (p.use<6)<;>cases decide (1<=p.floors)<;>rfl
 rw[hk];cases RU n lot p with
 |false=>rfl
 |true=>
  simp only[Bool.not_true,af,ak,aj,E4,ao9];cases (p.use==(0:Int))<;>rfl
theorem anm{land:List bS}{p:aQ}{lot:bS}(h:OfP n land p lot):RU n lot p=true:=by
 obtain⟨h1,h2,h3,i,k,hi,hk,hb,rfl⟩:=h;have e1:Int.tmod (k:Int) 6=((k%6:Nat):Int):=by rw[show (6:Int)=((6:Nat):Int)from rfl,<- Int.ofNat_tmod]
 have e2:Int.tdiv (k:Int) 6=((k/6:Nat):Int):=by rw[show (6:Int)=((6:Nat):Int)from rfl,<- Int.ofNat_tdiv]
 have e3:i64.wrap ((i64.wrap (Int.tdiv (k:Int) 6))+1)=((k/6+1:Nat):Int):=by rw[e2,M5 (by omega),bK (by omega)]
 simp only[RU,ud,e1,e3,hb,Bool.true_and,aL,aV];refine⟨trivial,h2,h3,?_,?_,?_,?_⟩<;>omega
theorem ano(n:Nat)(lot:bS)(p:aQ):xr (E4 n lot p):=by refine⟨⟨by simp[E4],λq hq=>?_⟩,λq hq=>?_⟩<;> · simp only[E4,aW]at hq;subst hq;simp
theorem aeD:xr (bn.mk 0 []):=by refine⟨⟨by simp,λq hq=>?_⟩,λq hq=>?_⟩<;>simp at hq
def Xr:aQ:=aQ.mk 0 0 0 0
def LR(n:Nat)(t:bU)(d:bn)(day:Int):Bool:=(CX n t d==0)&&decide (JI n t d day=[])
theorem abZ{t:bU}{d:bn}(day:Int)(ht:Bd t)(hd:xr d)(hn:Oi n):iX n t d day=some (LR n t d day):=ajF day ht hd hn
def IG(land:List bS):Prop:=(∀ l∈land,l.area.length<=900)/\land.length<=500
def wO(n:Nat)(land:List bS)(p:aQ):bn×Bool:=match land.find? λx=>x.id==p.lot with
 |none=>(bn.mk 0 [],false)
 |some lot=>bif RU n lot p then(E4 n lot p,true)else(bn.mk 0 [],false)
theorem Oj(n:Nat)(land:List bS)(p:aQ):xr (wO n land p).1:=by
 unfold wO;split
 ·exact aeD
 ·rename_i lot _;cases RU n lot p
  ·exact aeD
  ·exact ano _ _ _
theorem ain{t:bU}(h:IG t.land)(hn:4000002<=n)(p:aQ):tF n t p=some (wO n t.land p):=by
 unfold tF;have hl:=h.2;have hi:uY n t.land (λ (y1:bS×Unit)=>qP y1.1 p)=some (xB (λ x:bS=>x.id==p.lot) t.land):=gF (l:=t.land) (φ:=λ(y1:bS×Unit)=>qP y1.1 p) (λ x:bS=>x.id==p.lot) (λ _ _=>rfl) (by omega) (by omega);rw[hi];simp only[af,akQ];unfold wO;cases ha:t.land.any λx:bS=>x.id==p.lot with
 |false=>
  have:t.land.find? (λ x=>x.id==p.lot)=none:=by
   rw[List.find?_eq_none];intro x hx hc;have:=List.any_eq_false.1 ha x hx;exact this hc
  rw[this];rfl
 |true=>
  have⟨i,hi,e,hf⟩:=adG ha;rw[e,hf];simp only[Bool.not_true,ak,bq hi,af,alW (n:=n) (h.1 _ (getElem_mem hi)) hn p,show ∀k:Nat,decide ((k:Int)<0)=false from λk=>by simp]
theorem Lc{land:List bS}{p:aQ}(h:p∈dG n land):(wO n land p).2=true:=by
 have⟨lot,hp⟩:=ajI h;unfold wO;rw[hp.fnd];simp only[anm hp,aj]
def qK(n:Nat)(land:List bS)(p:aQ):rV:=rV.mk p.lot p.use p.floors p.d6 (wO n land p).1.lot (wO n land p).1.phases
theorem EU(n:Nat)(land:List bS)(h:land.length<=500):(dG n land).length<=756000:=by
 have h1:=(wN n land).length_eq;have h2:=Xq n land ([],[],[]);have h3:(y5 n land).2.2.length<=1512*land.length:=by unfold y5;simpa using h2
 omega
theorem aeE{t:bU}(h:IG t.land)(hn:4000002<=n):qw n t=some ((dG n t.land).map (qK n t.land)):=by
 have hlen:=EU n t.land h.2;unfold qw;rw[aaz h.1 h.2 hn];have hmem:∀p∈dG n t.land,(wO n t.land p).2=true:=λp hp=>Lc hp;generalize dG n t.land=L at hlen hmem;have key:=sF (step:=pI n t L) (λ i=>((i:Int),(L.take i).map (qK n t.land))) (s:=((0:Int),([]:List rV))) L.length (L.map (qK n t.land)) rfl (λ i hi=>by
  have hm:=hmem _ (getElem_mem hi);have hap:bP ((L.take i).map (qK n t.land)).length ((L.take i).map (qK n t.land)).length 1 1 64=true:=dm (by simp;omega) (by simp only[maxLen,length_map,length_take];omega);simp only[pI,bO hi,aj,aT hi,aX hi,af,ain h hn,hm,show ∀r:rV,sub [r] 0 1=[r]from λ_=>rfl,length_singleton,hap,dQ,aD,aM i];rw[gG hi,map_append];rfl) (by simp only[pI,bW,ak,aD,aj,List.take_length]) n (by omega)
 have hz:az 0 ([]:List rV).length=true:=rfl;simp only[af,hz,aj,key,cZ,aD]
def cx(t:bU)(p:bB):bU:=bU.mk p.defs p.tables p.zones p.rules p.caps p.views p.sm p.hours t.land t.bz t.windows t.built t.base
def dJ(n:Nat)(t:bU)(day:Int)(pl:bB)(p:aQ):Bool:=LR n (cx t pl) (wO n t.land p).1 day
def je(l:List aQ)(q:aQ->Bool):aQ×Bool:=match l.find? q with
 |some p=>(p,true)
 |none=>(Xr,false)
theorem anq{t:bU}{day:Int}{ps:List bB}{p:aQ}(hp:∀q∈ps,Bd (cx t q))(hl:ps.length<=1000)(hn:Oi n):iter (nW n t day ps (qK n t.land p)) n ((0:Int),([]:List Bool))=some (ps.map λq=>dJ n t day q p):=by
 have hn1:=hn.1;exact sF (step:=nW n t day ps (qK n t.land p)) (λ i=>((i:Int),(ps.take i).map λq=>dJ n t day q p)) (s:=((0:Int),([]:List Bool))) ps.length (ps.map λq=>dJ n t day q p) rfl (λ i hi=>by
  have hap:bP ((ps.take i).map λq=>dJ n t day q p).length ((ps.take i).map λq=>dJ n t day q p).length 1 1 1=true:=dm (by simp;omega) (by simp only[maxLen,length_map,length_take];omega);have hu:witness_under t ps[i]=some (cx t ps[i]):=rfl;have hL:iX n (cx t ps[i]) (bn.mk (qK n t.land p).cC (qK n t.land p).cN) day=some (dJ n t day ps[i] p):=abZ (d:=(wO n t.land p).1) day (hp _ (getElem_mem hi)) (Oj n t.land p) hn;simp only[nW,bO hi,aj,bq hi,af,hu,hL,show ∀r:Bool,sub [r] 0 1=[r]from λ_=>rfl,length_singleton,hap,dQ,aD,aM i];rw[gG hi,map_append];rfl) (by simp only[nW,bW,ak,aD,aj,List.take_length]) n (by omega)
theorem find_eq{t:bU}{day:Int}{φ:((List Bool)×Unit)->Option Bool}{ps:List bB}(q:List Bool->Bool)(hφ:∀v,v.length=ps.length->φ (v,())=some (q v))(h:IG t.land)(hp:∀q∈ps,Bd (cx t q))(hl:ps.length<=1000)(hn:Oi n):
 pU n t day φ ps=some (je (dG n t.land) λp=>q (ps.map λpl=>dJ n t day pl p)):=by
 have hn1:=hn.1;have hlen:=EU n t.land h.2;unfold pU;rw[aeE h (by omega)];generalize dG n t.land=L at hlen;have hz:az 0 ([]:List Bool).length=true:=rfl;have key:=pz (l:=L) (step:=qZ n t day φ ps (L.map (qK n t.land))) (λ i=>(i:Int)) (λ p=>q (ps.map λpl=>dJ n t day pl p)) () (λ i=>((L[i]?).getD Xr,true)) (λ i hi=>by
  have hi':i<(L.map (qK n t.land)).length:=by simpa using hi
  have hg:(L.map (qK n t.land))[i]=qK n t.land L[i]:=by simp
  simp only[qZ,bO hi',aj,aT hi',aX hi',hg,af,hz,anq (n:=n) (t:=t) (day:=day) (ps:=ps) (p:=L[i]) hp hl hn,cZ,aD,hφ _ (length_map _),aM i,dL hi,Option.getD_some];cases q (ps.map λpl=>dJ n t day pl L[i])<;>rfl) (by
  have e:L.length=(L.map (qK n t.land)).length:=by simp
  rw[e];simp only[qZ,bW,ak]) n (by omega)
 rw[show ((0:Nat):Int)=0 from rfl]at key;simp only[af,key];unfold je;rcases K9 (λ p=>q (ps.map λpl=>dJ n t day pl p)) L with ⟨i,hi,h1,h2⟩ |⟨h1,h2⟩
 ·rw[h1,h2];simp only[dL hi,Option.getD_some,iA]
 ·rw[h1,h2];rfl
theorem Xt{t:bU}{a b:bB}{day:Int}(h:IG t.land)(ha:Bd (cx t a))(hb:Bd (cx t b))(hn:Oi n):gX n t a b day=some (je (dG n t.land) λp=>!(dJ n t day a p==dJ n t day b p)):=by
 have e:=find_eq (n:=n) (t:=t) (day:=day) (φ:=λ(y1:(List Bool)×Unit)=>ve y1.1) (ps:=[a,b]) (λ v=>match v with |[x,y]=>!(x==y) |_=>false) (λ v hv=>by
  match v,hv with
  |[x,y],_=>rfl) h (λ q hq=>by simp only[aN,fu,or_false]at hq;rcases hq with rfl |rfl<;>assumption) (by simp) hn
 unfold gX;rw[show sub [a,b] 0 2=[a,b]from rfl,show az [a,b].length 2=true from rfl,e];rfl
theorem II{t:bU}{a b:bB}{day:Int}(h:IG t.land)(ha:Bd (cx t a))(hb:Bd (cx t b))(hn:Oi n):fD n t a b day=some (!(je (dG n t.land) λp=>dJ n t day a p&&!dJ n t day b p).2):=by
 have e:=find_eq (n:=n) (t:=t) (day:=day) (φ:=λ(y1:(List Bool)×Unit)=>qj y1.1) (ps:=[a,b]) (λ v=>match v with |[x,y]=>x&&!y |_=>false) (λ v hv=>by
  match v,hv with
  |[x,y],_=>cases x<;>rfl) h (λ q hq=>by simp only[aN,fu,or_false]at hq;rcases hq with rfl |rfl<;>assumption) (by simp) hn
 unfold fD;rw[show sub [a,b] 0 2=[a,b]from rfl,show az [a,b].length 2=true from rfl,e];rfl
def Xu(x a b m:Bool):Bool:=!(m==bif !(a==x)then a else b)
theorem alX{t:bU}{x a b m:bB}{day:Int}(h:IG t.land)(hx:Bd (cx t x))(ha:Bd (cx t a))(hb:Bd (cx t b))(hm:Bd (cx t m))(hn:Oi n):
 gY n t x a b m day=some (je (dG n t.land) λp=>Xu (dJ n t day x p) (dJ n t day a p) (dJ n t day b p) (dJ n t day m p)):=by
 have e:=find_eq (n:=n) (t:=t) (day:=day) (φ:=λ(y1:(List Bool)×Unit)=>vg y1.1) (ps:=[x,a,b,m]) (λ v=>match v with |[x,a,b,m]=>Xu x a b m |_=>false) (λ v hv=>by
  match v,hv with
  |[x,a,b,m],_=>cases x<;>cases a<;>cases b<;>cases m<;>rfl) h (λ q hq=>by simp only[aN,fu,or_false]at hq;rcases hq with rfl |rfl |rfl |rfl<;>assumption) (by simp) hn
 unfold gY;rw[show sub [x,a,b,m] 0 4=[x,a,b,m]from rfl,show az [x,a,b,m].length 4=true from rfl,e];rfl
theorem Ld{t:bU}{a:bB}{p:aQ}{day:Int}(h:IG t.land)(ha:Bd (cx t a))(hn:Oi n):gD n t a p day=some ((wO n t.land p).2&&dJ n t day a p):=by
 have hn1:=hn.1;have hu:witness_under t a=some (cx t a):=rfl;unfold gD;rw[ain h (by omega)];simp only[af,hu,abZ day ha (Oj n t.land p) hn];cases (wO n t.land p).2<;>rfl
theorem aeF{t:bU}{a:bB}{day:Int}(h:IG t.land)(ha:Bd (cx t a))(hn:Oi n):mR n t a day=some ((dG n t.land).map (dJ n t day a)):=by
 have hn1:=hn.1;have hlen:=EU n t.land h.2;unfold mR;rw[aeE h (by omega)];generalize dG n t.land=L at hlen;have key:=sF (step:=mI n t a day (L.map (qK n t.land))) (λ i=>((i:Int),(L.take i).map (dJ n t day a))) (s:=((0:Int),([]:List Bool))) L.length (L.map (dJ n t day a)) rfl (λ i hi=>by
  have hi':i<(L.map (qK n t.land)).length:=by simpa using hi
  have hg:(L.map (qK n t.land))[i]=qK n t.land L[i]:=by simp
  have hap:bP ((L.take i).map (dJ n t day a)).length ((L.take i).map (dJ n t day a)).length 1 1 1=true:=dm (by simp;omega) (by simp only[maxLen,length_map,length_take];omega);have hu:witness_under t a=some (cx t a):=rfl;have hL:iX n (cx t a) (bn.mk (qK n t.land L[i]).cC (qK n t.land L[i]).cN) day=some (dJ n t day a L[i]):=abZ (d:=(wO n t.land L[i]).1) day ha (Oj n t.land L[i]) hn;simp only[mI,bO hi',aj,aT hi',aX hi',hg,af,hu,hL,show ∀r:Bool,sub [r] 0 1=[r]from λ_=>rfl,length_singleton,hap,dQ,aD,aM i];rw[gG hi,map_append];rfl) (by
  have e:L.length=(L.map (qK n t.land)).length:=by simp
  rw[e];simp only[mI,bW,ak,aD,aj,<- e,List.take_length]) n (by omega)
 have hz:az 0 ([]:List Bool).length=true:=rfl;simp only[af,hz,aj,key,cZ,aD]
theorem uz(l:List aQ)(q:aQ->Bool):(∃ p,l.find? q=some p/\je l q=(p,true)/\p∈l/\q p=true)\/(je l q=(Xr,false)/\∀p∈l,q p=false):=by
 unfold je;cases h:l.find? q with
 |none=>exact .inr ⟨rfl,λp hp=>by have:=List.find?_eq_none.1 h p hp;simpa using this⟩
 |some p=>exact .inl ⟨p,rfl,rfl,List.mem_of_find?_eq_some h,List.find?_some h⟩
theorem aeG{l:List aQ}{q:aQ->Bool}(h:∀p∈l,q p=false):je l q=(Xr,false):=by
 unfold je;rw[List.find?_eq_none.2 λp hp=>by rw[h p hp];decide]
theorem ab0{l:List aQ}{q q':aQ->Bool}(h:∀p∈l,q p=q' p):je l q=je l q':=by
 unfold je;have:l.find? q=l.find? q':=by
  induction l with
  |nil=>rfl
  |cons a l ih=>rw[List.find?_cons,List.find?_cons,h a (by simp),ih λp hp=>h p (by simp[hp])]
 rw[this]
theorem Ol(j:Nat):decide (((j+1:Nat):Int)>0)=true:=by simp
theorem aeH:decide (((0:Nat):Int)>0)=false:=rfl
theorem pred_succ{j:Nat}(h:j<9223372036854775807):i64.wrap (((j+1:Nat):Int) -1)=(j:Int):=by rw[mK (by omega) (by omega)];simp
theorem Qp{i n:Nat}(h:¬i<n):decide ((i:Int)<(n:Int))=false:=by simp;omega
theorem aio(c1 c2:Bool):∃b,((bif c1 then some true else some c2):Option Bool)=some b:=cO ⟨_,rfl⟩ ⟨_,rfl⟩
theorem qs2{a0 v2:List Int}{k:Nat}(hk:k<a0.length)(hl:v2.length<=1000)(hn:2000<=n):∃w:Nat,iter (qD a0 (k:Int) v2) n (v2.length:Int)=some (w:Int)/\w<=v2.length:=by
 obtain⟨o,h1,w,rfl,h2⟩:=EH (step:=qD a0 (k:Int) v2) (λ v=>∃j:Nat,v=(j:Int)/\j<=v2.length) (λ o=>∃j:Nat,o=(j:Int)/\j<=v2.length) Int.toNat (by
  rintro v ⟨j,rfl,hj⟩;cases j with
  |zero=>simp only[qD,aeH,ak,af];exact .inr ⟨_,rfl,0,rfl,hj⟩
  |succ j=>
   have hj':j<v2.length:=hj;simp only[qD,Ol,aj,pred_succ (show j<9223372036854775807 by omega),aT hj',aX hj',bq hk,af];cases decide (v2[j]>a0[k])with
   |false=>exact .inr ⟨_,rfl,j+1,rfl,hj⟩
   |true=>exact .inl ⟨_,rfl,⟨j,rfl,by omega⟩,by omega⟩) n _ ⟨_,rfl,aC _⟩ (by omega)
 exact⟨w,h1,h2⟩
theorem qs3{r1:List Int}{w m:Nat}(hm:r1.length=m+1)(hw:w<=m)(hl:m<=1000)(hn:2000<=n):∃o,iter (qE (w:Int) r1) n (i64.wrap ((r1.length:Int) -1),r1)=some o/\o.length=r1.length:=by
 rw[hm,pred_succ (by omega)];obtain⟨o,h1,h2⟩:=EH (step:=qE (w:Int) r1) (λ v=>∃j:Nat,v.1=(j:Int)/\w<=j/\j<=m/\v.2.length=r1.length) (λ o=>o.length=r1.length) (λ v=>v.1.toNat) (by
  rintro⟨v,l⟩ ⟨j,rfl,hj,hjm,hlen⟩;simp only at hlen;by_cases h:w<j
  ·obtain⟨j,rfl⟩:∃i,j=i+1:=⟨j -1,by omega⟩;have e:decide (((j+1:Nat):Int)>(w:Int))=true:=(by simp;omega);have a1:j<r1.length:=(by omega);have a2:j<l.length:=(by omega);have a3:j+1<r1.length:=(by omega);have a4:j+1<l.length:=(by omega);simp only[qE,e,aj,pred_succ (show j<9223372036854775807 by omega),aT a1,aX a2,aT a3,aX a4,af];exact .inl ⟨_,rfl,⟨j,rfl,by omega,by omega,by simpa using hlen⟩,by simp⟩
  ·have e:decide ((j:Int)>(w:Int))=false:=(by simp;omega);simp only[qE,e,ak];exact .inr ⟨_,rfl,hlen⟩) n ((m:Int),r1) ⟨m,rfl,hw,aC _,rfl⟩ (by simp;omega)
 rw[<- hm];exact⟨o,h1,h2⟩
theorem alY{a0:List Int}(hl:a0.length<=1000)(hn:2000<=n):∃o,Ez n a0=some o/\o.length<=a0.length:=by
 obtain⟨o,h1,h2⟩:=dI (step:=vO n a0) (λ i (v:Int×List Int)=>v.1=(i:Int)/\i<=a0.length/\v.2.length<=i) (λ o=>o.length<=a0.length) a0.length (λ k v h=>h.2.1) (by
  rintro i ⟨v,l⟩ ⟨hv,hi,rj⟩;simp only at hv rj;subst hv;by_cases hlt:i<a0.length
  ·obtain⟨w,e1,hw⟩:=qs2 (n:=n) (v2:=l) hlt (by omega) hn;have hv5:∃b,((bif (decide ((w:Int)>(0:Int)))then(ck (cz (i64.wrap ((w:Int) -1)) l.length) ((bp l ((0:Nat)+(i64.wrap ((w:Int) -1)):Int)).bind λx3=>some (x3==a0[i])))else some false):Option Bool)=some b:=by
    cases w with
    |zero=>exact⟨false,rfl⟩
    |succ w=>
     have hw':w<l.length:=hw;simp only[Ol,aj,pred_succ (show w<9223372036854775807 by omega),aT hw',aX hw',af];exact⟨_,rfl⟩
   obtain⟨b,e2⟩:=hv5;have hap:bP l.length l.length 1 1 8=true:=dm (by omega) (by simp only[maxLen];omega);obtain⟨o,e3,ho⟩:=qs3 (n:=n) (r1:=l++[0]) (w:=w) (m:=l.length) (by simp) hw (by omega) hn;have hz:sub ([0]:List Int) 0 1=[0]:=rfl;have ho':o.length=l.length+1:=(by rw[ho];simp);have i1:w<(l++[0]).length:=(by simp;omega);have i2:w<o.length:=(by omega);have e4:az (l++[0]).length (o.set ((0:Nat)+(w:Int):Int).toNat a0[i]).length=true:=(by rw[List.length_set,ho];exact aD _);simp only[vO,bO hlt,aj,e1,af,e2,hz,length_singleton,hap,dQ,e3,bq hlt,aT i1,aX i2,e4,aM i];cases b with
   |true=>simp only[aj,aD,af];exact .inl ⟨_,rfl,rfl,hlt,by show l.length<=_;omega⟩
   |false=>simp only[ak,aD,af,aj];exact .inl ⟨_,rfl,rfl,hlt,by show(o.set _ _).length<=_;rw[List.length_set];omega⟩
  ·obtain rfl:i=a0.length:=(by omega);simp only[vO,bW,ak,aD,aj];exact .inr ⟨_,rfl,rj⟩) n 0 ((0:Int),([]:List Int)) ⟨rfl,Nat.zero_le _,aC _⟩ (by omega)
 have hz:az 0 ([]:List Int).length=true:=rfl;exact⟨o,by simp only[Ez,hz,aj,h1,af,cZ,aD],h2⟩
theorem anr{a:List ax}(hl:a.length<=400)(hn:2000<=n):∃o,JB n a []=some o/\o.length<=2*a.length:=by
 obtain⟨o,h1,h2⟩:=dI (step:=xS a) (λ i (v:Int×List Int)=>v.1=(i:Int)/\i<=a.length/\v.2.length=2*i) (λ o=>o.length=2*a.length) a.length (λ k v h=>h.2.1) (by
  rintro i ⟨v,l⟩ ⟨hv,hi,rj⟩;simp only at hv rj;subst hv;by_cases hlt:i<a.length
  ·have hap:bP l.length l.length 2 2 8=true:=dm (by omega) (by simp only[maxLen];omega);simp only[xS,bO hlt,aj,bq hlt,af,show ∀x y:Int,sub ([x,y]:List Int) 0 2=[x,y]from λ_ _=>rfl,bI,length_nil,Nat.zero_add,Nat.reduceAdd,hap,dQ,aD,aM i];exact .inl ⟨_,rfl,rfl,hlt,by simp;omega⟩
  ·obtain rfl:i=a.length:=(by omega);simp only[xS,bW,ak,aD,aj];exact .inr ⟨_,rfl,rj⟩) n 0 ((0:Int),([]:List Int)) ⟨rfl,Nat.zero_le _,rfl⟩ (by omega)
 obtain⟨m,rfl⟩:∃m,n=m+1:=⟨n -1,by omega⟩;have e2:iter (EA []) (m+1) ((0:Int),o)=some o:=fG (by
  have hz:decide ((0:Int)<((([]:List ax).length:Int):Int))=false:=rfl;simp only[EA,hz,ak,aD,aj])
 obtain⟨p,e3,h3⟩:=alY (n:=m+1) (a0:=o) (by omega) hn;have hz:az 0 ([]:List Int).length=true:=rfl;exact⟨p,by simp only[JB,hz,aj,h1,af,aD,e2,cZ,e3],by omega⟩
theorem qc2{a0:List ax}{k m:Nat}{r1 r2:List Int}(hk:k<a0.length)(h1:r1.length=m+1)(h2:r2.length=m+1)(hm:m<=1000)(hn:2000<=n):∃(w:Nat)(o1 o2:List Int),iter (qF a0 (k:Int) r1 r2) n ((m:Int),r1,r2)=some ((w:Int),o1,o2)/\w<=m/\o1.length=m+1/\o2.length=m+1:=by
 obtain⟨⟨o,o1,o2⟩,g1,w,rfl,g2⟩:=EH (step:=qF a0 (k:Int) r1 r2) (λ v=>∃j:Nat,v.1=(j:Int)/\j<=m/\v.2.1.length=m+1/\v.2.2.length=m+1) (λ o=>∃j:Nat,o.1=(j:Int)/\j<=m/\o.2.1.length=m+1/\o.2.2.length=m+1) (λ v=>v.1.toNat) (by
  rintro⟨v,l1,l2⟩ ⟨j,rfl,hj,hl1,hl2⟩;simp only at hl1 hl2;cases j with
  |zero=>simp only[qF,aeH,ak,af];exact .inr ⟨_,rfl,0,rfl,hj,hl1,hl2⟩
  |succ j=>
   have a1:j<r1.length:=(by omega);have a2:j<l1.length:=(by omega);have a3:j+1<r1.length:=(by omega);have a4:j+1<l1.length:=(by omega);have b1:j<r2.length:=(by omega);have b2:j<l2.length:=(by omega);have b3:j+1<r2.length:=(by omega);have b4:j+1<l2.length:=(by omega);simp only[qF,Ol,aj,pred_succ (show j<9223372036854775807 by omega),aT a1,aX a2,bq hk,aT a3,aX a4,aT b1,aX b2,aT b3,aX b4,af];cases decide (l1[j]>a0[k].y0)with
   |false=>exact .inr ⟨_,rfl,j+1,rfl,hj,hl1,hl2⟩
   |true=>exact .inl ⟨_,rfl,⟨j,rfl,by omega,by simpa using hl1,by simpa using hl2⟩,by simp⟩) n ((m:Int),r1,r2) ⟨m,rfl,aC _,h1,h2⟩ (by simp;omega)
 exact⟨w,o1,o2,g1,g2⟩
theorem qc1{a0:List ax}(x:Int)(hl:a0.length<=400)(hn:2000<=n):∃o1 o2:List Int,iter (qG n a0 x) n ((0:Int),([]:List Int),([]:List Int))=some (o1,o2)/\o1.length=o2.length/\o1.length<=a0.length:=by
 obtain⟨⟨o1,o2⟩,g1,g2⟩:=dI (step:=qG n a0 x) (λ i (v:Int×List Int×List Int)=>v.1=(i:Int)/\i<=a0.length/\v.2.1.length=v.2.2.length/\v.2.1.length<=i) (λ o=>o.1.length=o.2.length/\o.1.length<=a0.length) a0.length (λ k v h=>h.2.1) (by
  rintro i ⟨v,l1,l2⟩ ⟨hv,hi,rj,hl2⟩;simp only at hv rj hl2;subst hv;by_cases hlt:i<a0.length
  ·have hap:bP l1.length l1.length 1 1 8=true:=dm (by omega) (by simp only[maxLen];omega);have SU:bP l2.length l2.length 1 1 8=true:=rj ▸ hap;have hz:sub ([0]:List Int) 0 1=[0]:=rfl;obtain⟨w,p1,p2,e1,hw,hp1,hp2⟩:=qc2 (n:=n) (a0:=a0) (k:=i) (m:=l1.length) (r1:=l1++[0]) (r2:=l2++[0]) hlt (by simp) (by simp[rj]) (by omega) hn;have i1:w<(l1++[0]).length:=(by simp;omega);have i2:w<p1.length:=(by omega);have i3:w<(l2++[0]).length:=(by simp;omega);have i4:w<p2.length:=(by omega);have f1:∀y:Int,az (l1++[0]).length (p1.set ((0:Nat)+(w:Int):Int).toNat y).length=true:=λy=>(by rw[List.length_set,hp1];exact Ea (by simp));have f2:∀y:Int,az (l2++[0]).length (p2.set ((0:Nat)+(w:Int):Int).toNat y).length=true:=λy=>(by rw[List.length_set,hp2];exact Ea (by simp[rj]));have⟨b,hb⟩:=aio (decide (a0[i].x0>(x:Int))) (decide (a0[i].x1<=(x:Int)));simp only[qG,bO hlt,aj,bq hlt,af,hb,hz,length_singleton,hap,SU,dQ,e1,aT i1,aX i2,aT i3,aX i4,f1,f2,aM i];cases b with
   |true=>simp only[aj,aD,af];exact .inl ⟨_,rfl,rfl,hlt,rj,by show l1.length<=_;omega⟩
   |false=>
    simp only[ak,aj,aD,af];exact .inl ⟨_,rfl,rfl,hlt,by simp only[List.length_set];omega,by simp only[List.length_set];omega⟩
  ·obtain rfl:i=a0.length:=(by omega);simp only[qG,bW,ak,aD,aj];exact .inr ⟨_,rfl,rj,hl2⟩) n 0 ((0:Int),([]:List Int),([]:List Int)) ⟨rfl,Nat.zero_le _,rfl,aC _⟩ (by omega)
 exact⟨o1,o2,g1,g2⟩
theorem aeI{a0:List ax}(x:Int)(hl:a0.length<=400)(hn:2000<=n):∃o,yS n a0 x=some o/\o.length<=2*a0.length:=by
 have⟨w4,w5,g1,g2,g3⟩:=qc1 (n:=n) (a0:=a0) x hl hn;obtain⟨o,h1,h2⟩:=dI (step:=qH w4 w5) (λ i (v:Int×List Int)=>v.1=(i:Int)/\i<=w4.length/\v.2.length<=2*i) (λ o=>o.length<=2*w4.length) w4.length (λ k v h=>h.2.1) (by
  rintro i ⟨v,l⟩ ⟨hv,hi,rj⟩;simp only at hv rj;subst hv;by_cases hlt:i<w4.length
  ·have xd:i<w5.length:=(by omega);have hap:bP l.length l.length 2 2 8=true:=dm (by omega) (by simp only[maxLen];omega);have hs:∀x y:Int,sub ([x,y]:List Int) 0 2=[x,y]:=λ_ _=>rfl;cases hL:l.length with
   |zero=>
    have hz0:decide ((l.length:Int)>0)=false:=(by rw[hL];rfl);simp only[qH,bO hlt,aj,hz0,ak,af,aT hlt,aX hlt,aT xd,aX xd,hs,bI,length_nil,Nat.zero_add,Nat.reduceAdd,hap,dQ,aD,aM i];exact .inl ⟨_,rfl,rfl,hlt,by simp;omega⟩
   |succ m=>
    have hm:m<l.length:=(by omega);have hpos:decide ((l.length:Int)>0)=true:=(by rw[hL];exact Ol m);have hpred:i64.wrap ((l.length:Int) -1)=(m:Int):=(by rw[hL];exact pred_succ (by omega));have f1:∀y:Int,az l.length (l.set ((0:Nat)+(m:Int):Int).toNat y).length=true:=λy=>(by rw[List.length_set];exact aD _);simp only[qH,bO hlt,aj,hpos,hpred,af,aT hlt,aX hlt,aT xd,aX xd,aT hm,aX hm,hs,bI,length_nil,Nat.zero_add,Nat.reduceAdd,hap,dQ,f1,aD,aM i];cases decide (w4[i]<=l[m])with
    |true=>exact .inl ⟨_,rfl,rfl,hlt,by show(l.set _ _).length<=_;rw[List.length_set];omega⟩
    |false=>exact .inl ⟨_,rfl,rfl,hlt,by show(l++_).length<=_;simp;omega⟩
  ·obtain rfl:i=w4.length:=(by omega);simp only[qH,bW,ak,aD,aj];exact .inr ⟨_,rfl,rj⟩) n 0 ((0:Int),([]:List Int)) ⟨rfl,Nat.zero_le _,aC _⟩ (by omega)
 have hz:az 0 ([]:List Int).length=true:=rfl;exact⟨o,by simp only[yS,hz,aj,g1,h1,af,cZ,aD],by omega⟩
theorem ajK{a0:List Int}(hl:a0.length<=1000)(hn:2000<=n):∃o,Am n a0 [] 0=some o/\o.length<=a0.length:=by
 obtain⟨o,h1,h2⟩:=dI (step:=ug a0 [] 0) (λ i (v:Int×Int×Bool×List Int)=>v.1=(i:Int)/\v.2.1=0/\i<=a0.length/\v.2.2.2.length<=i) (λ o=>o.length<=a0.length) a0.length (λ k v h=>h.2.2.1) (by
  rintro i ⟨v,v2,v3,l⟩ ⟨hv,hv2,hi,rj⟩;simp only at hv hv2 rj;subst hv;subst hv2;have z1:decide ((0:Int)<((([]:List Int).length:Int):Int))=false:=rfl;have z2:decide ((0:Int)>=((([]:List Int).length:Int):Int))=true:=rfl;by_cases hlt:i<a0.length
  ·have hap:bP l.length l.length 1 1 8=true:=dm (by omega) (by simp only[maxLen];omega);have be:∀x:Int,(x==x)=true:=λx=>(by simp);have⟨b,hb⟩:=aio (Int.tmod ((i+1:Nat):Int) 2==(1:Int)) (Int.tmod (0:Int) 2==(1:Int));simp only[ug,bO hlt,aj,z1,z2,bq hlt,af,be,ak,aM i,show((2:Nat) !=0)=true from rfl,show((2:Int) !=0)=true from rfl,hb,show((0:Int)==1)=false from rfl,show((0:Int)==2)=false from rfl,show ∀x:Int,sub ([x]:List Int) 0 1=[x]from λ_=>rfl,length_singleton,hap,dQ,aD];cases (!(b==v3))with
   |true=>exact .inl ⟨_,rfl,rfl,rfl,hlt,by show(l++_).length<=_;simp;omega⟩
   |false=>exact .inl ⟨_,rfl,rfl,rfl,hlt,by show l.length<=_;omega⟩
  ·obtain rfl:i=a0.length:=(by omega);simp only[ug,bW,ak,z1,af,aD,aj];exact .inr ⟨_,rfl,rj⟩) n 0 ((0:Int),(0:Int),false,([]:List Int)) ⟨rfl,rfl,Nat.zero_le _,aC _⟩ (by omega)
 have hz:az 0 ([]:List Int).length=true:=rfl;exact⟨o,by simp only[Am,hz,aj,h1,af,cZ,aD],h2⟩
theorem Wa{α O:Type}{l:List α}{step:Int->Option (Int⊕(Unit⊕O))}(h1:∀i (hi:i<l.length),(∃ o,step (i:Int)=some (.inr (.inr o)))\/step (i:Int)=some (.inl ((i+1:Nat):Int)))
 (h2:step (l.length:Int)=some (.inr (.inl ()))) (hn:l.length<n):(∃ o,iter step n (0:Int)=some (.inr o))\/iter step n (0:Int)=some (.inl ()):=by
 obtain⟨o,g1,_⟩:=dI (step:=step) (λ i (v:Int)=>v=(i:Int)/\i<=l.length) (λ _=>True) l.length (λ k v h=>h.2) (by
  rintro i v ⟨rfl,hi⟩;by_cases hlt:i<l.length
  ·rcases h1 i hlt with ⟨o,h⟩ |h
   ·exact .inr ⟨_,h,trivial⟩
   ·exact .inl ⟨_,h,rfl,hlt⟩
  ·obtain rfl:i=l.length:=(by omega);exact .inr ⟨_,h2,trivial⟩) n 0 0 ⟨rfl,Nat.zero_le _⟩ (by omega)
 rcases o with ⟨⟩ |o
 ·exact .inr g1
 ·exact .inl ⟨o,g1⟩
theorem aoC{a b:List Int}(hl:a.length<=1000)(hn:2000<=n):∃r,NK n a b=some r:=by
 unfold NK;by_cases h:a.length=b.length
 ·have e:((a.length:Int) !=(b.length:Int))=false:=by simp[h]
  rw[e];simp only[ak];rcases Wa (l:=a) (n:=n) (step:=Ao a b) (λ i hi=>by
   simp only[Ao,bO hi,aj,bq hi,bq (show i<b.length by omega),af,aM i];cases (a[i] !=b[i]'(by omega))with
   |true=>exact .inl ⟨_,rfl⟩
   |false=>exact .inr rfl) (by simp only[Ao,bW,ak]) (by omega)with ⟨o,h⟩ |h
  ·rw[h];exact⟨_,rfl⟩
  ·rw[h];exact⟨_,rfl⟩
 ·have e:((a.length:Int) !=(b.length:Int))=true:=by simpa using λe:(a.length:Int)=(b.length:Int)=>h (by omega)
  rw[e];exact⟨_,rfl⟩
theorem qf2{r1:List Int}{k:Nat}{v3:List ax}{q:Nat}(hk:k+1<r1.length)(hl:r1.length<=1000)(h3:v3.length<=100000)(hn:200000<=n):∃o,iter (wK r1 (k:Int) v3) n ((q:Int),v3)=some o/\o.length=v3.length:=by
 refine EH (step:=wK r1 (k:Int) v3) (λ v=>∃j:Nat,v.1=(j:Int)/\v.2.length=v3.length) (λ o=>o.length=v3.length) (λ v=>v3.length -v.1.toNat) (by
  rintro⟨v,l⟩ ⟨j,rfl,hl⟩;simp only at hl;by_cases hlt:j<v3.length
  ·have hj:j<l.length:=(by omega);simp only[wK,bO hlt,aj,aM k,aT hk,aX hk,aT hlt,aX hj,af,aM j];exact .inl ⟨_,rfl,⟨j+1,rfl,by simpa using hl⟩,by simp only[Int.toNat_natCast];omega⟩
  ·simp only[wK,Qp hlt,ak];exact .inr ⟨_,rfl,hl⟩) n ((q:Int),v3) ⟨q,rfl,rfl⟩ (by omega)
theorem qf3{r1 r4:List Int}{k:Nat}{v3:List ax}(hk:k+1<r1.length)(hl:r1.length<=1000)(h4:r4.length<=1000)(h3:v3.length<=100000)(hn:200000<=n):∃o,iter (wL r1 (k:Int) r4) n ((0:Int),v3)=some o/\o.length<=v3.length+r4.length:=by
 refine EH (step:=wL r1 (k:Int) r4) (λ v=>∃j:Nat,v.1=(j:Int)/\j<=r4.length/\v.2.length<=v3.length+j) (λ o=>o.length<=v3.length+r4.length) (λ v=>r4.length -v.1.toNat) (by
  rintro⟨v,l⟩ ⟨j,rfl,hj,hl⟩;simp only at hl;by_cases hlt:j+1<r4.length
  ·have hj:j<r4.length:=(by omega);have hk':k<r1.length:=(by omega);have hap:bP l.length l.length 1 1 32=true:=dm (by omega) (by simp only[maxLen];omega);have w2:i64.wrap ((j:Int)+2)=((j+2:Nat):Int):=(by rw[dU (by omega) (by omega)];omega);simp only[wL,aM j,bO hlt,aj,aM k,aT hk,aX hk,aT hk',aX hk',aT hj,aX hj,aT hlt,aX hlt,af,show ∀x:ax,sub ([x]:List ax) 0 1=[x]from λ_=>rfl,length_singleton,hap,dQ,aD,w2];exact .inl ⟨_,rfl,⟨j+2,rfl,by omega,by simp;omega⟩,by simp only[Int.toNat_natCast];omega⟩
  ·simp only[wL,aM j,Qp hlt,ak,aD,aj];exact .inr ⟨_,rfl,by omega⟩) n ((0:Int),v3) ⟨0,rfl,Nat.zero_le _,by simp⟩ (by simp;omega)
theorem aoD{a:List ax}(hl:a.length<=4)(hn:200000<=n):∃o,NN n a [] 0=some o:=by
 obtain⟨r1,e1,h1⟩:=anr (n:=n) (a:=a) (by omega) (by omega);obtain⟨o,g1,_⟩:=dI (step:=Ap n a [] 0 r1) (λ i (v:Int×Int×List ax×List Int)=>(∃ q:Nat,v.1=(q:Int))/\v.2.1=(i:Int)/\i<=r1.length/\v.2.2.1.length<=8*i/\v.2.2.2.length<=8) (λ _=>True) r1.length (λ k v h=>h.2.2.1) (by
  rintro i ⟨v1,v2,v3,v4⟩ ⟨⟨q,hq⟩,hv,hi,h3,h4⟩;simp only at hq hv h3 h4;subst hq;subst hv;by_cases hlt:i+1<r1.length
  ·have hi':i<r1.length:=(by omega);obtain⟨r2,e2,h2⟩:=aeI (n:=n) (a0:=a) r1[i] (by omega) (by omega);obtain⟨r3,e3,h3'⟩:=aeI (n:=n) (a0:=[]) r1[i] (by simp) (by omega);obtain rfl:r3=[]:=List.eq_nil_of_length_eq_zero (by simpa using h3');obtain⟨r4,e4,h4'⟩:=ajK (n:=n) (a0:=r2) (by omega) (by omega);obtain⟨b5,e5⟩:=aoC (n:=n) (a:=r4) (b:=v4) (by omega) (by omega);have hv5:∃b,((bif (decide ((i:Int)>(0:Int)))then(bif (decide ((r4.length:Int)>(0:Int)))then some b5 else some false)else some false):Option Bool)=some b:=cO (cO ⟨_,rfl⟩ ⟨_,rfl⟩) ⟨_,rfl⟩;obtain⟨b,e6⟩:=hv5;obtain⟨o2,f2,k2⟩:=qf2 (n:=n) (r1:=r1) (k:=i) (v3:=v3) (q:=q) hlt (by omega) (by omega) hn;obtain⟨o3,f3,k3⟩:=qf3 (n:=n) (r1:=r1) (r4:=r4) (k:=i) (v3:=v3) hlt (by omega) (by omega) (by omega) hn;have e7:az v3.length o2.length=true:=Ea k2.symm;simp only[Ap,aM i,bO hlt,aj,aT hi',aX hi',af,e2,e3,cZ,aD,e4,e5,e6,f2,f3,e7];cases b with
   |true=>exact .inl ⟨_,rfl,⟨q,rfl⟩,rfl,by omega,by show o2.length<=_;omega,h4⟩
   |false=>exact .inl ⟨_,rfl,⟨_,rfl⟩,rfl,by omega,by show o3.length<=_;omega,by show r4.length<=_;omega⟩
  ·simp only[Ap,aM i,Qp hlt,ak,aD,aj];exact .inr ⟨_,rfl,trivial⟩) n 0 ((0:Int),(0:Int),([]:List ax),([]:List Int)) ⟨⟨0,rfl⟩,rfl,Nat.zero_le _,aC _,Nat.zero_le _⟩ (by omega)
 have hz:az 0 ([]:List ax).length=true:=rfl;have hz2:az 0 ([]:List Int).length=true:=rfl;exact⟨o,by simp only[NN,e1,af,hz,hz2,aj,g1,cZ,aD]⟩
theorem ant{a:List ax}(hl:a.length<=4)(hn:200000<=n):∃b,JD n a=some b:=by
 have⟨f,hf⟩:=aoD (n:=n) hl hn;have hO:∃o,Pa n a=some o:=by
  unfold Pa;have xi:decide ((a.length:Int)>400)=false:=by simp;omega
  rcases Wa (l:=a) (n:=n) (step:=JC a) (λ i hi=>by
   have hr:∃b,vN a[i]=some b:=by
    unfold vN;exact cO (cO (cO (cO (cO ⟨_,rfl⟩ ⟨_,rfl⟩) ⟨_,rfl⟩) ⟨_,rfl⟩) ⟨_,rfl⟩) ⟨_,rfl⟩
   obtain⟨b,hb⟩:=hr;simp only[JC,bO hi,aj,bq hi,af,hb,aM i];cases b with
   |false=>exact .inl ⟨_,rfl⟩
   |true=>exact .inr rfl) (by simp only[JC,bW,ak]) (by omega)with ⟨o,h⟩ |h
  ·rw[h];exact⟨_,rfl⟩
  ·rw[h];simp only[eD,xi,ak,hf,af,cZ,aD,aj];exact cO ⟨_,rfl⟩ ⟨_,rfl⟩
 obtain⟨o,ho⟩:=hO;unfold JD;rw[ho];simp only[af,cZ,aD,aj];refine cO ?_ ⟨_,rfl⟩;have hS:∃r,NP n o.1 a=some r:=by
  unfold NP;by_cases h:o.1.length=a.length
  ·have e:((o.1.length:Int) !=(a.length:Int))=false:=(by simp[h]);rw[e];simp only[ak];rcases Wa (l:=o.1) (n:=n) (step:=Aq o.1 a) (λ i hi=>by
    simp only[Aq,bO hi,aj,bq hi,bq (show i<a.length by omega),af,aM i];generalize (!((o.1[i].x0==((a[i]'(by omega)).x0:Int))&&((o.1[i].y0==((a[i]'(by omega)).y0:Int))&&((o.1[i].x1==((a[i]'(by omega)).x1:Int))&&((o.1[i].y1==((a[i]'(by omega)).y1:Int))&&true)))))=c;cases c with
    |true=>exact .inl ⟨_,rfl⟩
    |false=>exact .inr rfl) (by simp only[Aq,bW,ak]) (by omega)with ⟨o,h⟩ |h
   ·rw[h];exact⟨_,rfl⟩
   ·rw[h];exact⟨_,rfl⟩
  ·have e:((o.1.length:Int) !=(a.length:Int))=true:=(by simpa using λe:(o.1.length:Int)=(a.length:Int)=>h (by omega));rw[e];exact⟨_,rfl⟩
 obtain⟨r,hr⟩:=hS;rw[hr];exact⟨_,rfl⟩
theorem al0{a:List ax}(hl:a.length<=4)(hn:200000<=n):∃b,EB n a=some b:=by
 unfold EB;cases a with
 |nil=>exact⟨_,rfl⟩
 |cons r l=>
  have⟨b,hb⟩:=ant (n:=n) hl hn;have e:((((r::l).length:Nat):Int)==0)=false:=by simp;omega
  rw[hb,e];simp only[ak,af];refine cO ⟨_,rfl⟩ ?_;have g0:bp (r::l) 0=some r:=rfl;obtain⟨o,g1,_⟩:=dI (step:=vP (r::l) r) (λ i (v:Int×Int×Int×Int×Int)=>v.1=(i:Int)/\i<=(r::l).length) (λ _=>True) (r::l).length (λ k v h=>h.2) (by
   rintro i ⟨v,v3,v4,v5,v6⟩ ⟨hv,hi⟩;simp only at hv;subst hv;by_cases hlt:i<(r::l).length
   ·simp only[vP,bO hlt,aj,bq hlt,af,aM i];exact .inl ⟨_,rfl,rfl,hlt⟩
   ·obtain rfl:i=(r::l).length:=(by omega);simp only[vP,bW,ak];exact .inr ⟨_,rfl,trivial⟩) n 1 ((1:Int),r.x0,r.y0,r.x1,r.y1) ⟨rfl,by simp⟩ (by omega)
  simp only[g0,af,g1];exact⟨_,rfl⟩
theorem Xv{α:Type}{l:List α}{step:Int->Option (Int⊕(Unit⊕Bool))}{good:α->Prop}(h1:∀i (hi:i<l.length),step (i:Int)=some (.inr (.inr false))\/(step (i:Int)=some (.inl ((i+1:Nat):Int))/\good l[i]))
 (h2:step (l.length:Int)=some (.inr (.inl ()))) (hn:l.length<n):iter step n (0:Int)=some (.inr false)\/(iter step n (0:Int)=some (.inl ())/\∀x∈l,good x):=by
 obtain⟨o,g1,g2⟩:=dI (step:=step) (λ i (v:Int)=>v=(i:Int)/\i<=l.length/\∀x∈l.take i,good x) (λ o=>o= .inr false\/(o= .inl ()/\∀x∈l,good x)) l.length (λ k v h=>h.2.1) (by
  rintro i v ⟨rfl,hi,hall⟩;by_cases hlt:i<l.length
  ·rcases h1 i hlt with h |⟨h,hg⟩
   ·exact .inr ⟨_,h,.inl rfl⟩
   ·refine .inl ⟨_,h,rfl,hlt,λx hx=>?_⟩;rw[List.take_add_one,dL hlt,bf]at hx;rcases hx with hx |hx
    ·exact hall x hx
    ·simp at hx;subst hx;exact hg
  ·obtain rfl:i=l.length:=(by omega);exact .inr ⟨_,h2,.inr ⟨rfl,λx hx=>hall x (by rw[List.take_length];exact hx)⟩⟩) n 0 0 ⟨rfl,Nat.zero_le _,by simp⟩ (by omega)
 rcases g2 with rfl |⟨rfl,g2⟩
 ·exact .inl g1
 ·exact .inr ⟨g1,g2⟩
theorem ab1(hn:4000002<=n):∀(m:Nat)(e:bZ),(toE e).wt<m->(toE e).wt<=4000000->∃r,vk n m e=some r
 | 0,_,h,_=>absurd h (by omega)
 |m+1,e,h,hw=>by
  have hla:=abR e;show ∃r,Ey n (vk n m) e=some r;simp only[Ey];obtain⟨o,g1,_⟩:=dI (step:=Al (vk n m) e) (λ i (v:Int×Int)=>v.2=(i:Int)/\i<=e.args.length) (λ _=>True) e.args.length (λ k v h=>h.2) (by
   rintro i ⟨v1,v2⟩ ⟨hv,hi⟩;simp only at hv;subst hv;by_cases hlt:i<e.args.length
   ·have hwx:=Xs (getElem_mem hlt);obtain⟨r,hr⟩:=ab1 hn m e.args[i] (by omega) (by omega);simp only[Al,bO hlt,aj,bq hlt,af,hr,aM i];exact .inl ⟨_,rfl,rfl,hlt⟩
   ·obtain rfl:i=e.args.length:=(by omega);simp only[Al,bW,ak];exact .inr ⟨_,rfl,trivial⟩) n 0 ((1:Int),(0:Int)) ⟨rfl,Nat.zero_le _⟩ (by omega)
  rw[g1];exact⟨_,rfl⟩
structure y7(p:bB):Prop where
 defs:ii p.defs
 rules:∀r∈p.rules,(toE (j0 r)).wt<=4000000
structure Om(p:bB):Prop where
 defs:p.defs.length<=5
 rules:p.rules.length<=5
 rule:∀r∈p.rules,Xc r
 tabs:p.tables.length<=4/\∀t∈p.tables,t.rows.length<=8
 zones:p.zones.length<=5
 caps:p.caps.length<=3
theorem agN{p:bB}(hp:y7 p)(hn:4000002<=n):∃b,wJ n p=some b/\(b=true->Om p):=by
 have no:∃b,some false=some b/\(b=true->Om p):=⟨false,rfl,λh=>(by cases h)⟩;unfold wJ;have hk:((bif (decide ((p.defs.length:Int)>(5:Int)))then some true else(bif (decide ((p.rules.length:Int)>(5:Int)))then some true else(bif (decide ((p.tables.length:Int)>(4:Int)))then some true else(bif (decide ((p.zones.length:Int)>(5:Int)))then some true else some (decide ((p.caps.length:Int)>(3:Int))))))):Option (Bool))=some (decide (p.defs.length>5\/p.rules.length>5\/p.tables.length>4\/p.zones.length>5\/p.caps.length>3)):=by
  have c:∀a k:Nat,decide ((a:Int)>(k:Int))=decide (a>k):=λa k=>by rw[decide_eq_decide];omega
  have e1:=c p.defs.length 5;have e2:=c p.rules.length 5;have e3:=c p.tables.length 4;have e4:=c p.zones.length 5;have e5:=c p.caps.length 3;rw[show decide ((p.defs.length:Int)>(5:Int))=_ from e1,show decide ((p.rules.length:Int)>(5:Int))=_ from e2,show decide ((p.tables.length:Int)>(4:Int))=_ from e3,show decide ((p.zones.length:Int)>(5:Int))=_ from e4,show decide ((p.caps.length:Int)>(3:Int))=_ from e5,Bool.decide_or,Bool.decide_or,Bool.decide_or,Bool.decide_or];cases decide (p.defs.length>5)<;>cases decide (p.rules.length>5)<;>cases decide (p.tables.length>4)<;>cases decide (p.zones.length>5)<;>rfl
 rw[hk];by_cases hc:p.defs.length>5\/p.rules.length>5\/p.tables.length>4\/p.zones.length>5\/p.caps.length>3
 ·rw[decide_eq_true hc];exact no
 ·rw[decide_eq_false hc];simp only[af,ak];have s1:=Xv (l:=p.defs) (n:=n) (step:=tV n p) (good:=λ_=>True) (λ i hi=>by
   obtain⟨r,hr⟩:=ab1 hn n _ (show _<n by have:=hp.defs.body (getElem_mem hi);omega) (hp.defs.body (getElem_mem hi));have hr':Ig n (bZ.mk p.defs[i].io p.defs[i].lw p.defs[i].kq p.defs[i].ia p.defs[i].eo)=some r:=hr;simp only[tV,bO hi,aj,bq hi,af,hr',aM i];cases decide (r>30)with
   |true=>exact .inl rfl
   |false=>exact .inr ⟨rfl,trivial⟩) (by simp only[tV,bW,ak]) (by omega)
  have s2:=Xv (l:=p.rules) (n:=n) (step:=tX n p) (good:=Xc) (λ i hi=>by
   obtain⟨r,hr⟩:=ab1 hn n (j0 p.rules[i]) (show _<n by have:=hp.rules _ (getElem_mem hi);omega) (hp.rules _ (getElem_mem hi));have hr':Ig n (bZ.mk p.rules[i].kB p.rules[i].mn p.rules[i].mm p.rules[i].i9 p.rules[i].fW)=some r:=hr;simp only[tX,bO hi,aj,bq hi,af,hr',aM i];by_cases c1:r>30
   ·simp only[c1,decide_true,aj,af];exact .inl rfl
   ·by_cases c2:(p.rules[i].zones.length:Int)>5
    ·simp only[c1,c2,decide_true,decide_false,aj,ak,af];exact .inl rfl
    ·by_cases c3:(p.rules[i].except.length:Int)>5
     ·simp only[c1,c2,c3,decide_true,decide_false,aj,ak,af];exact .inl rfl
     ·simp only[c1,c2,c3,decide_false,ak,af];exact .inr ⟨trivial,by omega,by omega⟩) (by simp only[tX,bW,ak]) (by omega)
  have s3:=Xv (l:=p.tables) (n:=n) (step:=tY p) (good:=λt=>t.rows.length<=8) (λ i hi=>by
   simp only[tY,bO hi,aj,bq hi,af,aM i];by_cases c1:(p.tables[i].rows.length:Int)>8
   ·simp only[c1,decide_true,aj];exact .inl rfl
   ·simp only[c1,decide_false,ak];exact .inr ⟨trivial,by omega⟩) (by simp only[tY,bW,ak]) (by omega)
  have s4:=Xv (l:=p.zones) (n:=n) (step:=tZ p) (good:=λ_=>True) (λ i hi=>by
   simp only[tZ,bO hi,aj,bq hi,af,aM i];cases decide ((p.zones[i].corners.length:Int)>12)with
   |true=>exact .inl rfl
   |false=>exact .inr ⟨rfl,trivial⟩) (by simp only[tZ,bW,ak]) (by omega)
  have s5:=Xv (l:=p.caps) (n:=n) (step:=uf p) (good:=λ_=>True) (λ i hi=>by
   simp only[uf,bO hi,aj,bq hi,af,aM i];cases decide ((p.caps[i].corners.length:Int)>12)with
   |true=>exact .inl rfl
   |false=>exact .inr ⟨rfl,trivial⟩) (by simp only[uf,bW,ak]) (by omega)
  rcases s1 with h |⟨h,_⟩
  ·simpa only[h,iA]using no
  rcases s2 with h2 |⟨h2,g2⟩
  ·simpa only[h,h2,iA,eD]using no
  rcases s3 with h3 |⟨h3,g3⟩
  ·simpa only[h,h2,h3,iA,eD]using no
  rcases s4 with h4 |⟨h4,_⟩
  ·simpa only[h,h2,h3,h4,iA,eD]using no
  rcases s5 with h5 |⟨h5,_⟩
  ·simpa only[h,h2,h3,h4,h5,iA,eD]using no
  simp only[h,h2,h3,h4,h5,eD];exact⟨true,rfl,λ_=>⟨by omega,by omega,g2,⟨by omega,g3⟩,by omega,by omega⟩⟩
theorem ajL(lot:bS)(hn:4000002<=n):∃b,EC n lot=some b/\(b=true->lot.area.length<=4):=by
 unfold EC;by_cases h:(lot.area.length:Int)>4
 ·simp only[h,decide_true,aj];exact⟨false,rfl,λh=>(by cases h)⟩
 ·obtain⟨r,hr⟩:=al0 (n:=n) (a:=lot.area) (by omega) (by omega);simp only[h,decide_false,ak,hr,af];have:∃b,((bif (!r.2)then some true else(bif (decide ((i64.wrap (r.1.x1 -r.1.x0))<=(4:Int)))then some true else some (decide ((i64.wrap (r.1.y1 -r.1.y0))<=(4:Int))))):Option Bool)=some b:=cO ⟨_,rfl⟩ (cO ⟨_,rfl⟩ ⟨_,rfl⟩);obtain⟨b,hb⟩:=this;exact⟨b,hb,λ_=>by omega⟩
def m5(t:bU):bB:=bB.mk t.ci t.b8 t.b7 t.bj t.ct t.cj t.cD t.cm
structure RX(t:bU):Prop where
 land:t.land.length<=2/\∀l∈t.land,l.area.length<=4
 zg:t.bz.length<=3/\∀e∈t.bz,e.area.length<=4
 built:t.built.length<=6
theorem al1{t:bU}(hp:y7 (m5 t))(hn:4000002<=n):∃b,EG n t=some b/\(b=true->Om (m5 t)/\RX t):=by
 have no:∃b,some false=some b/\(b=true->Om (m5 t)/\RX t):=⟨false,rfl,λh=>(by cases h)⟩;have⟨b,hb,hf⟩:=agN hp hn;have hb':wJ n (bB.mk t.ci t.b8 t.b7 t.bj t.ct t.cj t.cD t.cm)=some b:=hb;unfold EG;rw[hb'];cases b with
 |false=>exact no
 |true=>
  simp only[af,Bool.not_true,ak];by_cases c1:(t.land.length:Int)>2
  ·simp only[c1,decide_true,aj,af];exact no
  by_cases c2:(t.bz.length:Int)>3
  ·simp only[c1,c2,decide_true,decide_false,aj,ak,af];exact no
  by_cases c3:(t.built.length:Int)>6
  ·simp only[c1,c2,c3,decide_true,decide_false,aj,ak,af];exact no
  simp only[c1,c2,c3,decide_false,ak,af];have s1:=Xv (l:=t.land) (n:=n) (step:=ED n t) (good:=λl=>l.area.length<=4) (λ i hi=>by
   have⟨b,hb,h4⟩:=ajL (n:=n) t.land[i] hn;simp only[ED,bO hi,aj,bq hi,af,hb,aM i];cases b with
   |false=>exact .inl rfl
   |true=>exact .inr ⟨rfl,h4 rfl⟩) (by simp only[ED,bW,ak]) (by omega)
  have s2:=Xv (l:=t.bz) (n:=n) (step:=EF t) (good:=λe=>e.area.length<=4) (λ i hi=>by
   simp only[EF,bO hi,aj,bq hi,af,aM i];by_cases c1:(t.bz[i].area.length:Int)>4
   ·simp only[c1,decide_true,aj];exact .inl rfl
   ·simp only[c1,decide_false,ak];exact .inr ⟨trivial,by omega⟩) (by simp only[EF,bW,ak]) (by omega)
  rcases s1 with h |⟨h,g1⟩
  ·simpa only[h,iA]using no
  rcases s2 with h2 |⟨h2,g2⟩
  ·simpa only[h,h2,iA,eD]using no
  simp only[h,h2,eD];exact⟨true,rfl,λ_=>⟨hf rfl,⟨by omega,g1⟩,⟨by omega,g2⟩,by omega⟩⟩
def GP(t:bU)(i:Nat):Int×(List fH)×(List cu)×(List dV)×(List bX)×(List fZ)×(List eX)×(List bT)×Int×(List bS)×(List jh)×(List Eg)×(List iE)×(List bR):=
 ((i:Int),t.ci,t.b8,t.b7,t.bj,t.ct,t.cj,t.cD,t.cm,t.land,t.bz,t.windows,t.built,t.base)
theorem al2{t:bU}{l:List bB}(hp:y7 (m5 t))(hl:∀p∈l,y7 p)(hll:l.length<=1000)(hn:4000002<=n):∃b,Uw n t l=some b/\(b=true->∀p∈l,Om p/\RX t):=by
 have no:∃b,some false=some b/\(b=true->∀p∈l,Om p/\RX t):=⟨false,rfl,λh=>(by cases h)⟩;unfold Uw
 obtain⟨o,g1,g2⟩:=dI (step:=rH n l) (λ i v=>i<=l.length/\(∃ u:bU,v=GP u i/\y7 (m5 u)/\u.land=t.land/\u.bz=t.bz/\u.built=t.built)/\∀p∈l.take i,Om p/\RX t)
  (λ o=>o= .inr false\/∃u:bU,o= .inl (GP u 0).2/\y7 (m5 u)/\∀p∈l,Om p/\RX t) l.length (λ k v h=>h.1) (by
  rintro i v ⟨hi,⟨u,rfl,hz,e1,e2,e3⟩,hall⟩;have hst:rH n l (GP u i)=rH n l ((i:Int),u.ci,u.b8,u.b7,u.bj,u.ct,u.cj,u.cD,u.cm,u.land,u.bz,u.windows,u.built,u.base):=rfl;rw[hst];by_cases hlt:i<l.length
  ·have hz':y7 (m5 (cx u l[i])):=hl _ (getElem_mem hlt);have⟨b,hb,hf⟩:=al1 (n:=n) (t:=cx u l[i]) hz' hn;have hb':EG n (bU.mk l[i].defs l[i].tables l[i].zones l[i].rules l[i].caps l[i].views l[i].sm l[i].hours u.land u.bz u.windows u.built u.base)=some b:=hb;simp only[rH,bO hlt,aj,bq hlt,af,hb',aM i];cases b with
   |false=>exact .inr ⟨_,rfl,.inl rfl⟩
   |true=>
    have⟨f1,f2⟩:=hf rfl;refine .inl ⟨_,rfl,hlt,⟨cx u l[i],rfl,hz',e1,e2,e3⟩,λp hp=>?_⟩;rw[List.take_add_one,dL hlt,bf]at hp;rcases hp with hp |hp
    ·exact hall p hp
    ·simp at hp;subst hp;refine⟨f1,⟨?_,?_,?_⟩⟩
     ·rw[<- e1];exact f2.land
     ·rw[<- e2];exact f2.zg
     ·rw[<- e3];exact f2.built
  ·obtain rfl:i=l.length:=(by omega);simp only[rH,bW,ak];refine .inr ⟨_,rfl,.inr ⟨u,rfl,hz,λp hp=>hall p (by rw[List.take_length];exact hp)⟩⟩) n 0 (GP t 0) ⟨Nat.zero_le _,⟨t,rfl,hp,rfl,rfl,rfl⟩,by simp⟩ (by omega)
 have g1':iter (rH n l) n ((0:Int),t.ci,t.b8,t.b7,t.bj,t.ct,t.cj,t.cD,t.cm,t.land,t.bz,t.windows,t.built,t.base)=some o:=g1;rw[g1'];rcases g2 with rfl |⟨u,rfl,hz,hall⟩
 ·exact no
 ·have⟨b,hb,_⟩:=al1 (n:=n) (t:=u) hz hn;refine⟨b,?_,λ_=>hall⟩;simp only[GP,eD];have hb':EG n (bU.mk u.ci u.b8 u.b7 u.bj u.ct u.cj u.cD u.cm u.land u.bz u.windows u.built u.base)=some b:=hb;rw[hb'];rfl
theorem anu{t:bU}{p:bB}(hz:y7 p)(hf:Om p)(ht:RX t)(hr:∀l∈t.land,l.from_.length*8<=140737488355328):Bd (cx t p) where
 lots:=λl hl=>⟨by have:=ht.land.2 l hl;omega,hr l hl⟩
 land:=by have:=ht.land.1;show t.land.length<=_;omega
 zg:=⟨by have:=ht.zg.1;show t.bz.length<=_;omega,λe he=>by have:=ht.zg.2 e he;omega⟩
 built:=by have:=ht.built;show t.built.length<=_;omega
 zones:=by have:=hf.zones;show p.zones.length<=_;omega
 caps:=by have:=hf.caps;show p.caps.length<=_;omega
 rules:=by have:=hf.rules;show p.rules.length<=_;omega
 rule:=λr hr=>⟨hf.rule r hr,hz.rules r hr⟩
 plan:=⟨hz.defs,by have:=hf.tabs.1;show p.tables.length<=_;omega,λx hx=>by have:=hf.tabs.2 x hx;omega⟩
theorem al3{t:bU}(ht:RX t):IG t.land:=⟨λ l hl=>by have:=ht.land.2 l hl;omega,by have:=ht.land.1;omega⟩
def ym(x y:aQ):Bool:=(x.lot==(y.lot:Int))&&((x.use==(y.use:Int))&&((x.floors==(y.floors:Int))&&((x.d6==(y.d6:Int))&&true)))
theorem JJ(x y:aQ):ym x y=true↔x=y:=by
 cases x;cases y;simp[ym]
theorem al4(x:aQ):ym x x=true:=(JJ x x).2 rfl
structure apa(n:Nat)(t:bU)(l:List bB):Prop where
 land:IG t.land
 plans:∀p∈l,Bd (cx t p)
 n:Oi n
theorem agO{t:bU}{a b:bB}{day:Int}{l:List bB}(h:apa n t l)(ha:a∈l)(hb:b∈l):
 iter (iB n t a b day (je (dG n t.land) λp=>!(dJ n t day a p==dJ n t day b p)) (dG n t.land)) n (false,(0:Int))=some (.inl (je (dG n t.land) λp=>!(dJ n t day a p==dJ n t day b p)).2):=by
 have hn:=h.n;have hn1:=hn.1;have hlen:=EU n t.land h.land.2;have hd:∀p∈dG n t.land,(wO n t.land p).2=true:=λp hp=>Lc hp;have hA:∀p∈dG n t.land,gD n t a p day=some (dJ n t day a p):=λp hp=>by rw[Ld h.land (h.plans a ha) hn,hd p hp];rfl
 have hB:∀p∈dG n t.land,gD n t b p day=some (dJ n t day b p):=λp hp=>by rw[Ld h.land (h.plans b hb) hn,hd p hp];rfl
 generalize dG n t.land=L at hlen hA hB;clear hd;have hc:=uz L λp=>!(dJ n t day a p==dJ n t day b p);generalize hr:je L (λ p=>!(dJ n t day a p==dJ n t day b p))=r at hc
 obtain⟨o,g1,g2⟩:=dI (step:=iB n t a b day r L) (λ k (v:Bool×Int)=>v.2=(k:Int)/\k<=L.length/\((v.1=false/\∀j (hj:j<L.length),j<k->(!(dJ n t day a L[j]==dJ n t day b L[j]))=false)\/(v.1=true/\r.2=true)))
  (λ o=>o= .inl r.2) L.length (λ k v h=>h.2.1) (by
  rintro k ⟨m,v⟩ ⟨hv,hk,hm⟩;simp only at hv hm;subst hv;rcases hm with ⟨rfl,hall⟩ |⟨rfl,hr2⟩
  ·by_cases hlt:k<L.length
   ·have hm:=getElem_mem hlt;simp only[iB,bO hlt,aj,Bool.not_false,af,aT hlt,aX hlt,hA _ hm,hB _ hm,aM k];have hv5:((bif r.2 then some ((L[k].lot==(r.1.lot:Int))&&((L[k].use==(r.1.use:Int))&&((L[k].floors==(r.1.floors:Int))&&((L[k].d6==(r.1.d6:Int))&&true))))else some false):Option Bool)=some (!(dJ n t day a L[k]==dJ n t day b L[k])):=by
     rcases hc with ⟨p,hf,rfl,hp,hq⟩ |⟨rfl,hnone⟩
     ·show some (ym L[k] p)=_;congr 1;cases hqk:!(dJ n t day a L[k]==dJ n t day b L[k])with
      |false=>
       cases he:ym L[k] p with
       |false=>rfl
       |true=>
        rw[JJ]at he;rw[<- he,hqk]at hq;cases hq
      |true=>
       rw[JJ];have:L.find? (λ p=>!(dJ n t day a p==dJ n t day b p))=some L[k]:=by
        rw[List.find?_eq_some_iff_getElem];exact⟨hqk,k,hlt,rfl,λj hj=>by rw[hall j (by omega) hj];rfl⟩
       rw[this]at hf;injection hf
     ·rw[hnone _ hm];rfl
    rw[hv5];simp only[af,beq_self_eq_true,Bool.not_true,ak];cases hqk:!(dJ n t day a L[k]==dJ n t day b L[k])with
    |false=>
     refine .inl ⟨_,rfl,rfl,hlt,.inl ⟨rfl,λj hj hjk=>?_⟩⟩;rcases Nat.lt_or_ge j k with h |h
     ·exact hall j hj h
     ·obtain rfl:j=k:=(by omega);exact hqk
    |true=>
     refine .inl ⟨_,rfl,rfl,hlt,.inr ⟨rfl,?_⟩⟩;rcases hc with ⟨p,hf,rfl,hp,hq⟩ |⟨rfl,hnone⟩
     ·rfl
     ·rw[hnone _ hm]at hqk;cases hqk
   ·obtain rfl:k=L.length:=(by omega);simp only[iB,bW,ak,af];refine .inr ⟨_,rfl,?_⟩;rcases hc with ⟨p,hf,rfl,hp,hq⟩ |⟨rfl,hnone⟩
    ·obtain⟨i,hi,rfl⟩:=List.getElem_of_mem hp;rw[hall i hi hi]at hq;cases hq
    ·rfl
  ·have:((bif (decide ((k:Int)<(L.length:Int)))then some (!true)else some false):Option Bool)=some false:=(by cases decide ((k:Int)<(L.length:Int))<;>rfl);simp only[iB,this,af,ak];exact .inr ⟨_,rfl,by rw[hr2]⟩) n 0 (false,(0:Int)) ⟨rfl,Nat.zero_le _,.inl ⟨rfl,λj hj h=>absurd h (by omega)⟩⟩ (by omega)
 rw[g1,g2]
theorem n42:Oi 5000003:=⟨aC _,by omega⟩
structure Wk(t:bU):Prop where
 plan:y7 (m5 t)
 yW:∀l∈t.land,l.from_.length*8<=140737488355328
theorem Oo(hs:CK 5000003=some true)(t:bU)(a b:bB)(day:Int)(ht:Wk t)(ha:y7 a)(hb:y7 b):mU 5000003 t a b day=some true:=by
 have hmem:∀p∈[a,b],y7 p:=λp hp=>by simp only[aN,fu,or_false]at hp;rcases hp with rfl |rfl<;>assumption
 obtain⟨few,hf,Su⟩:=al2 (n:=5000003) (t:=t) (l:=[a,b]) ht.plan hmem (by simp) (by omega);unfold mU;rw[hs,show sub [a,b] 0 2=[a,b]from rfl,show az [a,b].length 2=true from rfl,hf];simp only[af,aj];cases few with
 |false=>rfl
 |true=>
  have hF:=Su rfl;have hW:apa 5000003 t [a,b]:=⟨al3 (hF a (by simp)).2,λp hp=>anu (hmem p hp) (hF p hp).1 (hF p hp).2 ht.yW,n42⟩;have hA:=hW.plans a (by simp);have hB:=hW.plans b (by simp);have hn1:=n42.1;have e1:=Xt (day:=day) hW.land hA hB n42;have e2:=Xt (day:=day) hW.land hB hA n42;have e3:=II (day:=day) hW.land hA hB n42;have e4:=II (day:=day) hW.land hB hA n42;have e5:=aaz (n:=5000003) (land:=t.land) hW.land.1 hW.land.2 (by omega);have loop:=agO (day:=day) hW (a:=a) (b:=b) (by simp) (by simp);have sw:(je (dG 5000003 t.land) λp=>!(dJ 5000003 t day b p==dJ 5000003 t day a p))=je (dG 5000003 t.land) λp=>!(dJ 5000003 t day a p==dJ 5000003 t day b p):=ab0 λp _=>by cases dJ 5000003 t day a p<;>cases dJ 5000003 t day b p<;>rfl
  rw[sw]at e2;have hc:=uz (dG 5000003 t.land) λp=>!(dJ 5000003 t day a p==dJ 5000003 t day b p);have h1:=uz (dG 5000003 t.land) λp=>dJ 5000003 t day a p&&!dJ 5000003 t day b p;have h2:=uz (dG 5000003 t.land) λp=>dJ 5000003 t day b p&&!dJ 5000003 t day a p;generalize hr:(je (dG 5000003 t.land) λp=>!(dJ 5000003 t day a p==dJ 5000003 t day b p))=r at hc e1 e2 loop;generalize (je (dG 5000003 t.land) λp=>dJ 5000003 t day a p&&!dJ 5000003 t day b p)=r5 at h1 e3;generalize (je (dG 5000003 t.land) λp=>dJ 5000003 t day b p&&!dJ 5000003 t day a p)=r6 at h2 e4;simp only[Bool.not_true,ak,e1,e2,e3,e4,e5,af,loop,eD,aj];have pe:∀x:aQ,((x.lot==(x.lot:Int))&&((x.use==(x.use:Int))&&((x.floors==(x.floors:Int))&&((x.d6==(x.d6:Int))&&true))))=true:=al4;have be:∀x:Bool,(x==x)=true:=λx=>by cases x<;>rfl
  simp only[pe,be,Bool.not_true,ak];rcases hc with ⟨p,_,rfl,hp,hq⟩ |⟨rfl,hnone⟩
  ·have hne:(!r5.2)=true->(!r6.2)=false:=by
    intro h5;rcases h1 with ⟨_,_,rfl,_⟩ |⟨rfl,n1⟩
    ·cases h5
    ·rcases h2 with ⟨_,_,rfl,_⟩ |⟨rfl,n2⟩
     ·rfl
     ·have:=n1 p hp;have:=n2 p hp;cases hv:dJ 5000003 t day a p<;>cases hw:dJ 5000003 t day b p<;>simp_all
   cases h5:!r5.2 with
   |false=>rfl
   |true=>rw[hne h5];rfl
  ·have h5:r5.2=false:=by
    rcases h1 with ⟨p,_,rfl,hp,hq⟩ |⟨rfl,_⟩
    ·have:=hnone p hp;cases hv:dJ 5000003 t day a p<;>cases hw:dJ 5000003 t day b p<;>simp_all
    ·rfl
   have h6:r6.2=false:=by
    rcases h2 with ⟨p,_,rfl,hp,hq⟩ |⟨rfl,_⟩
    ·have:=hnone p hp;cases hv:dJ 5000003 t day a p<;>cases hw:dJ 5000003 t day b p<;>simp_all
    ·rfl
   rw[h5,h6];rfl
def eK:List bS:=[bS.mk 1 0 [ax.mk 0 0 4 4] []]
def ey:bU:=bU.mk [] [] [] [] [] [] [] 0 eK [] [] [] []
def iY(k:Int):bB:=bB.mk [] [] [] [(bX.mk (⟨#[97]⟩) ([]) ([]) 0 0 0 false 0 12 0 (⟨#[]⟩) (⟨#[]⟩) [(bZ.mk 1 0 (⟨#[104,101,105,103,104,116]⟩) (⟨#[]⟩) ([])),(bZ.mk 0 k (⟨#[]⟩) (⟨#[]⟩) ([]))] 0 0 0 0 0 0 0)] [] [] [] 0
theorem anv(k:Int):fC k=some (iY k):=rfl
theorem Be(k:Int):Bd (cx ey (iY k)) where
 lots:=λl hl=>by
  have hl:l∈eK:=hl;simp only[eK,aW]at hl;subst hl;exact⟨by decide,by decide⟩
 land:=by show eK.length<=1000;decide
 zg:=⟨Nat.zero_le _,λe he=>by have he:e∈([]:List jh):=he;simp at he⟩
 built:=Nat.zero_le _
 zones:=Nat.zero_le _
 caps:=Nat.zero_le _
 rules:=by show 1<=100;decide
 rule:=λr hr=>by
  have hr:r∈(iY k).rules:=hr;simp only[iY,aW]at hr;subst hr;exact⟨⟨Nat.zero_le _,Nat.zero_le _⟩,Nat.le_of_ble_eq_true (by kernel_rfl)⟩
 plan:=⟨Nat.le_of_ble_eq_true (by kernel_rfl),⟨Nat.zero_le _,λx hx=>by have hx:x∈([]:List cu):=hx;simp at hx⟩⟩
theorem IJ:IG ey.land:=⟨λ l hl=>by
 have hl:l∈eK:=hl;simp only[eK,aW]at hl;subst hl;decide,by show eK.length<=500;decide⟩
def SB(k:Int)(p:aQ):Bool:=dJ 5000003 ey 0 (iY k) p
def lv:List aQ:=(List.range 2).flatMap λ(i:Nat)=>(List.range 72).map λ(k:Nat)=>aQ.mk 1 ((k%6:Nat):Int) ((k/6+1:Nat):Int) (i:Int)
def IH:Qo:=[(lq.mk 1 0,16),(lq.mk 1 1,4)]
theorem aip:((y5 5000003 eK).1,(y5 5000003 eK).2.2)=(IH,lv):=by kernel_rfl
def uD:bS:=bS.mk 1 0 [ax.mk 0 0 4 4] []
def uI(p:aQ):bn:=(wO 5000003 eK p).1
set_option maxRecDepth 100000 in
theorem anw:(lv.all λp=>p.lot==1&&(CX 5000003 (cx ey (iY 0)) (uI p)==0&&!J1 (cx ey (iY 0)) (uI p)))=true:=by kernel_rfl
set_option maxRecDepth 100000 in
theorem aoE:(lv.all λp=>((kC 5000003 (il (cx ey (iY 0))) uD (uI p)).bind λms=>(ms[4]?).map λe=>e.n)==some (p.floors*3))=true:=by kernel_rfl
def IF(k:Int):bX:=bX.mk (⟨#[97]⟩) ([]) ([]) 0 0 0 false 0 12 0 (⟨#[]⟩) (⟨#[]⟩) [(bZ.mk 1 0 (⟨#[104,101,105,103,104,116]⟩) (⟨#[]⟩) ([])),(bZ.mk 0 k (⟨#[]⟩) (⟨#[]⟩) ([]))] 0 0 0 0 0 0 0
def Mz(e1 e2 e3 e4 e5 e6 e7 e8 e9:Int):List bR:=[⟨⟨#[97,114,101,97]⟩,e1⟩,⟨⟨#[99,111,118,101,114]⟩,e2⟩,⟨⟨#[102,108,111,111,114]⟩,e3⟩,⟨⟨#[102,108,111,111,114,115]⟩,e4⟩,⟨⟨#[104,101,105,103,104,116]⟩,e5⟩,⟨⟨#[104,111,109,101,115]⟩,e6⟩,⟨⟨#[114,117,110,111,102,102]⟩,e7⟩,⟨CW,e8⟩,⟨⟨#[116,114,97,102,102,105,99]⟩,e9⟩]
def tU:List Int:=[3,5,6,7,9]
def C3:List Int:=[1,2,3,4,5,6,7,8,9,10,11,12]
theorem al8(e1 e2 e3 e4 e6 e7 e8 e9:Int):(tU.all λk=>C3.all λf=>(vJ 5000003 (il (cx ey (iY 0))) (Mz e1 e2 e3 e4 (f*3) e6 e7 e8 e9) [] (j0 (IF k))==some (bif decide (f*3<=k)then 1 else 0)))=true:=by kernel_rfl
theorem apb{k:Int}(hk:k∈tU){p:aQ}(hp:p∈lv)(hf:p.floors∈C3):SB k p=decide (p.floors*3<=k):=by
 have h1:=all_eq_true.1 anw p hp;have h2:=all_eq_true.1 aoE p hp;simp only[aL,beq_iff_eq,Bool.not_eq_true']at h1 h2;obtain⟨hl,HE,hea⟩:=h1;have hD:xr (uI p):=Oj _ _ _;have Se:uy (cx ey (iY k)) (uI p)=uD:=by
  have hd:(uI p).lot=1:=by
   have he:CX 5000003 (cx ey (iY 0)) (uI p)=0:=HE;unfold CX at he;cases hc:(jo (cx ey (iY 0)).land (uI p).lot).2 with
   |false=>rw[hc]at he;cases he
   |true=>
    have:jo eK (uI p).lot=if (1:Int)=(uI p).lot then(uD,true)else(MY,false):=by
     unfold jo eK;simp only[List.find?_cons,List.find?_nil];by_cases h:(1:Int)=(uI p).lot
     ·have hb:((1:Int)==(uI p).lot)=true:=(by simpa using h);rw[aY h,hb];rfl
     ·have hb:((1:Int)==(uI p).lot)=false:=(by simpa using h);rw[aR h,hb]
    have hc':(jo eK (uI p).lot).2=true:=hc;rw[this]at hc';by_cases h:(1:Int)=(uI p).lot
    ·exact h.symm
    ·rw[aR h]at hc';cases hc'
  show(jo eK (uI p).lot).1=_;rw[hd];rfl
 obtain⟨e1,e2,e3,e4,e5,e6,e7,e8,Lz⟩:=anX (n:=5000003) (p:=il (cx ey (iY 0))) (lot:=uD) (d:=uI p) ⟨Nat.zero_lt_succ _,Nat.zero_le _,λx hx=>by have hx:x∈([]:List cu):=hx;simp at hx⟩ (by decide) hD.1 (by omega);have hms:kC 5000003 (il (cx ey (iY 0))) uD (uI p)=some (Mz e1 e2 e3 e4 e5 e6 e7 (uq (mX uD) (fI (uI p))) e8):=Lz [];have h5:e5=p.floors*3:=by
  rw[hms]at h2;have:some e5=some (p.floors*3):=h2;injection this
 have hev:=all_eq_true.1 (all_eq_true.1 (al8 e1 e2 e3 e4 e6 e7 (uq (mX uD) (fI (uI p))) e8) k hk) p.floors hf;rw[beq_iff_eq]at hev;have Sa:kC 5000003 (il (cx ey (iY k))) uD (uI p)=some (Mz e1 e2 e3 e4 (p.floors*3) e6 e7 (uq (mX uD) (fI (uI p))) e8):=h5 ▸ hms;have hz:uw (cx ey (iY k)) uD=[]:=rfl;have hb:zt 5000003 (cx ey (iY k)) uD (uI p) (IF k)=!decide (p.floors*3<=k):=by
  have ht:MD 5000003 (cx ey (iY k)) uD (uI p) (IF k)=!decide (p.floors*3<=k):=by
   unfold MD;rw[Sa,hz];have Sx:vJ 5000003 (il (cx ey (iY k))) (Mz e1 e2 e3 e4 (p.floors*3) e6 e7 (uq (mX uD) (fI (uI p))) e8) [] (j0 (IF k))=_:=hev;simp only[af,Sx,Option.getD_some];cases decide (p.floors*3<=k)<;>rfl
  unfold zt;exact ht
 have hap:applied (cx ey (iY k)) uD 0=[IF k]:=rfl;have HD:CX 5000003 (cx ey (iY k)) (uI p)=0:=HE;have SD:J1 (cx ey (iY k)) (uI p)=false:=hea;show LR 5000003 (cx ey (iY k)) (uI p) 0=_;unfold LR JI;rw[HD,Se,hap,SD];unfold Lb;simp only[foldl_cons,List.foldl_nil,hb];cases decide (p.floors*3<=k)<;>rfl
theorem agP:(lv.all λp=>C3.contains p.floors)=true:=by kernel_rfl
theorem rM{k:Int}(hk:k∈tU){p:aQ}(hp:p∈lv):SB k p=decide (p.floors*3<=k):=
 apb hk hp (by have:=all_eq_true.1 agP p hp;simpa using this)
theorem aeJ:(y5 5000003 eK).1=IH:=congrArg Prod.fst aip
theorem aeK:(y5 5000003 eK).2.2=lv:=congrArg Prod.snd aip
theorem UC{p:aQ}:p∈dG 5000003 eK↔p∈lv:=by rw[(wN 5000003 eK).mem_iff,aeK]
def Wg(x y:aQ):Bool:=Nh vy IH x y
theorem anx(x:aQ):Wg x x=false:=(WE vy IH).irrefl x
theorem agQ:List.Pairwise (α:=aQ) (λ x y=>Wg y x=false) (dG 5000003 eK):=by
 have:=M7 (α:=aQ) (WE vy (y5 5000003 eK).1) (y5 5000003 eK).2.2;rw[aeJ]at this;have e:dG 5000003 eK=lg (α:=aQ) (Nh vy IH) (y5 5000003 eK).2.2:=by unfold dG;rw[aeJ]
 rw[e];exact this
theorem JK{q q':aQ->Bool}(hq:∀p∈lv,q p=q' p){p0:aQ}(h0:(lv.any λp=>ym p p0)=true)(h1:q' p0=true)(h2:(lv.all λp=>!q' p || (ym p p0 || Wg p0 p))=true):je (dG 5000003 eK) q=(p0,true):=by
 obtain⟨p1,hp1,he⟩:=List.any_eq_true.1 h0;rw[JJ]at he;subst he;have hmem:=UC.2 hp1;have hs:=agQ;have hin:∀p∈dG 5000003 eK,p∈lv:=λp hp=>UC.1 hp;generalize dG 5000003 eK=L at hmem hs hin;rcases uz L q with ⟨p,hf,hr,hp,hqp⟩ |⟨_,hn⟩
 ·have hpr:=hin p hp;rw[hq p hpr]at hqp;have:=all_eq_true.1 h2 p hpr;rw[hqp,Bool.not_true,Bool.false_or,Bool.or_eq_true]at this;rcases this with h |h
  ·rw[JJ]at h;rw[hr,h]
  ·exfalso;obtain⟨_,i,hi,rfl,hbef⟩:=List.find?_eq_some_iff_getElem.1 hf;obtain⟨j,hj,rfl⟩:=List.getElem_of_mem hmem;rcases Nat.lt_trichotomy i j with hij |hij |hij
   ·rw[List.pairwise_iff_getElem]at hs;rw[hs i j hi hj hij]at h;cases h
   ·subst hij;rw[anx]at h;cases h
   ·have:=hbef j hij;rw[hq _ (hin _ hmem),h1]at this;cases this
 ·have:=hn p1 hmem;rw[hq p1 hp1,h1]at this;cases this
theorem Xw{q:aQ->Bool}(hq:∀p∈lv,q p=false):je (dG 5000003 eK) q=(Xr,false):=aeG λp hp=>hq p (UC.1 hp)
def SC(k:Int)(p:aQ):Bool:=decide (p.floors*3<=k)
theorem anY(a b:Int)(ha:a∈tU)(hb:b∈tU):gX 5000003 ey (iY a) (iY b) 0=some (je (dG 5000003 eK) λp=>!(SB a p==SB b p)):=Xt IJ (Be a) (Be b) n42
theorem anz:gX 5000003 ey (iY 6) (iY 9) 0=some (aQ.mk 1 0 3 1,true):=by rw[anY 6 9 (by decide) (by decide),JK (q':=λp=>!(SC 6 p==SC 9 p)) (p0:=aQ.mk 1 0 3 1) (λ p hp=>by rw[rM (by decide) hp,rM (by decide) hp];rfl) (by kernel_rfl) (by kernel_rfl) (by kernel_rfl)]
theorem anA:gX 5000003 ey (iY 6) (iY 7) 0=some (Xr,false):=by
 rw[anY 6 7 (by decide) (by decide),Xw λp hp=>by
  rw[rM (by decide) hp,rM (by decide) hp];have e:decide (p.floors*3<=6)=decide (p.floors*3<=7):=by rw[decide_eq_decide];omega
  rw[e];cases decide (p.floors*3<=7)<;>rfl]
theorem V2(x a b m:Int):gY 5000003 ey (iY x) (iY a) (iY b) (iY m) 0=some (je (dG 5000003 eK) λp=>Xu (SB x p) (SB a p) (SB b p) (SB m p)):=alX IJ (Be x) (Be a) (Be b) (Be m) n42
theorem ajM:gY 5000003 ey (iY 6) (iY 9) (iY 3) (iY 6) 0=some (aQ.mk 1 0 2 1,true):=by rw[V2,JK (q':=λp=>Xu (SC 6 p) (SC 9 p) (SC 3 p) (SC 6 p)) (p0:=aQ.mk 1 0 2 1) (λ p hp=>by rw[rM (by decide) hp,rM (by decide) hp,rM (by decide) hp];rfl) (by kernel_rfl) (by kernel_rfl) (by kernel_rfl)]
theorem ajN:gY 5000003 ey (iY 6) (iY 9) (iY 3) (iY 9) 0=some (aQ.mk 1 0 2 1,true):=by rw[V2,JK (q':=λp=>Xu (SC 6 p) (SC 9 p) (SC 3 p) (SC 9 p)) (p0:=aQ.mk 1 0 2 1) (λ p hp=>by rw[rM (by decide) hp,rM (by decide) hp,rM (by decide) hp];rfl) (by kernel_rfl) (by kernel_rfl) (by kernel_rfl)]
theorem ajO:gY 5000003 ey (iY 6) (iY 9) (iY 6) (iY 9) 0=some (Xr,false):=by rw[V2,Xw λp _=>by cases SB 6 p<;>cases SB 9 p<;>rfl]
theorem anZ(a b:Int):fD 5000003 ey (iY a) (iY b) 0=some (!(je (dG 5000003 eK) λp=>SB a p&&!SB b p).2):=II IJ (Be a) (Be b) n42
theorem anB:fD 5000003 ey (iY 6) (iY 9) 0=some true:=by
 rw[anZ,Xw λp hp=>by
  rw[rM (by decide) hp,rM (by decide) hp];by_cases h:p.floors*3<=6
  ·have h2:p.floors*3<=9:=(by omega);simp[h2]
  ·simp[h]]
 rfl
theorem anC:fD 5000003 ey (iY 9) (iY 6) 0=some false:=by
 rw[anZ,JK (q':=λp=>SC 9 p&&!SC 6 p) (p0:=aQ.mk 1 0 3 1) (λ p hp=>by rw[rM (by decide) hp,rM (by decide) hp];rfl) (by kernel_rfl) (by kernel_rfl) (by kernel_rfl)];rfl
theorem air:aQ.mk 1 0 2 1∈lv:=by
 have:(lv.any λp=>ym p (aQ.mk 1 0 2 1))=true:=by kernel_rfl
 obtain⟨p,hp,he⟩:=List.any_eq_true.1 this;rw[JJ]at he;rw[<- he];exact hp
theorem an0(k:Int)(hk:k∈tU):gD 5000003 ey (iY k) (aQ.mk 1 0 2 1) 0=some (decide (6<=k)):=by
 have:=Ld (n:=5000003) (p:=aQ.mk 1 0 2 1) (day:=0) IJ (Be k) n42;rw[this];have h1:(wO 5000003 ey.land (aQ.mk 1 0 2 1)).2=true:=Lc (UC.2 air);have h2:dJ 5000003 ey 0 (iY k) (aQ.mk 1 0 2 1)=decide (2*3<=k):=rM hk air;rw[h1,h2];rfl
theorem aoF:∃l,mR 5000003 ey (iY 6) 0=some l/\l.length=144:=by
 refine⟨_,aeF IJ (Be 6) n42,?_⟩;rw[length_map];show(dG 5000003 eK).length=144;rw[(wN 5000003 eK).length_eq,aeK];rfl
theorem anD:CK 5000003=some true:=by
 have a1:=anz;have a2:=anA;have a3:=ajM;have a4:=ajN;have a5:=ajO;have a6:=anB;have a7:=anC;have a8:=an0 6 (by decide);have a9:=an0 5 (by decide);obtain⟨l,b1,b2⟩:=aoF;have hs:∀r:ax,sub [r] 0 1=[r]:=λ_=>rfl;have hs2:∀r:bS,sub [r] 0 1=[r]:=λ_=>rfl;simp only[ey,eK]at a1 a2 a3 a4 a5 a6 a7 a8 a9 b1;simp only[CK,anv,af,hs,hs2,length_singleton,aD,aj,a1,a2,a3,a4,a5,a6,a7,a8,a9,b1,b2];rfl
theorem Qq(t:bU)(a b:bB)(day:Int)(ht:Wk t)(ha:y7 a)(hb:y7 b):mU 5000003 t a b day=some true:=Oo anD t a b day ht ha hb
mutual
theorem anE:∀g:bZ,(toE g).wt<=jw (qO g)
 |⟨op,n,s,key,args⟩=>by
  have:=Oq args;simp only[toE,ET.wt,qO,jw,nq];omega
theorem Oq:∀l:List bZ,ET.te (Ia l)<=AP (sU l)
 |[]=>by simp[Ia,ET.te]
 |x::xs=>by
  have h1:=anE x;have h2:=Oq xs;simp only[Ia,ET.te,sU,AP];omega
end
theorem JL:∀l:List fH,rh (l.map toD)<=AP (l.map Ef)
 |[]=>by simp[rh]
 |x::xs=>by
  have h1:=JL xs;have h2:=Oq x.eo;simp only[rh]at h1;simp only[aF,rh,List.foldr_cons,toD,ET.wt,AP,Ef,jw,nq,<- sV];omega
theorem ajP(t:bU):rh (t.ci.map toD)<=jw (Ju t):=by
 have:=JL t.ci;simp only[Ju,jw,nq];omega
theorem Ot{r:List Tree}:∀{l:List (List Tree)},r∈l->jw r<=AP l
 |x::l,h=>by
  rw[AP];rcases aN.1 h with rfl |h
  ·omega
  ·have:=Ot h;omega
theorem aaB(r:bX):(toE (j0 r)).wt<=jw (sW r):=by
 have h:=Oq r.fW;rw[sV]at h;simp only[j0,toE,ET.wt,sW,jw,nq];omega
theorem aaC:∀l:List Int,l.length<=AP (l.map λy=>[Tree.sc (.int .i64 y)])
 |[]=>by simp
 |x::l=>by
  have:=aaC l;simp only[aF,AP,jw,nq,bI];omega
theorem amb{p:bB}(h:jw (Np p)<=1048576):y7 p:=by
 have hd:=JL p.defs;simp only[Np,jw,nq]at h;refine⟨by unfold ii;omega,λr hr=>?_⟩;have h1:=aaB r;have h2:=Ot (mem_map.2 ⟨r,hr,rfl⟩:sW r∈p.rules.map sW);omega
theorem aoG{t:bU}(h:jw (Ju t)<=1048576):Wk t:=by
 have hd:=ajP t;have hd2:=JL t.ci;simp only[Ju,jw,nq]at h;refine⟨⟨by show rh (t.ci.map toD)<=_;omega,λr hr=>?_⟩,λl hl=>?_⟩
 ·have h1:=aaB r;have h2:=Ot (mem_map.2 ⟨r,hr,rfl⟩:sW r∈t.bj.map sW);omega
 ·have h1:=aaC l.from_;have h2:=Ot (mem_map.2 ⟨l,hl,rfl⟩:KZ l∈t.land.map KZ);have h3:AP (l.from_.map λy=>[Tree.sc (.int .i64 y)])<=jw (KZ l):=by simp only[KZ,jw,nq];omega
  omega
theorem Qr(q:HL xx.toSE [.st SI.pN,.st SI.lE,.st SI.lE,.int .i64])(hb:xz (HL.np xx.toSE [.st SI.pN,.st SI.lE,.st SI.lE,.int .i64] q)<=1048576):∃k,mU k q.1 q.2.1 q.2.2.1 q.2.2.2.1=some true:=by
 have h2:jw (Ju q.1)+(jw (Np q.2.1)+(jw (Np q.2.2.1)+(1+0)))<=1048576:=hb;exact⟨5000003,Qq q.1 q.2.1 q.2.2.1 q.2.2.2.1 (aoG (by omega)) (amb (by omega)) (amb (by omega))⟩
end Go.Proofs
