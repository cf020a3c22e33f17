import Derived.Test.YtkgkglgpckgokaaGreatS1
open Go.IntKind (i64)
open List (length_take mem_map all_eq_true getElem_mem length_map append_nil length_nil foldl_cons take_of_length_le length_singleton length_filter_le map_append)
namespace Go.Proofs
open Go.Gb Go.RowKit
variable {n:Nat}
theorem aef(r:ax):ej r=true↔(0<=r.x0/\r.x0<r.x1/\r.x1<=1048576)/\(0<=r.y0/\r.y0<r.y1/\r.y1<=1048576):=by simp only[ej,aL,aV];omega
theorem JR{b:ax}{l:List dV}(r:ax)(x:Int)(hb:ej b=true)(hp:∀p∈l,Xa p=true)(hr:ej r=true)(hx:0<=x/\x<1048576)(hl:l.length<=1000)(hn:2000<=n)(v:Int):
 iter (nT n b l r x) n (v,(0:Int))=some (min (min v (YN b l x r.y0)) (YN b l x (r.y1 -1))):=by
 have ho:=(aef r).1 hr;have w:i64.wrap (r.y1 -1)=r.y1 -1:=dS (by omega) (by omega);have:=nZ (l:=[r.y0,r.y1 -1]) (step:=nT n b l r x) (λ i (s:Int)=>(s,(i:Int))) (λ y m=>min m (YN b l x y)) (λ s=>s) (λ i hi s=>?_) (λ s=>by simp[nT]) n (by simp;omega) v
 ·rw[show ((0:Nat):Int)=0 from rfl]at this;exact this
 ·have h2:i<2:=by simpa using hi
  have yb:0<=([r.y0,r.y1 -1]:List Int)[i]/\([r.y0,r.y1 -1]:List Int)[i] <1048576:=by
   rcases i with _ |_ |i
   ·simp only[List.getElem_cons_zero];omega
   ·simp only[List.getElem_cons_succ,List.getElem_cons_zero];omega
   ·omega
  simp only[nT,show decide ((i:Int)<2)=true from decide_eq_true (by omega),bO h2,aj,aT h2,w,aY hi,af,abI hb hp ⟨hx,yb⟩ hl hn,aM i]
def T6(b:ax)(l:List dV)(v:Int)(r:ax):Int:=min (min (min (min v (YN b l r.x0 r.y0)) (YN b l r.x0 (r.y1 -1))) (YN b l (r.x1 -1) r.y0)) (YN b l (r.x1 -1) (r.y1 -1))
theorem JS{b:ax}{l:List dV}(r:ax)(hb:ej b=true)(hp:∀p∈l,Xa p=true)(hr:ej r=true)(hl:l.length<=1000)(hn:2000<=n)(v:Int):
 iter (nU n b l r) n (v,(0:Int))=some (T6 b l v r):=by
 have ho:=(aef r).1 hr;have w:i64.wrap (r.x1 -1)=r.x1 -1:=dS (by omega) (by omega);have:=nZ (l:=[r.x0,r.x1 -1]) (step:=nU n b l r) (λ i (s:Int)=>(s,(i:Int))) (λ x m=>min (min m (YN b l x r.y0)) (YN b l x (r.y1 -1))) (λ s=>s) (λ i hi s=>?_) (λ s=>by simp[nU]) n (by simp;omega) v
 ·rw[show ((0:Nat):Int)=0 from rfl]at this;exact this
 ·have h2:i<2:=by simpa using hi
  have xb:0<=([r.x0,r.x1 -1]:List Int)[i]/\([r.x0,r.x1 -1]:List Int)[i] <1048576:=by
   rcases i with _ |_ |i
   ·simp only[List.getElem_cons_zero];omega
   ·simp only[List.getElem_cons_succ,List.getElem_cons_zero];omega
   ·omega
  simp only[nU,show decide ((i:Int)<2)=true from decide_eq_true (by omega),bO h2,aj,aT h2,w,aY hi,af,JR r _ hb hp hr xb hl hn,aM i]
def L0(b:ax)(l:List dV)(a:List ax):Int:=a.foldl (T6 b l) 4096
theorem Sr{b:ax}{l:List dV}{a:List ax}(hb:ej b=true)(hp:∀p∈l,Xa p=true)(ha:∀r∈a,ej r=true)(hal:a.length<=1000)(hl:l.length<=1000)(hn:2000<=n):xO n b l a=some (L0 b l a):=by
 unfold xO;have:=nZ (l:=a) (step:=qV n b l a) (λ i (s:Int)=>(s,(i:Int))) (λ r m=>T6 b l m r) (λ s=>s) (λ i hi s=>?_) (λ s=>by simp[qV]) n (by omega) 4096
 ·rw[show ((0:Nat):Int)=0 from rfl]at this;rw[this];rfl
 ·simp only[qV,bO hi,aj,bq hi,af,JS a[i] hb hp (ha _ (getElem_mem hi)) hl hn,aM i]
theorem anb(r:ax):ej r=true↔(0<=r.x0/\r.x0<r.x1/\r.x1<=1048576)/\(0<=r.y0/\r.y0<r.y1/\r.y1<=1048576):=by simp only[ej,aL,aV];omega
abbrev Dd(t:bS):Prop:=t.area.length<=900/\t.from_.length*8<=140737488355328
theorem agu{t:bS}(h:Dd t):Nz t=some t:=by
 unfold Nz;have h2:=h.2;rw[PZ (by omega),af,show Ee t.from_=some t.from_ from Rw (b:=8) (by omega) (by simp only[maxLen];omega),af];simp only[cZ,aD,aj]
theorem ajo{land:List bS}{id:Int}(h:∀t∈land,Dd t)(hl:land.length<1099511627776)(hn:land.length<n):NA n land id=some (jk land id):=by
 unfold NA;have:=pq (l:=land) (step:=Ef land id) (λ i=>(i:Int)) (λ t=>t.id==id) () (λ i=>(land.getD i N1,true)) (λ i hi=>?_) ?_ n hn
 ·rw[show ((0:Nat):Int)=0 from rfl]at this;rw[this];unfold jk;rcases K5 (λ t:bS=>t.id==id) land with ⟨i,hi,h1,h2⟩ |⟨h1,h2⟩
  ·rw[h1,h2];simp[hi]
  ·rw[h1,h2];rfl
 ·simp only[Ef,bO hi,aj,bq hi,af,agu (h _ (getElem_mem hi))];cases land[i].id==id with
  |true=>simp[hi]
  |false=>simp only[ak];rw[bK (by omega)]
 ·simp[Ef]
theorem aap{land:List bS}(h:∀t∈land,Dd t)(id:Int):Dd (jk land id).1:=by
 unfold jk;split
 ·rename_i t ht;exact h t (List.mem_of_find?_eq_some ht)
 ·simp[Dd,N1]
structure apg(t:bW):Prop where
 rules:t.bj.length<=20
 PQ:∀r∈t.bj,W9 r
 zones:t.b7.length<=20
 land:t.land.length<=20
 lots:∀l∈t.land,Dd l
 bz:t.bz.length<=5
 apj:∀e∈t.bz,e.area.length<=10
theorem RJ{α:Type}(p:α->Bool):∀l:List α,((List.range l.length).filter λi=>(l[i]?).any p).filterMap (λ i=>l[i]?)=l.filter p
 |[]=>rfl
 |a::l=>by
  have ih:=RJ p l;rw[bI,List.range_succ_eq_map,List.filter_cons,List.filter_cons];have e:(List.filter (λ i=>((a::l)[i]?).any p) (List.map Nat.succ (List.range l.length))).filterMap (λ i=>(a::l)[i]?)=l.filter p:=by
   rw[List.filter_map,List.filterMap_map];exact ih
  cases hp:p a with
  |true=>simp[hp];simpa using e
  |false=>simp[hp];simpa using e
def Ge(a r:ax):ax:=⟨min a.x0 r.x0,min a.y0 r.y0,max a.x1 r.x1,max a.y1 r.y1⟩
def ah9:List ax->ax
 |[]=>⟨0,0,0,0⟩
 |r::l=>l.foldl Ge r
def JD(a:List ax):ax×Bool:=bif decide (a≠[])&&cR a then(ah9 a,true)else(⟨0,0,0,0⟩,false)
theorem aeg{a:List ax}(ha:a≠[])(hv:∀r∈a,ej r=true)(hl:a.length<=900)(hn:2000<=n):Nt n a=some (ah9 a,true):=by
 unfold Nt;have:=nZ (l:=a.zip (List.range a.length)) (step:=zX a) (λ i (s:Bool×Int×Int×Int×Int)=>(s.1,(i:Int),s.2)) (λ p s=>bif !s.1 then(true,p.1.x0,p.1.y0,p.1.x1,p.1.y1)else(s.1,min s.2.1 p.1.x0,min s.2.2.1 p.1.y0,max s.2.2.2.1 p.1.x1,max s.2.2.2.2 p.1.y1)) (λ s=>s) (λ i hi s=>?_) (λ s=>?_) n (by simp;omega) (false,0,0,0,0)
 ·rw[show ((0:Nat):Int)=0 from rfl]at this;simp only at this;rw[this];cases a with
  |nil=>exact absurd rfl ha
  |cons r l=>
   have gen:∀(l:List ax) (k:List Nat) (s:ax),l.length<=k.length->(l.zip k).foldl (λ (s:Bool×Int×Int×Int×Int) p=>bif !s.1 then(true,p.1.x0,p.1.y0,p.1.x1,p.1.y1)else(s.1,min s.2.1 p.1.x0,min s.2.2.1 p.1.y0,max s.2.2.2.1 p.1.x1,max s.2.2.2.2 p.1.y1)) (true,s.x0,s.y0,s.x1,s.y1)=(true,(l.foldl Ge s).x0,(l.foldl Ge s).y0,(l.foldl Ge s).x1,(l.foldl Ge s).y1):=by
    intro l
    induction l with
    |nil=>intro k s _;rfl
    |cons r l ih=>
     intro k s hk;cases k with
     |nil=>simp at hk
     |cons j k=>
      rw[List.zip_cons_cons,foldl_cons,foldl_cons];exact ih k (Ge s r) (by simpa using hk)
   rw[bI,List.range_succ_eq_map,List.zip_cons_cons,foldl_cons];simp only[Bool.not_false,aj];rw[gen l _ r (by simp)];rfl
 ·have hi':i<a.length:=by simpa using hi
  obtain⟨s1,s2,s3,s4,s5⟩:=s;have ok:=hv _ (getElem_mem hi');simp only[zX,bO hi',aj,bq hi',af,iP,ok,Bool.not_true,ak,NK,List.getElem_zip,aM i]
 ·obtain⟨s1,s2,s3,s4,s5⟩:=s;have:(a.zip (List.range a.length)).length=a.length:=by simp
  simp only[this,zX,bX,ak]
theorem N8(a:List ax)(hl:a.length<=900)(hn:2000<=n):Cw n a=some (JD a):=by
 unfold Cw JD;cases a with
 |nil=>rfl
 |cons r l=>
  have e:((((r::l).length:Nat):Int)==0)=false:=by simp;omega
  have e2:decide (r::l≠[])=true:=by simp
  rw[lN (by omega) (by omega) (by omega),e,e2];simp only[ak,af,Bool.true_and];cases hr:cR (r::l)with
  |false=>rfl
  |true=>
   simp only[Bool.not_true,ak];rw[aeg (by simp) (uh hr).1 hl hn];rfl
theorem sj{V O:Type}{step:V->Option (V⊕O)}(f:Nat->V){s:V}(N:Nat)(o:O)(h0:s=f 0)
 (h1:∀i,i<N->step (f i)=some (.inl (f (i+1)))) (h2:step (f N)=some (.inr o)) (n:Nat) (hn:N<n):iter step n s=some o:=by rw[h0];exact mh f N o h1 h2 n hn
def tb(f:Nat->Nat->Bool):List Bool:=(List.range 144).map λi=>f (i/12) (i%12)
def upd(f:Nat->Nat->Bool)(a b:Nat)(v:Bool):Nat->Nat->Bool:=λx y=>if x=a/\y=b then v else f x y
inductive Tc(e:Nat->Nat->Bool):Nat->Nat->Prop
 |one {a b:Nat}:a<12->b<12->e a b=true->Tc e a b
 |trans {a b c:Nat}:Tc e a b->Tc e b c->Tc e a c
theorem Tc.lt{e:Nat->Nat->Bool}{a b:Nat}(h:Tc e a b):a<12/\b<12:=by
 induction h with
 |one h1 h2 _=>exact⟨h1,h2⟩
 |trans _ _ i1 i2=>exact⟨i1.1,i2.2⟩
def iq(v:aH):ax:=ax.mk v.bu v.ca v.br v.b9
def okV(v:aH):Bool:=ej (iq v)&&(decide (0<=v.ep)&&(decide (v.ep<v.eb)&&(decide (v.eb<=4096)&&((decide (v.use=0) || decide (v.units=0))&&(decide (0<=v.use)&&(decide (v.use<6)&&(decide (0<=v.units)&&decide (v.units<=1048576))))))))
theorem ul(v:aH):gm v=some (okV v):=by
 unfold gm okV;rw[iP];have e1:decide (v.ep<0)=!decide (0<=v.ep):=by rw[<- decide_not,decide_eq_decide];omega
 have e2:decide (v.ep>=v.eb)=!decide (v.ep<v.eb):=by rw[<- decide_not,decide_eq_decide];omega
 have e3:decide (v.eb>4096)=!decide (v.eb<=4096):=by rw[<- decide_not,decide_eq_decide];omega
 have e4:(v.use !=0)=!decide (v.use=0):=by by_cases h:v.use=0<;>simp[h]
 have e5:(v.units !=0)=!decide (v.units=0):=by by_cases h:v.units=0<;>simp[h]
 rw[e1,e2,e3,e4,e5,show ax.mk v.bu v.ca v.br v.b9=iq v from rfl];simp only[ge_iff_le];generalize ej (iq v)=a1;generalize decide (0<=v.ep)=a2;generalize decide (v.ep<v.eb)=a3;generalize decide (v.eb<=4096)=a4;generalize decide (v.use=0)=a5;generalize decide (v.units=0)=a6;generalize decide (0<=v.use)=a7;generalize decide (v.use<6)=a8;generalize decide (0<=v.units)=a9;generalize decide (v.units<=1048576)=jz;cases a1<;>cases a2<;>cases a3<;>cases a4<;>cases a5<;>cases a6<;>cases a7<;>cases a8<;>cases a9<;>rfl
theorem Xf{v:aH}(h:okV v=true):ej (iq v)=true:=by rw[okV,aL]at h;exact h.1
def kG(d:bn):List aH:=d.phases.flatMap (·.cy)
theorem dC{l:List ru}(h:∀p∈l,p.cy.length<=1000):(l.flatMap (·.cy)).length<=l.length*1000:=by
 induction l with
 |nil=>simp
 |cons p l ih=>
  have h1:=h p (by simp);have h2:=ih λq hq=>h q (by simp[hq]);simp only[List.flatMap_cons,dJ,bI];omega
def Xg(d:bn):Prop:=d.phases.length<=1000/\∀p∈d.phases,p.cy.length<=1000
theorem Xh{d:bn}(h:Xg d)(hn:1001<=n):nR n d 0 (d.phases.length:Int)=some (kG d):=by
 obtain⟨h1,h2⟩:=h;unfold nR;have key:=sj (step:=nC d 0 (d.phases.length:Int)) (λ i=>((i:Int),(d.phases.take i).flatMap (·.cy))) (s:=((0:Int),([]:List aH))) d.phases.length (kG d) rfl (λ i hi=>by
  have e2:decide ((i:Int)>=0)=true:=by simp
  have hl:=dC (l:=d.phases.take i) λp hp=>h2 p (List.mem_of_mem_take hp);rw[length_take]at hl;have hv:=h2 _ (getElem_mem hi);generalize hL:(d.phases.take i).flatMap (·.cy)=L at hl;have hap:bP L.length L.length d.phases[i].cy.length d.phases[i].cy.length 72=true:=dm (by omega) (by simp only[maxLen];omega);simp only[nC,bO hi,aj,bq hi,af,e2,hap,dP,aD,aM i];rw[gF hi,List.flatMap_append,hL];simp only[List.flatMap_cons,List.flatMap_nil,append_nil]) (by simp only[nC,bX,ak,aD,aj,List.take_length,kG]) n (by omega)
 have hz:az 0 ([]:List aH).length=true:=rfl;simp only[hz,aj,key,af,cZ,aD]
def Wa(v:aH):Int:=(kN v).getD 0
theorem Xi(v:aH):kN v=some (Wa v):=by
 unfold Wa kN;rw[ul];cases v.extra<;>cases okV v<;>rfl
def OS(v:aH):Int:=(oo v).getD 0
theorem aeh(v:aH):oo v=some (OS v):=by
 unfold OS oo;rw[ul,Xi];cases h:okV v with
 |false=>rfl
 |true=>
  have e:=CP (Xf h);unfold iq at e;simp only[af,Bool.not_true,ak,e,Option.getD_some]
theorem aot(a1:List cu)(a8:List ax){a9:List aH}(hl:a9.length<=1000)(hn:1001<=n):∃r,∀(a0:List fB)(a2:List dM)(a3:List bV)(a4:List fZ)(a5:List eU)(a6:List bT)(a7:Int),kz n a0 a1 a2 a3 a4 a5 a6 a7 a8 a9=some (r,a0,a1,a2,a3,a4,a5,a6,a7,a8,a9):=by
 have key:=nZ (l:=a9) (step:=jC a9) (λ i (s:Int)=>(s,(i:Int))) (λ v s=>i64.wrap (s+OS v)) (λ s=>s) (λ i hi s=>by simp only[jC,bO hi,aj,aT hi,aY hi,af,aeh,aM i]) (λ s=>by simp only[jC,bX,ak]) n (by omega) 0;rw[show ((0:Nat):Int)=0 from rfl]at key;unfold kz qc;simp only[key,af,aD,aj];exact⟨_,λ_ _ _ _ _ _ _=>rfl⟩
theorem aou(a1:List cu)(a8:List ax){a9:List aH}(hl:a9.length<=1000)(hn:1001<=n):∃r,∀(a0:List fB)(a2:List dM)(a3:List bV)(a4:List fZ)(a5:List eU)(a6:List bT)(a7:Int),kC n a0 a1 a2 a3 a4 a5 a6 a7 a8 a9=some (r,a0,a1,a2,a3,a4,a5,a6,a7,a8,a9):=by
 have key:=nZ (l:=a9) (step:=jF a9) (λ i (s:Int)=>(s,(i:Int))) (λ v s=>i64.wrap (s+v.units)) (λ s=>s) (λ i hi s=>by simp only[jF,bO hi,aj,aT hi,aY hi,af,oC,aM i]) (λ s=>by simp only[jF,bX,ak]) n (by omega) 0;rw[show ((0:Nat):Int)=0 from rfl]at key;unfold kC qd;simp only[key,af,aD,aj];exact⟨_,λ_ _ _ _ _ _ _=>rfl⟩
theorem alz(a1:List cu)(a8:List ax){a9:List aH}(hl:a9.length<=1000)(hn:1001<=n):∃r,∀(a0:List fB)(a2:List dM)(a3:List bV)(a4:List fZ)(a5:List eU)(a6:List bT)(a7:Int),jD n a0 a1 a2 a3 a4 a5 a6 a7 a8 a9=some (r,a0,a1,a2,a3,a4,a5,a6,a7,a8,a9):=by
 have key:=nZ (l:=a9) (step:=gQ a9) (λ i (s:Int)=>(s,(i:Int))) (λ v s=>max s (Wa v)) (λ s=>s) (λ i hi s=>by simp only[gQ,bO hi,aj,aT hi,aY hi,af,Xi,aM i]) (λ s=>by simp only[gQ,bX,ak]) n (by omega) 0;rw[show ((0:Nat):Int)=0 from rfl]at key;unfold jD lY;simp only[key,af,aD,aj];exact⟨_,λ_ _ _ _ _ _ _=>rfl⟩
theorem alA(a1:List cu)(a8:List ax){a9:List aH}(hl:a9.length<=1000)(hn:1001<=n):∃r,∀(a0:List fB)(a2:List dM)(a3:List bV)(a4:List fZ)(a5:List eU)(a6:List bT)(a7:Int),jE n a0 a1 a2 a3 a4 a5 a6 a7 a8 a9=some (r,a0,a1,a2,a3,a4,a5,a6,a7,a8,a9):=by
 have key:=nZ (l:=a9) (step:=gT a9) (λ i (s:Int)=>(s,(i:Int))) (λ v s=>max s v.eb) (λ s=>s) (λ i hi s=>by simp only[gT,bO hi,aj,aT hi,aY hi,af,nE,aM i]) (λ s=>by simp only[gT,bX,ak]) n (by omega) 0;rw[show ((0:Nat):Int)=0 from rfl]at key;unfold jE lZ;simp only[key,af,aD,aj];exact⟨_,λ_ _ _ _ _ _ _=>rfl⟩
theorem ajp(e:bR)(a:Js){u:Int}(h0:0<=u)(h6:u<6):∃b,j5 e a u=some b:=by
 obtain⟨k,rfl⟩:∃k:Nat,u=(k:Int):=⟨u.toNat,by omega⟩;have hk:k<6:=by omega
 unfold j5;rw[aT hk,bq (l:=[a.a0,a.a1,a.a2,a.a3,a.a4,a.a5]) hk];exact⟨_,rfl⟩
theorem EL{l:List bR}{φ:(bR×Unit)->Option Bool}(p:bR->Bool)(h:∀x∈l,φ (x,())=some (p x))(hl:l.length<=9223372036854775807)(hn:l.length<n):j6 n l φ=some (xw p l):=Fe p h hl hn
theorem aov(p:bB){u:Int}(h0:0<=u)(h6:u<6)(ht:p.tables.length<n)(ht2:p.tables.length<=9223372036854775807)(hr:∀t∈p.tables,t.rows.length<n/\t.rows.length<=9223372036854775807):∃r,Aa n p u=some r:=by
 have key:∃o,iter (kg n p u) n (0:Int)=some o/\True:=by
  have step:∀i (hi:i<p.tables.length),kg n p u (i:Int)=some (.inl ((i+1:Nat):Int))\/∃z,kg n p u (i:Int)=some (.inr (.inr z)):=by
   intro i hi;obtain⟨r1,r2⟩:=hr _ (getElem_mem hi);simp only[kg,bO hi,aj,bq hi,af,aM i];cases ByteArray.toList p.tables[i].name==ByteArray.toList ⟨#[116,114,97,102,102,105,99]⟩with
   |false=>exact Or.inl rfl
   |true=>
    right;simp only[Bool.not_true,ak];generalize Js.mk _ _ _ _ _ _=A;have hx:=EL (n:=n) (l:=p.tables[i].rows) (φ:=λy1=>j5 y1.1 A u) (λ e=>(j5 e A u).getD false) (λ e _=>by have⟨b,hb⟩:=ajp e A h0 h6;simp[hb]) r2 r1;rw[hx];simp only[af,xA];cases hany:p.tables[i].rows.any λe=>(j5 e A u).getD false with
    |false=>exact⟨_,rfl⟩
    |true=>
     have⟨j,hj,h1,_⟩:=adB hany;rw[h1];simp only[aj,bq hj,af];exact⟨_,rfl⟩
  have main:∀k i m,i+k=p.tables.length->k<m->∃o,iter (kg n p u) m (i:Int)=some o/\True:=by
   intro k
   induction k with
   |zero=>
    intro i m hi hm;obtain⟨q,rfl⟩:∃q,m=q+1:=⟨m -1,by omega⟩;have:i=p.tables.length:=(by omega);subst this;exact⟨.inl (),fH (by simp only[kg,bX,ak]),trivial⟩
   |succ k ih=>
    intro i m hi hm;obtain⟨q,rfl⟩:∃q,m=q+1:=⟨m -1,by omega⟩;rcases step i (by omega)with h |⟨z,h⟩
    ·rw[iG h];exact ih (i+1) q (by omega) (by omega)
    ·exact⟨_,fH h,trivial⟩
  exact main p.tables.length 0 n (by omega) ht
 obtain⟨o,h1,_⟩:=key;unfold Aa;rw[h1];cases o with
 |inl w=>exact⟨_,rfl⟩
 |inr r=>exact⟨_,rfl⟩
theorem agv(p:bB){v:aH}(hv:okV v=true)(ht:p.tables.length<n)(ht2:p.tables.length<=9223372036854775807)(hr:∀t∈p.tables,t.rows.length<n/\t.rows.length<=9223372036854775807):∃r,kP n p v=some r:=by
 simp only[okV,aL,aV]at hv;have⟨r,h1⟩:=aov (n:=n) p (u:=v.use) hv.2.2.2.2.2.1 hv.2.2.2.2.2.2.1 ht ht2 hr;unfold kP;rw[h1,aeh];simp only[af];have e100:((100:Int) !=0)=true:=rfl;by_cases h:r>0
 ·have e:(r !=0)=true:=by simp only[bne_iff_ne,ne_eq];omega
  have e2:decide (r>0)=true:=by simpa using h
  rw[e,e2];simp only[aj,af,e100];cases decide (OS v>i64.wrap (Int.tdiv 109951162777600 r))<;>exact⟨_,rfl⟩
 ·have e2:decide (r>0)=false:=by simpa using h
  rw[e2];exact⟨_,rfl⟩
theorem aow(a1:List cu)(a8:List ax){a9:List aH}(hl:a9.length<=1000)(hn:1001<=n)(hv:∀v∈a9,okV v=true)(ht:a1.length<n)(ht2:a1.length<=9223372036854775807)(hr:∀t∈a1,t.rows.length<n/\t.rows.length<=9223372036854775807):∃r,∀(a0:List fB)(a2:List dM)(a3:List bV)(a4:List fZ)(a5:List eU)(a6:List bT)(a7:Int),jh n a0 a1 a2 a3 a4 a5 a6 a7 a8 a9=some (r,a0,a1,a2,a3,a4,a5,a6,a7,a8,a9):=by
 have key:=λ(a0:List fB)(a2:List dM)(a3:List bV)(a4:List fZ)(a5:List eU)(a6:List bT)(a7:Int)=>fF (l:=a9) (step:=jH n a9) (λ i (s:Int)=>(s,(i:Int),a0,a1,a2,a3,a4,a5,a6,a7,a8,a9)) (λ v s=>i64.wrap (s+(kP n (bB.mk [] a1 [] [] [] [] [] 0) v).getD 0)) (λ s=>(s,a0,a1,a2,a3,a4,a5,a6,a7,a8,a9)) (λ _ _=>True) (λ i hi s _=>⟨by
  obtain⟨r,h1⟩:=agv (n:=n) (bB.mk [] a1 [] [] [] [] [] 0) (hv _ (getElem_mem hi)) ht ht2 hr;have h2:kP n (bB.mk a0 a1 a2 a3 a4 a5 a6 a7) a9[i]=some r:=h1;simp only[jH,bO hi,aj,aT hi,aY hi,af,ko,h1,h2,aD,aM i,Option.getD_some],trivial⟩) (λ s _=>by simp only[jH,bX,ak,aD,aj]) n (by omega) 0 trivial
 have key:=λa0 a2 a3 a4 a5 a6 a7=>(show ((0:Nat):Int)=0 from rfl) ▸ key a0 a2 a3 a4 a5 a6 a7;unfold jh qf;simp only[key,af,aD,aj];exact⟨_,λ_ _ _ _ _ _ _=>rfl⟩
theorem alB{α β:Type}(l:List α)(f:α->β)(z:β){i:Nat}(hi:i<l.length):((l.take i).map f++List.replicate (l.length -i) z).set i (f l[i])=(l.take (i+1)).map f++List.replicate (l.length -(i+1)) z:=by
 have h1:((l.take i).map f).length=i:=by simp;omega
 rw[List.set_append_right _ _ (by omega),h1,Nat.sub_self,show l.length -i=(l.length -(i+1))+1 by omega,List.replicate_succ,List.set_cons_zero,gF hi,map_append,aK];rfl
theorem alC{α β:Type}(l:List α)(f:α->β)(z:β){i:Nat}(hi:i<=l.length):((l.take i).map f++List.replicate (l.length -i) z).length=l.length:=by simp;omega
theorem alD{α β:Type}(l:List α)(f:α->β)(z:β){i:Nat}(hi:i<l.length):((l.take (i+1)).map f++List.replicate (l.length -(i+1)) z)[i]? =some (f l[i]):=by rw[List.getElem?_append_left (by simp;omega)];simp[hi]
theorem alE{l:List aH}(hl:l.length<=1000)(hn:1001<=n):iter (gB l) n ((0:Int),List.replicate l.length (ax.mk 0 0 0 0),([]:List Int))=some (l.map iq,l.flatMap λv=>[v.bu,v.br]):=by
 refine sj (step:=gB l) (λ i=>((i:Int),(l.take i).map iq++List.replicate (l.length -i) (ax.mk 0 0 0 0),(l.take i).flatMap λv=>[v.bu,v.br])) l.length _ ?_ (λ i hi=>?_) ?_ n (by omega)
 ·simp
 ·have h1:=alC l iq (ax.mk 0 0 0 0) (Nat.le_of_lt hi);have h2:=alB l iq (ax.mk 0 0 0 0) hi;have h3:=alD l iq (ax.mk 0 0 0 0) hi;have h4:((l.take i).flatMap λv=>[v.bu,v.br]).length=2*i:=by
   have:∀m:List aH,(m.flatMap λv=>[v.bu,v.br]).length=2*m.length:=by
    intro m;induction m with
    |nil=>rfl
    |cons a m ih=>simp only[List.flatMap_cons,dJ,ih,bI,length_nil];omega
   rw[this,length_take];omega
  generalize (l.take i).map iq++List.replicate (l.length -i) (ax.mk 0 0 0 0)=B at h1 h2;have e0:(((0:Nat):Int)+(i:Int)).toNat=i:=by omega
  have et:((l.length:Int):Int).toNat=l.length:=by omega
  have hb:ax.mk l[i].bu l[i].ca l[i].br l[i].b9=iq l[i]:=rfl;have hiB:i<B.length:=by omega
  rw[<- h2]at h3;have g3:bp (B.set i (iq l[i])) (((0:Nat):Int)+(i:Int))=some (iq l[i]):=by rw[DZ];exact h3
  have hs:sub ([(iq l[i]).x0,(iq l[i]).x1]:List Int) 0 2=[(iq l[i]).x0,(iq l[i]).x1]:=rfl;have hap:bP (2*i) (2*i) 2 2 8=true:=dm (by omega) (by simp only[maxLen];omega);have hl2:([(iq l[i]).x0,(iq l[i]).x1]:List Int).length=2:=rfl;simp only[gB,bO hi,aj,aT hi,aY hi,af,et,aY hiB,e0,hb,g3,hs,hl2,h4,hap,dP,aD,aM i];rw[<- h2,gF hi,List.flatMap_append];rfl
 ·simp only[gB,bX,ak,aD,aj,List.take_length];simp
theorem alF{l:List aH}{R:List ax}{X:List Int}(w2:List Int)(hR:R.length=l.length)(hX:X.length=w2.length)(hl:l.length<=1000)(hn:1001<=n){k:Nat}(hk:k+1<w2.length)(hw:w2.length<=10000)(s:Int):∃o,iter (iQ l w2 R X (k:Int)) n (s,(0:Int),(0:Int))=some o/\True:=by
 refine NZ (λ i (v:Int×Int×Int)=>v.2.2=(i:Int)) l.length (λ _=>True) (λ i v hi hv=>?_) (λ v hv=>?_) n (by omega) _ rfl
 ·obtain⟨a,b,c⟩:=v;simp only at hv;subst hv;have et:(((l.length:Int):Int).toNat)=l.length:=by omega
  have ew:i64.wrap ((k:Int)+1)=((k+1:Nat):Int):=bK (by omega);simp only[iQ,et,bO hi,aj,aT hi,aY (show i<R.length by omega),af,aT (show k<w2.length by omega),aY (show k<X.length by omega),ew,aT hk,aY (show k+1<X.length by omega),aM i];cases decide ((R[i]'(by omega)).x0<=X[k]'(by omega))with
  |false=>exact⟨_,rfl,rfl⟩
  |true=>
   simp only[aj,af];cases decide (X[k]'(by omega)<(R[i]'(by omega)).x1)with
   |false=>exact⟨_,rfl,rfl⟩
   |true=>
    simp only[aj,af];cases decide ((R[i]'(by omega)).y1>b)<;>exact⟨_,rfl,rfl⟩
 ·obtain⟨a,b,c⟩:=v;simp only at hv;subst hv;have et:(((l.length:Int):Int).toNat)=l.length:=by omega
  simp only[iQ,et,bX,ak];exact⟨_,rfl,trivial⟩
theorem alG(a1:List cu)(a8:List ax){a9:List aH}(hl:a9.length<=1000)(hn:10000<=n):∃r,∀(a0:List fB)(a2:List dM)(a3:List bV)(a4:List fZ)(a5:List eU)(a6:List bT)(a7:Int),iJ n a0 a1 a2 a3 a4 a5 a6 a7 a8 a9=some (r,a0,a1,a2,a3,a4,a5,a6,a7,a8,a9):=by
 have et:(((a9.length:Int):Int).toNat)=a9.length:=by omega
 have mk:zx (a9.length:Int) 32=true:=ah5 (by omega) (by simp only[maxLen];omega);have d1:decide ((a9.length:Int)<=(a9.length:Int))=true:=by simp
 have d2:decide (0<=(a9.length:Int))=true:=by simp
 have hz:az 0 ([]:List Int).length=true:=rfl;have hx:(a9.flatMap λv=>[v.bu,v.br]).length<=2000:=by
  have:∀m:List aH,(m.flatMap λv=>[v.bu,v.br]).length=2*m.length:=by
   intro m;induction m with
   |nil=>rfl
   |cons a m ih=>simp only[List.flatMap_cons,dJ,ih,bI,length_nil];omega
  rw[this];omega
 unfold iJ;rw[et,alE hl (by omega)];generalize (a9.flatMap λv=>[v.bu,v.br])=W at hx;have srt:=JQ (n:=n) (l:=a9.map iq) (φ:=λy1=>iH y1.1 y1.2.1) (λ x y=>if x.y0<y.y0 then -1 else if y.y0<x.y0 then 1 else 0) (λ x y=>by
  show iH x y=_;unfold iH;rw[ku];rfl) (λ x y=>by
  unfold wy;rw[decide_eq_decide];constructor
  ·intro h;split at h
   ·assumption
   ·split at h<;>omega
  ·intro h;rw[aX h];decide) (by simp;omega) (by simp;omega)
 have hm:az a9.length (a9.map iq).length=true:=by simp
 have hR:(kY wy (a9.map iq)).length=a9.length:=by rw[xB ah7];simp
 have hX:(j4 oc W).length=W.length:=(D8 oc W).length_eq;simp only[d1,d2,mk,Bool.and_self,aj,hz,af,hm,srt,aD,oU (show W.length<1099511627776 by omega) (show W.length<n by omega)];generalize kY wy (a9.map iq)=R at hR;generalize j4 oc W=X at hX;have key:∃o,iter (iR n a9 W R X) n ((0:Int),(0:Int))=some o/\True:=by
  have eN:max (0:Int) (i64.wrap ((W.length:Int) -1))=((W.length -1:Nat):Int):=by
   cases h:W.length with
   |zero=>rfl
   |succ k=>rw[mI (by omega) (by omega)];omega
  refine NZ (λ i (v:Int×Int)=>v.2=(i:Int)) (W.length -1) (λ _=>True) (λ i v hi hv=>?_) (λ v hv=>?_) n (by omega) _ rfl
  ·obtain⟨a,b⟩:=v;simp only at hv;subst hv;obtain⟨o,ho,_⟩:=alF (n:=n) (l:=a9) (R:=R) (X:=X) W hR hX hl (by omega) (k:=i) (by omega) (by omega) a;simp only[iR,eN,bO hi,aj,ho,af,aM i];exact⟨_,rfl,rfl⟩
  ·obtain⟨a,b⟩:=v;simp only at hv;subst hv;simp only[iR,eN,bX,ak];exact⟨_,rfl,trivial⟩
 obtain⟨o,ho,_⟩:=key;rw[ho];exact⟨o,λ_ _ _ _ _ _ _=>rfl⟩
def JT(b:ax)(k:Int):ax:=⟨b.x0 -k,b.y0 -k,b.x1+k,b.y1+k⟩
def EM(area:List ax)(b:ax)(k:Int):Bool:=ej (JT b k)&&decide (area.foldl (λ s y=>WZ (JT b k) s y) 0=Kf (JT b k))
theorem ajq(b:ax)(k:Int)(a2:List fB)(a3:List cu)(a4:List dM)(a5:List bV)(a6:List fZ)(a7:List eU)(a8:List bT)(a9:Int){jz:List ax}(tc:List aH)(hb:ej b=true)(h0:0<=k)(h1:k<=1048576)(hl:jz.length<=1000)(hn:1001<=n):
 jG n b k a2 a3 a4 a5 a6 a7 a8 a9 jz tc=some (EM jz b k,a2,a3,a4,a5,a6,a7,a8,a9,jz,tc):=by
 rw[anb]at hb;unfold jG AX EM;rw[dS (x:=b.x0 -k),dS (x:=b.y0 -k),dS (x:=b.x1+k),dS (x:=b.y1+k),show ax.mk (b.x0 -k) (b.y0 -k) (b.x1+k) (b.y1+k)=JT b k from rfl,iP];generalize JT b k=g;simp only[af];cases hg:ej g with
 |false=>simp only[Bool.not_false,aj,aD,Bool.false_and]
 |true=>
  have key:=nZ (l:=jz) (step:=iC jz (g,true)) (λ i (s:Int)=>(s,(i:Int))) (λ y s=>WZ g s y) (λ s=>s) (λ i hi s=>by
   simp only[iC,bO hi,aj,bq hi,af,yU,aM i,WZ];cases h1:ej g with
   |false=>rfl
   |true=>
    cases h2:ej jz[i]with
    |false=>rfl
    |true=>
     cases h3:ej (Fg g jz[i])with
     |false=>rfl
     |true=>simp only[Bool.and_self,aj,CP h3,af]) (λ s=>by simp only[iC,bX,ak]) n (by omega) 0
  rw[show ((0:Nat):Int)=0 from rfl]at key;simp only[Bool.not_true,ak,key,af,CP hg,aD,aj,Bool.true_and];congr 2
def Qh(p:Int->Bool):Nat->Int->Int->Int
 | 0,lo,_=>lo
 |k+1,lo,hi=>bif decide (lo<hi)then(bif p ((lo+hi+1)/2)then Qh p k ((lo+hi+1)/2) hi else Qh p k lo ((lo+hi+1)/2 -1))else lo
theorem abK(p:Int->Bool):∀k lo hi,lo<=hi->lo<=Qh p k lo hi/\Qh p k lo hi<=hi
 | 0,lo,hi,h=>by simp only[Qh];omega
 |k+1,lo,hi,h=>by
  simp only[Qh];by_cases h1:lo<hi
  ·have e:decide (lo<hi)=true:=(by simpa using h1);rw[e,aj];cases p ((lo+hi+1)/2)with
   |true=>have:=abK p k ((lo+hi+1)/2) hi (by omega);simp only[aj];omega
   |false=>have:=abK p k lo ((lo+hi+1)/2 -1) (by omega);simp only[ak];omega
  ·have e:decide (lo<hi)=false:=(by simpa using h1);rw[e,ak];omega
theorem agx{v:aH}(hv:ej (iq v)=true)(a2:List fB)(a3:List cu)(a4:List dM)(a5:List bV)(a6:List fZ)(a7:List eU)(a8:List bT)(a9:Int){jz:List ax}(tc:List aH)(hl:jz.length<=1000)(hn:1001<=n):
 ∀(k:Nat) lo hi m,0<=lo->lo<=hi->hi<=1048576->hi -lo<2 ^ k->k<m->iter (eX n v) m (lo,hi,a2,a3,a4,a5,a6,a7,a8,a9,jz,tc)=some (Qh (EM jz (iq v)) k lo hi,a2,a3,a4,a5,a6,a7,a8,a9,jz,tc):=by
 intro k
 induction k with
 |zero=>
  intro lo hi m h0 h1 h2 h3 hm;obtain⟨q,rfl⟩:∃q,m=q+1:=⟨m -1,by omega⟩;have:lo=hi:=by simp at h3;omega
  subst this;refine fH ?_;have e:decide (lo<lo)=false:=by simp
  simp only[eX,e,ak,aD,aj,Qh]
 |succ k ih=>
  intro lo hi m h0 h1 h2 h3 hm;obtain⟨q,rfl⟩:∃q,m=q+1:=⟨m -1,by omega⟩;have hp:(2:Int) ^ (k+1)=2*2 ^ k:=by rw[Int.pow_succ];omega
  rw[hp]at h3;by_cases hlt:lo<hi
  ·have e:decide (lo<hi)=true:=(by simpa using hlt);have e2:((2:Nat) !=0)=true:=rfl;have em:i64.wrap (Int.tdiv (i64.wrap (i64.wrap (lo+hi)+1)) 2)=(lo+hi+1)/2:=(by rw[dS (x:=lo+hi),dS (x:=lo+hi+1),Int.tdiv_eq_ediv_of_nonneg (by omega),dS (by omega) (by omega)]);have hi2:=ajq (n:=n) (iq v) ((lo+hi+1)/2) a2 a3 a4 a5 a6 a7 a8 a9 (jz:=jz) tc hv (by omega) (by omega) hl hn;unfold iq at hi2;cases hc:EM jz (iq v) ((lo+hi+1)/2)with
   |true=>
    rw[iG (v':=((lo+hi+1)/2,hi,a2,a3,a4,a5,a6,a7,a8,a9,jz,tc)) (by
     unfold iq at hc;simp only[eX,e,aj,e2,aD,em,hi2,af,hc]),ih _ _ _ (by omega) (by omega) (by omega) (by omega) (by omega)]
    simp only[Qh,e,aj,hc]
   |false=>
    rw[iG (v':=(lo,(lo+hi+1)/2 -1,a2,a3,a4,a5,a6,a7,a8,a9,jz,tc)) (by
     unfold iq at hc;simp only[eX,e,aj,e2,aD,em,hi2,af,hc,ak,dS (x:=(lo+hi+1)/2 -1)]),ih _ _ _ (by omega) (by omega) (by omega) (by omega) (by omega)]
    simp only[Qh,e,aj,hc,ak]
  ·have e:decide (lo<hi)=false:=(by simpa using hlt);refine fH ?_;simp only[eX,e,ak,aD,aj,Qh]
def um(area:List ax)(l:List aH):Int:=l.foldl (λ b v=>Qh (EM area (iq v)) 21 0 b) 1048576
theorem agy(a0:List fB)(a1:List cu)(a2:List dM)(a3:List bV)(a4:List fZ)(a5:List eU)(a6:List bT)(a7:Int){a8:List ax}{a9:List aH}(hv:∀v∈a9,okV v=true)(hl:a9.length<=1000)(h8:a8.length<=1000)(hn:1001<=n):jg n a0 a1 a2 a3 a4 a5 a6 a7 a8 a9=some (um a8 a9,a0,a1,a2,a3,a4,a5,a6,a7,a8,a9):=by
 have key:=fF (l:=a9) (step:=ic n a9) (λ i (s:Int)=>(s,(i:Int),a0,a1,a2,a3,a4,a5,a6,a7,a8,a9)) (λ v s=>Qh (EM a8 (iq v)) 21 0 s) (λ s=>(s,a0,a1,a2,a3,a4,a5,a6,a7,a8,a9)) (λ _ s=>0<=s/\s<=1048576) (λ i hi s hs=>by
  have h1:=agx (n:=n) (Xf (hv _ (getElem_mem hi))) a0 a1 a2 a3 a4 a5 a6 a7 (jz:=a8) a9 h8 hn 21 0 s n (by omega) hs.1 hs.2 (by have:(2:Int) ^ 21=2097152:=rfl;omega) (by omega);have h2:=abK (EM a8 (iq a9[i])) 21 0 s hs.1;refine⟨?_,by omega,by omega⟩;simp only[ic,bO hi,aj,aT hi,aY hi,af,aD,h1,aM i]) (λ s _=>by simp only[ic,bX,ak,aD,aj]) n (by omega) 1048576 (by omega)
 rw[show ((0:Nat):Int)=0 from rfl]at key;unfold jg;simp only[aD,aj,key,af];rfl
def fI(d:bn):List aH:=((kG d).take 40).filter okV
theorem abL(d:bn):∀v∈fI d,okV v=true:=λv hv=>(List.mem_filter.1 hv).2
theorem YP(d:bn):(fI d).length<=40:=Nat.le_trans (length_filter_le _ _) (by rw[length_take];omega)
def mW(lot:bS):List ax:=bif cR lot.area then lot.area else []
theorem ao2{l:List aH}(a0:List fB)(a1:List cu)(a2:List dM)(a3:List bV)(a4:List fZ)(a5:List eU)(a6:List bT)(a7:Int)(a8:List ax)(hl:l.length<=9223372036854775807)(hn:l.length<n):
 iter (qw l) n ((0:Int),a0,a1,a2,a3,a4,a5,a6,a7,a8,([]:List aH))=some (a0,a1,a2,a3,a4,a5,a6,a7,a8,(l.take 40).filter okV):=by
 refine sj (step:=qw l) (λ i=>((i:Int),a0,a1,a2,a3,a4,a5,a6,a7,a8,((l.take i).take 40).filter okV)) l.length _ (by simp) (λ i hi=>?_) ?_ n hn
 ·have hlen:(((l.take i).take 40).filter okV).length<=40:=Nat.le_trans (length_filter_le _ _) (by rw[length_take];omega);have e40:decide ((i:Int)<40)=decide (i<40):=by rw[decide_eq_decide];omega
  have hs:sub ([l[i]]:List aH) 0 1=[l[i]]:=rfl;have hN:((l.take (i+1)).take 40).filter okV=((l.take i).take 40).filter okV++(bif decide (i<40)&&okV l[i]then [l[i]]else []):=by
   by_cases h:i<40
   ·have h1:(l.take i).take 40=l.take i:=take_of_length_le (by rw[length_take];omega);have h2:(l.take (i+1)).take 40=l.take (i+1):=take_of_length_le (by rw[length_take];omega);have h3:decide (i<40)=true:=(by simpa using h);rw[h1,h2,gF hi,List.filter_append,h3];cases h4:okV l[i]<;>simp[h4]
   ·have h3:decide (i<40)=false:=(by simpa using h);rw[List.take_take,List.take_take,h3,show min 40 (i+1)=40 by omega,show min 40 i=40 by omega];simp
  rw[hN];generalize ((l.take i).take 40).filter okV=L at hlen;have hap:bP L.length L.length 1 1 72=true:=dm (by omega) (by simp only[maxLen];omega);simp only[qw,bO hi,aj,aT hi,aY hi,af,e40,ul,aM i];cases decide (i<40)with
  |false=>simp only[ak,af,aD,aj,Bool.false_and,append_nil]
  |true=>
   simp only[aj,af,Bool.true_and];cases okV l[i]with
   |false=>simp only[ak,aD,aj,af,append_nil]
   |true=>simp only[aj,hs,length_singleton,hap,dP,aD,af]
 ·simp only[qw,bX,ak,aD,aj,List.take_length]
def alH(n:Nat)(p:bB):Prop:=p.tables.length<n/\p.tables.length<=9223372036854775807/\∀t∈p.tables,t.rows.length<n/\t.rows.length<=9223372036854775807
def CQ:ByteArray:=⟨#[115,101,116,98,97,99,107]⟩
theorem aox{p:bB}{lot:bS}{d:bn}(hp:alH n p)(hl:lot.area.length<=900)(hd:Xg d)(hn:2000000<=n):∃e1 e2 e3 e4 e5 e6 e7 e8:Int,∀(D:List fB)(Z:List dM)(R:List bV)(C:List fZ)(V:List eU)(S:List bT)(H:Int),kr n (bB.mk D p.tables Z R C V S H) lot d=some [⟨⟨#[97,114,101,97]⟩,e1⟩,⟨⟨#[99,111,118,101,114]⟩,e2⟩,⟨⟨#[102,108,111,111,114]⟩,e3⟩,⟨⟨#[102,108,111,111,114,115]⟩,e4⟩,⟨⟨#[104,101,105,103,104,116]⟩,e5⟩,⟨⟨#[104,111,109,101,115]⟩,e6⟩,⟨⟨#[114,117,110,111,102,102]⟩,e7⟩,⟨CQ,um (mW lot) (fI d)⟩,⟨⟨#[116,114,97,102,102,105,99]⟩,e8⟩]:=by
 have hs1:mW lot=(bif cR lot.area then lot.area else []):=rfl;have hsl:(mW lot).length<=900:=by unfold mW;cases cR lot.area<;>simp[hl]
 have hvl:=YP d;have hvo:=abL d;have hfl:=dC hd.2;have hd1:=hd.1;obtain⟨hp1,hp2,hp3⟩:=hp;have hz:az 0 ([]:List aH).length=true:=rfl;have Hs:∀(D:List fB)(Z:List dM)(R:List bV)(C:List fZ)(V:List eU)(S:List bT)(H:Int),((bif cR lot.area then some (D,p.tables,Z,R,C,V,S,H,lot.area)else some (D,p.tables,Z,R,C,V,S,H,([]:(List ax)))):Option ((List fB)×(List cu)×(List dM)×(List bV)×(List fZ)×(List eU)×(List bT)×Int×(List ax)))=some (D,p.tables,Z,R,C,V,S,H,mW lot):=by intro D Z R C V S H;rw[hs1];cases cR lot.area<;>rfl
 obtain⟨e2,h2⟩:=alG (n:=n) p.tables (mW lot) (a9:=fI d) (by omega) (by omega);obtain⟨e3,h3⟩:=aot (n:=n) p.tables (mW lot) (a9:=fI d) (by omega) (by omega);obtain⟨e4,h4⟩:=alz (n:=n) p.tables (mW lot) (a9:=fI d) (by omega) (by omega);obtain⟨e5,h5⟩:=alA (n:=n) p.tables (mW lot) (a9:=fI d) (by omega) (by omega);obtain⟨e6,h6⟩:=aou (n:=n) p.tables (mW lot) (a9:=fI d) (by omega) (by omega);have h8:=λ(D:List fB)(Z:List dM)(R:List bV)(C:List fZ)(V:List eU)(S:List bT)(H:Int)=>agy (n:=n) D p.tables Z R C V S H (a8:=mW lot) (a9:=fI d) hvo (by omega) (by omega) (by omega);obtain⟨e9,h9⟩:=aow (n:=n) p.tables (mW lot) (a9:=fI d) (by omega) (by omega) hvo hp1 hp2 hp3;refine⟨bif cR (mW lot)then K3 (mW lot)else 0,e2,e3,e4,e5,e6,e2,e9,λD Z R C V S H=>?_⟩;unfold kr;rw[lN (by omega) (by omega) (by omega),Xh hd (by omega)];simp only[af,Hs,hz,aj];rw[ao2 (n:=n) D p.tables Z R C V S H (mW lot) (by show(kG d).length<=_;unfold kG;omega) (by show(kG d).length<_;unfold kG;omega)];have hr:((kG d).take 40).filter okV=fI d:=rfl;have s1:∀e:bR,sub ([e]:List bR) 0 1=[e]:=λ_=>rfl;have ap:∀k,k<=20->bP k k 1 1 24=true:=λk hk=>dm (by omega) (by simp only[maxLen];omega);have lot:mD n D p.tables Z R C V S H (mW lot) (fI d)=some (bif cR (mW lot)then K3 (mW lot)else 0,D,p.tables,Z,R,C,V,S,H,mW lot,fI d):=by
  unfold mD;rw[K4 (by omega) (by omega)];simp only[af,aD,aj]
 simp only[hr,af,aD,aj,lot,s1,length_singleton,ap 0 (by omega),dP,h2,ap 1 (by omega),dJ,ap 2 (by omega),h3,ap 3 (by omega),h4,ap 4 (by omega),h5,ap 5 (by omega),h6,ap 6 (by omega),h8,ap 7 (by omega),h9,ap 8 (by omega),Nat.reduceAdd,Nat.zero_add,cZ];rfl
theorem anT{p:bB}{lot:bS}{d:bn}(hp:alH n p)(hl:lot.area.length<=900)(hd:Xg d)(hn:2000000<=n):∃e1 e2 e3 e4 e5 e6 e7 e8:Int,∀R:List bV,kr n (bB.mk p.defs p.tables p.zones R p.caps p.views p.sm p.hours) lot d=some [⟨⟨#[97,114,101,97]⟩,e1⟩,⟨⟨#[99,111,118,101,114]⟩,e2⟩,⟨⟨#[102,108,111,111,114]⟩,e3⟩,⟨⟨#[102,108,111,111,114,115]⟩,e4⟩,⟨⟨#[104,101,105,103,104,116]⟩,e5⟩,⟨⟨#[104,111,109,101,115]⟩,e6⟩,⟨⟨#[114,117,110,111,102,102]⟩,e7⟩,⟨CQ,um (mW lot) (fI d)⟩,⟨⟨#[116,114,97,102,102,105,99]⟩,e8⟩]:=by
 have⟨e1,e2,e3,e4,e5,e6,e7,e8,h⟩:=aox (n:=n) hp hl hd hn;exact⟨e1,e2,e3,e4,e5,e6,e7,e8,λR=>h _ _ R _ _ _ _⟩
theorem aia(ds:List (ByteArray×ET))(s:List UInt8):∀(k:Nat)(i:Int),M7 ds s k=some i->0<=i/\i<(k:Int)
 | 0,i,h=>by simp[M7]at h
 |k+1,i,h=>by
  simp only[M7]at h;split at h
  ·cases h;omega
  ·have:=aia ds s k i h;omega
theorem ane{ds:List (ByteArray×ET)}(h:rh ds<=4000000):YJ (ow ds) ds.length:=by
 have hl:=Un ds;refine⟨by simp[ow],by omega,λl hl=>?_⟩;simp only[ow,mem_map]at hl;obtain⟨d,hd,rfl⟩:=hl;have h1:=Uo hd;have h2:=ET.oT d.2;have h3:=adI d.2.names;refine⟨Nat.le_trans (List.length_filterMap_le _ _) (by omega),λk hk=>?_⟩;simp only[gZ,List.mem_filterMap]at hk;obtain⟨s,_,hk⟩:=hk;exact aia ds s _ k hk
theorem aej{M:List ByteArray}(hM:M.length<=1000)(hn:1001<=n)(w0:List (ByteArray×Bool)):∃w,iter (nS M) n ((0:Int),w0)=some w:=by
 obtain⟨o,h,_⟩:=dL (step:=nS M) (λ i (v:Int×List (ByteArray×Bool))=>∃w,v=((i:Int),w)/\i<=M.length) (λ _=>True) M.length (λ k v ⟨_,_,h⟩=>h) (by
  rintro i v ⟨w,rfl,hi⟩;by_cases hlt:i<M.length
  ·simp only[nS,show decide ((i:Int)<(M.length:Int))=true from by simp;omega,aj,aT hlt,aY hlt,af,aM i];exact .inl ⟨_,rfl,_,rfl,hlt⟩
  ·simp only[nS,show decide ((i:Int)<(M.length:Int))=false from by simp;omega,ak];exact .inr ⟨_,rfl,trivial⟩) n 0 ((0:Int),w0) ⟨_,rfl,Nat.zero_le _⟩ (by omega)
 exact⟨o,h⟩
theorem aek{p:bB}(hp:p.defs.length<=4000000)(hn:4000001<=n)(w0:List (ByteArray×Bool)):iter (kR p) n ((0:Int),w0)=some (.inl ())\/iter (kR p) n ((0:Int),w0)=some (.inr ([],[],5)):=by
 obtain⟨o,h,h2⟩:=dL (step:=kR p) (λ i (v:Int×List (ByteArray×Bool))=>∃w,v=((i:Int),w)/\i<=p.defs.length) (λ o=>o= .inl ()\/o= .inr ([],[],5)) p.defs.length (λ k v ⟨_,_,h⟩=>h) (by
  rintro i v ⟨w,rfl,hi⟩;by_cases hlt:i<p.defs.length
  ·simp only[kR,show decide ((i:Int)<(p.defs.length:Int))=true from by simp;omega,aj,bq hlt,af,aM i];cases (fP Gb.ll p.defs[i].name w).getD false with
   |true=>exact .inr ⟨_,rfl,.inr rfl⟩
   |false=>exact .inl ⟨_,rfl,_,rfl,hlt⟩
  ·simp only[kR,show decide ((i:Int)<(p.defs.length:Int))=false from by simp;omega,ak];exact .inr ⟨_,rfl,.inl rfl⟩) n 0 ((0:Int),w0) ⟨_,rfl,Nat.zero_le _⟩ (by omega)
 rcases h2 with rfl |rfl
 ·exact .inl h
 ·exact .inr h
theorem ael:∃M,wR=some M/\M.length=9:=⟨_,rfl,rfl⟩
def ii(l:List fB):Prop:=rh (l.map toD)<=4000000
theorem ii.len{l:List fB}(h:ii l):l.length<=4000000:=by
 have:=Un (l.map toD);rw[length_map]at this;unfold ii at h;omega
theorem ii.body{l:List fB}(h:ii l){d:fB}(hd:d∈l):(toE (bZ.mk d.io d.ly d.kw d.ia d.en)).wt<=4000000:=by
 have h1:=Uo (mem_map.2 ⟨d,hd,rfl⟩:toD d∈l.map toD);unfold ii at h;simp only[toD,ET.wt]at h1;simp only[toE,ET.wt];omega
theorem Sv{p:bB}(hp:ii p.defs)(hn:5000003<=n):∃r,nI n p=some r/\r.1.length<=p.defs.length/\(∀ k∈r.1,0<=k/\k<(p.defs.length:Int))/\r.2.1.length<=p.defs.length+1:=by
 obtain⟨M,hM,hM9⟩:=ael;obtain⟨w,hw⟩:=aej (n:=n) (M:=M) (by omega) (by omega) [];have hg:YJ (ow (p.defs.map toD)) p.defs.length:=by have:=ane hp;rwa [length_map]at this
 have HB:kQ p.defs=some (p.defs,ow (p.defs.map toD)):=by
  unfold kQ;rw[Nat.ble_eq_true_of_le hp];rfl
 simp only[nI,hM,af,hw];rcases aek (n:=n) (p:=p) hp.len (by omega) w with h |h
 ·have⟨c,hc,hc2,hc3⟩:=adV (n:=n) (a0:=p.defs) hg rfl hn;simp only[h,eD,HB,af,hc];cases h0:(c.length==0)with
  |true=>
   have e:c=[]:=List.eq_nil_of_length_eq_zero (by simpa using h0);obtain⟨l,hl,hll,hlr⟩:=alk (n:=n) (a0:=oM.mk p.defs (ow (p.defs.map toD))) hg rfl (hc2 e) (by omega);simp only[aj,af,ak,hl,cZ,aD];exact⟨_,rfl,by simp[hll],hlr,by simp⟩
  |false=>
   simp only[aj,af,ak,cZ,aD];exact⟨_,rfl,by simp,by simp,hc3⟩
 ·simp only[h,iw];exact⟨_,rfl,by simp,by simp,by simp⟩
theorem yV(x:bZ):bZ.mk x.op x.n x.s x.key x.args=x:=by cases x;rfl
theorem N9:∀l:List bZ,HZ l=l.map toE
 |[]=>rfl
 |x::xs=>by simp only[HZ,aF,N9 xs]
theorem aib:∀{l:List ET}{t:ET},t∈l->t.wt<=ET.tf l
 |x::l,t,h=>by
  simp only[ET.tf];rcases aN.1 h with rfl |h
  ·omega
  ·have:=aib h;omega
theorem W8{e x:bZ}(h:x∈e.args):(toE x).wt<(toE e).wt:=by
 have h1:(toE x).wt<=ET.tf (HZ e.args):=aib (by rw[N9];exact mem_map.2 ⟨x,h,rfl⟩);cases e;simp only[toE,ET.wt]at *;omega
theorem abM(e:bZ):e.args.length<(toE e).wt:=by
 have h1:=ET.qv (HZ e.args);rw[N9,length_map]at h1;cases e;simp only[toE,ET.wt,N9]at *;omega
def VR:Nat->bZ->Prop
 | 0,_=>False
 |k+1,e=>yO e.op=some ((e.args.length:Int),true)/\∀x∈e.args,VR k x
theorem agA(op:Int):∃a b,yO op=some (a,b):=by
 simp only[yO];cases (op==0)<;>cases (op==1)<;>cases (op==2)<;>cases (op==3)<;>cases (op==9)<;>cases (op==15)<;>cases (op==16)<;>cases (decide (op>=0))<;>exact⟨_,_,rfl⟩
theorem aar(hn:4000002<=n):∀(m:Nat)(e:bZ)(a:Int),m<=9223372036854775000->0<=a->a<=12->13<=a+m->(toE e).wt<=4000000->∃r,rX n m e a=some r/\1<=r/\r<=13+m/\(r<=12->VR m e)
 | 0,_,_,_,_,_,h,_=>absurd h (by omega)
 |m+1,e,a,hm,h0,h1,h2,h3=>by
  have⟨x,b,hx⟩:=agA e.op;have hla:=abM e;show ∃r,Ab n (rX n m) e a=some r/\_;simp only[Ab,hx,af];have bad:∃r,some (13:Int)=some r/\1<=r/\r<=13+((m+1:Nat):Int)/\(r<=12->VR (m+1) e):=⟨13,rfl,by omega,by omega,λh=>absurd h (by omega)⟩;cases b with
  |false=>simpa only[Bool.not_false,aj,af]using bad
  |true=>
   simp only[Bool.not_true,ak];by_cases hxl:x=(e.args.length:Int)
   ·subst hxl;simp only[show ((e.args.length:Int) !=(e.args.length:Int))=false from by simp,ak,af];by_cases ha:a>=12
    ·simpa only[ha,decide_true,aj]using bad
    ·simp only[ha,decide_false,ak]
     obtain⟨o,g1,g2,g3,g4⟩:=dL (step:=xL n (rX n m) e a) (λ i (v:Int×Int)=>v.2=(i:Int)/\i<=e.args.length/\0<=v.1/\v.1<=13+m/\(v.1<=11->∀y∈e.args.take i,VR m y))
      (λ o=>0<=o/\o<=13+m/\(o<=11->∀y∈e.args,VR m y)) e.args.length (λ k v h=>h.2.1) (by
      rintro i ⟨v2,v3⟩ ⟨hv,hi,i1,i2,i3⟩;simp only at hv i1 i2 i3;subst hv;by_cases hlt:i<e.args.length
      ·left;have hwx:=W8 (getElem_mem hlt);obtain⟨r,r1,r2,r3,r4⟩:=aar hn m e.args[i] (a+1) (by omega) (by omega) (by omega) (by omega) (by omega);refine⟨(max v2 r,((i+1:Nat):Int)),?_,rfl,hlt,by show 0<=max v2 r;omega,by show max v2 r<=_;omega,λh y hy=>?_⟩
       ·simp only[xL,show decide ((i:Int)<(e.args.length:Int))=true from by simp;omega,aj,bq hlt,af,yV,dS (show -9223372036854775808<=a+1 by omega) (show a+1<=9223372036854775807 by omega),r1,aM i]
       ·have h':max v2 r<=11:=h;rw[List.take_add_one,dI hlt]at hy;rw[bf]at hy;rcases hy with hy |hy
        ·exact i3 (by omega) y hy
        ·simp at hy;subst hy;exact r4 (by omega)
      ·right;refine⟨v2,?_,i1,i2,λh y hy=>i3 h y (by rw[take_of_length_le (by omega)];exact hy)⟩;simp only[xL,show decide ((i:Int)<(e.args.length:Int))=false from by simp;omega,ak]) n 0 ((0:Int),(0:Int)) ⟨rfl,Nat.zero_le _,by simp,by show(0:Int)<=_;omega,by simp⟩ (by omega)
     simp only[g1,af];rw[dS (by omega) (by omega)];exact⟨o+1,rfl,by omega,by omega,λh=>⟨hx,g4 (by omega)⟩⟩
   ·simpa only[show (x !=(e.args.length:Int))=true from by simpa using hxl,aj,af]using bad
theorem RL(hn:4000002<=n)(hn2:n<=9223372036854775000){e:bZ}(h:(toE e).wt<=4000000):∃b,HY n e=some b/\(b=true->VR n e):=by
 obtain⟨r,h1,h2,h3,h4⟩:=aar hn n e 0 hn2 (by omega) (by omega) (by omega) h;refine⟨decide (r<=12),?_,λh=>h4 (by simpa using h)⟩;simp only[HY,yV,PY,h1,af]
def ao3(tables:List cu)(s key:ByteArray):Int:=match tables.find? λt=>ByteArray.toList t.name==ByteArray.toList s with
 |some t=>aoZ t key
 |none=>0
def MY(ts:List cu):Prop:=ts.length<=4000000/\∀t∈ts,t.rows.length<=4000000
theorem ajr(hn:4000002<=n){a0:List fB}{ts:List cu}{a2:List dM}{a3:List bV}{a4:List fZ}{a5:List eU}{a6:List bT}{a7:Int}{zs:List ByteArray}(ht:MY ts)(e:bZ)(kn:List (ByteArray×Int)):ji n a0 ts a2 a3 a4 a5 a6 a7 zs e kn=some (ao3 ts e.s e.key,kn):=by
 have h1:=ht.1;simp only[ji,yV];rw[Fy (λ t=>ByteArray.toList t.name==ByteArray.toList e.s) (λ x _=>rfl) (by omega) (by omega)];simp only[af,ao3];rcases WY (λ t:cu=>ByteArray.toList t.name==ByteArray.toList e.s) ts with ⟨i,hi,h1,h2⟩ |⟨h1,h2⟩
 ·rw[h1,h2];have d:decide ((i:Int)<0)=false:=by simp
  have hr:=ht.2 _ (getElem_mem hi);simp only[d,ak,bq hi,af];rw[Fz (λ x=>ByteArray.toList x.name==ByteArray.toList e.key) (λ x _=>rfl) (by omega) (by omega)];simp only[af,aoZ];rcases WY (λ x:bR=>ByteArray.toList x.name==ByteArray.toList e.key) ts[i].rows with ⟨j,hj,g1,g2⟩ |⟨g1,g2⟩
  ·rw[g1,g2];have d:decide ((j:Int)>=0)=true:=(by simp);simp only[d,aj,bq hj,af]
  ·rw[g1,g2];rfl
 ·rw[h1,h2];rfl
theorem cO{α:Type}{c:Bool}{x y:Option α}(hx:∃r,x=some r)(hy:∃r,y=some r):∃r,(bif c then x else y)=some r:=by cases c<;>assumption
theorem YQ(a b:Int):∃r,wF a b=some r:=by
 simp only[wF];cases h:(b==0)with
 |true=>exact⟨_,rfl⟩
 |false=>
  have:(b !=0)=true:=by simp[bne,h]
  simp only[this,aj,ak];cases (Int.tmod a b !=0)<;>cases (decide (Int.tmod a b<0)==decide (b<0))<;>exact⟨_,rfl⟩
theorem Xj(b:Bool):∃r,yP b=some r:=cO ⟨_,rfl⟩ ⟨_,rfl⟩
theorem sw{α β:Type}{x:Option α}{f:α->Option β}(hx:∃r,x=some r)(hf:∀r,∃s,f r=some s):∃s,x.bind f=some s:=by obtain⟨r,rfl⟩:=hx;exact hf r
theorem aem(op a b:Int):∃r,Jv op a b=some r:=by
 have q:=YQ a b;have t:=λc=>Xj c;unfold Jv
 repeat' first
  |exact⟨_,rfl⟩
  |exact q
  |exact t _
  |apply cO
  |(refine sw ?_ λr=>?_)
theorem Iu(h:0<n):cC 0 n=true:=by simp[cC];omega
theorem aen(h:1<n):cC 1 n=true:=by simp[cC];omega
theorem alI(h:2<n):cC 2 n=true:=by simp[cC];omega
theorem Oa{α:Type}{l:List α}(h:0<l.length):bp l (((0:Nat):Int)+0)=some l[0]:=aY (i:=0) h
theorem aid{α:Type}{l:List α}(h:1<l.length):bp l (((0:Nat):Int)+1)=some l[1]:=aY (i:=1) h
theorem anf{α:Type}{l:List α}(h:2<l.length):bp l (((0:Nat):Int)+2)=some l[2]:=aY (i:=2) h
theorem YR{l:List ByteArray}{s:ByteArray}(hl:l.length<=4000000)(hn:4000002<=n):∃r,fK n l s=some r:=by
 obtain⟨o,h,_⟩:=dL (step:=nD l s) (λ i (v:Int)=>v=(i:Int)/\i<=l.length) (λ _=>True) l.length (λ k v h=>h.2) (by
  rintro i v ⟨rfl,hi⟩;by_cases hlt:i<l.length
  ·simp only[nD,show decide ((i:Int)<(l.length:Int))=true from by simp;omega,aj,bq hlt,af,aM i];cases (ByteArray.toList s==ByteArray.toList l[i])with
   |true=>exact .inr ⟨_,rfl,trivial⟩
   |false=>exact .inl ⟨_,rfl,rfl,hlt⟩
  ·simp only[nD,show decide ((i:Int)<(l.length:Int))=false from by simp;omega,ak];exact .inr ⟨_,rfl,trivial⟩) n 0 0 ⟨rfl,Nat.zero_le _⟩ (by omega)
 simp only[fK,qQ,h];cases o with
 |inl u=>cases u;simp only[eD,af];exact⟨_,rfl⟩
 |inr r=>simp only[iw,af];exact⟨_,rfl⟩
theorem ajs{op a:Int}(h0:(op==0)=false)(h1:(op==1)=false)(h2:(op==2)=false)(h3:(op==3)=false)(h9:(op==9)=false)(LO:(op==15)=false)(h16:(op==16)=false)(h:yO op=some (a,true)):a=2:=by
 simp only[yO,h0,h1,h2,h3,h9,LO,h16,ak,af]at h;cases hd:decide (op>=0)with
 |true=>rw[hd]at h;simp only[aj,aA,Prod.mk.injEq]at h;exact h.1.symm
 |false=>rw[hd]at h;simp at h
section
variable {n:Nat} {a0:List fB} {ts:List cu} {a2:List dM} {a3:List bV} {a4:List fZ} {a5:List eU} {a6:List bT} {a7:Int} {zs:List ByteArray}
theorem Xk(hn:4000002<=n)(ht:MY ts)(hz:zs.length<=4000000):∀(m:Nat)(e:bZ)(kn:List (ByteArray×Int)),VR m e->(toE e).wt<=4000000->∃v,cB n m a0 ts a2 a3 a4 a5 a6 a7 zs e kn=some (v,kn)
 | 0,_,_,h,_=>h.elim
 |m+1,e,kn,⟨ha,hr⟩,hw=>by
  have hla:=abM e;have hmx:maxLen=9223372036854775807:=rfl;show ∃v,fG n (cB n m) a0 ts a2 a3 a4 a5 a6 a7 zs e kn=some (v,kn)
  obtain⟨o,h1,l,rfl,hl⟩:=dL (step:=fA n (cB n m) a0 ts a2 a3 a4 a5 a6 a7 zs e) (λ i (v:Int×List (ByteArray×Int)×List Int)=>∃l,v=((i:Int),kn,l)/\i<=e.args.length/\l.length=i)
   (λ o=>∃l,o=(kn,l)/\l.length=e.args.length) e.args.length (λ k v ⟨_,_,h,_⟩=>h) (by
   rintro i v ⟨l,rfl,hi,hl⟩;by_cases hlt:i<e.args.length
   ·left;have hwx:=W8 (getElem_mem hlt);obtain⟨x,hx⟩:=Xk hn ht hz m e.args[i] kn (hr _ (getElem_mem hlt)) (by omega);have key:∃b,((bif (e.op==(16:Int))then(bif (decide ((i:Int)>(0:Int)))then(ck (cC 0 l.length) ((bp l ((0:Nat)+0:Int)).bind λx2=>some (!((x2 !=(0:Int))==((i:Int)==(1:Int))))))else some false)else some false):Option (Bool))=some b:=by
     refine cO ?_ ⟨_,rfl⟩;by_cases h0:(i:Int)>0
     ·simp only[h0,decide_true,aj,Iu (show 0<l.length by omega),Oa (show 0<l.length by omega),af];exact⟨_,rfl⟩
     ·simp only[h0,decide_false,ak];exact⟨_,rfl⟩
    obtain⟨b,hb⟩:=key;have hap:∀z:Int,bP l.length l.length (sub [z] 0 1).length 1 8=true:=λz=>(by simp[bP,sub];omega);simp only[fA,show decide ((i:Int)<(e.args.length:Int))=true from by simp;omega,aj,bq hlt,af,hb,yV,hx,hap,dP,aD,aM i];cases b with
    |true=>exact⟨_,rfl,_,rfl,hlt,by simp[sub,hl]⟩
    |false=>exact⟨_,rfl,_,rfl,hlt,by simp[sub,hl]⟩
   ·right;refine⟨(kn,l),?_,l,rfl,by omega⟩;simp only[fA,show decide ((i:Int)<(e.args.length:Int))=false from by simp;omega,ak,aD,aj]) n 0 ((0:Int),kn,[]) ⟨[],rfl,Nat.zero_le _,rfl⟩ (by omega)
  simp only[fG,length_nil,aD,aj,h1,af,yV,ajr hn ht];cases h0:(e.op==0)with
  |true=>exact⟨_,rfl⟩
  |false=>
  cases h1:(e.op==1)with
  |true=>exact⟨_,rfl⟩
  |false=>
  cases h2:(e.op==2)with
  |true=>exact⟨_,rfl⟩
  |false=>
  cases h3:(e.op==3)with
  |true=>
   have⟨r,hr⟩:=YR (n:=n) (l:=zs) (s:=e.s) hz hn;have⟨r2,hr2⟩:=Xj r;simp only[ak,aj,hr,hr2,af];exact⟨_,rfl⟩
  |false=>
  cases h9:(e.op==9)with
  |true=>
   have e9:e.op=9:=(by simpa using h9);rw[e9]at ha;have:l.length=1:=(by have h:some ((1:Int),true)=some ((e.args.length:Int),true):=ha;simp at h;omega);simp only[ak,aj,Iu (show 0<l.length by omega),Oa (show 0<l.length by omega),af];exact⟨_,rfl⟩
  |false=>
  cases LO:(e.op==15)with
  |true=>
   have e15:e.op=15:=(by simpa using LO);rw[e15]at ha;have:l.length=1:=(by have h:some ((1:Int),true)=some ((e.args.length:Int),true):=ha;simp at h;omega);obtain⟨r2,hr2⟩:=Xj (l[0]'(by omega)==0);simp only[ak,aj,Iu (show 0<l.length by omega),Oa (show 0<l.length by omega),af,hr2];exact⟨_,rfl⟩
  |false=>
  cases h16:(e.op==16)with
  |true=>
   have e16:e.op=16:=(by simpa using h16);rw[e16]at ha;have:l.length=3:=(by have h:some ((3:Int),true)=some ((e.args.length:Int),true):=ha;simp at h;omega);simp only[ak,aj,Iu (show 0<l.length by omega),Oa (show 0<l.length by omega),aen (show 1<l.length by omega),aid (show 1<l.length by omega),alI (show 2<l.length by omega),anf (show 2<l.length by omega),af];cases (l[0]'(by omega) !=0)<;>exact⟨_,rfl⟩
  |false=>
   have:l.length=2:=(by have:=ajs h0 h1 h2 h3 h9 LO h16 ha;omega);obtain⟨r,hr⟩:=aem e.op (l[0]'(by omega)) (l[1]'(by omega));simp only[ak,aj,Iu (show 0<l.length by omega),Oa (show 0<l.length by omega),aen (show 1<l.length by omega),aid (show 1<l.length by omega),af,hr];exact⟨_,rfl⟩
end
theorem agB{ms:List bR}(h:ms.length<=4000000)(hn:4000002<=n):∃o,iter (jW n ms) n ((0:Int),([]:List (ByteArray×Int)),([]:List (ByteArray×Bool)))=some o:=by
 obtain⟨o,h,_⟩:=dL (step:=jW n ms) (λ i (v:Int×List (ByteArray×Int)×List (ByteArray×Bool))=>∃a b,v=((i:Int),a,b)/\i<=ms.length) (λ _=>True) ms.length (λ k v ⟨_,_,_,h⟩=>h) (by
  rintro i v ⟨a,b,rfl,hi⟩;by_cases hlt:i<ms.length
  ·left;simp only[jW,show decide ((i:Int)<(ms.length:Int))=true from by simp;omega,aj,bq hlt,af,aM i];cases (!((fP Gb.ll ms[i].name b).getD false))<;>exact⟨_,rfl,_,_,rfl,hlt⟩
  ·right;simp only[jW,show decide ((i:Int)<(ms.length:Int))=false from by simp;omega,ak];exact⟨_,rfl,trivial⟩) n 0 _ ⟨[],[],rfl,Nat.zero_le _⟩ (by omega)
 exact⟨o,h⟩
structure XS(p:bB):Prop where
 defs:ii p.defs
 tabs:MY p.tables
theorem K6{p:bB}{ms:List bR}{zs:List ByteArray}(hp:XS p)(hm:ms.length<=4000000)(hz:zs.length<=4000000)(hn:5000003<=n)(hn2:n<=9223372036854775000):∃kn ab,l6 n p ms zs=some (p.defs,p.tables,p.zones,p.rules,p.caps,p.views,p.sm,p.hours,zs,kn,ab)/\ab.length=p.defs.length:=by
 obtain⟨⟨w1,w2⟩,hs1⟩:=agB (n:=n) hm (by omega);have⟨r,hr,hrl,hrr,_⟩:=Sv (n:=n) hp.defs hn;have hl:=hp.defs.len;have hmx:maxLen=9223372036854775807:=rfl;have hmk:zx (p.defs.length:Int) 8=true:=by simp[zx];omega
 simp only[l6,hs1,af,Int.le_refl,decide_true,Bool.true_and,show decide ((0:Int)<=(p.defs.length:Int))=true from by simp,hmk,aj,hr];cases hb:(r.2.2 !=(0:Int))with
 |true=>
  simp only[aj,Int.toNat_natCast,List.length_replicate,aD];exact⟨_,_,rfl,by simp⟩
 |false=>
  obtain⟨o,h1,kn,ab,rfl,h2⟩:=dL (step:=gJ n p zs w2 r) (λ i (v:Int×List (ByteArray×Int)×List Int)=>∃kn ab,v=((i:Int),kn,ab)/\i<=r.1.length/\ab.length=p.defs.length)
   (λ o=>∃kn ab,o=(kn,ab)/\ab.length=p.defs.length) r.1.length (λ k v ⟨_,_,_,h,_⟩=>h) (by
   rintro i v ⟨kn,ab,rfl,hi,hol⟩;by_cases hlt:i<r.1.length
   ·left;have hk:=hrr r.1[i] (getElem_mem hlt);obtain⟨k,hk2⟩:=Int.eq_ofNat_of_zero_le hk.1;have hkd:k<p.defs.length:=(by omega);have hko:k<ab.length:=(by omega);have hbw:=hp.defs.body (getElem_mem hkd);obtain⟨b,hb1,hb2⟩:=RL (n:=n) (by omega) hn2 hbw;simp only[gJ,show decide ((i:Int)<(r.1.length:Int))=true from by simp;omega,aj,aT hlt,aY hlt,af,hk2,bq hkd,hb1,Int.toNat_natCast,aT hkd,aY hko,aM i,show(((0:Nat):Int)+(k:Int)).toNat=k by omega];have step2:∀(QP:List (ByteArray×Int)) (out':List Int),out'.length=p.defs.length->∃P4,((bif (!((fP Gb.ll p.defs[k].name w2).getD false))then(bp out' ((0:Nat)+(k:Int):Int)).bind λx5=>some ((rf Gb.ll p.defs[k].name x5 QP),out')else some (QP,out')):Option ((List (ByteArray×Int))×(List Int)))=some (P4,out'):=by
     intro QP out' ho;cases (!((fP Gb.ll p.defs[k].name w2).getD false))with
     |true=>simp only[aj,aY (show k<out'.length by omega),af];exact⟨_,rfl⟩
     |false=>exact⟨_,rfl⟩
    cases b with
    |true=>
     obtain⟨v,hv⟩:=Xk (n:=n) (a0:=p.defs) (a2:=p.zones) (a3:=p.rules) (a4:=p.caps) (a5:=p.views) (a6:=p.sm) (a7:=p.hours) (by omega) hp.tabs hz n _ kn (hb2 rfl) hbw;simp only[gq,hv,aj,af];obtain⟨kn2,h2⟩:=step2 kn (ab.set k v) (by simp[hol]);rw[h2];exact⟨_,rfl,_,_,rfl,hlt,by simp[hol]⟩
    |false=>
     simp only[ak,af];have⟨kn2,h2⟩:=step2 kn ab hol;rw[h2];exact⟨_,rfl,_,_,rfl,hlt,hol⟩
   ·right;simp only[gJ,show decide ((i:Int)<(r.1.length:Int))=false from by simp;omega,ak];exact⟨_,rfl,_,_,rfl,hol⟩) n 0 ((0:Int),w1,List.replicate p.defs.length 0) ⟨_,_,rfl,Nat.zero_le _,by simp⟩ (by omega)
  simp only[ak,Int.toNat_natCast,h1,af,h2,aD,aj];exact⟨_,_,rfl,h2⟩
theorem all_eq{d:bn}(h:Xg d)(hn:1001<=n):wD n d=some (kG d):=by simp only[wD,Xh h hn,af,cZ,aD,aj]
theorem YS(a b:ByteArray)(h:a.size<=4000000):∃r,strings_Contains a b=some r:=by
 simp only[strings_Contains,Nat.ble_eq_true_of_le h,aj];exact⟨_,rfl⟩
theorem RN(c:Int):∃b,Eh c=some b:=cO ⟨_,rfl⟩ ⟨_,rfl⟩
theorem agD(c:Int):∃b,PX c=some b:=cO ⟨_,rfl⟩ ⟨_,rfl⟩
theorem ajt(c:Int):∃b,zZ c=some b:=sw (RN c) λ_=>cO ⟨_,rfl⟩ (sw (agD c) λ_=>⟨_,rfl⟩)
theorem aeo{s:ByteArray}{i:Nat}(h:i<s.size):∃c,Rl s (i:Int)=some c:=by
 simp only[Rl,show decide (0<=(i:Int))=true from by simp,aj,Int.toNat_natCast];rw[getElem?_pos s i h];exact⟨_,rfl⟩
theorem aju{s:ByteArray}{φ:(Int×Unit)->Option Bool}(h:∀c,∃b,φ (c,())=some b)(hs:s.size<=4000000)(hn:4000002<=n):∃r,NC n s φ=some r:=by
 obtain⟨o,h1,_⟩:=dL (step:=zY s φ) (λ i (v:Int)=>v=(i:Int)/\i<=s.size) (λ _=>True) s.size (λ k v h=>h.2) (by
  rintro i v ⟨rfl,hi⟩;by_cases hlt:i<s.size
  ·have⟨c,hc⟩:=aeo hlt;have⟨b,hb⟩:=h c;simp only[zY,show decide ((i:Int)<(s.size:Int))=true from by simp;omega,aj,hc,af,hb,aM i];cases b with
   |true=>exact .inl ⟨_,rfl,rfl,hlt⟩
   |false=>exact .inr ⟨_,rfl,trivial⟩
  ·simp only[zY,show decide ((i:Int)<(s.size:Int))=false from by simp;omega,ak,af];exact .inr ⟨_,rfl,trivial⟩) n 0 0 ⟨rfl,Nat.zero_le _⟩ (by omega)
 simp only[NC,h1,af];exact⟨_,rfl⟩
theorem ajv(s:ByteArray)(hn:4000002<=n):∃b,ND n s=some b/\(b=true->s.size<=20):=by
 simp only[ND];cases h0:(ByteArray.toList s==ByteArray.toList (⟨#[]⟩))with
 |true=>exact⟨false,by simp only[aj,af],λh=>(by cases h)⟩
 |false=>
  have hs:0<s.size:=by
   refine Nat.pos_of_ne_zero λh=>?_;have:s=⟨#[]⟩:=by
    obtain⟨⟨l⟩⟩:=s;have:l.length=0:=h;rw[List.eq_nil_of_length_eq_zero this]
   rw[this]at h0;simp at h0
  have⟨c,hc⟩:=aeo hs;have hc':Rl s 0=some c:=hc;have⟨b,hb⟩:=RN c;simp only[ak,hc',af,hb];cases b with
  |false=>exact⟨false,by simp only[Bool.not_false,aj,af],λh=>(by cases h)⟩
  |true=>
   simp only[Bool.not_true,ak,af];by_cases h20:(s.size:Int)>20
   ·exact⟨false,by simp only[h20,decide_true,aj],λh=>(by cases h)⟩
   ·obtain⟨r,hr⟩:=aju (n:=n) (s:=s) (φ:=λ(y1:Int×Unit)=>zZ y1.1) (λ c=>ajt c) (by omega) hn;simp only[h20,decide_false,ak,hr,af];exact⟨_,rfl,λ_=>by omega⟩
theorem ajw(s:ByteArray)(hn:4000002<=n):∃b,wE n s=some b:=by
 have⟨b,hb,h20⟩:=ajv (n:=n) s hn;simp only[wE,hb,af];cases b with
 |false=>exact⟨_,rfl⟩
 |true=>
  have hs:=h20 rfl;have hmx:maxLen=9223372036854775807:=rfl;have c1:Vl (⟨#[32]⟩) s=true:=by
   have:(⟨#[32]⟩:ByteArray).size=1:=rfl;simp only[Vl,aV];omega
  have c2:Vl ((⟨#[32]⟩)++s) (⟨#[32]⟩)=true:=by
   have h1:(⟨#[32]⟩:ByteArray).size=1:=rfl;simp only[Vl,aV,ByteArray.size_append];omega
  simp only[aj,c1,c2];refine sw (YS _ _ (Nat.le_of_ble_eq_true ?_)) λ_=>⟨_,rfl⟩
  kernel_rfl
theorem ajx(a b:DA):∃r,xH a b=some r:=by
 unfold xH;rw[yU];exact cO (cO ⟨_,rfl⟩ ⟨_,rfl⟩) ⟨_,rfl⟩
theorem fV{l:List aH}{φ:(aH×Unit)->Option Bool}(p:aH->Bool)(h:∀x∈l,φ (x,())=some (p x))(hl:l.length<1099511627776)(hn:l.length<n):fM n l φ=some (l.any p):=by
 have:qa n l φ=some (xw p l):=gD p h hl hn;simp only[fM,this,af,xA]
theorem xV{l:List aH}{φ:(aH×Unit)->Option Bool}(h:∀x∈l,∃b,φ (x,())=some b)(hl:l.length<1099511627776)(hn:l.length<n):fM n l φ=some (l.any λx=>(φ (x,())).getD false):=
 fV _ (λ x hx=>by have⟨b,hb⟩:=h x hx;rw[hb];rfl) hl hn
def IF(d:bn):Prop:=∀p∈d.phases,p.gives.length<=1000
theorem agE{l:List aH}(hl:l.length<=1000000)(hn:4000002<=n):iter (kK n l) n (0:Int)=some (.inr false)\/(iter (kK n l) n (0:Int)=some (.inl ())/\∀v∈l,okV v=true):=by
 obtain⟨o,h1,h2⟩:=dL (step:=kK n l) (λ i (v:Int)=>v=(i:Int)/\i<=l.length/\∀x∈l.take i,okV x=true) (λ o=>o= .inr false\/(o= .inl ()/\∀v∈l,okV v=true)) l.length (λ k v h=>h.2.1) (by
  rintro i v ⟨rfl,hi,hall⟩;by_cases hlt:i<l.length
  ·simp only[kK,show decide ((i:Int)<(l.length:Int))=true from by simp;omega,aj,aT hlt,aY hlt,af,ul,aM i];cases hv:okV l[i]with
   |false=>exact .inr ⟨_,by simp only[Bool.not_false,aj,af];rfl,.inl rfl⟩
   |true=>
    have hsub:(sub l 0 i).length=i:=(by simp[sub];omega);have hc:=xV (n:=n) (l:=sub l 0 i) (φ:=λ(y1:aH×Unit)=>qO y1.1 l[i]) (λ x _=>sw (ajx _ _) λ_=>⟨_,rfl⟩) (by omega) (by omega);simp only[Bool.not_true,ak,yg (show (0:Int)<=0 by omega) (show (0:Int)<=(i:Int)by omega) (show (i:Int)<=(l.length:Int)by omega),aj,Int.toNat_natCast,D5 hsub,hc,af];cases ((sub l 0 i).any λx=>((λ (y1:aH×Unit)=>qO y1.1 l[i]) (x,())).getD false)with
    |true=>exact .inr ⟨_,rfl,.inl rfl⟩
    |false=>
     refine .inl ⟨_,rfl,rfl,hlt,λx hx=>?_⟩;rw[List.take_add_one,dI hlt,bf]at hx;rcases hx with hx |hx
     ·exact hall x hx
     ·simp at hx;subst hx;exact hv
  ·refine .inr ⟨.inl (),?_,.inr ⟨rfl,λv hv=>hall v (by rw[take_of_length_le (by omega)];exact hv)⟩⟩;simp only[kK,show decide ((i:Int)<(l.length:Int))=false from by simp;omega,ak]) n 0 0 ⟨rfl,Nat.zero_le _,by simp⟩ (by omega)
 rcases h2 with rfl |⟨rfl,h2⟩
 ·exact .inl h1
 ·exact .inr ⟨h1,h2⟩
theorem agF{p:ru}(hp:p.gives.length<=1000)(hn:4000002<=n):iter (kL n p) n ((0:Int),([]:List (ByteArray×Bool)))=some (.inl ())\/iter (kL n p) n ((0:Int),([]:List (ByteArray×Bool)))=some (.inr (.inr (.inr false))):=by
 obtain⟨o,h1,h2⟩:=dL (step:=kL n p) (λ i (v:Int×List (ByteArray×Bool))=>∃m,v=((i:Int),m)/\i<=p.gives.length) (λ o=>o= .inl ()\/o= .inr (.inr (.inr false))) p.gives.length (λ k v ⟨_,_,h⟩=>h) (by
  rintro i v ⟨m,rfl,hi⟩;by_cases hlt:i<p.gives.length
  ·have key:∃b,((bif ((fP Gb.ll p.gives[i].name m).getD false)then some true else(wE n p.gives[i].name).bind λr4=>(bif (!r4)then some true else(bif (decide (p.gives[i].n<(0:Int)))then some true else some (decide (p.gives[i].n>(1073741824:Int)))))):Option (Bool))=some b:=
    cO ⟨_,rfl⟩ (sw (ajw _ hn) λ_=>cO ⟨_,rfl⟩ (cO ⟨_,rfl⟩ ⟨_,rfl⟩))
   obtain⟨b,hb⟩:=key;simp only[kL,show decide ((i:Int)<(p.gives.length:Int))=true from by simp;omega,aj,bq hlt,af,hb,aM i];cases b with
   |true=>exact .inr ⟨_,rfl,.inr rfl⟩
   |false=>exact .inl ⟨_,rfl,_,rfl,hlt⟩
  ·simp only[kL,show decide ((i:Int)<(p.gives.length:Int))=false from by simp;omega,ak];exact .inr ⟨_,rfl,.inl rfl⟩) n 0 _ ⟨[],rfl,Nat.zero_le _⟩ (by omega)
 rcases h2 with rfl |rfl
 ·exact .inl h1
 ·exact .inr h1
theorem agG{d:bn}(hd:Xg d)(hg:IF d)(hn:4000002<=n):iter (kM n d) n (0:Int)=some (.inl ())\/iter (kM n d) n (0:Int)=some (.inr false):=by
 have hd1:=hd.1;obtain⟨o,h1,h2⟩:=dL (step:=kM n d) (λ i (v:Int)=>v=(i:Int)/\i<=d.phases.length) (λ o=>o= .inl ()\/o= .inr false) d.phases.length (λ k v h=>h.2) (by
  rintro i v ⟨rfl,hi⟩;by_cases hlt:i<d.phases.length
  ·simp only[kM,show decide ((i:Int)<(d.phases.length:Int))=true from by simp;omega,aj,bq hlt,af,aM i];rcases agF (n:=n) (hg _ (getElem_mem hlt)) hn with h |h
   ·simp only[h,eD];cases decide ((d.phases[i].gives.length:Int)>30)with
    |true=>exact .inr ⟨_,rfl,.inr rfl⟩
    |false=>exact .inl ⟨_,rfl,rfl,hlt⟩
   ·simp only[h,iw];exact .inr ⟨_,rfl,.inr rfl⟩
  ·simp only[kM,show decide ((i:Int)<(d.phases.length:Int))=false from by simp;omega,ak];exact .inr ⟨_,rfl,.inl rfl⟩) n 0 0 ⟨rfl,Nat.zero_le _⟩ (by omega)
 rcases h2 with rfl |rfl
 ·exact .inl h1
 ·exact .inr h1
theorem JE{d:bn}(hd:Xg d):(kG d).length<=1000000:=by
 have:=dC hd.2;have:=hd.1;unfold kG;omega
theorem ang{d:bn}(hd:Xg d)(hg:IF d)(hn:4000002<=n):∃b,xI n d=some b/\(b=true->∀v∈kG d,okV v=true):=by
 simp only[xI,all_eq hd (show 1001<=n by omega),af];have key:∀c1 c2 c3 c4 c5 c6:Bool,∃b,((bif c1 then some true else(bif c2 then some true else(bif c3 then some true else(bif c4 then some true else(bif c5 then some true else some c6))))):Option Bool)=some b:=by
  intro c1 c2 c3 c4 c5 c6;exact cO ⟨_,rfl⟩ (cO ⟨_,rfl⟩ (cO ⟨_,rfl⟩ (cO ⟨_,rfl⟩ (cO ⟨_,rfl⟩ ⟨_,rfl⟩))))
 have⟨b,hb⟩:=key (decide (d.lot<0)) (decide (d.lot>1073741824)) (decide ((d.phases.length:Int)<1)) (decide ((d.phases.length:Int)>8)) (decide (((kG d).length:Int)<1)) (decide (((kG d).length:Int)>40));rw[hb];cases b with
 |true=>exact⟨false,rfl,λh=>(by cases h)⟩
 |false=>
  simp only[af,ak];rcases agE (n:=n) (JE hd) hn with h |⟨h,hall⟩
  ·simp only[h,iw];exact⟨false,rfl,λh=>(by cases h)⟩
  ·simp only[h,eD];rcases agG (n:=n) hd hg hn with h2 |h2
   ·simp only[h2,eD];exact⟨true,rfl,λ_=>hall⟩
   ·simp only[h2,iw];exact⟨false,rfl,λh=>(by cases h)⟩
theorem EN{l:List fZ}{φ:(fZ×Unit)->Option Bool}(p:fZ->Bool)(h:∀x∈l,φ (x,())=some (p x))(hl:l.length<1099511627776)(hn:l.length<n):mq n l φ=some (l.any p):=by
 have:uX n l φ=some (xw p l):=gD p h hl hn;simp only[mq,this,af,xA]
theorem alK{lot:bS}{l:List aH}(ha:lot.area.length<=900)(hv:∀v∈l,okV v=true)(hl:l.length<=1000000)(hn:4000002<=n):iter (jS n lot l) n (0:Int)=some (.inl ())\/iter (jS n lot l) n (0:Int)=some (.inr false):=by
 obtain⟨o,h1,h2⟩:=dL (step:=jS n lot l) (λ i (v:Int)=>v=(i:Int)/\i<=l.length) (λ o=>o= .inl ()\/o= .inr false) l.length (λ k v h=>h.2) (by
  rintro i v ⟨rfl,hi⟩;by_cases hlt:i<l.length
  ·have hb:=Xf (hv _ (getElem_mem hlt));have hcl:=NW (keep:=λp q=>p&&q) lot.area [iq l[i]];have hc:=NV (n:=n) (a:=lot.area) (b:=[iq l[i]]) (by omega) (by simp) (by omega) (by simp;omega) (by omega);have hA:=K4 (n:=n) (a:=(oV (λ p q=>p&&q) lot.area [iq l[i]]).1) (by omega) (by omega);have hr:=CP hb;simp only[iq]at hc hA hr;simp only[jS,show decide ((i:Int)<(l.length:Int))=true from by simp;omega,aj,aT hlt,aY hlt,af,show ∀r:ax,sub [r] 0 1=[r]from λ_=>rfl,length_singleton,aD,hc,hA,hr,aM i];have key:∀c x:Bool,∃b,((bif c then some true else some x):Option Bool)=some b:=λc x=>cO ⟨_,rfl⟩ ⟨_,rfl⟩;obtain⟨b,hb2⟩:=key ((oV (λ p q=>p&&q) lot.area [⟨l[i].bu,l[i].ca,l[i].br,l[i].b9⟩]).2 !=0) (decide ((bif cR (oV (λ p q=>p&&q) lot.area [⟨l[i].bu,l[i].ca,l[i].br,l[i].b9⟩]).1 then K3 (oV (λ p q=>p&&q) lot.area [⟨l[i].bu,l[i].ca,l[i].br,l[i].b9⟩]).1 else 0)<Kf ⟨l[i].bu,l[i].ca,l[i].br,l[i].b9⟩));rw[hb2];cases b with
   |true=>exact .inr ⟨_,rfl,.inr rfl⟩
   |false=>exact .inl ⟨_,rfl,rfl,hlt⟩
  ·simp only[jS,show decide ((i:Int)<(l.length:Int))=false from by simp;omega,ak];exact .inr ⟨_,rfl,.inl rfl⟩) n 0 0 ⟨rfl,Nat.zero_le _⟩ (by omega)
 rcases h2 with rfl |rfl
 ·exact .inl h1
 ·exact .inr h1
theorem alL{p:bB}{ph:ru}(hc:p.caps.length<=1000)(hp:ph.gives.length<=1000)(hn:4000002<=n):iter (jT n p ph) n (0:Int)=some (.inl ())\/iter (jT n p ph) n (0:Int)=some (.inr (.inr (.inr false))):=by
 obtain⟨o,h1,h2⟩:=dL (step:=jT n p ph) (λ i (v:Int)=>v=(i:Int)/\i<=ph.gives.length) (λ o=>o= .inl ()\/o= .inr (.inr (.inr false))) ph.gives.length (λ k v h=>h.2) (by
  rintro i v ⟨rfl,hi⟩;by_cases hlt:i<ph.gives.length
  ·simp only[jT,show decide ((i:Int)<(ph.gives.length:Int))=true from by simp;omega,aj,bq hlt,af,EN (n:=n) (l:=p.caps) (φ:=λ(y1:fZ×Unit)=>uW y1.1 ph.gives[i]) (λ c=>ByteArray.toList c.name==ByteArray.toList ph.gives[i].name) (λ _ _=>rfl) (by omega) (by omega),aM i];cases (p.caps.any λc=>ByteArray.toList c.name==ByteArray.toList ph.gives[i].name)with
   |false=>exact .inr ⟨_,rfl,.inr rfl⟩
   |true=>exact .inl ⟨_,rfl,rfl,hlt⟩
  ·simp only[jT,show decide ((i:Int)<(ph.gives.length:Int))=false from by simp;omega,ak];exact .inr ⟨_,rfl,.inl rfl⟩) n 0 0 ⟨rfl,Nat.zero_le _⟩ (by omega)
 rcases h2 with rfl |rfl
 ·exact .inl h1
 ·exact .inr h1
theorem alM{p:bB}{d:bn}(hc:p.caps.length<=1000)(hd:Xg d)(hg:IF d)(hn:4000002<=n):iter (jU n p d) n (0:Int)=some (.inl ())\/iter (jU n p d) n (0:Int)=some (.inr false):=by
 have hd1:=hd.1;obtain⟨o,h1,h2⟩:=dL (step:=jU n p d) (λ i (v:Int)=>v=(i:Int)/\i<=d.phases.length) (λ o=>o= .inl ()\/o= .inr false) d.phases.length (λ k v h=>h.2) (by
  rintro i v ⟨rfl,hi⟩;by_cases hlt:i<d.phases.length
  ·simp only[jU,show decide ((i:Int)<(d.phases.length:Int))=true from by simp;omega,aj,bq hlt,af,aM i];rcases alL (n:=n) hc (hg _ (getElem_mem hlt)) hn with h |h
   ·simp only[h,eD];exact .inl ⟨_,rfl,rfl,hlt⟩
   ·simp only[h,iw];exact .inr ⟨_,rfl,.inr rfl⟩
  ·simp only[jU,show decide ((i:Int)<(d.phases.length:Int))=false from by simp;omega,ak];exact .inr ⟨_,rfl,.inl rfl⟩) n 0 0 ⟨rfl,Nat.zero_le _⟩ (by omega)
 rcases h2 with rfl |rfl
 ·exact .inl h1
 ·exact .inr h1
theorem ajy{p:bB}{lot:bS}{d:bn}(hc:p.caps.length<=1000)(ha:lot.area.length<=900)(hd:Xg d)(hg:IF d)(hn:4000002<=n):∃b,om n p lot d=some b/\(b=true->∀v∈kG d,okV v=true):=by
 have⟨b,hb,hv⟩:=ang (n:=n) hd hg hn;simp only[om,hb,af];cases b with
 |false=>exact⟨false,by simp only[Bool.not_false,aj,af],λh=>(by cases h)⟩
 |true=>
  simp only[Bool.not_true,ak,lN (n:=n) (l:=lot.area) (by omega) (by omega) (by omega),af];cases (lot.id !=d.lot)with
  |true=>exact⟨false,by simp only[aj,af],λh=>(by cases h)⟩
  |false=>
   cases cR lot.area with
   |false=>exact⟨false,by simp only[Bool.not_false,aj,ak,af],λh=>(by cases h)⟩
   |true=>
    simp only[Bool.not_true,ak,af,all_eq hd (show 1001<=n by omega)];rcases alK (n:=n) ha (hv rfl) (JE hd) hn with h |h
    ·simp only[h,eD];rcases alM (n:=n) hc hd hg hn with h2 |h2
     ·simp only[h2,eD];exact⟨true,rfl,λ_=>hv rfl⟩
     ·simp only[h2,iw];exact⟨false,rfl,λh=>(by cases h)⟩
    ·simp only[h,iw];exact⟨false,rfl,λh=>(by cases h)⟩
theorem anh{p:bB}{ms:List bR}{zs:List ByteArray}{e:bZ}(hp:XS p)(hm:ms.length<=4000000)(hz:zs.length<=4000000)(he:(toE e).wt<=4000000)(hn:5000003<=n)(hn2:n<=9223372036854775000):∃v,vG n p ms zs e=some v:=by
 obtain⟨b,hb,hv⟩:=RL (n:=n) (by omega) hn2 he;simp only[vG,yV,hb,af];cases b with
 |false=>exact⟨_,rfl⟩
 |true=>
  have⟨kn,ab,h1,_⟩:=K6 (n:=n) hp hm hz hn hn2;obtain⟨v,h2⟩:=Xk (n:=n) (a0:=p.defs) (a2:=p.zones) (a3:=p.rules) (a4:=p.caps) (a5:=p.views) (a6:=p.sm) (a7:=p.hours) (by omega) hp.tabs hz n e kn (hv rfl) he;simp only[Bool.not_true,ak,h1,af,gq,h2];exact⟨_,rfl⟩
section
variable {n:Nat} {d:List fB} {ts:List cu} {z:List dM} {r r':List bV} {c c':List fZ} {v v':List eU} {su sn:List bT} {h h':Int} {zs:List ByteArray}
theorem Iw:∀(m:Nat)(e:bZ)(kn:List (ByteArray×Int)),cB n m d ts z r c v su h zs e kn=cB n m d ts z r' c' v' sn h' zs e kn
 | 0,_,_=>rfl
 |m+1,e,kn=>by
  have ih:=Iw m;have hs:fA n (cB n m) d ts z r c v su h zs e=fA n (cB n m) d ts z r' c' v' sn h' zs e:=by
   funext ⟨v1,v2,v3⟩;simp only[fA,ih]
  have hr:∀w,ji n d ts z r c v su h zs e w=ji n d ts z r' c' v' sn h' zs e w:=λ_=>rfl;show fG n (cB n m) d ts z r c v su h zs e kn=fG n (cB n m) d ts z r' c' v' sn h' zs e kn;simp only[fG,hs,yV,hr]
theorem agH{ms:List bR}:(l6 n (bB.mk d ts z r c v su h) ms zs).map (λ q=>q.2.2.2.2.2.2.2.2.2)=(l6 n (bB.mk d ts z r' c' v' sn h') ms zs).map (λ q=>q.2.2.2.2.2.2.2.2.2):=by
 have hs:∀w2 r1,gJ n (bB.mk d ts z r c v su h) zs w2 r1=gJ n (bB.mk d ts z r' c' v' sn h') zs w2 r1:=by
  intro w2 r1;funext ⟨v6,v7,v8⟩;have hv:∀e kn,gq n d ts z r c v su h zs e kn=gq n d ts z r' c' v' sn h' zs e kn:=λe kn=>Iw n e kn;simp only[gJ,hv]
 have ho:nI n (bB.mk d ts z r c v su h)=nI n (bB.mk d ts z r' c' v' sn h'):=rfl;simp only[l6,hs,ho];cases iter (jW n ms) n ((0:Int),([]:(List (ByteArray×Int))),([]:(List (ByteArray×Bool))))with
 |none=>rfl
 |some w=>
  obtain⟨w1,w2⟩:=w;simp only[af];cases (decide ((d.length:Int)<=(d.length:Int))&&(decide (0<=(d.length:Int))&&zx (d.length:Int) 8))with
  |false=>rfl
  |true=>
   simp only[aj];cases nI n (bB.mk d ts z r' c' v' sn h')with
   |none=>rfl
   |some r1=>
    simp only[af];cases (r1.2.2 !=(0:Int))with
    |true=>
     simp only[aj];cases az (((d.length:Int):Int).toNat) (List.replicate ((d.length:Int):Int).toNat (0:Int)).length<;>rfl
    |false=>
     simp only[ak];cases iter (gJ n (bB.mk d ts z r' c' v' sn h') zs w2 r1) n ((0:Int),w1,(List.replicate ((d.length:Int):Int).toNat (0:Int)))with
     |none=>rfl
     |some q=>
      obtain⟨w3,w4⟩:=q;simp only[af];cases az (((d.length:Int):Int).toNat) w4.length<;>rfl
theorem agI{ms:List bR}{e:bZ}(hp:ii d)(ht:MY ts)(hm:ms.length<=4000000)(hz:zs.length<=4000000)(hn:5000003<=n)(hn2:n<=9223372036854775000):vG n (bB.mk d ts z r c v su h) ms zs e=vG n (bB.mk d ts z r' c' v' sn h') ms zs e:=by
 have⟨kn,ab,h1,_⟩:=K6 (n:=n) (p:=bB.mk d ts z r c v su h) ⟨hp,ht⟩ hm hz hn hn2;have⟨kn2,out2,h2,_⟩:=K6 (n:=n) (p:=bB.mk d ts z r' c' v' sn h') ⟨hp,ht⟩ hm hz hn hn2;have h3:=agH (n:=n) (d:=d) (ts:=ts) (z:=z) (r:=r) (r':=r') (c:=c) (c':=c') (v:=v) (v':=v') (su:=su) (sn:=sn) (h:=h) (h':=h') (zs:=zs) (ms:=ms);rw[h1,h2]at h3;simp only[Option.map_some,aA,Prod.mk.injEq]at h3;obtain⟨rfl,rfl⟩:=h3;simp only[vG,h1,h2,af,gq,Iw (r:=r) (r':=r') (c:=c) (c':=c') (v:=v) (v':=v') (su:=su) (sn:=sn) (h:=h) (h':=h')]
end
theorem Sw{b:ax}{l:List dV}{s:List fT}(ha:∀c∈s,c.area.length<=200)(hs:s.length<=1000)(hl:l.length<=1000)(hn:2000<=n):
 xP n b l s=some (EI b l&&(EJ s&&!(s.any λc=>decide (L0 b l c.area<c.z1)))):=by
 unfold xP;rw[Xc b l hl hn];simp only[af];cases hv:EI b l with
 |false=>simp only[Bool.not_false,aj,af,Bool.false_and]
 |true=>
  have⟨v1,v2⟩:=(aeb b l).1 hv;simp only[Bool.not_true,ak,RI (n:=n) (s:=s) (λ x hx=>by have:=ha x hx;omega) (by omega),af,Bool.true_and];cases hr:EJ s with
  |false=>simp only[Bool.not_false,aj,Bool.false_and]
  |true=>
   have⟨_,sok,_⟩:=(Xe s).1 hr;simp only[Bool.not_true,ak,Bool.true_and];rw[rZ (λ c=>decide (L0 b l c.area<c.z1)) (λ c hc=>by
    have:=ha c hc;show qW n c b l=_;unfold qW;rw[Sr v1 v2 (uh (sok c hc).rt).1 (by omega) hl hn];rfl) (by omega) (by omega)]
   simp only[af]
def ve(v:aH):List fT:=[⟨v.ep,v.eb,[iq v]⟩]
theorem aep(v:aH):xM v=some (ve v):=rfl
def Ux(b:ax)(p:dV)(v:aH):Bool:=EI b [p]&&(EJ (ve v)&&!((ve v).any λc=>decide (L0 b [p] c.area<c.z1)))
def Qi(r:bV):dV:=dV.mk r.gR r.gS r.jj r.jn
theorem abN(v:aH)(b:ax)(r:bV)(hn:2000<=n):jM n v b r=some (!Ux b (Qi r) v):=by
 have h:=Sw (n:=n) (b:=b) (l:=[Qi r]) (s:=ve v) (by simp[ve]) (by simp[ve]) (by simp) hn;unfold Qi at h;have hl:(ve v).length=1:=rfl;simp only[jM,aep,af,cZ,aD,aj,show ∀x:dV,sub [x] 0 1=[x]from λ_=>rfl,length_singleton,h,Ux,Qi];rfl
def MT(r:bV)(v:aH):Bool:=bits .and .i64 r.uses (i64.wrap (1*2 ^ (v.use:Int).toNat))==(0:Int)
theorem abO{v:aH}(h:okV v=true)(r:bV):jN v r=some (MT r v):=by
 have hu:0<=v.use/\v.use<6:=by
  simp only[okV,aL,aV]at h;omega
 have hb:i64.bits=64:=rfl;simp only[jN,MT,show(decide (0<=v.use)&&decide (v.use<=i64.bits))=true from by simp[hb];omega,aj]
def ON(lot:Int)(r:bV)(v:aH)(b:iB):Bool:=(dU b (lX.mk [] [] [] [] [] [] [] 0 [] [] [] [] [] 0 0 [] [] lot [] [] []) v r).getD false
theorem aer{b:iB}{s:lX}{v:aH}{r:bV}:dU b s v r=some (ON s.cz r v b):=by
 have key:∃x,dU b (lX.mk [] [] [] [] [] [] [] 0 [] [] [] [] [] 0 0 [] [] s.cz [] [] []) v r=some x:=by
  simp only[dU,iP,als,af];refine sw (cO ⟨_,rfl⟩ (cO ⟨_,rfl⟩ (cO ⟨_,rfl⟩ ⟨_,rfl⟩))) λ_=>cO ⟨_,rfl⟩ (sw (cO (cO ⟨_,rfl⟩ (cO ⟨_,rfl⟩ ⟨_,rfl⟩)) (cO ⟨_,rfl⟩ ⟨_,rfl⟩)) λ_=>cO ⟨_,rfl⟩ ⟨_,rfl⟩)
 have e:dU b s v r=dU b (lX.mk [] [] [] [] [] [] [] 0 [] [] [] [] [] 0 0 [] [] s.cz [] [] []) v r:=rfl;obtain⟨x,hx⟩:=key;rw[e,ON,hx];rfl
theorem zB{l:List iB}{φ:(iB×Unit)->Option Bool}(p:iB->Bool)(h:∀x∈l,φ (x,())=some (p x))(hl:l.length<1099511627776)(hn:l.length<n):jO n l φ=some (l.any p):=by
 have:qg n l φ=some (xw p l):=gD p h hl hn;simp only[jO,this,af,xA]
def OK(built:List iB)(lot:Int)(r:bV)(v:aH):Bool:=built.any (ON lot r v)
theorem abR{s:lX}{v:aH}{r:bV}(hb:s.fS.length<=1000)(hn:2000<=n):jP n v s r=some (OK s.fS s.cz r v):=by simp only[jP,rE,zB (n:=n) (l:=s.fS) (φ:=λ(y1:iB×Unit)=>dU y1.1 s v r) (ON s.cz r v) (λ x _=>aer) (by omega) (by omega),af,OK]
def j7(r:bV):bZ:=bZ.mk r.kO r.mn r.mm r.i9 r.fW
def il(t:bW):bB:=bB.mk t.ci t.b8 t.b7 [] t.ct t.cj t.cD t.cm
structure A9(t:bW):Prop where
 lots:∀l∈t.land,Dd l
 land:t.land.length<=1000
 zg:t.bz.length<=900/\∀e∈t.bz,e.area.length<=900
 built:t.built.length<=1000
 zones:t.b7.length<=100
 caps:t.ct.length<=1000
 rules:t.bj.length<=100
 rule:∀r∈t.bj,W9 r/\(toE (j7 r)).wt<=4000000
 plan:XS (il t)
def xr(d:bn):Prop:=Xg d/\IF d
def Ob(n:Nat):Prop:=5000003<=n/\n<=9223372036854775000
def uo(t:bW)(lot:bS):List ByteArray:=Ek t.b7 lot.area
def sL(t:bW)(lot:bS)(d:bn):lX:=lX.mk t.ci t.b8 t.b7 t.bj t.ct t.cj t.cD t.cm t.land t.bz t.windows t.built t.base lot.id lot.owner lot.area lot.from_ d.lot d.phases (kG d) (uo t lot)
theorem alN{d:bn}(h:Xg d)(hn:1001<=n):tC n d=some (kG d):=by
 obtain⟨h1,h2⟩:=h;unfold tC;have key:=sj (step:=oD d) (λ i=>((i:Int),(d.phases.take i).flatMap (·.cy))) (s:=((0:Int),([]:List aH))) d.phases.length (kG d) rfl (λ i hi=>by
  have hl:=dC (l:=d.phases.take i) λp hp=>h2 p (List.mem_of_mem_take hp);rw[length_take]at hl;have hv:=h2 _ (getElem_mem hi);generalize hL:(d.phases.take i).flatMap (·.cy)=L at hl;have hap:bP L.length L.length d.phases[i].cy.length d.phases[i].cy.length 72=true:=dm (by omega) (by simp only[maxLen];omega);simp only[oD,bO hi,aj,bq hi,af,hap,dP,aD,aM i];rw[gF hi,List.flatMap_append,hL];simp only[List.flatMap_cons,List.flatMap_nil,append_nil]) (by simp only[oD,bX,ak,aD,aj,List.take_length,kG]) n (by omega)
 have hz:az 0 ([]:List aH).length=true:=rfl;simp only[hz,aj,key,af,cZ,aD]
def Wf(n:Nat)(t:bW)(d:bn):Bool:=(om n (il t) (jk t.land d.lot).1 d).getD false
def CR(n:Nat)(t:bW)(d:bn):Int:=bif(jk t.land d.lot).2 then(bif Wf n t d then 0 else 1)else 4
def ao4:lX:=lX.mk ([]) ([]) ([]) ([]) ([]) ([]) ([]) 0 ([]) ([]) ([]) ([]) ([]) 0 0 ([]) ([]) 0 ([]) ([]) ([])
theorem look_eq{t:bW}{d:bn}(ht:A9 t)(hd:xr d)(hn:Ob n):z8 n t d=some (bif CR n t d==0 then sL t (jk t.land d.lot).1 d else ao4,CR n t d)/\(CR n t d=0->∀v∈kG d,okV v=true):=by
 obtain⟨hn1,hn2⟩:=hn;have hl:=ht.land;have e1:NA n t.land d.lot=some (jk t.land d.lot):=ajo ht.lots (by omega) (by omega);have hw:=aap ht.lots d.lot;obtain⟨b,hb,hv⟩:=ajy (n:=n) (p:=il t) (lot:=(jk t.land d.lot).1) (d:=d) ht.caps hw.1 hd.1 hd.2 (by omega);have e2:om n (bB.mk t.ci t.b8 t.b7 t.bj t.ct t.cj t.cD t.cm) (jk t.land d.lot).1 d=some b:=hb;have e3:Cz n (bB.mk t.ci t.b8 t.b7 t.bj t.ct t.cj t.cD t.cm) (jk t.land d.lot).1.area=some (Ek t.b7 (jk t.land d.lot).1.area):=abH _ _ ht.zones hw.1 (by omega);have e4:Wf n t d=b:=by unfold Wf;rw[hb];rfl
 simp only[z8,e1,e2,e3,alN hd.1 (show 1001<=n by omega),af,cZ,aD,aj,CR,e4];cases (jk t.land d.lot).2 with
 |false=>exact⟨rfl,λh=>absurd (show (4:Int)=0 from h) (by decide)⟩
 |true=>
  cases b with
  |false=>exact⟨rfl,λh=>absurd (show (1:Int)=0 from h) (by decide)⟩
  |true=>exact⟨rfl,λ_=>hv rfl⟩
def MM(n:Nat)(t:bW)(lot:bS)(d:bn)(r:bV):Bool:=((kr n (il t) lot d).bind λms=>vG n (il t) ms (uo t lot) (j7 r)).getD 1==0
def zv(n:Nat)(t:bW)(lot:bS)(d:bn)(r:bV):Bool:=
 bif r.kind==0 then MM n t lot d r else bif r.kind==1 then(kG d).any (λ v=>!Ux (JD lot.area).1 (Qi r) v)else bif r.kind==2 then(kG d).any (MT r)else bif r.kind==3 then(kG d).any (OK t.built d.lot r)else false
theorem Xl{t:bW}(ht:A9 t)(lot:bS):(uo t lot).length<=100:=Nat.le_trans (am8 _ _) ht.zones
theorem ajz{t:bW}{lot:bS}{d:bn}{r:bV}(ht:A9 t)(hl:lot.area.length<=900)(hd:xr d)(hv:∀v∈kG d,okV v=true)(hr:(toE (j7 r)).wt<=4000000)(hn:Ob n):mF n (sL t lot d) r=some (zv n t lot d r):=by
 obtain⟨hn1,hn2⟩:=hn;have hvl:=JE hd.1;have hz:=Xl ht lot;simp only[mF,gK,zv];cases (r.kind==0)with
 |true=>
  have htb:=ht.plan.tabs;obtain⟨e1,e2,e3,e4,e5,e6,e7,e8,LI⟩:=anT (n:=n) (p:=il t) (lot:=lot) (d:=d) ⟨by have:=htb.1;omega,by have:=htb.1;omega,λx hx=>by have:=htb.2 x hx;omega⟩ hl hd.1 (by omega);have h1:=LI t.bj;have h2:=LI [];have h2':kr n (il t) lot d=_:=h2;have h1':kr n (bB.mk t.ci t.b8 t.b7 t.bj t.ct t.cj t.cD t.cm) (bS.mk lot.id lot.owner lot.area lot.from_) (bn.mk d.lot d.phases)=_:=h1;obtain⟨v,hE⟩:=anh (n:=n) (p:=il t) (ms:=[⟨⟨#[97,114,101,97]⟩,e1⟩,⟨⟨#[99,111,118,101,114]⟩,e2⟩,⟨⟨#[102,108,111,111,114]⟩,e3⟩,⟨⟨#[102,108,111,111,114,115]⟩,e4⟩,⟨⟨#[104,101,105,103,104,116]⟩,e5⟩,⟨⟨#[104,111,109,101,115]⟩,e6⟩,⟨⟨#[114,117,110,111,102,102]⟩,e7⟩,⟨CQ,um (mW lot) (fI d)⟩,⟨⟨#[116,114,97,102,102,105,99]⟩,e8⟩]) (zs:=uo t lot) (e:=j7 r) ht.plan (by simp) (by omega) hr hn1 hn2;have hE':=(agI (n:=n) (d:=t.ci) (ts:=t.b8) (z:=t.b7) (r:=t.bj) (r':=[]) (c:=t.ct) (v:=t.cj) (su:=t.cD) (h:=t.cm) (zs:=uo t lot) (ms:=[⟨⟨#[97,114,101,97]⟩,e1⟩,⟨⟨#[99,111,118,101,114]⟩,e2⟩,⟨⟨#[102,108,111,111,114]⟩,e3⟩,⟨⟨#[102,108,111,111,114,115]⟩,e4⟩,⟨⟨#[104,101,105,103,104,116]⟩,e5⟩,⟨⟨#[104,111,109,101,115]⟩,e6⟩,⟨⟨#[114,117,110,111,102,102]⟩,e7⟩,⟨CQ,um (mW lot) (fI d)⟩,⟨⟨#[116,114,97,102,102,105,99]⟩,e8⟩]) (e:=j7 r) ht.plan.defs ht.plan.tabs (by simp) (by omega) hn1 hn2).trans hE;unfold j7 at hE';simp only[aj,sL,h1',af,cZ,aD,hE',MM,h2',hE,Option.getD_some]
 |false=>
  cases (r.kind==1)with
  |true=>
   simp only[aj,ak,show(sL t lot d).km=lot.area from rfl,show(sL t lot d).cy=kG d from rfl,N8 (n:=n) lot.area hl (by omega),af];rw[fV (λ v=>!Ux (JD lot.area).1 (Qi r) v) (λ v _=>abN v _ r (by omega)) (by omega) (by omega)];rfl
  |false=>
   cases (r.kind==2)with
   |true=>
    simp only[aj,ak,show(sL t lot d).cy=kG d from rfl];rw[fV (MT r) (λ v hm=>abO (hv v hm) r) (by omega) (by omega)];rfl
   |false=>
    cases (r.kind==3)with
    |true=>
     simp only[aj,ak,show(sL t lot d).cy=kG d from rfl];rw[fV (OK t.built d.lot r) (λ v _=>abR (s:=sL t lot d) ht.built (by omega)) (by omega) (by omega)];rfl
    |false=>rfl
def addN(ab:List ByteArray)(name:ByteArray)(bad:Bool):List ByteArray:=bif bad&&!(ab.any (ll name))then ab++[name]else ab
theorem aeu(ab:List ByteArray)(name:ByteArray)(bad:Bool):(addN ab name bad).length<=ab.length+1:=by
 unfold addN;cases (bad&&!(ab.any (ll name)))<;>simp
theorem aev{name:ByteArray}{bad:Bool}{ab:List ByteArray}(hl:ab.length<=1000)(hn:2000<=n):jw n name bad ab=some (addN ab name bad):=by
 have hmx:maxLen=9223372036854775807:=rfl;have hap:bP ab.length ab.length (sub [name] 0 1).length 1 16=true:=by simp[bP,sub];omega
 simp only[jw,cZ,aD,aj,uJ (n:=n) (l:=ab) (a:=name) (by omega) (by omega),af,addN,hap,dP];cases bad with
 |false=>rfl
 |true=>cases (ab.any (ll name))<;>rfl
def Jx(t:bW)(d:bn):Bool:=(kG d).any λv=>!J0 t.bz d.lot (ve v)
def ajA:ByteArray:=⟨#[101,97,115,101,109,101,110,116]⟩
def K7(n:Nat)(t:bW)(lot:bS)(d:bn)(l:List bV):List ByteArray:=l.foldl (λ ab r=>addN ab r.name (zv n t lot d r)) []
theorem KC(f:bV->Bool):∀(l:List bV)(ab:List ByteArray),(l.foldl (λ ab r=>addN ab r.name (f r)) ab).length<=ab.length+l.length
 |[],ab=>by simp
 |r::l,ab=>by
  have h1:=KC f l (addN ab r.name (f r));have h2:=aeu ab r.name (f r);rw[foldl_cons,bI];omega
def applied(t:bW)(lot:bS)(day:Int):List bV:=t.bj.filter (qH (uo t lot) day)
def uq(t:bW)(d:bn):bS:=(jk t.land d.lot).1
def JF(n:Nat)(t:bW)(d:bn)(day:Int):List ByteArray:=bif CR n t d==0 then addN (K7 n t (uq t d) d (applied t (uq t d) day)) ajA (Jx t d)else []
theorem ajB{t:bW}{d:bn}(day:Int)(ht:A9 t)(hd:xr d)(hn:Ob n):vJ n t d day=some (JF n t d day,CR n t d):=by
 obtain⟨hk,hv⟩:=look_eq (n:=n) ht hd hn;have hn1:=hn.1;have hvl:=JE hd.1;simp only[vJ,hk,af,JF];by_cases h0:CR n t d=0
 ·have Tu:(CR n t d==0)=true:=by simp[h0]
  have Ts:(CR n t d !=0)=false:=by simp[h0]
  have hw:=aap ht.lots d.lot;have hz:=Xl ht (uq t d);have hA:tJ n (bB.mk t.ci t.b8 t.b7 t.bj t.ct t.cj t.cD t.cm) (uo t (uq t d)) day=some ((Qg t.bj (uo t (uq t d)) day).map λ(i:Nat)=>(i:Int)):=Sn _ _ _ (λ r hr=>(ht.rule r hr).1) ht.rules hz (by omega);have hal:(Qg t.bj (uo t (uq t d)) day).length<=100:=Nat.le_trans (length_filter_le _ _) (by rw[List.length_range];exact ht.rules);have hpick:(Qg t.bj (uo t (uq t d)) day).filterMap (λ i=>t.bj[i]?)=applied t (uq t d) day:=RJ (qH (uo t (uq t d)) day) t.bj;have hloop:∀A:List Nat,A.length<=100->(∀ i∈A,i<t.bj.length)->iter (mM n t (sL t (uq t d) d,CR n t d) (A.map λ(i:Nat)=>(i:Int))) n ((0:Int),([]:List ByteArray))=some (K7 n t (uq t d) d (A.filterMap λi=>t.bj[i]?)):=by
   intro A hA hAr
   have key:=fF (l:=A) (step:=mM n t (sL t (uq t d) d,CR n t d) (A.map λ(i:Nat)=>(i:Int))) (λ i (s:List ByteArray)=>((i:Int),s)) (λ i s=>match t.bj[i]? with
    |some r=>addN s r.name (zv n t (uq t d) d r)
    |none=>s) (λ s=>s) (λ i s=>s.length<=i) (λ i hi s hs=>by
    have hr:=hAr _ (getElem_mem hi);have hlm:(A.map λ(i:Nat)=>(i:Int)).length=A.length:=(by simp);have hg:bp (A.map λ(i:Nat)=>(i:Int)) (((0:Nat):Int)+(i:Int))=some ((A[i]:Nat):Int):=(by rw[aY (by omega)];simp);have hrr:=ht.rule _ (getElem_mem hr);have hb:=ajz (n:=n) (t:=t) (lot:=uq t d) (d:=d) ht hw.1 hd (hv h0) hrr.2 hn;have e:=dI hr;simp only[mM,hlm,bO hi,aj,aT hi,hg,af,bq hr,hb,aD,aev (n:=n) (name:=t.bj[A[i]].name) (bad:=zv n t (uq t d) d t.bj[A[i]]) (ab:=s) (by omega) (by omega),aM i,e];exact⟨trivial,Nat.le_trans (aeu _ _ _) (by omega)⟩) (λ s _=>by
    have hlm:(A.map λ(i:Nat)=>(i:Int)).length=A.length:=(by simp);simp only[mM,hlm,bX,ak,aD,aj]) n (by omega) [] (aC _)
   rw[show ((0:Nat):Int)=0 from rfl]at key;rw[key];congr 1;unfold K7;generalize ([]:List ByteArray)=s0;clear key hA
   induction A generalizing s0 with
   |nil=>rfl
   |cons a A ih=>
    have ha:=hAr a (by simp);rw[foldl_cons,List.filterMap_cons];simp only[dI ha];rw[foldl_cons];exact ih (λ i hi=>hAr i (by simp[hi])) _
  have hlo:=hloop (Qg t.bj (uo t (uq t d)) day) hal (λ i hi=>by
   have:=(List.mem_filter.1 hi).1;simpa using this)
  rw[hpick]at hlo;have hrl:(K7 n t (uq t d) d (applied t (uq t d) day)).length<=100:=by
   have h1:=KC (zv n t (uq t d) d) (applied t (uq t d) day) [];have h2:(applied t (uq t d) day).length<=100:=Nat.le_trans (length_filter_le _ _) ht.rules;unfold K7;simp only[length_nil]at h1;omega
  have hany:gK n (sL t (uq t d) d) (λ (y1:aH×Unit)=>mK n y1.1 t d)=some (Jx t d):=by
   have hs:∀v,mK n v t d=some (!J0 t.bz d.lot (ve v)):=by
    intro v;have hl1:(ve v).length=1:=rfl;have h:=YO (n:=n) (l:=t.bz) (lot:=d.lot) (s:=ve v) ht.zg.1 ht.zg.2 (by simp[ve]) (by omega);simp only[mK,aep,af,cZ,aD,aj,h]
   simp only[gK,show(sL t (uq t d) d).cy=kG d from rfl];rw[fV (λ v=>!J0 t.bz d.lot (ve v)) (λ v _=>hs v) (by omega) (by omega)];rfl
  have hsc:sL t (jk t.land d.lot).1 d=sL t (uq t d) d:=rfl;simp only[Tu,Ts,aj,ak,hsc,show(sL t (uq t d) d).zones=uo t (uq t d)from rfl,hA,af,length_nil,aD,hlo,hany,aev (n:=n) (name:=⟨#[101,97,115,101,109,101,110,116]⟩) (bad:=Jx t d) (ab:=K7 n t (uq t d) d (applied t (uq t d) day)) (by omega) (by omega),cZ];rw[h0];rfl
 ·have Tu:(CR n t d==0)=false:=by simpa using h0
  have Ts:(CR n t d !=0)=true:=by simpa using h0
  simp only[Tu,Ts,aj,ak]
theorem ajC{t:bW}{d:bn}(day:Int)(ht:A9 t)(hd:xr d)(hn:Ob n):iU n t d day=some ((CR n t d==0)&&decide (JF n t d day=[])):=by
 simp only[iU,ajB day ht hd hn,af];cases (CR n t d==0)with
 |false=>rfl
 |true=>
  simp only[aj,Bool.true_and];cases JF n t d day with
  |nil=>rfl
  |cons x l=>
   have:(((x::l).length:Nat):Int)≠0:=(by simp;omega);rw[beq_eq_false_iff_ne.2 this];simp
theorem KD(r:ax):∃q,rV r=some q:=by rw[EF];cases ej r<;>exact⟨_,rfl⟩
theorem Xm(r:ax):∃q,oP r=some q:=by
 unfold oP;have⟨q,hq⟩:=KD r;rw[hq];simp only[af]
 first |exact⟨_,rfl⟩ |(cases q.2<;>exact⟨_,rfl⟩)
theorem abT(r:ax)(d:Int):∃q,Nu r d=some q:=by
 unfold Nu;rw[iP];simp only[af];have key:∀c x:Bool,∃b,((bif c then some true else some x):Option Bool)=some b:=λc x=>cO ⟨_,rfl⟩ ⟨_,rfl⟩;have⟨b,hb⟩:=key (!ej r) (decide (d<0));rw[hb];cases b with
 |true=>exact⟨_,rfl⟩
 |false=>
  simp only[af,ak];have⟨q,hq⟩:=KD (ax.mk (i64.wrap (r.x0+(min d (1048576:Int)))) (i64.wrap (r.y0+(min d (1048576:Int)))) (i64.wrap (r.x1 -(min d (1048576:Int)))) (i64.wrap (r.y1 -(min d (1048576:Int)))));rw[hq];exact⟨_,rfl⟩
theorem alP{lot:bS}(ha:lot.area.length<=900)(hn:4000002<=n)(i:Int):∃q,ny n lot i=some q:=by
 unfold ny;rw[N8 (n:=n) lot.area ha (by omega)];simp only[af];have key:∀c1 c2 c3:Bool,∃b,((bif c1 then some true else(bif c2 then some true else some c3)):Option Bool)=some b:=λc1 c2 c3=>cO ⟨_,rfl⟩ (cO ⟨_,rfl⟩ ⟨_,rfl⟩);have⟨b,hb⟩:=key (!(JD lot.area).2) (decide (i<0)) (decide (i>20));rw[hb];cases b with
 |true=>exact⟨_,rfl⟩
 |false=>
  simp only[af,ak];have⟨q,hq⟩:=abT (JD lot.area).1 i;rw[hq];simp only[af];cases q.2 with
  |false=>exact⟨_,rfl⟩
  |true=>
   have hcl:=NW (keep:=λp q=>p&&q) lot.area [q.1];have hc:=NV (n:=n) (a:=lot.area) (b:=[q.1]) (by omega) (by simp) (by omega) (by simp;omega) (by omega);have hA:=K4 (n:=n) (a:=(oV (λ p q=>p&&q) lot.area [q.1]).1) (by omega) (by omega);have⟨z,hz⟩:=Xm q.1;simp only[Bool.not_true,ak,show ∀r:ax,sub [r] 0 1=[r]from λ_=>rfl,length_singleton,aD,aj,hc,af,hA,hz];cases ((oV (λ p q=>p&&q) lot.area [q.1]).2==0)<;>exact⟨_,rfl⟩
def ir(n:Nat)(lot:bS)(i:Int):ax×Bool:=(ny n lot i).getD (⟨0,0,0,0⟩,false)
theorem aii{lot:bS}(ha:lot.area.length<=900)(hn:4000002<=n)(i:Int):ny n lot i=some (ir n lot i):=by
 have⟨q,hq⟩:=alP ha hn i;unfold ir;rw[hq];rfl
def We(r:ax):Int:=(oP r).getD 0
theorem alR(r:ax):oP r=some (We r):=by
 have⟨q,hq⟩:=Xm r;unfold We;rw[hq];rfl
def ue(lot:bS)(ev:Int)(k:Nat):aR:=aR.mk lot.id (Int.tmod (k:Int) 6) (i64.wrap ((i64.wrap (Int.tdiv (k:Int) 6))+1)) ev
theorem ajD(lot:bS)(v:Int)(l:List aR)(hl:l.length<=1000000)(hn:1000<=n):iter (lu lot v) n ((0:Int),l)=some (l++(List.range 72).map (ue lot v)):=by
 refine sj (step:=lu lot v) (λ i=>((i:Int),l++(List.range i).map (ue lot v))) (s:=((0:Int),l)) 72 (l++(List.range 72).map (ue lot v)) (by simp) (λ i hi=>?_) ?_ n (by omega)
 ·have hap:bP (l++(List.range i).map (ue lot v)).length (l++(List.range i).map (ue lot v)).length 1 1 32=true:=dm (by simp;omega) (by simp only[maxLen,dJ,length_map,List.length_range];omega);have hlt:decide ((i:Int)<72)=true:=by simp;omega
  simp only[lu,hlt,aj,show((6:Nat) !=0)=true from rfl,show((6:Int) !=0)=true from rfl,show ∀r:aR,sub [r] 0 1=[r]from λ_=>rfl,length_singleton,hap,dP,aD,aM i];rw[List.range_succ,map_append,<- aK];rfl
 ·have hlt:decide (((72:Nat):Int)<72)=false:=by simp
  simp only[lu,hlt,ak,aD,aj]
abbrev Qj:=List (kZ×Int)
def Iy(n:Nat)(lot:bS)(i:Nat)(s:Qj×List aR):Qj×List aR:=
 bif(ir n lot (i:Int)).2 then(rf (GV (X:=xx) SI.er) (kZ.mk lot.id (i:Int)) (We (ir n lot (i:Int)).1) s.1,s.2++(List.range 72).map (ue lot (i:Int)))else s
def zt(n:Nat)(lot:bS)(s:Qj×List aR):Qj×List aR:=(List.range 21).foldl (λ s i=>Iy n lot i s) s
theorem aas(n:Nat)(lot:bS)(i:Nat)(s:Qj×List aR):(Iy n lot i s).2.length<=s.2.length+72:=by
 unfold Iy;cases (ir n lot (i:Int)).2<;>simp
theorem aat(n:Nat)(lot:bS):∀(l:List Nat)(s:Qj×List aR),(l.foldl (λ s i=>Iy n lot i s) s).2.length<=s.2.length+72*l.length
 |[],s=>by simp
 |i::l,s=>by
  have h1:=aat n lot l (Iy n lot i s);have h2:=aas n lot i s;rw[foldl_cons,bI];omega
theorem ajE{lot:bS}(ha:lot.area.length<=900)(hn:4000002<=n)(s:Qj×List aR)(hs:s.2.length<=900000):iter (lC n lot) n ((0:Int),s.1,s.2)=some (zt n lot s):=by
 have key:=fF (l:=List.range 21) (step:=lC n lot) (λ i (s:Qj×List aR)=>((i:Int),s.1,s.2)) (λ i s=>Iy n lot i s) (λ s=>s) (λ i s=>s.2.length<=900000+72*i) (λ i hi s hs=>by
  rw[List.length_range]at hi;have hlt:decide ((i:Int)<21)=true:=by simp;omega
  have hg:(List.range 21)[i]'(by rw[List.length_range];exact hi)=i:=List.getElem_range _;rw[hg];refine⟨?_,by have:=aas n lot i s;show(Iy n lot i s).2.length<=_;omega⟩;simp only[lC,hlt,aj,aii ha hn,af,Iy];cases hb:(ir n lot (i:Int)).2 with
  |false=>simp only[Bool.not_false,aj,ak,aD,af,aM i]
  |true=>simp only[Bool.not_true,aj,ak,alR,af,aD,ajD (n:=n) lot (i:Int) s.2 (by omega) (by omega),aM i]) (λ s _=>by
  have hlt:decide (((List.range 21).length:Int)<21)=false:=by simp
  simp only[lC,hlt,ak,aD,aj]) n (by rw[List.length_range];omega) s (by simpa using hs)
 exact key
def RO(lot:bS)(seen:List (Int×Bool)):Bool:=(fP jp lot.id seen).getD false || (decide (lot.id<0) || decide (lot.id>1073741824))
abbrev xT:=Qj×List (Int×Bool)×List aR
def yX(n:Nat)(lot:bS)(s:xT):xT:=
 bif RO lot s.2.1 then s else((zt n lot (s.1,s.2.2)).1,rf jp lot.id true s.2.1,(zt n lot (s.1,s.2.2)).2)
def yY(n:Nat)(land:List bS):xT:=land.foldl (λ s lot=>yX n lot s) ([],[],[])
theorem alS(n:Nat)(lot:bS)(s:Qj×List aR):(zt n lot s).2.length<=s.2.length+1512:=by
 have:=aat n lot (List.range 21) s;rw[List.length_range]at this;unfold zt;omega
theorem aau(n:Nat)(lot:bS)(s:xT):(yX n lot s).2.2.length<=s.2.2.length+1512:=by
 have:=alS n lot (s.1,s.2.2);unfold yX;cases RO lot s.2.1
 ·exact this
 ·simp
theorem Xn(n:Nat):∀(land:List bS)(s:xT),(land.foldl (λ s lot=>yX n lot s) s).2.2.length<=s.2.2.length+1512*land.length
 |[],s=>by simp
 |lot::l,s=>by
  have h1:=Xn n l (yX n lot s);have h2:=aau n lot s;rw[foldl_cons,bI];omega
def eZ(n:Nat)(land:List bS):List aR:=kY (α:=aR) (Na vy (yY n land).1) (yY n land).2.2
theorem wK(n:Nat)(land:List bS):(eZ n land).Perm (yY n land).2.2:=KR (α:=aR) (WA vy (yY n land).1) _
theorem ajF{land:List bS}(ha:∀l∈land,l.area.length<=900)(hl:land.length<=500)(hn:4000002<=n):tq n land=some (eZ n land):=by
 have key:=fF (l:=land) (step:=lD n land) (λ i (s:xT)=>((i:Int),s.1,s.2.1,s.2.2)) (λ lot s=>yX n lot s) (λ s=>(s.1,s.2.2)) (λ i s=>s.2.2.length<=1512*i) (λ i hi s hs=>by
  refine⟨?_,by have:=aau n land[i] s;show(yX n land[i] s).2.2.length<=_;omega⟩;simp only[lD,bO hi,aj,bq hi,af,yX];have hk:((bif ((fP jp land[i].id s.2.1).getD false)then some true else(bif (decide (land[i].id<(0:Int)))then some true else some (decide (land[i].id>(1073741824:Int))))):Option (Bool))=some (RO land[i] s.2.1):=by
   unfold RO;cases (fP jp land[i].id s.2.1).getD false<;>cases decide (land[i].id<(0:Int))<;>rfl
  rw[hk];cases hb:RO land[i] s.2.1 with
  |true=>simp only[af,aj,aD,aM i]
  |false=>simp only[af,ak,aj,aD,ajE (n:=n) (ha _ (getElem_mem hi)) hn (s.1,s.2.2) (by show s.2.2.length<=_;omega),aM i]) (λ s _=>by simp only[lD,bX,ak,aD,aj]) n (by omega) ([],[],[]) (by simp)
 have hz:az 0 ([]:List aR).length=true:=rfl;rw[show ((0:Nat):Int)=0 from rfl]at key;have hlen:=Xn n land ([],[],[]);have aph:(yY n land).2.2.length<=1512*land.length:=by unfold yY;simpa using hlen
 have hS:=(wK n land).length_eq;have hps:ah2 (yY n land).2.2 (yY n land).1=some (eZ n land,(yY n land).1):=by exact @rI xx SI.kx SI.er (inferInstance:Inhabited aR) vy (yY n land).2.2 (yY n land).1 (show List.length (yY n land).2.2<=_ by omega)
 have key':iter (lD n land) n ((0:Int),([]:List (kZ×Int)),([]:List (Int×Bool)),([]:List aR))=some ((yY n land).1,(yY n land).2.2):=key;unfold tq;rw[hz,key'];simp only[aj,af,aD,hps,<- hS,cZ]
theorem alT{lot:bS}{s:Qj×List aR}{p:aR}(h:p∈(zt n lot s).2):p∈s.2\/∃i k:Nat,i<21/\k<72/\(ir n lot (i:Int)).2=true/\p=ue lot (i:Int) k:=by
 have gen:∀(l:List Nat)(s:Qj×List aR),(∀ i∈l,i<21)->p∈(l.foldl (λ s i=>Iy n lot i s) s).2->p∈s.2\/∃i k:Nat,i<21/\k<72/\(ir n lot (i:Int)).2=true/\p=ue lot (i:Int) k:=by
  intro l
  induction l with
  |nil=>intro s _ h;exact .inl h
  |cons i l ih=>
   intro s hl h;rcases ih (Iy n lot i s) (λ j hj=>hl j (by simp[hj])) h with h |h
   ·unfold Iy at h;cases hb:(ir n lot (i:Int)).2 with
    |false=>rw[hb]at h;exact .inl h
    |true=>
     rw[hb]at h;simp only[aj,bf,mem_map,List.mem_range]at h;rcases h with h |⟨k,hk,rfl⟩
     ·exact .inl h
     ·exact .inr ⟨i,k,hl i (by simp),hk,hb,rfl⟩
   ·exact .inr h
 exact gen (List.range 21) s (λ i hi=>List.mem_range.1 hi) h
theorem aav(k k':Int)(v:Bool):∀l:List (Int×Bool),fP jp k (rf jp k' v l)=if k=k' then some v else fP jp k l
 |[]=>by
  show(bif jp k k' then some v else fP jp k [])=_;by_cases h:k=k'
  ·subst h;simp[jp]
  ·have e2:jp k k'=false:=(by simp[jp,h]);rw[e2,aQ h];rfl
 |p::l=>by
  have ih:=aav k k' v l;show fP jp k (bif jp k' p.1 then(k',v)::l else p::rf jp k' v l)=_;by_cases h1:k'=p.1
  ·have e1:jp k' p.1=true:=(by simp[jp,h1]);rw[e1];show(bif jp k k' then some v else fP jp k l)=if k=k' then some v else(bif jp k p.1 then some p.2 else fP jp k l)
   by_cases h:k=k'
   ·subst h;simp[jp]
   ·have e2:jp k k'=false:=(by simp[jp,h]);have e3:jp k p.1=false:=(by rw[<- h1];exact e2);rw[e2,e3,aQ h];rfl
  ·have e1:jp k' p.1=false:=(by simp[jp,h1]);rw[e1];show(bif jp k p.1 then some p.2 else fP jp k (rf jp k' v l))=if k=k' then some v else(bif jp k p.1 then some p.2 else fP jp k l)
   rw[ih];by_cases h:k=k'
   ·subst h;rw[e1];simp
   ·rw[aQ h,aQ h]
structure OfP(n:Nat)(land:List bS)(p:aR)(lot:bS):Prop where
 fnd:land.find? (λ x=>x.id==p.lot)=some lot
 id0:0<=lot.id
 id1:lot.id<=1073741824
 ex:∃i k:Nat,i<21/\k<72/\(ir n lot (i:Int)).2=true/\p=ue lot (i:Int) k
theorem aij(n:Nat)(land:List bS):∀i,i<=land.length->(∀ p∈((land.take i).foldl (λ s lot=>yX n lot s) (([],[],[]):xT)).2.2,∃lot,OfP n land p lot)/\
 (∀ j (hj:j<land.length),j<i->0<=land[j].id->land[j].id<=1073741824->fP jp land[j].id ((land.take i).foldl (λ s lot=>yX n lot s) (([],[],[]):xT)).2.1=some true)
 | 0,_=>by simp
 |i+1,hi=>by
  obtain⟨h1,h2⟩:=aij n land i (by omega);rw[gF (show i<land.length by omega),List.foldl_append];generalize hs:(land.take i).foldl (λ s lot=>yX n lot s) (([],[],[]):xT)=s at h1 h2;simp only[foldl_cons,List.foldl_nil];have hi':i<land.length:=by omega
  cases hb:RO land[i] s.2.1 with
  |true=>
   have e:yX n land[i] s=s:=(by unfold yX;rw[hb];rfl);rw[e];refine⟨h1,λj hj hji h0 h3=>?_⟩;rcases Nat.lt_or_ge j i with h |h
   ·exact h2 j hj h h0 h3
   ·obtain rfl:j=i:=(by omega);unfold RO at hb;have e1:decide (land[j].id<0)=false:=(by simp;omega);have e2:decide (land[j].id>1073741824)=false:=(by simp;omega);rw[e1,e2]at hb;simp only[Bool.or_false]at hb;cases hm:fP jp land[j].id s.2.1 with
    |none=>rw[hm]at hb;cases hb
    |some b=>rw[hm]at hb;simp only[Option.getD_some]at hb;rw[hb]
  |false=>
   have e:yX n land[i] s=((zt n land[i] (s.1,s.2.2)).1,rf jp land[i].id true s.2.1,(zt n land[i] (s.1,s.2.2)).2):=(by unfold yX;rw[hb];rfl);rw[e];simp only[RO,Bool.or_eq_false_iff,dN]at hb;obtain⟨b1,b2,b3⟩:=hb;refine⟨λ p hp=>?_,λj hj hji h0 h3=>?_⟩
   ·rcases alT hp with hp |⟨a,k,ha,hk,hbs,rfl⟩
    ·exact h1 p hp
    ·refine⟨land[i],?_,by omega,by omega,a,k,ha,hk,hbs,rfl⟩;rw[List.find?_eq_some_iff_getElem];refine⟨by simp[ue],i,hi',rfl,λj hj=>?_⟩;simp only[ue,Bool.not_eq_true',beq_eq_false_iff_ne];intro hj2;have:=h2 j (by omega) hj (by rw[hj2];omega) (by rw[hj2];omega);rw[hj2]at this;rw[this]at b1;cases b1
   ·show fP jp land[j].id (rf jp land[i].id true s.2.1)=some true;rw[aav];by_cases hij:land[j].id=land[i].id
    ·rw[aX hij]
    ·rw[aQ hij];rcases Nat.lt_or_ge j i with h |h
     ·exact h2 j hj h h0 h3
     ·obtain rfl:j=i:=(by omega);exact absurd rfl hij
theorem ajG{land:List bS}{p:aR}(h:p∈eZ n land):∃lot,OfP n land p lot:=by
 have h1:=(wK n land).mem_iff.1 h;have:=(aij n land land.length (aC _)).1 p;rw[List.take_length]at this;exact this h1
def ao5(r:ax)(p:aR):aH:=aH.mk r.x0 r.y0 r.x1 r.y1 0 (i64.wrap (p.floors*3)) p.use (bif (p.use==(0:Int))then p.floors else 0) false
def E6(n:Nat)(lot:bS)(p:aR):bn:=bn.mk p.lot [ru.mk [ao5 (ir n lot p.ev).1 p] []]
def RP(n:Nat)(lot:bS)(p:aR):Bool:=(ir n lot p.ev).2&&(decide (p.lot=lot.id)&&(decide (0<=p.lot)&&(decide (p.lot<=1073741824)&&(decide (0<=p.use)&&(decide (p.use<6)&&(decide (1<=p.floors)&&decide (p.floors<=12)))))))
theorem alU{lot:bS}(ha:lot.area.length<=900)(hn:4000002<=n)(p:aR):vC n lot p=some (bif RP n lot p then(E6 n lot p,true)else(bn.mk 0 [],false)):=by
 unfold vC;rw[aii ha hn];simp only[af];have hk:((bif (!(ir n lot p.ev).2)then some true else(bif (p.lot !=(lot.id:Int))then some true else(bif (decide (p.lot<(0:Int)))then some true else(bif (decide (p.lot>(1073741824:Int)))then some true else(bif (decide (p.use<(0:Int)))then some true else(bif (decide (p.use>=(6:Int)))then some true else(bif (decide (p.floors<(1:Int)))then some true else some (decide (p.floors>(12:Int)))))))))):Option (Bool))=some (!RP n lot p):=by
  unfold RP;have e1:(p.lot !=lot.id)=!decide (p.lot=lot.id):=by rw[jX];simp
  have e2:decide (p.lot<0)=!decide (0<=p.lot):=by rw[<- decide_not,decide_eq_decide];omega
  have e3:decide (p.lot>1073741824)=!decide (p.lot<=1073741824):=by rw[<- decide_not,decide_eq_decide];omega
  have e4:decide (p.use<0)=!decide (0<=p.use):=by rw[<- decide_not,decide_eq_decide];omega
  have e5:decide (p.use>=6)=!decide (p.use<6):=by rw[<- decide_not,decide_eq_decide];omega
  have e6:decide (p.floors<1)=!decide (1<=p.floors):=by rw[<- decide_not,decide_eq_decide];omega
  have e7:decide (p.floors>12)=!decide (p.floors<=12):=by rw[<- decide_not,decide_eq_decide];omega
  rw[e1,e2,e3,e4,e5,e6,e7];cases (ir n lot p.ev).2<;>cases decide (p.lot=lot.id)<;>cases decide (0<=p.lot)<;>cases decide (p.lot<=1073741824)<;>cases decide (0<=p.use)<;>cases decide (p.use<6)<;>cases decide (1<=p.floors)<;>rfl
 rw[hk];cases RP n lot p with
 |false=>rfl
 |true=>
  simp only[Bool.not_true,af,ak,aj,E6,ao5];cases (p.use==(0:Int))<;>rfl
theorem ani{land:List bS}{p:aR}{lot:bS}(h:OfP n land p lot):RP n lot p=true:=by
 obtain⟨h1,h2,h3,i,k,hi,hk,hb,rfl⟩:=h;have e1:Int.tmod (k:Int) 6=((k%6:Nat):Int):=by rw[show (6:Int)=((6:Nat):Int)from rfl,<- Int.ofNat_tmod]
 have e2:Int.tdiv (k:Int) 6=((k/6:Nat):Int):=by rw[show (6:Int)=((6:Nat):Int)from rfl,<- Int.ofNat_tdiv]
 have e3:i64.wrap ((i64.wrap (Int.tdiv (k:Int) 6))+1)=((k/6+1:Nat):Int):=by rw[e2,MW (by omega),bK (by omega)]
 simp only[RP,ue,e1,e3,hb,Bool.true_and,aL,aV];refine⟨trivial,h2,h3,?_,?_,?_,?_⟩<;>omega
theorem anj(n:Nat)(lot:bS)(p:aR):xr (E6 n lot p):=by refine⟨⟨by simp[E6],λq hq=>?_⟩,λq hq=>?_⟩<;> · simp only[E6,aW]at hq;subst hq;simp
theorem aey:xr (bn.mk 0 []):=by refine⟨⟨by simp,λq hq=>?_⟩,λq hq=>?_⟩<;>simp at hq
def Xo:aR:=aR.mk 0 0 0 0
def LS(n:Nat)(t:bW)(d:bn)(day:Int):Bool:=(CR n t d==0)&&decide (JF n t d day=[])
theorem abU{t:bW}{d:bn}(day:Int)(ht:A9 t)(hd:xr d)(hn:Ob n):iU n t d day=some (LS n t d day):=ajC day ht hd hn
def Iz(land:List bS):Prop:=(∀ l∈land,l.area.length<=900)/\land.length<=500
def xh(n:Nat)(land:List bS)(p:aR):bn×Bool:=match land.find? λx=>x.id==p.lot with
 |none=>(bn.mk 0 [],false)
 |some lot=>bif RP n lot p then(E6 n lot p,true)else(bn.mk 0 [],false)
theorem Oc(n:Nat)(land:List bS)(p:aR):xr (xh n land p).1:=by
 unfold xh;split
 ·exact aey
 ·rename_i lot _;cases RP n lot p
  ·exact aey
  ·exact anj _ _ _
theorem aik{t:bW}(h:Iz t.land)(hn:4000002<=n)(p:aR):tu n t p=some (xh n t.land p):=by
 unfold tu;have hl:=h.2;have hi:uV n t.land (λ (y1:bS×Unit)=>qN y1.1 p)=some (xw (λ x:bS=>x.id==p.lot) t.land):=gD (l:=t.land) (φ:=λ(y1:bS×Unit)=>qN y1.1 p) (λ x:bS=>x.id==p.lot) (λ _ _=>rfl) (by omega) (by omega);rw[hi];simp only[af,akO];unfold xh;cases ha:t.land.any λx:bS=>x.id==p.lot with
 |false=>
  have:t.land.find? (λ x=>x.id==p.lot)=none:=by
   rw[List.find?_eq_none];intro x hx hc;have:=List.any_eq_false.1 ha x hx;exact this hc
  rw[this];rfl
 |true=>
  have⟨i,hi,e,hf⟩:=adB ha;rw[e,hf];simp only[Bool.not_true,ak,bq hi,af,alU (n:=n) (h.1 _ (getElem_mem hi)) hn p,show ∀k:Nat,decide ((k:Int)<0)=false from λk=>by simp]
theorem Xp{land:List bS}{p:aR}(h:p∈eZ n land):(xh n land p).2=true:=by
 have⟨lot,hp⟩:=ajG h;unfold xh;rw[hp.fnd];simp only[ani hp,aj]
def qI(n:Nat)(land:List bS)(p:aR):rT:=rT.mk p.lot p.use p.floors p.ev (xh n land p).1.lot (xh n land p).1.phases
theorem K8(n:Nat)(land:List bS)(h:land.length<=500):(eZ n land).length<=756000:=by
 have h1:=(wK n land).length_eq;have h2:=Xn n land ([],[],[]);have h3:(yY n land).2.2.length<=1512*land.length:=by unfold yY;simpa using h2
 omega
theorem aez{t:bW}(h:Iz t.land)(hn:4000002<=n):qo n t=some ((eZ n t.land).map (qI n t.land)):=by
 have hlen:=K8 n t.land h.2;unfold qo;rw[ajF h.1 h.2 hn];have hmem:∀p∈eZ n t.land,(xh n t.land p).2=true:=λp hp=>Xp hp;generalize eZ n t.land=L at hlen hmem;have key:=sj (step:=pF n t L) (λ i=>((i:Int),(L.take i).map (qI n t.land))) (s:=((0:Int),([]:List rT))) L.length (L.map (qI n t.land)) rfl (λ i hi=>by
  have hm:=hmem _ (getElem_mem hi);have hap:bP ((L.take i).map (qI n t.land)).length ((L.take i).map (qI n t.land)).length 1 1 64=true:=dm (by simp;omega) (by simp only[maxLen,length_map,length_take];omega);simp only[pF,bO hi,aj,aT hi,aY hi,af,aik h hn,hm,show ∀r:rT,sub [r] 0 1=[r]from λ_=>rfl,length_singleton,hap,dP,aD,aM i];rw[gF hi,map_append];rfl) (by simp only[pF,bX,ak,aD,aj,List.take_length]) n (by omega)
 have hz:az 0 ([]:List rT).length=true:=rfl;simp only[af,hz,aj,key,cZ,aD]
def cx(t:bW)(p:bB):bW:=bW.mk p.defs p.tables p.zones p.rules p.caps p.views p.sm p.hours t.land t.bz t.windows t.built t.base
def fE(n:Nat)(t:bW)(day:Int)(pl:bB)(p:aR):Bool:=LS n (cx t pl) (xh n t.land p).1 day
def kI(l:List aR)(q:aR->Bool):aR×Bool:=match l.find? q with
 |some p=>(p,true)
 |none=>(Xo,false)
theorem anl{t:bW}{day:Int}{ps:List bB}{p:aR}(hp:∀q∈ps,A9 (cx t q))(hl:ps.length<=1000)(hn:Ob n):iter (nV n t day ps (qI n t.land p)) n ((0:Int),([]:List Bool))=some (ps.map λq=>fE n t day q p):=by
 have hn1:=hn.1;exact sj (step:=nV n t day ps (qI n t.land p)) (λ i=>((i:Int),(ps.take i).map λq=>fE n t day q p)) (s:=((0:Int),([]:List Bool))) ps.length (ps.map λq=>fE n t day q p) rfl (λ i hi=>by
  have hap:bP ((ps.take i).map λq=>fE n t day q p).length ((ps.take i).map λq=>fE n t day q p).length 1 1 1=true:=dm (by simp;omega) (by simp only[maxLen,length_map,length_take];omega);have hu:witness_under t ps[i]=some (cx t ps[i]):=rfl;have hL:iU n (cx t ps[i]) (bn.mk (qI n t.land p).cz (qI n t.land p).cN) day=some (fE n t day ps[i] p):=abU (d:=(xh n t.land p).1) day (hp _ (getElem_mem hi)) (Oc n t.land p) hn;simp only[nV,bO hi,aj,bq hi,af,hu,hL,show ∀r:Bool,sub [r] 0 1=[r]from λ_=>rfl,length_singleton,hap,dP,aD,aM i];rw[gF hi,map_append];rfl) (by simp only[nV,bX,ak,aD,aj,List.take_length]) n (by omega)
theorem find_eq{t:bW}{day:Int}{φ:((List Bool)×Unit)->Option Bool}{ps:List bB}(q:List Bool->Bool)(hφ:∀v,v.length=ps.length->φ (v,())=some (q v))(h:Iz t.land)(hp:∀q∈ps,A9 (cx t q))(hl:ps.length<=1000)(hn:Ob n):
 pQ n t day φ ps=some (kI (eZ n t.land) λp=>q (ps.map λpl=>fE n t day pl p)):=by
 have hn1:=hn.1;have hlen:=K8 n t.land h.2;unfold pQ;rw[aez h (by omega)];generalize eZ n t.land=L at hlen;have hz:az 0 ([]:List Bool).length=true:=rfl;have key:=pq (l:=L) (step:=qX n t day φ ps (L.map (qI n t.land))) (λ i=>(i:Int)) (λ p=>q (ps.map λpl=>fE n t day pl p)) () (λ i=>((L[i]?).getD Xo,true)) (λ i hi=>by
  have hi':i<(L.map (qI n t.land)).length:=by simpa using hi
  have hg:(L.map (qI n t.land))[i]=qI n t.land L[i]:=by simp
  simp only[qX,bO hi',aj,aT hi',aY hi',hg,af,hz,anl (n:=n) (t:=t) (day:=day) (ps:=ps) (p:=L[i]) hp hl hn,cZ,aD,hφ _ (length_map _),aM i,dI hi,Option.getD_some];cases q (ps.map λpl=>fE n t day pl L[i])<;>rfl) (by
  have e:L.length=(L.map (qI n t.land)).length:=by simp
  rw[e];simp only[qX,bX,ak]) n (by omega)
 rw[show ((0:Nat):Int)=0 from rfl]at key;simp only[af,key];unfold kI;rcases K5 (λ p=>q (ps.map λpl=>fE n t day pl p)) L with ⟨i,hi,h1,h2⟩ |⟨h1,h2⟩
 ·rw[h1,h2];simp only[dI hi,Option.getD_some,iw]
 ·rw[h1,h2];rfl
theorem aeA{t:bW}{a b:bB}{day:Int}(h:Iz t.land)(ha:A9 (cx t a))(hb:A9 (cx t b))(hn:Ob n):iV n t a b day=some (kI (eZ n t.land) λp=>!(fE n t day a p==fE n t day b p)):=by
 have e:=find_eq (n:=n) (t:=t) (day:=day) (φ:=λ(y1:(List Bool)×Unit)=>uZ y1.1) (ps:=[a,b]) (λ v=>match v with |[x,y]=>!(x==y) |_=>false) (λ v hv=>by
  match v,hv with
  |[x,y],_=>rfl) h (λ q hq=>by simp only[aN,fu,or_false]at hq;rcases hq with rfl |rfl<;>assumption) (by simp) hn
 unfold iV;rw[show sub [a,b] 0 2=[a,b]from rfl,show az [a,b].length 2=true from rfl,e];rfl
theorem aeB{t:bW}{a b:bB}{day:Int}(h:Iz t.land)(ha:A9 (cx t a))(hb:A9 (cx t b))(hn:Ob n):gL n t a b day=some (!(kI (eZ n t.land) λp=>fE n t day a p&&!fE n t day b p).2):=by
 have e:=find_eq (n:=n) (t:=t) (day:=day) (φ:=λ(y1:(List Bool)×Unit)=>qh y1.1) (ps:=[a,b]) (λ v=>match v with |[x,y]=>x&&!y |_=>false) (λ v hv=>by
  match v,hv with
  |[x,y],_=>cases x<;>rfl) h (λ q hq=>by simp only[aN,fu,or_false]at hq;rcases hq with rfl |rfl<;>assumption) (by simp) hn
 unfold gL;rw[show sub [a,b] 0 2=[a,b]from rfl,show az [a,b].length 2=true from rfl,e];rfl
def IA(x a b m:Bool):Bool:=!(m==bif !(a==x)then a else b)
theorem CU{t:bW}{x a b m:bB}{day:Int}(h:Iz t.land)(hx:A9 (cx t x))(ha:A9 (cx t a))(hb:A9 (cx t b))(hm:A9 (cx t m))(hn:Ob n):
 d9 n t x a b m day=some (kI (eZ n t.land) λp=>IA (fE n t day x p) (fE n t day a p) (fE n t day b p) (fE n t day m p)):=by
 have e:=find_eq (n:=n) (t:=t) (day:=day) (φ:=λ(y1:(List Bool)×Unit)=>u6 y1.1) (ps:=[x,a,b,m]) (λ v=>match v with |[x,a,b,m]=>IA x a b m |_=>false) (λ v hv=>by
  match v,hv with
  |[x,a,b,m],_=>cases x<;>cases a<;>cases b<;>cases m<;>rfl) h (λ q hq=>by simp only[aN,fu,or_false]at hq;rcases hq with rfl |rfl |rfl |rfl<;>assumption) (by simp) hn
 unfold d9;rw[show sub [x,a,b,m] 0 4=[x,a,b,m]from rfl,show az [x,a,b,m].length 4=true from rfl,e];rfl
theorem agJ{t:bW}{a:bB}{p:aR}{day:Int}(h:Iz t.land)(ha:A9 (cx t a))(hn:Ob n):mO n t a p day=some ((xh n t.land p).2&&fE n t day a p):=by
 have hn1:=hn.1;have hu:witness_under t a=some (cx t a):=rfl;unfold mO;rw[aik h (by omega)];simp only[af,hu,abU day ha (Oc n t.land p) hn];cases (xh n t.land p).2<;>rfl
theorem aeC{t:bW}{a:bB}{day:Int}(h:Iz t.land)(ha:A9 (cx t a))(hn:Ob n):mQ n t a day=some ((eZ n t.land).map (fE n t day a)):=by
 have hn1:=hn.1;have hlen:=K8 n t.land h.2;unfold mQ;rw[aez h (by omega)];generalize eZ n t.land=L at hlen;have key:=sj (step:=mG n t a day (L.map (qI n t.land))) (λ i=>((i:Int),(L.take i).map (fE n t day a))) (s:=((0:Int),([]:List Bool))) L.length (L.map (fE n t day a)) rfl (λ i hi=>by
  have hi':i<(L.map (qI n t.land)).length:=by simpa using hi
  have hg:(L.map (qI n t.land))[i]=qI n t.land L[i]:=by simp
  have hap:bP ((L.take i).map (fE n t day a)).length ((L.take i).map (fE n t day a)).length 1 1 1=true:=dm (by simp;omega) (by simp only[maxLen,length_map,length_take];omega);have hu:witness_under t a=some (cx t a):=rfl;have hL:iU n (cx t a) (bn.mk (qI n t.land L[i]).cz (qI n t.land L[i]).cN) day=some (fE n t day a L[i]):=abU (d:=(xh n t.land L[i]).1) day ha (Oc n t.land L[i]) hn;simp only[mG,bO hi',aj,aT hi',aY hi',hg,af,hu,hL,show ∀r:Bool,sub [r] 0 1=[r]from λ_=>rfl,length_singleton,hap,dP,aD,aM i];rw[gF hi,map_append];rfl) (by
  have e:L.length=(L.map (qI n t.land)).length:=by simp
  rw[e];simp only[mG,bX,ak,aD,aj,<- e,List.take_length]) n (by omega)
 have hz:az 0 ([]:List Bool).length=true:=rfl;simp only[af,hz,aj,key,cZ,aD]
theorem abV(l:List aR)(q:aR->Bool):(∃ p,l.find? q=some p/\kI l q=(p,true)/\p∈l/\q p=true)\/(kI l q=(Xo,false)/\∀p∈l,q p=false):=by
 unfold kI;cases h:l.find? q with
 |none=>exact .inr ⟨rfl,λp hp=>by have:=List.find?_eq_none.1 h p hp;simpa using this⟩
 |some p=>exact .inl ⟨p,rfl,rfl,List.mem_of_find?_eq_some h,List.find?_some h⟩
theorem IB{l:List aR}{q:aR->Bool}(h:∀p∈l,q p=false):kI l q=(Xo,false):=by
 unfold kI;rw[List.find?_eq_none.2 λp hp=>by rw[h p hp];decide]
theorem Od{l:List aR}{q q':aR->Bool}(h:∀p∈l,q p=q' p):kI l q=kI l q':=by
 unfold kI;have:l.find? q=l.find? q':=by
  induction l with
  |nil=>rfl
  |cons a l ih=>rw[List.find?_cons,List.find?_cons,h a (by simp),ih λp hp=>h p (by simp[hp])]
 rw[this]
theorem Oe(j:Nat):decide (((j+1:Nat):Int)>0)=true:=by simp
theorem aeD:decide (((0:Nat):Int)>0)=false:=rfl
theorem pred_succ{j:Nat}(h:j<9223372036854775807):i64.wrap (((j+1:Nat):Int) -1)=(j:Int):=by rw[mI (by omega) (by omega)];simp
theorem Qk{i n:Nat}(h:¬i<n):decide ((i:Int)<(n:Int))=false:=by simp;omega
theorem ail(c1 c2:Bool):∃b,((bif c1 then some true else some c2):Option Bool)=some b:=cO ⟨_,rfl⟩ ⟨_,rfl⟩
theorem qs2{a0 v2:List Int}{k:Nat}(hk:k<a0.length)(hl:v2.length<=1000)(hn:2000<=n):∃w:Nat,iter (qz a0 (k:Int) v2) n (v2.length:Int)=some (w:Int)/\w<=v2.length:=by
 obtain⟨o,h1,w,rfl,h2⟩:=EB (step:=qz a0 (k:Int) v2) (λ v=>∃j:Nat,v=(j:Int)/\j<=v2.length) (λ o=>∃j:Nat,o=(j:Int)/\j<=v2.length) Int.toNat (by
  rintro v ⟨j,rfl,hj⟩;cases j with
  |zero=>simp only[qz,aeD,ak,af];exact .inr ⟨_,rfl,0,rfl,hj⟩
  |succ j=>
   have hj':j<v2.length:=hj;simp only[qz,Oe,aj,pred_succ (show j<9223372036854775807 by omega),aT hj',aY hj',bq hk,af];cases decide (v2[j]>a0[k])with
   |false=>exact .inr ⟨_,rfl,j+1,rfl,hj⟩
   |true=>exact .inl ⟨_,rfl,⟨j,rfl,by omega⟩,by omega⟩) n _ ⟨_,rfl,aC _⟩ (by omega)
 exact⟨w,h1,h2⟩
theorem qs3{r1:List Int}{w m:Nat}(hm:r1.length=m+1)(hw:w<=m)(hl:m<=1000)(hn:2000<=n):∃o,iter (qC (w:Int) r1) n (i64.wrap ((r1.length:Int) -1),r1)=some o/\o.length=r1.length:=by
 rw[hm,pred_succ (by omega)];obtain⟨o,h1,h2⟩:=EB (step:=qC (w:Int) r1) (λ v=>∃j:Nat,v.1=(j:Int)/\w<=j/\j<=m/\v.2.length=r1.length) (λ o=>o.length=r1.length) (λ v=>v.1.toNat) (by
  rintro⟨v,l⟩ ⟨j,rfl,hj,hjm,hlen⟩;simp only at hlen;by_cases h:w<j
  ·obtain⟨j,rfl⟩:∃i,j=i+1:=⟨j -1,by omega⟩;have e:decide (((j+1:Nat):Int)>(w:Int))=true:=(by simp;omega);have a1:j<r1.length:=(by omega);have a2:j<l.length:=(by omega);have a3:j+1<r1.length:=(by omega);have a4:j+1<l.length:=(by omega);simp only[qC,e,aj,pred_succ (show j<9223372036854775807 by omega),aT a1,aY a2,aT a3,aY a4,af];exact .inl ⟨_,rfl,⟨j,rfl,by omega,by omega,by simpa using hlen⟩,by simp⟩
  ·have e:decide ((j:Int)>(w:Int))=false:=(by simp;omega);simp only[qC,e,ak];exact .inr ⟨_,rfl,hlen⟩) n ((m:Int),r1) ⟨m,rfl,hw,aC _,rfl⟩ (by simp;omega)
 rw[<- hm];exact⟨o,h1,h2⟩
theorem alV{a0:List Int}(hl:a0.length<=1000)(hn:2000<=n):∃o,Es n a0=some o/\o.length<=a0.length:=by
 obtain⟨o,h1,h2⟩:=dL (step:=vL n a0) (λ i (v:Int×List Int)=>v.1=(i:Int)/\i<=a0.length/\v.2.length<=i) (λ o=>o.length<=a0.length) a0.length (λ k v h=>h.2.1) (by
  rintro i ⟨v,l⟩ ⟨hv,hi,rj⟩;simp only at hv rj;subst hv;by_cases hlt:i<a0.length
  ·obtain⟨w,e1,hw⟩:=qs2 (n:=n) (v2:=l) hlt (by omega) hn;have hv5:∃b,((bif (decide ((w:Int)>(0:Int)))then(ck (cC (i64.wrap ((w:Int) -1)) l.length) ((bp l ((0:Nat)+(i64.wrap ((w:Int) -1)):Int)).bind λx3=>some (x3==a0[i])))else some false):Option Bool)=some b:=by
    cases w with
    |zero=>exact⟨false,rfl⟩
    |succ w=>
     have hw':w<l.length:=hw;simp only[Oe,aj,pred_succ (show w<9223372036854775807 by omega),aT hw',aY hw',af];exact⟨_,rfl⟩
   obtain⟨b,e2⟩:=hv5;have hap:bP l.length l.length 1 1 8=true:=dm (by omega) (by simp only[maxLen];omega);obtain⟨o,e3,ho⟩:=qs3 (n:=n) (r1:=l++[0]) (w:=w) (m:=l.length) (by simp) hw (by omega) hn;have hz:sub ([0]:List Int) 0 1=[0]:=rfl;have ho':o.length=l.length+1:=(by rw[ho];simp);have i1:w<(l++[0]).length:=(by simp;omega);have i2:w<o.length:=(by omega);have e4:az (l++[0]).length (o.set ((0:Nat)+(w:Int):Int).toNat a0[i]).length=true:=(by rw[List.length_set,ho];exact aD _);simp only[vL,bO hlt,aj,e1,af,e2,hz,length_singleton,hap,dP,e3,bq hlt,aT i1,aY i2,e4,aM i];cases b with
   |true=>simp only[aj,aD,af];exact .inl ⟨_,rfl,rfl,hlt,by show l.length<=_;omega⟩
   |false=>simp only[ak,aD,af,aj];exact .inl ⟨_,rfl,rfl,hlt,by show(o.set _ _).length<=_;rw[List.length_set];omega⟩
  ·obtain rfl:i=a0.length:=(by omega);simp only[vL,bX,ak,aD,aj];exact .inr ⟨_,rfl,rj⟩) n 0 ((0:Int),([]:List Int)) ⟨rfl,Nat.zero_le _,aC _⟩ (by omega)
 have hz:az 0 ([]:List Int).length=true:=rfl;exact⟨o,by simp only[Es,hz,aj,h1,af,cZ,aD],h2⟩
theorem anm{a:List ax}(hl:a.length<=400)(hn:2000<=n):∃o,Jy n a []=some o/\o.length<=2*a.length:=by
 obtain⟨o,h1,h2⟩:=dL (step:=xQ a) (λ i (v:Int×List Int)=>v.1=(i:Int)/\i<=a.length/\v.2.length=2*i) (λ o=>o.length=2*a.length) a.length (λ k v h=>h.2.1) (by
  rintro i ⟨v,l⟩ ⟨hv,hi,rj⟩;simp only at hv rj;subst hv;by_cases hlt:i<a.length
  ·have hap:bP l.length l.length 2 2 8=true:=dm (by omega) (by simp only[maxLen];omega);simp only[xQ,bO hlt,aj,bq hlt,af,show ∀x y:Int,sub ([x,y]:List Int) 0 2=[x,y]from λ_ _=>rfl,bI,length_nil,Nat.zero_add,Nat.reduceAdd,hap,dP,aD,aM i];exact .inl ⟨_,rfl,rfl,hlt,by simp;omega⟩
  ·obtain rfl:i=a.length:=(by omega);simp only[xQ,bX,ak,aD,aj];exact .inr ⟨_,rfl,rj⟩) n 0 ((0:Int),([]:List Int)) ⟨rfl,Nat.zero_le _,rfl⟩ (by omega)
 obtain⟨m,rfl⟩:∃m,n=m+1:=⟨n -1,by omega⟩;have e2:iter (Et []) (m+1) ((0:Int),o)=some o:=fH (by
  have hz:decide ((0:Int)<((([]:List ax).length:Int):Int))=false:=rfl;simp only[Et,hz,ak,aD,aj])
 obtain⟨p,e3,h3⟩:=alV (n:=m+1) (a0:=o) (by omega) hn;have hz:az 0 ([]:List Int).length=true:=rfl;exact⟨p,by simp only[Jy,hz,aj,h1,af,aD,e2,cZ,e3],by omega⟩
theorem qc2{a0:List ax}{k m:Nat}{r1 r2:List Int}(hk:k<a0.length)(h1:r1.length=m+1)(h2:r2.length=m+1)(hm:m<=1000)(hn:2000<=n):∃(w:Nat)(o1 o2:List Int),iter (qD a0 (k:Int) r1 r2) n ((m:Int),r1,r2)=some ((w:Int),o1,o2)/\w<=m/\o1.length=m+1/\o2.length=m+1:=by
 obtain⟨⟨o,o1,o2⟩,g1,w,rfl,g2⟩:=EB (step:=qD a0 (k:Int) r1 r2) (λ v=>∃j:Nat,v.1=(j:Int)/\j<=m/\v.2.1.length=m+1/\v.2.2.length=m+1) (λ o=>∃j:Nat,o.1=(j:Int)/\j<=m/\o.2.1.length=m+1/\o.2.2.length=m+1) (λ v=>v.1.toNat) (by
  rintro⟨v,l1,l2⟩ ⟨j,rfl,hj,hl1,hl2⟩;simp only at hl1 hl2;cases j with
  |zero=>simp only[qD,aeD,ak,af];exact .inr ⟨_,rfl,0,rfl,hj,hl1,hl2⟩
  |succ j=>
   have a1:j<r1.length:=(by omega);have a2:j<l1.length:=(by omega);have a3:j+1<r1.length:=(by omega);have a4:j+1<l1.length:=(by omega);have b1:j<r2.length:=(by omega);have b2:j<l2.length:=(by omega);have b3:j+1<r2.length:=(by omega);have b4:j+1<l2.length:=(by omega);simp only[qD,Oe,aj,pred_succ (show j<9223372036854775807 by omega),aT a1,aY a2,bq hk,aT a3,aY a4,aT b1,aY b2,aT b3,aY b4,af];cases decide (l1[j]>a0[k].y0)with
   |false=>exact .inr ⟨_,rfl,j+1,rfl,hj,hl1,hl2⟩
   |true=>exact .inl ⟨_,rfl,⟨j,rfl,by omega,by simpa using hl1,by simpa using hl2⟩,by simp⟩) n ((m:Int),r1,r2) ⟨m,rfl,aC _,h1,h2⟩ (by simp;omega)
 exact⟨w,o1,o2,g1,g2⟩
theorem qc1{a0:List ax}(x:Int)(hl:a0.length<=400)(hn:2000<=n):∃o1 o2:List Int,iter (qE n a0 x) n ((0:Int),([]:List Int),([]:List Int))=some (o1,o2)/\o1.length=o2.length/\o1.length<=a0.length:=by
 obtain⟨⟨o1,o2⟩,g1,g2⟩:=dL (step:=qE n a0 x) (λ i (v:Int×List Int×List Int)=>v.1=(i:Int)/\i<=a0.length/\v.2.1.length=v.2.2.length/\v.2.1.length<=i) (λ o=>o.1.length=o.2.length/\o.1.length<=a0.length) a0.length (λ k v h=>h.2.1) (by
  rintro i ⟨v,l1,l2⟩ ⟨hv,hi,rj,hl2⟩;simp only at hv rj hl2;subst hv;by_cases hlt:i<a0.length
  ·have hap:bP l1.length l1.length 1 1 8=true:=dm (by omega) (by simp only[maxLen];omega);have SW:bP l2.length l2.length 1 1 8=true:=rj ▸ hap;have hz:sub ([0]:List Int) 0 1=[0]:=rfl;obtain⟨w,p1,p2,e1,hw,hp1,hp2⟩:=qc2 (n:=n) (a0:=a0) (k:=i) (m:=l1.length) (r1:=l1++[0]) (r2:=l2++[0]) hlt (by simp) (by simp[rj]) (by omega) hn;have i1:w<(l1++[0]).length:=(by simp;omega);have i2:w<p1.length:=(by omega);have i3:w<(l2++[0]).length:=(by simp;omega);have i4:w<p2.length:=(by omega);have f1:∀y:Int,az (l1++[0]).length (p1.set ((0:Nat)+(w:Int):Int).toNat y).length=true:=λy=>(by rw[List.length_set,hp1];exact D5 (by simp));have f2:∀y:Int,az (l2++[0]).length (p2.set ((0:Nat)+(w:Int):Int).toNat y).length=true:=λy=>(by rw[List.length_set,hp2];exact D5 (by simp[rj]));have⟨b,hb⟩:=ail (decide (a0[i].x0>(x:Int))) (decide (a0[i].x1<=(x:Int)));simp only[qE,bO hlt,aj,bq hlt,af,hb,hz,length_singleton,hap,SW,dP,e1,aT i1,aY i2,aT i3,aY i4,f1,f2,aM i];cases b with
   |true=>simp only[aj,aD,af];exact .inl ⟨_,rfl,rfl,hlt,rj,by show l1.length<=_;omega⟩
   |false=>
    simp only[ak,aj,aD,af];exact .inl ⟨_,rfl,rfl,hlt,by simp only[List.length_set];omega,by simp only[List.length_set];omega⟩
  ·obtain rfl:i=a0.length:=(by omega);simp only[qE,bX,ak,aD,aj];exact .inr ⟨_,rfl,rj,hl2⟩) n 0 ((0:Int),([]:List Int),([]:List Int)) ⟨rfl,Nat.zero_le _,rfl,aC _⟩ (by omega)
 exact⟨o1,o2,g1,g2⟩
theorem aeE{a0:List ax}(x:Int)(hl:a0.length<=400)(hn:2000<=n):∃o,yQ n a0 x=some o/\o.length<=2*a0.length:=by
 have⟨w4,w5,g1,g2,g3⟩:=qc1 (n:=n) (a0:=a0) x hl hn;obtain⟨o,h1,h2⟩:=dL (step:=qF w4 w5) (λ i (v:Int×List Int)=>v.1=(i:Int)/\i<=w4.length/\v.2.length<=2*i) (λ o=>o.length<=2*w4.length) w4.length (λ k v h=>h.2.1) (by
  rintro i ⟨v,l⟩ ⟨hv,hi,rj⟩;simp only at hv rj;subst hv;by_cases hlt:i<w4.length
  ·have xe:i<w5.length:=(by omega);have hap:bP l.length l.length 2 2 8=true:=dm (by omega) (by simp only[maxLen];omega);have hs:∀x y:Int,sub ([x,y]:List Int) 0 2=[x,y]:=λ_ _=>rfl;cases hL:l.length with
   |zero=>
    have hz0:decide ((l.length:Int)>0)=false:=(by rw[hL];rfl);simp only[qF,bO hlt,aj,hz0,ak,af,aT hlt,aY hlt,aT xe,aY xe,hs,bI,length_nil,Nat.zero_add,Nat.reduceAdd,hap,dP,aD,aM i];exact .inl ⟨_,rfl,rfl,hlt,by simp;omega⟩
   |succ m=>
    have hm:m<l.length:=(by omega);have hpos:decide ((l.length:Int)>0)=true:=(by rw[hL];exact Oe m);have hpred:i64.wrap ((l.length:Int) -1)=(m:Int):=(by rw[hL];exact pred_succ (by omega));have f1:∀y:Int,az l.length (l.set ((0:Nat)+(m:Int):Int).toNat y).length=true:=λy=>(by rw[List.length_set];exact aD _);simp only[qF,bO hlt,aj,hpos,hpred,af,aT hlt,aY hlt,aT xe,aY xe,aT hm,aY hm,hs,bI,length_nil,Nat.zero_add,Nat.reduceAdd,hap,dP,f1,aD,aM i];cases decide (w4[i]<=l[m])with
    |true=>exact .inl ⟨_,rfl,rfl,hlt,by show(l.set _ _).length<=_;rw[List.length_set];omega⟩
    |false=>exact .inl ⟨_,rfl,rfl,hlt,by show(l++_).length<=_;simp;omega⟩
  ·obtain rfl:i=w4.length:=(by omega);simp only[qF,bX,ak,aD,aj];exact .inr ⟨_,rfl,rj⟩) n 0 ((0:Int),([]:List Int)) ⟨rfl,Nat.zero_le _,aC _⟩ (by omega)
 have hz:az 0 ([]:List Int).length=true:=rfl;exact⟨o,by simp only[yQ,hz,aj,g1,h1,af,cZ,aD],by omega⟩
theorem ajI{a0:List Int}(hl:a0.length<=1000)(hn:2000<=n):∃o,Ai n a0 [] 0=some o/\o.length<=a0.length:=by
 obtain⟨o,h1,h2⟩:=dL (step:=tZ a0 [] 0) (λ i (v:Int×Int×Bool×List Int)=>v.1=(i:Int)/\v.2.1=0/\i<=a0.length/\v.2.2.2.length<=i) (λ o=>o.length<=a0.length) a0.length (λ k v h=>h.2.2.1) (by
  rintro i ⟨v,v2,v3,l⟩ ⟨hv,hv2,hi,rj⟩;simp only at hv hv2 rj;subst hv;subst hv2;have z1:decide ((0:Int)<((([]:List Int).length:Int):Int))=false:=rfl;have z2:decide ((0:Int)>=((([]:List Int).length:Int):Int))=true:=rfl;by_cases hlt:i<a0.length
  ·have hap:bP l.length l.length 1 1 8=true:=dm (by omega) (by simp only[maxLen];omega);have be:∀x:Int,(x==x)=true:=λx=>(by simp);have⟨b,hb⟩:=ail (Int.tmod ((i+1:Nat):Int) 2==(1:Int)) (Int.tmod (0:Int) 2==(1:Int));simp only[tZ,bO hlt,aj,z1,z2,bq hlt,af,be,ak,aM i,show((2:Nat) !=0)=true from rfl,show((2:Int) !=0)=true from rfl,hb,show((0:Int)==1)=false from rfl,show((0:Int)==2)=false from rfl,show ∀x:Int,sub ([x]:List Int) 0 1=[x]from λ_=>rfl,length_singleton,hap,dP,aD];cases (!(b==v3))with
   |true=>exact .inl ⟨_,rfl,rfl,rfl,hlt,by show(l++_).length<=_;simp;omega⟩
   |false=>exact .inl ⟨_,rfl,rfl,rfl,hlt,by show l.length<=_;omega⟩
  ·obtain rfl:i=a0.length:=(by omega);simp only[tZ,bX,ak,z1,af,aD,aj];exact .inr ⟨_,rfl,rj⟩) n 0 ((0:Int),(0:Int),false,([]:List Int)) ⟨rfl,rfl,Nat.zero_le _,aC _⟩ (by omega)
 have hz:az 0 ([]:List Int).length=true:=rfl;exact⟨o,by simp only[Ai,hz,aj,h1,af,cZ,aD],h2⟩
theorem Wc{α O:Type}{l:List α}{step:Int->Option (Int⊕(Unit⊕O))}(h1:∀i (hi:i<l.length),(∃ o,step (i:Int)=some (.inr (.inr o)))\/step (i:Int)=some (.inl ((i+1:Nat):Int)))
 (h2:step (l.length:Int)=some (.inr (.inl ()))) (hn:l.length<n):(∃ o,iter step n (0:Int)=some (.inr o))\/iter step n (0:Int)=some (.inl ()):=by
 obtain⟨o,g1,_⟩:=dL (step:=step) (λ i (v:Int)=>v=(i:Int)/\i<=l.length) (λ _=>True) l.length (λ k v h=>h.2) (by
  rintro i v ⟨rfl,hi⟩;by_cases hlt:i<l.length
  ·rcases h1 i hlt with ⟨o,h⟩ |h
   ·exact .inr ⟨_,h,trivial⟩
   ·exact .inl ⟨_,h,rfl,hlt⟩
  ·obtain rfl:i=l.length:=(by omega);exact .inr ⟨_,h2,trivial⟩) n 0 0 ⟨rfl,Nat.zero_le _⟩ (by omega)
 rcases o with ⟨⟩ |o
 ·exact .inr g1
 ·exact .inl ⟨o,g1⟩
theorem aoy{a b:List Int}(hl:a.length<=1000)(hn:2000<=n):∃r,NE n a b=some r:=by
 unfold NE;by_cases h:a.length=b.length
 ·have e:((a.length:Int) !=(b.length:Int))=false:=by simp[h]
  rw[e];simp only[ak];rcases Wc (l:=a) (n:=n) (step:=Aj a b) (λ i hi=>by
   simp only[Aj,bO hi,aj,bq hi,bq (show i<b.length by omega),af,aM i];cases (a[i] !=b[i]'(by omega))with
   |true=>exact .inl ⟨_,rfl⟩
   |false=>exact .inr rfl) (by simp only[Aj,bX,ak]) (by omega)with ⟨o,h⟩ |h
  ·rw[h];exact⟨_,rfl⟩
  ·rw[h];exact⟨_,rfl⟩
 ·have e:((a.length:Int) !=(b.length:Int))=true:=by simpa using λe:(a.length:Int)=(b.length:Int)=>h (by omega)
  rw[e];exact⟨_,rfl⟩
theorem qf2{r1:List Int}{k:Nat}{v3:List ax}{q:Nat}(hk:k+1<r1.length)(hl:r1.length<=1000)(h3:v3.length<=100000)(hn:200000<=n):∃o,iter (wH r1 (k:Int) v3) n ((q:Int),v3)=some o/\o.length=v3.length:=by
 refine EB (step:=wH r1 (k:Int) v3) (λ v=>∃j:Nat,v.1=(j:Int)/\v.2.length=v3.length) (λ o=>o.length=v3.length) (λ v=>v3.length -v.1.toNat) (by
  rintro⟨v,l⟩ ⟨j,rfl,hl⟩;simp only at hl;by_cases hlt:j<v3.length
  ·have hj:j<l.length:=(by omega);simp only[wH,bO hlt,aj,aM k,aT hk,aY hk,aT hlt,aY hj,af,aM j];exact .inl ⟨_,rfl,⟨j+1,rfl,by simpa using hl⟩,by simp only[Int.toNat_natCast];omega⟩
  ·simp only[wH,Qk hlt,ak];exact .inr ⟨_,rfl,hl⟩) n ((q:Int),v3) ⟨q,rfl,rfl⟩ (by omega)
theorem qf3{r1 r4:List Int}{k:Nat}{v3:List ax}(hk:k+1<r1.length)(hl:r1.length<=1000)(h4:r4.length<=1000)(h3:v3.length<=100000)(hn:200000<=n):∃o,iter (wI r1 (k:Int) r4) n ((0:Int),v3)=some o/\o.length<=v3.length+r4.length:=by
 refine EB (step:=wI r1 (k:Int) r4) (λ v=>∃j:Nat,v.1=(j:Int)/\j<=r4.length/\v.2.length<=v3.length+j) (λ o=>o.length<=v3.length+r4.length) (λ v=>r4.length -v.1.toNat) (by
  rintro⟨v,l⟩ ⟨j,rfl,hj,hl⟩;simp only at hl;by_cases hlt:j+1<r4.length
  ·have hj:j<r4.length:=(by omega);have hk':k<r1.length:=(by omega);have hap:bP l.length l.length 1 1 32=true:=dm (by omega) (by simp only[maxLen];omega);have w2:i64.wrap ((j:Int)+2)=((j+2:Nat):Int):=(by rw[dS (by omega) (by omega)];omega);simp only[wI,aM j,bO hlt,aj,aM k,aT hk,aY hk,aT hk',aY hk',aT hj,aY hj,aT hlt,aY hlt,af,show ∀x:ax,sub ([x]:List ax) 0 1=[x]from λ_=>rfl,length_singleton,hap,dP,aD,w2];exact .inl ⟨_,rfl,⟨j+2,rfl,by omega,by simp;omega⟩,by simp only[Int.toNat_natCast];omega⟩
  ·simp only[wI,aM j,Qk hlt,ak,aD,aj];exact .inr ⟨_,rfl,by omega⟩) n ((0:Int),v3) ⟨0,rfl,Nat.zero_le _,by simp⟩ (by simp;omega)
theorem aoz{a:List ax}(hl:a.length<=4)(hn:200000<=n):∃o,NF n a [] 0=some o:=by
 obtain⟨r1,e1,h1⟩:=anm (n:=n) (a:=a) (by omega) (by omega);obtain⟨o,g1,_⟩:=dL (step:=Ak n a [] 0 r1) (λ i (v:Int×Int×List ax×List Int)=>(∃ q:Nat,v.1=(q:Int))/\v.2.1=(i:Int)/\i<=r1.length/\v.2.2.1.length<=8*i/\v.2.2.2.length<=8) (λ _=>True) r1.length (λ k v h=>h.2.2.1) (by
  rintro i ⟨v1,v2,v3,v4⟩ ⟨⟨q,hq⟩,hv,hi,h3,h4⟩;simp only at hq hv h3 h4;subst hq;subst hv;by_cases hlt:i+1<r1.length
  ·have hi':i<r1.length:=(by omega);obtain⟨r2,e2,h2⟩:=aeE (n:=n) (a0:=a) r1[i] (by omega) (by omega);obtain⟨r3,e3,h3'⟩:=aeE (n:=n) (a0:=[]) r1[i] (by simp) (by omega);obtain rfl:r3=[]:=List.eq_nil_of_length_eq_zero (by simpa using h3');obtain⟨r4,e4,h4'⟩:=ajI (n:=n) (a0:=r2) (by omega) (by omega);obtain⟨b5,e5⟩:=aoy (n:=n) (a:=r4) (b:=v4) (by omega) (by omega);have hv5:∃b,((bif (decide ((i:Int)>(0:Int)))then(bif (decide ((r4.length:Int)>(0:Int)))then some b5 else some false)else some false):Option Bool)=some b:=cO (cO ⟨_,rfl⟩ ⟨_,rfl⟩) ⟨_,rfl⟩;obtain⟨b,e6⟩:=hv5;obtain⟨o2,f2,k2⟩:=qf2 (n:=n) (r1:=r1) (k:=i) (v3:=v3) (q:=q) hlt (by omega) (by omega) hn;obtain⟨o3,f3,k3⟩:=qf3 (n:=n) (r1:=r1) (r4:=r4) (k:=i) (v3:=v3) hlt (by omega) (by omega) (by omega) hn;have e7:az v3.length o2.length=true:=D5 k2.symm;simp only[Ak,aM i,bO hlt,aj,aT hi',aY hi',af,e2,e3,cZ,aD,e4,e5,e6,f2,f3,e7];cases b with
   |true=>exact .inl ⟨_,rfl,⟨q,rfl⟩,rfl,by omega,by show o2.length<=_;omega,h4⟩
   |false=>exact .inl ⟨_,rfl,⟨_,rfl⟩,rfl,by omega,by show o3.length<=_;omega,by show r4.length<=_;omega⟩
  ·simp only[Ak,aM i,Qk hlt,ak,aD,aj];exact .inr ⟨_,rfl,trivial⟩) n 0 ((0:Int),(0:Int),([]:List ax),([]:List Int)) ⟨⟨0,rfl⟩,rfl,Nat.zero_le _,aC _,Nat.zero_le _⟩ (by omega)
 have hz:az 0 ([]:List ax).length=true:=rfl;have hz2:az 0 ([]:List Int).length=true:=rfl;exact⟨o,by simp only[NF,e1,af,hz,hz2,aj,g1,cZ,aD]⟩
theorem ano{a:List ax}(hl:a.length<=4)(hn:200000<=n):∃b,JA n a=some b:=by
 have⟨f,hf⟩:=aoz (n:=n) hl hn;have hO:∃o,Pc n a=some o:=by
  unfold Pc;have xj:decide ((a.length:Int)>400)=false:=by simp;omega
  rcases Wc (l:=a) (n:=n) (step:=Jz a) (λ i hi=>by
   have hr:∃b,vK a[i]=some b:=by
    unfold vK;exact cO (cO (cO (cO (cO ⟨_,rfl⟩ ⟨_,rfl⟩) ⟨_,rfl⟩) ⟨_,rfl⟩) ⟨_,rfl⟩) ⟨_,rfl⟩
   obtain⟨b,hb⟩:=hr;simp only[Jz,bO hi,aj,bq hi,af,hb,aM i];cases b with
   |false=>exact .inl ⟨_,rfl⟩
   |true=>exact .inr rfl) (by simp only[Jz,bX,ak]) (by omega)with ⟨o,h⟩ |h
  ·rw[h];exact⟨_,rfl⟩
  ·rw[h];simp only[eD,xj,ak,hf,af,cZ,aD,aj];exact cO ⟨_,rfl⟩ ⟨_,rfl⟩
 obtain⟨o,ho⟩:=hO;unfold JA;rw[ho];simp only[af,cZ,aD,aj];refine cO ?_ ⟨_,rfl⟩;have hS:∃r,NG n o.1 a=some r:=by
  unfold NG;by_cases h:o.1.length=a.length
  ·have e:((o.1.length:Int) !=(a.length:Int))=false:=(by simp[h]);rw[e];simp only[ak];rcases Wc (l:=o.1) (n:=n) (step:=Al o.1 a) (λ i hi=>by
    simp only[Al,bO hi,aj,bq hi,bq (show i<a.length by omega),af,aM i];generalize (!((o.1[i].x0==((a[i]'(by omega)).x0:Int))&&((o.1[i].y0==((a[i]'(by omega)).y0:Int))&&((o.1[i].x1==((a[i]'(by omega)).x1:Int))&&((o.1[i].y1==((a[i]'(by omega)).y1:Int))&&true)))))=c;cases c with
    |true=>exact .inl ⟨_,rfl⟩
    |false=>exact .inr rfl) (by simp only[Al,bX,ak]) (by omega)with ⟨o,h⟩ |h
   ·rw[h];exact⟨_,rfl⟩
   ·rw[h];exact⟨_,rfl⟩
  ·have e:((o.1.length:Int) !=(a.length:Int))=true:=(by simpa using λe:(o.1.length:Int)=(a.length:Int)=>h (by omega));rw[e];exact⟨_,rfl⟩
 obtain⟨r,hr⟩:=hS;rw[hr];exact⟨_,rfl⟩
theorem alX{a:List ax}(hl:a.length<=4)(hn:200000<=n):∃b,Eu n a=some b:=by
 unfold Eu;cases a with
 |nil=>exact⟨_,rfl⟩
 |cons r l=>
  have⟨b,hb⟩:=ano (n:=n) hl hn;have e:((((r::l).length:Nat):Int)==0)=false:=by simp;omega
  rw[hb,e];simp only[ak,af];refine cO ⟨_,rfl⟩ ?_;have g0:bp (r::l) 0=some r:=rfl;obtain⟨o,g1,_⟩:=dL (step:=vM (r::l) r) (λ i (v:Int×Int×Int×Int×Int)=>v.1=(i:Int)/\i<=(r::l).length) (λ _=>True) (r::l).length (λ k v h=>h.2) (by
   rintro i ⟨v,v3,v4,v5,v6⟩ ⟨hv,hi⟩;simp only at hv;subst hv;by_cases hlt:i<(r::l).length
   ·simp only[vM,bO hlt,aj,bq hlt,af,aM i];exact .inl ⟨_,rfl,rfl,hlt⟩
   ·obtain rfl:i=(r::l).length:=(by omega);simp only[vM,bX,ak];exact .inr ⟨_,rfl,trivial⟩) n 1 ((1:Int),r.x0,r.y0,r.x1,r.y1) ⟨rfl,by simp⟩ (by omega)
  simp only[g0,af,g1];exact⟨_,rfl⟩
theorem Xq{α:Type}{l:List α}{step:Int->Option (Int⊕(Unit⊕Bool))}{good:α->Prop}(h1:∀i (hi:i<l.length),step (i:Int)=some (.inr (.inr false))\/(step (i:Int)=some (.inl ((i+1:Nat):Int))/\good l[i]))
 (h2:step (l.length:Int)=some (.inr (.inl ()))) (hn:l.length<n):iter step n (0:Int)=some (.inr false)\/(iter step n (0:Int)=some (.inl ())/\∀x∈l,good x):=by
 obtain⟨o,g1,g2⟩:=dL (step:=step) (λ i (v:Int)=>v=(i:Int)/\i<=l.length/\∀x∈l.take i,good x) (λ o=>o= .inr false\/(o= .inl ()/\∀x∈l,good x)) l.length (λ k v h=>h.2.1) (by
  rintro i v ⟨rfl,hi,hall⟩;by_cases hlt:i<l.length
  ·rcases h1 i hlt with h |⟨h,hg⟩
   ·exact .inr ⟨_,h,.inl rfl⟩
   ·refine .inl ⟨_,h,rfl,hlt,λx hx=>?_⟩;rw[List.take_add_one,dI hlt,bf]at hx;rcases hx with hx |hx
    ·exact hall x hx
    ·simp at hx;subst hx;exact hg
  ·obtain rfl:i=l.length:=(by omega);exact .inr ⟨_,h2,.inr ⟨rfl,λx hx=>hall x (by rw[List.take_length];exact hx)⟩⟩) n 0 0 ⟨rfl,Nat.zero_le _,by simp⟩ (by omega)
 rcases g2 with rfl |⟨rfl,g2⟩
 ·exact .inl g1
 ·exact .inr ⟨g1,g2⟩
theorem abW(hn:4000002<=n):∀(m:Nat)(e:bZ),(toE e).wt<m->(toE e).wt<=4000000->∃r,u7 n m e=some r
 | 0,_,h,_=>absurd h (by omega)
 |m+1,e,h,hw=>by
  have hla:=abM e;show ∃r,Er n (u7 n m) e=some r;simp only[Er];obtain⟨o,g1,_⟩:=dL (step:=Ah (u7 n m) e) (λ i (v:Int×Int)=>v.2=(i:Int)/\i<=e.args.length) (λ _=>True) e.args.length (λ k v h=>h.2) (by
   rintro i ⟨v1,v2⟩ ⟨hv,hi⟩;simp only at hv;subst hv;by_cases hlt:i<e.args.length
   ·have hwx:=W8 (getElem_mem hlt);obtain⟨r,hr⟩:=abW hn m e.args[i] (by omega) (by omega);simp only[Ah,bO hlt,aj,bq hlt,af,hr,aM i];exact .inl ⟨_,rfl,rfl,hlt⟩
   ·obtain rfl:i=e.args.length:=(by omega);simp only[Ah,bX,ak];exact .inr ⟨_,rfl,trivial⟩) n 0 ((1:Int),(0:Int)) ⟨rfl,Nat.zero_le _⟩ (by omega)
  rw[g1];exact⟨_,rfl⟩
structure wL(p:bB):Prop where
 defs:ii p.defs
 rules:∀r∈p.rules,(toE (j7 r)).wt<=4000000
structure Og(p:bB):Prop where
 defs:p.defs.length<=5
 rules:p.rules.length<=5
 rule:∀r∈p.rules,W9 r
 tabs:p.tables.length<=4/\∀t∈p.tables,t.rows.length<=8
 zones:p.zones.length<=5
 caps:p.caps.length<=3
theorem agK{p:bB}(hp:wL p)(hn:4000002<=n):∃b,wG n p=some b/\(b=true->Og p):=by
 have no:∃b,some false=some b/\(b=true->Og p):=⟨false,rfl,λh=>(by cases h)⟩;unfold wG;have hk:((bif (decide ((p.defs.length:Int)>(5:Int)))then some true else(bif (decide ((p.rules.length:Int)>(5:Int)))then some true else(bif (decide ((p.tables.length:Int)>(4:Int)))then some true else(bif (decide ((p.zones.length:Int)>(5:Int)))then some true else some (decide ((p.caps.length:Int)>(3:Int))))))):Option (Bool))=some (decide (p.defs.length>5\/p.rules.length>5\/p.tables.length>4\/p.zones.length>5\/p.caps.length>3)):=by
  have c:∀a k:Nat,decide ((a:Int)>(k:Int))=decide (a>k):=λa k=>by rw[decide_eq_decide];omega
  have e1:=c p.defs.length 5;have e2:=c p.rules.length 5;have e3:=c p.tables.length 4;have e4:=c p.zones.length 5;have e5:=c p.caps.length 3;rw[show decide ((p.defs.length:Int)>(5:Int))=_ from e1,show decide ((p.rules.length:Int)>(5:Int))=_ from e2,show decide ((p.tables.length:Int)>(4:Int))=_ from e3,show decide ((p.zones.length:Int)>(5:Int))=_ from e4,show decide ((p.caps.length:Int)>(3:Int))=_ from e5,Bool.decide_or,Bool.decide_or,Bool.decide_or,Bool.decide_or];cases decide (p.defs.length>5)<;>cases decide (p.rules.length>5)<;>cases decide (p.tables.length>4)<;>cases decide (p.zones.length>5)<;>rfl
 rw[hk];by_cases hc:p.defs.length>5\/p.rules.length>5\/p.tables.length>4\/p.zones.length>5\/p.caps.length>3
 ·rw[decide_eq_true hc];exact no
 ·rw[decide_eq_false hc];simp only[af,ak];have s1:=Xq (l:=p.defs) (n:=n) (step:=tQ n p) (good:=λ_=>True) (λ i hi=>by
   obtain⟨r,hr⟩:=abW hn n _ (show _<n by have:=hp.defs.body (getElem_mem hi);omega) (hp.defs.body (getElem_mem hi));have hr':H9 n (bZ.mk p.defs[i].io p.defs[i].ly p.defs[i].kw p.defs[i].ia p.defs[i].en)=some r:=hr;simp only[tQ,bO hi,aj,bq hi,af,hr',aM i];cases decide (r>30)with
   |true=>exact .inl rfl
   |false=>exact .inr ⟨rfl,trivial⟩) (by simp only[tQ,bX,ak]) (by omega)
  have s2:=Xq (l:=p.rules) (n:=n) (step:=tT n p) (good:=W9) (λ i hi=>by
   obtain⟨r,hr⟩:=abW hn n (j7 p.rules[i]) (show _<n by have:=hp.rules _ (getElem_mem hi);omega) (hp.rules _ (getElem_mem hi));have hr':H9 n (bZ.mk p.rules[i].kO p.rules[i].mn p.rules[i].mm p.rules[i].i9 p.rules[i].fW)=some r:=hr;simp only[tT,bO hi,aj,bq hi,af,hr',aM i];by_cases c1:r>30
   ·simp only[c1,decide_true,aj,af];exact .inl rfl
   ·by_cases c2:(p.rules[i].zones.length:Int)>5
    ·simp only[c1,c2,decide_true,decide_false,aj,ak,af];exact .inl rfl
    ·by_cases c3:(p.rules[i].except.length:Int)>5
     ·simp only[c1,c2,c3,decide_true,decide_false,aj,ak,af];exact .inl rfl
     ·simp only[c1,c2,c3,decide_false,ak,af];exact .inr ⟨trivial,by omega,by omega⟩) (by simp only[tT,bX,ak]) (by omega)
  have s3:=Xq (l:=p.tables) (n:=n) (step:=tV p) (good:=λt=>t.rows.length<=8) (λ i hi=>by
   simp only[tV,bO hi,aj,bq hi,af,aM i];by_cases c1:(p.tables[i].rows.length:Int)>8
   ·simp only[c1,decide_true,aj];exact .inl rfl
   ·simp only[c1,decide_false,ak];exact .inr ⟨trivial,by omega⟩) (by simp only[tV,bX,ak]) (by omega)
  have s4:=Xq (l:=p.zones) (n:=n) (step:=tX p) (good:=λ_=>True) (λ i hi=>by
   simp only[tX,bO hi,aj,bq hi,af,aM i];cases decide ((p.zones[i].corners.length:Int)>12)with
   |true=>exact .inl rfl
   |false=>exact .inr ⟨rfl,trivial⟩) (by simp only[tX,bX,ak]) (by omega)
  have s5:=Xq (l:=p.caps) (n:=n) (step:=tY p) (good:=λ_=>True) (λ i hi=>by
   simp only[tY,bO hi,aj,bq hi,af,aM i];cases decide ((p.caps[i].corners.length:Int)>12)with
   |true=>exact .inl rfl
   |false=>exact .inr ⟨rfl,trivial⟩) (by simp only[tY,bX,ak]) (by omega)
  rcases s1 with h |⟨h,_⟩
  ·simpa only[h,iw]using no
  rcases s2 with h2 |⟨h2,g2⟩
  ·simpa only[h,h2,iw,eD]using no
  rcases s3 with h3 |⟨h3,g3⟩
  ·simpa only[h,h2,h3,iw,eD]using no
  rcases s4 with h4 |⟨h4,_⟩
  ·simpa only[h,h2,h3,h4,iw,eD]using no
  rcases s5 with h5 |⟨h5,_⟩
  ·simpa only[h,h2,h3,h4,h5,iw,eD]using no
  simp only[h,h2,h3,h4,h5,eD];exact⟨true,rfl,λ_=>⟨by omega,by omega,g2,⟨by omega,g3⟩,by omega,by omega⟩⟩
theorem ajJ(lot:bS)(hn:4000002<=n):∃b,Ew n lot=some b/\(b=true->lot.area.length<=4):=by
 unfold Ew;by_cases h:(lot.area.length:Int)>4
 ·simp only[h,decide_true,aj];exact⟨false,rfl,λh=>(by cases h)⟩
 ·obtain⟨r,hr⟩:=alX (n:=n) (a:=lot.area) (by omega) (by omega);simp only[h,decide_false,ak,hr,af];have:∃b,((bif (!r.2)then some true else(bif (decide ((i64.wrap (r.1.x1 -r.1.x0))<=(4:Int)))then some true else some (decide ((i64.wrap (r.1.y1 -r.1.y0))<=(4:Int))))):Option Bool)=some b:=cO ⟨_,rfl⟩ (cO ⟨_,rfl⟩ ⟨_,rfl⟩);obtain⟨b,hb⟩:=this;exact⟨b,hb,λ_=>by omega⟩
def m5(t:bW):bB:=bB.mk t.ci t.b8 t.b7 t.bj t.ct t.cj t.cD t.cm
structure RQ(t:bW):Prop where
 land:t.land.length<=2/\∀l∈t.land,l.area.length<=4
 zg:t.bz.length<=3/\∀e∈t.bz,e.area.length<=4
 built:t.built.length<=6
theorem alY{t:bW}(hp:wL (m5 t))(hn:4000002<=n):∃b,EA n t=some b/\(b=true->Og (m5 t)/\RQ t):=by
 have no:∃b,some false=some b/\(b=true->Og (m5 t)/\RQ t):=⟨false,rfl,λh=>(by cases h)⟩;have⟨b,hb,hf⟩:=agK hp hn;have hb':wG n (bB.mk t.ci t.b8 t.b7 t.bj t.ct t.cj t.cD t.cm)=some b:=hb;unfold EA;rw[hb'];cases b with
 |false=>exact no
 |true=>
  simp only[af,Bool.not_true,ak];by_cases c1:(t.land.length:Int)>2
  ·simp only[c1,decide_true,aj,af];exact no
  by_cases c2:(t.bz.length:Int)>3
  ·simp only[c1,c2,decide_true,decide_false,aj,ak,af];exact no
  by_cases c3:(t.built.length:Int)>6
  ·simp only[c1,c2,c3,decide_true,decide_false,aj,ak,af];exact no
  simp only[c1,c2,c3,decide_false,ak,af];have s1:=Xq (l:=t.land) (n:=n) (step:=Ey n t) (good:=λl=>l.area.length<=4) (λ i hi=>by
   have⟨b,hb,h4⟩:=ajJ (n:=n) t.land[i] hn;simp only[Ey,bO hi,aj,bq hi,af,hb,aM i];cases b with
   |false=>exact .inl rfl
   |true=>exact .inr ⟨rfl,h4 rfl⟩) (by simp only[Ey,bX,ak]) (by omega)
  have s2:=Xq (l:=t.bz) (n:=n) (step:=Ez t) (good:=λe=>e.area.length<=4) (λ i hi=>by
   simp only[Ez,bO hi,aj,bq hi,af,aM i];by_cases c1:(t.bz[i].area.length:Int)>4
   ·simp only[c1,decide_true,aj];exact .inl rfl
   ·simp only[c1,decide_false,ak];exact .inr ⟨trivial,by omega⟩) (by simp only[Ez,bX,ak]) (by omega)
  rcases s1 with h |⟨h,g1⟩
  ·simpa only[h,iw]using no
  rcases s2 with h2 |⟨h2,g2⟩
  ·simpa only[h,h2,iw,eD]using no
  simp only[h,h2,eD];exact⟨true,rfl,λ_=>⟨hf rfl,⟨by omega,g1⟩,⟨by omega,g2⟩,by omega⟩⟩
def GS(t:bW)(i:Nat):Int×(List fB)×(List cu)×(List dM)×(List bV)×(List fZ)×(List eU)×(List bT)×Int×(List bS)×(List je)×(List Eb)×(List iB)×(List bR):=
 ((i:Int),t.ci,t.b8,t.b7,t.bj,t.ct,t.cj,t.cD,t.cm,t.land,t.bz,t.windows,t.built,t.base)
theorem alZ{t:bW}{l:List bB}(hp:wL (m5 t))(hl:∀p∈l,wL p)(hll:l.length<=1000)(hn:4000002<=n):∃b,Us n t l=some b/\(b=true->∀p∈l,Og p/\RQ t):=by
 have no:∃b,some false=some b/\(b=true->∀p∈l,Og p/\RQ t):=⟨false,rfl,λh=>(by cases h)⟩;unfold Us
 obtain⟨o,g1,g2⟩:=dL (step:=rF n l) (λ i v=>i<=l.length/\(∃ u:bW,v=GS u i/\wL (m5 u)/\u.land=t.land/\u.bz=t.bz/\u.built=t.built)/\∀p∈l.take i,Og p/\RQ t)
  (λ o=>o= .inr false\/∃u:bW,o= .inl (GS u 0).2/\wL (m5 u)/\∀p∈l,Og p/\RQ t) l.length (λ k v h=>h.1) (by
  rintro i v ⟨hi,⟨u,rfl,hz,e1,e2,e3⟩,hall⟩;have hst:rF n l (GS u i)=rF n l ((i:Int),u.ci,u.b8,u.b7,u.bj,u.ct,u.cj,u.cD,u.cm,u.land,u.bz,u.windows,u.built,u.base):=rfl;rw[hst];by_cases hlt:i<l.length
  ·have hz':wL (m5 (cx u l[i])):=hl _ (getElem_mem hlt);have⟨b,hb,hf⟩:=alY (n:=n) (t:=cx u l[i]) hz' hn;have hb':EA n (bW.mk l[i].defs l[i].tables l[i].zones l[i].rules l[i].caps l[i].views l[i].sm l[i].hours u.land u.bz u.windows u.built u.base)=some b:=hb;simp only[rF,bO hlt,aj,bq hlt,af,hb',aM i];cases b with
   |false=>exact .inr ⟨_,rfl,.inl rfl⟩
   |true=>
    have⟨f1,f2⟩:=hf rfl;refine .inl ⟨_,rfl,hlt,⟨cx u l[i],rfl,hz',e1,e2,e3⟩,λp hp=>?_⟩;rw[List.take_add_one,dI hlt,bf]at hp;rcases hp with hp |hp
    ·exact hall p hp
    ·simp at hp;subst hp;refine⟨f1,⟨?_,?_,?_⟩⟩
     ·rw[<- e1];exact f2.land
     ·rw[<- e2];exact f2.zg
     ·rw[<- e3];exact f2.built
  ·obtain rfl:i=l.length:=(by omega);simp only[rF,bX,ak];refine .inr ⟨_,rfl,.inr ⟨u,rfl,hz,λp hp=>hall p (by rw[List.take_length];exact hp)⟩⟩) n 0 (GS t 0) ⟨Nat.zero_le _,⟨t,rfl,hp,rfl,rfl,rfl⟩,by simp⟩ (by omega)
 have g1':iter (rF n l) n ((0:Int),t.ci,t.b8,t.b7,t.bj,t.ct,t.cj,t.cD,t.cm,t.land,t.bz,t.windows,t.built,t.base)=some o:=g1;rw[g1'];rcases g2 with rfl |⟨u,rfl,hz,hall⟩
 ·exact no
 ·have⟨b,hb,_⟩:=alY (n:=n) (t:=u) hz hn;refine⟨b,?_,λ_=>hall⟩;simp only[GS,eD];have hb':EA n (bW.mk u.ci u.b8 u.b7 u.bj u.ct u.cj u.cD u.cm u.land u.bz u.windows u.built u.base)=some b:=hb;rw[hb'];rfl
theorem anp{t:bW}{p:bB}(hz:wL p)(hf:Og p)(ht:RQ t)(hr:∀l∈t.land,l.from_.length*8<=140737488355328):A9 (cx t p) where
 lots:=λl hl=>⟨by have:=ht.land.2 l hl;omega,hr l hl⟩
 land:=by have:=ht.land.1;show t.land.length<=_;omega
 zg:=⟨by have:=ht.zg.1;show t.bz.length<=_;omega,λe he=>by have:=ht.zg.2 e he;omega⟩
 built:=by have:=ht.built;show t.built.length<=_;omega
 zones:=by have:=hf.zones;show p.zones.length<=_;omega
 caps:=by have:=hf.caps;show p.caps.length<=_;omega
 rules:=by have:=hf.rules;show p.rules.length<=_;omega
 rule:=λr hr=>⟨hf.rule r hr,hz.rules r hr⟩
 plan:=⟨hz.defs,by have:=hf.tabs.1;show p.tables.length<=_;omega,λx hx=>by have:=hf.tabs.2 x hx;omega⟩
theorem al0{t:bW}(ht:RQ t):Iz t.land:=⟨λ l hl=>by have:=ht.land.2 l hl;omega,by have:=ht.land.1;omega⟩
def D4(x y:aR):Bool:=(x.lot==(y.lot:Int))&&((x.use==(y.use:Int))&&((x.floors==(y.floors:Int))&&((x.ev==(y.ev:Int))&&true)))
theorem Uy(x y:aR):D4 x y=true↔x=y:=by
 cases x;cases y;simp[D4]
theorem al1(x:aR):D4 x x=true:=(Uy x x).2 rfl
structure apf(n:Nat)(t:bW)(l:List bB):Prop where
 land:Iz t.land
 plans:∀p∈l,A9 (cx t p)
 n:Ob n
theorem n42:Ob 5000003:=⟨aC _,by omega⟩
structure Wr(t:bW):Prop where
 plan:wL (m5 t)
 yW:∀l∈t.land,l.from_.length*8<=140737488355328
theorem Oh(hs:CB 5000003=some true)(t:bW)(x a m:bB)(day:Int)(ht:Wr t)(hx:wL x)(ha:wL a)(hm:wL m):mR 5000003 t x a m day=some true:=by
 have hmem:∀p∈[x,a,m],wL p:=λp hp=>by simp only[aN,fu,or_false]at hp;rcases hp with rfl |rfl |rfl<;>assumption
 obtain⟨few,hf,Sx⟩:=alZ (n:=5000003) (t:=t) (l:=[x,a,m]) ht.plan hmem (by simp) (by omega);unfold mR;rw[hs,show sub [x,a,m] 0 3=[x,a,m]from rfl,show az [x,a,m].length 3=true from rfl,hf];simp only[af,aj];cases few with
 |false=>rfl
 |true=>
  have hF:=Sx rfl;have hW:apf 5000003 t [x,a,m]:=⟨al0 (hF x (by simp)).2,λp hp=>anp (hmem p hp) (hF p hp).1 (hF p hp).2 ht.yW,n42⟩;have hX:=hW.plans x (by simp);have hA:=hW.plans a (by simp);have hM:=hW.plans m (by simp);have e1:=CU (day:=day) hW.land hX hA hX hA n42;have e2:=CU (day:=day) hW.land hX hA hA hA n42;have e3:=CU (day:=day) hW.land hX hA hM hX n42;have e4:=CU (day:=day) hW.land hX hM hA hX n42;have e5:=aeA (day:=day) hW.land hX hM n42;have e6:=CU (day:=day) hW.land hX hX hX hM n42;rw[IB λp _=>by cases fE 5000003 t day x p<;>cases fE 5000003 t day a p<;>rfl]at e1;rw[IB λp _=>by cases fE 5000003 t day x p<;>cases fE 5000003 t day a p<;>rfl]at e2;have s4:(kI (eZ 5000003 t.land) λp=>IA (fE 5000003 t day x p) (fE 5000003 t day m p) (fE 5000003 t day a p) (fE 5000003 t day x p))=kI (eZ 5000003 t.land) λp=>IA (fE 5000003 t day x p) (fE 5000003 t day a p) (fE 5000003 t day m p) (fE 5000003 t day x p):=
   Od λp _=>by cases fE 5000003 t day x p<;>cases fE 5000003 t day a p<;>cases fE 5000003 t day m p<;>rfl
  have s6:(kI (eZ 5000003 t.land) λp=>IA (fE 5000003 t day x p) (fE 5000003 t day x p) (fE 5000003 t day x p) (fE 5000003 t day m p))=kI (eZ 5000003 t.land) λp=>!(fE 5000003 t day x p==fE 5000003 t day m p):=
   Od λp _=>by cases fE 5000003 t day x p<;>cases fE 5000003 t day m p<;>rfl
  rw[s4]at e4;rw[s6]at e6;have pe:∀x:aR,((x.lot==(x.lot:Int))&&((x.use==(x.use:Int))&&((x.floors==(x.floors:Int))&&((x.ev==(x.ev:Int))&&true))))=true:=al1;have be:∀x:Bool,(x==x)=true:=λx=>by cases x<;>rfl
  simp only[Bool.not_true,Bool.not_false,ak,e1,e2,e3,e4,e5,e6,af,aj,pe,be]
def eK:List bS:=[bS.mk 1 0 [ax.mk 0 0 4 4] []]
def ey:bW:=bW.mk [] [] [] [] [] [] [] 0 eK [] [] [] []
def iW(k:Int):bB:=bB.mk [] [] [] [(bV.mk (⟨#[97]⟩) ([]) ([]) 0 0 0 false 0 12 0 (⟨#[]⟩) (⟨#[]⟩) [(bZ.mk 1 0 (⟨#[104,101,105,103,104,116]⟩) (⟨#[]⟩) ([])),(bZ.mk 0 k (⟨#[]⟩) (⟨#[]⟩) ([]))] 0 0 0 0 0 0 0)] [] [] [] 0
theorem anq(k:Int):fD k=some (iW k):=rfl
theorem Ba(k:Int):A9 (cx ey (iW k)) where
 lots:=λl hl=>by
  have hl:l∈eK:=hl;simp only[eK,aW]at hl;subst hl;exact⟨by decide,by decide⟩
 land:=by show eK.length<=1000;decide
 zg:=⟨Nat.zero_le _,λe he=>by have he:e∈([]:List je):=he;simp at he⟩
 built:=Nat.zero_le _
 zones:=Nat.zero_le _
 caps:=Nat.zero_le _
 rules:=by show 1<=100;decide
 rule:=λr hr=>by
  have hr:r∈(iW k).rules:=hr;simp only[iW,aW]at hr;subst hr;exact⟨⟨Nat.zero_le _,Nat.zero_le _⟩,Nat.le_of_ble_eq_true (by kernel_rfl)⟩
 plan:=⟨Nat.le_of_ble_eq_true (by kernel_rfl),⟨Nat.zero_le _,λx hx=>by have hx:x∈([]:List cu):=hx;simp at hx⟩⟩
theorem IC:Iz ey.land:=⟨λ l hl=>by
 have hl:l∈eK:=hl;simp only[eK,aW]at hl;subst hl;decide,by show eK.length<=500;decide⟩
def Sy(k:Int)(p:aR):Bool:=fE 5000003 ey 0 (iW k) p
def lw:List aR:=(List.range 2).flatMap λ(i:Nat)=>(List.range 72).map λ(k:Nat)=>aR.mk 1 ((k%6:Nat):Int) ((k/6+1:Nat):Int) (i:Int)
def IM:Qj:=[(kZ.mk 1 0,16),(kZ.mk 1 1,4)]
theorem aim:((yY 5000003 eK).1,(yY 5000003 eK).2.2)=(IM,lw):=by kernel_rfl
def uw:bS:=bS.mk 1 0 [ax.mk 0 0 4 4] []
def uF(p:aR):bn:=(xh 5000003 eK p).1
set_option maxRecDepth 100000 in
theorem anr:(lw.all λp=>p.lot==1&&(CR 5000003 (cx ey (iW 0)) (uF p)==0&&!Jx (cx ey (iW 0)) (uF p)))=true:=by kernel_rfl
set_option maxRecDepth 100000 in
theorem aoA:(lw.all λp=>((kr 5000003 (il (cx ey (iW 0))) uw (uF p)).bind λms=>(ms[4]?).map λe=>e.n)==some (p.floors*3))=true:=by kernel_rfl
def IH(k:Int):bV:=bV.mk (⟨#[97]⟩) ([]) ([]) 0 0 0 false 0 12 0 (⟨#[]⟩) (⟨#[]⟩) [(bZ.mk 1 0 (⟨#[104,101,105,103,104,116]⟩) (⟨#[]⟩) ([])),(bZ.mk 0 k (⟨#[]⟩) (⟨#[]⟩) ([]))] 0 0 0 0 0 0 0
def MD(e1 e2 e3 e4 e5 e6 e7 e8 e9:Int):List bR:=[⟨⟨#[97,114,101,97]⟩,e1⟩,⟨⟨#[99,111,118,101,114]⟩,e2⟩,⟨⟨#[102,108,111,111,114]⟩,e3⟩,⟨⟨#[102,108,111,111,114,115]⟩,e4⟩,⟨⟨#[104,101,105,103,104,116]⟩,e5⟩,⟨⟨#[104,111,109,101,115]⟩,e6⟩,⟨⟨#[114,117,110,111,102,102]⟩,e7⟩,⟨CQ,e8⟩,⟨⟨#[116,114,97,102,102,105,99]⟩,e9⟩]
def tW:List Int:=[3,5,6,7,9]
def C3:List Int:=[1,2,3,4,5,6,7,8,9,10,11,12]
theorem al5(e1 e2 e3 e4 e6 e7 e8 e9:Int):(tW.all λk=>C3.all λf=>(vG 5000003 (il (cx ey (iW 0))) (MD e1 e2 e3 e4 (f*3) e6 e7 e8 e9) [] (j7 (IH k))==some (bif decide (f*3<=k)then 1 else 0)))=true:=by kernel_rfl
theorem ao6{k:Int}(hk:k∈tW){p:aR}(hp:p∈lw)(hf:p.floors∈C3):Sy k p=decide (p.floors*3<=k):=by
 have h1:=all_eq_true.1 anr p hp;have h2:=all_eq_true.1 aoA p hp;simp only[aL,beq_iff_eq,Bool.not_eq_true']at h1 h2;obtain⟨hl,HF,hea⟩:=h1;have hD:xr (uF p):=Oc _ _ _;have Sf:uq (cx ey (iW k)) (uF p)=uw:=by
  have hd:(uF p).lot=1:=by
   have he:CR 5000003 (cx ey (iW 0)) (uF p)=0:=HF;unfold CR at he;cases hc:(jk (cx ey (iW 0)).land (uF p).lot).2 with
   |false=>rw[hc]at he;cases he
   |true=>
    have:jk eK (uF p).lot=if (1:Int)=(uF p).lot then(uw,true)else(N1,false):=by
     unfold jk eK;simp only[List.find?_cons,List.find?_nil];by_cases h:(1:Int)=(uF p).lot
     ·have hb:((1:Int)==(uF p).lot)=true:=(by simpa using h);rw[aX h,hb];rfl
     ·have hb:((1:Int)==(uF p).lot)=false:=(by simpa using h);rw[aQ h,hb]
    have hc':(jk eK (uF p).lot).2=true:=hc;rw[this]at hc';by_cases h:(1:Int)=(uF p).lot
    ·exact h.symm
    ·rw[aQ h]at hc';cases hc'
  show(jk eK (uF p).lot).1=_;rw[hd];rfl
 obtain⟨e1,e2,e3,e4,e5,e6,e7,e8,LI⟩:=anT (n:=5000003) (p:=il (cx ey (iW 0))) (lot:=uw) (d:=uF p) ⟨Nat.zero_lt_succ _,Nat.zero_le _,λx hx=>by have hx:x∈([]:List cu):=hx;simp at hx⟩ (by decide) hD.1 (by omega);have hms:kr 5000003 (il (cx ey (iW 0))) uw (uF p)=some (MD e1 e2 e3 e4 e5 e6 e7 (um (mW uw) (fI (uF p))) e8):=LI [];have h5:e5=p.floors*3:=by
  rw[hms]at h2;have:some e5=some (p.floors*3):=h2;injection this
 have hev:=all_eq_true.1 (all_eq_true.1 (al5 e1 e2 e3 e4 e6 e7 (um (mW uw) (fI (uF p))) e8) k hk) p.floors hf;rw[beq_iff_eq]at hev;have Se:kr 5000003 (il (cx ey (iW k))) uw (uF p)=some (MD e1 e2 e3 e4 (p.floors*3) e6 e7 (um (mW uw) (fI (uF p))) e8):=h5 ▸ hms;have hz:uo (cx ey (iW k)) uw=[]:=rfl;have hb:zv 5000003 (cx ey (iW k)) uw (uF p) (IH k)=!decide (p.floors*3<=k):=by
  have ht:MM 5000003 (cx ey (iW k)) uw (uF p) (IH k)=!decide (p.floors*3<=k):=by
   unfold MM;rw[Se,hz];have SD:vG 5000003 (il (cx ey (iW k))) (MD e1 e2 e3 e4 (p.floors*3) e6 e7 (um (mW uw) (fI (uF p))) e8) [] (j7 (IH k))=_:=hev;simp only[af,SD,Option.getD_some];cases decide (p.floors*3<=k)<;>rfl
  unfold zv;exact ht
 have hap:applied (cx ey (iW k)) uw 0=[IH k]:=rfl;have HE:CR 5000003 (cx ey (iW k)) (uF p)=0:=HF;have SJ:Jx (cx ey (iW k)) (uF p)=false:=hea;show LS 5000003 (cx ey (iW k)) (uF p) 0=_;unfold LS JF;rw[HE,Sf,hap,SJ];unfold K7;simp only[foldl_cons,List.foldl_nil,hb];cases decide (p.floors*3<=k)<;>rfl
theorem agL:(lw.all λp=>C3.contains p.floors)=true:=by kernel_rfl
theorem rH{k:Int}(hk:k∈tW){p:aR}(hp:p∈lw):Sy k p=decide (p.floors*3<=k):=
 ao6 hk hp (by have:=all_eq_true.1 agL p hp;simpa using this)
theorem aeF:(yY 5000003 eK).1=IM:=congrArg Prod.fst aim
theorem aeG:(yY 5000003 eK).2.2=lw:=congrArg Prod.snd aim
theorem Uz{p:aR}:p∈eZ 5000003 eK↔p∈lw:=by rw[(wK 5000003 eK).mem_iff,aeG]
def Wk(x y:aR):Bool:=Na vy IM x y
theorem ant(x:aR):Wk x x=false:=(WA vy IM).irrefl x
theorem agM:List.Pairwise (α:=aR) (λ x y=>Wk y x=false) (eZ 5000003 eK):=by
 have:=MZ (α:=aR) (WA vy (yY 5000003 eK).1) (yY 5000003 eK).2.2;rw[aeF]at this;have e:eZ 5000003 eK=kY (α:=aR) (Na vy IM) (yY 5000003 eK).2.2:=by unfold eZ;rw[aeF]
 rw[e];exact this
theorem JG{q q':aR->Bool}(hq:∀p∈lw,q p=q' p){p0:aR}(h0:(lw.any λp=>D4 p p0)=true)(h1:q' p0=true)(h2:(lw.all λp=>!q' p || (D4 p p0 || Wk p0 p))=true):kI (eZ 5000003 eK) q=(p0,true):=by
 obtain⟨p1,hp1,he⟩:=List.any_eq_true.1 h0;rw[Uy]at he;subst he;have hmem:=Uz.2 hp1;have hs:=agM;have hin:∀p∈eZ 5000003 eK,p∈lw:=λp hp=>Uz.1 hp;generalize eZ 5000003 eK=L at hmem hs hin;rcases abV L q with ⟨p,hf,hr,hp,hqp⟩ |⟨_,hn⟩
 ·have hpr:=hin p hp;rw[hq p hpr]at hqp;have:=all_eq_true.1 h2 p hpr;rw[hqp,Bool.not_true,Bool.false_or,Bool.or_eq_true]at this;rcases this with h |h
  ·rw[Uy]at h;rw[hr,h]
  ·exfalso;obtain⟨_,i,hi,rfl,hbef⟩:=List.find?_eq_some_iff_getElem.1 hf;obtain⟨j,hj,rfl⟩:=List.getElem_of_mem hmem;rcases Nat.lt_trichotomy i j with hij |hij |hij
   ·rw[List.pairwise_iff_getElem]at hs;rw[hs i j hi hj hij]at h;cases h
   ·subst hij;rw[ant]at h;cases h
   ·have:=hbef j hij;rw[hq _ (hin _ hmem),h1]at this;cases this
 ·have:=hn p1 hmem;rw[hq p1 hp1,h1]at this;cases this
theorem Xr{q:aR->Bool}(hq:∀p∈lw,q p=false):kI (eZ 5000003 eK) q=(Xo,false):=IB λp hp=>hq p (Uz.1 hp)
def Sz(k:Int)(p:aR):Bool:=decide (p.floors*3<=k)
theorem anU(a b:Int)(ha:a∈tW)(hb:b∈tW):iV 5000003 ey (iW a) (iW b) 0=some (kI (eZ 5000003 eK) λp=>!(Sy a p==Sy b p)):=aeA IC (Ba a) (Ba b) n42
theorem anu:iV 5000003 ey (iW 6) (iW 9) 0=some (aR.mk 1 0 3 1,true):=by rw[anU 6 9 (by decide) (by decide),JG (q':=λp=>!(Sz 6 p==Sz 9 p)) (p0:=aR.mk 1 0 3 1) (λ p hp=>by rw[rH (by decide) hp,rH (by decide) hp];rfl) (by kernel_rfl) (by kernel_rfl) (by kernel_rfl)]
theorem anv:iV 5000003 ey (iW 6) (iW 7) 0=some (Xo,false):=by
 rw[anU 6 7 (by decide) (by decide),Xr λp hp=>by
  rw[rH (by decide) hp,rH (by decide) hp];have e:decide (p.floors*3<=6)=decide (p.floors*3<=7):=by rw[decide_eq_decide];omega
  rw[e];cases decide (p.floors*3<=7)<;>rfl]
theorem Wg(x a b m:Int):d9 5000003 ey (iW x) (iW a) (iW b) (iW m) 0=some (kI (eZ 5000003 eK) λp=>IA (Sy x p) (Sy a p) (Sy b p) (Sy m p)):=CU IC (Ba x) (Ba a) (Ba b) (Ba m) n42
theorem ajK:d9 5000003 ey (iW 6) (iW 9) (iW 3) (iW 6) 0=some (aR.mk 1 0 2 1,true):=by rw[Wg,JG (q':=λp=>IA (Sz 6 p) (Sz 9 p) (Sz 3 p) (Sz 6 p)) (p0:=aR.mk 1 0 2 1) (λ p hp=>by rw[rH (by decide) hp,rH (by decide) hp,rH (by decide) hp];rfl) (by kernel_rfl) (by kernel_rfl) (by kernel_rfl)]
theorem ajL:d9 5000003 ey (iW 6) (iW 9) (iW 3) (iW 9) 0=some (aR.mk 1 0 2 1,true):=by rw[Wg,JG (q':=λp=>IA (Sz 6 p) (Sz 9 p) (Sz 3 p) (Sz 9 p)) (p0:=aR.mk 1 0 2 1) (λ p hp=>by rw[rH (by decide) hp,rH (by decide) hp,rH (by decide) hp];rfl) (by kernel_rfl) (by kernel_rfl) (by kernel_rfl)]
theorem ajM:d9 5000003 ey (iW 6) (iW 9) (iW 6) (iW 9) 0=some (Xo,false):=by rw[Wg,Xr λp _=>by cases Sy 6 p<;>cases Sy 9 p<;>rfl]
theorem anV(a b:Int):gL 5000003 ey (iW a) (iW b) 0=some (!(kI (eZ 5000003 eK) λp=>Sy a p&&!Sy b p).2):=aeB IC (Ba a) (Ba b) n42
theorem anw:gL 5000003 ey (iW 6) (iW 9) 0=some true:=by
 rw[anV,Xr λp hp=>by
  rw[rH (by decide) hp,rH (by decide) hp];by_cases h:p.floors*3<=6
  ·have h2:p.floors*3<=9:=(by omega);simp[h2]
  ·simp[h]]
 rfl
theorem anx:gL 5000003 ey (iW 9) (iW 6) 0=some false:=by
 rw[anV,JG (q':=λp=>Sz 9 p&&!Sz 6 p) (p0:=aR.mk 1 0 3 1) (λ p hp=>by rw[rH (by decide) hp,rH (by decide) hp];rfl) (by kernel_rfl) (by kernel_rfl) (by kernel_rfl)];rfl
theorem aio:aR.mk 1 0 2 1∈lw:=by
 have:(lw.any λp=>D4 p (aR.mk 1 0 2 1))=true:=by kernel_rfl
 obtain⟨p,hp,he⟩:=List.any_eq_true.1 this;rw[Uy]at he;rw[<- he];exact hp
theorem anW(k:Int)(hk:k∈tW):mO 5000003 ey (iW k) (aR.mk 1 0 2 1) 0=some (decide (6<=k)):=by
 have:=agJ (n:=5000003) (p:=aR.mk 1 0 2 1) (day:=0) IC (Ba k) n42;rw[this];have h1:(xh 5000003 ey.land (aR.mk 1 0 2 1)).2=true:=Xp (Uz.2 aio);have h2:fE 5000003 ey 0 (iW k) (aR.mk 1 0 2 1)=decide (2*3<=k):=rH hk aio;rw[h1,h2];rfl
theorem aoB:∃l,mQ 5000003 ey (iW 6) 0=some l/\l.length=144:=by
 refine⟨_,aeC IC (Ba 6) n42,?_⟩;rw[length_map];show(eZ 5000003 eK).length=144;rw[(wK 5000003 eK).length_eq,aeG];rfl
theorem anz:CB 5000003=some true:=by
 have a1:=anu;have a2:=anv;have a3:=ajK;have a4:=ajL;have a5:=ajM;have a6:=anw;have a7:=anx;have a8:=anW 6 (by decide);have a9:=anW 5 (by decide);obtain⟨l,b1,b2⟩:=aoB;have hs:∀r:ax,sub [r] 0 1=[r]:=λ_=>rfl;have hs2:∀r:bS,sub [r] 0 1=[r]:=λ_=>rfl;simp only[ey,eK]at a1 a2 a3 a4 a5 a6 a7 a8 a9 b1;simp only[CB,anq,af,hs,hs2,length_singleton,aD,aj,a1,a2,a3,a4,a5,a6,a7,a8,a9,b1,b2];rfl
theorem Ql(t:bW)(x a m:bB)(day:Int)(ht:Wr t)(hx:wL x)(ha:wL a)(hm:wL m):mR 5000003 t x a m day=some true:=Oh anz t x a m day ht hx ha hm
mutual
theorem anA:∀g:bZ,(toE g).wt<=jm (qM g)
 |⟨op,n,s,key,args⟩=>by
  have:=Oi args;simp only[toE,ET.wt,qM,jm,nq];omega
theorem Oi:∀l:List bZ,ET.tf (HZ l)<=AB (sP l)
 |[]=>by simp[HZ,ET.tf]
 |x::xs=>by
  have h1:=anA x;have h2:=Oi xs;simp only[HZ,ET.tf,sP,AB];omega
end
theorem JH:∀l:List fB,rh (l.map toD)<=AB (l.map Ea)
 |[]=>by simp[rh]
 |x::xs=>by
  have h1:=JH xs;have h2:=Oi x.en;simp only[rh]at h1;simp only[aF,rh,List.foldr_cons,toD,ET.wt,AB,Ea,jm,nq,<- sQ];omega
theorem ajN(t:bW):rh (t.ci.map toD)<=jm (Jr t):=by
 have:=JH t.ci;simp only[Jr,jm,nq];omega
theorem Oj{r:List Tree}:∀{l:List (List Tree)},r∈l->jm r<=AB l
 |x::l,h=>by
  rw[AB];rcases aN.1 h with rfl |h
  ·omega
  ·have:=Oj h;omega
theorem aaw(r:bV):(toE (j7 r)).wt<=jm (sS r):=by
 have h:=Oi r.fW;rw[sQ]at h;simp only[j7,toE,ET.wt,sS,jm,nq];omega
theorem aax:∀l:List Int,l.length<=AB (l.map λy=>[Tree.sc (.int .i64 y)])
 |[]=>by simp
 |x::l=>by
  have:=aax l;simp only[aF,AB,jm,nq,bI];omega
theorem XN{p:bB}(h:jm (Jo p)<=1048576):wL p:=by
 have hd:=JH p.defs;simp only[Jo,jm,nq]at h;refine⟨by unfold ii;omega,λr hr=>?_⟩;have h1:=aaw r;have h2:=Oj (mem_map.2 ⟨r,hr,rfl⟩:sS r∈p.rules.map sS);omega
theorem aoC{t:bW}(h:jm (Jr t)<=1048576):Wr t:=by
 have hd:=ajN t;have hd2:=JH t.ci;simp only[Jr,jm,nq]at h;refine⟨⟨by show rh (t.ci.map toD)<=_;omega,λr hr=>?_⟩,λl hl=>?_⟩
 ·have h1:=aaw r;have h2:=Oj (mem_map.2 ⟨r,hr,rfl⟩:sS r∈t.bj.map sS);omega
 ·have h1:=aax l.from_;have h2:=Oj (mem_map.2 ⟨l,hl,rfl⟩:KV l∈t.land.map KV);have h3:AB (l.from_.map λy=>[Tree.sc (.int .i64 y)])<=jm (KV l):=by simp only[KV,jm,nq];omega
  omega
theorem Qm(q:HL xx.toSE [.st SI.pN,.st SI.j0,.st SI.j0,.st SI.j0,.int .i64])(hb:xt (HL.np xx.toSE [.st SI.pN,.st SI.j0,.st SI.j0,.st SI.j0,.int .i64] q)<=1048576):∃k,mR k q.1 q.2.1 q.2.2.1 q.2.2.2.1 q.2.2.2.2.1=some true:=by
 have h2:jm (Jr q.1)+(jm (Jo q.2.1)+(jm (Jo q.2.2.1)+(jm (Jo q.2.2.2.1)+(1+0))))<=1048576:=hb;exact⟨5000003,Ql q.1 q.2.1 q.2.2.1 q.2.2.2.1 q.2.2.2.2.1 (aoC (by omega)) (XN (by omega)) (XN (by omega)) (XN (by omega))⟩
end Go.Proofs
