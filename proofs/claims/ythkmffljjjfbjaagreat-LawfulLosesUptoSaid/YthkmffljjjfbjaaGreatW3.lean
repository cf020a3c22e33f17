import Derived.Test.YthkmffljjjfbjaaGreatW2
open List (mem_map all_eq_true cons_append length_map append_nil map_map map_congr_left flatten_cons map_nil all_cons map_take map_drop map_append)
namespace Go.Gb
open Go.RowKit
section
variable {X:SX} {A:Type}
def RJ:RT X.ι->Bool
 | .d c=>uX c
 | .fresh e=>uX e
 | .whole _=>true
 | .mu c=>uX c
 | .mr c=>uX c
 | .mv=>true
theorem ZM{c:CT X.ι}(h:uX c=true)(x:CT.T X.toSE c):(CT.tv X.toSE c x).flat:=by
 cases c
 case st i=>exact sJ h x
 all_goals first |exact trivial |cases h
theorem RL{ns:List Nat}{q:RT X.ι}{x:RT.T X q}(h:RJ q=true):∀c∈Rx ns q x,c.flat:=by
 intro c hc;cases q<;>simp only[Rx,aT,fO]at hc
 case d c=>subst hc;exact ZM h x
 case fresh e=>
  subst hc;intro row hr;obtain⟨y,_,rfl⟩:=mem_map.1 hr;exact sJ h y
 case whole j=>subst hc;exact trivial
theorem Oa{ns:List Nat}:∀{l:List (RT X.ι)}{x:qJ X l},l.all RJ=true->∀c∈za ns l x,c.flat
 |[],x,_,c,hc=>by simp[za]at hc
 |[q],x,h,c,hc=>RL (by simpa using h) c hc
 |q::q'::l,x,h,c,hc=>by
  simp only[all_cons,aJ]at h;simp only[za,aY]at hc;rcases hc with hc |hc
  ·exact RL h.1 c hc
  ·exact Oa (by simp only[all_cons,aJ];exact h.2) c hc
theorem RN{l:List (RT X.ι)}(x:qJ X l)(h:l.all RJ=true):(qP l x).flat:=by
 have:=Oa (ns:=XP l x) (x:=x) h;unfold qP;split
 ·rename_i c hc;exact this c (by rw[hc];simp)
 ·exact this
theorem Ws{q:RT X.ι}{x:RT.T X q}(h:RJ q=true):QM (oO q x):=by
 intro p hp;cases q<;>simp only[oO,aT,fO,ay,reduceCtorEq]at hp
 case mu c=>
  subst hp;intro r hr;obtain⟨y,_,rfl⟩:=mem_map.1 hr;exact sJ h y
 case mr c=>
  subst hp;intro r hr;obtain⟨y,_,rfl⟩:=mem_map.1 hr;exact sJ h y
theorem Wt:∀{l:List (RT X.ι)}{x:qJ X l},l.all RJ=true->QM (mK l x)
 |[],x,_=>λp hp=>by simp[mK]at hp
 |[q],x,h=>Ws (q:=q) (by simpa using h)
 |q::q'::l,x,h=>by
  simp only[all_cons,aJ]at h;intro p hp;rcases aY.1 (show some p∈oO q x.1++mK (q'::l) x.2 from hp)with hp |hp
  ·exact Ws h.1 p hp
  ·exact Wt (l:=q'::l) (by simp only[all_cons,aJ];exact h.2) p hp
def EM(i:Nat)(ae ns:List Nat):(q:RT X.ι)->RT.T X q->List (DV X)×List (Nat×Option (bp X))
 | .d c,x=>([.c c x],[])
 | .fresh e,l=>([.own (cy i) 0 l.length],[(cy i,some (.dp e l))])
 | .whole j,_=>([match ae[j]? with |some k=> .own k 0 (ns.getD j 0) |none=> .undef],[])
 |_,_=>([],[])
def Ic(i:Nat)(ae ns:List Nat):(l:List (RT X.ι))->qJ X l->Option (List (DV X)×List (Nat×Option (bp X)))
 |[],_=>some ([],[])
 |[q],x=>some (EM i ae ns q x)
 |q::q'::l,x=>(Ic i ae ns (q'::l) x.2).bind λp=>if (EM i ae ns q x.1).2.isEmpty || p.2.isEmpty then some ((EM i ae ns q x.1).1++p.1,(EM i ae ns q x.1).2++p.2)else none
def TZ:List (DV X)->DV X
 |[d]=>d
 |ds=> .eE ds
def Bm(i:Nat)(ae:List Nat)(l:List (RT X.ι))(x:qJ X l):Option (DV X×List (Nat×Option (bp X))):=
 (Ic i ae (XP l x) l x).bind λp=>some (TZ p.1,p.2)
theorem XY(u:List (Nat×Option (bp X))):(gW u).isEmpty=u.isEmpty:=by cases u<;>rfl
theorem Wu(i:Nat)(ae ns:List Nat)(q:RT X.ι)(x:RT.T X q):(∃ c,Rx ns q x=[c]/\∃d,(EM i ae ns q x).1=[d]/\GL i ae c=(den d,gW (EM i ae ns q x).2))\/(Rx ns q x=[]/\EM i ae ns q x=([],[])):=by
 cases q
 case d c=>exact .inl ⟨_,rfl,_,rfl,rfl⟩
 case fresh e=>exact .inl ⟨_,rfl,_,rfl,by simp[GL,EM,den,gW,bC,aG]⟩
 case whole j=>
  refine .inl ⟨_,rfl,_,rfl,?_⟩;simp only[GL,gW,EM,map_nil,Prod.mk.injEq,and_true];cases ae[j]?<;>rfl
 all_goals exact .inr ⟨rfl,rfl⟩
theorem ZN(i:Nat)(ae:List Nat)(c:RC):Jw i ae [c]=some ([(GL i ae c).1],(GL i ae c).2):=by simp[Jw]
theorem Wv(i:Nat)(ae ns:List Nat):∀(l:List (RT X.ι))(x:qJ X l)(p:List (DV X)×List (Nat×Option (bp X))),Ic i ae ns l x=some p->Jw i ae (za ns l x)=some (bG p.1,gW p.2)
 |[],_,p,h=>by simp only[Ic,ay]at h;subst h;rfl
 |[q],x,p,h=>by
  simp only[Ic,ay]at h;subst h;simp only[za];rcases Wu i ae ns q x with ⟨c,h1,d,h2,h3⟩ |⟨h1,h2⟩
  ·rw[h1,ZN,h2,h3];simp[bG]
  ·rw[h1,h2];rfl
 |q::q'::l,x,p,h=>by
  simp only[Ic]at h;rw[ah]at h;obtain⟨p',h1,h⟩:=h;have ih:=Wv i ae ns (q'::l) x.2 p' h1;split at h
  ·rename_i hc;cases h;simp only[za];rcases Wu i ae ns q x.1 with ⟨c,h1,d,h2,h3⟩ |⟨h1,h2⟩
   ·rw[h1];simp only[List.singleton_append,Jw,ih,af,h3,XY];rw[bn hc,h2];simp[bG,gW]
   ·rw[h1,h2];simp only[bK];exact ih
  ·cases h
theorem ZO{i:Nat}{ae:List Nat}{l:List (RT X.ι)}{x:qJ X l}{p:DV X×List (Nat×Option (bp X))}(h:Bm i ae l x=some p):imp i ae (qP l x)=some (den p.1,gW p.2):=by
 unfold Bm at h;rw[ah]at h;obtain⟨p',h1,h⟩:=h;cases h;have ih:=Wv i ae _ l x p' h1;unfold qP;split
 ·rename_i c hc;rw[hc,ZN]at ih;simp only[ay,Prod.mk.injEq]at ih;obtain⟨ds,u⟩:=p'
  match ds,ih with
  |[d],ih=>
   simp only[bG,List.cons.injEq,and_true]at ih;simp only[imp,TZ,<- ih.1,<- ih.2]
  |[],ih=>simp[bG]at ih
  |_::_::_,ih=>simp[bG]at ih
 ·rename_i hne;simp only[imp,ih,af];obtain⟨ds,u⟩:=p'
  match ds,ih with
  |[],_=>rfl
  |_::_::_,_=>rfl
  |[d],ih=>
   exfalso;generalize hcs:za (XP l x) l x=cs at ih hne
   match cs,ih,hne with
   |[],ih,_=>simp[Jw,bG]at ih
   |[c],_,hne=>exact hne c rfl
   |c::c'::cs,ih,_=>
    simp only[Jw]at ih;cases h3:Jw i ae cs with
    |none=>rw[h3]at ih;simp at ih
    |some q=>
     rw[h3]at ih;simp only[af]at ih;split at ih
     ·simp only[af]at ih;split at ih
      ·simp[bG]at ih
      ·cases ih
     ·simp at ih
def Hc:(q:RT X.ι)->RT.T X q->List (Option (bp X))
 | .mu c,x=>[some (.dp c x)]
 | .mr c,x=>[some (.cells (CT.sz X c) [oM c x])]
 | .mv,_=>[none]
 |_,_=>[]
def RO:(l:List (RT X.ι))->qJ X l->List (Option (bp X))
 |[],_=>[]
 |[q],x=>Hc q x
 |q::q'::l,x=>Hc q x.1++RO (q'::l) x.2
def EN:List Nat->List (Option (bp X))->List (Nat×Option (bp X))
 |k::ae,p::os=>(k,p)::EN ae os
 |_,_=>[]
theorem ZP(q:RT X.ι)(x:RT.T X q):(Hc q x).map (·.map bC)=(oO q x).map (·.map gc):=by
 cases q<;>try rfl
 case mr c=>simp only[Hc,oO,aF,map_nil,Option.map_some,bC,gc,qd,aG,l7]
theorem Mk:∀(l:List (RT X.ι))(x:qJ X l),(RO l x).map (·.map bC)=(mK l x).map (·.map gc)
 |[],_=>rfl
 |[q],x=>ZP q x
 |q::q'::l,x=>by simp only[RO,mK,map_append,ZP,Mk (q'::l) x.2]
theorem Ww:∀(ae:List Nat)(os:List (Option (bp X)))(os':List (Option dY)),os.map (·.map bC)=os'.map (·.map gc)->gW (EN ae os)=yY ae os'
 |[],_,_,_=>by simp[EN,yY,gW]
 |_::_,[],[],_=>rfl
 |k::ae,p::os,p'::os',h=>by
  simp only[aF,List.cons.injEq]at h;have:=Ww ae os os' h.2;simp only[gW]at this;simp only[EN,yY,gW,aF,h.1,this]
 |_::_,[],_::_,h=>by simp at h
 |_::_,_::_,[],h=>by simp at h
theorem IG:∀{ae:List Nat}{os:List (Option (bp X))}{p:Nat×Option (bp X)},p∈EN ae os->p.1∈ae
 |[],_,_,h=>by simp[EN]at h
 |_::_,[],_,h=>by simp[EN]at h
 |k::ae,q::os,p,h=>by
  simp only[EN,aN]at h;rcases h with rfl |h
  ·simp
  ·exact dV _ (IG h)
def XZ(get:Nat->Option (bp X))(d:DV X)(c:CT X.ι):Option (List (CT.T X.toSE c)×Nat×List Bool):=
 match d with
 | .own k 0 len=>(get k).bind λo=>match o with
  | .dp b l=>(iX (.sl b) (.sl c) l).bind λ(l:List (CT.T X.toSE c))=>some (l,k,[bj len (List.length l)])
  |_=>none
 |_=>none
def RP(get:Nat->Option (bp X))(d:DV X)(c:CT X.ι):Option (CT.T X.toSE c×Nat):=
 match d with
 | .ptr k 0 0=>(get k).bind λo=>match o with
  | .cells sz [row]=>if sz=CT.sz X c then(Ib c row).bind λx=>some (x,k)else none
  |_=>none
 |_=>none
def nN(Γ:FuncId->Option (ca X))(get:Nat->Option (bp X)):List (DV X)->(l:List (AT X.ι))->Option (iw X l×List Nat×List Bool)
 |[],[]=>some ((),[],[])
 |d::ds,.mut c::l=>(XZ get d c).bind λx=>(nN Γ get ds l).bind λh=>some ((x.1,h.1),x.2.1::h.2.1,x.2.2++h.2.2)
 |d::ds,.iu c::l=>(RP get d c).bind λx=>(nN Γ get ds l).bind λh=>some ((x.1,h.1),x.2::h.2.1,h.2.2)
 |d::ds,.d c::l=>(N7 Γ get 3 [d] [.d c]).bind λx=>(nN Γ get ds l).bind λh=>some ((x.1.1,h.1),h.2.1,x.2++h.2.2)
 |d::ds,.ref c::l=>(N7 Γ get 3 [d] [.ref c]).bind λx=>(nN Γ get ds l).bind λh=>some ((x.1.1,h.1),h.2.1,x.2++h.2.2)
 |d::ds,.du as r::l=>(N7 Γ get 3 [d] [.du as r]).bind λx=>(nN Γ get ds l).bind λh=>some ((x.1.1,h.1),h.2.1,x.2++h.2.2)
 |d::ds,.nil::l=>match d with
  | .nil=>(nN Γ get ds l).bind λh=>some (((),h.1),h.2.1,h.2.2)
  |_=>none
 |_,_=>none
def Gi:List (DV X)->List (AT X.ι)->List Nat
 |d::ds,a::l=>(if a.im then []else bo d)++Gi ds l
 |_,_=>[]
def Ml(get:Nat->Option (bp X)):List (DV X)->(l:List (CT X.ι))->Option (HL X.toSE l×List Bool)
 |[],[]=>some ((),[])
 |d::ds,c::l=>(Da get d c).bind λx=>(Ml get ds l).bind λh=>some ((x.1,h.1),x.2++h.2)
 |_,_=>none
variable (Γ:FuncId->Option (ca X))
def N4(i:Nat)(f:DV X)(args:List (DV X))(get:Nat->Option (bp X))(k:KK X A):Option A:=
 match f with
 | .fn F first caps=>(Γ F).bind λs=>match s.gen.filter λg=>(p6 get g.ox (first++args++caps) ⟨[],[],[],[]⟩).isSome with
  |some g=>Pa g i (first++args++caps) get k
  |none=>if (s.args.all (λ q=>q.pl)&&s.res.all (λ q=>!q.out))=true then(N7 Γ get 3 (first++args++caps) s.args).bind λa=>Rk a.2 ((s.fn a.1).bind λx=>(Bm i [] s.res x).bind λp=>
   if s.res.all RJ then k p.1 p.2 (aQ (first++args++caps)) []
   else k p.1 (p.2++JP (aQ (first++args++caps))) (aQ (first++args++caps)) (aQ (first++args++caps)))
  else(nN Γ get (first++args++caps) s.args).bind λa=>Rk a.2.2 ((s.fn a.1).bind λx=>(Bm i a.2.1 s.res x).bind λp=>
   if (decide a.2.1.Nodup&&(Gi (first++args++caps) s.args).all (λ j=>!a.2.1.contains j)&&decide ((RO s.res x).length=a.2.1.length))=true then
    if s.res.all RJ then k p.1 (p.2++EN a.2.1 (RO s.res x)) (aQ (first++args++caps)) a.2.1
    else k p.1 (p.2++(EN a.2.1 (RO s.res x)++JP ((aQ (first++args++caps)).filter λj=>!a.2.1.contains j))) (aQ (first++args++caps)) (a.2.1++(aQ (first++args++caps)).filter λj=>!a.2.1.contains j)
   else none)
 | .du as q φ=>(Ml get args as).bind λh=>Rk h.2 ((φ h.1).bind λy=>
  if uX q then k (.c q y) [] (aQ args) []else k (.c q y) (JP (aQ args)) (aQ args) (aQ args))
 |_=>none
def TX(T:ea)(t:TypeId)(x y:DV X)(get:Nat->Option (bp X))(k:KK X A):Option A:=
 (T t).bind λti=>match x,y with
 | .oB kk n aa,.own q 0 len=>(get kk).bind λo=>match o with
  | .dp c l=>(bz l n).bind λ_=>if ti.size=1/\aa+1<=CT.sz X c then k .undef [(kk,some (.hole c l n aa q len))] [kk] [kk]else none
  |_=>none
 |_,_=>none
def ajv(fz:List Nat)(i:Nat):Op->Bool
 | .store _ _ _=>fz.contains (i+1000)
 |_=>false
def N3(T:ea)(o:Op)(ρ:Operand->DV X)(get:Nat->Option (bp X))(k:KK X A):Option A:=
 match o with
 | .store t a x=>TX T t (ρ a) (ρ x) get k
 |_=>none
def z7(fz:List Nat)(T:ea)(am:TypeId->Option (CT X.ι))(i:Nat)(o:Op)(ρ:Operand->DV X)(get:Nat->Option (bp X))(k:KK X A):Option A:=
 match o with
 | .call { callee:= .value f,args:=args,argTypes:=_ }=>N4 Γ i (ρ f) (args.toList.map ρ) get k
 |o=>if ajv fz i o then N3 T o ρ get k else if aj2 o ρ then MM T am i o ρ get k else if aj3 o ρ || fz.contains i then MD T am i o ρ get k else if aj4 T o ρ then Mz T am o ρ get k else GT T am i o ρ get k
variable {Γ}
theorem JS{P:Program}{get:Nat->Option (bp X)}{rd:List Nat}:∀{ds:List (DV X)}{l:List (CT X.ι)}{h:HL X.toSE l×List Bool},Ml get ds l=some h->(∀ b∈h.2,b=true)->(∀ j∈aQ ds,j∈rd)->
 ∃hs obs,(∀ p∈obs,p)/\∀ag,lF P (dw rd (eU get)) (bG ds) (hs++ag)=some ((HL.l4 X.toSE l h.1).map TV.av,ag,obs)
 |[],[],h,_,_,_=>⟨[],[],by simp,λag=>rfl⟩
 |d::ds,c::l,h,hr,hc,hrd=>by
  simp only[Ml]at hr;have⟨x,h1,hr⟩:=ah.1 hr;have⟨g,h2,hr⟩:=ah.1 hr;cases hr;obtain⟨hs1,o1,p1,q1⟩:=yc (P:=P) (rd:=rd) h1 (λ b hb=>hc b (by simp[hb])) (λ j hj=>hrd j (by simp[aQ,hj]));obtain⟨hs2,o2,p2,q2⟩:=JS (P:=P) (rd:=rd) h2 (λ b hb=>hc b (by simp[hb])) (λ j hj=>hrd j (by simp[aQ,hj]));refine⟨hs1++hs2,o1++o2,gu p1 p2,λag=>?_⟩;simp only[bG,lF,aM,q1,af,q2];rfl
 |[],_::_,_,hr,_,_=>by simp[Ml]at hr
 |_::_,[],_,hr,_,_=>by simp[Ml]at hr
theorem RQ{i:Nat}{ae ns:List Nat}{q:RT X.ι}{x:RT.T X q}:∀p∈(EM i ae ns q x).2,p.1=cy i:=by cases q<;>simp[EM]
theorem RS{i:Nat}{ae ns:List Nat}:∀{l:List (RT X.ι)}{x:qJ X l}{p:List (DV X)×List (Nat×Option (bp X))},Ic i ae ns l x=some p->∀q∈p.2,q.1=cy i
 |[],_,p,h=>by simp only[Ic,ay]at h;subst h;simp
 |[q],x,p,h=>by simp only[Ic,ay]at h;subst h;exact RQ
 |q::q'::l,x,p,h=>by
  simp only[Ic]at h;have⟨p',h1,h⟩:=ah.1 h;split at h
  ·cases h;intro z hz;rcases aY.1 hz with hz |hz
   ·exact RQ z hz
   ·exact RS h1 z hz
  ·cases h
theorem Wx{i:Nat}{ae:List Nat}{l:List (RT X.ι)}{x:qJ X l}{p:DV X×List (Nat×Option (bp X))}(h:Bm i ae l x=some p):∀q∈p.2,q.1=cy i:=by
 unfold Bm at h;have⟨p',h1,h⟩:=ah.1 h;cases h;exact RS h1
theorem EO{P:Program}{get:Nat->Option aS}{x:AV}{hs ag:List LH}{y:AV}{o:List Prop}(h:lF P get [x] hs=some ([y],ag,o)):mI P get x hs=some (y,ag,o):=by
 simp only[lF,af,append_nil,ah,ay,Prod.mk.injEq,List.cons.injEq,and_true]at h;obtain⟨q,h1,h2,h3,h4⟩:=h;rw[h1,<- h2,<- h3,<- h4]
theorem kE{d:DV X}{ds:List (DV X)}{a:AT X.ι}{l:List (AT X.ι)}{P:Nat->Prop}(h:∀j∈Gi (d::ds) (a::l),P j):(a.im=false->∀j∈bo d,P j)/\∀j∈Gi ds l,P j:=by
 simp only[Gi,aY]at h;exact⟨λ e j hj=>h j (.inl (by rw[e];simpa using hj)),λj hj=>h j (.inr hj)⟩
theorem ajw{c:CT X.ι}{l:List (CT.T X.toSE c)}:dM ((aG (l.map (CT.row X.toSE c))).take (l.map (CT.row X.toSE c)).length)=aG (l.map (CT.row X.toSE c)):=by
 rw[List.take_of_length_le (by simp[aG])];simp only[dM,aG,map_map];exact map_congr_left λy _=>by
  simp only[Function.comp,map_map];exact map_congr_left λz _=>rfl
theorem U5{get:Nat->Option (bp X)}{d:DV X}{c:CT X.ι}{x:List (CT.T X.toSE c)×Nat×List Bool}(h:XZ get d c=some x)(hc:∀b∈x.2.2,b=true):
 d= .own x.2.1 0 (List.length x.1)/\∃o,get x.2.1=some o/\(bC o).sz=(qd c x.1).1/\dM ((bC o).rows.take (qd c x.1).2.length)=aG (qd c x.1).2:=by
 unfold XZ at h;split at h
 ·rename_i k len;rw[ah]at h;obtain⟨o,h1,h⟩:=h;split at h
  ·rename_i b l;rw[ah]at h;obtain⟨l',h2,h⟩:=h;cases h;have⟨h3,h4⟩:=iL h2;have h5:len=List.length l':=(by simpa[bj]using hc (bj len (List.length l')) (by simp));refine⟨by rw[h5],.dp b l,h1,by simp only[bC,qd];exact h3,?_⟩;simp only[bC,qd,h4];exact ajw
  ·cases h
 ·cases h
theorem RU{get:Nat->Option (bp X)}{d:DV X}{c:CT X.ι}{x:CT.T X.toSE c×Nat}(h:RP get d c=some x):
 d= .ptr x.2 0 0/\∃o,get x.2=some o/\(bC o).sz=(qd c [x.1]).1/\dM ((bC o).rows.take (qd c [x.1]).2.length)=aG (qd c [x.1]).2:=by
 unfold RP at h;split at h
 ·rename_i k;rw[ah]at h;obtain⟨o,h1,h⟩:=h;split at h
  ·rename_i sz row;split at h
   ·rename_i hsz;have⟨y,h2,h⟩:=ah.1 h;cases h;refine⟨rfl,_,h1,by simp only[bC,qd];exact hsz,?_⟩;simp only[bC,qd,aF,map_nil,List.length_singleton,List.take_succ_cons,List.take_zero,dM,aG];rw[sI h2]
   ·cases h
  ·cases h
 ·cases h
theorem l8{P:Program}{Γ:FuncId->Option (ca X)}(hΓ:qu P Γ){get:Nat->Option (bp X)}{rd ae:List Nat}:∀{n:Nat}{ds:List (DV X)}{l:List (AT X.ι)}{a:iw X l×List Nat×List Bool},nN Γ get ds l=some a->(∀ b∈a.2.2,b=true)->(∀ j∈aQ ds,j∈rd)->(∀ j∈Gi ds l,j∉ae)->ae.drop n=a.2.1->
 (∃ hs obs,(∀ p∈obs,p)/\∀ag,kU P (dw rd (eU get)) ae (bG ds) (hs++ag)=some (dh n l a.1,ag,obs))/\∃mo,yX (dw rd (eU get)) a.2.1 (oN l a.1)=some mo/\∀p∈mo,p
 |n,[],[],a,h,_,_,_,_=>by
  simp only[nN,ay]at h;subst h;exact⟨⟨[],[],by simp,λag=>rfl⟩,[],rfl,by simp⟩
 |n,d::ds,.mut c::l,a,h,hc,hrd,hnr,hid=>by
  simp only[nN]at h;have⟨x,h1,h⟩:=ah.1 h;have⟨q,h2,h⟩:=ah.1 h;cases h;obtain⟨rfl,o,g1,g2,g3⟩:=U5 h1 (λ b hb=>hc b (by simp[hb]));have xr:ae[n]? =some x.2.1:=by rw[<- List.head?_drop,hid];rfl
  have xt:ae.drop (n+1)=q.2.1:=by rw[<- List.tail_drop,hid];rfl
  obtain⟨⟨hs,obs,p1,p2⟩,mo,m1,m2⟩:=l8 hΓ (n:=n+1) h2 (λ b hb=>hc b (by simp[hb])) (λ j hj=>hrd j (by simp[aQ,hj])) (kE hnr).2 xt;refine⟨⟨.mut n::hs,obs,p1,λag=>?_⟩,((bC o).sz=(qd c x.1).1/\dM ((bC o).rows.take (qd c x.1).2.length)=aG (qd c x.1).2)::mo,?_,?_⟩
  ·simp only[bG,den,kU,cons_append,nL,xr,if_true,af,p2,dh,bK]
  ·simp only[oN,yX,dP (hrd x.2.1 (by simp[aQ,bo])) g1,af,m1]
  ·intro p hp;rcases aN.1 hp with rfl |hp
   ·exact⟨g2,g3⟩
   ·exact m2 p hp
 |n,d::ds,.iu c::l,a,h,hc,hrd,hnr,hid=>by
  simp only[nN]at h;have⟨x,h1,h⟩:=ah.1 h;have⟨q,h2,h⟩:=ah.1 h;cases h;obtain⟨rfl,o,g1,g2,g3⟩:=RU h1;have xr:ae[n]? =some x.2:=by rw[<- List.head?_drop,hid];rfl
  have xt:ae.drop (n+1)=q.2.1:=by rw[<- List.tail_drop,hid];rfl
  obtain⟨⟨hs,obs,p1,p2⟩,mo,m1,m2⟩:=l8 hΓ (n:=n+1) h2 (λ b hb=>hc b (by simp[hb])) (λ j hj=>hrd j (by simp[aQ,hj])) (kE hnr).2 xt;refine⟨⟨.mut n::hs,obs,p1,λag=>?_⟩,((bC o).sz=(qd c [x.1]).1/\dM ((bC o).rows.take (qd c [x.1]).2.length)=aG (qd c [x.1]).2)::mo,?_,?_⟩
  ·simp only[bG,den,kU,cons_append,nL,xr,if_true,af,p2,dh,bK]
  ·simp only[oN,yX,dP (hrd x.2 (by simp[aQ,bo])) g1,af,m1]
  ·intro p hp;rcases aN.1 hp with rfl |hp
   ·exact⟨g2,g3⟩
   ·exact m2 p hp
 |n,d::ds,.d c::l,a,h,hc,hrd,hnr,hid=>by
  simp only[nN]at h;have⟨x,h1,h⟩:=ah.1 h;have⟨q,h2,h⟩:=ah.1 h;cases h;obtain⟨hs1,o1,p1,q1⟩:=qm (P:=P) hΓ 3 (n:=n) h1 (λ b hb=>hc b (by simp[hb])) (rd:=rd) (λ j hj=>hrd j (by simp only[aQ,append_nil]at hj;simp[aQ,hj]));obtain⟨⟨hs,obs,p2,q2⟩,mo,m1,m2⟩:=l8 hΓ (n:=n) h2 (λ b hb=>hc b (by simp[hb])) (λ j hj=>hrd j (by simp[aQ,hj])) (kE hnr).2 hid;refine⟨⟨U4 (den d) hs1++hs,o1++obs,gu p1 p2,λag=>?_⟩,mo,m1,m2⟩;have:=vS (EO (q1 (hs++ag))) (λ k hk=>(kE hnr).1 rfl k (by rwa [ic]at hk));rw[JQ]at this;simp only[bG,kU,aM,this,af,q2,dh]
 |n,d::ds,.ref c::l,a,h,hc,hrd,hnr,hid=>by
  simp only[nN]at h;have⟨x,h1,h⟩:=ah.1 h;have⟨q,h2,h⟩:=ah.1 h;cases h;obtain⟨hs1,o1,p1,q1⟩:=qm (P:=P) hΓ 3 (n:=n) h1 (λ b hb=>hc b (by simp[hb])) (rd:=rd) (λ j hj=>hrd j (by simp only[aQ,append_nil]at hj;simp[aQ,hj]));obtain⟨⟨hs,obs,p2,q2⟩,mo,m1,m2⟩:=l8 hΓ (n:=n) h2 (λ b hb=>hc b (by simp[hb])) (λ j hj=>hrd j (by simp[aQ,hj])) (kE hnr).2 hid;refine⟨⟨U4 (den d) hs1++hs,o1++obs,gu p1 p2,λag=>?_⟩,mo,m1,m2⟩;have:=vS (EO (q1 (hs++ag))) (λ k hk=>(kE hnr).1 rfl k (by rwa [ic]at hk));rw[JQ]at this;simp only[bG,kU,aM,this,af,q2,dh]
 |n,d::ds,.du as r::l,a,h,hc,hrd,hnr,hid=>by
  simp only[nN]at h;have⟨x,h1,h⟩:=ah.1 h;have⟨q,h2,h⟩:=ah.1 h;cases h;obtain⟨hs1,o1,p1,q1⟩:=qm (P:=P) hΓ 3 (n:=n) h1 (λ b hb=>hc b (by simp[hb])) (rd:=rd) (λ j hj=>hrd j (by simp only[aQ,append_nil]at hj;simp[aQ,hj]));obtain⟨⟨hs,obs,p2,q2⟩,mo,m1,m2⟩:=l8 hΓ (n:=n) h2 (λ b hb=>hc b (by simp[hb])) (λ j hj=>hrd j (by simp[aQ,hj])) (kE hnr).2 hid;refine⟨⟨U4 (den d) hs1++hs,o1++obs,gu p1 p2,λag=>?_⟩,mo,m1,m2⟩;have:=vS (EO (q1 (hs++ag))) (λ k hk=>(kE hnr).1 rfl k (by rwa [ic]at hk));rw[JQ]at this;simp only[bG,kU,aM,this,af,q2,dh]
 |n,d::ds,.nil::l,a,h,hc,hrd,hnr,hid=>by
  simp only[nN]at h;split at h
  ·have⟨q,h2,h⟩:=ah.1 h;cases h;obtain⟨⟨hs,obs,p2,q2⟩,mo,m1,m2⟩:=l8 hΓ (n:=n) h2 hc (λ j hj=>hrd j (by simp[aQ,hj])) (kE hnr).2 hid;refine⟨⟨.nil::hs,obs,p2,λag=>?_⟩,mo,m1,m2⟩;have:=vS (P:=P) (get':=dw rd (eU get)) (ae:=ae) (x:= .cL) (hs:= .nil::(hs++ag)) (p:=(.cL,hs++ag,[])) rfl (λ k hk=>by simp[refs]at hk);simp only[U4]at this;simp only[bG,den,kU,cons_append,this,af,q2,dh,bK]
  ·cases h
 |_,[],_::_,_,h,_,_,_,_=>by simp[nN]at h
 |_,_::_,[],_,h,_,_,_,_=>by simp[nN]at h
theorem ZQ{P:Program}(hΓ:qu P Γ){i:Nat}{f:DV X}{args:List (DV X)}{get:Nat->Option (bp X)}{k:KK X A}{r:A}(h:N4 Γ i f args get k=some r):
 ∃co rd wr dv upd ab,jK P i (den f) (bG args) co (dw rd (eU get))=some ab/\jJ ab.obs/\ab.v=den dv/\ab.upd=gW upd/\(∀ p∈upd,p.1=cy i\/p.1∈wr)/\k dv upd rd wr=some r:=by
 unfold N4 at h;split at h
 ·rename_i F first caps
  rw[ah]at h;obtain⟨s,h1,h⟩:=h;split at h
  ·rename_i g hgen;exact XW ((hΓ F s h1).2.2 g (Option.filter_eq_some_iff.1 hgen).1) h
  split at h
  ·rename_i hpure;rw[ah]at h;obtain⟨⟨a,cs⟩,h2,h⟩:=h;have⟨hcs,h⟩:=oh h;rw[ah]at h;obtain⟨x,h3,h⟩:=h;rw[ah]at h;obtain⟨p,h4,h⟩:=h;have hf0:=(hΓ F s h1).2.1 a x h3;simp only[aJ]at hpure;rw[wC (ajZ hpure.1),ZA hpure.2]at hf0;have hf:=Ra hf0;have hi:=ZO h4;have hk:=Wx h4;obtain⟨hs,obs,g1,g2⟩:=qm (P:=P) hΓ 3 h2 hcs (rd:=aQ (first++args++caps)) (λ j hj=>hj);have g3:=g2 [];rw[append_nil,gQ,gQ]at g3;have hrefs:dU (bG first++bG args++bG caps)=aQ (first++args++caps):=(by rw[<- gQ,<- gQ,gI]);split at h
   ·rename_i hfl;refine⟨.call hs (qP s.res x) true,_,[],p.1,p.2,⟨den p.1,gW p.2,obs++[rm P F (wB s.args a) (qP s.res x),(qP s.res x).flat]⟩,?_,?_,rfl,rfl,λq hq=> .inl (hk q hq),h⟩
    ·simp only[den,jK,nM,uZ,hi,af,g3];rfl
    ·exact pM _ (gu g1 (by
      intro q hq;simp only[aN,fO,or_false]at hq;rcases hq with rfl |rfl
      ·exact hf
      ·exact RN x hfl))
   ·refine⟨.call hs (qP s.res x) false,_,_,p.1,_,⟨den p.1,gW p.2++(aQ (first++args++caps)).map (λ k=>(k,none)),obs++[rm P F (wB s.args a) (qP s.res x)]⟩,?_,?_,rfl,?_,?_,h⟩
    ·simp only[den,jK,nM,uZ,hi,af,g3,hrefs];rfl
    ·exact pM _ (gu g1 (by
      intro q hq;simp only[aT]at hq;subst hq;exact hf))
    ·simp only[qo,Aj]
    ·intro q hq;rcases aY.1 hq with hq |hq
     ·exact .inl (hk q hq)
     ·exact .inr (Gg hq)
  ·rename_i hpure;rw[ah]at h;obtain⟨⟨a,ae,cs⟩,h2,h⟩:=h;have⟨hcs,h⟩:=oh h;rw[ah]at h;obtain⟨x,h3,h⟩:=h;rw[ah]at h;obtain⟨p,h4,h⟩:=h;split at h
   ·rename_i hc;simp only[aJ,aR]at hc;obtain⟨⟨hnd,hnr⟩,hlen⟩:=hc;have hf:=(hΓ F s h1).2.1 a x h3;have hi:=ZO h4;have hk:=Wx h4;obtain⟨⟨hs,obs,g1,g2⟩,mo,m1,m2⟩:=l8 (P:=P) hΓ (rd:=aQ (first++args++caps)) (ae:=ae) (n:=0) h2 hcs (λ j hj=>hj) (λ j hj=>by simpa using all_eq_true.1 hnr j hj) rfl;have g3:=g2 [];rw[append_nil,gQ,gQ]at g3;have hrefs:dU (bG first++bG args++bG caps)=aQ (first++args++caps):=(by rw[<- gQ,<- gQ,gI]);have hlen':(mK s.res x).length=ae.length:=by
     rw[<- hlen];simpa using (congrArg List.length (Mk s.res x)).symm
    have hout:gW (EN ae (RO s.res x))=yY ae (mK s.res x):=Ww _ _ _ (Mk s.res x);split at h
    ·rename_i hfl;refine⟨.sk ae (oN s.args a) (mK s.res x) hs (qP s.res x) true,_,ae,p.1,_,⟨den p.1,gW p.2++yY ae (mK s.res x),obs++mo++[py P F (wB s.args a) (oN s.args a) (mK s.res x) (qP s.res x),(qP s.res x).flat,QM (mK s.res x)]⟩,?_,?_,rfl,?_,?_,h⟩
     ·simp only[den,jK,nM,EB,hi,af,m1,g3];rw[bn ⟨hnd,hlen'⟩];rfl
     ·refine pM _ (gu (gu g1 m2) ?_);intro q hq;simp only[aN,fO,or_false]at hq;rcases hq with rfl |rfl |rfl
      ·exact hf
      ·exact RN x hfl
      ·exact Wt hfl
     ·simp only[qo,hout]
     ·intro q hq;rcases aY.1 hq with hq |hq
      ·exact .inl (hk q hq)
      ·exact .inr (IG hq)
    ·refine⟨.sk ae (oN s.args a) (mK s.res x) hs (qP s.res x) false,_,_,p.1,_,⟨den p.1,gW p.2++(yY ae (mK s.res x)++((aQ (first++args++caps)).filter λj=>!ae.contains j).map (λ k=>(k,none))),obs++mo++[py P F (wB s.args a) (oN s.args a) (mK s.res x) (qP s.res x)]⟩,?_,?_,rfl,?_,?_,h⟩
     ·simp only[den,jK,nM,EB,hi,af,m1,g3,EA,hrefs];rw[bn ⟨hnd,hlen'⟩];rfl
     ·refine pM _ (gu (gu g1 m2) ?_);intro q hq;simp only[aT]at hq;subst hq;exact hf
     ·simp only[qo,hout,Aj]
     ·intro q hq;rcases aY.1 hq with hq |hq
      ·exact .inl (hk q hq)
      ·rcases aY.1 hq with hq |hq
       ·exact .inr (List.mem_append_left _ (IG hq))
       ·exact .inr (List.mem_append_right _ (Gg hq))
   ·cases h
 ·rename_i as q φ;rw[ah]at h;obtain⟨⟨hh,cs⟩,h1,h⟩:=h;have⟨hcs,h⟩:=oh h;rw[ah]at h;obtain⟨y,h2,h⟩:=h;obtain⟨hs,obs,g1,g2⟩:=JS (P:=P) h1 hcs (rd:=aQ args) (λ j hj=>hj);have g3:=g2 [];rw[append_nil]at g3;have hφ:∃h' x',φ h'=some x'/\HL.l4 X.toSE as hh=HL.l4 X.toSE as h'/\CT.tv X.toSE q y=CT.tv X.toSE q x':=⟨hh,y,h2,rfl,rfl⟩;split at h
  ·rename_i hfl;refine⟨.zv hs (HL.l4 X.toSE as hh) (CT.tv X.toSE q y) true,_,[],.c q y,[],⟨(CT.tv X.toSE q y).av,[],obs++[(HL.l4 X.toSE as hh).map TV.av=(HL.l4 X.toSE as hh).map TV.av,(∃ h' x',φ h'=some x'/\HL.l4 X.toSE as hh=HL.l4 X.toSE as h'/\CT.tv X.toSE q y=CT.tv X.toSE q x'),(CT.tv X.toSE q y).flat]⟩,?_,?_,rfl,rfl,by simp,h⟩
   ·simp only[den,jK,nM,uZ,g3,af];rfl
   ·exact pM _ (gu g1 (by
     intro z hz;simp only[aN,fO,or_false]at hz;rcases hz with rfl |rfl |rfl
     ·trivial
     ·exact hφ
     ·exact ZM hfl y))
  ·refine⟨.zv hs (HL.l4 X.toSE as hh) (CT.tv X.toSE q y) false,_,_,.c q y,_,⟨(CT.tv X.toSE q y).av,(aQ args).map (λ k=>(k,none)),obs++[(HL.l4 X.toSE as hh).map TV.av=(HL.l4 X.toSE as hh).map TV.av,(∃ h' x',φ h'=some x'/\HL.l4 X.toSE as hh=HL.l4 X.toSE as h'/\CT.tv X.toSE q y=CT.tv X.toSE q x')]⟩,?_,?_,rfl,(Aj _).symm,λz hz=> .inr (Gg hz),h⟩
   ·simp only[den,jK,nM,uZ,g3,af,gI];rfl
   ·exact pM _ (gu g1 (by
     intro z hz;simp only[aN,fO,or_false]at hz;rcases hz with rfl |rfl
     ·trivial
     ·exact hφ))
 ·cases h
theorem acs{P:Program}{T:ea}{i:Nat}{o:Oper}{ρ:Operand->DV X}{get:Nat->Option (bp X)}{k:KK X A}{r:A}(h:N3 T o.op ρ get k=some r):de P T i o ρ get k r:=by
 unfold N3 at h;split at h
 ·rename_i t a x ho;unfold TX at h;rw[ah]at h;obtain⟨ti,h1,h⟩:=h;split at h
  ·rename_i kk n aa q len hx hy;rw[ah]at h;obtain⟨o2,h2,h⟩:=h;split at h
   ·rename_i c l;rw[ah]at h;obtain⟨z,h3,h⟩:=h;split at h
    ·rename_i hc;have⟨_,h6⟩:=xY h3;have hr:(aG (l.map (CT.row X.toSE c)))[n.toNat]? =some ((CT.row X.toSE c z).map AV.t):=(by simp[aG,h6]);refine de.op (co:= .none) (rd:=[kk]) (wr:=[kk]) (dv:= .undef) (upd:=[(kk,some (.hole c l n aa q len))]) (ab:=⟨.undef,[(kk,some ⟨CT.sz X c,(aG (l.map (CT.row X.toSE c))).set n.toNat (put' ((CT.row X.toSE c z).map AV.t) aa [.own q 0 len])⟩)],[]⟩) (by rw[ho];simp) ?_ ⟨trivial,rfl,?_,by simp,h⟩
     ·unfold nK;rw[ho];simp only[hx,hy,den,LF,h1,af,cellsOf,List.length_singleton];rw[bn hc.1.symm];simp only[dP (List.mem_singleton_self kk) h2,af,bC,hr];rw[bn (by rw[length_map,BD];exact hc.2)]
     ·simp only[gW,aF,map_nil,Option.map_some,bC,uW,List.getD_eq_getElem?_getD,hr,Option.getD_some]
    ·cases h
   ·cases h
  ·cases h
 ·cases h
theorem acu{P:Program}(hΓ:qu P Γ){fz:List Nat}{T:ea}{am:TypeId->Option (CT X.ι)}{i:Nat}{o:Oper}{ρ:Operand->DV X}{get:Nat->Option (bp X)}{k:KK X A}{r:A}(h:z7 Γ fz T am i o.op ρ get k=some r):de P T i o ρ get k r:=by
 obtain⟨dst,op,ty,ao,after,guard⟩:=o;unfold z7 at h;simp only at h;split at h
 ·rename_i f args cW;have:=ZQ hΓ h;simp only[<- Qf]at this;obtain⟨co,rd,wr,dv,upd,ab,g1,g2⟩:=this;exact .call g1 g2
 ·split at h
  ·exact acs (o:=⟨dst,op,ty,ao,after,guard⟩) h
  split at h
  ·exact acj (o:=⟨dst,op,ty,ao,after,guard⟩) h
  ·split at h
   ·exact ack (o:=⟨dst,op,ty,ao,after,guard⟩) h
   ·split at h
    ·exact acn (o:=⟨dst,op,ty,ao,after,guard⟩) h
    ·rename_i hne _ _ _ _;have⟨co,rd,wr,dv,upd,ab,g1,g2⟩:=Wh (o:=⟨dst,op,ty,ao,after,guard⟩) h;exact de.op (λ f args cW e=>hne f args cW e) g1 g2
end
def j8(x y:AV):Prop:=∀P β w I v,VR P β w I x v->VR P β w I y v
theorem j8.refl(x:AV):j8 x x:=λ_ _ _ _ _ h=>h
theorem j8.undef(x:AV):j8 x .undef:=λ_ _ _ _ _ _=>by simp[VR]
theorem j8.wk(x:AV):j8 x (wk x):=λ_ _ _ _ _ h=>h.wk
section
variable {P:Program} {w0:World} {O0:js} {N:Nat} {β:Nat->Option cA} {I:Nat->Prop} {a:Act} {w:World} {f g:Nat->Nat} {D:Nat->Prop}
mutual
theorem VR.rn(hgf:∀k,D k->g (f k)=k):∀(x:AV)(v:Value),(∀ k∈refs x,D k)->VR P β w I x v->VR P (λ j=>β (g j)) w I (eW f x) v
 | .own k aa len,v,hd,h=>by simp only[eW,VR,hgf k (hd k (by simp[refs]))]at h ⊢;exact h
 | .ptr k row aa,v,hd,h=>by simp only[eW,VR,hgf k (hd k (by simp[refs]))]at h ⊢;exact h
 | .agg cs,v,hd,h=>by
  simp only[eW,VR]at h ⊢;obtain⟨vs,h1,h2⟩:=h;exact⟨vs,h1,be.rn hgf cs _ (by simpa[refs]using hd) h2⟩
 | .eE cs,v,hd,h=>by
  simp only[eW,VR]at h ⊢;obtain⟨vs,h1,h2⟩:=h;exact⟨vs,h1,be.rn hgf cs _ (by simpa[refs]using hd) h2⟩
 | .fn F first caps,v,hd,h=>by
  simp only[eW,VR]at h ⊢;obtain⟨fs,cs,h1,h2,h3⟩:=h;exact⟨fs,cs,h1,be.rn hgf first _ (λ k hk=>hd k (by simp[refs,hk])) h2,be.rn hgf caps _ (λ k hk=>hd k (by simp[refs,hk])) h3⟩
 | .t x,v,_,h=>by simpa[eW,VR]using h
 | .ef r o,v,_,h=>by simpa[eW,VR]using h
 | .du φ,v,_,h=>by simpa[eW,VR]using h
 | .mp k,v,hd,h=>by simp only[eW,VR,hgf k (hd k (by simp[refs]))]at h ⊢;exact h
 | .oz k len,v,hd,h=>by simp only[eW,VR,hgf k (hd k (by simp[refs]))]at h ⊢;exact h
 | .cL,v,_,h=>by simpa[eW,VR]using h
 | .ub,v,_,h=>by simpa[eW,VR]using h
 | .undef,v,_,h=>by simp[eW,VR]
theorem be.rn(hgf:∀k,D k->g (f k)=k):∀(xs:List AV)(vs:List Value),(∀ k∈dU xs,D k)->be P β w I xs vs->be P (λ j=>β (g j)) w I (uK f xs) vs
 |[],[],_,_=>by simp[uK,be]
 |x::xs,v::vs,hd,h=>by
  simp only[be]at h;simp only[uK,be];exact⟨VR.rn hgf x v (λ k hk=>hd k (by simp[dU,hk])) h.1,be.rn hgf xs vs (λ k hk=>hd k (by simp[dU,hk])) h.2⟩
 |[],_::_,_,h=>by simp[be]at h
 |_::_,[],_,h=>by simp[be]at h
end
def gO(D:Nat->Prop)(f:Nat->Nat):List AV->List AV->Prop
 |[],[]=>True
 |x::xs,y::ys=>((∀ k∈refs x,D k)/\j8 (eW f x) y)/\gO D f xs ys
 |_,_=>False
def fg(D:Nat->Prop)(f:Nat->Nat):List (List AV)->List (List AV)->Prop
 |[],[]=>True
 |r::rs,q::qs=>gO D f r q/\fg D f rs qs
 |_,_=>False
theorem gO.length:∀{r q:List AV},gO D f r q->q.length=r.length
 |[],[],_=>rfl
 |_::xs,_::ys,h=>by simp[gO.length h.2]
 |[],_::_,h=>h.elim
 |_::_,[],h=>h.elim
theorem cM.re(hgf:∀k,D k->g (f k)=k):∀{r q:List AV}{c:Array Value}{aa:Nat},gO D f r q->cM P β w I r c aa->cM P (λ j=>β (g j)) w I q c aa
 |[],[],_,_,_,_=>trivial
 |x::xs,y::ys,c,aa,hr,⟨⟨v,h1,h2,h3⟩,h4⟩=>⟨⟨v,h1,hr.1.2 _ _ _ _ _ (VR.rn hgf x v hr.1.1 h2),h3⟩,cM.re hgf hr.2 h4⟩
 |[],_::_,_,_,h,_=>h.elim
 |_::_,[],_,_,h,_=>h.elim
theorem br.re(hgf:∀k,D k->g (f k)=k):∀{rs qs:List (List AV)}{c:Array Value}{aa sz:Nat},fg D f rs qs->br P β w I rs c aa sz->br P (λ j=>β (g j)) w I qs c aa sz
 |[],[],_,_,_,_,_=>trivial
 |r::rs,q::qs,c,aa,sz,hr,⟨h1,h2,h3⟩=>⟨by rw[hr.1.length];exact h1,cM.re hgf hr.1 h2,br.re hgf hr.2 h3⟩
 |[],_::_,_,_,_,h,_=>h.elim
 |_::_,[],_,_,_,h,_=>h.elim
theorem be.re(hgf:∀k,D k->g (f k)=k):∀{r q:List AV}{vs:List Value},gO D f r q->be P β w I r vs->be P (λ j=>β (g j)) w I q vs
 |[],[],[],_,_=>by simp[be]
 |x::xs,y::ys,v::vs,hr,h=>by
  simp only[be]at h ⊢;exact⟨hr.1.2 _ _ _ _ _ (VR.rn hgf x v hr.1.1 h.1),be.re hgf hr.2 h.2⟩
 |[],_::_,_,h,_=>h.elim
 |_::_,[],_,h,_=>h.elim
 |[],[],_::_,_,h=>by simp[be]at h
 |_::_,_::_,[],_,h=>by simp[be]at h
theorem ct.re(hgf:∀k,D k->g (f k)=k):∀{rs qs:List (List AV)}{es:List MapEntry},fg D f rs qs->ct P β w I rs es->ct P (λ j=>β (g j)) w I qs es
 |[],[],[],_,_=>trivial
 |r::rs,q::qs,_::es,hr,⟨h1,h2⟩=>⟨be.re hgf hr.1 h1,ct.re hgf hr.2 h2⟩
 |[],_::_,_,h,_=>h.elim
 |_::_,[],_,h,_=>h.elim
 |[],[],_::_,_,h=>h.elim
 |_::_,_::_,[],_,h=>h.elim
theorem fg.length:∀{rs qs:List (List AV)},fg D f rs qs->qs.length=rs.length
 |[],[],_=>rfl
 |_::xs,_::ys,h=>by simp[fg.length h.2]
 |[],_::_,h=>h.elim
 |_::_,[],h=>h.elim
theorem Rel.re{s s':St}(hgf:∀k,D k->g (f k)=k)(hg:∀j,j<1000->g j=j)(hr:Rel P w0 O0 N β I s a w)(hok:∀t,s.ok t=none\/s'.env t= .undef)(hok':∀t,s'.ok t=none)
 (hE:∀t,s'.env t= .undef\/((∀ k∈refs (s.env t),D k)/\j8 (eW f (s.env t)) (s'.env t)))
 (hO:∀j o',s'.obj j=some o'->∃k o,s.obj k=some o/\D k/\f k=j/\o'.sz=o.sz/\fg D f o.rows o'.rows):Rel P w0 O0 N (λ j=>β (g j)) I s' a w:=by
 refine⟨hr.defers,hr.size,λt=>?_,?_⟩
 ·have h1:=hr.env t;rw[hok' t];rcases hok t with hk |h
  rotate_left
  ·rw[h];simp[el,VR]
  rw[hk]at h1;rcases hE t with h |⟨h2,h3⟩
  ·rw[h];simp[el,VR]
  ·exact h3 _ _ _ _ _ (VR.rn hgf _ _ h2 h1)
 ·have hm:=hr.mem;constructor
  ·intro j o' hj;obtain⟨k,o,h1,h2,rfl,h4,h5⟩:=hO j o' hj;have⟨B,hB,qr⟩:=hm.cE k o h1;refine⟨B,by simp only[hgf k h2];exact hB,?_⟩;cases B with
   |none=>
    simp only[OR]at qr ⊢;rw[qr]at h5;cases ho:o'.rows with
    |nil=>rfl
    |cons=>rw[ho]at h5;exact h5.elim
   | «at» b sz n=>
    obtain⟨g1,c,e,g2,g3,g4⟩:=qr;exact⟨by rw[g1,h4],c,e,g2,g3,br.re hgf h5 g4⟩
   |mp b=>
    obtain⟨es,cl,g1,gl,g2,g3⟩:=qr;have hl:=h5.length;exact⟨es,cl,g1,by omega,λe=>ct.re hgf h5 (g2 (by omega)),g3⟩
  ·intro j j' o o' B B' b h1 h2 h3 h4 h5 h6;obtain⟨k,q,i1,i2,rfl,_⟩:=hO j o h1;obtain⟨k',q',i1',i2',rfl,_⟩:=hO j' o' h2;simp only[hgf k i2,hgf k' i2']at h3 h4;rw[hm.fY k k' q q' B B' b i1 i1' h3 h4 h5 h6]
  ·intro j o B b h1 h2;obtain⟨k,q,i1,i2,rfl,_⟩:=hO j o h1;simp only[hgf k i2]at h2;exact hm.ownB k q B b i1 h2
  ·exact hm.lt
  ·exact hm.up
  ·exact hm.keep
  ·exact hm.le
  ·exact hm.os
  ·exact hm.tape
  ·exact hm.output
  ·intro j B hj;show β (g j)=some B;rw[hg j (O0.lt j B hj)];exact hm.anch j B hj
  ·exact hm.vars
end
section
variable {X:SX}
theorem ZR{D:Nat->Prop}(f:Nat->Nat):∀r:List (DV X),(∀ k∈aQ r,D k)->gO D f (bG r) (bG (GQ f r))
 |[],_=>trivial
 |x::xs,h=>⟨⟨λ k hk=>h k (by rw[ic]at hk;simp[aQ,hk]),by rw[yg];exact j8.refl _⟩,ZR f xs λk hk=>h k (by simp[aQ,hk])⟩
theorem gO.app{D:Nat->Prop}{f:Nat->Nat}:∀{a b c d:List AV},gO D f a b->gO D f c d->gO D f (a++c) (b++d)
 |[],[],_,_,_,h=>h
 |_::_,_::_,_,_,h,k=>⟨h.1,gO.app h.2 k⟩
theorem RX{D:Nat->Prop}(f:Nat->Nat):∀r:List Tree,gO D f (r.map AV.t) (r.map AV.t)
 |[]=>trivial
 |_::ys=>⟨⟨by simp[refs],j8.refl _⟩,RX f ys⟩
theorem ad4{D:Nat->Prop}(f:Nat->Nat):∀rows:List (List Tree),fg D f (aG rows) (aG rows)
 |[]=>trivial
 |r::rs=>⟨RX f r,ad4 f rs⟩
theorem Wy{D:Nat->Prop}{f:Nat->Nat}{x y:List AV}(h:gO D f x y):∀(rows:List (List Tree))(i:Nat),fg D f ((aG rows).set i x) ((aG rows).set i y)
 |[],_=>trivial
 |r::rs,0=>⟨h,ad4 f rs⟩
 |r::rs,i+1=>⟨RX f r,Wy h rs i⟩
theorem acv{D:Nat->Prop}(f:Nat->Nat){q:Nat}(hq:D q)(rows:List (List Tree))(i aa len:Nat):fg D f (uW (aG rows) i aa q len) (uW (aG rows) i aa (f q) len):=by
 unfold uW;have⟨r,hr⟩:=Ro rows i;refine Wy ?_ rows i;rw[hr];unfold put';rw[<- map_take,<- map_drop,<- map_drop];exact gO.app (gO.app (RX f _) ⟨⟨λ k hk=>by simp only[refs,aT]at hk;subst hk;exact hq,j8.refl _⟩,trivial⟩) (RX f _)
theorem Gj{D:Nat->Prop}(f:Nat->Nat)(o:bp X)(h:∀k∈cT o,D k):(bC (ma f o)).sz=(bC o).sz/\fg D f (bC o).rows (bC (ma f o)).rows:=by
 cases o with
 |cells sz rows=>
  refine⟨rfl,?_⟩;simp only[bC,ma,map_map];simp only[cT]at h
  induction rows with
  |nil=>trivial
  |cons r rs ih=>
   refine⟨ZR f r λk hk=>h k (by simp[hk]),ih λk hk=>h k ?_⟩;simp only[aF,flatten_cons,aY];exact .inr hk
 |dp c l=>
  refine⟨rfl,?_⟩;simp only[bC,ma];generalize l.map (CT.row X.toSE c)=rows;have hrow:∀r:List Tree,gO D f (r.map AV.t) (r.map AV.t):=by
   intro r
   induction r with
   |nil=>trivial
   |cons y ys ih=>exact⟨⟨by simp[refs],j8.refl _⟩,ih⟩
  induction rows with
  |nil=>trivial
  |cons r rs ih=>exact⟨hrow r,ih⟩
 |map kc vc l=>
  refine⟨rfl,?_⟩;simp only[bC,ma];clear h
  induction l with
  |nil=>trivial
  |cons p ps ih=>exact⟨⟨⟨by simp[xZ],by rw[RG];exact j8.refl _⟩,⟨by simp[xZ],by rw[RG];exact j8.refl _⟩,trivial⟩,ih⟩
 |hole c l n aa q len=>exact⟨rfl,acv f (h q (by simp[cT])) _ _ _ _⟩
structure Low(s:cR X):Prop where
 le:s.nx<=1000000
 ge:1000<=s.nx
 env:∀t,∀k∈bo (eo s.env t),k<s.nx
 obj:∀k o,ff s.obj k=some o->k<s.nx/\∀j∈cT o,j<s.nx
theorem RY{o:bp X}{r:List AV}{x:AV}(hr:r∈(bC o).rows)(hx:x∈r):∀j∈refs x,j∈cT o:=by
 intro j hj;cases o with
 |cells sz rows=>
  simp only[bC,mem_map]at hr;obtain⟨q,hq,rfl⟩:=hr;rw[mJ,mem_map]at hx;obtain⟨d,hd,rfl⟩:=hx;simp only[cT,List.mem_flatten,mem_map];refine⟨_,⟨q,hq,rfl⟩,?_⟩;have:∀l:List (DV X),d∈l->j∈aQ l:=by
   intro l
   induction l with
   |nil=>intro h;simp at h
   |cons y ys ih=>intro h;rcases aN.1 h with rfl |h
                  ·simp only[aQ,aY];left;rwa [ic]at hj
                  ·simp only[aQ,aY];exact .inr (ih h)
  exact this q hd
 |dp c l=>
  simp only[bC,aG,mem_map]at hr;obtain⟨q,_,rfl⟩:=hr;simp only[mem_map]at hx;obtain⟨t,_,rfl⟩:=hx;simp[refs]at hj
 |map kc vc l=>
  simp only[bC,mem_map]at hr;obtain⟨q,_,rfl⟩:=hr;simp only[aN,fO,or_false]at hx;rcases hx with rfl |rfl<;>simp[xZ]at hj
 |hole c l n aa q len=>simpa[cT]using V6 hr hx hj
theorem Low.old{s:cR X}(h:Low s):sn s.st:=by
 have hle:=h.le;constructor
 ·intro t k hk;have:=h.env t k (by rw[<- ic];exact hk);omega
 ·intro k o hk;simp only[cR.st,dR]at hk;obtain⟨o',h1,rfl⟩:=hk;have⟨h2,h3⟩:=h.obj k o' h1;refine⟨by omega,λr hr x hx j hj=>?_⟩;have:=h3 j (RY hr hx j hj);omega
end
section
variable {X:SX} {A:Type}
def nj(e b:List (Nat×DV X))(t:Nat):DV X:=match lk e t with |some x=>x |none=>eo b t
def tW(o b:List (Nat×Option (bp X)))(k:Nat):Option (bp X):=match lk o k with |some x=>x |none=>ff b k
def xI(dst:Option Tmp)(dv:DV X)(e:List (Nat×DV X)):List (Nat×DV X):=match dst with |some t=>(t,dv)::e |none=>e
def RZ:DV X->DV X
 | .skip=> .undef
 |x=>x
def Ie(e:List (Nat×DV X)):Operand->Bool
 | .tmp t=>match lk e t with |some .skip=>false |_=>true
 |_=>true
def Ob(e b:List (Nat×DV X))(o:Op):Bool:=
 match o with
 | .pick c x y=>Ie e c&&((Ie e x&&Ie e y) || match UW (nj e b) c with | .c .bool t=>bif t then Ie e x else Ie e y |_=>false)
 |o=>o.operands.toList.all (Ie e)
abbrev AK:=List (Nat×List Nat×List Nat)
section
variable (Γ:FuncId->Option (ca X)) (fz:List Nat) (T:ea) (am:TypeId->Option (CT X.ι)) (al:Array Oper) (b:cR X)
def wG(k:List (Nat×DV X)->List (Nat×Option (bp X))->AK->Option A):List Nat->List (Nat×DV X)->List (Nat×Option (bp X))->AK->Option A
 |[],e,o,mC=>k e o mC
 |i::r,e,o,mC=>(al[i]?).bind λop=>match op.guard with
  |none=>bif Ob e b.env op.op then z7 Γ fz T am i op.op (UW (nj e b.env)) (tW o b.obj) λdv upd rd wr=>wG k r (xI op.dst (RZ dv) e) (upd++o) ((i,rd,wr)::mC)else none
  |some (j,p)=>((al[j]?).bind (·.dst)).bind λt=>match nj e b.env t with
   | .c .bool v=>
    bif v then(bif p then(bif Ob ((t,.c .bool true)::e) b.env op.op then z7 Γ fz T am i op.op (UW (nj ((t,.c .bool true)::e) b.env)) (tW o b.obj) λdv upd rd wr=>wG k r (xI op.dst (RZ dv) ((t,.c .bool true)::e)) (upd++o) ((i,rd,wr)::mC)else none)
     else wG k r (xI op.dst .skip ((t,.c .bool true)::e)) o ((i,[],[])::mC))
    else(bif p then wG k r (xI op.dst .skip ((t,.c .bool false)::e)) o ((i,[],[])::mC)
     else(bif Ob ((t,.c .bool false)::e) b.env op.op then z7 Γ fz T am i op.op (UW (nj ((t,.c .bool false)::e) b.env)) (tW o b.obj) λdv upd rd wr=>wG k r (xI op.dst (RZ dv) ((t,.c .bool false)::e)) (upd++o) ((i,rd,wr)::mC)else none))
   | .skip=>bif(lk e t).isSome then wG k r (xI op.dst .skip e) o ((i,[],[])::mC)else none
   |_=>none
end
def gP(b:cR X)(e:List (Nat×DV X))(o:List (Nat×Option (bp X))):St:=⟨λ t=>den (nj e b.env t),λk=>(tW o b.obj k).map bC,λt=>match lk e t with |some .skip=>some false |_=>none⟩
theorem aeX(x:DV X):den (RZ x)=den x:=by cases x<;>rfl
theorem agt(b:cR X)(e:List (Nat×DV X))(o:List (Nat×Option (bp X)))(dst:Option Tmp)(dv:DV X)(upd:List (Nat×Option (bp X)))(obs:List Prop):
 (gP b e o).app dst (⟨den dv,gW upd,obs⟩,none)=gP b (xI dst (RZ dv) e) (upd++o):=by
 simp only[gP,St.app,St.mk.injEq];refine⟨?_,?_,?_⟩
 ·funext t;cases dst with
  |none=>simp[yZ,xI]
  |some d=>
   simp only[yZ,xI,nj,lk,ay];by_cases h:d=t<;>simp[h,aeX]
 ·funext j
  induction upd with
  |nil=>rfl
  |cons p u ih=>
   obtain⟨q,x⟩:=p;simp only[gW,aF,bR,cons_append,tW,lk]at ih ⊢;by_cases h:j=q
   ·simp[h]
   ·rw[bf h,bf (Ne.symm h)];exact ih
 ·funext t;cases dst with
  |none=>simp[yZ,xI]
  |some d=>
   simp only[yZ,xI,lk,ay];by_cases h:d=t
   ·simp only[h,if_true];cases dv<;>rfl
   ·simp only[bf h]
theorem aeY(b:cR X)(e:List (Nat×DV X))(o:List (Nat×Option (bp X)))(dst:Option Tmp):(gP b e o).app dst (⟨.undef,[],[]⟩,some false)=gP b (xI dst .skip e) o:=by
 simp only[gP,St.app,St.mk.injEq];refine⟨?_,rfl,?_⟩
 ·funext t;cases dst with
  |none=>simp[yZ,xI]
  |some d=>
   simp only[yZ,xI,nj,lk,ay];by_cases h:d=t<;>simp[h,den]
 ·funext t;cases dst with
  |none=>simp[yZ,xI]
  |some d=>
   simp only[yZ,xI,lk,ay];by_cases h:d=t<;>simp[h]
theorem ZT(b:cR X)(e:List (Nat×DV X))(o:List (Nat×Option (bp X))):ky (gP b e o).env=λx=>den (UW (nj e b.env) x):=by funext x;exact(Rh _ x).symm
theorem Ap{b:cR X}{e:List (Nat×DV X)}{o:List (Nat×Option (bp X))}{x:Operand}(h:Ie e x=true):uV (gP b e o).ok x=[]:=by
 cases x with
 |tmp t=>
  simp only[Ie]at h;simp only[uV,gP];cases ht:lk e t with
  |none=>rfl
  |some d=>rw[ht]at h;cases d<;>first |rfl |cases h
 |_=>rfl
theorem aeZ{b:cR X}{e:List (Nat×DV X)}{o:List (Nat×Option (bp X))}{P:Program}{T:ea}{i:Nat}{op:Oper}{co:ij}{get:Nat->Option aS}{ab:Out}(hok:Ob e b.env op.op=true)
 (h:jb P T i op co (ky (gP b e o).env) get=some ab):∀p∈needs (gP b e o).env (gP b e o).ok op.op,p:=by
 obtain⟨dst,op,ty,ao,after,guard⟩:=op;unfold needs;split
 ·rename_i c x y heq;simp only at heq;subst heq;simp only[Ob,aJ,Bool.or_eq_true]at hok;obtain⟨hc,hxy⟩:=hok;have hb:∃t,ky (gP b e o).env c= .t (.sc (.bool t)):=by
   have h0:(∃ n,co= .ext n)\/(∃ ae fr q,co= .ue ae fr q)\/nK T i ⟨dst,.pick c x y,ty,ao,after,guard⟩ co (ky (gP b e o).env) get=some ab:=(by cases co<;>first |exact .inl ⟨_,rfl⟩ |exact .inr (.inl ⟨_,_,_,rfl⟩) |exact .inr (.inr h));rcases h0 with ⟨n,rfl⟩ |⟨ae,fr,q,rfl⟩ |h0
   ·simp[jb,qN,GB,qM]at h
   ·simp[jb,EC,PF]at h
   ·simp only[nK]at h0;split at h0
    ·rename_i t ht;exact⟨t,ht⟩
    ·cases h0
  obtain⟨t,ht⟩:=hb;rw[ht];simp only[Ap hc,bK];rcases hxy with ⟨hx,hy⟩ |hxy
  ·simp[Ap hx,Ap hy]
  ·split at hxy
   ·rename_i t' ht';have e1:ky (gP b e o).env c= .t (.sc (.bool t')):=(by rw[ZT];simp only[ht'];rfl);rw[e1]at ht;injection ht with ht;injection ht with ht;injection ht with ht;subst ht;cases t' with
    |true=>
     simp only[aj]at hxy;simp[Ap hxy]
    |false=>
     simp only[ak]at hxy;simp[Ap hxy]
   ·cases hxy
 ·rename_i o' hne;intro p hp;have hall:∀x∈op.operands.toList,Ie e x=true:=by
   have:Ob e b.env op=op.operands.toList.all (Ie e):=(by cases op<;>first |rfl |exact(hne _ _ _ rfl).elim);rw[this]at hok;exact all_eq_true.1 hok
  simp only[List.mem_flatMap]at hp;obtain⟨x,hx,hp⟩:=hp;rw[Ap (hall x hx)]at hp;simp at hp
theorem agu{a b:List Prop}(h:∀p∈a,p)(h':jJ b):jJ (a++b):=pM _ (gu h (JE b h'))
variable {Γ:FuncId->Option (ca X)} {fz:List Nat} {T:ea} {am:TypeId->Option (CT X.ι)} {al:Array Oper} {b:cR X} {P:Program}
theorem ae0(hΓ:qu P Γ){i:Nat}{op:Oper}{e:List (Nat×DV X)}{o:List (Nat×Option (bp X))}{k:KK X A}{r:A}(hop:al[i]? =some op)(hw:want al op (gP b e o).env (gP b e o).ok=some true)(hok:Ob e b.env op.op=true)
 (h:z7 Γ fz T am i op.op (UW (nj e b.env)) (tW o b.obj) k=some r):
 ∃(a:lO)(dv:DV X)(upd:List (Nat×Option (bp X))),a.sym=false/\k dv upd a.rd a.wr=some r/\∀(cQ:Nat->lO)(K:St->Prop),cQ i=a->K (gP b (xI op.dst (RZ dv) e) (upd++o))->ur P T al cQ i K (gP b e o):=by
 have⟨co,rd,wr,dv,upd,ab,h1,h2,h3,h4,h5,h6⟩:=acu hΓ h;refine⟨⟨co,rd,wr,false⟩,dv,upd,rfl,h6,λcQ K ha hK=>?_⟩;have h1':jb P T i op co (ky (gP b e o).env) (dw rd (gP b e o).obj)=some ab:=by rw[ZT];exact h1
 refine⟨op,(⟨ab.v,ab.upd,needs (gP b e o).env (gP b e o).ok op.op++ab.obs⟩,none),hop,?_,?_,?_⟩
 ·unfold opAt;simp only[hop,af,hw,ha,h1'];rw[bn];rw[all_eq_true];intro p hp;rw[h4]at hp;simp only[gW,mem_map]at hp;obtain⟨q,hq,rfl⟩:=hp;rcases h5 q hq with h |h
  ·simp[h,QU.2 (.inl rfl:gC (cy i) (cy i))]
  ·simp[h]
 ·exact agu (aeZ hok h1') h2
 ·rw[h3,h4,agt];exact hK
theorem step_skip{i:Nat}{op:Oper}{e:List (Nat×DV X)}{o:List (Nat×Option (bp X))}(hop:al[i]? =some op)(hw:want al op (gP b e o).env (gP b e o).ok=some false)
 (cQ:Nat->lO) (K:St->Prop) (ha:cQ i=⟨.none,[],[],false⟩) (hK:K (gP b (xI op.dst .skip e) o)):ur P T al cQ i K (gP b e o):=by
 refine⟨op,(⟨.undef,[],[]⟩,some false),hop,?_,trivial,?_⟩
 ·unfold opAt;simp only[hop,af,hw,ha]
 ·rw[aeY];exact hK
theorem acw{e:List (Nat×DV X)}{o:List (Nat×Option (bp X))}{t:Nat}{v:Bool}(h:nj e b.env t= .c .bool v):gP b ((t,.c .bool v)::e) o=gP b e o:=by
 simp only[gP,St.mk.injEq,true_and];refine⟨?_,?_⟩
 ·funext s;by_cases hs:t=s
  ·subst hs;rw[h];simp[nj,lk]
  ·simp[nj,lk,hs]
 ·funext s;by_cases hs:t=s
  ·subst hs;simp only[lk,if_true];unfold nj at h;cases ht:lk e t with
   |none=>rfl
   |some d=>rw[ht]at h;simp only at h;subst h;rfl
  ·simp[lk,hs]
def GR(tr:List (Nat×lO)):AK:=tr.map λp=>(p.1,p.2.rd,p.2.wr)
def Oc(al:Array Oper)(t:Nat):Prop:=∃(j:Nat)(op:Oper),al[j]? =some op/\op.dst=some t
theorem ZU{dst:Option Tmp}{dv:DV X}{e:List (Nat×DV X)}{p:Nat×DV X}(h:p∈xI dst dv e):p∈e\/dst=some p.1:=by
 cases dst with
 |none=>exact .inl h
 |some t=>
  simp only[xI,aN]at h;rcases h with rfl |h
  ·exact .inr rfl
  ·exact .inl h
theorem BL(hΓ:qu P Γ){k:List (Nat×DV X)->List (Nat×Option (bp X))->AK->Option A}{r:A}:∀(l:List Nat)(e:List (Nat×DV X))(o:List (Nat×Option (bp X)))(mC:AK),wG Γ fz T am al b k l e o mC=some r->
 ∃(tr:List (Nat×lO))(e':List (Nat×DV X))(o':List (Nat×Option (bp X))),tr.map (·.1)=l/\k e' o' ((GR tr).reverse++mC)=some r/\(∀ p∈e',p∈e\/Oc al p.1)/\
  ∀cQ:Nat->lO,(∀ p∈tr,cQ p.1=p.2)->OQ P T al cQ (λ σ=>σ=gP b e' o') l (gP b e o)
 |[],e,o,mC,h=>⟨[],e,o,rfl,h,λ_ hp=> .inl hp,λ_ _=>rfl⟩
 |i::l,e,o,mC,h=>by
  simp only[wG]at h;have⟨op,hop,h⟩:=ah.1 h
  have exec:∀e:List (Nat×DV X),want al op (gP b e o).env (gP b e o).ok=some true->
   (bif Ob e b.env op.op then z7 Γ fz T am i op.op (UW (nj e b.env)) (tW o b.obj) λdv upd rd wr=>wG Γ fz T am al b k l (xI op.dst (RZ dv) e) (upd++o) ((i,rd,wr)::mC)else none)=some r->
   ∃(tr:List (Nat×lO)) (e':List (Nat×DV X)) (o':List (Nat×Option (bp X))),tr.map (·.1)=i::l/\k e' o' ((GR tr).reverse++mC)=some r/\(∀ p∈e',p∈e\/Oc al p.1)/\
    ∀cQ:Nat->lO,(∀ p∈tr,cQ p.1=p.2)->OQ P T al cQ (λ σ=>σ=gP b e' o') (i::l) (gP b e o):=by
   intro e hw h;have⟨hok,h⟩:=dF h;have⟨a,dv,upd,_,h1,h2⟩:=ae0 hΓ hop hw hok h;obtain⟨tr,e',o',g1,g2,g4,g3⟩:=BL hΓ l _ _ _ h1;refine⟨(i,a)::tr,e',o',by simp[g1],?_,λp hp=>(g4 p hp).elim (λ hp=>(ZU hp).elim .inl λhd=> .inr ⟨i,op,hop,hd⟩) .inr,λcQ ha=>?_⟩
   ·simpa[GR]using g2
   ·exact h2 cQ _ (ha (i,a) (by simp)) (g3 cQ λp hp=>ha p (by simp[hp]))
  have skip:∀e:List (Nat×DV X),want al op (gP b e o).env (gP b e o).ok=some false->wG Γ fz T am al b k l (xI op.dst .skip e) o ((i,[],[])::mC)=some r->
   ∃(tr:List (Nat×lO)) (e':List (Nat×DV X)) (o':List (Nat×Option (bp X))),tr.map (·.1)=i::l/\k e' o' ((GR tr).reverse++mC)=some r/\(∀ p∈e',p∈e\/Oc al p.1)/\
    ∀cQ:Nat->lO,(∀ p∈tr,cQ p.1=p.2)->OQ P T al cQ (λ σ=>σ=gP b e' o') (i::l) (gP b e o):=by
   intro e hw h;obtain⟨tr,e',o',g1,g2,g4,g3⟩:=BL hΓ l _ _ _ h;refine⟨(i,⟨.none,[],[],false⟩)::tr,e',o',by simp[g1],?_,λp hp=>(g4 p hp).elim (λ hp=>(ZU hp).elim .inl λhd=> .inr ⟨i,op,hop,hd⟩) .inr,λcQ ha=>?_⟩
   ·simpa[GR]using g2
   ·exact step_skip hop hw cQ _ (ha (i,_) (by simp)) (g3 cQ λp hp=>ha p (by simp[hp]))
  split at h
  ·rename_i hg;exact exec e (by simp[want,hg]) h
  ·rename_i j p hg;rw[ah]at h;obtain⟨t,ht,h⟩:=h;split at h
   ·rename_i v hv;have hw:∀e:List (Nat×DV X),nj e b.env t= .c .bool v->want al op (gP b e o).env (gP b e o).ok=some (v==p):=by
     intro e he;simp only[want,hg,ht];have h0:(gP b e o).ok t=none:=by
      simp only[gP];unfold nj at he;cases hq:lk e t with
      |none=>rfl
      |some d=>rw[hq]at he;simp only at he;subst he;rfl
     have h1:(gP b e o).env t= .t (.sc (.bool v)):=(by simp only[gP,he];rfl);rw[h0,h1]
    have hk:=acw (b:=b) (o:=o) hv;have hv':nj ((t,.c .bool v)::e) b.env t= .c .bool v:=(by simp[nj,lk]);have htd:Oc al t:=by
     have⟨oj,h1,h2⟩:=ah.1 ht;exact⟨j,oj,h1,h2⟩
    have wide:(∃ (tr:List (Nat×lO)) (e':List (Nat×DV X)) (o':List (Nat×Option (bp X))),tr.map (·.1)=i::l/\k e' o' ((GR tr).reverse++mC)=some r/\(∀ p∈e',p∈((t,.c .bool v)::e:List (Nat×DV X))\/Oc al p.1)/\
     ∀cQ:Nat->lO,(∀ p∈tr,cQ p.1=p.2)->OQ P T al cQ (λ σ=>σ=gP b e' o') (i::l) (gP b ((t,.c .bool v)::e) o))->
     ∃(tr:List (Nat×lO)) (e':List (Nat×DV X)) (o':List (Nat×Option (bp X))),tr.map (·.1)=i::l/\k e' o' ((GR tr).reverse++mC)=some r/\(∀ p∈e',p∈e\/Oc al p.1)/\
     ∀cQ:Nat->lO,(∀ p∈tr,cQ p.1=p.2)->OQ P T al cQ (λ σ=>σ=gP b e' o') (i::l) (gP b e o):=by
     rintro⟨tr,e',o',g1,g2,g4,g3⟩;refine⟨tr,e',o',g1,g2,λq hq=>?_,hk ▸ g3⟩;rcases g4 q hq with h |h
     ·rcases aN.1 h with rfl |h
      ·exact .inr htd
      ·exact .inl h
     ·exact .inr h
    apply wide;cases v with
    |true=>
     simp only[aj]at h;cases p with
     |true=>exact exec _ (hw _ hv') h
     |false=>exact skip _ (hw _ hv') h
    |false=>
     simp only[ak]at h;cases p with
     |true=>exact skip _ (hw _ hv') h
     |false=>exact exec _ (hw _ hv') h
   ·rename_i hv;have⟨hsome,h⟩:=dF h;refine skip e ?_ h;simp only[want,hg,ht];have h1:(gP b e o).env t= .undef:=(by simp only[gP,hv];rfl);cases hq:lk e t with
    |some d=>
     have h0:(gP b e o).ok t=some false:=by
      unfold nj at hv;rw[hq]at hv;simp only at hv;subst hv;simp only[gP,hq]
     rw[h0,h1]
    |none=>rw[hq]at hsome;cases hsome
   ·cases h
end
section
variable {X:SX} {A:Type}
def fN(nx k:Nat):Nat:=if k<1000000 then k else nx+(k -1000000)
def gN(nx j:Nat):Nat:=if j<nx then j else 1000000+(j -nx)
def CD(nx sz k:Nat):Bool:=decide (k<nx) || (decide (1000000<=k)&&decide (k<1000000+sz))
def okE(nx sz:Nat)(e:List (Nat×DV X)):Bool:=e.all λp=>(bo p.2).all (CD nx sz)
def okO(nx sz:Nat)(o:List (Nat×Option (bp X))):Bool:=o.all λp=>CD nx sz p.1&&match p.2 with |some x=>(cT x).all (CD nx sz) |none=>true
def Hb(mC:AK):Nat->lO:=λi=>match lk mC i with |some p=>⟨.none,p.1,p.2,false⟩ |none=>⟨.none,[],[],false⟩
def B3(tr:List (Nat×lO)):Nat->lO:=λi=>match lk tr i with |some a=>a |none=>⟨.none,[],[],false⟩
def FF:DV X->DV X
 | .skip=> .undef
 |x=>x
theorem agx(x:DV X):den (FF x)=den x:=by cases x<;>rfl
theorem Wz(x:DV X):bo (FF x)=bo x:=by cases x<;>rfl
def fin(s:cR X)(e:List (Nat×DV X))(o:List (Nat×Option (bp X)))(sz:Nat):cR X:=
 ⟨e.map (λ p=>(p.1,FF (my (fN s.nx) p.2)))++s.env,o.map (λ p=>(fN s.nx p.1,p.2.map (ma (fN s.nx))))++s.obj,s.nx+sz,o.map (λ p=>fN s.nx p.1)++s.log⟩
def Vc(N:Nat)(al:Array Oper)(d:Bool)(nx:Nat)(e:List (Nat×DV X))(o:List (Nat×Option (bp X)))(mC:AK):Bool:=
 XA N al&&(!d || HI al (Hb mC))&&okE nx (64*al.size) e&&okO nx (64*al.size) o&&decide (nx+64*al.size<=1000000)
def OS(Γ:FuncId->Option (ca X))(fz:List Nat)(T:ea)(am:TypeId->Option (CT X.ι))(N:Nat)(al:Array Oper)(d:Bool)(s:cR X)(k:cR X->Option A):Option A:=
 wG Γ fz T am al s (λ e o mC=>bif Vc N al d s.nx e o mC then k (fin s e o (64*al.size))else none) (List.range al.size) [] [] []
theorem ZV{al:Array Oper}{cQ sX:Nat->lO}(h:∀i,(cQ i).rd=(sX i).rd/\(cQ i).wr=(sX i).wr):HI al cQ=HI al sX:=by
 have h1:u6 cQ=u6 sX:=by
  funext i j;simp only[u6,(h i).1,(h i).2,(h j).1,(h j).2]
 have h2:∀md,LW md al cQ=LW md al sX:=by
  intro md;funext listed i;simp only[LW,h1]
 have h3:∀(md:Region.Mode)(n k:Nat)(listed:Array Bool),lexFrom' md al cQ n k listed=lexFrom' md al sX n k listed:=by
  intro md n
  induction n with
  |zero=>intro k listed;rfl
  |succ n ih=>intro k listed;simp only[lexFrom',h2,ih]
 exact h3 _ _ _ _
theorem Aq{α:Type}:∀(a b:List (Nat×α))(k:Nat),lk (a++b) k=match lk a k with |some x=>some x |none=>lk b k
 |[],_,_=>rfl
 |(j,x)::a,b,k=>by
  simp only[cons_append,lk];by_cases h:j=k
  ·simp[h]
  ·simp only[bf h,Aq a b k]
theorem ad5{α:Type}:∀{l:List (Nat×α)}{k:Nat},lk l k=none->∀x,(k,x)∉l
 |(j,y)::r,k,h,x=>by
  simp only[lk]at h;split at h
  ·cases h
  ·rename_i hn;simp only[aN,Prod.mk.injEq,not_or];exact⟨λ e=>hn e.1.symm,ad5 h x⟩
 |[],_,_,_=>by simp
theorem ajx{tr:List (Nat×lO)}(hn:(tr.map (·.1)).Nodup)(i:Nat):(Hb (GR tr).reverse i).rd=(B3 tr i).rd/\(Hb (GR tr).reverse i).wr=(B3 tr i).wr:=by
 have hn':((GR tr).reverse.map (·.1)).Nodup:=by
  rw[List.map_reverse];have h1:((GR tr).map (·.1)).Nodup:=by simpa[GR,Function.comp_def]using hn
  exact List.pairwise_reverse.2 (h1.imp λh=>Ne.symm h)
 unfold Hb B3;cases h:lk tr i with
 |none=>
  cases h':lk (GR tr).reverse i with
  |none=>exact⟨rfl,rfl⟩
  |some p=>
   have:=qb h';simp only[GR,List.mem_reverse,mem_map]at this;obtain⟨q,hq,he⟩:=this;injection he with e1 e2;subst e1;exact(ad5 h q.2 hq).elim
 |some a=>
  have h1:=qb h;have h2:(i,a.rd,a.wr)∈(GR tr).reverse:=by
   simp only[GR,List.mem_reverse,mem_map];exact⟨(i,a),h1,rfl⟩
  rw[sH hn' h2];exact⟨rfl,rfl⟩
theorem agz{tr:List (Nat×lO)}(hn:(tr.map (·.1)).Nodup):∀p∈tr,B3 tr p.1=p.2:=by
 rintro⟨i,a⟩ hp;unfold B3;rw[sH hn hp]
theorem R3{nx sz k:Nat}(h:CD nx sz k=true):k<nx\/(1000000<=k/\k<1000000+sz):=by simpa[CD]using h
theorem L3{nx sz k:Nat}(hle:nx+sz<=1000000)(h:k<nx\/(1000000<=k/\k<1000000+sz)):gN nx (fN nx k)=k:=by grind [gN,fN]
theorem WA{nx sz k:Nat}(hle:nx+sz<=1000000)(h:k<nx\/(1000000<=k/\k<1000000+sz)):fN nx k<nx+sz:=by grind [fN]
theorem ZW{nx k:Nat}(hle:nx<=1000000)(h:k<nx):fN nx k=k:=bn (by omega)
mutual
theorem R4{f:Nat->Nat}:∀x:DV X,(∀ k∈bo x,f k=k)->my f x=x
 | .own k _ _,h=>by simp only[my,h k (by simp[bo])]
 | .ptr k _ _,h=>by simp only[my,h k (by simp[bo])]
 | .oB k _ _,h=>by simp only[my,h k (by simp[bo])]
 | .mp k,h=>by simp only[my,h k (by simp[bo])]
 | .oz k _,h=>by simp only[my,h k (by simp[bo])]
 | .rL k _ _ _ _,h=>by simp only[my,h k (by simp[bo])]
 | .agg cs,h=>by simp only[my,yj cs (by simpa[bo]using h)]
 | .eE cs,h=>by simp only[my,yj cs (by simpa[bo]using h)]
 | .fn F first caps,h=>by simp only[my,yj first (λ k hk=>h k (by simp[bo,hk])),yj caps (λ k hk=>h k (by simp[bo,hk]))]
 | .c _ _,_=>rfl
 | .rp _ _ _,_=>rfl
 | .tP _ _ _ _ _,_=>rfl
 | .du _ _ _,_=>rfl
 | .raw _,_=>rfl
 | .nil,_=>rfl
 | .ub,_=>rfl
 | .skip,_=>rfl
 | .undef,_=>rfl
theorem yj{f:Nat->Nat}:∀l:List (DV X),(∀ k∈aQ l,f k=k)->GQ f l=l
 |[],_=>rfl
 |x::xs,h=>by simp only[GQ,R4 x (λ k hk=>h k (by simp[aQ,hk])),yj xs (λ k hk=>h k (by simp[aQ,hk]))]
end
mutual
theorem R5(f:Nat->Nat):∀x:DV X,bo (my f x)=(bo x).map f
 | .own _ _ _=>rfl
 | .ptr _ _ _=>rfl
 | .oB _ _ _=>rfl
 | .mp _=>rfl
 | .oz _ _=>rfl
 | .rL _ _ _ _ _=>rfl
 | .agg cs=>by simp only[my,bo,vU f cs]
 | .eE cs=>by simp only[my,bo,vU f cs]
 | .fn F first caps=>by simp only[my,bo,vU f first,vU f caps,map_append]
 | .c _ _=>rfl
 | .rp _ _ _=>rfl
 | .tP _ _ _ _ _=>rfl
 | .du _ _ _=>rfl
 | .raw _=>rfl
 | .nil=>rfl
 | .ub=>rfl
 | .skip=>rfl
 | .undef=>rfl
theorem vU(f:Nat->Nat):∀l:List (DV X),aQ (GQ f l)=(aQ l).map f
 |[]=>rfl
 |x::xs=>by simp only[GQ,aQ,R5 f x,vU f xs,map_append]
end
theorem ZX(f:Nat->Nat)(o:bp X):cT (ma f o)=(cT o).map f:=by
 cases o with
 |cells sz rows=>simp only[ma,cT,map_map,List.map_flatten];congr 1;exact map_congr_left λr _=>vU f r
 |dp c l=>rfl
 |map kc vc l=>rfl
 |hole c l n aa q len=>rfl
theorem Wg{α β:Type}(f:α->β):∀(l:List (Nat×α))(k:Nat),lk (l.map λp=>(p.1,f p.2)) k=(lk l k).map f
 |[],_=>rfl
 |(j,x)::r,k=>by
  simp only[aF,lk];by_cases h:j=k
  ·simp[h]
  ·simp only[bf h,Wg f r k]
theorem ad6{α β:Type}(f:α->β)(g:Nat->Nat):∀(l:List (Nat×α))(j:Nat),(∀ p∈l,∀q∈l,g p.1=g q.1->p.1=q.1)->
 (∀ y,lk (l.map λp=>(g p.1,f p.2)) j=some y->∃k x,lk l k=some x/\g k=j/\y=f x)/\(lk (l.map λp=>(g p.1,f p.2)) j=none->∀p∈l,g p.1≠j)
 |[],_,_=>⟨λ _ h=>by simp[lk]at h,λ_=>by simp⟩
 |(k0,x0)::r,j,hi=>by
  obtain⟨i1,i2⟩:=ad6 f g r j (λ p hp q hq=>hi p (by simp[hp]) q (by simp[hq]));simp only[aF,lk];by_cases h:g k0=j
  ·rw[bn h];exact⟨λ y hy=>by injection hy with hy;exact⟨k0,x0,by simp,h,hy.symm⟩,λhn=>by cases hn⟩
  ·grind
structure Ext(ds:Nat->Prop)(s s':cR X):Prop where
 env:∀t,¬ds t->eo s'.env t=eo s.env t\/eo s'.env t= .undef
 obj:∃d,s'.log=d++s.log/\∀k,k<s.nx->k∉d->ff s'.obj k=ff s.obj k\/ff s'.obj k=none
 nx:s.nx<=s'.nx
variable {Γ:FuncId->Option (ca X)} {fz:List Nat} {T:ea} {am:TypeId->Option (CT X.ι)} {P:Program} {N:Nat}
theorem JU(s:cR X)(e:List (Nat×DV X))(o:List (Nat×Option (bp X)))(sz t:Nat):eo (fin s e o sz).env t=match lk e t with |some d=>FF (my (fN s.nx) d) |none=>eo s.env t:=by
 simp only[fin,eo,Aq,Wg (λ d=>FF (my (fN s.nx) d))];cases lk e t<;>rfl
theorem X0(hT:eY P T)(hm:P.follows .mixedOrders=true)(hΓ:qu P Γ){id:Nat}{al:Array Oper}{d:Bool}{s:cR X}{k:cR X->Option A}{r:A}(hl:Low s)(h:OS Γ fz T am N al d s k=some r):
 ∃s':cR X,k s'=some r/\Low s'/\Ext (Oc al) s s'/\Ev P N (.region id al d) (λ e σ=>e= .normal/\σ=s'.st) s.st:=by
 unfold OS at h;obtain⟨tr,e,o,h1,h2,h3,h4⟩:=BL hΓ _ _ _ _ h;have⟨h5,h6⟩:=dF h2;simp only[Vc,aJ,append_nil]at h5;obtain⟨⟨⟨⟨hd,hlex⟩,hE⟩,hO⟩,hnx⟩:=h5;have hle:s.nx+64*al.size<=1000000:=of_decide_eq_true hnx;have Dd:(tr.map (·.1)).Nodup:=by rw[h1];exact List.nodup_range
 have LL:∀t x,lk e t=some x->∀j∈bo x,j<s.nx\/(1000000<=j/\j<1000000+64*al.size):=by
  intro t x hx j hj;have:=all_eq_true.1 hE _ (qb hx);exact R3 (all_eq_true.1 this j hj)
 have DH:∀p∈o,(p.1<s.nx\/(1000000<=p.1/\p.1<1000000+64*al.size))/\∀x,p.2=some x->∀j∈cT x,j<s.nx\/(1000000<=j/\j<1000000+64*al.size):=by
  intro p hp;have:=all_eq_true.1 hO _ hp;simp only[aJ]at this;refine⟨R3 this.1,λx hx j hj=>?_⟩;have h2:=this.2;rw[hx]at h2;exact R3 (all_eq_true.1 h2 j hj)
 have hinj:∀p∈o,∀q∈o,fN s.nx p.1=fN s.nx q.1->p.1=q.1:=by
  intro p hp q hq he;have:=congrArg (gN s.nx) he
  rwa [L3 hle (DH p hp).1,L3 hle (DH q hq).1]at this
 have t8:∀j,(∃ q x,lk o q=some x/\fN s.nx q=j/\ff (fin s e o (64*al.size)).obj j=x.map (ma (fN s.nx)))\/(ff (fin s e o (64*al.size)).obj j=ff s.obj j/\∀p∈o,fN s.nx p.1≠j):=by
  intro j;obtain⟨i1,i2⟩:=ad6 (λ x:Option (bp X)=>x.map (ma (fN s.nx))) (fN s.nx) o j hinj;simp only[fin,ff,Aq];cases hj:lk (o.map λp=>(fN s.nx p.1,p.2.map (ma (fN s.nx)))) j with
  |none=>exact .inr ⟨rfl,i2 hj⟩
  |some y=>
   have⟨q,x,g1,g2,g3⟩:=i1 y hj;exact .inl ⟨q,x,g1,g2,by rw[g3];rfl⟩
 refine⟨fin s e o (64*al.size),h6,?_,?_,?_⟩
 ·constructor
  ·exact hle
  ·have:=hl.ge;show 1000<=s.nx+64*al.size;omega
  ·intro t j hj;rw[JU]at hj;cases ht:lk e t with
   |none=>rw[ht]at hj;have:=hl.env t j hj;show j<s.nx+64*al.size;omega
   |some x=>
    rw[ht,Wz,R5]at hj;obtain⟨q,hq,rfl⟩:=mem_map.1 hj;exact WA hle (LL t x ht q hq)
  ·intro j x hx;rcases t8 j with ⟨q,y,g1,rfl,g3⟩ |⟨g1,_⟩
   ·rw[g3]at hx;rw[dR]at hx;obtain⟨z,rfl,rfl⟩:=hx;obtain⟨k1,k2⟩:=DH _ (qb g1);refine⟨WA hle k1,λi hi=>?_⟩;rw[ZX]at hi;obtain⟨i',hi',rfl⟩:=mem_map.1 hi;exact WA hle (k2 z rfl i' hi')
   ·rw[g1]at hx;have⟨k1,k2⟩:=hl.obj j x hx;refine⟨show j<s.nx+64*al.size by omega,λi hi=>?_⟩;have:=k2 i hi;show i<s.nx+64*al.size;omega
 ·refine⟨λ t ht=> .inl ?_,⟨o.map (λ p=>fN s.nx p.1),rfl,λj hj hn=>?_⟩,by show s.nx<=s.nx+64*al.size;omega⟩
  ·rw[JU];cases hx:lk e t with
   |none=>rfl
   |some x=>
    rcases h3 _ (qb hx)with h |h
    ·simp at h
    ·exact(ht h).elim
  ·rcases t8 j with ⟨q,y,g1,g2,g3⟩ |⟨g1,_⟩
   ·exact(hn (mem_map.2 ⟨(q,y),qb g1,g2⟩)).elim
   ·exact .inl g1
 ·have hst:gP s [] []=s.st:=rfl;have hex:=h4 (B3 tr) (agz Dd);rw[hst]at hex;intro w0 O0 β I a w hr ho;have done:∀(e':Exit)(a':Act)(w':World),(∃ β' I' σ1,Rel P w0 O0 N β' I' σ1 a' w'/\e'= .normal/\σ1=gP s e o)->∃ β' I' σ1,Rel P w0 O0 N β' I' σ1 a' w'/\sn σ1/\e'= .normal/\σ1=(fin s e o (64*al.size)).st:=by
   rintro e' a' w' ⟨β',I',σ1,g1,rfl,rfl⟩;refine⟨_,I',(fin s e o (64*al.size)).st,Rel.re (f:=fN s.nx) (g:=gN s.nx) (D:=λk=>k<s.nx\/(1000000<=k/\k<1000000+64*al.size)) (λ k hk=>L3 hle hk) (λ j hj=>by have:=hl.ge;unfold gN;rw[bn (by omega)]) g1 (λ t=>?_) (λ _=>rfl) (λ t=> .inr ?_) (λ j o' hj=>?_),?_,rfl,rfl⟩
   ·show(match lk e t with |some .skip=>some false |_=>none)=none\/den (eo (fin s e o (64*al.size)).env t)= .undef;rw[JU];cases ht:lk e t with
    |none=>exact .inl rfl
    |some d=>cases d<;>first |exact .inl rfl |exact .inr rfl
   ·show(∀ k∈refs (den (nj e s.env t)),_)/\j8 (eW (fN s.nx) (den (nj e s.env t))) (den (eo (fin s e o (64*al.size)).env t));rw[JU,ic,<- yg];unfold nj;cases ht:lk e t with
    |none=>
     refine⟨λ q hq=> .inl (hl.env t q hq),?_⟩;rw[R4 _ (λ q hq=>ZW (by omega) (hl.env t q hq))];exact j8.refl _
    |some x=>exact⟨LL t x ht,by simp only[agx];exact j8.refl _⟩
   ·simp only[cR.st,dR]at hj;obtain⟨x,hx,rfl⟩:=hj;rcases t8 j with ⟨q,y,i1,rfl,i3⟩ |⟨i1,i2⟩
    ·rw[i3,dR]at hx;obtain⟨z,rfl,rfl⟩:=hx;obtain⟨k1,k2⟩:=DH _ (qb i1);obtain⟨r1,r2⟩:=Gj (D:=λk=>k<s.nx\/(1000000<=k/\k<1000000+64*al.size)) (fN s.nx) z (λ i hi=>k2 z rfl i hi);refine⟨q,bC z,?_,k1,rfl,r1,r2⟩;simp only[gP,tW,i1,Option.map_some]
    ·rw[i1]at hx;have⟨k1,k2⟩:=hl.obj j x hx;have hid:ma (fN s.nx) x=x:=by
      cases x with
      |dp c l=>rfl
      |map kc vc l=>rfl
      |hole c l n aa q len=>simp only[ma];rw[ZW (by omega) (k2 q (by simp[cT]))]
      |cells sz rows=>
       simp only[ma];congr 1;have:∀q∈rows,GQ (fN s.nx) q=q:=λq hq=>yj q λi hi=>ZW (by omega) (k2 i (by
        simp only[cT,List.mem_flatten,mem_map];exact⟨_,⟨q,hq,rfl⟩,hi⟩))
       rw[map_congr_left this];simp
     obtain⟨r1,r2⟩:=Gj (D:=λk=>k<s.nx\/(1000000<=k/\k<1000000+64*al.size)) (fN s.nx) x (λ i hi=> .inl (k2 i hi));rw[hid]at r1 r2;refine⟨j,bC x,?_,.inl k1,ZW (by omega) k1,r1,r2⟩;simp only[gP,tW];cases hlo:lk o j with
     |none=>simp[hx]
     |some y=>exact(i2 _ (qb hlo) (ZW (by omega) k1)).elim
   ·have hL:Low (fin s e o (64*al.size)):=by
     constructor
     ·exact hle
     ·have:=hl.ge;show 1000<=s.nx+64*al.size;omega
     ·intro t j hj;rw[JU]at hj;cases ht:lk e t with
      |none=>rw[ht]at hj;have:=hl.env t j hj;show j<s.nx+64*al.size;omega
      |some x=>
       rw[ht,Wz,R5]at hj;obtain⟨q,hq,rfl⟩:=mem_map.1 hj;exact WA hle (LL t x ht q hq)
     ·intro j x hx;rcases t8 j with ⟨q,y,g1,rfl,g3⟩ |⟨g1,_⟩
      ·rw[g3]at hx;rw[dR]at hx;obtain⟨z,rfl,rfl⟩:=hx;obtain⟨k1,k2⟩:=DH _ (qb g1);refine⟨WA hle k1,λi hi=>?_⟩;rw[ZX]at hi;obtain⟨i',hi',rfl⟩:=mem_map.1 hi;exact WA hle (k2 z rfl i' hi')
      ·rw[g1]at hx;have⟨k1,k2⟩:=hl.obj j x hx;refine⟨show j<s.nx+64*al.size by omega,λi hi=>?_⟩;have:=k2 i hi;show i<s.nx+64*al.size;omega
    exact hL.old
  cases d with
  |false=>exact wp_mono (aeF hT hd ho hex hr) done
  |true=>
   refine wp_mono (Q6 hT hm hd ?_ ho hex hr) done;rw[<- ZV (ajx Dd)];simpa using hlex
end
end Go.Gb
namespace Go.Gb
open Go.RowKit
structure Sh(ι:Type) where
 slots:List (Nat×Pt ι)
 cE:List (Nat×OP ι)
 keep:List Nat
 cV:List Nat
 nx:Nat
 wv:List (Nat×CT ι)
def Sh.vars{ι:Type}(s:Sh ι):List (CT ι):=gh s.slots++cx s.cE
section
variable {X:SX}
def nz(z:Bool)(k:Nat):DV X:=bif z then .oz k 0 else .own k 0 0
def ZY(z:Bool)(s:cR X)(t:Nat)(c:CT X.ι):cR X:=
 match eo s.env t with
 | .nil=>if s.nx<1000000 then⟨(t,nz z s.nx)::s.env,(s.nx,some (.dp c []))::s.obj,s.nx+1,s.nx::s.log⟩else s
 |_=>s
def BY(s:cR X)(q j:Nat)(c:CT X.ι):cR X:=
 match ff s.obj q with
 |some (.cells sz [row])=>match row[j]? with
  |some .nil=>if s.nx<1000000 then⟨s.env,(q,some (.cells sz [row.set j (.own s.nx 0 0)]))::(s.nx,some (.dp c []))::s.obj,s.nx+1,q::s.nx::s.log⟩else s
  |_=>s
 |_=>s
def Mq:List (Nat×CT X.ι)->cR X->cR X
 |[],s=>s
 |(t,c)::r,s=>Mq r (bif Nat.ble 1000000 t then bif Nat.ble 1099511627776 t then ZY true s (t -1099511627776) c else BY s ((t -1000000)/4096) ((t -1000000)%4096) c else ZY false s t c)
def QQ:DV X->Bool
 | .undef | .skip=>true
 |_=>false
def encS(sh:Sh X.ι)(s0:cR X)(v:VT (X:=X) sh.vars):cR X:=
 let L:=tY sh.vars v
 let n:=(gh sh.slots).length
 let ol:=λk=>(lk (lens sh.cE (L.drop n)) k).getD 0
 ⟨IB ol sh.slots (L.take n)++sh.keep.map (λ t=>(t,eo s0.env t)),bT ol sh.cE (L.drop n)++sh.cV.map (λ k=>(k,ff s0.obj k)),sh.nx,
  (List.range s0.nx).filter (λ k=>!sh.cV.contains k)++s0.log⟩
def P1(sh:Sh X.ι)(ds:List Nat)(s0 s':cR X)(m:MA X):Bool:=
 decide (m.nm.map (·.1)++sh.cV).Nodup&&decide (m.nm.map (·.2)++sh.cV).Nodup&&decide (sh.cE.map (·.1)).Nodup&&m.nm.all (λ q=>(sh.cE.map (·.1)).contains q.2&&decide (q.2<sh.nx)&&(decide (q.1=q.2) || decide (1000<=q.2)))&&
  sh.slots.all (λ p=>ds.contains p.1)&&sh.keep.all (λ t=>!ds.contains t&&!QQ (eo s'.env t)&&(bo (eo s0.env t)).all λj=>sh.cV.contains j || m.nm.contains (j,j))&&
  sh.cV.all (λ k=>decide (k<s0.nx)&&!(s'.log.take (s'.log.length -s0.log.length)).contains k&&(ff s'.obj k).isSome&&match ff s0.obj k with |some o=>(cT o).all λj=>sh.cV.contains j || m.nm.contains (j,j) |none=>false)&&
  decide (s0.nx<=sh.nx)&&decide (sh.nx<=1000000)
def X4{A:Type}(sh:Sh X.ι)(ds:List Nat)(s0 s':cR X)(k:VT (X:=X) sh.vars->Option A):Option A:=
 (EL (ff s'.obj) (eo s'.env) sh.slots ⟨[],[],[]⟩).bind λm=>(Ak (ff s'.obj) sh.cE m).bind λm=>bif P1 sh ds s0 s' m then(UY sh.vars m.eh).bind λv=>Rk m.ii (k v)else none
def oQ{A:Type}(sh:Sh X.ι)(ds:List Nat)(s0 s':cR X)(k:VT (X:=X) sh.vars->Option A):Option A:=
 bif sh.wv.all (λ p=>bif Nat.ble 1000000 p.1 then !Nat.ble 1099511627776 p.1 || ds.contains (p.1 -1099511627776)else ds.contains p.1)then X4 sh ds s0 (Mq sh.wv s') k else none
end
section
variable {X:SX}
theorem WB{d:DV X}{c:CT X.ι}{x:CT.T X.toSE c}(h:GN d c=some x):bo d=[]:=by
 cases d
 case c=>rfl
 case nil=>rfl
 all_goals cases c<;>cases h
theorem Od:∀{ds:List (DV X)}{l:List (CT X.ι)}{h:HL X.toSE l},wo ds l=some h->aQ ds=[]
 |[],[],_,_=>rfl
 |d::ds,c::l,h,hr=>by
  simp only[wo]at hr;have⟨x,h1,hr⟩:=ah.1 hr;have⟨g,h2,hr⟩:=ah.1 hr;simp only[aQ,WB h1,Od h2,append_nil]
 |[],_::_,_,hr=>by simp[wo]at hr
 |_::_,[],_,hr=>by simp[wo]at hr
theorem aij{d:DV X}{c:CT X.ι}{x:CT.T X.toSE c}(h:dat d c=some x):j8 (den d) (den (.c c x:DV X))/\bo d=[]:=by
 cases c
 case st i=>
  replace h:AG d i=some x:=h
  cases d
  case agg cs=>
   simp only[AG]at h;have⟨g,h1,h⟩:=ah.1 h;cases h;refine⟨λ P β w I v hv=>?_,by simp only[bo,Od h1]⟩;have h2:=(wu h1 (X.flat i)).1;simp only[den,VR]at hv;obtain⟨vs,rfl,hv⟩:=hv;show VR P β w I (.agg ((X.row i (X.make i g)).map AV.t)) _;have h3:(X.row i (X.make i g)).map AV.t=(bG cs).map Gb.wk:=(by rw[h2];exact congrArg _ (X.fR i g));rw[h3];simp only[VR];exact⟨vs,rfl,be.wk _ _ hv⟩
  case c a y=>
   replace h:iX a (.st i) y=some x:=h
   rw[(mY h).1];exact⟨j8.refl _,rfl⟩
  all_goals cases h
 all_goals
  have h1:=tV h;refine⟨λ P β w I v hv=>?_,WB h⟩;simp only[den];rw[<- h1];exact hv.wk
def fW(m m':MA X):Prop:=(∀ q∈m.nm,q∈m'.nm)/\(∀ c∈m.ii,c∈m'.ii)
theorem fW.refl(m:MA X):fW m m:=⟨λ _ h=>h,λ_ h=>h⟩
theorem fW.trans{a b c:MA X}(h:fW a b)(h':fW b c):fW a c:=⟨λ q hq=>h'.1 q (h.1 q hq),λq hq=>h'.2 q (h.2 q hq)⟩
theorem eF(m:MA X)(k' k:Nat):(addN m k' k).eh=m.eh/\(addN m k' k).ii=m.ii:=by grind [addN]
theorem mM(m:MA X)(k' k:Nat):(k',k)∈(addN m k' k).nm:=by grind [addN]
theorem om(m:MA X)(k' k:Nat):fW m (addN m k' k):=by
 unfold addN;split
 ·exact fW.refl m
 ·exact⟨λ q hq=>by simp[hq],λ_ h=>h⟩
variable {get:Nat->Option (bp X)}
mutual
theorem Z3:∀(p:Pt X.ι)(d:DV X)(m m':MA X),mP get p d m=some m'->fW m m'/\∃an,m'.eh=m.eh++an/\an.length=p.vars.length
 | .v c,d,m,m',h=>by
  simp only[mP]at h;rw[ah]at h;obtain⟨x,h1,h⟩:=h;cases h;exact⟨⟨λ _ h=>h,λ_ h=>h⟩,[⟨c,x⟩],rfl,rfl⟩
 | .o k,d,m,m',h=>by
  simp only[mP]at h;split at h
  ·rename_i k' len;have⟨o,h1,h⟩:=ah.1 h;split at h
   ·cases h;refine⟨fW.trans (b:=⟨m.nm,m.eh,m.ii++_⟩) ⟨λ _ h=>h,λ_ h=>by simp[h]⟩ (om _ _ _),[],by rw[(eF _ _ _).1];simp,rfl⟩
   ·cases h
  ·cases h
 | .oz k,d,m,m',h=>by
  simp only[mP]at h;split at h
  ·have⟨o,h1,h⟩:=ah.1 h;split at h
   ·cases h;refine⟨fW.trans (b:=⟨m.nm,m.eh,m.ii++_⟩) ⟨λ _ h=>h,λ_ h=>by simp[h]⟩ (om _ _ _),[],by rw[(eF _ _ _).1];simp,rfl⟩
   ·cases h
  ·have⟨o,h1,h⟩:=ah.1 h;split at h
   ·cases h;refine⟨fW.trans (b:=⟨m.nm,m.eh,m.ii++_⟩) ⟨λ _ h=>h,λ_ h=>by simp[h]⟩ (om _ _ _),[],by rw[(eF _ _ _).1];simp,rfl⟩
   ·cases h
  ·cases h
 | .p k,d,m,m',h=>by
  simp only[mP]at h;split at h
  ·cases h;exact⟨om _ _ _,[],by rw[(eF _ _ _).1];simp,rfl⟩
  ·cases h
 | .mp k,d,m,m',h=>by
  simp only[mP]at h;split at h
  ·cases h;exact⟨om _ _ _,[],by rw[(eF _ _ _).1];simp,rfl⟩
  ·cases h
 | .nil,d,m,m',h=>by
  simp only[mP]at h;split at h
  ·cases h;exact⟨fW.refl _,[],by simp,rfl⟩
  ·cases h
 | .f F fs cs,d,m,m',h=>by
  simp only[mP]at h;split at h
  ·split at h
   ·rw[ah]at h;obtain⟨m1,h1,h⟩:=h;obtain⟨a1,n1,b1,c1⟩:=wH fs _ m m1 h1;obtain⟨a2,n2,b2,c2⟩:=wH cs _ m1 m' h;exact⟨a1.trans a2,n1++n2,by rw[b2,b1,aM],by simp[Pt.vars,c1,c2]⟩
   ·cases h
  ·cases h
 | .od k,d,m,m',h=>by
  simp only[mP]at h;split at h
  ·rename_i k' aa len;have⟨o,h1,h⟩:=ah.1 h;split at h
   ·cases h;refine⟨fW.trans (b:=⟨m.nm,m.eh++[⟨.int .i64,(aa:Int)⟩],m.ii++_⟩) ⟨λ _ h=>h,λ_ h=>by simp[h]⟩ (om _ _ _),[⟨.int .i64,(aa:Int)⟩],by rw[(eF _ _ _).1],rfl⟩
   ·cases h
  ·cases h
 | .a ps,d,m,m',h=>by
  simp only[mP]at h;split at h
  ·exact wH ps _ m m' h
  ·cases h
theorem wH:∀(ps:List (Pt X.ι))(ds:List (DV X))(m m':MA X),qT get ps ds m=some m'->fW m m'/\∃an,m'.eh=m.eh++an/\an.length=(cI ps).length
 |[],[],m,m',h=>by
  simp only[qT,ay]at h;subst h;exact⟨fW.refl _,[],by simp,rfl⟩
 |p::ps,d::ds,m,m',h=>by
  simp only[qT]at h;have⟨m1,h1,h⟩:=ah.1 h;have⟨a1,n1,b1,c1⟩:=Z3 p d m m1 h1;have⟨a2,n2,b2,c2⟩:=wH ps ds m1 m' h;exact⟨a1.trans a2,n1++n2,by rw[b2,b1,aM],by simp[cI,c1,c2]⟩
 |[],_::_,m,m',h=>by simp[qT]at h
 |_::_,[],m,m',h=>by simp[qT]at h
end
theorem wI:∀(rs:List (List (Pt X.ι)))(qs:List (List (DV X)))(m m':MA X),Db get rs qs m=some m'->fW m m'/\∃an,m'.eh=m.eh++an/\an.length=(tX rs).length
 |[],[],m,m',h=>by
  simp only[Db,ay]at h;subst h;exact⟨fW.refl _,[],by simp,rfl⟩
 |r::rs,q::qs,m,m',h=>by
  simp only[Db]at h;have⟨m1,h1,h⟩:=ah.1 h;have⟨a1,n1,b1,c1⟩:=wH r q m m1 h1;have⟨a2,n2,b2,c2⟩:=wI rs qs m1 m' h;exact⟨a1.trans a2,n1++n2,by rw[b2,b1,aM],by simp[tX,c1,c2]⟩
 |[],_::_,m,m',h=>by simp[Db]at h
 |_::_,[],m,m',h=>by simp[Db]at h
section
variable {NM:List (Nat×Nat)} {f:Nat->Nat} {df:Nat->Nat}
def DN(NM:List (Nat×Nat))(j:Nat):Prop:=∃k,(j,k)∈NM
def SN(NM:List (Nat×Nat))(j:Nat):Prop:=∃k,(k,j)∈NM
theorem JV{D:Nat->Prop}{f:Nat->Nat}{P:Program}{β:Nat->Option cA}{w:World}{I:Nat->Prop}:∀{a b:List AV}(_:gO D f a b)(u:List Value),be P β w I (uK f a) u->be P β w I b u
 |[],[],_,u,hu=>hu
 |[],_::_,hr,_,_=>hr.elim
 |_::_,[],hr,_,_=>hr.elim
 |y::ys,z::zs,hr,[],hu=>by simp[uK,be]at hu
 |y::ys,z::zs,hr,v::vs,hu=>by
  simp only[uK,be]at hu ⊢;exact⟨hr.1.2 _ _ _ _ _ hu.1,JV hr.2 vs hu.2⟩
mutual
theorem Z0(hf:∀q∈NM,f q.1=q.2)(ho:∀q∈NM,∀c l,get q.1=some (.dp c l)->df q.2=l.length):∀(p:Pt X.ι)(d:DV X)(m m':MA X),mP get p d m=some m'->(∀ q∈m'.nm,q∈NM)->(∀ c∈m'.ii,c=true)->
 ∃an,m'.eh=m.eh++an/\∃d',(∀ ag,eP df p (an++ag)=(d',ag))/\j8 (eW f (den d)) (den d')/\(∀ j∈bo d,DN NM j)/\(∀ j∈bo d',SN NM j)
 | .v c,d,m,m',h,_,_=>by
  simp only[mP]at h;rw[ah]at h;obtain⟨x,h1,h⟩:=h;cases h;have⟨h2,h3⟩:=aij h1;refine⟨[⟨c,x⟩],rfl,.c c x,λag=>rfl,?_,by simp[h3],by simp[bo]⟩;rw[<- yg,R4 d (by simp[h3])];exact h2
 | .o k,d,m,m',h,hn,hc=>by
  simp only[mP]at h;split at h
  ·rename_i k' len;rw[ah]at h;obtain⟨o,h1,h⟩:=h;split at h
   ·rename_i c l;cases h;have hq:(k',k)∈NM:=hn _ (mM _ _ _);have he:len=l.length:=by
     have:=hc (bj len l.length) (by rw[(eF _ _ _).2];simp);simpa[bj]using this
    refine⟨[],by rw[(eF _ _ _).1];simp,.own k 0 (df k),λag=>rfl,?_,?_,?_⟩
    ·simp only[den,eW];rw[hf _ hq,ho _ hq c l h1,he];exact j8.refl _
    ·intro j hj;simp only[bo,aT]at hj;subst hj;exact⟨k,hq⟩
    ·intro j hj;simp only[bo,aT]at hj;subst hj;exact⟨k',hq⟩
   ·cases h
  ·cases h
 | .oz k,d,m,m',h,hn,hc=>by
  simp only[mP]at h;split at h
  ·rename_i k' len;rw[ah]at h;obtain⟨o,h1,h⟩:=h;split at h
   ·rename_i c l;cases h;have hq:(k',k)∈NM:=hn _ (mM _ _ _);have he:len≠0/\len=l.length:=by
     have:=hc (!(len==0)&&bj len l.length) (by rw[(eF _ _ _).2];simp);simpa[bj]using this
    refine⟨[],by rw[(eF _ _ _).1];simp,.oz k (df k),λag=>rfl,?_,λj hj=>?_,λj hj=>?_⟩
    ·simp only[den,eW];rw[hf _ hq,ho _ hq c l h1,<- he.2];intro P β w I v hv;simp only[VR]at hv ⊢;exact .inr ⟨he.1,hv.resolve_left λh=>he.1 h.2.2.2⟩
    ·simp only[bo,aT]at hj;subst hj;exact⟨k,hq⟩
    ·simp only[bo,aT]at hj;subst hj;exact⟨k',hq⟩
   ·cases h
  ·rename_i k' len;rw[ah]at h;obtain⟨o,h1,h⟩:=h;split at h
   ·rename_i c l;cases h;have hq:(k',k)∈NM:=hn _ (mM _ _ _);have he:len=l.length:=by
     have:=hc (bj len l.length) (by rw[(eF _ _ _).2];simp);simpa[bj]using this
    refine⟨[],by rw[(eF _ _ _).1];simp,.oz k (df k),λag=>rfl,?_,λj hj=>?_,λj hj=>?_⟩
    ·simp only[den,eW];rw[hf _ hq,ho _ hq c l h1,he];exact j8.refl _
    ·simp only[bo,aT]at hj;subst hj;exact⟨k,hq⟩
    ·simp only[bo,aT]at hj;subst hj;exact⟨k',hq⟩
   ·cases h
  ·cases h
 | .p k,d,m,m',h,hn,hc=>by
  simp only[mP]at h;split at h
  ·rename_i k';cases h;have hq:(k',k)∈NM:=hn _ (mM _ _ _);refine⟨[],by rw[(eF _ _ _).1];simp,.ptr k 0 0,λag=>rfl,?_,?_,?_⟩
   ·simp only[den,eW];rw[hf _ hq];exact j8.refl _
   ·intro j hj;simp only[bo,aT]at hj;subst hj;exact⟨k,hq⟩
   ·intro j hj;simp only[bo,aT]at hj;subst hj;exact⟨k',hq⟩
  ·cases h
 | .mp k,d,m,m',h,hn,hc=>by
  simp only[mP]at h;split at h
  ·rename_i k';cases h;have hq:(k',k)∈NM:=hn _ (mM _ _ _);refine⟨[],by rw[(eF _ _ _).1];simp,.mp k,λag=>rfl,?_,?_,?_⟩
   ·simp only[den,eW];rw[hf _ hq];exact j8.refl _
   ·intro j hj;simp only[bo,aT]at hj;subst hj;exact⟨k,hq⟩
   ·intro j hj;simp only[bo,aT]at hj;subst hj;exact⟨k',hq⟩
  ·cases h
 | .nil,d,m,m',h,_,_=>by
  simp only[mP]at h;split at h
  ·cases h;exact⟨[],by simp,.nil,λag=>rfl,j8.refl _,by simp[bo],by simp[bo]⟩
  ·cases h
 | .f F fs cs,d,m,m',h,hn,hc=>by
  simp only[mP]at h;split at h
  ·rename_i F' first caps
   split at h
   ·rename_i e;subst e;rw[ah]at h;obtain⟨m1,h1,h⟩:=h;have hm:=(wH cs _ m1 m' h).1;obtain⟨n1,a1,f',b1,c1,e1,g1⟩:=Ar hf ho fs _ m m1 h1 (λ q hq=>hn q (hm.1 q hq)) (λ q hq=>hc q (hm.2 q hq));obtain⟨n2,a2,c',b2,c2,e2,g2⟩:=Ar hf ho cs _ m1 m' h hn hc;refine⟨n1++n2,by rw[a2,a1,aM],.fn F f' c',λag=>by simp only[eP,aM,b1,b2],?_,?_,?_⟩
    ·intro P β w I v hv;simp only[den,eW,VR]at hv ⊢;obtain⟨us,vs,rfl,hu,hv⟩:=hv;exact⟨us,vs,rfl,JV c1 _ hu,JV c2 _ hv⟩
    ·intro j hj;simp only[bo,aY]at hj;exact hj.elim (e1 j) (e2 j)
    ·intro j hj;simp only[bo,aY]at hj;exact hj.elim (g1 j) (g2 j)
   ·cases h
  ·cases h
 | .od k,d,m,m',h,hn,hc=>by
  simp only[mP]at h;split at h
  ·rename_i k' aa len;rw[ah]at h;obtain⟨o,h1,h⟩:=h;split at h
   ·rename_i c l;cases h;have hq:(k',k)∈NM:=hn _ (mM _ _ _);have he:aa+len=l.length:=by
     have:=hc (bj (aa+len) l.length) (by rw[(eF _ _ _).2];simp);simpa[bj]using this
    refine⟨[⟨.int .i64,(aa:Int)⟩],by rw[(eF _ _ _).1],.own k aa (df k -aa),λag=>?_,?_,?_,?_⟩
    ·simp only[eP,cons_append,bK];have:Wi (X:=X) ⟨.int .i64,(aa:Int)⟩=aa:=by
      simp only[Wi];rw[Rv];simp
     rw[this]
    ·simp only[den,eW];rw[hf _ hq,ho _ hq c l h1,show l.length -aa=len by omega];exact j8.refl _
    ·intro j hj;simp only[bo,aT]at hj;subst hj;exact⟨k,hq⟩
    ·intro j hj;simp only[bo,aT]at hj;subst hj;exact⟨k',hq⟩
   ·cases h
  ·cases h
 | .a ps,d,m,m',h,hn,hc=>by
  simp only[mP]at h;split at h
  ·rename_i ds;have⟨an,h1,ds',h2,h3,h4,h5⟩:=Ar hf ho ps ds m m' h hn hc;refine⟨an,h1,.agg ds',λag=>by simp only[eP,h2],?_,by simpa[bo]using h4,by simpa[bo]using h5⟩;intro P β w I v hv;simp only[den,eW,VR]at hv ⊢;obtain⟨vs,rfl,hv⟩:=hv;refine⟨vs,rfl,?_⟩;exact JV h3 _ hv
  ·cases h
theorem Ar(hf:∀q∈NM,f q.1=q.2)(ho:∀q∈NM,∀c l,get q.1=some (.dp c l)->df q.2=l.length):∀(ps:List (Pt X.ι))(ds:List (DV X))(m m':MA X),qT get ps ds m=some m'->(∀ q∈m'.nm,q∈NM)->(∀ c∈m'.ii,c=true)->
 ∃an,m'.eh=m.eh++an/\∃ds',(∀ ag,kw df ps (an++ag)=(ds',ag))/\gO (DN NM) f (bG ds) (bG ds')/\(∀ j∈aQ ds,DN NM j)/\(∀ j∈aQ ds',SN NM j)
 |[],[],m,m',h,_,_=>by
  simp only[qT,ay]at h;subst h;exact⟨[],by simp,[],λag=>rfl,trivial,by simp[aQ],by simp[aQ]⟩
 |p::ps,d::ds,m,m',h,hn,hc=>by
  simp only[qT]at h;have⟨m1,h1,h⟩:=ah.1 h;have hm:=(wH ps ds m1 m' h).1;obtain⟨n1,a1,d',b1,c1,e1,g1⟩:=Z0 hf ho p d m m1 h1 (λ q hq=>hn q (hm.1 q hq)) (λ q hq=>hc q (hm.2 q hq));have⟨n2,a2,ds',b2,c2,e2,g2⟩:=Ar hf ho ps ds m1 m' h hn hc;refine⟨n1++n2,by rw[a2,a1,aM],d'::ds',λag=>?_,⟨⟨λ k hk=>e1 k (by rwa [ic]at hk),c1⟩,c2⟩,?_,?_⟩
  ·simp only[kw,aM,b1,b2]
  ·intro j hj;simp only[aQ,aY]at hj;exact hj.elim (e1 j) (e2 j)
  ·intro j hj;simp only[aQ,aY]at hj;exact hj.elim (g1 j) (g2 j)
 |[],_::_,m,m',h,_,_=>by simp[qT]at h
 |_::_,[],m,m',h,_,_=>by simp[qT]at h
end
theorem Oe(hf:∀q∈NM,f q.1=q.2)(ho:∀q∈NM,∀c l,get q.1=some (.dp c l)->df q.2=l.length):∀(rs:List (List (Pt X.ι)))(qs:List (List (DV X)))(m m':MA X),Db get rs qs m=some m'->(∀ q∈m'.nm,q∈NM)->(∀ c∈m'.ii,c=true)->
 ∃an,m'.eh=m.eh++an/\∃A0,(∀ ag,tZ df rs (an++ag)=(A0,ag))/\fg (DN NM) f (qs.map bG) (A0.map bG)/\(∀ j∈(qs.map aQ).flatten,DN NM j)/\(∀ j∈(A0.map aQ).flatten,SN NM j)
 |[],[],m,m',h,_,_=>by
  simp only[Db,ay]at h;subst h;exact⟨[],by simp,[],λag=>rfl,trivial,by simp,by simp⟩
 |r::rs,q::qs,m,m',h,hn,hc=>by
  simp only[Db]at h;have⟨m1,h1,h⟩:=ah.1 h;have hm:=(wI rs qs m1 m' h).1;obtain⟨n1,a1,d',b1,c1,e1,g1⟩:=Ar hf ho r q m m1 h1 (λ q hq=>hn q (hm.1 q hq)) (λ q hq=>hc q (hm.2 q hq));have⟨n2,a2,ds',b2,c2,e2,g2⟩:=Oe hf ho rs qs m1 m' h hn hc;refine⟨n1++n2,by rw[a2,a1,aM],d'::ds',λag=>?_,⟨c1,c2⟩,?_,?_⟩
  ·simp only[tZ,aM,b1,b2]
  all_goals grind
 |[],_::_,m,m',h,_,_=>by simp[Db]at h
 |_::_,[],m,m',h,_,_=>by simp[Db]at h
end
end
section
variable {X:SX} {get:Nat->Option (bp X)} {env:Nat->DV X}
theorem EP:∀(sl:List (Nat×Pt X.ι))(m m':MA X),EL get env sl m=some m'->fW m m'/\∃an,m'.eh=m.eh++an/\an.length=(gh sl).length
 |[],m,m',h=>by
  simp only[EL,ay]at h;subst h;exact⟨fW.refl _,[],by simp,rfl⟩
 |(t,p)::r,m,m',h=>by
  simp only[EL]at h;rw[ah]at h;obtain⟨m1,h1,h⟩:=h;obtain⟨a1,n1,b1,c1⟩:=Z3 p _ m m1 h1;have⟨a2,n2,b2,c2⟩:=EP r m1 m' h;exact⟨a1.trans a2,n1++n2,by rw[b2,b1,aM],by simp[gh,c1,c2]⟩
theorem kW:∀(os:List (Nat×OP X.ι))(m m':MA X),Ak get os m=some m'->fW m m'/\∃an,m'.eh=m.eh++an/\an.length=(cx os).length
 |[],m,m',h=>by
  simp only[Ak,ay]at h;subst h;exact⟨fW.refl _,[],by simp,rfl⟩
 |(k,op)::r,m,m',h=>by
  simp only[Ak]at h;rw[ah]at h;obtain⟨o,h1,h⟩:=h;split at h
  ·rename_i c c' l;rw[ah]at h;obtain⟨l',h2,h⟩:=h;obtain⟨a2,n2,b2,c2⟩:=kW r _ m' h;refine⟨fW.trans (fW.trans (b:=⟨m.nm,m.eh++[⟨.sl c,l'⟩],m.ii⟩) ⟨λ _ h=>h,λ_ h=>h⟩ (om _ _ _)) a2,[⟨.sl c,l'⟩]++n2,?_,by simp[cx,c2]⟩;rw[b2,(eF _ _ _).1,aM]
  ·rename_i kc vc sA so l;rw[ah]at h;obtain⟨l',h2,h⟩:=h;obtain⟨a2,n2,b2,c2⟩:=kW r _ m' h;refine⟨fW.trans (fW.trans (b:=⟨m.nm,m.eh++[⟨.mp kc vc,l'⟩],m.ii⟩) ⟨λ _ h=>h,λ_ h=>h⟩ (om _ _ _)) a2,[⟨.mp kc vc,l'⟩]++n2,?_,by simp[cx,c2]⟩;rw[b2,(eF _ _ _).1,aM]
  ·rename_i sz rows sz' rows';split at h
   ·rw[ah]at h;obtain⟨m1,h2,h⟩:=h;obtain⟨a1,n1,b1,c1⟩:=wI rows _ _ m1 h2;have⟨a2,n2,b2,c2⟩:=kW r m1 m' h;refine⟨((om m _ _).trans a1).trans a2,n1++n2,?_,by simp[cx,c1,c2]⟩;rw[b2,b1,(eF _ _ _).1,aM]
   ·cases h
  ·cases h
variable {NM:List (Nat×Nat)} {f:Nat->Nat} {df:Nat->Nat}
theorem BM:∀(os:List (Nat×OP X.ι))(m m':MA X),Ak get os m=some m'->(∀ q∈m'.nm,q∈NM)->∃an,m'.eh=m.eh++an/\∀ag,∀k∈os.map (·.1),∃k' o,(k',k)∈NM/\get k'=some o/\∀c l,o= .dp c l->(k,List.length l)∈lens os (an++ag)
 |[],m,m',h,_=>by
  simp only[Ak,ay]at h;subst h;exact⟨[],by simp,λag k hk=>by simp at hk⟩
 |(k,op)::r,m,m',h,hn=>by
  simp only[Ak]at h;rw[ah]at h;obtain⟨o,h1,h⟩:=h;split at h
  ·rename_i c c' l;rw[ah]at h;obtain⟨l',h2,h⟩:=h;have hm:=(kW r _ m' h).1;obtain⟨n2,b2,c2⟩:=BM r _ m' h hn;refine⟨[⟨.sl c,l'⟩]++n2,by rw[b2,(eF _ _ _).1,aM],λag j hj=>?_⟩;simp only[aF,aN]at hj;simp only[cons_append,bK,lens];by_cases hjk:j=k
   ·subst hjk;refine⟨_,_,hn _ (hm.1 _ (mM _ _ _)),h1,λc2 l2 he=>?_⟩;injection he with e1 e2;subst e1;have e2:=eq_of_heq e2;subst e2;have:=congrArg List.length (iL h2).2;simp only[length_map]at this;rw[this];exact List.mem_cons_self
   ·rcases hj with rfl |hj
    ·exact(hjk rfl).elim
    ·have⟨k',o',g1,g2,g3⟩:=c2 ag j hj;exact⟨k',o',g1,g2,λc l he=>dV _ (g3 c l he)⟩
  ·rename_i kc vc sA so l;rw[ah]at h;obtain⟨l',h2,h⟩:=h;have hm:=(kW r _ m' h).1;obtain⟨n2,b2,c2⟩:=BM r _ m' h hn;refine⟨[⟨.mp kc vc,l'⟩]++n2,by rw[b2,(eF _ _ _).1,aM],λag j hj=>?_⟩;simp only[aF,aN]at hj;simp only[cons_append,bK,lens,List.drop_succ_cons,List.drop_zero];by_cases hjk:j=k
   ·subst hjk;exact⟨_,_,hn _ (hm.1 _ (mM _ _ _)),h1,λc2 l2 he=>by cases he⟩
   ·rcases hj with rfl |hj
    ·exact(hjk rfl).elim
    ·exact c2 ag j hj
  ·rename_i sz rows sz' rows';split at h
   ·have⟨m1,h2,h⟩:=ah.1 h;obtain⟨a1,n1,b1,c1⟩:=wI rows _ _ m1 h2;have hm:=(kW r _ m' h).1;obtain⟨n2,b2,c2⟩:=BM r _ m' h hn;refine⟨n1++n2,by rw[b2,b1,(eF _ _ _).1,aM],λag j hj=>?_⟩;simp only[aF,aN]at hj;have hd:(n1++n2++ag).drop (tX rows).length=n2++ag:=(by rw[<- c1,aM,List.drop_left]);simp only[lens,hd];by_cases hjk:j=k
    ·subst hjk;exact⟨_,_,hn _ (hm.1 _ (a1.1 _ (mM _ _ _))),h1,λc2 l2 he=>by cases he⟩
    ·rcases hj with rfl |hj
     ·exact(hjk rfl).elim
     ·exact c2 ag j hj
   ·cases h
  ·cases h
theorem Gl:∀(os:List (Nat×OP X.ι))(L:List (DC X)),((lens os L).map (·.1)).Sublist (os.map (·.1))
 |[],_=>by simp[lens]
 |(k,.l c)::r,L=>by
  simp only[lens];split
  ·exact(Gl r _).cons_cons _
  ·exact List.nil_sublist _
 |(k,.m kc vc)::r,L=>by
  simp only[lens];exact(Gl r _).cons _
 |(k,.c sz rows)::r,L=>by
  simp only[lens];exact(Gl r _).cons _
theorem JW(hf:∀q∈NM,f q.1=q.2)(ho:∀q∈NM,∀c l,get q.1=some (.dp c l)->df q.2=l.length):∀(sl:List (Nat×Pt X.ι))(m m':MA X),EL get env sl m=some m'->(∀ q∈m'.nm,q∈NM)->(∀ c∈m'.ii,c=true)->
 ∃an,m'.eh=m.eh++an/\∃es,(∀ ag,IB df sl (an++ag)=es)/\(∀ p∈es,p.1∈sl.map (·.1)/\j8 (eW f (den (env p.1))) (den p.2)/\(∀ j∈bo (env p.1),DN NM j)/\(∀ j∈bo p.2,SN NM j))
 |[],m,m',h,_,_=>by
  simp only[EL,ay]at h;subst h;exact⟨[],by simp,[],λag=>rfl,by simp⟩
 |(t,p)::r,m,m',h,hn,hc=>by
  simp only[EL]at h;have⟨m1,h1,h⟩:=ah.1 h;have hm:=(EP r m1 m' h).1;obtain⟨n1,a1,d',b1,c1,e1,g1⟩:=Z0 hf ho p _ m m1 h1 (λ q hq=>hn q (hm.1 q hq)) (λ q hq=>hc q (hm.2 q hq));have⟨n2,a2,es,b2,c2⟩:=JW hf ho r m1 m' h hn hc;refine⟨n1++n2,by rw[a2,a1,aM],(t,d')::es,λag=>by simp only[IB,aM,b1,b2],λq hq=>?_⟩
  all_goals grind
theorem WC{D:Nat->Prop}(f:Nat->Nat):∀rows:List (List Tree),fg D f (aG rows) (aG rows)
 |[]=>trivial
 |r::rs=>by
  refine⟨?_,WC f rs⟩
  induction r with
  |nil=>trivial
  |cons y ys ih=>exact⟨⟨by simp[refs],j8.refl _⟩,ih⟩
theorem WE{a b c d:CT X.ι}{l:List (CT.T X.toSE a×CT.T X.toSE b)}{l':List (CT.T X.toSE c×CT.T X.toSE d)}(h:iX (.mp a b) (.mp c d) l=some l'):bC (.map c d l':bp X)=bC (.map a b l):=by
 obtain⟨e,h⟩:=qc h
 grind
theorem WG{D:Nat->Prop}(f:Nat->Nat){kc vc:CT X.ι}:∀l:List (CT.T X.toSE kc×CT.T X.toSE vc),fg D f (bC (.map kc vc l:bp X)).rows (bC (.map kc vc l:bp X)).rows
 |[]=>trivial
 |p::ps=>⟨⟨⟨by simp[xZ],by rw[RG];exact j8.refl _⟩,⟨by simp[xZ],by rw[RG];exact j8.refl _⟩,trivial⟩,WG f ps⟩
theorem yu(hf:∀q∈NM,f q.1=q.2)(ho:∀q∈NM,∀c l,get q.1=some (.dp c l)->df q.2=l.length):∀(os:List (Nat×OP X.ι))(m m':MA X),Ak get os m=some m'->(∀ q∈m'.nm,q∈NM)->(∀ c∈m'.ii,c=true)->
 ∃an,m'.eh=m.eh++an/\∃xs,(∀ ag,bT df os (an++ag)=xs)/\(∀ p∈xs,p.1∈os.map (·.1)/\∃k' o o',p.2=some o'/\(k',p.1)∈NM/\get k'=some o/\(bC o').sz=(bC o).sz/\fg (DN NM) f (bC o).rows (bC o').rows/\(∀ j∈cT o',SN NM j))
 |[],m,m',h,_,_=>by
  simp only[Ak,ay]at h;subst h;exact⟨[],by simp,[],λag=>rfl,by simp⟩
 |(k,op)::r,m,m',h,hn,hc=>by
  simp only[Ak]at h;rw[ah]at h;obtain⟨o,h1,h⟩:=h;split at h
  ·rename_i c c' l;rw[ah]at h;obtain⟨l',h2,h⟩:=h;have hm:=(kW r _ m' h).1;obtain⟨n2,a2,xs,b2,c2⟩:=yu hf ho r _ m' h hn hc;refine⟨[⟨.sl c,l'⟩]++n2,by rw[a2,(eF _ _ _).1,aM],(k,some (.dp c l'))::xs,λag=>by simp only[cons_append,bK,bT,b2],λq hq=>?_⟩;rcases aN.1 hq with rfl |hq
   ·refine⟨by simp,_,_,_,rfl,hn _ (hm.1 _ (mM _ _ _)),h1,?_,?_,by simp[cT]⟩
    ·simp only[bC,(iL h2).1]
    ·simp only[bC,(iL h2).2];exact WC f _
   ·have⟨i1,i2⟩:=c2 q hq;exact⟨by simp only[aF,aN];exact .inr i1,i2⟩
  ·rename_i kc vc sA so l;rw[ah]at h;obtain⟨l',h2,h⟩:=h;have hm:=(kW r _ m' h).1;obtain⟨n2,a2,xs,b2,c2⟩:=yu hf ho r _ m' h hn hc;refine⟨[⟨.mp kc vc,l'⟩]++n2,by rw[a2,(eF _ _ _).1,aM],(k,some (.map kc vc l'))::xs,λag=>by simp only[cons_append,bK,bT,b2],λq hq=>?_⟩;rcases aN.1 hq with rfl |hq
   ·refine⟨by simp,_,_,_,rfl,hn _ (hm.1 _ (mM _ _ _)),h1,?_,?_,by simp[cT]⟩
    ·rw[WE h2]
    ·rw[WE h2];exact WG f _
   ·have⟨i1,i2⟩:=c2 q hq;exact⟨by simp only[aF,aN];exact .inr i1,i2⟩
  ·rename_i sz rows sz' rows';split at h
   ·rename_i hsz;have⟨m1,h2,h⟩:=ah.1 h;have hm1:=(wI rows _ _ m1 h2).1;have hm:=(kW r _ m' h).1;obtain⟨n1,a1,qs,b1,c1,e1,g1⟩:=Oe hf ho rows _ _ m1 h2 (λ q hq=>hn q (hm.1 q hq)) (λ q hq=>hc q (hm.2 q hq));obtain⟨n2,a2,xs,b2,c2⟩:=yu hf ho r _ m' h hn hc;refine⟨n1++n2,by rw[a2,a1,(eF _ _ _).1,aM],(k,some (.cells sz qs))::xs,λag=>by simp only[aM,bT,b1,b2],λq hq=>?_⟩;rcases aN.1 hq with rfl |hq
    ·exact⟨by simp,_,_,_,rfl,hn _ (hm.1 _ (hm1.1 _ (mM _ _ _))),h1,hsz,c1,g1⟩
    ·have⟨i1,i2⟩:=c2 q hq;exact⟨by simp only[aF,aN];exact .inr i1,i2⟩
   ·cases h
  ·cases h
theorem ae3{d:DV X}(h:QQ d=false)(h':d= .undef):False:=by subst h';cases h
theorem X5{A:Type}{sh:Sh X.ι}{ds:List Nat}{s0 s':cR X}{k:VT (X:=X) sh.vars->Option A}{r:A}(hl0:Low s0)(hx:Ext (· ∈ds) s0 s')(h:X4 sh ds s0 s' k=some r):
 ∃v,k v=some r/\Low (encS sh s0 v)/\Ext (· ∈ds) s0 (encS sh s0 v)/\∀(P:Program) (w0:World) (O0:js) (N:Nat) (β:Nat->Option cA) (I:Nat->Prop) (a:Act) (w:World),Rel P w0 O0 N β I s'.st a w->∃ β',Rel P w0 O0 N β' I (encS sh s0 v).st a w:=by
 unfold X4 at h;have⟨m1,h1,h⟩:=ah.1 h;have⟨m,h2,h⟩:=ah.1 h;have⟨h3,h⟩:=dF h;have⟨v,h4,h⟩:=ah.1 h;have⟨h5,h6⟩:=oh h;simp only[P1,aJ,aR]at h3;obtain⟨⟨⟨⟨⟨⟨⟨⟨n1,n2⟩,n3⟩,n4⟩,n5⟩,n6⟩,n7⟩,n8⟩,n9⟩:=h3;have hm2:=(kW _ _ _ h2).1;have tt:=Ru h4;obtain⟨_,nA,dA,lA⟩:=EP _ _ _ h1;simp only[bK]at dA;have J0:(m.nm.map (·.1)).Nodup:=(List.nodup_append.1 n1).1;have JT:(m.nm.map (·.2)).Nodup:=(List.nodup_append.1 n2).1;have hsw:((m.nm.map λq=>(q.2,q.1)).map (·.1)).Nodup:=by rw[map_map];exact JT
 generalize hf':(λ j=>match lk m.nm j with |some q=>q |none=>j:Nat->Nat)=f;generalize hg':(λ j=>match lk (m.nm.map λq=>(q.2,q.1)) j with |some q=>q |none=>j:Nat->Nat)=g;have hf:∀q∈m.nm,f q.1=q.2:=by
  rintro⟨p,q⟩ hq;rw[<- hf'];simp only[sH J0 hq]
 have hg:∀q∈m.nm,g q.2=q.1:=by
  rintro⟨p,q⟩ hq;rw[<- hg'];have:(q,p)∈m.nm.map λq=>(q.2,q.1):=mem_map.2 ⟨(p,q),hq,rfl⟩;simp only[sH hsw this]
 have mj:∀j∈sh.cV,f j=j:=by
  intro j hj;rw[<- hf'];cases hh:lk m.nm j with
  |none=>simp[hh]
  |some q=>exact((List.nodup_append.1 n1).2.2 j (mem_map.2 ⟨(j,q),qb hh,rfl⟩) j hj rfl).elim
 have Do:∀j∈sh.cV,g j=j:=by
  intro j hj;rw[<- hg'];cases hh:lk (m.nm.map λq=>(q.2,q.1)) j with
  |none=>simp[hh]
  |some q=>
   have h1:=qb hh;simp only[mem_map]at h1;obtain⟨z,hz,e⟩:=h1;injection e with e1 e2;exact((List.nodup_append.1 n2).2.2 j (mem_map.2 ⟨z,hz,e1⟩) j hj rfl).elim
 have hg0:∀j,j<1000->g j=j:=by
  intro j hj;rw[<- hg'];cases hh:lk (m.nm.map λq=>(q.2,q.1)) j with
  |none=>simp[hh]
  |some q=>
   have h1:=qb hh;simp only[mem_map]at h1;obtain⟨z,hz,e⟩:=h1;injection e with e1 e2;have:=all_eq_true.1 n4 z hz;simp only[aJ,Bool.or_eq_true,aR]at this;simp only[hh];omega
 have hgf:∀j,(DN m.nm j\/j∈sh.cV)->g (f j)=j:=by
  rintro j (⟨q,hq⟩ |hj)
  ·rw[hf _ hq];exact hg _ hq
  ·rw[mj j hj];exact Do j hj
 obtain⟨nB,dB,lB⟩:=BM (NM:=m.nm) _ _ _ h2 (λ q hq=>hq);have hL:m.eh=nA++nB:=by rw[dB,dA]
 have hdrop:(tY sh.vars v).drop (gh sh.slots).length=nB:=by rw[tt,hL,<- lA,List.drop_left]
 have htake:(tY sh.vars v).take (gh sh.slots).length=nA:=by rw[tt,hL,<- lA,List.take_left]
 generalize hol:(λ k=>(lk (lens sh.cE nB) k).getD 0:Nat->Nat)=df;have ho:∀q∈m.nm,∀c l,ff s'.obj q.1=some (.dp c l)->df q.2=l.length:=by
  rintro⟨p,q⟩ hq c l hl;have hqk:=all_eq_true.1 n4 _ hq;simp only[aJ]at hqk;obtain⟨p',o,g1,g2,g3⟩:=lB [] q (by simpa using hqk.1.1);have:p'=p:=by
   have e1:=hg _ g1;have e2:=hg _ hq;simp only at e1 e2;rw[<- e1,e2]
  subst this;simp only at hl;rw[hl]at g2;injection g2 with g2;have h3:=g3 c l g2.symm;rw[append_nil]at h3;rw[<- hol];have hk:=(Gl sh.cE nB).nodup n3;simp only[sH hk h3,Option.getD_some]
 obtain⟨In,E3,es,eA,pA⟩:=JW (NM:=m.nm) (f:=f) (df:=df) hf ho _ _ _ h1 (λ q hq=>hm2.1 q hq) (λ c hc=>h5 c (hm2.2 c hc));obtain⟨If,My,xs,eB,pB⟩:=yu (NM:=m.nm) (f:=f) (df:=df) hf ho _ _ _ h2 (λ q hq=>hq) h5;have Mo:In=nA:=by simp only[bK]at E3;rw[<- E3,dA]
 have Mn:If=nB:=List.append_cancel_left (My.symm.trans dB);subst Mo Mn;have E1:=eA [];have E0:=eB [];rw[append_nil]at E1 E0;have hS:encS sh s0 v=⟨es++sh.keep.map (λ t=>(t,eo s0.env t)),xs++sh.cV.map (λ k=>(k,ff s0.obj k)),sh.nx,(List.range s0.nx).filter (λ k=>!sh.cV.contains k)++s0.log⟩:=by simp only[encS,hdrop,htake,hol,E1,E0]
 have hsn:∀j,SN m.nm j->j<sh.nx:=by
  rintro j ⟨p,hp⟩;have:=all_eq_true.1 n4 _ hp;simp only[aJ,aR]at this;exact this.1.2
 have kp:∀j,(sh.cV.contains j || m.nm.contains (j,j))=true->j∈sh.cV\/(j,j)∈m.nm:=by
  intro j hj;simpa using hj
 have hfp:∀j,j∈sh.cV\/(j,j)∈m.nm->f j=j:=λj hj=>hj.elim (mj j) (λ h=>hf (j,j) h);have hdp:∀j,j∈sh.cV\/(j,j)∈m.nm->DN m.nm j\/j∈sh.cV:=λj hj=>hj.elim .inr (λ h=> .inl ⟨j,h⟩);have hko:∀j∈sh.cV,j<s0.nx/\(∃ o,ff s0.obj j=some o/\ff s'.obj j=some o/\∀i∈cT o,i∈sh.cV\/(i,i)∈m.nm):=by
  intro j hj;have:=all_eq_true.1 n7 _ hj;simp only[aJ,aR,Bool.not_eq_true']at this;obtain⟨⟨⟨a1,a2⟩,a3⟩,a4⟩:=this;refine⟨a1,?_⟩;cases ho0:ff s0.obj j with
  |none=>rw[ho0]at a4;cases a4
  |some o=>
   rw[ho0]at a4;refine⟨o,rfl,?_,λi hi=>kp i (all_eq_true.1 a4 i hi)⟩;obtain⟨d,hd,hd2⟩:=hx.obj;have hnd:j∉d:=by
    have e:s'.log.take (s'.log.length -s0.log.length)=d:=(by rw[hd,dG,Nat.add_sub_cancel,List.take_left]);rw[e]at a2;simpa using a2
   rcases hd2 j a1 hnd with h |h
   ·rw[h,ho0]
   ·rw[h]at a3;cases a3
 have hke:∀t∈sh.keep,t∉ds/\eo s'.env t=eo s0.env t/\∀j∈bo (eo s0.env t),j∈sh.cV\/(j,j)∈m.nm:=by
  intro t ht;have:=all_eq_true.1 n6 _ ht;simp only[aJ,Bool.not_eq_true']at this;obtain⟨⟨a1,a2⟩,a3⟩:=this;have a1':t∉ds:=by simpa using a1
  refine⟨a1',?_,λj hj=>kp j (all_eq_true.1 a3 j hj)⟩;rcases hx.env t a1' with h |h
  ·exact h
  ·exact(ae3 a2 h).elim
 have hks:∀q∈es,q.1∈ds:=by
  intro q hq;have h1:=(pA q hq).1;obtain⟨z,hz,e⟩:=mem_map.1 h1;have:=all_eq_true.1 n5 _ hz;rw[<- e];simpa using this
 have hkeep:∀t,lk (sh.keep.map λt=>(t,eo s0.env t)) t=if t∈sh.keep then some (eo s0.env t)else none:=by
  intro t
  induction sh.keep with
  |nil=>simp[lk]
  |cons q qs ih=>
   simp only[aF,lk,ih,aN];by_cases e:q=t
   ·subst e;simp
   ·rw[bf e];simp[Ne.symm e]
 have xp:∀t,lk (sh.cV.map λt=>(t,ff s0.obj t)) t=if t∈sh.cV then some (ff s0.obj t)else none:=by
  intro t
  induction sh.cV with
  |nil=>simp[lk]
  |cons q qs ih=>
   simp only[aF,lk,ih,aN];by_cases e:q=t
   ·subst e;simp
   ·rw[bf e];simp[Ne.symm e]
 have p5:∀t,(∃ d,(t,d)∈es/\eo (encS sh s0 v).env t=d)\/(t∈sh.keep/\eo (encS sh s0 v).env t=eo s0.env t)\/eo (encS sh s0 v).env t= .undef:=by
  intro t;have e1:eo (encS sh s0 v).env t=(match lk es t with |some d=>some d |none=>if t∈sh.keep then some (eo s0.env t)else none).getD .undef:=by
   rw[hS];show(lk (es++sh.keep.map (λ t=>(t,eo s0.env t))) t).getD .undef=_;rw[Aq,hkeep t];cases lk es t<;>rfl
  rw[e1];cases he:lk es t with
  |some d=>exact .inl ⟨d,qb he,rfl⟩
  |none=>
   by_cases ht:t∈sh.keep
   ·simp only[bn ht];exact .inr (.inl ⟨ht,rfl⟩)
   ·simp only[bf ht];exact .inr (.inr rfl)
 have gE:∀j o,ff (encS sh s0 v).obj j=some o->(∃ k' o1,(k',j)∈m.nm/\ff s'.obj k'=some o1/\(bC o).sz=(bC o1).sz/\fg (DN m.nm) f (bC o1).rows (bC o).rows/\(∀ i∈cT o,SN m.nm i))\/(j∈sh.cV/\ff s0.obj j=some o):=by
  intro j o hjo;have e1:ff (encS sh s0 v).obj j=(match lk xs j with |some d=>some d |none=>if j∈sh.cV then some (ff s0.obj j)else none).join:=by
   rw[hS];show(lk (xs++sh.cV.map (λ k=>(k,ff s0.obj k))) j).join=_;rw[Aq,xp j];cases lk xs j<;>rfl
  rw[e1]at hjo;cases he:lk xs j with
  |some x=>
   rw[he]at hjo;obtain⟨_,k',o1,o',b1,b2,b3,b4,b5,b6⟩:=pB _ (qb he);simp only at b1 b2 hjo;subst b1;simp only[Option.join_some,ay]at hjo;subst hjo;exact .inl ⟨k',o1,b2,b3,b4,b5,b6⟩
  |none=>
   rw[he]at hjo;by_cases hj:j∈sh.cV
   ·simp only[bn hj,Option.join_some]at hjo;exact .inr ⟨hj,hjo⟩
   ·simp[bf hj]at hjo
 have hnx:s0.nx<=sh.nx:=n8;have hkx:∀j,j∈sh.cV\/(j,j)∈m.nm->j<sh.nx:=λj hj=>hj.elim (λ hj=>Nat.lt_of_lt_of_le (hko j hj).1 hnx) (λ h=>hsn j ⟨j,h⟩);have hRW:∀{r q:List AV},gO (DN m.nm) f r q->gO (λ j=>DN m.nm j\/j∈sh.cV) f r q:=by
  intro r
  induction r with
  |nil=>intro q h;cases q with
   |nil=>trivial
   |cons=>exact h.elim
  |cons x xs ih=>intro q h;cases q with
   |nil=>exact h.elim
   |cons y ys=>exact⟨⟨λ k hk=> .inl (h.1.1 k hk),h.1.2⟩,ih h.2⟩
 have Lt:∀{r q:List (List AV)},fg (DN m.nm) f r q->fg (λ j=>DN m.nm j\/j∈sh.cV) f r q:=by
  intro r
  induction r with
  |nil=>intro q h;cases q with
   |nil=>trivial
   |cons=>exact h.elim
  |cons x xs ih=>intro q h;cases q with
   |nil=>exact h.elim
   |cons y ys=>exact⟨hRW h.1,ih h.2⟩
 refine⟨v,h6,?_,?_,?_⟩
 ·constructor
  ·rw[hS];exact n9
  ·rw[hS];exact Nat.le_trans hl0.ge n8
  ·intro t j hj;have xf:(encS sh s0 v).nx=sh.nx:=(by rw[hS]);rw[xf];rcases p5 t with ⟨d,h1,h2⟩ |⟨h1,h2⟩ |h2
   ·rw[h2]at hj;exact hsn j ((pA _ h1).2.2.2 j hj)
   ·rw[h2]at hj;exact hkx j ((hke t h1).2.2 j hj)
   ·rw[h2]at hj;simp[bo]at hj
  ·intro j o hjo;have xf:(encS sh s0 v).nx=sh.nx:=(by rw[hS]);rw[xf];rcases gE j o hjo with ⟨k',o1,b1,b2,b3,b4,b5⟩ |⟨b1,b2⟩
   ·exact⟨hsn j ⟨k',b1⟩,λi hi=>hsn i (b5 i hi)⟩
   ·have⟨c1,o',c2,c3,c4⟩:=hko j b1;rw[b2]at c2;cases c2;exact⟨hkx j (.inl b1),λi hi=>hkx i (c4 i hi)⟩
 ·refine⟨λ t ht=>?_,⟨(List.range s0.nx).filter (λ k=>!sh.cV.contains k),by rw[hS],λj hj hn=>?_⟩,by rw[hS];exact hnx⟩
  ·rcases p5 t with ⟨d,h1,h2⟩ |⟨h1,h2⟩ |h2
   ·exact(ht (hks _ h1)).elim
   ·exact .inl h2
   ·exact .inr h2
  ·have hjk:j∈sh.cV:=(by simpa[hj]using hn);cases hjo:ff (encS sh s0 v).obj j with
   |none=>exact .inr rfl
   |some o=>
    rcases gE j o hjo with ⟨k',o1,b1,_⟩ |⟨b1,b2⟩
    ·exact((List.nodup_append.1 n2).2.2 j (mem_map.2 ⟨(k',j),b1,rfl⟩) j hjk rfl).elim
    ·exact .inl b2.symm
 ·intro P w0 O0 N β I a w hr;refine⟨_,Rel.re (f:=f) (g:=g) (D:=λj=>DN m.nm j\/j∈sh.cV) hgf hg0 hr (λ _=> .inl rfl) (λ _=>rfl) (λ t=>?_) (λ j o' hj=>?_)⟩
  ·show den (eo (encS sh s0 v).env t)= .undef\/((∀ k∈refs (den (eo s'.env t)),_)/\j8 (eW f (den (eo s'.env t))) (den (eo (encS sh s0 v).env t)));rcases p5 t with ⟨d,h1,h2⟩ |⟨h1,h2⟩ |h2
   ·right;rw[h2];obtain⟨_,b1,b2,_⟩:=pA _ h1;exact⟨λ k hk=> .inl (b2 k (by rwa [ic]at hk)),b1⟩
   ·right;have⟨_,b1,b2⟩:=hke t h1;rw[h2,b1];refine⟨λ k hk=>hdp k (b2 k (by rwa [ic]at hk)),?_⟩;rw[<- yg,R4 _ (λ k hk=>hfp k (b2 k hk))];exact j8.refl _
   ·left;rw[h2];rfl
  ·simp only[cR.st,dR]at hj;obtain⟨o,hjo,rfl⟩:=hj;rcases gE j o hjo with ⟨k',o1,b1,b2,b3,b4,b5⟩ |⟨b1,b2⟩
   ·exact⟨k',bC o1,by simp[cR.st,b2],.inl ⟨j,b1⟩,hf _ b1,b3,Lt b4⟩
   ·have⟨c1,o',c2,c3,c4⟩:=hko j b1;rw[b2]at c2;cases c2;have hid:ma f o=o:=by
     cases o with
     |dp c l=>rfl
     |map kc vc l=>rfl
     |hole c l n aa q len=>simp only[ma];rw[hfp q (c4 q (by simp[cT]))]
     |cells sz rows=>
      simp only[ma];congr 1;have:∀q∈rows,GQ f q=q:=λq hq=>yj q λi hi=>hfp i (c4 i (by
       simp only[cT,List.mem_flatten,mem_map];exact⟨_,⟨q,hq,rfl⟩,hi⟩))
      rw[map_congr_left this];simp
    obtain⟨r1,r2⟩:=Gj (D:=λj=>DN m.nm j\/j∈sh.cV) f o (λ i hi=>hdp i (c4 i hi));rw[hid]at r1 r2;exact⟨j,bC o,by simp[cR.st,c3],.inr b1,mj j b1,r1,r2⟩
theorem Ext.trans{ds:Nat->Prop}{a b c:cR X}(h:Ext ds a b)(h':Ext ds b c):Ext ds a c:=by
 refine⟨λ t ht=>?_,?_,Nat.le_trans h.nx h'.nx⟩
 ·rcases h'.env t ht with h1 |h1
  ·rcases h.env t ht with h2 |h2
   ·exact .inl (h1.trans h2)
   ·exact .inr (h1.trans h2)
  ·exact .inr h1
 ·obtain⟨d,h1,h2⟩:=h.obj;obtain⟨d',h3,h4⟩:=h'.obj;refine⟨d'++d,by rw[h3,h1,aM],λk hk hn=>?_⟩;simp only[aY,not_or]at hn;rcases h4 k (Nat.lt_of_lt_of_le hk h.nx) hn.1 with h5 |h5
  ·rcases h2 k hk hn.2 with h6 |h6
   ·exact .inl (h5.trans h6)
   ·exact .inr (h5.trans h6)
  ·exact .inr h5
theorem Ext.refl(ds:Nat->Prop)(s:cR X):Ext ds s s:=⟨λ _ _=> .inl rfl,⟨[],by simp,λ_ _ _=> .inl rfl⟩,aB _⟩
def Says(s s':cR X):Prop:=∀(P:Program) (w0:World) (O0:js) (N:Nat) (β:Nat->Option cA) (I:Nat->Prop) (a:Act) (w:World),Rel P w0 O0 N β I s.st a w->∃ β',Rel P w0 O0 N β' I s'.st a w
theorem Low.room{s:cR X}{P:Program}{w0:World}{O0:js}{N:Nat}{β:Nat->Option cA}{I:Nat->Prop}{a:Act}{w:World}(hl:Low s)(hr:Rel P w0 O0 N β I s.st a w):∃ β2,β2 s.nx=none/\Rel P w0 O0 N β2 I s.st a w:=by
 have hr1:=hr.restrict hl.old
 have hr2:=Rel.re (f:=id) (g:=λj=>if j<s.nx then j else 1000000) (D:=(· <s.nx)) (s':=s.st) (λ k hk=>bn hk) (λ j hj=>bn (by have:=hl.ge;omega)) hr1 (λ _=> .inl rfl) (λ _=>rfl)
  (λ q=> .inr ⟨λ k hk=>hl.env q k (by rw[<- ic];exact hk),by
   show j8 (eW id (den (eo s.env q))) (den (eo s.env q));rw[<- yg,R4 (f:=id) _ (λ _ _=>rfl)];exact j8.refl _⟩)
  (λ j o' hj=>by
   simp only[cR.st,dR]at hj;obtain⟨x,hx,rfl⟩:=hj;have⟨h1,h2⟩:=hl.obj j x hx;have⟨r1,r2⟩:=Gj (D:=(· <s.nx)) id x h2;have hid:ma id x=x:=by
    cases x with
    |dp c l=>rfl
    |map kc vc l=>rfl
    |hole c l n aa q len=>rfl
    |cells sz rows=>
     simp only[ma];congr 1;have:∀q∈rows,GQ id q=q:=λq _=>yj (f:=id) q λ_ _=>rfl;rw[map_congr_left this];simp
   rw[hid]at r1 r2;exact⟨j,bC x,by simp[cR.st,hx],h1,rfl,r1,r2⟩)
 exact⟨_,by simp,hr2⟩
theorem aik(z:Bool)(k:Nat):bo (nz (X:=X) z k)=[k]:=by cases z<;>rfl
theorem R6{ds:List Nat}{z:Bool}{s:cR X}{t:Nat}{c:CT X.ι}(hl:Low s)(ht:t∈ds):Low (ZY z s t c)/\Ext (· ∈ds) s (ZY z s t c)/\Says s (ZY z s t c):=by
 unfold ZY;split
 ·rename_i hn;split
  ·rename_i hlt;have he:∀q,eo ((t,nz z s.nx)::s.env) q=if t=q then nz z s.nx else eo s.env q:=λq=>by
    simp only[eo,lk];by_cases e:t=q<;>simp[e]
   have hO:∀q,ff ((s.nx,some (.dp c []))::s.obj) q=if s.nx=q then some (.dp c [])else ff s.obj q:=λq=>by
    simp only[ff,lk];by_cases e:s.nx=q<;>simp[e]
   refine⟨⟨by show s.nx+1<=1000000;omega,by have:=hl.ge;show 1000<=s.nx+1;omega,λq k hk=>?_,λk o ho=>?_⟩,⟨λ q hq=>?_,⟨[s.nx],rfl,λk hk hnk=>?_⟩,by show s.nx<=s.nx+1;omega⟩,λP w0 O0 N β I a w hr=>?_⟩
   ·rw[he]at hk;split at hk
    ·simp only[aik,aT]at hk;subst hk;show s.nx<s.nx+1;omega
    ·have:=hl.env q k hk;show k<s.nx+1;omega
   ·rw[hO]at ho;split at ho
    ·rename_i e;cases ho;subst e;exact⟨by show s.nx<s.nx+1;omega,by simp[cT]⟩
    ·have⟨h1,h2⟩:=hl.obj k o ho;exact⟨by show k<s.nx+1;omega,λj hj=>by have:=h2 j hj;show j<s.nx+1;omega⟩
   ·left;rw[he,bf];intro e;subst e;exact hq ht
   ·left;rw[hO,bf (by omega)]
   ·have⟨β2,A2,hr2⟩:=hl.room hr;have⟨hS,hM⟩:=Mem.oa (i:=s.nx) (o:=bC (.dp c []:bp X)) hr2.mem A2 rfl;refine⟨ins β2 s.nx .none,hr2.defers,hr2.size,λq=>?_,?_⟩
    ·have h1:=hr2.env q;show el P _ w I (den (eo ((t,nz z s.nx)::s.env) q)) none _;rw[he];by_cases e:t=q
     ·subst e;rw[bn rfl];have h2:VR P _ w I (den (eo s.env t)) (a.tmps.getD t undef):=h1;rw[hn]at h2;simp only[den,VR]at h2;cases z with
      |false=>simp only[el,nz,ak,den,VR];exact .inl ⟨by simp[ins],h2,trivial,trivial⟩
      |true=>simp only[el,nz,aj,den,VR];exact .inl ⟨trivial,h2⟩
     ·rw[bf e];exact el.mono hS.ext hS.same hS.inc h1
    ·have e:(λ k=>(ff ((s.nx,some (.dp c []))::s.obj) k).map bC)=bR s.st.obj [(s.nx,some (bC (.dp c []:bp X)))]:=by
      funext q;simp only[bR,cR.st];rw[hO];by_cases e:s.nx=q
      ·simp[e]
      ·rw[bf e,bf (Ne.symm e)]
     show Mem P w0 O0 _ I (λ k=>(ff ((s.nx,some (.dp c []))::s.obj) k).map bC) w;rw[e];exact hM
  ·exact⟨hl,Ext.refl _ s,λ_ _ _ _ β _ _ _ h=>⟨β,h⟩⟩
 ·exact⟨hl,Ext.refl _ s,λ_ _ _ _ β _ _ _ h=>⟨β,h⟩⟩
theorem R7(y:DV X):∀(l:List (DV X))(j i:Nat),i∈aQ (l.set j y)->i∈aQ l\/i∈bo y
 |[],_,_,h=> .inl (by simpa using h)
 |x::l,0,i,h=>by
  simp only[List.set,aQ,aY]at h ⊢;rcases h with h |h
  ·exact .inr h
  ·exact .inl (.inr h)
 |x::l,j+1,i,h=>by
  simp only[List.set,aQ,aY]at h ⊢;rcases h with h |h
  ·exact .inl (.inl h)
  ·rcases R7 y l j i h with h |h
   ·exact .inl (.inr h)
   ·exact .inr h
theorem be.set{P:Program}{β:Nat->Option cA}{w:World}{I:Nat->Prop}{y:AV}:∀(xs:List AV)(vs:List Value)(j:Nat),(∀ x v,xs[j]? =some x->VR P β w I x v->VR P β w I y v)->be P β w I xs vs->be P β w I (xs.set j y) vs
 |[],vs,_,_,h=>by simpa using h
 |x::xs,[],_,_,h=>by simp[be]at h
 |x::xs,v::vs,0,hy,h=>by simp only[be,List.set]at h ⊢;exact⟨hy x v rfl h.1,h.2⟩
 |x::xs,v::vs,j+1,hy,h=>by simp only[be,List.set]at h ⊢;exact⟨h.1,be.set xs vs j (λ x v e=>hy x v (by simpa using e)) h.2⟩
theorem OR.set1{P:Program}{β:Nat->Option cA}{w:World}{I:Nat->Prop}{sz:Nat}{row:List AV}{j:Nat}{y:AV}{B:cA}(hy:∀x v,row[j]? =some x->VR P β w I x v->VR P β w I y v)(h:OR P β w I ⟨sz,[row]⟩ B):OR P β w I ⟨sz,[row.set j y]⟩ B:=by
 cases B with
 |none=>simp[OR]at h
 | «at» b s n=>
  obtain⟨h1,c,e,h2,h3,h4⟩:=h;refine⟨h1,c,e,h2,h3,?_⟩;simp only[br,List.length_set]at h4 ⊢;refine⟨h4.1,?_,trivial⟩;rw[iW]at h4 ⊢;intro i x hx;rw[List.getElem?_set]at hx;split at hx
  ·rename_i e;subst e;split at hx
   ·cases hx;rename_i hlt;obtain⟨v,g1,g2,g3⟩:=h4.2.1 j _ (cZ hlt);exact⟨v,g1,hy _ v (cZ hlt) g2,g3⟩
   ·cases hx
  ·exact h4.2.1 i x hx
 |mp b=>
  obtain⟨es,cl,h1,hle,h2,h3⟩:=h;refine⟨es,cl,h1,hle,λe=>?_,h3⟩;have:=h2 e
  match hes:es.toList,this with
  |[e1],this=>simp only[ct]at this ⊢;exact⟨be.set _ _ j hy this.1,trivial⟩
  |[],this=>simp[ct]at this
  |_::_::_,this=>simp[ct]at this
theorem Z4(y:DV X):∀(l:List (DV X))(j:Nat),bG (l.set j y)=(bG l).set j (den y)
 |[],_=>by simp[bG]
 |x::l,0=>by simp[bG]
 |x::l,j+1=>by simp[bG,Z4 y l j]
theorem acz{ds:List Nat}{s:cR X}{q j:Nat}{c:CT X.ι}(hl:Low s):Low (BY s q j c)/\Ext (· ∈ds) s (BY s q j c)/\Says s (BY s q j c):=by
 unfold BY;split
 ·rename_i sz row hq;split
  ·rename_i hn;split
   ·rename_i hlt;have Rr:q<s.nx:=(hl.obj q _ hq).1;have hrefs:∀k∈aQ row,k<s.nx:=λk hk=>(hl.obj q _ hq).2 k (by simpa[cT]using hk);have hO:∀k,ff ((q,some (.cells sz [row.set j (.own s.nx 0 0)]))::(s.nx,some (.dp c []))::s.obj) k=if q=k then some (.cells sz [row.set j (.own s.nx 0 0)])else if s.nx=k then some (.dp c [])else ff s.obj k:=λk=>by
     simp only[ff,lk];by_cases e:q=k
     ·simp[e]
     ·by_cases e':s.nx=k<;>simp[e,e']
    refine⟨⟨by show s.nx+1<=1000000;omega,by have:=hl.ge;show 1000<=s.nx+1;omega,λk i hk=>by have:=hl.env k i hk;show i<s.nx+1;omega,λk o ho=>?_⟩,⟨λ _ _=> .inl rfl,⟨[q,s.nx],rfl,λk hk hnk=>?_⟩,by show s.nx<=s.nx+1;omega⟩,λP w0 O0 N β I a w hr=>?_⟩
    ·rw[hO]at ho;split at ho
     ·rename_i e;cases ho;subst e;refine⟨by show q<s.nx+1;omega,λi hi=>?_⟩;show i<s.nx+1;simp only[cT,aF,map_nil,flatten_cons,List.flatten_nil,append_nil]at hi;rcases R7 _ _ _ _ hi with h1 |h1
      ·have:=hrefs i h1;omega
      ·simp only[bo,aT]at h1;omega
     ·split at ho
      ·rename_i e;cases ho;subst e;exact⟨by show s.nx<s.nx+1;omega,by simp[cT]⟩
      ·have⟨h1,h2⟩:=hl.obj k o ho;exact⟨by show k<s.nx+1;omega,λi hi=>by have:=h2 i hi;show i<s.nx+1;omega⟩
    ·left;simp only[aN,fO,or_false,not_or]at hnk;rw[hO,bf (Ne.symm hnk.1),bf (Ne.symm hnk.2)]
    ·have⟨β2,A2,hr2⟩:=hl.room hr;have⟨hS,hM⟩:=Mem.oa (i:=s.nx) (o:=bC (.dp c []:bp X)) hr2.mem A2 rfl;refine⟨ins β2 s.nx .none,hr2.defers,hr2.size,λk=>el.mono hS.ext hS.same hS.inc (hr2.env k),?_⟩;refine hM.weak λk o' ho=>?_;simp only[cR.st]at ho;rw[hO]at ho;by_cases e:q=k
     ·subst e;rw[bn rfl,Option.map_some]at ho;cases ho;refine⟨bC (.cells sz [row]),by simp only[bR];rw[bf (by omega)];simp[cR.st,hq],λB _ hB=>?_⟩;simp only[bC,aF,map_nil,Z4]at hB ⊢;refine OR.set1 (λ x v hx hv=>?_) hB;rw[mJ,List.getElem?_map,hn]at hx;cases hx;simp only[den,VR]at hv ⊢;exact .inl ⟨by simp[ins],hv,trivial,trivial⟩
     ·rw[bf e]at ho;refine⟨o',?_,λ_ _ h=>h⟩;simp only[bR];by_cases e':s.nx=k
      ·subst e';rw[bn rfl]at ho ⊢;simpa using ho
      ·rw[bf e']at ho;rw[bf (Ne.symm e')];exact ho
   ·exact⟨hl,Ext.refl _ s,λ_ _ _ _ β _ _ _ h=>⟨β,h⟩⟩
  ·exact⟨hl,Ext.refl _ s,λ_ _ _ _ β _ _ _ h=>⟨β,h⟩⟩
 ·exact⟨hl,Ext.refl _ s,λ_ _ _ _ β _ _ _ h=>⟨β,h⟩⟩
theorem JX{ds:List Nat}:∀(l:List (Nat×CT X.ι)){s:cR X},Low s->(∀ p∈l,(bif Nat.ble 1000000 p.1 then !Nat.ble 1099511627776 p.1 || ds.contains (p.1 -1099511627776)else ds.contains p.1)=true)->Low (Mq l s)/\Ext (· ∈ds) s (Mq l s)/\Says s (Mq l s)
 |[],s,hl,_=>⟨hl,Ext.refl _ s,λ_ _ _ _ β _ _ _ h=>⟨β,h⟩⟩
 |(t,c)::r,s,hl,hd=>by
  generalize hs:(bif Nat.ble 1000000 t then bif Nat.ble 1099511627776 t then ZY true s (t -1099511627776) c else BY s ((t -1000000)/4096) ((t -1000000)%4096) c else ZY false s t c)=s1;have h0:Low s1/\Ext (· ∈ds) s s1/\Says s s1:=by
   have hd0:=hd (t,c) (by simp);simp only at hd0;subst hs;cases hb:Nat.ble 1000000 t with
   |true=>
    rw[hb]at hd0;cases hb2:Nat.ble 1099511627776 t with
    |true=>rw[hb2]at hd0;exact R6 hl (by simpa using hd0)
    |false=>exact acz hl
   |false=>rw[hb]at hd0;exact R6 hl (by simpa using hd0)
  obtain⟨h1,h2,h3⟩:=h0;simp only[Mq,hs];obtain⟨g1,g2,g3⟩:=JX r h1 (λ p hp=>hd p (by simp[hp]));refine⟨g1,h2.trans g2,λP w0 O0 N β I a w hr=>?_⟩;have⟨β',hr'⟩:=h3 P w0 O0 N β I a w hr;exact g3 P w0 O0 N β' I a w hr'
theorem kF{A:Type}{sh:Sh X.ι}{ds:List Nat}{s0 s':cR X}{k:VT (X:=X) sh.vars->Option A}{r:A}(hl0:Low s0)(hl':Low s')(hx:Ext (· ∈ds) s0 s')(h:oQ sh ds s0 s' k=some r):
 ∃v,k v=some r/\Low (encS sh s0 v)/\Ext (· ∈ds) s0 (encS sh s0 v)/\Says s' (encS sh s0 v):=by
 unfold oQ at h;have⟨h1,h2⟩:=dF h;obtain⟨g1,g2,g3⟩:=JX (ds:=ds) sh.wv hl' (λ p hp=>all_eq_true.1 h1 p hp);have⟨v,i1,i2,i3,i4⟩:=X5 hl0 (hx.trans g2) h2;refine⟨v,i1,i2,i3,λP w0 O0 N β I a w hr=>?_⟩;have⟨β',hr'⟩:=g3 P w0 O0 N β I a w hr;exact i4 P w0 O0 N β' I a w hr'
end
def fP:Code->List Nat
 | .region _ al _=>al.toList.filterMap (·.dst)
 | .seq a b=>fP a++fP b
 | .cond _ a b=>fP a++fP b
 | .block _ b=>fP b
 | .loop b=>fP b
 |_=>[]
section
variable {X:SX}
section
variable {P:Program} {N:Nat}
def Ig{A:Type}(ds:List Nat)(s:cR X)(k:Exit->cR X->Option A)(r:A)(e:Exit)(σ:St):Prop:=∃s',Low s'/\Ext (· ∈ds) s s'/\σ=s'.st/\k e s'=some r
theorem Z2{c:Code}{Q Q':Exit->St->Prop}{σ:St}(h:Ev P N c Q σ)(ht:∀e σ,Q e σ->∀w0 O0 β I a w,Rel P w0 O0 N β I σ a w->∃ β' σ',Rel P w0 O0 N β' I σ' a w/\sn σ'/\Q' e σ'):Ev P N c Q' σ:=by
 intro w0 O0 β I a w hr ho;refine wp_mono (h w0 O0 β I a w hr ho) ?_;rintro e a' w' ⟨β',I',σ',h1,_,h3⟩;have⟨β2,σ2,g1,g2,g3⟩:=ht e σ' h3 w0 O0 β' I' a' w' h1;exact⟨β2,I',σ2,g1,g2,g3⟩
end
end
inductive Hn(ι:Type) where
 |z
 |f (l:List Nat)
 |s (a b:Hn ι)
 |b (a:Hn ι)
 |j (sh:Sh ι) (a:Hn ι)
 |jx (sh:Sh ι) (a:Hn ι)
 |l (head:Sh ι) (id:Nat) (ab:Sh ι) (a:Hn ι)
 |lx (head:Sh ι) (id:Nat) (ab:Sh ι) (a:Hn ι)
 |rg (head:Sh ι) (a:Hn ι)
 |un (a r:Hn ι)
 |pl (k:Nat) (a b:Hn ι)
def Hn.fz{ι:Type}:Hn ι->List Nat
 | .f is=>is
 |_=>[]
def Hn.fst{ι:Type}:Hn ι->Hn ι
 | .s a _=>a
 | .pl _ a _=>a
 |_=> .z
def Hn.snd{ι:Type}:Hn ι->Hn ι
 | .s _ y=>y
 | .pl _ _ y=>y
 |_=> .z
def Hn.sub{ι:Type}:Hn ι->Hn ι
 | .b a=>a
 |_=> .z
def iter{V O:Type}(step:V->Option (V⊕O)):Nat->V->Option O
 | 0,_=>none
 |n+1,v=>(step v).bind λr=>match r with
  | .inl v=>iter step n v
  | .inr o=>some o
def GP{X:SX}{A:Type}(body:Hn X.ι->cR X->(Exit->cR X->Option A)->Option A):Hn X.ι->cR X->(Exit->cR X->Option A)->Option A
 | .un a r,s,k=>body a s λe s'=>match e with
  | .normal=>GP body r s' k
  |e=>k e s'
 |_,_,_=>none
def dx{W A:Type}(o:Option (W⊕A))(f:W->Option A):Option A:=o.bind λr=>match r with
 | .inl w=>f w
 | .inr a=>some a
noncomputable def both{A:Type}(x y:Option A):Option A:=open Classical in if x=y then x else none
theorem ae4{A:Type}{x y:Option A}{r:A}(h:both x y=some r):x=some r/\y=some r:=by grind [both]
theorem ae5{A:Type}(x:Option A):both x x=x:=by simp[both]
section
variable {X:SX}
def OK{A:Type}(kk:Nat)(s:cR X)(k:cR X->Option A):Option A:=(ff s.obj kk).bind λo=>match o with
 | .hole c l n aa q len=>(ff s.obj q).bind λo2=>match o2 with
  | .dp b m=>(bz l n).bind λy=>(Ib c (Zq (oM c y) aa [.c (.sl b) (sub m 0 len)])).bind λz=>
   bif bj (sub m 0 len).length len then k ⟨s.env,(kk,some (.dp c (l.set n.toNat z)))::(q,none)::s.obj,s.nx,kk::s.log⟩else none
  |_=>none
 |_=>none
def OF{A:Type}(h:Hn X.ι)(s:cR X)(k:cR X->Option A):Option A:=match h with
 | .pl kk _ _=>OK kk s k
 |_=>k s
theorem Z1{P:Program}{β:Nat->Option cA}{w:World}{I:Nat->Prop}{x x':AV}(hx:∀v,VR P β w I x v->VR P β w I x' v):∀(a b:List AV)(vs:List Value),be P β w I (a++[x]++b) vs->be P β w I (a++[x']++b) vs
 |[],_,[],h=>by simp[be]at h
 |[],_,v::_,h=>⟨hx v h.1,h.2⟩
 |_::_,_,[],h=>by simp[be]at h
 |_::a,b,_::vs,h=>⟨h.1,Z1 hx a b vs h.2⟩
theorem Z5{A:Type}{kk:Nat}{s:cR X}{k:cR X->Option A}{r:A}(hl:Low s)(h:OK kk s k=some r):∃s1,k s1=some r/\Low s1/\(∀ ds:Nat->Prop,Ext ds s s1)/\∀P w0 O0 N β I a w,Rel P w0 O0 N β I s.st a w->∃I',Rel P w0 O0 N β I' s1.st a w:=by
 unfold OK at h;rw[ah]at h;obtain⟨o,hk,h⟩:=h;split at h
 ·rename_i c l n aa q len;rw[ah]at h;obtain⟨o2,hq,h⟩:=h;split at h
  ·rename_i b m;rw[ah]at h;obtain⟨y,h3,h⟩:=h;rw[ah]at h;obtain⟨z,h4,h⟩:=h;have⟨h5,h⟩:=dF h;have h5:(sub m 0 len).length=len:=(by simpa[bj]using h5);have⟨_,h6⟩:=xY h3;have hne:kk≠q:=(by rintro rfl;rw[hk]at hq;cases hq);have hlk:∀j,ff ((kk,some (.dp c (l.set n.toNat z)))::(q,none)::s.obj) j=if kk=j then some (.dp c (l.set n.toNat z))else if q=j then none else ff s.obj j:=λj=>by
    simp only[ff,lk];by_cases e1:kk=j
    ·simp[e1]
    ·by_cases e2:q=j<;>simp[e1,e2]
   refine⟨_,h,⟨hl.le,hl.ge,hl.env,λj o hj=>?_⟩,λds=>⟨λ t _=> .inl rfl,⟨[kk],rfl,λj _ hn=>?_⟩,aB _⟩,?_⟩
   ·rw[hlk]at hj;split at hj
    ·rename_i e;cases hj;exact⟨e ▸ (hl.obj kk _ hk).1,by simp[cT]⟩
    ·split at hj
     ·cases hj
     ·exact hl.obj j o hj
   ·rw[hlk,bf (λ e=>hn (by simp[e]))];split
    ·exact .inr rfl
    ·exact .inl rfl
   ·intro P w0 O0 N β I a w hr;have hm:=hr.mem;have hsub:∀j o',(if j=q then none else s.st.obj j)=some o'->s.st.obj j=some o'/\j≠q:=by
     intro j o' hj;split at hj
     ·cases hj
     ·exact⟨hj,‹_›⟩
    have hd:=hm.drop (λ j=>if j=q then none else s.st.obj j) (λ j o hj=>(hsub j o hj).1);obtain⟨_,hM⟩:=hd.below (I':=eI β s.st.obj [q] I) (w':=w) ⟨rfl,rfl,rfl,aB _,λ_ _=>rfl⟩ (λ b hb=> .inl hb) (Ga hm [q]) (λ b j o B hb' e1 e2 e3=>by
     have⟨f1,f2⟩:=hsub j o e1;have⟨a1,_,_⟩:=hm.ownB j o B b f1 e2 e3;rcases hb' with h5 |⟨k',o',s',n',g1,g2,g3⟩
     ·exact a1 h5
     ·have:=hm.lE j k' o o' b f1 g2 ⟨B,e2,e3⟩ (.at g3);subst this;exact f2 (by simpa using g1)) (λ b hb'=>by
     rcases hb' with h5 |⟨k',o',s',n',g1,g2,g3⟩
     ·exact hm.up b h5
     ·exact .inr (hm.own k' o' b s' n' g2 g3).2.2)
    refine⟨_,hr.defers,hr.size,λt=>(hr.env t).mono (λ _ _ h=>h) (λ _ _=>rfl) (λ _ h=> .inl h),hM.weak λj o' hj=>?_⟩;have hj:(ff ((kk,some (.dp c (l.set n.toNat z)))::(q,none)::s.obj) j).map bC=some o':=hj;rw[hlk]at hj;by_cases e1:kk=j
    ·subst e1;rw[bn rfl]at hj;cases hj;have hko:s.st.obj kk=some (bC (.hole c l n aa q len)):=(by simp[cR.st,hk]);refine⟨_,by rw[bf hne];exact hko,λB hB hO=>?_⟩;have hqo:s.st.obj q=some (bC (.dp b m)):=(by simp[cR.st,hq]);have hlen:(uW (aG (l.map (CT.row X.toSE c))) n.toNat aa q len).length=(aG ((l.set n.toNat z).map (CT.row X.toSE c))).length:=(by simp[uW,aG]);have hpt:∀(i:Nat) r r',(uW (aG (l.map (CT.row X.toSE c))) n.toNat aa q len)[i]? =some r->(aG ((l.set n.toNat z).map (CT.row X.toSE c)))[i]? =some r'->r'.length=r.length/\∀vs:List Value,be P β w (eI β s.st.obj [q] I) r vs->be P β w (eI β s.st.obj [q] I) r' vs:=by
      intro i r r' g1 g2;by_cases e:n.toNat=i
      ·subst e;rw[Zt h6]at g1;cases g1;have hlt:=(bX.1 h6).1;have g2:(CT.row X.toSE c z).map AV.t=r':=(by simpa[aG,hlt]using g2);subst g2;rw[<- sI h4,Ag,Ag];refine⟨by simp[put',jC],λvs hvs=>be.wk _ _ ?_⟩;refine Z1 (λ v hv=>?_) _ _ _ hvs;have hB:=eV.lw hm [q] (k:=q) (aa:=0) (len:=len) (y:= .t (.sl ((sub m 0 len).map (CT.row X.toSE b)))) (v:=v) (by simp) ⟨_,_,hqo,rfl,by simp[bC,aG,sub,map_take],by simpa using h5⟩ (by simpa only[VR,den]using hv);exact VR.mono (λ j B h=>by simp[ly]at h) (λ _ _=>rfl) (λ _ h=>h) _ _ hB
      ·simp only[uW]at g1;rw[List.getElem?_set_ne e]at g1;simp only[aG,List.map_set,List.getElem?_map,List.getElem?_set_ne e]at g1 g2;rw[g1]at g2;cases g2;exact⟨rfl,λ_ h=>h⟩
     cases B with
     |none=>
      have hO:uW (aG (l.map (CT.row X.toSE c))) n.toNat aa q len=[]:=hO;rw[hO]at hlen;exact List.eq_nil_of_length_eq_zero hlen.symm
     |mp b'=>
      obtain⟨es,clock,q1,q2,q3,q4⟩:=hO;have q2':(uW (aG (l.map (CT.row X.toSE c))) n.toNat aa q len).length<=CT.sz X c:=q2;exact⟨es,clock,q1,by show(aG _).length<=CT.sz X c;omega,λe=>ct.tell hlen (λ i r r' g1 g2=>(hpt i r r' g1 g2).2) (q3 (by show CT.sz X c=_;have e:CT.sz X c=(aG ((l.set n.toNat z).map (CT.row X.toSE c))).length:=e;rw[e,<- hlen];rfl)),q4⟩
     | «at» b' sz nn=>
      obtain⟨q1,cc,ee,q2,q3,q4⟩:=hO;exact⟨q1,cc,ee,q2,q3,br.tell hlen hpt q4⟩
    ·rw[bf e1]at hj;split at hj
     ·cases hj
     ·rename_i e2;exact⟨o',by rw[bf (λ e=>e2 e.symm)];exact hj,λ_ _ h=>h⟩
  ·cases h
 ·cases h
theorem Z6{A:Type}{h:Hn X.ι}{s:cR X}{k:cR X->Option A}{r:A}(hl:Low s)(hp:OF h s k=some r):∃s1,k s1=some r/\Low s1/\(∀ ds:Nat->Prop,Ext ds s s1)/\∀P w0 O0 N β I a w,Rel P w0 O0 N β I s.st a w->∃I',Rel P w0 O0 N β I' s1.st a w:=by
 unfold OF at hp;split at hp
 ·exact Z5 hl hp
 ·exact⟨s,hp,hl,λds=>Ext.refl ds s,λ_ _ _ _ _ I _ _ h=>⟨I,h⟩⟩
theorem ajy{P:Program}{N:Nat}{c:Code}{Q:Exit->St->Prop}{s s1:cR X}(hr:∀P w0 O0 N β I a w,Rel P w0 O0 N β I s.st a w->∃I',Rel P w0 O0 N β I' s1.st a w)(hl:Low s1)(h:Ev P N c Q s1.st):Ev P N c Q s.st:=λw0 O0 β I a w hrel _=>
 let ⟨I',h'⟩:=hr P w0 O0 N β I a w hrel
 h w0 O0 β I' a w h' hl.old
def WH(ds:List Nat)(s:cR X)(h:Hn X.ι){A:Type}(k:Exit->cR X->Option A)(body:(B:Type)->Hn X.ι->(Exit->cR X->Option B)->Option B):Option A:=
 match h with
 | .j sh h'=>(body (VT (X:=X) sh.vars) h' λe s'=>match e with
  | .normal=>oQ sh ds s s' some
  |_=>none).bind λv=>k .normal (encS sh s v)
 | .jx sh h'=>dx (body (VT (X:=X) sh.vars⊕A) h' λe s'=>match e with
  | .normal=>oQ sh ds s s' λv=>some (.inl v)
  |e=>(k e s').map .inr) λv=>k .normal (encS sh s v)
 |h=>body A h k
variable (Γ:FuncId->Option (ca X)) (T:ea) (am:TypeId->Option (CT X.ι)) (N n:Nat)
noncomputable def run:Code->(A:Type)->Hn X.ι->cR X->(Exit->cR X->Option A)->Option A
 | .skip,_,_,s,k=>k .normal s
 | .region id al d,A,h,s,k=>WH (fP (.region id al d)) s h k λ_ h k=>OS Γ h.fz T am N al d s (k .normal)
 | .seq x y,A,h,s,k=>WH (fP (.seq x y)) s h k λB h k=>OF h s λs=>run x B h.fst s λe s'=>match e with
  | .normal=>run y B h.snd s' k
  |e=>k e s'
 | .cond c x y,A,h,s,k=>WH (fP (.cond c x y)) s h k λB h k=>match UW (eo s.env) c with
  | .c .bool v=>bif v then run x B h.fst s k else run y B h.snd s k
  | .ub=>both (run x B h.fst s k) (run y B h.snd s k)
  |_=>none
 | .block id b,A,h,s,k=>WH (fP (.block id b)) s h k λB h k=>run b B h.sub s λe s'=>match e with
  | .exit j=>if j=id then k .normal s' else k (.exit j) s'
  |e=>k e s'
 | .loop b,A,h,s,k=>match h with
  | .l hd id ab h'=>oQ hd (fP b) s s λv0=>(iter (λ v=>run b (VT (X:=X) hd.vars⊕VT (X:=X) ab.vars) h' (encS hd s v) λe s'=>match e with
   | .normal=>oQ hd (fP b) s s' λv=>some (.inl v)
   | .exit j=>if j=id then oQ ab (fP b) s s' λw=>some (.inr w)else none
   |_=>none) n v0).bind λw=>k (.exit id) (encS ab s w)
  | .lx hd id ab h'=>oQ hd (fP b) s s λv0=>dx (iter (λ v=>run b (VT (X:=X) hd.vars⊕(VT (X:=X) ab.vars⊕A)) h' (encS hd s v) λe s'=>match e with
   | .normal=>oQ hd (fP b) s s' λv=>some (.inl v)
   | .exit j=>if j=id then oQ ab (fP b) s s' λw=>some (.inr (.inl w))else(k (.exit j) s').map λa=> .inr (.inr a)
   |e=>(k e s').map λa=> .inr (.inr a)) n v0) λw=>k (.exit id) (encS ab s w)
  | .un a r=>GP (λ h s k=>run b A h s k) (.un a r) s k
  |_=>none
 | .exit id,_,_,s,k=>k (.exit id) s
 | .ret,_,_,s,k=>k .ret s
 | .label _,_,_,s,k=>k .normal s
 |_,_,_,_,_=>none
section
variable {Γ:FuncId->Option (ca X)} {T:ea} {am:TypeId->Option (CT X.ι)} {N n:Nat} {P:Program}
theorem Ext.wide{ds ds':Nat->Prop}{a b:cR X}(h:Ext ds a b)(hd:∀t,ds t->ds' t):Ext ds' a b:=⟨λ t ht=>h.env t λhh=>ht (hd t hh),h.obj,h.nx⟩
theorem map_inr{α β:Type}{o:Option β}{r:α⊕β}(h:o.map Sum.inr=some r):∃b,o=some b/\r= .inr b:=by
 cases o with
 |none=>cases h
 |some b=>grind
theorem BN{c:Code}{s:cR X}{h:Hn X.ι}{A:Type}{k:Exit->cR X->Option A}{r:A}{body:(B:Type)->Hn X.ι->(Exit->cR X->Option B)->Option B}(hl:Low s)
 (hb:∀(B:Type)(h:Hn X.ι)(k:Exit->cR X->Option B)(r:B),body B h k=some r->Ev P N c (Ig (fP c) s k r) s.st) (hr:WH (fP c) s h k body=some r):Ev P N c (Ig (fP c) s k r) s.st:=by
 unfold WH at hr;split at hr
 ·rename_i sh h';rw[ah]at hr;obtain⟨v,h1,hr⟩:=hr;refine Z2 (hb _ _ _ _ h1) ?_;rintro e σ ⟨s',g1,g2,rfl,g4⟩ w0 O0 β I a w hrel;cases e<;>simp only[reduceCtorEq]at g4;have⟨v',i1,i2,i3,i4⟩:=kF hl g1 g2 g4;cases i1;have⟨β',i5⟩:=i4 P w0 O0 N β I a w hrel;exact⟨β',_,i5,i2.old,_,i2,i3,rfl,hr⟩
 ·rename_i sh h';unfold dx at hr;have⟨v,h1,hr⟩:=ah.1 hr;refine Z2 (hb _ _ _ _ h1) ?_;rintro e σ ⟨s',g1,g2,rfl,g4⟩ w0 O0 β I a w hrel;have other:(k e s').map Sum.inr=some v->∃ β' σ',Rel P w0 O0 N β' I σ' a w/\sn σ'/\Ig (fP c) s k r e σ':=by
   intro hm;obtain⟨b,hk,rfl⟩:=map_inr hm;cases hr;exact⟨β,_,hrel,g1.old,s',g1,g2,rfl,hk⟩
  cases e with
  |normal=>
   simp only at g4;have⟨v',i1,i2,i3,i4⟩:=kF hl g1 g2 g4;cases i1;have⟨β',i5⟩:=i4 P w0 O0 N β I a w hrel;exact⟨β',_,i5,i2.old,_,i2,i3,rfl,hr⟩
  |_=>exact other g4
 ·exact hb _ _ _ _ hr
theorem ae6{id:Nat}{al:Array Oper}{d:Bool}{t:Nat}(h:Oc al t):t∈fP (.region id al d):=by
 obtain⟨j,op,h1,h2⟩:=h;simp only[fP,List.mem_filterMap];exact⟨op,by rw[<- Array.getElem?_toList]at h1;exact bW h1,h2⟩
theorem R8{b:Code}{s:cR X}{hd:Sh X.ι}{O:Type}{step:VT (X:=X) hd.vars->Option (VT (X:=X) hd.vars⊕O)}{kb:Exit->cR X->Option (VT (X:=X) hd.vars⊕O)}{Q:Exit->St->Prop}(hl:Low s)
 (hkn:∀s',kb .normal s'=oQ hd (fP b) s s' λv=>some (.inl v))
 (hstep:∀v r,Low (encS hd s v)->step v=some r->Ev P N b (Ig (fP b) (encS hd s v) kb r) (encS hd s v).st)
 {o:O} (hQ:∀e s',e≠ .normal->Low s'->Ext (· ∈fP b) s s'->kb e s'=some (.inr o)->∀w0 O0 β I a w,Rel P w0 O0 N β I s'.st a w->∃ β' σ',Rel P w0 O0 N β' I σ' a w/\sn σ'/\Q e σ')
 (hno:∀e s' v,e≠ .normal->kb e s'=some (.inl v)->False) (n:Nat) (v0:VT (X:=X) hd.vars) (h:iter step n v0=some o) (hl0:Low (encS hd s v0)) (hx0:Ext (· ∈fP b) s (encS hd s v0)):Ev P N (.loop b) Q (encS hd s v0).st:=by
 intro w0 O0 β I a w hr ho;refine VZ (λ n a w=>∃ β I v,Rel P w0 O0 N β I (encS hd s v).st a w/\iter step n v=some o/\Low (encS hd s v)/\Ext (· ∈fP b) s (encS hd s v)) (λ a w ⟨_,_,v,_,h,_⟩=>by cases h) ?_ n a w ⟨β,I,v0,hr,h,hl0,hx0⟩;rintro n a w ⟨β,I,v,hr,hi,hlv,hxv⟩;simp only[iter]at hi;have⟨r,h1,hi⟩:=ah.1 hi;refine wp_mono (hstep v r hlv h1 w0 O0 β I a w hr hlv.old) ?_;rintro e a' w' ⟨β',I',σ',g1,_,s',g2,g3,rfl,g4⟩;have hxs:=hxv.trans g3;by_cases he:e= .normal
 ·subst he;rw[hkn]at g4;have⟨v',i1,i2,i3,i4⟩:=kF hl g2 hxs g4;cases i1;have⟨β2,i5⟩:=i4 P w0 O0 N β' I' a' w' g1;exact⟨β2,I',v',i5,hi,i2,i3⟩
 ·cases r with
  |inl v'=>exact(hno e s' v' he g4).elim
  |inr o'=>
   cases hi;have⟨β2,σ2,i1,i2,i3⟩:=hQ e s' he g2 hxs g4 w0 O0 β' I' a' w' g1;cases e with
   |normal=>exact(he rfl).elim
   |_=>exact⟨β2,I',σ2,i1,i2,i3⟩
theorem R9{A:Type}{sh:Sh X.ι}{ds:List Nat}{s0 s':cR X}{k:VT (X:=X) sh.vars->Option A}{r:A}(h:oQ sh ds s0 s' k=some r):∃v,k v=some r:=by
 unfold oQ at h;have⟨_,h⟩:=dF h;unfold X4 at h;have⟨m1,h1,h⟩:=ah.1 h;have⟨m,h2,h⟩:=ah.1 h;have⟨h3,h⟩:=dF h;have⟨v,h4,h⟩:=ah.1 h;exact⟨v,(oh h).2⟩
theorem Z7{α β γ:Type}{o:Option γ}{r:α⊕(β⊕γ)}(h:o.map (λ a=>Sum.inr (Sum.inr a))=some r):∃b,o=some b/\r= .inr (.inr b):=by
 cases o with
 |none=>cases h
 |some b=>grind
def Hn.len{ι:Type}:Hn ι->Nat
 | .un _ r=>r.len+1
 |_=>0
theorem ae7{b:Code}{A:Type}{body:Hn X.ι->cR X->(Exit->cR X->Option A)->Option A}{s0:cR X}{k:Exit->cR X->Option A}{r:A}
 (hb:∀(h:Hn X.ι)(s:cR X)(k:Exit->cR X->Option A)(r:A),Low s->body h s k=some r->Ev P N b (Ig (fP b) s k r) s.st)
 {h:Hn X.ι} (hl:Low s0) (hr:GP body h s0 k=some r):Ev P N (.loop b) (Ig (fP (.loop b)) s0 k r) s0.st:=by
 refine ah3 (λ n σ=>∃(h:Hn X.ι)(s:cR X),σ=s.st/\h.len=n/\Low s/\Ext (· ∈fP b) s0 s/\GP body h s k=some r) ?_ ?_ h.len ⟨h,s0,rfl,rfl,hl,Ext.refl _ s0,hr⟩
 ·rintro σ ⟨h,s,_,h1,_,_,h2⟩;cases h<;>first |cases h2 |cases h1
 ·rintro n σ ⟨h,s,rfl,h1,h2,h3,h4⟩;cases h<;>try cases h4
  rename_i a q;simp only[Hn.len,Nat.add_right_cancel_iff]at h1;refine(hb a s _ r h2 h4).mono ?_;rintro e σ ⟨s',g1,g2,rfl,g4⟩;have hx:=h3.trans g2;cases e with
  |normal=>exact⟨q,s',rfl,h1,g1,hx,g4⟩
  |_=>exact⟨s',g1,hx,rfl,g4⟩
theorem j4(hT:eY P T)(hm:P.follows .mixedOrders=true)(hΓ:qu P Γ):∀(c:Code)(A:Type)(h:Hn X.ι)(s:cR X)(k:Exit->cR X->Option A)(r:A),Low s->run Γ T am N n c A h s k=some r->Ev P N c (Ig (fP c) s k r) s.st
 | .skip,A,h,s,k,r,hl,hr=>ah0 ⟨s,hl,Ext.refl _ s,rfl,hr⟩
 | .exit id,A,h,s,k,r,hl,hr=>ah1 ⟨s,hl,Ext.refl _ s,rfl,hr⟩
 | .ret,A,h,s,k,r,hl,hr=>ajj ⟨s,hl,Ext.refl _ s,rfl,hr⟩
 | .label l,A,h,s,k,r,hl,hr=>af6 ⟨s,hl,Ext.refl _ s,rfl,hr⟩
 | .region id al d,A,h,s,k,r,hl,hr=>by
  refine BN hl (λ B h k r hb=>?_) hr;have⟨s',g1,g2,g3,g4⟩:=X0 (id:=id) hT hm hΓ hl hb;exact g4.mono λe σ ⟨he,hσ⟩=>⟨s',g2,g3.wide λt ht=>ae6 ht,hσ,by rw[he];exact g1⟩
 | .seq x y,A,h,s,k,r,hl,hr=>by
  refine BN hl (λ B h k r hb=>?_) hr;have⟨s1,hb,hl1,hx1,hr1⟩:=Z6 hl hb;refine ajy hr1 hl1 (ajk ((j4 hT hm hΓ x B _ s1 _ r hl1 hb).mono ?_));rintro e σ ⟨s',g1,g2,rfl,g4⟩;have wide:Ext (· ∈fP (.seq x y)) s s':=(hx1 _).trans (g2.wide λt ht=>by simp[fP,ht]);cases e with
  |normal=>
   exact(j4 hT hm hΓ y B _ s' k r g1 g4).mono λe σ ⟨s2,i1,i2,i3,i4⟩=>⟨s2,i1,wide.trans (i2.wide λt ht=>by simp[fP,ht]),i3,i4⟩
  |_=>exact⟨s',g1,wide,rfl,g4⟩
 | .cond c x y,A,h,s,k,r,hl,hr=>by
  refine BN hl (λ B h k r hb=>?_) hr;split at hb
  ·rename_i v hv;refine ah2 v (λ _ _=>rfl) ?_ ?_
   ·have:=Rh (eo s.env) c;rw[hv]at this;exact this.symm
   ·cases v with
    |true=>exact(j4 hT hm hΓ x B _ s k r hl hb).mono λe σ ⟨s2,i1,i2,i3,i4⟩=>⟨s2,i1,i2.wide λt ht=>by simp[fP,ht],i3,i4⟩
    |false=>exact(j4 hT hm hΓ y B _ s k r hl hb).mono λe σ ⟨s2,i1,i2,i3,i4⟩=>⟨s2,i1,i2.wide λt ht=>by simp[fP,ht],i3,i4⟩
  ·rename_i hv;have⟨hb1,hb2⟩:=ae4 hb;refine abX (λ _ _=>rfl) ?_ ?_ ?_
   ·have:=Rh (eo s.env) c;rw[hv]at this;exact this.symm
   ·exact(j4 hT hm hΓ x B _ s k r hl hb1).mono λe σ ⟨s2,i1,i2,i3,i4⟩=>⟨s2,i1,i2.wide λt ht=>by simp[fP,ht],i3,i4⟩
   ·exact(j4 hT hm hΓ y B _ s k r hl hb2).mono λe σ ⟨s2,i1,i2,i3,i4⟩=>⟨s2,i1,i2.wide λt ht=>by simp[fP,ht],i3,i4⟩
  ·cases hb
 | .block id b,A,h,s,k,r,hl,hr=>by
  refine BN hl (λ B h k r hb=>?_) hr;refine af7 ((j4 hT hm hΓ b B _ s _ r hl hb).mono ?_);rintro e σ ⟨s',g1,g2,rfl,g4⟩;cases e with
  |exit j=>
   simp only[PC];simp only at g4;split
   ·rw[bn ‹_›]at g4;exact⟨s',g1,g2,rfl,g4⟩
   ·rw[bf ‹_›]at g4;exact⟨s',g1,g2,rfl,g4⟩
  |_=>exact⟨s',g1,g2,rfl,g4⟩
 | .loop b,A,h,s,k,r,hl,hr=>by
  simp only[run]at hr;split at hr
  ·rename_i hd id ab h';obtain⟨v0,h1,h2,h3,h4⟩:=kF hl hl (Ext.refl _ s) hr;rw[ah]at h1;obtain⟨w,h5,h6⟩:=h1;intro w0 O0 β I a ww hrel ho;have⟨β',hrel'⟩:=h4 P w0 O0 N β I a ww hrel;refine R8 (Q:=Ig (fP (.loop b)) s k r) hl (λ s'=>rfl) (λ v r hlv hs=>j4 hT hm hΓ b _ h' (encS hd s v) _ r hlv hs) (λ e s' he hls hxs hk=>?_) (λ e s' v he hk=>?_) n v0 h5 h2 h3 w0 O0 β' I a ww hrel' h2.old
   ·cases e with
    |exit j=>
     simp only at hk;split at hk
     ·rename_i hj;subst hj;have⟨w',i1,i2,i3,i4⟩:=kF hl hls hxs hk;injection i1 with i1;cases i1;intro w0 O0 β I a ww hrel;have⟨β',hrel'⟩:=i4 P w0 O0 N β I a ww hrel;exact⟨β',_,hrel',i2.old,_,i2,i3,rfl,h6⟩
     ·cases hk
    |normal=>exact(he rfl).elim
    |_=>cases hk
   ·cases e with
    |exit j=>
     simp only at hk;split at hk
     ·have⟨w',i1⟩:=R9 hk;injection i1 with i1;cases i1
     ·cases hk
    |normal=>exact he rfl
    |_=>cases hk
  ·rename_i hd id ab h';obtain⟨v0,h1,h2,h3,h4⟩:=kF hl hl (Ext.refl _ s) hr;unfold dx at h1;rw[ah]at h1;obtain⟨w,h5,h6⟩:=h1;intro w0 O0 β I a ww hrel ho;have⟨β',hrel'⟩:=h4 P w0 O0 N β I a ww hrel;refine R8 (Q:=Ig (fP (.loop b)) s k r) hl (λ s'=>rfl) (λ v r hlv hs=>j4 hT hm hΓ b _ h' (encS hd s v) _ r hlv hs) (λ e s' he hls hxs hk=>?_) (λ e s' v he hk=>?_) n v0 h5 h2 h3 w0 O0 β' I a ww hrel' h2.old
   ·intro w0 O0 β I a ww hrel;have other:(k e s').map (λ a=>Sum.inr (Sum.inr a))=some (Sum.inr w:VT (X:=X) hd.vars⊕(VT (X:=X) ab.vars⊕A))->∃ β' σ',Rel P w0 O0 N β' I σ' a ww/\sn σ'/\Ig (fP (.loop b)) s k r e σ':=by
     intro hm;have⟨q,hq,hr⟩:=Z7 hm;cases hr;cases h6;exact⟨β,_,hrel,hls.old,s',hls,hxs,rfl,hq⟩
    cases e with
    |exit j=>
     simp only at hk;split at hk
     ·rename_i hj;subst hj;have⟨w',i1,i2,i3,i4⟩:=kF hl hls hxs hk;injection i1 with i1;cases i1;have⟨β',hrel'⟩:=i4 P w0 O0 N β I a ww hrel;exact⟨β',_,hrel',i2.old,_,i2,i3,rfl,h6⟩
     ·exact other hk
    |normal=>exact(he rfl).elim
    |_=>exact other hk
   ·have other:(k e s').map (λ a=>Sum.inr (Sum.inr a))=some (Sum.inl v:VT (X:=X) hd.vars⊕(VT (X:=X) ab.vars⊕A))->False:=by
     intro hm;have⟨q,hq,hr⟩:=Z7 hm;cases hr
    cases e with
    |exit j=>
     simp only at hk;split at hk
     ·have⟨w',i1⟩:=R9 hk;injection i1 with i1;cases i1
     ·exact other hk
    |normal=>exact he rfl
    |_=>exact other hk
  ·exact ae7 (body:=λh s k=>run Γ T am N n b A h s k) (λ h s k r hl h1=>j4 hT hm hΓ b A h s k r hl h1) hl hr
  ·cases hr
 | .rangeFunc ..,_,_,_,_,_,_,hr=>by cases hr
 | .scope _,_,_,_,_,_,_,hr=>by cases hr
 | .goto _,_,_,_,_,_,_,hr=>by cases hr
 | .refuse _,_,_,_,_,_,_,hr=>by cases hr
end
end
section
variable {X:SX}
def jd:Nat->(l:List (AT X.ι))->iw X l->List (DV X)
 |_,[],_=>[]
 |n,.d c::l,a=> .c c a.1::jd n l a.2
 |n,.ref c::l,a=> .rp c a.1 0::jd n l a.2
 |n,.du as r::l,a=> .du as r a.1::jd n l a.2
 |n,.mut _::l,a=> .own n 0 (List.length a.1)::jd (n+1) l a.2
 |n,.iu _::l,a=> .ptr n 0 0::jd (n+1) l a.2
 |n,.nil::l,a=> .nil::jd n l a.2
def GU:(l:List (AT X.ι))->iw X l->List (bp X)
 |[],_=>[]
 | .mut c::l,a=> .dp c a.1::GU l a.2
 | .iu c::l,a=> .cells (CT.sz X c) [oM c a.1]::GU l a.2
 | .d _::l,a=>GU l a.2
 | .ref _::l,a=>GU l a.2
 | .du _ _::l,a=>GU l a.2
 | .nil::l,a=>GU l a.2
theorem qp:∀(n:Nat)(l:List (AT X.ι))(a:iw X l),bG (jd n l a)=dh n l a
 |_,[],_=>rfl
 |n,.d c::l,a=>by simp only[jd,bG,den,dh,qp n l a.2]
 |n,.ref c::l,a=>by simp only[jd,bG,den,dh,qp n l a.2]
 |n,.du as r::l,a=>by simp only[jd,bG,dh,qp n l a.2]
 |n,.mut c::l,a=>by simp only[jd,bG,den,dh,qp (n+1) l a.2]
 |n,.iu c::l,a=>by simp only[jd,bG,den,dh,qp (n+1) l a.2]
 |n,.nil::l,a=>by simp only[jd,bG,den,dh,qp n l a.2]
theorem ug:∀(l:List (AT X.ι))(a:iw X l),(GU l a).map bC=(oN l a).map gc
 |[],_=>rfl
 | .d _::l,a=>ug l a.2
 | .ref _::l,a=>ug l a.2
 | .du _ _::l,a=>ug l a.2
 | .nil::l,a=>ug l a.2
 | .mut c::l,a=>by simp only[GU,oN,aF,ug l a.2];rfl
 | .iu c::l,a=>by simp only[GU,oN,aF,ug l a.2,bC,gc,qd,aG,map_nil,l7]
theorem nO:∀(n:Nat)(l:List (AT X.ι))(a:iw X l),∀k∈aQ (jd n l a),k<n+oP l
 |_,[],_,k,hk=>by simp[jd,aQ]at hk
 |n,.d c::l,a,k,hk=>by
  have:=nO n l a.2 k (by simpa[jd,aQ,bo]using hk);simpa[oP,AT.im]using this
 |n,.ref c::l,a,k,hk=>by
  have:=nO n l a.2 k (by simpa[jd,aQ,bo]using hk);simpa[oP,AT.im]using this
 |n,.du as r::l,a,k,hk=>by
  have:=nO n l a.2 k (by simpa[jd,aQ,bo]using hk);simpa[oP,AT.im]using this
 |n,.nil::l,a,k,hk=>by
  have:=nO n l a.2 k (by simpa[jd,aQ,bo]using hk);simpa[oP,AT.im]using this
 |n,.mut c::l,a,k,hk=>by
  simp only[jd,aQ,bo,List.singleton_append,aN]at hk;simp only[oP,AT.im,if_true];rcases hk with rfl |hk
  ·omega
  ·have:=nO (n+1) l a.2 k hk;omega
 |n,.iu c::l,a,k,hk=>by
  simp only[jd,aQ,bo,List.singleton_append,aN]at hk;simp only[oP,AT.im,if_true];rcases hk with rfl |hk
  ·omega
  ·have:=nO (n+1) l a.2 k hk;omega
theorem kG:∀(n:Nat)(l:List (AT X.ι))(a:iw X l),(dh n l a).length=l.length
 |_,[],_=>rfl
 |n,.d c::l,a=>by simp only[dh,bI,kG n l a.2]
 |n,.ref c::l,a=>by simp only[dh,bI,kG n l a.2]
 |n,.du as r::l,a=>by simp only[dh,bI,kG n l a.2]
 |n,.mut c::l,a=>by simp only[dh,bI,kG (n+1) l a.2]
 |n,.iu c::l,a=>by simp only[dh,bI,kG (n+1) l a.2]
 |n,.nil::l,a=>by simp only[dh,bI,kG n l a.2]
theorem kH:∀(l:List (AT X.ι))(a:iw X l),(oN l a).length=oP l
 |[],_=>rfl
 | .d _::l,a=>by simpa[oP,AT.im,oN]using kH l a.2
 | .ref _::l,a=>by simpa[oP,AT.im,oN]using kH l a.2
 | .du _ _::l,a=>by simpa[oP,AT.im,oN]using kH l a.2
 | .nil::l,a=>by simpa[oP,AT.im,oN]using kH l a.2
 | .mut _::l,a=>by simp only[oN,bI,kH l a.2,oP,AT.im,if_true];omega
 | .iu _::l,a=>by simp only[oN,bI,kH l a.2,oP,AT.im,if_true];omega
def t6(l:List (AT X.ι))(a:iw X l):cR X:=⟨(List.range l.length).zip (jd 0 l a),(List.range (GU l a).length).zip ((GU l a).map some),1000,[]⟩
theorem Zs(l:List (AT X.ι))(a:iw X l)(k:Nat):ff (t6 l a).obj k=(GU l a)[k]? :=by grind [length_map,t6,ff,y8]
theorem ajz(l:List (AT X.ι))(a:iw X l):(t6 l a).st=pL.st ⟨(List.range (wB l a).length).zip (wB l a),(List.range ((oN l a).map gc).length).zip ((oN l a).map gc)⟩:=by
 have ho:∀k,((ff (t6 l a).obj k).map bC)=lk ((List.range ((oN l a).map gc).length).zip ((oN l a).map gc)) k:=by
  intro k;rw[y8,Zs,<- ug,List.getElem?_map]
 simp only[cR.st,pL.st,St.mk.injEq,and_true];refine⟨?_,funext ho⟩;funext t;simp only[t6];rw[kG,wB,<- qp];generalize jd 0 l a=ds;have:∀(ks:List Nat)(ds:List (DV X)),den (eo (ks.zip ds) t)=(lk (ks.zip (bG ds)) t).getD .undef:=by
  intro ks
  induction ks with
  |nil=>intro ds;rfl
  |cons k ks ih=>
   intro ds;cases ds with
   |nil=>rfl
   |cons d ds=>
    simp only[List.zip_cons_cons,eo,lk,bG];by_cases h:k=t
    ·simp[h]
    ·simp only[bf h];exact ih ds
 exact this _ _
theorem ail(l:List (AT X.ι))(a:iw X l)(hm:oP l<=1000):Low (t6 l a):=by
 refine⟨by show 1000<=1000000;decide,aB _,λt k hk=>?_,λk o ho=>?_⟩
 ·have h0:=nO 0 l a;simp only[t6]at hk;generalize jd 0 l a=ds at hk h0;have:∀(ks:List Nat)(ds:List (DV X)),(∀ k∈aQ ds,k<0+oP l)->∀k∈bo (eo (ks.zip ds) t),k<1000:=by
   intro ks
   induction ks with
   |nil=>intro ds _ k hk;simp[eo,lk,bo]at hk
   |cons k ks ih=>
    intro ds h j hj;cases ds with
    |nil=>simp[eo,lk,bo]at hj
    |cons d ds=>
     simp only[List.zip_cons_cons,eo,lk]at hj;by_cases e:k=t
     ·simp only[bn e,Option.getD_some]at hj;have:=h j (by simp[aQ,hj]);omega
     ·simp only[bf e]at hj;exact ih ds (λ k hk=>h k (by simp[aQ,hk])) j hj
  exact this _ _ h0 k hk
 ·rw[Zs]at ho;have hl:(GU l a).length=oP l:=by rw[<- kH l a];simpa using congrArg List.length (ug l a)
  refine⟨by have:=(bX.1 ho).1;show k<1000;omega,λj hj=>?_⟩;have hz:∀(l:List (AT X.ι))(a:iw X l),∀o∈GU l a,cT o=[]:=by
   intro l
   induction l with
   |nil=>intro a o ho;simp[GU]at ho
   |cons q l ih=>
    intro a o ho;cases q<;>simp only[GU,aN]at ho
    case «mut» c=>rcases ho with rfl |ho;rfl;exact ih _ o ho
    case iu c=>
     rcases ho with rfl |ho
     ·have h1:aQ (oM c a.1)=[]:=by
       rw[<- gI,l7];generalize CT.row X.toSE c a.1=r
       induction r with
       |nil=>rfl
       |cons y ys ih=>simp only[aF,dU,refs,ih,bK]
      simp[cT,h1]
     ·exact ih _ o ho
    all_goals exact ih _ o ho
  rw[hz l a o (bW ho)]at hj;cases hj
variable (T:ea)
def BW(s:cR X):ResultVar->Option (DV X)
 | .tmp t=>some (eo s.env t)
 | .cell a t=>(T t).bind λti=>match eo s.env a with
  | .ptr kk row aa=>(ff s.obj kk).bind λo=>match o with
   | .cells _ rows=>(rows[row]?).bind λr=>C9 ti.agg ti.size ((r.drop aa).take ti.size)
   |_=>none
  |_=>none
def Sb(s:cR X):List ResultVar->Option (List (DV X))
 |[]=>some []
 |r::rs=>(BW T s r).bind λv=>(Sb s rs).bind λvs=>some (v::vs)
theorem agD{s:cR X}{r:ResultVar}{d:DV X}(h:BW T s r=some d):LY T s.st r=some (den d):=by
 cases r with
 |tmp t=>simp only[BW,ay]at h;subst h;rfl
 |cell a t=>
  simp only[BW]at h;rw[ah]at h;obtain⟨ti,h1,h⟩:=h;split at h
  ·rename_i kk row aa hp;rw[ah]at h;obtain⟨o,h2,h⟩:=h;split at h
   ·rename_i sz rows;have⟨q,h3,h⟩:=ah.1 h;have h4:=vR h;rw[iD]at h4
    show(match Qe T t (den (eo s.env a)) (λ k=>(ff s.obj k).map bC)with
     |some ⟨v,[],[]⟩=>some v
     |_=>none)=some (den d)
    simp only[Qe,HV,h1,af,hp,den,h2,Option.map_some,bC,List.getElem?_map,h3,h4,pv]
   ·cases h
  ·cases h
def U6{A:Type}(s:cR X):List ResultVar->(List (DV X)->Option A)->Option A
 |[],k=>k []
 | .tmp t::rs,k=>U6 s rs λvs=>k (eo s.env t::vs)
 | .cell a t::rs,k=>(T t).bind λti=>match eo s.env a with
  | .ptr kk row aa=>(ff s.obj kk).bind λo=>match o with
   | .cells _ rows=>(rows[row]?).bind λr=>(C9 ti.agg ti.size ((r.drop aa).take ti.size)).bind λv=>U6 s rs λvs=>k (v::vs)
   |_=>none
  |_=>none
theorem Gm{A:Type}{s:cR X}:∀{rs:List ResultVar}{k:List (DV X)->Option A}{r:A},U6 T s rs k=some r->∃ds,Sb T s rs=some ds/\k ds=some r
 |[],k,r,h=>⟨[],rfl,h⟩
 | .tmp t::rs,k,r,h=>by
  have⟨ds,h1,h2⟩:=Gm (rs:=rs) h;exact⟨_,by simp only[Sb,BW,h1,af],h2⟩
 | .cell a t::rs,k,r,h=>by
  simp only[U6]at h;rw[ah]at h;obtain⟨ti,h1,h⟩:=h;split at h
  ·rename_i kk row aa hp;have⟨o,h2,h⟩:=ah.1 h;split at h
   ·have⟨q,h3,h⟩:=ah.1 h;have⟨v,h4,h⟩:=ah.1 h;have⟨ds,h5,h6⟩:=Gm (rs:=rs) h;exact⟨_,by simp only[Sb,BW,h1,hp,h2,h3,h4,h5,af],h6⟩
   ·cases h
  ·cases h
theorem Mr{s:cR X}:∀{rs:List ResultVar}{ds:List (DV X)},Sb T s rs=some ds->l6 T s.st rs=some (bG ds)
 |[],ds,h=>by simp only[Sb,ay]at h;subst h;rfl
 |r::rs,ds,h=>by
  simp only[Sb]at h;have⟨d,h1,h⟩:=ah.1 h;have⟨ds',h2,h⟩:=ah.1 h;cases h;simp only[l6,agD T h1,Mr h2,af,bG]
def Ms:List (RT X.ι)->List (DV X)->Option Nat
 | .mu _::l,ds=>Ms l ds
 | .mr _::l,ds=>Ms l ds
 | .mv::l,ds=>Ms l ds
 | .fresh _::l,d::ds=>match d with
  | .own k _ _=>some k
  |_=>Ms l ds
 | .d _::l,_::ds=>Ms l ds
 | .whole _::l,_::ds=>Ms l ds
 |_,_=>none
def uu:List (RT X.ι)->List (DV X)->List (Nat×Nat)
 | .mu _::l,ds=>uu l ds
 | .mr _::l,ds=>uu l ds
 | .mv::l,ds=>uu l ds
 | .whole j::l,d::ds=>match d with
  | .own _ _ len=>(j,len)::uu l ds
  |_=>uu l ds
 | .d _::l,_::ds=>uu l ds
 | .fresh _::l,_::ds=>uu l ds
 |_,_=>[]
def uh:Nat->List (RT X.ι)->List Nat
 |_,[]=>[]
 |n,.mu _::l=>n::uh (n+1) l
 |n,.mr _::l=>n::uh (n+1) l
 |n,.mv::l=>uh (n+1) l
 |n,_::l=>uh n l
def pZ:Nat->List (RT X.ι)->List Nat
 |_,[]=>[]
 |n,.mu _::l=>n::pZ (n+1) l
 |n,.mr _::l=>pZ (n+1) l
 |n,.mv::l=>pZ (n+1) l
 |n,_::l=>pZ n l
def Z8(bad:List Nat)(ks:List Nat):Bool:=ks.all λk=>!bad.contains k
def X6(get:Nat->Option (bp X))(row:List (DV X))(c:CT X.ι):Option (CT.T X.toSE c×List Bool):=
 match c with
 | .st i=>(uM get row (X.cW i)).bind λh=>some (X.make i h.1,h.2)
 |c=>match row with
  |[d]=>NZ get d c
  |_=>none
def EQ(get:Nat->Option (bp X))(c:CT X.ι):List (List (DV X))->Option (List (CT.T X.toSE c)×List Bool)
 |[]=>some ([],[])
 |r::rs=>(X6 get r c).bind λx=>(EQ get c rs).bind λy=>some (x.1::y.1,x.2++y.2)
def JY(get:Nat->Option (bp X))(bad pD:List Nat)(fk:Option Nat)(wl:List (Nat×Nat))(n:Nat):(q:RT X.ι)->List (DV X)->Option ((RT.T X q×List Bool)×List (DV X))
 | .d c,d::ds=>if Z8 bad (bo d)then(Da get d c).bind λx=>some (x,ds)else none
 | .fresh e,d::ds=>match d with
  | .nil=>some (([],[]),ds)
  | .own k 0 len=>if fk=some k then(get k).bind λo=>match o with
   | .dp b l=>(iX (.sl b) (.sl e) l).bind λ(l:List (CT.T X.toSE e))=>some ((sub l 0 len,[bj (sub l 0 len).length len]),ds)
   | .cells sz rows=>if sz=CT.sz X e/\Z8 bad (rows.map aQ).flatten=true then(EQ get e rows).bind λx=>some ((x.1,bj len (List.length x.1)::x.2),ds)else none
   |_=>none
   else none
  |_=>none
 | .whole j,d::ds=>match d with
  | .own k 0 len=>if k=j/\pD.contains j=true then(lk wl j).bind λd8=>some (((),[bj len d8]),ds)else none
  |_=>none
 | .mu c,ds=>(get n).bind λo=>match o with
  | .dp b l=>(iX (.sl b) (.sl c) l).bind λ(l:List (CT.T X.toSE c))=>match lk wl n with
   |some len=>some ((sub l 0 len,[bj (sub l 0 len).length len]),ds)
   |none=>some ((l,[]),ds)
  |_=>none
 | .mr c,ds=>(get n).bind λo=>match o with
  | .cells sz [row]=>if sz=CT.sz X c/\Z8 bad (aQ row)=true then(X6 get row c).bind λx=>some (x,ds)else none
  |_=>none
 | .mv,ds=>some (((),[]),ds)
 |_,[]=>none
def JZ(get:Nat->Option (bp X))(bad pD:List Nat)(fk:Option Nat)(wl:List (Nat×Nat)):Nat->(l:List (RT X.ι))->(ds:List (DV X))->Option (qJ X l×List Bool)
 |_,[],ds=>match ds with
  |[]=>some ((),[])
  |_=>none
 |n,[q],ds=>(JY get bad pD fk wl n q ds).bind λp=>match p.2 with
  |[]=>some p.1
  |_=>none
 |n,q::q'::l,ds=>(JY get bad pD fk wl n q ds).bind λp=>(JZ get bad pD fk wl (if q.out then n+1 else n) (q'::l) p.2).bind λy=>some ((p.1.1,y.1),p.1.2++y.2)
def X7(s:cR X)(l:List (RT X.ι))(ds:List (DV X)):Option (qJ X l×List Bool):=
 if Z8 (uh 0 l) (Ms l ds).toList then JZ (ff s.obj) (uh 0 l++(Ms l ds).toList) (pZ 0 l) (Ms l ds) (uu l ds) 0 l ds else none
def TO(rs:List ResultVar)(l:List (RT X.ι)):Exit->cR X->Option (qJ X l)
 | .normal,s=>U6 T s rs λds=>(X7 s l ds).bind λx=>Rk x.2 (some x.1)
 | .ret,s=>U6 T s rs λds=>(X7 s l ds).bind λx=>Rk x.2 (some x.1)
 |_,_=>none
def exit(A:Type)(k:cR X->Option A):Exit->cR X->Option A
 | .normal,s=>k s
 | .ret,s=>k s
 |_,_=>none
variable {T}
section
variable {get:Nat->Option (bp X)} {fk:Option Nat} {os':List (Option dY)} {bad:List Nat}
theorem BP{ks:List Nat}(h:Z8 bad ks=true):∀j∈ks,j∉bad:=λj hj=>by simpa using all_eq_true.1 h j hj
theorem Mt(hbad:∀j,j∉bad->fk≠some j/\¬kept os' j){d:DV X}{c:CT X.ι}{x:CT.T X.toSE c×List Bool}(hc:c.one=true)(h:NZ get d c=some x)(hb:∀b∈x.2,b=true)(mj:∀j∈bo d,j∉bad):∃t,CT.tv X.toSE c x.1= .s t/\LX (eU get) fk os' (den d) t:=by
 obtain⟨t,h1,h2⟩:=row_one hc x.1;refine⟨t,h2,?_⟩;have hbase:∀y,GN d c=some y->y=x.1->LX (eU get) fk os' (den d) t:=by
  intro y hy he;subst he;have h3:=tV hy;rw[h2]at h3;have h4:=XI hc hy;unfold GN at hy;split at hy
  ·rw[(mY hy).1];simp only[den,h2,TV.av,LX]
  ·simp only[den,Gb.wk,TV.av,AV.t.injEq]at h3;simp only[den,LX];exact h3.symm
  ·simp only[den,Gb.wk,TV.av,AV.t.injEq]at h3;simp only[den,LX];exact h3.symm
  ·cases hy
 unfold NZ at h;split at h
 ·rename_i kk aa len e;rw[ah]at h;obtain⟨o,h3,h⟩:=h;split at h
  ·rename_i b l0;rw[ah]at h;obtain⟨l,h4,h⟩:=h;cases h;have h5:(sub l aa len).length=len:=(by simpa[bj]using hb (bj (sub l aa len).length len) (by simp));have⟨h6,h7⟩:=iL h4;obtain⟨hf1,hf2⟩:=hbad kk (mj kk (by simp[bo]));simp only[den,LX];refine⟨hf1,hf2,bC (.dp b l0),(sub l aa len).map (CT.row X.toSE e),by simp[eU,h3],?_,by simpa using h5,?_⟩
   ·simp only[bC,h7];simp[aG,sub,map_take]
   ·simpa[CT.row]using h1.symm
  ·cases h
 ·rename_i kk aa len;rw[ah]at h;obtain⟨o,h3,h⟩:=h;split at h
  ·rename_i b l0;cases h;have h5:(sub l0 aa len).length=len:=(by simpa[bj]using hb (bj (sub l0 aa len).length len) (by simp));obtain⟨hf1,hf2⟩:=hbad kk (mj kk (by simp[bo]));simp only[den,LX];refine⟨hf1,hf2,bC (.dp b l0),(sub l0 aa len).map (CT.row X.toSE b),by simp[eU,h3],?_,by simpa using h5,?_⟩
   ·simp only[bC];simp[aG,sub,map_take,map_drop]
   ·simpa[CT.row]using h1.symm
  ·cases h
 ·rename_i kk len e;rw[ah]at h;obtain⟨o,h3,h⟩:=h;split at h
  ·rename_i b l0;have⟨l,h4,h⟩:=ah.1 h;cases h;have h5:(sub l 0 len).length=len:=(by simpa[bj]using hb (bj (sub l 0 len).length len) (by simp));have⟨h6,h7⟩:=iL h4;obtain⟨hf1,hf2⟩:=hbad kk (mj kk (by simp[bo]));simp only[den,LX];refine⟨hf1,hf2,bC (.dp b l0),(sub l 0 len).map (CT.row X.toSE e),by simp[eU,h3],?_,by simpa using h5,?_⟩
   ·simp only[bC,h7];simp[aG,sub,map_take,map_drop]
   ·simpa[CT.row]using h1.symm
  ·cases h
 ·have⟨y,h3,h⟩:=ah.1 h;injection h with h;exact hbase y h3 (by rw[<- h])
theorem II(hbad:∀j,j∉bad->fk≠some j/\¬kept os' j):∀{ds:List (DV X)}{l:List (CT X.ι)}{h:HL X.toSE l×List Bool},uM get ds l=some h->(∀ b∈h.2,b=true)->l.all CT.one=true->(∀ j∈aQ ds,j∉bad)->kh (eU get) fk os' (bG ds) (HL.row X.toSE l h.1)
 |[],[],h,_,_,_,_=>trivial
 |d::ds,c::l,h,hr,hb,ha,mj=>by
  simp only[uM]at hr;have⟨x,h1,hr⟩:=ah.1 hr;have⟨g,h2,hr⟩:=ah.1 hr;cases hr;simp only[all_cons,aJ]at ha;obtain⟨t,i1,i2⟩:=Mt hbad ha.1 h1 (λ b hb'=>hb b (by simp[hb'])) (λ j hj=>mj j (by simp[aQ,hj]));have i3:=II hbad h2 (λ b hb'=>hb b (by simp[hb'])) ha.2 (λ j hj=>mj j (by simp[aQ,hj]));obtain⟨t',j1,j2⟩:=row_one ha.1 x.1;rw[i1]at j2;cases j2;show kh (eU get) fk os' (den d::bG ds) (CT.row X.toSE c x.1++HL.row X.toSE l g.1);rw[j1];exact⟨i2,i3⟩
 |[],_::_,_,hr,_,_,_=>by simp[uM]at hr
 |_::_,[],_,hr,_,_,_=>by simp[uM]at hr
theorem Og(hbad:∀j,j∉bad->fk≠some j/\¬kept os' j){row:List (DV X)}{c:CT X.ι}{x:CT.T X.toSE c×List Bool}(h:X6 get row c=some x)(hb:∀b∈x.2,b=true)(mj:∀j∈aQ row,j∉bad):kh (eU get) fk os' (bG row) (CT.row X.toSE c x.1):=by
 cases c
 case st i=>
  replace h:(uM get row (X.cW i)).bind (λ h=>some (X.make i h.1,h.2))=some x:=h
  have⟨g,h1,h⟩:=ah.1 h;cases h;have:=II hbad h1 hb (X.flat i) mj;show kh (eU get) fk os' (bG row) (X.row i (X.make i g.1));rw[X.fR];exact this
 all_goals
  match row,h,mj with
  |[d],h,mj=>
   obtain⟨t,i1,i2⟩:=Mt (fk:=fk) hbad rfl h hb (λ j hj=>mj j (by simp[aQ,hj]));obtain⟨t',j1,j2⟩:=row_one rfl x.1;rw[i1]at j2;cases j2;rw[j1];exact⟨i2,trivial⟩
  |[],h,_=>cases h
  |_::_::_,h,_=>cases h
theorem J2(hbad:∀j,j∉bad->fk≠some j/\¬kept os' j){c:CT X.ι}:∀{rows:List (List (DV X))}{x:List (CT.T X.toSE c)×List Bool},EQ get c rows=some x->(∀ b∈x.2,b=true)->(∀ j∈(rows.map aQ).flatten,j∉bad)->eb (eU get) fk os' (rows.map bG) (x.1.map (CT.row X.toSE c))/\rows.length=List.length x.1
 |[],x,h,_,_=>by simp only[EQ,ay]at h;subst h;exact⟨trivial,rfl⟩
 |r::rs,x,h,hb,mj=>by
  simp only[EQ]at h;have⟨y,h1,h⟩:=ah.1 h;have⟨z,h2,h⟩:=ah.1 h;cases h;have i1:=Og hbad h1 (λ b hb'=>hb b (by simp[hb'])) (λ j hj=>mj j (by simp[hj]));obtain⟨i2,i3⟩:=J2 hbad h2 (λ b hb'=>hb b (by simp[hb'])) (λ j hj=>mj j (by simp only[aF,flatten_cons,aY];exact .inr hj));exact⟨⟨i1,i2⟩,by simp[i3]⟩
theorem agE{x:AV}{t:Tree}(h:LX (eU get) fk os' x t):BE (eU get) fk os' x (.d (.s t)):=by cases x<;>first |exact h |exact h.elim
theorem BQ(sz:CT X.ι)(l:List (CT.T X.toSE sz)):eb (eU get) fk os' (aG (l.map (CT.row X.toSE sz))) (l.map (CT.row X.toSE sz)):=by
 generalize l.map (CT.row X.toSE sz)=rows
 induction rows with
 |nil=>trivial
 |cons r rs ih=>
  refine⟨?_,ih⟩;show kh (eU get) fk os' (r.map AV.t) r
  induction r with
  |nil=>trivial
  |cons y ys ih2=>exact⟨rfl,ih2⟩
theorem agF(hbad:∀j,j∉bad->fk≠some j/\¬kept os' j){c:CT X.ι}{d:DV X}{x:CT.T X.toSE c×List Bool}(h:Da get d c=some x)(mj:∀j∈bo d,j∉bad)(hb:∀b∈x.2,b=true):BE (eU get) fk os' (den d) (.d (CT.tv X.toSE c x.1)):=by
 cases c
 case st i=>
  replace h:Wj get d i=some x:=h
  cases d
  case agg cs=>
   simp only[Wj]at h;have⟨g,h1,h⟩:=ah.1 h;cases h;have:=II (fk:=fk) hbad h1 hb (X.flat i) (by simpa[bo]using mj);show kh (eU get) fk os' (bG cs) (X.row i (X.make i g.1));rw[X.fR];exact this
  case c a y=>
   simp only[Wj]at h;have⟨z,h1,h⟩:=ah.1 h;cases h;rw[(mY h1).1];show kh (eU get) fk os' ((X.row i z).map AV.t) (X.row i z);generalize X.row i z=l
   induction l with
   |nil=>trivial
   |cons y ys ih=>exact⟨rfl,ih⟩
  all_goals cases h
 all_goals
  have⟨t,i1,i2⟩:=Mt (fk:=fk) hbad rfl h hb mj;rw[i1];exact agE i2
theorem Sc{pD:List Nat}{wl:List (Nat×Nat)}{ns:List Nat}{n:Nat}(hbad:∀j,j∉bad->fk≠some j/\¬kept os' j)(pw:∀k,fk=some k->¬kept os' k)(hns:∀j d8,j∈pD->lk wl j=some d8->ns.getD j 0=d8)(hmu:∀j∈pD,kept os' j){q:RT X.ι}{ds:List (DV X)}{p:(RT.T X q×List Bool)×List (DV X)}(h:JY get bad pD fk wl n q ds=some p)(hb:∀b∈p.1.2,b=true):
 (∀ cs,mn (eU get) fk os' (bG p.2) cs->mn (eU get) fk os' (bG ds) (Rx ns q p.1.1++cs))/\
 (∀ t,oO q p.1.1=[some t]->∃o,get n=some o/\(bC o).sz=t.1/\eb (eU get) fk os' ((bC o).rows.take t.2.length) t.2)/\
 (∀ d8 c,q= .mu c->lk wl n=some d8->UZ q p.1.1=[d8]):=by
 cases q
 case d c=>
  cases ds with
  |nil=>simp[JY]at h
  |cons d ds=>
   simp only[JY]at h;split at h
   ·rename_i hnb;rw[ah]at h;obtain⟨x,h1,h⟩:=h;cases h;exact⟨λ cs hcs=>⟨agF hbad h1 (BP hnb) hb,hcs⟩,λt ht=>by simp[oO]at ht,λ_ _ h=>by cases h⟩
   ·cases h
 case fresh e=>
  cases ds with
  |nil=>simp[JY]at h
  |cons d ds=>
   refine⟨λ cs hcs=>?_,λt ht=>by simp[oO]at ht,λ_ _ h=>by cases h⟩;simp only[JY]at h;split at h
   ·cases h;exact⟨rfl,hcs⟩
   ·rename_i k len;split at h
    ·rename_i mj;rw[ah]at h;obtain⟨o,h1,h⟩:=h;split at h
     ·rename_i b l0;rw[ah]at h;obtain⟨l,h2,h⟩:=h;cases h;have⟨h3,h4⟩:=iL h2;have h5:(sub l 0 len).length=len:=(by simpa[bj]using hb (bj (sub l 0 len).length len) (by simp));refine⟨⟨mj,pw k mj,rfl,bC (.dp b l0),by simp[eU,h1],by simp only[bC];exact h3,?_,by simpa using h5⟩,hcs⟩;have e1:(bC (.dp b l0)).rows.take len=aG ((sub l 0 len).map (CT.row X.toSE e)):=by
       simp only[bC,h4];simp[aG,sub,map_take]
      rw[e1];exact BQ e _
     ·rename_i sz rows;split at h
      ·rename_i hc;rw[ah]at h;obtain⟨x,h2,h⟩:=h;cases h;obtain⟨i1,i2⟩:=J2 (fk:=fk) hbad h2 (λ b hb'=>hb b (by simp[hb'])) (BP hc.2);have h5:len=List.length x.1:=(by simpa[bj]using hb (bj len (List.length x.1)) (by simp));refine⟨⟨mj,pw k mj,rfl,bC (.cells sz rows),by simp[eU,h1],hc.1,?_,by simpa using h5.symm⟩,hcs⟩;simp only[bC];rw[List.take_of_length_le (by simp;omega)];exact i1
      ·cases h
     ·cases h
    ·cases h
   ·cases h
 case whole j=>
  cases ds with
  |nil=>simp[JY]at h
  |cons d ds=>
   refine⟨λ cs hcs=>?_,λt ht=>by simp[oO]at ht,λ_ _ h=>by cases h⟩;simp only[JY]at h;split at h
   ·rename_i k len;split at h
    ·rename_i hc;obtain⟨rfl,hm⟩:=hc;rw[ah]at h;obtain⟨d8,h1,h⟩:=h;cases h;have h5:len=d8:=(by simpa[bj]using hb (bj len d8) (by simp));have hm:k∈pD:=(by simpa using hm);refine⟨⟨rfl,rfl,?_,hmu k hm⟩,hcs⟩;rw[h5];exact hns k d8 hm h1
    ·cases h
   ·cases h
 case mu c=>
  simp only[JY]at h;rw[ah]at h;obtain⟨o,h1,h⟩:=h;split at h
  ·rename_i b l0;rw[ah]at h;obtain⟨l,h2,h⟩:=h;have⟨h3,h4⟩:=iL h2;split at h
   ·rename_i len hl;cases h;have h5:(sub l 0 len).length=len:=(by simpa[bj]using hb (bj (sub l 0 len).length len) (by simp));refine⟨λ cs hcs=>hcs,λt ht=>?_,λd8 c' _ hl'=>?_⟩
    ·simp only[oO,List.cons.injEq,ay,and_true]at ht;subst ht;refine⟨_,h1,by simp only[bC,qd];exact h3,?_⟩;have e1:(bC (.dp b l0)).rows.take (qd c (sub l 0 len)).2.length=aG (qd c (sub l 0 len)).2:=by
      simp only[bC,h4,qd,length_map,h5];simp[aG,sub,map_take]
     rw[e1];exact BQ c _
    ·rw[hl]at hl';injection hl' with hl';subst hl';simp only[UZ,h5]
   ·rename_i hl;cases h;refine⟨λ cs hcs=>hcs,λt ht=>?_,λd8 c' _ hl'=>by rw[hl]at hl';cases hl'⟩;simp only[oO,List.cons.injEq,ay,and_true]at ht;subst ht;refine⟨_,h1,by simp only[bC,qd];exact h3,?_⟩;have e1:(bC (.dp b l0)).rows.take (qd c l).2.length=aG (qd c l).2:=by
     simp only[bC,h4,qd];rw[List.take_of_length_le (by simp[aG])]
    rw[e1];exact BQ c _
  ·cases h
 case mr c=>
  simp only[JY]at h;rw[ah]at h;obtain⟨o,h1,h⟩:=h;split at h
  ·rename_i sz row;split at h
   ·rename_i hc;have⟨x,h2,h⟩:=ah.1 h;cases h;refine⟨λ cs hcs=>hcs,λt ht=>?_,λ_ _ h=>by cases h⟩;simp only[oO,List.cons.injEq,ay,and_true]at ht;subst ht;refine⟨_,h1,by simp only[bC,qd];exact hc.1,?_⟩;exact⟨Og hbad h2 hb (BP hc.2),trivial⟩
   ·cases h
  ·cases h
 case mv=>
  simp only[JY,ay]at h;subst h;exact⟨λ cs hcs=>hcs,λt ht=>by simp[oO]at ht,λ_ _ h=>by cases h⟩
theorem ER{q:RT X.ι}{x:RT.T X q}:(oO q x).length=(if q.out then 1 else 0)/\(UZ q x).length=(if q.out then 1 else 0):=by cases q<;>exact⟨rfl,rfl⟩
theorem ES{n j:Nat}{q:RT X.ι}{l:List (RT X.ι)}:j∈pZ n (q::l)->(j=n/\∃c,q= .mu c)\/j∈pZ (if q.out then n+1 else n) l:=by
 cases q<;>simp only[pZ,RT.out,if_true,Bool.false_eq_true,if_false,aN]
 case mu c=>exact λh=>h.imp (λ h=>⟨h,c,rfl⟩) id
 all_goals exact .inr
theorem Pu{j:Nat}:∀{l:List (RT X.ι)}{n:Nat},j∈pZ n l->n<=j
 |[],n,h=>by simp[pZ]at h
 |q::l,n,h=>by
  rcases ES h with ⟨rfl,_⟩ |h
  ·exact aB _
  ·have:=Pu h;split at this<;>omega
theorem Z9:∀{l:List (RT X.ι)}{x:qJ X l}{n j:Nat},j∈pZ n l->∃p,(mK l x)[j -n]? =some (some p)
 |[],x,n,j,h=>by simp[pZ]at h
 |[q],x,n,j,h=>by
  rcases ES h with ⟨rfl,c,rfl⟩ |h
  ·exact⟨_,by simp only[Nat.sub_self];rfl⟩
  ·simp[pZ]at h
 |q::q'::l,x,n,j,h=>by
  rcases ES h with ⟨rfl,c,rfl⟩ |h
  ·exact⟨_,by simp only[Nat.sub_self];rfl⟩
  ·have⟨p,hp⟩:=Z9 (l:=q'::l) (x:=x.2) h;have hge:=Pu h;refine⟨p,?_⟩;show(oO q x.1++mK (q'::l) x.2)[j -n]? =_;have hl:=(ER (q:=q) (x:=x.1)).1
   all_goals grind
theorem Au:∀{l:List (RT X.ι)}{x:qJ X l}{n j:Nat}{p:dY},(mK l x)[j]? =some (some p)->n+j∈uh n l
 |[],x,n,j,p,h=>by simp[mK]at h
 |[q],x,n,j,p,h=>by
  have h:(oO q x)[j]? =some (some p):=h;cases q<;>simp only[oO,List.getElem?_nil,reduceCtorEq]at h
  case mu c=>cases j<;>simp at h<;>simp[uh]
  case mr c=>cases j<;>simp at h<;>simp[uh]
  case mv=>cases j<;>simp at h
 |q::q'::l,x,n,j,p,h=>by
  have h:(oO q x.1++mK (q'::l) x.2)[j]? =some (some p):=h;cases q
  case mu c=>
   cases j with
   |zero=>simp[uh]
   |succ j=>
    have:=Au (l:=q'::l) (x:=x.2) (n:=n+1) (by simpa[oO]using h);simp only[uh,aN];right;rw[show n+(j+1)=n+1+j by omega];exact this
  case mr c=>
   cases j with
   |zero=>simp[uh]
   |succ j=>
    have:=Au (l:=q'::l) (x:=x.2) (n:=n+1) (by simpa[oO]using h);simp only[uh,aN];right;rw[show n+(j+1)=n+1+j by omega];exact this
  case mv=>
   cases j with
   |zero=>simp[oO]at h
   |succ j=>
    have:=Au (l:=q'::l) (x:=x.2) (n:=n+1) (by simpa[oO]using h);simp only[uh];rw[show n+(j+1)=n+1+j by omega];exact this
  all_goals
   simp only[uh];exact Au (l:=q'::l) (x:=x.2) (by simpa[oO]using h)
theorem aac{pD:List Nat}{wl:List (Nat×Nat)}{n:Nat}{q:RT X.ι}{ds:List (DV X)}{p:(RT.T X q×List Bool)×List (DV X)}(h:JY get bad pD fk wl n q ds=some p)(hb:∀b∈p.1.2,b=true):∀d8 c,q= .mu c->lk wl n=some d8->UZ q p.1.1=[d8]:=by
 rintro d8 c rfl hl;simp only[JY]at h;rw[ah]at h;obtain⟨o,h1,h⟩:=h;split at h
 ·rename_i b l0;have⟨l,h2,h⟩:=ah.1 h;rw[hl]at h;cases h;have h5:(sub l 0 d8).length=d8:=by simpa[bj]using hb (bj (sub l 0 d8).length d8) (by simp)
  simp only[UZ,h5]
 ·cases h
theorem IJ{pD:List Nat}{wl:List (Nat×Nat)}:∀{n:Nat}{l:List (RT X.ι)}{ds:List (DV X)}{x:qJ X l×List Bool},JZ get bad pD fk wl n l ds=some x->(∀ b∈x.2,b=true)->∀j d8,n+j∈pZ n l->lk wl (n+j)=some d8->(XP l x.1).getD j 0=d8
 |n,[],ds,x,h,hb,j,d8,hm,_=>by simp[pZ]at hm
 |n,[q],ds,x,h,hb,j,d8,hm,hl=>by
  simp only[JZ]at h;have⟨p,h1,h⟩:=ah.1 h;split at h
  ·cases h;rcases ES hm with ⟨e,c,rfl⟩ |hm
   ·have e:j=0:=(by omega);subst e;have:=(aac h1 hb) d8 c rfl hl;show(UZ _ p.1.1).getD 0 0=d8;rw[this];rfl
   ·simp[pZ]at hm
  ·cases h
 |n,q::q'::l,ds,x,h,hb,j,d8,hm,hl=>by
  simp only[JZ]at h;have⟨p,h1,h⟩:=ah.1 h;have⟨y,h2,h⟩:=ah.1 h;cases h;have hlen:=(ER (q:=q) (x:=p.1.1)).2;rcases ES hm with ⟨e,c,rfl⟩ |hm
  ·have e:j=0:=(by omega);subst e;have:=(aac h1 (λ b hb'=>hb b (by simp[hb']))) d8 c rfl hl;show(UZ _ p.1.1++XP (q'::l) y.1).getD 0 0=d8;rw[this];rfl
  ·have hge:=Pu hm;show(UZ _ p.1.1++XP (q'::l) y.1).getD j 0=d8;by_cases hq:q.out=true
   ·rw[bn hq]at h2 hm hge hlen;have:=IJ h2 (λ b hb'=>hb b (by simp[hb'])) (j -1) d8 (by rw[show n+1+(j -1)=n+j by omega];exact hm) (by rw[show n+1+(j -1)=n+j by omega];exact hl);rw[List.getD_eq_getElem?_getD,nY (by omega),hlen,<- List.getD_eq_getElem?_getD];exact this
   ·rw[bf hq]at h2 hm hge hlen;have:=IJ h2 (λ b hb'=>hb b (by simp[hb'])) j d8 hm hl;rw[List.getD_eq_getElem?_getD,nY (by omega),hlen,Nat.sub_zero,<- List.getD_eq_getElem?_getD];exact this
theorem WI{pD:List Nat}{wl:List (Nat×Nat)}{ns:List Nat}(hbad:∀j,j∉bad->fk≠some j/\¬kept os' j)(pw:∀k,fk=some k->¬kept os' k)(hns:∀j d8,j∈pD->lk wl j=some d8->ns.getD j 0=d8)(hmu:∀j∈pD,kept os' j):∀{n:Nat}{l:List (RT X.ι)}{ds:List (DV X)}{x:qJ X l×List Bool},JZ get bad pD fk wl n l ds=some x->(∀ b∈x.2,b=true)->
 mn (eU get) fk os' (bG ds) (za ns l x.1)/\∀j t,(mK l x.1)[j]? =some (some t)->∃o,get (n+j)=some o/\(bC o).sz=t.1/\eb (eU get) fk os' ((bC o).rows.take t.2.length) t.2
 |n,[],ds,x,h,_=>by
  simp only[JZ]at h;split at h
  ·exact⟨trivial,λj t ht=>by simp[mK]at ht⟩
  ·cases h
 |n,[q],ds,x,h,hb=>by
  simp only[JZ]at h;rw[ah]at h;obtain⟨p,h1,h⟩:=h;split at h
  ·rename_i hp;cases h;have⟨i1,i2,_⟩:=Sc (ns:=ns) hbad pw hns hmu h1 hb;rw[hp]at i1;have:=i1 [] trivial;rw[append_nil]at this;refine⟨this,λj t ht=>?_⟩;have ht:(oO q p.1.1)[j]? =some (some t):=ht;have hl:=(ER (q:=q) (x:=p.1.1)).1;have hj:=(bX.1 ht).1;have hj0:j=0:=(by split at hl<;>omega);subst hj0;refine i2 t ?_
   match ho:oO q p.1.1,ht,hl with
   |[z],ht,_=>simpa using ht
   |[],ht,_=>simp at ht
   |_::_::_,_,hl=>simp only[bI]at hl;split at hl<;>omega
  ·cases h
 |n,q::q'::l,ds,x,h,hb=>by
  simp only[JZ]at h;have⟨p,h1,h⟩:=ah.1 h;have⟨y,h2,h⟩:=ah.1 h;cases h;obtain⟨i1,i2,_⟩:=Sc (ns:=ns) hbad pw hns hmu h1 (λ b hb'=>hb b (by simp[hb']));obtain⟨k1,k2⟩:=WI (ns:=ns) hbad pw hns hmu h2 (λ b hb'=>hb b (by simp[hb']));refine⟨i1 _ k1,λj t ht=>?_⟩;have ht:(oO q p.1.1++mK (q'::l) y.1)[j]? =some (some t):=ht;have hl:=(ER (q:=q) (x:=p.1.1)).1;by_cases hq:q.out=true
  ·rw[bn hq]at k2 hl;cases j with
   |zero=>
    refine i2 t ?_
    match ho:oO q p.1.1,ht,hl with
    |[z],ht,_=>simpa using ht
    |[],_,hl=>simp at hl
    |_::_::_,_,hl=>simp at hl
   |succ j=>
    rw[nY (by omega),hl,Nat.add_sub_cancel]at ht;rw[show n+(j+1)=n+1+j by omega];exact k2 j t ht
  ·rw[bf hq]at k2 hl;rw[nY (by omega),hl,Nat.sub_zero]at ht;exact k2 j t ht
end
theorem mn.R{get:Nat->Option aS}{fk:Option Nat}{os':List (Option dY)}:∀{xs:List AV}{cs:List RC},mn get fk os' xs cs->BC get fk os' xs (match cs with |[c]=> .one c |cs=> .eE cs)
 |[],[],_=>rfl
 |[_],[_],h=>h.1
 |_::_::_,_::_::_,h=>h
 |[],_::_,h=>h.elim
 |_::_,[],h=>h.elim
 |[_],_::_::_,h=>h.2.elim
 |_::_::_,[_],h=>h.2.elim
theorem agG{s:cR X}{rs:List ResultVar}{l:List (RT X.ι)}{r:qJ X l}(h:(U6 T s rs λds=>(X7 s l ds).bind λx=>Rk x.2 (some x.1))=some r):∃xs fk,l6 T s.st rs=some xs/\BC s.st.obj fk (mK l r) xs (qP l r)/\Hp s.st.obj fk (mK l r):=by
 have⟨ds,h1,h⟩:=Gm T h;rw[ah]at h;obtain⟨x,h2,h⟩:=h;have⟨h3,h⟩:=oh h;cases h;unfold X7 at h2;split at h2
 ·rename_i hnb;have hkn:∀j,kept (mK l x.1) j->j∈uh 0 l:=λj ⟨p,hp⟩=>by
   have:=Au (n:=0) hp;simpa using this
  have hbad:∀j,j∉uh 0 l++(Ms l ds).toList->Ms l ds≠some j/\¬kept (mK l x.1) j:=by
   intro j hj;simp only[aY,Option.mem_toList,not_or]at hj;exact⟨hj.2,λh=>hj.1 (hkn j h)⟩
  have pw:∀k,Ms l ds=some k->¬kept (mK l x.1) k:=λk hk hkk=>BP hnb k (by simp[hk]) (hkn k hkk);have hmu:∀j∈pZ 0 l,kept (mK l x.1) j:=λj hj=>by
   have⟨p,hp⟩:=Z9 (x:=x.1) hj;exact⟨p,by simpa using hp⟩
  obtain⟨i1,i2⟩:=WI (ns:=XP l x.1) hbad pw (λ j d8 hj hl=>IJ h2 h3 j d8 (by simpa using hj) (by simpa using hl)) hmu h2 h3;have gE:s.st.obj=eU (ff s.obj):=rfl;refine⟨bG ds,Ms l ds,Mr T h1,?_,λj p hp=>?_⟩
  ·rw[gE];exact i1.R
  ·have⟨o,g1,g2,g3⟩:=i2 j p hp;rw[Nat.zero_add]at g1;exact⟨λ e=>pw j e ⟨p,hp⟩,bC o,by rw[gE];simp[eU,g1],g2,by rw[gE];exact g3⟩
 ·cases h2
variable {Γ:FuncId->Option (ca X)} {am:TypeId->Option (CT X.ι)} {P:Program}
theorem aj8(hT : eY P T)(hm : P.follows .mixedOrders = true)(hΓ : qu P Γ){f : FuncId}{fn : Func}{c : Code}(hfn : P.funcs[f]? = some fn)(hb : fn.body = some c)(hname : (fn.name == "runtime.NumGoroutine") = false)(sa : List (AT X.ι))(sr : List (RT X.ι))(hN : sa.length <= fn.ntmps /\ oP sa <= 1000 /\ (sr.filter RT.out).length = oP sa)
 (h:Hn X.ι) (n:Nat) {a:iw X sa} {r:qJ X sr} (hr:run Γ T am fn.ntmps n c (qJ X sr) h (t6 sa a) (TO T fn.results.toList sr)=some r):py P f (wB sa a) (oN sa a) (mK sr r) (qP sr r):=by
 have hl:(mK sr r).length=(oN sa a).length:=by
  rw[kH,<- hN.2.2];have:∀(sr:List (RT X.ι))(r:qJ X sr),(mK sr r).length=(sr.filter RT.out).length:=by
   intro sr
   induction sr with
   |nil=>intro r;rfl
   |cons q l ih=>
    intro r;have hq:∀x:RT.T X q,(oO q x).length=(if q.out then 1 else 0):=λx=>ER.1;cases l with
    |nil=>
     show(oO q r).length=_;rw[hq];by_cases e:q.out=true<;>simp[e]
    |cons q' l=>
     show(oO q r.1++mK (q'::l) r.2).length=_;rw[dG,hq,ih r.2];by_cases e:q.out=true<;>simp[List.filter_cons,e];omega
  exact this sr r
 refine aeI hT hfn hb hname (by rw[kG];exact hN.1) (λ k hk=>?_) (by rw[kH];exact hN.2.1) hl ?_
 ·rw[wB,<- qp,gI]at hk;have:=nO 0 sa a k hk;have:=hN.2.1;omega
 ·rw[<- ajz];refine(j4 hT hm hΓ c _ h _ _ r (ail sa a hN.2.1) hr).mono ?_;rintro e σ ⟨s',_,_,rfl,g4⟩;cases e<;>first |exact agG g4 |cases g4
theorem uj{f : FuncId}{fn : Func}{c : Code}(hfn : P.funcs[f]? = some fn)(hb : fn.body = some c)(hname : (fn.name == "runtime.NumGoroutine") = false): eT P f := ⟨fn, hfn, by rw [hb]; rfl, hname⟩
abbrev AN(P:Program)(f:FuncId)(s:ca X):Prop:=eT P f/\(∀ a r,s.fn a=some r->py P f (wB s.args a) (oN s.args a) (mK s.res r) (qP s.res r))/\∀g,s.gen=some g->FS P f g
theorem vu{P:Program}{f:FuncId}{s:ca X}(h:eT P f)(h1:∀a r,s.fn a=some r->py P f (wB s.args a) (oN s.args a) (mK s.res r) (qP s.res r))(hg:s.gen=none):AN P f s:=by grind
theorem NX{P:Program}{f:FuncId}{g:cN X}(h:eT P f)(hg:FS P f g):AN P f ⟨[],[.d .bool],λ_=>none,some g⟩:=by grind
def nf(s t:ca X):ca X:=⟨s.args,s.res,s.fn,t.gen⟩
def ud(l:List (FuncId×ca X)):FuncId->Option (ca X):=λf=>lk l f
theorem aD:qu P (ud ([]:List (FuncId×ca X))):=λ_ _ h=>by cases h
theorem au{f:FuncId}{s:ca X}{l:List (FuncId×ca X)}(h:AN P f s)(hl:qu P (ud l)):qu P (ud ((f,s)::l)):=by
 intro g q hg;simp only[ud,lk]at hg;split at hg
 ·rename_i e;cases hg;subst e;exact h
 ·exact hl g q hg
end
section
variable {X:SX} {T:ea}
theorem IK(ol:Nat->Nat):∀(ps:List (Pt X.ι))(L:List (DC X)),(kw ol ps L).1.length=ps.length
 |[],_=>rfl
 |p::ps,L=>by simp only[kw,bI,IK ol ps]
def cN.wy(g:cN X):Bool:=
 decide (g.ie.map (·.1)=List.range g.ie.length)&&decide (g.ie.length<=1000)&&((zb g.ox).all λk=>Nat.blt k 1000)&&g.ie.all λq=>q.2.refs.all λk=>Nat.blt k 1000
def BT(g:cN X)(v:VT (X:=X) (cI g.ox++cx g.ie)):cR X:=⟨(List.range g.ox.length).zip (g.args v),Zy g.ox g.ie (tY _ v),1000,[]⟩
theorem sK{ol:Nat->Nat}:∀(O:List (Nat×OP X.ι))(L:List (DC X)),bT ol O L=(cu (bT ol O L)).map λp=>(p.1,some p.2)
 |[],L=>rfl
 |(k,.l c)::O,L=>by
  match L with
  |[]=>rfl
  |⟨.sl c',x⟩::L=>simp only[bT,cu,aF];rw[<- sK O L]
  |⟨.int _,x⟩::L=>rfl
  |⟨.bool,x⟩::L=>rfl
  |⟨.str,x⟩::L=>rfl
  |⟨.any,x⟩::L=>rfl
  |⟨.st _,x⟩::L=>rfl
  |⟨.mp _ _,x⟩::L=>rfl
 |(k,.m kc vc)::O,L=>by
  match L with
  |[]=>rfl
  |⟨.mp _ _,x⟩::L=>simp only[bT,cu,aF];rw[<- sK O L]
  |⟨.sl _,x⟩::L=>rfl
  |⟨.int _,x⟩::L=>rfl
  |⟨.bool,x⟩::L=>rfl
  |⟨.str,x⟩::L=>rfl
  |⟨.any,x⟩::L=>rfl
  |⟨.st _,x⟩::L=>rfl
 |(k,.c sz rows)::O,L=>by simp only[bT,cu,aF];rw[<- sK O _]
theorem BR{ol:Nat->Nat}:∀(O:List (Nat×OP X.ι))(L:List (DC X)),L.map (·.c)=cx O->(cu (bT ol O L)).map (·.1)=O.map (·.1)
 |[],L,_=>rfl
 |(k,.l c)::O,L,h=>by
  match L,h with
  |⟨.sl c',x⟩::L,h=>
   simp only[aF,cx,List.cons.injEq]at h;simp only[bT,cu,aF,BR O L h.2]
  |[],h=>simp[cx]at h
  |⟨.int _,x⟩::L,h=>simp[cx]at h
  |⟨.bool,x⟩::L,h=>simp[cx]at h
  |⟨.str,x⟩::L,h=>simp[cx]at h
  |⟨.any,x⟩::L,h=>simp[cx]at h
  |⟨.st _,x⟩::L,h=>simp[cx]at h
  |⟨.mp _ _,x⟩::L,h=>simp[cx]at h
 |(k,.m kc vc)::O,L,h=>by
  match L,h with
  |⟨.mp _ _,x⟩::L,h=>
   simp only[aF,cx,List.cons.injEq]at h;simp only[bT,cu,aF,BR O L h.2]
  |[],h=>simp[cx]at h
  |⟨.sl _,x⟩::L,h=>simp[cx]at h
  |⟨.int _,x⟩::L,h=>simp[cx]at h
  |⟨.bool,x⟩::L,h=>simp[cx]at h
  |⟨.str,x⟩::L,h=>simp[cx]at h
  |⟨.any,x⟩::L,h=>simp[cx]at h
  |⟨.st _,x⟩::L,h=>simp[cx]at h
 |(k,.c sz rows)::O,L,h=>by
  simp only[cx]at h;simp only[bT,cu,aF,BR O _ (IE (ol:=ol) rows L _ h).1]
theorem afa(g:cN X)(v:VT (X:=X) (cI g.ox++cx g.ie))(h:g.ie.map (·.1)=List.range g.ie.length):(g.cE v).map (·.1)=List.range (g.cE v).length:=by
 have e:(g.cE v).map (·.1)=g.ie.map (·.1):=BR g.ie _ (by rw[map_drop,O2,List.drop_left]);have l:=congrArg List.length e;rw[length_map,length_map]at l;rw[e,h,l]
theorem Sd(k:Nat):∀l:List (Nat×bp X),ff (l.map λp=>(p.1,some p.2)) k=sf l k
 |[]=>rfl
 |p::l=>by
  simp only[aF,ff,lk,sf];split
  ·rfl
  ·exact Sd k l
theorem Wf(t:Nat):∀(ks:List Nat)(ds:List (DV X)),den (eo (ks.zip ds) t)=(lk (ks.zip (bG ds)) t).getD .undef:=by
 intro ks
 induction ks with
 |nil=>intro ds;rfl
 |cons k ks ih=>
  intro ds;cases ds with
  |nil=>rfl
  |cons d ds=>
   simp only[List.zip_cons_cons,eo,lk,bG];by_cases h:k=t
   ·simp[h]
   ·simp only[bf h];exact ih ds
theorem WJ(t:Nat):∀(ks:List Nat)(ds:List (DV X)),∀j∈bo (eo (ks.zip ds) t),j∈aQ ds:=by
 intro ks
 induction ks with
 |nil=>intro ds j hj;simp[eo,lk,bo]at hj
 |cons k ks ih=>
  intro ds j hj;cases ds with
  |nil=>simp[eo,lk,bo]at hj
  |cons d ds=>
   simp only[List.zip_cons_cons,eo,lk]at hj;simp only[aQ,aY];by_cases e:k=t
   ·simp only[bn e,Option.getD_some]at hj;exact .inl hj
   ·simp only[bf e]at hj;exact .inr (ih ds j hj)
def BU(O:List (Nat×OP X.ι)):List (Nat×Pt X.ι)->List (Nat×CT X.ι)
 |[]=>[]
 |(t,.o k)::r=>match lk O k with
  |some (.l c)=>(t,c)::BU O r
  |_=>BU O r
 |(t,.oz k)::r=>match lk O k with
  |some (.l c)=>(t+1099511627776,c)::BU O r
  |_=>BU O r
 |_::r=>BU O r
def Sg(O:List (Nat×OP X.ι)):List (Nat×OP X.ι)->List (Nat×CT X.ι)
 |(q,.c _ [row])::r=>(BU O (kx (1000000+q*4096) row)).filter (λ p=>Nat.ble p.1 1000000000)++Sg O r
 |_::r=>Sg O r
 |[]=>[]
def yw(g:cN X):Sh X.ι:=⟨kx 0 g.fc,g.ia,[],[],1000000,BU g.ia (kx 0 g.fc)++Sg g.ia g.ia⟩
def T4(T:ea)(rs:List ResultVar)(g:cN X):Exit->cR X->Option (VT (X:=X) (yw g).vars)
 | .normal,s=>U6 T s rs λds=>bif decide (ds.length=g.fc.length)&&(aQ ds).all (λ k=>Nat.blt k s.nx)then
  oQ (yw g) (List.range ds.length) ⟨(List.range ds.length).zip ds,s.obj,s.nx,s.log⟩ ⟨(List.range ds.length).zip ds,s.obj,s.nx,s.log⟩ some else none
 | .ret,s=>U6 T s rs λds=>bif decide (ds.length=g.fc.length)&&(aQ ds).all (λ k=>Nat.blt k s.nx)then
  oQ (yw g) (List.range ds.length) ⟨(List.range ds.length).zip ds,s.obj,s.nx,s.log⟩ ⟨(List.range ds.length).zip ds,s.obj,s.nx,s.log⟩ some else none
 |_,_=>none
theorem Si{ol:Nat->Nat}(t:Nat):∀(n:Nat)(ps:List (Pt X.ι))(L:List (DC X)),eo (IB ol (kx n ps) L) (n+t)=((kw ol ps L).1[t]?).getD .undef
 |n,[],L=>by simp[kx,IB,eo,lk,kw]
 |n,p::ps,L=>by
  simp only[kx,IB,eo,lk,kw];cases t with
  |zero=>simp
  |succ t=>
   rw[bf (by omega)];have:=Si (ol:=ol) t (n+1) ps (eP ol p L).2;rw[show n+1+t=n+(t+1)by omega]at this;simpa[eo]using this
theorem afb {P:Program} {g:cN X} {s:cR X} {rs:List ResultVar} {r:VT (X:=X) (yw g).vars} (hl:Low s) (h:(U6 T s rs λds=>bif decide (ds.length=g.fc.length)&&(aQ ds).all (λ k=>Nat.blt k s.nx)then
 oQ (yw g) (List.range ds.length) ⟨(List.range ds.length).zip ds,s.obj,s.nx,s.log⟩ ⟨(List.range ds.length).zip ds,s.obj,s.nx,s.log⟩ some else none)=some r):
 ∃xs,l6 T s.st rs=some xs/\Hm P s.st.obj xs (qO (g.outs r)) (den (g.res r)):=by
 have⟨ds,h1,h⟩:=Gm T h;have⟨h2,h⟩:=dF h;simp only[aJ,aR]at h2;obtain⟨h2,h3⟩:=h2;have hl':Low (⟨(List.range ds.length).zip ds,s.obj,s.nx,s.log⟩:cR X):=⟨hl.le,hl.ge,λt k hk=>by
  have:=all_eq_true.1 h3 k (WJ t _ _ k hk);exact Nat.blt_eq.mp this,hl.obj⟩
 obtain⟨v,h4,_,_,hrel⟩:=kF hl' hl' (Ext.refl _ _) h;injection h4 with h4;subst h4;refine⟨bG ds,Mr T h1,λw0 O0 β I w vs hM hv=>?_⟩;have hvl:=be.length _ _ hv;simp only[Array.length_toList,jC]at hvl;have hR:Rel P w0 O0 vs.size β I (⟨(List.range ds.length).zip ds,s.obj,s.nx,s.log⟩:cR X).st { tmps:=vs,defers:=[] } w:=by
  refine⟨rfl,rfl,λt=>?_,hM⟩;show VR P β w I (den (eo ((List.range ds.length).zip ds) t)) (vs.getD t undef);rw[Wf,show List.range ds.length=List.range (bG ds).length by rw[jC],y8];cases ht:(bG ds)[t]? with
  |none=>simp[VR]
  |some x=>
   obtain⟨u,g1,g2⟩:=be.get _ _ t _ hv ht;rw[Array.getElem?_toList]at g1;simp only[Option.getD_some,Array.getD_eq_getD_getElem?,g1];exact g2
 obtain⟨β',hR'⟩:=hrel P w0 O0 _ β I _ w hR;have hn:(gh (kx 0 g.fc)).length=(cI g.fc).length:=by rw[Me]
 refine⟨β',I,?_,λ_ h=>h,?_⟩
 ·have:=hR'.mem;have e:(encS (yw g) ⟨(List.range ds.length).zip ds,s.obj,s.nx,s.log⟩ v).st.obj=ov (qO (g.outs v)):=by
   funext k;simp only[cR.st,encS,yw,map_nil,append_nil,Mj,cN.outs,Zy];rw[sK,Sd,<- hn];rfl
  rw[e]at this;exact this
 ·obtain⟨pv,hpv⟩:∃pv,pv=Rw g.fc g.ia (tY (yw g).vars v):=⟨_,rfl⟩;have hres:g.res v=wz pv:=by rw[hpv];rfl
  have p5:∀t,VR P β' w I (den ((pv[t]?).getD .undef)) (vs.getD t undef):=by
   intro t;have:=hR'.env t;simp only[cR.st,el,encS,yw,map_nil,append_nil]at this;have e:=Si (ol:=BG g.ia ((tY (yw g).vars v).drop (cI g.fc).length)) t 0 g.fc ((tY (yw g).vars v).take (cI g.fc).length);rw[Nat.zero_add]at e;rw[hpv];simp only[Rw];rw[<- e,<- hn];exact this
  have hpl:pv.length=g.fc.length:=by rw[hpv];exact IK _ _ _
  have hsz:vs.size=pv.length:=by rw[hpl,<- h2,hvl]
  rw[hres];have hall:be P β' w I (bG pv) vs.toList:=by
   have gen:∀(pv:List (DV X)) (us:List Value),us.length=pv.length->(∀ t,t<pv.length->VR P β' w I (den ((pv[t]?).getD .undef)) (us.getD t undef))->be P β' w I (bG pv) us:=by
    intro pv
    induction pv with
    |nil=>intro us hl _;cases us<;>simp_all [bG,be]
    |cons d pv ih=>
     intro us hl hh;cases us with
     |nil=>simp at hl
     |cons u us=>
      simp only[bG,be];refine⟨by simpa using hh 0 (by simp),ih us (by simpa using hl) λt ht=>by simpa using hh (t+1) (by simpa using ht)⟩
   refine gen pv vs.toList (by simpa using hsz) λt ht=>?_;have e:vs.toList.getD t undef=vs.getD t undef:=(by simp[List.getD_eq_getElem?_getD,Array.getD_eq_getD_getElem?]);rw[e];exact p5 t
  match pv,hsz,hall with
  |[d],hsz,hall=>
   obtain⟨u,rfl⟩:=Array.size_eq_one_iff.1 (show vs.size=1 by simpa using hsz);simp only[bG,be]at hall;simpa[wz]using hall.1
  |[],hsz,hall=>
   have h1:¬vs.size=1:=(by rw[hsz];simp);rw[dif_neg h1];simp only[wz,den,VR];exact⟨vs,rfl,hall⟩
  |d::e::pv,hsz,hall=>
   have h1:¬vs.size=1:=(by rw[hsz];simp);rw[dif_neg h1];simp only[wz,den,VR];exact⟨vs,rfl,hall⟩
variable {Γ:FuncId->Option (ca X)} {am:TypeId->Option (CT X.ι)} {P:Program}
theorem ajB(hT : eY P T)(hm : P.follows .mixedOrders = true)(hΓ : qu P Γ){f : FuncId}{fn : Func}{c : Code}(hfn : P.funcs[f]? = some fn)(hb : fn.body = some c)(hname : (fn.name == "runtime.NumGoroutine") = false)(g : cN X)(hN : g.ox.length <= fn.ntmps)(hin : g.wy = true)
 (h:Hn X.ι) (n:Nat) (hr:∀v (r:VT (X:=X) (yw g).vars),g.fn v=some r->run Γ T am fn.ntmps n c (VT (X:=X) (yw g).vars) h (BT g v) (T4 T fn.results.toList g)=some r):FS P f g:=by
 intro v r hv;have hrun:=hr v r hv;simp only[cN.wy,aJ,aR]at hin;obtain⟨⟨⟨i1,i2⟩,i3⟩,i4⟩:=hin;obtain⟨s1,s2,_⟩:=wF (ol:=BG g.ie ((tY (cI g.ox++cx g.ie) v).drop (cI g.ox).length)) g.ie ((tY _ v).drop (cI g.ox).length);have hargs:∀k∈aQ (g.args v),k<1000:=λk hk=>Nat.blt_eq.mp (all_eq_true.1 i3 k (wE g.ox _ k hk));have sd:∀p∈g.cE v,p.1<1000/\∀j∈cT p.2,j<1000:=by
  intro p hp;have⟨op,g1,g2⟩:=s2 p hp;have hk:p.1∈g.ie.map (·.1):=mem_map.2 ⟨_,g1,rfl⟩;rw[i1]at hk;have:=List.mem_range.1 hk;exact⟨by omega,λj hj=>Nat.blt_eq.mp (all_eq_true.1 (all_eq_true.1 i4 _ g1) j (g2 j hj))⟩
 have hal:(g.args v).length=g.ox.length:=IK _ _ _;have hkeys:(g.cE v).map (·.1)=List.range (g.cE v).length:=afa g v i1;have gE:∀k,ff (BT g v).obj k=sf (g.cE v) k:=by
  intro k;show ff (bT _ g.ie _) k=sf (cu (bT _ g.ie _)) k;rw[sK,Sd,<- sK]
 have KB:∀(l:List (Nat×bp X))(n:Nat),l.map (·.1)=(List.range l.length).map (n+ ·)->∀k,sf l (n+k)=(l[k]?).map (·.2):=by
  intro l
  induction l with
  |nil=>intro n _ k;rfl
  |cons p l ih=>
   intro n hn k;rw[bI,List.range_succ_eq_map,aF,aF,map_map]at hn;injection hn with e1 e2;simp only[sf];cases k with
   |zero=>rw[bn (by omega)];rfl
   |succ k=>
    rw[bf (by omega),show n+(k+1)=(n+1)+k by omega,ih (n+1) (by rw[e2];refine map_congr_left λa _=>?_;simp only[Function.comp_apply];omega) k];rfl
 have hlow:Low (BT g v):=by
  refine⟨by show 1000<=1000000;decide,aB _,λt k hk=>hargs k (WJ t _ _ k hk),λk o ho=>?_⟩;rw[gE]at ho;have hmem:∀(l:List (Nat×bp X)),sf l k=some o->(k,o)∈l:=by
   intro l
   induction l with
   |nil=>intro h;simp[sf]at h
   |cons p l ih=>
    intro h;simp only[sf]at h;split at h
    ·rename_i e;cases h;subst e;exact List.mem_cons_self
    ·exact dV _ (ih h)
  exact sd _ (hmem _ ho)
 refine aeJ hT hfn hb hname (by rw[jC,hal];exact hN) (λ k hk=>hargs k (by rwa [gI]at hk)) (by rw[length_map,<- length_map (f:=Prod.fst),hkeys,List.length_range];have:=s1.length_le;rw[length_map,length_map]at this;exact Nat.le_trans this i2) ?_ ?_
 ·intro o ho r' hr' x hx j hj;obtain⟨p,hp,rfl⟩:=mem_map.1 ho;exact(sd p hp).2 j (RY hr' hx j hj)
 ·have e:pL.st ⟨(List.range (bG (g.args v)).length).zip (bG (g.args v)),(List.range ((g.cE v).map λp=>bC p.2).length).zip ((g.cE v).map λp=>bC p.2)⟩=(BT g v).st:=by
   simp only[cR.st,pL.st,St.mk.injEq,and_true];refine⟨?_,?_⟩
   ·funext t;simp only[BT];rw[Wf,jC,hal]
   ·funext k;rw[y8,gE,List.getElem?_map];have:=KB (g.cE v) 0 (by rw[hkeys];simp) k;rw[Nat.zero_add]at this;rw[this,Option.map_map];rfl
  rw[e];refine(j4 hT hm hΓ c _ h _ _ r hlow hrun).mono ?_;rintro e σ ⟨s',hl',_,rfl,g4⟩;cases e<;>first |exact afb hl' g4 |cases g4
end
section
variable {P:Program} {f F:FuncId} {E:TypeId} {α:Type} {enc:α->Value} {d:α}
end
section
variable {X:SX}
end
section
variable {X:SX}
def Dl{α β:Type}(f:α->Option β):List α->Option (List β)
 |[]=>some []
 |x::xs=>(f x).bind λy=>(Dl f xs).bind λys=>some (y::ys)
def mi(dq:(i j:X.ι)->Decidable (i=j))(i:X.ι):CT X.ι->Option CS
 | .int k=>some (.int k)
 | .bool=>some .bool
 | .str=>some .str
 | .sl (.st j)=>match dq j i with
  | .isTrue _=>some .back
  | .isFalse _=>none
 |_=>none
def T3(dq:(i j:X.ι)->Decidable (i=j))(i:X.ι):Bool:=(X.cW i).any λc=>match c with
 | .sl (.st j)=>match dq j i with
  | .isTrue _=>true
  | .isFalse _=>false
 |_=>false
def TE(dq:(i j:X.ι)->Decidable (i=j)):CT X.ι->Option (List CS)
 | .st i=>bif T3 dq i then Dl (mi dq i) (X.cW i)else none
 |_=>none
theorem ajC(dq:(i j:X.ι)->Decidable (i=j)){i:X.ι}{row:List CS}(hm:Dl (mi dq i) (X.cW i)=some row){x:Tree}(h:B5 row x):∃l:List (CT.T X.toSE (.st i)),x= .sl (l.map (CT.row X.toSE (.st i))):=by
 refine B5.rec (row:=row) (motive_1:=λx _=>∃l:List (CT.T X.toSE (.st i)),x= .sl (l.map (CT.row X.toSE (.st i)))) (motive_2:=λrows _=>∃l:List (CT.T X.toSE (.st i)),rows=l.map (CT.row X.toSE (.st i)))
  (motive_3:=λcs r _=>∀codes:List (CT X.ι),Dl (mi dq i) codes=some cs->∃h:HL X.toSE codes,r=HL.row X.toSE codes h) ?_ ?_ ?_ ?_ ?_ ?_ h
 ·rintro rows _ _ ⟨l,rfl⟩;exact⟨l,rfl⟩
 ·exact⟨[],rfl⟩
 ·rintro r rs _ _ h1 ⟨l,rfl⟩;obtain⟨q,rfl⟩:=h1 _ hm;exact⟨(X.make i q:X.T i)::l,by rw[aF];congr 1;exact(X.fR i q).symm⟩
 ·intro codes hc;cases codes with
  |nil=>exact⟨(),rfl⟩
  |cons c codes=>
   simp only[Dl,ah]at hc;obtain⟨_,_,_,_,h⟩:=hc;cases h
 ·intro cs x xs _ _ h1 h2 codes hc;obtain⟨l,rfl⟩:=h1;cases codes with
  |nil=>simp[Dl]at hc
  |cons c codes=>
   simp only[Dl,ah]at hc;obtain⟨c',g1,cs',g2,g3⟩:=hc;injection g3 with g3;injection g3 with g4 g5;subst g4 g5;obtain⟨q,rfl⟩:=h2 _ g2
   match c,g1 with
   | .sl (.st j),g1=>
    simp only[mi]at g1;split at g1
    ·rename_i hj _;subst hj;exact⟨(l,q),rfl⟩
    ·cases g1
   | .int _,g1=>simp[mi]at g1
   | .bool,g1=>simp[mi]at g1
   | .str,g1=>simp[mi]at g1
   | .any,g1=>simp[mi]at g1
   | .st _,g1=>simp[mi]at g1
   | .mp _ _,g1=>simp[mi]at g1
   | .sl (.int _),g1=>simp[mi]at g1
   | .sl .bool,g1=>simp[mi]at g1
   | .sl .str,g1=>simp[mi]at g1
   | .sl .any,g1=>simp[mi]at g1
   | .sl (.sl _),g1=>simp[mi]at g1
   | .sl (.mp _ _),g1=>simp[mi]at g1
 ·intro c' cs x xs hf _ h2 codes hc;cases codes with
  |nil=>simp[Dl]at hc
  |cons c codes=>
   simp only[Dl,ah]at hc;obtain⟨c2,g1,cs',g2,g3⟩:=hc;injection g3 with g3;injection g3 with g4 g5;subst g4 g5;obtain⟨q,rfl⟩:=h2 _ g2
   match c,g1 with
   | .int k,g1=>
    cases g1;obtain⟨n,rfl,_⟩:=hf;exact⟨(n,q),rfl⟩
   | .bool,g1=>
    cases g1;obtain⟨n,rfl⟩:=hf;exact⟨(n,q),rfl⟩
   | .str,g1=>
    cases g1;obtain⟨n,rfl,_⟩:=hf;exact⟨(n,q),rfl⟩
   | .sl (.st j),g1=>
    simp only[mi]at g1;split at g1
    ·cases g1;exact hf.elim
    ·cases g1
   | .any,g1=>simp[mi]at g1
   | .st _,g1=>simp[mi]at g1
   | .mp _ _,g1=>simp[mi]at g1
   | .sl (.int _),g1=>simp[mi]at g1
   | .sl .bool,g1=>simp[mi]at g1
   | .sl .str,g1=>simp[mi]at g1
   | .sl .any,g1=>simp[mi]at g1
   | .sl (.sl _),g1=>simp[mi]at g1
   | .sl (.mp _ _),g1=>simp[mi]at g1
def sL:Nat->CT X.ι->Option (List CS)
 | 0,_=>none
 |_+1,.int k=>some [.int k]
 |_+1,.bool=>some [.bool]
 |_+1,.str=>some [.str]
 |_+1,.any=>some [.any]
 |_+1,.mp _ _=>none
 |n+1,.sl e=>match TE X.dec e with
  |some row=>some [.mu row]
  |none=>(sL n e).bind λr=>some [.sl r]
 |n+1,.st i=>(Dl (sL n) (X.cW i)).bind λl=>some l.flatten
def B7(n:Nat)(c:CT X.ι):Option VS:=
 match c with
 | .st i=>(sL n (.st i:CT X.ι)).map .agg
 |c=>(sL n c).bind λl=>match l with
  |[x]=>some (.one x)
  |_=>none
theorem Oh:∀(a b:List CS)(ys:List Tree),cX (a++b) ys->∃ya yb,ys=ya++yb/\cX a ya/\cX b yb
 |[],b,ys,h=>⟨[],ys,rfl,trivial,h⟩
 |c::a,b,y::ys,h=>by
  simp only[cons_append,cX]at h;obtain⟨ya,yb,rfl,h1,h2⟩:=Oh a b ys h.2;exact⟨y::ya,yb,rfl,⟨h.1,h1⟩,h2⟩
 |_::_,_,[],h=>h.elim
theorem aad{c:CT X.ι}{cs:List CS}(h:∀ys,cX cs ys->∃x:CT.T X.toSE c,ys=CT.row X.toSE c x):∀rows:List (List Tree),(∀ r∈rows,cX cs r)->∃l:List (CT.T X.toSE c),rows=l.map (CT.row X.toSE c)
 |[],_=>⟨[],rfl⟩
 |r::rows,hr=>by
  obtain⟨x,hx⟩:=h r (hr r (by simp));obtain⟨l,hl⟩:=aad h rows λq hq=>hr q (dV _ hq);exact⟨x::l,by rw[aF,<- hx,<- hl]⟩
theorem We{f:CT X.ι->Option (List CS)}(hf:∀c cs,f c=some cs->∀ys,cX cs ys->∃x:CT.T X.toSE c,ys=CT.row X.toSE c x):∀(l:List (CT X.ι))(css:List (List CS)),Dl f l=some css->∀ys,cX css.flatten ys->∃h:HL X.toSE l,ys=HL.row X.toSE l h
 |[],css,h,ys,hy=>by
  simp only[Dl,ay]at h;subst h;cases ys with
  |nil=>exact⟨(),rfl⟩
  |cons y ys=>exact hy.elim
 |c::l,css,h,ys,hy=>by
  simp only[Dl]at h;have⟨a,h1,h⟩:=ah.1 h;have⟨b,h2,h⟩:=ah.1 h;cases h;simp only[flatten_cons]at hy;obtain⟨ya,yb,rfl,g1,g2⟩:=Oh _ _ _ hy;have⟨x,hx⟩:=hf c a h1 ya g1;have⟨q,hq⟩:=We hf l b h2 yb g2;exact⟨(x,q),by rw[hx,hq];rfl⟩
theorem Qg:∀(n:Nat)(c:CT X.ι)(cs:List CS),sL n c=some cs->∀ys,cX cs ys->∃x:CT.T X.toSE c,ys=CT.row X.toSE c x
 | 0,_,_,h,_,_=>by cases h
 |n+1,.mp _ _,cs,h,ys,hy=>by simp[sL]at h
 |n+1,.int k,cs,h,ys,hy=>by
  simp only[sL,ay]at h;subst h
  match ys,hy with
  |[y],hy=>
   simp only[cX,Fit,and_true]at hy;obtain⟨m,rfl,_⟩:=hy;exact⟨m,rfl⟩
  |[],hy=>exact hy.elim
  |_::_::_,hy=>exact hy.2.elim
 |n+1,.bool,cs,h,ys,hy=>by
  simp only[sL,ay]at h;subst h
  match ys,hy with
  |[y],hy=>
   simp only[cX,Fit,and_true]at hy;obtain⟨m,rfl⟩:=hy;exact⟨m,rfl⟩
  |[],hy=>exact hy.elim
  |_::_::_,hy=>exact hy.2.elim
 |n+1,.str,cs,h,ys,hy=>by
  simp only[sL,ay]at h;subst h
  match ys,hy with
  |[y],hy=>
   simp only[cX,Fit,and_true]at hy;obtain⟨m,rfl,_⟩:=hy;exact⟨m,rfl⟩
  |[],hy=>exact hy.elim
  |_::_::_,hy=>exact hy.2.elim
 |n+1,.any,cs,h,ys,hy=>by
  simp only[sL,ay]at h;subst h
  match ys,hy with
  |[y],hy=>exact⟨y,rfl⟩
  |[],hy=>exact hy.elim
  |_::_::_,hy=>exact hy.2.elim
 |n+1,.sl e,cs,h,ys,hy=>by
  simp only[sL]at h;split at h
  ·rename_i row hm;cases h
   match ys,hy with
   |[y],hy=>
    simp only[cX,Fit,and_true]at hy;cases e with
    |st i=>
     simp only[TE]at hm;cases hb:T3 X.dec i with
     |false=>rw[hb]at hm;cases hm
     |true=>
      rw[hb]at hm;have⟨l,hl⟩:=ajC X.dec hm hy;exact⟨l,by rw[hl];rfl⟩
    |_=>cases hm
   |[],hy=>exact hy.elim
   |_::_::_,hy=>exact hy.2.elim
  have⟨r,h1,h⟩:=ah.1 h;cases h
  match ys,hy with
  |[y],hy=>
   simp only[cX,Fit,and_true]at hy;obtain⟨rows,rfl,_,hr⟩:=hy;have⟨l,hl⟩:=aad (Qg n e r h1) rows hr;exact⟨l,by rw[hl];rfl⟩
  |[],hy=>exact hy.elim
  |_::_::_,hy=>exact hy.2.elim
 |n+1,.st i,cs,h,ys,hy=>by
  simp only[sL]at h;rw[ah]at h;obtain⟨css,h1,h⟩:=h;cases h;have⟨q,hq⟩:=We (Qg n) (X.cW i) css h1 ys hy;exact⟨X.make i q,by rw[hq];exact(X.fR i q).symm⟩
theorem aim{n:Nat}{c:CT X.ι}{s:VS}(h:B7 n c=some s){x:TV}(hx:By s x):∃y:CT.T X.toSE c,x=CT.tv X.toSE c y:=by
 have one:∀c:CT X.ι,c.one=true->((sL n c).bind λl=>match l with
  |[x]=>some (VS.one x)
  |_=>none)=some s->∃y:CT.T X.toSE c,x=CT.tv X.toSE c y:=by
  intro c hc h;rw[ah]at h;obtain⟨l,h1,h⟩:=h;split at h
  ·rename_i z;cases h;simp only[By]at hx;obtain⟨t,rfl,ht⟩:=hx;obtain⟨y,hy⟩:=Qg n c _ h1 [t] ⟨ht,trivial⟩;obtain⟨t',e1,e2⟩:=row_one hc y;rw[e1]at hy;cases hy;exact⟨y,e2.symm⟩
  ·cases h
 cases c
 case st i=>
  simp only[B7,dR]at h;obtain⟨cs,h1,rfl⟩:=h;simp only[By]at hx;obtain⟨ys,rfl,hy⟩:=hx;obtain⟨y,hy⟩:=Qg n (.st i) _ h1 ys hy;exact⟨y,by rw[hy];rfl⟩
 all_goals exact one _ rfl h
theorem aae(n:Nat):∀(cs:List (CT X.ι))(ss:List VS),Dl (B7 n) cs=some ss->∀xs,Rb ss xs->∃h:HL X.toSE cs,xs=HL.l4 X.toSE cs h
 |[],ss,h,xs,hx=>by
  simp only[Dl,ay]at h;subst h;cases xs with
  |nil=>exact⟨(),rfl⟩
  |cons x xs=>exact hx.elim
 |c::cs,ss,h,xs,hx=>by
  simp only[Dl]at h;have⟨a,h1,h⟩:=ah.1 h;have⟨b,h2,h⟩:=ah.1 h;cases h;cases xs with
  |nil=>exact hx.elim
  |cons x xs=>
   obtain⟨y,rfl⟩:=aim h1 hx.1;obtain⟨q,rfl⟩:=aae n cs b h2 xs hx.2;exact⟨(y,q),rfl⟩
theorem agJ{P:Program}{f:FuncId}{n N:Nat}{cs:List (CT X.ι)}{ss:List VS}{fn:Nat->iw X (cs.map AT.d)->Option Bool}(hc:∀k,AN P f ⟨cs.map AT.d,[.d .bool],fn k,none⟩)(hs:Dl (B7 n) cs=some ss)(hl:∀q:HL X.toSE cs,Rb ss (HL.l4 X.toSE cs q)->Rc (HL.l4 X.toSE cs q)<=N->∃k,fn k (hlA cs q)=some true)(xs:List TV)(h:Rb ss xs)(hb:Rc xs<=N):
 rm P f (xs.map TV.av) (.one (.d (.s (.sc (.bool true))))):=by
 obtain⟨q,rfl⟩:=aae n cs ss hs xs h;have⟨k,hk⟩:=hl q h hb;have h1:=(hc k).2.1 (hlA cs q) true hk;have h2:=h1;rw[wC (XQ cs)]at h2;have h3:py P f (wB (cs.map AT.d) (hlA cs q)) [] [] (.one (.d (.s (.sc (.bool true))))):=h2;have h4:=Ra h3;rw[wB,Mf]at h4;exact h4
end
end Go.Gb
