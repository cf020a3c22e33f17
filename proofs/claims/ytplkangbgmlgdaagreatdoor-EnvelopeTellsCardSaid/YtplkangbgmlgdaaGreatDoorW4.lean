/-
  Shapes of states: what is kept at a join and at a loop's head.
-/
import Derived.Test.YtplkangbgmlgdaaGreatDoorW3
open List (mem_map all_eq_true cons_append length_map append_nil flatten_cons map_nil map_take map_drop)
namespace Go.Gb
open Go.RowKit
structure Sh (ι:Type) where
 slots:List (Nat×Pt ι)
 objs:List (Nat×OP ι)
 keep:List Nat
 keepO:List Nat
 nx:Nat
 nils:List (Nat×CT ι)
def Sh.vars {ι:Type} (s:Sh ι):List (CT ι):=varsS s.slots++varsO s.objs
section
variable {X:SX}
def abL (s:DSt X) (t:Nat) (c:CT X.ι):DSt X:=
 match lke s.env t with
 | .nil=>if s.nx < 1000000 then⟨(t,.own s.nx 0 0)::s.env,(s.nx,some (.lst c []))::s.obj,s.nx+1,s.nx::s.log⟩else s
 |_=>s
def abM (s:DSt X) (q j:Nat) (c:CT X.ι):DSt X:=
 match lko s.obj q with
 |some (.cells sz [row])=>match row[j]? with
  |some .nil=>if s.nx < 1000000 then⟨s.env,(q,some (.cells sz [row.set j (.own s.nx 0 0)]))::(s.nx,some (.lst c []))::s.obj,s.nx+1,q::s.nx::s.log⟩else s
  |_=>s
 |_=>s
def Ue:List (Nat×CT X.ι)->DSt X->DSt X
 |[],s=>s
 |(t,c)::r,s=>Ue r (bif Nat.ble 1000000 t then abM s ((t - 1000000)/4096) ((t - 1000000)%4096) c else abL s t c)
def isU:DV X->Bool
 | .undef | .skip=>true
 |_=>false
def encS (sh:Sh X.ι) (s0:DSt X) (v:VT (X:=X) sh.vars):DSt X:=
 let L:=TJ sh.vars v
 let n:=(varsS sh.slots).length
 let ol:=fun k=>(lk (lens sh.objs (L.drop n)) k).getD 0
 ⟨Y9 ol sh.slots (L.take n)++sh.keep.map (fun t=>(t,lke s0.env t)),LP ol sh.objs (L.drop n)++sh.keepO.map (fun k=>(k,lko s0.obj k)),sh.nx,
  (List.range s0.nx).filter (fun k=>!sh.keepO.contains k)++s0.log⟩
def okS (sh:Sh X.ι) (ds:List Nat) (s0 s':DSt X) (m:MA X):Bool:=
 decide (m.nm.map (·.1)++sh.keepO).Nodup&&decide (m.nm.map (·.2)++sh.keepO).Nodup&&decide (sh.objs.map (·.1)).Nodup&&m.nm.all (fun q=>(sh.objs.map (·.1)).contains q.2&&decide (q.2 < sh.nx)&&(decide (q.1=q.2) || decide (1000<=q.2)))&&
  sh.slots.all (fun p=>ds.contains p.1)&&sh.keep.all (fun t=>!ds.contains t&&!isU (lke s'.env t)&&(drefs (lke s0.env t)).all fun j=>sh.keepO.contains j || m.nm.contains (j,j))&&
  sh.keepO.all (fun k=>decide (k < s0.nx)&&!(s'.log.take (s'.log.length - s0.log.length)).contains k&&(lko s'.obj k).isSome&&match lko s0.obj k with |some o=>(orefs o).all fun j=>sh.keepO.contains j || m.nm.contains (j,j) |none=>false)&&
  decide (s0.nx<=sh.nx)&&decide (sh.nx<=1000000)
def Zh {A:Type} (sh:Sh X.ι) (ds:List Nat) (s0 s':DSt X) (k:VT (X:=X) sh.vars->Option A):Option A:=
 (Gx (lko s'.obj) (lke s'.env) sh.slots ⟨[],[],[]⟩).bind fun m=>(CZ (lko s'.obj) sh.objs m).bind fun m=>bif okS sh ds s0 s' m then (Y8 sh.vars m.dcs).bind fun v=>Wj m.chk (k v)else none
def uW {A:Type} (sh:Sh X.ι) (ds:List Nat) (s0 s':DSt X) (k:VT (X:=X) sh.vars->Option A):Option A:=
 bif sh.nils.all (fun p=>ds.contains p.1 || Nat.ble 1000000 p.1)then Zh sh ds s0 (Ue sh.nils s') k else none
end
section
variable {X:SX}
theorem XT {d:DV X} {c:CT X.ι} {x:CT.T X.toSE c} (h:Oo d c=some x):drefs d=[]:=by
 cases d
 case c=>rfl
 case nil=>rfl
 all_goals cases c<;>cases h
theorem QD:∀ {ds:List (DV X)} {l:List (CT X.ι)} {h:HL X.toSE l},zy ds l=some h->bn ds=[]
 |[],[],_,_=>rfl
 |d::ds,c::l,h,hr=>by
  simp only[zy]at hr;rw[ax]at hr;obtain⟨x,h1,hr⟩:=hr;rw[ax]at hr;obtain⟨g,h2,hr⟩:=hr;simp only[bn,XT h1,QD h2,append_nil]
 |[],_::_,_,hr=>by simp[zy]at hr
 |_::_,[],_,hr=>by simp[zy]at hr
theorem ajv {d:DV X} {c:CT X.ι} {x:CT.T X.toSE c} (h:dat d c=some x):Wkn (den d) (den (.c c x:DV X))∧drefs d=[]:=by
 cases c
 case st i=>
  replace h:ahZ d i=some x:=h
  cases d
  case agg cs=>
   simp only[ahZ]at h;rw[ax]at h;obtain⟨g,h1,h⟩:=h;injection h with h;subst h;refine⟨fun P β w I v hv=>?_,by simp only[drefs,QD h1]⟩;have h2:=(Ey h1 (X.flat i)).1;simp only[den,VR]at hv;obtain⟨vs,rfl,hv⟩:=hv;show VR P β w I (.agg ((X.row i (X.make i g)).map AV.t)) _;have h3:(X.row i (X.make i g)).map AV.t=(cK cs).map Gb.wk:=(by rw[h2];exact congrArg _ (X.row_make i g));rw[h3];simp only[VR];exact⟨vs,rfl,VRl.wk _ _ hv⟩
  case c a y=>
   replace h:kV a (.st i) y=some x:=h
   rw[(oQ h).1];exact⟨Wkn.refl _,rfl⟩
  all_goals cases h
 all_goals
  have h1:=Gv h;refine⟨fun P β w I v hv=>?_,XT h⟩;simp only[den];rw[<- h1];exact hv.wk
def Mono (m m':MA X):Prop:=(∀ q∈m.nm,q∈m'.nm)∧(∀ c∈m.chk,c∈m'.chk)
theorem Mono.refl (m:MA X):Mono m m:=⟨fun _ h=>h,fun _ h=>h⟩
theorem Mono.trans {a b c:MA X} (h:Mono a b) (h':Mono b c):Mono a c:=⟨fun q hq=>h'.1 q (h.1 q hq),fun q hq=>h'.2 q (h.2 q hq)⟩
theorem gZ (m:MA X) (k' k:Nat):(addN m k' k).dcs=m.dcs∧(addN m k' k).chk=m.chk:=by unfold addN;split<;>exact⟨rfl,rfl⟩
theorem qw (m:MA X) (k' k:Nat):(k',k)∈(addN m k' k).nm:=by
 unfold addN;split
 ·rename_i h;simpa using h
 ·simp
theorem uX (m:MA X) (k' k:Nat):Mono m (addN m k' k):=by
 unfold addN;split
 ·exact Mono.refl m
 ·exact⟨fun q hq=>by simp[hq],fun _ h=>h⟩
variable {get:Nat->Option (DObj X)}
mutual
theorem agk:∀ (p:Pt X.ι) (d:DV X) (m m':MA X),mP get p d m=some m'->Mono m m'∧∃ new,m'.dcs=m.dcs++new∧new.length=p.vars.length
 | .v c,d,m,m',h=>by
  simp only[mP]at h;rw[ax]at h;obtain⟨x,h1,h⟩:=h;injection h with h;subst h;exact⟨⟨fun _ h=>h,fun _ h=>h⟩,[⟨c,x⟩],rfl,rfl⟩
 | .o k,d,m,m',h=>by
  simp only[mP]at h;split at h
  ·rename_i k' len;rw[ax]at h;obtain⟨o,h1,h⟩:=h;split at h
   ·injection h with h;subst h;refine⟨Mono.trans (b:=⟨m.nm,m.dcs,m.chk++_⟩) ⟨fun _ h=>h,fun _ h=>by simp[h]⟩ (uX _ _ _),[],by rw[(gZ _ _ _).1];simp,rfl⟩
   ·cases h
  ·cases h
 | .p k,d,m,m',h=>by
  simp only[mP]at h;split at h
  ·injection h with h;subst h;exact⟨uX _ _ _,[],by rw[(gZ _ _ _).1];simp,rfl⟩
  ·cases h
 | .mp k,d,m,m',h=>by
  simp only[mP]at h;split at h
  ·injection h with h;subst h;exact⟨uX _ _ _,[],by rw[(gZ _ _ _).1];simp,rfl⟩
  ·cases h
 | .nil,d,m,m',h=>by
  simp only[mP]at h;split at h
  ·injection h with h;subst h;exact⟨Mono.refl _,[],by simp,rfl⟩
  ·cases h
 | .f F fs cs,d,m,m',h=>by
  simp only[mP]at h;split at h
  ·split at h
   ·rw[ax]at h;obtain⟨m1,h1,h⟩:=h;obtain⟨a1,n1,b1,c1⟩:=zG fs _ m m1 h1;obtain⟨a2,n2,b2,c2⟩:=zG cs _ m1 m' h;exact⟨a1.trans a2,n1++n2,by rw[b2,b1,aQ],by simp[Pt.vars,c1,c2]⟩
   ·cases h
  ·cases h
 | .od k,d,m,m',h=>by
  simp only[mP]at h;split at h
  ·rename_i k' off len;rw[ax]at h;obtain⟨o,h1,h⟩:=h;split at h
   ·injection h with h;subst h;refine⟨Mono.trans (b:=⟨m.nm,m.dcs++[⟨.int .i64,(off:Int)⟩],m.chk++_⟩) ⟨fun _ h=>h,fun _ h=>by simp[h]⟩ (uX _ _ _),[⟨.int .i64,(off:Int)⟩],by rw[(gZ _ _ _).1],rfl⟩
   ·cases h
  ·cases h
 | .a ps,d,m,m',h=>by
  simp only[mP]at h;split at h
  ·exact zG ps _ m m' h
  ·cases h
theorem zG:∀ (ps:List (Pt X.ι)) (ds:List (DV X)) (m m':MA X),mPs get ps ds m=some m'->Mono m m'∧∃ new,m'.dcs=m.dcs++new∧new.length=(varsL ps).length
 |[],[],m,m',h=>by
  simp only[mPs,aG]at h;subst h;exact⟨Mono.refl _,[],by simp,rfl⟩
 |p::ps,d::ds,m,m',h=>by
  simp only[mPs]at h;rw[ax]at h;obtain⟨m1,h1,h⟩:=h;obtain⟨a1,n1,b1,c1⟩:=agk p d m m1 h1;obtain⟨a2,n2,b2,c2⟩:=zG ps ds m1 m' h;exact⟨a1.trans a2,n1++n2,by rw[b2,b1,aQ],by simp[varsL,c1,c2]⟩
 |[],_::_,m,m',h=>by simp[mPs]at h
 |_::_,[],m,m',h=>by simp[mPs]at h
end
theorem zH:∀ (rs:List (List (Pt X.ι))) (qs:List (List (DV X))) (m m':MA X),FM get rs qs m=some m'->Mono m m'∧∃ new,m'.dcs=m.dcs++new∧new.length=(TI rs).length
 |[],[],m,m',h=>by
  simp only[FM,aG]at h;subst h;exact⟨Mono.refl _,[],by simp,rfl⟩
 |r::rs,q::qs,m,m',h=>by
  simp only[FM]at h;rw[ax]at h;obtain⟨m1,h1,h⟩:=h;obtain⟨a1,n1,b1,c1⟩:=zG r q m m1 h1;obtain⟨a2,n2,b2,c2⟩:=zH rs qs m1 m' h;exact⟨a1.trans a2,n1++n2,by rw[b2,b1,aQ],by simp[TI,c1,c2]⟩
 |[],_::_,m,m',h=>by simp[FM]at h
 |_::_,[],m,m',h=>by simp[FM]at h
section
variable {NM:List (Nat×Nat)} {f:Nat->Nat} {olen:Nat->Nat}
def DN (NM:List (Nat×Nat)) (j:Nat):Prop:=∃ k,(j,k)∈NM
def SN (NM:List (Nat×Nat)) (j:Nat):Prop:=∃ k,(k,j)∈NM
theorem LZ {D:Nat->Prop} {f:Nat->Nat} {P:Program} {β:Nat->Option Blk} {w:World} {I:Nat->Prop}:∀ {a b:List AV} (_:RowW D f a b) (u:List Value),VRl P β w I (uG f a) u->VRl P β w I b u
 |[],[],_,u,hu=>hu
 |[],_::_,hr,_,_=>hr.elim
 |_::_,[],hr,_,_=>hr.elim
 |y::ys,z::zs,hr,[],hu=>by simp[uG,VRl]at hu
 |y::ys,z::zs,hr,v::vs,hu=>by
  simp only[uG,VRl]at hu ⊢;exact⟨hr.1.2 _ _ _ _ _ hu.1,LZ hr.2 vs hu.2⟩
mutual
theorem abN (hf:∀ q∈NM,f q.1=q.2) (ho:∀ q∈NM,∀ c l,get q.1=some (.lst c l)->olen q.2=l.length):∀ (p:Pt X.ι) (d:DV X) (m m':MA X),mP get p d m=some m'->(∀ q∈m'.nm,q∈NM)->(∀ c∈m'.chk,c=true)->
 ∃ new,m'.dcs=m.dcs++new∧∃ d',(∀ rest,eP olen p (new++rest)=(d',rest))∧Wkn (rnA f (den d)) (den d')∧(∀ j∈drefs d,DN NM j)∧(∀ j∈drefs d',SN NM j)
 | .v c,d,m,m',h,_,_=>by
  simp only[mP]at h;rw[ax]at h;obtain⟨x,h1,h⟩:=h;injection h with h;subst h;obtain⟨h2,h3⟩:=ajv h1;refine⟨[⟨c,x⟩],rfl,.c c x,fun rest=>rfl,?_,by simp[h3],by simp[drefs]⟩;rw[<- Ez,Uc d (by simp[h3])];exact h2
 | .o k,d,m,m',h,hn,hc=>by
  simp only[mP]at h;split at h
  ·rename_i k' len;rw[ax]at h;obtain⟨o,h1,h⟩:=h;split at h
   ·rename_i c l;injection h with h;subst h;have hq:(k',k)∈NM:=hn _ (qw _ _ _);have he:len=l.length:=by
     have:=hc (eqL len l.length) (by rw[(gZ _ _ _).2];simp);simpa[eqL]using this
    refine⟨[],by rw[(gZ _ _ _).1];simp,.own k 0 (olen k),fun rest=>rfl,?_,?_,?_⟩
    ·simp only[den,rnA];rw[hf _ hq,ho _ hq c l h1,he];exact Wkn.refl _
    ·intro j hj;simp only[drefs,aO]at hj;subst hj;exact⟨k,hq⟩
    ·intro j hj;simp only[drefs,aO]at hj;subst hj;exact⟨k',hq⟩
   ·cases h
  ·cases h
 | .p k,d,m,m',h,hn,hc=>by
  simp only[mP]at h;split at h
  ·rename_i k';injection h with h;subst h;have hq:(k',k)∈NM:=hn _ (qw _ _ _);refine⟨[],by rw[(gZ _ _ _).1];simp,.ptr k 0 0,fun rest=>rfl,?_,?_,?_⟩
   ·simp only[den,rnA];rw[hf _ hq];exact Wkn.refl _
   ·intro j hj;simp only[drefs,aO]at hj;subst hj;exact⟨k,hq⟩
   ·intro j hj;simp only[drefs,aO]at hj;subst hj;exact⟨k',hq⟩
  ·cases h
 | .mp k,d,m,m',h,hn,hc=>by
  simp only[mP]at h;split at h
  ·rename_i k';injection h with h;subst h;have hq:(k',k)∈NM:=hn _ (qw _ _ _);refine⟨[],by rw[(gZ _ _ _).1];simp,.mp k,fun rest=>rfl,?_,?_,?_⟩
   ·simp only[den,rnA];rw[hf _ hq];exact Wkn.refl _
   ·intro j hj;simp only[drefs,aO]at hj;subst hj;exact⟨k,hq⟩
   ·intro j hj;simp only[drefs,aO]at hj;subst hj;exact⟨k',hq⟩
  ·cases h
 | .nil,d,m,m',h,_,_=>by
  simp only[mP]at h;split at h
  ·injection h with h;subst h;exact⟨[],by simp,.nil,fun rest=>rfl,Wkn.refl _,by simp[drefs],by simp[drefs]⟩
  ·cases h
 | .f F fs cs,d,m,m',h,hn,hc=>by
  simp only[mP]at h;split at h
  ·rename_i F' first caps
   split at h
   ·rename_i e;subst e;rw[ax]at h;obtain⟨m1,h1,h⟩:=h;have hm:=(zG cs _ m1 m' h).1;obtain⟨n1,a1,f',b1,c1,e1,g1⟩:=Db hf ho fs _ m m1 h1 (fun q hq=>hn q (hm.1 q hq)) (fun q hq=>hc q (hm.2 q hq));obtain⟨n2,a2,c',b2,c2,e2,g2⟩:=Db hf ho cs _ m1 m' h hn hc;refine⟨n1++n2,by rw[a2,a1,aQ],.fn F f' c',fun rest=>by simp only[eP,aQ,b1,b2],?_,?_,?_⟩
    ·intro P β w I v hv;simp only[den,rnA,VR]at hv ⊢;obtain⟨us,vs,rfl,hu,hv⟩:=hv;exact⟨us,vs,rfl,LZ c1 _ hu,LZ c2 _ hv⟩
    ·intro j hj;simp only[drefs,aX]at hj;exact hj.elim (e1 j) (e2 j)
    ·intro j hj;simp only[drefs,aX]at hj;exact hj.elim (g1 j) (g2 j)
   ·cases h
  ·cases h
 | .od k,d,m,m',h,hn,hc=>by
  simp only[mP]at h;split at h
  ·rename_i k' off len;rw[ax]at h;obtain⟨o,h1,h⟩:=h;split at h
   ·rename_i c l;injection h with h;subst h;have hq:(k',k)∈NM:=hn _ (qw _ _ _);have he:off+len=l.length:=by
     have:=hc (eqL (off+len) l.length) (by rw[(gZ _ _ _).2];simp);simpa[eqL]using this
    refine⟨[⟨.int .i64,(off:Int)⟩],by rw[(gZ _ _ _).1],.own k off (olen k - off),fun rest=>?_,?_,?_,?_⟩
    ·simp only[eP,cons_append,cu];have:XB (X:=X) ⟨.int .i64,(off:Int)⟩=off:=by
      simp only[XB];rw[TK];simp
     rw[this]
    ·simp only[den,rnA];rw[hf _ hq,ho _ hq c l h1,show l.length - off=len by omega];exact Wkn.refl _
    ·intro j hj;simp only[drefs,aO]at hj;subst hj;exact⟨k,hq⟩
    ·intro j hj;simp only[drefs,aO]at hj;subst hj;exact⟨k',hq⟩
   ·cases h
  ·cases h
 | .a ps,d,m,m',h,hn,hc=>by
  simp only[mP]at h;split at h
  ·rename_i ds;obtain⟨new,h1,ds',h2,h3,h4,h5⟩:=Db hf ho ps ds m m' h hn hc;refine⟨new,h1,.agg ds',fun rest=>by simp only[eP,h2],?_,by simpa[drefs]using h4,by simpa[drefs]using h5⟩;intro P β w I v hv;simp only[den,rnA,VR]at hv ⊢;obtain⟨vs,rfl,hv⟩:=hv;refine⟨vs,rfl,?_⟩;exact LZ h3 _ hv
  ·cases h
theorem Db (hf:∀ q∈NM,f q.1=q.2) (ho:∀ q∈NM,∀ c l,get q.1=some (.lst c l)->olen q.2=l.length):∀ (ps:List (Pt X.ι)) (ds:List (DV X)) (m m':MA X),mPs get ps ds m=some m'->(∀ q∈m'.nm,q∈NM)->(∀ c∈m'.chk,c=true)->
 ∃ new,m'.dcs=m.dcs++new∧∃ ds',(∀ rest,ePs olen ps (new++rest)=(ds',rest))∧RowW (DN NM) f (cK ds) (cK ds')∧(∀ j∈bn ds,DN NM j)∧(∀ j∈bn ds',SN NM j)
 |[],[],m,m',h,_,_=>by
  simp only[mPs,aG]at h;subst h;exact⟨[],by simp,[],fun rest=>rfl,trivial,by simp[bn],by simp[bn]⟩
 |p::ps,d::ds,m,m',h,hn,hc=>by
  simp only[mPs]at h;rw[ax]at h;obtain⟨m1,h1,h⟩:=h;have hm:=(zG ps ds m1 m' h).1;obtain⟨n1,a1,d',b1,c1,e1,g1⟩:=abN hf ho p d m m1 h1 (fun q hq=>hn q (hm.1 q hq)) (fun q hq=>hc q (hm.2 q hq));obtain⟨n2,a2,ds',b2,c2,e2,g2⟩:=Db hf ho ps ds m1 m' h hn hc;refine⟨n1++n2,by rw[a2,a1,aQ],d'::ds',fun rest=>?_,⟨⟨fun k hk=>e1 k (by rwa [iZ]at hk),c1⟩,c2⟩,?_,?_⟩
  ·simp only[ePs,aQ,b1,b2]
  ·intro j hj;simp only[bn,aX]at hj;exact hj.elim (e1 j) (e2 j)
  ·intro j hj;simp only[bn,aX]at hj;exact hj.elim (g1 j) (g2 j)
 |[],_::_,m,m',h,_,_=>by simp[mPs]at h
 |_::_,[],m,m',h,_,_=>by simp[mPs]at h
end
theorem QE (hf:∀ q∈NM,f q.1=q.2) (ho:∀ q∈NM,∀ c l,get q.1=some (.lst c l)->olen q.2=l.length):∀ (rs:List (List (Pt X.ι))) (qs:List (List (DV X))) (m m':MA X),FM get rs qs m=some m'->(∀ q∈m'.nm,q∈NM)->(∀ c∈m'.chk,c=true)->
 ∃ new,m'.dcs=m.dcs++new∧∃ qs',(∀ rest,XC olen rs (new++rest)=(qs',rest))∧RowsW (DN NM) f (qs.map cK) (qs'.map cK)∧(∀ j∈(qs.map bn).flatten,DN NM j)∧(∀ j∈(qs'.map bn).flatten,SN NM j)
 |[],[],m,m',h,_,_=>by
  simp only[FM,aG]at h;subst h;exact⟨[],by simp,[],fun rest=>rfl,trivial,by simp,by simp⟩
 |r::rs,q::qs,m,m',h,hn,hc=>by
  simp only[FM]at h;rw[ax]at h;obtain⟨m1,h1,h⟩:=h;have hm:=(zH rs qs m1 m' h).1;obtain⟨n1,a1,d',b1,c1,e1,g1⟩:=Db hf ho r q m m1 h1 (fun q hq=>hn q (hm.1 q hq)) (fun q hq=>hc q (hm.2 q hq));obtain⟨n2,a2,ds',b2,c2,e2,g2⟩:=QE hf ho rs qs m1 m' h hn hc;refine⟨n1++n2,by rw[a2,a1,aQ],d'::ds',fun rest=>?_,⟨c1,c2⟩,?_,?_⟩
  ·simp only[XC,aQ,b1,b2]
  ·intro j hj;simp only[bf,flatten_cons,aX]at hj;exact hj.elim (e1 j) (e2 j)
  ·intro j hj;simp only[bf,flatten_cons,aX]at hj;exact hj.elim (g1 j) (g2 j)
 |[],_::_,m,m',h,_,_=>by simp[FM]at h
 |_::_,[],m,m',h,_,_=>by simp[FM]at h
end
end
section
variable {X:SX} {get:Nat->Option (DObj X)} {env:Nat->DV X}
theorem GJ:∀ (sl:List (Nat×Pt X.ι)) (m m':MA X),Gx get env sl m=some m'->Mono m m'∧∃ new,m'.dcs=m.dcs++new∧new.length=(varsS sl).length
 |[],m,m',h=>by
  simp only[Gx,aG]at h;subst h;exact⟨Mono.refl _,[],by simp,rfl⟩
 |(t,p)::r,m,m',h=>by
  simp only[Gx]at h;rw[ax]at h;obtain⟨m1,h1,h⟩:=h;obtain⟨a1,n1,b1,c1⟩:=agk p _ m m1 h1;obtain⟨a2,n2,b2,c2⟩:=GJ r m1 m' h;exact⟨a1.trans a2,n1++n2,by rw[b2,b1,aQ],by simp[varsS,c1,c2]⟩
theorem kL:∀ (os:List (Nat×OP X.ι)) (m m':MA X),CZ get os m=some m'->Mono m m'∧∃ new,m'.dcs=m.dcs++new∧new.length=(varsO os).length
 |[],m,m',h=>by
  simp only[CZ,aG]at h;subst h;exact⟨Mono.refl _,[],by simp,rfl⟩
 |(k,op)::r,m,m',h=>by
  simp only[CZ]at h;rw[ax]at h;obtain⟨o,h1,h⟩:=h;split at h
  ·rename_i c c' l;rw[ax]at h;obtain⟨l',h2,h⟩:=h;obtain⟨a2,n2,b2,c2⟩:=kL r _ m' h;refine⟨Mono.trans (Mono.trans (b:=⟨m.nm,m.dcs++[⟨.sl c,l'⟩],m.chk⟩) ⟨fun _ h=>h,fun _ h=>h⟩ (uX _ _ _)) a2,[⟨.sl c,l'⟩]++n2,?_,by simp[varsO,c2]⟩;rw[b2,(gZ _ _ _).1,aQ]
  ·rename_i kc vc kc' vc' l;rw[ax]at h;obtain⟨l',h2,h⟩:=h;obtain⟨a2,n2,b2,c2⟩:=kL r _ m' h;refine⟨Mono.trans (Mono.trans (b:=⟨m.nm,m.dcs++[⟨.mp kc vc,l'⟩],m.chk⟩) ⟨fun _ h=>h,fun _ h=>h⟩ (uX _ _ _)) a2,[⟨.mp kc vc,l'⟩]++n2,?_,by simp[varsO,c2]⟩;rw[b2,(gZ _ _ _).1,aQ]
  ·rename_i sz rows sz' rows';split at h
   ·rw[ax]at h;obtain⟨m1,h2,h⟩:=h;obtain⟨a1,n1,b1,c1⟩:=zH rows _ _ m1 h2;obtain⟨a2,n2,b2,c2⟩:=kL r m1 m' h;refine⟨((uX m _ _).trans a1).trans a2,n1++n2,?_,by simp[varsO,c1,c2]⟩;rw[b2,b1,(gZ _ _ _).1,aQ]
   ·cases h
  ·cases h
variable {NM:List (Nat×Nat)} {f:Nat->Nat} {olen:Nat->Nat}
theorem EC:∀ (os:List (Nat×OP X.ι)) (m m':MA X),CZ get os m=some m'->(∀ q∈m'.nm,q∈NM)->∃ new,m'.dcs=m.dcs++new∧∀ rest,∀ k∈os.map (·.1),∃ k' o,(k',k)∈NM∧get k'=some o∧∀ c l,o= .lst c l->(k,List.length l)∈lens os (new++rest)
 |[],m,m',h,_=>by
  simp only[CZ,aG]at h;subst h;exact⟨[],by simp,fun rest k hk=>by simp at hk⟩
 |(k,op)::r,m,m',h,hn=>by
  simp only[CZ]at h;rw[ax]at h;obtain⟨o,h1,h⟩:=h;split at h
  ·rename_i c c' l;rw[ax]at h;obtain⟨l',h2,h⟩:=h;have hm:=(kL r _ m' h).1;obtain⟨n2,b2,c2⟩:=EC r _ m' h hn;refine⟨[⟨.sl c,l'⟩]++n2,by rw[b2,(gZ _ _ _).1,aQ],fun rest j hj=>?_⟩;simp only[bf,aI]at hj;simp only[aQ,cons_append,cu,lens];by_cases hjk:j=k
   ·subst hjk;refine⟨_,_,hn _ (hm.1 _ (qw _ _ _)),h1,fun c2 l2 he=>?_⟩;injection he with e1 e2;subst e1;have e2:=eq_of_heq e2;subst e2;have:=congrArg List.length (ny h2).2;simp only[length_map]at this;rw[this];exact List.mem_cons_self
   ·rcases hj with rfl |hj
    ·exact (hjk rfl).elim
    ·obtain⟨k',o',g1,g2,g3⟩:=c2 rest j hj;exact⟨k',o',g1,g2,fun c l he=>bP _ (g3 c l he)⟩
  ·rename_i kc vc kc' vc' l;rw[ax]at h;obtain⟨l',h2,h⟩:=h;have hm:=(kL r _ m' h).1;obtain⟨n2,b2,c2⟩:=EC r _ m' h hn;refine⟨[⟨.mp kc vc,l'⟩]++n2,by rw[b2,(gZ _ _ _).1,aQ],fun rest j hj=>?_⟩;simp only[bf,aI]at hj;simp only[aQ,cons_append,cu,lens,List.drop_succ_cons,List.drop_zero];by_cases hjk:j=k
   ·subst hjk;exact⟨_,_,hn _ (hm.1 _ (qw _ _ _)),h1,fun c2 l2 he=>by cases he⟩
   ·rcases hj with rfl |hj
    ·exact (hjk rfl).elim
    ·exact c2 rest j hj
  ·rename_i sz rows sz' rows';split at h
   ·rw[ax]at h;obtain⟨m1,h2,h⟩:=h;obtain⟨a1,n1,b1,c1⟩:=zH rows _ _ m1 h2;have hm:=(kL r _ m' h).1;obtain⟨n2,b2,c2⟩:=EC r _ m' h hn;refine⟨n1++n2,by rw[b2,b1,(gZ _ _ _).1,aQ],fun rest j hj=>?_⟩;simp only[bf,aI]at hj;have hd:(n1++n2++rest).drop (TI rows).length=n2++rest:=(by rw[<- c1,aQ,List.drop_left]);simp only[lens,hd];by_cases hjk:j=k
    ·subst hjk;exact⟨_,_,hn _ (hm.1 _ (a1.1 _ (qw _ _ _))),h1,fun c2 l2 he=>by cases he⟩
    ·rcases hj with rfl |hj
     ·exact (hjk rfl).elim
     ·exact c2 rest j hj
   ·cases h
  ·cases h
theorem Ja:∀ (os:List (Nat×OP X.ι)) (L:List (DC X)),((lens os L).map (·.1)).Sublist (os.map (·.1))
 |[],_=>by simp[lens]
 |(k,.l c)::r,L=>by
  simp only[lens];split
  ·exact (Ja r _).cons_cons _
  ·exact List.nil_sublist _
 |(k,.m kc vc)::r,L=>by
  simp only[lens];exact (Ja r _).cons _
 |(k,.c sz rows)::r,L=>by
  simp only[lens];exact (Ja r _).cons _
theorem L6 (hf:∀ q∈NM,f q.1=q.2) (ho:∀ q∈NM,∀ c l,get q.1=some (.lst c l)->olen q.2=l.length):∀ (sl:List (Nat×Pt X.ι)) (m m':MA X),Gx get env sl m=some m'->(∀ q∈m'.nm,q∈NM)->(∀ c∈m'.chk,c=true)->
 ∃ new,m'.dcs=m.dcs++new∧∃ es,(∀ rest,Y9 olen sl (new++rest)=es)∧(∀ p∈es,p.1∈sl.map (·.1)∧Wkn (rnA f (den (env p.1))) (den p.2)∧(∀ j∈drefs (env p.1),DN NM j)∧(∀ j∈drefs p.2,SN NM j))
 |[],m,m',h,_,_=>by
  simp only[Gx,aG]at h;subst h;exact⟨[],by simp,[],fun rest=>rfl,by simp⟩
 |(t,p)::r,m,m',h,hn,hc=>by
  simp only[Gx]at h;rw[ax]at h;obtain⟨m1,h1,h⟩:=h;have hm:=(GJ r m1 m' h).1;obtain⟨n1,a1,d',b1,c1,e1,g1⟩:=abN hf ho p _ m m1 h1 (fun q hq=>hn q (hm.1 q hq)) (fun q hq=>hc q (hm.2 q hq));obtain⟨n2,a2,es,b2,c2⟩:=L6 hf ho r m1 m' h hn hc;refine⟨n1++n2,by rw[a2,a1,aQ],(t,d')::es,fun rest=>by simp only[Y9,aQ,b1,b2],fun q hq=>?_⟩;rcases aI.1 hq with rfl |hq
  ·exact⟨by simp,c1,e1,g1⟩
  ·obtain⟨i1,i2⟩:=c2 q hq;exact⟨by simp only[bf,aI];exact .inr i1,i2⟩
theorem XU {D:Nat->Prop} (f:Nat->Nat):∀ rows:List (List Tree),RowsW D f (aW rows) (aW rows)
 |[]=>trivial
 |r::rs=>by
  refine⟨?_,XU f rs⟩
  induction r with
  |nil=>trivial
  |cons y ys ih=>exact⟨⟨by simp[refs],Wkn.refl _⟩,ih⟩
theorem XV {a b c d:CT X.ι} {l:List (CT.T X.toSE a×CT.T X.toSE b)} {l':List (CT.T X.toSE c×CT.T X.toSE d)} (h:kV (.mp a b) (.mp c d) l=some l'):dM (.map c d l':DObj X)=dM (.map a b l):=by
 obtain⟨e,h⟩:=zw h;injection e with e1 e2;subst e1;subst e2;subst h;rfl
theorem XW {D:Nat->Prop} (f:Nat->Nat) {kc vc:CT X.ι}:∀ l:List (CT.T X.toSE kc×CT.T X.toSE vc),RowsW D f (dM (.map kc vc l:DObj X)).rows (dM (.map kc vc l:DObj X)).rows
 |[]=>trivial
 |p::ps=>⟨⟨⟨by simp[I5],by rw[Zd];exact Wkn.refl _⟩,⟨by simp[I5],by rw[Zd];exact Wkn.refl _⟩,trivial⟩,XW f ps⟩
theorem Bg (hf:∀ q∈NM,f q.1=q.2) (ho:∀ q∈NM,∀ c l,get q.1=some (.lst c l)->olen q.2=l.length):∀ (os:List (Nat×OP X.ι)) (m m':MA X),CZ get os m=some m'->(∀ q∈m'.nm,q∈NM)->(∀ c∈m'.chk,c=true)->
 ∃ new,m'.dcs=m.dcs++new∧∃ xs,(∀ rest,LP olen os (new++rest)=xs)∧(∀ p∈xs,p.1∈os.map (·.1)∧∃ k' o o',p.2=some o'∧(k',p.1)∈NM∧get k'=some o∧(dM o').sz=(dM o).sz∧RowsW (DN NM) f (dM o).rows (dM o').rows∧(∀ j∈orefs o',SN NM j))
 |[],m,m',h,_,_=>by
  simp only[CZ,aG]at h;subst h;exact⟨[],by simp,[],fun rest=>rfl,by simp⟩
 |(k,op)::r,m,m',h,hn,hc=>by
  simp only[CZ]at h;rw[ax]at h;obtain⟨o,h1,h⟩:=h;split at h
  ·rename_i c c' l;rw[ax]at h;obtain⟨l',h2,h⟩:=h;have hm:=(kL r _ m' h).1;obtain⟨n2,a2,xs,b2,c2⟩:=Bg hf ho r _ m' h hn hc;refine⟨[⟨.sl c,l'⟩]++n2,by rw[a2,(gZ _ _ _).1,aQ],(k,some (.lst c l'))::xs,fun rest=>by simp only[aQ,cons_append,cu,LP,b2],fun q hq=>?_⟩;rcases aI.1 hq with rfl |hq
   ·refine⟨by simp,_,_,_,rfl,hn _ (hm.1 _ (qw _ _ _)),h1,?_,?_,by simp[orefs]⟩
    ·simp only[dM,(ny h2).1]
    ·simp only[dM,(ny h2).2];exact XU f _
   ·obtain⟨i1,i2⟩:=c2 q hq;exact⟨by simp only[bf,aI];exact .inr i1,i2⟩
  ·rename_i kc vc kc' vc' l;rw[ax]at h;obtain⟨l',h2,h⟩:=h;have hm:=(kL r _ m' h).1;obtain⟨n2,a2,xs,b2,c2⟩:=Bg hf ho r _ m' h hn hc;refine⟨[⟨.mp kc vc,l'⟩]++n2,by rw[a2,(gZ _ _ _).1,aQ],(k,some (.map kc vc l'))::xs,fun rest=>by simp only[aQ,cons_append,cu,LP,b2],fun q hq=>?_⟩;rcases aI.1 hq with rfl |hq
   ·refine⟨by simp,_,_,_,rfl,hn _ (hm.1 _ (qw _ _ _)),h1,?_,?_,by simp[orefs]⟩
    ·rw[XV h2]
    ·rw[XV h2];exact XW f _
   ·obtain⟨i1,i2⟩:=c2 q hq;exact⟨by simp only[bf,aI];exact .inr i1,i2⟩
  ·rename_i sz rows sz' rows';split at h
   ·rename_i hsz;rw[ax]at h;obtain⟨m1,h2,h⟩:=h;have hm1:=(zH rows _ _ m1 h2).1;have hm:=(kL r _ m' h).1;obtain⟨n1,a1,qs,b1,c1,e1,g1⟩:=QE hf ho rows _ _ m1 h2 (fun q hq=>hn q (hm.1 q hq)) (fun q hq=>hc q (hm.2 q hq));obtain⟨n2,a2,xs,b2,c2⟩:=Bg hf ho r _ m' h hn hc;refine⟨n1++n2,by rw[a2,a1,(gZ _ _ _).1,aQ],(k,some (.cells sz qs))::xs,fun rest=>by simp only[aQ,LP,b1,b2],fun q hq=>?_⟩;rcases aI.1 hq with rfl |hq
    ·exact⟨by simp,_,_,_,rfl,hn _ (hm.1 _ (hm1.1 _ (qw _ _ _))),h1,hsz,c1,g1⟩
    ·obtain⟨i1,i2⟩:=c2 q hq;exact⟨by simp only[bf,aI];exact .inr i1,i2⟩
   ·cases h
  ·cases h
theorem agY {d:DV X} (h:isU d=false) (h':d= .undef):False:=by subst h';cases h
theorem Zi {A:Type} {sh:Sh X.ι} {ds:List Nat} {s0 s':DSt X} {k:VT (X:=X) sh.vars->Option A} {r:A} (hl0:Low s0) (hx:Ext (· ∈ds) s0 s') (h:Zh sh ds s0 s' k=some r):
 ∃ v,k v=some r∧Low (encS sh s0 v)∧Ext (· ∈ds) s0 (encS sh s0 v)∧∀ (P:Program) (w0:World) (O0:Was) (N:Nat) (β:Nat->Option Blk) (I:Nat->Prop) (a:Act) (w:World),Rel P w0 O0 N β I s'.st a w->∃ β',Rel P w0 O0 N β' I (encS sh s0 v).st a w:=by
 unfold Zh at h;rw[ax]at h;obtain⟨m1,h1,h⟩:=h;rw[ax]at h;obtain⟨m,h2,h⟩:=h;obtain⟨h3,h⟩:=fH h;rw[ax]at h;obtain⟨v,h4,h⟩:=h;obtain⟨h5,h6⟩:=rO h;simp only[okS,aK,aM]at h3;obtain⟨⟨⟨⟨⟨⟨⟨⟨n1,n2⟩,n3⟩,n4⟩,n5⟩,n6⟩,n7⟩,n8⟩,n9⟩:=h3;have hm2:=(kL _ _ _ h2).1;have hdcs:=abp h4;obtain⟨_,nA,dA,lA⟩:=GJ _ _ _ h1;simp only[cu]at dA;have hnd1:(m.nm.map (·.1)).Nodup:=(List.nodup_append.1 n1).1;have hnd2:(m.nm.map (·.2)).Nodup:=(List.nodup_append.1 n2).1;have hsw:((m.nm.map fun q=>(q.2,q.1)).map (·.1)).Nodup:=by rw[List.map_map];exact hnd2
 generalize hf':(fun j=>match lk m.nm j with |some q=>q |none=>j:Nat->Nat)=f;generalize hg':(fun j=>match lk (m.nm.map fun q=>(q.2,q.1)) j with |some q=>q |none=>j:Nat->Nat)=g;have hf:∀ q∈m.nm,f q.1=q.2:=by
  rintro⟨p,q⟩ hq;rw[<- hf'];simp only[y8 hnd1 hq]
 have hg:∀ q∈m.nm,g q.2=q.1:=by
  rintro⟨p,q⟩ hq;rw[<- hg'];have:(q,p)∈m.nm.map fun q=>(q.2,q.1):=mem_map.2 ⟨(p,q),hq,rfl⟩;simp only[y8 hsw this]
 have hfk:∀ j∈sh.keepO,f j=j:=by
  intro j hj;rw[<- hf'];cases hh:lk m.nm j with
  |none=>simp[hh]
  |some q=>exact ((List.nodup_append.1 n1).2.2 j (mem_map.2 ⟨(j,q),mE hh,rfl⟩) j hj rfl).elim
 have hgk:∀ j∈sh.keepO,g j=j:=by
  intro j hj;rw[<- hg'];cases hh:lk (m.nm.map fun q=>(q.2,q.1)) j with
  |none=>simp[hh]
  |some q=>
   have h1:=mE hh;simp only[mem_map]at h1;obtain⟨z,hz,e⟩:=h1;injection e with e1 e2;exact ((List.nodup_append.1 n2).2.2 j (mem_map.2 ⟨z,hz,e1⟩) j hj rfl).elim
 have hg0:∀ j,j < 1000->g j=j:=by
  intro j hj;rw[<- hg'];cases hh:lk (m.nm.map fun q=>(q.2,q.1)) j with
  |none=>simp[hh]
  |some q=>
   have h1:=mE hh;simp only[mem_map]at h1;obtain⟨z,hz,e⟩:=h1;injection e with e1 e2;have:=all_eq_true.1 n4 z hz;simp only[aK,Bool.or_eq_true,aM]at this;simp only[hh];omega
 have hgf:∀ j,(DN m.nm j∨j∈sh.keepO)->g (f j)=j:=by
  rintro j (⟨q,hq⟩ |hj)
  ·rw[hf _ hq];exact hg _ hq
  ·rw[hfk j hj];exact hgk j hj
 obtain⟨nB,dB,lB⟩:=EC (NM:=m.nm) _ _ _ h2 (fun q hq=>hq);have hL:m.dcs=nA++nB:=by rw[dB,dA]
 have hdrop:(TJ sh.vars v).drop (varsS sh.slots).length=nB:=by rw[hdcs,hL,<- lA,List.drop_left]
 have htake:(TJ sh.vars v).take (varsS sh.slots).length=nA:=by rw[hdcs,hL,<- lA,List.take_left]
 generalize hol:(fun k=>(lk (lens sh.objs nB) k).getD 0:Nat->Nat)=olen;have ho:∀ q∈m.nm,∀ c l,lko s'.obj q.1=some (.lst c l)->olen q.2=l.length:=by
  rintro⟨p,q⟩ hq c l hl;have hqk:=all_eq_true.1 n4 _ hq;simp only[aK]at hqk;obtain⟨p',o,g1,g2,g3⟩:=lB [] q (by simpa using hqk.1.1);have:p'=p:=by
   have e1:=hg _ g1;have e2:=hg _ hq;simp only at e1 e2;rw[<- e1,e2]
  subst this;simp only at hl;rw[hl]at g2;injection g2 with g2;have h3:=g3 c l g2.symm;rw[append_nil]at h3;rw[<- hol];have hk:=(Ja sh.objs nB).nodup n3;simp only[y8 hk h3,Option.getD_some]
 obtain⟨nA',dA',es,eA,pA⟩:=L6 (NM:=m.nm) (f:=f) (olen:=olen) hf ho _ _ _ h1 (fun q hq=>hm2.1 q hq) (fun c hc=>h5 c (hm2.2 c hc));obtain⟨nB',dB',xs,eB,pB⟩:=Bg (NM:=m.nm) (f:=f) (olen:=olen) hf ho _ _ _ h2 (fun q hq=>hq) h5;have eqA:nA'=nA:=by simp only[cu]at dA';rw[<- dA',dA]
 have eqB:nB'=nB:=List.append_cancel_left (dB'.symm.trans dB);subst eqA eqB;have eA0:=eA [];have eB0:=eB [];rw[append_nil]at eA0 eB0;have hS:encS sh s0 v=⟨es++sh.keep.map (fun t=>(t,lke s0.env t)),xs++sh.keepO.map (fun k=>(k,lko s0.obj k)),sh.nx,(List.range s0.nx).filter (fun k=>!sh.keepO.contains k)++s0.log⟩:=by simp only[encS,hdrop,htake,hol,eA0,eB0]
 have hsn:∀ j,SN m.nm j->j < sh.nx:=by
  rintro j ⟨p,hp⟩;have:=all_eq_true.1 n4 _ hp;simp only[aK,aM]at this;exact this.1.2
 have kp:∀ j,(sh.keepO.contains j || m.nm.contains (j,j))=true->j∈sh.keepO∨(j,j)∈m.nm:=by
  intro j hj;simpa using hj
 have hfp:∀ j,j∈sh.keepO∨(j,j)∈m.nm->f j=j:=fun j hj=>hj.elim (hfk j) (fun h=>hf (j,j) h);have hdp:∀ j,j∈sh.keepO∨(j,j)∈m.nm->DN m.nm j∨j∈sh.keepO:=fun j hj=>hj.elim .inr (fun h=> .inl ⟨j,h⟩);have hko:∀ j∈sh.keepO,j < s0.nx∧(∃ o,lko s0.obj j=some o∧lko s'.obj j=some o∧∀ i∈orefs o,i∈sh.keepO∨(i,i)∈m.nm):=by
  intro j hj;have:=all_eq_true.1 n7 _ hj;simp only[aK,aM,Bool.not_eq_true']at this;obtain⟨⟨⟨a1,a2⟩,a3⟩,a4⟩:=this;refine⟨a1,?_⟩;cases ho0:lko s0.obj j with
  |none=>rw[ho0]at a4;cases a4
  |some o=>
   rw[ho0]at a4;refine⟨o,rfl,?_,fun i hi=>kp i (all_eq_true.1 a4 i hi)⟩;obtain⟨d,hd,hd2⟩:=hx.obj;have hnd:j∉d:=by
    have e:s'.log.take (s'.log.length - s0.log.length)=d:=(by rw[hd,aZ,Nat.add_sub_cancel,List.take_left]);rw[e]at a2;simpa using a2
   rcases hd2 j a1 hnd with h |h
   ·rw[h,ho0]
   ·rw[h]at a3;cases a3
 have hke:∀ t∈sh.keep,t∉ds∧lke s'.env t=lke s0.env t∧∀ j∈drefs (lke s0.env t),j∈sh.keepO∨(j,j)∈m.nm:=by
  intro t ht;have:=all_eq_true.1 n6 _ ht;simp only[aK,Bool.not_eq_true']at this;obtain⟨⟨a1,a2⟩,a3⟩:=this;have a1':t∉ds:=by simpa using a1
  refine⟨a1',?_,fun j hj=>kp j (all_eq_true.1 a3 j hj)⟩;rcases hx.env t a1' with h |h
  ·exact h
  ·exact (agY a2 h).elim
 have hks:∀ q∈es,q.1∈ds:=by
  intro q hq;have h1:=(pA q hq).1;obtain⟨z,hz,e⟩:=mem_map.1 h1;have:=all_eq_true.1 n5 _ hz;rw[<- e];simpa using this
 have hkeep:∀ t,lk (sh.keep.map fun t=>(t,lke s0.env t)) t=if t∈sh.keep then some (lke s0.env t)else none:=by
  intro t
  induction sh.keep with
  |nil=>simp[lk]
  |cons q qs ih=>
   simp only[bf,lk,ih,aI];by_cases e:q=t
   ·subst e;simp
   ·rw[aD e];simp[Ne.symm e]
 have hkeepO:∀ t,lk (sh.keepO.map fun t=>(t,lko s0.obj t)) t=if t∈sh.keepO then some (lko s0.obj t)else none:=by
  intro t
  induction sh.keepO with
  |nil=>simp[lk]
  |cons q qs ih=>
   simp only[bf,lk,ih,aI];by_cases e:q=t
   ·subst e;simp
   ·rw[aD e];simp[Ne.symm e]
 have henv:∀ t,(∃ d,(t,d)∈es∧lke (encS sh s0 v).env t=d)∨(t∈sh.keep∧lke (encS sh s0 v).env t=lke s0.env t)∨lke (encS sh s0 v).env t= .undef:=by
  intro t;have e1:lke (encS sh s0 v).env t=(match lk es t with |some d=>some d |none=>if t∈sh.keep then some (lke s0.env t)else none).getD .undef:=by
   rw[hS];show (lk (es++sh.keep.map (fun t=>(t,lke s0.env t))) t).getD .undef=_;rw[Da,hkeep t];cases lk es t<;>rfl
  rw[e1];cases he:lk es t with
  |some d=>exact .inl ⟨d,mE he,rfl⟩
  |none=>
   by_cases ht:t∈sh.keep
   ·simp only[aJ ht];exact .inr (.inl ⟨ht,rfl⟩)
   ·simp only[aD ht];exact .inr (.inr rfl)
 have hobj:∀ j o,lko (encS sh s0 v).obj j=some o->(∃ k' o1,(k',j)∈m.nm∧lko s'.obj k'=some o1∧(dM o).sz=(dM o1).sz∧RowsW (DN m.nm) f (dM o1).rows (dM o).rows∧(∀ i∈orefs o,SN m.nm i))∨(j∈sh.keepO∧lko s0.obj j=some o):=by
  intro j o hjo;have e1:lko (encS sh s0 v).obj j=(match lk xs j with |some d=>some d |none=>if j∈sh.keepO then some (lko s0.obj j)else none).join:=by
   rw[hS];show (lk (xs++sh.keepO.map (fun k=>(k,lko s0.obj k))) j).join=_;rw[Da,hkeepO j];cases lk xs j<;>rfl
  rw[e1]at hjo;cases he:lk xs j with
  |some x=>
   rw[he]at hjo;obtain⟨_,k',o1,o',b1,b2,b3,b4,b5,b6⟩:=pB _ (mE he);simp only at b1 b2 hjo;subst b1;simp only[Option.join_some,aG]at hjo;subst hjo;exact .inl ⟨k',o1,b2,b3,b4,b5,b6⟩
  |none=>
   rw[he]at hjo;by_cases hj:j∈sh.keepO
   ·simp only[aJ hj,Option.join_some]at hjo;exact .inr ⟨hj,hjo⟩
   ·simp[aD hj]at hjo
 have hnx:s0.nx<=sh.nx:=n8;have hkx:∀ j,j∈sh.keepO∨(j,j)∈m.nm->j < sh.nx:=fun j hj=>hj.elim (fun hj=>Nat.lt_of_lt_of_le (hko j hj).1 hnx) (fun h=>hsn j ⟨j,h⟩);have hRW:∀ {r q:List AV},RowW (DN m.nm) f r q->RowW (fun j=>DN m.nm j∨j∈sh.keepO) f r q:=by
  intro r
  induction r with
  |nil=>intro q h;cases q with
   |nil=>trivial
   |cons=>exact h.elim
  |cons x xs ih=>intro q h;cases q with
   |nil=>exact h.elim
   |cons y ys=>exact⟨⟨fun k hk=> .inl (h.1.1 k hk),h.1.2⟩,ih h.2⟩
 have hRsW:∀ {r q:List (List AV)},RowsW (DN m.nm) f r q->RowsW (fun j=>DN m.nm j∨j∈sh.keepO) f r q:=by
  intro r
  induction r with
  |nil=>intro q h;cases q with
   |nil=>trivial
   |cons=>exact h.elim
  |cons x xs ih=>intro q h;cases q with
   |nil=>exact h.elim
   |cons y ys=>exact⟨hRW h.1,ih h.2⟩
 refine⟨v,h6,?_,?_,?_⟩
 ·constructor
  ·rw[hS];exact n9
  ·rw[hS];exact Nat.le_trans hl0.ge n8
  ·intro t j hj;have hnx':(encS sh s0 v).nx=sh.nx:=(by rw[hS]);rw[hnx'];rcases henv t with ⟨d,h1,h2⟩ |⟨h1,h2⟩ |h2
   ·rw[h2]at hj;exact hsn j ((pA _ h1).2.2.2 j hj)
   ·rw[h2]at hj;exact hkx j ((hke t h1).2.2 j hj)
   ·rw[h2]at hj;simp[drefs]at hj
  ·intro j o hjo;have hnx':(encS sh s0 v).nx=sh.nx:=(by rw[hS]);rw[hnx'];rcases hobj j o hjo with ⟨k',o1,b1,b2,b3,b4,b5⟩ |⟨b1,b2⟩
   ·exact⟨hsn j ⟨k',b1⟩,fun i hi=>hsn i (b5 i hi)⟩
   ·obtain⟨c1,o',c2,c3,c4⟩:=hko j b1;rw[b2]at c2;injection c2 with c2;subst c2;exact⟨hkx j (.inl b1),fun i hi=>hkx i (c4 i hi)⟩
 ·refine⟨fun t ht=>?_,⟨(List.range s0.nx).filter (fun k=>!sh.keepO.contains k),by rw[hS],fun j hj hn=>?_⟩,by rw[hS];exact hnx⟩
  ·rcases henv t with ⟨d,h1,h2⟩ |⟨h1,h2⟩ |h2
   ·exact (ht (hks _ h1)).elim
   ·exact .inl h2
   ·exact .inr h2
  ·have hjk:j∈sh.keepO:=(by simpa[hj]using hn);cases hjo:lko (encS sh s0 v).obj j with
   |none=>exact .inr rfl
   |some o=>
    rcases hobj j o hjo with ⟨k',o1,b1,_⟩ |⟨b1,b2⟩
    ·exact ((List.nodup_append.1 n2).2.2 j (mem_map.2 ⟨(k',j),b1,rfl⟩) j hjk rfl).elim
    ·exact .inl b2.symm
 ·intro P w0 O0 N β I a w hr;refine⟨_,Rel.re (f:=f) (g:=g) (D:=fun j=>DN m.nm j∨j∈sh.keepO) hgf hg0 hr (fun _=> .inl rfl) (fun _=>rfl) (fun t=>?_) (fun j o' hj=>?_)⟩
  ·show den (lke (encS sh s0 v).env t)= .undef∨((∀ k∈refs (den (lke s'.env t)),_)∧Wkn (rnA f (den (lke s'.env t))) (den (lke (encS sh s0 v).env t)));rcases henv t with ⟨d,h1,h2⟩ |⟨h1,h2⟩ |h2
   ·right;rw[h2];obtain⟨_,b1,b2,_⟩:=pA _ h1;exact⟨fun k hk=> .inl (b2 k (by rwa [iZ]at hk)),b1⟩
   ·right;obtain⟨_,b1,b2⟩:=hke t h1;rw[h2,b1];refine⟨fun k hk=>hdp k (b2 k (by rwa [iZ]at hk)),?_⟩;rw[<- Ez,Uc _ (fun k hk=>hfp k (b2 k hk))];exact Wkn.refl _
   ·left;rw[h2];rfl
  ·simp only[DSt.st,fB]at hj;obtain⟨o,hjo,rfl⟩:=hj;rcases hobj j o hjo with ⟨k',o1,b1,b2,b3,b4,b5⟩ |⟨b1,b2⟩
   ·exact⟨k',dM o1,by simp[DSt.st,b2],.inl ⟨j,b1⟩,hf _ b1,b3,hRsW b4⟩
   ·obtain⟨c1,o',c2,c3,c4⟩:=hko j b1;rw[b2]at c2;injection c2 with c2;subst c2;have hid:rnO f o=o:=by
     cases o with
     |lst c l=>rfl
     |map kc vc l=>rfl
     |cells sz rows=>
      simp only[rnO];congr 1;have:∀ q∈rows,JF f q=q:=fun q hq=>Bf q fun i hi=>hfp i (c4 i (by
       simp only[orefs,List.mem_flatten,mem_map];exact⟨_,⟨q,hq,rfl⟩,hi⟩))
      rw[List.map_congr_left this];simp
    obtain⟨r1,r2⟩:=I9 (D:=fun j=>DN m.nm j∨j∈sh.keepO) f o (fun i hi=>hdp i (c4 i hi));rw[hid]at r1 r2;exact⟨j,dM o,by simp[DSt.st,c3],.inr b1,hfk j b1,r1,r2⟩
theorem Ext.trans {ds:Nat->Prop} {a b c:DSt X} (h:Ext ds a b) (h':Ext ds b c):Ext ds a c:=by
 refine⟨fun t ht=>?_,?_,Nat.le_trans h.nx h'.nx⟩
 ·rcases h'.env t ht with h1 |h1
  ·rcases h.env t ht with h2 |h2
   ·exact .inl (h1.trans h2)
   ·exact .inr (h1.trans h2)
  ·exact .inr h1
 ·obtain⟨d,h1,h2⟩:=h.obj;obtain⟨d',h3,h4⟩:=h'.obj;refine⟨d'++d,by rw[h3,h1,aQ],fun k hk hn=>?_⟩;simp only[aX,not_or]at hn;rcases h4 k (Nat.lt_of_lt_of_le hk h.nx) hn.1 with h5 |h5
  ·rcases h2 k hk hn.2 with h6 |h6
   ·exact .inl (h5.trans h6)
   ·exact .inr (h5.trans h6)
  ·exact .inr h5
theorem Ext.refl (ds:Nat->Prop) (s:DSt X):Ext ds s s:=⟨fun _ _=> .inl rfl,⟨[],by simp,fun _ _ _=> .inl rfl⟩,aU _⟩
def Says (s s':DSt X):Prop:=∀ (P:Program) (w0:World) (O0:Was) (N:Nat) (β:Nat->Option Blk) (I:Nat->Prop) (a:Act) (w:World),Rel P w0 O0 N β I s.st a w->∃ β',Rel P w0 O0 N β' I s'.st a w
theorem Low.room {s:DSt X} {P:Program} {w0:World} {O0:Was} {N:Nat} {β:Nat->Option Blk} {I:Nat->Prop} {a:Act} {w:World} (hl:Low s) (hr:Rel P w0 O0 N β I s.st a w):∃ β2,β2 s.nx=none∧Rel P w0 O0 N β2 I s.st a w:=by
 have hr1:=hr.restrict hl.old
 have hr2:=Rel.re (f:=id) (g:=fun j=>if j < s.nx then j else 1000000) (D:=(· < s.nx)) (s':=s.st) (fun k hk=>aJ hk) (fun j hj=>aJ (by have:=hl.ge;omega)) hr1 (fun _=> .inl rfl) (fun _=>rfl)
  (fun q=> .inr ⟨fun k hk=>hl.env q k (by rw[<- iZ];exact hk),by
   show Wkn (rnA id (den (lke s.env q))) (den (lke s.env q));rw[<- Ez,Uc (f:=id) _ (fun _ _=>rfl)];exact Wkn.refl _⟩)
  (fun j o' hj=>by
   simp only[DSt.st,fB]at hj;obtain⟨x,hx,rfl⟩:=hj;obtain⟨h1,h2⟩:=hl.obj j x hx;obtain⟨r1,r2⟩:=I9 (D:=(· < s.nx)) id x h2;have hid:rnO id x=x:=by
    cases x with
    |lst c l=>rfl
    |map kc vc l=>rfl
    |cells sz rows=>
     simp only[rnO];congr 1;have:∀ q∈rows,JF id q=q:=fun q _=>Bf (f:=id) q fun _ _=>rfl;rw[List.map_congr_left this];simp
   rw[hid]at r1 r2;exact⟨j,dM x,by simp[DSt.st,hx],h1,rfl,r1,r2⟩)
 exact⟨_,by simp,hr2⟩
theorem aeu {ds:List Nat} {s:DSt X} {t:Nat} {c:CT X.ι} (hl:Low s) (ht:t∈ds):Low (abL s t c)∧Ext (· ∈ds) s (abL s t c)∧Says s (abL s t c):=by
 unfold abL;split
 ·rename_i hn;split
  ·rename_i hlt;have he:∀ q,lke ((t,.own s.nx 0 0)::s.env) q=if t=q then .own s.nx 0 0 else lke s.env q:=fun q=>by
    simp only[lke,lk];by_cases e:t=q<;>simp[e]
   have hO:∀ q,lko ((s.nx,some (.lst c []))::s.obj) q=if s.nx=q then some (.lst c [])else lko s.obj q:=fun q=>by
    simp only[lko,lk];by_cases e:s.nx=q<;>simp[e]
   refine⟨⟨by show s.nx+1<=1000000;omega,by have:=hl.ge;show 1000<=s.nx+1;omega,fun q k hk=>?_,fun k o ho=>?_⟩,⟨fun q hq=>?_,⟨[s.nx],rfl,fun k hk hnk=>?_⟩,by show s.nx<=s.nx+1;omega⟩,fun P w0 O0 N β I a w hr=>?_⟩
   ·rw[he]at hk;split at hk
    ·simp only[drefs,aO]at hk;subst hk;show s.nx < s.nx+1;omega
    ·have:=hl.env q k hk;show k < s.nx+1;omega
   ·rw[hO]at ho;split at ho
    ·rename_i e;injection ho with ho;subst ho;subst e;exact⟨by show s.nx < s.nx+1;omega,by simp[orefs]⟩
    ·obtain⟨h1,h2⟩:=hl.obj k o ho;exact⟨by show k < s.nx+1;omega,fun j hj=>by have:=h2 j hj;show j < s.nx+1;omega⟩
   ·left;rw[he,aD];intro e;subst e;exact hq ht
   ·left;rw[hO,aD (by omega)]
   ·obtain⟨β2,hβ2,hr2⟩:=hl.room hr;obtain⟨hS,hM⟩:=Mem.addNil (i:=s.nx) (o:=dM (.lst c []:DObj X)) hr2.mem hβ2 rfl;refine⟨ins β2 s.nx .none,hr2.defers,hr2.size,fun q=>?_,?_⟩
    ·have h1:=hr2.env q;show SlotR P _ w I (den (lke ((t,.own s.nx 0 0)::s.env) q)) none _;rw[he];by_cases e:t=q
     ·subst e;rw[aJ rfl];have h2:VR P _ w I (den (lke s.env t)) (a.tmps.getD t undef):=h1;rw[hn]at h2;simp only[den,VR]at h2;simp only[SlotR,den,VR];exact .inl ⟨by simp[ins],h2,trivial,trivial⟩
     ·rw[aD e];exact SlotR.mono hS.ext hS.same hS.inc h1
    ·have e:(fun k=>(lko ((s.nx,some (.lst c []))::s.obj) k).map dM)=dQ s.st.obj [(s.nx,some (dM (.lst c []:DObj X)))]:=by
      funext q;simp only[dQ,DSt.st];rw[hO];by_cases e:s.nx=q
      ·simp[e]
      ·rw[aD e,aD (Ne.symm e)]
     show Mem P w0 O0 _ I (fun k=>(lko ((s.nx,some (.lst c []))::s.obj) k).map dM) w;rw[e];exact hM
  ·exact⟨hl,Ext.refl _ s,fun _ _ _ _ β _ _ _ h=>⟨β,h⟩⟩
 ·exact⟨hl,Ext.refl _ s,fun _ _ _ _ β _ _ _ h=>⟨β,h⟩⟩
theorem Uf (y:DV X):∀ (l:List (DV X)) (j i:Nat),i∈bn (l.set j y)->i∈bn l∨i∈drefs y
 |[],_,_,h=> .inl (by simpa using h)
 |x::l,0,i,h=>by
  simp only[List.set,bn,aX]at h ⊢;rcases h with h |h
  ·exact .inr h
  ·exact .inl (.inr h)
 |x::l,j+1,i,h=>by
  simp only[List.set,bn,aX]at h ⊢;rcases h with h |h
  ·exact .inl (.inl h)
  ·rcases Uf y l j i h with h |h
   ·exact .inl (.inr h)
   ·exact .inr h
theorem VRl.set {P:Program} {β:Nat->Option Blk} {w:World} {I:Nat->Prop} {y:AV}:∀ (xs:List AV) (vs:List Value) (j:Nat),(∀ x v,xs[j]? =some x->VR P β w I x v->VR P β w I y v)->VRl P β w I xs vs->VRl P β w I (xs.set j y) vs
 |[],vs,_,_,h=>by simpa using h
 |x::xs,[],_,_,h=>by simp[VRl]at h
 |x::xs,v::vs,0,hy,h=>by simp only[VRl,List.set]at h ⊢;exact⟨hy x v rfl h.1,h.2⟩
 |x::xs,v::vs,j+1,hy,h=>by simp only[VRl,List.set]at h ⊢;exact⟨h.1,VRl.set xs vs j (fun x v e=>hy x v (by simpa using e)) h.2⟩
theorem OR.set1 {P:Program} {β:Nat->Option Blk} {w:World} {I:Nat->Prop} {sz:Nat} {row:List AV} {j:Nat} {y:AV} {B:Blk} (hy:∀ x v,row[j]? =some x->VR P β w I x v->VR P β w I y v) (h:OR P β w I ⟨sz,[row]⟩ B):OR P β w I ⟨sz,[row.set j y]⟩ B:=by
 cases B with
 |none=>simp[OR]at h
 | «at» b s n=>
  obtain⟨h1,c,e,h2,h3,h4⟩:=h;refine⟨h1,c,e,h2,h3,?_⟩;simp only[ORows,List.length_set]at h4 ⊢;refine⟨h4.1,?_,trivial⟩;rw[jX]at h4 ⊢;intro i x hx;rw[List.getElem?_set]at hx;split at hx
  ·rename_i e;subst e;split at hx
   ·injection hx with hx;subst hx;rename_i hlt;obtain⟨v,g1,g2,g3⟩:=h4.2.1 j _ (gG hlt);exact⟨v,g1,hy _ v (gG hlt) g2,g3⟩
   ·cases hx
  ·exact h4.2.1 i x hx
 |mp b=>
  obtain⟨es,cl,h1,hle,h2,h3⟩:=h;refine⟨es,cl,h1,hle,fun e=>?_,h3⟩;have:=h2 e
  match hes:es.toList,this with
  |[e1],this=>simp only[MRows]at this ⊢;exact⟨VRl.set _ _ j hy this.1,trivial⟩
  |[],this=>simp[MRows]at this
  |_::_::_,this=>simp[MRows]at this
theorem abO (y:DV X):∀ (l:List (DV X)) (j:Nat),cK (l.set j y)=(cK l).set j (den y)
 |[],_=>by simp[cK]
 |x::l,0=>by simp[cK]
 |x::l,j+1=>by simp[cK,abO y l j]
theorem aev {ds:List Nat} {s:DSt X} {q j:Nat} {c:CT X.ι} (hl:Low s):Low (abM s q j c)∧Ext (· ∈ds) s (abM s q j c)∧Says s (abM s q j c):=by
 unfold abM;split
 ·rename_i sz row hq;split
  ·rename_i hn;split
   ·rename_i hlt;have hqn:q < s.nx:=(hl.obj q _ hq).1;have hrefs:∀ k∈bn row,k < s.nx:=fun k hk=>(hl.obj q _ hq).2 k (by simpa[orefs]using hk);have hO:∀ k,lko ((q,some (.cells sz [row.set j (.own s.nx 0 0)]))::(s.nx,some (.lst c []))::s.obj) k=if q=k then some (.cells sz [row.set j (.own s.nx 0 0)])else if s.nx=k then some (.lst c [])else lko s.obj k:=fun k=>by
     simp only[lko,lk];by_cases e:q=k
     ·simp[e]
     ·by_cases e':s.nx=k<;>simp[e,e']
    refine⟨⟨by show s.nx+1<=1000000;omega,by have:=hl.ge;show 1000<=s.nx+1;omega,fun k i hk=>by have:=hl.env k i hk;show i < s.nx+1;omega,fun k o ho=>?_⟩,⟨fun _ _=> .inl rfl,⟨[q,s.nx],rfl,fun k hk hnk=>?_⟩,by show s.nx<=s.nx+1;omega⟩,fun P w0 O0 N β I a w hr=>?_⟩
    ·rw[hO]at ho;split at ho
     ·rename_i e;injection ho with ho;subst ho;subst e;refine⟨by show q < s.nx+1;omega,fun i hi=>?_⟩;show i < s.nx+1;simp only[orefs,bf,map_nil,flatten_cons,List.flatten_nil,append_nil]at hi;rcases Uf _ _ _ _ hi with h1 |h1
      ·have:=hrefs i h1;omega
      ·simp only[drefs,aO]at h1;omega
     ·split at ho
      ·rename_i e;injection ho with ho;subst ho;subst e;exact⟨by show s.nx < s.nx+1;omega,by simp[orefs]⟩
      ·obtain⟨h1,h2⟩:=hl.obj k o ho;exact⟨by show k < s.nx+1;omega,fun i hi=>by have:=h2 i hi;show i < s.nx+1;omega⟩
    ·left;simp only[aI,aP,or_false,not_or]at hnk;rw[hO,aD (Ne.symm hnk.1),aD (Ne.symm hnk.2)]
    ·obtain⟨β2,hβ2,hr2⟩:=hl.room hr;obtain⟨hS,hM⟩:=Mem.addNil (i:=s.nx) (o:=dM (.lst c []:DObj X)) hr2.mem hβ2 rfl;refine⟨ins β2 s.nx .none,hr2.defers,hr2.size,fun k=>SlotR.mono hS.ext hS.same hS.inc (hr2.env k),?_⟩;refine hM.weak fun k o' ho=>?_;simp only[DSt.st]at ho;rw[hO]at ho;by_cases e:q=k
     ·subst e;rw[aJ rfl,Option.map_some]at ho;injection ho with ho;subst ho;refine⟨dM (.cells sz [row]),by simp only[dQ];rw[aD (by omega)];simp[DSt.st,hq],fun B _ hB=>?_⟩;simp only[dM,bf,map_nil,abO]at hB ⊢;refine OR.set1 (fun x v hx hv=>?_) hB;rw[ni,List.getElem?_map,hn]at hx;injection hx with hx;subst hx;simp only[den,VR]at hv ⊢;exact .inl ⟨by simp[ins],hv,trivial,trivial⟩
     ·rw[aD e]at ho;refine⟨o',?_,fun _ _ h=>h⟩;simp only[dQ];by_cases e':s.nx=k
      ·subst e';rw[aJ rfl]at ho ⊢;simpa using ho
      ·rw[aD e']at ho;rw[aD (Ne.symm e')];exact ho
   ·exact⟨hl,Ext.refl _ s,fun _ _ _ _ β _ _ _ h=>⟨β,h⟩⟩
  ·exact⟨hl,Ext.refl _ s,fun _ _ _ _ β _ _ _ h=>⟨β,h⟩⟩
 ·exact⟨hl,Ext.refl _ s,fun _ _ _ _ β _ _ _ h=>⟨β,h⟩⟩
theorem L8 {ds:List Nat}:∀ (l:List (Nat×CT X.ι)) {s:DSt X},Low s->(∀ p∈l,p.1∈ds∨1000000<=p.1)->Low (Ue l s)∧Ext (· ∈ds) s (Ue l s)∧Says s (Ue l s)
 |[],s,hl,_=>⟨hl,Ext.refl _ s,fun _ _ _ _ β _ _ _ h=>⟨β,h⟩⟩
 |(t,c)::r,s,hl,hd=>by
  have h0:Low (bif Nat.ble 1000000 t then abM s ((t - 1000000)/4096) ((t - 1000000)%4096) c else abL s t c)∧Ext (· ∈ds) s (bif Nat.ble 1000000 t then abM s ((t - 1000000)/4096) ((t - 1000000)%4096) c else abL s t c)∧Says s (bif Nat.ble 1000000 t then abM s ((t - 1000000)/4096) ((t - 1000000)%4096) c else abL s t c):=by
   cases hb:Nat.ble 1000000 t with
   |true=>exact aev hl
   |false=>exact aeu hl ((hd (t,c) (by simp)).resolve_right fun h=>by rw[Nat.ble_eq_true_of_le h]at hb;cases hb)
  obtain⟨h1,h2,h3⟩:=h0;obtain⟨g1,g2,g3⟩:=L8 r h1 (fun p hp=>hd p (by simp[hp]));refine⟨g1,h2.trans g2,fun P w0 O0 N β I a w hr=>?_⟩;obtain⟨β',hr'⟩:=h3 P w0 O0 N β I a w hr;exact g3 P w0 O0 N β' I a w hr'
theorem mG {A:Type} {sh:Sh X.ι} {ds:List Nat} {s0 s':DSt X} {k:VT (X:=X) sh.vars->Option A} {r:A} (hl0:Low s0) (hl':Low s') (hx:Ext (· ∈ds) s0 s') (h:uW sh ds s0 s' k=some r):
 ∃ v,k v=some r∧Low (encS sh s0 v)∧Ext (· ∈ds) s0 (encS sh s0 v)∧Says s' (encS sh s0 v):=by
 unfold uW at h;obtain⟨h1,h2⟩:=fH h;obtain⟨g1,g2,g3⟩:=L8 (ds:=ds) sh.nils hl' (fun p hp=>by simpa using all_eq_true.1 h1 p hp);obtain⟨v,i1,i2,i3,i4⟩:=Zi hl0 (hx.trans g2) h2;refine⟨v,i1,i2,i3,fun P w0 O0 N β I a w hr=>?_⟩;obtain⟨β',hr'⟩:=g3 P w0 O0 N β I a w hr;exact i4 P w0 O0 N β' I a w hr'
end
def iD:Code->List Nat
 | .region _ ops _=>ops.toList.filterMap (·.dst)
 | .seq a b=>iD a++iD b
 | .cond _ a b=>iD a++iD b
 | .block _ b=>iD b
 | .loop b=>iD b
 |_=>[]
section
variable {X:SX}
section
variable {P:Program} {N:Nat}
def QF {A:Type} (ds:List Nat) (s:DSt X) (k:Exit->DSt X->Option A) (r:A) (e:Exit) (σ:St):Prop:=∃ s',Low s'∧Ext (· ∈ds) s s'∧σ=s'.st∧k e s'=some r
theorem agl {c:Code} {Q Q':Exit->St->Prop} {σ:St} (h:Ev P N c Q σ) (ht:∀ e σ,Q e σ->∀ w0 O0 β I a w,Rel P w0 O0 N β I σ a w->∃ β' σ',Rel P w0 O0 N β' I σ' a w∧Old σ'∧Q' e σ'):Ev P N c Q' σ:=by
 intro w0 O0 β I a w hr ho;refine wp_mono (h w0 O0 β I a w hr ho) ?_;rintro e a' w' ⟨β',I',σ',h1,_,h3⟩;obtain⟨β2,σ2,g1,g2,g3⟩:=ht e σ' h3 w0 O0 β' I' a' w' h1;exact⟨β2,I',σ2,g1,g2,g3⟩
end
end
inductive Hn (ι:Type) where
 |z
 |f (l:List Nat)
 |s (a b:Hn ι)
 |b (a:Hn ι)
 |j (sh:Sh ι) (a:Hn ι)
 |jx (sh:Sh ι) (a:Hn ι)
 |l (head:Sh ι) (id:Nat) (out:Sh ι) (a:Hn ι)
 |lx (head:Sh ι) (id:Nat) (out:Sh ι) (a:Hn ι)
 |rg (head:Sh ι) (a:Hn ι)
def Hn.fz {ι:Type}:Hn ι->List Nat
 | .f is=>is
 |_=>[]
def Hn.fst {ι:Type}:Hn ι->Hn ι
 | .s a _=>a
 |_=> .z
def Hn.snd {ι:Type}:Hn ι->Hn ι
 | .s _ y=>y
 |_=> .z
def Hn.sub {ι:Type}:Hn ι->Hn ι
 | .b a=>a
 |_=> .z
def iter {V O:Type} (step:V->Option (V ⊕ O)):Nat->V->Option O
 | 0,_=>none
 |n+1,v=>(step v).bind fun r=>match r with
  | .inl v=>iter step n v
  | .inr o=>some o
def dX {W A:Type} (o:Option (W ⊕ A)) (f:W->Option A):Option A:=o.bind fun r=>match r with
 | .inl w=>f w
 | .inr a=>some a
noncomputable def both {A:Type} (x y:Option A):Option A:=open Classical in if x=y then x else none
theorem agZ {A:Type} {x y:Option A} {r:A} (h:both x y=some r):x=some r∧y=some r:=by
 unfold both at h;split at h
 ·rename_i e;exact⟨h,e ▸ h⟩
 ·cases h
theorem ag0 {A:Type} (x:Option A):both x x=x:=by simp[both]
section
variable {X:SX}
def XY (ds:List Nat) (s:DSt X) (h:Hn X.ι) {A:Type} (k:Exit->DSt X->Option A) (body:(B:Type)->Hn X.ι->(Exit->DSt X->Option B)->Option B):Option A:=
 match h with
 | .j sh h'=>(body (VT (X:=X) sh.vars) h' fun e s'=>match e with
  | .normal=>uW sh ds s s' some
  |_=>none).bind fun v=>k .normal (encS sh s v)
 | .jx sh h'=>dX (body (VT (X:=X) sh.vars ⊕ A) h' fun e s'=>match e with
  | .normal=>uW sh ds s s' fun v=>some (.inl v)
  |e=>(k e s').map .inr) fun v=>k .normal (encS sh s v)
 |h=>body A h k
variable (Γ:FuncId->Option (Sig X)) (T:Tab) (code:TypeId->Option (CT X.ι)) (N n:Nat)
noncomputable def run:Code->(A:Type)->Hn X.ι->DSt X->(Exit->DSt X->Option A)->Option A
 | .skip,_,_,s,k=>k .normal s
 | .region id ops d,A,h,s,k=>XY (iD (.region id ops d)) s h k fun _ h k=>aes Γ h.fz T code N ops d s (k .normal)
 | .seq x y,A,h,s,k=>XY (iD (.seq x y)) s h k fun B h k=>run x B h.fst s fun e s'=>match e with
  | .normal=>run y B h.snd s' k
  |e=>k e s'
 | .cond c x y,A,h,s,k=>XY (iD (.cond c x y)) s h k fun B h k=>match Wi (lke s.env) c with
  | .c .bool v=>bif v then run x B h.fst s k else run y B h.snd s k
  | .ub=>both (run x B h.fst s k) (run y B h.snd s k)
  |_=>none
 | .block id b,A,h,s,k=>XY (iD (.block id b)) s h k fun B h k=>run b B h.sub s fun e s'=>match e with
  | .exit j=>if j=id then k .normal s' else k (.exit j) s'
  |e=>k e s'
 | .loop b,A,h,s,k=>match h with
  | .l hd id out h'=>uW hd (iD b) s s fun v0=>(iter (fun v=>run b (VT (X:=X) hd.vars ⊕ VT (X:=X) out.vars) h' (encS hd s v) fun e s'=>match e with
   | .normal=>uW hd (iD b) s s' fun v=>some (.inl v)
   | .exit j=>if j=id then uW out (iD b) s s' fun w=>some (.inr w)else none
   |_=>none) n v0).bind fun w=>k (.exit id) (encS out s w)
  | .lx hd id out h'=>uW hd (iD b) s s fun v0=>dX (iter (fun v=>run b (VT (X:=X) hd.vars ⊕ (VT (X:=X) out.vars ⊕ A)) h' (encS hd s v) fun e s'=>match e with
   | .normal=>uW hd (iD b) s s' fun v=>some (.inl v)
   | .exit j=>if j=id then uW out (iD b) s s' fun w=>some (.inr (.inl w))else (k (.exit j) s').map fun a=> .inr (.inr a)
   |e=>(k e s').map fun a=> .inr (.inr a)) n v0) fun w=>k (.exit id) (encS out s w)
  |_=>none
 | .exit id,_,_,s,k=>k (.exit id) s
 | .ret,_,_,s,k=>k .ret s
 | .label _,_,_,s,k=>k .normal s
 |_,_,_,_,_=>none
section
variable {Γ:FuncId->Option (Sig X)} {T:Tab} {code:TypeId->Option (CT X.ι)} {N n:Nat} {P:Program}
theorem Ext.wide {ds ds':Nat->Prop} {a b:DSt X} (h:Ext ds a b) (hd:∀ t,ds t->ds' t):Ext ds' a b:=⟨fun t ht=>h.env t fun hh=>ht (hd t hh),h.obj,h.nx⟩
theorem map_inr {α β:Type} {o:Option β} {r:α ⊕ β} (h:o.map Sum.inr=some r):∃ b,o=some b∧r= .inr b:=by
 cases o with
 |none=>cases h
 |some b=>injection h with h;exact⟨b,rfl,h.symm⟩
theorem ED {c:Code} {s:DSt X} {h:Hn X.ι} {A:Type} {k:Exit->DSt X->Option A} {r:A} {body:(B:Type)->Hn X.ι->(Exit->DSt X->Option B)->Option B} (hl:Low s)
 (hb:∀ (B:Type) (h:Hn X.ι) (k:Exit->DSt X->Option B) (r:B),body B h k=some r->Ev P N c (QF (iD c) s k r) s.st) (hr:XY (iD c) s h k body=some r):Ev P N c (QF (iD c) s k r) s.st:=by
 unfold XY at hr;split at hr
 ·rename_i sh h';rw[ax]at hr;obtain⟨v,h1,hr⟩:=hr;refine agl (hb _ _ _ _ h1) ?_;rintro e σ ⟨s',g1,g2,rfl,g4⟩ w0 O0 β I a w hrel;cases e<;>simp only[reduceCtorEq]at g4;obtain⟨v',i1,i2,i3,i4⟩:=mG hl g1 g2 g4;injection i1 with i1;subst i1;obtain⟨β',i5⟩:=i4 P w0 O0 N β I a w hrel;exact⟨β',_,i5,i2.old,_,i2,i3,rfl,hr⟩
 ·rename_i sh h';unfold dX at hr;rw[ax]at hr;obtain⟨v,h1,hr⟩:=hr;refine agl (hb _ _ _ _ h1) ?_;rintro e σ ⟨s',g1,g2,rfl,g4⟩ w0 O0 β I a w hrel;have other:(k e s').map Sum.inr=some v->∃ β' σ',Rel P w0 O0 N β' I σ' a w∧Old σ'∧QF (iD c) s k r e σ':=by
   intro hm;obtain⟨b,hk,rfl⟩:=map_inr hm;injection hr with hr;subst hr;exact⟨β,_,hrel,g1.old,s',g1,g2,rfl,hk⟩
  cases e with
  |normal=>
   simp only at g4;obtain⟨v',i1,i2,i3,i4⟩:=mG hl g1 g2 g4;injection i1 with i1;subst i1;obtain⟨β',i5⟩:=i4 P w0 O0 N β I a w hrel;exact⟨β',_,i5,i2.old,_,i2,i3,rfl,hr⟩
  |_=>exact other g4
 ·exact hb _ _ _ _ hr
theorem ag1 {id:Nat} {ops:Array Oper} {d:Bool} {t:Nat} (h:QC ops t):t∈iD (.region id ops d):=by
 obtain⟨j,op,h1,h2⟩:=h;simp only[iD,List.mem_filterMap];exact⟨op,by rw[<- Array.getElem?_toList]at h1;exact iI h1,h2⟩
theorem Ug {b:Code} {s:DSt X} {hd:Sh X.ι} {O:Type} {step:VT (X:=X) hd.vars->Option (VT (X:=X) hd.vars ⊕ O)} {kb:Exit->DSt X->Option (VT (X:=X) hd.vars ⊕ O)} {Q:Exit->St->Prop} (hl:Low s)
 (hkn:∀ s',kb .normal s'=uW hd (iD b) s s' fun v=>some (.inl v))
 (hstep:∀ v r,Low (encS hd s v)->step v=some r->Ev P N b (QF (iD b) (encS hd s v) kb r) (encS hd s v).st)
 {o:O} (hQ:∀ e s',e≠ .normal->Low s'->Ext (· ∈iD b) s s'->kb e s'=some (.inr o)->∀ w0 O0 β I a w,Rel P w0 O0 N β I s'.st a w->∃ β' σ',Rel P w0 O0 N β' I σ' a w∧Old σ'∧Q e σ')
 (hno:∀ e s' v,e≠ .normal->kb e s'=some (.inl v)->False) (n:Nat) (v0:VT (X:=X) hd.vars) (h:iter step n v0=some o) (hl0:Low (encS hd s v0)) (hx0:Ext (· ∈iD b) s (encS hd s v0)):Ev P N (.loop b) Q (encS hd s v0).st:=by
 intro w0 O0 β I a w hr ho;refine Xn (fun n a w=>∃ β I v,Rel P w0 O0 N β I (encS hd s v).st a w∧iter step n v=some o∧Low (encS hd s v)∧Ext (· ∈iD b) s (encS hd s v)) (fun a w ⟨_,_,v,_,h,_⟩=>by cases h) ?_ n a w ⟨β,I,v0,hr,h,hl0,hx0⟩;rintro n a w ⟨β,I,v,hr,hi,hlv,hxv⟩;simp only[iter]at hi;rw[ax]at hi;obtain⟨r,h1,hi⟩:=hi;refine wp_mono (hstep v r hlv h1 w0 O0 β I a w hr hlv.old) ?_;rintro e a' w' ⟨β',I',σ',g1,_,s',g2,g3,rfl,g4⟩;have hxs:=hxv.trans g3;by_cases he:e= .normal
 ·subst he;rw[hkn]at g4;obtain⟨v',i1,i2,i3,i4⟩:=mG hl g2 hxs g4;injection i1 with i1;subst i1;obtain⟨β2,i5⟩:=i4 P w0 O0 N β' I' a' w' g1;exact⟨β2,I',v',i5,hi,i2,i3⟩
 ·cases r with
  |inl v'=>exact (hno e s' v' he g4).elim
  |inr o'=>
   injection hi with hi;subst hi;obtain⟨β2,σ2,i1,i2,i3⟩:=hQ e s' he g2 hxs g4 w0 O0 β' I' a' w' g1;cases e with
   |normal=>exact (he rfl).elim
   |_=>exact⟨β2,I',σ2,i1,i2,i3⟩
theorem Uh {A:Type} {sh:Sh X.ι} {ds:List Nat} {s0 s':DSt X} {k:VT (X:=X) sh.vars->Option A} {r:A} (h:uW sh ds s0 s' k=some r):∃ v,k v=some r:=by
 unfold uW at h;obtain⟨_,h⟩:=fH h;unfold Zh at h;rw[ax]at h;obtain⟨m1,h1,h⟩:=h;rw[ax]at h;obtain⟨m,h2,h⟩:=h;obtain⟨h3,h⟩:=fH h;rw[ax]at h;obtain⟨v,h4,h⟩:=h;exact⟨v,(rO h).2⟩
theorem abP {α β γ:Type} {o:Option γ} {r:α ⊕ (β ⊕ γ)} (h:o.map (fun a=>Sum.inr (Sum.inr a))=some r):∃ b,o=some b∧r= .inr (.inr b):=by
 cases o with
 |none=>cases h
 |some b=>injection h with h;exact⟨b,rfl,h.symm⟩
theorem nC (hT:gm P T) (hm:P.follows .mixedOrders=true) (hΓ:GOk P Γ):∀ (c:Code) (A:Type) (h:Hn X.ι) (s:DSt X) (k:Exit->DSt X->Option A) (r:A),Low s->run Γ T code N n c A h s k=some r->Ev P N c (QF (iD c) s k r) s.st
 | .skip,A,h,s,k,r,hl,hr=>LB ⟨s,hl,Ext.refl _ s,rfl,hr⟩
 | .exit id,A,h,s,k,r,hl,hr=>af6 ⟨s,hl,Ext.refl _ s,rfl,hr⟩
 | .ret,A,h,s,k,r,hl,hr=>ad1 ⟨s,hl,Ext.refl _ s,rfl,hr⟩
 | .label l,A,h,s,k,r,hl,hr=>ahS ⟨s,hl,Ext.refl _ s,rfl,hr⟩
 | .region id ops d,A,h,s,k,r,hl,hr=>by
  refine ED hl (fun B h k r hb=>?_) hr;obtain⟨s',g1,g2,g3,g4⟩:=Zg (id:=id) hT hm hΓ hl hb;exact g4.mono fun e σ ⟨he,hσ⟩=>⟨s',g2,g3.wide fun t ht=>ag1 ht,hσ,by rw[he];exact g1⟩
 | .seq x y,A,h,s,k,r,hl,hr=>by
  refine ED hl (fun B h k r hb=>?_) hr;refine jq ((nC hT hm hΓ x B _ s _ r hl hb).mono ?_);rintro e σ ⟨s',g1,g2,rfl,g4⟩;have wide:Ext (· ∈iD (.seq x y)) s s':=g2.wide fun t ht=>by simp[iD,ht]
  cases e with
  |normal=>
   exact (nC hT hm hΓ y B _ s' k r g1 g4).mono fun e σ ⟨s2,i1,i2,i3,i4⟩=>⟨s2,i1,wide.trans (i2.wide fun t ht=>by simp[iD,ht]),i3,i4⟩
  |_=>exact⟨s',g1,wide,rfl,g4⟩
 | .cond c x y,A,h,s,k,r,hl,hr=>by
  refine ED hl (fun B h k r hb=>?_) hr;split at hb
  ·rename_i v hv;refine Es v (fun _ _=>rfl) ?_ ?_
   ·have:=Tx (lke s.env) c;rw[hv]at this;exact this.symm
   ·cases v with
    |true=>exact (nC hT hm hΓ x B _ s k r hl hb).mono fun e σ ⟨s2,i1,i2,i3,i4⟩=>⟨s2,i1,i2.wide fun t ht=>by simp[iD,ht],i3,i4⟩
    |false=>exact (nC hT hm hΓ y B _ s k r hl hb).mono fun e σ ⟨s2,i1,i2,i3,i4⟩=>⟨s2,i1,i2.wide fun t ht=>by simp[iD,ht],i3,i4⟩
  ·rename_i hv;obtain⟨hb1,hb2⟩:=agZ hb;refine ad2 (fun _ _=>rfl) ?_ ?_ ?_
   ·have:=Tx (lke s.env) c;rw[hv]at this;exact this.symm
   ·exact (nC hT hm hΓ x B _ s k r hl hb1).mono fun e σ ⟨s2,i1,i2,i3,i4⟩=>⟨s2,i1,i2.wide fun t ht=>by simp[iD,ht],i3,i4⟩
   ·exact (nC hT hm hΓ y B _ s k r hl hb2).mono fun e σ ⟨s2,i1,i2,i3,i4⟩=>⟨s2,i1,i2.wide fun t ht=>by simp[iD,ht],i3,i4⟩
  ·cases hb
 | .block id b,A,h,s,k,r,hl,hr=>by
  refine ED hl (fun B h k r hb=>?_) hr;refine LC ((nC hT hm hΓ b B _ s _ r hl hb).mono ?_);rintro e σ ⟨s',g1,g2,rfl,g4⟩;cases e with
  |exit j=>
   simp only[adZ];simp only at g4;split
   ·rw[aJ ‹_›]at g4;exact⟨s',g1,g2,rfl,g4⟩
   ·rw[aD ‹_›]at g4;exact⟨s',g1,g2,rfl,g4⟩
  |_=>exact⟨s',g1,g2,rfl,g4⟩
 | .loop b,A,h,s,k,r,hl,hr=>by
  simp only[run]at hr;split at hr
  ·rename_i hd id out h';obtain⟨v0,h1,h2,h3,h4⟩:=mG hl hl (Ext.refl _ s) hr;rw[ax]at h1;obtain⟨w,h5,h6⟩:=h1;intro w0 O0 β I a ww hrel ho;obtain⟨β',hrel'⟩:=h4 P w0 O0 N β I a ww hrel;refine Ug (Q:=QF (iD (.loop b)) s k r) hl (fun s'=>rfl) (fun v r hlv hs=>nC hT hm hΓ b _ h' (encS hd s v) _ r hlv hs) (fun e s' he hls hxs hk=>?_) (fun e s' v he hk=>?_) n v0 h5 h2 h3 w0 O0 β' I a ww hrel' h2.old
   ·cases e with
    |exit j=>
     simp only at hk;split at hk
     ·rename_i hj;subst hj;obtain⟨w',i1,i2,i3,i4⟩:=mG hl hls hxs hk;injection i1 with i1;injection i1 with i1;subst i1;intro w0 O0 β I a ww hrel;obtain⟨β',hrel'⟩:=i4 P w0 O0 N β I a ww hrel;exact⟨β',_,hrel',i2.old,_,i2,i3,rfl,h6⟩
     ·cases hk
    |normal=>exact (he rfl).elim
    |_=>cases hk
   ·cases e with
    |exit j=>
     simp only at hk;split at hk
     ·obtain⟨w',i1⟩:=Uh hk;injection i1 with i1;cases i1
     ·cases hk
    |normal=>exact he rfl
    |_=>cases hk
  ·rename_i hd id out h';obtain⟨v0,h1,h2,h3,h4⟩:=mG hl hl (Ext.refl _ s) hr;unfold dX at h1;rw[ax]at h1;obtain⟨w,h5,h6⟩:=h1;intro w0 O0 β I a ww hrel ho;obtain⟨β',hrel'⟩:=h4 P w0 O0 N β I a ww hrel;refine Ug (Q:=QF (iD (.loop b)) s k r) hl (fun s'=>rfl) (fun v r hlv hs=>nC hT hm hΓ b _ h' (encS hd s v) _ r hlv hs) (fun e s' he hls hxs hk=>?_) (fun e s' v he hk=>?_) n v0 h5 h2 h3 w0 O0 β' I a ww hrel' h2.old
   ·intro w0 O0 β I a ww hrel;have other:(k e s').map (fun a=>Sum.inr (Sum.inr a))=some (Sum.inr w:VT (X:=X) hd.vars ⊕ (VT (X:=X) out.vars ⊕ A))->∃ β' σ',Rel P w0 O0 N β' I σ' a ww∧Old σ'∧QF (iD (.loop b)) s k r e σ':=by
     intro hm;obtain⟨q,hq,hr⟩:=abP hm;injection hr with hr;subst hr;injection h6 with h6;subst h6;exact⟨β,_,hrel,hls.old,s',hls,hxs,rfl,hq⟩
    cases e with
    |exit j=>
     simp only at hk;split at hk
     ·rename_i hj;subst hj;obtain⟨w',i1,i2,i3,i4⟩:=mG hl hls hxs hk;injection i1 with i1;injection i1 with i1;subst i1;obtain⟨β',hrel'⟩:=i4 P w0 O0 N β I a ww hrel;exact⟨β',_,hrel',i2.old,_,i2,i3,rfl,h6⟩
     ·exact other hk
    |normal=>exact (he rfl).elim
    |_=>exact other hk
   ·have other:(k e s').map (fun a=>Sum.inr (Sum.inr a))=some (Sum.inl v:VT (X:=X) hd.vars ⊕ (VT (X:=X) out.vars ⊕ A))->False:=by
     intro hm;obtain⟨q,hq,hr⟩:=abP hm;cases hr
    cases e with
    |exit j=>
     simp only at hk;split at hk
     ·obtain⟨w',i1⟩:=Uh hk;injection i1 with i1;cases i1
     ·exact other hk
    |normal=>exact he rfl
    |_=>exact other hk
  ·cases hr
 | .rangeFunc ..,_,_,_,_,_,_,hr=>by cases hr
 | .scope _,_,_,_,_,_,_,hr=>by cases hr
 | .goto _,_,_,_,_,_,_,hr=>by cases hr
 | .refuse _,_,_,_,_,_,_,hr=>by cases hr
end
end
section
variable {X:SX}
def jv:Nat->(l:List (AT X.ι))->iW X l->List (DV X)
 |_,[],_=>[]
 |n,.d c::l,a=> .c c a.1::jv n l a.2
 |n,.ref c::l,a=> .rp c a.1 0::jv n l a.2
 |n,.clo as r::l,a=> .clo as r a.1::jv n l a.2
 |n,.mut _::l,a=> .own n 0 (List.length a.1)::jv (n+1) l a.2
 |n,.mref _::l,a=> .ptr n 0 0::jv (n+1) l a.2
 |n,.nil::l,a=> .nil::jv n l a.2
def Cb:(l:List (AT X.ι))->iW X l->List (DObj X)
 |[],_=>[]
 | .mut c::l,a=> .lst c a.1::Cb l a.2
 | .mref c::l,a=> .cells (CT.sz X c) [zx c a.1]::Cb l a.2
 | .d _::l,a=>Cb l a.2
 | .ref _::l,a=>Cb l a.2
 | .clo _ _::l,a=>Cb l a.2
 | .nil::l,a=>Cb l a.2
theorem rQ:∀ (n:Nat) (l:List (AT X.ι)) (a:iW X l),cK (jv n l a)=dU n l a
 |_,[],_=>rfl
 |n,.d c::l,a=>by simp only[jv,cK,den,dU,rQ n l a.2]
 |n,.ref c::l,a=>by simp only[jv,cK,den,dU,rQ n l a.2]
 |n,.clo as r::l,a=>by simp only[jv,cK,dU,rQ n l a.2]
 |n,.mut c::l,a=>by simp only[jv,cK,den,dU,rQ (n+1) l a.2]
 |n,.mref c::l,a=>by simp only[jv,cK,den,dU,rQ (n+1) l a.2]
 |n,.nil::l,a=>by simp only[jv,cK,den,dU,rQ n l a.2]
theorem wI:∀ (l:List (AT X.ι)) (a:iW X l),(Cb l a).map dM=(qd l a).map aob
 |[],_=>rfl
 | .d _::l,a=>wI l a.2
 | .ref _::l,a=>wI l a.2
 | .clo _ _::l,a=>wI l a.2
 | .nil::l,a=>wI l a.2
 | .mut c::l,a=>by simp only[Cb,qd,bf,wI l a.2];rfl
 | .mref c::l,a=>by simp only[Cb,qd,bf,wI l a.2,dM,aob,rz,aW,map_nil,ru]
theorem oF:∀ (n:Nat) (l:List (AT X.ι)) (a:iW X l),∀ k∈bn (jv n l a),k < n+qg l
 |_,[],_,k,hk=>by simp[jv,bn]at hk
 |n,.d c::l,a,k,hk=>by
  have:=oF n l a.2 k (by simpa[jv,bn,drefs]using hk);simpa[qg,AT.im]using this
 |n,.ref c::l,a,k,hk=>by
  have:=oF n l a.2 k (by simpa[jv,bn,drefs]using hk);simpa[qg,AT.im]using this
 |n,.clo as r::l,a,k,hk=>by
  have:=oF n l a.2 k (by simpa[jv,bn,drefs]using hk);simpa[qg,AT.im]using this
 |n,.nil::l,a,k,hk=>by
  have:=oF n l a.2 k (by simpa[jv,bn,drefs]using hk);simpa[qg,AT.im]using this
 |n,.mut c::l,a,k,hk=>by
  simp only[jv,bn,drefs,List.singleton_append,aI]at hk;simp only[qg,AT.im,if_true];rcases hk with rfl |hk
  ·omega
  ·have:=oF (n+1) l a.2 k hk;omega
 |n,.mref c::l,a,k,hk=>by
  simp only[jv,bn,drefs,List.singleton_append,aI]at hk;simp only[qg,AT.im,if_true];rcases hk with rfl |hk
  ·omega
  ·have:=oF (n+1) l a.2 k hk;omega
theorem j3:∀ (n:Nat) (l:List (AT X.ι)) (a:iW X l),(dU n l a).length=l.length
 |_,[],_=>rfl
 |n,.d c::l,a=>by simp only[dU,bH,j3 n l a.2]
 |n,.ref c::l,a=>by simp only[dU,bH,j3 n l a.2]
 |n,.clo as r::l,a=>by simp only[dU,bH,j3 n l a.2]
 |n,.mut c::l,a=>by simp only[dU,bH,j3 (n+1) l a.2]
 |n,.mref c::l,a=>by simp only[dU,bH,j3 (n+1) l a.2]
 |n,.nil::l,a=>by simp only[dU,bH,j3 n l a.2]
theorem j4:∀ (l:List (AT X.ι)) (a:iW X l),(qd l a).length=qg l
 |[],_=>rfl
 | .d _::l,a=>by simpa[qg,AT.im,qd]using j4 l a.2
 | .ref _::l,a=>by simpa[qg,AT.im,qd]using j4 l a.2
 | .clo _ _::l,a=>by simpa[qg,AT.im,qd]using j4 l a.2
 | .nil::l,a=>by simpa[qg,AT.im,qd]using j4 l a.2
 | .mut _::l,a=>by simp only[qd,bH,j4 l a.2,qg,AT.im,if_true];omega
 | .mref _::l,a=>by simp only[qd,bH,j4 l a.2,qg,AT.im,if_true];omega
def ini (l:List (AT X.ι)) (a:iW X l):DSt X:=⟨(List.range l.length).zip (jv 0 l a),(List.range (Cb l a).length).zip ((Cb l a).map some),1000,[]⟩
theorem agm (l:List (AT X.ι)) (a:iW X l) (k:Nat):lko (ini l a).obj k=(Cb l a)[k]? :=by
 have h:(List.range (Cb l a).length).zip ((Cb l a).map some)=(List.range ((Cb l a).map some).length).zip ((Cb l a).map some):=by rw[length_map]
 simp only[ini,lko];rw[h,Tt,List.getElem?_map];cases (Cb l a)[k]?<;>rfl
theorem akt (l:List (AT X.ι)) (a:iW X l):(ini l a).st=LSt.st ⟨(List.range (zA l a).length).zip (zA l a),(List.range ((qd l a).map aob).length).zip ((qd l a).map aob)⟩:=by
 have ho:∀ k,((lko (ini l a).obj k).map dM)=lk ((List.range ((qd l a).map aob).length).zip ((qd l a).map aob)) k:=by
  intro k;rw[Tt,agm,<- wI,List.getElem?_map]
 simp only[DSt.st,LSt.st,St.mk.injEq,and_true];refine⟨?_,funext ho⟩;funext t;simp only[ini];rw[j3,zA,<- rQ];generalize jv 0 l a=ds;have:∀ (ks:List Nat) (ds:List (DV X)),den (lke (ks.zip ds) t)=(lk (ks.zip (cK ds)) t).getD .undef:=by
  intro ks
  induction ks with
  |nil=>intro ds;rfl
  |cons k ks ih=>
   intro ds;cases ds with
   |nil=>rfl
   |cons d ds=>
    simp only[List.zip_cons_cons,lke,lk,cK];by_cases h:k=t
    ·simp[h]
    ·simp only[aD h];exact ih ds
 exact this _ _
theorem ajw (l:List (AT X.ι)) (a:iW X l) (hm:qg l<=1000):Low (ini l a):=by
 refine⟨by show 1000<=1000000;decide,aU _,fun t k hk=>?_,fun k o ho=>?_⟩
 ·have h0:=oF 0 l a;simp only[ini]at hk;generalize jv 0 l a=ds at hk h0;have:∀ (ks:List Nat) (ds:List (DV X)),(∀ k∈bn ds,k < 0+qg l)->∀ k∈drefs (lke (ks.zip ds) t),k < 1000:=by
   intro ks
   induction ks with
   |nil=>intro ds _ k hk;simp[lke,lk,drefs]at hk
   |cons k ks ih=>
    intro ds h j hj;cases ds with
    |nil=>simp[lke,lk,drefs]at hj
    |cons d ds=>
     simp only[List.zip_cons_cons,lke,lk]at hj;by_cases e:k=t
     ·simp only[aJ e,Option.getD_some]at hj;have:=h j (by simp[bn,hj]);omega
     ·simp only[aD e]at hj;exact ih ds (fun k hk=>h k (by simp[bn,hk])) j hj
  exact this _ _ h0 k hk
 ·rw[agm]at ho;have hl:(Cb l a).length=qg l:=by rw[<- j4 l a];simpa using congrArg List.length (wI l a)
  refine⟨by have:=(gH.1 ho).1;show k < 1000;omega,fun j hj=>?_⟩;have hz:∀ (l:List (AT X.ι)) (a:iW X l),∀ o∈Cb l a,orefs o=[]:=by
   intro l
   induction l with
   |nil=>intro a o ho;simp[Cb]at ho
   |cons q l ih=>
    intro a o ho;cases q<;>simp only[Cb,aI]at ho
    case «mut» c=>rcases ho with rfl |ho;rfl;exact ih _ o ho
    case mref c=>
     rcases ho with rfl |ho
     ·have h1:bn (zx c a.1)=[]:=by
       rw[<- kK,ru];generalize CT.row X.toSE c a.1=r
       induction r with
       |nil=>rfl
       |cons y ys ih=>simp only[bf,dG,refs,ih,cu]
      simp[orefs,h1]
     ·exact ih _ o ho
    all_goals exact ih _ o ho
  rw[hz l a o (iI ho)]at hj;cases hj
variable (T:Tab)
def ajx (s:DSt X):ResultVar->Option (DV X)
 | .tmp t=>some (lke s.env t)
 | .cell a t=>(T t).bind fun ti=>match lke s.env a with
  | .ptr kk row off=>(lko s.obj kk).bind fun o=>match o with
   | .cells _ rows=>(rows[row]?).bind fun r=>LJ ti.agg ti.size ((r.drop off).take ti.size)
   |_=>none
  |_=>none
def Ui (s:DSt X):List ResultVar->Option (List (DV X))
 |[]=>some []
 |r::rs=>(ajx T s r).bind fun v=>(Ui s rs).bind fun vs=>some (v::vs)
theorem ail {s:DSt X} {r:ResultVar} {d:DV X} (h:ajx T s r=some d):Oh T s.st r=some (den d):=by
 cases r with
 |tmp t=>simp only[ajx,aG]at h;subst h;rfl
 |cell a t=>
  simp only[ajx]at h;rw[ax]at h;obtain⟨ti,h1,h⟩:=h;split at h
  ·rename_i kk row off hp;rw[ax]at h;obtain⟨o,h2,h⟩:=h;split at h
   ·rename_i sz rows;rw[ax]at h;obtain⟨q,h3,h⟩:=h;have h4:=I4 h;rw[oC]at h4
    show (match JV T t (den (lke s.env a)) .none (fun k=>(lko s.obj k).map dM)with
     |some ⟨v,[],[]⟩=>some v
     |_=>none)=some (den d)
    simp only[JV,h1,ah,hp,den,h2,Option.map_some,dM,List.getElem?_map,h3,h4,pv]
   ·cases h
  ·cases h
theorem XZ {s:DSt X}:∀ {rs:List ResultVar} {ds:List (DV X)},Ui T s rs=some ds->sH T s.st rs=some (cK ds)
 |[],ds,h=>by simp only[Ui,aG]at h;subst h;rfl
 |r::rs,ds,h=>by
  simp only[Ui]at h;rw[ax]at h;obtain⟨d,h1,h⟩:=h;rw[ax]at h;obtain⟨ds',h2,h⟩:=h;injection h with h;subst h;simp only[sH,ail T h1,XZ h2,ah,cK]
def OE:List (RT X.ι)->List (DV X)->Option Nat
 | .mu _::l,ds=>OE l ds
 | .mr _::l,ds=>OE l ds
 | .mv::l,ds=>OE l ds
 | .fresh _::l,d::ds=>match d with
  | .own k _ _=>some k
  |_=>OE l ds
 | .d _::l,_::ds=>OE l ds
 | .whole _::l,_::ds=>OE l ds
 |_,_=>none
def whl:List (RT X.ι)->List (DV X)->List (Nat×Nat)
 | .mu _::l,ds=>whl l ds
 | .mr _::l,ds=>whl l ds
 | .mv::l,ds=>whl l ds
 | .whole j::l,d::ds=>match d with
  | .own _ _ len=>(j,len)::whl l ds
  |_=>whl l ds
 | .d _::l,_::ds=>whl l ds
 | .fresh _::l,_::ds=>whl l ds
 |_,_=>[]
def wJ:Nat->List (RT X.ι)->List Nat
 |_,[]=>[]
 |n,.mu _::l=>n::wJ (n+1) l
 |n,.mr _::l=>n::wJ (n+1) l
 |n,.mv::l=>wJ (n+1) l
 |n,_::l=>wJ n l
def muN:Nat->List (RT X.ι)->List Nat
 |_,[]=>[]
 |n,.mu _::l=>n::muN (n+1) l
 |n,.mr _::l=>muN (n+1) l
 |n,.mv::l=>muN (n+1) l
 |n,_::l=>muN n l
def abQ (bad:List Nat) (ks:List Nat):Bool:=ks.all fun k=>!bad.contains k
def Zj (get:Nat->Option (DObj X)) (row:List (DV X)) (c:CT X.ι):Option (CT.T X.toSE c×List Bool):=
 match c with
 | .st i=>(xE get row (X.tys i)).bind fun h=>some (X.make i h.1,h.2)
 |c=>match row with
  |[d]=>Qy get d c
  |_=>none
def GK (get:Nat->Option (DObj X)) (c:CT X.ι):List (List (DV X))->Option (List (CT.T X.toSE c)×List Bool)
 |[]=>some ([],[])
 |r::rs=>(Zj get r c).bind fun x=>(GK get c rs).bind fun y=>some (x.1::y.1,x.2++y.2)
def L9 (get:Nat->Option (DObj X)) (bad mus:List Nat) (fk:Option Nat) (wl:List (Nat×Nat)) (n:Nat):(q:RT X.ι)->List (DV X)->Option ((RT.T X q×List Bool)×List (DV X))
 | .d c,d::ds=>if abQ bad (drefs d)then (FL get d c).bind fun x=>some (x,ds)else none
 | .fresh e,d::ds=>match d with
  | .nil=>some (([],[]),ds)
  | .own k 0 len=>if fk=some k then (get k).bind fun o=>match o with
   | .lst b l=>(kV (.sl b) (.sl e) l).bind fun (l:List (CT.T X.toSE e))=>some ((sub l 0 len,[eqL (sub l 0 len).length len]),ds)
   | .cells sz rows=>if sz=CT.sz X e∧abQ bad (rows.map bn).flatten=true then (GK get e rows).bind fun x=>some ((x.1,eqL len (List.length x.1)::x.2),ds)else none
   | .map _ _ _=>none
   else none
  |_=>none
 | .whole j,d::ds=>match d with
  | .own k 0 len=>if k=j∧mus.contains j=true then (lk wl j).bind fun len0=>some (((),[eqL len len0]),ds)else none
  |_=>none
 | .mu c,ds=>(get n).bind fun o=>match o with
  | .lst b l=>(kV (.sl b) (.sl c) l).bind fun (l:List (CT.T X.toSE c))=>match lk wl n with
   |some len=>some ((sub l 0 len,[eqL (sub l 0 len).length len]),ds)
   |none=>some ((l,[]),ds)
  |_=>none
 | .mr c,ds=>(get n).bind fun o=>match o with
  | .cells sz [row]=>if sz=CT.sz X c∧abQ bad (bn row)=true then (Zj get row c).bind fun x=>some (x,ds)else none
  |_=>none
 | .mv,ds=>some (((),[]),ds)
 |_,[]=>none
def Ma (get:Nat->Option (DObj X)) (bad mus:List Nat) (fk:Option Nat) (wl:List (Nat×Nat)):Nat->(l:List (RT X.ι))->(ds:List (DV X))->Option (su X l×List Bool)
 |_,[],ds=>match ds with
  |[]=>some ((),[])
  |_=>none
 |n,[q],ds=>(L9 get bad mus fk wl n q ds).bind fun p=>match p.2 with
  |[]=>some p.1
  |_=>none
 |n,q::q'::l,ds=>(L9 get bad mus fk wl n q ds).bind fun p=>(Ma get bad mus fk wl (if q.out then n+1 else n) (q'::l) p.2).bind fun y=>some ((p.1.1,y.1),p.1.2++y.2)
def Zk (s:DSt X) (l:List (RT X.ι)) (ds:List (DV X)):Option (su X l×List Bool):=
 if abQ (wJ 0 l) (OE l ds).toList then Ma (lko s.obj) (wJ 0 l++(OE l ds).toList) (muN 0 l) (OE l ds) (whl l ds) 0 l ds else none
def akY (rs:List ResultVar) (l:List (RT X.ι)):Exit->DSt X->Option (su X l)
 | .normal,s=>(Ui T s rs).bind fun ds=>(Zk s l ds).bind fun x=>Wj x.2 (some x.1)
 | .ret,s=>(Ui T s rs).bind fun ds=>(Zk s l ds).bind fun x=>Wj x.2 (some x.1)
 |_,_=>none
def exit (A:Type) (k:DSt X->Option A):Exit->DSt X->Option A
 | .normal,s=>k s
 | .ret,s=>k s
 |_,_=>none
variable {T}
section
variable {get:Nat->Option (DObj X)} {fk:Option Nat} {os':List (Option fE)} {bad:List Nat}
theorem EF {ks:List Nat} (h:abQ bad ks=true):∀ j∈ks,j∉bad:=fun j hj=>by simpa using all_eq_true.1 h j hj
theorem OG (hbad:∀ j,j∉bad->fk≠some j∧¬ kept os' j) {d:DV X} {c:CT X.ι} {x:CT.T X.toSE c×List Bool} (hc:c.one=true) (h:Qy get d c=some x) (hb:∀ b∈x.2,b=true) (hfk:∀ j∈drefs d,j∉bad):∃ t,CT.tv X.toSE c x.1= .s t∧Rh (gP get) fk os' (den d) t:=by
 obtain⟨t,h1,h2⟩:=row_one hc x.1;refine⟨t,h2,?_⟩;have hbase:∀ y,Oo d c=some y->y=x.1->Rh (gP get) fk os' (den d) t:=by
  intro y hy he;subst he;have h3:=Gv hy;rw[h2]at h3;have h4:=Y2 hc hy;unfold Oo at hy;split at hy
  ·rw[(oQ hy).1];simp only[den,h2,TV.av,Rh]
  ·simp only[den,Gb.wk,TV.av,AV.t.injEq]at h3;simp only[den,Rh];exact h3.symm
  ·simp only[den,Gb.wk,TV.av,AV.t.injEq]at h3;simp only[den,Rh];exact h3.symm
  ·cases hy
 unfold Qy at h;split at h
 ·rename_i kk off len e;rw[ax]at h;obtain⟨o,h3,h⟩:=h;split at h
  ·rename_i b l0;rw[ax]at h;obtain⟨l,h4,h⟩:=h;injection h with h;subst h;have h5:(sub l off len).length=len:=(by simpa[eqL]using hb (eqL (sub l off len).length len) (by simp));obtain⟨h6,h7⟩:=ny h4;obtain⟨hf1,hf2⟩:=hbad kk (hfk kk (by simp[drefs]));simp only[den,Rh];refine⟨hf1,hf2,dM (.lst b l0),(sub l off len).map (CT.row X.toSE e),by simp[gP,h3],?_,by simpa using h5,?_⟩
   ·simp only[dM,h7];simp[aW,sub,map_take,map_drop]
   ·simpa[CT.row]using h1.symm
  ·cases h
 ·rename_i kk off len;rw[ax]at h;obtain⟨o,h3,h⟩:=h;split at h
  ·rename_i b l0;injection h with h;subst h;have h5:(sub l0 off len).length=len:=(by simpa[eqL]using hb (eqL (sub l0 off len).length len) (by simp));obtain⟨hf1,hf2⟩:=hbad kk (hfk kk (by simp[drefs]));simp only[den,Rh];refine⟨hf1,hf2,dM (.lst b l0),(sub l0 off len).map (CT.row X.toSE b),by simp[gP,h3],?_,by simpa using h5,?_⟩
   ·simp only[dM];simp[aW,sub,map_take,map_drop]
   ·simpa[CT.row]using h1.symm
  ·cases h
 ·rw[ax]at h;obtain⟨y,h3,h⟩:=h;injection h with h;exact hbase y h3 (by rw[<- h])
theorem Kr (hbad:∀ j,j∉bad->fk≠some j∧¬ kept os' j):∀ {ds:List (DV X)} {l:List (CT X.ι)} {h:HL X.toSE l×List Bool},xE get ds l=some h->(∀ b∈h.2,b=true)->l.all CT.one=true->(∀ j∈bn ds,j∉bad)->ExpL (gP get) fk os' (cK ds) (HL.row X.toSE l h.1)
 |[],[],h,_,_,_,_=>trivial
 |d::ds,c::l,h,hr,hb,ha,hfk=>by
  simp only[xE]at hr;rw[ax]at hr;obtain⟨x,h1,hr⟩:=hr;rw[ax]at hr;obtain⟨g,h2,hr⟩:=hr;injection hr with hr;subst hr;simp only[List.all_cons,aK]at ha;obtain⟨t,i1,i2⟩:=OG hbad ha.1 h1 (fun b hb'=>hb b (by simp[hb'])) (fun j hj=>hfk j (by simp[bn,hj]));have i3:=Kr hbad h2 (fun b hb'=>hb b (by simp[hb'])) ha.2 (fun j hj=>hfk j (by simp[bn,hj]));obtain⟨t',j1,j2⟩:=row_one ha.1 x.1;rw[i1]at j2;injection j2 with j2;subst j2;show ExpL (gP get) fk os' (den d::cK ds) (CT.row X.toSE c x.1++HL.row X.toSE l g.1);rw[j1];exact⟨i2,i3⟩
 |[],_::_,_,hr,_,_,_=>by simp[xE]at hr
 |_::_,[],_,hr,_,_,_=>by simp[xE]at hr
theorem QG (hbad:∀ j,j∉bad->fk≠some j∧¬ kept os' j) {row:List (DV X)} {c:CT X.ι} {x:CT.T X.toSE c×List Bool} (h:Zj get row c=some x) (hb:∀ b∈x.2,b=true) (hfk:∀ j∈bn row,j∉bad):ExpL (gP get) fk os' (cK row) (CT.row X.toSE c x.1):=by
 cases c
 case st i=>
  replace h:(xE get row (X.tys i)).bind (fun h=>some (X.make i h.1,h.2))=some x:=h
  rw[ax]at h;obtain⟨g,h1,h⟩:=h;injection h with h;subst h;have:=Kr hbad h1 hb (X.flat i) hfk;show ExpL (gP get) fk os' (cK row) (X.row i (X.make i g.1));rw[X.row_make];exact this
 all_goals
  match row,h,hfk with
  |[d],h,hfk=>
   obtain⟨t,i1,i2⟩:=OG (fk:=fk) hbad rfl h hb (fun j hj=>hfk j (by simp[bn,hj]));obtain⟨t',j1,j2⟩:=row_one rfl x.1;rw[i1]at j2;injection j2 with j2;subst j2;rw[j1];exact⟨i2,trivial⟩
  |[],h,_=>cases h
  |_::_::_,h,_=>cases h
theorem Mc (hbad:∀ j,j∉bad->fk≠some j∧¬ kept os' j) {c:CT X.ι}:∀ {rows:List (List (DV X))} {x:List (CT.T X.toSE c)×List Bool},GK get c rows=some x->(∀ b∈x.2,b=true)->(∀ j∈(rows.map bn).flatten,j∉bad)->ExpRows (gP get) fk os' (rows.map cK) (x.1.map (CT.row X.toSE c))∧rows.length=List.length x.1
 |[],x,h,_,_=>by simp only[GK,aG]at h;subst h;exact⟨trivial,rfl⟩
 |r::rs,x,h,hb,hfk=>by
  simp only[GK]at h;rw[ax]at h;obtain⟨y,h1,h⟩:=h;rw[ax]at h;obtain⟨z,h2,h⟩:=h;injection h with h;subst h;have i1:=QG hbad h1 (fun b hb'=>hb b (by simp[hb'])) (fun j hj=>hfk j (by simp[hj]));obtain⟨i2,i3⟩:=Mc hbad h2 (fun b hb'=>hb b (by simp[hb'])) (fun j hj=>hfk j (by simp only[bf,flatten_cons,aX];exact .inr hj));exact⟨⟨i1,i2⟩,by simp[i3]⟩
theorem aim {x:AV} {t:Tree} (h:Rh (gP get) fk os' x t):agJ (gP get) fk os' x (.d (.s t)):=by cases x<;>first |exact h |exact h.elim
theorem EG (sz:CT X.ι) (l:List (CT.T X.toSE sz)):ExpRows (gP get) fk os' (aW (l.map (CT.row X.toSE sz))) (l.map (CT.row X.toSE sz)):=by
 generalize l.map (CT.row X.toSE sz)=rows
 induction rows with
 |nil=>trivial
 |cons r rs ih=>
  refine⟨?_,ih⟩;show ExpL (gP get) fk os' (r.map AV.t) r
  induction r with
  |nil=>trivial
  |cons y ys ih2=>exact⟨rfl,ih2⟩
theorem ain (hbad:∀ j,j∉bad->fk≠some j∧¬ kept os' j) {c:CT X.ι} {d:DV X} {x:CT.T X.toSE c×List Bool} (h:FL get d c=some x) (hfk:∀ j∈drefs d,j∉bad) (hb:∀ b∈x.2,b=true):agJ (gP get) fk os' (den d) (.d (CT.tv X.toSE c x.1)):=by
 cases c
 case st i=>
  replace h:XD get d i=some x:=h
  cases d
  case agg cs=>
   simp only[XD]at h;rw[ax]at h;obtain⟨g,h1,h⟩:=h;injection h with h;subst h;have:=Kr (fk:=fk) hbad h1 hb (X.flat i) (by simpa[drefs]using hfk);show ExpL (gP get) fk os' (cK cs) (X.row i (X.make i g.1));rw[X.row_make];exact this
  case c a y=>
   simp only[XD]at h;rw[ax]at h;obtain⟨z,h1,h⟩:=h;injection h with h;subst h;rw[(oQ h1).1];show ExpL (gP get) fk os' ((X.row i z).map AV.t) (X.row i z);generalize X.row i z=l
   induction l with
   |nil=>trivial
   |cons y ys ih=>exact⟨rfl,ih⟩
  all_goals cases h
 all_goals
  obtain⟨t,i1,i2⟩:=OG (fk:=fk) hbad rfl h hb hfk;rw[i1];exact aim i2
theorem Uj {mus:List Nat} {wl:List (Nat×Nat)} {ns:List Nat} {n:Nat} (hbad:∀ j,j∉bad->fk≠some j∧¬ kept os' j) (hfkk:∀ k,fk=some k->¬ kept os' k) (hns:∀ j len0,j∈mus->lk wl j=some len0->ns.getD j 0=len0) (hmu:∀ j∈mus,kept os' j) {q:RT X.ι} {ds:List (DV X)} {p:(RT.T X q×List Bool)×List (DV X)} (h:L9 get bad mus fk wl n q ds=some p) (hb:∀ b∈p.1.2,b=true):
 (∀ cs,ExpCs (gP get) fk os' (cK p.2) cs->ExpCs (gP get) fk os' (cK ds) (TL ns q p.1.1++cs))∧
 (∀ t,qf q p.1.1=[some t]->∃ o,get n=some o∧(dM o).sz=t.1∧ExpRows (gP get) fk os' ((dM o).rows.take t.2.length) t.2)∧
 (∀ len0 c,q= .mu c->lk wl n=some len0->Wm q p.1.1=[len0]):=by
 cases q
 case d c=>
  cases ds with
  |nil=>simp[L9]at h
  |cons d ds=>
   simp only[L9]at h;split at h
   ·rename_i hnb;rw[ax]at h;obtain⟨x,h1,h⟩:=h;injection h with h;subst h;exact⟨fun cs hcs=>⟨ain hbad h1 (EF hnb) hb,hcs⟩,fun t ht=>by simp[qf]at ht,fun _ _ h=>by cases h⟩
   ·cases h
 case fresh e=>
  cases ds with
  |nil=>simp[L9]at h
  |cons d ds=>
   refine⟨fun cs hcs=>?_,fun t ht=>by simp[qf]at ht,fun _ _ h=>by cases h⟩;simp only[L9]at h;split at h
   ·injection h with h;subst h;exact⟨rfl,hcs⟩
   ·rename_i k len;split at h
    ·rename_i hfk;rw[ax]at h;obtain⟨o,h1,h⟩:=h;split at h
     ·rename_i b l0;rw[ax]at h;obtain⟨l,h2,h⟩:=h;injection h with h;subst h;obtain⟨h3,h4⟩:=ny h2;have h5:(sub l 0 len).length=len:=(by simpa[eqL]using hb (eqL (sub l 0 len).length len) (by simp));refine⟨⟨hfk,hfkk k hfk,rfl,dM (.lst b l0),by simp[gP,h1],by simp only[dM];exact h3,?_,by simpa using h5⟩,hcs⟩;have e1:(dM (.lst b l0)).rows.take len=aW ((sub l 0 len).map (CT.row X.toSE e)):=by
       simp only[dM,h4];simp[aW,sub,map_take]
      rw[e1];exact EG e _
     ·rename_i sz rows;split at h
      ·rename_i hc;rw[ax]at h;obtain⟨x,h2,h⟩:=h;injection h with h;subst h;obtain⟨i1,i2⟩:=Mc (fk:=fk) hbad h2 (fun b hb'=>hb b (by simp[hb'])) (EF hc.2);have h5:len=List.length x.1:=(by simpa[eqL]using hb (eqL len (List.length x.1)) (by simp));refine⟨⟨hfk,hfkk k hfk,rfl,dM (.cells sz rows),by simp[gP,h1],hc.1,?_,by simpa using h5.symm⟩,hcs⟩;simp only[dM];rw[List.take_of_length_le (by simp;omega)];exact i1
      ·cases h
     ·cases h
    ·cases h
   ·cases h
 case whole j=>
  cases ds with
  |nil=>simp[L9]at h
  |cons d ds=>
   refine⟨fun cs hcs=>?_,fun t ht=>by simp[qf]at ht,fun _ _ h=>by cases h⟩;simp only[L9]at h;split at h
   ·rename_i k len;split at h
    ·rename_i hc;obtain⟨rfl,hm⟩:=hc;rw[ax]at h;obtain⟨len0,h1,h⟩:=h;injection h with h;subst h;have h5:len=len0:=(by simpa[eqL]using hb (eqL len len0) (by simp));have hm:k∈mus:=(by simpa using hm);refine⟨⟨rfl,rfl,?_,hmu k hm⟩,hcs⟩;rw[h5];exact hns k len0 hm h1
    ·cases h
   ·cases h
 case mu c=>
  simp only[L9]at h;rw[ax]at h;obtain⟨o,h1,h⟩:=h;split at h
  ·rename_i b l0;rw[ax]at h;obtain⟨l,h2,h⟩:=h;obtain⟨h3,h4⟩:=ny h2;split at h
   ·rename_i len hl;injection h with h;subst h;have h5:(sub l 0 len).length=len:=(by simpa[eqL]using hb (eqL (sub l 0 len).length len) (by simp));refine⟨fun cs hcs=>hcs,fun t ht=>?_,fun len0 c' _ hl'=>?_⟩
    ·simp only[qf,List.cons.injEq,aG,and_true]at ht;subst ht;refine⟨_,h1,by simp only[dM,rz];exact h3,?_⟩;have e1:(dM (.lst b l0)).rows.take (rz c (sub l 0 len)).2.length=aW (rz c (sub l 0 len)).2:=by
      simp only[dM,h4,rz,length_map,h5];simp[aW,sub,map_take]
     rw[e1];exact EG c _
    ·rw[hl]at hl';injection hl' with hl';subst hl';simp only[Wm,h5]
   ·rename_i hl;injection h with h;subst h;refine⟨fun cs hcs=>hcs,fun t ht=>?_,fun len0 c' _ hl'=>by rw[hl]at hl';cases hl'⟩;simp only[qf,List.cons.injEq,aG,and_true]at ht;subst ht;refine⟨_,h1,by simp only[dM,rz];exact h3,?_⟩;have e1:(dM (.lst b l0)).rows.take (rz c l).2.length=aW (rz c l).2:=by
     simp only[dM,h4,rz];rw[List.take_of_length_le (by simp[aW])]
    rw[e1];exact EG c _
  ·cases h
 case mr c=>
  simp only[L9]at h;rw[ax]at h;obtain⟨o,h1,h⟩:=h;split at h
  ·rename_i sz row;split at h
   ·rename_i hc;rw[ax]at h;obtain⟨x,h2,h⟩:=h;injection h with h;subst h;refine⟨fun cs hcs=>hcs,fun t ht=>?_,fun _ _ h=>by cases h⟩;simp only[qf,List.cons.injEq,aG,and_true]at ht;subst ht;refine⟨_,h1,by simp only[dM,rz];exact hc.1,?_⟩;exact⟨QG hbad h2 hb (EF hc.2),trivial⟩
   ·cases h
  ·cases h
 case mv=>
  simp only[L9,aG]at h;subst h;exact⟨fun cs hcs=>hcs,fun t ht=>by simp[qf]at ht,fun _ _ h=>by cases h⟩
theorem GL {q:RT X.ι} {x:RT.T X q}:(qf q x).length=(if q.out then 1 else 0)∧(Wm q x).length=(if q.out then 1 else 0):=by cases q<;>exact⟨rfl,rfl⟩
theorem GN {n j:Nat} {q:RT X.ι} {l:List (RT X.ι)}:j∈muN n (q::l)->(j=n∧∃ c,q= .mu c)∨j∈muN (if q.out then n+1 else n) l:=by
 cases q<;>simp only[muN,RT.out,if_true,Bool.false_eq_true,if_false,aI]
 case mu c=>exact fun h=>h.imp (fun h=>⟨h,c,rfl⟩) id
 all_goals exact .inr
theorem aew {j:Nat}:∀ {l:List (RT X.ι)} {n:Nat},j∈muN n l->n<=j
 |[],n,h=>by simp[muN]at h
 |q::l,n,h=>by
  rcases GN h with ⟨rfl,_⟩ |h
  ·exact aU _
  ·have:=aew h;split at this<;>omega
theorem abR:∀ {l:List (RT X.ι)} {x:su X l} {n j:Nat},j∈muN n l->∃ p,(nk l x)[j - n]? =some (some p)
 |[],x,n,j,h=>by simp[muN]at h
 |[q],x,n,j,h=>by
  rcases GN h with ⟨rfl,c,rfl⟩ |h
  ·exact⟨_,by simp only[Nat.sub_self];rfl⟩
  ·simp[muN]at h
 |q::q'::l,x,n,j,h=>by
  rcases GN h with ⟨rfl,c,rfl⟩ |h
  ·exact⟨_,by simp only[Nat.sub_self];rfl⟩
  ·obtain⟨p,hp⟩:=abR (l:=q'::l) (x:=x.2) h;have hge:=aew h;refine⟨p,?_⟩;show (qf q x.1++nk (q'::l) x.2)[j - n]? =_;have hl:=(GL (q:=q) (x:=x.1)).1;split at hl
   ·rename_i e;rw[aJ e]at hp hge;rw[eZ (by omega),hl,show j - n - 1=j - (n+1)by omega];exact hp
   ·rename_i e;rw[aD e]at hp hge;rw[eZ (by omega),hl,Nat.sub_zero];exact hp
theorem Dc:∀ {l:List (RT X.ι)} {x:su X l} {n j:Nat} {p:fE},(nk l x)[j]? =some (some p)->n+j∈wJ n l
 |[],x,n,j,p,h=>by simp[nk]at h
 |[q],x,n,j,p,h=>by
  have h:(qf q x)[j]? =some (some p):=h;cases q<;>simp only[qf,List.getElem?_nil,reduceCtorEq]at h
  case mu c=>cases j<;>simp at h<;>simp[wJ]
  case mr c=>cases j<;>simp at h<;>simp[wJ]
  case mv=>cases j<;>simp at h
 |q::q'::l,x,n,j,p,h=>by
  have h:(qf q x.1++nk (q'::l) x.2)[j]? =some (some p):=h;cases q
  case mu c=>
   cases j with
   |zero=>simp[wJ]
   |succ j=>
    have:=Dc (l:=q'::l) (x:=x.2) (n:=n+1) (by simpa[qf]using h);simp only[wJ,aI];right;rw[show n+(j+1)=n+1+j by omega];exact this
  case mr c=>
   cases j with
   |zero=>simp[wJ]
   |succ j=>
    have:=Dc (l:=q'::l) (x:=x.2) (n:=n+1) (by simpa[qf]using h);simp only[wJ,aI];right;rw[show n+(j+1)=n+1+j by omega];exact this
  case mv=>
   cases j with
   |zero=>simp[qf]at h
   |succ j=>
    have:=Dc (l:=q'::l) (x:=x.2) (n:=n+1) (by simpa[qf]using h);simp only[wJ];rw[show n+(j+1)=n+1+j by omega];exact this
  all_goals
   simp only[wJ];exact Dc (l:=q'::l) (x:=x.2) (by simpa[qf]using h)
theorem abS {mus:List Nat} {wl:List (Nat×Nat)} {n:Nat} {q:RT X.ι} {ds:List (DV X)} {p:(RT.T X q×List Bool)×List (DV X)} (h:L9 get bad mus fk wl n q ds=some p) (hb:∀ b∈p.1.2,b=true):∀ len0 c,q= .mu c->lk wl n=some len0->Wm q p.1.1=[len0]:=by
 rintro len0 c rfl hl;simp only[L9]at h;rw[ax]at h;obtain⟨o,h1,h⟩:=h;split at h
 ·rename_i b l0;rw[ax]at h;obtain⟨l,h2,h⟩:=h;rw[hl]at h;injection h with h;subst h;have h5:(sub l 0 len0).length=len0:=by simpa[eqL]using hb (eqL (sub l 0 len0).length len0) (by simp)
  simp only[Wm,h5]
 ·cases h
theorem Kt {mus:List Nat} {wl:List (Nat×Nat)}:∀ {n:Nat} {l:List (RT X.ι)} {ds:List (DV X)} {x:su X l×List Bool},Ma get bad mus fk wl n l ds=some x->(∀ b∈x.2,b=true)->∀ j len0,n+j∈muN n l->lk wl (n+j)=some len0->(Za l x.1).getD j 0=len0
 |n,[],ds,x,h,hb,j,len0,hm,_=>by simp[muN]at hm
 |n,[q],ds,x,h,hb,j,len0,hm,hl=>by
  simp only[Ma]at h;rw[ax]at h;obtain⟨p,h1,h⟩:=h;split at h
  ·injection h with h;subst h;rcases GN hm with ⟨e,c,rfl⟩ |hm
   ·have e:j=0:=(by omega);subst e;have:=(abS h1 hb) len0 c rfl hl;show (Wm _ p.1.1).getD 0 0=len0;rw[this];rfl
   ·simp[muN]at hm
  ·cases h
 |n,q::q'::l,ds,x,h,hb,j,len0,hm,hl=>by
  simp only[Ma]at h;rw[ax]at h;obtain⟨p,h1,h⟩:=h;rw[ax]at h;obtain⟨y,h2,h⟩:=h;injection h with h;subst h;have hlen:=(GL (q:=q) (x:=p.1.1)).2;rcases GN hm with ⟨e,c,rfl⟩ |hm
  ·have e:j=0:=(by omega);subst e;have:=(abS h1 (fun b hb'=>hb b (by simp[hb']))) len0 c rfl hl;show (Wm _ p.1.1++Za (q'::l) y.1).getD 0 0=len0;rw[this];rfl
  ·have hge:=aew hm;show (Wm _ p.1.1++Za (q'::l) y.1).getD j 0=len0;by_cases hq:q.out=true
   ·rw[aJ hq]at h2 hm hge hlen;have:=Kt h2 (fun b hb'=>hb b (by simp[hb'])) (j - 1) len0 (by rw[show n+1+(j - 1)=n+j by omega];exact hm) (by rw[show n+1+(j - 1)=n+j by omega];exact hl);rw[List.getD_eq_getElem?_getD,eZ (by omega),hlen,<- List.getD_eq_getElem?_getD];exact this
   ·rw[aD hq]at h2 hm hge hlen;have:=Kt h2 (fun b hb'=>hb b (by simp[hb'])) j len0 hm hl;rw[List.getD_eq_getElem?_getD,eZ (by omega),hlen,Nat.sub_zero,<- List.getD_eq_getElem?_getD];exact this
theorem X0 {mus:List Nat} {wl:List (Nat×Nat)} {ns:List Nat} (hbad:∀ j,j∉bad->fk≠some j∧¬ kept os' j) (hfkk:∀ k,fk=some k->¬ kept os' k) (hns:∀ j len0,j∈mus->lk wl j=some len0->ns.getD j 0=len0) (hmu:∀ j∈mus,kept os' j):∀ {n:Nat} {l:List (RT X.ι)} {ds:List (DV X)} {x:su X l×List Bool},Ma get bad mus fk wl n l ds=some x->(∀ b∈x.2,b=true)->
 ExpCs (gP get) fk os' (cK ds) (Ca ns l x.1)∧∀ j t,(nk l x.1)[j]? =some (some t)->∃ o,get (n+j)=some o∧(dM o).sz=t.1∧ExpRows (gP get) fk os' ((dM o).rows.take t.2.length) t.2
 |n,[],ds,x,h,_=>by
  simp only[Ma]at h;split at h
  ·exact⟨trivial,fun j t ht=>by simp[nk]at ht⟩
  ·cases h
 |n,[q],ds,x,h,hb=>by
  simp only[Ma]at h;rw[ax]at h;obtain⟨p,h1,h⟩:=h;split at h
  ·rename_i hp;injection h with h;subst h;obtain⟨i1,i2,_⟩:=Uj (ns:=ns) hbad hfkk hns hmu h1 hb;rw[hp]at i1;have:=i1 [] trivial;rw[append_nil]at this;refine⟨this,fun j t ht=>?_⟩;have ht:(qf q p.1.1)[j]? =some (some t):=ht;have hl:=(GL (q:=q) (x:=p.1.1)).1;have hj:=(gH.1 ht).1;have hj0:j=0:=(by split at hl<;>omega);subst hj0;refine i2 t ?_
   match ho:qf q p.1.1,ht,hl with
   |[z],ht,_=>simpa using ht
   |[],ht,_=>simp at ht
   |_::_::_,_,hl=>simp only[bH]at hl;split at hl<;>omega
  ·cases h
 |n,q::q'::l,ds,x,h,hb=>by
  simp only[Ma]at h;rw[ax]at h;obtain⟨p,h1,h⟩:=h;rw[ax]at h;obtain⟨y,h2,h⟩:=h;injection h with h;subst h;obtain⟨i1,i2,_⟩:=Uj (ns:=ns) hbad hfkk hns hmu h1 (fun b hb'=>hb b (by simp[hb']));obtain⟨k1,k2⟩:=X0 (ns:=ns) hbad hfkk hns hmu h2 (fun b hb'=>hb b (by simp[hb']));refine⟨i1 _ k1,fun j t ht=>?_⟩;have ht:(qf q p.1.1++nk (q'::l) y.1)[j]? =some (some t):=ht;have hl:=(GL (q:=q) (x:=p.1.1)).1;by_cases hq:q.out=true
  ·rw[aJ hq]at k2 hl;cases j with
   |zero=>
    refine i2 t ?_
    match ho:qf q p.1.1,ht,hl with
    |[z],ht,_=>simpa using ht
    |[],_,hl=>simp at hl
    |_::_::_,_,hl=>simp at hl
   |succ j=>
    rw[eZ (by omega),hl,Nat.add_sub_cancel]at ht;rw[show n+(j+1)=n+1+j by omega];exact k2 j t ht
  ·rw[aD hq]at k2 hl;rw[eZ (by omega),hl,Nat.sub_zero]at ht;exact k2 j t ht
end
theorem ExpCs.R {get:Nat->Option bA} {fk:Option Nat} {os':List (Option fE)}:∀ {xs:List AV} {cs:List RC},ExpCs get fk os' xs cs->agK get fk os' xs (match cs with |[c]=> .one c |cs=> .tup cs)
 |[],[],_=>rfl
 |[_],[_],h=>h.1
 |_::_::_,_::_::_,h=>h
 |[],_::_,h=>h.elim
 |_::_,[],h=>h.elim
 |[_],_::_::_,h=>h.2.elim
 |_::_::_,[_],h=>h.2.elim
theorem aio {s:DSt X} {rs:List ResultVar} {l:List (RT X.ι)} {r:su X l} (h:((Ui T s rs).bind fun ds=>(Zk s l ds).bind fun x=>Wj x.2 (some x.1))=some r):∃ xs fk,sH T s.st rs=some xs∧agK s.st.obj fk (nk l r) xs (sI l r)∧ajl s.st.obj fk (nk l r):=by
 rw[ax]at h;obtain⟨ds,h1,h⟩:=h;rw[ax]at h;obtain⟨x,h2,h⟩:=h;obtain⟨h3,h⟩:=rO h;injection h with h;subst h;unfold Zk at h2;split at h2
 ·rename_i hnb;have hkn:∀ j,kept (nk l x.1) j->j∈wJ 0 l:=fun j ⟨p,hp⟩=>by
   have:=Dc (n:=0) hp;simpa using this
  have hbad:∀ j,j∉wJ 0 l++(OE l ds).toList->OE l ds≠some j∧¬ kept (nk l x.1) j:=by
   intro j hj;simp only[aX,Option.mem_toList,not_or]at hj;exact⟨hj.2,fun h=>hj.1 (hkn j h)⟩
  have hfkk:∀ k,OE l ds=some k->¬ kept (nk l x.1) k:=fun k hk hkk=>EF hnb k (by simp[hk]) (hkn k hkk);have hmu:∀ j∈muN 0 l,kept (nk l x.1) j:=fun j hj=>by
   obtain⟨p,hp⟩:=abR (x:=x.1) hj;exact⟨p,by simpa using hp⟩
  obtain⟨i1,i2⟩:=X0 (ns:=Za l x.1) hbad hfkk (fun j len0 hj hl=>Kt h2 h3 j len0 (by simpa using hj) (by simpa using hl)) hmu h2 h3;have hobj:s.st.obj=gP (lko s.obj):=rfl;refine⟨cK ds,OE l ds,XZ T h1,?_,fun j p hp=>?_⟩
  ·rw[hobj];exact i1.R
  ·obtain⟨o,g1,g2,g3⟩:=i2 j p hp;rw[Nat.zero_add]at g1;exact⟨fun e=>hfkk j e ⟨p,hp⟩,dM o,by rw[hobj];simp[gP,g1],g2,by rw[hobj];exact g3⟩
 ·cases h2
variable {Γ:FuncId->Option (Sig X)} {code:TypeId->Option (CT X.ι)} {P:Program}
theorem akZ (hT : gm P T) (hm : P.follows .mixedOrders = true) (hΓ : GOk P Γ) {f : FuncId} {fn : Func} {c : Code} (hfn : P.funcs[f]? = some fn) (hb : fn.body = some c) (hname : (fn.name == "runtime.NumGoroutine") = false) (sa : List (AT X.ι)) (sr : List (RT X.ι)) (hN : sa.length <= fn.ntmps ∧ qg sa <= 1000 ∧ (sr.filter RT.out).length = qg sa)
 (h:Hn X.ι) (n:Nat) {a:iW X sa} {r:su X sr} (hr:run Γ T code fn.ntmps n c (su X sr) h (ini sa a) (akY T fn.results.toList sr)=some r):FnW P f (zA sa a) (qd sa a) (nk sr r) (sI sr r):=by
 have hl:(nk sr r).length=(qd sa a).length:=by
  rw[j4,<- hN.2.2];have:∀ (sr:List (RT X.ι)) (r:su X sr),(nk sr r).length=(sr.filter RT.out).length:=by
   intro sr
   induction sr with
   |nil=>intro r;rfl
   |cons q l ih=>
    intro r;have hq:∀ x:RT.T X q,(qf q x).length=(if q.out then 1 else 0):=fun x=>GL.1;cases l with
    |nil=>
     show (qf q r).length=_;rw[hq];by_cases e:q.out=true<;>simp[e]
    |cons q' l=>
     show (qf q r.1++nk (q'::l) r.2).length=_;rw[aZ,hq,ih r.2];by_cases e:q.out=true<;>simp[List.filter_cons,e];omega
  exact this sr r
 refine Xq hT hfn hb hname (by rw[j3];exact hN.1) (fun k hk=>?_) (by rw[j4];exact hN.2.1) hl ?_
 ·rw[zA,<- rQ,kK]at hk;have:=oF 0 sa a k hk;have:=hN.2.1;omega
 ·rw[<- akt];refine (nC hT hm hΓ c _ h _ _ r (ajw sa a hN.2.1) hr).mono ?_;rintro e σ ⟨s',_,_,rfl,g4⟩;cases e<;>first |exact aio g4 |cases g4
theorem wK {f : FuncId} {fn : Func} {c : Code} (hfn : P.funcs[f]? = some fn) (hb : fn.body = some c) (hname : (fn.name == "runtime.NumGoroutine") = false) : oh P f := ⟨fn, hfn, by rw [hb]; rfl, hname⟩
abbrev COk (P:Program) (f:FuncId) (s:Sig X):Prop:=oh P f∧(∀ a r,s.fn a=some r->FnW P f (zA s.args a) (qd s.args a) (nk s.res r) (sI s.res r))∧∀ g,s.gen=some g->akR P f g
theorem cok {P:Program} {f:FuncId} {s:Sig X} (h:oh P f) (h1:∀ a r,s.fn a=some r->FnW P f (zA s.args a) (qd s.args a) (nk s.res r) (sI s.res r)) (hg:s.gen=none):COk P f s:=⟨h,h1,fun g e=>by rw[hg]at e;cases e⟩
def gam (l:List (FuncId×Sig X)):FuncId->Option (Sig X):=fun f=>lk l f
theorem aH:GOk P (gam ([]:List (FuncId×Sig X))):=fun _ _ h=>by cases h
theorem aB {f:FuncId} {s:Sig X} {l:List (FuncId×Sig X)} (h:COk P f s) (hl:GOk P (gam l)):GOk P (gam ((f,s)::l)):=by
 intro g q hg;simp only[gam,lk]at hg;split at hg
 ·rename_i e;injection hg with hg;subst hg;subst e;exact h
 ·exact hl g q hg
end
section
variable {X:SX} {T:Tab}
variable {Γ:FuncId->Option (Sig X)} {code:TypeId->Option (CT X.ι)} {P:Program}
end
def ints (l:List Int):List (List Tree):=l.map fun x=>[.sc (.int .i64 x)]
section
variable {P:Program} {f F:FuncId} {E:TypeId}
end
section
variable {X:SX}
end
section
variable {X:SX}
def Ao {α β:Type} (f:α->Option β):List α->Option (List β)
 |[]=>some []
 |x::xs=>(f x).bind fun y=>(Ao f xs).bind fun ys=>some (y::ys)
def muC (dq:(i j:X.ι)->Decidable (i=j)) (i:X.ι):CT X.ι->Option CS
 | .int k=>some (.int k)
 | .bool=>some .bool
 | .str=>some .str
 | .sl (.st j)=>match dq j i with
  | .isTrue _=>some .back
  | .isFalse _=>none
 |_=>none
def aj5 (dq:(i j:X.ι)->Decidable (i=j)) (i:X.ι):Bool:=(X.tys i).any fun c=>match c with
 | .sl (.st j)=>match dq j i with
  | .isTrue _=>true
  | .isFalse _=>false
 |_=>false
def aku (dq:(i j:X.ι)->Decidable (i=j)):CT X.ι->Option (List CS)
 | .st i=>bif aj5 dq i then Ao (muC dq i) (X.tys i)else none
 |_=>none
theorem akv (dq:(i j:X.ι)->Decidable (i=j)) {i:X.ι} {row:List CS} (hm:Ao (muC dq i) (X.tys i)=some row) {x:Tree} (h:MuT row x):∃ l:List (CT.T X.toSE (.st i)),x= .sl (l.map (CT.row X.toSE (.st i))):=by
 refine MuT.rec (row:=row) (motive_1:=fun x _=>∃ l:List (CT.T X.toSE (.st i)),x= .sl (l.map (CT.row X.toSE (.st i)))) (motive_2:=fun rows _=>∃ l:List (CT.T X.toSE (.st i)),rows=l.map (CT.row X.toSE (.st i)))
  (motive_3:=fun cs r _=>∀ codes:List (CT X.ι),Ao (muC dq i) codes=some cs->∃ h:HL X.toSE codes,r=HL.row X.toSE codes h) ?_ ?_ ?_ ?_ ?_ ?_ h
 ·rintro rows _ _ ⟨l,rfl⟩;exact⟨l,rfl⟩
 ·exact⟨[],rfl⟩
 ·rintro r rs _ _ h1 ⟨l,rfl⟩;obtain⟨q,rfl⟩:=h1 _ hm;exact⟨(X.make i q:X.T i)::l,by rw[bf];congr 1;exact (X.row_make i q).symm⟩
 ·intro codes hc;cases codes with
  |nil=>exact⟨(),rfl⟩
  |cons c codes=>
   simp only[Ao,ax]at hc;obtain⟨_,_,_,_,h⟩:=hc;cases h
 ·intro cs x xs _ _ h1 h2 codes hc;obtain⟨l,rfl⟩:=h1;cases codes with
  |nil=>simp[Ao]at hc
  |cons c codes=>
   simp only[Ao,ax]at hc;obtain⟨c',g1,cs',g2,g3⟩:=hc;injection g3 with g3;injection g3 with g4 g5;subst g4 g5;obtain⟨q,rfl⟩:=h2 _ g2
   match c,g1 with
   | .sl (.st j),g1=>
    simp only[muC]at g1;split at g1
    ·rename_i hj _;subst hj;exact⟨(l,q),rfl⟩
    ·cases g1
   | .int _,g1=>simp[muC]at g1
   | .bool,g1=>simp[muC]at g1
   | .str,g1=>simp[muC]at g1
   | .any,g1=>simp[muC]at g1
   | .st _,g1=>simp[muC]at g1
   | .mp _ _,g1=>simp[muC]at g1
   | .sl (.int _),g1=>simp[muC]at g1
   | .sl .bool,g1=>simp[muC]at g1
   | .sl .str,g1=>simp[muC]at g1
   | .sl .any,g1=>simp[muC]at g1
   | .sl (.sl _),g1=>simp[muC]at g1
   | .sl (.mp _ _),g1=>simp[muC]at g1
 ·intro c' cs x xs hf _ h2 codes hc;cases codes with
  |nil=>simp[Ao]at hc
  |cons c codes=>
   simp only[Ao,ax]at hc;obtain⟨c2,g1,cs',g2,g3⟩:=hc;injection g3 with g3;injection g3 with g4 g5;subst g4 g5;obtain⟨q,rfl⟩:=h2 _ g2
   match c,g1 with
   | .int k,g1=>
    injection g1 with g1;subst g1;obtain⟨n,rfl,_⟩:=hf;exact⟨(n,q),rfl⟩
   | .bool,g1=>
    injection g1 with g1;subst g1;obtain⟨n,rfl⟩:=hf;exact⟨(n,q),rfl⟩
   | .str,g1=>
    injection g1 with g1;subst g1;obtain⟨n,rfl,_⟩:=hf;exact⟨(n,q),rfl⟩
   | .sl (.st j),g1=>
    simp only[muC]at g1;split at g1
    ·injection g1 with g1;subst g1;exact hf.elim
    ·cases g1
   | .any,g1=>simp[muC]at g1
   | .st _,g1=>simp[muC]at g1
   | .mp _ _,g1=>simp[muC]at g1
   | .sl (.int _),g1=>simp[muC]at g1
   | .sl .bool,g1=>simp[muC]at g1
   | .sl .str,g1=>simp[muC]at g1
   | .sl .any,g1=>simp[muC]at g1
   | .sl (.sl _),g1=>simp[muC]at g1
   | .sl (.mp _ _),g1=>simp[muC]at g1
def csF:Nat->CT X.ι->Option (List CS)
 | 0,_=>none
 |_+1,.int k=>some [.int k]
 |_+1,.bool=>some [.bool]
 |_+1,.str=>some [.str]
 |_+1,.any=>some [.any]
 |_+1,.mp _ _=>none
 |n+1,.sl e=>match aku X.dec e with
  |some row=>some [.mu row]
  |none=>(csF n e).bind fun r=>some [.sl r]
 |n+1,.st i=>(Ao (csF n) (X.tys i)).bind fun l=>some l.flatten
def vsF (n:Nat) (c:CT X.ι):Option VS:=
 match c with
 | .st i=>(csF n (.st i:CT X.ι)).map .agg
 |c=>(csF n c).bind fun l=>match l with
  |[x]=>some (.one x)
  |_=>none
theorem QH:∀ (a b:List CS) (ys:List Tree),FitL (a++b) ys->∃ ya yb,ys=ya++yb∧FitL a ya∧FitL b yb
 |[],b,ys,h=>⟨[],ys,rfl,trivial,h⟩
 |c::a,b,y::ys,h=>by
  simp only[cons_append,FitL]at h;obtain⟨ya,yb,rfl,h1,h2⟩:=QH a b ys h.2;exact⟨y::ya,yb,rfl,⟨h.1,h1⟩,h2⟩
 |_::_,_,[],h=>h.elim
theorem abT {c:CT X.ι} {cs:List CS} (h:∀ ys,FitL cs ys->∃ x:CT.T X.toSE c,ys=CT.row X.toSE c x):∀ rows:List (List Tree),(∀ r∈rows,FitL cs r)->∃ l:List (CT.T X.toSE c),rows=l.map (CT.row X.toSE c)
 |[],_=>⟨[],rfl⟩
 |r::rows,hr=>by
  obtain⟨x,hx⟩:=h r (hr r (by simp));obtain⟨l,hl⟩:=abT h rows fun q hq=>hr q (bP _ hq);exact⟨x::l,by rw[bf,<- hx,<- hl]⟩
theorem aip {f:CT X.ι->Option (List CS)} (hf:∀ c cs,f c=some cs->∀ ys,FitL cs ys->∃ x:CT.T X.toSE c,ys=CT.row X.toSE c x):∀ (l:List (CT X.ι)) (css:List (List CS)),Ao f l=some css->∀ ys,FitL css.flatten ys->∃ h:HL X.toSE l,ys=HL.row X.toSE l h
 |[],css,h,ys,hy=>by
  simp only[Ao,aG]at h;subst h;cases ys with
  |nil=>exact⟨(),rfl⟩
  |cons y ys=>exact hy.elim
 |c::l,css,h,ys,hy=>by
  simp only[Ao]at h;rw[ax]at h;obtain⟨a,h1,h⟩:=h;rw[ax]at h;obtain⟨b,h2,h⟩:=h;injection h with h;subst h;simp only[flatten_cons]at hy;obtain⟨ya,yb,rfl,g1,g2⟩:=QH _ _ _ hy;obtain⟨x,hx⟩:=hf c a h1 ya g1;obtain⟨q,hq⟩:=aip hf l b h2 yb g2;exact⟨(x,q),by rw[hx,hq];rfl⟩
theorem Sr:∀ (n:Nat) (c:CT X.ι) (cs:List CS),csF n c=some cs->∀ ys,FitL cs ys->∃ x:CT.T X.toSE c,ys=CT.row X.toSE c x
 | 0,_,_,h,_,_=>by cases h
 |n+1,.mp _ _,cs,h,ys,hy=>by simp[csF]at h
 |n+1,.int k,cs,h,ys,hy=>by
  simp only[csF,aG]at h;subst h
  match ys,hy with
  |[y],hy=>
   simp only[FitL,Fit,and_true]at hy;obtain⟨m,rfl,_⟩:=hy;exact⟨m,rfl⟩
  |[],hy=>exact hy.elim
  |_::_::_,hy=>exact hy.2.elim
 |n+1,.bool,cs,h,ys,hy=>by
  simp only[csF,aG]at h;subst h
  match ys,hy with
  |[y],hy=>
   simp only[FitL,Fit,and_true]at hy;obtain⟨m,rfl⟩:=hy;exact⟨m,rfl⟩
  |[],hy=>exact hy.elim
  |_::_::_,hy=>exact hy.2.elim
 |n+1,.str,cs,h,ys,hy=>by
  simp only[csF,aG]at h;subst h
  match ys,hy with
  |[y],hy=>
   simp only[FitL,Fit,and_true]at hy;obtain⟨m,rfl,_⟩:=hy;exact⟨m,rfl⟩
  |[],hy=>exact hy.elim
  |_::_::_,hy=>exact hy.2.elim
 |n+1,.any,cs,h,ys,hy=>by
  simp only[csF,aG]at h;subst h
  match ys,hy with
  |[y],hy=>exact⟨y,rfl⟩
  |[],hy=>exact hy.elim
  |_::_::_,hy=>exact hy.2.elim
 |n+1,.sl e,cs,h,ys,hy=>by
  simp only[csF]at h;split at h
  ·rename_i row hm;injection h with h;subst h
   match ys,hy with
   |[y],hy=>
    simp only[FitL,Fit,and_true]at hy;cases e with
    |st i=>
     simp only[aku]at hm;cases hb:aj5 X.dec i with
     |false=>rw[hb]at hm;cases hm
     |true=>
      rw[hb]at hm;obtain⟨l,hl⟩:=akv X.dec hm hy;exact⟨l,by rw[hl];rfl⟩
    |_=>cases hm
   |[],hy=>exact hy.elim
   |_::_::_,hy=>exact hy.2.elim
  rw[ax]at h;obtain⟨r,h1,h⟩:=h;injection h with h;subst h
  match ys,hy with
  |[y],hy=>
   simp only[FitL,Fit,and_true]at hy;obtain⟨rows,rfl,_,hr⟩:=hy;obtain⟨l,hl⟩:=abT (Sr n e r h1) rows hr;exact⟨l,by rw[hl];rfl⟩
  |[],hy=>exact hy.elim
  |_::_::_,hy=>exact hy.2.elim
 |n+1,.st i,cs,h,ys,hy=>by
  simp only[csF]at h;rw[ax]at h;obtain⟨css,h1,h⟩:=h;injection h with h;subst h;obtain⟨q,hq⟩:=aip (Sr n) (X.tys i) css h1 ys hy;exact⟨X.make i q,by rw[hq];exact (X.row_make i q).symm⟩
theorem ajy {n:Nat} {c:CT X.ι} {s:VS} (h:vsF n c=some s) {x:TV} (hx:Tw s x):∃ y:CT.T X.toSE c,x=CT.tv X.toSE c y:=by
 have one:∀ c:CT X.ι,c.one=true->((csF n c).bind fun l=>match l with
  |[x]=>some (VS.one x)
  |_=>none)=some s->∃ y:CT.T X.toSE c,x=CT.tv X.toSE c y:=by
  intro c hc h;rw[ax]at h;obtain⟨l,h1,h⟩:=h;split at h
  ·rename_i z;injection h with h;subst h;simp only[Tw]at hx;obtain⟨t,rfl,ht⟩:=hx;obtain⟨y,hy⟩:=Sr n c _ h1 [t] ⟨ht,trivial⟩;obtain⟨t',e1,e2⟩:=row_one hc y;rw[e1]at hy;injection hy with hy;subst hy;exact⟨y,e2.symm⟩
  ·cases h
 cases c
 case st i=>
  simp only[vsF,fB]at h;obtain⟨cs,h1,rfl⟩:=h;simp only[Tw]at hx;obtain⟨ys,rfl,hy⟩:=hx;obtain⟨y,hy⟩:=Sr n (.st i) _ h1 ys hy;exact⟨y,by rw[hy];rfl⟩
 all_goals exact one _ rfl h
theorem abU (n:Nat):∀ (cs:List (CT X.ι)) (ss:List VS),Ao (vsF n) cs=some ss->∀ xs,J5 ss xs->∃ h:HL X.toSE cs,xs=HL.tvs X.toSE cs h
 |[],ss,h,xs,hx=>by
  simp only[Ao,aG]at h;subst h;cases xs with
  |nil=>exact⟨(),rfl⟩
  |cons x xs=>exact hx.elim
 |c::cs,ss,h,xs,hx=>by
  simp only[Ao]at h;rw[ax]at h;obtain⟨a,h1,h⟩:=h;rw[ax]at h;obtain⟨b,h2,h⟩:=h;injection h with h;subst h;cases xs with
  |nil=>exact hx.elim
  |cons x xs=>
   obtain⟨y,rfl⟩:=ajy h1 hx.1;obtain⟨q,rfl⟩:=abU n cs b h2 xs hx.2;exact⟨(y,q),rfl⟩
theorem aiq {P:Program} {f:FuncId} {n:Nat} {cs:List (CT X.ι)} {ss:List VS} {fn:Nat->iW X (cs.map AT.d)->Option Bool} (hc:∀ k,COk P f ⟨cs.map AT.d,[.d .bool],fn k,none⟩) (hs:Ao (vsF n) cs=some ss) (hl:∀ q:HL X.toSE cs,J5 ss (HL.tvs X.toSE cs q)->∃ k,fn k (hlA cs q)=some true) (xs:List TV) (h:J5 ss xs):
 FnP P f (xs.map TV.av) (.one (.d (.s (.sc (.bool true))))):=by
 obtain⟨q,rfl⟩:=abU n cs ss hs xs h;obtain⟨k,hk⟩:=hl q h;have h1:=(hc k).2.1 (hlA cs q) true hk;have h2:=h1;rw[zB (Zb cs)]at h2;have h3:FnW P f (zA (cs.map AT.d) (hlA cs q)) [] [] (.one (.d (.s (.sc (.bool true))))):=h2;have h4:=Tv h3;rw[zA,Ow]at h4;exact h4
end
structure GSt where
 env:List (Nat×AV)
 obj:List (Nat×Option bA)
 ok:List (Nat×Option Bool)
def GSt.st (F:Nat->Option bA) (L:GSt):St:=
 ⟨fun t=>(lk L.env t).getD .undef,fun k=>match lk L.obj k with |some o=>o |none=>F k,fun t=>(lk L.ok t).join⟩
def GSt.app (L:GSt) (dst:Option Tmp) (p:Out×Option Bool):GSt:=
 match dst with
 |some d=>⟨(d,p.1.v)::L.env,p.1.upd++L.obj,(d,p.2)::L.ok⟩
 |none=>⟨L.env,p.1.upd++L.obj,L.ok⟩
theorem GSt.app_st (F:Nat->Option bA) (L:GSt) (dst:Option Tmp) (p:Out×Option Bool):(L.app dst p).st F=(L.st F).app dst p:=by
 have ho:∀ (u:List (Nat×Option bA)) (k:Nat),(match lk (u++L.obj) k with |some o=>o |none=>F k)=dQ (fun k=>match lk L.obj k with |some o=>o |none=>F k) u k:=by
  intro u k
  induction u with
  |nil=>rfl
  |cons q u ih=>
   obtain⟨j,o⟩:=q;simp only[cons_append,lk,dQ];by_cases h:j=k
   ·subst h;simp
   ·rw[aD h,aD (fun e=>h e.symm)];exact ih
 have he:∀ {α:Type} (e:List (Nat×α)) (d:Nat) (v:α) (f:Option α->α) (t:Nat),f (some v)=v->f (lk ((d,v)::e) t)=zq (fun t=>f (lk e t)) (some d) v t:=by
  intro α e d v f t hf;simp only[lk,zq,aG];by_cases h:d=t
  ·rw[aJ h,aJ h,hf]
  ·rw[aD h,aD h]
 cases dst with
 |none=>
  simp only[GSt.app,GSt.st,St.app];congr 1;exact funext fun k=>ho _ k
 |some d=>
  simp only[GSt.app,GSt.st,St.app];congr 1
  ·exact funext fun t=>he _ _ _ (fun o:Option AV=>o.getD AV.undef) t rfl
  ·exact funext fun k=>ho _ k
  ·exact funext fun t=>he L.ok d p.2 (fun o:Option (Option Bool)=>o.join) t rfl
section
variable (P:Program) (T:Tab) (ops:Array Oper) (ann:Nat->Ann) (F:Nat->Option bA)
def Ap:List Nat->GSt->Option (GSt×List Prop)
 |[],L=>some (L,[])
 |i::r,L=>(ops[i]?).bind fun o=>(opAt P T ops ann i (L.st F)).bind fun out=>(Ap r (L.app o.dst out)).bind fun q=>some (q.1,out.1.obs++q.2)
end
theorem abV:∀ {a b:List Prop},jl (a++b)->jl a∧jl b
 |[],_,h=>⟨trivial,h⟩
 |p::a,b,h=>by
  cases a with
  |nil=>
   cases b with
   |nil=>exact⟨h,trivial⟩
   |cons q b=>exact⟨h.1,h.2⟩
  |cons q a=>
   obtain⟨h1,h2⟩:=h;obtain⟨h3,h4⟩:=abV (a:=q::a) h2;exact⟨⟨h1,h3⟩,h4⟩
theorem Ku {P:Program} {T:Tab} {ops:Array Oper} {ann:Nat->Ann} {F:Nat->Option bA} {Q:St->Prop}:∀ {l:List Nat} {L L':GSt} {obs:List Prop},Ap P T ops ann F l L=some (L',obs)->jl obs->Q (L'.st F)->Oc P T ops ann Q l (L.st F)
 |[],L,L',obs,h,_,hq=>by
  simp only[Ap,aG,Prod.mk.injEq]at h;obtain⟨rfl,rfl⟩:=h;exact hq
 |i::r,L,L',obs,h,ho,hq=>by
  simp only[Ap,ax]at h;obtain⟨o,h1,out,h2,q,h3,h4⟩:=h;injection h4 with h4;injection h4 with h5 h6;subst h5 h6;obtain⟨o1,o2⟩:=abV ho;refine⟨o,out,h1,h2,o1,?_⟩;rw[<- GSt.app_st];exact Ku h3 o2 hq
section
variable {P:Program} {T:Tab} {N:Nat} {Q:Exit->St->Prop} {ops:Array Oper} {ann:Nat->Ann} {σ σ' σ2:St}
structure Told (σ' σ2:St):Prop where
 re:∃ (f g:Nat->Nat) (D:Nat->Prop),(∀ k,D k->g (f k)=k)∧(∀ j,j < 1000->g j=j)∧
  (∀ t,σ2.env t= .undef∨(σ'.ok t=none∧(∀ k∈refs (σ'.env t),D k)∧Wkn (rnA f (σ'.env t)) (σ2.env t)))∧
  (∀ j o',σ2.obj j=some o'->∃ k o,σ'.obj k=some o∧D k∧f k=j∧o'.sz=o.sz∧RowsW D f o.rows o'.rows)
 ok:∀ t,σ2.ok t=none
 old:Old σ2
theorem Told.rel {w0:World} {O0:Was} {β:Nat->Option Blk} {I:Nat->Prop} {a:Act} {w:World} (h:Told σ' σ2) (hr:Rel P w0 O0 N β I σ' a w):∃ β',Rel P w0 O0 N β' I σ2 a w:=by
 obtain⟨f,g,D,h1,h2,h3,h4⟩:=h.re;refine⟨_,Rel.re (f:=f) (g:=g) (D:=D) h1 h2 hr (fun t=>?_) h.ok (fun t=>?_) h4⟩
 ·rcases h3 t with e |e
  ·exact .inr e
  ·exact .inl e.1
 ·rcases h3 t with e |e
  ·exact .inl e
  ·exact .inr e.2
theorem EH {c:Code} (h:Told σ σ2) (hc:Ev P N c Q σ2):Ev P N c Q σ:=by
 intro w0 O0 β I a w hr ho;obtain⟨β',hr'⟩:=h.rel hr;exact hc w0 O0 β' I a w hr' h.old
theorem fK (hT:gm P T) {id:Nat} {F:Nat->Option bA} {L L':GSt} {obs:List Prop} (hd:Og N ops=true) (h:Ap P T ops ann F (List.range ops.size) L=some (L',obs)) (hob:jl obs) (ht:Told (L'.st F) σ2) (hq:Q .normal σ2):
 Ev P N (.region id ops false) Q (L.st F):=by
 intro w0 O0 β I a w hr ho;refine wp_mono (Xl (Q:=fun σ=>σ=L'.st F) hT hd ho (Ku h hob rfl) hr) ?_;rintro e a' w' ⟨β',I',σ',h1,rfl,rfl⟩;obtain⟨β2,h2⟩:=ht.rel h1;exact⟨β2,I',σ2,h2,ht.old,hq⟩
theorem Kv (hT:gm P T) (hm:P.follows .mixedOrders=true) {id:Nat} {F:Nat->Option bA} {L L':GSt} {obs:List Prop} (hd:Og N ops=true) (hB:Qp ops ann=true) (h:Ap P T ops ann F (List.range ops.size) L=some (L',obs)) (hob:jl obs) (ht:Told (L'.st F) σ2) (hq:Q .normal σ2):
 Ev P N (.region id ops true) Q (L.st F):=by
 intro w0 O0 β I a w hr ho;refine wp_mono (Gq (Q:=fun σ=>σ=L'.st F) hT hm hd hB ho (Ku h hob rfl) hr) ?_;rintro e a' w' ⟨β',I',σ',h1,rfl,rfl⟩;obtain⟨β2,h2⟩:=ht.rel h1;exact⟨β2,I',σ2,h2,ht.old,hq⟩
end
mutual
theorem Zl {f:Nat->Nat}:∀ x:AV,(∀ k∈refs x,f k=k)->rnA f x=x
 | .own k off len,h=>by simp only[rnA];rw[h k (by simp[refs])]
 | .ptr k row off,h=>by simp only[rnA];rw[h k (by simp[refs])]
 | .mp k,h=>by simp only[rnA];rw[h k (by simp[refs])]
 | .agg cs,h=>by simp only[rnA];rw[kY cs (by simpa[refs]using h)]
 | .tup cs,h=>by simp only[rnA];rw[kY cs (by simpa[refs]using h)]
 | .fn F first caps,h=>by simp only[rnA];rw[kY first (fun k hk=>h k (by simp[refs,hk])),kY caps (fun k hk=>h k (by simp[refs,hk]))]
 | .t _,_=>rfl
 | .rptr _ _,_=>rfl
 | .clo _,_=>rfl
 | .nilsl,_=>rfl
 | .ub,_=>rfl
 | .undef,_=>rfl
theorem kY {f:Nat->Nat}:∀ l:List AV,(∀ k∈dG l,f k=k)->uG f l=l
 |[],_=>rfl
 |x::xs,h=>by simp only[uG];rw[Zl x (fun k hk=>h k (by simp[dG,hk])),kY xs (fun k hk=>h k (by simp[dG,hk]))]
end
theorem agn {D:Nat->Prop} {f:Nat->Nat}:∀ r:List AV,(∀ k∈dG r,D k)->RowW D f r (uG f r)
 |[],_=>trivial
 |x::xs,h=>⟨⟨fun k hk=>h k (by simp[dG,hk]),Wkn.refl _⟩,agn xs fun k hk=>h k (by simp[dG,hk])⟩
theorem Uk {D:Nat->Prop} {f:Nat->Nat}:∀ rs:List (List AV),(∀ r∈rs,∀ k∈dG r,D k)->RowsW D f rs (rs.map (uG f))
 |[],_=>trivial
 |r::rs,h=>⟨agn r (h r (by simp)),Uk rs fun q hq=>h q (by simp[hq])⟩
theorem Jb {L' L2:GSt} {F F2:Nat->Option bA} (f g:Nat->Nat) (D:Nat->Prop) (h1:∀ k,D k->g (f k)=k) (h2:∀ j,j < 1000->g j=j)
 (hE:∀ p∈L2.env,(lk L'.ok p.1).join=none∧(∀ k∈refs ((lk L'.env p.1).getD .undef),D k)∧rnA f ((lk L'.env p.1).getD .undef)=p.2)
 (hO:∀ j o',(L2.st F2).obj j=some o'->∃ k o,(L'.st F).obj k=some o∧D k∧f k=j∧o'=Lv f o∧∀ r∈o.rows,∀ k∈dG r,D k) (hok:L2.ok=[])
 (old:Old (L2.st F2)):Told (L'.st F) (L2.st F2):=by
 refine⟨⟨f,g,D,h1,h2,fun t=>?_,fun j o' hj=>?_⟩,fun t=>by simp[GSt.st,hok,lk],old⟩
 ·simp only[GSt.st];cases h:lk L2.env t with
  |none=>exact .inl rfl
  |some x=>
   obtain⟨a1,a2,a3⟩:=hE _ (mE h);exact .inr ⟨a1,a2,by rw[a3];exact Wkn.refl _⟩
 ·obtain⟨k,o,e1,e2,e3,rfl,e5⟩:=hO j o' hj;exact⟨k,o,e1,e2,e3,rfl,Uk _ e5⟩
section
variable {P:Program} {β:Nat->Option Blk} {w:World} {I:Nat->Prop}
def Imps (P:Program) (β:Nat->Option Blk) (w:World) (I:Nat->Prop):List AV->List AV->Prop
 |[],[]=>True
 |x::xs,y::ys=>(∀ v,VR P β w I x v->VR P β w I y v)∧Imps P β w I xs ys
 |_,_=>False
def Impss (P:Program) (β:Nat->Option Blk) (w:World) (I:Nat->Prop):List (List AV)->List (List AV)->Prop
 |[],[]=>True
 |r::rs,q::qs=>Imps P β w I r q∧Impss P β w I rs qs
 |_,_=>False
theorem Imps.refl:∀ r:List AV,Imps P β w I r r
 |[]=>trivial
 |_::xs=>⟨fun _ h=>h,Imps.refl xs⟩
theorem Impss.app {q q':List AV} (h:Imps P β w I q q'):∀ R:List (List AV),Impss P β w I (R++[q]) (R++[q'])
 |[]=>⟨h,trivial⟩
 |r::R=>⟨Imps.refl r,Impss.app h R⟩
theorem Imps.row:∀ {r q:List AV} {c:Array Value} {off:Nat},Imps P β w I r q->ORow P β w I r c off->ORow P β w I q c off
 |[],[],_,_,_,_=>trivial
 |_::_,_::_,_,_,h,⟨⟨v,h1,h2,h3⟩,h4⟩=>⟨⟨v,h1,h.1 v h2,h3⟩,Imps.row h.2 h4⟩
 |[],_::_,_,_,h,_=>h.elim
 |_::_,[],_,_,h,_=>h.elim
theorem Imps.length:∀ {r q:List AV},Imps P β w I r q->q.length=r.length
 |[],[],_=>rfl
 |_::_,_::_,h=>congrArg (· +1) (Imps.length h.2)
 |[],_::_,h=>h.elim
 |_::_,[],h=>h.elim
theorem Impss.rows:∀ {rs qs:List (List AV)} {c:Array Value} {off sz:Nat},Impss P β w I rs qs->ORows P β w I rs c off sz->ORows P β w I qs c off sz
 |[],[],_,_,_,_,_=>trivial
 |_::_,_::_,_,_,_,h,⟨h1,h2,h3⟩=>⟨by rw[h.1.length];exact h1,h.1.row h2,h.2.rows h3⟩
 |[],_::_,_,_,_,h,_=>h.elim
 |_::_,[],_,_,_,h,_=>h.elim
theorem Impss.length:∀ {rs qs:List (List AV)},Impss P β w I rs qs->qs.length=rs.length
 |[],[],_=>rfl
 |_::_,_::_,h=>congrArg (· +1) (Impss.length h.2)
 |[],_::_,h=>h.elim
 |_::_,[],h=>h.elim
theorem Imps.vrl:∀ {r q:List AV} {vs:List Value},Imps P β w I r q->VRl P β w I r vs->VRl P β w I q vs
 |[],[],_,_,hv=>hv
 |_::_,_::_,[],_,hv=>by simp[VRl]at hv
 |_::_,_::_,_::_,h,hv=>by simp only[VRl]at hv ⊢;exact⟨h.1 _ hv.1,h.2.vrl hv.2⟩
 |[],_::_,_,h,_=>h.elim
 |_::_,[],_,h,_=>h.elim
theorem Impss.mrows:∀ {rs qs:List (List AV)} {es:List MapEntry},Impss P β w I rs qs->MRows P β w I rs es->MRows P β w I qs es
 |[],[],_,_,h=>h
 |_::_,_::_,[],_,h=>h.elim
 |_::_,_::_,_::_,h,hm=>⟨h.1.vrl hm.1,h.2.mrows hm.2⟩
 |[],_::_,_,h,_=>h.elim
 |_::_,[],_,h,_=>h.elim
end
theorem ag2 {P:Program} {N:Nat} {c:Code} {Q:Exit->St->Prop} {σ σ2:St} {K k0 sz sz0:Nat} {R:List (List AV)} {q:List AV} (hk0:1000<=k0) (hk1:k0 < 1000000) (hne:K≠k0)
 (hK:σ.obj K=some ⟨sz,R++[q++[.nilsl]]⟩) (hfe:∀ t,k0∉refs (σ.env t)) (hfo:∀ k o,σ.obj k=some o->k≠k0∧∀ r∈o.rows,k0∉dG r)
 (hok:σ2.ok=σ.ok) (he:σ2.env=σ.env) (ho:∀ k,σ2.obj k=if k=k0 then some ⟨sz0,[]⟩else if k=K then some ⟨sz,R++[q++[.own k0 0 0]]⟩else σ.obj k) (hok2:∀ t,σ.ok t=none)
 (h:Ev P N c Q σ2):Ev P N c Q σ:=by
 intro w0 O0 β I a w hr hold;have hold2:Old σ2:=by
  refine⟨fun t k hk=>hold.env t k (by rw[<- he];exact hk),fun k o hk=>?_⟩;rw[ho]at hk;split at hk
  ·injection hk with hk;subst hk;rename_i e;exact⟨by omega,fun r hr=>by cases hr⟩
  ·split at hk
   ·rename_i e;injection hk with hk;subst hk;obtain⟨h1,h2⟩:=hold.obj K _ hK;refine⟨by omega,fun r hr x hx j hj=>?_⟩;rcases aX.1 hr with hr |hr
    ·exact h2 r (List.mem_append_left _ hr) x hx j hj
    ·rw[aO]at hr;subst hr;rcases aX.1 hx with hx |hx
     ·exact h2 (q++[.nilsl]) (by simp) x (List.mem_append_left _ hx) j hj
     ·rw[aO]at hx;subst hx;simp only[refs,aO]at hj;omega
   ·exact hold.obj k o hk
 have hr1:=hr.restrict hold;have hr2:Rel P w0 O0 N (fun j=>(fun k=>if k < 1000000 then β k else none) (if j=k0 then 1000000 else j)) I σ a w:=by
  refine Rel.re (s:=σ) (s':=σ) (f:=fun k=>k) (g:=fun j=>if j=k0 then 1000000 else j) (D:=fun k=>k≠k0) (fun k hk=>by simp[hk]) (fun j hj=>by rw[aD (by omega)]) hr1 (fun t=> .inl (hok2 t)) hok2 (fun t=> .inr ⟨fun k hk e=>hfe t (e ▸ hk),?_⟩) fun j o' hj=>⟨j,o',hj,(hfo j o' hj).1,rfl,rfl,?_⟩
  ·rw[Zl _ fun k _=>rfl];exact Wkn.refl _
  ·have:=Uk (D:=fun k=>k≠k0) (f:=fun k=>k) o'.rows fun r hr k hk e=>(hfo j o' hj).2 r hr (e ▸ hk);have e:o'.rows.map (uG fun k=>k)=o'.rows:=by
    conv=>rhs;rw[<- List.map_id o'.rows]
    exact List.map_congr_left fun r _=>kY r fun k _=>rfl
   rw[e]at this;exact this
 have hn:(fun j=>(fun k=>if k < 1000000 then β k else none) (if j=k0 then 1000000 else j)) k0=none:=by simp
 generalize hβ:(fun j=>(fun k=>if k < 1000000 then β k else none) (if j=k0 then 1000000 else j))=β2 at hr2 hn;obtain⟨hS,hM⟩:=Mem.addNil (i:=k0) (o:=⟨sz0,[]⟩) hr2.mem hn rfl;refine h w0 O0 (ins β2 k0 .none) I a w ⟨hr2.defers,hr2.size,fun t=>?_,?_⟩ hold2
 ·rw[he,hok];exact SlotR.mono hS.ext hS.same hS.inc (hr2.env t)
 ·refine Mem.weak hM fun k o' hk=>?_;rw[ho]at hk;split at hk
  ·rename_i e;subst e;injection hk with hk;subst hk;exact⟨⟨sz0,[]⟩,by simp[dQ],fun _ _ h=>h⟩
  ·rename_i e0;split at hk
   ·rename_i e;subst e;injection hk with hk;subst hk;refine⟨⟨sz,R++[q++[.nilsl]]⟩,by simp only[dQ];rw[aD e0];exact hK,fun B hB hO=>?_⟩;have himp:Imps P (ins β2 k0 .none) w I (q++[.nilsl]) (q++[.own k0 0 0]):=by
     clear hfo hfe hO hK ho
     induction q with
     |nil=>exact⟨fun v hv=>by simp only[VR]at hv ⊢;exact .inl ⟨by simp[ins],hv,trivial,trivial⟩,trivial⟩
     |cons x xs ih=>exact⟨fun _ h=>h,ih⟩
    cases B with
    |none=>simp[OR]at hO
    | «at» b s n=>
     obtain⟨g1,c',e',g2,g3,g4⟩:=hO;exact⟨g1,c',e',g2,g3,(Impss.app himp R).rows g4⟩
    |mp b=>
     obtain⟨es,cl,g1,g2,g3,g4⟩:=hO;have hl:=(Impss.app himp R).length;exact⟨es,cl,g1,by rw[hl];exact g2,fun e=>(Impss.app himp R).mrows (g3 (by rw[<- hl];exact e)),g4⟩
   ·exact⟨o',by simp only[dQ];rw[aD e0];exact hk,fun _ _ h=>h⟩
end Go.Gb
