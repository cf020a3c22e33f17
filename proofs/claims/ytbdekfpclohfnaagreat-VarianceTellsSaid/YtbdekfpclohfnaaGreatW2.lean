import Derived.Test.YtbdekfpclohfnaaGreatW1
import Derived.Lib.AppendZeros
import Derived.MapKept
import Derived.Laws.MakeOwn
import Derived.Maps.RangeRun
open Go.IntKind (i64)
open List (length_take mem_map all_eq_true length_drop map_congr_left)
namespace Go.Gb
open Go.RowKit
def AF(op:BinOp)(b:AV)(yes:Bool):Option Out:=
 match op with
 | .eql=>pv (if yes then b else .t (.sc (.bool false)))
 | .neq=>pv (if yes then b else .t (.sc (.bool true)))
 |_=>none
def tM(T:da)(op:BinOp)(t:TypeId)(x y:AV):Option Out:=
 (T t).bind λti=>match ti.k,x,y with
 | .slice _,.t (.sl rows),.cG=>AF op .ub rows.isEmpty
 | .slice _,.own _ _ len,.cG=>AF op .ub (len==0)
 | .slice _,.cG,.cG=>AF op (.t (.sc (.bool (op== .eql)))) true
 |_,_,_=>none
def HG(T:da)(s d:TypeId)(x:AV):Option Out:=
 (T s).bind λ_=>(T d).bind λdi=>match di.k,x with
 | .int k,.t (.sc (.int _ n))=>pv (.t (.sc (.int k (k.wrap n))))
 |_,_=>none
def Xr(T:da)(t:TypeId)(x j:AV)(n:Int):Option Out:=
 (T t).bind λti=>match ti.k,x,j with
 | .str,.t (.sc (.string s)),.t (.sc (.int _ m))=>gO (.t (.sc (.int .u8 n))) (0<=m/\∃b,s[m.toNat]? =some b/\n=b.toNat)
 | .arr m e,.agg cs,.t (.sc (.int _ q))=>(T e).bind λei=>(part' ei.agg ei.size ((cs.drop (q.toNat*ei.size)).take ei.size)).bind λv=>gO v (0<=q/\q<(m:Int))
 |_,_,_=>none
def F4(T:da)(t:TypeId)(x:AV)(lo hi:Option AV):Option Out:=
 (T t).bind λti=>match ti.k,x with
 | .slice e,.cG=>(T e).bind λ_=>(bnd 0 lo).bind λl=>(bnd 0 hi).bind λh=>gO .cG (l=0/\h=0)
 |_,_=>none
def wD(T:da)(i:Nat)(b:Builtin)(args:List AV)(cQ:List TypeId)(get:Nat->Option aX):Option Out:=
 match b,args,cQ with
 | .cap,[.cG],[t]=>(T t).bind λti=>match ti.k with
  | .slice _=>pv (.t (.sc (.int .i64 0)))
  |_=>none
 | .clear,[.own k ae _],[t]=>(T t).bind λti=>match ti.k with
  | .slice e=>(T e).bind λei=>(get k).bind λo=>if o.sz=ei.size then some ⟨.ey [],[(k,some ⟨o.sz,o.rows.take ae⟩)],[]⟩else none
  |_=>none
 | .append,[.cG,.t (.sc (.int _ m))],[t,u]=>(T t).bind λti=>(T u).bind λui=>match ti.k,ui.k with
  | .slice e,.int _=>(T e).bind λei=>some ⟨.own (cd i) 0 m.toNat,[(cd i,some ⟨ei.size,dX (List.replicate m.toNat (ei.zero.map cv))⟩)],[0<=m/\m.toNat*ei.bytes<=140737488355328/\m.toNat<=maxLen/\0<ei.size]⟩
  |_,_=>none
 |_,_,_=>none
def oC(T:da)(i:Nat)(o:Oper)(n:Int)(ρ:Operand->AV)(get:Nat->Option aX):Option Out:=
 match o.op with
 | .binOp op t x y _=>tM T op t (ρ x) (ρ y)
 | .convert s d x=>HG T s d (ρ x)
 | .index t x j=>Xr T t (ρ x) (ρ j) n
 | .slice t x lo hi none=>F4 T t (ρ x) (lo.map ρ) (hi.map ρ)
 | .call { callee:= .builtin b,args:=args,argTypes:=cQ }=>wD T i b (args.toList.map ρ) cQ.toList get
 |_=>none
section
variable {T:da}
theorem UD{i:Nat}{o:Oper}{b8:fY}{ρ ρ':Operand->AV}{get:Nat->Option aX}(h:∀x∈o.op.operands,ρ x=ρ' x):qz T i o b8 ρ get=qz T i o b8 ρ' get:=by
 obtain⟨dst,op,ty,aE,after,guard⟩:=o;have pairs:∀ps:Array (Nat×Operand),(∀ x∈(ps.toList.map (·.2)).toArray,ρ x=ρ' x)->(ps.toList.map λ(j,x)=>(j,ρ x))=(ps.toList.map λ(j,x)=>(j,ρ' x)):=λps hp=>
  map_congr_left λp hm=>by
   obtain⟨i,x⟩:=p;simp only[hp x (by simp only[List.mem_toArray];exact mem_map.2 ⟨(i,x),hm,rfl⟩)]
 cases op<;>simp only[Op.operands]at h<;>simp only[qz]
 case build t ps=>rw[pairs ps h]
 case buildSlice t n ps=>rw[pairs ps h]
 case makeFunc fn first captured=>
  have h1:first.toList.map ρ=first.toList.map ρ':=map_congr_left λx hx=>h x (by simp;exact .inl (by simpa using hx))
  have h2:captured.toList.map ρ=captured.toList.map ρ':=map_congr_left λx hx=>h x (by simp;exact .inr (by simpa using hx));cases fn<;>simp only[h1,h2]
 case call c=>
  obtain⟨callee,args,cQ⟩:=c;cases callee<;>simp only
  case builtin b=>
   have h1:args.toList.map ρ=args.toList.map ρ':=map_congr_left λx hx=>h x (by simp[Call.operands];simpa using hx);rw[h1]
 case slice t x lo hi mx=>
  have hx:=h x (by simp);cases mx with
  |some m=>rfl
  |none=>
   simp only[hx];cases lo<;>cases hi<;>simp_all
 case pick c a b=>rw[h c (by simp),h a (by simp),h b (by simp)]
 all_goals (first |rfl |(simp_all;done))
theorem rY:∀(l:List Prop),(∀ p∈l,p)->jV l
 |[],_=>trivial
 |[q],h=>h q (by simp)
 |q::r::l,h=>⟨h q (by simp),rY (r::l) λp hp=>h p (dD _ hp)⟩
theorem acW{i:Nat}{o:Oper}{n:Int}{ρ ρ':Operand->AV}{get:Nat->Option aX}(h:∀x∈o.op.operands,ρ x=ρ' x):oC T i o n ρ get=oC T i o n ρ' get:=by
 obtain⟨dst,op,ty,aE,after,guard⟩:=o;cases op<;>simp only[Op.operands]at h<;>simp only[oC]
 case binOp a b c d e=>rw[h c (by simp),h d (by simp)]
 case convert s d x=>rw[h x (by simp)]
 case index t x j=>rw[h x (by simp),h j (by simp)]
 case call c=>
  obtain⟨callee,args,cQ⟩:=c;cases callee<;>simp only
  case builtin b=>
   have h1:args.toList.map ρ=args.toList.map ρ':=map_congr_left λx hx=>h x (by simp[Call.operands];simpa using hx);rw[h1]
 case slice t x lo hi mx=>
  have hx:=h x (by simp);cases mx with
  |some m=>rfl
  |none=>
   simp only[hx];cases lo<;>cases hi<;>simp_all
end
def PA:Op->Bool
 | .pick .. =>true
 |_=>false
def KU(P:Program)(T:da)(i:Nat)(o:Oper)(ag:List Nat)(fr:Operand->AV)(b8:fY)(ρ:Operand->AV)(get:Nat->Option aX):Option Out:=
 if PA o.op then none else(qz T i o b8 fr (λ k=>if k∈ag then none else get k)).bind λaa=>
  some ⟨aa.v,aa.upd++ag.map (λ k=>(k,none)),aa.obs++[∀ x∈o.op.operands,(eV P get (ρ x) (fr x)/\∀k∈refs (ρ x),k∈ag)\/fr x=ρ x]⟩
theorem acX{P:Program}{T:da}{i:Nat}{o:Oper}{ag:List Nat}{fr:Operand->AV}{b8:fY}{ρ ρ':Operand->AV}{get:Nat->Option aX}(h:∀x∈o.op.operands,ρ x=ρ' x):KU P T i o ag fr b8 ρ get=KU P T i o ag fr b8 ρ' get:=by
 unfold KU;have:(∀ x∈o.op.operands,(eV P get (ρ x) (fr x)/\∀k∈refs (ρ x),k∈ag)\/fr x=ρ x)=(∀ x∈o.op.operands,(eV P get (ρ' x) (fr x)/\∀k∈refs (ρ' x),k∈ag)\/fr x=ρ' x):=by
  apply propext;constructor<;>intro hh x hx
  ·rw[<- h x hx];exact hh x hx
  ·rw[h x hx];exact hh x hx
 rw[this]
section
variable {P:Program} {T:da} {w0:World} {O0:gi} {β:Nat->Option cA} {I:Nat->Prop} {obj:Nat->Option aX} {w:World} {i:Nat}
theorem ahk(hT:fE P T){op:BinOp}{t:TypeId}{x y:AV}{xo yo:Operand}{u v:Value}{aa:Out}(ha:tM T op t x y=some aa)(hx:VR P β w I x u)(hy:VR P β w I y v):
 ∃z,(do eqGuard op t xo yo u v;binOp op t u v:Sem Value).run P w= .ok z w/\VR P β w I aa.v z/\aa.upd=[]:=by
 unfold tM at ha;cases hti:T t with
 |none=>simp[hti]at ha
 |some ti=>
  have ht:=hT t ti hti;simp only[hti,ah]at ha;have eq:∀e a n c,P.underlying t=some (.slice e)->(Op.equal t (.slice a n c) (.slice none 0 0)).run P w= .ok a.isNone w:=by
   intro e a n c hu;have:∀d,(Op.equalIn (d+1) t (.slice a n c) (.slice none 0 0)).run P w= .ok a.isNone w:=by
    intro d;cases a<;>simp[Op.equalIn,run_underlying hu]
   exact this 9999
  have main:∀e,P.underlying t=some (.slice e)->∀a n c,u= .slice a n c->v= .slice none 0 0->(op= .eql\/op= .neq)->
   (do eqGuard op t xo yo u v;binOp op t u v:Sem Value).run P w= .ok (.bool (if op= .eql then a.isNone else !a.isNone)) w:=by
   rintro e hu a n c rfl rfl (rfl |rfl)
   ·simp[eqGuard,binOp,eq e a n c hu]
   ·simp[eqGuard,binOp,eq e a n c hu]
  have fin:∀e,P.underlying t=some (.slice e)->∀a n c,u= .slice a n c->v= .slice none 0 0->∀(bv:AV)(yes:Bool),AF op bv yes=some aa->
   (yes=false->a.isNone=false)->(yes=true->∀q,(q=if op= .eql then a.isNone else !a.isNone)->VR P β w I bv (.bool q))->
   ∃z,(do eqGuard op t xo yo u v;binOp op t u v:Sem Value).run P w= .ok z w/\VR P β w I aa.v z/\aa.upd=[]:=by
   intro e hu a n c h1 h2 bv yes hn hno th;unfold AF at hn;split at hn
   ·simp only[pv,aC]at hn;subst hn;refine⟨_,main e hu a n c h1 h2 (.inl rfl),?_,rfl⟩;cases yes with
    |true=>exact th rfl _ rfl
    |false=>simp only[VR,TR,hno rfl];exact⟨by simp,trivial⟩
   ·simp only[pv,aC]at hn;subst hn;refine⟨_,main e hu a n c h1 h2 (.inr rfl),?_,rfl⟩;cases yes with
    |true=>exact th rfl _ rfl
    |false=>simp only[VR,TR,hno rfl];exact⟨by simp,trivial⟩
   ·cases hn
  split at ha
  ·rename_i e rows hk;have hu:=iX ht hk;simp only[VR]at hy;simp only[VR,TR]at hx;rcases hx with ⟨rfl,a,c,rfl,_⟩ |⟨b,ae,c,sz,rfl,_⟩
   ·exact fin _ hu _ _ _ rfl hy _ _ ha (λ h=>by simp at h) (λ _ q _=>by simp only[VR];exact⟨q,rfl⟩)
   ·exact fin _ hu _ _ _ rfl hy _ _ ha (λ _=>rfl) (λ _ q _=>by simp only[VR];exact⟨q,rfl⟩)
  ·rename_i e k ae len hk;have hu:=iX ht hk;simp only[VR]at hx hy;rcases hx with ⟨_,rfl,_,rfl⟩ |⟨b,sz,n,cap,o,_,rfl,_⟩
   ·exact fin _ hu _ _ _ rfl hy _ _ ha (λ h=>by simp at h) (λ _ q _=>by simp only[VR];exact⟨q,rfl⟩)
   ·exact fin _ hu _ _ _ rfl hy _ _ ha (λ _=>rfl) (λ _ q _=>by simp only[VR];exact⟨q,rfl⟩)
  ·rename_i e hk;have hu:=iX ht hk;simp only[VR]at hx hy;subst hx;refine fin _ hu _ _ _ rfl hy _ _ ha (λ h=>by cases h) (λ _ q hq=>?_);simp only[VR,TR,hq];cases op<;>exact⟨by simp,trivial⟩
  ·cases ha
theorem aeV(hT:fE P T){s d:TypeId}{x:AV}{u:Value}{aa:Out}(ha:HG T s d x=some aa)(hx:VR P β w I x u):
 ∃z,(convert s d u).run P w= .ok z w/\VR P β w I aa.v z/\aa.upd=[]:=by
 unfold HG at ha;cases hsi:T s with
 |none=>simp[hsi]at ha
 |some si=>
  cases hdi:T d with
  |none=>simp[hsi,hdi]at ha
  |some di=>
   simp only[hsi,hdi,ah]at ha;split at ha
   ·rename_i k kk n hk;simp only[pv,aC]at ha;subst ha;have⟨info,dd,z,_,h2,_⟩:=(hT s si hsi).ex;have⟨info',dd',z',_,h2',_,_,_,_,_,h8⟩:=(hT d di hdi).ex;rw[hk]at h8;have h8:dd'= .int k:=h8;subst h8;simp only[VR,TR]at hx;obtain⟨rfl,_⟩:=hx;refine⟨.int k (k.wrap n),?_,by simp only[VR,TR];exact⟨trivial,trivial⟩,rfl⟩;simp[convert,run_underlying h2,run_underlying h2',Conv.intToInt]
   ·cases ha
theorem acY(hT:fE P T){t:TypeId}{x j:AV}{n:Int}{u v:Value}{aa:Out}(ha:Xr T t x j n=some aa)(cr:aa.ob)(hx:VR P β w I x u)(hj:VR P β w I j v):
 ∃z,(Instr.index t u v).run P w= .ok z w/\VR P β w I aa.v z/\aa.upd=[]:=by
 unfold Xr at ha;cases hti:T t with
 |none=>simp[hti]at ha
 |some ti=>
  simp only[hti,ah]at ha;split at ha
  ·rename_i s k m hk;simp only[gO,aC]at ha;subst ha;obtain⟨h0,b,hb,rfl⟩:=cr;have⟨info',dd',z',_,h2',_,_,_,_,_,h8⟩:=(hT t ti hti).ex;rw[hk]at h8;have h8:dd'= .string:=h8;subst h8;simp only[VR,TR]at hx hj;obtain⟨rfl,_⟩:=hx;obtain⟨rfl,_⟩:=hj;refine⟨.int .u8 b.toNat,?_,by simp only[VR,TR];exact⟨trivial,trivial⟩,rfl⟩;simp[Instr.index,asIntOf,run_underlying h2',h0,hb]
  ·rename_i m e cs kd q hk;have d8:=F3 (hT t ti hti) hk;cases ed:T e with
   |none=>simp[ed]at ha
   |some ei=>
    simp only[ed,ah]at ha;cases hp:part' ei.agg ei.size ((cs.drop (q.toNat*ei.size)).take ei.size)with
    |none=>simp[hp]at ha
    |some y=>
     simp only[hp,ah,gO,aC]at ha;subst ha;have cr:0<=q/\q<(m:Int):=cr;simp only[VR,TR]at hx hj;obtain⟨vs,rfl,hvs⟩:=hx;obtain⟨rfl,_⟩:=hj;have he:=hT e ei ed;have⟨u,hu,hv⟩:=aeS he hp hvs;refine⟨u,?_,hv,rfl⟩;simp[Instr.index,asIntOf,run_underlying d8,cr.1,cr.2,he.size (w:=w)];simpa using hu
  ·cases ha
theorem Vy(hT:fE P T){t:TypeId}{x:AV}{lo hi:Option AV}{aa:Out}{v:Value}{lp hiv:Option Value}
 (ha:F4 T t x lo hi=some aa) (cr:aa.ob) (hx:VR P β w I x v) (hlo:∀x,lo=some x->∃v,lp=some v/\VR P β w I x v) (hlo0:lo=none->lp=none) (hhi:∀x,hi=some x->∃v,hiv=some v/\VR P β w I x v) (hhi0:hi=none->hiv=none):
 ∃u,(Instr.sliceAt t v lp hiv none).run P w= .ok u w/\VR P β w I aa.v u/\aa.upd=[]:=by
 unfold F4 at ha;cases hti:T t with
 |none=>simp[hti]at ha
 |some ti=>
  have ht:=hT t ti hti;simp only[hti,ah]at ha;split at ha
  ·rename_i e hkd;cases ed:T e with
   |none=>simp[ed]at ha
   |some ei=>
    have he:=hT e ei ed;simp only[ed,ah]at ha;cases hl:bnd 0 lo with
    |none=>simp[hl]at ha
    |some l=>
     cases hh:bnd 0 hi with
     |none=>simp[hl,hh]at ha
     |some r=>
      simp only[hl,hh,ah,gO,aC]at ha;subst ha;obtain⟨rfl,rfl⟩:=cr;simp only[VR]at hx;subst hx;have:=JO (P:=P) (w:=w) (len:=0) (cap:=0) (AR hl hlo hlo0) (AR hh hhi hhi0) (by omega) (by omega) (by omega);refine⟨.slice none 0 0,?_,by simp only[VR],rfl⟩;simp[Instr.sliceAt,Instr.slice,run_underlying (iX ht hkd),this,he.size (w:=w)]
  ·cases ha
theorem bo.congr:∀(rows:List (List AV))(c c':Array Value)(ae sz:Nat),(∀ j,j<ae+rows.length*sz->c'[j]? =c[j]?)->bo P β w I rows c ae sz->bo P β w I rows c' ae sz
 |[],_,_,_,_,_,_=>trivial
 |r::rs,c,c',ae,sz,hc,⟨h1,h2,h3⟩=>by
  have hl:(r::rs).length*sz=sz+rs.length*sz:=by rw[bH,Nat.add_mul];omega
  rw[hl]at hc;refine⟨h1,?_,bo.congr rs c c' (ae+sz) sz (λ j hj=>hc j (by omega)) h3⟩;rw[kU]at h2 ⊢;intro j x hx;have hj:=(fe.1 hx).1;rw[hc (ae+j) (by omega)];exact h2 j x hx
theorem bo.zeros(z:List Value)(sz:Nat)(hz:z.length=sz)(h1:∀v∈z,oneCell v):∀(n:Nat)(c:Array Value)(ae:Nat),(∀ i j,i<n->j<sz->c[ae+i*sz+j]? =z[j]?)->bo P β w I (List.replicate n (z.map cv)) c ae sz
 | 0,_,_,_=>trivial
 |n+1,c,ae,hc=>by
  rw[List.replicate_succ];refine⟨by simpa using hz,?_,bo.zeros z sz hz h1 n c (ae+sz) λi j hi hj=>?_⟩
  ·rw[kU];intro j x hx;simp only[List.getElem?_map,fq]at hx;obtain⟨v,hv,rfl⟩:=hx;have hj:=(fe.1 hv).1;refine⟨v,?_,VR.cv,h1 v (eD hv)⟩;have:=hc 0 j (by omega) (by omega);rw[Nat.zero_mul,Nat.add_zero]at this;rw[this];exact hv
  ·have:=hc (i+1) j (by omega) hj;rw[show ae+sz+i*sz+j=ae+(i+1)*sz+j by rw[Nat.add_mul];omega];exact this
theorem NQ(z:Array Value)(n j:Nat)(h:j<n*z.size):(Builtin.zeroCells z n)[j]? =z[j%z.size]? :=by
 have hz:0<z.size:=Nat.pos_of_ne_zero λe=>by rw[e]at h;omega
 have hm:j%z.size<z.size:=Nat.mod_lt _ hz;simp[Builtin.zeroCells,h,hm]
theorem Vz(hT:fE P T)(h:Mem P w0 O0 β I obj w)(hn:β (cd i)=none){b:Builtin}{args:List AV}{cQ:Array TypeId}{get:Nat->Option aX}{aa:Out}(hg:∀k o,get k=some o->obj k=some o)
 {vs:Array Value} {ty:TypeId} {ao:Array Operand} (ha:wD T i b args cQ.toList get=some aa) (cr:aa.ob) (hv:be P β w I args vs.toList) {r:Operand->Value} (hops:vs=ao.map r) {dst:Option Tmp} {aE:String} {after:Array Edge} {guard:Option (Nat×Bool)}:
 nh P w0 O0 β I obj w i aa ((execOp r ⟨dst,.call { callee:= .builtin b,args:=ao,argTypes:=cQ },ty,aE,after,guard⟩).run P w):=by
 unfold wD at ha;split at ha
 ·rename_i t m5;obtain⟨v,hvs⟩:∃v,vs=#[v]:=by
   obtain⟨l⟩:=vs
   match l,hv with
   |[v],_=>exact⟨v,rfl⟩
   |[],h=>simp[be]at h
   |_::_::_,h=>simp[be]at h
  have ht:cQ=#[t]:=by cases cQ;simpa using m5
  subst hvs ht;simp only[be,VR]at hv;cases hti:T t with
  |none=>simp[hti]at ha
  |some ti=>
   simp only[hti,ah]at ha;split at ha
   ·rename_i e hk;simp only[pv,aC]at ha;subst ha;refine⟨.int .i64 0,w,β,I,.inl ?_,Step.refl ..,h,by simp only[VR,TR];exact⟨trivial,trivial⟩⟩;rw[hv.1]at hops;simp[execOp,resolve,invoke,builtin,<- hops,Builtin.cap_,run_underlying (iX (hT t ti hti) hk),goInt]
   ·cases ha
 ·rename_i k ae len t m5;obtain⟨v,hvs⟩:∃v,vs=#[v]:=by
   obtain⟨l⟩:=vs
   match l,hv with
   |[v],_=>exact⟨v,rfl⟩
   |[],h=>simp[be]at h
   |_::_::_,h=>simp[be]at h
  have ht:cQ=#[t]:=by cases cQ;simpa using m5
  subst hvs ht;simp only[be]at hv;have hv:=hv.1;cases hti:T t with
  |none=>simp[hti]at ha
  |some ti=>
   simp only[hti,ah]at ha;split at ha
   ·rename_i e hkd;cases ed:T e with
    |none=>simp[ed]at ha
    |some ei=>
     cases hk:get k with
     |none=>simp[ed,hk]at ha
     |some o=>
      simp only[ed,hk,ah]at ha;split at ha
      ·rename_i hsz;cases ha;have he:=hT e ei ed;have d8:=iX (hT t ti hti) hkd;obtain⟨info,d,z,g1,g2,g3,g4,g5,g6,g7,g8⟩:=he.ex;have hko:=hg k o hk;have weak:∀{w':World},Mem P w0 O0 β I obj w'->Mem P w0 O0 β I (cZ obj [(k,some ⟨o.sz,o.rows.take ae⟩)]) w':=by
        intro w' hm;refine hm.weak λj o' hj=>?_;simp only[cZ]at hj;split at hj
        ·rename_i e;subst e;cases hj;refine⟨o,hko,λB hB hO=>?_⟩;cases B with
         |none=>simp only[OR]at hO ⊢;simp[hO]
         | «at» b s n=>
          obtain⟨h1,c,e,h2,h3,h4⟩:=hO;exact⟨h1,c,e,h2,h3,bo.take _ _ _ _ _ h4⟩
         |mp b=>
          obtain⟨es,cl,h1,hle,h2,h3⟩:=hO;refine⟨es,cl,h1,by simp only[length_take];omega,λe=>?_,h3⟩;simp only[length_take]at e;simp only;rw[List.take_of_length_le (by omega)];exact h2 (by omega)
        ·exact⟨o',hj,λ_ _ h=>h⟩
       have hdone:∀w',(Builtin.clear_ #[t] ty #[v]).run P w= .ok (.tuple #[]) w'->(execOp r ⟨dst,.call { callee:= .builtin .clear,args:=ao,argTypes:=#[t] },ty,aE,after,guard⟩).run P w= .ok (.value (.tuple #[])) w':=by
        intro w' hw;simp[execOp,resolve,invoke,builtin,<- hops,hw]
       have vu:∀{w':World},VR P β w' I (.ey []) (.tuple #[]):=by
        intro w';simp only[VR];exact⟨#[],rfl,trivial⟩
       simp only[VR]at hv;rcases hv with ⟨h1,rfl,_,rfl⟩ |⟨b,sz,m,cap,a,h1,rfl,h2,h3,h4⟩
       ·exact⟨_,w,β,I,.inl (hdone w (by simp[Builtin.clear_,run_underlying d8])),Step.refl ..,weak h,vu⟩
       ·by_cases h0:len=0
        ·subst h0;exact⟨_,w,β,I,.inl (hdone w (by simp[Builtin.clear_,run_underlying d8])),Step.refl ..,weak h,vu⟩
        ·have⟨B,hB,hO⟩:=h.cw k o hko;rw[h1]at hB;cases hB;obtain⟨hs,c,ce,hc,hcn,hO⟩:=hO;have ha':a=ae*sz:=h4 (by omega);subst ha';have hzs:z.cells.size=ei.size:=(by rw[<- Array.length_toList,g6];exact he.len);have hzl:(Builtin.zeroCells z.cells len).toList.length=len*ei.size:=(by simp[size_zeroCells,hzs]);have hfit:ae*sz+len*ei.size<=c.size:=by
          rw[hcn,<- hsz,<- hs,<- Nat.add_mul];exact Nat.le_trans (Nat.mul_le_mul_right _ (by omega)) h3
         have hone:∀u∈(Builtin.zeroCells z.cells len).toList,u.oneCell'=true:=by
          intro u hu;obtain⟨j,hj⟩:=List.getElem?_of_mem hu;have hjl:=(fe.1 hj).1;rw[hzl,<- hzs]at hjl;rw[Array.getElem?_toList,NQ _ _ _ hjl]at hj;have:u∈ei.zero:=(by rw[<- g6];exact Array.mem_toList_iff.2 (Array.mem_of_getElem? hj));exact oneCell' (pO (all_eq_true.1 he.one u this))
         have hst:=run_storeCells_at P b (ae*sz) ce (Builtin.zeroCells z.cells len).toList 0 c w hc (by rw[hzl];omega) hone;simp only[Nat.add_zero]at hst;generalize hcc:(List.take (ae*sz) c.toList++(Builtin.zeroCells z.cells len).toList++List.drop (ae*sz+(Builtin.zeroCells z.cells len).toList.length) c.toList).toArray=cc at hst;have K2:cc.size=c.size:=(by rw[<- hcc];simp[length_take,length_drop,size_zeroCells,hzs];omega);have hzv:(zeroValue e).run P w= .ok z w:=(by simp[zeroValue,typeInfo,g1,g5]);have hrun:(Builtin.clear_ #[t] ty #[.slice (some ⟨b,ae*sz,none⟩) len cap]).run P w= .ok (.tuple #[]) (w.setRow b cc):=by
          obtain⟨len',rfl⟩:∃len',len=len'+1:=⟨len -1,by omega⟩;simp[Builtin.clear_,run_underlying d8,hzv,hst]
         obtain⟨ry,hM⟩:=Mem.write (o':=⟨o.sz,o.rows.take ae⟩) h hko h1 (c':=cc) (e:=ce) (setRow_heap w b c cc ce (0,0) hc) (λ b' hb=>setRow_other w b b' cc hb) (by simp) rfl rfl rfl hs (by omega) (by
          refine bo.congr _ c cc 0 o.sz (λ j hj=>?_) (by rw[<- hs];exact bo.take _ _ _ _ _ hO);have hj2:j<ae*sz:=by
           rw[hs];refine Nat.lt_of_lt_of_le hj ?_;rw[Nat.zero_add];exact Nat.mul_le_mul_right _ (by simp[length_take];omega)
          rw[<- hcc,List.getElem?_toArray,aN,List.getElem?_append_left (by simp[length_take];omega),List.getElem?_take,aP hj2,Array.getElem?_toList])
         exact⟨_,_,β,I,.inl (hdone _ hrun),⟨λ _ _=>rfl,λ_ _ h=>h,ry,λ_ h=>h⟩,hM,vu⟩
      ·cases ha
   ·cases ha
 ·rename_i kk m t u m5;obtain⟨v,v',hvs⟩:∃v v',vs=#[v,v']:=by
   obtain⟨l⟩:=vs
   match l,hv with
   |[v,v'],_=>exact⟨v,v',rfl⟩
   |[],h=>simp[be]at h
   |[_],h=>simp[be]at h
   |_::_::_::_,h=>simp[be]at h
  have ht:cQ=#[t,u]:=by cases cQ;simpa using m5
  subst hvs ht;simp only[be,VR,TR]at hv;obtain⟨rfl,⟨rfl,_⟩,_⟩:=hv;cases hti:T t with
  |none=>simp[hti]at ha
  |some ti=>
   cases t5:T u with
   |none=>simp[hti,t5]at ha
   |some ui=>
    simp only[hti,t5,ah]at ha;split at ha
    ·rename_i e kn hkd wa;cases ed:T e with
     |none=>simp[ed]at ha
     |some ei=>
      simp only[ed,ah,aC]at ha;subst ha;obtain⟨m0,m48,CA,mpos⟩:=cr;have he:=hT e ei ed;have d8:=iX (hT t ti hti) hkd;obtain⟨info,d,z,g1,g2,g3,g4,g5,g6,g7,g8⟩:=he.ex;have⟨_,dd',_,_,h2',_,_,_,_,_,h8⟩:=(hT u ui t5).ex;rw[wa]at h8;have h8:dd'= .int kn:=h8;subst h8;obtain⟨n,rfl⟩:∃n:Nat,m=(n:Int):=⟨m.toNat,by omega⟩;simp only[Int.toNat_natCast]at m48 CA ⊢;by_cases h0:n=0
      ·subst h0;have⟨hS,hM⟩:=Mem.lO (i:=cd i) (o:=⟨ei.size,[]⟩) h hn rfl;have hrun:(Builtin.append_ #[t,u] ty #[.slice none 0 0,.int kk ((0:Nat):Int)]).run P w= .ok (.slice none 0 0) w:=by
        have hw0:i64.wrap (0:Int)=0:=(by decide);simp[Builtin.append_,run_underlying d8,run_underlying h2',sizeOf,typeInfo,g1,asInt,asIntOf,hw0]
       replace hrun:(Builtin.append_ #[t,u] ty #[.slice none 0 0,.int kk 0]).run P w= .ok (.slice none 0 0) w:=hrun
       refine⟨.slice none 0 0,w,_,I,.inl (by simp[execOp,resolve,invoke,builtin,<- hops,hrun]),hS,by simpa[dX]using hM,by simp only[VR];exact .inl ⟨by simp[ins],trivial,trivial,trivial⟩⟩
      ·have hrun:=Lib.run_append_nil_zeros (P:=P) w t u ty e info z kk kn d8 h2' g1 g5 n (by omega) (by omega) (by simp only[maxLen]at CA;omega) (by rw[g4];omega);have hd:=h.drew;have hzs:z.cells.size=ei.size:=(by rw[<- Array.length_toList,g6];exact he.len);have hge:=grownCap_ge w n 0 e;generalize hC:Builtin.zeroCells z.cells n++Builtin.zeroCells z.cells (grownCap w n 0 e -n)=cs at hrun;have hcs:cs.size=grownCap w n 0 e*ei.size:=by
        rw[<- hC];simp only[Array.size_append,size_zeroCells,hzs,<- Nat.add_mul];rw[show n+(grownCap w n 0 e -n)=grownCap w n 0 e by omega]
       obtain⟨hS,hM⟩:=Mem.alloc (i:=cd i) (o:=⟨ei.size,List.replicate n (ei.zero.map cv)⟩) (c:=cs) (e:=e) hd hn (by
        refine bo.zeros ei.zero ei.size he.len (λ v hv=>pO (all_eq_true.1 he.one v hv)) n cs 0 (λ i j hi hj=>?_);have hlt:0+i*ei.size+j<n*ei.size:=by
         have:(i+1)*ei.size<=n*ei.size:=Nat.mul_le_mul_right _ (by omega);rw[Nat.add_mul]at this;omega
        rw[<- hC,Array.getElem?_append_left (by simpa[size_zeroCells,hzs]using hlt),NQ _ _ _ (by rw[hzs];exact hlt),hzs,<- g6,Array.getElem?_toList];congr 1;rw[Nat.zero_add,Nat.mul_comm,Nat.mul_add_mod,Nat.mod_eq_of_lt hj])
       refine⟨_,_,_,I,.inl (by simp[execOp,resolve,invoke,builtin,<- hops,hrun];rfl),⟨hS.other,hS.ext,λb hb=>hS.same b hb,hS.inc⟩,hM.s4,?_⟩;simp only[VR];refine .inr ⟨w.heap.size,ei.size,_,_,0,by simp[ins];rfl,rfl,hge,?_,by simp⟩;rw[hcs,Nat.zero_add];exact aT _
    ·cases ha
 ·cases ha
theorem acZ(hT:fE P T)(h:Mem P w0 O0 β I obj w)(hn:β (cd i)=none){o:Oper}{n:Int}{ρ:Operand->AV}{get:Nat->Option aX}{aa:Out}(hg:∀k o,get k=some o->obj k=some o)
 {r:Operand->Value} (hρ:∀x,VR P β w I (ρ x) (r x)) (ha:oC T i o n ρ get=some aa) (cr:aa.ob):nh P w0 O0 β I obj w i aa ((execOp r o).run P w):=by
 obtain⟨dst,op,ty,aE,after,guard⟩:=o;have val:∀{s:Sem Value}{z:Value},s.run P w= .ok z w->aa.upd=[]->VR P β w I aa.v z->nh P w0 O0 β I obj w i aa ((do pure (.value (<- s)):Sem Next).run P w):=by
  intro s z h1 h2 h3;refine⟨z,w,β,I,.inl (by simp[h1]),Step.refl ..,by rw[h2];exact h,h3⟩
 unfold oC at ha;split at ha
 ·rename_i L5 t x y q heq;simp only at heq;subst heq;have⟨z,h1,h2,h3⟩:=ahk (xo:=x) (yo:=y) hT ha (hρ x) (hρ y);exact val h1 h3 h2
 ·rename_i s d x heq;simp only at heq;subst heq;have⟨z,h1,h2,h3⟩:=aeV hT ha (hρ x);exact val h1 h3 h2
 ·rename_i t x j heq;simp only at heq;subst heq;have⟨z,h1,h2,h3⟩:=acY hT ha cr (hρ x) (hρ j);exact val h1 h3 h2
 ·rename_i t x lo hi heq;simp only at heq;subst heq;obtain⟨z,h1,h2,h3⟩:=Vy (lp:=lo.map r) (hiv:=hi.map r) hT ha cr (hρ x) (λ y hy=>by
   cases lo with
   |none=>cases hy
   |some q=>cases hy;exact⟨r q,rfl,hρ q⟩) (λ h=>by cases lo<;>first |rfl |cases h) (λ y hy=>by
   cases hi with
   |none=>cases hy
   |some q=>cases hy;exact⟨r q,rfl,hρ q⟩) (λ h=>by cases hi<;>first |rfl |cases h)
  exact val h1 h3 h2
 ·rename_i b args cQ heq;simp only at heq;subst heq;exact Vz hT h hn hg ha cr (by rw[Array.toList_map];exact be.map hρ _) rfl
 ·cases ha
theorem ac0(hT:fE P T)(h:Mem P w0 O0 β I obj w)(hn:β (cd i)=none){o:Oper}{ag:List Nat}{fr:Operand->AV}{b8:fY}{ρ:Operand->AV}{get:Nat->Option aX}{aa:Out}(hg:∀k o,get k=some o->obj k=some o)
 {r:Operand->Value} (hρ:∀x,VR P β w I (ρ x) (r x)) (ha:KU P T i o ag fr b8 ρ get=some aa) (cr:aa.ob):nh P w0 O0 β I obj w i aa ((execOp r o).run P w):=by
 unfold KU at ha;split at ha
 ·cases ha
 rw[aj]at ha;obtain⟨out',h1,h2⟩:=ha;cases h2;have cr:=qZ _ cr;have hb:=cr (∀ x∈o.op.operands,(eV P get (ρ x) (fr x)/\∀k∈refs (ρ x),k∈ag)\/fr x=ρ x) (by simp);have hsub:∀k o',cZ obj (ag.map λk=>(k,none)) k=some o'->obj k=some o'/\k∉ag:=by
  intro k o' hk;rw[AU]at hk;split at hk
  ·cases hk
  ·exact⟨hk,‹_›⟩
 have hd:=h.drop (cZ obj (ag.map λk=>(k,none))) (λ k o hk=>(hsub k o hk).1);obtain⟨_,hM⟩:=hd.below (I':=eJ β obj ag I) (w':=w) ⟨rfl,rfl,rfl,aT _,λ_ _=>rfl⟩ (λ b hb=> .inl hb) (P6 h ag) (λ b k o B hb' e1 e2 e3=>by
  have⟨f1,f2⟩:=hsub k o e1;have⟨a1,_,_⟩:=h.ownB k o B b f1 e2 e3;rcases hb' with h5 |⟨k',o',s',n',g1,g2,g3⟩
  ·exact a1 h5
  ·have:=h.kq k k' o o' b f1 g2 ⟨B,e2,e3⟩ (.at g3);subst this;exact f2 g1) (λ b hb'=>by
  rcases hb' with h5 |⟨k',o',s',n',g1,g2,g3⟩
  ·exact h.up b h5
  ·exact .inr (h.own k' o' b s' n' g2 g3).2.2)
 have hfr:∀x,VR P β w (eJ β obj ag I) ((λ x=>open Classical in if x∈o.op.operands then fr x else .undef) x) (r x):=by
  intro x;by_cases hx:x∈o.op.operands
  ·simp only[hx,if_true];rcases hb x hx with ⟨b1,b2⟩ |b1
   ·exact VR.mono (λ k B h=>by simp[km]at h) (λ _ _=>rfl) (λ _ h=>h) _ _ (eV.sound h ag _ _ _ b2 (eV.weaken hg _ _ b1) (hρ x))
   ·rw[b1];exact VR.mono (λ _ _ h=>h) (λ _ _=>rfl) (λ _ h=> .inl h) _ _ (hρ x)
  ·simp only[hx,if_false,VR]
 rw[UD (ρ':=λx=>open Classical in if x∈o.op.operands then fr x else .undef) (λ x hx=>by simp only[hx,if_true])]at h1;obtain⟨v',w',β',I',k1,k2,k3,k4⟩:=UB hT hM hn (λ k o' hk=>by
  rw[AU];split at hk
  ·cases hk
  ·rw[aM ‹_›];exact hg k o' hk) hfr h1 (rY _ λp hp=>cr p (by simp[hp]))
 refine⟨v',w',β',I',k1,⟨k2.other,k2.ext,λb hb=>k2.same b (.inl hb),λb hb=>k2.inc b (.inl hb)⟩,?_,k4⟩;have e:cZ obj (out'.upd++ag.map λk=>(k,none))=cZ (cZ obj (ag.map λk=>(k,none))) out'.upd:=funext λk=>tK obj _ _ k;rw[e];exact k3
end
open Go.RowKit Go.MapKept
def P8:u4->Value->Bool
 | .int a,.int b _=>decide (a=b)
 | .str,.string _=>true
 | .bool,.bool _=>true
 |_,_=>false
def UE:Value->Value->Option Bool
 | .int k a,.int k' b=>if k=k' then some (a==b)else none
 | .string a,.string b=>some (a.toList==b.toList)
 | .bool a,.bool b=>some (a==b)
 |_,_=>none
def UF(key:Value):List (List AV)->Option (Option (Nat×AV))
 |[]=>some none
 |[.t (.sc kv),y]::rs=>(UE key kv).bind λb=>if b then some (some (0,y))else(UF key rs).map λr=>r.map λp=>(p.1+1,p.2)
 |_=>none
def tS(key:Value)(y':AV):List (List AV)->Option (List (List AV))
 |[]=>some [[.t (.sc key),y']]
 |[.t (.sc kv),y]::rs=>(UE key kv).bind λb=>if b then some ([.t (.sc key),y']::rs)else(tS key y' rs).map λr=>[.t (.sc kv),y]::r
 |_=>none
def zt:AV->AV
 | .agg cs=> .agg (cs.map wk)
 |x=>wk x
def KV(T:da)(i:Nat)(t:TypeId):Option Out:=
 (T t).bind λti=>match ti.k with
 | .map _ _=>some ⟨.mp (cd i),[(cd i,some ⟨0,[]⟩)],[]⟩
 |_=>none
def GG(r:Option (Nat×AV))(z:Option AV):Option AV:=match r with
 |some p=>some p.2
 |none=>z
def MJ(T:da)(t:TypeId)(x key:AV)(ok:Bool)(get:Nat->Option aX):Option Out:=
 (T t).bind λti=>match ti.k,x,key with
 | .map kt et,.mp k,.t (.sc kv)=>(T kt).bind λki=>(T et).bind λei=>(get k).bind λo=>if P8 ki.k kv=true/\o.sz=o.rows.length then(UF kv o.rows).bind λr=>
  (GG r (part' ei.agg ei.size ((ei.zero.map cv).map wk))).bind λv=>pv (if ok then .ey [v,.t (.sc (.bool r.isSome))]else v)else none
 |_,_,_=>none
def P9(T:da)(t:TypeId)(x key y:AV)(get:Nat->Option aX):Option Out:=
 (T t).bind λti=>match ti.k,x,key with
 | .map kt _,.mp k,.t (.sc kv)=>(T kt).bind λki=>(get k).bind λo=>if P8 ki.k kv=true/\o.sz=o.rows.length then(tS kv (zt y) o.rows).bind λrs=>
  some ⟨.undef,[(k,some ⟨rs.length,rs⟩)],[]⟩else none
 |_,_,_=>none
section
variable {P:Program} {T:da} {w0:World} {O0:gi} {β:Nat->Option cA} {I:Nat->Prop} {obj:Nat->Option aX} {w:World} {i:Nat}
theorem akl{k:u4}{v:Value}{d:TypeDesc}(h:P8 k v=true)(hd:I0 k d):IsKey d v:=by
 unfold P8 at h;split at h
 ·rename_i a b n;have hd:d= .int a:=hd;subst hd;simp only[aG]at h;subst h;simp[IsKey]
 ·have hd:d= .string:=hd;subst hd;simp[IsKey]
 ·have hd:d= .bool:=hd;subst hd;simp[IsKey]
 ·cases h
theorem abu{d:TypeDesc}{a b:Value}(ha:IsKey d a){r:Bool}(h:UE a b=some r):Instr.sameNow d a b=some r/\(r=true->a=b)/\IsKey d b:=by
 unfold UE at h;split at h
 ·rename_i k x k' y;split at h
  ·rename_i hk;subst hk;cases h;cases d<;>simp only[IsKey]at ha ⊢
   all_goals first |exact ha.elim |skip
   subst ha;refine⟨by simp[Instr.sameNow],λhh=>?_,rfl⟩;rw[eq_of_beq hh]
  ·cases h
 ·rename_i x y;cases h;cases d<;>simp only[IsKey]at ha ⊢
  all_goals first |exact ha.elim |skip
  have e:(x==y)=(x.toList==y.toList):=by
   rw[eu,bytes_beq];constructor
   ·rintro rfl;simp
   ·intro hh;have:=eq_of_beq hh;cases x;cases y;simp only[ByteArray.toList_eq]at this;congr 1;exact Array.ext' this
  refine⟨by simp[Instr.sameNow,e],λhh=>?_,trivial⟩;rw[(bytes_beq x y).1 (e ▸ hh)]
 ·rename_i x y;cases h;cases d<;>simp only[IsKey]at ha ⊢
  all_goals first |exact ha.elim |skip
  exact⟨by simp[Instr.sameNow],λhh=>by rw[eq_of_beq hh],trivial⟩
 ·cases h
theorem UG{d:TypeDesc}{key:Value}(hk:IsKey d key):∀(rows:List (List AV))(es:List MapEntry)(i:Nat)(r:Option (Nat×AV)),co P β w I rows es->UF key rows=some r->
 (r=none/\Instr.findNow d key es i=some none)\/∃j y e,r=some (j,y)/\Instr.findNow d key es i=some (some (i+j,e.val))/\es[j]? =some e/\e.key=key/\VR P β w I y e.val
 |[],[],i,r,_,h=>by simp only[UF,aC]at h;exact .inl ⟨h.symm,rfl⟩
 |row::rows,e::es,i,r,hm,h=>by
  obtain⟨h1,h2⟩:=hm;unfold UF at h;split at h
  ·rename_i heq;cases heq
  ·rename_i kv y rs heq;injection heq with e1 e2;subst e1;subst e2;simp only[be,VR,TR]at h1;obtain⟨⟨g1,_⟩,g2,_⟩:=h1;rw[aj]at h;obtain⟨b,h3,h⟩:=h;rw[<- g1]at h3;have⟨q1,q2,_⟩:=abu hk h3;cases b with
   |true=>
    simp only[if_true,aC]at h;subst h;exact .inr ⟨0,y,e,rfl,by simp[Instr.findNow,q1],rfl,(q2 rfl).symm,g2⟩
   |false=>
    simp only[Bool.false_eq_true,if_false,fq]at h;obtain⟨r',h4,rfl⟩:=h;rcases UG hk rows es (i+1) r' h2 h4 with ⟨rfl,a2⟩ |⟨j,y',e',rfl,a2,a3,a4,a5⟩
    ·exact .inl ⟨rfl,by simp[Instr.findNow,q1,a2]⟩
    ·exact .inr ⟨j+1,y',e',rfl,by simp only[Instr.findNow,q1,a2];congr 3;omega,by simpa using a3,a4,a5⟩
  ·cases h
 |[],_::_,_,_,hm,_=>hm.elim
 |_::_,[],_,_,hm,_=>hm.elim
theorem Xt{d:TypeDesc}{key v:Value}{y':AV}(hk:IsKey d key)(hv:VR P β w I y' v)(hkv:oneCell key):∀(rows:List (List AV))(es:List MapEntry)(i:Nat)(rs':List (List AV)),co P β w I rows es->tS key y' rows=some rs'->
 (Instr.findNow d key es i=some none/\∀n,co P β w I rs' (es++[⟨key,v,n⟩]))\/∃j e,Instr.findNow d key es i=some (some (i+j,e.val))/\es[j]? =some e/\e.key=key/\co P β w I rs' (es.modify j λe=>{ e with key:=key,val:=v })
 |[],[],i,r,_,h=>by
  simp only[tS,aC]at h;subst h;refine .inl ⟨rfl,λn=>?_⟩;simp only[bI,co,be,VR,TR];exact⟨⟨⟨trivial,hkv⟩,hv,trivial⟩,trivial⟩
 |row::rows,e::es,i,r,hm,h=>by
  obtain⟨h1,h2⟩:=hm;unfold tS at h;split at h
  ·rename_i heq;cases heq
  ·rename_i kv y rs heq;injection heq with e1 e2;subst e1;subst e2;have h1':=h1;simp only[be,VR,TR]at h1;obtain⟨⟨g1,g1'⟩,g2,_⟩:=h1;rw[aj]at h;obtain⟨b,h3,h⟩:=h;rw[<- g1]at h3;have⟨q1,q2,_⟩:=abu hk h3;cases b with
   |true=>
    simp only[if_true,aC]at h;subst h;refine .inr ⟨0,e,by simp[Instr.findNow,q1],rfl,(q2 rfl).symm,?_⟩;simp only[List.modify_zero_cons,co,be,VR,TR];exact⟨⟨⟨trivial,hkv⟩,hv,trivial⟩,h2⟩
   |false=>
    simp only[Bool.false_eq_true,if_false,fq]at h;obtain⟨r',h4,rfl⟩:=h;rcases Xt hk hv hkv rows es (i+1) r' h2 h4 with ⟨a1,a2⟩ |⟨j,e',a1,a2,a3,a4⟩
    ·exact .inl ⟨by simp[Instr.findNow,q1,a1],λn=>⟨h1',a2 n⟩⟩
    ·refine .inr ⟨j+1,e',by simp only[Instr.findNow,q1,a1];congr 3;omega,by simpa using a2,a3,?_⟩;simp only[List.modify_succ_cons,co];exact⟨h1',a4⟩
  ·cases h
 |[],_::_,_,_,hm,_=>hm.elim
 |_::_,[],_,_,hm,_=>hm.elim
theorem Mem.qu{k:Nat}{o o':aX}{b:Nat}{es:Array MapEntry}{cl:Nat}{w':World}(h:Mem P w0 O0 β I obj w)(hk:obj k=some o)(hβ:β k=some (.mp b))
 (hnew:w'.heap[b]? =some (.map es cl)) (hother:∀b',b'≠b->w'.heap[b']? =w.heap[b']?) (hsize:w'.heap.size=w.heap.size) (hos:w'.os=w.os) (rm:w'.tape=w.tape) (hout:w'.output=w.output)
 (hle:o'.rows.length<=o'.sz) (hr:co P β w I o'.rows es.toList) (hnd:(es.toList.map (·.born)).Nodup) (hlt':∀e∈es.toList,e.born<cl):
 Same I w w'/\Mem P w0 O0 β I (cZ obj [(k,some o')]) w':=by
 obtain⟨Ks,hlt,hO⟩:=h.fS k o b hk ⟨_,hβ,rfl⟩;have hs:Same I w w':=λb' hb=>hother b' (λ e=>Ks (e ▸ hb));have hx:∀(j:Nat)(o1:aX),cZ obj [(k,some o')] j=some o1->∃o2,obj j=some o2:=λj o1 h=>by
  simp only[cZ]at h;split at h
  ·rename_i e;exact⟨o,by rw[e];exact hk⟩
  ·exact⟨_,h⟩
 refine⟨hs,?_⟩;constructor
 ·intro j oj hj;simp only[cZ]at hj;split at hj
  ·rename_i hjk;cases hj;exact⟨.mp b,by rw[hjk];exact hβ,es,cl,hnew,hle,λ_=>co.mono (λ _ _ h=>h) hs (λ _ h=>h) _ _ hr,hnd,hlt'⟩
  ·rename_i hjk;have⟨B,hB,oY⟩:=h.cw j oj hj;refine⟨B,hB,OR.mono (λ _ _ h=>h) hs (λ _ h=>h) (λ b1 e1=>hother b1 (λ e2=>hjk ?_)) oY⟩;subst e2;exact h.eR j k oj o B _ b1 hj hk hB hβ e1 rfl
 ·intro j j' o1 o2 B1 B2 b1 h1 h2 h3 h4 h5 h6;have⟨p1,q1⟩:=hx j o1 h1;have⟨p2,q2⟩:=hx j' o2 h2;exact h.eR j j' p1 p2 B1 B2 b1 q1 q2 h3 h4 h5 h6
 ·intro j o1 B1 b1 h1 h2 h3;have⟨p1,q1⟩:=hx j o1 h1;have:=h.ownB j p1 B1 b1 q1 h2 h3;rw[hsize];exact this
 ·intro b1 hb1;rw[hsize];exact h.lt b1 hb1
 ·exact h.up
 ·intro b1 hb1 hno;rw[hother b1 (λ e1=>?_)]
  ·exact h.keep b1 hb1 hno
  ·subst e1;rcases hO with hO |hO
   ·exact hno hO
   ·omega
 ·rw[hsize];exact h.le
 ·rw[hos];exact h.os
 ·rw[rm];exact h.tape
 ·rw[hout];exact h.output
 ·exact h.anch
 ·exact h.vars.mono hs (λ _ h=>h)
theorem Mem.yf(h:Mem P w0 O0 β I obj w)(hn:β i=none):
 Step β I w i (ins β i (.mp w.heap.size)) I (w.alloc (.map #[] 0))/\Mem P w0 O0 (ins β i (.mp w.heap.size)) I (cZ obj [(i,some ⟨0,[]⟩)]) (w.alloc (.map #[] 0)):=by
 have hS:Step β I w i (ins β i (.mp w.heap.size)) I (w.alloc (.map #[] 0)):=
  ⟨λ k hk=>by simp[ins,fR.ne hk],mU hn,Same.alloc h.lt _,λ_ h=>h⟩
 refine⟨hS,?_⟩;constructor
 ·intro k o' hk;simp only[cZ]at hk;split at hk
  ·cases hk;rename_i hki;exact⟨.mp w.heap.size,by simp[ins,hki],#[],0,heap_alloc_new w _,aT _,λ_=>trivial,by simp,by simp⟩
  ·have⟨B,hB,hO⟩:=h.cw k o' hk;exact⟨B,mU hn _ _ hB,OR.mono hS.ext hS.same hS.inc (λ b hb=>qX (h.ownB k o' B b hk hB hb).2.1) hO⟩
 ·intro k k' o1 o2 B B' b h1 h2 h3 h4 h5 h6;simp only[cZ]at h1 h2;simp only[ins]at h3 h4;split at h1<;>split at h2
  ·rename_i a b;rw[a,b]
  ·rename_i hki ly;simp only[hki,if_true,aC]at h3;simp only[ly,if_false]at h4;subst h3;injection h5 with h5;have:=(h.ownB k' o2 B' b h2 h4 h6).2.1;omega
  ·rename_i hki ly;simp only[ly,if_true,aC]at h4;simp only[hki,if_false]at h3;subst h4;injection h6 with h6;have:=(h.ownB k o1 B b h1 h3 h5).2.1;omega
  ·rename_i hki ly;simp only[hki,ly,if_false]at h3 h4;exact h.eR k k' o1 o2 B B' b h1 h2 h3 h4 h5 h6
 ·intro k o' B b h1 h2 h3;simp only[cZ]at h1;simp only[ins]at h2;split at h1
  ·rename_i hki;simp only[hki,if_true,aC]at h2;subst h2;injection h3 with h3;refine⟨λ hI=>?_,?_,.inr ?_⟩
   ·have:=h.lt b hI;omega
   ·simp;omega
   ·have:=h.le;omega
  ·rename_i hki;simp only[hki,if_false]at h2;have⟨a,b',c'⟩:=h.ownB k o' B b h1 h2 h3;exact⟨a,by simp;omega,c'⟩
 ·intro b hb;have:=h.lt b hb;simp;omega
 ·exact h.up
 ·intro b hb hO;rw[qX (by have:=h.le;omega)];exact h.keep b hb hO
 ·have:=h.le;simp;omega
 ·exact h.os
 ·exact h.tape
 ·exact h.output
 ·intro j B hj;exact mU hn _ _ (h.anch j B hj)
 ·exact h.vars.mono (Same.alloc h.lt _) (λ _ h=>h)
theorem aeW{t:TypeId}{ti:ky}(ht:gS P t ti){k e:TypeId}(h:ti.k= .map k e):P.underlying t=some (.map k e):=by
 obtain⟨info,d,z,_,h2,_,_,_,_,_,h8⟩:=ht.ex;rw[h]at h8;have h8:d= .map k e:=h8;rw[h2,h8]
theorem aeX{t:TypeId}{ti:ky}(ht:gS P t ti){v:Value}(h:P8 ti.k v=true):∃d,P.underlying t=some d/\IsKey d v:=by
 obtain⟨info,d,z,_,h2,_,_,_,_,_,h8⟩:=ht.ex;exact⟨d,h2,akl h h8⟩
theorem aod{k:u4}{v:Value}(h:P8 k v=true):oneCell v:=by
 unfold P8 at h;split at h
 ·exact trivial
 ·exact trivial
 ·exact trivial
 ·cases h
theorem aoe{t:TypeId}{ti:ky}(ht:gS P t ti){v:AV}(hp:part' ti.agg ti.size ((ti.zero.map cv).map wk)=some v):∃z,(zeroValue t).run P w= .ok z w/\VR P β w I v z:=by
 obtain⟨info,d,z,h1,h2,h3,h4,h5,h6,h7,h8⟩:=ht.ex;refine⟨z,by simp[zeroValue,typeInfo,h1,h5],?_⟩;obtain⟨_,_,g1,g2⟩:=OC (P:=P) (β:=β) (w:=w) (I:=I) hp (be.wk _ _ (be.cv ti.zero));have hf:=ht.form info z h1 h5;cases ha:ti.agg with
 |true=>
  rw[ha]at hf;cases z<;>simp only[pt,Bool.not_true,reduceCtorEq]at hf;rename_i cs;have:=g1 ha;simp only[Value.cells]at h6;rw[<- h6]at this;simpa using this
 |false=>
  rw[ha]at hf;have h1c:oneCell z:=by cases z<;>simp only[pt,reduceCtorEq,Bool.not_false,Bool.not_true,Bool.false_eq_true]at hf<;>trivial
  have⟨u,e1,e2⟩:=g2 ha;rw[cells_one h1c]at h6;simp only at h6;rw[<- h6]at e1;cases e1;exact e2
theorem Xu(h:Mem P w0 O0 β I obj w)(hn:β (cd i)=none){t:TypeId}{aa:Out}(ha:KV T i t=some aa){r:Operand->Value}
 {dst:Option Tmp} {ty:TypeId} {aE:String} {after:Array Edge} {guard:Option (Nat×Bool)}:nh P w0 O0 β I obj w i aa ((execOp r ⟨dst,.makeMap t none,ty,aE,after,guard⟩).run P w):=by
 unfold KV at ha;cases hti:T t with
 |none=>simp[hti]at ha
 |some ti=>
  simp only[hti,ah]at ha;split at ha
  ·cases ha;have⟨hS,hM⟩:=Mem.yf h hn;refine⟨.map (some w.heap.size),_,_,I,.inl ?_,hS,hM,?_⟩
   ·simp[execOp,Instr.makeMap]
   ·simp only[VR];exact⟨_,by simp[ins],rfl⟩
  ·cases ha
theorem Z7(hT:fE P T)(h:Mem P w0 O0 β I obj w){t:TypeId}{x key:AV}{ok:Bool}{get:Nat->Option aX}{aa:Out}(hg:∀k o,get k=some o->obj k=some o){u kv:Value}
 (ha:MJ T t x key ok get=some aa) (hx:VR P β w I x u) (hk:VR P β w I key kv):∃z,(Instr.lookup t u kv ok).run P w= .ok z w/\VR P β w I aa.v z/\aa.upd=[]:=by
 unfold MJ at ha;cases hti:T t with
 |none=>simp[hti]at ha
 |some ti=>
  simp only[hti,ah]at ha;split at ha
  ·rename_i kt et k kv' hk1;rw[aj]at ha;obtain⟨ki,hki,ha⟩:=ha;rw[aj]at ha;obtain⟨ei,ed,ha⟩:=ha;rw[aj]at ha;obtain⟨o,ho,ha⟩:=ha;split at ha
   ·rename_i hc;rw[aj]at ha;obtain⟨r,hr,ha⟩:=ha;rw[aj]at ha;obtain⟨v,hv,ha⟩:=ha;simp only[pv,aC]at ha;subst ha;simp only[VR,TR]at hx hk;obtain⟨b,hβ,rfl⟩:=hx;obtain⟨rfl,_⟩:=hk;have⟨B,hB,hO⟩:=h.cw k o (hg k o ho);rw[hβ]at hB;cases hB;obtain⟨es,cl,g1,g2,g3,g4⟩:=hO;have hu:=aeW (hT t ti hti) hk1;have⟨d,hd,hkey⟩:=aeX (hT kt ki hki) hc.1;rcases UG hkey o.rows es.toList 0 r (g3 hc.2) hr with ⟨rfl,a2⟩ |⟨j,y,e,rfl,a2,a3,a4,a5⟩
    ·have⟨z,hz,hzv⟩:=aoe (β:=β) (I:=I) (w:=w) (hT et ei ed) hv;cases ok with
     |true=>
      refine⟨.tuple #[z,.bool false],?_,?_,rfl⟩
      ·simp[Instr.lookup,run_underlying hu,MapKept.run_getObj_map g1,run_checkKey hd hkey,run_findKey hd a2,hz,Result.andThen]
      ·simp only[if_true,VR];exact⟨_,rfl,by simp only[be,VR,TR];exact⟨hzv,⟨rfl,trivial⟩,trivial⟩⟩
     |false=>
      refine⟨z,?_,by simpa using hzv,rfl⟩;simp[Instr.lookup,run_underlying hu,MapKept.run_getObj_map g1,run_checkKey hd hkey,run_findKey hd a2,hz,Result.andThen]
    ·simp only[GG,aC]at hv;subst hv;cases ok with
     |true=>
      refine⟨.tuple #[e.val,.bool true],?_,?_,rfl⟩
      ·simp[Instr.lookup,run_underlying hu,MapKept.run_getObj_map g1,run_checkKey hd hkey,run_findKey hd a2,Result.andThen]
      ·simp only[if_true,VR];exact⟨_,rfl,by simp only[be,VR,TR];exact⟨a5,⟨rfl,trivial⟩,trivial⟩⟩
     |false=>
      refine⟨e.val,?_,by simpa using a5,rfl⟩;simp[Instr.lookup,run_underlying hu,MapKept.run_getObj_map g1,run_checkKey hd hkey,run_findKey hd a2,Result.andThen]
   ·cases ha
  ·cases ha
theorem apm{x:AV}{v:Value}(h:VR P β w I x v):VR P β w I (zt x) v:=by
 cases x<;>simp only[zt]<;>try exact h.wk
 simp only[VR]at h ⊢;obtain⟨vs,h1,h2⟩:=h;exact⟨vs,h1,be.wk _ _ h2⟩
theorem ac2{d:TypeDesc}{v:Value}(h:IsKey d v):Instr.sameBits 10000 v v=true:=by cases d<;>cases v<;>simp only[IsKey]at h<;>simp_all [Instr.sameBits,bytes_beq]
theorem Z8(hT:fE P T)(h:Mem P w0 O0 β I obj w){t:TypeId}{x key y:AV}{get:Nat->Option aX}{aa:Out}(hg:∀k o,get k=some o->obj k=some o){u kv v:Value}
 (ha:P9 T t x key y get=some aa) (hx:VR P β w I x u) (hk:VR P β w I key kv) (hy:VR P β w I y v):∃w',(Instr.mapUpdate t u kv v).run P w= .ok () w'/\Same I w w'/\Mem P w0 O0 β I (cZ obj aa.upd) w'/\aa.v= .undef:=by
 unfold P9 at ha;cases hti:T t with
 |none=>simp[hti]at ha
 |some ti=>
  simp only[hti,ah]at ha;split at ha
  ·rename_i kt et k kv' hk1;rw[aj]at ha;obtain⟨ki,hki,ha⟩:=ha;rw[aj]at ha;obtain⟨o,ho,ha⟩:=ha;split at ha
   ·rename_i hc;rw[aj]at ha;obtain⟨rs,hr,ha⟩:=ha;cases ha;simp only[VR,TR]at hx hk;obtain⟨b,hβ,rfl⟩:=hx;obtain⟨hkk,_⟩:=hk;subst hkk;have f6:=hg k o ho;have⟨B,hB,hO⟩:=h.cw k o f6;rw[hβ]at hB;cases hB;obtain⟨es,cl,g1,g2,g3,g4,g5⟩:=hO;have hu:=aeW (hT t ti hti) hk1;have⟨d,hd,hkey⟩:=aeX (hT kt ki hki) hc.1;have hlt:b<w.heap.size:=(Array.getElem?_eq_some_iff.1 g1).1;rcases Xt hkey (apm hy) (aod hc.1) o.rows es.toList 0 rs (g3 hc.2) hr with ⟨a1,a2⟩ |⟨j,e,a1,a2,a3,a4⟩
    ·obtain⟨k1,k2⟩:=heap_set (o':= .map (es.push ⟨kv,v,cl⟩) (cl+1)) g1
     obtain⟨m1,m2⟩:=h.qu (o':=⟨rs.length,rs⟩) (w':={ w with heap:=w.heap.setIfInBounds b (.map (es.push ⟨kv,v,cl⟩) (cl+1)) }) f6 hβ k1 k2 (by simp) rfl rfl rfl (aT _) (by simpa using a2 cl)
      (by
       rw[Array.toList_push,List.map_append,List.nodup_append];refine⟨g4,by simp,λa ha b hb=>?_⟩;simp only[aF,List.map_nil,aW]at hb;obtain⟨e,he,rfl⟩:=mem_map.1 ha;have:=g5 e he;omega)
      (λ e he=>by
       rw[Array.toList_push,bf]at he;rcases he with he |he
       ·have:=g5 e he;omega
       ·simp only[aW]at he;subst he;exact Nat.lt_succ_self _)
     refine⟨_,?_,m1,m2,rfl⟩;simp[Instr.mapUpdate,run_underlying hu,MapKept.run_getObj_map g1,run_checkKey hd hkey,run_findKey hd a1,run_setObj_map _ g1,Result.andThen]
    ·obtain⟨k1,k2⟩:=heap_set (o':= .map (es.modify j λe=>{ e with key:=kv,val:=v }) cl) g1;have ht:(es.modify j λe=>{ e with key:=kv,val:=v }).toList=es.toList.modify j λe=>{ e with key:=kv,val:=v }:=Array.toList_modify;have hb:(es.toList.modify j λe=>{ e with key:=kv,val:=v }).map (·.born)=es.toList.map (·.born):=by
      apply List.ext_getElem?;intro q;simp only[List.getElem?_map,List.getElem?_modify];split<;>cases es.toList[q]?<;>rfl
     obtain⟨m1,m2⟩:=h.qu (o':=⟨rs.length,rs⟩) (w':={ w with heap:=w.heap.setIfInBounds b (.map (es.modify j λe=>{ e with key:=kv,val:=v }) cl) }) f6 hβ k1 k2 (by simp) rfl rfl rfl (aT _) (by rw[ht];exact a4)
      (by rw[ht,hb];exact g4)
      (λ e he=>by
       rw[ht]at he;have:e.born∈(es.toList.modify j λe=>{ e with key:=kv,val:=v }).map (·.born):=mem_map.2 ⟨e,he,rfl⟩;rw[hb]at this;obtain⟨e',he',hh⟩:=mem_map.1 this;rw[<- hh];exact g5 e' he')
     refine⟨_,?_,m1,m2,rfl⟩;have hold:((es[j]?).map (·.key)).getD kv=kv:=(by rw[<- Array.getElem?_toList,a2];exact a3);have hks:(Instr.keyThatStays kv kv).run P w= .ok kv w:=(by simp[Instr.keyThatStays,ac2 hkey]);simp only[Instr.mapUpdate,Sem.run_bind,run_underlying hu,MapKept.run_getObj_map g1,run_checkKey hd hkey,run_findKey hd a1,Result.andThen,Nat.zero_add,hold,hks,run_setObj_map _ g1]
   ·cases ha
  ·cases ha
end
def eX(cs:List AV):List (List AV):=cs.map λx=>[x]
def Xv(o:aX)(p n:Nat):List AV:=((o.rows.drop p).take n).flatten
def Ih(T:da)(t:TypeId)(x:AV)(get:Nat->Option aX):Option Out:=
 (T t).bind λti=>match x with
 | .ptr k row ae=>(get k).bind λo=>if o.sz=1 then(part' ti.agg ti.size (Xv o (row+ae) ti.size)).bind pv else none
 |_=>none
def Qa(T:da)(t:TypeId)(x y:AV)(get:Nat->Option aX):Option Out:=
 (T t).bind λti=>(cellsOf y).bind λcs=>match x with
 | .ptr k row ae=>(get k).bind λo=>if o.sz=1/\cs.length=ti.size/\row+ae+cs.length<=o.rows.length then
  some ⟨.undef,[(k,some ⟨1,o.rows.take (row+ae)++eX cs++o.rows.drop (row+ae+cs.length)⟩)],[]⟩else none
 |_=>none
def Wt(T:da)(i:Nat)(e:TypeId):Option Out:=
 (T e).bind λti=>some ⟨.ptr (cd i) 0 0,[(cd i,some ⟨1,eX (ti.zero.map cv)⟩)],[]⟩
def HF(i:Nat)(x:AV):Option Out:=
 (cellsOf x).bind λcs=>some ⟨.ptr (cd i) 0 0,[(cd i,some ⟨1,eX cs⟩)],[]⟩
def Wu(T:da)(t:TypeId)(x:AV)(lo hi:Option AV)(get:Nat->Option aX):Option Out:=
 (T t).bind λti=>match ti.k,x with
 | .arr m e,.ptr k row ae=>(T e).bind λei=>(get k).bind λo=>if o.sz=1/\ei.size=1 then(bnd 0 lo).bind λl=>(bnd m hi).bind λh=>
  gO (.own k (row+ae+l.toNat) (h.toNat -l.toNat)) (0<=l/\l<=h/\h<=(m:Int)/\row+ae+m<=o.rows.length)else none
 |_,_=>none
def Ii(T:da):Nat->TypeId->Bool
 | 0,_=>false
 |d+1,t=>match T t with
  |some ti=>match ti.k with
   | .bool=>ti.size==1&&!ti.agg
   | .arr m e=>ti.agg&&match T e with
    |some ei=>ti.size==m*ei.size&&Ii T d e
    |none=>false
   |_=>false
  |none=>false
def tB(b:Bool):AV:= .t (.sc (.bool b))
def Fl(T:da)(op:BinOp)(t:TypeId)(x y:AV)(n:Int):Option Out:=
 (T t).bind λti=>match ti.k,x,y with
 | .arr _ _,.agg xs,.agg ys=>if Ii T 9 t=true/\ti.cmp=[9]then match op with
  | .eql=>gO (tB (n !=0)) (∃ l1 l2:List Bool,xs=l1.map tB/\ys=l2.map tB/\l1.length=ti.size/\l2.length=ti.size/\(n≠0↔l1=l2))
  | .neq=>gO (tB (!(n !=0))) (∃ l1 l2:List Bool,xs=l1.map tB/\ys=l2.map tB/\l1.length=ti.size/\l2.length=ti.size/\(n≠0↔l1=l2))
  |_=>none
  else none
 |_,_,_=>none
def kW(T:da)(i:Nat)(o:Oper)(n:Int)(ρ:Operand->AV)(get:Nat->Option aX):Option Out:=
 match o.op with
 | .load t a=>Ih T t (ρ a) get
 | .store t a x=>Qa T t (ρ a) (ρ x) get
 | .alloc e=>Wt T i e
 | .box _ x=>HF i (ρ x)
 | .slice t x lo hi none=>Wu T t (ρ x) (lo.map ρ) (hi.map ρ) get
 | .binOp op t x y _=>Fl T op t (ρ x) (ρ y) n
 |_=>none
section
variable {T:da}
theorem Z9{i:Nat}{o:Oper}{n:Int}{ρ ρ':Operand->AV}{get:Nat->Option aX}(h:∀x∈o.op.operands,ρ x=ρ' x):kW T i o n ρ get=kW T i o n ρ' get:=by
 obtain⟨dst,op,ty,aE,after,guard⟩:=o;cases op<;>simp only[Op.operands]at h<;>simp only[kW]
 case load t a=>rw[h a (by simp)]
 case store t a x=>rw[h a (by simp),h x (by simp)]
 case box e x=>rw[h x (by simp)]
 case binOp a b c d e=>rw[h c (by simp),h d (by simp)]
 case slice t x lo hi mx=>
  have hx:=h x (by simp);cases mx with
  |some m=>rfl
  |none=>
   simp only[hx];cases lo<;>cases hi<;>simp_all
end
section
variable {P:Program} {T:da} {w0:World} {O0:gi} {β:Nat->Option cA} {I:Nat->Prop} {obj:Nat->Option aX} {w:World} {i:Nat}
theorem rZ:∀cs:List AV,(eX cs).flatten=cs
 |[]=>rfl
 |c::cs=>by simp only[eX,aF,List.flatten_cons,List.singleton_append];exact congrArg (c:: ·) (rZ cs)
theorem UH(cs:List AV):∀r∈eX cs,r.length=1:=by
 intro r hr;simp only[eX,mem_map]at hr;obtain⟨x,_,rfl⟩:=hr;rfl
theorem Qb(hT:fE P T)(h:Mem P w0 O0 β I obj w){t:TypeId}{x:AV}{get:Nat->Option aX}{aa:Out}{v:Value}(hg:∀k o,get k=some o->obj k=some o)
 (ha:Ih T t x get=some aa) (hx:VR P β w I x v):∃u,(Instr.loadAt t v).run P w= .ok u w/\VR P β w I aa.v u/\aa.upd=[]:=by
 unfold Ih at ha;cases hti:T t with
 |none=>simp[hti]at ha
 |some ti=>
  have ht:=hT t ti hti;simp only[hti,ah]at ha;cases x<;>simp only[reduceCtorEq]at ha
  case ptr k row ae=>
   cases hk:get k with
   |none=>simp[hk]at ha
   |some o=>
    simp only[hk,ah]at ha;split at ha
    ·rename_i hsz;cases hp:part' ti.agg ti.size (Xv o (row+ae) ti.size)with
     |none=>simp[hp]at ha
     |some u=>
      simp only[hp,ah,pv,aC]at ha;subst ha;simp only[VR]at hx;obtain⟨b,sz,n,h1,rfl⟩:=hx;have⟨B,hB,hO⟩:=h.cw k o (hg k o hk);rw[h1]at hB;cases hB;obtain⟨hs,c,e,hc,_,hO⟩:=hO;rw[hsz]at hs;subst hs;have h5:=bo.take ti.size _ _ _ _ (bo.drop (row+ae) _ _ _ _ hO);obtain⟨l,g1,g2,g3,g4,g5⟩:=bo.list _ _ _ _ h5;obtain⟨z,hz,hz2⟩:=Bf ht (b:=b) (o:=row*1+ae) hp g1 (λ j u hj=>by
       have:=g5 j u hj;rw[Nat.zero_add,Nat.mul_one]at this;rw[Nat.mul_one];simp[World.cell?,hc,this])
      exact⟨z,by simp[Instr.loadAt,Instr.sureAddr]at hz ⊢;exact hz,hz2,rfl⟩
    ·cases ha
theorem aac(hT:fE P T)(h:Mem P w0 O0 β I obj w){t:TypeId}{x y:AV}{get:Nat->Option aX}{aa:Out}{v u:Value}(hg:∀k o,get k=some o->obj k=some o)
 (ha:Qa T t x y get=some aa) (hx:VR P β w I x v) (hy:VR P β w I y u):
 ∃w',(Instr.storeAt t v u).run P w= .ok () w'/\Same I w w'/\Mem P w0 O0 β I (cZ obj aa.upd) w'/\aa.v= .undef:=by
 unfold Qa at ha;cases hti:T t with
 |none=>simp[hti]at ha
 |some ti=>
  have ht:=hT t ti hti;simp only[hti,ah]at ha;cases hcs:cellsOf y with
  |none=>simp[hcs]at ha
  |some cs=>
   simp only[hcs,ah]at ha;have⟨hv1,hv2⟩:=qY hcs hy;cases x<;>simp only[reduceCtorEq]at ha
   case ptr k row ae=>
    cases hk:get k with
    |none=>simp[hk]at ha
    |some o=>
     simp only[hk,ah]at ha;split at ha
     ·rename_i hh;obtain⟨hsz,hlen,hfit⟩:=hh;cases ha;simp only[VR]at hx;obtain⟨b,sz,n,hβ,rfl⟩:=hx;have⟨B,hB,hO⟩:=h.cw k o (hg k o hk);rw[hβ]at hB;cases hB;obtain⟨hs,c,e,hc,hn,hO⟩:=hO;rw[hsz]at hs;subst hs;obtain⟨ol,o1,o2,o3,o4,o5⟩:=bo.list _ _ _ _ hO;have hvl:=be.length _ _ hv1;have hol:ol.length=o.rows.length:=(by rw[o3,Nat.mul_one]);have hcsz:ol.length<=c.size:=by
       by_cases h0:ol.length=0
       ·omega
       ·have:=o5 (ol.length -1) _ (dI (by omega));have:=(Array.getElem?_eq_some_iff.1 this).1;omega
      generalize hp:row+ae=p at*;have hst:=run_storeCells_at P b p e u.cells.toList 0 c w hc (by omega) (λ u hu=>by
       have:=hv2 u hu;cases u<;>first |rfl |exact this.elim)
      simp only[Nat.add_zero]at hst;generalize hc':(List.take p c.toList++u.cells.toList++List.drop (p+u.cells.toList.length) c.toList).toArray=c' at hst;have hsize:c'.size=c.size:=(by rw[<- hc'];simp[length_take,length_drop];simp at hvl;omega);obtain⟨hS,hM⟩:=Mem.write (o':=⟨1,o.rows.take p++eX cs++o.rows.drop (p+cs.length)⟩) h (hg k o hk) hβ (c':=c') (e:=e) (setRow_heap w b c c' e (0,0) hc) (λ b' hb=>setRow_other w b b' c' hb) (by simp) rfl rfl rfl rfl (by omega) (by
       have hfl:(o.rows.take p++eX cs++o.rows.drop (p+cs.length)).flatten=(o.rows.flatten.take p++cs)++o.rows.flatten.drop (p+cs.length):=by
        have one:∀(n:Nat) (rs:List (List AV)),(∀ r∈rs,r.length=1)->(rs.take n).flatten=rs.flatten.take n/\(rs.drop n).flatten=rs.flatten.drop n:=by
         intro n
         induction n with
         |zero=>intro rs _;simp
         |succ n ih=>
          intro rs hrs;cases rs with
          |nil=>simp
          |cons r rs=>
           have hr:=hrs r (by simp);obtain⟨i1,i2⟩:=ih rs (λ r h=>hrs r (by simp[h]))
           match r,hr with
           |[x],_=>simp[i1,i2]
        simp only[List.flatten_append,rZ,(one _ _ o4).1,(one _ _ o4).2]
       refine oV _ _ 0 1 (ol.take p++u.cells.toList++ol.drop (p+cs.length)) (λ r hr=>?_) ?_ (λ z hz=>?_) (λ j z hj=>?_)
       ·rcases bf.1 hr with hr |hr
        ·rcases bf.1 hr with hr |hr
         ·exact o4 r (List.mem_of_mem_take hr)
         ·exact UH cs r hr
        ·exact o4 r (List.mem_of_mem_drop hr)
       ·rw[hfl];exact be.append _ _ _ _ (be.append _ _ _ _ (be.take _ _ _ o1) hv1) (be.drop _ _ _ o1)
       ·rcases bf.1 hz with hz |hz
        ·rcases bf.1 hz with hz |hz
         ·exact o2 z (List.mem_of_mem_take hz)
         ·exact hv2 z hz
        ·exact o2 z (List.mem_of_mem_drop hz)
       ·rw[Nat.zero_add,<- hc',List.getElem?_toArray];have e1:(ol.take p).length=p:=(by simp[length_take];omega);have e2:(c.toList.take p).length=p:=(by simp[length_take];omega);rw[aN]at hj ⊢;by_cases hjp:j<p
        ·rw[List.getElem?_append_left (by omega),List.getElem?_take,aP hjp]at hj;rw[List.getElem?_append_left (by omega),List.getElem?_take,aP hjp,Array.getElem?_toList];have:=o5 j z hj
         rwa [Nat.zero_add]at this
        ·rw[fO (by omega),e1]at hj;rw[fO (by omega),e2];by_cases hj2:j -p<u.cells.toList.length
         ·rw[List.getElem?_append_left hj2]at hj ⊢;exact hj
         ·rw[fO (by omega),List.getElem?_drop]at hj;rw[fO (by omega),List.getElem?_drop,Array.getElem?_toList];have:=o5 _ z hj;rw[Nat.zero_add]at this;rw[show p+u.cells.toList.length+(j -p -u.cells.toList.length)=p+cs.length+(j -p -u.cells.toList.length)by omega];exact this)
      refine⟨w.setRow b c',?_,hS,hM,rfl⟩;have:(storeVar t ⟨b,row*1+ae,none⟩ u).run P w= .ok () (w.setRow b c'):=by
       unfold storeVar;simp only[Sem.run_bind,ht.size (w:=w),Result.andThen_ok];rw[aM (by rw[<- Array.length_toList];omega),Nat.mul_one,hp];simp only[hst]
      simp[Instr.storeAt,Instr.sureAddr]at this ⊢;exact this
     ·cases ha
theorem NR(h:Mem P w0 O0 β I obj w)(hn:β (cd i)=none){e:TypeId}{v:Value}{cs:List AV}(hcs:be P β w I cs v.cells.toList)(h1:∀u∈v.cells.toList,oneCell u):
 ∃w' β',(newVar e v).run P w= .ok ⟨w.heap.size,0,none⟩ w'/\Step β I w (cd i) β' I w'/\Mem P w0 O0 β' I (cZ obj [(cd i,some ⟨1,eX cs⟩)]) w'/\VR P β' w' I (.ptr (cd i) 0 0) (.pointer (some ⟨w.heap.size,0,none⟩)):=by
 obtain⟨hS,hM⟩:=Mem.alloc (o:=⟨1,eX cs⟩) (c:=v.cells) (e:=e) h hn (oV _ _ 0 1 v.cells.toList (UH cs) (by rw[rZ];exact hcs) h1 (λ j u hj=>by simpa using hj));refine⟨_,_,?_,hS,hM,?_⟩
 ·simp only[newVar,newRow,Sem.run_bind,run_newObj,Result.andThen_ok,Sem.run_pure];rfl
 ·simp only[VR];exact⟨w.heap.size,1,v.cells.size,by simp[ins],by simp⟩
theorem aad(hT:fE P T)(h:Mem P w0 O0 β I obj w)(hn:β (cd i)=none){e:TypeId}{aa:Out}(ha:Wt T i e=some aa):
 ∃u w' β',(Instr.alloc e true (.tuple #[])).run P w= .ok u w'/\Step β I w (cd i) β' I w'/\Mem P w0 O0 β' I (cZ obj aa.upd) w'/\VR P β' w' I aa.v u:=by
 unfold Wt at ha;cases hti:T e with
 |none=>simp[hti]at ha
 |some ti=>
  have ht:=hT e ti hti;simp only[hti,ah,aC]at ha;subst ha;have⟨z,hz,hz2⟩:=ht.zeroV (w:=w);obtain⟨w',β',h1,h2,h3,h4⟩:=NR (i:=i) (e:=e) (v:=z) (cs:=ti.zero.map cv) h hn (by rw[hz2];exact be.cv _) (λ u hu=>pO (all_eq_true.1 ht.one u (hz2 ▸ hu)));exact⟨_,w',β',by simp[Instr.alloc,hz,h1],h2,h3,h4⟩
theorem aeY(h:Mem P w0 O0 β I obj w)(hn:β (cd i)=none){e:TypeId}{x:AV}{v:Value}{aa:Out}(ha:HF i x=some aa)(hx:VR P β w I x v):
 ∃u w' β',(Instr.box e v).run P w= .ok u w'/\Step β I w (cd i) β' I w'/\Mem P w0 O0 β' I (cZ obj aa.upd) w'/\VR P β' w' I aa.v u:=by
 unfold HF at ha;cases hcs:cellsOf x with
 |none=>simp[hcs]at ha
 |some cs=>
  simp only[hcs,ah,aC]at ha;subst ha;have⟨hv1,hv2⟩:=qY hcs hx;have⟨w',β',h1,h2,h3,h4⟩:=NR (i:=i) (e:=e) h hn hv1 hv2;exact⟨_,w',β',by simp[Instr.box,h1],h2,h3,h4⟩
theorem Sy{lp hiv:Option Value}{l hh:Int}{len:Nat}(h1:(lp=none/\l=0)\/∃k,lp=some (.int k l))(h2:(hiv=none/\hh=(len:Int))\/∃k,hiv=some (.int k hh))(g0:0<=l)(g1:l<=hh)(g2:hh<=(len:Int)):
 (Instr.sliceBounds false len len lp hiv none).run P w= .ok (l.toNat,hh.toNat,len) w:=by
 have hb:∀(k:IntKind) (n:Int) (y:Nat) aw,0<=n->n<=(y:Int)->(Instr.sliceBound (.int k n) y aw).run P w= .ok n.toNat w:=λk n y aw a b=>by simp[Instr.sliceBound,asIntOf,a,b]
 rcases h1 with ⟨rfl,rfl⟩ |⟨k,rfl⟩<;>rcases h2 with ⟨rfl,rfl⟩ |⟨k',rfl⟩
 ·simp[Instr.sliceBounds]
 ·simp[Instr.sliceBounds,hb k' hh len _ (by omega) g2]
 ·simp[Instr.sliceBounds,hb k l len _ g0 g1]
 ·have h3:=λaw=>hb k l hh.toNat aw g0 (by omega);simp[Instr.sliceBounds,hb k' hh len _ (by omega) g2,h3]
theorem aae(hT:fE P T)(h:Mem P w0 O0 β I obj w){t:TypeId}{x:AV}{lo hi:Option AV}{get:Nat->Option aX}{aa:Out}{v:Value}{lp hiv:Option Value}(hg:∀k o,get k=some o->obj k=some o)
 (ha:Wu T t x lo hi get=some aa) (cr:aa.ob) (hx:VR P β w I x v) (hlo:∀x,lo=some x->∃v,lp=some v/\VR P β w I x v) (hlo0:lo=none->lp=none) (hhi:∀x,hi=some x->∃v,hiv=some v/\VR P β w I x v) (hhi0:hi=none->hiv=none):
 ∃u,(Instr.sliceAt t v lp hiv none).run P w= .ok u w/\VR P β w I aa.v u/\aa.upd=[]:=by
 unfold Wu at ha;cases hti:T t with
 |none=>simp[hti]at ha
 |some ti=>
  have ht:=hT t ti hti;simp only[hti,ah]at ha;split at ha
  ·rename_i m e k row ae hkd;cases ed:T e with
   |none=>simp[ed]at ha
   |some ei=>
    have he:=hT e ei ed;cases hk:get k with
    |none=>simp[ed,hk]at ha
    |some o=>
     simp only[ed,hk,ah]at ha;split at ha
     ·rename_i hsz;cases hl:bnd 0 lo with
      |none=>simp[hl]at ha
      |some l=>
       cases hh:bnd (m:Int) hi with
       |none=>simp[hl,hh]at ha
       |some r=>
        simp only[hl,hh,ah,gO,aC]at ha;subst ha;have cr:0<=l/\l<=r/\r<=(m:Int)/\row+ae+m<=o.rows.length:=cr;obtain⟨q1,q2,q3,q4⟩:=cr;simp only[VR]at hx;obtain⟨b,sz,n,hβ,rfl⟩:=hx;have⟨B,hB,hO⟩:=h.cw k o (hg k o hk);rw[hβ]at hB;cases hB;obtain⟨hs,c,ce,hc,hn,hO⟩:=hO;rw[hsz.1]at hs;subst hs;obtain⟨ol,o1,o2,o3,o4,o5⟩:=bo.list _ _ _ _ hO;have hcsz:o.rows.length<=n:=by
         by_cases h0:o.rows.length=0
         ·omega
         ·have:=o5 (ol.length -1) _ (dI (by omega));have:=(Array.getElem?_eq_some_iff.1 this).1;omega
        have hb:=Sy (P:=P) (w:=w) (len:=m) (AR hl hlo hlo0) (AR hh hhi hhi0) q1 q2 q3;refine⟨.slice (some (if m=l.toNat then⟨b,row*1+ae,none⟩else(⟨b,row*1+ae,none⟩:Addr).add (l.toNat*ei.size))) (r.toNat -l.toNat) (m -l.toNat),?_,?_,rfl⟩
        ·simp only[Instr.sliceAt,Sem.run_bind,run_underlying (F3 ht hkd),Result.andThen_ok,Instr.sureAddr,Sem.run_pure,hb,he.size (w:=w)]
        ·simp only[VR];by_cases hml:m=l.toNat
         ·rw[aP hml];exact .inr ⟨b,1,n,m -l.toNat,row*1+ae,hβ,rfl,by omega,by omega,λh=>by omega⟩
         ·rw[aM hml];exact .inr ⟨b,1,n,m -l.toNat,row*1+ae+l.toNat*ei.size,hβ,by rw[addr_add],by omega,by omega,λ_=>by rw[hsz.2];omega⟩
     ·cases ha
  ·cases ha
def bV(agg:Bool)(xs:List Bool):Value:=if agg then .agg (xs.map Value.bool).toArray else .bool (xs.headD false)
def chunk{α:Type}(s i:Nat)(xs:List α):List α:=(xs.drop (i*s)).take s
theorem akm{α:Type}{s m:Nat}{xs ys:List α}(hx:xs.length=m*s)(hy:ys.length=m*s)(h:∀i,i<m->chunk s i xs=chunk s i ys):xs=ys:=by
 apply List.ext_getElem?;intro j;by_cases hj:j<m*s
 ·have hs:0<s:=Nat.pos_of_ne_zero λe=>by subst e;simp at hj
  have h1:j/s<m:=(Nat.div_lt_iff_lt_mul hs).2 hj;have h2:=congrArg (·[j%s]?) (h _ h1);have h3:=Nat.mod_lt j hs;have h4:j/s*s+j%s=j:=by rw[Nat.mul_comm];exact Nat.div_add_mod j s
  simp only[chunk,List.getElem?_take,aP h3,List.getElem?_drop,h4]at h2;exact h2
 ·rw[List.getElem?_eq_none (by omega),List.getElem?_eq_none (by omega)]
theorem Xw{e:TypeId}{ei:ky}(he:gS P e ei)(hf:ei.agg=false->ei.size=1){xs:List Bool}{i m:Nat}(hi:i<m)(hl:xs.length=m*ei.size):
 (part e (xs.map Value.bool).toArray (i*ei.size)).run P w= .ok (bV ei.agg (chunk ei.size i xs)) w/\(chunk ei.size i xs).length=ei.size:=by
 have hle:(i+1)*ei.size<=m*ei.size:=Nat.mul_le_mul_right _ (by omega);rw[Nat.add_mul,Nat.one_mul]at hle;have hc:(chunk ei.size i xs).length=ei.size:=by simp only[chunk,length_take,length_drop];omega
 refine⟨?_,hc⟩;unfold part;simp only[Sem.run_bind,he.agg (w:=w),Result.andThen_ok];cases hag:ei.agg with
 |true=>
  simp only[if_true,Sem.run_bind,he.size (w:=w),Result.andThen_ok,Sem.run_pure,bV];congr 2;apply Array.ext';simp[chunk,List.extract_eq_take_drop,List.map_take,List.map_drop]
 |false=>
  have h1:=hf hag;simp only[Bool.false_eq_true,if_false,bV];have h2:i*ei.size<xs.length:=by omega
  have h3:chunk ei.size i xs=[xs[i*ei.size]]:=by
   simp only[chunk];rw[List.drop_eq_getElem_cons h2]
   conv=>lhs;arg 1;rw[h1]
   rfl
  rw[h3];simp[h2]
theorem Xx(hT:fE P T):∀(d:Nat)(t:TypeId)(ti:ky),T t=some ti->Ii T d t=true->(ti.agg=false->ti.size=1)/\∀(D:Nat),d<=D->∀xs ys:List Bool,xs.length=ti.size->ys.length=ti.size->
 (Op.equalIn D t (bV ti.agg xs) (bV ti.agg ys)).run P w= .ok (decide (xs=ys)) w
 | 0,_,_,_,h=>by simp[Ii]at h
 |d+1,t,ti,hti,h=>by
  have ht:=hT t ti hti;simp only[Ii,hti]at h;split at h
  ·rename_i hk;simp only[aD,beq_iff_eq,Bool.not_eq_true']at h;refine⟨λ _=>h.1,λD hD xs ys hx hy=>?_⟩;obtain⟨D,rfl⟩:∃D',D=D'+1:=⟨D -1,by omega⟩;obtain⟨info,dd,z,g1,g2,g3,g4,g5,g6,g7,g8⟩:=ht.ex;rw[hk]at g8;have g8:dd= .bool:=g8;subst g8;rw[h.1]at hx hy
   match xs,ys,hx,hy with
   |[a],[b],_,_=>
    rw[h.2];simp only[bV,Bool.false_eq_true,if_false,List.headD_cons];rw[run_equalIn_bool w D t a b g2];cases a<;>cases b<;>rfl
  ·rename_i m e hk;simp only[aD]at h;obtain⟨hag,h⟩:=h;refine⟨λ hf=>by rw[hag]at hf;(cases hf),λD hD xs ys hx hy=>?_⟩;obtain⟨D,rfl⟩:∃D',D=D'+1:=⟨D -1,by omega⟩;cases ed:T e with
   |none=>rw[ed]at h;cases h
   |some ei=>
    rw[ed]at h;simp only[aD,beq_iff_eq]at h;have he:=hT e ei ed;have⟨hf,ih⟩:=Xx hT d e ei ed h.2;obtain⟨info,dd,z,g1,g2,g3,g4,g5,g6,g7,g8⟩:=he.ex;have hce:P.cellsOf e=ei.size:=(by simp[Program.cellsOf,g1,g3]);rw[h.1]at hx hy;rw[hag];simp only[bV,if_true];rw[run_equalIn_array w D _ _ (F3 ht hk) g1,hce];have items:∀is:List Nat,(∀ i∈is,i<m)->(Op.eqItems D e ei.size (xs.map Value.bool).toArray (ys.map Value.bool).toArray is).run P w= .ok (decide (∀ i∈is,chunk ei.size i xs=chunk ei.size i ys)) w:=by
     intro is
     induction is with
     |nil=>intro _;simp[Op.eqItems]
     |cons i is ihh=>
      intro hi;obtain⟨p1,p2⟩:=Xw (w:=w) he hf (hi i (by simp)) hx;obtain⟨q1,q2⟩:=Xw (w:=w) he hf (hi i (by simp)) hy;simp only[Op.eqItems,Sem.run_bind,p1,q1,Result.andThen_ok,ih D (by omega) _ _ p2 q2];by_cases hcc:chunk ei.size i xs=chunk ei.size i ys
      ·simp only[hcc,decide_true,Bool.not_true,Bool.false_eq_true,if_false];rw[ihh (λ j hj=>hi j (by simp[hj]))];simp[hcc]
      ·simp[hcc]
    rw[items _ (λ i hi=>List.mem_range.1 hi)];congr 1;rw[decide_eq_decide];exact⟨λ hh=>akm hx hy (λ i hi=>hh i (List.mem_range.2 hi)),λe _ _=>by rw[e]⟩
  ·cases h
theorem Sz:∀(l:List Bool)(vs:List Value),be P β w I (l.map tB) vs->vs=l.map Value.bool
 |[],[],_=>rfl
 |b::l,v::vs,h=>by
  simp only[aF,be,tB,VR,TR]at h;rw[h.1.1,Sz l vs h.2];rfl
 |[],_::_,h=>by simp[be]at h
 |_::_,[],h=>by simp[be]at h
theorem ahl(hT:fE P T){op:BinOp}{t:TypeId}{x y:AV}{n:Int}{xo yo:Operand}{u v:Value}{aa:Out}(ha:Fl T op t x y n=some aa)(cr:aa.ob)(hx:VR P β w I x u)(hy:VR P β w I y v):
 ∃z,(do eqGuard op t xo yo u v;binOp op t u v:Sem Value).run P w= .ok z w/\VR P β w I aa.v z/\aa.upd=[]:=by
 unfold Fl at ha;cases hti:T t with
 |none=>simp[hti]at ha
 |some ti=>
  have ht:=hT t ti hti;simp only[hti,ah]at ha;split at ha
  ·rename_i m e xs ys hk;split at ha
   ·rename_i hb;have hgt:P.eqGuardType P.depth t=false:=by
     rcases ht.cmp (by rw[hb.2];simp)with ⟨fa,h1,_⟩ |⟨_,h⟩
     ·rw[F3 ht hk]at h1;injection h1 with h1;cases h1
     ·exact h
    have hagg:ti.agg=true:=by
     have:=hb.1;simp only[Ii,hti,hk,aD]at this;exact this.1
    simp only[VR]at hx hy;obtain⟨us,rfl,CL⟩:=hx;obtain⟨vs,rfl,hvs⟩:=hy;have key:(∃ l1 l2:List Bool,xs=l1.map tB/\ys=l2.map tB/\l1.length=ti.size/\l2.length=ti.size/\(n≠0↔l1=l2))->(Op.equalIn 10000 t (.agg us) (.agg vs)).run P w= .ok (n !=0) w:=by
     rintro⟨l1,l2,rfl,rfl,e1,e2,e3⟩;have h1:=Sz _ _ CL;have h2:=Sz _ _ hvs;have:=(Xx (w:=w) hT 9 t ti hti hb.1).2 10000 (by omega) l1 l2 e1 e2;rw[hagg]at this;simp only[bV,if_true,<- h1,<- h2,Array.toArray_toList]at this;rw[this];congr 1;by_cases hn:n=0
     ·simp only[hn,ne_eq,not_true_eq_false,false_iff]at e3;simp[hn,e3]
     ·simp only[ne_eq,hn,not_false_eq_true,true_iff]at e3;simp[hn,e3]
    have hgd:∀op,(eqGuard op t xo yo (.agg us) (.agg vs)).run P w= .ok () w:=λop=>run_eqGuard_agg w op t xo yo us vs hgt;cases op<;>simp only[gO,aC,reduceCtorEq]at ha<;>subst ha
    ·have:=key cr;exact⟨.bool (n !=0),by simp[hgd,run_eql_struct,this],by simp only[tB,VR,TR];exact⟨trivial,trivial⟩,rfl⟩
    ·have:=key cr;exact⟨.bool (!(n !=0)),by simp[hgd,run_neq_struct,this],by simp only[tB,VR,TR];exact⟨trivial,trivial⟩,rfl⟩
   ·cases ha
  ·cases ha
theorem aaf(hT:fE P T)(h:Mem P w0 O0 β I obj w)(hn:β (cd i)=none){o:Oper}{n:Int}{ρ:Operand->AV}{get:Nat->Option aX}{aa:Out}(hg:∀k o,get k=some o->obj k=some o)
 {r:Operand->Value} (hρ:∀x,VR P β w I (ρ x) (r x)) (ha:kW T i o n ρ get=some aa) (cr:aa.ob):nh P w0 O0 β I obj w i aa ((execOp r o).run P w):=by
 obtain⟨dst,op,ty,aE,after,guard⟩:=o;have val:∀{s:Sem Value}{z:Value},s.run P w= .ok z w->aa.upd=[]->VR P β w I aa.v z->nh P w0 O0 β I obj w i aa ((do pure (.value (<- s)):Sem Next).run P w):=by
  intro s z h1 h2 h3;refine⟨z,w,β,I,.inl (by simp[h1]),Step.refl ..,by rw[h2];exact h,h3⟩
 unfold kW at ha;split at ha
 ·rename_i t a heq;simp only at heq;subst heq;have⟨z,h1,h2,h3⟩:=Qb hT h hg ha (hρ a);exact val h1 h3 h2
 ·rename_i t a x heq;simp only at heq;subst heq;have⟨w',h1,h2,h3,h4⟩:=aac hT h hg ha (hρ a) (hρ x);exact⟨undef,w',β,I,.inr ⟨by simp[execOp,h1],rfl⟩,⟨λ _ _=>rfl,λ_ _ h=>h,h2,λ_ h=>h⟩,h3,by rw[h4];simp[VR]⟩
 ·rename_i e heq;simp only at heq;subst heq;have⟨u,w',β',h1,h2,h3,h4⟩:=aad hT h hn ha;exact⟨u,w',β',I,.inl (by simp[execOp,h1]),h2,h3,h4⟩
 ·rename_i e x heq;simp only at heq;subst heq;have⟨u,w',β',h1,h2,h3,h4⟩:=aeY (e:=e) h hn ha (hρ x);exact⟨u,w',β',I,.inl (by simp[execOp,h1]),h2,h3,h4⟩
 ·rename_i t x lo hi heq;simp only at heq;subst heq;obtain⟨z,h1,h2,h3⟩:=aae (lp:=lo.map r) (hiv:=hi.map r) hT h hg ha cr (hρ x) (λ y hy=>by
   cases lo with
   |none=>cases hy
   |some q=>cases hy;exact⟨r q,rfl,hρ q⟩) (λ h=>by cases lo<;>first |rfl |cases h) (λ y hy=>by
   cases hi with
   |none=>cases hy
   |some q=>cases hy;exact⟨r q,rfl,hρ q⟩) (λ h=>by cases hi<;>first |rfl |cases h)
  exact val h1 h3 h2
 ·rename_i L5 t x y q heq;simp only at heq;subst heq;have⟨z,h1,h2,h3⟩:=ahl (xo:=x) (yo:=y) hT ha cr (hρ x) (hρ y);exact val h1 h3 h2
 ·cases ha
end
def Ge(T:da)(i:Nat)(t:TypeId)(l c:AV):Option Out:=
 (T t).bind λti=>match ti.k,l,c with
 | .slice e,.t (.sc (.int _ n)),.t (.sc (.int _ m))=>(T e).bind λei=>
  some ⟨.own (cd i) 0 n.toNat,[(cd i,some ⟨ei.size,dX (List.replicate n.toNat (ei.zero.map cv))⟩)],[0<=n/\n<=m/\m.toNat*ei.bytes<=140737488355328/\m.toNat<=maxLen/\0<ei.size]⟩
 |_,_,_=>none
def SA(x:AV):Option Out:=
 match x with
 | .ptr k r f=>pv (.ptr k r f)
 | .du r f=>pv (.du r f)
 |_=>none
def AE:Op->Bool
 | .nilCheck _=>true
 | .makeSlice _ _ _=>true
 | .makeMap _ none=>true
 | .lookup _ _ _ _=>true
 | .mapUpdate _ _ _ _=>true
 |_=>false
def Ij(T:da)(i:Nat)(o:Oper)(_n:Int)(ρ:Operand->AV)(get:Nat->Option aX):Option Out:=
 match o.op with
 | .nilCheck x=>SA (ρ x)
 | .makeSlice t l c=>Ge T i t (ρ l) (ρ c)
 | .makeMap t none=>KV T i t
 | .lookup t m x ok=>MJ T t (ρ m) (ρ x) ok get
 | .mapUpdate t m x v=>P9 T t (ρ m) (ρ x) (ρ v) get
 |_=>none
def pR(T:da)(i:Nat)(o:Oper)(n:Int)(ρ:Operand->AV)(get:Nat->Option aX):Option Out:=
 match (bif AE o.op then Ij T i o n ρ get else oC T i o n ρ get)with
 |some aa=>some aa
 |none=>kW T i o n ρ get
section
variable {T:da}
theorem aag{i:Nat}{o:Oper}{n:Int}{ρ ρ':Operand->AV}{get:Nat->Option aX}(h:∀x∈o.op.operands,ρ x=ρ' x):Ij T i o n ρ get=Ij T i o n ρ' get:=by
 obtain⟨dst,op,ty,aE,after,guard⟩:=o;cases op<;>simp only[Op.operands]at h<;>simp only[Ij]
 case nilCheck x=>rw[h x (by simp)]
 case makeSlice t l c=>rw[h l (by simp),h c (by simp)]
 case makeMap t r=>cases r<;>rfl
 case lookup t m x ok=>rw[h m (by simp),h x (by simp)]
 case mapUpdate t m x v=>rw[h m (by simp),h x (by simp),h v (by simp)]
theorem aah{i:Nat}{o:Oper}{n:Int}{ρ ρ':Operand->AV}{get:Nat->Option aX}(h:∀x∈o.op.operands,ρ x=ρ' x):pR T i o n ρ get=pR T i o n ρ' get:=by
 unfold pR;rw[acW h,aag h,Z9 h]
end
section
variable {P:Program} {T:da} {w0:World} {O0:gi} {β:Nat->Option cA} {I:Nat->Prop} {obj:Nat->Option aX} {w:World} {i:Nat}
theorem aai(z:Array Value)(n j:Nat)(h:j<n):(madeCells z n)[j]? =some (z[j%z.size]!):=by simp[madeCells,Array.getElem?_map,h]
theorem ae0(hT:fE P T)(h:Mem P w0 O0 β I obj w)(hn:β (cd i)=none){t:TypeId}{l c:AV}{u v:Value}{aa:Out}(ha:Ge T i t l c=some aa)(cr:aa.ob)(hl:VR P β w I l u)(hc:VR P β w I c v)
 {r:Operand->Value} {x y:Operand} (hu:r x=u) (hv:r y=v) {dst:Option Tmp} {ty:TypeId} {aE:String} {after:Array Edge} {guard:Option (Nat×Bool)}:
 nh P w0 O0 β I obj w i aa ((execOp r ⟨dst,.makeSlice t x y,ty,aE,after,guard⟩).run P w):=by
 unfold Ge at ha;cases hti:T t with
 |none=>simp[hti]at ha
 |some ti=>
  simp only[hti,ah]at ha;split at ha
  ·rename_i e kl n kc m hkd;cases ed:T e with
   |none=>simp[ed]at ha
   |some ei=>
    simp only[ed,ah,aC]at ha;subst ha;obtain⟨n0,nm,m47,CA,mpos⟩:=cr;simp only[VR,TR]at hl hc;obtain⟨rfl,_⟩:=hl;obtain⟨rfl,_⟩:=hc;have he:=hT e ei ed;have d8:=iX (hT t ti hti) hkd;obtain⟨info,d,z,g1,g2,g3,g4,g5,g6,g7,g8⟩:=he.ex;obtain⟨n,rfl⟩:∃n':Nat,n=(n':Int):=⟨n.toNat,by omega⟩;obtain⟨m,rfl⟩:∃m':Nat,m=(m':Int):=⟨m.toNat,by omega⟩;simp only[Int.toNat_natCast]at m47 CA ⊢;have hb:(info.bytes:Int)*(m:Int)<=281474976710656:=by
     have:((info.bytes*m:Nat):Int)<=281474976710656:=by rw[g4,Nat.mul_comm];omega
     rwa [Int.natCast_mul]at this
    have hrun:=run_make (P:=P) w t e info z d8 g1 g5 kl kc n m n0 nm hb (by simp only[maxLen]at CA;omega);simp only[Int.toNat_natCast,g3]at hrun;have hzs:z.cells.size=ei.size:=(by rw[<- Array.length_toList,g6];exact he.len);have hcs:(madeCells z.cells (m*ei.size)).size=m*ei.size:=size_madeCells _ _;obtain⟨hS,hM⟩:=Mem.alloc (i:=cd i) (o:=⟨ei.size,List.replicate n (ei.zero.map cv)⟩) (c:=madeCells z.cells (m*ei.size)) (e:=e) h hn (by
     refine bo.zeros ei.zero ei.size he.len (λ v hv=>pO (all_eq_true.1 he.one v hv)) n _ 0 (λ i j hi hj=>?_);have hlt:0+i*ei.size+j<m*ei.size:=by
      have:(i+1)*ei.size<=m*ei.size:=Nat.mul_le_mul_right _ (by omega);rw[Nat.add_mul]at this;omega
     rw[aai _ _ _ hlt,hzs];have e1:(0+i*ei.size+j)%ei.size=j:=(by rw[Nat.zero_add,Nat.mul_comm,Nat.mul_add_mod,Nat.mod_eq_of_lt hj]);rw[e1,<- g6,Array.getElem?_toList,getElem!_pos z.cells j (by rw[hzs];exact hj),Array.getElem?_eq_getElem])
    refine⟨_,_,_,I,.inl (by simp[execOp,hu,hv,hrun];rfl),hS,hM.s4,?_⟩;simp only[VR];refine .inr ⟨w.heap.size,ei.size,_,_,0,by simp[ins];rfl,rfl,by omega,?_,by simp⟩;rw[hcs,Nat.zero_add];exact aT _
  ·cases ha
theorem aaj(hT:fE P T)(h:Mem P w0 O0 β I obj w)(hn:β (cd i)=none){o:Oper}{n:Int}{ρ:Operand->AV}{get:Nat->Option aX}{aa:Out}(hg:∀k o,get k=some o->obj k=some o)
 {r:Operand->Value} (hρ:∀x,VR P β w I (ρ x) (r x)) (ha:Ij T i o n ρ get=some aa) (cr:aa.ob):nh P w0 O0 β I obj w i aa ((execOp r o).run P w):=by
 obtain⟨dst,op,ty,aE,after,guard⟩:=o;unfold Ij at ha;split at ha
 ·rename_i x heq;simp only at heq;subst heq;have hx:=hρ x;unfold SA at ha;split at ha
  ·rename_i k q f hk;simp only[pv,aC]at ha;subst ha;rw[hk]at hx;have hx2:=hx;simp only[VR]at hx2;obtain⟨b,sz,m,_,e1⟩:=hx2;exact⟨r x,w,β,I,.inl (by simp[execOp,e1]),Step.refl ..,h,hx⟩
  ·rename_i q f hk;simp only[pv,aC]at ha;subst ha;rw[hk]at hx;have hx2:=hx;simp only[VR]at hx2;obtain⟨b,o',e1,_⟩:=hx2;exact⟨r x,w,β,I,.inl (by simp[execOp,e1]),Step.refl ..,h,hx⟩
  ·cases ha
 ·rename_i t l c heq;simp only at heq;subst heq;exact ae0 hT h hn ha cr (hρ l) (hρ c) rfl rfl
 ·rename_i t heq;simp only at heq;subst heq;exact Xu h hn ha
 ·rename_i t m x ok heq;simp only at heq;subst heq;have⟨z,h1,h2,h3⟩:=Z7 hT h hg ha (hρ m) (hρ x);exact⟨z,w,β,I,.inl (by simp[execOp,h1]),Step.refl ..,by rw[h3];exact h,h2⟩
 ·rename_i t m x v heq;simp only at heq;subst heq;have⟨w',h1,h2,h3,h4⟩:=Z8 hT h hg ha (hρ m) (hρ x) (hρ v);exact⟨undef,w',β,I,.inr ⟨by simp[execOp,h1],rfl⟩,⟨λ _ _=>rfl,λ_ _ h=>h,h2,λ_ h=>h⟩,h3,by rw[h4];simp[VR]⟩
 ·cases ha
theorem aak(hT:fE P T)(h:Mem P w0 O0 β I obj w)(hn:β (cd i)=none){o:Oper}{n:Int}{ρ:Operand->AV}{get:Nat->Option aX}{aa:Out}(hg:∀k o,get k=some o->obj k=some o)
 {r:Operand->Value} (hρ:∀x,VR P β w I (ρ x) (r x)) (ha:pR T i o n ρ get=some aa) (cr:aa.ob):nh P w0 O0 β I obj w i aa ((execOp r o).run P w):=by
 unfold pR at ha;split at ha
 ·rename_i out' he;cases ha;cases hx:AE o.op with
  |true=>rw[hx]at he;exact aaj (n:=n) hT h hn hg hρ he cr
  |false=>rw[hx]at he;exact acZ hT h hn hg hρ he cr
 ·exact aaf hT h hn hg hρ ha cr
end
mutual
def eQ(f:Nat->Nat):AV->AV
 | .own k ae len=> .own (f k) ae len
 | .ptr k row ae=> .ptr (f k) row ae
 | .agg cs=> .agg (CQ f cs)
 | .ey cs=> .ey (CQ f cs)
 | .fn F first caps=> .fn F (CQ f first) (CQ f caps)
 | .t x=> .t x
 | .du r o=> .du r o
 | .c6 φ=> .c6 φ
 | .mp k=> .mp (f k)
 | .cG=> .cG
 | .ub=> .ub
 | .undef=> .undef
def CQ(f:Nat->Nat):List AV->List AV
 |[]=>[]
 |x::xs=>eQ f x::CQ f xs
end
def Nk(f:Nat->Nat)(o:aX):aX:=⟨o.sz,o.rows.map (CQ f)⟩
def me(os:List (Nat×aX))(k:Nat):Option aX:=match os with
 |[]=>none
 |(j,o)::r=>if j=k then some o else me r k
def T3(P:Program)(w:World)(β:Nat->Option cA)(I:Nat->Prop)(os':List (Nat×aX))(rv:AV)(e:Ending)(w':World):Prop:=
 ∃v β' I',e= .returned v/\Mem P w (ug β I) β' I' (me os') w'/\(∀ b,I b->I' b)/\VR P β' w' I' rv v
def ri(os:List aX)(k:Nat):Option aX:=os[k]?
def u9(P:Program)(f:FuncId)(args:List AV)(os:List aX)(os':List (Nat×aX))(rv:AV):Prop:=
 kV P f/\∀(w:World) (β:Nat->Option cA) (I:Nat->Prop) (vs:Array Value),(∀ k,os.length<=k->β k=none)->Mem P w (ug β I) β I (ri os) w->be P β w I args vs.toList->Calls P f vs w (T3 P w β I os' rv)
def KW(i k:Nat):Bool:=Nat.ble 1000000 k&&(k -1000000)/64==i
theorem Xy{i k:Nat}:KW i k=true↔fR (cd i) k:=by
 simp only[KW,aD,Nat.ble_eq,beq_iff_eq,fR,cd];omega
def cn(i:Nat)(ag:List Nat)(j:Nat):Nat:=if j<1000 then(ag[j]?).getD 0 else cd i+(j -1000)
def A4(P:Program)(get:Nat->Option aX)(ag:List Nat)(k:Nat):OB->Option (aX×List Prop)
 | .dat p=>(get k).bind λo=>some (fg p,[o.sz=p.1/\dX (o.rows.take p.2.length)=aS p.2])
 | .z9 hs=>(get k).bind λo=>(Ig P get ag o.rows hs).bind λq=>some (⟨o.sz,q.1⟩,q.2)
def KX(P:Program)(get:Nat->Option aX)(ag:List Nat):List Nat->List OB->Option (List aX×List Prop)
 |[],[]=>some ([],[])
 |k::ks,b::bs=>(A4 P get ag k b).bind λp=>(KX P get ag ks bs).bind λq=>some (p.1::q.1,p.2++q.2)
 |_,_=>none
def Xz(o:aX):List Nat:=o.rows.flatMap fD
def XA(get:Nat->Option aX)(xs:List AV)(ag cE:List Nat)(bs:List OB):Prop:=
 (∀ k∈cE,k∉ag)/\(∀ k∈fD xs,k∉ag->k∈cE)/\∀(j:Nat) hs q o,bs[j]? =some (.z9 hs)->ag[j]? =some q->get q=some o->∀k∈Xz o,k∉ag->k∈cE
def tR(i:Nat)(ag:List Nat)(os':List (Nat×aX)):List (Nat×Option aX):=
 (ag.zipIdx.map λp=>(p.1,(me os' p.2).map (Nk (cn i ag))))++(os'.filter λq=>decide (1000<=q.1)).map λq=>(cn i ag q.1,some (Nk (cn i ag) q.2))
mutual
def wE:AV->Prop
 | .t x=>x.flat
 | .du _ _ | .c6 _=>False
 | .agg cs | .ey cs=>pU cs
 | .fn _ first caps=>pU first/\pU caps
 |_=>True
def pU:List AV->Prop
 |[]=>True
 |x::xs=>wE x/\pU xs
end
def u3(n k:Nat):Prop:=k<n\/(1000<=k/\k<1064)
def A3(n:Nat)(os':List (Nat×aX))(rv:AV):Prop:=
 (∀ q∈os',u3 n q.1)/\(os'.map (·.1)).Nodup/\(∀ q∈os',∀r∈q.2.rows,∀k∈fD r,u3 n k)/\∀k∈refs rv,u3 n k
def j9(os':List (Nat×aX))(rv:AV):Prop:=wE rv/\∀q∈os',∀r∈q.2.rows,pU r
def Qc(P:Program)(i:Nat)(f:AV)(args:List AV)(b8:fY)(get:Nat->Option aX):Option Out:=
 match f,b8 with
 | .fn F first caps,.pN ag cE bs hs os' rv keep=>if ag.Nodup/\ag.length<=1000 then(KX P get ag ag bs).bind λho=>(mG P get ag (first++args++caps) hs).bind λq=>
  some ⟨eQ (cn i ag) rv,tR i ag os'++(if keep then []else cE.map λk=>(k,none)),
   q.2.2++ho.2++[u9 P F q.1 ho.1 os' rv,A3 ag.length os' rv,XA get (first++args++caps) ag cE bs]++(if keep then [j9 os' rv]else [])⟩
  else none
 |_,_=>none
section
variable {P:Program} {w0:World} {O0:gi} {β β1 β2:Nat->Option cA} {I:Nat->Prop} {obj:Nat->Option aX} {w:World} {i:Nat}
mutual
theorem VR.q7{f:Nat->Nat}:∀(x:AV)(v:Value),(∀ k∈refs x,∀B,β1 k=some B->β2 (f k)=some B)->VR P β1 w I x v->VR P β2 w I (eQ f x) v
 | .own k ae len,v,hd,h=>by
  simp only[eQ,VR]at h ⊢;have hd':=hd k (by simp[refs]);rcases h with ⟨h1,h2⟩ |⟨b,s,n,c,o,h1,h2⟩
  ·exact .inl ⟨hd' _ h1,h2⟩
  ·exact .inr ⟨b,s,n,c,o,hd' _ h1,h2⟩
 | .ptr k row ae,v,hd,h=>by
  simp only[eQ,VR]at h ⊢;obtain⟨b,s,n,h1,h2⟩:=h;exact⟨b,s,n,hd k (by simp[refs]) _ h1,h2⟩
 | .agg cs,v,hd,h=>by
  simp only[eQ,VR]at h ⊢;obtain⟨vs,h1,h2⟩:=h;exact⟨vs,h1,be.q7 cs _ (by simpa[refs]using hd) h2⟩
 | .ey cs,v,hd,h=>by
  simp only[eQ,VR]at h ⊢;obtain⟨vs,h1,h2⟩:=h;exact⟨vs,h1,be.q7 cs _ (by simpa[refs]using hd) h2⟩
 | .fn F first caps,v,hd,h=>by
  simp only[eQ,VR]at h ⊢;obtain⟨fs,cs,h1,h2,h3⟩:=h;exact⟨fs,cs,h1,be.q7 first _ (λ k hk=>hd k (by simp[refs,hk])) h2,be.q7 caps _ (λ k hk=>hd k (by simp[refs,hk])) h3⟩
 | .t x,v,_,h=>by simpa[eQ,VR]using h
 | .du r o,v,_,h=>by simpa[eQ,VR]using h
 | .c6 φ,v,_,h=>by simpa[eQ,VR]using h
 | .mp k,v,hd,h=>by
  simp only[eQ,VR]at h ⊢;obtain⟨b,h1,h2⟩:=h;exact⟨b,hd k (by simp[refs]) _ h1,h2⟩
 | .cG,v,_,h=>by simpa[eQ,VR]using h
 | .ub,v,_,h=>by simpa[eQ,VR]using h
 | .undef,v,_,h=>by simp[eQ,VR]
theorem be.q7{f:Nat->Nat}:∀(xs:List AV)(vs:List Value),(∀ k∈fD xs,∀B,β1 k=some B->β2 (f k)=some B)->be P β1 w I xs vs->be P β2 w I (CQ f xs) vs
 |[],[],_,_=>by simp[CQ,be]
 |x::xs,v::vs,hd,h=>by
  simp only[be]at h;simp only[CQ,be];exact⟨VR.q7 x v (λ k hk=>hd k (by simp[fD,hk])) h.1,be.q7 xs vs (λ k hk=>hd k (by simp[fD,hk])) h.2⟩
 |[],_::_,_,h=>by simp[be]at h
 |_::_,[],_,h=>by simp[be]at h
end
mutual
theorem VR.flat{I2:Nat->Prop}:∀(x:AV)(v:Value),wE x->VR P β w I x v->VR P β w I2 x v
 | .own k ae len,v,_,h=>by simpa only[VR]using h
 | .ptr k row ae,v,_,h=>by simpa only[VR]using h
 | .agg cs,v,hf,h=>by
  simp only[VR]at h ⊢;obtain⟨vs,h1,h2⟩:=h;exact⟨vs,h1,be.flat cs _ (by simpa[wE]using hf) h2⟩
 | .ey cs,v,hf,h=>by
  simp only[VR]at h ⊢;obtain⟨vs,h1,h2⟩:=h;exact⟨vs,h1,be.flat cs _ (by simpa[wE]using hf) h2⟩
 | .fn F first caps,v,hf,h=>by
  simp only[VR]at h ⊢;obtain⟨fs,cs,h1,h2,h3⟩:=h;simp only[wE]at hf;exact⟨fs,cs,h1,be.flat first _ hf.1 h2,be.flat caps _ hf.2 h3⟩
 | .t x,v,hf,h=>by
  simp only[VR]at h ⊢;exact Tree.i7 (by simpa[wE]using hf) h
 | .du r o,v,hf,h=>by simp[wE]at hf
 | .c6 φ,v,hf,h=>by simp[wE]at hf
 | .mp k,v,_,h=>by simpa only[VR]using h
 | .cG,v,_,h=>by simpa only[VR]using h
 | .ub,v,_,h=>by simpa only[VR]using h
 | .undef,v,_,h=>by simp[VR]
theorem be.flat{I2:Nat->Prop}:∀(xs:List AV)(vs:List Value),pU xs->be P β w I xs vs->be P β w I2 xs vs
 |[],[],_,_=>by simp[be]
 |x::xs,v::vs,hf,h=>by
  simp only[be]at h ⊢;simp only[pU]at hf;exact⟨VR.flat x v hf.1 h.1,be.flat xs vs hf.2 h.2⟩
 |[],_::_,_,h=>by simp[be]at h
 |_::_,[],_,h=>by simp[be]at h
end
theorem UI(f:Nat->Nat):∀l:List AV,(CQ f l).length=l.length
 |[]=>rfl
 |_::l=>by simp only[CQ,bH,UI f l]
theorem cI.tell{β':Nat->Option cA}{w':World}{I':Nat->Prop}{r q:List AV}{c:Array Value}{ae:Nat}(hv:∀vs:List Value,be P β w I r vs->be P β' w' I' q vs)(h:cI P β w I r c ae):cI P β' w' I' q c ae:=by
 have⟨vs,h1,h2,h3⟩:=cI.list r c ae h;exact cI.kO q vs c ae (hv vs h1) h2 h3
theorem bo.tell{β':Nat->Option cA}{w':World}{I':Nat->Prop}:∀{rs qs:List (List AV)}{c:Array Value}{ae sz:Nat},rs.length=qs.length->(∀ (j:Nat) r q,rs[j]? =some r->qs[j]? =some q->q.length=r.length/\∀vs:List Value,be P β w I r vs->be P β' w' I' q vs)->
 bo P β w I rs c ae sz->bo P β' w' I' qs c ae sz
 |[],[],_,_,_,_,_,h=>h
 |r::rs,q::qs,c,ae,sz,hl,hr,h=>by
  simp only[bo]at h ⊢;obtain⟨h1,h2,h3⟩:=h;have⟨e1,e2⟩:=hr 0 r q rfl rfl;exact⟨e1.trans h1,h2.tell e2,bo.tell (by simpa using hl) (λ j a b ha hb=>hr (j+1) a b (by simpa using ha) (by simpa using hb)) h3⟩
 |[],_::_,_,_,_,hl,_,_=>by simp at hl
 |_::_,[],_,_,_,hl,_,_=>by simp at hl
theorem co.tell{β':Nat->Option cA}{I':Nat->Prop}:∀{rs qs:List (List AV)}{es:List MapEntry},rs.length=qs.length->(∀ (j:Nat) r q',rs[j]? =some r->qs[j]? =some q'->∀vs:List Value,be P β w I r vs->be P β' w I' q' vs)->co P β w I rs es->co P β' w I' qs es
 |[],[],[],_,_,_=>trivial
 |r::rs,q::qs,_::es,hl,hr,⟨h1,h2⟩=>⟨hr 0 r q rfl rfl _ h1,co.tell (by simpa using hl) (λ j r' q' a b=>hr (j+1) r' q' (by simpa using a) (by simpa using b)) h2⟩
 |[],_::_,_,hl,_,_=>by simp at hl
 |_::_,[],_,hl,_,_=>by simp at hl
 |[],_,_::_,_,_,h=>h.elim
 |_::_,_,[],_,_,h=>h.elim
theorem OR.tell{β':Nat->Option cA}{I':Nat->Prop}{o q:aX}{B:cA}(hsz:q.sz=o.sz)(hl:o.rows.length=q.rows.length)(hr:∀(j:Nat) r q',o.rows[j]? =some r->q.rows[j]? =some q'->q'.length=r.length/\∀vs:List Value,be P β w I r vs->be P β' w I' q' vs)
 (h:OR P β w I o B):OR P β' w I' q B:=by
 cases B with
 |none=>
  simp only[OR]at h ⊢;rw[h]at hl;exact List.eq_nil_of_length_eq_zero hl.symm
 | «at» b s n=>
  obtain⟨h1,c,e,h2,h3,h4⟩:=h;exact⟨by rw[hsz];exact h1,c,e,h2,h3,h4.tell hl hr⟩
 |mp b=>
  obtain⟨es,cl,h1,hle,h2,h3⟩:=h;exact⟨es,cl,h1,by omega,λe=>co.tell hl (λ j r q' a b=>(hr j r q' a b).2) (h2 (by omega)),h3⟩
theorem OR.q7{f:Nat->Nat}{o:aX}{B:cA}(hf:∀r∈o.rows,∀k∈fD r,∀B,β1 k=some B->β2 (f k)=some B)(h:OR P β1 w I o B):OR P β2 w I (Nk f o) B:=by
 refine OR.tell (o:=o) (q:=Nk f o) rfl (by simp[Nk]) (λ j r q h1 h2=>?_) h;simp only[Nk,List.getElem?_map,fq]at h2;obtain⟨r',h3,rfl⟩:=h2;rw[h1]at h3;cases h3;exact⟨UI f r,λvs hv=>be.q7 r vs (hf r (eD h1)) hv⟩
theorem OR.j9{I2:Nat->Prop}{o:aX}{B:cA}(hf:∀r∈o.rows,pU r)(h:OR P β w I o B):OR P β w I2 o B:=by
 refine OR.tell rfl rfl (λ j r q h1 h2=>?_) h;rw[h1]at h2;cases h2;exact⟨rfl,λvs hv=>be.flat r vs (hf r (eD h1)) hv⟩
def ma(P:Program)(get:Nat->Option aX)(ag:List Nat):List (List AV)->List (List AV)->Prop
 |[],[]=>True
 |r::rs,q::qs=>er P get ag r q/\ma P get ag rs qs
 |_,_=>False
theorem Qd{get:Nat->Option aX}{ag:List Nat}:∀{rs:List (List AV)}{hs:List (List LH)}{p:List (List AV)×List Prop},Ig P get ag rs hs=some p->(∀ q∈p.2,q)->ma P get ag rs p.1
 |[],[],p,h,_=>by simp only[Ig,aC]at h;subst h;trivial
 |r::rs,hl::hs,p,h,ho=>by
  simp only[Ig,aj,aC]at h;obtain⟨q,h1,q',h2,rfl⟩:=h;exact⟨mV h1 (λ y hy=>ho y (by simp[hy])),Qd h2 (λ y hy=>ho y (by simp[hy]))⟩
 |[],_::_,p,h,_=>by simp[Ig]at h
 |_::_,[],p,h,_=>by simp[Ig]at h
theorem er.length{get:Nat->Option aX}{ag:List Nat}:∀{xs ys:List AV},er P get ag xs ys->ys.length=xs.length
 |[],[],_=>rfl
 |x::xs,y::ys,h=>by simp only[bH,er.length h.2]
 |[],_::_,h=>h.elim
 |_::_,[],h=>h.elim
theorem ma.get{get:Nat->Option aX}{ag:List Nat}:∀{rs qs:List (List AV)},ma P get ag rs qs->rs.length=qs.length/\∀(j:Nat) r q,rs[j]? =some r->qs[j]? =some q->er P get ag r q
 |[],[],_=>⟨rfl,λj r q h=>by simp at h⟩
 |r::rs,q::qs,h=>by
  have⟨h1,h2⟩:=ma.get h.2;refine⟨by simp[h1],λj a b ha hb=>?_⟩;cases j with
  |zero=>simp only[List.getElem?_cons_zero,aC]at ha hb;subst ha;subst hb;exact h.1
  |succ j=>exact h2 j a b (by simpa using ha) (by simpa using hb)
 |[],_::_,h=>h.elim
 |_::_,[],h=>h.elim
theorem XB{get:Nat->Option aX}{ag:List Nat}:∀{ks:List Nat}{bs:List OB}{p:List aX×List Prop},KX P get ag ks bs=some p->(∀ q∈p.2,q)->ks.length=p.1.length/\∀(j:Nat) k q,ks[j]? =some k->p.1[j]? =some q->∃o,get k=some o/\
 ((∃ d:fF,bs[j]? =some (.dat d)/\q=fg d/\o.sz=d.1/\dX (o.rows.take d.2.length)=aS d.2)\/(∃ hs,bs[j]? =some (.z9 hs)/\q.sz=o.sz/\ma P get ag o.rows q.rows))
 |[],[],p,h,_=>by simp only[KX,aC]at h;subst h;exact⟨rfl,λj k q h=>by simp at h⟩
 |k::ks,b::bs,p,h,ho=>by
  simp only[KX,aj,aC]at h;obtain⟨q,h1,q',h2,rfl⟩:=h;obtain⟨g1,g2⟩:=XB h2 (λ y hy=>ho y (by simp[hy]));refine⟨by simp[g1],λj k' z hj hz=>?_⟩;cases j with
  |succ j=>
   obtain⟨o,e1,e2⟩:=g2 j k' z (by simpa using hj) (by simpa using hz);exact⟨o,e1,by simpa using e2⟩
  |zero=>
   simp only[List.getElem?_cons_zero,aC]at hj hz;subst hj;subst hz;cases b with
   |dat d=>
    simp only[A4,aj,aC]at h1;obtain⟨o,e1,rfl⟩:=h1;have:=ho _ (List.mem_append_left _ (aW.2 rfl));exact⟨o,e1,.inl ⟨d,rfl,rfl,this.1,this.2⟩⟩
   |z9 hs=>
    simp only[A4,aj,aC]at h1;obtain⟨o,e1,z,e2,rfl⟩:=h1;exact⟨o,e1,.inr ⟨hs,rfl,rfl,Qd e2 (λ y hy=>ho y (List.mem_append_left _ hy))⟩⟩
 |[],_::_,p,h,_=>by simp[KX]at h
 |_::_,[],p,h,_=>by simp[KX]at h
theorem Mem.tt(h:Mem P w0 O0 β I obj w){get:Nat->Option aX}(hg:∀k o,get k=some o->obj k=some o){ag cE:List Nat}{os:List aX}(hnd:ag.Nodup)(hlen:ag.length=os.length)
 (hm:∀(j:Nat) k q,ag[j]? =some k->os[j]? =some q->∃o,get k=some o/\((∃ d:fF,q=fg d/\o.sz=d.1/\dX (o.rows.take d.2.length)=aS d.2)\/(q.sz=o.sz/\ma P get ag o.rows q.rows/\∀k∈Xz o,k∉ag->k∈cE))) (wi:∀k∈cE,k∉ag):
 Mem P w (ug (βc ag β) (eJ β obj cE I)) (βc ag β) (eJ β obj cE I) (ri os) w:=by
 have hb0:∀j k,ag[j]? =some k->βc ag β j=β k:=λj k hk=>by simp[βc,hk]
 have look:∀j q,ri os j=some q->∃k o,ag[j]? =some k/\obj k=some o/\∀B,OR P β w I o B->OR P (βc ag β) w (eJ β obj cE I) q B:=by
  intro j q hj;simp only[ri]at hj;have hjl:j<ag.length:=by rw[hlen];exact(fe.1 hj).1
  obtain⟨o,g,hh⟩:=hm j _ q (dI hjl) hj;refine⟨_,o,dI hjl,hg _ _ g,λB hO=>?_⟩;rcases hh with ⟨d,rfl,g4,g5⟩ |⟨g4,g5,g6⟩
  ·have:OR P β w I (fg d) B:=by
    cases B with
    |none=>
     simp only[OR]at hO ⊢;rw[hO]at g5;simpa[dX,fg]using g5.symm
    | «at» b s n=>
     obtain⟨h1,c,e,h2,h3,h4⟩:=hO;refine⟨by rw[h1,g4];rfl,c,e,h2,h3,?_⟩;have:=bo.wk _ _ _ _ (bo.take d.2.length _ _ _ _ h4);rw[g5]at this;exact this
    |mp b=>exact OR.part g4 g5 hO
   exact this.dat λb hb=> .inl hb
  ·obtain⟨e1,e2⟩:=g5.get;refine hO.tell g4 e1 (λ m r q' hr hq=>?_);have hb:=e2 m r q' hr hq;refine⟨hb.length,λvs hv=>?_⟩;refine er.sound h hg cE r q' vs (λ k hk hn=>g6 k ?_ hn) hb hv;exact List.mem_flatMap.2 ⟨r,eD hr,hk⟩
 constructor
 ·intro j q hj;have⟨k,o,g1,g2,g3⟩:=look j q hj;have⟨B,hB,hO⟩:=h.cw k o g2;exact⟨B,by rw[hb0 j k g1];exact hB,g3 B hO⟩
 ·intro j j' o o' B B' b h1 h2 h3 h4 h5 h6;have⟨k,q,g1,g3,_⟩:=look j o h1;have⟨k',q',g1',g3',_⟩:=look j' o' h2;rw[hb0 j k g1]at h3;rw[hb0 j' k' g1']at h4;have:=h.eR k k' q q' B B' b g3 g3' h3 h4 h5 h6;subst this;exact Sw hnd g1 g1'
 ·intro j o B b h1 h2 h5;have⟨k,q,g1,g3,_⟩:=look j o h1;have h2':=h2;rw[hb0 j k g1]at h2;have⟨a1,a2,_⟩:=h.ownB k q B b g3 h2 h5;refine⟨?_,a2,.inl ⟨j,B,h2',h5⟩⟩;rintro (hI |⟨k',o',s',n',e1,e2,e3⟩)
  ·exact a1 hI
  ·have:=h.kq k k' q o' b g3 e2 ⟨B,h2,h5⟩ (.at e3);subst this;exact wi _ e1 (eD g1)
 ·exact P6 h _
 ·exact λb hb=> .inl hb
 ·exact λ_ _ _=>rfl
 ·exact aT _
 ·rfl
 ·rfl
 ·rfl
 ·intro j B hj;simp only[ug]at hj;split at hj
  ·exact hj
  ·cases hj
 ·exact h.vars.mono (λ _ _=>rfl) (λ b hb=> .inl hb)
theorem R2:∀{os':List (Nat×aX)}{k:Nat}{o:aX},me os' k=some o->(k,o)∈os'
 |[],_,_,h=>by simp[me]at h
 |(j,q)::r,k,o,h=>by
  simp only[me]at h;split at h
  ·rename_i e;cases h;subst e;exact List.mem_cons_self
  ·exact dD _ (R2 h)
theorem XC:∀{os':List (Nat×aX)}{k:Nat}{o:aX},(os'.map (·.1)).Nodup->(k,o)∈os'->me os' k=some o
 |(j,q)::r,k,o,hn,h=>by
  simp only[aF,List.nodup_cons]at hn;simp only[me];rcases aK.1 h with e |h
  ·injection e with e1 e2;subst e1;subst e2;rw[aP rfl]
  ·rw[aM (λ e=>hn.1 (mem_map.2 ⟨(k,o),h,e.symm⟩)),XC hn.2 h]
theorem ae2{F:Nat->Option aX}{k:Nat}:∀(ag:List Nat)(n:Nat),(∃ j,ag[j]? =some k/\cZ obj ((ag.zipIdx n).map λp=>(p.1,F p.2)) k=F (n+j))\/(k∉ag/\cZ obj ((ag.zipIdx n).map λp=>(p.1,F p.2)) k=obj k)
 |[],n=> .inr ⟨by simp,rfl⟩
 |q::ag,n=>by
  simp only[List.zipIdx_cons,aF,cZ];by_cases e:k=q
  ·subst e;exact .inl ⟨0,rfl,by simp⟩
  ·rw[aM e];rcases ae2 (k:=k) ag (n+1)with ⟨j,h1,h2⟩ |⟨h1,h2⟩
   ·exact .inl ⟨j+1,by simpa using h1,by rw[h2];congr 1;omega⟩
   ·exact .inr ⟨by simp[e,h1],h2⟩
theorem abx{c:Nat->Nat}{G:aX->aX}{k:Nat}:∀(l:List (Nat×aX)),(∃ q∈l,k=c q.1/\cZ obj (l.map λq=>(c q.1,some (G q.2))) k=some (G q.2))\/cZ obj (l.map λq=>(c q.1,some (G q.2))) k=obj k
 |[]=> .inr rfl
 |q::l=>by
  simp only[aF,cZ];by_cases e:k=c q.1
  ·exact .inl ⟨q,by simp,e,by rw[aP e]⟩
  ·rw[aM e];rcases abx (c:=c) (G:=G) (k:=k) l with ⟨z,h1,h2,h3⟩ |h
   ·exact .inl ⟨z,dD _ h1,h2,h3⟩
   ·exact .inr h
theorem ae3(h:Mem P w0 O0 β I obj w)(hn:∀k,fR (cd i) k->β k=none){ag cE:List Nat}{os':List (Nat×aX)}{rv:AV}{keep:Bool}(hgood:A3 ag.length os' rv)(hk:keep=true->j9 os' rv)
 (hnd:ag.Nodup) (hl:ag.length<=1000) (gx:∀k∈ag,∃o,obj k=some o)
 {w':World} {I1:Nat->Prop} {v:Value} (hM:Mem P w (ug (βc ag β) (eJ β obj cE I)) β1 I1 (me os') w') (h1:∀b,eJ β obj cE I b->I1 b) (hr:VR P β1 w' I1 rv v):
 ∃ β' I',Step β I w (cd i) β' I' w'/\Mem P w0 O0 β' I' (cZ obj (tR i ag os'++if keep then []else cE.map (λ k=>(k,none)))) w'/\VR P β' w' I' (eQ (cn i ag) rv) v:=by
 obtain⟨gk,gn,gr,gv⟩:=hgood;have hb0:∀j k,ag[j]? =some k->βc ag β j=β k:=λj k hk=>by simp[βc,hk]
 have hown0:∀k B,β k=some B->¬fR (cd i) k:=λk B hk e=>by rw[hn k e]at hk;cases hk
 have C6:∀j k,ag[j]? =some k->∃B,β k=some B/\β1 j=some B:=by
  intro j k hj;have⟨o,ho⟩:=gx k (eD hj);have⟨B,hB,_⟩:=h.cw k o ho;have hjl:=(fe.1 hj).1;exact⟨B,hB,hM.anch j B (by simp only[ug];rw[aP (by omega),hb0 j k hj];exact hB)⟩
 generalize zE:(λ k=>if KW i k then β1 (1000+(k -cd i))else β k:Nat->Option cA)=β2;have vq:∀k,¬fR (cd i) k->β2 k=β k:=λk hk=>by
  rw[<- zE];have:KW i k=false:=by
   cases e:KW i k with
   |false=>rfl
   |true=>exact absurd (Xy.1 e) hk
  simp[this]
 have SR:∀j,1000<=j->j<1064->β2 (cd i+(j -1000))=β1 j:=λj e1 e2=>by
  rw[<- zE];have e:KW i (cd i+(j -1000))=true:=Xy.2 (by simp only[fR,cd];omega);have e':1000+(cd i+(j -1000) -cd i)=j:=by omega
  simp only[e,if_true,e']
 have hmap:∀k,u3 ag.length k->∀B,β1 k=some B->β2 (cn i ag k)=some B:=by
  rintro k (hk |⟨hk1,hk2⟩) B hB
  ·obtain⟨B',e1,e2⟩:=C6 k _ (dI hk);rw[e2]at hB;cases hB;simp only[cn,show k<1000 by omega,if_true,dI hk,Option.getD_some];rw[vq _ (hown0 _ _ e1)];exact e1
  ·simp only[cn,show ¬k<1000 by omega,if_false];rw[SR k hk1 hk2];exact hB
 have look:∀g k o,cZ obj (tR i ag os'++g) k=some o->(∃ j o0,ag[j]? =some k/\me os' j=some o0/\o=Nk (cn i ag) o0)\/
  (∃ j o0,1000<=j/\j<1064/\me os' j=some o0/\k=cd i+(j -1000)/\o=Nk (cn i ag) o0)\/(k∉ag/\cZ obj g k=some o):=by
  intro g k o hko;rw[tK,tR,tK]at hko;rcases ae2 (obj:=cZ (cZ obj g) ((os'.filter λ(q:Nat×aX)=>decide (1000<=q.1)).map λ(q:Nat×aX)=>(cn i ag q.1,some (Nk (cn i ag) q.2)))) (F:=λj=>(me os' j).map (Nk (cn i ag))) (k:=k) ag 0 with ⟨j,e1,e2⟩ |⟨e1,e2⟩
  ·rw[e2]at hko;simp only[Nat.zero_add,fq]at hko;obtain⟨o0,e3,e4⟩:=hko;exact .inl ⟨j,o0,e1,e3,e4.symm⟩
  ·rw[e2]at hko;rcases abx (obj:=cZ obj g) (c:=cn i ag) (G:=Nk (cn i ag)) (k:=k) (os'.filter λq=>decide (1000<=q.1))with ⟨q,e3,e4,e5⟩ |e3
   ·rw[e5]at hko;injection hko with hko;simp only[List.mem_filter,aG]at e3;have hq:=gk q e3.1;simp only[u3]at hq;refine .inr (.inl ⟨q.1,q.2,e3.2,by omega,XC gn e3.1,?_,hko.symm⟩);rw[e4];simp only[cn,show ¬q.1<1000 by omega,if_false]
   ·rw[e3]at hko;exact .inr (.inr ⟨e1,hko⟩)
 have main:∀(g:List (Nat×Option aX))(I2:Nat->Prop),(∀ k o,cZ obj g k=some o->obj k=some o)->(∀ b,I b->I2 b)->(∀ b,I2 b->I1 b)->(∀ j o B,me os' j=some o->OR P β1 w' I1 o B->OR P β1 w' I2 o B)->
  (∀ k o b,k∉ag->cZ obj g k=some o->eL β k b->¬I2 b)->VR P β1 w' I2 rv v->
  ∃ β' I',Step β I w (cd i) β' I' w'/\Mem P w0 O0 β' I' (cZ obj (tR i ag os'++g)) w'/\VR P β' w' I' (eQ (cn i ag) rv) v:=by
  intro g I2 hg hI hI1 hor Kd hr2;have hown:∀b,Xn (βc ag β) b->∃k o,k∈ag/\obj k=some o/\eL β k b:=by
   rintro b ⟨j,B,hj,hB⟩;have⟨k,e1,e2⟩:=P7 hj;have⟨o,e3⟩:=gx k (eD e1);exact⟨k,o,eD e1,e3,B,e2,hB⟩
  have hapart:∀k o b,k∉ag->obj k=some o->eL β k b->¬Xn (βc ag β) b:=by
   intro k o b hk e1 e2 hb;have⟨k',o',g1,g2,g3⟩:=hown b hb;have:=h.kq k k' o o' b e1 g2 e2 g3;subst this;exact hk g1
  have hS:Same I w w':=λb hb=>hM.keep b (h.lt b hb) (λ hb'=>by
   have⟨k',o',g1,g2,g3⟩:=hown b hb';exact(h.fS k' o' b g2 g3).1 hb)
  have Ex:∀k o,cZ obj (tR i ag os'++g) k=some o->(∃ j o0,me os' j=some o0/\u3 ag.length j/\k=cn i ag j/\β2 k=β1 j/\o=Nk (cn i ag) o0)\/(k∉ag/\obj k=some o/\cZ obj g k=some o/\β2 k=β k):=by
   intro k o hko;rcases look g k o hko with ⟨j,o0,e1,e2,e3⟩ |⟨j,o0,e1,GW,e2,e3,e4⟩ |⟨e1,e2⟩
   ·have⟨B,e4,e5⟩:=C6 j k e1;have hjl:=(fe.1 e1).1;refine .inl ⟨j,o0,e2,.inl hjl,?_,?_,e3⟩
    ·simp only[cn,show j<1000 by omega,if_true,e1,Option.getD_some]
    ·rw[vq _ (hown0 _ _ e4),e4,e5]
   ·refine .inl ⟨j,o0,e2,.inr ⟨e1,GW⟩,?_,?_,e4⟩
    ·simp only[cn,show ¬j<1000 by omega,if_false];exact e3
    ·rw[e3];exact SR j e1 GW
   ·have⟨B,e3,_⟩:=h.cw k o (hg k o e2);exact .inr ⟨e1,hg k o e2,e2,vq _ (hown0 _ _ e3)⟩
  have pg:∀j o0 b,me os' j=some o0->eL β1 j b->¬I2 b/\b<w'.heap.size/\(Xn (βc ag β) b\/w.heap.size<=b):=by
   intro j o0 b e1 e2;have⟨a1,a2,a3⟩:=hM.fS j o0 b e1 e2;exact⟨λ hb=>a1 (hI1 b hb),a2,a3⟩
  refine⟨β2,I2,⟨vq,λk B hk=>by rw[vq k (hown0 k B hk)];exact hk,hS,hI⟩,?_,VR.q7 rv v (λ k hk=>hmap k (gv k hk)) hr2⟩;constructor
  ·intro k o hko;rcases Ex k o hko with ⟨j,o0,e1,e2,e3,e4,rfl⟩ |⟨e1,e2,e3,e4⟩
   ·have⟨B,hB,hO⟩:=hM.cw j o0 e1;refine⟨B,by rw[e4];exact hB,OR.q7 (λ r hr' q hq=>hmap q (gr (j,o0) (R2 e1) r hr' q hq)) (hor j o0 B e1 hO)⟩
   ·have⟨B,hB,hO⟩:=h.cw k o e2;refine⟨B,by rw[e4];exact hB,OR.mono (λ q C hq=>by rw[vq q (hown0 q C hq)];exact hq) hS hI (λ b e=>hM.keep b (h.ownB k o B b e2 hB e).2.1 (hapart k o b e1 e2 ⟨B,hB,e⟩)) hO⟩
  ·intro k k' o o' B B' b ho ho' hb hb' h5 h6;rcases Ex k o ho with ⟨j,o0,e1,e2,e3,e4,rfl⟩ |⟨e1,e2,e3,e4⟩
   ·rw[e4]at hb;rcases Ex k' o' ho' with ⟨j',IN,f1,f2,f3,f4,rfl⟩ |⟨f1,f2,f3,f4⟩
    ·rw[f4]at hb';have:=hM.eR j j' o0 IN B B' b e1 f1 hb hb' h5 h6;subst this;rw[e3,f3]
    ·rw[f4]at hb';rcases (pg j o0 b e1 ⟨B,hb,h5⟩).2.2 with g1 |g1
     ·exact absurd g1 (hapart k' o' b f1 f2 ⟨B',hb',h6⟩)
     ·have:=(h.ownB k' o' B' b f2 hb' h6).2.1;omega
   ·rw[e4]at hb;rcases Ex k' o' ho' with ⟨j',IN,f1,f2,f3,f4,rfl⟩ |⟨f1,f2,f3,f4⟩
    ·rw[f4]at hb';rcases (pg j' IN b f1 ⟨B',hb',h6⟩).2.2 with g1 |g1
     ·exact absurd g1 (hapart k o b e1 e2 ⟨B,hb,h5⟩)
     ·have:=(h.ownB k o B b e2 hb h5).2.1;omega
    ·rw[f4]at hb';exact h.eR k k' o o' B B' b e2 f2 hb hb' h5 h6
  ·intro k o B b ho hb h5;rcases Ex k o ho with ⟨j,o0,e1,e2,e3,e4,rfl⟩ |⟨e1,e2,e3,e4⟩
   ·rw[e4]at hb;have⟨a1,a2,a3⟩:=pg j o0 b e1 ⟨B,hb,h5⟩;refine⟨a1,a2,?_⟩;rcases a3 with a3 |a3
    ·have⟨k',o',g1,g2,g3⟩:=hown b a3;exact(h.fS k' o' b g2 g3).2.2
    ·exact .inr (Nat.le_trans h.le a3)
   ·rw[e4]at hb;have⟨a1,a2,a3⟩:=h.ownB k o B b e2 hb h5;exact⟨Kd k o b e1 e3 ⟨B,hb,h5⟩,Nat.lt_of_lt_of_le a2 hM.le,a3⟩
  ·exact λb hb=>hM.lt b (hI1 b hb)
  ·intro b hb;rcases hM.up b (hI1 b hb)with (g1 |⟨k',o',s',n',_,g2,g3⟩) |g1 |g1
   ·exact h.up b g1
   ·exact .inr (h.own k' o' b s' n' g2 g3).2.2
   ·have⟨k',o',_,g2,g3⟩:=hown b g1;exact .inr (h.fS k' o' b g2 g3).2.2
   ·exact .inr (.inr (Nat.le_trans h.le g1))
  ·intro b hb hno;refine(hM.keep b (Nat.lt_of_lt_of_le hb h.le) (λ hb'=>?_)).trans (h.keep b hb hno);have⟨k',o',_,g2,g3⟩:=hown b hb';rcases (h.fS k' o' b g2 g3).2.2 with g1 |g1
   ·exact hno g1
   ·omega
  ·exact Nat.le_trans h.le hM.le
  ·exact hM.os.trans h.os
  ·exact hM.tape.trans h.tape
  ·exact hM.output.trans h.output
  ·intro j B hj;have e:=h.anch j B hj;rw[vq j (hown0 j B e)];exact e
  ·exact h.vars.mono hS hI
 cases keep with
 |true=>
  have⟨hf1,hf2⟩:=hk rfl;exact main [] I (λ _ _ h=>h) (λ _ h=>h) (λ b hb=>h1 b (.inl hb)) (λ j o B hj hO=>OR.j9 (hf2 (j,o) (R2 hj)) hO) (λ k o b _ e1 e2=>(h.fS k o b e1 e2).1) (VR.flat rv v hf1 hr)
 |false=>
  have hsub:∀k o,cZ obj (cE.map λk=>(k,none)) k=some o->obj k=some o/\k∉cE:=by
   intro k o hk;rw[AU]at hk;split at hk
   ·cases hk
   ·exact⟨hk,‹_›⟩
  refine main _ I1 (λ k o hk=>(hsub k o hk).1) (λ b hb=>h1 b (.inl hb)) (λ _ h=>h) (λ j o B hj hO=>hO) (λ k o b hki e1 e2 hb=>?_) hr;have⟨f1,f2⟩:=hsub k o e1;have⟨a1,a2,_⟩:=h.fS k o b f1 e2;rcases hM.up b hb with (g |⟨k',o',s',n',g1,g2,g3⟩) |⟨j,B',g,g'⟩ |g
  ·exact a1 g
  ·have:=h.kq k k' o o' b f1 g2 e2 (.at g3);subst this;exact f2 g1
  ·have⟨k',g1,g2⟩:=P7 g;have⟨o',g3⟩:=gx k' (eD g1);have:=h.kq k k' o o' b f1 g3 e2 ⟨B',g2,g'⟩;subst this;exact hki (eD g1)
  ·omega
theorem XD(h:Mem P w0 O0 β I obj w)(hn:∀k,fR (cd i) k->β k=none){f:AV}{args:List AV}{b8:fY}{get:Nat->Option aX}{aa:Out}(hg:∀k o,get k=some o->obj k=some o)
 {fv:Value} {vs:Array Value} {ao:Array Operand} {fo:Operand} {r:Operand->Value} (ha:Qc P i f args b8 get=some aa) (cr:aa.ob) (hf:VR P β w I f fv) (hv:be P β w I args vs.toList) (hfo:r fo=fv) (hops:vs=ao.map r)
 {dst:Option Tmp} {aE:String} {after:Array Edge} {guard:Option (Nat×Bool)} {ty:TypeId} {cQ:Array TypeId}:
 D6 P w0 O0 β I obj w i aa ((execOp r ⟨dst,.call { callee:= .value fo,args:=ao,argTypes:=cQ },ty,aE,after,guard⟩).run P w):=by
 unfold Qc at ha;split at ha
 ·rename_i F first caps ag cE bs hs os' rv keep
  split at ha
  ·rename_i hc;obtain⟨hnd,hl⟩:=hc;rw[aj]at ha;obtain⟨ho,hho,ha⟩:=ha;rw[aj]at ha;obtain⟨q,hq,ha⟩:=ha;cases ha;have cr:=qZ _ cr;simp only[VR]at hf;obtain⟨fs,cs,rfl,hf1,hf2⟩:=hf;have o1:∀x∈q.2.2,x:=λx hx=>cr x (by simp[hx]);have o2:∀x∈ho.2,x:=λx hx=>cr x (by simp[hx]);have o3:u9 P F q.1 ho.1 os' rv:=cr (u9 P F q.1 ho.1 os' rv) (by simp);have o4:A3 ag.length os' rv:=cr (A3 ag.length os' rv) (by simp);have o5:keep=true->j9 os' rv:=λe=>cr (j9 os' rv) (by simp[e]);obtain⟨l1,l2,l3⟩:XA get (first++args++caps) ag cE bs:=cr (XA get (first++args++caps) ag cE bs) (by simp);obtain⟨⟨fn,e1,e2,e3⟩,hcon⟩:=o3;have⟨hl2,hmm⟩:=XB hho o2;have gx:∀k∈ag,∃o,obj k=some o:=by
    intro k hk;obtain⟨j,hj⟩:=List.getElem?_of_mem hk;have hjl:j<ho.1.length:=(by rw[<- hl2];exact(fe.1 hj).1);obtain⟨o,g,_⟩:=hmm j k _ hj (dI hjl);exact⟨o,hg _ _ g⟩
   have hM:=h.tt hg (cE:=cE) hnd hl2 (λ j k z hj hz=>by
    have⟨o,g1,g2⟩:=hmm j k z hj hz;refine⟨o,g1,?_⟩;rcases g2 with ⟨d,_,g3⟩ |⟨hs',g3,g4,g5⟩
    ·exact .inl ⟨d,g3⟩
    ·exact .inr ⟨g4,g5,λk' hk' hn'=>l3 j hs' k o g3 hj g1 k' hk' hn'⟩) l1
   have hall:be P β w I (first++args++caps) (fs++vs++cs).toList:=by
    simp only[Array.toList_append];exact be.append _ _ _ _ (be.append _ _ _ _ hf1 hv) hf2
   have lw:=er.sound h hg cE _ _ _ (λ k hk hn=>l2 k hk hn) (mV hq o1) hall;refine⟨F,fs++vs++cs,?_,(hcon w _ _ _ (λ k hk=>?_) hM lw).mono ?_⟩
   ·have hb:¬fn.body=none:=(by cases hh:fn.body<;>simp[hh]at e2 ⊢);have e3' : ¬ fn.name = "runtime.NumGoroutine" := (by simpa using e3);simp[execOp,resolve,hfo,<- hops,Deferred.ofValue,invoke,callFunc,e1,e3',hb]
   ·simp[βc,List.getElem?_eq_none (show ag.length<=k by omega)]
   ·rintro e w' ⟨v',β1,I1,rfl,g1,g2,g3⟩;have⟨β',I',k1,k2,k3⟩:=ae3 (keep:=keep) h hn o4 o5 hnd hl gx g1 g2 g3;exact⟨v',β',I',rfl,k1,k2,k3⟩
  ·cases ha
 ·cases ha
end
def jZ(P:Program)(i:Nat)(f:AV)(args:List AV)(b8:fY)(get:Nat->Option aX):Option Out:=
 match b8 with
 | .pN ag cE bs hs os' rv keep=>Qc P i f args (.pN ag cE bs hs os' rv keep) get
 |b8=>oW P i f args b8 get
section
variable {P:Program} {w0:World} {O0:gi} {β:Nat->Option cA} {I:Nat->Prop} {obj:Nat->Option aX} {w:World} {i:Nat}
theorem XE(h:Mem P w0 O0 β I obj w)(hn:∀k,fR (cd i) k->β k=none){f:AV}{args:List AV}{b8:fY}{get:Nat->Option aX}{aa:Out}(hg:∀k o,get k=some o->obj k=some o)
 {fv:Value} {vs:Array Value} {ao:Array Operand} {fo:Operand} {r:Operand->Value} (ha:jZ P i f args b8 get=some aa) (cr:aa.ob) (hf:VR P β w I f fv) (hv:be P β w I args vs.toList) (hfo:r fo=fv) (hops:vs=ao.map r)
 {dst:Option Tmp} {aE:String} {after:Array Edge} {guard:Option (Nat×Bool)} {ty:TypeId} {cQ:Array TypeId}:
 D6 P w0 O0 β I obj w i aa ((execOp r ⟨dst,.call { callee:= .value fo,args:=ao,argTypes:=cQ },ty,aE,after,guard⟩).run P w):=by
 unfold jZ at ha;split at ha
 ·exact XD h hn hg ha cr hf hv hfo hops
 ·exact Xq h (hn _ (.inl rfl)) hg ha cr hf hv hfo hops
end
structure St where
 env:Nat->AV
 obj:Nat->Option aX
 ok:Nat->Option Bool
structure j0 where
 b8:fY
 rd:List Nat
 wr:List Nat
 sym:Bool
def jI(P:Program)(T:da)(i:Nat)(o:Oper)(b8:fY)(ρ:Operand->AV)(get:Nat->Option aX):Option Out:=
 match b8 with
 | .ext n=>pR T i o n ρ get
 | .tx ag fr rj=>KU P T i o ag fr rj ρ get
 |b8=>match o.op with
  | .call { callee:= .value f,args:=args,argTypes:=_ }=>jZ P i (ρ f) (args.toList.map ρ) b8 get
  |_=>qz T i o b8 ρ get
def ES{α:Type}(env:Nat->α)(dst:Option Tmp)(v:α):Nat->α:=λt=>if dst=some t then v else env t
def St.app(σ:St)(dst:Option Tmp)(p:Out×Option Bool):St:=⟨ES σ.env dst p.1.v,cZ σ.obj p.1.upd,ES σ.ok dst p.2⟩
def want(ao:Array Oper)(o:Oper)(env:Nat->AV)(ok:Nat->Option Bool):Option Bool:=
 match o.guard with
 |none=>some true
 |some (j,b)=>match (ao[j]?).bind (·.dst)with
  |some t=>match env t,ok t with
   | .t (.sc (.bool v)),none=>some (v==b)
   | .t (.sc (.bool v)),some g=>some (g&&(v==b))
   | .undef,some false=>some false
   |_,_=>none
  |none=>none
def zY(ok:Nat->Option Bool):Operand->List Prop
 | .tmp t=>match ok t with
  |none=>[]
  |some b=>[b=true]
 |_=>[]
def needs(env:Nat->AV)(ok:Nat->Option Bool)(o:Op):List Prop:=
 match o with
 | .pick c a b=>match ij env c with
  | .t (.sc (.bool e))=>zY ok c++((zY ok a).map (λ p=>e=true->p)++(zY ok b).map (λ p=>e=false->p))
  |_=>[False]
 |o=>o.operands.toList.flatMap (zY ok)
def dO(rd:List Nat)(obj:Nat->Option aX):Nat->Option aX:=λk=>if k∈rd then obj k else none
section
variable (P:Program) (T:da) (ao:Array Oper) (cJ:Nat->j0)
def opAt(i:Nat)(σ:St):Option (Out×Option Bool):=
 (ao[i]?).bind λo=>(want ao o σ.env σ.ok).bind λg=>match (cJ i).sym with
  |true=>(jI P T i o (cJ i).b8 (ij σ.env) (dO (cJ i).rd σ.obj)).bind λaa=>
   if aa.upd.isEmpty then some (⟨aa.v,[],(needs σ.env σ.ok o.op++aa.obs).map λp=>g=true->p⟩,some g)else none
  |false=>match g with
   |true=>(jI P T i o (cJ i).b8 (ij σ.env) (dO (cJ i).rd σ.obj)).bind λaa=>
    if aa.upd.all (λ p=>KW i p.1 || (cJ i).wr.contains p.1)then some (⟨aa.v,aa.upd,needs σ.env σ.ok o.op++aa.obs⟩,none)else none
   |false=>some (⟨.undef,[],[]⟩,some false)
def tz(i:Nat)(K:St->Prop)(σ:St):Prop:=∃o aa,ao[i]? =some o/\opAt P T ao cJ i σ=some aa/\aa.1.ob/\K (σ.app o.dst aa)
def VA(Q:St->Prop):List Nat->St->Prop
 |[],σ=>Q σ
 |i::r,σ=>tz P T ao cJ i (VA Q r) σ
def yr(md:Region.Mode)(Q:St->Prop):Nat->Array Bool->St->Prop
 | 0,listed,σ=>Region.ready md ao listed=[]/\Q σ
 |fuel+1,listed,σ=>(Region.ready md ao listed=[]->Q σ)/\∀i∈Region.ready md ao listed,tz P T ao cJ i (yr md Q fuel (listed.setIfInBounds i true)) σ
end
def Aa(cJ:Nat->j0)(i j:Nat):Bool:=
 (cJ j).rd.all (λ k=>!KW i k&&!(cJ i).wr.contains k)&&(!Nat.beq i j&&(cJ j).wr.all (λ k=>!KW i k&&!(cJ i).wr.contains k)&&(cJ i).wr.all (λ k=>!KW j k))&&(cJ i).rd.all (λ k=>!KW j k&&!(cJ j).wr.contains k)
def SB(md:Region.Mode)(ao:Array Oper)(i:Nat):List Nat:=
 (List.range ao.size).foldl (λ D j=>match ao[j]? with
  |some oj=>bif oj.after.any (λ e=>Region.binds md e&&(e.on==i || D.contains e.on))then j::D else D
  |none=>D) []
def HE(md:Region.Mode)(ao:Array Oper)(listed:Array Bool)(i j:Nat):Bool:=
 (SB md ao i).contains j&&(SB md ao i).all λd=>!listed.getD d true
def SC(md:Region.Mode)(ao:Array Oper)(cJ:Nat->j0)(listed:Array Bool)(i:Nat):Bool:=
 match ao[i]? with
 |some oi=>(List.range ao.size).all λj=>j==i || listed.getD j true || match ao[j]? with
  |some oj=>oj.after.any (λ e=>Region.binds md e&&e.on==i) || (oi.apart ao oj&&Aa cJ i j) || HE md ao listed i j
  |none=>true
 |none=>false
def lexFrom'(md:Region.Mode)(ao:Array Oper)(cJ:Nat->j0):Nat->Nat->Array Bool->Bool
 | 0,_,listed=>(Region.ready md ao listed).isEmpty
 |fuel+1,k,listed=>(Region.ready md ao listed).contains k&&SC md ao cJ listed k&&lexFrom' md ao cJ fuel (k+1) (listed.setIfInBounds k true)
def HD(ao:Array Oper)(cJ:Nat->j0):Bool:=lexFrom' .any ao cJ ao.size 0 (Array.replicate ao.size false)
section
variable {P:Program} {T:da} {ao:Array Oper} {cJ:Nat->j0} {md:Region.Mode} {Q:St->Prop}
theorem ams{i:Nat}{K K':St->Prop}{σ:St}(h:∀ σ,K σ->K' σ)(hh:tz P T ao cJ i K σ):tz P T ao cJ i K' σ:=
 let ⟨o,aa,h1,h2,h3,h4⟩:=hh
 ⟨o,aa,h1,h2,h3,h _ h4⟩
theorem Qe{i:Nat}{o:Oper}{b8:fY}{ρ ρ':Operand->AV}{get:Nat->Option aX}(h:∀x∈o.op.operands,ρ x=ρ' x):jI P T i o b8 ρ get=jI P T i o b8 ρ' get:=by
 have hop:=UD (T:=T) (i:=i) (b8:=b8) (get:=get) h;unfold jI;split
 ·exact aah h
 ·exact acX h
 ·obtain⟨dst,op,ty,aE,after,guard⟩:=o;simp only at h ⊢;split
  ·rename_i f args cQ;simp only[Op.operands,Call.operands]at h;have h1:args.toList.map ρ=args.toList.map ρ':=map_congr_left λx hx=>h x (by simp;exact .inr (by simpa using hx));rw[h1,h f (by simp)]
  ·exact hop
theorem aby{i:Nat}{σ:St}{aa:Out×Option Bool}(h:opAt P T ao cJ i σ=some aa):∀p∈aa.1.upd,KW i p.1=true\/p.1∈(cJ i).wr:=by
 unfold opAt at h;cases ho:ao[i]? with
 |none=>simp[ho]at h
 |some o=>
  simp only[ho,ah]at h;cases hw:want ao o σ.env σ.ok with
  |none=>simp[hw]at h
  |some g=>
   simp only[hw,ah]at h;split at h
   ·cases ha:jI P T i o (cJ i).b8 (ij σ.env) (dO (cJ i).rd σ.obj)with
    |none=>simp[ha]at h
    |some out'=>
     simp only[ha,ah]at h;split at h
     ·cases h;simp
     ·cases h
   ·split at h
    ·cases ha:jI P T i o (cJ i).b8 (ij σ.env) (dO (cJ i).rd σ.obj)with
     |none=>simp[ha]at h
     |some out'=>
      simp only[ha,ah]at h;split at h
      ·rename_i hall;cases h;intro p hp;have:=all_eq_true.1 hall p hp;simpa using this
      ·cases h
    ·cases h;simp
theorem wF{obj:Nat->Option aX}:∀(upd:List (Nat×Option aX))(k:Nat),(∀ p∈upd,p.1≠k)->cZ obj upd k=obj k
 |[],_,_=>rfl
 |(j,o)::r,k,h=>by
  simp only[cZ];rw[aM (λ e=>h (j,o) (by simp) e.symm),wF r k (λ p hp=>h p (by simp[hp]))]
theorem Ik{obj kh:Nat->Option aX}:∀(upd:List (Nat×Option aX))(k:Nat),obj k=kh k->cZ obj upd k=cZ kh upd k
 |[],_,h=>h
 |(j,o)::r,k,h=>by simp only[cZ,Ik r k h]
theorem ae4{env env':Nat->AV}{ok ok':Nat->Option Bool}{o:Op}(h:∀t,.tmp t∈o.operands->env t=env' t/\ok t=ok' t):needs env ok o=needs env' ok' o:=by
 have h1:∀x∈o.operands,zY ok x=zY ok' x:=λx hx=>by
  cases x with
  |tmp t=>simp only[zY,(h t hx).2]
  |_=>rfl
 unfold needs;split
 ·rename_i c a b;have hc:ij env c=ij env' c:=by
   cases c with
   |tmp t=>exact(h t (by simp[Op.operands])).1
   |_=>rfl
  rw[hc,h1 c (by simp[Op.operands]),h1 a (by simp[Op.operands]),h1 b (by simp[Op.operands])]
 ·have:∀l:List Operand,(∀ x∈l,zY ok x=zY ok' x)->l.flatMap (zY ok)=l.flatMap (zY ok'):=by
   intro l
   induction l with
   |nil=>intro _;rfl
   |cons x xs ih=>intro hx;simp only[List.flatMap_cons,hx x (by simp),ih (λ y hy=>hx y (by simp[hy]))]
  exact this _ λx hx=>h1 x (by simpa using hx)
theorem ae5{j:Nat}{oi oj:Oper}{aa:Out×Option Bool}{σ:St}(hj:ao[j]? =some oj)(hd:∀d,oi.dst=some d->d∉oj.looksAt ao)(hk:∀p∈aa.1.upd,p.1∉(cJ j).rd):
 opAt P T ao cJ j (σ.app oi.dst aa)=opAt P T ao cJ j σ:=by
 unfold opAt;simp only[hj,ah];have m8:∀t,t∈oj.looksAt ao->(σ.app oi.dst aa).env t=σ.env t:=λt ht=>by
  simp only[St.app,ES];rw[aM (λ e=>hd t e ht)]
 have C2:∀t,t∈oj.looksAt ao->(σ.app oi.dst aa).ok t=σ.ok t:=λt ht=>by
  simp only[St.app,ES];rw[aM (λ e=>hd t e ht)]
 have hw:want ao oj (σ.app oi.dst aa).env (σ.app oi.dst aa).ok=want ao oj σ.env σ.ok:=by
  unfold want;cases hg:oj.guard with
  |none=>rfl
  |some gw=>
   obtain⟨g,b⟩:=gw;cases ht:(ao[g]?).bind (·.dst)with
   |none=>simp only[ht]
   |some t=>simp only[ht,m8 t (by simp[Oper.looksAt,hg,ht]),C2 t (by simp[Oper.looksAt,hg,ht])]
 have hget:dO (cJ j).rd (σ.app oi.dst aa).obj=dO (cJ j).rd σ.obj:=by
  funext k;simp only[dO];split
  ·rename_i hkr;exact wF _ _ (λ p hp e=>hk p hp (e ▸ hkr))
  ·rfl
 have hin:∀t,.tmp t∈oj.op.operands->t∈oj.looksAt ao:=λt ht=>by simp only[Oper.looksAt];exact List.mem_append_left _ (List.mem_filterMap.2 ⟨.tmp t,by simpa using ht,rfl⟩)
 have hρ:jI P T j oj (cJ j).b8 (ij (σ.app oi.dst aa).env) (dO (cJ j).rd σ.obj)=jI P T j oj (cJ j).b8 (ij σ.env) (dO (cJ j).rd σ.obj):=by
  refine Qe λx hx=>?_;cases x with
  |tmp t=>exact m8 t (hin t hx)
  |_=>rfl
 have hnd:needs (σ.app oi.dst aa).env (σ.app oi.dst aa).ok oj.op=needs σ.env σ.ok oj.op:=ae4 λt ht=>⟨m8 t (hin t ht),C2 t (hin t ht)⟩;rw[hw,hget,hρ,hnd]
theorem amt{σ:St}{di dj:Option Tmp}{a b:Out×Option Bool}(hd:∀d,di=some d->dj≠some d)(hk:∀p∈a.1.upd,∀q∈b.1.upd,p.1≠q.1):(σ.app di a).app dj b=(σ.app dj b).app di a:=by
 have slot:∀{α:Type} (e:Nat->α) (x y:α),ES (ES e di x) dj y=ES (ES e dj y) di x:=λe x y=>by
  funext t;simp only[ES];by_cases h1:dj=some t
  ·rw[aP h1,aM (λ e=>hd t e h1),aP h1]
  ·rw[aM h1,aM h1]
 simp only[St.app,St.mk.injEq];refine⟨slot _ _ _,?_,slot _ _ _⟩;funext k;by_cases h1:∃p∈a.1.upd,p.1=k
 ·obtain⟨p,hp,e⟩:=h1;rw[wF b.1.upd k (λ q hq e2=>hk p hp q hq (e.trans e2.symm))];exact Ik _ _ (wF b.1.upd k (λ q hq e2=>hk p hp q hq (e.trans e2.symm))).symm
 ·have h2:∀p∈a.1.upd,p.1≠k:=λp hp e=>h1 ⟨p,hp,e⟩;rw[wF a.1.upd k h2];exact Ik _ _ (wF a.1.upd k h2)
theorem aof{i j:Nat}{oi oj:Oper}{aa:Out×Option Bool}{σ:St}{K:St->Prop}(hi:ao[i]? =some oi)(hj:ao[j]? =some oj)(hap:oi.apart ao oj=true)(hfp:Aa cJ i j=true)
 (hy:opAt P T ao cJ i σ=some aa) (h:tz P T ao cJ j K (σ.app oi.dst aa)):
 tz P T ao cJ j (λ σ'=>opAt P T ao cJ i σ'=some aa/\K (σ'.app oi.dst aa)) σ:=by
 obtain⟨a1,a2,a3⟩:=Oper.apart_spec hap;simp only[Aa,aD]at hfp;obtain⟨⟨f1,⟨f0,f2⟩,f2'⟩,f3⟩:=hfp;have hij:i≠j:=by intro e;subst e;rw[show Nat.beq i i=true from Nat.beq_refl i]at f0;cases f0
 have ki:=aby hy;have no:∀(a:Nat)(l wr:List Nat)(k:Nat),(l.all λk=>!KW a k&&!wr.contains k)=true->(KW a k=true\/k∈wr)->k∈l->False:=by
  intro a l wr k h hk hl;have:=all_eq_true.1 h k hl;simp only[aD,Bool.not_eq_true']at this;rcases hk with hk |hk
  ·rw[hk]at this;exact absurd this.1 (by simp)
  ·have h2:=this.2;simp[hk]at h2
 obtain⟨o,IH,g1,g2,g3,g4⟩:=h;rw[hj]at g1;cases g1;rw[ae5 hj a1 (λ p hp hr=>no _ _ _ _ f1 (ki p hp) hr)]at g2;have kj:=aby g2;have both:∀k,(KW i k=true\/k∈(cJ i).wr)->(KW j k=true\/k∈(cJ j).wr)->False:=by
  intro k h1 h2;rcases h2 with h2 |h2
  ·rcases h1 with h1 |h1
   ·simp only[KW,aD,beq_iff_eq]at h1 h2;exact hij (h1.2.symm.trans h2.2)
   ·have:=all_eq_true.1 f2' k h1;rw[h2]at this;exact absurd this (by simp)
  ·exact no _ _ _ _ f2 h1 h2
 refine⟨oj,IH,hj,g2,g3,?_,?_⟩
 ·rw[ae5 hi a3 (λ p hp hr=>no _ _ _ _ f3 (kj p hp) hr)];exact hy
 ·rw[<- amt a2 (λ p hp q hq e=>both p.1 (ki p hp) (e ▸ kj q hq))];exact g4
theorem ae6{i:Nat}:∀d∈SB md ao i,∃od,ao[d]? =some od/\∃e∈od.after,Region.binds md e=true/\(e.on=i\/e.on∈SB md ao i):=by
 have main:∀(l:List Nat)(D0:List Nat),(∀ d∈D0,∃od,ao[d]? =some od/\∃e∈od.after,Region.binds md e=true/\(e.on=i\/e.on∈D0))->
  ∀d∈l.foldl (λ D j=>match ao[j]? with
   |some oj=>bif oj.after.any (λ e=>Region.binds md e&&(e.on==i || D.contains e.on))then j::D else D
   |none=>D) D0,∃od,ao[d]? =some od/\∃e∈od.after,Region.binds md e=true/\(e.on=i\/e.on∈l.foldl (λ D j=>match ao[j]? with
   |some oj=>bif oj.after.any (λ e=>Region.binds md e&&(e.on==i || D.contains e.on))then j::D else D
   |none=>D) D0):=by
  intro l
  induction l with
  |nil=>intro D0 h;exact h
  |cons j l ih=>
   intro D0 h;simp only[List.foldl_cons];refine ih _ ?_;cases hj:ao[j]? with
   |none=>exact h
   |some oj=>
    simp only;cases hb:oj.after.any (λ e=>Region.binds md e&&(e.on==i || D0.contains e.on))with
    |false=>simp only[ak];exact h
    |true=>
     simp only[ai];intro d hd;rcases aK.1 hd with rfl |hd
     ·obtain⟨e,he,hb'⟩:=Array.any_eq_true'.1 hb;simp only[aD,Bool.or_eq_true,beq_iff_eq,List.contains_iff_mem]at hb';exact⟨oj,hj,e,he,hb'.1,hb'.2.imp id λh=>dD _ h⟩
     ·have⟨od,g1,e,g2,g3,g4⟩:=h d hd;exact⟨od,g1,e,g2,g3,g4.imp id λh=>dD _ h⟩
 exact main _ [] (λ d hd=>by simp at hd)
theorem UJ{i:Nat}{oi:Oper}{listed:Array Bool}(hi:ao[i]? =some oi)(h:SC md ao cJ listed i=true)(j:Nat)(oj:Oper)(hj:ao[j]? =some oj)(hne:j≠i)(hun:listed.getD j true=false)
 (hno:∀e∈oj.after,Region.binds md e=true->e.on≠i):(oi.apart ao oj=true/\Aa cJ i j=true)\/HE md ao listed i j=true:=by
 simp only[SC,hi,all_eq_true,List.mem_range]at h;have h1:=h j (Array.getElem?_eq_some_iff.1 hj).1;simp only[hj,Bool.or_eq_true,beq_iff_eq,hne,false_or,hun,Bool.false_eq_true,aD]at h1;rcases h1 with (h1 |h1) |h1
 ·obtain⟨e,he,hb⟩:=Array.any_eq_true'.1 h1;simp only[aD,beq_iff_eq]at hb;exact absurd hb.2 (hno e he hb.1)
 ·exact .inl h1
 ·exact .inr h1
theorem XF{i:Nat}{oi:Oper}{aa:Out×Option Bool}(D:List Nat)(hi:ao[i]? =some oi)(hD:∀d∈D,∃od,ao[d]? =some od/\∃e∈od.after,Region.binds md e=true/\(e.on=i\/e.on∈D)):
 ∀(fuel:Nat) (listed:Array Bool) (σ:St),(∀ d∈D,listed.getD d true=false)->
  (∀ j oj,ao[j]? =some oj->j≠i->listed.getD j true=false->j∉D->(∀ e∈oj.after,Region.binds md e=true->e.on≠i)->oi.apart ao oj=true/\Aa cJ i j=true)->
  i∈Region.ready md ao listed->opAt P T ao cJ i σ=some aa->aa.1.ob->
  yr P T ao cJ md Q fuel (listed.setIfInBounds i true) (σ.app oi.dst aa)->yr P T ao cJ md Q (fuel+1) listed σ:=by
 intro fuel
 induction fuel with
 |zero=>
  intro listed σ _ _ hr hy cr H;refine⟨λ h=>(by rw[h]at hr;cases hr),λj hj=>?_⟩;by_cases hji:j=i
  ·subst hji;exact⟨oi,aa,hi,hy,cr,H⟩
  ·have:=ready_mono hj hji;rw[H.1]at this;cases this
 |succ fuel ih=>
  intro listed σ S7 hfree hr hy cr H;refine⟨λ h=>(by rw[h]at hr;cases hr),λj hj=>?_⟩;by_cases hji:j=i
  ·subst hji;exact⟨oi,aa,hi,hy,cr,H⟩
  ·have h1:=H.2 j (ready_mono hj hji);obtain⟨hjun,oj,hoj,hall⟩:=mem_ready.1 hj;have hnl:∀k,listed.getD k true=false->∀e∈oj.after,Region.binds md e=true->e.on≠k:=λk h0 e he hb heq=>by
    have h1:=hall e he hb;rw[heq]at h1;rcases Nat.lt_or_ge k listed.size with h' |h'
    ·simp[h']at h0 h1;rw[h0]at h1;cases h1
    ·simp[Array.getElem?_eq_none h']at h1
   have hnot:∀e∈oj.after,Region.binds md e=true->e.on≠i:=hnl i (mem_ready.1 hr).1;have GT:j∉D:=λhm=>by
    have⟨od,g1,e,g2,g3,g4⟩:=hD j hm;rw[hoj]at g1;cases g1;rcases g4 with g4 |g4
    ·exact hnot e g2 g3 g4
    ·exact hnl _ (S7 _ g4) e g2 g3 rfl
   have⟨hap,hfp⟩:=hfree j oj hoj hji hjun GT hnot;have h2:=aof hi hoj hap hfp hy h1
   have hfree':∀k ok,ao[k]? =some ok->k≠i->(listed.setIfInBounds j true).getD k true=false->k∉D->
    (∀ e∈ok.after,Region.binds md e=true->e.on≠i)->oi.apart ao ok=true/\Aa cJ i k=true:=λk ok hk hki hun hkD hno=>by
    refine hfree k ok hk hki ?_ hkD hno;by_cases hjk:j=k
    ·subst hjk;exact hjun
    ·rw[getD_set_ne true hjk]at hun;exact hun
   have Lt:∀d∈D,(listed.setIfInBounds j true).getD d true=false:=λd hd=>by
    have hne:j≠d:=λe=>GT (by rw[e];exact hd);rw[getD_set_ne true hne];exact S7 d hd
   refine ams (λ σ' h3=>ih (listed.setIfInBounds j true) σ' Lt hfree' (ready_mono hr (Ne.symm hji)) h3.1 cr ?_) h2;rw[Array.setIfInBounds_comm _ _ hji];exact h3.2
theorem ae7:∀(n k:Nat) (listed:Array Bool) (σ:St),lexFrom' md ao cJ n k listed=true->VA P T ao cJ Q ((List.range n).map (k+ ·)) σ->yr P T ao cJ md Q n listed σ
 | 0,k,listed,σ,hB,h=>⟨by simpa[lexFrom']using hB,by simpa[VA]using h⟩
 |n+1,k,listed,σ,hB,h=>by
  simp only[lexFrom',aD]at hB;obtain⟨⟨hr,hfp⟩,hB'⟩:=hB;rw[List.range_succ_eq_map,aF,List.map_map]at h;simp only[VA,Nat.add_zero]at h;obtain⟨o,aa,h1,h2,h3,h4⟩:=h;have fin:yr P T ao cJ md Q n (listed.setIfInBounds k true) (σ.app o.dst aa)->yr P T ao cJ md Q (n+1) listed σ:=by
   intro H;cases hd:(SB md ao k).all λd=>!listed.getD d true with
   |true=>
    refine XF (SB md ao k) h1 ae6 n listed σ (λ d hd'=>by simpa using all_eq_true.1 hd d hd') (λ j oj hj hne hun GT hno=>?_) (by simpa using hr) h2 h3 H;rcases UJ h1 hfp j oj hj hne hun hno with h |h
    ·exact h
    ·simp only[HE,aD,List.contains_iff_mem]at h;exact absurd h.1 GT
   |false=>
    refine XF [] h1 (λ d hd'=>by simp at hd') n listed σ (λ d hd'=>by simp at hd') (λ j oj hj hne hun _ hno=>?_) (by simpa using hr) h2 h3 H;rcases UJ h1 hfp j oj hj hne hun hno with h |h
    ·exact h
    ·simp only[HE,aD]at h;rw[h.2]at hd;cases hd
  refine fin ?_;refine ae7 n (k+1) _ _ hB' ?_;have e:(λ x=>k+x)∘Nat.succ=λx=>k+1+x:=by funext x;simp only[Function.comp];omega
  rw[e]at h4;exact h4
end
def ee(P:Program)(β:Nat->Option cA)(w:World)(I:Nat->Prop)(x:AV)(ok:Option Bool)(v:Value):Prop:=
 match ok with
 |none=>VR P β w I x v
 |some b=>(b=true->VR P β w I x v)/\(b=false->v=undef)
theorem ee.mono{P:Program}{β β':Nat->Option cA}{w w':World}{I I':Nat->Prop}(hb:∀k B,β k=some B->β' k=some B)(hs:Same I w w')(hi:∀b,I b->I' b){x:AV}{ok:Option Bool}{v:Value}(h:ee P β w I x ok v):ee P β' w' I' x ok v:=by
 cases ok with
 |none=>exact VR.mono hb hs hi _ _ h
 |some b=>exact⟨λ hh=>VR.mono hb hs hi _ _ (h.1 hh),h.2⟩
structure Rel(P:Program)(w0:World)(O0:gi)(N:Nat)(β:Nat->Option cA)(I:Nat->Prop)(σ:St)(a:Act)(w:World):Prop where
 defers:a.defers=[]
 size:a.tmps.size=N
 env:∀t,ee P β w I (σ.env t) (σ.ok t) (a.tmps.getD t undef)
 mem:Mem P w0 O0 β I σ.obj w
section
variable {P:Program} {T:da} {w0:World} {O0:gi} {N:Nat} {β:Nat->Option cA} {I:Nat->Prop} {σ:St} {a:Act} {w:World} {ao:Array Oper} {cJ:Nat->j0}
def Fr(un:Nat->Prop)(β:Nat->Option cA):Prop:=∀i k,un i->fR (cd i) k->β k=none
theorem R1(hgv:gC w I){x:Operand}(h:∀t,x= .tmp t->VR P β w I (σ.env t) (a.tmps.getD t undef)):VR P β w I (ij σ.env x) (a.eval x):=by
 cases x with
 |tmp t=>exact h t rfl
 |const v=>exact VR.cv
 |global g=>
  simp only[ij];split
  ·rename_i row hg;simp only[VR,Act.eval];exact⟨g,0,rfl,(hgv g row hg).1,(hgv g row hg).2⟩
  ·simp[VR]
 |func f=>simp only[ij,VR,Act.eval];exact⟨#[],#[],rfl,by simp[be],by simp[be]⟩
theorem D7(hr:Rel P w0 O0 N β I σ a w){x:Operand}(h:∀p∈zY σ.ok x,p):VR P β w I (ij σ.env x) (a.eval x):=by
 refine R1 hr.mem.vars λt hx=>?_;subst hx;have h1:=hr.env t;simp only[zY]at h;cases hk:σ.ok t with
 |none=>rw[hk]at h1;exact h1
 |some b=>rw[hk]at h1 h;exact h1.1 (h _ (by simp))
theorem ahn(hT:fE P T){i:Nat}{o:Oper}{b8:fY}{rd:List Nat}{aa:Out}(hr:Rel P w0 O0 N β I σ a w)(hn:∀k,fR (cd i) k->β k=none)(ha:jI P T i o b8 (ij σ.env) (dO rd σ.obj)=some aa)
 (cr:aa.ob) (hnd:∀p∈needs σ.env σ.ok o.op,p):nh P w0 O0 β I σ.obj w i aa ((execOp a.eval o).run P w)\/D6 P w0 O0 β I σ.obj w i aa ((execOp a.eval o).run P w):=by
 have hg:∀k ob,dO rd σ.obj k=some ob->σ.obj k=some ob:=λk ob hk=>by
  simp only[dO]at hk;split at hk
  ·exact hk
  ·cases hk
 by_cases hp:∃c x y,o.op= .pick c x y
 ·obtain⟨c,x,y,he⟩:=hp;obtain⟨dst,op,ty,aE,after,guard⟩:=o;simp only at he;subst he;have ha:qz T i ⟨dst,.pick c x y,ty,aE,after,guard⟩ b8 (ij σ.env) (dO rd σ.obj)=some aa:=by
   unfold jI at ha;split at ha
   ·cases ha
   ·cases ha
   ·exact ha
  simp only[qz]at ha;simp only[needs]at hnd;split at ha
  ·rename_i t hc;rw[hc]at hnd;simp only[pv,aC]at ha;subst ha;have h1:=D7 hr (x:=c) (λ p hp=>hnd p (by simp[hp]));rw[hc]at h1;simp only[VR,TR]at h1;refine .inl ⟨if t then a.eval x else a.eval y,w,β,I,.inl ?_,Step.refl ..,hr.mem,?_⟩
   ·simp only[execOp,h1.1,asBool];simp
   ·rw[Xg];cases t
    ·exact D7 hr λp hp=>hnd (false=false->p) (by simp only[bf,mem_map];exact .inr (.inr ⟨p,hp,rfl⟩)) rfl
    ·exact D7 hr λp hp=>hnd (true=true->p) (by simp only[bf,mem_map];exact .inr (.inl ⟨p,hp,rfl⟩)) rfl
  ·cases ha
 ·have hnd':∀x∈o.op.operands,∀p∈zY σ.ok x,p:=λx hx p hp'=>hnd p (by
   unfold needs;split
   ·rename_i c x y he;exact absurd ⟨c,x,y,he⟩ hp
   ·exact List.mem_flatMap.2 ⟨x,by simpa using hx,hp'⟩)
  have hρ:∀x,VR P β w I ((λ x=>open Classical in if x∈o.op.operands then ij σ.env x else .undef) x) (a.eval x):=λx=>by
   by_cases hx:x∈o.op.operands
   ·simp only[hx,if_true];exact D7 hr (hnd' x hx)
   ·simp only[hx,if_false,VR]
  rw[Qe (ρ':=λx=>open Classical in if x∈o.op.operands then ij σ.env x else .undef) (λ x hx=>by simp only[hx,if_true])]at ha;generalize (λ x=>open Classical in if x∈o.op.operands then ij σ.env x else AV.undef)=ρ at ha hρ;unfold jI at ha;split at ha
  ·exact .inl (aak hT hr.mem (hn _ (.inl rfl)) hg hρ ha cr)
  ·exact .inl (ac0 hT hr.mem (hn _ (.inl rfl)) hg hρ ha cr)
  ·split at ha
   ·rename_i f args cQ heq;obtain⟨dst,op,ty,aE,after,guard⟩:=o;simp only at heq;subst heq;exact .inr (XE hr.mem hn hg ha cr (hρ f) (by rw[Array.toList_map];exact be.map hρ _) rfl rfl)
   ·exact .inl (UB hT hr.mem (hn _ (.inl rfl)) hg hρ ha cr)
theorem ako(hr:Rel P w0 O0 N β I σ a w){o:Oper}{b:Bool}(hb:want ao o σ.env σ.ok=some b):Region.wanted o (yielded ao a.tmps)=b:=by
 unfold want at hb;unfold Region.wanted;cases hg:o.guard with
 |none=>simp only[hg,aC]at hb ⊢;exact hb
 |some gw=>
  obtain⟨g,bw⟩:=gw;simp only[hg]at hb ⊢;unfold yielded;cases ht:(ao[g]?).bind (·.dst)with
  |none=>simp[ht]at hb
  |some t=>
   simp only[ht]at hb;have he:=hr.env t;have val:∀v:Bool,a.tmps.getD t undef= .bool v->a.tmps[t]? =some (.bool v):=λv hv=>by
    cases hh:a.tmps[t]? with
    |none=>simp[hh,undef]at hv
    |some u=>simp[hh]at hv;rw[hv]
   split at hb
   ·rename_i v e1 e2;rw[e1,e2]at he;simp only[ee,VR,TR]at he;cases hb;simp only[ah,val v he.1];cases v<;>cases bw<;>rfl
   ·rename_i v q e1 e2;rw[e1,e2]at he;simp only[ee,VR,TR]at he;cases hb;cases q with
    |true=>
     simp only[ah,val v (he.1 rfl).1];cases v<;>cases bw<;>rfl
    |false=>
     have h0:=he.2 rfl;simp only[ah];cases hh:a.tmps[t]? with
     |none=>simp
     |some u=>simp[hh,undef]at h0;subst h0;simp
   ·rename_i e1 e2;rw[e1,e2]at he;cases hb;have h0:=he.2 rfl;simp only[ah];cases hh:a.tmps[t]? with
    |none=>simp
    |some u=>simp[hh,undef]at h0;subst h0;simp
   ·cases hb
theorem Qf:∀(l:List Prop),jV l->∀p∈l,p
 |[],_,_,hp=>by simp at hp
 |[q],h,p,hp=>by rw[aW]at hp;rw[hp];exact h
 |q::r::l,h,p,hp=>by
  rcases aK.1 hp with e |hp
  ·rw[e];exact h.1
  ·exact Qf (r::l) h.2 p hp
theorem UK(hT:fE P T){i:Nat}{K:St->Prop}{Q:Exit->Act->World->Prop}{K':Act->World->Prop}{un:Nat->Prop}(hd:∀(j:Nat)(o:Oper)(d:Tmp),ao[j]? =some o->o.dst=some d->d<N)
 (hr:Rel P w0 O0 N β I σ a w) (hf:Fr un β) (hi:un i)
 (hK:∀ σ' a' w' β' I',Rel P w0 O0 N β' I' σ' a' w'->Fr (λ j=>un j/\j≠i) β'->K σ'->K' a' w') (h:tz P T ao cJ i K σ):wpOp P ao Q i K' a w:=by
 obtain⟨o,⟨aa,IM⟩,h1,h2,h3,h4⟩:=h;have put:∀(v':Value) (w':World) (β':Nat->Option cA) (I':Nat->Prop),Step β I w (cd i) β' I' w'->Mem P w0 O0 β' I' (cZ σ.obj aa.upd) w'->ee P β' w' I' aa.v IM v'->K' (a.put o.dst v') w':=by
  intro v' w' β' I' k1 k2 k3;refine hK (σ.app o.dst (aa,IM)) _ w' β' I' ⟨?_,?_,?_,k2⟩ ?_ h4
  ·cases hdst:o.dst<;>simp[Act.put,hr.defers]
  ·cases hdst:o.dst<;>simp[Act.put,hr.size]
  ·intro t;have hold:=ee.mono k1.ext k1.same k1.inc (hr.env t);simp only[St.app,ES];cases hdst:o.dst with
   |none=>simpa[Act.put]using hold
   |some d=>
    simp only[Act.put,aC];by_cases hdt:d=t
    ·subst hdt;rw[aP rfl,aP rfl];have hlt:d<a.tmps.size:=Nat.lt_of_lt_of_eq (hd i o d h1 hdst) hr.size.symm;have e:(a.tmps.setIfInBounds d v').getD d undef=v':=(by simp[hlt]);rw[e];exact k3
    ·rw[aM hdt,aM hdt];simpa[Array.getElem?_setIfInBounds_ne hdt]using hold
  ·intro j k hj hk;rw[k1.other k (by have:=hj.2;simp only[fR,cd]at hk ⊢;omega)];exact hf j k hj.1 hk
 unfold opAt at h2;simp only[h1,ah]at h2;unfold wpOp;simp only[h1];have hn:=λk=>hf i k hi;cases hw:want ao o σ.env σ.ok with
 |none=>simp[hw]at h2
 |some g=>
  simp only[hw,ah]at h2;rw[ako hr hw]
  have run:∀(out':Out),jI P T i o (cJ i).b8 (ij σ.env) (dO (cJ i).rd σ.obj)=some out'->(∀ p∈needs σ.env σ.ok o.op++out'.obs,p)->out'.v=aa.v->(out'.upd=aa.upd)->(∀ β' w' I' v',VR P β' w' I' aa.v v'->ee P β' w' I' aa.v IM v')->
   o.wp P a w K' Q:=by
   intro out' ha cr e1 e2 oB;have Ly:=ahn hT hr hn ha (rY _ λp hp=>cr p (by simp[hp])) (λ p hp=>cr p (by simp[hp]));unfold Oper.wp;rcases Ly with ⟨v',w',β',I',hrun,k1,k2,k3⟩ |⟨F,args,hrun,wn⟩
   ·rw[e1]at k3;rw[e2]at k2;rcases hrun with hrun |⟨hrun,rfl⟩
    ·rw[hrun];exact put v' w' β' I' k1 k2 (oB _ _ _ _ k3)
    ·rw[hrun];exact put _ w' β' I' k1 k2 (oB _ _ _ _ k3)
   ·rw[hrun];refine wn.mono ?_;rintro e w' ⟨v',β',I',rfl,k1,k2,k3⟩;rw[e1]at k3;rw[e2]at k2;exact put v' w' β' I' k1 k2 (oB _ _ _ _ k3)
  split at h2
  ·cases ha:jI P T i o (cJ i).b8 (ij σ.env) (dO (cJ i).rd σ.obj)with
   |none=>simp[ha]at h2
   |some out'=>
    simp only[ha,ah]at h2;split at h2
    ·rename_i hem;simp only[aC,Prod.mk.injEq]at h2;obtain⟨rfl,rfl⟩:=h2;have wg:out'.upd=[]:=(by simpa using hem);have h3:=Qf _ h3;cases g with
     |true=>
      simp only[if_true];refine .inl (run out' ha (λ p hp=>h3 (true=true->p) (mem_map.2 ⟨p,hp,rfl⟩) rfl) rfl wg λ_ _ _ _ hv=>⟨λ _=>hv,λh=>by cases h⟩)
     |false=>
      simp only[Bool.false_eq_true,if_false];exact put _ w β I (Step.refl ..) hr.mem ⟨λ h=>(by cases h),λ_=>rfl⟩
    ·cases h2
  ·split at h2
   ·cases ha:jI P T i o (cJ i).b8 (ij σ.env) (dO (cJ i).rd σ.obj)with
    |none=>simp[ha]at h2
    |some out'=>
     simp only[ha,ah]at h2;split at h2
     ·simp only[aC,Prod.mk.injEq]at h2;obtain⟨rfl,rfl⟩:=h2;simp only[if_true];exact .inl (run out' ha (Qf _ h3) rfl rfl λ_ _ _ _ hv=>hv)
     ·cases h2
   ·simp only[aC,Prod.mk.injEq]at h2;obtain⟨rfl,rfl⟩:=h2;simp only[Bool.false_eq_true,if_false];exact put _ w β I (Step.refl ..) hr.mem ⟨λ h=>(by cases h),λ_=>rfl⟩
theorem NS(hT:fE P T){md:Region.Mode}{Q:St->Prop}{Q':Exit->Act->World->Prop}(hd:∀(j:Nat)(o:Oper)(d:Tmp),ao[j]? =some o->o.dst=some d->d<N)
 (hQ:∀ σ a w β I,Rel P w0 O0 N β I σ a w->Q σ->Q' .normal a w):∀(fuel:Nat) (listed:Array Bool) (σ:St) (a:Act) (w:World) (β:Nat->Option cA) (I:Nat->Prop),Rel P w0 O0 N β I σ a w->
  Fr (λ j=>listed.getD j true=false) β->yr P T ao cJ md Q fuel listed σ->wpAny P md ao Q' fuel listed a w
 | 0,_,_,_,_,_,_,hr,_,h=>⟨h.1,hQ _ _ _ _ _ hr h.2⟩
 |fuel+1,listed,σ,a,w,β,I,hr,hf,h=>by
  refine⟨λ h0=>hQ _ _ _ _ _ hr (h.1 h0),λi hi=>?_⟩;have hun:listed.getD i true=false:=(mem_ready.1 hi).1;refine UK hT hd hr hf hun (λ σ' a' w' β' I' hr' hf' hK=>?_) (h.2 i hi);refine NS hT hd hQ fuel _ σ' a' w' β' I' hr' (λ j k hj hk=>hf' j k ?_ hk) hK;have hj:(listed.setIfInBounds i true).getD j true=false:=hj;by_cases hji:i=j
  ·subst hji;rcases Nat.lt_or_ge i listed.size with h1 |h1
   ·simp[h1]at hj
   ·simp[Array.getElem?_eq_none h1]at hun
  ·rw[getD_set_ne true hji]at hj;exact⟨hj,λe=>hji e.symm⟩
theorem NT(hT:fE P T){Q:St->Prop}{Q':Exit->Act->World->Prop}(hd:∀(j:Nat)(o:Oper)(d:Tmp),ao[j]? =some o->o.dst=some d->d<N)
 (hQ:∀ σ a w β I,Rel P w0 O0 N β I σ a w->Q σ->Q' .normal a w):∀(l:List Nat) (σ:St) (a:Act) (w:World) (β:Nat->Option cA) (I:Nat->Prop),l.Nodup->Rel P w0 O0 N β I σ a w->
  Fr (λ j=>j∈l) β->VA P T ao cJ Q l σ->wpOps P ao Q' l a w
 |[],_,_,_,_,_,_,hr,_,h=>hQ _ _ _ _ _ hr h
 |i::l,σ,a,w,β,I,hn,hr,hf,h=>by
  rw[wpOps_cons];refine UK hT hd hr hf (by simp) (λ σ' a' w' β' I' hr' hf' hK=>?_) h;refine NT hT hd hQ l σ' a' w' β' I' (List.nodup_cons.1 hn).2 hr' (λ j k hj hk=>hf' j k ⟨by simp[hj],λe=>?_⟩ hk) hK;subst e;exact(List.nodup_cons.1 hn).1 hj
def H1(N:Nat)(ao:Array Oper):Bool:=ao.all λo=>match o.dst with |some d=>decide (d<N) |none=>true
theorem UL(h:H1 N ao=true)(j:Nat)(o:Oper)(d:Tmp)(hj:ao[j]? =some o)(hd:o.dst=some d):d<N:=by
 have:=Array.all_eq_true_iff_forall_mem.1 h o (Array.mem_of_getElem? hj);simpa[hd]using this
structure pS(σ:St):Prop where
 env:∀t k,k∈refs (σ.env t)->k<1000000
 obj:∀k o,σ.obj k=some o->k<1000000/\∀r∈o.rows,∀x∈r,∀j∈refs x,j<1000000
mutual
theorem VR.restrict{β':Nat->Option cA}(h:∀k,k<1000000->β' k=β k):∀(x:AV)(v:Value),(∀ k∈refs x,k<1000000)->VR P β w I x v->VR P β' w I x v
 | .t _,_,_,hv=>by simpa[VR]using hv
 | .agg cs,_,hk,hv=>by
  simp only[VR]at hv ⊢;obtain⟨vs,h1,h2⟩:=hv;exact⟨vs,h1,be.restrict h cs _ (by simpa[refs]using hk) h2⟩
 | .ey cs,_,hk,hv=>by
  simp only[VR]at hv ⊢;obtain⟨vs,h1,h2⟩:=hv;exact⟨vs,h1,be.restrict h cs _ (by simpa[refs]using hk) h2⟩
 | .own k _ _,_,hk,hv=>by simp only[VR,h k (hk k (by simp[refs]))]at hv ⊢;exact hv
 | .ptr k _ _,_,hk,hv=>by simp only[VR,h k (hk k (by simp[refs]))]at hv ⊢;exact hv
 | .du _ _,_,_,hv=>by simpa[VR]using hv
 | .fn f first caps,_,hk,hv=>by
  simp only[VR]at hv ⊢;obtain⟨fs,cs,h1,h2,h3⟩:=hv;exact⟨fs,cs,h1,be.restrict h first _ (λ k hk'=>hk k (by simp[refs,hk'])) h2,be.restrict h caps _ (λ k hk'=>hk k (by simp[refs,hk'])) h3⟩
 | .c6 _,_,_,hv=>by simpa[VR]using hv
 | .mp k,_,hk,hv=>by simp only[VR,h k (hk k (by simp[refs]))]at hv ⊢;exact hv
 | .cG,_,_,hv=>by simpa[VR]using hv
 | .ub,_,_,hv=>by simpa[VR]using hv
 | .undef,_,_,_=>by simp[VR]
theorem be.restrict{β':Nat->Option cA}(h:∀k,k<1000000->β' k=β k):∀(xs:List AV)(vs:List Value),(∀ k∈fD xs,k<1000000)->be P β w I xs vs->be P β' w I xs vs
 |[],[],_,_=>by simp[be]
 |x::xs,v::vs,hk,hv=>by
  simp only[be]at hv ⊢;exact⟨VR.restrict h x v (λ k hk'=>hk k (by simp[fD,hk'])) hv.1,be.restrict h xs vs (λ k hk'=>hk k (by simp[fD,hk'])) hv.2⟩
 |[],_::_,_,hv=>by simp[be]at hv
 |_::_,[],_,hv=>by simp[be]at hv
end
theorem abz:∀{xs:List AV}{k:Nat},k∈fD xs->∃x∈xs,k∈refs x
 |[],_,h=>by simp[fD]at h
 |x::xs,k,h=>by
  simp only[fD,bf]at h;rcases h with h |h
  ·exact⟨x,by simp,h⟩
  ·have⟨y,h1,h2⟩:=abz h;exact⟨y,by simp[h1],h2⟩
theorem Rel.restrict(ho:pS σ)(hr:Rel P w0 O0 N β I σ a w):Rel P w0 O0 N (λ k=>if k<1000000 then β k else none) I σ a w:=by
 have hb:∀k,k<1000000->(λ k=>if k<1000000 then β k else none) k=β k:=λk hk=>by simp[hk]
 have oB:∀t,ee P (λ k=>if k<1000000 then β k else none) w I (σ.env t) (σ.ok t) (a.tmps.getD t undef):=λt=>by
  have h1:=hr.env t;cases hk:σ.ok t with
  |none=>rw[hk]at h1;exact VR.restrict hb _ _ (ho.env t) h1
  |some b=>rw[hk]at h1;exact⟨λ h=>VR.restrict hb _ _ (ho.env t) (h1.1 h),h1.2⟩
 refine⟨hr.defers,hr.size,oB,?_⟩;have hm:=hr.mem;constructor
 ·intro k o hk;have⟨B,hB,hO⟩:=hm.cw k o hk;have⟨h1,h2⟩:=ho.obj k o hk;refine⟨B,by simp only[h1,if_true];exact hB,?_⟩;cases B with
  |none=>exact hO
  | «at» b s n=>
   obtain⟨g1,c,e,g2,g3,g4⟩:=hO;refine⟨g1,c,e,g2,g3,?_⟩;rw[wC]at g4 ⊢;intro i r hir;have⟨q1,q2⟩:=g4 i r hir;refine⟨q1,?_⟩;rw[kU]at q2 ⊢;intro j x hx;have⟨v,p1,p2,p3⟩:=q2 j x hx;exact⟨v,p1,VR.restrict hb _ _ (h2 r (eD hir) x (eD hx)) p2,p3⟩
  |mp b=>
   obtain⟨es,cl,g1,gl,g2,g3⟩:=hO;refine⟨es,cl,g1,gl,λe=>co.tell rfl (λ j r q' a b vs hv=>?_) (g2 e),g3⟩;rw[a]at b;cases b;exact be.restrict hb _ _ (λ k hk=>by
    have⟨x,hx,hk⟩:=abz hk;exact h2 r (eD a) x hx k hk) hv
 ·intro k k' o o' B B' b h1 h2 h3 h4;simp only[(ho.obj k o h1).1,(ho.obj k' o' h2).1,if_true]at h3 h4;exact hm.eR k k' o o' B B' b h1 h2 h3 h4
 ·intro k o B b h1 h2;simp only[(ho.obj k o h1).1,if_true]at h2;exact hm.ownB k o B b h1 h2
 ·exact hm.lt
 ·exact hm.up
 ·exact hm.keep
 ·exact hm.le
 ·exact hm.os
 ·exact hm.tape
 ·exact hm.output
 ·intro j B hj;have:=O0.lt j B hj;show(if j<1000000 then β j else none)=some B;rw[aP (by omega)];exact hm.anch j B hj
 ·exact hm.vars
theorem Rel.drew(hr:Rel P w0 O0 N β I σ a w):Rel P w0 O0 N β I σ a w.drew:=
 ⟨hr.defers,hr.size,λt=>ee.mono (w:=w) (w':=w.drew) (λ _ _ h=>h) (λ _ _=>rfl) (λ _ h=>h) (hr.env t),hr.mem.drew⟩
theorem akp(hT:fE P T){id:Nat}{Q:St->Prop}(hd:H1 N ao=true)(ho:pS σ)(h:VA P T ao cJ Q (List.range ao.size) σ)(hr:Rel P w0 O0 N β I σ a w):
 (Code.region id ao false).wp P (λ e a' w'=>∃ β' I' σ',Rel P w0 O0 N β' I' σ' a' w'/\e= .normal/\Q σ') a w:=by
 refine wp_region (NT hT (UL hd) (Q:=Q) (λ σ a w β I hr hq=>⟨β,I,σ,hr,rfl,hq⟩) _ σ a w _ I List.nodup_range (hr.restrict ho) (λ j k _ hk=>?_) h);exact aM (by simp only[fR,cd]at hk;omega)
theorem XG(hT:fE P T)(hm:P.follows .mixedOrders=true){id:Nat}{Q:St->Prop}(hd:H1 N ao=true)(hB:HD ao cJ=true)(ho:pS σ)(h:VA P T ao cJ Q (List.range ao.size) σ)(hr:Rel P w0 O0 N β I σ a w):
 (Code.region id ao true).wp P (λ e a' w'=>∃ β' I' σ',Rel P w0 O0 N β' I' σ' a' w'/\e= .normal/\Q σ') a w:=by
 refine wp_region_any hm (NS hT (md:= .any) (cJ:=cJ) (UL hd) (Q:=Q) (λ σ a w β I hr hq=>⟨β,I,σ,hr,rfl,hq⟩) _ _ σ a _ _ I (hr.restrict ho).drew (λ j k _ hk=>?_) ?_)
 ·exact aM (by simp only[fR,cd]at hk;omega)
 ·refine ae7 ao.size 0 _ σ hB ?_;have e:(List.range ao.size).map (λ x=>0+x)=List.range ao.size:=by simp
  rw[e];exact h
end
def Ev(P:Program)(N:Nat)(c:Code)(Q:Exit->St->Prop)(σ:St):Prop:=
 ∀(w0:World) (O0:gi) (β:Nat->Option cA) (I:Nat->Prop) (a:Act) (w:World),Rel P w0 O0 N β I σ a w->pS σ->
  c.wp P (λ e a' w'=>∃ β' I' σ',Rel P w0 O0 N β' I' σ' a' w'/\pS σ'/\Q e σ') a w
def Vc(K:St->Prop)(Q:Exit->St->Prop):Exit->St->Prop
 | .normal,σ=>K σ
 |e,σ=>Q e σ
def Pu(id:Nat)(Q:Exit->St->Prop):Exit->St->Prop
 | .exit j,σ=>if j=id then Q .normal σ else Q (.exit j) σ
 |e,σ=>Q e σ
theorem abA{P:Program}{c:Code}{Q:Exit->Act->World->Prop}(J:Nat->Act->World->Prop)(h0:∀a w,¬J 0 a w)(round:∀n a w,J (n+1) a w->c.wp P (Exit.then (J n) Q) a w)(n:Nat)(a:Act)(w:World)(h:J n a w):
 (Code.loop c).wp P Q a w:=by
 intro b k cs;have key:∀n a w,J n a w->∃e a' w',Q e a' w'/\Arrives P (lone (b.at a (.code c:: .inLoop c::k)) cs w) b k cs e a' w':=by
  intro n
  induction n with
  |zero=>intro a w h;exact(h0 a w h).elim
  |succ n ih=>
   intro a w hI;have⟨e,a₁,w₁,hq,harr⟩:=round n a w hI b (.inLoop c::k) cs;cases e with
   |normal=>
    have⟨e₂,a₂,w₂,hq₂,harr₂⟩:=ih a₁ w₁ hq;exact⟨e₂,a₂,w₂,hq₂,.of_steps (Steps.trans harr (.one step_inLoop)) harr₂⟩
   |exit id=>exact⟨_,a₁,w₁,hq,.pass (x:= .inLoop c) rfl (λ _ _=> .inl (by simp)) harr⟩
   |goto l=>exact⟨_,a₁,w₁,hq,.pass (x:= .inLoop c) rfl (λ _ _=> .inl (by simp)) harr⟩
   |ret=>exact⟨_,a₁,w₁,hq,.pass (x:= .inLoop c) rfl (λ _ _=> .inl (by simp)) harr⟩
   |panic ch=>exact⟨_,a₁,w₁,hq,.pass (x:= .inLoop c) rfl (λ _ _=> .inl (by simp)) harr⟩
   |outgrown=>exact⟨_,a₁,w₁,hq,.pass (x:= .inLoop c) rfl (λ _ _=> .inl (by simp)) harr⟩
 have⟨e,a',w',hq,harr⟩:=key n a w h;exact⟨e,a',w',hq,.of_steps (.one step_loop) harr⟩
section
variable {P:Program} {N:Nat} {Q:Exit->St->Prop} {σ:St}
theorem Ev.mono{c:Code}{Q':Exit->St->Prop}(h:Ev P N c Q σ)(hq:∀e σ,Q e σ->Q' e σ):Ev P N c Q' σ:=
 λw0 O0 β I a w hr ho=>wp_mono (h w0 O0 β I a w hr ho) λ_ _ _ ⟨β',I',σ',h1,h2,h3⟩=>⟨β',I',σ',h1,h2,hq _ _ h3⟩
theorem aog(h:Q .normal σ):Ev P N .skip Q σ:=λ_ _ β I _ _ hr ho=>wp_skip ⟨β,I,σ,hr,ho,h⟩
theorem aoh{id:Nat}(h:Q (.exit id) σ):Ev P N (.exit id) Q σ:=λ_ _ β I _ _ hr ho=>wp_exit ⟨β,I,σ,hr,ho,h⟩
theorem apn(h:Q .ret σ):Ev P N .ret Q σ:=λ_ _ β I _ _ hr ho=>wp_ret ⟨β,I,σ,hr,ho,h⟩
theorem amu{l:Nat}(h:Q .normal σ):Ev P N (.label l) Q σ:=λ_ _ β I _ _ hr ho=>wp_label ⟨β,I,σ,hr,ho,h⟩
theorem apo{x y:Code}(h:Ev P N x (Vc (Ev P N y Q) Q) σ):Ev P N (.seq x y) Q σ:=by
 intro w0 O0 β I a w hr ho;refine wp_seq (wp_mono (h w0 O0 β I a w hr ho) ?_);rintro e a' w' ⟨β',I',σ',h1,h2,h3⟩;cases e<;>first |exact h3 w0 O0 β' I' a' w' h1 h2 |exact⟨β',I',σ',h1,h2,h3⟩
theorem aoi{c:Operand}{x y:Code}(b:Bool)(hk:∀t,c= .tmp t->σ.ok t=none)(hc:ij σ.env c= .t (.sc (.bool b)))(h:Ev P N (bif b then x else y) Q σ):Ev P N (.cond c x y) Q σ:=by
 intro w0 O0 β I a w hr ho;have h1:=R1 (P:=P) (β:=β) (w:=w) (I:=I) (σ:=σ) (a:=a) (x:=c) hr.mem.vars (λ t ht=>by
  have h1:=hr.env t;rw[hk t ht]at h1;exact h1)
 rw[hc]at h1;simp only[VR,TR]at h1;refine wp_cond (t:=b) h1.1 ?_;cases b<;>exact h w0 O0 β I a w hr ho
theorem ahp{c:Operand}{x y:Code}(hk:∀t,c= .tmp t->σ.ok t=none)(hc:ij σ.env c= .ub)(h1:Ev P N x Q σ)(h2:Ev P N y Q σ):Ev P N (.cond c x y) Q σ:=by
 intro w0 O0 β I a w hr ho;have h3:=R1 (P:=P) (β:=β) (w:=w) (I:=I) (σ:=σ) (a:=a) (x:=c) hr.mem.vars (λ t ht=>by
  have h1:=hr.env t;rw[hk t ht]at h1;exact h1)
 rw[hc]at h3;simp only[VR]at h3;obtain⟨b,hb⟩:=h3;refine wp_cond (t:=b) hb ?_;cases b
 ·exact h2 w0 O0 β I a w hr ho
 ·exact h1 w0 O0 β I a w hr ho
theorem amv{id:Nat}{c:Code}(h:Ev P N c (Pu id Q) σ):Ev P N (.block id c) Q σ:=by
 intro w0 O0 β I a w hr ho;refine wp_block (wp_mono (h w0 O0 β I a w hr ho) ?_);rintro e a' w' ⟨β',I',σ',h1,h2,h3⟩;cases e with
 |exit j=>
  simp only[Pu]at h3;simp only[Exit.inBlock];split
  ·rw[aP ‹_›]at h3;exact⟨β',I',σ',h1,h2,h3⟩
  ·rw[aM ‹_›]at h3;exact⟨β',I',σ',h1,h2,h3⟩
 |_=>exact⟨β',I',σ',h1,h2,h3⟩
theorem aoj{c:Code}(J:Nat->St->Prop)(h0:∀ σ,¬J 0 σ)(round:∀n σ,J (n+1) σ->Ev P N c (Vc (J n) Q) σ)(n:Nat)(h:J n σ):Ev P N (.loop c) Q σ:=by
 intro w0 O0 β I a w hr ho;refine abA (λ n a w=>∃ β I σ,Rel P w0 O0 N β I σ a w/\pS σ/\J n σ) (λ a w ⟨_,_,σ,_,_,h⟩=>h0 σ h) ?_ n a w ⟨β,I,σ,hr,ho,h⟩;rintro n a w ⟨β,I,σ,hr,ho,hJ⟩;refine wp_mono (round n σ hJ w0 O0 β I a w hr ho) ?_;rintro e a' w' ⟨β',I',σ',h1,h2,h3⟩;cases e<;>exact⟨β',I',σ',h1,h2,h3⟩
end
def lk{α:Type}:List (Nat×α)->Nat->Option α
 |[],_=>none
 |(j,x)::r,k=>if j=k then some x else lk r k
structure nw where
 env:List (Nat×AV)
 cw:List (Nat×aX)
def nw.st(L:nw):St:=⟨λ t=>(lk L.env t).getD .undef,λk=>lk L.cw k,λ_=>none⟩
theorem sQ{α:Type}:∀{l:List (Nat×α)}{k:Nat}{x:α},lk l k=some x->(k,x)∈l
 |(j,y)::r,k,x,h=>by
  simp only[lk]at h;split at h
  ·cases h;rename_i e;subst e;simp
  ·exact dD _ (sQ h)
theorem wG{α:Type}:∀{l:List (Nat×α)}{k:Nat}{x:α},(l.map (·.1)).Nodup->(k,x)∈l->lk l k=some x
 |(j,y)::r,k,x,hn,h=>by
  simp only[aF,List.nodup_cons]at hn;simp only[lk];rcases aK.1 h with h |h
  ·injection h with h1 h2;subst h1;subst h2;simp
  ·have hne:k≠j:=λe=>hn.1 (mem_map.2 ⟨(k,x),h,e⟩);rw[aM (Ne.symm hne)];exact wG hn.2 h
structure RgI where
 x:Operand
 t:TypeId
 a0:Nat
 it:Nat
 nn:Nat
 b:Nat
 e:Nat
 xx:Nat
 kv:Nat
 j:Nat
 j2:Nat
 body:Code
section
variable {P:Program} {w0:World} {O0:gi} {N:Nat} {β:Nat->Option cA} {I:Nat->Prop} {σ:St} {a:Act} {w:World}
def St.put(σ:St)(d:Nat)(x:AV):St:=⟨ES σ.env (some d) x,σ.obj,ES σ.ok (some d) none⟩
theorem Rel.put(hr:Rel P w0 O0 N β I σ a w){d:Nat}(hd:d<N){x:AV}{v:Value}(hv:VR P β w I x v):Rel P w0 O0 N β I (σ.put d x) (a.put (some d) v) w:=by
 refine⟨by simpa[Act.put]using hr.defers,by simpa[Act.put]using hr.size,λt=>?_,hr.mem⟩;have hold:=hr.env t;simp only[St.put,ES,Act.put,aC];by_cases hdt:d=t
 ·subst hdt;rw[aP rfl,aP rfl];have e:(a.tmps.setIfInBounds d v).getD d undef=v:=by simp[Nat.lt_of_lt_of_eq hd hr.size.symm]
  rw[e];exact hv
 ·rw[aM hdt,aM hdt];simpa[Array.getElem?_setIfInBounds_ne hdt]using hold
structure aqW(β:Nat->Option cA)(I:Nat->Prop)(obj:Nat->Option aX)(w:World)(r:Nat):Prop where
 lt:r<w.heap.size
 CD:¬I r
 obj:∀k o,obj k=some o->¬eL β k r
end
def kept(os':List (Option fF))(j:Nat):Prop:=∃p,os'[j]? =some (some p)
def VB(get:Nat->Option aX)(fk:Option Nat)(os':List (Option fF)):AV->Tree->Prop
 | .t x,y=>y=x
 | .cG,y=>y= .sl []
 | .own k ae len,y=>fk≠some k/\¬kept os' k/\∃o f5,get k=some o/\(o.rows.drop ae).take len=aS f5/\f5.length=len/\y= .sl f5
 |_,_=>False
def hG(get:Nat->Option aX)(fk:Option Nat)(os':List (Option fF)):List AV->List Tree->Prop
 |[],[]=>True
 |x::xs,y::ys=>VB get fk os' x y/\hG get fk os' xs ys
 |_,_=>False
def dp(get:Nat->Option aX)(fk:Option Nat)(os':List (Option fF)):List (List AV)->List (List Tree)->Prop
 |[],[]=>True
 |x::xs,y::ys=>hG get fk os' x y/\dp get fk os' xs ys
 |_,_=>False
def AD(get:Nat->Option aX)(fk:Option Nat)(os':List (Option fF)):AV->RC->Prop
 | .agg cs,.d (.a ts)=>hG get fk os' cs ts
 |x,.d (.s y)=>VB get fk os' x y
 | .cG,.fresh _ rows=>rows=[]
 | .own k ae len,.fresh sz rows=>fk=some k/\¬kept os' k/\ae=0/\∃o,get k=some o/\o.sz=sz/\dp get fk os' (o.rows.take len) rows/\rows.length=len
 | .own k ae len,.whole j len'=>k=j/\ae=0/\len'=len/\kept os' j
 |_,_=>False
def ke(get:Nat->Option aX)(fk:Option Nat)(os':List (Option fF)):List AV->List RC->Prop
 |[],[]=>True
 |x::xs,c::cs=>AD get fk os' x c/\ke get fk os' xs cs
 |_,_=>False
def AC(get:Nat->Option aX)(fk:Option Nat)(os':List (Option fF)):List AV->RV->Prop
 |[x],.one c=>AD get fk os' x c
 |x::y::r,.ey cs=>ke get fk os' (x::y::r) cs
 |[],.ey cs=>cs=[]
 |_,_=>False
def Hb(get:Nat->Option aX)(fk:Option Nat)(os':List (Option fF)):Prop:=
 ∀(j:Nat) p,os'[j]? =some (some p)->fk≠some j/\∃o,get j=some o/\o.sz=p.1/\dp get fk os' (o.rows.take p.2.length) p.2
def MK(T:da)(t:TypeId)(x:AV)(obj:Nat->Option aX):Option Out:=
 match FY T t x .none obj with
 |some o=>some o
 |none=>Ih T t x obj
def SF(T:da)(σ:St):ResultVar->Option AV
 | .tmp t=>match σ.ok t with
  |none=>some (σ.env t)
  |some _=>none
 | .cell a t=>match σ.ok a with
  |none=>match MK T t (σ.env a) σ.obj with
   |some ⟨v,[],[]⟩=>some v
   |_=>none
  |some _=>none
def mW(T:da)(σ:St):List ResultVar->Option (List AV)
 |[]=>some []
 |r::rs=>(SF T σ r).bind λv=>(mW T σ rs).bind λvs=>some (v::vs)
def XH(tmps:Array Value):ResultVar->Sem Value
 | .tmp t=>pure (tmps.getD t undef)
 | .cell a t=>do loadVar t (<- asAddr (tmps.getD a undef))
theorem XI(fn:Func)(tmps:Array Value):results fn tmps=(fn.results.mapM (XH tmps))>>=λvs=>pure (if h:vs.size=1 then vs[0]else .tuple vs):=by
 unfold results;congr 2
def aqK(T:da)(rs:List ResultVar)(rv:RV)(os':List (Option fF)):Exit->St->Prop
 | .normal,σ=>∃xs fk,mW T σ rs=some xs/\AC σ.obj fk os' xs rv/\Hb σ.obj fk os'
 | .ret,σ=>∃xs fk,mW T σ rs=some xs/\AC σ.obj fk os' xs rv/\Hb σ.obj fk os'
 |_,_=>False
section
variable {P:Program} {T:da} {w0:World} {O0:gi} {N:Nat} {β:Nat->Option cA} {I:Nat->Prop} {σ:St} {a:Act} {w:World}
theorem ac7(hT:fE P T)(hr:Rel P w0 O0 N β I σ a w){r:ResultVar}{x:AV}(h:SF T σ r=some x):
 ∃v,(XH a.tmps r).run P w= .ok v w/\VR P β w I x v:=by
 cases r with
 |tmp t=>
  simp only[SF]at h;have h1:=hr.env t;cases hk:σ.ok t with
  |some b=>rw[hk]at h;cases h
  |none=>
   rw[hk]at h h1;cases h;exact⟨_,by simp[XH],h1⟩
 |cell ad t=>
  simp only[SF]at h;have hx:=hr.env ad;cases hk:σ.ok ad with
  |some b=>rw[hk]at h;cases h
  |none=>
  rw[hk]at h hx;simp only at h;have hx:VR P β w I (σ.env ad) (a.tmps.getD ad undef):=hx;split at h
  ·rename_i v hl;injection h with h;subst h;have hl2:FY T t (σ.env ad) .none σ.obj=some ⟨v,[],[]⟩\/Ih T t (σ.env ad) σ.obj=some ⟨v,[],[]⟩:=by
    unfold MK at hl;split at hl
    ·rename_i heq;injection hl with hl;subst hl;exact .inl heq
    ·exact .inr hl
   obtain⟨u,h1,h2⟩:∃u,(Instr.loadAt t (a.tmps.getD ad undef)).run P w= .ok u w/\VR P β w I v u:=by
    rcases hl2 with hl2 |hl2
    ·obtain⟨u,h1,h2,_⟩:=UA hT hr.mem (λ _ _ h=>h) hl2 trivial hx;exact⟨u,h1,h2⟩
    ·obtain⟨u,h1,h2,_⟩:=Qb hT hr.mem (λ _ _ h=>h) hl2 hx;exact⟨u,h1,h2⟩
   refine⟨u,?_,h2⟩;have hp:∃p,a.tmps.getD ad undef= .pointer (some p):=by
    rcases hl2 with hl |hl
    rotate_left
    ·unfold Ih at hl;cases hti:T t with
     |none=>simp[hti]at hl
     |some ti=>
      simp only[hti,ah]at hl;split at hl
      ·rename_i heq;rw[heq]at hx;simp only[VR]at hx;obtain⟨b,sz,n,_,h⟩:=hx;exact⟨_,h⟩
      ·cases hl
    unfold FY at hl;cases hti:T t with
    |none=>simp[hti]at hl
    |some ti=>
     simp only[hti,ah]at hl;split at hl
     ·rename_i heq;rw[heq]at hx;simp only[VR]at hx;obtain⟨b,sz,n,_,h⟩:=hx;exact⟨_,h⟩
     ·rename_i heq;rw[heq]at hx;simp only[VR]at hx;obtain⟨b,o,h,_⟩:=hx;exact⟨_,h⟩
     ·cases hl
   obtain⟨p,hp⟩:=hp;rw[hp]at h1;simp only[Instr.loadAt,Instr.sureAddr,Sem.run_bind,Sem.run_pure,Result.andThen_ok]at h1;simp only[XH,hp,asAddr,Sem.run_bind,Sem.run_pure,Result.andThen_ok];exact h1
  ·cases h
theorem ET(hT:fE P T)(hr:Rel P w0 O0 N β I σ a w):∀(rs:List ResultVar)(xs:List AV),mW T σ rs=some xs->
 ∃vs,(rs.mapM (XH a.tmps)).run P w= .ok vs w/\be P β w I xs vs
 |[],xs,h=>by simp only[mW,aC]at h;subst h;exact⟨[],by simp,by simp[be]⟩
 |r::rs,xs,h=>by
  simp only[mW]at h;cases h1:SF T σ r with
  |none=>simp[h1]at h
  |some x=>
   cases h2:mW T σ rs with
   |none=>simp[h1,h2]at h
   |some ys=>
    simp only[h1,h2,ah,aC]at h;subst h;have⟨v,g1,g2⟩:=ac7 hT hr h1;have⟨vs,g3,g4⟩:=ET hT hr rs ys h2;exact⟨v::vs,by simp only[List.mapM_cons,Sem.run_bind,g1,Result.andThen_ok,g3,Sem.run_pure],by simp only[be];exact⟨g2,g4⟩⟩
def SG(σ:St)(w0 w:World)(β:Nat->Option cA)(I:Nat->Prop)(O0:gi)(fk:Option Nat)(os':List (Option fF))(b:Nat):Prop:=
 (I b\/O0.CD b\/w0.heap.size<=b\/O0.own b)/\b<w.heap.size/\¬∃k,(fk=some k\/kept os' k)/\(∃ o,σ.obj k=some o)/\eL β k b
theorem ae8(hr:Rel P w0 O0 N β I σ a w)(fk:Option Nat)(os':List (Option fF)):∀b,I b->SG σ w0 w β I O0 fk os' b:=λb hb=>
 ⟨.inl hb,hr.mem.lt b hb,λ⟨k,_,⟨o,ho⟩,hβ⟩=>(hr.mem.fS k o b ho hβ).1 hb⟩
theorem Il(hr:Rel P w0 O0 N β I σ a w){fk:Option Nat}{os':List (Option fF)}{x:AV}{y:Tree}{v:Value}(h:VB σ.obj fk os' x y)(hv:VR P β w I x v):TR w (SG σ w0 w β I O0 fk os') y v:=by
 cases x<;>simp only[VB]at h
 case t x=>subst h;simp only[VR]at hv;exact TR.mono (λ _ _=>rfl) (ae8 hr fk os') _ _ hv
 case cG=>subst h;simp only[VR]at hv;simp only[TR];exact .inl ⟨trivial,none,0,hv,λ_=>rfl⟩
 case own k ae len=>
  obtain⟨hne,hnk,o,f5,h1,h2,h3,rfl⟩:=h;simp only[VR]at hv;simp only[TR];rcases hv with ⟨_,rfl,_,h4⟩ |⟨b,sz,n,cap,ad,h4,rfl,h5,h6,h7⟩
  ·exact .inl ⟨List.eq_nil_of_length_eq_zero (by omega),none,0,rfl,λ_=>rfl⟩
  ·have⟨g1,g2,g3⟩:=hr.mem.own k o b sz n h1 h4;refine .inr ⟨b,ad,cap,sz,by rw[h3],by omega,⟨.inr (.inr (g3.elim .inr .inl)),g2,λ⟨k',e1,⟨o',e2⟩,e3⟩=>?_⟩,?_⟩
   ·have:=hr.mem.kq k k' o o' b h1 e2 (.at h4) e3;subst this;exact e1.elim hne hnk
   ·by_cases hc:cap=0
    ·have:f5=[]:=List.eq_nil_of_length_eq_zero (by omega);subst this;simp[cj]
    ·rw[h7 hc];have⟨B,hB,oY⟩:=hr.mem.cw k o h1;rw[h4]at hB;cases hB;obtain⟨hs,c,e,hc',_,oY⟩:=oY;have h8:=bo.take len _ _ _ _ (bo.drop ae _ _ _ _ oY);rw[h2,Nat.zero_add]at h8;exact cj.ik (ae8 hr fk os') hc' f5 _ _ h8
theorem Qg(hr:Rel P w0 O0 N β I σ a w){fk:Option Nat}{os':List (Option fF)}{β':Nat->Option cA}:∀{r:List AV}{t:List Tree}{c:Array Value}{ae:Nat},hG σ.obj fk os' r t->cI P β w I r c ae->cI P β' w (SG σ w0 w β I O0 fk os') (t.map AV.t) c ae
 |[],[],_,_,_,_=>trivial
 |x::xs,y::ys,c,ae,h,⟨⟨v,h1,h2,h3⟩,h4⟩=>⟨⟨v,h1,by simp only[VR];exact Il hr h.1 h2,h3⟩,Qg hr h.2 h4⟩
 |[],_::_,_,_,h,_=>h.elim
 |_::_,[],_,_,h,_=>h.elim
theorem hG.length{get:Nat->Option aX}{fk:Option Nat}{os':List (Option fF)}:∀{r:List AV}{t:List Tree},hG get fk os' r t->t.length=r.length
 |[],[],_=>rfl
 |_::_,_::_,h=>by simp[hG.length h.2]
 |[],_::_,h=>h.elim
 |_::_,[],h=>h.elim
theorem EU(hr:Rel P w0 O0 N β I σ a w){fk:Option Nat}{os':List (Option fF)}{β':Nat->Option cA}:∀{rs:List (List AV)}{ts:List (List Tree)}{c:Array Value}{ae sz:Nat},dp σ.obj fk os' rs ts->bo P β w I rs c ae sz->bo P β' w (SG σ w0 w β I O0 fk os') (aS ts) c ae sz
 |[],[],_,_,_,_,_=>trivial
 |r::rs,t::ts,c,ae,sz,h,⟨h1,h2,h3⟩=>⟨by rw[List.length_map,h.1.length,h1],Qg hr h.1 h2,EU hr h.2 h3⟩
 |[],_::_,_,_,_,h,_=>h.elim
 |_::_,[],_,_,_,h,_=>h.elim
theorem dp.length{get:Nat->Option aX}{fk:Option Nat}{os':List (Option fF)}:∀{rs:List (List AV)}{ts:List (List Tree)},dp get fk os' rs ts->rs.length=ts.length
 |[],[],_=>rfl
 |_::_,_::_,h=>by simp only[bH,h.2.length]
 |[],_::_,h=>h.elim
 |_::_,[],h=>h.elim
theorem NU(hr:Rel P w0 O0 N β I σ a w){fk:Option Nat}{os':List (Option fF)}{β':Nat->Option cA}:∀{r:List AV}{t:List Tree}{vs:List Value},hG σ.obj fk os' r t->be P β w I r vs->be P β' w (SG σ w0 w β I O0 fk os') (t.map AV.t) vs
 |[],[],[],_,_=>by simp[be]
 |x::xs,y::ys,v::vs,h,hv=>by
  simp only[be]at hv;simp only[aF,be,VR];exact⟨Il hr h.1 hv.1,NU hr h.2 hv.2⟩
 |[],_::_,_,h,_=>h.elim
 |_::_,[],_,h,_=>h.elim
 |[],[],_::_,_,hv=>by simp[be]at hv
 |_::_,_::_,[],_,hv=>by simp[be]at hv
theorem KY(hr:Rel P w0 O0 N β I σ a w){fk:Option Nat}{os':List (Option fF)}{β':Nat->Option cA}:∀{rs:List (List AV)}{ts:List (List Tree)}{es:List MapEntry},dp σ.obj fk os' rs ts->co P β w I rs es->co P β' w (SG σ w0 w β I O0 fk os') (aS ts) es
 |[],[],[],_,_=>trivial
 |_::_,_::_,_::_,h,hm=>⟨NU hr h.1 hm.1,KY hr h.2 hm.2⟩
 |[],_::_,_,h,_=>h.elim
 |_::_,[],_,h,_=>h.elim
 |[],[],_::_,_,hm=>hm.elim
 |_::_,_::_,[],_,hm=>hm.elim
theorem dp.nil{get:Nat->Option aX}{fk:Option Nat}{os':List (Option fF)}{t:List (List Tree)}(h:dp get fk os' [] t):t=[]:=by
 cases t with
 |nil=>rfl
 |cons=>exact h.elim
theorem XJ(hr:Rel P w0 O0 N β I σ a w){F:Nat->Prop}{βi:Nat->Option cA}{fk:Option Nat}{os':List (Option fF)}(hF:∀k o b,fk=some k->σ.obj k=some o->¬kept os' k->eL β k b->F b)(hi:∀j,kept os' j->β j=βi j){x:AV}{c:RC}{v:Value}
 (h:AD σ.obj fk os' x c) (hv:VR P β w I x v):tU P F βi c w (SG σ w0 w β I O0 fk os') v:=by
 unfold AD at h;split at h
 ·rename_i cs ts;simp only[VR]at hv;obtain⟨vs,rfl,hv⟩:=hv;refine⟨vs,rfl,?_⟩;have:∀(cs:List AV)(ts:List Tree)(vs:List Value),hG σ.obj fk os' cs ts->be P β w I cs vs->en w (SG σ w0 w β I O0 fk os') ts vs:=by
   intro cs
   induction cs with
   |nil=>intro ts vs h hv;cases ts<;>cases vs<;>first |trivial |exact h.elim |(simp [be]at hv)
   |cons x xs ih=>
    intro ts vs h hv;cases ts with
    |nil=>exact h.elim
    |cons t ts=>
     cases vs with
     |nil=>simp[be]at hv
     |cons u us=>simp only[be]at hv;exact⟨Il hr h.1 hv.1,ih ts us h.2 hv.2⟩
  exact this cs ts vs.toList h hv
 ·exact Il hr h hv
 ·subst h;simp only[VR]at hv;exact .inl ⟨rfl,hv⟩
 ·rename_i k ae len sz rows;obtain⟨rfl,hnk,rfl,o,h1,rfl,h2,h3⟩:=h;simp only[VR]at hv;rcases hv with ⟨_,rfl,_,h4⟩ |⟨b,sz,n,cap,ad,h4,rfl,h5,h6,h7⟩
  ·exact .inl ⟨List.eq_nil_of_length_eq_zero (by omega),rfl⟩
  ·have⟨g1,g2,g3⟩:=hr.mem.own k o b sz n h1 h4;have⟨B,hB,oY⟩:=hr.mem.cw k o h1;rw[h4]at hB;cases hB;obtain⟨hs,c,e,hc',hn,oY⟩:=oY;refine .inr ⟨b,c,e,cap,ad,by rw[h3],hF k o b rfl h1 hnk (.at h4),λhI=>hI.2.2 ⟨k,.inl rfl,⟨o,h1⟩,.at h4⟩,hc',by omega,?_,?_,λhc=>by simpa using h7 hc⟩
   ·rw[<- hs,hn];simpa using h6
   ·rw[<- hs];exact EU hr h2 (bo.take len _ _ _ _ oY)
 ·rename_i k ae len j len';obtain⟨rfl,rfl,rfl,hk⟩:=h;show VR P βi w (SG σ w0 w β I O0 fk os') (.own k 0 len') v;simp only[VR]at hv ⊢;rw[<- hi k hk];exact hv
 ·exact h.elim
theorem EW{α:Type}(l:List α)(t:Nat):lk ((List.range l.length).zip l) t=l[t]? :=by
 have C4:∀(l:List α)(s t:Nat),(lk ((List.range' s l.length).zip l) t)=if s<=t/\t<s+l.length then l[t -s]? else none:=by
  intro l
  induction l with
  |nil=>intro s t;simp[lk]
  |cons x xs ih=>
   intro s t;simp only[bH,List.range'_succ,List.zip_cons_cons,lk];by_cases hst:s=t
   ·subst hst;simp
   ·rw[aM hst,ih];by_cases hlt':s+1<=t/\t<s+1+xs.length
    ·rw[aP hlt',aP (by omega),show t -s=(t -(s+1))+1 by omega];simp
    ·rw[aM hlt',aM (by omega)]
 rw[List.range_eq_range',C4];by_cases ht:t<l.length
 ·simp[ht]
 ·rw[aM (by omega)];simp[List.getElem?_eq_none (Nat.le_of_not_lt ht)]
theorem SH{x:AV}:∀{l:List AV},x∈l->∀k∈refs x,k∈fD l
 |[],h,_,_=>by simp at h
 |y::ys,h,k,hk=>by
  simp only[fD,bf];rcases aK.1 h with rfl |h
  ·exact .inl hk
  ·exact .inr (SH h k hk)
theorem aks(hT : fE P T){f : FuncId}{fn : Func}{c : Code}{args : List AV}{os : List fF}{os' : List (Option fF)}{rv : RV}(hfn : P.funcs[f]? = some fn)(hb : fn.body = some c)(hname : (fn.name == "runtime.NumGoroutine") = false)(hN : args.length <= fn.ntmps)(hargs : ∀ k ∈ fD args, k < 1000)(hos : os.length <= 1000)(hlen : os'.length = os.length)
 (h:Ev P fn.ntmps c (aqK T fn.results.toList rv os') (nw.st ⟨(List.range args.length).zip args,(List.range (os.map fg).length).zip (os.map fg)⟩)):pT P f args os os' rv:=by
 refine⟨⟨fn,hfn,by rw[hb];rfl,hname⟩,λw β I vs hβ hM hv=>?_⟩;have hvl:=be.length _ _ hv;simp only[Array.length_toList]at hvl;have f6:∀k,lk ((List.range (os.map fg).length).zip (os.map fg)) k=pf os k:=λk=>by rw[EW];simp[pf]
 refine calls_of_wp hfn hb ?_;have hrel:Rel P w (ug β I) fn.ntmps β I (nw.st ⟨(List.range args.length).zip args,(List.range (os.map fg).length).zip (os.map fg)⟩) { tmps:=vs++Array.replicate (fn.ntmps -vs.size) undef,defers:=[] } w:=by
  refine⟨rfl,by simp;omega,λt=>?_,?_⟩
  ·simp only[nw.st,EW,ee];by_cases ht:t<args.length
   ·obtain⟨v,g1,g2⟩:=be.get _ _ t _ hv (dI ht);rw[dI ht];simp only[Option.getD_some];have:(vs++Array.replicate (fn.ntmps -vs.size) undef).getD t undef=v:=by
     rw[Array.getElem?_toList]at g1;simp only[Array.getD_eq_getD_getElem?,Array.getElem?_append,show t<vs.size by omega,if_true,g1,Option.getD_some]
    rw[this];exact g2
   ·rw[List.getElem?_eq_none (Nat.le_of_not_lt ht)];simp[VR]
  ·have:(nw.st ⟨(List.range args.length).zip args,(List.range (os.map fg).length).zip (os.map fg)⟩).obj=pf os:=funext f6;rw[this];exact hM
 have hold:pS (nw.st ⟨(List.range args.length).zip args,(List.range (os.map fg).length).zip (os.map fg)⟩):=by
  refine⟨λ t k hk=>?_,λk o hk=>?_⟩
  ·simp only[nw.st,EW]at hk;cases ht:args[t]? with
   |none=>rw[ht]at hk;simp[refs]at hk
   |some x=>rw[ht]at hk;have:=hargs k (SH (eD ht) k hk);omega
  ·have hk:pf os k=some o:=(f6 k).symm.trans hk;simp only[pf,fq]at hk;obtain⟨p,hp,rfl⟩:=hk;refine⟨by have:=(fe.1 hp).1;omega,λr hr x hx j hj=>?_⟩;simp only[fg,aS,mem_map]at hr;obtain⟨q,_,rfl⟩:=hr;simp only[mem_map]at hx;obtain⟨t,_,rfl⟩:=hx;simp[refs]at hj
 refine wp_mono (h w (ug β I) β I _ w hrel hold) ?_
 have fin:∀(a':Act) (w':World) (β':Nat->Option cA) (I':Nat->Prop) (σ':St),Rel P w (ug β I) fn.ntmps β' I' σ' a' w'->(∃ xs fk,mW T σ' fn.results.toList=some xs/\AC σ'.obj fk os' xs rv/\Hb σ'.obj fk os')->
  a'.defers=[]/\∃v,(results fn a'.tmps).run P w'= .ok v w'/\Nd P w β I os' rv (.returned v) w':=by
  intro a' w' β' I' σ' hr ⟨xs,fk,hx,he,heo⟩;obtain⟨us,g1,g2⟩:=ET hT hr _ _ hx;have hul:=be.length _ _ g2;have hm:=hr.mem;have hrun:(fn.results.mapM (XH a'.tmps)).run P w'= .ok us.toArray w':=by rw[Array.mapM_eq_mapM_toList,Sem.run_map,g1];rfl
  have hko:∀j p,os'[j]? =some (some p)->∃B o,β j=some B/\β' j=some B/\σ'.obj j=some o/\OR P β' w' I' o B/\o.sz=p.1/\dp σ'.obj fk os' (o.rows.take p.2.length) p.2:=by
   intro j p hj;have⟨_,o,e1,e2,e3⟩:=heo j p hj;have hjl:j<os.length:=(by rw[<- hlen];exact(fe.1 hj).1);obtain⟨B,hB,_⟩:=hM.cw j (fg os[j]) (by simp[pf,hjl]);have hB':=hm.anch j B (by simp only[ug];rw[aP (by omega)];exact hB);have⟨B',hB2,hO⟩:=hm.cw j o e1;rw[hB']at hB2;cases hB2;exact⟨B,o,hB,hB',e1,hO,e2,e3⟩
  have hkept:∀j,kept os' j->β' j=β j:=λj ⟨p,hp⟩=>by
   have⟨B,o,h1,h2,_⟩:=hko j p hp;rw[h1,h2]
  have rt:∀j o,OD os' j=some o->∃p,os'[j]? =some (some p)/\o=fg p:=by
   intro j o hj;simp only[OD,fq,Option.join_eq_some_iff]at hj;obtain⟨p,hp,rfl⟩:=hj;exact⟨p,hp,rfl⟩
  have mC:∀b,I b->¬Xn β b/\b<w.heap.size:=by
   intro b hb;refine⟨?_,hM.lt b hb⟩;rintro⟨j,B,hj,hB⟩;rcases Nat.lt_or_ge j os.length with hjl |hjl
   ·exact(hM.ownB j (fg os[j]) B b (by simp[pf,hjl]) hj hB).1 hb
   ·rw[hβ j hjl]at hj;cases hj
  have S6:∀b,I b->SG σ' w w' β' I' (ug β I) fk os' b:=by
   intro b hb;have⟨g1,g2⟩:=mC b hb;refine⟨.inr (.inl hb),Nat.lt_of_lt_of_le g2 hm.le,?_⟩;rintro⟨k,_,⟨o,ho⟩,hβk⟩;rcases (hm.fS k o b ho hβk).2.2 with g |g
   ·exact g1 g
   ·omega
  have hmem:Mem P w (ug β I) β (SG σ' w w' β' I' (ug β I) fk os') (OD os') w':=by
   constructor
   ·intro j o hj;obtain⟨p,hp,rfl⟩:=rt j o hj;have⟨B,o1,b1,b2,b3,b4,b5,b6⟩:=hko j p hp;refine⟨B,b1,?_⟩;cases B with
    |none=>
     simp only[OR]at b4 ⊢;rw[b4]at b6;have:=dp.nil (by simpa using b6);simp[fg,aS,this]
    | «at» b s n=>
     obtain⟨c1,c,e,c2,c3,c4⟩:=b4;refine⟨by rw[c1,b5];rfl,c,e,c2,c3,?_⟩;exact EU hr b6 (bo.take _ _ _ _ _ c4)
    |mp b=>
     obtain⟨es,cl,c1,cl',c2,c3⟩:=b4;have hl:=b6.length;simp only[length_take]at hl;refine⟨es,cl,c1,by simp only[fg,aS,List.length_map];omega,λe=>?_,c3⟩;have e':p.1=p.2.length:=(by simpa[fg,aS]using e);rw[List.take_of_length_le (by omega)]at b6;exact KY hr b6 (c2 (by omega))
   ·intro j j' o o' B B' b h1 h2 h3 h4 h5 h6;obtain⟨p,hp,rfl⟩:=rt j o h1;obtain⟨p',hp',rfl⟩:=rt j' o' h2;have⟨_,o1,_,_,b3,_⟩:=hko j p hp;have⟨_,o1',_,_,b3',_⟩:=hko j' p' hp';rw[<- hkept j ⟨p,hp⟩]at h3;rw[<- hkept j' ⟨p',hp'⟩]at h4;exact hm.eR j j' o1 o1' B B' b b3 b3' h3 h4 h5 h6
   ·intro j o B b h1 h2 h5;obtain⟨p,hp,rfl⟩:=rt j o h1;have⟨_,o1,_,_,b3,_⟩:=hko j p hp;rw[<- hkept j ⟨p,hp⟩]at h2;have⟨_,c2,c3⟩:=hm.ownB j o1 B b b3 h2 h5;exact⟨λ hb=>hb.2.2 ⟨j,.inr ⟨p,hp⟩,⟨o1,b3⟩,B,h2,h5⟩,c2,c3⟩
   ·exact λb hb=>hb.2.1
   ·intro b hb;rcases hb.1 with g |g |g |g
    ·exact hm.up b g
    ·exact .inl g
    ·exact .inr (.inr g)
    ·exact .inr (.inl g)
   ·exact hm.keep
   ·exact hm.le
   ·exact hm.os
   ·exact hm.tape
   ·exact hm.output
   ·intro j B hj;simp only[ug]at hj;split at hj
    ·exact hj
    ·cases hj
   ·exact hM.vars.mono (λ b hb=>hm.keep b (mC b hb).2 (mC b hb).1) S6
  have hF:∀k o b,fk=some k->σ'.obj k=some o->¬kept os' k->eL β' k b->yv w β os' b:=by
   intro k o b _ h2 h3 h4;refine⟨(hm.fS k o b h2 h4).2.2,λj o' h5 h6=>?_⟩;obtain⟨p,hp,rfl⟩:=rt j o' h5;have⟨_,o1,_,_,b3,_⟩:=hko j p hp;have h6':eL β' j b:=by
    obtain⟨B,e1,e2⟩:=h6;exact⟨B,by rw[hkept j ⟨p,hp⟩];exact e1,e2⟩
   have:=hm.kq k j o o1 b h2 b3 h4 h6';subst this;exact h3 ⟨p,hp⟩
  have ret:∀v,nv P (yv w β os') β rv w' (SG σ' w w' β' I' (ug β I) fk os') v->Nd P w β I os' rv (.returned v) w':=λv hv'=>⟨v,_,rfl,hmem,S6,hv'⟩;refine⟨hr.defers,?_⟩;have hlist:∀(xs:List AV)(cs:List RC)(us:List Value),ke σ'.obj fk os' xs cs->be P β' w' I' xs us->WY P (yv w β os') β cs w' (SG σ' w w' β' I' (ug β I) fk os') us:=by
   intro xs
   induction xs with
   |nil=>intro cs us h1 h2;cases cs<;>cases us<;>first |trivial |exact h1.elim |(simp [be]at h2)
   |cons x xs ih=>
    intro cs us h1 h2;cases cs with
    |nil=>exact h1.elim
    |cons c cs=>
     cases us with
     |nil=>simp[be]at h2
     |cons u us=>simp only[be]at h2;exact⟨XJ hr hF hkept h1.1 h2.1,ih cs us h1.2 h2.2⟩
  simp only[XI,Sem.run_bind,hrun,Result.andThen_ok,Sem.run_pure];refine⟨_,rfl,ret _ ?_⟩
  match xs,us,rv,he,g2 with
  |[x],[u],.one c,he,g2=>
   simp only[be]at g2;simpa[nv]using XJ hr hF hkept he g2.1
  |x::y::r,u::u'::us,.ey cs,he,g2=>
   have:=hlist _ _ _ he g2;rw[dif_neg (by simp)];exact⟨_,rfl,by simpa using this⟩
  |[],[],.ey cs,he,g2=>
   simp only[AC]at he;subst he;rw[dif_neg (by simp)];exact⟨_,rfl,trivial⟩
  |[x],[u],.ey cs,he,_=>exact he.elim
  |[],_,.one c,he,_=>exact he.elim
  |x::y::r,_,.one c,he,_=>exact he.elim
  |[],_::_,.ey _,_,g2=>simp[be]at g2
  |[_],[],_,_,g2=>simp[be]at g2
  |[_],_::_::_,_,_,g2=>simp[be]at g2
  |_::_::_,[],_,_,g2=>simp[be]at g2
  |_::_::_,[_],_,_,g2=>simp[be]at g2
 rintro e a' w' ⟨β',I',σ',h1,h2,h3⟩;cases e with
 |normal=>exact fin a' w' β' I' σ' h1 h3
 |ret=>exact fin a' w' β' I' σ' h1 h3
 |_=>exact h3.elim
def Ha(P:Program)(get:Nat->Option aX)(xs:List AV)(os':List (Nat×aX))(rv:AV):Prop:=
 ∀(w0:World) (O0:gi) (β:Nat->Option cA) (I:Nat->Prop) (w:World) (vs:Array Value),Mem P w0 O0 β I get w->be P β w I xs vs.toList->∃ β' I',Mem P w0 O0 β' I' (me os') w/\(∀ b,I b->I' b)/\VR P β' w I' rv (if h:vs.size=1 then vs[0]else .tuple vs)
def aqe(P:Program)(T:da)(rs:List ResultVar)(rv:AV)(os':List (Nat×aX)):Exit->St->Prop
 | .normal,σ=>∃xs,mW T σ rs=some xs/\Ha P σ.obj xs os' rv
 | .ret,σ=>∃xs,mW T σ rs=some xs/\Ha P σ.obj xs os' rv
 |_,_=>False
theorem akt(hT : fE P T){f : FuncId}{fn : Func}{c : Code}{args : List AV}{os : List aX}{os' : List (Nat × aX)}{rv : AV}(hfn : P.funcs[f]? = some fn)(hb : fn.body = some c)(hname : (fn.name == "runtime.NumGoroutine") = false)(hN : args.length <= fn.ntmps)(hargs : ∀ k ∈ fD args, k < 1000)(hos : os.length <= 1000)
 (J1:∀o∈os,∀r∈o.rows,∀x∈r,∀j∈refs x,j<1000)
 (h:Ev P fn.ntmps c (aqe P T fn.results.toList rv os') (nw.st ⟨(List.range args.length).zip args,(List.range os.length).zip os⟩)):u9 P f args os os' rv:=by
 refine⟨⟨fn,hfn,by rw[hb];rfl,hname⟩,λw β I vs hβ hM hv=>?_⟩;have hvl:=be.length _ _ hv;simp only[Array.length_toList]at hvl;have f6:∀k,lk ((List.range os.length).zip os) k=ri os k:=λk=>by rw[EW];rfl
 refine calls_of_wp hfn hb ?_;have hrel:Rel P w (ug β I) fn.ntmps β I (nw.st ⟨(List.range args.length).zip args,(List.range os.length).zip os⟩) { tmps:=vs++Array.replicate (fn.ntmps -vs.size) undef,defers:=[] } w:=by
  refine⟨rfl,by simp;omega,λt=>?_,?_⟩
  ·simp only[nw.st,EW,ee];by_cases ht:t<args.length
   ·obtain⟨v,g1,g2⟩:=be.get _ _ t _ hv (dI ht);rw[dI ht];simp only[Option.getD_some];have:(vs++Array.replicate (fn.ntmps -vs.size) undef).getD t undef=v:=by
     rw[Array.getElem?_toList]at g1;simp only[Array.getD_eq_getD_getElem?,Array.getElem?_append,show t<vs.size by omega,if_true,g1,Option.getD_some]
    rw[this];exact g2
   ·rw[List.getElem?_eq_none (Nat.le_of_not_lt ht)];simp[VR]
  ·have:(nw.st ⟨(List.range args.length).zip args,(List.range os.length).zip os⟩).obj=ri os:=funext f6;rw[this];exact hM
 have hold:pS (nw.st ⟨(List.range args.length).zip args,(List.range os.length).zip os⟩):=by
  refine⟨λ t k hk=>?_,λk o hk=>?_⟩
  ·simp only[nw.st,EW]at hk;cases ht:args[t]? with
   |none=>rw[ht]at hk;simp[refs]at hk
   |some x=>rw[ht]at hk;have:=hargs k (SH (eD ht) k hk);omega
  ·have hk:ri os k=some o:=(f6 k).symm.trans hk;simp only[ri]at hk;refine⟨by have:=(fe.1 hk).1;omega,λr hr x hx j hj=>?_⟩;have:=J1 o (eD hk) r hr x hx j hj;omega
 refine wp_mono (h w (ug β I) β I _ w hrel hold) ?_
 have fin:∀(a':Act) (w':World) (β':Nat->Option cA) (I':Nat->Prop) (σ':St),Rel P w (ug β I) fn.ntmps β' I' σ' a' w'->(∃ xs,mW T σ' fn.results.toList=some xs/\Ha P σ'.obj xs os' rv)->
  a'.defers=[]/\∃v,(results fn a'.tmps).run P w'= .ok v w'/\T3 P w β I os' rv (.returned v) w':=by
  intro a' w' β' I' σ' hr ⟨xs,hx,he⟩;obtain⟨us,g1,g2⟩:=ET hT hr _ _ hx;have hrun:(fn.results.mapM (XH a'.tmps)).run P w'= .ok us.toArray w':=by rw[Array.mapM_eq_mapM_toList,Sem.run_map,g1];rfl
  have mC:∀b,I b->¬Xn β b/\b<w.heap.size:=by
   intro b hb;refine⟨?_,hM.lt b hb⟩;rintro⟨j,B,hj,hB⟩;rcases Nat.lt_or_ge j os.length with hjl |hjl
   ·exact(hM.ownB j os[j] B b (by simp[ri,hjl]) hj hB).1 hb
   ·rw[hβ j hjl]at hj;cases hj
  obtain⟨β2,I2,hm,hI2,hv2⟩:=he w (ug β I) β' I' w' us.toArray hr.mem (by simpa using g2);have hmem:Mem P w (ug β I) β2 (λ b=>I2 b\/I b) (me os') w':=by
   constructor
   ·intro k o hk;have⟨B,hB,hO⟩:=hm.cw k o hk;exact⟨B,hB,OR.mono (λ _ _ h=>h) (λ _ _=>rfl) (λ b hb=> .inl hb) (λ _ _=>rfl) hO⟩
   ·exact hm.eR
   ·intro k o B b h1 h2 h3;have⟨a1,a2,a3⟩:=hm.ownB k o B b h1 h2 h3;refine⟨?_,a2,a3⟩;rintro (hb |hb)
    ·exact a1 hb
    ·have⟨c1,c2⟩:=mC b hb;rcases a3 with a3 |a3
     ·exact c1 a3
     ·omega
   ·rintro b (hb |hb)
    ·exact hm.lt b hb
    ·exact Nat.lt_of_lt_of_le (mC b hb).2 hm.le
   ·rintro b (hb |hb)
    ·exact hm.up b hb
    ·exact .inl hb
   ·exact hm.keep
   ·exact hm.le
   ·exact hm.os
   ·exact hm.tape
   ·exact hm.output
   ·exact hm.anch
   ·exact hm.vars.mono (λ _ _=>rfl) (λ b hb=> .inl hb)
  refine⟨hr.defers,?_⟩;simp only[XI,Sem.run_bind,hrun,Result.andThen_ok,Sem.run_pure];exact⟨_,rfl,_,β2,_,rfl,hmem,λb hb=> .inr hb,VR.mono (λ _ _ h=>h) (λ _ _=>rfl) (λ b hb=> .inl hb) _ _ hv2⟩
 rintro e a' w' ⟨β',I',σ',h1,h2,h3⟩;cases e with
 |normal=>exact fin a' w' β' I' σ' h1 h3
 |ret=>exact fin a' w' β' I' σ' h1 h3
 |_=>exact h3.elim
theorem nv.Cp{F F':Nat->Prop}{βi:Nat->Option cA}{w':World}{I':Nat->Prop}(hF:∀b,F b->F' b){rv:RV}{v:Value}(h:nv P F βi rv w' I' v):nv P F' βi rv w' I' v:=by
 have hc:∀(c:RC)(v:Value),tU P F βi c w' I' v->tU P F' βi c w' I' v:=by
  intro c v h;cases c with
  |d x=>exact h
  |fresh sz rows=>
   rcases h with h |⟨b,c,e,cap,o,h1,h2,h3⟩
   ·exact .inl h
   ·exact .inr ⟨b,c,e,cap,o,h1,hF b h2,h3⟩
  |whole j len=>exact h
 cases rv with
 |one c=>exact hc c v h
 |ey cs=>
  obtain⟨vs,rfl,h⟩:=h;refine⟨vs,rfl,?_⟩;have:∀(cs:List RC)(vs:List Value),WY P F βi cs w' I' vs->WY P F' βi cs w' I' vs:=by
   intro cs
   induction cs with
   |nil=>intro vs h;cases vs with
    |nil=>trivial
    |cons=>exact h.elim
   |cons c cs ih=>intro vs h;cases vs with
    |nil=>exact h.elim
    |cons v vs=>exact⟨hc c v h.1,ih vs h.2⟩
  exact this cs vs.toList h
theorem XK{f:FuncId}{args:List AV}{rv:RV}(h:pT P f args [] [] rv):pr P f args rv:=by
 refine⟨h.1,λw I vs hlt hgv hv=>?_⟩;have hM:Mem P w (ug km I) km I (pf []) w:=by
  refine⟨λ k o hk=>by simp[pf]at hk,λk k' o o' B B' b hk=>by simp[pf]at hk,λk o B b hk=>by simp[pf]at hk,hlt,λb hb=> .inl hb,λ_ _ _=>rfl,aT _,rfl,rfl,rfl,λj B hj=>?_,hgv⟩;simp only[ug,km,ite_self]at hj;cases hj
 refine(h.2 w km I vs (λ _ _=>rfl) hM hv).mono ?_;rintro e w' ⟨v,I',rfl,g1,g2,g3⟩;have hno:∀b,¬(ug km I).own b:=λb ⟨j,B,hj,_⟩=>by cases hj
 refine⟨v,I',rfl,⟨g1.os,g1.tape,g1.output,g1.le,λb hb=>g1.keep b hb (hno b)⟩,g2,g1.lt,λb hb=>?_,nv.Cp (λ b hb=>?_) g3⟩
 ·rcases g1.up b hb with h |h |h
  ·exact .inl h
  ·exact(hno b h).elim
  ·exact .inr h
 ·rcases hb.1 with h |h
  ·exact(hno b h).elim
  ·exact h
end
end Go.Gb
