import Derived.Test.YtoiaceohobeemaaGreatW1
import Derived.Lib.AppendZeros
import Derived.MapKept
import Derived.Laws.MakeOwn
import Derived.Maps.RangeRun
open Go.IntKind (i64)
open List (length_take mem_map all_eq_true length_drop map_congr_left)
namespace Go.Gb
open Go.RowKit
def Cl(op:BinOp)(b:AV)(yes:Bool):Option Out:=
 match op with
 | .eql=>pv (if yes then b else .t (.sc (.bool false)))
 | .neq=>pv (if yes then b else .t (.sc (.bool true)))
 |_=>none
def Zt(T:dy)(op:BinOp)(t:TypeId)(x y:AV):Option Out:=
 (T t).bind λti=>match ti.k,x,y with
 | .slice _,.t (.sl rows),.cM=>Cl op .ub rows.isEmpty
 | .slice _,.own _ _ len,.cM=>Cl op .ub (len==0)
 | .slice _,.oz _ len,.cM=>Cl op (.t (.sc (.bool (op== .eql)))) (len==0)
 | .slice _,.cM,.cM=>Cl op (.t (.sc (.bool (op== .eql)))) true
 |_,_,_=>none
def LN(T:dy)(s d:TypeId)(x:AV):Option Out:=
 (T s).bind λ_=>(T d).bind λdi=>match di.k,x with
 | .int k,.t (.sc (.int _ n))=>pv (.t (.sc (.int k (k.wrap n))))
 |_,_=>none
def Wo(T:dy)(t:TypeId)(x j:AV)(n:Int):Option Out:=
 (T t).bind λti=>match ti.k,x,j with
 | .str,.t (.sc (.string s)),.t (.sc (.int _ m))=>k5 (.t (.sc (.int .u8 n))) (0<=m/\∃b,s[m.toNat]? =some b/\n=b.toNat)
 | .arr m e,.agg cs,.t (.sc (.int _ q))=>(T e).bind λei=>(part' ei.agg ei.size ((cs.drop (q.toNat*ei.size)).take ei.size)).bind λv=>k5 v (0<=q/\q<(m:Int))
 |_,_,_=>none
def E8(T:dy)(t:TypeId)(x:AV)(lo hi:Option AV):Option Out:=
 (T t).bind λti=>match ti.k,x with
 | .slice e,.cM=>(T e).bind λ_=>(bnd 0 lo).bind λl=>(bnd 0 hi).bind λh=>k5 .cM (l=0/\h=0)
 |_,_=>none
def vQ(T:dy)(i:Nat)(b:Builtin)(args:List AV)(cV:List TypeId)(get:Nat->Option aU):Option Out:=
 match b,args,cV with
 | .cap,[.cM],[t]=>(T t).bind λti=>match ti.k with
  | .slice _=>pv (.t (.sc (.int .i64 0)))
  |_=>none
 | .clear,[.own k aa _],[t]=>(T t).bind λti=>match ti.k with
  | .slice e=>(T e).bind λei=>(get k).bind λo=>if o.sz=ei.size then some ⟨.fi [],[(k,some ⟨o.sz,o.rows.take aa⟩)],[]⟩else none
  |_=>none
 | .append,[.cM,.t (.sc (.int _ m))],[t,u]=>(T t).bind λti=>(T u).bind λui=>match ti.k,ui.k with
  | .slice e,.int _=>(T e).bind λei=>some ⟨.own (cy i) 0 m.toNat,[(cy i,some ⟨ei.size,dV (List.replicate m.toNat (ei.zero.map cv))⟩)],[0<=m/\m.toNat*ei.bytes<=140737488355328/\m.toNat<=maxLen/\0<ei.size]⟩
  |_,_=>none
 |_,_,_=>none
def oZ(T:dy)(i:Nat)(o:Oper)(n:Int)(ρ:Operand->AV)(get:Nat->Option aU):Option Out:=
 match o.op with
 | .binOp op t x y _=>Zt T op t (ρ x) (ρ y)
 | .convert s d x=>LN T s d (ρ x)
 | .index t x j=>Wo T t (ρ x) (ρ j) n
 | .slice t x lo hi none=>E8 T t (ρ x) (lo.map ρ) (hi.map ρ)
 | .call { callee:= .builtin b,args:=args,argTypes:=cV }=>vQ T i b (args.toList.map ρ) cV.toList get
 |_=>none
section
variable {T:dy}
theorem Te{i:Nat}{o:Oper}{cw:i6}{ρ ρ':Operand->AV}{get:Nat->Option aU}(h:∀x∈o.op.operands,ρ x=ρ' x):qH T i o cw ρ get=qH T i o cw ρ' get:=by
 obtain⟨dst,op,ty,aw,after,guard⟩:=o;have pairs:∀ps:Array (Nat×Operand),(∀ x∈(ps.toList.map (·.2)).toArray,ρ x=ρ' x)->(ps.toList.map λ(j,x)=>(j,ρ x))=(ps.toList.map λ(j,x)=>(j,ρ' x)):=λps hp=>
  map_congr_left λp hm=>by
   obtain⟨i,x⟩:=p;simp only[hp x (by simp only[List.mem_toArray];exact mem_map.2 ⟨(i,x),hm,rfl⟩)]
 cases op<;>simp only[Op.operands]at h<;>simp only[qH]
 case build t ps=>rw[pairs ps h]
 case buildSlice t n ps=>rw[pairs ps h]
 case makeFunc fn first captured=>
  have h1:first.toList.map ρ=first.toList.map ρ':=map_congr_left λx hx=>h x (by simp;exact .inl (by simpa using hx))
  have h2:captured.toList.map ρ=captured.toList.map ρ':=map_congr_left λx hx=>h x (by simp;exact .inr (by simpa using hx));cases fn<;>simp only[h1,h2]
 case call c=>
  obtain⟨callee,args,cV⟩:=c;cases callee<;>simp only
  case builtin b=>
   have h1:args.toList.map ρ=args.toList.map ρ':=map_congr_left λx hx=>h x (by simp[Call.operands];simpa using hx);rw[h1]
 case slice t x lo hi mx=>
  have hx:=h x (by simp);cases mx with
  |some m=>rfl
  |none=>
   simp only[hx];cases lo<;>cases hi<;>simp_all
 case pick c a b=>rw[h c (by simp),h a (by simp),h b (by simp)]
 all_goals (first |rfl |(simp_all;done))
theorem rW:∀(l:List Prop),(∀ p∈l,p)->j5 l
 |[],_=>trivial
 |[q],h=>h q (by simp)
 |q::r::l,h=>⟨h q (by simp),rW (r::l) λp hp=>h p (dS _ hp)⟩
theorem abP{i:Nat}{o:Oper}{n:Int}{ρ ρ':Operand->AV}{get:Nat->Option aU}(h:∀x∈o.op.operands,ρ x=ρ' x):oZ T i o n ρ get=oZ T i o n ρ' get:=by
 obtain⟨dst,op,ty,aw,after,guard⟩:=o;cases op<;>simp only[Op.operands]at h<;>simp only[oZ]
 case binOp a b c d e=>rw[h c (by simp),h d (by simp)]
 case convert s d x=>rw[h x (by simp)]
 case index t x j=>rw[h x (by simp),h j (by simp)]
 case call c=>
  obtain⟨callee,args,cV⟩:=c;cases callee<;>simp only
  case builtin b=>
   have h1:args.toList.map ρ=args.toList.map ρ':=map_congr_left λx hx=>h x (by simp[Call.operands];simpa using hx);rw[h1]
 case slice t x lo hi mx=>
  have hx:=h x (by simp);cases mx with
  |some m=>rfl
  |none=>
   simp only[hx];cases lo<;>cases hi<;>simp_all
end
def V0:Op->Bool
 | .pick .. =>true
 |_=>false
def JY(P:Program)(T:dy)(i:Nat)(o:Oper)(ae:List Nat)(fr:Operand->AV)(cw:i6)(ρ:Operand->AV)(get:Nat->Option aU):Option Out:=
 if V0 o.op then none else(qH T i o cw fr (λ k=>if k∈ae then none else get k)).bind λab=>
  some ⟨ab.v,ab.upd++ae.map (λ k=>(k,none)),ab.obs++[∀ x∈o.op.operands,(fy P get (ρ x) (fr x)/\∀k∈refs (ρ x),k∈ae)\/fr x=ρ x]⟩
theorem abQ{P:Program}{T:dy}{i:Nat}{o:Oper}{ae:List Nat}{fr:Operand->AV}{cw:i6}{ρ ρ':Operand->AV}{get:Nat->Option aU}(h:∀x∈o.op.operands,ρ x=ρ' x):JY P T i o ae fr cw ρ get=JY P T i o ae fr cw ρ' get:=by
 unfold JY;have:(∀ x∈o.op.operands,(fy P get (ρ x) (fr x)/\∀k∈refs (ρ x),k∈ae)\/fr x=ρ x)=(∀ x∈o.op.operands,(fy P get (ρ' x) (fr x)/\∀k∈refs (ρ' x),k∈ae)\/fr x=ρ' x):=by
  apply propext;constructor<;>intro hh x hx
  ·rw[<- h x hx];exact hh x hx
  ·rw[h x hx];exact hh x hx
 rw[this]
section
variable {P:Program} {T:dy} {w0:World} {O0:jz} {β:Nat->Option cE} {I:Nat->Prop} {obj:Nat->Option aU} {w:World} {i:Nat}
theorem af2(hT:eZ P T){op:BinOp}{t:TypeId}{x y:AV}{xo yo:Operand}{u v:Value}{ab:Out}(ha:Zt T op t x y=some ab)(hx:VR P β w I x u)(hy:VR P β w I y v):
 ∃z,(do eqGuard op t xo yo u v;binOp op t u v:Sem Value).run P w= .ok z w/\VR P β w I ab.v z/\ab.upd=[]:=by
 unfold Zt at ha;cases hti:T t with
 |none=>simp[hti]at ha
 |some ti=>
  have ht:=hT t ti hti;simp only[hti,ah]at ha;have eq:∀e a n c,P.underlying t=some (.slice e)->(Op.equal t (.slice a n c) (.slice none 0 0)).run P w= .ok a.isNone w:=by
   intro e a n c hu;have:∀d,(Op.equalIn (d+1) t (.slice a n c) (.slice none 0 0)).run P w= .ok a.isNone w:=by
    intro d;cases a<;>simp[Op.equalIn,run_underlying hu]
   exact this 9999
  have main:∀e,P.underlying t=some (.slice e)->∀a n c,u= .slice a n c->v= .slice none 0 0->(op= .eql\/op= .neq)->
   (do eqGuard op t xo yo u v;binOp op t u v:Sem Value).run P w= .ok (.bool (if op= .eql then a.isNone else !a.isNone)) w:=by
   rintro e hu a n c rfl rfl (rfl |rfl)
   ·simp[eqGuard,binOp,eq e a n c hu]
   ·simp[eqGuard,binOp,eq e a n c hu]
  have fin:∀e,P.underlying t=some (.slice e)->∀a n c,u= .slice a n c->v= .slice none 0 0->∀(bv:AV)(yes:Bool),Cl op bv yes=some ab->
   (yes=false->a.isNone=false)->(yes=true->∀q,(q=if op= .eql then a.isNone else !a.isNone)->VR P β w I bv (.bool q))->
   ∃z,(do eqGuard op t xo yo u v;binOp op t u v:Sem Value).run P w= .ok z w/\VR P β w I ab.v z/\ab.upd=[]:=by
   intro e hu a n c h1 h2 bv yes hn hno GF;unfold Cl at hn;split at hn
   ·simp only[pv,aA]at hn;subst hn;refine⟨_,main e hu a n c h1 h2 (.inl rfl),?_,rfl⟩;cases yes with
    |true=>exact GF rfl _ rfl
    |false=>simp only[VR,TR,hno rfl];exact⟨by simp,trivial⟩
   ·simp only[pv,aA]at hn;subst hn;refine⟨_,main e hu a n c h1 h2 (.inr rfl),?_,rfl⟩;cases yes with
    |true=>exact GF rfl _ rfl
    |false=>simp only[VR,TR,hno rfl];exact⟨by simp,trivial⟩
   ·cases hn
  split at ha
  ·rename_i e rows hk;have hu:=iy ht hk;simp only[VR]at hy;simp only[VR,TR]at hx;rcases hx with ⟨rfl,a,c,rfl,_⟩ |⟨b,aa,c,sz,rfl,_⟩
   ·exact fin _ hu _ _ _ rfl hy _ _ ha (λ h=>by simp at h) (λ _ q _=>by simp only[VR];exact⟨q,rfl⟩)
   ·exact fin _ hu _ _ _ rfl hy _ _ ha (λ _=>rfl) (λ _ q _=>by simp only[VR];exact⟨q,rfl⟩)
  ·rename_i e k aa len hk;have hu:=iy ht hk;simp only[VR]at hx hy;rcases hx with ⟨_,rfl,_,rfl⟩ |⟨b,sz,n,cap,o,_,rfl,_⟩
   ·exact fin _ hu _ _ _ rfl hy _ _ ha (λ h=>by simp at h) (λ _ q _=>by simp only[VR];exact⟨q,rfl⟩)
   ·exact fin _ hu _ _ _ rfl hy _ _ ha (λ _=>rfl) (λ _ q _=>by simp only[VR];exact⟨q,rfl⟩)
  ·rename_i e k len hk;have hu:=iy ht hk;simp only[VR]at hx hy;rcases hx with ⟨h0,rfl⟩ |⟨h0,b,sz,n,cap,o,_,rfl,_⟩
   ·refine fin _ hu _ _ _ rfl hy _ _ ha (λ h=>by simp[h0]at h) (λ _ q hq=>?_);simp only[VR,TR,hq];cases op<;>exact⟨by simp,trivial⟩
   ·exact fin _ hu _ _ _ rfl hy _ _ ha (λ _=>rfl) (λ h=>by simp[h0]at h)
  ·rename_i e hk;have hu:=iy ht hk;simp only[VR]at hx hy;subst hx;refine fin _ hu _ _ _ rfl hy _ _ ha (λ h=>by cases h) (λ _ q hq=>?_);simp only[VR,TR,hq];cases op<;>exact⟨by simp,trivial⟩
  ·cases ha
theorem ady(hT:eZ P T){s d:TypeId}{x:AV}{u:Value}{ab:Out}(ha:LN T s d x=some ab)(hx:VR P β w I x u):
 ∃z,(convert s d u).run P w= .ok z w/\VR P β w I ab.v z/\ab.upd=[]:=by
 unfold LN at ha;cases hsi:T s with
 |none=>simp[hsi]at ha
 |some si=>
  cases hdi:T d with
  |none=>simp[hsi,hdi]at ha
  |some di=>
   simp only[hsi,hdi,ah]at ha;split at ha
   ·rename_i k kk n hk;simp only[pv,aA]at ha;subst ha;have⟨info,dd,z,_,h2,_⟩:=(hT s si hsi).ex;have⟨info',dd',z',_,h2',_,_,_,_,_,h8⟩:=(hT d di hdi).ex;rw[hk]at h8;have h8:dd'= .int k:=h8;subst h8;simp only[VR,TR]at hx;obtain⟨rfl,_⟩:=hx;refine⟨.int k (k.wrap n),?_,by simp only[VR,TR];exact⟨trivial,trivial⟩,rfl⟩;simp[convert,run_underlying h2,run_underlying h2',Conv.intToInt]
   ·cases ha
theorem abR(hT:eZ P T){t:TypeId}{x j:AV}{n:Int}{u v:Value}{ab:Out}(ha:Wo T t x j n=some ab)(cC:ab.ob)(hx:VR P β w I x u)(hj:VR P β w I j v):
 ∃z,(Instr.index t u v).run P w= .ok z w/\VR P β w I ab.v z/\ab.upd=[]:=by
 unfold Wo at ha;cases hti:T t with
 |none=>simp[hti]at ha
 |some ti=>
  simp only[hti,ah]at ha;split at ha
  ·rename_i s k m hk;simp only[k5,aA]at ha;subst ha;obtain⟨h0,b,hb,rfl⟩:=cC;have⟨info',dd',z',_,h2',_,_,_,_,_,h8⟩:=(hT t ti hti).ex;rw[hk]at h8;have h8:dd'= .string:=h8;subst h8;simp only[VR,TR]at hx hj;obtain⟨rfl,_⟩:=hx;obtain⟨rfl,_⟩:=hj;refine⟨.int .u8 b.toNat,?_,by simp only[VR,TR];exact⟨trivial,trivial⟩,rfl⟩;simp[Instr.index,asIntOf,run_underlying h2',h0,hb]
  ·rename_i m e cs kd q hk;have eJ:=EZ (hT t ti hti) hk;cases ff:T e with
   |none=>simp[ff]at ha
   |some ei=>
    simp only[ff,ah]at ha;cases hp:part' ei.agg ei.size ((cs.drop (q.toNat*ei.size)).take ei.size)with
    |none=>simp[hp]at ha
    |some y=>
     simp only[hp,ah,k5,aA]at ha;subst ha;have cC:0<=q/\q<(m:Int):=cC;simp only[VR,TR]at hx hj;obtain⟨vs,rfl,hvs⟩:=hx;obtain⟨rfl,_⟩:=hj;have he:=hT e ei ff;have⟨u,hu,hv⟩:=adu he hp hvs;refine⟨u,?_,hv,rfl⟩;simp[Instr.index,asIntOf,run_underlying eJ,cC.1,cC.2,he.size (w:=w)];simpa using hu
  ·cases ha
theorem Uo(hT:eZ P T){t:TypeId}{x:AV}{lo hi:Option AV}{ab:Out}{v:Value}{oR hiv:Option Value}
 (ha:E8 T t x lo hi=some ab) (cC:ab.ob) (hx:VR P β w I x v) (hlo:∀x,lo=some x->∃v,oR=some v/\VR P β w I x v) (hlo0:lo=none->oR=none) (hhi:∀x,hi=some x->∃v,hiv=some v/\VR P β w I x v) (hhi0:hi=none->hiv=none):
 ∃u,(Instr.sliceAt t v oR hiv none).run P w= .ok u w/\VR P β w I ab.v u/\ab.upd=[]:=by
 unfold E8 at ha;cases hti:T t with
 |none=>simp[hti]at ha
 |some ti=>
  have ht:=hT t ti hti;simp only[hti,ah]at ha;split at ha
  ·rename_i e hkd;cases ff:T e with
   |none=>simp[ff]at ha
   |some ei=>
    have he:=hT e ei ff;simp only[ff,ah]at ha;cases hl:bnd 0 lo with
    |none=>simp[hl]at ha
    |some l=>
     cases hh:bnd 0 hi with
     |none=>simp[hl,hh]at ha
     |some r=>
      simp only[hl,hh,ah,k5,aA]at ha;subst ha;obtain⟨rfl,rfl⟩:=cC;simp only[VR]at hx;subst hx;have:=IA (P:=P) (w:=w) (len:=0) (cap:=0) (zZ hl hlo hlo0) (zZ hh hhi hhi0) (by omega) (by omega) (by omega);refine⟨.slice none 0 0,?_,by simp only[VR],rfl⟩;simp[Instr.sliceAt,Instr.slice,run_underlying (iy ht hkd),this,he.size (w:=w)]
  ·cases ha
theorem bp.congr:∀(rows:List (List AV))(c c':Array Value)(aa sz:Nat),(∀ j,j<aa+rows.length*sz->c'[j]? =c[j]?)->bp P β w I rows c aa sz->bp P β w I rows c' aa sz
 |[],_,_,_,_,_,_=>trivial
 |r::rs,c,c',aa,sz,hc,⟨h1,h2,h3⟩=>by
  have hl:(r::rs).length*sz=sz+rs.length*sz:=by rw[bF,Nat.add_mul];omega
  rw[hl]at hc;refine⟨h1,?_,bp.congr rs c c' (aa+sz) sz (λ j hj=>hc j (by omega)) h3⟩;rw[lM]at h2 ⊢;intro j x hx;have hj:=(dm.1 hx).1;rw[hc (aa+j) (by omega)];exact h2 j x hx
theorem bp.zeros(z:List Value)(sz:Nat)(hz:z.length=sz)(h1:∀v∈z,oneCell v):∀(n:Nat)(c:Array Value)(aa:Nat),(∀ i j,i<n->j<sz->c[aa+i*sz+j]? =z[j]?)->bp P β w I (List.replicate n (z.map cv)) c aa sz
 | 0,_,_,_=>trivial
 |n+1,c,aa,hc=>by
  rw[List.replicate_succ];refine⟨by simpa using hz,?_,bp.zeros z sz hz h1 n c (aa+sz) λi j hi hj=>?_⟩
  ·rw[lM];intro j x hx;simp only[List.getElem?_map,eU]at hx;obtain⟨v,hv,rfl⟩:=hx;have hj:=(dm.1 hv).1;refine⟨v,?_,VR.cv,h1 v (cB hv)⟩;have:=hc 0 j (by omega) (by omega);rw[Nat.zero_mul,Nat.add_zero]at this;rw[this];exact hv
  ·have:=hc (i+1) j (by omega) hj;rw[show aa+sz+i*sz+j=aa+(i+1)*sz+j by rw[Nat.add_mul];omega];exact this
theorem MW(z:Array Value)(n j:Nat)(h:j<n*z.size):(Builtin.zeroCells z n)[j]? =z[j%z.size]? :=by
 have hz:0<z.size:=Nat.pos_of_ne_zero λe=>by rw[e]at h;omega
 have hm:j%z.size<z.size:=Nat.mod_lt _ hz;simp[Builtin.zeroCells,h,hm]
theorem Uq(hT:eZ P T)(h:Mem P w0 O0 β I obj w)(hn:β (cy i)=none){b:Builtin}{args:List AV}{cV:Array TypeId}{get:Nat->Option aU}{ab:Out}(hg:∀k o,get k=some o->obj k=some o)
 {vs:Array Value} {ty:TypeId} {am:Array Operand} (ha:vQ T i b args cV.toList get=some ab) (cC:ab.ob) (hv:bj P β w I args vs.toList) {r:Operand->Value} (hops:vs=am.map r) {dst:Option Tmp} {aw:String} {after:Array Edge} {guard:Option (Nat×Bool)}:
 qu P w0 O0 β I obj w i ab ((execOp r ⟨dst,.call { callee:= .builtin b,args:=am,argTypes:=cV },ty,aw,after,guard⟩).run P w):=by
 unfold vQ at ha;split at ha
 ·rename_i t qk;obtain⟨v,hvs⟩:∃v,vs=#[v]:=by
   obtain⟨l⟩:=vs
   match l,hv with
   |[v],_=>exact⟨v,rfl⟩
   |[],h=>simp[bj]at h
   |_::_::_,h=>simp[bj]at h
  have ht:cV=#[t]:=by cases cV;simpa using qk
  subst hvs ht;simp only[bj,VR]at hv;cases hti:T t with
  |none=>simp[hti]at ha
  |some ti=>
   simp only[hti,ah]at ha;split at ha
   ·rename_i e hk;simp only[pv,aA]at ha;subst ha;refine⟨.int .i64 0,w,β,I,.inl ?_,Step.refl ..,h,by simp only[VR,TR];exact⟨trivial,trivial⟩⟩;rw[hv.1]at hops;simp[execOp,resolve,invoke,builtin,<- hops,Builtin.cap_,run_underlying (iy (hT t ti hti) hk),goInt]
   ·cases ha
 ·rename_i k aa len t qk;obtain⟨v,hvs⟩:∃v,vs=#[v]:=by
   obtain⟨l⟩:=vs
   match l,hv with
   |[v],_=>exact⟨v,rfl⟩
   |[],h=>simp[bj]at h
   |_::_::_,h=>simp[bj]at h
  have ht:cV=#[t]:=by cases cV;simpa using qk
  subst hvs ht;simp only[bj]at hv;have hv:=hv.1;cases hti:T t with
  |none=>simp[hti]at ha
  |some ti=>
   simp only[hti,ah]at ha;split at ha
   ·rename_i e hkd;cases ff:T e with
    |none=>simp[ff]at ha
    |some ei=>
     cases hk:get k with
     |none=>simp[ff,hk]at ha
     |some o=>
      simp only[ff,hk,ah]at ha;split at ha
      ·rename_i hsz;cases ha;have he:=hT e ei ff;have eJ:=iy (hT t ti hti) hkd;obtain⟨info,d,z,g1,g2,g3,g4,g5,g6,g7,g8⟩:=he.ex;have hko:=hg k o hk;have weak:∀{w':World},Mem P w0 O0 β I obj w'->Mem P w0 O0 β I (bW obj [(k,some ⟨o.sz,o.rows.take aa⟩)]) w':=by
        intro w' hm;refine hm.weak λj o' hj=>?_;simp only[bW]at hj;split at hj
        ·rename_i e;subst e;cases hj;refine⟨o,hko,λB hB hO=>?_⟩;cases B with
         |none=>simp only[OR]at hO ⊢;simp[hO]
         | «at» b s n=>
          obtain⟨h1,c,e,h2,h3,h4⟩:=hO;exact⟨h1,c,e,h2,h3,bp.take _ _ _ _ _ h4⟩
         |mp b=>
          obtain⟨es,cl,h1,hle,h2,h3⟩:=hO;refine⟨es,cl,h1,by simp only[length_take];omega,λe=>?_,h3⟩;simp only[length_take]at e;simp only;rw[List.take_of_length_le (by omega)];exact h2 (by omega)
        ·exact⟨o',hj,λ_ _ h=>h⟩
       have hdone:∀w',(Builtin.clear_ #[t] ty #[v]).run P w= .ok (.tuple #[]) w'->(execOp r ⟨dst,.call { callee:= .builtin .clear,args:=am,argTypes:=#[t] },ty,aw,after,guard⟩).run P w= .ok (.value (.tuple #[])) w':=by
        intro w' hw;simp[execOp,resolve,invoke,builtin,<- hops,hw]
       have yW:∀{w':World},VR P β w' I (.fi []) (.tuple #[]):=by
        intro w';simp only[VR];exact⟨#[],rfl,trivial⟩
       simp only[VR]at hv;rcases hv with ⟨h1,rfl,_,rfl⟩ |⟨b,sz,m,cap,a,h1,rfl,h2,h3,h4⟩
       ·exact⟨_,w,β,I,.inl (hdone w (by simp[Builtin.clear_,run_underlying eJ])),Step.refl ..,weak h,yW⟩
       ·by_cases h0:len=0
        ·subst h0;exact⟨_,w,β,I,.inl (hdone w (by simp[Builtin.clear_,run_underlying eJ])),Step.refl ..,weak h,yW⟩
        ·have⟨B,hB,hO⟩:=h.cH k o hko;rw[h1]at hB;cases hB;obtain⟨hs,c,ce,hc,hcn,hO⟩:=hO;have ha':a=m.s+aa*sz:=h4 (by omega);subst ha';have hzs:z.cells.size=ei.size:=(by rw[<- Array.length_toList,g6];exact he.len);have hzl:(Builtin.zeroCells z.cells len).toList.length=len*ei.size:=(by simp[size_zeroCells,hzs]);have hfit:m.s+aa*sz+len*ei.size<=c.size:=by
          rw[hcn,<- hsz,<- hs,Nat.add_assoc,<- Nat.add_mul];have:(aa+len)*sz<=(aa+cap)*sz:=Nat.mul_le_mul_right _ (by omega);omega
         have hone:∀u∈(Builtin.zeroCells z.cells len).toList,u.oneCell'=true:=by
          intro u hu;obtain⟨j,hj⟩:=List.getElem?_of_mem hu;have hjl:=(dm.1 hj).1;rw[hzl,<- hzs]at hjl;rw[Array.getElem?_toList,MW _ _ _ hjl]at hj;have:u∈ei.zero:=(by rw[<- g6];exact Array.mem_toList_iff.2 (Array.mem_of_getElem? hj));exact oneCell' (qa (all_eq_true.1 he.one u this))
         have hst:=run_storeCells_at P b (m.s+aa*sz) ce (Builtin.zeroCells z.cells len).toList 0 c w hc (by rw[hzl];omega) hone;simp only[Nat.add_zero]at hst;generalize hcc:(List.take (m.s+aa*sz) c.toList++(Builtin.zeroCells z.cells len).toList++List.drop (m.s+aa*sz+(Builtin.zeroCells z.cells len).toList.length) c.toList).toArray=cc at hst;have P1:cc.size=c.size:=(by rw[<- hcc];simp[length_take,length_drop,size_zeroCells,hzs];omega);have hzv:(zeroValue e).run P w= .ok z w:=(by simp[zeroValue,typeInfo,g1,g5]);have hrun:(Builtin.clear_ #[t] ty #[.slice (some ⟨b,m.s+aa*sz,none⟩) len cap]).run P w= .ok (.tuple #[]) (w.setRow b cc):=by
          obtain⟨len',rfl⟩:∃len',len=len'+1:=⟨len -1,by omega⟩;simp[Builtin.clear_,run_underlying eJ,hzv,hst]
         obtain⟨t8,hM⟩:=Mem.write (o':=⟨o.sz,o.rows.take aa⟩) h hko h1 (c':=cc) (e:=ce) (setRow_heap w b c cc ce (0,0) hc) (λ b' hb=>setRow_other w b b' cc hb) (by simp) rfl rfl rfl hs (by omega) (by
          refine bp.congr _ c cc m.s o.sz (λ j hj=>?_) (by rw[<- hs];exact bp.take _ _ _ _ _ hO);have hj2:j<m.s+aa*sz:=by
           rw[hs];refine Nat.lt_of_lt_of_le hj (Nat.add_le_add_left ?_ _);exact Nat.mul_le_mul_right _ (by simp[length_take];omega)
          rw[<- hcc,List.getElem?_toArray,aK,List.getElem?_append_left (by simp[length_take];omega),List.getElem?_take,aP hj2,Array.getElem?_toList])
         exact⟨_,_,β,I,.inl (hdone _ hrun),⟨λ _ _=>rfl,λ_ _ h=>h,t8,λ_ h=>h⟩,hM,yW⟩
      ·cases ha
   ·cases ha
 ·rename_i kk m t u qk;obtain⟨v,v',hvs⟩:∃v v',vs=#[v,v']:=by
   obtain⟨l⟩:=vs
   match l,hv with
   |[v,v'],_=>exact⟨v,v',rfl⟩
   |[],h=>simp[bj]at h
   |[_],h=>simp[bj]at h
   |_::_::_::_,h=>simp[bj]at h
  have ht:cV=#[t,u]:=by cases cV;simpa using qk
  subst hvs ht;simp only[bj,VR,TR]at hv;obtain⟨rfl,⟨rfl,_⟩,_⟩:=hv;cases hti:T t with
  |none=>simp[hti]at ha
  |some ti=>
   cases uu:T u with
   |none=>simp[hti,uu]at ha
   |some ui=>
    simp only[hti,uu,ah]at ha;split at ha
    ·rename_i e kn hkd zt;cases ff:T e with
     |none=>simp[ff]at ha
     |some ei=>
      simp only[ff,ah,aA]at ha;subst ha;obtain⟨m0,m48,Gk,mpos⟩:=cC;have he:=hT e ei ff;have eJ:=iy (hT t ti hti) hkd;obtain⟨info,d,z,g1,g2,g3,g4,g5,g6,g7,g8⟩:=he.ex;have⟨_,dd',_,_,h2',_,_,_,_,_,h8⟩:=(hT u ui uu).ex;rw[zt]at h8;have h8:dd'= .int kn:=h8;subst h8;obtain⟨n,rfl⟩:∃n:Nat,m=(n:Int):=⟨m.toNat,by omega⟩;simp only[Int.toNat_natCast]at m48 Gk ⊢;by_cases h0:n=0
      ·subst h0;have⟨hS,hM⟩:=Mem.pf (i:=cy i) (o:=⟨ei.size,[]⟩) h hn rfl;have hrun:(Builtin.append_ #[t,u] ty #[.slice none 0 0,.int kk ((0:Nat):Int)]).run P w= .ok (.slice none 0 0) w:=by
        have hw0:i64.wrap (0:Int)=0:=(by decide);simp[Builtin.append_,run_underlying eJ,run_underlying h2',sizeOf,typeInfo,g1,asInt,asIntOf,hw0]
       replace hrun:(Builtin.append_ #[t,u] ty #[.slice none 0 0,.int kk 0]).run P w= .ok (.slice none 0 0) w:=hrun
       refine⟨.slice none 0 0,w,_,I,.inl (by simp[execOp,resolve,invoke,builtin,<- hops,hrun]),hS,by simpa[dV]using hM,by simp only[VR];exact .inl ⟨by simp[ins],trivial,trivial,trivial⟩⟩
      ·have hrun:=Lib.run_append_nil_zeros (P:=P) w t u ty e info z kk kn eJ h2' g1 g5 n (by omega) (by omega) (by simp only[maxLen]at Gk;omega) (by rw[g4];omega);have hd:=h.drew;have hzs:z.cells.size=ei.size:=(by rw[<- Array.length_toList,g6];exact he.len);have hge:=grownCap_ge w n 0 e;generalize hC:Builtin.zeroCells z.cells n++Builtin.zeroCells z.cells (grownCap w n 0 e -n)=cs at hrun;have hcs:cs.size=grownCap w n 0 e*ei.size:=by
        rw[<- hC];simp only[Array.size_append,size_zeroCells,hzs,<- Nat.add_mul];rw[show n+(grownCap w n 0 e -n)=grownCap w n 0 e by omega]
       obtain⟨hS,hM⟩:=Mem.alloc (i:=cy i) (o:=⟨ei.size,List.replicate n (ei.zero.map cv)⟩) (c:=cs) (e:=e) hd hn (by
        refine bp.zeros ei.zero ei.size he.len (λ v hv=>qa (all_eq_true.1 he.one v hv)) n cs 0 (λ i j hi hj=>?_);have hlt:0+i*ei.size+j<n*ei.size:=by
         have:(i+1)*ei.size<=n*ei.size:=Nat.mul_le_mul_right _ (by omega);rw[Nat.add_mul]at this;omega
        rw[<- hC,Array.getElem?_append_left (by simpa[size_zeroCells,hzs]using hlt),MW _ _ _ (by rw[hzs];exact hlt),hzs,<- g6,Array.getElem?_toList];congr 1;rw[Nat.zero_add,Nat.mul_comm,Nat.mul_add_mod,Nat.mod_eq_of_lt hj])
       refine⟨_,_,_,I,.inl (by simp[execOp,resolve,invoke,builtin,<- hops,hrun];rfl),⟨hS.other,hS.ext,λb hb=>hS.same b hb,hS.inc⟩,hM.u9,?_⟩;simp only[VR];refine .inr ⟨w.heap.size,ei.size,_,_,0,by simp[ins];rfl,rfl,hge,?_,by simp⟩;rw[hcs,Nat.zero_add];simp
    ·cases ha
 ·cases ha
theorem abS(hT:eZ P T)(h:Mem P w0 O0 β I obj w)(hn:β (cy i)=none){o:Oper}{n:Int}{ρ:Operand->AV}{get:Nat->Option aU}{ab:Out}(hg:∀k o,get k=some o->obj k=some o)
 {r:Operand->Value} (hρ:∀x,VR P β w I (ρ x) (r x)) (ha:oZ T i o n ρ get=some ab) (cC:ab.ob):qu P w0 O0 β I obj w i ab ((execOp r o).run P w):=by
 obtain⟨dst,op,ty,aw,after,guard⟩:=o;have val:∀{s:Sem Value}{z:Value},s.run P w= .ok z w->ab.upd=[]->VR P β w I ab.v z->qu P w0 O0 β I obj w i ab ((do pure (.value (<- s)):Sem Next).run P w):=by
  intro s z h1 h2 h3;refine⟨z,w,β,I,.inl (by simp[h1]),Step.refl ..,by rw[h2];exact h,h3⟩
 unfold oZ at ha;split at ha
 ·rename_i Su t x y q heq;simp only at heq;subst heq;have⟨z,h1,h2,h3⟩:=af2 (xo:=x) (yo:=y) hT ha (hρ x) (hρ y);exact val h1 h3 h2
 ·rename_i s d x heq;simp only at heq;subst heq;have⟨z,h1,h2,h3⟩:=ady hT ha (hρ x);exact val h1 h3 h2
 ·rename_i t x j heq;simp only at heq;subst heq;have⟨z,h1,h2,h3⟩:=abR hT ha cC (hρ x) (hρ j);exact val h1 h3 h2
 ·rename_i t x lo hi heq;simp only at heq;subst heq;obtain⟨z,h1,h2,h3⟩:=Uo (oR:=lo.map r) (hiv:=hi.map r) hT ha cC (hρ x) (λ y hy=>by
   cases lo with
   |none=>cases hy
   |some q=>cases hy;exact⟨r q,rfl,hρ q⟩) (λ h=>by cases lo<;>first |rfl |cases h) (λ y hy=>by
   cases hi with
   |none=>cases hy
   |some q=>cases hy;exact⟨r q,rfl,hρ q⟩) (λ h=>by cases hi<;>first |rfl |cases h)
  exact val h1 h3 h2
 ·rename_i b args cV heq;simp only at heq;subst heq;exact Uq hT h hn hg ha cC (by rw[Array.toList_map];exact bj.map hρ _) rfl
 ·cases ha
theorem abT(hT:eZ P T)(h:Mem P w0 O0 β I obj w)(hn:β (cy i)=none){o:Oper}{ae:List Nat}{fr:Operand->AV}{cw:i6}{ρ:Operand->AV}{get:Nat->Option aU}{ab:Out}(hg:∀k o,get k=some o->obj k=some o)
 {r:Operand->Value} (hρ:∀x,VR P β w I (ρ x) (r x)) (ha:JY P T i o ae fr cw ρ get=some ab) (cC:ab.ob):qu P w0 O0 β I obj w i ab ((execOp r o).run P w):=by
 unfold JY at ha;split at ha
 ·cases ha
 rw[ai]at ha;obtain⟨out',h1,h2⟩:=ha;cases h2;have cC:=rC _ cC;have hb:=cC (∀ x∈o.op.operands,(fy P get (ρ x) (fr x)/\∀k∈refs (ρ x),k∈ae)\/fr x=ρ x) (by simp);have hsub:∀k o',bW obj (ae.map λk=>(k,none)) k=some o'->obj k=some o'/\k∉ae:=by
  intro k o' hk;rw[z8]at hk;split at hk
  ·cases hk
  ·exact⟨hk,‹_›⟩
 have hd:=h.drop (bW obj (ae.map λk=>(k,none))) (λ k o hk=>(hsub k o hk).1);obtain⟨_,hM⟩:=hd.below (I':=fR β obj ae I) (w':=w) ⟨rfl,rfl,rfl,aQ _,λ_ _=>rfl⟩ (λ b hb=> .inl hb) (Ox h ae) (λ b k o B hb' e1 e2 e3=>by
  have⟨f1,f2⟩:=hsub k o e1;have⟨a1,_,_⟩:=h.ownB k o B b f1 e2 e3;rcases hb' with h5 |⟨k',o',s',n',g1,g2,g3⟩
  ·exact a1 h5
  ·have:=h.nh k k' o o' b f1 g2 ⟨B,e2,e3⟩ (.at g3);subst this;exact f2 g1) (λ b hb'=>by
  rcases hb' with h5 |⟨k',o',s',n',g1,g2,g3⟩
  ·exact h.up b h5
  ·exact .inr (h.own k' o' b s' n' g2 g3).2.2)
 have hfr:∀x,VR P β w (fR β obj ae I) ((λ x=>open Classical in if x∈o.op.operands then fr x else .undef) x) (r x):=by
  intro x;by_cases hx:x∈o.op.operands
  ·simp only[hx,if_true];rcases hb x hx with ⟨b1,b2⟩ |b1
   ·exact VR.mono (λ k B h=>by simp[mN]at h) (λ _ _=>rfl) (λ _ h=>h) _ _ (fy.sound h ae _ _ _ b2 (fy.weaken hg _ _ b1) (hρ x))
   ·rw[b1];exact VR.mono (λ _ _ h=>h) (λ _ _=>rfl) (λ _ h=> .inl h) _ _ (hρ x)
  ·simp only[hx,if_false,VR]
 rw[Te (ρ':=λx=>open Classical in if x∈o.op.operands then fr x else .undef) (λ x hx=>by simp only[hx,if_true])]at h1;obtain⟨v',w',β',I',k1,k2,k3,k4⟩:=Ta hT hM hn (λ k o' hk=>by
  rw[z8];split at hk
  ·cases hk
  ·rw[aO ‹_›];exact hg k o' hk) hfr h1 (rW _ λp hp=>cC p (by simp[hp]))
 refine⟨v',w',β',I',k1,⟨k2.other,k2.ext,λb hb=>k2.same b (.inl hb),λb hb=>k2.inc b (.inl hb)⟩,?_,k4⟩;have e:bW obj (out'.upd++ae.map λk=>(k,none))=bW (bW obj (ae.map λk=>(k,none))) out'.upd:=funext λk=>tC obj _ _ k;rw[e];exact k3
end
open Go.RowKit Go.MapKept
def Oz:xF->Value->Bool
 | .int a,.int b _=>decide (a=b)
 | .str,.string _=>true
 | .bool,.bool _=>true
 |_,_=>false
def Tf:Value->Value->Option Bool
 | .int k a,.int k' b=>if k=k' then some (a==b)else none
 | .string a,.string b=>some (a.toList==b.toList)
 | .bool a,.bool b=>some (a==b)
 |_,_=>none
def Tg(key:Value):List (List AV)->Option (Option (Nat×AV))
 |[]=>some none
 |[.t (.sc kv),y]::rs=>(Tf key kv).bind λb=>if b then some (some (0,y))else(Tg key rs).map λr=>r.map λp=>(p.1+1,p.2)
 |_=>none
def wc(key:Value)(y':AV):List (List AV)->Option (List (List AV))
 |[]=>some [[.t (.sc key),y']]
 |[.t (.sc kv),y]::rs=>(Tf key kv).bind λb=>if b then some ([.t (.sc key),y']::rs)else(wc key y' rs).map λr=>[.t (.sc kv),y]::r
 |_=>none
def CL:AV->AV
 | .agg cs=> .agg (cs.map wk)
 |x=>wk x
def JZ(T:dy)(i:Nat)(t:TypeId):Option Out:=
 (T t).bind λti=>match ti.k with
 | .map _ _=>some ⟨.mp (cy i),[(cy i,some ⟨0,[]⟩)],[]⟩
 |_=>none
def IF(r:Option (Nat×AV))(z:Option AV):Option AV:=match r with
 |some p=>some p.2
 |none=>z
def Lx(T:dy)(t:TypeId)(x key:AV)(ok:Bool)(get:Nat->Option aU):Option Out:=
 (T t).bind λti=>match ti.k,x,key with
 | .map kt et,.mp k,.t (.sc kv)=>(T kt).bind λki=>(T et).bind λei=>(get k).bind λo=>if Oz ki.k kv=true/\o.sz=o.rows.length then(Tg kv o.rows).bind λr=>
  (IF r (part' ei.agg ei.size ((ei.zero.map cv).map wk))).bind λv=>pv (if ok then .fi [v,.t (.sc (.bool r.isSome))]else v)else none
 |_,_,_=>none
def OA(T:dy)(t:TypeId)(x key y:AV)(get:Nat->Option aU):Option Out:=
 (T t).bind λti=>match ti.k,x,key with
 | .map kt _,.mp k,.t (.sc kv)=>(T kt).bind λki=>(get k).bind λo=>if Oz ki.k kv=true/\o.sz=o.rows.length then(wc kv (CL y) o.rows).bind λrs=>
  some ⟨.undef,[(k,some ⟨rs.length,rs⟩)],[]⟩else none
 |_,_,_=>none
section
variable {P:Program} {T:dy} {w0:World} {O0:jz} {β:Nat->Option cE} {I:Nat->Prop} {obj:Nat->Option aU} {w:World} {i:Nat}
theorem aiD{k:xF}{v:Value}{d:TypeDesc}(h:Oz k v=true)(hd:OF k d):IsKey d v:=by
 unfold Oz at h;split at h
 ·rename_i a b n;have hd:d= .int a:=hd;subst hd;simp only[aT]at h;subst h;simp[IsKey]
 ·have hd:d= .string:=hd;subst hd;simp[IsKey]
 ·have hd:d= .bool:=hd;subst hd;simp[IsKey]
 ·cases h
theorem aaC{d:TypeDesc}{a b:Value}(ha:IsKey d a){r:Bool}(h:Tf a b=some r):Instr.sameNow d a b=some r/\(r=true->a=b)/\IsKey d b:=by
 unfold Tf at h;split at h
 ·rename_i k x k' y;split at h
  ·rename_i hk;subst hk;cases h;cases d<;>simp only[IsKey]at ha ⊢
   all_goals first |exact ha.elim |skip
   subst ha;refine⟨by simp[Instr.sameNow],λhh=>?_,rfl⟩;rw[eq_of_beq hh]
  ·cases h
 ·rename_i x y;cases h;cases d<;>simp only[IsKey]at ha ⊢
  all_goals first |exact ha.elim |skip
  have e:(x==y)=(x.toList==y.toList):=by
   rw[kE,bytes_beq];constructor
   ·rintro rfl;simp
   ·intro hh;have:=eq_of_beq hh;cases x;cases y;simp only[ByteArray.toList_eq]at this;congr 1;exact Array.ext' this
  refine⟨by simp[Instr.sameNow,e],λhh=>?_,trivial⟩;rw[(bytes_beq x y).1 (e ▸ hh)]
 ·rename_i x y;cases h;cases d<;>simp only[IsKey]at ha ⊢
  all_goals first |exact ha.elim |skip
  exact⟨by simp[Instr.sameNow],λhh=>by rw[eq_of_beq hh],trivial⟩
 ·cases h
theorem Ti{d:TypeDesc}{key:Value}(hk:IsKey d key):∀(rows:List (List AV))(es:List MapEntry)(i:Nat)(r:Option (Nat×AV)),cA P β w I rows es->Tg key rows=some r->
 (r=none/\Instr.findNow d key es i=some none)\/∃j y e,r=some (j,y)/\Instr.findNow d key es i=some (some (i+j,e.val))/\es[j]? =some e/\e.key=key/\VR P β w I y e.val
 |[],[],i,r,_,h=>by simp only[Tg,aA]at h;exact .inl ⟨h.symm,rfl⟩
 |row::rows,e::es,i,r,hm,h=>by
  obtain⟨h1,h2⟩:=hm;unfold Tg at h;split at h
  ·rename_i heq;cases heq
  ·rename_i kv y rs heq;injection heq with e1 e2;subst e1;subst e2;simp only[bj,VR,TR]at h1;obtain⟨⟨g1,_⟩,g2,_⟩:=h1;rw[ai]at h;obtain⟨b,h3,h⟩:=h;rw[<- g1]at h3;have⟨q1,q2,_⟩:=aaC hk h3;cases b with
   |true=>
    simp only[if_true,aA]at h;subst h;exact .inr ⟨0,y,e,rfl,by simp[Instr.findNow,q1],rfl,(q2 rfl).symm,g2⟩
   |false=>
    simp only[Bool.false_eq_true,if_false,eU]at h;obtain⟨r',h4,rfl⟩:=h;rcases Ti hk rows es (i+1) r' h2 h4 with ⟨rfl,a2⟩ |⟨j,y',e',rfl,a2,a3,a4,a5⟩
    ·exact .inl ⟨rfl,by simp[Instr.findNow,q1,a2]⟩
    ·exact .inr ⟨j+1,y',e',rfl,by simp only[Instr.findNow,q1,a2];congr 3;omega,by simpa using a3,a4,a5⟩
  ·cases h
 |[],_::_,_,_,hm,_=>hm.elim
 |_::_,[],_,_,hm,_=>hm.elim
theorem Wp{d:TypeDesc}{key v:Value}{y':AV}(hk:IsKey d key)(hv:VR P β w I y' v)(hkv:oneCell key):∀(rows:List (List AV))(es:List MapEntry)(i:Nat)(rs':List (List AV)),cA P β w I rows es->wc key y' rows=some rs'->
 (Instr.findNow d key es i=some none/\∀n,cA P β w I rs' (es++[⟨key,v,n⟩]))\/∃j e,Instr.findNow d key es i=some (some (i+j,e.val))/\es[j]? =some e/\e.key=key/\cA P β w I rs' (es.modify j λe=>{ e with key:=key,val:=v })
 |[],[],i,r,_,h=>by
  simp only[wc,aA]at h;subst h;refine .inl ⟨rfl,λn=>?_⟩;simp only[bO,cA,bj,VR,TR];exact⟨⟨⟨trivial,hkv⟩,hv,trivial⟩,trivial⟩
 |row::rows,e::es,i,r,hm,h=>by
  obtain⟨h1,h2⟩:=hm;unfold wc at h;split at h
  ·rename_i heq;cases heq
  ·rename_i kv y rs heq;injection heq with e1 e2;subst e1;subst e2;have h1':=h1;simp only[bj,VR,TR]at h1;obtain⟨⟨g1,g1'⟩,g2,_⟩:=h1;rw[ai]at h;obtain⟨b,h3,h⟩:=h;rw[<- g1]at h3;have⟨q1,q2,_⟩:=aaC hk h3;cases b with
   |true=>
    simp only[if_true,aA]at h;subst h;refine .inr ⟨0,e,by simp[Instr.findNow,q1],rfl,(q2 rfl).symm,?_⟩;simp only[List.modify_zero_cons,cA,bj,VR,TR];exact⟨⟨⟨trivial,hkv⟩,hv,trivial⟩,h2⟩
   |false=>
    simp only[Bool.false_eq_true,if_false,eU]at h;obtain⟨r',h4,rfl⟩:=h;rcases Wp hk hv hkv rows es (i+1) r' h2 h4 with ⟨a1,a2⟩ |⟨j,e',a1,a2,a3,a4⟩
    ·exact .inl ⟨by simp[Instr.findNow,q1,a1],λn=>⟨h1',a2 n⟩⟩
    ·refine .inr ⟨j+1,e',by simp only[Instr.findNow,q1,a1];congr 3;omega,by simpa using a2,a3,?_⟩;simp only[List.modify_succ_cons,cA];exact⟨h1',a4⟩
  ·cases h
 |[],_::_,_,_,hm,_=>hm.elim
 |_::_,[],_,_,hm,_=>hm.elim
theorem Mem.tD{k:Nat}{o o':aU}{b:Nat}{es:Array MapEntry}{cl:Nat}{w':World}(h:Mem P w0 O0 β I obj w)(hk:obj k=some o)(hβ:β k=some (.mp b))
 (hnew:w'.heap[b]? =some (.map es cl)) (hother:∀b',b'≠b->w'.heap[b']? =w.heap[b']?) (hsize:w'.heap.size=w.heap.size) (hos:w'.os=w.os) (tS:w'.tape=w.tape) (hout:w'.output=w.output)
 (hle:o'.rows.length<=o'.sz) (hr:cA P β w I o'.rows es.toList) (hnd:(es.toList.map (·.born)).Nodup) (hlt':∀e∈es.toList,e.born<cl):
 Same I w w'/\Mem P w0 O0 β I (bW obj [(k,some o')]) w':=by
 obtain⟨PJ,hlt,hO⟩:=h.jj k o b hk ⟨_,hβ,rfl⟩;have hs:Same I w w':=λb' hb=>hother b' (λ e=>PJ (e ▸ hb));have hx:∀(j:Nat)(o1:aU),bW obj [(k,some o')] j=some o1->∃o2,obj j=some o2:=λj o1 h=>by
  simp only[bW]at h;split at h
  ·rename_i e;exact⟨o,by rw[e];exact hk⟩
  ·exact⟨_,h⟩
 refine⟨hs,?_⟩;constructor
 ·intro j oj hj;simp only[bW]at hj;split at hj
  ·rename_i hjk;cases hj;exact⟨.mp b,by rw[hjk];exact hβ,es,cl,hnew,hle,λ_=>cA.mono (λ _ _ h=>h) hs (λ _ h=>h) _ _ hr,hnd,hlt'⟩
  ·rename_i hjk;have⟨B,hB,rI⟩:=h.cH j oj hj;refine⟨B,hB,OR.mono (λ _ _ h=>h) hs (λ _ h=>h) (λ b1 e1=>hother b1 (λ e2=>hjk ?_)) rI⟩;subst e2;exact h.gA j k oj o B _ b1 hj hk hB hβ e1 rfl
 ·intro j j' o1 o2 B1 B2 b1 h1 h2 h3 h4 h5 h6;have⟨p1,q1⟩:=hx j o1 h1;have⟨p2,q2⟩:=hx j' o2 h2;exact h.gA j j' p1 p2 B1 B2 b1 q1 q2 h3 h4 h5 h6
 ·intro j o1 B1 b1 h1 h2 h3;have⟨p1,q1⟩:=hx j o1 h1;have:=h.ownB j p1 B1 b1 q1 h2 h3;rw[hsize];exact this
 ·intro b1 hb1;rw[hsize];exact h.lt b1 hb1
 ·exact h.up
 ·intro b1 hb1 hno;rw[hother b1 (λ e1=>?_)]
  ·exact h.keep b1 hb1 hno
  ·subst e1;rcases hO with hO |hO
   ·exact hno hO
   ·omega
 ·rw[hsize];exact h.le
 ·rw[hos];exact h.os
 ·rw[tS];exact h.tape
 ·rw[hout];exact h.output
 ·exact h.anch
 ·exact h.vars.mono hs (λ _ h=>h)
theorem Mem.BC(h:Mem P w0 O0 β I obj w)(hn:β i=none):
 Step β I w i (ins β i (.mp w.heap.size)) I (w.alloc (.map #[] 0))/\Mem P w0 O0 (ins β i (.mp w.heap.size)) I (bW obj [(i,some ⟨0,[]⟩)]) (w.alloc (.map #[] 0)):=by
 have hS:Step β I w i (ins β i (.mp w.heap.size)) I (w.alloc (.map #[] 0)):=
  ⟨λ k hk=>by simp[ins,io.ne hk],nR hn,Same.alloc h.lt _,λ_ h=>h⟩
 refine⟨hS,?_⟩;constructor
 ·intro k o' hk;simp only[bW]at hk;split at hk
  ·cases hk;rename_i hki;exact⟨.mp w.heap.size,by simp[ins,hki],#[],0,heap_alloc_new w _,aQ _,λ_=>trivial,by simp,by simp⟩
  ·have⟨B,hB,hO⟩:=h.cH k o' hk;exact⟨B,nR hn _ _ hB,OR.mono hS.ext hS.same hS.inc (λ b hb=>ru (h.ownB k o' B b hk hB hb).2.1) hO⟩
 ·intro k k' o1 o2 B B' b h1 h2 h3 h4 h5 h6;simp only[bW]at h1 h2;simp only[ins]at h3 h4;split at h1<;>split at h2
  ·rename_i a b;rw[a,b]
  ·rename_i hki oY;simp only[hki,if_true,aA]at h3;simp only[oY,if_false]at h4;subst h3;injection h5 with h5;have:=(h.ownB k' o2 B' b h2 h4 h6).2.1;omega
  ·rename_i hki oY;simp only[oY,if_true,aA]at h4;simp only[hki,if_false]at h3;subst h4;injection h6 with h6;have:=(h.ownB k o1 B b h1 h3 h5).2.1;omega
  ·rename_i hki oY;simp only[hki,oY,if_false]at h3 h4;exact h.gA k k' o1 o2 B B' b h1 h2 h3 h4 h5 h6
 ·intro k o' B b h1 h2 h3;simp only[bW]at h1;simp only[ins]at h2;split at h1
  ·rename_i hki;simp only[hki,if_true,aA]at h2;subst h2;injection h3 with h3;refine⟨λ hI=>?_,?_,.inr ?_⟩
   ·have:=h.lt b hI;omega
   ·simp;omega
   ·have:=h.le;omega
  ·rename_i hki;simp only[hki,if_false]at h2;have⟨a,b',c'⟩:=h.ownB k o' B b h1 h2 h3;exact⟨a,by simp;omega,c'⟩
 ·intro b hb;have:=h.lt b hb;simp;omega
 ·exact h.up
 ·intro b hb hO;rw[ru (by have:=h.le;omega)];exact h.keep b hb hO
 ·have:=h.le;simp;omega
 ·exact h.os
 ·exact h.tape
 ·exact h.output
 ·intro j B hj;exact nR hn _ _ (h.anch j B hj)
 ·exact h.vars.mono (Same.alloc h.lt _) (λ _ h=>h)
theorem adz{t:TypeId}{ti:np}(ht:k9 P t ti){k e:TypeId}(h:ti.k= .map k e):P.underlying t=some (.map k e):=by
 obtain⟨info,d,z,_,h2,_,_,_,_,_,h8⟩:=ht.ex;rw[h]at h8;have h8:d= .map k e:=h8;rw[h2,h8]
theorem adA{t:TypeId}{ti:np}(ht:k9 P t ti){v:Value}(h:Oz ti.k v=true):∃d,P.underlying t=some d/\IsKey d v:=by
 obtain⟨info,d,z,_,h2,_,_,_,_,_,h8⟩:=ht.ex;exact⟨d,h2,aiD h h8⟩
theorem alX{k:xF}{v:Value}(h:Oz k v=true):oneCell v:=by
 unfold Oz at h;split at h
 ·exact trivial
 ·exact trivial
 ·exact trivial
 ·cases h
theorem alY{t:TypeId}{ti:np}(ht:k9 P t ti){v:AV}(hp:part' ti.agg ti.size ((ti.zero.map cv).map wk)=some v):∃z,(zeroValue t).run P w= .ok z w/\VR P β w I v z:=by
 obtain⟨info,d,z,h1,h2,h3,h4,h5,h6,h7,h8⟩:=ht.ex;refine⟨z,by simp[zeroValue,typeInfo,h1,h5],?_⟩;obtain⟨_,_,g1,g2⟩:=Nk (P:=P) (β:=β) (w:=w) (I:=I) hp (bj.wk _ _ (bj.cv ti.zero));have hf:=ht.form info z h1 h5;cases ha:ti.agg with
 |true=>
  rw[ha]at hf;cases z<;>simp only[sC,Bool.not_true,reduceCtorEq]at hf;rename_i cs;have:=g1 ha;simp only[Value.cells]at h6;rw[<- h6]at this;simpa using this
 |false=>
  rw[ha]at hf;have h1c:oneCell z:=by cases z<;>simp only[sC,reduceCtorEq,Bool.not_false,Bool.not_true,Bool.false_eq_true]at hf<;>trivial
  have⟨u,e1,e2⟩:=g2 ha;rw[cells_one h1c]at h6;simp only at h6;rw[<- h6]at e1;cases e1;exact e2
theorem Wq(h:Mem P w0 O0 β I obj w)(hn:β (cy i)=none){t:TypeId}{ab:Out}(ha:JZ T i t=some ab){r:Operand->Value}
 {dst:Option Tmp} {ty:TypeId} {aw:String} {after:Array Edge} {guard:Option (Nat×Bool)}:qu P w0 O0 β I obj w i ab ((execOp r ⟨dst,.makeMap t none,ty,aw,after,guard⟩).run P w):=by
 unfold JZ at ha;cases hti:T t with
 |none=>simp[hti]at ha
 |some ti=>
  simp only[hti,ah]at ha;split at ha
  ·cases ha;have⟨hS,hM⟩:=Mem.BC h hn;refine⟨.map (some w.heap.size),_,_,I,.inl ?_,hS,hM,?_⟩
   ·simp[execOp,Instr.makeMap]
   ·simp only[VR];exact⟨_,by simp[ins],rfl⟩
  ·cases ha
theorem Zu(hT:eZ P T)(h:Mem P w0 O0 β I obj w){t:TypeId}{x key:AV}{ok:Bool}{get:Nat->Option aU}{ab:Out}(hg:∀k o,get k=some o->obj k=some o){u kv:Value}
 (ha:Lx T t x key ok get=some ab) (hx:VR P β w I x u) (hk:VR P β w I key kv):∃z,(Instr.lookup t u kv ok).run P w= .ok z w/\VR P β w I ab.v z/\ab.upd=[]:=by
 unfold Lx at ha;cases hti:T t with
 |none=>simp[hti]at ha
 |some ti=>
  simp only[hti,ah]at ha;split at ha
  ·rename_i kt et k kv' hk1;rw[ai]at ha;obtain⟨ki,hki,ha⟩:=ha;rw[ai]at ha;obtain⟨ei,ff,ha⟩:=ha;rw[ai]at ha;obtain⟨o,ho,ha⟩:=ha;split at ha
   ·rename_i hc;rw[ai]at ha;obtain⟨r,hr,ha⟩:=ha;rw[ai]at ha;obtain⟨v,hv,ha⟩:=ha;simp only[pv,aA]at ha;subst ha;simp only[VR,TR]at hx hk;obtain⟨b,hβ,rfl⟩:=hx;obtain⟨rfl,_⟩:=hk;have⟨B,hB,hO⟩:=h.cH k o (hg k o ho);rw[hβ]at hB;cases hB;obtain⟨es,cl,g1,g2,g3,g4⟩:=hO;have hu:=adz (hT t ti hti) hk1;have⟨d,hd,hkey⟩:=adA (hT kt ki hki) hc.1;rcases Ti hkey o.rows es.toList 0 r (g3 hc.2) hr with ⟨rfl,a2⟩ |⟨j,y,e,rfl,a2,a3,a4,a5⟩
    ·have⟨z,hz,hzv⟩:=alY (β:=β) (I:=I) (w:=w) (hT et ei ff) hv;cases ok with
     |true=>
      refine⟨.tuple #[z,.bool false],?_,?_,rfl⟩
      ·simp[Instr.lookup,run_underlying hu,MapKept.run_getObj_map g1,run_checkKey hd hkey,run_findKey hd a2,hz,Result.andThen]
      ·simp only[if_true,VR];exact⟨_,rfl,by simp only[bj,VR,TR];exact⟨hzv,⟨rfl,trivial⟩,trivial⟩⟩
     |false=>
      refine⟨z,?_,by simpa using hzv,rfl⟩;simp[Instr.lookup,run_underlying hu,MapKept.run_getObj_map g1,run_checkKey hd hkey,run_findKey hd a2,hz,Result.andThen]
    ·simp only[IF,aA]at hv;subst hv;cases ok with
     |true=>
      refine⟨.tuple #[e.val,.bool true],?_,?_,rfl⟩
      ·simp[Instr.lookup,run_underlying hu,MapKept.run_getObj_map g1,run_checkKey hd hkey,run_findKey hd a2,Result.andThen]
      ·simp only[if_true,VR];exact⟨_,rfl,by simp only[bj,VR,TR];exact⟨a5,⟨rfl,trivial⟩,trivial⟩⟩
     |false=>
      refine⟨e.val,?_,by simpa using a5,rfl⟩;simp[Instr.lookup,run_underlying hu,MapKept.run_getObj_map g1,run_checkKey hd hkey,run_findKey hd a2,Result.andThen]
   ·cases ha
  ·cases ha
theorem anm{x:AV}{v:Value}(h:VR P β w I x v):VR P β w I (CL x) v:=by
 cases x<;>simp only[CL]<;>try exact h.wk
 simp only[VR]at h ⊢;obtain⟨vs,h1,h2⟩:=h;exact⟨vs,h1,bj.wk _ _ h2⟩
theorem abV{d:TypeDesc}{v:Value}(h:IsKey d v):Instr.sameBits 10000 v v=true:=by cases d<;>cases v<;>simp only[IsKey]at h<;>simp_all [Instr.sameBits,bytes_beq]
theorem Zv(hT:eZ P T)(h:Mem P w0 O0 β I obj w){t:TypeId}{x key y:AV}{get:Nat->Option aU}{ab:Out}(hg:∀k o,get k=some o->obj k=some o){u kv v:Value}
 (ha:OA T t x key y get=some ab) (hx:VR P β w I x u) (hk:VR P β w I key kv) (hy:VR P β w I y v):∃w',(Instr.mapUpdate t u kv v).run P w= .ok () w'/\Same I w w'/\Mem P w0 O0 β I (bW obj ab.upd) w'/\ab.v= .undef:=by
 unfold OA at ha;cases hti:T t with
 |none=>simp[hti]at ha
 |some ti=>
  simp only[hti,ah]at ha;split at ha
  ·rename_i kt et k kv' hk1;rw[ai]at ha;obtain⟨ki,hki,ha⟩:=ha;rw[ai]at ha;obtain⟨o,ho,ha⟩:=ha;split at ha
   ·rename_i hc;rw[ai]at ha;obtain⟨rs,hr,ha⟩:=ha;cases ha;simp only[VR,TR]at hx hk;obtain⟨b,hβ,rfl⟩:=hx;obtain⟨hkk,_⟩:=hk;subst hkk;have jn:=hg k o ho;have⟨B,hB,hO⟩:=h.cH k o jn;rw[hβ]at hB;cases hB;obtain⟨es,cl,g1,g2,g3,g4,g5⟩:=hO;have hu:=adz (hT t ti hti) hk1;have⟨d,hd,hkey⟩:=adA (hT kt ki hki) hc.1;have hlt:b<w.heap.size:=(Array.getElem?_eq_some_iff.1 g1).1;rcases Wp hkey (anm hy) (alX hc.1) o.rows es.toList 0 rs (g3 hc.2) hr with ⟨a1,a2⟩ |⟨j,e,a1,a2,a3,a4⟩
    ·obtain⟨k1,k2⟩:=heap_set (o':= .map (es.push ⟨kv,v,cl⟩) (cl+1)) g1
     obtain⟨m1,m2⟩:=h.tD (o':=⟨rs.length,rs⟩) (w':={ w with heap:=w.heap.setIfInBounds b (.map (es.push ⟨kv,v,cl⟩) (cl+1)) }) jn hβ k1 k2 (by simp) rfl rfl rfl (aQ _) (by simpa using a2 cl)
      (by
       rw[Array.toList_push,List.map_append,List.nodup_append];refine⟨g4,by simp,λa ha b hb=>?_⟩;simp only[aC,List.map_nil,aY]at hb;obtain⟨e,he,rfl⟩:=mem_map.1 ha;have:=g5 e he;omega)
      (λ e he=>by
       rw[Array.toList_push,aX]at he;rcases he with he |he
       ·have:=g5 e he;omega
       ·simp only[aY]at he;subst he;exact Nat.lt_succ_self _)
     refine⟨_,?_,m1,m2,rfl⟩;simp[Instr.mapUpdate,run_underlying hu,MapKept.run_getObj_map g1,run_checkKey hd hkey,run_findKey hd a1,run_setObj_map _ g1,Result.andThen]
    ·obtain⟨k1,k2⟩:=heap_set (o':= .map (es.modify j λe=>{ e with key:=kv,val:=v }) cl) g1;have ht:(es.modify j λe=>{ e with key:=kv,val:=v }).toList=es.toList.modify j λe=>{ e with key:=kv,val:=v }:=Array.toList_modify;have hb:(es.toList.modify j λe=>{ e with key:=kv,val:=v }).map (·.born)=es.toList.map (·.born):=by
      apply List.ext_getElem?;intro q;simp only[List.getElem?_map,List.getElem?_modify];split<;>cases es.toList[q]?<;>rfl
     obtain⟨m1,m2⟩:=h.tD (o':=⟨rs.length,rs⟩) (w':={ w with heap:=w.heap.setIfInBounds b (.map (es.modify j λe=>{ e with key:=kv,val:=v }) cl) }) jn hβ k1 k2 (by simp) rfl rfl rfl (aQ _) (by rw[ht];exact a4)
      (by rw[ht,hb];exact g4)
      (λ e he=>by
       rw[ht]at he;have:e.born∈(es.toList.modify j λe=>{ e with key:=kv,val:=v }).map (·.born):=mem_map.2 ⟨e,he,rfl⟩;rw[hb]at this;obtain⟨e',he',hh⟩:=mem_map.1 this;rw[<- hh];exact g5 e' he')
     refine⟨_,?_,m1,m2,rfl⟩;have hold:((es[j]?).map (·.key)).getD kv=kv:=(by rw[<- Array.getElem?_toList,a2];exact a3);have hks:(Instr.keyThatStays kv kv).run P w= .ok kv w:=(by simp[Instr.keyThatStays,abV hkey]);simp only[Instr.mapUpdate,Sem.run_bind,run_underlying hu,MapKept.run_getObj_map g1,run_checkKey hd hkey,run_findKey hd a1,Result.andThen,Nat.zero_add,hold,hks,run_setObj_map _ g1]
   ·cases ha
  ·cases ha
end
def eG(cs:List AV):List (List AV):=cs.map λx=>[x]
def Ws(o:aU)(p n:Nat):List AV:=((o.rows.drop p).take n).flatten
def Gu(T:dy)(t:TypeId)(x:AV)(get:Nat->Option aU):Option Out:=
 (T t).bind λti=>match x with
 | .ptr k row aa=>(get k).bind λo=>if o.sz=1 then(part' ti.agg ti.size (Ws o (row+aa) ti.size)).bind pv else none
 |_=>none
def OC(T:dy)(t:TypeId)(x y:AV)(get:Nat->Option aU):Option Out:=
 (T t).bind λti=>(cellsOf y).bind λcs=>match x with
 | .ptr k row aa=>(get k).bind λo=>if o.sz=1/\cs.length=ti.size/\row+aa+cs.length<=o.rows.length then
  some ⟨.undef,[(k,some ⟨1,o.rows.take (row+aa)++eG cs++o.rows.drop (row+aa+cs.length)⟩)],[]⟩else none
 |_=>none
def Vs(T:dy)(i:Nat)(e:TypeId):Option Out:=
 (T e).bind λti=>some ⟨.ptr (cy i) 0 0,[(cy i,some ⟨1,eG (ti.zero.map cv)⟩)],[]⟩
def LL(i:Nat)(x:AV):Option Out:=
 (cellsOf x).bind λcs=>some ⟨.ptr (cy i) 0 0,[(cy i,some ⟨1,eG cs⟩)],[]⟩
def Vt(T:dy)(t:TypeId)(x:AV)(lo hi:Option AV)(get:Nat->Option aU):Option Out:=
 (T t).bind λti=>match ti.k,x with
 | .arr m e,.ptr k row aa=>(T e).bind λei=>(get k).bind λo=>if o.sz=1/\ei.size=1 then(bnd 0 lo).bind λl=>(bnd m hi).bind λh=>
  k5 (.own k (row+aa+l.toNat) (h.toNat -l.toNat)) (0<=l/\l<=h/\h<=(m:Int)/\row+aa+m<=o.rows.length)else none
 |_,_=>none
def Gv(T:dy):Nat->TypeId->Bool
 | 0,_=>false
 |d+1,t=>match T t with
  |some ti=>match ti.k with
   | .bool=>ti.size==1&&!ti.agg
   | .arr m e=>ti.agg&&match T e with
    |some ei=>ti.size==m*ei.size&&Gv T d e
    |none=>false
   |_=>false
  |none=>false
def tB(b:Bool):AV:= .t (.sc (.bool b))
def HT(T:dy)(op:BinOp)(t:TypeId)(x y:AV)(n:Int):Option Out:=
 (T t).bind λti=>match ti.k,x,y with
 | .arr _ _,.agg xs,.agg ys=>if Gv T 9 t=true/\ti.cmp=[9]then match op with
  | .eql=>k5 (tB (n !=0)) (∃ l1 l2:List Bool,xs=l1.map tB/\ys=l2.map tB/\l1.length=ti.size/\l2.length=ti.size/\(n≠0↔l1=l2))
  | .neq=>k5 (tB (!(n !=0))) (∃ l1 l2:List Bool,xs=l1.map tB/\ys=l2.map tB/\l1.length=ti.size/\l2.length=ti.size/\(n≠0↔l1=l2))
  |_=>none
  else none
 |_,_,_=>none
def lN(T:dy)(i:Nat)(o:Oper)(n:Int)(ρ:Operand->AV)(get:Nat->Option aU):Option Out:=
 match o.op with
 | .load t a=>Gu T t (ρ a) get
 | .store t a x=>OC T t (ρ a) (ρ x) get
 | .alloc e=>Vs T i e
 | .box _ x=>LL i (ρ x)
 | .slice t x lo hi none=>Vt T t (ρ x) (lo.map ρ) (hi.map ρ) get
 | .binOp op t x y _=>HT T op t (ρ x) (ρ y) n
 |_=>none
section
variable {T:dy}
theorem Zw{i:Nat}{o:Oper}{n:Int}{ρ ρ':Operand->AV}{get:Nat->Option aU}(h:∀x∈o.op.operands,ρ x=ρ' x):lN T i o n ρ get=lN T i o n ρ' get:=by
 obtain⟨dst,op,ty,aw,after,guard⟩:=o;cases op<;>simp only[Op.operands]at h<;>simp only[lN]
 case load t a=>rw[h a (by simp)]
 case store t a x=>rw[h a (by simp),h x (by simp)]
 case box e x=>rw[h x (by simp)]
 case binOp a b c d e=>rw[h c (by simp),h d (by simp)]
 case slice t x lo hi mx=>
  have hx:=h x (by simp);cases mx with
  |some m=>rfl
  |none=>
   simp only[hx];cases lo<;>cases hi<;>simp_all
end
section
variable {P:Program} {T:dy} {w0:World} {O0:jz} {β:Nat->Option cE} {I:Nat->Prop} {obj:Nat->Option aU} {w:World} {i:Nat}
theorem rX:∀cs:List AV,(eG cs).flatten=cs
 |[]=>rfl
 |c::cs=>by simp only[eG,aC,List.flatten_cons,List.singleton_append];exact congrArg (c:: ·) (rX cs)
theorem Tj(cs:List AV):∀r∈eG cs,r.length=1:=by
 intro r hr;simp only[eG,mem_map]at hr;obtain⟨x,_,rfl⟩:=hr;rfl
theorem OD(hT:eZ P T)(h:Mem P w0 O0 β I obj w){t:TypeId}{x:AV}{get:Nat->Option aU}{ab:Out}{v:Value}(hg:∀k o,get k=some o->obj k=some o)
 (ha:Gu T t x get=some ab) (hx:VR P β w I x v):∃u,(Instr.loadAt t v).run P w= .ok u w/\VR P β w I ab.v u/\ab.upd=[]:=by
 unfold Gu at ha;cases hti:T t with
 |none=>simp[hti]at ha
 |some ti=>
  have ht:=hT t ti hti;simp only[hti,ah]at ha;cases x<;>simp only[reduceCtorEq]at ha
  case ptr k row aa=>
   cases hk:get k with
   |none=>simp[hk]at ha
   |some o=>
    simp only[hk,ah]at ha;split at ha
    ·rename_i hsz;cases hp:part' ti.agg ti.size (Ws o (row+aa) ti.size)with
     |none=>simp[hp]at ha
     |some u=>
      simp only[hp,ah,pv,aA]at ha;subst ha;simp only[VR]at hx;obtain⟨b,sz,n,h1,rfl⟩:=hx;have⟨B,hB,hO⟩:=h.cH k o (hg k o hk);rw[h1]at hB;cases hB;obtain⟨hs,c,e,hc,_,hO⟩:=hO;rw[hsz]at hs;subst hs;have h5:=bp.take ti.size _ _ _ _ (bp.drop (row+aa) _ _ _ _ hO);obtain⟨l,g1,g2,g3,g4,g5⟩:=bp.list _ _ _ _ h5;obtain⟨z,hz,hz2⟩:=Aj ht (b:=b) (o:=n.s+row*1+aa) hp g1 (λ j u hj=>by
       have:=g5 j u hj;rw[Nat.mul_one,<- Nat.add_assoc]at this;rw[Nat.mul_one];simp[World.cell?,hc,this])
      exact⟨z,by simp[Instr.loadAt,Instr.sureAddr]at hz ⊢;exact hz,hz2,rfl⟩
    ·cases ha
theorem Zx(hT:eZ P T)(h:Mem P w0 O0 β I obj w){t:TypeId}{x y:AV}{get:Nat->Option aU}{ab:Out}{v u:Value}(hg:∀k o,get k=some o->obj k=some o)
 (ha:OC T t x y get=some ab) (hx:VR P β w I x v) (hy:VR P β w I y u):
 ∃w',(Instr.storeAt t v u).run P w= .ok () w'/\Same I w w'/\Mem P w0 O0 β I (bW obj ab.upd) w'/\ab.v= .undef:=by
 unfold OC at ha;cases hti:T t with
 |none=>simp[hti]at ha
 |some ti=>
  have ht:=hT t ti hti;simp only[hti,ah]at ha;cases hcs:cellsOf y with
  |none=>simp[hcs]at ha
  |some cs=>
   simp only[hcs,ah]at ha;have⟨hv1,hv2⟩:=rz hcs hy;cases x<;>simp only[reduceCtorEq]at ha
   case ptr k row aa=>
    cases hk:get k with
    |none=>simp[hk]at ha
    |some o=>
     simp only[hk,ah]at ha;split at ha
     ·rename_i hh;obtain⟨hsz,hlen,hfit⟩:=hh;cases ha;simp only[VR]at hx;obtain⟨b,sz,n,hβ,rfl⟩:=hx;have⟨B,hB,hO⟩:=h.cH k o (hg k o hk);rw[hβ]at hB;cases hB;obtain⟨hs,c,e,hc,hn,hO⟩:=hO;rw[hsz]at hs;subst hs;obtain⟨ol,o1,o2,o3,o4,o5⟩:=bp.list _ _ _ _ hO;have hvl:=bj.length _ _ hv1;have hol:ol.length=o.rows.length:=(by rw[o3,Nat.mul_one]);have hcsz:n.s+ol.length<=c.size:=by
       by_cases h0:ol.length=0
       ·have:=n.h;omega
       ·have:=o5 (ol.length -1) _ (dI (by omega));have:=(Array.getElem?_eq_some_iff.1 this).1;omega
      generalize hp:row+aa=p at*;have hpp:n.s+row*1+aa=n.s+p:=(by omega);rw[hpp];have hst:=run_storeCells_at P b (n.s+p) e u.cells.toList 0 c w hc (by omega) (λ u hu=>by
       have:=hv2 u hu;cases u<;>first |rfl |exact this.elim)
      simp only[Nat.add_zero]at hst;generalize hc':(List.take (n.s+p) c.toList++u.cells.toList++List.drop (n.s+p+u.cells.toList.length) c.toList).toArray=c' at hst;have hsize:c'.size=c.size:=(by rw[<- hc'];simp[length_take,length_drop];simp at hvl;omega);obtain⟨hS,hM⟩:=Mem.write (o':=⟨1,o.rows.take p++eG cs++o.rows.drop (p+cs.length)⟩) h (hg k o hk) hβ (c':=c') (e:=e) (setRow_heap w b c c' e (0,0) hc) (λ b' hb=>setRow_other w b b' c' hb) (by simp) rfl rfl rfl rfl (by omega) (by
       have hfl:(o.rows.take p++eG cs++o.rows.drop (p+cs.length)).flatten=(o.rows.flatten.take p++cs)++o.rows.flatten.drop (p+cs.length):=by
        have one:∀(n:Nat) (rs:List (List AV)),(∀ r∈rs,r.length=1)->(rs.take n).flatten=rs.flatten.take n/\(rs.drop n).flatten=rs.flatten.drop n:=by
         intro n
         induction n with
         |zero=>intro rs _;simp
         |succ n ih=>
          intro rs hrs;cases rs with
          |nil=>simp
          |cons r rs=>
           have hr:=hrs r (by simp);obtain⟨i1,i2⟩:=ih rs (λ r h=>hrs r (by simp[h]))
           match r,hr with
           |[x],_=>simp[i1,i2]
        simp only[List.flatten_append,rX,(one _ _ o4).1,(one _ _ o4).2]
       refine pJ _ _ _ 1 (ol.take p++u.cells.toList++ol.drop (p+cs.length)) (λ r hr=>?_) ?_ (λ z hz=>?_) (λ j z hj=>?_)
       ·rcases aX.1 hr with hr |hr
        ·rcases aX.1 hr with hr |hr
         ·exact o4 r (List.mem_of_mem_take hr)
         ·exact Tj cs r hr
        ·exact o4 r (List.mem_of_mem_drop hr)
       ·rw[hfl];exact bj.append _ _ _ _ (bj.append _ _ _ _ (bj.take _ _ _ o1) hv1) (bj.drop _ _ _ o1)
       ·rcases aX.1 hz with hz |hz
        ·rcases aX.1 hz with hz |hz
         ·exact o2 z (List.mem_of_mem_take hz)
         ·exact hv2 z hz
        ·exact o2 z (List.mem_of_mem_drop hz)
       ·rw[<- hc',List.getElem?_toArray];have e1:(ol.take p).length=p:=(by simp[length_take];omega);have e2:(c.toList.take (n.s+p)).length=n.s+p:=(by simp[length_take];omega);rw[aK]at hj ⊢;by_cases hjp:j<p
        ·rw[List.getElem?_append_left (by omega),List.getElem?_take,aP hjp]at hj;rw[List.getElem?_append_left (by omega),List.getElem?_take,aP (by omega),Array.getElem?_toList];exact o5 j z hj
        ·rw[iK (by omega),e1]at hj;rw[iK (by omega),e2,show n.s+j -(n.s+p)=j -p by omega];by_cases hj2:j -p<u.cells.toList.length
         ·rw[List.getElem?_append_left hj2]at hj ⊢;exact hj
         ·rw[iK (by omega),List.getElem?_drop]at hj;rw[iK (by omega),List.getElem?_drop,Array.getElem?_toList];have:=o5 _ z hj;rw[show n.s+p+u.cells.toList.length+(j -p -u.cells.toList.length)=n.s+(p+cs.length+(j -p -u.cells.toList.length))by omega];exact this)
      refine⟨w.setRow b c',?_,hS,hM,rfl⟩;have:(storeVar t ⟨b,n.s+p,none⟩ u).run P w= .ok () (w.setRow b c'):=by
       unfold storeVar;simp only[Sem.run_bind,ht.size (w:=w),Result.andThen_ok];rw[aO (by rw[<- Array.length_toList];omega)];simp only[hst]
      simp[Instr.storeAt,Instr.sureAddr]at this ⊢;exact this
     ·cases ha
theorem MX(h:Mem P w0 O0 β I obj w)(hn:β (cy i)=none){e:TypeId}{v:Value}{cs:List AV}(hcs:bj P β w I cs v.cells.toList)(h1:∀u∈v.cells.toList,oneCell u):
 ∃w' β',(newVar e v).run P w= .ok ⟨w.heap.size,0,none⟩ w'/\Step β I w (cy i) β' I w'/\Mem P w0 O0 β' I (bW obj [(cy i,some ⟨1,eG cs⟩)]) w'/\VR P β' w' I (.ptr (cy i) 0 0) (.pointer (some ⟨w.heap.size,0,none⟩)):=by
 obtain⟨hS,hM⟩:=Mem.alloc (o:=⟨1,eG cs⟩) (c:=v.cells) (e:=e) h hn (pJ _ _ 0 1 v.cells.toList (Tj cs) (by rw[rX];exact hcs) h1 (λ j u hj=>by simpa using hj));refine⟨_,_,?_,hS,hM,?_⟩
 ·simp only[newVar,newRow,Sem.run_bind,run_newObj,Result.andThen_ok,Sem.run_pure];rfl
 ·simp only[VR];exact⟨w.heap.size,1,uv v.cells.size,by simp[ins],by simp⟩
theorem Zy(hT:eZ P T)(h:Mem P w0 O0 β I obj w)(hn:β (cy i)=none){e:TypeId}{ab:Out}(ha:Vs T i e=some ab):
 ∃u w' β',(Instr.alloc e true (.tuple #[])).run P w= .ok u w'/\Step β I w (cy i) β' I w'/\Mem P w0 O0 β' I (bW obj ab.upd) w'/\VR P β' w' I ab.v u:=by
 unfold Vs at ha;cases hti:T e with
 |none=>simp[hti]at ha
 |some ti=>
  have ht:=hT e ti hti;simp only[hti,ah,aA]at ha;subst ha;have⟨z,hz,hz2⟩:=ht.zeroV (w:=w);obtain⟨w',β',h1,h2,h3,h4⟩:=MX (i:=i) (e:=e) (v:=z) (cs:=ti.zero.map cv) h hn (by rw[hz2];exact bj.cv _) (λ u hu=>qa (all_eq_true.1 ht.one u (hz2 ▸ hu)));exact⟨_,w',β',by simp[Instr.alloc,hz,h1],h2,h3,h4⟩
theorem adB(h:Mem P w0 O0 β I obj w)(hn:β (cy i)=none){e:TypeId}{x:AV}{v:Value}{ab:Out}(ha:LL i x=some ab)(hx:VR P β w I x v):
 ∃u w' β',(Instr.box e v).run P w= .ok u w'/\Step β I w (cy i) β' I w'/\Mem P w0 O0 β' I (bW obj ab.upd) w'/\VR P β' w' I ab.v u:=by
 unfold LL at ha;cases hcs:cellsOf x with
 |none=>simp[hcs]at ha
 |some cs=>
  simp only[hcs,ah,aA]at ha;subst ha;have⟨hv1,hv2⟩:=rz hcs hx;have⟨w',β',h1,h2,h3,h4⟩:=MX (i:=i) (e:=e) h hn hv1 hv2;exact⟨_,w',β',by simp[Instr.box,h1],h2,h3,h4⟩
theorem Q5{oR hiv:Option Value}{l hh:Int}{len:Nat}(h1:(oR=none/\l=0)\/∃k,oR=some (.int k l))(h2:(hiv=none/\hh=(len:Int))\/∃k,hiv=some (.int k hh))(g0:0<=l)(g1:l<=hh)(g2:hh<=(len:Int)):
 (Instr.sliceBounds false len len oR hiv none).run P w= .ok (l.toNat,hh.toNat,len) w:=by
 have hb:∀(k:IntKind) (n:Int) (y:Nat) ao,0<=n->n<=(y:Int)->(Instr.sliceBound (.int k n) y ao).run P w= .ok n.toNat w:=λk n y ao a b=>by simp[Instr.sliceBound,asIntOf,a,b]
 rcases h1 with ⟨rfl,rfl⟩ |⟨k,rfl⟩<;>rcases h2 with ⟨rfl,rfl⟩ |⟨k',rfl⟩
 ·simp[Instr.sliceBounds]
 ·simp[Instr.sliceBounds,hb k' hh len _ (by omega) g2]
 ·simp[Instr.sliceBounds,hb k l len _ g0 g1]
 ·have h3:=λao=>hb k l hh.toNat ao g0 (by omega);simp[Instr.sliceBounds,hb k' hh len _ (by omega) g2,h3]
theorem Zz(hT:eZ P T)(h:Mem P w0 O0 β I obj w){t:TypeId}{x:AV}{lo hi:Option AV}{get:Nat->Option aU}{ab:Out}{v:Value}{oR hiv:Option Value}(hg:∀k o,get k=some o->obj k=some o)
 (ha:Vt T t x lo hi get=some ab) (cC:ab.ob) (hx:VR P β w I x v) (hlo:∀x,lo=some x->∃v,oR=some v/\VR P β w I x v) (hlo0:lo=none->oR=none) (hhi:∀x,hi=some x->∃v,hiv=some v/\VR P β w I x v) (hhi0:hi=none->hiv=none):
 ∃u,(Instr.sliceAt t v oR hiv none).run P w= .ok u w/\VR P β w I ab.v u/\ab.upd=[]:=by
 unfold Vt at ha;cases hti:T t with
 |none=>simp[hti]at ha
 |some ti=>
  have ht:=hT t ti hti;simp only[hti,ah]at ha;split at ha
  ·rename_i m e k row aa hkd;cases ff:T e with
   |none=>simp[ff]at ha
   |some ei=>
    have he:=hT e ei ff;cases hk:get k with
    |none=>simp[ff,hk]at ha
    |some o=>
     simp only[ff,hk,ah]at ha;split at ha
     ·rename_i hsz;cases hl:bnd 0 lo with
      |none=>simp[hl]at ha
      |some l=>
       cases hh:bnd (m:Int) hi with
       |none=>simp[hl,hh]at ha
       |some r=>
        simp only[hl,hh,ah,k5,aA]at ha;subst ha;have cC:0<=l/\l<=r/\r<=(m:Int)/\row+aa+m<=o.rows.length:=cC;obtain⟨q1,q2,q3,q4⟩:=cC;simp only[VR]at hx;obtain⟨b,sz,n,hβ,rfl⟩:=hx;have⟨B,hB,hO⟩:=h.cH k o (hg k o hk);rw[hβ]at hB;cases hB;obtain⟨hs,c,ce,hc,hn,hO⟩:=hO;rw[hsz.1]at hs;subst hs;obtain⟨ol,o1,o2,o3,o4,o5⟩:=bp.list _ _ _ _ hO;have hcsz:n.s+o.rows.length<=n.m:=by
         by_cases h0:o.rows.length=0
         ·have:=n.h;omega
         ·have:=o5 (ol.length -1) _ (dI (by omega));have:=(Array.getElem?_eq_some_iff.1 this).1;omega
        have hb:=Q5 (P:=P) (w:=w) (len:=m) (zZ hl hlo hlo0) (zZ hh hhi hhi0) q1 q2 q3;refine⟨.slice (some (if m=l.toNat then⟨b,n.s+row*1+aa,none⟩else(⟨b,n.s+row*1+aa,none⟩:Addr).add (l.toNat*ei.size))) (r.toNat -l.toNat) (m -l.toNat),?_,?_,rfl⟩
        ·simp only[Instr.sliceAt,Sem.run_bind,run_underlying (EZ ht hkd),Result.andThen_ok,Instr.sureAddr,Sem.run_pure,hb,he.size (w:=w)]
        ·simp only[VR];by_cases hml:m=l.toNat
         ·rw[aP hml];exact .inr ⟨b,1,n,m -l.toNat,n.s+row*1+aa,hβ,rfl,by omega,by omega,λh=>by omega⟩
         ·rw[aO hml];exact .inr ⟨b,1,n,m -l.toNat,n.s+row*1+aa+l.toNat*ei.size,hβ,by rw[addr_add],by omega,by omega,λ_=>by rw[hsz.2];omega⟩
     ·cases ha
  ·cases ha
def bV(agg:Bool)(xs:List Bool):Value:=if agg then .agg (xs.map Value.bool).toArray else .bool (xs.headD false)
def chunk{α:Type}(s i:Nat)(xs:List α):List α:=(xs.drop (i*s)).take s
theorem aiE{α:Type}{s m:Nat}{xs ys:List α}(hx:xs.length=m*s)(hy:ys.length=m*s)(h:∀i,i<m->chunk s i xs=chunk s i ys):xs=ys:=by
 apply List.ext_getElem?;intro j;by_cases hj:j<m*s
 ·have hs:0<s:=Nat.pos_of_ne_zero λe=>by subst e;simp at hj
  have h1:j/s<m:=(Nat.div_lt_iff_lt_mul hs).2 hj;have h2:=congrArg (·[j%s]?) (h _ h1);have h3:=Nat.mod_lt j hs;have h4:j/s*s+j%s=j:=by rw[Nat.mul_comm];exact Nat.div_add_mod j s
  simp only[chunk,List.getElem?_take,aP h3,List.getElem?_drop,h4]at h2;exact h2
 ·rw[List.getElem?_eq_none (by omega),List.getElem?_eq_none (by omega)]
theorem Wt{e:TypeId}{ei:np}(he:k9 P e ei)(hf:ei.agg=false->ei.size=1){xs:List Bool}{i m:Nat}(hi:i<m)(hl:xs.length=m*ei.size):
 (part e (xs.map Value.bool).toArray (i*ei.size)).run P w= .ok (bV ei.agg (chunk ei.size i xs)) w/\(chunk ei.size i xs).length=ei.size:=by
 have hle:(i+1)*ei.size<=m*ei.size:=Nat.mul_le_mul_right _ (by omega);rw[Nat.add_mul,Nat.one_mul]at hle;have hc:(chunk ei.size i xs).length=ei.size:=by simp only[chunk,length_take,length_drop];omega
 refine⟨?_,hc⟩;unfold part;simp only[Sem.run_bind,he.agg (w:=w),Result.andThen_ok];cases hag:ei.agg with
 |true=>
  simp only[if_true,Sem.run_bind,he.size (w:=w),Result.andThen_ok,Sem.run_pure,bV];congr 2;apply Array.ext';simp[chunk,List.extract_eq_take_drop,List.map_take,List.map_drop]
 |false=>
  have h1:=hf hag;simp only[Bool.false_eq_true,if_false,bV];have h2:i*ei.size<xs.length:=by omega
  have h3:chunk ei.size i xs=[xs[i*ei.size]]:=by
   simp only[chunk];rw[List.drop_eq_getElem_cons h2]
   conv=>lhs;arg 1;rw[h1]
   rfl
  rw[h3];simp[h2]
theorem Wu(hT:eZ P T):∀(d:Nat)(t:TypeId)(ti:np),T t=some ti->Gv T d t=true->(ti.agg=false->ti.size=1)/\∀(D:Nat),d<=D->∀xs ys:List Bool,xs.length=ti.size->ys.length=ti.size->
 (Op.equalIn D t (bV ti.agg xs) (bV ti.agg ys)).run P w= .ok (decide (xs=ys)) w
 | 0,_,_,_,h=>by simp[Gv]at h
 |d+1,t,ti,hti,h=>by
  have ht:=hT t ti hti;simp only[Gv,hti]at h;split at h
  ·rename_i hk;simp only[aJ,beq_iff_eq,Bool.not_eq_true']at h;refine⟨λ _=>h.1,λD hD xs ys hx hy=>?_⟩;obtain⟨D,rfl⟩:∃D',D=D'+1:=⟨D -1,by omega⟩;obtain⟨info,dd,z,g1,g2,g3,g4,g5,g6,g7,g8⟩:=ht.ex;rw[hk]at g8;have g8:dd= .bool:=g8;subst g8;rw[h.1]at hx hy
   match xs,ys,hx,hy with
   |[a],[b],_,_=>
    rw[h.2];simp only[bV,Bool.false_eq_true,if_false,List.headD_cons];rw[run_equalIn_bool w D t a b g2];cases a<;>cases b<;>rfl
  ·rename_i m e hk;simp only[aJ]at h;obtain⟨hag,h⟩:=h;refine⟨λ hf=>by rw[hag]at hf;(cases hf),λD hD xs ys hx hy=>?_⟩;obtain⟨D,rfl⟩:∃D',D=D'+1:=⟨D -1,by omega⟩;cases ff:T e with
   |none=>rw[ff]at h;cases h
   |some ei=>
    rw[ff]at h;simp only[aJ,beq_iff_eq]at h;have he:=hT e ei ff;have⟨hf,ih⟩:=Wu hT d e ei ff h.2;obtain⟨info,dd,z,g1,g2,g3,g4,g5,g6,g7,g8⟩:=he.ex;have hce:P.cellsOf e=ei.size:=(by simp[Program.cellsOf,g1,g3]);rw[h.1]at hx hy;rw[hag];simp only[bV,if_true];rw[run_equalIn_array w D _ _ (EZ ht hk) g1,hce];have items:∀is:List Nat,(∀ i∈is,i<m)->(Op.eqItems D e ei.size (xs.map Value.bool).toArray (ys.map Value.bool).toArray is).run P w= .ok (decide (∀ i∈is,chunk ei.size i xs=chunk ei.size i ys)) w:=by
     intro is
     induction is with
     |nil=>intro _;simp[Op.eqItems]
     |cons i is ihh=>
      intro hi;obtain⟨p1,p2⟩:=Wt (w:=w) he hf (hi i (by simp)) hx;obtain⟨q1,q2⟩:=Wt (w:=w) he hf (hi i (by simp)) hy;simp only[Op.eqItems,Sem.run_bind,p1,q1,Result.andThen_ok,ih D (by omega) _ _ p2 q2];by_cases hcc:chunk ei.size i xs=chunk ei.size i ys
      ·simp only[hcc,decide_true,Bool.not_true,Bool.false_eq_true,if_false];rw[ihh (λ j hj=>hi j (by simp[hj]))];simp[hcc]
      ·simp[hcc]
    rw[items _ (λ i hi=>List.mem_range.1 hi)];congr 1;rw[decide_eq_decide];exact⟨λ hh=>aiE hx hy (λ i hi=>hh i (List.mem_range.2 hi)),λe _ _=>by rw[e]⟩
  ·cases h
theorem Q6:∀(l:List Bool)(vs:List Value),bj P β w I (l.map tB) vs->vs=l.map Value.bool
 |[],[],_=>rfl
 |b::l,v::vs,h=>by
  simp only[aC,bj,tB,VR,TR]at h;rw[h.1.1,Q6 l vs h.2];rfl
 |[],_::_,h=>by simp[bj]at h
 |_::_,[],h=>by simp[bj]at h
theorem af3(hT:eZ P T){op:BinOp}{t:TypeId}{x y:AV}{n:Int}{xo yo:Operand}{u v:Value}{ab:Out}(ha:HT T op t x y n=some ab)(cC:ab.ob)(hx:VR P β w I x u)(hy:VR P β w I y v):
 ∃z,(do eqGuard op t xo yo u v;binOp op t u v:Sem Value).run P w= .ok z w/\VR P β w I ab.v z/\ab.upd=[]:=by
 unfold HT at ha;cases hti:T t with
 |none=>simp[hti]at ha
 |some ti=>
  have ht:=hT t ti hti;simp only[hti,ah]at ha;split at ha
  ·rename_i m e xs ys hk;split at ha
   ·rename_i hb;have hgt:P.eqGuardType P.depth t=false:=by
     rcases ht.cmp (by rw[hb.2];simp)with ⟨fa,h1,_⟩ |⟨_,h⟩
     ·rw[EZ ht hk]at h1;injection h1 with h1;cases h1
     ·exact h
    have hagg:ti.agg=true:=by
     have:=hb.1;simp only[Gv,hti,hk,aJ]at this;exact this.1
    simp only[VR]at hx hy;obtain⟨us,rfl,ut⟩:=hx;obtain⟨vs,rfl,hvs⟩:=hy;have key:(∃ l1 l2:List Bool,xs=l1.map tB/\ys=l2.map tB/\l1.length=ti.size/\l2.length=ti.size/\(n≠0↔l1=l2))->(Op.equalIn 10000 t (.agg us) (.agg vs)).run P w= .ok (n !=0) w:=by
     rintro⟨l1,l2,rfl,rfl,e1,e2,e3⟩;have h1:=Q6 _ _ ut;have h2:=Q6 _ _ hvs;have:=(Wu (w:=w) hT 9 t ti hti hb.1).2 10000 (by omega) l1 l2 e1 e2;rw[hagg]at this;simp only[bV,if_true,<- h1,<- h2,Array.toArray_toList]at this;rw[this];congr 1;by_cases hn:n=0
     ·simp only[hn,ne_eq,not_true_eq_false,false_iff]at e3;simp[hn,e3]
     ·simp only[ne_eq,hn,not_false_eq_true,true_iff]at e3;simp[hn,e3]
    have hgd:∀op,(eqGuard op t xo yo (.agg us) (.agg vs)).run P w= .ok () w:=λop=>run_eqGuard_agg w op t xo yo us vs hgt;cases op<;>simp only[k5,aA,reduceCtorEq]at ha<;>subst ha
    ·have:=key cC;exact⟨.bool (n !=0),by simp[hgd,run_eql_struct,this],by simp only[tB,VR,TR];exact⟨trivial,trivial⟩,rfl⟩
    ·have:=key cC;exact⟨.bool (!(n !=0)),by simp[hgd,run_neq_struct,this],by simp only[tB,VR,TR];exact⟨trivial,trivial⟩,rfl⟩
   ·cases ha
  ·cases ha
theorem ZA(hT:eZ P T)(h:Mem P w0 O0 β I obj w)(hn:β (cy i)=none){o:Oper}{n:Int}{ρ:Operand->AV}{get:Nat->Option aU}{ab:Out}(hg:∀k o,get k=some o->obj k=some o)
 {r:Operand->Value} (hρ:∀x,VR P β w I (ρ x) (r x)) (ha:lN T i o n ρ get=some ab) (cC:ab.ob):qu P w0 O0 β I obj w i ab ((execOp r o).run P w):=by
 obtain⟨dst,op,ty,aw,after,guard⟩:=o;have val:∀{s:Sem Value}{z:Value},s.run P w= .ok z w->ab.upd=[]->VR P β w I ab.v z->qu P w0 O0 β I obj w i ab ((do pure (.value (<- s)):Sem Next).run P w):=by
  intro s z h1 h2 h3;refine⟨z,w,β,I,.inl (by simp[h1]),Step.refl ..,by rw[h2];exact h,h3⟩
 unfold lN at ha;split at ha
 ·rename_i t a heq;simp only at heq;subst heq;have⟨z,h1,h2,h3⟩:=OD hT h hg ha (hρ a);exact val h1 h3 h2
 ·rename_i t a x heq;simp only at heq;subst heq;have⟨w',h1,h2,h3,h4⟩:=Zx hT h hg ha (hρ a) (hρ x);exact⟨undef,w',β,I,.inr ⟨by simp[execOp,h1],rfl⟩,⟨λ _ _=>rfl,λ_ _ h=>h,h2,λ_ h=>h⟩,h3,by rw[h4];simp[VR]⟩
 ·rename_i e heq;simp only at heq;subst heq;have⟨u,w',β',h1,h2,h3,h4⟩:=Zy hT h hn ha;exact⟨u,w',β',I,.inl (by simp[execOp,h1]),h2,h3,h4⟩
 ·rename_i e x heq;simp only at heq;subst heq;have⟨u,w',β',h1,h2,h3,h4⟩:=adB (e:=e) h hn ha (hρ x);exact⟨u,w',β',I,.inl (by simp[execOp,h1]),h2,h3,h4⟩
 ·rename_i t x lo hi heq;simp only at heq;subst heq;obtain⟨z,h1,h2,h3⟩:=Zz (oR:=lo.map r) (hiv:=hi.map r) hT h hg ha cC (hρ x) (λ y hy=>by
   cases lo with
   |none=>cases hy
   |some q=>cases hy;exact⟨r q,rfl,hρ q⟩) (λ h=>by cases lo<;>first |rfl |cases h) (λ y hy=>by
   cases hi with
   |none=>cases hy
   |some q=>cases hy;exact⟨r q,rfl,hρ q⟩) (λ h=>by cases hi<;>first |rfl |cases h)
  exact val h1 h3 h2
 ·rename_i Su t x y q heq;simp only at heq;subst heq;have⟨z,h1,h2,h3⟩:=af3 (xo:=x) (yo:=y) hT ha cC (hρ x) (hρ y);exact val h1 h3 h2
 ·cases ha
end
def If(T:dy)(i:Nat)(t:TypeId)(l c:AV):Option Out:=
 (T t).bind λti=>match ti.k,l,c with
 | .slice e,.t (.sc (.int _ n)),.t (.sc (.int _ m))=>(T e).bind λei=>
  some ⟨.own (cy i) 0 n.toNat,[(cy i,some ⟨ei.size,dV (List.replicate n.toNat (ei.zero.map cv))⟩)],[0<=n/\n<=m/\m.toNat*ei.bytes<=140737488355328/\m.toNat<=maxLen/\0<ei.size]⟩
 |_,_,_=>none
def Q7(x:AV):Option Out:=
 match x with
 | .ptr k r f=>pv (.ptr k r f)
 | .eo r f=>pv (.eo r f)
 |_=>none
def DG:Op->Bool
 | .nilCheck _=>true
 | .makeSlice _ _ _=>true
 | .makeMap _ none=>true
 | .lookup _ _ _ _=>true
 | .mapUpdate _ _ _ _=>true
 |_=>false
def Gw(T:dy)(i:Nat)(o:Oper)(_n:Int)(ρ:Operand->AV)(get:Nat->Option aU):Option Out:=
 match o.op with
 | .nilCheck x=>Q7 (ρ x)
 | .makeSlice t l c=>If T i t (ρ l) (ρ c)
 | .makeMap t none=>JZ T i t
 | .lookup t m x ok=>Lx T t (ρ m) (ρ x) ok get
 | .mapUpdate t m x v=>OA T t (ρ m) (ρ x) (ρ v) get
 |_=>none
def qb(T:dy)(i:Nat)(o:Oper)(n:Int)(ρ:Operand->AV)(get:Nat->Option aU):Option Out:=
 match (bif DG o.op then Gw T i o n ρ get else oZ T i o n ρ get)with
 |some ab=>some ab
 |none=>lN T i o n ρ get
section
variable {T:dy}
theorem ZB{i:Nat}{o:Oper}{n:Int}{ρ ρ':Operand->AV}{get:Nat->Option aU}(h:∀x∈o.op.operands,ρ x=ρ' x):Gw T i o n ρ get=Gw T i o n ρ' get:=by
 obtain⟨dst,op,ty,aw,after,guard⟩:=o;cases op<;>simp only[Op.operands]at h<;>simp only[Gw]
 case nilCheck x=>rw[h x (by simp)]
 case makeSlice t l c=>rw[h l (by simp),h c (by simp)]
 case makeMap t r=>cases r<;>rfl
 case lookup t m x ok=>rw[h m (by simp),h x (by simp)]
 case mapUpdate t m x v=>rw[h m (by simp),h x (by simp),h v (by simp)]
theorem ZC{i:Nat}{o:Oper}{n:Int}{ρ ρ':Operand->AV}{get:Nat->Option aU}(h:∀x∈o.op.operands,ρ x=ρ' x):qb T i o n ρ get=qb T i o n ρ' get:=by
 unfold qb;rw[abP h,ZB h,Zw h]
end
section
variable {P:Program} {T:dy} {w0:World} {O0:jz} {β:Nat->Option cE} {I:Nat->Prop} {obj:Nat->Option aU} {w:World} {i:Nat}
theorem ZE(z:Array Value)(n j:Nat)(h:j<n):(madeCells z n)[j]? =some (z[j%z.size]!):=by simp[madeCells,Array.getElem?_map,h]
theorem adD(hT:eZ P T)(h:Mem P w0 O0 β I obj w)(hn:β (cy i)=none){t:TypeId}{l c:AV}{u v:Value}{ab:Out}(ha:If T i t l c=some ab)(cC:ab.ob)(hl:VR P β w I l u)(hc:VR P β w I c v)
 {r:Operand->Value} {x y:Operand} (hu:r x=u) (hv:r y=v) {dst:Option Tmp} {ty:TypeId} {aw:String} {after:Array Edge} {guard:Option (Nat×Bool)}:
 qu P w0 O0 β I obj w i ab ((execOp r ⟨dst,.makeSlice t x y,ty,aw,after,guard⟩).run P w):=by
 unfold If at ha;cases hti:T t with
 |none=>simp[hti]at ha
 |some ti=>
  simp only[hti,ah]at ha;split at ha
  ·rename_i e kl n kc m hkd;cases ff:T e with
   |none=>simp[ff]at ha
   |some ei=>
    simp only[ff,ah,aA]at ha;subst ha;obtain⟨n0,nm,m47,Gk,mpos⟩:=cC;simp only[VR,TR]at hl hc;obtain⟨rfl,_⟩:=hl;obtain⟨rfl,_⟩:=hc;have he:=hT e ei ff;have eJ:=iy (hT t ti hti) hkd;obtain⟨info,d,z,g1,g2,g3,g4,g5,g6,g7,g8⟩:=he.ex;obtain⟨n,rfl⟩:∃n':Nat,n=(n':Int):=⟨n.toNat,by omega⟩;obtain⟨m,rfl⟩:∃m':Nat,m=(m':Int):=⟨m.toNat,by omega⟩;simp only[Int.toNat_natCast]at m47 Gk ⊢;have hb:(info.bytes:Int)*(m:Int)<=281474976710656:=by
     have:((info.bytes*m:Nat):Int)<=281474976710656:=by rw[g4,Nat.mul_comm];omega
     rwa [Int.natCast_mul]at this
    have hrun:=run_make (P:=P) w t e info z eJ g1 g5 kl kc n m n0 nm hb (by simp only[maxLen]at Gk;omega);simp only[Int.toNat_natCast,g3]at hrun;have hzs:z.cells.size=ei.size:=(by rw[<- Array.length_toList,g6];exact he.len);have hcs:(madeCells z.cells (m*ei.size)).size=m*ei.size:=size_madeCells _ _;obtain⟨hS,hM⟩:=Mem.alloc (i:=cy i) (o:=⟨ei.size,List.replicate n (ei.zero.map cv)⟩) (c:=madeCells z.cells (m*ei.size)) (e:=e) h hn (by
     refine bp.zeros ei.zero ei.size he.len (λ v hv=>qa (all_eq_true.1 he.one v hv)) n _ 0 (λ i j hi hj=>?_);have hlt:0+i*ei.size+j<m*ei.size:=by
      have:(i+1)*ei.size<=m*ei.size:=Nat.mul_le_mul_right _ (by omega);rw[Nat.add_mul]at this;omega
     rw[ZE _ _ _ hlt,hzs];have e1:(0+i*ei.size+j)%ei.size=j:=(by rw[Nat.zero_add,Nat.mul_comm,Nat.mul_add_mod,Nat.mod_eq_of_lt hj]);rw[e1,<- g6,Array.getElem?_toList,getElem!_pos z.cells j (by rw[hzs];exact hj),Array.getElem?_eq_getElem])
    refine⟨_,_,_,I,.inl (by simp[execOp,hu,hv,hrun];rfl),hS,hM.u9,?_⟩;simp only[VR];refine .inr ⟨w.heap.size,ei.size,_,_,0,by simp[ins];rfl,rfl,by omega,?_,by simp⟩;rw[LR,LO,hcs,Nat.zero_add,Nat.zero_add];exact aQ _
  ·cases ha
theorem ZF(hT:eZ P T)(h:Mem P w0 O0 β I obj w)(hn:β (cy i)=none){o:Oper}{n:Int}{ρ:Operand->AV}{get:Nat->Option aU}{ab:Out}(hg:∀k o,get k=some o->obj k=some o)
 {r:Operand->Value} (hρ:∀x,VR P β w I (ρ x) (r x)) (ha:Gw T i o n ρ get=some ab) (cC:ab.ob):qu P w0 O0 β I obj w i ab ((execOp r o).run P w):=by
 obtain⟨dst,op,ty,aw,after,guard⟩:=o;unfold Gw at ha;split at ha
 ·rename_i x heq;simp only at heq;subst heq;have hx:=hρ x;unfold Q7 at ha;split at ha
  ·rename_i k q f hk;simp only[pv,aA]at ha;subst ha;rw[hk]at hx;have hx2:=hx;simp only[VR]at hx2;obtain⟨b,sz,m,_,e1⟩:=hx2;exact⟨r x,w,β,I,.inl (by simp[execOp,e1]),Step.refl ..,h,hx⟩
  ·rename_i q f hk;simp only[pv,aA]at ha;subst ha;rw[hk]at hx;have hx2:=hx;simp only[VR]at hx2;obtain⟨b,o',e1,_⟩:=hx2;exact⟨r x,w,β,I,.inl (by simp[execOp,e1]),Step.refl ..,h,hx⟩
  ·cases ha
 ·rename_i t l c heq;simp only at heq;subst heq;exact adD hT h hn ha cC (hρ l) (hρ c) rfl rfl
 ·rename_i t heq;simp only at heq;subst heq;exact Wq h hn ha
 ·rename_i t m x ok heq;simp only at heq;subst heq;have⟨z,h1,h2,h3⟩:=Zu hT h hg ha (hρ m) (hρ x);exact⟨z,w,β,I,.inl (by simp[execOp,h1]),Step.refl ..,by rw[h3];exact h,h2⟩
 ·rename_i t m x v heq;simp only at heq;subst heq;have⟨w',h1,h2,h3,h4⟩:=Zv hT h hg ha (hρ m) (hρ x) (hρ v);exact⟨undef,w',β,I,.inr ⟨by simp[execOp,h1],rfl⟩,⟨λ _ _=>rfl,λ_ _ h=>h,h2,λ_ h=>h⟩,h3,by rw[h4];simp[VR]⟩
 ·cases ha
theorem ZG(hT:eZ P T)(h:Mem P w0 O0 β I obj w)(hn:β (cy i)=none){o:Oper}{n:Int}{ρ:Operand->AV}{get:Nat->Option aU}{ab:Out}(hg:∀k o,get k=some o->obj k=some o)
 {r:Operand->Value} (hρ:∀x,VR P β w I (ρ x) (r x)) (ha:qb T i o n ρ get=some ab) (cC:ab.ob):qu P w0 O0 β I obj w i ab ((execOp r o).run P w):=by
 unfold qb at ha;split at ha
 ·rename_i out' he;cases ha;cases hx:DG o.op with
  |true=>rw[hx]at he;exact ZF (n:=n) hT h hn hg hρ he cC
  |false=>rw[hx]at he;exact abS hT h hn hg hρ he cC
 ·exact ZA hT h hn hg hρ ha cC
end
mutual
def eW(f:Nat->Nat):AV->AV
 | .own k aa len=> .own (f k) aa len
 | .ptr k row aa=> .ptr (f k) row aa
 | .agg cs=> .agg (zi f cs)
 | .fi cs=> .fi (zi f cs)
 | .fn F first caps=> .fn F (zi f first) (zi f caps)
 | .t x=> .t x
 | .eo r o=> .eo r o
 | .cT φ=> .cT φ
 | .mp k=> .mp (f k)
 | .oz k len=> .oz (f k) len
 | .cM=> .cM
 | .ub=> .ub
 | .undef=> .undef
def zi(f:Nat->Nat):List AV->List AV
 |[]=>[]
 |x::xs=>eW f x::zi f xs
end
def Mh(f:Nat->Nat)(o:aU):aU:=⟨o.sz,o.rows.map (zi f)⟩
def pm(os:List (Nat×aU))(k:Nat):Option aU:=match os with
 |[]=>none
 |(j,o)::r=>if j=k then some o else pm r k
def an4(P:Program)(w:World)(β:Nat->Option cE)(I:Nat->Prop)(os':List (Nat×aU))(rv:AV)(e:Ending)(w':World):Prop:=
 ∃v β' I',e= .returned v/\Mem P w (uj β I) β' I' (pm os') w'/\(∀ b,I b->I' b)/\VR P β' w' I' rv v
def te(os:List aU)(k:Nat):Option aU:=os[k]?
def CE(P:Program)(f:FuncId)(args:List AV)(os:List aU)(os':List (Nat×aU))(rv:AV):Prop:=
 iO P f/\∀(w:World) (β:Nat->Option cE) (I:Nat->Prop) (vs:Array Value),(∀ k,os.length<=k->β k=none)->Mem P w (uj β I) β I (te os) w->bj P β w I args vs.toList->Calls P f vs w (an4 P w β I os' rv)
def J2(i k:Nat):Bool:=Nat.ble 1000000 k&&(k -1000000)/64==i
theorem Wv{i k:Nat}:J2 i k=true↔io (cy i) k:=by
 simp only[J2,aJ,Nat.ble_eq,beq_iff_eq,io,cy];omega
def cn(i:Nat)(ae:List Nat)(j:Nat):Nat:=if j<1000 then(ae[j]?).getD 0 else cy i+(j -1000)
def E0(P:Program)(get:Nat->Option aU)(ae:List Nat)(k:Nat):OB->Option (aU×List Prop)
 | .dat p=>(get k).bind λo=>some (hZ p,[o.sz=p.1/\dV (o.rows.take p.2.length)=aL p.2])
 | .C5 hs=>(get k).bind λo=>(Gt P get ae o.rows hs).bind λq=>some (⟨o.sz,q.1⟩,q.2)
def J3(P:Program)(get:Nat->Option aU)(ae:List Nat):List Nat->List OB->Option (List aU×List Prop)
 |[],[]=>some ([],[])
 |k::ks,b::bs=>(E0 P get ae k b).bind λp=>(J3 P get ae ks bs).bind λq=>some (p.1::q.1,p.2++q.2)
 |_,_=>none
def Ww(o:aU):List Nat:=o.rows.flatMap eH
def Wx(get:Nat->Option aU)(xs:List AV)(ae cL:List Nat)(bs:List OB):Prop:=
 (∀ k∈cL,k∉ae)/\(∀ k∈eH xs,k∉ae->k∈cL)/\∀(j:Nat) hs q o,bs[j]? =some (.C5 hs)->ae[j]? =some q->get q=some o->∀k∈Ww o,k∉ae->k∈cL
def wa(i:Nat)(ae:List Nat)(os':List (Nat×aU)):List (Nat×Option aU):=
 (ae.zipIdx.map λp=>(p.1,(pm os' p.2).map (Mh (cn i ae))))++(os'.filter λq=>decide (1000<=q.1)).map λq=>(cn i ae q.1,some (Mh (cn i ae) q.2))
mutual
def vR:AV->Prop
 | .t x=>x.flat
 | .eo _ _ | .cT _=>False
 | .agg cs | .fi cs=>qc cs
 | .fn _ first caps=>qc first/\qc caps
 |_=>True
def qc:List AV->Prop
 |[]=>True
 |x::xs=>vR x/\qc xs
end
def xz(n k:Nat):Prop:=k<n\/(1000<=k/\k<1064)
def EV(n:Nat)(os':List (Nat×aU))(rv:AV):Prop:=
 (∀ q∈os',xz n q.1)/\(os'.map (·.1)).Nodup/\(∀ q∈os',∀r∈q.2.rows,∀k∈eH r,xz n k)/\∀k∈refs rv,xz n k
def m5(os':List (Nat×aU))(rv:AV):Prop:=vR rv/\∀q∈os',∀r∈q.2.rows,qc r
def OE(P:Program)(i:Nat)(f:AV)(args:List AV)(cw:i6)(get:Nat->Option aU):Option Out:=
 match f,cw with
 | .fn F first caps,.s8 ae cL bs hs os' rv keep=>if ae.Nodup/\ae.length<=1000 then(J3 P get ae ae bs).bind λho=>(nG P get ae (first++args++caps) hs).bind λq=>
  some ⟨eW (cn i ae) rv,wa i ae os'++(if keep then []else cL.map λk=>(k,none)),
   q.2.2++ho.2++[CE P F q.1 ho.1 os' rv,EV ae.length os' rv,Wx get (first++args++caps) ae cL bs]++(if keep then [m5 os' rv]else [])⟩
  else none
 |_,_=>none
section
variable {P:Program} {w0:World} {O0:jz} {β β1 β2:Nat->Option cE} {I:Nat->Prop} {obj:Nat->Option aU} {w:World} {i:Nat}
mutual
theorem VR.tG{f:Nat->Nat}:∀(x:AV)(v:Value),(∀ k∈refs x,∀B,β1 k=some B->β2 (f k)=some B)->VR P β1 w I x v->VR P β2 w I (eW f x) v
 | .own k aa len,v,hd,h=>by
  simp only[eW,VR]at h ⊢;have hd':=hd k (by simp[refs]);rcases h with ⟨h1,h2⟩ |⟨b,s,n,c,o,h1,h2⟩
  ·exact .inl ⟨hd' _ h1,h2⟩
  ·exact .inr ⟨b,s,n,c,o,hd' _ h1,h2⟩
 | .ptr k row aa,v,hd,h=>by
  simp only[eW,VR]at h ⊢;obtain⟨b,s,n,h1,h2⟩:=h;exact⟨b,s,n,hd k (by simp[refs]) _ h1,h2⟩
 | .agg cs,v,hd,h=>by
  simp only[eW,VR]at h ⊢;obtain⟨vs,h1,h2⟩:=h;exact⟨vs,h1,bj.tG cs _ (by simpa[refs]using hd) h2⟩
 | .fi cs,v,hd,h=>by
  simp only[eW,VR]at h ⊢;obtain⟨vs,h1,h2⟩:=h;exact⟨vs,h1,bj.tG cs _ (by simpa[refs]using hd) h2⟩
 | .fn F first caps,v,hd,h=>by
  simp only[eW,VR]at h ⊢;obtain⟨fs,cs,h1,h2,h3⟩:=h;exact⟨fs,cs,h1,bj.tG first _ (λ k hk=>hd k (by simp[refs,hk])) h2,bj.tG caps _ (λ k hk=>hd k (by simp[refs,hk])) h3⟩
 | .t x,v,_,h=>by simpa[eW,VR]using h
 | .eo r o,v,_,h=>by simpa[eW,VR]using h
 | .cT φ,v,_,h=>by simpa[eW,VR]using h
 | .mp k,v,hd,h=>by
  simp only[eW,VR]at h ⊢;obtain⟨b,h1,h2⟩:=h;exact⟨b,hd k (by simp[refs]) _ h1,h2⟩
 | .oz k len,v,hd,h=>by
  simp only[eW,VR]at h ⊢;rcases h with h |⟨h0,b,sz,n,cap,o,h1,h2⟩
  ·exact .inl h
  ·exact .inr ⟨h0,b,sz,n,cap,o,hd k (by simp[refs]) _ h1,h2⟩
 | .cM,v,_,h=>by simpa[eW,VR]using h
 | .ub,v,_,h=>by simpa[eW,VR]using h
 | .undef,v,_,h=>by simp[eW,VR]
theorem bj.tG{f:Nat->Nat}:∀(xs:List AV)(vs:List Value),(∀ k∈eH xs,∀B,β1 k=some B->β2 (f k)=some B)->bj P β1 w I xs vs->bj P β2 w I (zi f xs) vs
 |[],[],_,_=>by simp[zi,bj]
 |x::xs,v::vs,hd,h=>by
  simp only[bj]at h;simp only[zi,bj];exact⟨VR.tG x v (λ k hk=>hd k (by simp[eH,hk])) h.1,bj.tG xs vs (λ k hk=>hd k (by simp[eH,hk])) h.2⟩
 |[],_::_,_,h=>by simp[bj]at h
 |_::_,[],_,h=>by simp[bj]at h
end
mutual
theorem VR.flat{I2:Nat->Prop}:∀(x:AV)(v:Value),vR x->VR P β w I x v->VR P β w I2 x v
 | .own k aa len,v,_,h=>by simpa only[VR]using h
 | .ptr k row aa,v,_,h=>by simpa only[VR]using h
 | .agg cs,v,hf,h=>by
  simp only[VR]at h ⊢;obtain⟨vs,h1,h2⟩:=h;exact⟨vs,h1,bj.flat cs _ (by simpa[vR]using hf) h2⟩
 | .fi cs,v,hf,h=>by
  simp only[VR]at h ⊢;obtain⟨vs,h1,h2⟩:=h;exact⟨vs,h1,bj.flat cs _ (by simpa[vR]using hf) h2⟩
 | .fn F first caps,v,hf,h=>by
  simp only[VR]at h ⊢;obtain⟨fs,cs,h1,h2,h3⟩:=h;simp only[vR]at hf;exact⟨fs,cs,h1,bj.flat first _ hf.1 h2,bj.flat caps _ hf.2 h3⟩
 | .t x,v,hf,h=>by
  simp only[VR]at h ⊢;exact Tree.ma (by simpa[vR]using hf) h
 | .eo r o,v,hf,h=>by simp[vR]at hf
 | .cT φ,v,hf,h=>by simp[vR]at hf
 | .mp k,v,_,h=>by simpa only[VR]using h
 | .oz k len,v,_,h=>by simpa only[VR]using h
 | .cM,v,_,h=>by simpa only[VR]using h
 | .ub,v,_,h=>by simpa only[VR]using h
 | .undef,v,_,h=>by simp[VR]
theorem bj.flat{I2:Nat->Prop}:∀(xs:List AV)(vs:List Value),qc xs->bj P β w I xs vs->bj P β w I2 xs vs
 |[],[],_,_=>by simp[bj]
 |x::xs,v::vs,hf,h=>by
  simp only[bj]at h ⊢;simp only[qc]at hf;exact⟨VR.flat x v hf.1 h.1,bj.flat xs vs hf.2 h.2⟩
 |[],_::_,_,h=>by simp[bj]at h
 |_::_,[],_,h=>by simp[bj]at h
end
theorem Tk(f:Nat->Nat):∀l:List AV,(zi f l).length=l.length
 |[]=>rfl
 |_::l=>by simp only[zi,bF,Tk f l]
theorem cP.tell{β':Nat->Option cE}{w':World}{I':Nat->Prop}{r q:List AV}{c:Array Value}{aa:Nat}(hv:∀vs:List Value,bj P β w I r vs->bj P β' w' I' q vs)(h:cP P β w I r c aa):cP P β' w' I' q c aa:=by
 have⟨vs,h1,h2,h3⟩:=cP.list r c aa h;exact cP.nF q vs c aa (hv vs h1) h2 h3
theorem bp.tell{β':Nat->Option cE}{w':World}{I':Nat->Prop}:∀{rs qs:List (List AV)}{c:Array Value}{aa sz:Nat},rs.length=qs.length->(∀ (j:Nat) r q,rs[j]? =some r->qs[j]? =some q->q.length=r.length/\∀vs:List Value,bj P β w I r vs->bj P β' w' I' q vs)->
 bp P β w I rs c aa sz->bp P β' w' I' qs c aa sz
 |[],[],_,_,_,_,_,h=>h
 |r::rs,q::qs,c,aa,sz,hl,hr,h=>by
  simp only[bp]at h ⊢;obtain⟨h1,h2,h3⟩:=h;have⟨e1,e2⟩:=hr 0 r q rfl rfl;exact⟨e1.trans h1,h2.tell e2,bp.tell (by simpa using hl) (λ j a b ha hb=>hr (j+1) a b (by simpa using ha) (by simpa using hb)) h3⟩
 |[],_::_,_,_,_,hl,_,_=>by simp at hl
 |_::_,[],_,_,_,hl,_,_=>by simp at hl
theorem cA.tell{β':Nat->Option cE}{I':Nat->Prop}:∀{rs qs:List (List AV)}{es:List MapEntry},rs.length=qs.length->(∀ (j:Nat) r q',rs[j]? =some r->qs[j]? =some q'->∀vs:List Value,bj P β w I r vs->bj P β' w I' q' vs)->cA P β w I rs es->cA P β' w I' qs es
 |[],[],[],_,_,_=>trivial
 |r::rs,q::qs,_::es,hl,hr,⟨h1,h2⟩=>⟨hr 0 r q rfl rfl _ h1,cA.tell (by simpa using hl) (λ j r' q' a b=>hr (j+1) r' q' (by simpa using a) (by simpa using b)) h2⟩
 |[],_::_,_,hl,_,_=>by simp at hl
 |_::_,[],_,hl,_,_=>by simp at hl
 |[],_,_::_,_,_,h=>h.elim
 |_::_,_,[],_,_,h=>h.elim
theorem OR.tell{β':Nat->Option cE}{I':Nat->Prop}{o q:aU}{B:cE}(hsz:q.sz=o.sz)(hl:o.rows.length=q.rows.length)(hr:∀(j:Nat) r q',o.rows[j]? =some r->q.rows[j]? =some q'->q'.length=r.length/\∀vs:List Value,bj P β w I r vs->bj P β' w I' q' vs)
 (h:OR P β w I o B):OR P β' w I' q B:=by
 cases B with
 |none=>
  simp only[OR]at h ⊢;rw[h]at hl;exact List.eq_nil_of_length_eq_zero hl.symm
 | «at» b s n=>
  obtain⟨h1,c,e,h2,h3,h4⟩:=h;exact⟨by rw[hsz];exact h1,c,e,h2,h3,h4.tell hl hr⟩
 |mp b=>
  obtain⟨es,cl,h1,hle,h2,h3⟩:=h;exact⟨es,cl,h1,by omega,λe=>cA.tell hl (λ j r q' a b=>(hr j r q' a b).2) (h2 (by omega)),h3⟩
theorem OR.tG{f:Nat->Nat}{o:aU}{B:cE}(hf:∀r∈o.rows,∀k∈eH r,∀B,β1 k=some B->β2 (f k)=some B)(h:OR P β1 w I o B):OR P β2 w I (Mh f o) B:=by
 refine OR.tell (o:=o) (q:=Mh f o) rfl (by simp[Mh]) (λ j r q h1 h2=>?_) h;simp only[Mh,List.getElem?_map,eU]at h2;obtain⟨r',h3,rfl⟩:=h2;rw[h1]at h3;cases h3;exact⟨Tk f r,λvs hv=>bj.tG r vs (hf r (cB h1)) hv⟩
theorem OR.m5{I2:Nat->Prop}{o:aU}{B:cE}(hf:∀r∈o.rows,qc r)(h:OR P β w I o B):OR P β w I2 o B:=by
 refine OR.tell rfl rfl (λ j r q h1 h2=>?_) h;rw[h1]at h2;cases h2;exact⟨rfl,λvs hv=>bj.flat r vs (hf r (cB h1)) hv⟩
def pj(P:Program)(get:Nat->Option aU)(ae:List Nat):List (List AV)->List (List AV)->Prop
 |[],[]=>True
 |r::rs,q::qs=>fx P get ae r q/\pj P get ae rs qs
 |_,_=>False
theorem OG{get:Nat->Option aU}{ae:List Nat}:∀{rs:List (List AV)}{hs:List (List LH)}{p:List (List AV)×List Prop},Gt P get ae rs hs=some p->(∀ q∈p.2,q)->pj P get ae rs p.1
 |[],[],p,h,_=>by simp only[Gt,aA]at h;subst h;trivial
 |r::rs,hl::hs,p,h,ho=>by
  simp only[Gt,ai,aA]at h;obtain⟨q,h1,q',h2,rfl⟩:=h;exact⟨nS h1 (λ y hy=>ho y (by simp[hy])),OG h2 (λ y hy=>ho y (by simp[hy]))⟩
 |[],_::_,p,h,_=>by simp[Gt]at h
 |_::_,[],p,h,_=>by simp[Gt]at h
theorem fx.length{get:Nat->Option aU}{ae:List Nat}:∀{xs ys:List AV},fx P get ae xs ys->ys.length=xs.length
 |[],[],_=>rfl
 |x::xs,y::ys,h=>by simp only[bF,fx.length h.2]
 |[],_::_,h=>h.elim
 |_::_,[],h=>h.elim
theorem pj.get{get:Nat->Option aU}{ae:List Nat}:∀{rs qs:List (List AV)},pj P get ae rs qs->rs.length=qs.length/\∀(j:Nat) r q,rs[j]? =some r->qs[j]? =some q->fx P get ae r q
 |[],[],_=>⟨rfl,λj r q h=>by simp at h⟩
 |r::rs,q::qs,h=>by
  have⟨h1,h2⟩:=pj.get h.2;refine⟨by simp[h1],λj a b ha hb=>?_⟩;cases j with
  |zero=>simp only[List.getElem?_cons_zero,aA]at ha hb;subst ha;subst hb;exact h.1
  |succ j=>exact h2 j a b (by simpa using ha) (by simpa using hb)
 |[],_::_,h=>h.elim
 |_::_,[],h=>h.elim
theorem Wy{get:Nat->Option aU}{ae:List Nat}:∀{ks:List Nat}{bs:List OB}{p:List aU×List Prop},J3 P get ae ks bs=some p->(∀ q∈p.2,q)->ks.length=p.1.length/\∀(j:Nat) k q,ks[j]? =some k->p.1[j]? =some q->∃o,get k=some o/\
 ((∃ d:fe,bs[j]? =some (.dat d)/\q=hZ d/\o.sz=d.1/\dV (o.rows.take d.2.length)=aL d.2)\/(∃ hs,bs[j]? =some (.C5 hs)/\q.sz=o.sz/\pj P get ae o.rows q.rows))
 |[],[],p,h,_=>by simp only[J3,aA]at h;subst h;exact⟨rfl,λj k q h=>by simp at h⟩
 |k::ks,b::bs,p,h,ho=>by
  simp only[J3,ai,aA]at h;obtain⟨q,h1,q',h2,rfl⟩:=h;obtain⟨g1,g2⟩:=Wy h2 (λ y hy=>ho y (by simp[hy]));refine⟨by simp[g1],λj k' z hj hz=>?_⟩;cases j with
  |succ j=>
   obtain⟨o,e1,e2⟩:=g2 j k' z (by simpa using hj) (by simpa using hz);exact⟨o,e1,by simpa using e2⟩
  |zero=>
   simp only[List.getElem?_cons_zero,aA]at hj hz;subst hj;subst hz;cases b with
   |dat d=>
    simp only[E0,ai,aA]at h1;obtain⟨o,e1,rfl⟩:=h1;have:=ho _ (List.mem_append_left _ (aY.2 rfl));exact⟨o,e1,.inl ⟨d,rfl,rfl,this.1,this.2⟩⟩
   |C5 hs=>
    simp only[E0,ai,aA]at h1;obtain⟨o,e1,z,e2,rfl⟩:=h1;exact⟨o,e1,.inr ⟨hs,rfl,rfl,OG e2 (λ y hy=>ho y (List.mem_append_left _ hy))⟩⟩
 |[],_::_,p,h,_=>by simp[J3]at h
 |_::_,[],p,h,_=>by simp[J3]at h
theorem Mem.vq(h:Mem P w0 O0 β I obj w){get:Nat->Option aU}(hg:∀k o,get k=some o->obj k=some o){ae cL:List Nat}{os:List aU}(hnd:ae.Nodup)(hlen:ae.length=os.length)
 (hm:∀(j:Nat) k q,ae[j]? =some k->os[j]? =some q->∃o,get k=some o/\((∃ d:fe,q=hZ d/\o.sz=d.1/\dV (o.rows.take d.2.length)=aL d.2)\/(q.sz=o.sz/\pj P get ae o.rows q.rows/\∀k∈Ww o,k∉ae->k∈cL))) (An:∀k∈cL,k∉ae):
 Mem P w (uj (βc ae β) (fR β obj cL I)) (βc ae β) (fR β obj cL I) (te os) w:=by
 have hb0:∀j k,ae[j]? =some k->βc ae β j=β k:=λj k hk=>by simp[βc,hk]
 have look:∀j q,te os j=some q->∃k o,ae[j]? =some k/\obj k=some o/\∀B,OR P β w I o B->OR P (βc ae β) w (fR β obj cL I) q B:=by
  intro j q hj;simp only[te]at hj;have hjl:j<ae.length:=by rw[hlen];exact(dm.1 hj).1
  obtain⟨o,g,hh⟩:=hm j _ q (dI hjl) hj;refine⟨_,o,dI hjl,hg _ _ g,λB hO=>?_⟩;rcases hh with ⟨d,rfl,g4,g5⟩ |⟨g4,g5,g6⟩
  ·have:OR P β w I (hZ d) B:=by
    cases B with
    |none=>
     simp only[OR]at hO ⊢;rw[hO]at g5;simpa[dV,hZ]using g5.symm
    | «at» b s n=>
     obtain⟨h1,c,e,h2,h3,h4⟩:=hO;refine⟨by rw[h1,g4];rfl,c,e,h2,h3,?_⟩;have:=bp.wk _ _ _ _ (bp.take d.2.length _ _ _ _ h4);rw[g5]at this;exact this
    |mp b=>exact OR.part g4 g5 hO
   exact this.dat λb hb=> .inl hb
  ·obtain⟨e1,e2⟩:=g5.get;refine hO.tell g4 e1 (λ m r q' hr hq=>?_);have hb:=e2 m r q' hr hq;refine⟨hb.length,λvs hv=>?_⟩;refine fx.sound h hg cL r q' vs (λ k hk hn=>g6 k ?_ hn) hb hv;exact List.mem_flatMap.2 ⟨r,cB hr,hk⟩
 constructor
 ·intro j q hj;have⟨k,o,g1,g2,g3⟩:=look j q hj;have⟨B,hB,hO⟩:=h.cH k o g2;exact⟨B,by rw[hb0 j k g1];exact hB,g3 B hO⟩
 ·intro j j' o o' B B' b h1 h2 h3 h4 h5 h6;have⟨k,q,g1,g3,_⟩:=look j o h1;have⟨k',q',g1',g3',_⟩:=look j' o' h2;rw[hb0 j k g1]at h3;rw[hb0 j' k' g1']at h4;have:=h.gA k k' q q' B B' b g3 g3' h3 h4 h5 h6;subst this;exact Q0 hnd g1 g1'
 ·intro j o B b h1 h2 h5;have⟨k,q,g1,g3,_⟩:=look j o h1;have h2':=h2;rw[hb0 j k g1]at h2;have⟨a1,a2,_⟩:=h.ownB k q B b g3 h2 h5;refine⟨?_,a2,.inl ⟨j,B,h2',h5⟩⟩;rintro (hI |⟨k',o',s',n',e1,e2,e3⟩)
  ·exact a1 hI
  ·have:=h.nh k k' q o' b g3 e2 ⟨B,h2,h5⟩ (.at e3);subst this;exact An _ e1 (cB g1)
 ·exact Ox h _
 ·exact λb hb=> .inl hb
 ·exact λ_ _ _=>rfl
 ·exact aQ _
 ·rfl
 ·rfl
 ·rfl
 ·intro j B hj;simp only[uj]at hj;split at hj
  ·exact hj
  ·cases hj
 ·exact h.vars.mono (λ _ _=>rfl) (λ b hb=> .inl hb)
theorem WP:∀{os':List (Nat×aU)}{k:Nat}{o:aU},pm os' k=some o->(k,o)∈os'
 |[],_,_,h=>by simp[pm]at h
 |(j,q)::r,k,o,h=>by
  simp only[pm]at h;split at h
  ·rename_i e;cases h;subst e;exact List.mem_cons_self
  ·exact dS _ (WP h)
theorem Wz:∀{os':List (Nat×aU)}{k:Nat}{o:aU},(os'.map (·.1)).Nodup->(k,o)∈os'->pm os' k=some o
 |(j,q)::r,k,o,hn,h=>by
  simp only[aC,List.nodup_cons]at hn;simp only[pm];rcases aN.1 h with e |h
  ·injection e with e1 e2;subst e1;subst e2;rw[aP rfl]
  ·rw[aO (λ e=>hn.1 (mem_map.2 ⟨(k,o),h,e.symm⟩)),Wz hn.2 h]
theorem adF{F:Nat->Option aU}{k:Nat}:∀(ae:List Nat)(n:Nat),(∃ j,ae[j]? =some k/\bW obj ((ae.zipIdx n).map λp=>(p.1,F p.2)) k=F (n+j))\/(k∉ae/\bW obj ((ae.zipIdx n).map λp=>(p.1,F p.2)) k=obj k)
 |[],n=> .inr ⟨by simp,rfl⟩
 |q::ae,n=>by
  simp only[List.zipIdx_cons,aC,bW];by_cases e:k=q
  ·subst e;exact .inl ⟨0,rfl,by simp⟩
  ·rw[aO e];rcases adF (k:=k) ae (n+1)with ⟨j,h1,h2⟩ |⟨h1,h2⟩
   ·exact .inl ⟨j+1,by simpa using h1,by rw[h2];congr 1;omega⟩
   ·exact .inr ⟨by simp[e,h1],h2⟩
theorem aaF{c:Nat->Nat}{G:aU->aU}{k:Nat}:∀(l:List (Nat×aU)),(∃ q∈l,k=c q.1/\bW obj (l.map λq=>(c q.1,some (G q.2))) k=some (G q.2))\/bW obj (l.map λq=>(c q.1,some (G q.2))) k=obj k
 |[]=> .inr rfl
 |q::l=>by
  simp only[aC,bW];by_cases e:k=c q.1
  ·exact .inl ⟨q,by simp,e,by rw[aP e]⟩
  ·rw[aO e];rcases aaF (c:=c) (G:=G) (k:=k) l with ⟨z,h1,h2,h3⟩ |h
   ·exact .inl ⟨z,dS _ h1,h2,h3⟩
   ·exact .inr h
theorem adG(h:Mem P w0 O0 β I obj w)(hn:∀k,io (cy i) k->β k=none){ae cL:List Nat}{os':List (Nat×aU)}{rv:AV}{keep:Bool}(hgood:EV ae.length os' rv)(hk:keep=true->m5 os' rv)
 (hnd:ae.Nodup) (hl:ae.length<=1000) (ke:∀k∈ae,∃o,obj k=some o)
 {w':World} {I1:Nat->Prop} {v:Value} (hM:Mem P w (uj (βc ae β) (fR β obj cL I)) β1 I1 (pm os') w') (h1:∀b,fR β obj cL I b->I1 b) (hr:VR P β1 w' I1 rv v):
 ∃ β' I',Step β I w (cy i) β' I' w'/\Mem P w0 O0 β' I' (bW obj (wa i ae os'++if keep then []else cL.map (λ k=>(k,none)))) w'/\VR P β' w' I' (eW (cn i ae) rv) v:=by
 obtain⟨gk,gn,gr,gv⟩:=hgood;have hb0:∀j k,ae[j]? =some k->βc ae β j=β k:=λj k hk=>by simp[βc,hk]
 have hown0:∀k B,β k=some B->¬io (cy i) k:=λk B hk e=>by rw[hn k e]at hk;cases hk
 have G3:∀j k,ae[j]? =some k->∃B,β k=some B/\β1 j=some B:=by
  intro j k hj;have⟨o,ho⟩:=ke k (cB hj);have⟨B,hB,_⟩:=h.cH k o ho;have hjl:=(dm.1 hj).1;exact⟨B,hB,hM.anch j B (by simp only[uj];rw[aP (by omega),hb0 j k hj];exact hB)⟩
 generalize C0:(λ k=>if J2 i k then β1 (1000+(k -cy i))else β k:Nat->Option cE)=β2;have yy:∀k,¬io (cy i) k->β2 k=β k:=λk hk=>by
  rw[<- C0];have:J2 i k=false:=by
   cases e:J2 i k with
   |false=>rfl
   |true=>exact absurd (Wv.1 e) hk
  simp[this]
 have Z3:∀j,1000<=j->j<1064->β2 (cy i+(j -1000))=β1 j:=λj e1 e2=>by
  rw[<- C0];have e:J2 i (cy i+(j -1000))=true:=Wv.2 (by simp only[io,cy];omega);have e':1000+(cy i+(j -1000) -cy i)=j:=by omega
  simp only[e,if_true,e']
 have hmap:∀k,xz ae.length k->∀B,β1 k=some B->β2 (cn i ae k)=some B:=by
  rintro k (hk |⟨hk1,hk2⟩) B hB
  ·obtain⟨B',e1,e2⟩:=G3 k _ (dI hk);rw[e2]at hB;cases hB;simp only[cn,show k<1000 by omega,if_true,dI hk,Option.getD_some];rw[yy _ (hown0 _ _ e1)];exact e1
  ·simp only[cn,show ¬k<1000 by omega,if_false];rw[Z3 k hk1 hk2];exact hB
 have look:∀g k o,bW obj (wa i ae os'++g) k=some o->(∃ j o0,ae[j]? =some k/\pm os' j=some o0/\o=Mh (cn i ae) o0)\/
  (∃ j o0,1000<=j/\j<1064/\pm os' j=some o0/\k=cy i+(j -1000)/\o=Mh (cn i ae) o0)\/(k∉ae/\bW obj g k=some o):=by
  intro g k o hko;rw[tC,wa,tC]at hko;rcases adF (obj:=bW (bW obj g) ((os'.filter λ(q:Nat×aU)=>decide (1000<=q.1)).map λ(q:Nat×aU)=>(cn i ae q.1,some (Mh (cn i ae) q.2)))) (F:=λj=>(pm os' j).map (Mh (cn i ae))) (k:=k) ae 0 with ⟨j,e1,e2⟩ |⟨e1,e2⟩
  ·rw[e2]at hko;simp only[Nat.zero_add,eU]at hko;obtain⟨o0,e3,e4⟩:=hko;exact .inl ⟨j,o0,e1,e3,e4.symm⟩
  ·rw[e2]at hko;rcases aaF (obj:=bW obj g) (c:=cn i ae) (G:=Mh (cn i ae)) (k:=k) (os'.filter λq=>decide (1000<=q.1))with ⟨q,e3,e4,e5⟩ |e3
   ·rw[e5]at hko;injection hko with hko;simp only[List.mem_filter,aT]at e3;have hq:=gk q e3.1;simp only[xz]at hq;refine .inr (.inl ⟨q.1,q.2,e3.2,by omega,Wz gn e3.1,?_,hko.symm⟩);rw[e4];simp only[cn,show ¬q.1<1000 by omega,if_false]
   ·rw[e3]at hko;exact .inr (.inr ⟨e1,hko⟩)
 have main:∀(g:List (Nat×Option aU))(I2:Nat->Prop),(∀ k o,bW obj g k=some o->obj k=some o)->(∀ b,I b->I2 b)->(∀ b,I2 b->I1 b)->(∀ j o B,pm os' j=some o->OR P β1 w' I1 o B->OR P β1 w' I2 o B)->
  (∀ k o b,k∉ae->bW obj g k=some o->gx β k b->¬I2 b)->VR P β1 w' I2 rv v->
  ∃ β' I',Step β I w (cy i) β' I' w'/\Mem P w0 O0 β' I' (bW obj (wa i ae os'++g)) w'/\VR P β' w' I' (eW (cn i ae) rv) v:=by
  intro g I2 hg hI hI1 hor GT hr2;have hown:∀b,Wj (βc ae β) b->∃k o,k∈ae/\obj k=some o/\gx β k b:=by
   rintro b ⟨j,B,hj,hB⟩;have⟨k,e1,e2⟩:=Oy hj;have⟨o,e3⟩:=ke k (cB e1);exact⟨k,o,cB e1,e3,B,e2,hB⟩
  have hapart:∀k o b,k∉ae->obj k=some o->gx β k b->¬Wj (βc ae β) b:=by
   intro k o b hk e1 e2 hb;have⟨k',o',g1,g2,g3⟩:=hown b hb;have:=h.nh k k' o o' b e1 g2 e2 g3;subst this;exact hk g1
  have hS:Same I w w':=λb hb=>hM.keep b (h.lt b hb) (λ hb'=>by
   have⟨k',o',g1,g2,g3⟩:=hown b hb';exact(h.jj k' o' b g2 g3).1 hb)
  have HE:∀k o,bW obj (wa i ae os'++g) k=some o->(∃ j o0,pm os' j=some o0/\xz ae.length j/\k=cn i ae j/\β2 k=β1 j/\o=Mh (cn i ae) o0)\/(k∉ae/\obj k=some o/\bW obj g k=some o/\β2 k=β k):=by
   intro k o hko;rcases look g k o hko with ⟨j,o0,e1,e2,e3⟩ |⟨j,o0,e1,IS,e2,e3,e4⟩ |⟨e1,e2⟩
   ·have⟨B,e4,e5⟩:=G3 j k e1;have hjl:=(dm.1 e1).1;refine .inl ⟨j,o0,e2,.inl hjl,?_,?_,e3⟩
    ·simp only[cn,show j<1000 by omega,if_true,e1,Option.getD_some]
    ·rw[yy _ (hown0 _ _ e4),e4,e5]
   ·refine .inl ⟨j,o0,e2,.inr ⟨e1,IS⟩,?_,?_,e4⟩
    ·simp only[cn,show ¬j<1000 by omega,if_false];exact e3
    ·rw[e3];exact Z3 j e1 IS
   ·have⟨B,e3,_⟩:=h.cH k o (hg k o e2);exact .inr ⟨e1,hg k o e2,e2,yy _ (hown0 _ _ e3)⟩
  have sf:∀j o0 b,pm os' j=some o0->gx β1 j b->¬I2 b/\b<w'.heap.size/\(Wj (βc ae β) b\/w.heap.size<=b):=by
   intro j o0 b e1 e2;have⟨a1,a2,a3⟩:=hM.jj j o0 b e1 e2;exact⟨λ hb=>a1 (hI1 b hb),a2,a3⟩
  refine⟨β2,I2,⟨yy,λk B hk=>by rw[yy k (hown0 k B hk)];exact hk,hS,hI⟩,?_,VR.tG rv v (λ k hk=>hmap k (gv k hk)) hr2⟩;constructor
  ·intro k o hko;rcases HE k o hko with ⟨j,o0,e1,e2,e3,e4,rfl⟩ |⟨e1,e2,e3,e4⟩
   ·have⟨B,hB,hO⟩:=hM.cH j o0 e1;refine⟨B,by rw[e4];exact hB,OR.tG (λ r hr' q hq=>hmap q (gr (j,o0) (WP e1) r hr' q hq)) (hor j o0 B e1 hO)⟩
   ·have⟨B,hB,hO⟩:=h.cH k o e2;refine⟨B,by rw[e4];exact hB,OR.mono (λ q C hq=>by rw[yy q (hown0 q C hq)];exact hq) hS hI (λ b e=>hM.keep b (h.ownB k o B b e2 hB e).2.1 (hapart k o b e1 e2 ⟨B,hB,e⟩)) hO⟩
  ·intro k k' o o' B B' b ho ho' hb hb' h5 h6;rcases HE k o ho with ⟨j,o0,e1,e2,e3,e4,rfl⟩ |⟨e1,e2,e3,e4⟩
   ·rw[e4]at hb;rcases HE k' o' ho' with ⟨j',N4,f1,f2,f3,f4,rfl⟩ |⟨f1,f2,f3,f4⟩
    ·rw[f4]at hb';have:=hM.gA j j' o0 N4 B B' b e1 f1 hb hb' h5 h6;subst this;rw[e3,f3]
    ·rw[f4]at hb';rcases (sf j o0 b e1 ⟨B,hb,h5⟩).2.2 with g1 |g1
     ·exact absurd g1 (hapart k' o' b f1 f2 ⟨B',hb',h6⟩)
     ·have:=(h.ownB k' o' B' b f2 hb' h6).2.1;omega
   ·rw[e4]at hb;rcases HE k' o' ho' with ⟨j',N4,f1,f2,f3,f4,rfl⟩ |⟨f1,f2,f3,f4⟩
    ·rw[f4]at hb';rcases (sf j' N4 b f1 ⟨B',hb',h6⟩).2.2 with g1 |g1
     ·exact absurd g1 (hapart k o b e1 e2 ⟨B,hb,h5⟩)
     ·have:=(h.ownB k o B b e2 hb h5).2.1;omega
    ·rw[f4]at hb';exact h.gA k k' o o' B B' b e2 f2 hb hb' h5 h6
  ·intro k o B b ho hb h5;rcases HE k o ho with ⟨j,o0,e1,e2,e3,e4,rfl⟩ |⟨e1,e2,e3,e4⟩
   ·rw[e4]at hb;have⟨a1,a2,a3⟩:=sf j o0 b e1 ⟨B,hb,h5⟩;refine⟨a1,a2,?_⟩;rcases a3 with a3 |a3
    ·have⟨k',o',g1,g2,g3⟩:=hown b a3;exact(h.jj k' o' b g2 g3).2.2
    ·exact .inr (Nat.le_trans h.le a3)
   ·rw[e4]at hb;have⟨a1,a2,a3⟩:=h.ownB k o B b e2 hb h5;exact⟨GT k o b e1 e3 ⟨B,hb,h5⟩,Nat.lt_of_lt_of_le a2 hM.le,a3⟩
  ·exact λb hb=>hM.lt b (hI1 b hb)
  ·intro b hb;rcases hM.up b (hI1 b hb)with (g1 |⟨k',o',s',n',_,g2,g3⟩) |g1 |g1
   ·exact h.up b g1
   ·exact .inr (h.own k' o' b s' n' g2 g3).2.2
   ·have⟨k',o',_,g2,g3⟩:=hown b g1;exact .inr (h.jj k' o' b g2 g3).2.2
   ·exact .inr (.inr (Nat.le_trans h.le g1))
  ·intro b hb hno;refine(hM.keep b (Nat.lt_of_lt_of_le hb h.le) (λ hb'=>?_)).trans (h.keep b hb hno);have⟨k',o',_,g2,g3⟩:=hown b hb';rcases (h.jj k' o' b g2 g3).2.2 with g1 |g1
   ·exact hno g1
   ·omega
  ·exact Nat.le_trans h.le hM.le
  ·exact hM.os.trans h.os
  ·exact hM.tape.trans h.tape
  ·exact hM.output.trans h.output
  ·intro j B hj;have e:=h.anch j B hj;rw[yy j (hown0 j B e)];exact e
  ·exact h.vars.mono hS hI
 cases keep with
 |true=>
  have⟨hf1,hf2⟩:=hk rfl;exact main [] I (λ _ _ h=>h) (λ _ h=>h) (λ b hb=>h1 b (.inl hb)) (λ j o B hj hO=>OR.m5 (hf2 (j,o) (WP hj)) hO) (λ k o b _ e1 e2=>(h.jj k o b e1 e2).1) (VR.flat rv v hf1 hr)
 |false=>
  have hsub:∀k o,bW obj (cL.map λk=>(k,none)) k=some o->obj k=some o/\k∉cL:=by
   intro k o hk;rw[z8]at hk;split at hk
   ·cases hk
   ·exact⟨hk,‹_›⟩
  refine main _ I1 (λ k o hk=>(hsub k o hk).1) (λ b hb=>h1 b (.inl hb)) (λ _ h=>h) (λ j o B hj hO=>hO) (λ k o b hki e1 e2 hb=>?_) hr;have⟨f1,f2⟩:=hsub k o e1;have⟨a1,a2,_⟩:=h.jj k o b f1 e2;rcases hM.up b hb with (g |⟨k',o',s',n',g1,g2,g3⟩) |⟨j,B',g,g'⟩ |g
  ·exact a1 g
  ·have:=h.nh k k' o o' b f1 g2 e2 (.at g3);subst this;exact f2 g1
  ·have⟨k',g1,g2⟩:=Oy g;have⟨o',g3⟩:=ke k' (cB g1);have:=h.nh k k' o o' b f1 g3 e2 ⟨B',g2,g'⟩;subst this;exact hki (cB g1)
  ·omega
theorem WA(h:Mem P w0 O0 β I obj w)(hn:∀k,io (cy i) k->β k=none){f:AV}{args:List AV}{cw:i6}{get:Nat->Option aU}{ab:Out}(hg:∀k o,get k=some o->obj k=some o)
 {fv:Value} {vs:Array Value} {am:Array Operand} {fo:Operand} {r:Operand->Value} (ha:OE P i f args cw get=some ab) (cC:ab.ob) (hf:VR P β w I f fv) (hv:bj P β w I args vs.toList) (hfo:r fo=fv) (hops:vs=am.map r)
 {dst:Option Tmp} {aw:String} {after:Array Edge} {guard:Option (Nat×Bool)} {ty:TypeId} {cV:Array TypeId}:
 Cv P w0 O0 β I obj w i ab ((execOp r ⟨dst,.call { callee:= .value fo,args:=am,argTypes:=cV },ty,aw,after,guard⟩).run P w):=by
 unfold OE at ha;split at ha
 ·rename_i F first caps ae cL bs hs os' rv keep
  split at ha
  ·rename_i hc;obtain⟨hnd,hl⟩:=hc;rw[ai]at ha;obtain⟨ho,hho,ha⟩:=ha;rw[ai]at ha;obtain⟨q,hq,ha⟩:=ha;cases ha;have cC:=rC _ cC;simp only[VR]at hf;obtain⟨fs,cs,rfl,hf1,hf2⟩:=hf;have o1:∀x∈q.2.2,x:=λx hx=>cC x (by simp[hx]);have o2:∀x∈ho.2,x:=λx hx=>cC x (by simp[hx]);have o3:CE P F q.1 ho.1 os' rv:=cC (CE P F q.1 ho.1 os' rv) (by simp);have o4:EV ae.length os' rv:=cC (EV ae.length os' rv) (by simp);have o5:keep=true->m5 os' rv:=λe=>cC (m5 os' rv) (by simp[e]);obtain⟨l1,l2,l3⟩:Wx get (first++args++caps) ae cL bs:=cC (Wx get (first++args++caps) ae cL bs) (by simp);obtain⟨⟨fn,e1,e2,e3⟩,hcon⟩:=o3;have⟨hl2,hmm⟩:=Wy hho o2;have ke:∀k∈ae,∃o,obj k=some o:=by
    intro k hk;obtain⟨j,hj⟩:=List.getElem?_of_mem hk;have hjl:j<ho.1.length:=(by rw[<- hl2];exact(dm.1 hj).1);obtain⟨o,g,_⟩:=hmm j k _ hj (dI hjl);exact⟨o,hg _ _ g⟩
   have hM:=h.vq hg (cL:=cL) hnd hl2 (λ j k z hj hz=>by
    have⟨o,g1,g2⟩:=hmm j k z hj hz;refine⟨o,g1,?_⟩;rcases g2 with ⟨d,_,g3⟩ |⟨hs',g3,g4,g5⟩
    ·exact .inl ⟨d,g3⟩
    ·exact .inr ⟨g4,g5,λk' hk' hn'=>l3 j hs' k o g3 hj g1 k' hk' hn'⟩) l1
   have hall:bj P β w I (first++args++caps) (fs++vs++cs).toList:=by
    simp only[Array.toList_append];exact bj.append _ _ _ _ (bj.append _ _ _ _ hf1 hv) hf2
   have oX:=fx.sound h hg cL _ _ _ (λ k hk hn=>l2 k hk hn) (nS hq o1) hall;refine⟨F,fs++vs++cs,?_,(hcon w _ _ _ (λ k hk=>?_) hM oX).mono ?_⟩
   ·have hb:¬fn.body=none:=(by cases hh:fn.body<;>simp[hh]at e2 ⊢);have e3' : ¬ fn.name = "runtime.NumGoroutine" := (by simpa using e3);simp[execOp,resolve,hfo,<- hops,Deferred.ofValue,invoke,callFunc,e1,e3',hb]
   ·simp[βc,List.getElem?_eq_none (show ae.length<=k by omega)]
   ·rintro e w' ⟨v',β1,I1,rfl,g1,g2,g3⟩;have⟨β',I',k1,k2,k3⟩:=adG (keep:=keep) h hn o4 o5 hnd hl ke g1 g2 g3;exact⟨v',β',I',rfl,k1,k2,k3⟩
  ·cases ha
 ·cases ha
end
def kF(P:Program)(i:Nat)(f:AV)(args:List AV)(cw:i6)(get:Nat->Option aU):Option Out:=
 match cw with
 | .s8 ae cL bs hs os' rv keep=>OE P i f args (.s8 ae cL bs hs os' rv keep) get
 |cw=>pK P i f args cw get
section
variable {P:Program} {w0:World} {O0:jz} {β:Nat->Option cE} {I:Nat->Prop} {obj:Nat->Option aU} {w:World} {i:Nat}
theorem WB(h:Mem P w0 O0 β I obj w)(hn:∀k,io (cy i) k->β k=none){f:AV}{args:List AV}{cw:i6}{get:Nat->Option aU}{ab:Out}(hg:∀k o,get k=some o->obj k=some o)
 {fv:Value} {vs:Array Value} {am:Array Operand} {fo:Operand} {r:Operand->Value} (ha:kF P i f args cw get=some ab) (cC:ab.ob) (hf:VR P β w I f fv) (hv:bj P β w I args vs.toList) (hfo:r fo=fv) (hops:vs=am.map r)
 {dst:Option Tmp} {aw:String} {after:Array Edge} {guard:Option (Nat×Bool)} {ty:TypeId} {cV:Array TypeId}:
 Cv P w0 O0 β I obj w i ab ((execOp r ⟨dst,.call { callee:= .value fo,args:=am,argTypes:=cV },ty,aw,after,guard⟩).run P w):=by
 unfold kF at ha;split at ha
 ·exact WA h hn hg ha cC hf hv hfo hops
 ·exact Wn h (hn _ (.inl rfl)) hg ha cC hf hv hfo hops
end
structure St where
 env:Nat->AV
 obj:Nat->Option aU
 ok:Nat->Option Bool
structure mj where
 cw:i6
 rd:List Nat
 wr:List Nat
 sym:Bool
def jK(P:Program)(T:dy)(i:Nat)(o:Oper)(cw:i6)(ρ:Operand->AV)(get:Nat->Option aU):Option Out:=
 match cw with
 | .ext n=>qb T i o n ρ get
 | .vx ae fr tP=>JY P T i o ae fr tP ρ get
 |cw=>match o.op with
  | .call { callee:= .value f,args:=args,argTypes:=_ }=>kF P i (ρ f) (args.toList.map ρ) cw get
  |_=>qH T i o cw ρ get
def Dn{α:Type}(env:Nat->α)(dst:Option Tmp)(v:α):Nat->α:=λt=>if dst=some t then v else env t
def St.app(σ:St)(dst:Option Tmp)(p:Out×Option Bool):St:=⟨Dn σ.env dst p.1.v,bW σ.obj p.1.upd,Dn σ.ok dst p.2⟩
def want(am:Array Oper)(o:Oper)(env:Nat->AV)(ok:Nat->Option Bool):Option Bool:=
 match o.guard with
 |none=>some true
 |some (j,b)=>match (am[j]?).bind (·.dst)with
  |some t=>match env t,ok t with
   | .t (.sc (.bool v)),none=>some (v==b)
   | .t (.sc (.bool v)),some g=>some (g&&(v==b))
   | .undef,some false=>some false
   |_,_=>none
  |none=>none
def zb(ok:Nat->Option Bool):Operand->List Prop
 | .tmp t=>match ok t with
  |none=>[]
  |some b=>[b=true]
 |_=>[]
def needs(env:Nat->AV)(ok:Nat->Option Bool)(o:Op):List Prop:=
 match o with
 | .pick c a b=>match lw env c with
  | .t (.sc (.bool e))=>zb ok c++((zb ok a).map (λ p=>e=true->p)++(zb ok b).map (λ p=>e=false->p))
  |_=>[False]
 |o=>o.operands.toList.flatMap (zb ok)
def dG(rd:List Nat)(obj:Nat->Option aU):Nat->Option aU:=λk=>if k∈rd then obj k else none
section
variable (P:Program) (T:dy) (am:Array Oper) (cQ:Nat->mj)
def opAt(i:Nat)(σ:St):Option (Out×Option Bool):=
 (am[i]?).bind λo=>(want am o σ.env σ.ok).bind λg=>match (cQ i).sym with
  |true=>(jK P T i o (cQ i).cw (lw σ.env) (dG (cQ i).rd σ.obj)).bind λab=>
   if ab.upd.isEmpty then some (⟨ab.v,[],(needs σ.env σ.ok o.op++ab.obs).map λp=>g=true->p⟩,some g)else none
  |false=>match g with
   |true=>(jK P T i o (cQ i).cw (lw σ.env) (dG (cQ i).rd σ.obj)).bind λab=>
    if ab.upd.all (λ p=>J2 i p.1 || (cQ i).wr.contains p.1)then some (⟨ab.v,ab.upd,needs σ.env σ.ok o.op++ab.obs⟩,none)else none
   |false=>some (⟨.undef,[],[]⟩,some false)
def vy(i:Nat)(K:St->Prop)(σ:St):Prop:=∃o ab,am[i]? =some o/\opAt P T am cQ i σ=some ab/\ab.1.ob/\K (σ.app o.dst ab)
def Ur(Q:St->Prop):List Nat->St->Prop
 |[],σ=>Q σ
 |i::r,σ=>vy P T am cQ i (Ur Q r) σ
def Cp(md:Region.Mode)(Q:St->Prop):Nat->Array Bool->St->Prop
 | 0,listed,σ=>Region.ready md am listed=[]/\Q σ
 |fuel+1,listed,σ=>(Region.ready md am listed=[]->Q σ)/\∀i∈Region.ready md am listed,vy P T am cQ i (Cp md Q fuel (listed.setIfInBounds i true)) σ
end
def zk(cQ:Nat->mj)(i j:Nat):Bool:=
 (cQ j).rd.all (λ k=>!J2 i k&&!(cQ i).wr.contains k)&&(!Nat.beq i j&&(cQ j).wr.all (λ k=>!J2 i k&&!(cQ i).wr.contains k)&&(cQ i).wr.all (λ k=>!J2 j k))&&(cQ i).rd.all (λ k=>!J2 j k&&!(cQ j).wr.contains k)
def Q8(md:Region.Mode)(am:Array Oper)(i:Nat):List Nat:=
 (List.range am.size).foldl (λ D j=>match am[j]? with
  |some oj=>bif oj.after.any (λ e=>Region.binds md e&&(e.on==i || D.contains e.on))then j::D else D
  |none=>D) []
def LI(md:Region.Mode)(am:Array Oper)(listed:Array Bool)(i j:Nat):Bool:=
 (Q8 md am i).contains j&&(Q8 md am i).all λd=>!listed.getD d true
def Q9(md:Region.Mode)(am:Array Oper)(cQ:Nat->mj)(listed:Array Bool)(i:Nat):Bool:=
 match am[i]? with
 |some oi=>(List.range am.size).all λj=>j==i || listed.getD j true || match am[j]? with
  |some oj=>oj.after.any (λ e=>Region.binds md e&&e.on==i) || (oi.apart am oj&&zk cQ i j) || LI md am listed i j
  |none=>true
 |none=>false
def lexFrom'(md:Region.Mode)(am:Array Oper)(cQ:Nat->mj):Nat->Nat->Array Bool->Bool
 | 0,_,listed=>(Region.ready md am listed).isEmpty
 |fuel+1,k,listed=>(Region.ready md am listed).contains k&&Q9 md am cQ listed k&&lexFrom' md am cQ fuel (k+1) (listed.setIfInBounds k true)
def Lz(am:Array Oper)(cQ:Nat->mj):Bool:=lexFrom' .any am cQ am.size 0 (Array.replicate am.size false)
section
variable {P:Program} {T:dy} {am:Array Oper} {cQ:Nat->mj} {md:Region.Mode} {Q:St->Prop}
theorem aki{i:Nat}{K K':St->Prop}{σ:St}(h:∀ σ,K σ->K' σ)(hh:vy P T am cQ i K σ):vy P T am cQ i K' σ:=
 let ⟨o,ab,h1,h2,h3,h4⟩:=hh
 ⟨o,ab,h1,h2,h3,h _ h4⟩
theorem OH{i:Nat}{o:Oper}{cw:i6}{ρ ρ':Operand->AV}{get:Nat->Option aU}(h:∀x∈o.op.operands,ρ x=ρ' x):jK P T i o cw ρ get=jK P T i o cw ρ' get:=by
 have hop:=Te (T:=T) (i:=i) (cw:=cw) (get:=get) h;unfold jK;split
 ·exact ZC h
 ·exact abQ h
 ·obtain⟨dst,op,ty,aw,after,guard⟩:=o;simp only at h ⊢;split
  ·rename_i f args cV;simp only[Op.operands,Call.operands]at h;have h1:args.toList.map ρ=args.toList.map ρ':=map_congr_left λx hx=>h x (by simp;exact .inr (by simpa using hx));rw[h1,h f (by simp)]
  ·exact hop
theorem aaG{i:Nat}{σ:St}{ab:Out×Option Bool}(h:opAt P T am cQ i σ=some ab):∀p∈ab.1.upd,J2 i p.1=true\/p.1∈(cQ i).wr:=by
 unfold opAt at h;cases ho:am[i]? with
 |none=>simp[ho]at h
 |some o=>
  simp only[ho,ah]at h;cases hw:want am o σ.env σ.ok with
  |none=>simp[hw]at h
  |some g=>
   simp only[hw,ah]at h;split at h
   ·cases ha:jK P T i o (cQ i).cw (lw σ.env) (dG (cQ i).rd σ.obj)with
    |none=>simp[ha]at h
    |some out'=>
     simp only[ha,ah]at h;split at h
     ·cases h;simp
     ·cases h
   ·split at h
    ·cases ha:jK P T i o (cQ i).cw (lw σ.env) (dG (cQ i).rd σ.obj)with
     |none=>simp[ha]at h
     |some out'=>
      simp only[ha,ah]at h;split at h
      ·rename_i hall;cases h;intro p hp;have:=all_eq_true.1 hall p hp;simpa using this
      ·cases h
    ·cases h;simp
theorem vS{obj:Nat->Option aU}:∀(upd:List (Nat×Option aU))(k:Nat),(∀ p∈upd,p.1≠k)->bW obj upd k=obj k
 |[],_,_=>rfl
 |(j,o)::r,k,h=>by
  simp only[bW];rw[aO (λ e=>h (j,o) (by simp) e.symm),vS r k (λ p hp=>h p (by simp[hp]))]
theorem Gx{obj nf:Nat->Option aU}:∀(upd:List (Nat×Option aU))(k:Nat),obj k=nf k->bW obj upd k=bW nf upd k
 |[],_,h=>h
 |(j,o)::r,k,h=>by simp only[bW,Gx r k h]
theorem adH{env env':Nat->AV}{ok ok':Nat->Option Bool}{o:Op}(h:∀t,.tmp t∈o.operands->env t=env' t/\ok t=ok' t):needs env ok o=needs env' ok' o:=by
 have h1:∀x∈o.operands,zb ok x=zb ok' x:=λx hx=>by
  cases x with
  |tmp t=>simp only[zb,(h t hx).2]
  |_=>rfl
 unfold needs;split
 ·rename_i c a b;have hc:lw env c=lw env' c:=by
   cases c with
   |tmp t=>exact(h t (by simp[Op.operands])).1
   |_=>rfl
  rw[hc,h1 c (by simp[Op.operands]),h1 a (by simp[Op.operands]),h1 b (by simp[Op.operands])]
 ·have:∀l:List Operand,(∀ x∈l,zb ok x=zb ok' x)->l.flatMap (zb ok)=l.flatMap (zb ok'):=by
   intro l
   induction l with
   |nil=>intro _;rfl
   |cons x xs ih=>intro hx;simp only[List.flatMap_cons,hx x (by simp),ih (λ y hy=>hx y (by simp[hy]))]
  exact this _ λx hx=>h1 x (by simpa using hx)
theorem adI{j:Nat}{oi oj:Oper}{ab:Out×Option Bool}{σ:St}(hj:am[j]? =some oj)(hd:∀d,oi.dst=some d->d∉oj.looksAt am)(hk:∀p∈ab.1.upd,p.1∉(cQ j).rd):
 opAt P T am cQ j (σ.app oi.dst ab)=opAt P T am cQ j σ:=by
 unfold opAt;simp only[hj,ah];have qq:∀t,t∈oj.looksAt am->(σ.app oi.dst ab).env t=σ.env t:=λt ht=>by
  simp only[St.app,Dn];rw[aO (λ e=>hd t e ht)]
 have GP:∀t,t∈oj.looksAt am->(σ.app oi.dst ab).ok t=σ.ok t:=λt ht=>by
  simp only[St.app,Dn];rw[aO (λ e=>hd t e ht)]
 have hw:want am oj (σ.app oi.dst ab).env (σ.app oi.dst ab).ok=want am oj σ.env σ.ok:=by
  unfold want;cases hg:oj.guard with
  |none=>rfl
  |some gw=>
   obtain⟨g,b⟩:=gw;cases ht:(am[g]?).bind (·.dst)with
   |none=>simp only[ht]
   |some t=>simp only[ht,qq t (by simp[Oper.looksAt,hg,ht]),GP t (by simp[Oper.looksAt,hg,ht])]
 have hget:dG (cQ j).rd (σ.app oi.dst ab).obj=dG (cQ j).rd σ.obj:=by
  funext k;simp only[dG];split
  ·rename_i hkr;exact vS _ _ (λ p hp e=>hk p hp (e ▸ hkr))
  ·rfl
 have hin:∀t,.tmp t∈oj.op.operands->t∈oj.looksAt am:=λt ht=>by simp only[Oper.looksAt];exact List.mem_append_left _ (List.mem_filterMap.2 ⟨.tmp t,by simpa using ht,rfl⟩)
 have hρ:jK P T j oj (cQ j).cw (lw (σ.app oi.dst ab).env) (dG (cQ j).rd σ.obj)=jK P T j oj (cQ j).cw (lw σ.env) (dG (cQ j).rd σ.obj):=by
  refine OH λx hx=>?_;cases x with
  |tmp t=>exact qq t (hin t hx)
  |_=>rfl
 have hnd:needs (σ.app oi.dst ab).env (σ.app oi.dst ab).ok oj.op=needs σ.env σ.ok oj.op:=adH λt ht=>⟨qq t (hin t ht),GP t (hin t ht)⟩;rw[hw,hget,hρ,hnd]
theorem akj{σ:St}{di dj:Option Tmp}{a b:Out×Option Bool}(hd:∀d,di=some d->dj≠some d)(hk:∀p∈a.1.upd,∀q∈b.1.upd,p.1≠q.1):(σ.app di a).app dj b=(σ.app dj b).app di a:=by
 have slot:∀{α:Type} (e:Nat->α) (x y:α),Dn (Dn e di x) dj y=Dn (Dn e dj y) di x:=λe x y=>by
  funext t;simp only[Dn];by_cases h1:dj=some t
  ·rw[aP h1,aO (λ e=>hd t e h1),aP h1]
  ·rw[aO h1,aO h1]
 simp only[St.app,St.mk.injEq];refine⟨slot _ _ _,?_,slot _ _ _⟩;funext k;by_cases h1:∃p∈a.1.upd,p.1=k
 ·obtain⟨p,hp,e⟩:=h1;rw[vS b.1.upd k (λ q hq e2=>hk p hp q hq (e.trans e2.symm))];exact Gx _ _ (vS b.1.upd k (λ q hq e2=>hk p hp q hq (e.trans e2.symm))).symm
 ·have h2:∀p∈a.1.upd,p.1≠k:=λp hp e=>h1 ⟨p,hp,e⟩;rw[vS a.1.upd k h2];exact Gx _ _ (vS a.1.upd k h2)
theorem alZ{i j:Nat}{oi oj:Oper}{ab:Out×Option Bool}{σ:St}{K:St->Prop}(hi:am[i]? =some oi)(hj:am[j]? =some oj)(hap:oi.apart am oj=true)(hfp:zk cQ i j=true)
 (hy:opAt P T am cQ i σ=some ab) (h:vy P T am cQ j K (σ.app oi.dst ab)):
 vy P T am cQ j (λ σ'=>opAt P T am cQ i σ'=some ab/\K (σ'.app oi.dst ab)) σ:=by
 obtain⟨a1,a2,a3⟩:=Oper.apart_spec hap;simp only[zk,aJ]at hfp;obtain⟨⟨f1,⟨f0,f2⟩,f2'⟩,f3⟩:=hfp;have hij:i≠j:=by intro e;subst e;rw[show Nat.beq i i=true from Nat.beq_refl i]at f0;cases f0
 have ki:=aaG hy;have no:∀(a:Nat)(l wr:List Nat)(k:Nat),(l.all λk=>!J2 a k&&!wr.contains k)=true->(J2 a k=true\/k∈wr)->k∈l->False:=by
  intro a l wr k h hk hl;have:=all_eq_true.1 h k hl;simp only[aJ,Bool.not_eq_true']at this;rcases hk with hk |hk
  ·rw[hk]at this;exact absurd this.1 (by simp)
  ·have h2:=this.2;simp[hk]at h2
 obtain⟨o,N2,g1,g2,g3,g4⟩:=h;rw[hj]at g1;cases g1;rw[adI hj a1 (λ p hp hr=>no _ _ _ _ f1 (ki p hp) hr)]at g2;have kj:=aaG g2;have both:∀k,(J2 i k=true\/k∈(cQ i).wr)->(J2 j k=true\/k∈(cQ j).wr)->False:=by
  intro k h1 h2;rcases h2 with h2 |h2
  ·rcases h1 with h1 |h1
   ·simp only[J2,aJ,beq_iff_eq]at h1 h2;exact hij (h1.2.symm.trans h2.2)
   ·have:=all_eq_true.1 f2' k h1;rw[h2]at this;exact absurd this (by simp)
  ·exact no _ _ _ _ f2 h1 h2
 refine⟨oj,N2,hj,g2,g3,?_,?_⟩
 ·rw[adI hi a3 (λ p hp hr=>no _ _ _ _ f3 (kj p hp) hr)];exact hy
 ·rw[<- akj a2 (λ p hp q hq e=>both p.1 (ki p hp) (e ▸ kj q hq))];exact g4
theorem adJ{i:Nat}:∀d∈Q8 md am i,∃od,am[d]? =some od/\∃e∈od.after,Region.binds md e=true/\(e.on=i\/e.on∈Q8 md am i):=by
 have main:∀(l:List Nat)(D0:List Nat),(∀ d∈D0,∃od,am[d]? =some od/\∃e∈od.after,Region.binds md e=true/\(e.on=i\/e.on∈D0))->
  ∀d∈l.foldl (λ D j=>match am[j]? with
   |some oj=>bif oj.after.any (λ e=>Region.binds md e&&(e.on==i || D.contains e.on))then j::D else D
   |none=>D) D0,∃od,am[d]? =some od/\∃e∈od.after,Region.binds md e=true/\(e.on=i\/e.on∈l.foldl (λ D j=>match am[j]? with
   |some oj=>bif oj.after.any (λ e=>Region.binds md e&&(e.on==i || D.contains e.on))then j::D else D
   |none=>D) D0):=by
  intro l
  induction l with
  |nil=>intro D0 h;exact h
  |cons j l ih=>
   intro D0 h;simp only[List.foldl_cons];refine ih _ ?_;cases hj:am[j]? with
   |none=>exact h
   |some oj=>
    simp only;cases hb:oj.after.any (λ e=>Region.binds md e&&(e.on==i || D0.contains e.on))with
    |false=>simp only[ak];exact h
    |true=>
     simp only[aj];intro d hd;rcases aN.1 hd with rfl |hd
     ·obtain⟨e,he,hb'⟩:=Array.any_eq_true'.1 hb;simp only[aJ,Bool.or_eq_true,beq_iff_eq,List.contains_iff_mem]at hb';exact⟨oj,hj,e,he,hb'.1,hb'.2.imp id λh=>dS _ h⟩
     ·have⟨od,g1,e,g2,g3,g4⟩:=h d hd;exact⟨od,g1,e,g2,g3,g4.imp id λh=>dS _ h⟩
 exact main _ [] (λ d hd=>by simp at hd)
theorem Tm{i:Nat}{oi:Oper}{listed:Array Bool}(hi:am[i]? =some oi)(h:Q9 md am cQ listed i=true)(j:Nat)(oj:Oper)(hj:am[j]? =some oj)(hne:j≠i)(hun:listed.getD j true=false)
 (hno:∀e∈oj.after,Region.binds md e=true->e.on≠i):(oi.apart am oj=true/\zk cQ i j=true)\/LI md am listed i j=true:=by
 simp only[Q9,hi,all_eq_true,List.mem_range]at h;have h1:=h j (Array.getElem?_eq_some_iff.1 hj).1;simp only[hj,Bool.or_eq_true,beq_iff_eq,hne,false_or,hun,Bool.false_eq_true,aJ]at h1;rcases h1 with (h1 |h1) |h1
 ·obtain⟨e,he,hb⟩:=Array.any_eq_true'.1 h1;simp only[aJ,beq_iff_eq]at hb;exact absurd hb.2 (hno e he hb.1)
 ·exact .inl h1
 ·exact .inr h1
theorem WC{i:Nat}{oi:Oper}{ab:Out×Option Bool}(D:List Nat)(hi:am[i]? =some oi)(hD:∀d∈D,∃od,am[d]? =some od/\∃e∈od.after,Region.binds md e=true/\(e.on=i\/e.on∈D)):
 ∀(fuel:Nat) (listed:Array Bool) (σ:St),(∀ d∈D,listed.getD d true=false)->
  (∀ j oj,am[j]? =some oj->j≠i->listed.getD j true=false->j∉D->(∀ e∈oj.after,Region.binds md e=true->e.on≠i)->oi.apart am oj=true/\zk cQ i j=true)->
  i∈Region.ready md am listed->opAt P T am cQ i σ=some ab->ab.1.ob->
  Cp P T am cQ md Q fuel (listed.setIfInBounds i true) (σ.app oi.dst ab)->Cp P T am cQ md Q (fuel+1) listed σ:=by
 intro fuel
 induction fuel with
 |zero=>
  intro listed σ _ _ hr hy cC H;refine⟨λ h=>(by rw[h]at hr;cases hr),λj hj=>?_⟩;by_cases hji:j=i
  ·subst hji;exact⟨oi,ab,hi,hy,cC,H⟩
  ·have:=ready_mono hj hji;rw[H.1]at this;cases this
 |succ fuel ih=>
  intro listed σ hDu hfree hr hy cC H;refine⟨λ h=>(by rw[h]at hr;cases hr),λj hj=>?_⟩;by_cases hji:j=i
  ·subst hji;exact⟨oi,ab,hi,hy,cC,H⟩
  ·have h1:=H.2 j (ready_mono hj hji);obtain⟨hjun,oj,hoj,hall⟩:=mem_ready.1 hj;have hnl:∀k,listed.getD k true=false->∀e∈oj.after,Region.binds md e=true->e.on≠k:=λk h0 e he hb heq=>by
    have h1:=hall e he hb;rw[heq]at h1;rcases Nat.lt_or_ge k listed.size with h' |h'
    ·simp[h']at h0 h1;rw[h0]at h1;cases h1
    ·simp[Array.getElem?_eq_none h']at h1
   have hnot:∀e∈oj.after,Region.binds md e=true->e.on≠i:=hnl i (mem_ready.1 hr).1;have IN:j∉D:=λhm=>by
    have⟨od,g1,e,g2,g3,g4⟩:=hD j hm;rw[hoj]at g1;cases g1;rcases g4 with g4 |g4
    ·exact hnot e g2 g3 g4
    ·exact hnl _ (hDu _ g4) e g2 g3 rfl
   have⟨hap,hfp⟩:=hfree j oj hoj hji hjun IN hnot;have h2:=alZ hi hoj hap hfp hy h1
   have hfree':∀k ok,am[k]? =some ok->k≠i->(listed.setIfInBounds j true).getD k true=false->k∉D->
    (∀ e∈ok.after,Region.binds md e=true->e.on≠i)->oi.apart am ok=true/\zk cQ i k=true:=λk ok hk hki hun hkD hno=>by
    refine hfree k ok hk hki ?_ hkD hno;by_cases hjk:j=k
    ·subst hjk;exact hjun
    ·rw[getD_set_ne true hjk]at hun;exact hun
   have RE:∀d∈D,(listed.setIfInBounds j true).getD d true=false:=λd hd=>by
    have hne:j≠d:=λe=>IN (by rw[e];exact hd);rw[getD_set_ne true hne];exact hDu d hd
   refine aki (λ σ' h3=>ih (listed.setIfInBounds j true) σ' RE hfree' (ready_mono hr (Ne.symm hji)) h3.1 cC ?_) h2;rw[Array.setIfInBounds_comm _ _ hji];exact h3.2
theorem adK:∀(n k:Nat) (listed:Array Bool) (σ:St),lexFrom' md am cQ n k listed=true->Ur P T am cQ Q ((List.range n).map (k+ ·)) σ->Cp P T am cQ md Q n listed σ
 | 0,k,listed,σ,hB,h=>⟨by simpa[lexFrom']using hB,by simpa[Ur]using h⟩
 |n+1,k,listed,σ,hB,h=>by
  simp only[lexFrom',aJ]at hB;obtain⟨⟨hr,hfp⟩,hB'⟩:=hB;rw[List.range_succ_eq_map,aC,List.map_map]at h;simp only[Ur,Nat.add_zero]at h;obtain⟨o,ab,h1,h2,h3,h4⟩:=h;have fin:Cp P T am cQ md Q n (listed.setIfInBounds k true) (σ.app o.dst ab)->Cp P T am cQ md Q (n+1) listed σ:=by
   intro H;cases hd:(Q8 md am k).all λd=>!listed.getD d true with
   |true=>
    refine WC (Q8 md am k) h1 adJ n listed σ (λ d hd'=>by simpa using all_eq_true.1 hd d hd') (λ j oj hj hne hun IN hno=>?_) (by simpa using hr) h2 h3 H;rcases Tm h1 hfp j oj hj hne hun hno with h |h
    ·exact h
    ·simp only[LI,aJ,List.contains_iff_mem]at h;exact absurd h.1 IN
   |false=>
    refine WC [] h1 (λ d hd'=>by simp at hd') n listed σ (λ d hd'=>by simp at hd') (λ j oj hj hne hun _ hno=>?_) (by simpa using hr) h2 h3 H;rcases Tm h1 hfp j oj hj hne hun hno with h |h
    ·exact h
    ·simp only[LI,aJ]at h;rw[h.2]at hd;cases hd
  refine fin ?_;refine adK n (k+1) _ _ hB' ?_;have e:(λ x=>k+x)∘Nat.succ=λx=>k+1+x:=by funext x;simp only[Function.comp];omega
  rw[e]at h4;exact h4
end
def eM(P:Program)(β:Nat->Option cE)(w:World)(I:Nat->Prop)(x:AV)(ok:Option Bool)(v:Value):Prop:=
 match ok with
 |none=>VR P β w I x v
 |some b=>(b=true->VR P β w I x v)/\(b=false->v=undef)
theorem eM.mono{P:Program}{β β':Nat->Option cE}{w w':World}{I I':Nat->Prop}(hb:∀k B,β k=some B->β' k=some B)(hs:Same I w w')(hi:∀b,I b->I' b){x:AV}{ok:Option Bool}{v:Value}(h:eM P β w I x ok v):eM P β' w' I' x ok v:=by
 cases ok with
 |none=>exact VR.mono hb hs hi _ _ h
 |some b=>exact⟨λ hh=>VR.mono hb hs hi _ _ (h.1 hh),h.2⟩
structure Rel(P:Program)(w0:World)(O0:jz)(N:Nat)(β:Nat->Option cE)(I:Nat->Prop)(σ:St)(a:Act)(w:World):Prop where
 defers:a.defers=[]
 size:a.tmps.size=N
 env:∀t,eM P β w I (σ.env t) (σ.ok t) (a.tmps.getD t undef)
 mem:Mem P w0 O0 β I σ.obj w
section
variable {P:Program} {T:dy} {w0:World} {O0:jz} {N:Nat} {β:Nat->Option cE} {I:Nat->Prop} {σ:St} {a:Act} {w:World} {am:Array Oper} {cQ:Nat->mj}
def Fr(un:Nat->Prop)(β:Nat->Option cE):Prop:=∀i k,un i->io (cy i) k->β k=none
theorem WF(hgv:kh w I){x:Operand}(h:∀t,x= .tmp t->VR P β w I (σ.env t) (a.tmps.getD t undef)):VR P β w I (lw σ.env x) (a.eval x):=by
 cases x with
 |tmp t=>exact h t rfl
 |const v=>exact VR.cv
 |global g=>
  simp only[lw];split
  ·rename_i row hg;simp only[VR,Act.eval];exact⟨g,0,rfl,(hgv.1 g row hg).1,(hgv.1 g row hg).2⟩
  ·simp[VR]
 |func f=>simp only[lw,VR,Act.eval];exact⟨#[],#[],rfl,by simp[bj],by simp[bj]⟩
theorem Cw(hr:Rel P w0 O0 N β I σ a w){x:Operand}(h:∀p∈zb σ.ok x,p):VR P β w I (lw σ.env x) (a.eval x):=by
 refine WF hr.mem.vars λt hx=>?_;subst hx;have h1:=hr.env t;simp only[zb]at h;cases hk:σ.ok t with
 |none=>rw[hk]at h1;exact h1
 |some b=>rw[hk]at h1 h;exact h1.1 (h _ (by simp))
theorem af5(hT:eZ P T){i:Nat}{o:Oper}{cw:i6}{rd:List Nat}{ab:Out}(hr:Rel P w0 O0 N β I σ a w)(hn:∀k,io (cy i) k->β k=none)(ha:jK P T i o cw (lw σ.env) (dG rd σ.obj)=some ab)
 (cC:ab.ob) (hnd:∀p∈needs σ.env σ.ok o.op,p):qu P w0 O0 β I σ.obj w i ab ((execOp a.eval o).run P w)\/Cv P w0 O0 β I σ.obj w i ab ((execOp a.eval o).run P w):=by
 have hg:∀k ob,dG rd σ.obj k=some ob->σ.obj k=some ob:=λk ob hk=>by
  simp only[dG]at hk;split at hk
  ·exact hk
  ·cases hk
 by_cases hp:∃c x y,o.op= .pick c x y
 ·obtain⟨c,x,y,he⟩:=hp;obtain⟨dst,op,ty,aw,after,guard⟩:=o;simp only at he;subst he;have ha:qH T i ⟨dst,.pick c x y,ty,aw,after,guard⟩ cw (lw σ.env) (dG rd σ.obj)=some ab:=by
   unfold jK at ha;split at ha
   ·cases ha
   ·cases ha
   ·exact ha
  simp only[qH]at ha;simp only[needs]at hnd;split at ha
  ·rename_i t hc;rw[hc]at hnd;simp only[pv,aA]at ha;subst ha;have h1:=Cw hr (x:=c) (λ p hp=>hnd p (by simp[hp]));rw[hc]at h1;simp only[VR,TR]at h1;refine .inl ⟨if t then a.eval x else a.eval y,w,β,I,.inl ?_,Step.refl ..,hr.mem,?_⟩
   ·simp only[execOp,h1.1,asBool];simp
   ·rw[V5];cases t
    ·exact Cw hr λp hp=>hnd (false=false->p) (by simp only[aX,mem_map];exact .inr (.inr ⟨p,hp,rfl⟩)) rfl
    ·exact Cw hr λp hp=>hnd (true=true->p) (by simp only[aX,mem_map];exact .inr (.inl ⟨p,hp,rfl⟩)) rfl
  ·cases ha
 ·have hnd':∀x∈o.op.operands,∀p∈zb σ.ok x,p:=λx hx p hp'=>hnd p (by
   unfold needs;split
   ·rename_i c x y he;exact absurd ⟨c,x,y,he⟩ hp
   ·exact List.mem_flatMap.2 ⟨x,by simpa using hx,hp'⟩)
  have hρ:∀x,VR P β w I ((λ x=>open Classical in if x∈o.op.operands then lw σ.env x else .undef) x) (a.eval x):=λx=>by
   by_cases hx:x∈o.op.operands
   ·simp only[hx,if_true];exact Cw hr (hnd' x hx)
   ·simp only[hx,if_false,VR]
  rw[OH (ρ':=λx=>open Classical in if x∈o.op.operands then lw σ.env x else .undef) (λ x hx=>by simp only[hx,if_true])]at ha;generalize (λ x=>open Classical in if x∈o.op.operands then lw σ.env x else AV.undef)=ρ at ha hρ;unfold jK at ha;split at ha
  ·exact .inl (ZG hT hr.mem (hn _ (.inl rfl)) hg hρ ha cC)
  ·exact .inl (abT hT hr.mem (hn _ (.inl rfl)) hg hρ ha cC)
  ·split at ha
   ·rename_i f args cV heq;obtain⟨dst,op,ty,aw,after,guard⟩:=o;simp only at heq;subst heq;exact .inr (WB hr.mem hn hg ha cC (hρ f) (by rw[Array.toList_map];exact bj.map hρ _) rfl rfl)
   ·exact .inl (Ta hT hr.mem (hn _ (.inl rfl)) hg hρ ha cC)
theorem aiG(hr:Rel P w0 O0 N β I σ a w){o:Oper}{b:Bool}(hb:want am o σ.env σ.ok=some b):Region.wanted o (yielded am a.tmps)=b:=by
 unfold want at hb;unfold Region.wanted;cases hg:o.guard with
 |none=>simp only[hg,aA]at hb ⊢;exact hb
 |some gw=>
  obtain⟨g,bw⟩:=gw;simp only[hg]at hb ⊢;unfold yielded;cases ht:(am[g]?).bind (·.dst)with
  |none=>simp[ht]at hb
  |some t=>
   simp only[ht]at hb;have he:=hr.env t;have val:∀v:Bool,a.tmps.getD t undef= .bool v->a.tmps[t]? =some (.bool v):=λv hv=>by
    cases hh:a.tmps[t]? with
    |none=>simp[hh,undef]at hv
    |some u=>simp[hh]at hv;rw[hv]
   split at hb
   ·rename_i v e1 e2;rw[e1,e2]at he;simp only[eM,VR,TR]at he;cases hb;simp only[ah,val v he.1];cases v<;>cases bw<;>rfl
   ·rename_i v q e1 e2;rw[e1,e2]at he;simp only[eM,VR,TR]at he;cases hb;cases q with
    |true=>
     simp only[ah,val v (he.1 rfl).1];cases v<;>cases bw<;>rfl
    |false=>
     have h0:=he.2 rfl;simp only[ah];cases hh:a.tmps[t]? with
     |none=>simp
     |some u=>simp[hh,undef]at h0;subst h0;simp
   ·rename_i e1 e2;rw[e1,e2]at he;cases hb;have h0:=he.2 rfl;simp only[ah];cases hh:a.tmps[t]? with
    |none=>simp
    |some u=>simp[hh,undef]at h0;subst h0;simp
   ·cases hb
theorem OI:∀(l:List Prop),j5 l->∀p∈l,p
 |[],_,_,hp=>by simp at hp
 |[q],h,p,hp=>by rw[aY]at hp;rw[hp];exact h
 |q::r::l,h,p,hp=>by
  rcases aN.1 hp with e |hp
  ·rw[e];exact h.1
  ·exact OI (r::l) h.2 p hp
theorem Tn(hT:eZ P T){i:Nat}{K:St->Prop}{Q:Exit->Act->World->Prop}{K':Act->World->Prop}{un:Nat->Prop}(hd:∀(j:Nat)(o:Oper)(d:Tmp),am[j]? =some o->o.dst=some d->d<N)
 (hr:Rel P w0 O0 N β I σ a w) (hf:Fr un β) (hi:un i)
 (hK:∀ σ' a' w' β' I',Rel P w0 O0 N β' I' σ' a' w'->Fr (λ j=>un j/\j≠i) β'->K σ'->K' a' w') (h:vy P T am cQ i K σ):wpOp P am Q i K' a w:=by
 obtain⟨o,⟨ab,N3⟩,h1,h2,h3,h4⟩:=h;have put:∀(v':Value) (w':World) (β':Nat->Option cE) (I':Nat->Prop),Step β I w (cy i) β' I' w'->Mem P w0 O0 β' I' (bW σ.obj ab.upd) w'->eM P β' w' I' ab.v N3 v'->K' (a.put o.dst v') w':=by
  intro v' w' β' I' k1 k2 k3;refine hK (σ.app o.dst (ab,N3)) _ w' β' I' ⟨?_,?_,?_,k2⟩ ?_ h4
  ·cases hdst:o.dst<;>simp[Act.put,hr.defers]
  ·cases hdst:o.dst<;>simp[Act.put,hr.size]
  ·intro t;have hold:=eM.mono k1.ext k1.same k1.inc (hr.env t);simp only[St.app,Dn];cases hdst:o.dst with
   |none=>simpa[Act.put]using hold
   |some d=>
    simp only[Act.put,aA];by_cases hdt:d=t
    ·subst hdt;rw[aP rfl,aP rfl];have hlt:d<a.tmps.size:=Nat.lt_of_lt_of_eq (hd i o d h1 hdst) hr.size.symm;have e:(a.tmps.setIfInBounds d v').getD d undef=v':=(by simp[hlt]);rw[e];exact k3
    ·rw[aO hdt,aO hdt];simpa[Array.getElem?_setIfInBounds_ne hdt]using hold
  ·intro j k hj hk;rw[k1.other k (by have:=hj.2;simp only[io,cy]at hk ⊢;omega)];exact hf j k hj.1 hk
 unfold opAt at h2;simp only[h1,ah]at h2;unfold wpOp;simp only[h1];have hn:=λk=>hf i k hi;cases hw:want am o σ.env σ.ok with
 |none=>simp[hw]at h2
 |some g=>
  simp only[hw,ah]at h2;rw[aiG hr hw]
  have run:∀(out':Out),jK P T i o (cQ i).cw (lw σ.env) (dG (cQ i).rd σ.obj)=some out'->(∀ p∈needs σ.env σ.ok o.op++out'.obs,p)->out'.v=ab.v->(out'.upd=ab.upd)->(∀ β' w' I' v',VR P β' w' I' ab.v v'->eM P β' w' I' ab.v N3 v')->
   o.wp P a w K' Q:=by
   intro out' ha cC e1 e2 rj;have RK:=af5 hT hr hn ha (rW _ λp hp=>cC p (by simp[hp])) (λ p hp=>cC p (by simp[hp]));unfold Oper.wp;rcases RK with ⟨v',w',β',I',hrun,k1,k2,k3⟩ |⟨F,args,hrun,As⟩
   ·rw[e1]at k3;rw[e2]at k2;rcases hrun with hrun |⟨hrun,rfl⟩
    ·rw[hrun];exact put v' w' β' I' k1 k2 (rj _ _ _ _ k3)
    ·rw[hrun];exact put _ w' β' I' k1 k2 (rj _ _ _ _ k3)
   ·rw[hrun];refine As.mono ?_;rintro e w' ⟨v',β',I',rfl,k1,k2,k3⟩;rw[e1]at k3;rw[e2]at k2;exact put v' w' β' I' k1 k2 (rj _ _ _ _ k3)
  split at h2
  ·cases ha:jK P T i o (cQ i).cw (lw σ.env) (dG (cQ i).rd σ.obj)with
   |none=>simp[ha]at h2
   |some out'=>
    simp only[ha,ah]at h2;split at h2
    ·rename_i hem;simp only[aA,Prod.mk.injEq]at h2;obtain⟨rfl,rfl⟩:=h2;have z7:out'.upd=[]:=(by simpa using hem);have h3:=OI _ h3;cases g with
     |true=>
      simp only[if_true];refine .inl (run out' ha (λ p hp=>h3 (true=true->p) (mem_map.2 ⟨p,hp,rfl⟩) rfl) rfl z7 λ_ _ _ _ hv=>⟨λ _=>hv,λh=>by cases h⟩)
     |false=>
      simp only[Bool.false_eq_true,if_false];exact put _ w β I (Step.refl ..) hr.mem ⟨λ h=>(by cases h),λ_=>rfl⟩
    ·cases h2
  ·split at h2
   ·cases ha:jK P T i o (cQ i).cw (lw σ.env) (dG (cQ i).rd σ.obj)with
    |none=>simp[ha]at h2
    |some out'=>
     simp only[ha,ah]at h2;split at h2
     ·simp only[aA,Prod.mk.injEq]at h2;obtain⟨rfl,rfl⟩:=h2;simp only[if_true];exact .inl (run out' ha (OI _ h3) rfl rfl λ_ _ _ _ hv=>hv)
     ·cases h2
   ·simp only[aA,Prod.mk.injEq]at h2;obtain⟨rfl,rfl⟩:=h2;simp only[Bool.false_eq_true,if_false];exact put _ w β I (Step.refl ..) hr.mem ⟨λ h=>(by cases h),λ_=>rfl⟩
theorem MZ(hT:eZ P T){md:Region.Mode}{Q:St->Prop}{Q':Exit->Act->World->Prop}(hd:∀(j:Nat)(o:Oper)(d:Tmp),am[j]? =some o->o.dst=some d->d<N)
 (hQ:∀ σ a w β I,Rel P w0 O0 N β I σ a w->Q σ->Q' .normal a w):∀(fuel:Nat) (listed:Array Bool) (σ:St) (a:Act) (w:World) (β:Nat->Option cE) (I:Nat->Prop),Rel P w0 O0 N β I σ a w->
  Fr (λ j=>listed.getD j true=false) β->Cp P T am cQ md Q fuel listed σ->wpAny P md am Q' fuel listed a w
 | 0,_,_,_,_,_,_,hr,_,h=>⟨h.1,hQ _ _ _ _ _ hr h.2⟩
 |fuel+1,listed,σ,a,w,β,I,hr,hf,h=>by
  refine⟨λ h0=>hQ _ _ _ _ _ hr (h.1 h0),λi hi=>?_⟩;have hun:listed.getD i true=false:=(mem_ready.1 hi).1;refine Tn hT hd hr hf hun (λ σ' a' w' β' I' hr' hf' hK=>?_) (h.2 i hi);refine MZ hT hd hQ fuel _ σ' a' w' β' I' hr' (λ j k hj hk=>hf' j k ?_ hk) hK;have hj:(listed.setIfInBounds i true).getD j true=false:=hj;by_cases hji:i=j
  ·subst hji;rcases Nat.lt_or_ge i listed.size with h1 |h1
   ·simp[h1]at hj
   ·simp[Array.getElem?_eq_none h1]at hun
  ·rw[getD_set_ne true hji]at hj;exact⟨hj,λe=>hji e.symm⟩
theorem M0(hT:eZ P T){Q:St->Prop}{Q':Exit->Act->World->Prop}(hd:∀(j:Nat)(o:Oper)(d:Tmp),am[j]? =some o->o.dst=some d->d<N)
 (hQ:∀ σ a w β I,Rel P w0 O0 N β I σ a w->Q σ->Q' .normal a w):∀(l:List Nat) (σ:St) (a:Act) (w:World) (β:Nat->Option cE) (I:Nat->Prop),l.Nodup->Rel P w0 O0 N β I σ a w->
  Fr (λ j=>j∈l) β->Ur P T am cQ Q l σ->wpOps P am Q' l a w
 |[],_,_,_,_,_,_,hr,_,h=>hQ _ _ _ _ _ hr h
 |i::l,σ,a,w,β,I,hn,hr,hf,h=>by
  rw[wpOps_cons];refine Tn hT hd hr hf (by simp) (λ σ' a' w' β' I' hr' hf' hK=>?_) h;refine M0 hT hd hQ l σ' a' w' β' I' (List.nodup_cons.1 hn).2 hr' (λ j k hj hk=>hf' j k ⟨by simp[hj],λe=>?_⟩ hk) hK;subst e;exact(List.nodup_cons.1 hn).1 hj
def Mz(N:Nat)(am:Array Oper):Bool:=am.all λo=>match o.dst with |some d=>decide (d<N) |none=>true
theorem Tp(h:Mz N am=true)(j:Nat)(o:Oper)(d:Tmp)(hj:am[j]? =some o)(hd:o.dst=some d):d<N:=by
 have:=Array.all_eq_true_iff_forall_mem.1 h o (Array.mem_of_getElem? hj);simpa[hd]using this
structure sy(σ:St):Prop where
 env:∀t k,k∈refs (σ.env t)->k<1000000
 obj:∀k o,σ.obj k=some o->k<1000000/\∀r∈o.rows,∀x∈r,∀j∈refs x,j<1000000
mutual
theorem VR.restrict{β':Nat->Option cE}(h:∀k,k<1000000->β' k=β k):∀(x:AV)(v:Value),(∀ k∈refs x,k<1000000)->VR P β w I x v->VR P β' w I x v
 | .t _,_,_,hv=>by simpa[VR]using hv
 | .agg cs,_,hk,hv=>by
  simp only[VR]at hv ⊢;obtain⟨vs,h1,h2⟩:=hv;exact⟨vs,h1,bj.restrict h cs _ (by simpa[refs]using hk) h2⟩
 | .fi cs,_,hk,hv=>by
  simp only[VR]at hv ⊢;obtain⟨vs,h1,h2⟩:=hv;exact⟨vs,h1,bj.restrict h cs _ (by simpa[refs]using hk) h2⟩
 | .own k _ _,_,hk,hv=>by simp only[VR,h k (hk k (by simp[refs]))]at hv ⊢;exact hv
 | .ptr k _ _,_,hk,hv=>by simp only[VR,h k (hk k (by simp[refs]))]at hv ⊢;exact hv
 | .eo _ _,_,_,hv=>by simpa[VR]using hv
 | .fn f first caps,_,hk,hv=>by
  simp only[VR]at hv ⊢;obtain⟨fs,cs,h1,h2,h3⟩:=hv;exact⟨fs,cs,h1,bj.restrict h first _ (λ k hk'=>hk k (by simp[refs,hk'])) h2,bj.restrict h caps _ (λ k hk'=>hk k (by simp[refs,hk'])) h3⟩
 | .cT _,_,_,hv=>by simpa[VR]using hv
 | .mp k,_,hk,hv=>by simp only[VR,h k (hk k (by simp[refs]))]at hv ⊢;exact hv
 | .oz k _,_,hk,hv=>by simp only[VR,h k (hk k (by simp[refs]))]at hv ⊢;exact hv
 | .cM,_,_,hv=>by simpa[VR]using hv
 | .ub,_,_,hv=>by simpa[VR]using hv
 | .undef,_,_,_=>by simp[VR]
theorem bj.restrict{β':Nat->Option cE}(h:∀k,k<1000000->β' k=β k):∀(xs:List AV)(vs:List Value),(∀ k∈eH xs,k<1000000)->bj P β w I xs vs->bj P β' w I xs vs
 |[],[],_,_=>by simp[bj]
 |x::xs,v::vs,hk,hv=>by
  simp only[bj]at hv ⊢;exact⟨VR.restrict h x v (λ k hk'=>hk k (by simp[eH,hk'])) hv.1,bj.restrict h xs vs (λ k hk'=>hk k (by simp[eH,hk'])) hv.2⟩
 |[],_::_,_,hv=>by simp[bj]at hv
 |_::_,[],_,hv=>by simp[bj]at hv
end
theorem aaH:∀{xs:List AV}{k:Nat},k∈eH xs->∃x∈xs,k∈refs x
 |[],_,h=>by simp[eH]at h
 |x::xs,k,h=>by
  simp only[eH,aX]at h;rcases h with h |h
  ·exact⟨x,by simp,h⟩
  ·have⟨y,h1,h2⟩:=aaH h;exact⟨y,by simp[h1],h2⟩
theorem Rel.restrict(ho:sy σ)(hr:Rel P w0 O0 N β I σ a w):Rel P w0 O0 N (λ k=>if k<1000000 then β k else none) I σ a w:=by
 have hb:∀k,k<1000000->(λ k=>if k<1000000 then β k else none) k=β k:=λk hk=>by simp[hk]
 have rj:∀t,eM P (λ k=>if k<1000000 then β k else none) w I (σ.env t) (σ.ok t) (a.tmps.getD t undef):=λt=>by
  have h1:=hr.env t;cases hk:σ.ok t with
  |none=>rw[hk]at h1;exact VR.restrict hb _ _ (ho.env t) h1
  |some b=>rw[hk]at h1;exact⟨λ h=>VR.restrict hb _ _ (ho.env t) (h1.1 h),h1.2⟩
 refine⟨hr.defers,hr.size,rj,?_⟩;have hm:=hr.mem;constructor
 ·intro k o hk;have⟨B,hB,hO⟩:=hm.cH k o hk;have⟨h1,h2⟩:=ho.obj k o hk;refine⟨B,by simp only[h1,if_true];exact hB,?_⟩;cases B with
  |none=>exact hO
  | «at» b s n=>
   obtain⟨g1,c,e,g2,g3,g4⟩:=hO;refine⟨g1,c,e,g2,g3,?_⟩;rw[tu]at g4 ⊢;intro i r hir;have⟨q1,q2⟩:=g4 i r hir;refine⟨q1,?_⟩;rw[lM]at q2 ⊢;intro j x hx;have⟨v,p1,p2,p3⟩:=q2 j x hx;exact⟨v,p1,VR.restrict hb _ _ (h2 r (cB hir) x (cB hx)) p2,p3⟩
  |mp b=>
   obtain⟨es,cl,g1,gl,g2,g3⟩:=hO;refine⟨es,cl,g1,gl,λe=>cA.tell rfl (λ j r q' a b vs hv=>?_) (g2 e),g3⟩;rw[a]at b;cases b;exact bj.restrict hb _ _ (λ k hk=>by
    have⟨x,hx,hk⟩:=aaH hk;exact h2 r (cB a) x hx k hk) hv
 ·intro k k' o o' B B' b h1 h2 h3 h4;simp only[(ho.obj k o h1).1,(ho.obj k' o' h2).1,if_true]at h3 h4;exact hm.gA k k' o o' B B' b h1 h2 h3 h4
 ·intro k o B b h1 h2;simp only[(ho.obj k o h1).1,if_true]at h2;exact hm.ownB k o B b h1 h2
 ·exact hm.lt
 ·exact hm.up
 ·exact hm.keep
 ·exact hm.le
 ·exact hm.os
 ·exact hm.tape
 ·exact hm.output
 ·intro j B hj;have:=O0.lt j B hj;show(if j<1000000 then β j else none)=some B;rw[aP (by omega)];exact hm.anch j B hj
 ·exact hm.vars
theorem Rel.drew(hr:Rel P w0 O0 N β I σ a w):Rel P w0 O0 N β I σ a w.drew:=
 ⟨hr.defers,hr.size,λt=>eM.mono (w:=w) (w':=w.drew) (λ _ _ h=>h) (λ _ _=>rfl) (λ _ h=>h) (hr.env t),hr.mem.drew⟩
theorem aiH(hT:eZ P T){id:Nat}{Q:St->Prop}(hd:Mz N am=true)(ho:sy σ)(h:Ur P T am cQ Q (List.range am.size) σ)(hr:Rel P w0 O0 N β I σ a w):
 (Code.region id am false).wp P (λ e a' w'=>∃ β' I' σ',Rel P w0 O0 N β' I' σ' a' w'/\e= .normal/\Q σ') a w:=by
 refine wp_region (M0 hT (Tp hd) (Q:=Q) (λ σ a w β I hr hq=>⟨β,I,σ,hr,rfl,hq⟩) _ σ a w _ I List.nodup_range (hr.restrict ho) (λ j k _ hk=>?_) h);exact aO (by simp only[io,cy]at hk;omega)
theorem WE(hT:eZ P T)(hm:P.follows .mixedOrders=true){id:Nat}{Q:St->Prop}(hd:Mz N am=true)(hB:Lz am cQ=true)(ho:sy σ)(h:Ur P T am cQ Q (List.range am.size) σ)(hr:Rel P w0 O0 N β I σ a w):
 (Code.region id am true).wp P (λ e a' w'=>∃ β' I' σ',Rel P w0 O0 N β' I' σ' a' w'/\e= .normal/\Q σ') a w:=by
 refine wp_region_any hm (MZ hT (md:= .any) (cQ:=cQ) (Tp hd) (Q:=Q) (λ σ a w β I hr hq=>⟨β,I,σ,hr,rfl,hq⟩) _ _ σ a _ _ I (hr.restrict ho).drew (λ j k _ hk=>?_) ?_)
 ·exact aO (by simp only[io,cy]at hk;omega)
 ·refine adK am.size 0 _ σ hB ?_;have e:(List.range am.size).map (λ x=>0+x)=List.range am.size:=by simp
  rw[e];exact h
end
def Ev(P:Program)(N:Nat)(c:Code)(Q:Exit->St->Prop)(σ:St):Prop:=
 ∀(w0:World) (O0:jz) (β:Nat->Option cE) (I:Nat->Prop) (a:Act) (w:World),Rel P w0 O0 N β I σ a w->sy σ->
  c.wp P (λ e a' w'=>∃ β' I' σ',Rel P w0 O0 N β' I' σ' a' w'/\sy σ'/\Q e σ') a w
def am4(K:St->Prop)(Q:Exit->St->Prop):Exit->St->Prop
 | .normal,σ=>K σ
 |e,σ=>Q e σ
def VV(id:Nat)(Q:Exit->St->Prop):Exit->St->Prop
 | .exit j,σ=>if j=id then Q .normal σ else Q (.exit j) σ
 |e,σ=>Q e σ
theorem aaI{P:Program}{c:Code}{Q:Exit->Act->World->Prop}(J:Nat->Act->World->Prop)(h0:∀a w,¬J 0 a w)(round:∀n a w,J (n+1) a w->c.wp P (Exit.then (J n) Q) a w)(n:Nat)(a:Act)(w:World)(h:J n a w):
 (Code.loop c).wp P Q a w:=by
 intro b k cs;have key:∀n a w,J n a w->∃e a' w',Q e a' w'/\Arrives P (lone (b.at a (.code c:: .inLoop c::k)) cs w) b k cs e a' w':=by
  intro n
  induction n with
  |zero=>intro a w h;exact(h0 a w h).elim
  |succ n ih=>
   intro a w hI;have⟨e,a₁,w₁,hq,harr⟩:=round n a w hI b (.inLoop c::k) cs;cases e with
   |normal=>
    have⟨e₂,a₂,w₂,hq₂,harr₂⟩:=ih a₁ w₁ hq;exact⟨e₂,a₂,w₂,hq₂,.of_steps (Steps.trans harr (.one step_inLoop)) harr₂⟩
   |exit id=>exact⟨_,a₁,w₁,hq,.pass (x:= .inLoop c) rfl (λ _ _=> .inl (by simp)) harr⟩
   |goto l=>exact⟨_,a₁,w₁,hq,.pass (x:= .inLoop c) rfl (λ _ _=> .inl (by simp)) harr⟩
   |ret=>exact⟨_,a₁,w₁,hq,.pass (x:= .inLoop c) rfl (λ _ _=> .inl (by simp)) harr⟩
   |panic ch=>exact⟨_,a₁,w₁,hq,.pass (x:= .inLoop c) rfl (λ _ _=> .inl (by simp)) harr⟩
   |outgrown=>exact⟨_,a₁,w₁,hq,.pass (x:= .inLoop c) rfl (λ _ _=> .inl (by simp)) harr⟩
 have⟨e,a',w',hq,harr⟩:=key n a w h;exact⟨e,a',w',hq,.of_steps (.one step_loop) harr⟩
section
variable {P:Program} {N:Nat} {Q:Exit->St->Prop} {σ:St}
theorem Ev.mono{c:Code}{Q':Exit->St->Prop}(h:Ev P N c Q σ)(hq:∀e σ,Q e σ->Q' e σ):Ev P N c Q' σ:=
 λw0 O0 β I a w hr ho=>wp_mono (h w0 O0 β I a w hr ho) λ_ _ _ ⟨β',I',σ',h1,h2,h3⟩=>⟨β',I',σ',h1,h2,hq _ _ h3⟩
theorem al0(h:Q .normal σ):Ev P N .skip Q σ:=λ_ _ β I _ _ hr ho=>wp_skip ⟨β,I,σ,hr,ho,h⟩
theorem al1{id:Nat}(h:Q (.exit id) σ):Ev P N (.exit id) Q σ:=λ_ _ β I _ _ hr ho=>wp_exit ⟨β,I,σ,hr,ho,h⟩
theorem ano(h:Q .ret σ):Ev P N .ret Q σ:=λ_ _ β I _ _ hr ho=>wp_ret ⟨β,I,σ,hr,ho,h⟩
theorem akk{l:Nat}(h:Q .normal σ):Ev P N (.label l) Q σ:=λ_ _ β I _ _ hr ho=>wp_label ⟨β,I,σ,hr,ho,h⟩
theorem anp{x y:Code}(h:Ev P N x (am4 (Ev P N y Q) Q) σ):Ev P N (.seq x y) Q σ:=by
 intro w0 O0 β I a w hr ho;refine wp_seq (wp_mono (h w0 O0 β I a w hr ho) ?_);rintro e a' w' ⟨β',I',σ',h1,h2,h3⟩;cases e<;>first |exact h3 w0 O0 β' I' a' w' h1 h2 |exact⟨β',I',σ',h1,h2,h3⟩
theorem al2{c:Operand}{x y:Code}(b:Bool)(hk:∀t,c= .tmp t->σ.ok t=none)(hc:lw σ.env c= .t (.sc (.bool b)))(h:Ev P N (bif b then x else y) Q σ):Ev P N (.cond c x y) Q σ:=by
 intro w0 O0 β I a w hr ho;have h1:=WF (P:=P) (β:=β) (w:=w) (I:=I) (σ:=σ) (a:=a) (x:=c) hr.mem.vars (λ t ht=>by
  have h1:=hr.env t;rw[hk t ht]at h1;exact h1)
 rw[hc]at h1;simp only[VR,TR]at h1;refine wp_cond (t:=b) h1.1 ?_;cases b<;>exact h w0 O0 β I a w hr ho
theorem af7{c:Operand}{x y:Code}(hk:∀t,c= .tmp t->σ.ok t=none)(hc:lw σ.env c= .ub)(h1:Ev P N x Q σ)(h2:Ev P N y Q σ):Ev P N (.cond c x y) Q σ:=by
 intro w0 O0 β I a w hr ho;have h3:=WF (P:=P) (β:=β) (w:=w) (I:=I) (σ:=σ) (a:=a) (x:=c) hr.mem.vars (λ t ht=>by
  have h1:=hr.env t;rw[hk t ht]at h1;exact h1)
 rw[hc]at h3;simp only[VR]at h3;obtain⟨b,hb⟩:=h3;refine wp_cond (t:=b) hb ?_;cases b
 ·exact h2 w0 O0 β I a w hr ho
 ·exact h1 w0 O0 β I a w hr ho
theorem akl{id:Nat}{c:Code}(h:Ev P N c (VV id Q) σ):Ev P N (.block id c) Q σ:=by
 intro w0 O0 β I a w hr ho;refine wp_block (wp_mono (h w0 O0 β I a w hr ho) ?_);rintro e a' w' ⟨β',I',σ',h1,h2,h3⟩;cases e with
 |exit j=>
  simp only[VV]at h3;simp only[Exit.inBlock];split
  ·rw[aP ‹_›]at h3;exact⟨β',I',σ',h1,h2,h3⟩
  ·rw[aO ‹_›]at h3;exact⟨β',I',σ',h1,h2,h3⟩
 |_=>exact⟨β',I',σ',h1,h2,h3⟩
theorem al3{c:Code}(J:Nat->St->Prop)(h0:∀ σ,¬J 0 σ)(round:∀n σ,J (n+1) σ->Ev P N c (am4 (J n) Q) σ)(n:Nat)(h:J n σ):Ev P N (.loop c) Q σ:=by
 intro w0 O0 β I a w hr ho;refine aaI (λ n a w=>∃ β I σ,Rel P w0 O0 N β I σ a w/\sy σ/\J n σ) (λ a w ⟨_,_,σ,_,_,h⟩=>h0 σ h) ?_ n a w ⟨β,I,σ,hr,ho,h⟩;rintro n a w ⟨β,I,σ,hr,ho,hJ⟩;refine wp_mono (round n σ hJ w0 O0 β I a w hr ho) ?_;rintro e a' w' ⟨β',I',σ',h1,h2,h3⟩;cases e<;>exact⟨β',I',σ',h1,h2,h3⟩
end
def lk{α:Type}:List (Nat×α)->Nat->Option α
 |[],_=>none
 |(j,x)::r,k=>if j=k then some x else lk r k
structure q6 where
 env:List (Nat×AV)
 cH:List (Nat×aU)
def q6.st(L:q6):St:=⟨λ t=>(lk L.env t).getD .undef,λk=>lk L.cH k,λ_=>none⟩
theorem sK{α:Type}:∀{l:List (Nat×α)}{k:Nat}{x:α},lk l k=some x->(k,x)∈l
 |(j,y)::r,k,x,h=>by
  simp only[lk]at h;split at h
  ·cases h;rename_i e;subst e;simp
  ·exact dS _ (sK h)
theorem vT{α:Type}:∀{l:List (Nat×α)}{k:Nat}{x:α},(l.map (·.1)).Nodup->(k,x)∈l->lk l k=some x
 |(j,y)::r,k,x,hn,h=>by
  simp only[aC,List.nodup_cons]at hn;simp only[lk];rcases aN.1 h with h |h
  ·injection h with h1 h2;subst h1;subst h2;simp
  ·have hne:k≠j:=λe=>hn.1 (mem_map.2 ⟨(k,x),h,e⟩);rw[aO (Ne.symm hne)];exact vT hn.2 h
structure RgI where
 x:Operand
 t:TypeId
 a0:Nat
 it:Nat
 nn:Nat
 b:Nat
 e:Nat
 xx:Nat
 kv:Nat
 j:Nat
 j2:Nat
 body:Code
section
variable {P:Program} {w0:World} {O0:jz} {N:Nat} {β:Nat->Option cE} {I:Nat->Prop} {σ:St} {a:Act} {w:World}
def St.put(σ:St)(d:Nat)(x:AV):St:=⟨Dn σ.env (some d) x,σ.obj,Dn σ.ok (some d) none⟩
theorem Rel.put(hr:Rel P w0 O0 N β I σ a w){d:Nat}(hd:d<N){x:AV}{v:Value}(hv:VR P β w I x v):Rel P w0 O0 N β I (σ.put d x) (a.put (some d) v) w:=by
 refine⟨by simpa[Act.put]using hr.defers,by simpa[Act.put]using hr.size,λt=>?_,hr.mem⟩;have hold:=hr.env t;simp only[St.put,Dn,Act.put,aA];by_cases hdt:d=t
 ·subst hdt;rw[aP rfl,aP rfl];have e:(a.tmps.setIfInBounds d v).getD d undef=v:=by simp[Nat.lt_of_lt_of_eq hd hr.size.symm]
  rw[e];exact hv
 ·rw[aO hdt,aO hdt];simpa[Array.getElem?_setIfInBounds_ne hdt]using hold
structure sA(β:Nat->Option cE)(I:Nat->Prop)(obj:Nat->Option aU)(w:World)(r:Nat):Prop where
 lt:r<w.heap.size
 GC:¬I r
 obj:∀k o,obj k=some o->¬gx β k r
end
def kept(os':List (Option fe))(j:Nat):Prop:=∃p,os'[j]? =some (some p)
def Ra(get:Nat->Option aU)(fk:Option Nat)(os':List (Option fe)):AV->Tree->Prop
 | .t x,y=>y=x
 | .cM,y=>y= .sl []
 | .oz k len,y=>fk≠some k/\¬kept os' k/\∃o de,get k=some o/\(o.rows.drop 0).take len=aL de/\de.length=len/\y= .sl de
 | .own k aa len,y=>fk≠some k/\¬kept os' k/\∃o de,get k=some o/\(o.rows.drop aa).take len=aL de/\de.length=len/\y= .sl de
 |_,_=>False
def lh(get:Nat->Option aU)(fk:Option Nat)(os':List (Option fe)):List AV->List Tree->Prop
 |[],[]=>True
 |x::xs,y::ys=>Ra get fk os' x y/\lh get fk os' xs ys
 |_,_=>False
def en(get:Nat->Option aU)(fk:Option Nat)(os':List (Option fe)):List (List AV)->List (List Tree)->Prop
 |[],[]=>True
 |x::xs,y::ys=>lh get fk os' x y/\en get fk os' xs ys
 |_,_=>False
def DE(get:Nat->Option aU)(fk:Option Nat)(os':List (Option fe)):AV->RC->Prop
 | .agg cs,.d (.a ts)=>lh get fk os' cs ts
 |x,.d (.s y)=>Ra get fk os' x y
 | .cM,.fresh _ rows=>rows=[]
 | .own k aa len,.fresh sz rows=>fk=some k/\¬kept os' k/\aa=0/\∃o,get k=some o/\o.sz=sz/\en get fk os' (o.rows.take len) rows/\rows.length=len
 | .own k aa len,.whole j len'=>k=j/\aa=0/\len'=len/\kept os' j
 |_,_=>False
def m8(get:Nat->Option aU)(fk:Option Nat)(os':List (Option fe)):List AV->List RC->Prop
 |[],[]=>True
 |x::xs,c::cs=>DE get fk os' x c/\m8 get fk os' xs cs
 |_,_=>False
def DD(get:Nat->Option aU)(fk:Option Nat)(os':List (Option fe)):List AV->RV->Prop
 |[x],.one c=>DE get fk os' x c
 |x::y::r,.fi cs=>m8 get fk os' (x::y::r) cs
 |[],.fi cs=>cs=[]
 |_,_=>False
def Kx(get:Nat->Option aU)(fk:Option Nat)(os':List (Option fe)):Prop:=
 ∀(j:Nat) p,os'[j]? =some (some p)->fk≠some j/\∃o,get j=some o/\o.sz=p.1/\en get fk os' (o.rows.take p.2.length) p.2
def LA(T:dy)(t:TypeId)(x:AV)(obj:Nat->Option aU):Option Out:=
 match EX T t x .none obj with
 |some o=>some o
 |none=>Gu T t x obj
def Rb(T:dy)(σ:St):ResultVar->Option AV
 | .tmp t=>match σ.ok t with
  |none=>some (σ.env t)
  |some _=>none
 | .cell a t=>match σ.ok a with
  |none=>match LA T t (σ.env a) σ.obj with
   |some ⟨v,[],[]⟩=>some v
   |_=>none
  |some _=>none
def nT(T:dy)(σ:St):List ResultVar->Option (List AV)
 |[]=>some []
 |r::rs=>(Rb T σ r).bind λv=>(nT T σ rs).bind λvs=>some (v::vs)
def WG(tmps:Array Value):ResultVar->Sem Value
 | .tmp t=>pure (tmps.getD t undef)
 | .cell a t=>do loadVar t (<- asAddr (tmps.getD a undef))
theorem WH(fn:Func)(tmps:Array Value):results fn tmps=(fn.results.mapM (WG tmps))>>=λvs=>pure (if h:vs.size=1 then vs[0]else .tuple vs):=by
 unfold results;congr 2
def aoB(T:dy)(rs:List ResultVar)(rv:RV)(os':List (Option fe)):Exit->St->Prop
 | .normal,σ=>∃xs fk,nT T σ rs=some xs/\DD σ.obj fk os' xs rv/\Kx σ.obj fk os'
 | .ret,σ=>∃xs fk,nT T σ rs=some xs/\DD σ.obj fk os' xs rv/\Kx σ.obj fk os'
 |_,_=>False
section
variable {P:Program} {T:dy} {w0:World} {O0:jz} {N:Nat} {β:Nat->Option cE} {I:Nat->Prop} {σ:St} {a:Act} {w:World}
theorem ab0(hT:eZ P T)(hr:Rel P w0 O0 N β I σ a w){r:ResultVar}{x:AV}(h:Rb T σ r=some x):
 ∃v,(WG a.tmps r).run P w= .ok v w/\VR P β w I x v:=by
 cases r with
 |tmp t=>
  simp only[Rb]at h;have h1:=hr.env t;cases hk:σ.ok t with
  |some b=>rw[hk]at h;cases h
  |none=>
   rw[hk]at h h1;cases h;exact⟨_,by simp[WG],h1⟩
 |cell ad t=>
  simp only[Rb]at h;have hx:=hr.env ad;cases hk:σ.ok ad with
  |some b=>rw[hk]at h;cases h
  |none=>
  rw[hk]at h hx;simp only at h;have hx:VR P β w I (σ.env ad) (a.tmps.getD ad undef):=hx;split at h
  ·rename_i v hl;injection h with h;subst h;have hl2:EX T t (σ.env ad) .none σ.obj=some ⟨v,[],[]⟩\/Gu T t (σ.env ad) σ.obj=some ⟨v,[],[]⟩:=by
    unfold LA at hl;split at hl
    ·rename_i heq;injection hl with hl;subst hl;exact .inl heq
    ·exact .inr hl
   obtain⟨u,h1,h2⟩:∃u,(Instr.loadAt t (a.tmps.getD ad undef)).run P w= .ok u w/\VR P β w I v u:=by
    rcases hl2 with hl2 |hl2
    ·obtain⟨u,h1,h2,_⟩:=S9 hT hr.mem (λ _ _ h=>h) hl2 trivial hx;exact⟨u,h1,h2⟩
    ·obtain⟨u,h1,h2,_⟩:=OD hT hr.mem (λ _ _ h=>h) hl2 hx;exact⟨u,h1,h2⟩
   refine⟨u,?_,h2⟩;have hp:∃p,a.tmps.getD ad undef= .pointer (some p):=by
    rcases hl2 with hl |hl
    rotate_left
    ·unfold Gu at hl;cases hti:T t with
     |none=>simp[hti]at hl
     |some ti=>
      simp only[hti,ah]at hl;split at hl
      ·rename_i heq;rw[heq]at hx;simp only[VR]at hx;obtain⟨b,sz,n,_,h⟩:=hx;exact⟨_,h⟩
      ·cases hl
    unfold EX at hl;cases hti:T t with
    |none=>simp[hti]at hl
    |some ti=>
     simp only[hti,ah]at hl;split at hl
     ·rename_i heq;rw[heq]at hx;simp only[VR]at hx;obtain⟨b,sz,n,_,h⟩:=hx;exact⟨_,h⟩
     ·rename_i heq;rw[heq]at hx;simp only[VR]at hx;obtain⟨b,o,h,_⟩:=hx;exact⟨_,h⟩
     ·cases hl
   obtain⟨p,hp⟩:=hp;rw[hp]at h1;simp only[Instr.loadAt,Instr.sureAddr,Sem.run_bind,Sem.run_pure,Result.andThen_ok]at h1;simp only[WG,hp,asAddr,Sem.run_bind,Sem.run_pure,Result.andThen_ok];exact h1
  ·cases h
theorem Dp(hT:eZ P T)(hr:Rel P w0 O0 N β I σ a w):∀(rs:List ResultVar)(xs:List AV),nT T σ rs=some xs->
 ∃vs,(rs.mapM (WG a.tmps)).run P w= .ok vs w/\bj P β w I xs vs
 |[],xs,h=>by simp only[nT,aA]at h;subst h;exact⟨[],by simp,by simp[bj]⟩
 |r::rs,xs,h=>by
  simp only[nT]at h;cases h1:Rb T σ r with
  |none=>simp[h1]at h
  |some x=>
   cases h2:nT T σ rs with
   |none=>simp[h1,h2]at h
   |some ys=>
    simp only[h1,h2,ah,aA]at h;subst h;have⟨v,g1,g2⟩:=ab0 hT hr h1;have⟨vs,g3,g4⟩:=Dp hT hr rs ys h2;exact⟨v::vs,by simp only[List.mapM_cons,Sem.run_bind,g1,Result.andThen_ok,g3,Sem.run_pure],by simp only[bj];exact⟨g2,g4⟩⟩
def OJ(σ:St)(w0 w:World)(β:Nat->Option cE)(I:Nat->Prop)(O0:jz)(fk:Option Nat)(os':List (Option fe))(b:Nat):Prop:=
 (I b\/O0.GC b\/w0.heap.size<=b\/O0.own b)/\b<w.heap.size/\¬∃k,(fk=some k\/kept os' k)/\(∃ o,σ.obj k=some o)/\gx β k b
theorem adL(hr:Rel P w0 O0 N β I σ a w)(fk:Option Nat)(os':List (Option fe)):∀b,I b->OJ σ w0 w β I O0 fk os' b:=λb hb=>
 ⟨.inl hb,hr.mem.lt b hb,λ⟨k,_,⟨o,ho⟩,hβ⟩=>(hr.mem.jj k o b ho hβ).1 hb⟩
theorem OL(hr:Rel P w0 O0 N β I σ a w){fk:Option Nat}{os':List (Option fe)}{k aa len:Nat}{y:Tree}{v:Value}(h:fk≠some k/\¬kept os' k/\∃o de,σ.obj k=some o/\(o.rows.drop aa).take len=aL de/\de.length=len/\y= .sl de)(hv:VR P β w I (.own k aa len) v):TR w (OJ σ w0 w β I O0 fk os') y v:=by
 obtain⟨hne,hnk,o,de,h1,h2,h3,rfl⟩:=h;simp only[VR]at hv;simp only[TR];rcases hv with ⟨_,rfl,_,h4⟩ |⟨b,sz,n,cap,ad,h4,rfl,h5,h6,h7⟩
 ·exact .inl ⟨List.eq_nil_of_length_eq_zero (by omega),none,0,rfl,λ_=>rfl⟩
 ·have⟨g1,g2,g3⟩:=hr.mem.own k o b sz n h1 h4;refine .inr ⟨b,ad,cap,sz,by rw[h3],by omega,⟨.inr (.inr (g3.elim .inr .inl)),g2,λ⟨k',e1,⟨o',e2⟩,e3⟩=>?_⟩,?_⟩
  ·have:=hr.mem.nh k k' o o' b h1 e2 (.at h4) e3;subst this;exact e1.elim hne hnk
  ·by_cases hc:cap=0
   ·have:de=[]:=List.eq_nil_of_length_eq_zero (by omega);subst this;simp[ct]
   ·rw[h7 hc];have⟨B,hB,rI⟩:=hr.mem.cH k o h1;rw[h4]at hB;cases hB;obtain⟨hs,c,e,hc',_,rI⟩:=rI;have h8:=bp.take len _ _ _ _ (bp.drop aa _ _ _ _ rI);rw[h2]at h8;exact ct.ly (adL hr fk os') hc' de _ _ h8
theorem Gy(hr:Rel P w0 O0 N β I σ a w){fk:Option Nat}{os':List (Option fe)}{x:AV}{y:Tree}{v:Value}(h:Ra σ.obj fk os' x y)(hv:VR P β w I x v):TR w (OJ σ w0 w β I O0 fk os') y v:=by
 cases x<;>simp only[Ra]at h
 case t x=>subst h;simp only[VR]at hv;exact TR.mono (λ _ _=>rfl) (adL hr fk os') _ _ hv
 case cM=>subst h;simp only[VR]at hv;simp only[TR];exact .inl ⟨trivial,none,0,hv,λ_=>rfl⟩
 case own k aa len=>exact OL hr h hv
 case oz k len=>
  rcases hv.tM with ⟨rfl,rfl⟩ |⟨_,hv⟩
  ·obtain⟨hne,hnk,o,de,h1,h2,h3,rfl⟩:=h;simp only[TR];exact .inl ⟨List.eq_nil_of_length_eq_zero h3,none,0,rfl,λ_=>rfl⟩
  ·exact OL hr h hv
theorem OM(hr:Rel P w0 O0 N β I σ a w){fk:Option Nat}{os':List (Option fe)}{β':Nat->Option cE}:∀{r:List AV}{t:List Tree}{c:Array Value}{aa:Nat},lh σ.obj fk os' r t->cP P β w I r c aa->cP P β' w (OJ σ w0 w β I O0 fk os') (t.map AV.t) c aa
 |[],[],_,_,_,_=>trivial
 |x::xs,y::ys,c,aa,h,⟨⟨v,h1,h2,h3⟩,h4⟩=>⟨⟨v,h1,by simp only[VR];exact Gy hr h.1 h2,h3⟩,OM hr h.2 h4⟩
 |[],_::_,_,_,h,_=>h.elim
 |_::_,[],_,_,h,_=>h.elim
theorem lh.length{get:Nat->Option aU}{fk:Option Nat}{os':List (Option fe)}:∀{r:List AV}{t:List Tree},lh get fk os' r t->t.length=r.length
 |[],[],_=>rfl
 |_::_,_::_,h=>by simp[lh.length h.2]
 |[],_::_,h=>h.elim
 |_::_,[],h=>h.elim
theorem Dq(hr:Rel P w0 O0 N β I σ a w){fk:Option Nat}{os':List (Option fe)}{β':Nat->Option cE}:∀{rs:List (List AV)}{ts:List (List Tree)}{c:Array Value}{aa sz:Nat},en σ.obj fk os' rs ts->bp P β w I rs c aa sz->bp P β' w (OJ σ w0 w β I O0 fk os') (aL ts) c aa sz
 |[],[],_,_,_,_,_=>trivial
 |r::rs,t::ts,c,aa,sz,h,⟨h1,h2,h3⟩=>⟨by rw[List.length_map,h.1.length,h1],OM hr h.1 h2,Dq hr h.2 h3⟩
 |[],_::_,_,_,_,h,_=>h.elim
 |_::_,[],_,_,_,h,_=>h.elim
theorem en.length{get:Nat->Option aU}{fk:Option Nat}{os':List (Option fe)}:∀{rs:List (List AV)}{ts:List (List Tree)},en get fk os' rs ts->rs.length=ts.length
 |[],[],_=>rfl
 |_::_,_::_,h=>by simp only[bF,h.2.length]
 |[],_::_,h=>h.elim
 |_::_,[],h=>h.elim
theorem M4(hr:Rel P w0 O0 N β I σ a w){fk:Option Nat}{os':List (Option fe)}{β':Nat->Option cE}:∀{r:List AV}{t:List Tree}{vs:List Value},lh σ.obj fk os' r t->bj P β w I r vs->bj P β' w (OJ σ w0 w β I O0 fk os') (t.map AV.t) vs
 |[],[],[],_,_=>by simp[bj]
 |x::xs,y::ys,v::vs,h,hv=>by
  simp only[bj]at hv;simp only[aC,bj,VR];exact⟨Gy hr h.1 hv.1,M4 hr h.2 hv.2⟩
 |[],_::_,_,h,_=>h.elim
 |_::_,[],_,h,_=>h.elim
 |[],[],_::_,_,hv=>by simp[bj]at hv
 |_::_,_::_,[],_,hv=>by simp[bj]at hv
theorem J4(hr:Rel P w0 O0 N β I σ a w){fk:Option Nat}{os':List (Option fe)}{β':Nat->Option cE}:∀{rs:List (List AV)}{ts:List (List Tree)}{es:List MapEntry},en σ.obj fk os' rs ts->cA P β w I rs es->cA P β' w (OJ σ w0 w β I O0 fk os') (aL ts) es
 |[],[],[],_,_=>trivial
 |_::_,_::_,_::_,h,hm=>⟨M4 hr h.1 hm.1,J4 hr h.2 hm.2⟩
 |[],_::_,_,h,_=>h.elim
 |_::_,[],_,h,_=>h.elim
 |[],[],_::_,_,hm=>hm.elim
 |_::_,_::_,[],_,hm=>hm.elim
theorem en.nil{get:Nat->Option aU}{fk:Option Nat}{os':List (Option fe)}{t:List (List Tree)}(h:en get fk os' [] t):t=[]:=by
 cases t with
 |nil=>rfl
 |cons=>exact h.elim
theorem WI(hr:Rel P w0 O0 N β I σ a w){F:Nat->Prop}{βi:Nat->Option cE}{fk:Option Nat}{os':List (Option fe)}(hF:∀k o b,fk=some k->σ.obj k=some o->¬kept os' k->gx β k b->F b)(hi:∀j,kept os' j->β j=βi j){x:AV}{c:RC}{v:Value}
 (h:DE σ.obj fk os' x c) (hv:VR P β w I x v):we P F βi c w (OJ σ w0 w β I O0 fk os') v:=by
 unfold DE at h;split at h
 ·rename_i cs ts;simp only[VR]at hv;obtain⟨vs,rfl,hv⟩:=hv;refine⟨vs,rfl,?_⟩;have:∀(cs:List AV)(ts:List Tree)(vs:List Value),lh σ.obj fk os' cs ts->bj P β w I cs vs->eK w (OJ σ w0 w β I O0 fk os') ts vs:=by
   intro cs
   induction cs with
   |nil=>intro ts vs h hv;cases ts<;>cases vs<;>first |trivial |exact h.elim |(simp [bj]at hv)
   |cons x xs ih=>
    intro ts vs h hv;cases ts with
    |nil=>exact h.elim
    |cons t ts=>
     cases vs with
     |nil=>simp[bj]at hv
     |cons u us=>simp only[bj]at hv;exact⟨Gy hr h.1 hv.1,ih ts us h.2 hv.2⟩
  exact this cs ts vs.toList h hv
 ·exact Gy hr h hv
 ·subst h;simp only[VR]at hv;exact .inl ⟨rfl,hv⟩
 ·rename_i k aa len sz rows;obtain⟨rfl,hnk,rfl,o,h1,rfl,h2,h3⟩:=h;simp only[VR]at hv;rcases hv with ⟨_,rfl,_,h4⟩ |⟨b,sz,n,cap,ad,h4,rfl,h5,h6,h7⟩
  ·exact .inl ⟨List.eq_nil_of_length_eq_zero (by omega),rfl⟩
  ·have⟨g1,g2,g3⟩:=hr.mem.own k o b sz n h1 h4;have⟨B,hB,rI⟩:=hr.mem.cH k o h1;rw[h4]at hB;cases hB;obtain⟨hs,c,e,hc',hn,rI⟩:=rI;refine .inr ⟨b,c,e,cap,ad,n.s,by rw[h3],hF k o b rfl h1 hnk (.at h4),λhI=>hI.2.2 ⟨k,.inl rfl,⟨o,h1⟩,.at h4⟩,hc',by omega,?_,?_,λhc=>by simpa using h7 hc⟩
   ·rw[<- hs,hn];simpa using h6
   ·rw[<- hs];exact Dq hr h2 (bp.take len _ _ _ _ rI)
 ·rename_i k aa len j len';obtain⟨rfl,rfl,rfl,hk⟩:=h;show VR P βi w (OJ σ w0 w β I O0 fk os') (.own k 0 len') v;simp only[VR]at hv ⊢;rw[<- hi k hk];exact hv
 ·exact h.elim
theorem Dr{α:Type}(l:List α)(t:Nat):lk ((List.range l.length).zip l) t=l[t]? :=by
 have pT:∀(l:List α)(s t:Nat),(lk ((List.range' s l.length).zip l) t)=if s<=t/\t<s+l.length then l[t -s]? else none:=by
  intro l
  induction l with
  |nil=>intro s t;simp[lk]
  |cons x xs ih=>
   intro s t;simp only[bF,List.range'_succ,List.zip_cons_cons,lk];by_cases hst:s=t
   ·subst hst;simp
   ·rw[aO hst,ih];by_cases hlt':s+1<=t/\t<s+1+xs.length
    ·rw[aP hlt',aP (by omega),show t -s=(t -(s+1))+1 by omega];simp
    ·rw[aO hlt',aO (by omega)]
 rw[List.range_eq_range',pT];by_cases ht:t<l.length
 ·simp[ht]
 ·rw[aO (by omega)];simp[List.getElem?_eq_none (Nat.le_of_not_lt ht)]
theorem Rc{x:AV}:∀{l:List AV},x∈l->∀k∈refs x,k∈eH l
 |[],h,_,_=>by simp at h
 |y::ys,h,k,hk=>by
  simp only[eH,aX];rcases aN.1 h with rfl |h
  ·exact .inl hk
  ·exact .inr (Rc h k hk)
theorem aiK(hT : eZ P T){f : FuncId}{fn : Func}{c : Code}{args : List AV}{os : List fe}{os' : List (Option fe)}{rv : RV}(hfn : P.funcs[f]? = some fn)(hb : fn.body = some c)(hname : (fn.name == "runtime.NumGoroutine") = false)(hN : args.length <= fn.ntmps)(hargs : ∀ k ∈ eH args, k < 1000)(hos : os.length <= 1000)(hlen : os'.length = os.length)
 (h:Ev P fn.ntmps c (aoB T fn.results.toList rv os') (q6.st ⟨(List.range args.length).zip args,(List.range (os.map hZ).length).zip (os.map hZ)⟩)):rN P f args os os' rv:=by
 refine⟨⟨fn,hfn,by rw[hb];rfl,hname⟩,λw β I vs hβ hM hv=>?_⟩;have hvl:=bj.length _ _ hv;simp only[Array.length_toList]at hvl;have jn:∀k,lk ((List.range (os.map hZ).length).zip (os.map hZ)) k=sd os k:=λk=>by rw[Dr];simp[sd]
 refine calls_of_wp hfn hb ?_;have hrel:Rel P w (uj β I) fn.ntmps β I (q6.st ⟨(List.range args.length).zip args,(List.range (os.map hZ).length).zip (os.map hZ)⟩) { tmps:=vs++Array.replicate (fn.ntmps -vs.size) undef,defers:=[] } w:=by
  refine⟨rfl,by simp;omega,λt=>?_,?_⟩
  ·simp only[q6.st,Dr,eM];by_cases ht:t<args.length
   ·obtain⟨v,g1,g2⟩:=bj.get _ _ t _ hv (dI ht);rw[dI ht];simp only[Option.getD_some];have:(vs++Array.replicate (fn.ntmps -vs.size) undef).getD t undef=v:=by
     rw[Array.getElem?_toList]at g1;simp only[Array.getD_eq_getD_getElem?,Array.getElem?_append,show t<vs.size by omega,if_true,g1,Option.getD_some]
    rw[this];exact g2
   ·rw[List.getElem?_eq_none (Nat.le_of_not_lt ht)];simp[VR]
  ·have:(q6.st ⟨(List.range args.length).zip args,(List.range (os.map hZ).length).zip (os.map hZ)⟩).obj=sd os:=funext jn;rw[this];exact hM
 have hold:sy (q6.st ⟨(List.range args.length).zip args,(List.range (os.map hZ).length).zip (os.map hZ)⟩):=by
  refine⟨λ t k hk=>?_,λk o hk=>?_⟩
  ·simp only[q6.st,Dr]at hk;cases ht:args[t]? with
   |none=>rw[ht]at hk;simp[refs]at hk
   |some x=>rw[ht]at hk;have:=hargs k (Rc (cB ht) k hk);omega
  ·have hk:sd os k=some o:=(jn k).symm.trans hk;simp only[sd,eU]at hk;obtain⟨p,hp,rfl⟩:=hk;refine⟨by have:=(dm.1 hp).1;omega,λr hr x hx j hj=>?_⟩;simp only[hZ,aL,mem_map]at hr;obtain⟨q,_,rfl⟩:=hr;simp only[mem_map]at hx;obtain⟨t,_,rfl⟩:=hx;simp[refs]at hj
 refine wp_mono (h w (uj β I) β I _ w hrel hold) ?_
 have fin:∀(a':Act) (w':World) (β':Nat->Option cE) (I':Nat->Prop) (σ':St),Rel P w (uj β I) fn.ntmps β' I' σ' a' w'->(∃ xs fk,nT T σ' fn.results.toList=some xs/\DD σ'.obj fk os' xs rv/\Kx σ'.obj fk os')->
  a'.defers=[]/\∃v,(results fn a'.tmps).run P w'= .ok v w'/\SW P w β I os' rv (.returned v) w':=by
  intro a' w' β' I' σ' hr ⟨xs,fk,hx,he,heo⟩;obtain⟨us,g1,g2⟩:=Dp hT hr _ _ hx;have C3:=bj.length _ _ g2;have hm:=hr.mem;have hrun:(fn.results.mapM (WG a'.tmps)).run P w'= .ok us.toArray w':=by rw[Array.mapM_eq_mapM_toList,Sem.run_map,g1];rfl
  have hko:∀j p,os'[j]? =some (some p)->∃B o,β j=some B/\β' j=some B/\σ'.obj j=some o/\OR P β' w' I' o B/\o.sz=p.1/\en σ'.obj fk os' (o.rows.take p.2.length) p.2:=by
   intro j p hj;have⟨_,o,e1,e2,e3⟩:=heo j p hj;have hjl:j<os.length:=(by rw[<- hlen];exact(dm.1 hj).1);obtain⟨B,hB,_⟩:=hM.cH j (hZ os[j]) (by simp[sd,hjl]);have hB':=hm.anch j B (by simp only[uj];rw[aP (by omega)];exact hB);have⟨B',hB2,hO⟩:=hm.cH j o e1;rw[hB']at hB2;cases hB2;exact⟨B,o,hB,hB',e1,hO,e2,e3⟩
  have hkept:∀j,kept os' j->β' j=β j:=λj ⟨p,hp⟩=>by
   have⟨B,o,h1,h2,_⟩:=hko j p hp;rw[h1,h2]
  have tW:∀j o,Mg os' j=some o->∃p,os'[j]? =some (some p)/\o=hZ p:=by
   intro j o hj;simp only[Mg,eU,Option.join_eq_some_iff]at hj;obtain⟨p,hp,rfl⟩:=hj;exact⟨p,hp,rfl⟩
  have pS:∀b,I b->¬Wj β b/\b<w.heap.size:=by
   intro b hb;refine⟨?_,hM.lt b hb⟩;rintro⟨j,B,hj,hB⟩;rcases Nat.lt_or_ge j os.length with hjl |hjl
   ·exact(hM.ownB j (hZ os[j]) B b (by simp[sd,hjl]) hj hB).1 hb
   ·rw[hβ j hjl]at hj;cases hj
  have hOI:∀b,I b->OJ σ' w w' β' I' (uj β I) fk os' b:=by
   intro b hb;have⟨g1,g2⟩:=pS b hb;refine⟨.inr (.inl hb),Nat.lt_of_lt_of_le g2 hm.le,?_⟩;rintro⟨k,_,⟨o,ho⟩,hβk⟩;rcases (hm.jj k o b ho hβk).2.2 with g |g
   ·exact g1 g
   ·omega
  have hmem:Mem P w (uj β I) β (OJ σ' w w' β' I' (uj β I) fk os') (Mg os') w':=by
   constructor
   ·intro j o hj;obtain⟨p,hp,rfl⟩:=tW j o hj;have⟨B,o1,b1,b2,b3,b4,b5,b6⟩:=hko j p hp;refine⟨B,b1,?_⟩;cases B with
    |none=>
     simp only[OR]at b4 ⊢;rw[b4]at b6;have:=en.nil (by simpa using b6);simp[hZ,aL,this]
    | «at» b s n=>
     obtain⟨c1,c,e,c2,c3,c4⟩:=b4;refine⟨by rw[c1,b5];rfl,c,e,c2,c3,?_⟩;exact Dq hr b6 (bp.take _ _ _ _ _ c4)
    |mp b=>
     obtain⟨es,cl,c1,cl',c2,c3⟩:=b4;have hl:=b6.length;simp only[length_take]at hl;refine⟨es,cl,c1,by simp only[hZ,aL,List.length_map];omega,λe=>?_,c3⟩;have e':p.1=p.2.length:=(by simpa[hZ,aL]using e);rw[List.take_of_length_le (by omega)]at b6;exact J4 hr b6 (c2 (by omega))
   ·intro j j' o o' B B' b h1 h2 h3 h4 h5 h6;obtain⟨p,hp,rfl⟩:=tW j o h1;obtain⟨p',hp',rfl⟩:=tW j' o' h2;have⟨_,o1,_,_,b3,_⟩:=hko j p hp;have⟨_,o1',_,_,b3',_⟩:=hko j' p' hp';rw[<- hkept j ⟨p,hp⟩]at h3;rw[<- hkept j' ⟨p',hp'⟩]at h4;exact hm.gA j j' o1 o1' B B' b b3 b3' h3 h4 h5 h6
   ·intro j o B b h1 h2 h5;obtain⟨p,hp,rfl⟩:=tW j o h1;have⟨_,o1,_,_,b3,_⟩:=hko j p hp;rw[<- hkept j ⟨p,hp⟩]at h2;have⟨_,c2,c3⟩:=hm.ownB j o1 B b b3 h2 h5;exact⟨λ hb=>hb.2.2 ⟨j,.inr ⟨p,hp⟩,⟨o1,b3⟩,B,h2,h5⟩,c2,c3⟩
   ·exact λb hb=>hb.2.1
   ·intro b hb;rcases hb.1 with g |g |g |g
    ·exact hm.up b g
    ·exact .inl g
    ·exact .inr (.inr g)
    ·exact .inr (.inl g)
   ·exact hm.keep
   ·exact hm.le
   ·exact hm.os
   ·exact hm.tape
   ·exact hm.output
   ·intro j B hj;simp only[uj]at hj;split at hj
    ·exact hj
    ·cases hj
   ·exact hM.vars.mono (λ b hb=>hm.keep b (pS b hb).2 (pS b hb).1) hOI
  have hF:∀k o b,fk=some k->σ'.obj k=some o->¬kept os' k->gx β' k b->xt w β os' b:=by
   intro k o b _ h2 h3 h4;refine⟨(hm.jj k o b h2 h4).2.2,λj o' h5 h6=>?_⟩;obtain⟨p,hp,rfl⟩:=tW j o' h5;have⟨_,o1,_,_,b3,_⟩:=hko j p hp;have h6':gx β' j b:=by
    obtain⟨B,e1,e2⟩:=h6;exact⟨B,by rw[hkept j ⟨p,hp⟩];exact e1,e2⟩
   have:=hm.nh k j o o1 b h2 b3 h4 h6';subst this;exact h3 ⟨p,hp⟩
  have ret:∀v,qT P (xt w β os') β rv w' (OJ σ' w w' β' I' (uj β I) fk os') v->SW P w β I os' rv (.returned v) w':=λv hv'=>⟨v,_,rfl,hmem,hOI,hv'⟩;refine⟨hr.defers,?_⟩;have hlist:∀(xs:List AV)(cs:List RC)(us:List Value),m8 σ'.obj fk os' xs cs->bj P β' w' I' xs us->VP P (xt w β os') β cs w' (OJ σ' w w' β' I' (uj β I) fk os') us:=by
   intro xs
   induction xs with
   |nil=>intro cs us h1 h2;cases cs<;>cases us<;>first |trivial |exact h1.elim |(simp [bj]at h2)
   |cons x xs ih=>
    intro cs us h1 h2;cases cs with
    |nil=>exact h1.elim
    |cons c cs=>
     cases us with
     |nil=>simp[bj]at h2
     |cons u us=>simp only[bj]at h2;exact⟨WI hr hF hkept h1.1 h2.1,ih cs us h1.2 h2.2⟩
  simp only[WH,Sem.run_bind,hrun,Result.andThen_ok,Sem.run_pure];refine⟨_,rfl,ret _ ?_⟩
  match xs,us,rv,he,g2 with
  |[x],[u],.one c,he,g2=>
   simp only[bj]at g2;simpa[qT]using WI hr hF hkept he g2.1
  |x::y::r,u::u'::us,.fi cs,he,g2=>
   have:=hlist _ _ _ he g2;rw[dif_neg (by simp)];exact⟨_,rfl,by simpa using this⟩
  |[],[],.fi cs,he,g2=>
   simp only[DD]at he;subst he;rw[dif_neg (by simp)];exact⟨_,rfl,trivial⟩
  |[x],[u],.fi cs,he,_=>exact he.elim
  |[],_,.one c,he,_=>exact he.elim
  |x::y::r,_,.one c,he,_=>exact he.elim
  |[],_::_,.fi _,_,g2=>simp[bj]at g2
  |[_],[],_,_,g2=>simp[bj]at g2
  |[_],_::_::_,_,_,g2=>simp[bj]at g2
  |_::_::_,[],_,_,g2=>simp[bj]at g2
  |_::_::_,[_],_,_,g2=>simp[bj]at g2
 rintro e a' w' ⟨β',I',σ',h1,h2,h3⟩;cases e with
 |normal=>exact fin a' w' β' I' σ' h1 h3
 |ret=>exact fin a' w' β' I' σ' h1 h3
 |_=>exact h3.elim
def Ks(P:Program)(get:Nat->Option aU)(xs:List AV)(os':List (Nat×aU))(rv:AV):Prop:=
 ∀(w0:World) (O0:jz) (β:Nat->Option cE) (I:Nat->Prop) (w:World) (vs:Array Value),Mem P w0 O0 β I get w->bj P β w I xs vs.toList->∃ β' I',Mem P w0 O0 β' I' (pm os') w/\(∀ b,I b->I' b)/\VR P β' w I' rv (if h:vs.size=1 then vs[0]else .tuple vs)
def an5(P:Program)(T:dy)(rs:List ResultVar)(rv:AV)(os':List (Nat×aU)):Exit->St->Prop
 | .normal,σ=>∃xs,nT T σ rs=some xs/\Ks P σ.obj xs os' rv
 | .ret,σ=>∃xs,nT T σ rs=some xs/\Ks P σ.obj xs os' rv
 |_,_=>False
theorem aiL(hT : eZ P T){f : FuncId}{fn : Func}{c : Code}{args : List AV}{os : List aU}{os' : List (Nat × aU)}{rv : AV}(hfn : P.funcs[f]? = some fn)(hb : fn.body = some c)(hname : (fn.name == "runtime.NumGoroutine") = false)(hN : args.length <= fn.ntmps)(hargs : ∀ k ∈ eH args, k < 1000)(hos : os.length <= 1000)
 (PB:∀o∈os,∀r∈o.rows,∀x∈r,∀j∈refs x,j<1000)
 (h:Ev P fn.ntmps c (an5 P T fn.results.toList rv os') (q6.st ⟨(List.range args.length).zip args,(List.range os.length).zip os⟩)):CE P f args os os' rv:=by
 refine⟨⟨fn,hfn,by rw[hb];rfl,hname⟩,λw β I vs hβ hM hv=>?_⟩;have hvl:=bj.length _ _ hv;simp only[Array.length_toList]at hvl;have jn:∀k,lk ((List.range os.length).zip os) k=te os k:=λk=>by rw[Dr];rfl
 refine calls_of_wp hfn hb ?_;have hrel:Rel P w (uj β I) fn.ntmps β I (q6.st ⟨(List.range args.length).zip args,(List.range os.length).zip os⟩) { tmps:=vs++Array.replicate (fn.ntmps -vs.size) undef,defers:=[] } w:=by
  refine⟨rfl,by simp;omega,λt=>?_,?_⟩
  ·simp only[q6.st,Dr,eM];by_cases ht:t<args.length
   ·obtain⟨v,g1,g2⟩:=bj.get _ _ t _ hv (dI ht);rw[dI ht];simp only[Option.getD_some];have:(vs++Array.replicate (fn.ntmps -vs.size) undef).getD t undef=v:=by
     rw[Array.getElem?_toList]at g1;simp only[Array.getD_eq_getD_getElem?,Array.getElem?_append,show t<vs.size by omega,if_true,g1,Option.getD_some]
    rw[this];exact g2
   ·rw[List.getElem?_eq_none (Nat.le_of_not_lt ht)];simp[VR]
  ·have:(q6.st ⟨(List.range args.length).zip args,(List.range os.length).zip os⟩).obj=te os:=funext jn;rw[this];exact hM
 have hold:sy (q6.st ⟨(List.range args.length).zip args,(List.range os.length).zip os⟩):=by
  refine⟨λ t k hk=>?_,λk o hk=>?_⟩
  ·simp only[q6.st,Dr]at hk;cases ht:args[t]? with
   |none=>rw[ht]at hk;simp[refs]at hk
   |some x=>rw[ht]at hk;have:=hargs k (Rc (cB ht) k hk);omega
  ·have hk:te os k=some o:=(jn k).symm.trans hk;simp only[te]at hk;refine⟨by have:=(dm.1 hk).1;omega,λr hr x hx j hj=>?_⟩;have:=PB o (cB hk) r hr x hx j hj;omega
 refine wp_mono (h w (uj β I) β I _ w hrel hold) ?_
 have fin:∀(a':Act) (w':World) (β':Nat->Option cE) (I':Nat->Prop) (σ':St),Rel P w (uj β I) fn.ntmps β' I' σ' a' w'->(∃ xs,nT T σ' fn.results.toList=some xs/\Ks P σ'.obj xs os' rv)->
  a'.defers=[]/\∃v,(results fn a'.tmps).run P w'= .ok v w'/\an4 P w β I os' rv (.returned v) w':=by
  intro a' w' β' I' σ' hr ⟨xs,hx,he⟩;obtain⟨us,g1,g2⟩:=Dp hT hr _ _ hx;have hrun:(fn.results.mapM (WG a'.tmps)).run P w'= .ok us.toArray w':=by rw[Array.mapM_eq_mapM_toList,Sem.run_map,g1];rfl
  have pS:∀b,I b->¬Wj β b/\b<w.heap.size:=by
   intro b hb;refine⟨?_,hM.lt b hb⟩;rintro⟨j,B,hj,hB⟩;rcases Nat.lt_or_ge j os.length with hjl |hjl
   ·exact(hM.ownB j os[j] B b (by simp[te,hjl]) hj hB).1 hb
   ·rw[hβ j hjl]at hj;cases hj
  obtain⟨β2,I2,hm,hI2,hv2⟩:=he w (uj β I) β' I' w' us.toArray hr.mem (by simpa using g2);have hmem:Mem P w (uj β I) β2 (λ b=>I2 b\/I b) (pm os') w':=by
   constructor
   ·intro k o hk;have⟨B,hB,hO⟩:=hm.cH k o hk;exact⟨B,hB,OR.mono (λ _ _ h=>h) (λ _ _=>rfl) (λ b hb=> .inl hb) (λ _ _=>rfl) hO⟩
   ·exact hm.gA
   ·intro k o B b h1 h2 h3;have⟨a1,a2,a3⟩:=hm.ownB k o B b h1 h2 h3;refine⟨?_,a2,a3⟩;rintro (hb |hb)
    ·exact a1 hb
    ·have⟨c1,c2⟩:=pS b hb;rcases a3 with a3 |a3
     ·exact c1 a3
     ·omega
   ·rintro b (hb |hb)
    ·exact hm.lt b hb
    ·exact Nat.lt_of_lt_of_le (pS b hb).2 hm.le
   ·rintro b (hb |hb)
    ·exact hm.up b hb
    ·exact .inl hb
   ·exact hm.keep
   ·exact hm.le
   ·exact hm.os
   ·exact hm.tape
   ·exact hm.output
   ·exact hm.anch
   ·exact hm.vars.mono (λ _ _=>rfl) (λ b hb=> .inl hb)
  refine⟨hr.defers,?_⟩;simp only[WH,Sem.run_bind,hrun,Result.andThen_ok,Sem.run_pure];exact⟨_,rfl,_,β2,_,rfl,hmem,λb hb=> .inr hb,VR.mono (λ _ _ h=>h) (λ _ _=>rfl) (λ b hb=> .inl hb) _ _ hv2⟩
 rintro e a' w' ⟨β',I',σ',h1,h2,h3⟩;cases e with
 |normal=>exact fin a' w' β' I' σ' h1 h3
 |ret=>exact fin a' w' β' I' σ' h1 h3
 |_=>exact h3.elim
theorem qT.Ge{F F':Nat->Prop}{βi:Nat->Option cE}{w':World}{I':Nat->Prop}(hF:∀b,F b->F' b){rv:RV}{v:Value}(h:qT P F βi rv w' I' v):qT P F' βi rv w' I' v:=by
 have hc:∀(c:RC)(v:Value),we P F βi c w' I' v->we P F' βi c w' I' v:=by
  intro c v h;cases c with
  |d x=>exact h
  |fresh sz rows=>
   rcases h with h |⟨b,c,e,cap,o,s,h1,h2,h3⟩
   ·exact .inl h
   ·exact .inr ⟨b,c,e,cap,o,s,h1,hF b h2,h3⟩
  |whole j len=>exact h
 cases rv with
 |one c=>exact hc c v h
 |fi cs=>
  obtain⟨vs,rfl,h⟩:=h;refine⟨vs,rfl,?_⟩;have:∀(cs:List RC)(vs:List Value),VP P F βi cs w' I' vs->VP P F' βi cs w' I' vs:=by
   intro cs
   induction cs with
   |nil=>intro vs h;cases vs with
    |nil=>trivial
    |cons=>exact h.elim
   |cons c cs ih=>intro vs h;cases vs with
    |nil=>exact h.elim
    |cons v vs=>exact⟨hc c v h.1,ih vs h.2⟩
  exact this cs vs.toList h
theorem WJ{f:FuncId}{args:List AV}{rv:RV}(h:rN P f args [] [] rv):sB P f args rv:=by
 refine⟨h.1,λw I vs hlt hgv hv=>?_⟩;have hM:Mem P w (uj mN I) mN I (sd []) w:=by
  refine⟨λ k o hk=>by simp[sd]at hk,λk k' o o' B B' b hk=>by simp[sd]at hk,λk o B b hk=>by simp[sd]at hk,hlt,λb hb=> .inl hb,λ_ _ _=>rfl,aQ _,rfl,rfl,rfl,λj B hj=>?_,hgv⟩;simp only[uj,mN,ite_self]at hj;cases hj
 refine(h.2 w mN I vs (λ _ _=>rfl) hM hv).mono ?_;rintro e w' ⟨v,I',rfl,g1,g2,g3⟩;have hno:∀b,¬(uj mN I).own b:=λb ⟨j,B,hj,_⟩=>by cases hj
 refine⟨v,I',rfl,⟨g1.os,g1.tape,g1.output,g1.le,λb hb=>g1.keep b hb (hno b)⟩,g2,g1.lt,λb hb=>?_,qT.Ge (λ b hb=>?_) g3⟩
 ·rcases g1.up b hb with h |h |h
  ·exact .inl h
  ·exact(hno b h).elim
  ·exact .inr h
 ·rcases hb.1 with h |h
  ·exact(hno b h).elim
  ·exact h
end
end Go.Gb
