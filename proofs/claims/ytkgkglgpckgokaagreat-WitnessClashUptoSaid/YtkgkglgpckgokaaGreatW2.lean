import Derived.Test.YtkgkglgpckgokaaGreatW1
import Derived.Lib.AppendZeros
import Derived.MapKept
import Derived.WideKeyRuns
import Derived.Laws.MakeOwn
import Derived.Maps.RangeRun
open Go.IntKind (i64)
open List (length_take mem_map all_eq_true map_congr_left)
namespace Go.Gb
open Go.RowKit
def DH(op:BinOp)(b:AV)(yes:Bool):Option Out:=
 match op with
 | .eql=>pv (if yes then b else .t (.sc (.bool false)))
 | .neq=>pv (if yes then b else .t (.sc (.bool true)))
 |_=>none
def At(T:ea)(op:BinOp)(t:TypeId)(x y:AV):Option Out:=
 (T t).bind λti=>match ti.k,x,y with
 | .slice _,.t (.sl rows),.cV=>DH op .ub rows.isEmpty
 | .slice _,.own _ _ len,.cV=>DH op .ub (len==0)
 | .slice _,.oz _ len,.cV=>DH op (.t (.sc (.bool (op== .eql)))) (len==0)
 | .slice _,.cV,.cV=>DH op (.t (.sc (.bool (op== .eql)))) true
 |_,_,_=>none
def M3(T:ea)(s d:TypeId)(x:AV):Option Out:=
 (T s).bind λ_=>(T d).bind λdi=>match di.k,x with
 | .int k,.t (.sc (.int _ n))=>pv (.t (.sc (.int k (k.wrap n))))
 |_,_=>none
def UX(T:ea)(t:TypeId)(x j:AV)(n:Int):Option Out:=
 (T t).bind λti=>match ti.k,x,j with
 | .str,.t (.sc (.string s)),.t (.sc (.int _ m))=>mw (.t (.sc (.int .u8 n))) (0<=m/\∃b,s[m.toNat]? =some b/\n=b.toNat)
 | .arr m e,.agg cs,.t (.sc (.int _ q))=>(T e).bind λei=>(part' ei.agg ei.size ((cs.drop (q.toNat*ei.size)).take ei.size)).bind λv=>mw v (0<=q/\q<(m:Int))
 |_,_,_=>none
def Jc(T:ea)(t:TypeId)(x:AV)(lo hi:Option AV):Option Out:=
 (T t).bind λti=>match ti.k,x with
 | .slice e,.cV=>(T e).bind λ_=>(bnd 0 lo).bind λl=>(bnd 0 hi).bind λh=>mw .cV (l=0/\h=0)
 |_,_=>none
def uM(T:ea)(i:Nat)(b:Builtin)(args:List AV)(cQ:List TypeId)(get:Nat->Option aS):Option Out:=
 match b,args,cQ with
 | .cap,[.cV],[t]=>(T t).bind λti=>match ti.k with
  | .slice _=>pv (.t (.sc (.int .i64 0)))
  |_=>none
 | .clear,[.own k aa _],[t]=>(T t).bind λti=>match ti.k with
  | .slice e=>(T e).bind λei=>(get k).bind λo=>if o.sz=ei.size then some ⟨.eC [],[(k,some ⟨o.sz,o.rows.take aa⟩)],[]⟩else none
  |_=>none
 | .append,[.cV,.t (.sc (.int _ m))],[t,u]=>(T t).bind λti=>(T u).bind λui=>match ti.k,ui.k with
  | .slice e,.int _=>(T e).bind λei=>some ⟨.own (cJ i) 0 m.toNat,[(cJ i,some ⟨ei.size,dW (List.replicate m.toNat (ei.zero.map cv))⟩)],[0<=m/\m.toNat*ei.bytes<=140737488355328/\m.toNat<=maxLen/\0<ei.size]⟩
  |_,_=>none
 |_,_,_=>none
def sH(T:ea)(i:Nat)(o:Oper)(n:Int)(ρ:Operand->AV)(get:Nat->Option aS):Option Out:=
 match o.op with
 | .binOp op t x y _=>At T op t (ρ x) (ρ y)
 | .convert s d x=>M3 T s d (ρ x)
 | .index t x j=>UX T t (ρ x) (ρ j) n
 | .slice t x lo hi none=>Jc T t (ρ x) (lo.map ρ) (hi.map ρ)
 | .call { callee:= .builtin b,args:=args,argTypes:=cQ }=>uM T i b (args.toList.map ρ) cQ.toList get
 |_=>none
section
variable {T:ea}
theorem QX{i:Nat}{o:Oper}{cw:i8}{ρ ρ':Operand->AV}{get:Nat->Option aS}(h:∀x∈o.op.operands,ρ x=ρ' x):pU T i o cw ρ get=pU T i o cw ρ' get:=by
 obtain⟨dst,op,ty,ao,after,guard⟩:=o;have pairs:∀ps:Array (Nat×Operand),(∀ x∈(ps.toList.map (·.2)).toArray,ρ x=ρ' x)->(ps.toList.map λ(j,x)=>(j,ρ x))=(ps.toList.map λ(j,x)=>(j,ρ' x)):=λps hp=>
  map_congr_left λp hm=>by
   obtain⟨i,x⟩:=p;simp only[hp x (by simp only[List.mem_toArray];exact mem_map.2 ⟨(i,x),hm,rfl⟩)]
 cases op<;>simp only[Op.operands]at h<;>simp only[pU]
 case build t ps=>rw[pairs ps h]
 case buildSlice t n ps=>rw[pairs ps h]
 case makeFunc fn first captured=>
  have h1:first.toList.map ρ=first.toList.map ρ':=map_congr_left λx hx=>h x (by simp;exact .inl (by simpa using hx))
  have h2:captured.toList.map ρ=captured.toList.map ρ':=map_congr_left λx hx=>h x (by simp;exact .inr (by simpa using hx));cases fn<;>simp only[h1,h2]
 case call c=>
  obtain⟨callee,args,cQ⟩:=c;cases callee<;>simp only
  case builtin b=>
   have h1:args.toList.map ρ=args.toList.map ρ':=map_congr_left λx hx=>h x (by simp[Call.operands];simpa using hx);rw[h1]
 case slice t x lo hi mx=>
  have hx:=h x (by simp);cases mx with
  |some m=>rfl
  |none=>
   simp only[hx];cases lo<;>cases hi<;>simp_all
 case pick c a b=>rw[h c (by simp),h a (by simp),h b (by simp)]
 all_goals (first |rfl |(simp_all;done))
theorem qK:∀(l:List Prop),(∀ p∈l,p)->jl l
 |[],_=>trivial
 |[q],h=>h q (by simp)
 |q::r::l,h=>⟨h q (by simp),qK (r::l) λp hp=>h p (eG _ hp)⟩
theorem aaH{i:Nat}{o:Oper}{n:Int}{ρ ρ':Operand->AV}{get:Nat->Option aS}(h:∀x∈o.op.operands,ρ x=ρ' x):sH T i o n ρ get=sH T i o n ρ' get:=by
 obtain⟨dst,op,ty,ao,after,guard⟩:=o;cases op<;>simp only[Op.operands]at h<;>simp only[sH]
 case binOp a b c d e=>rw[h c (by simp),h d (by simp)]
 case convert s d x=>rw[h x (by simp)]
 case index t x j=>rw[h x (by simp),h j (by simp)]
 case call c=>
  obtain⟨callee,args,cQ⟩:=c;cases callee<;>simp only
  case builtin b=>
   have h1:args.toList.map ρ=args.toList.map ρ':=map_congr_left λx hx=>h x (by simp[Call.operands];simpa using hx);rw[h1]
 case slice t x lo hi mx=>
  have hx:=h x (by simp);cases mx with
  |some m=>rfl
  |none=>
   simp only[hx];cases lo<;>cases hi<;>simp_all
end
def ZD:Op->Bool
 | .pick .. =>true
 |_=>false
def GA(P:Program)(T:ea)(i:Nat)(o:Oper)(ae:List Nat)(fr:Operand->AV)(cw:i8)(ρ:Operand->AV)(get:Nat->Option aS):Option Out:=
 if ZD o.op then none else(pU T i o cw fr (λ k=>if k∈ae then none else get k)).bind λab=>
  some ⟨ab.v,ab.upd++ae.map (λ k=>(k,none)),ab.obs++[∀ x∈o.op.operands,(fx P get (ρ x) (fr x)/\∀k∈refs (ρ x),k∈ae)\/fr x=ρ x]⟩
theorem aaI{P:Program}{T:ea}{i:Nat}{o:Oper}{ae:List Nat}{fr:Operand->AV}{cw:i8}{ρ ρ':Operand->AV}{get:Nat->Option aS}(h:∀x∈o.op.operands,ρ x=ρ' x):GA P T i o ae fr cw ρ get=GA P T i o ae fr cw ρ' get:=by
 unfold GA;have:(∀ x∈o.op.operands,(fx P get (ρ x) (fr x)/\∀k∈refs (ρ x),k∈ae)\/fr x=ρ x)=(∀ x∈o.op.operands,(fx P get (ρ' x) (fr x)/\∀k∈refs (ρ' x),k∈ae)\/fr x=ρ' x):=by
  apply propext;constructor<;>intro hh x hx
  ·rw[<- h x hx];exact hh x hx
  ·rw[h x hx];exact hh x hx
 rw[this]
section
variable {P:Program} {T:ea} {w0:World} {O0:j8} {β:Nat->Option cL} {I:Nat->Prop} {obj:Nat->Option aS} {w:World} {i:Nat}
theorem afm(hT:eY P T){op:BinOp}{t:TypeId}{x y:AV}{xo yo:Operand}{u v:Value}{ab:Out}(ha:At T op t x y=some ab)(hx:VR P β w I x u)(hy:VR P β w I y v):
 ∃z,(do eqGuard op t xo yo u v;binOp op t u v:Sem Value).run P w= .ok z w/\VR P β w I ab.v z/\ab.upd=[]:=by
 unfold At at ha;cases hti:T t with
 |none=>simp[hti]at ha
 |some ti=>
  have ht:=hT t ti hti;simp only[hti,af]at ha;have eq:∀e a n c,P.underlying t=some (.slice e)->(Op.equal t (.slice a n c) (.slice none 0 0)).run P w= .ok a.isNone w:=by
   intro e a n c hu;have:∀d,(Op.equalIn (d+1) t (.slice a n c) (.slice none 0 0)).run P w= .ok a.isNone w:=by
    intro d;cases a<;>simp[Op.equalIn,run_underlying hu]
   exact this 9999
  have main:∀e,P.underlying t=some (.slice e)->∀a n c,u= .slice a n c->v= .slice none 0 0->(op= .eql\/op= .neq)->
   (do eqGuard op t xo yo u v;binOp op t u v:Sem Value).run P w= .ok (.bool (if op= .eql then a.isNone else !a.isNone)) w:=by
   rintro e hu a n c rfl rfl (rfl |rfl)
   ·simp[eqGuard,binOp,eq e a n c hu]
   ·simp[eqGuard,binOp,eq e a n c hu]
  have fin:∀e,P.underlying t=some (.slice e)->∀a n c,u= .slice a n c->v= .slice none 0 0->∀(bv:AV)(yes:Bool),DH op bv yes=some ab->
   (yes=false->a.isNone=false)->(yes=true->∀q,(q=if op= .eql then a.isNone else !a.isNone)->VR P β w I bv (.bool q))->
   ∃z,(do eqGuard op t xo yo u v;binOp op t u v:Sem Value).run P w= .ok z w/\VR P β w I ab.v z/\ab.upd=[]:=by
   intro e hu a n c h1 h2 bv yes hn hno Hm;unfold DH at hn;split at hn
   ·simp only[pv,aA]at hn;subst hn;refine⟨_,main e hu a n c h1 h2 (.inl rfl),?_,rfl⟩;cases yes with
    |true=>exact Hm rfl _ rfl
    |false=>simp only[VR,TR,hno rfl];exact⟨by simp,trivial⟩
   ·simp only[pv,aA]at hn;subst hn;refine⟨_,main e hu a n c h1 h2 (.inr rfl),?_,rfl⟩;cases yes with
    |true=>exact Hm rfl _ rfl
    |false=>simp only[VR,TR,hno rfl];exact⟨by simp,trivial⟩
   ·cases hn
  split at ha
  ·rename_i e rows hk;have hu:=gX ht hk;simp only[VR]at hy;simp only[VR,TR]at hx;rcases hx with ⟨rfl,a,c,rfl,_⟩ |⟨b,aa,c,sz,rfl,_⟩
   ·exact fin _ hu _ _ _ rfl hy _ _ ha (λ h=>by simp at h) (λ _ q _=>by simp only[VR];exact⟨q,rfl⟩)
   ·exact fin _ hu _ _ _ rfl hy _ _ ha (λ _=>rfl) (λ _ q _=>by simp only[VR];exact⟨q,rfl⟩)
  ·rename_i e k aa len hk;have hu:=gX ht hk;simp only[VR]at hx hy;rcases hx with ⟨_,rfl,_,rfl⟩ |⟨b,sz,n,cap,o,_,rfl,_⟩
   ·exact fin _ hu _ _ _ rfl hy _ _ ha (λ h=>by simp at h) (λ _ q _=>by simp only[VR];exact⟨q,rfl⟩)
   ·exact fin _ hu _ _ _ rfl hy _ _ ha (λ _=>rfl) (λ _ q _=>by simp only[VR];exact⟨q,rfl⟩)
  ·rename_i e k len hk;have hu:=gX ht hk;simp only[VR]at hx hy;rcases hx with ⟨h0,rfl⟩ |⟨h0,b,sz,n,cap,o,_,rfl,_⟩
   ·refine fin _ hu _ _ _ rfl hy _ _ ha (λ h=>by simp[h0]at h) (λ _ q hq=>?_);simp only[VR,TR,hq];cases op<;>exact⟨by simp,trivial⟩
   ·exact fin _ hu _ _ _ rfl hy _ _ ha (λ _=>rfl) (λ h=>by simp[h0]at h)
  ·rename_i e hk;have hu:=gX ht hk;simp only[VR]at hx hy;subst hx;refine fin _ hu _ _ _ rfl hy _ _ ha (λ h=>by cases h) (λ _ q hq=>?_);simp only[VR,TR,hq];cases op<;>exact⟨by simp,trivial⟩
  ·cases ha
theorem acF(hT:eY P T){s d:TypeId}{x:AV}{u:Value}{ab:Out}(ha:M3 T s d x=some ab)(hx:VR P β w I x u):
 ∃z,(convert s d u).run P w= .ok z w/\VR P β w I ab.v z/\ab.upd=[]:=by
 unfold M3 at ha;cases hsi:T s with
 |none=>simp[hsi]at ha
 |some si=>
  cases hdi:T d with
  |none=>simp[hsi,hdi]at ha
  |some di=>
   simp only[hsi,hdi,af]at ha;split at ha
   ·rename_i k kk n hk;simp only[pv,aA]at ha;subst ha;have⟨info,dd,z,_,h2,_⟩:=(hT s si hsi).ex;have⟨info',dd',z',_,h2',_,_,_,_,_,h8⟩:=(hT d di hdi).ex;rw[hk]at h8;have h8:dd'= .int k:=h8;subst h8;simp only[VR,TR]at hx;obtain⟨rfl,_⟩:=hx;refine⟨.int k (k.wrap n),?_,by simp only[VR,TR];exact⟨trivial,trivial⟩,rfl⟩;simp[convert,run_underlying h2,run_underlying h2',Conv.intToInt]
   ·cases ha
theorem aaJ(hT:eY P T){t:TypeId}{x j:AV}{n:Int}{u v:Value}{ab:Out}(ha:UX T t x j n=some ab)(cM:ab.ob)(hx:VR P β w I x u)(hj:VR P β w I j v):
 ∃z,(Instr.index t u v).run P w= .ok z w/\VR P β w I ab.v z/\ab.upd=[]:=by
 unfold UX at ha;cases hti:T t with
 |none=>simp[hti]at ha
 |some ti=>
  simp only[hti,af]at ha;split at ha
  ·rename_i s k m hk;simp only[mw,aA]at ha;subst ha;obtain⟨h0,b,hb,rfl⟩:=cM;have⟨info',dd',z',_,h2',_,_,_,_,_,h8⟩:=(hT t ti hti).ex;rw[hk]at h8;have h8:dd'= .string:=h8;subst h8;simp only[VR,TR]at hx hj;obtain⟨rfl,_⟩:=hx;obtain⟨rfl,_⟩:=hj;refine⟨.int .u8 b.toNat,?_,by simp only[VR,TR];exact⟨trivial,trivial⟩,rfl⟩;simp[Instr.index,asIntOf,run_underlying h2',h0,hb]
  ·rename_i m e cs kd q hk;have eQ:=LZ (hT t ti hti) hk;cases fj:T e with
   |none=>simp[fj]at ha
   |some ei=>
    simp only[fj,af]at ha;cases hp:part' ei.agg ei.size ((cs.drop (q.toNat*ei.size)).take ei.size)with
    |none=>simp[hp]at ha
    |some y=>
     simp only[hp,af,mw,aA]at ha;subst ha;have cM:0<=q/\q<(m:Int):=cM;simp only[VR,TR]at hx hj;obtain⟨vs,rfl,hvs⟩:=hx;obtain⟨rfl,_⟩:=hj;have he:=hT e ei fj;have⟨u,hu,hv⟩:=acA he hp hvs;refine⟨u,?_,hv,rfl⟩;simp[Instr.index,asIntOf,run_underlying eQ,cM.1,cM.2,he.size (w:=w)];simpa using hu
  ·cases ha
theorem R4(hT:eY P T){t:TypeId}{x:AV}{lo hi:Option AV}{ab:Out}{v:Value}{th hiv:Option Value}
 (ha:Jc T t x lo hi=some ab) (cM:ab.ob) (hx:VR P β w I x v) (hlo:∀x,lo=some x->∃v,th=some v/\VR P β w I x v) (hlo0:lo=none->th=none) (hhi:∀x,hi=some x->∃v,hiv=some v/\VR P β w I x v) (hhi0:hi=none->hiv=none):
 ∃u,(Instr.sliceAt t v th hiv none).run P w= .ok u w/\VR P β w I ab.v u/\ab.upd=[]:=by
 unfold Jc at ha;cases hti:T t with
 |none=>simp[hti]at ha
 |some ti=>
  have ht:=hT t ti hti;simp only[hti,af]at ha;split at ha
  ·rename_i e hkd;cases fj:T e with
   |none=>simp[fj]at ha
   |some ei=>
    have he:=hT e ei fj;simp only[fj,af]at ha;cases hl:bnd 0 lo with
    |none=>simp[hl]at ha
    |some l=>
     cases hh:bnd 0 hi with
     |none=>simp[hl,hh]at ha
     |some r=>
      simp only[hl,hh,af,mw,aA]at ha;subst ha;obtain⟨rfl,rfl⟩:=cM;simp only[VR]at hx;subst hx;have:=EZ (P:=P) (w:=w) (len:=0) (cap:=0) (Jb hl hlo hlo0) (Jb hh hhi hhi0) (by omega) (by omega) (by omega);refine⟨.slice none 0 0,?_,by simp only[VR],rfl⟩;simp[Instr.sliceAt,Instr.slice,run_underlying (gX ht hkd),this,he.size (w:=w)]
  ·cases ha
theorem bo.congr:∀(rows:List (List AV))(c c':Array Value)(aa sz:Nat),(∀ j,j<aa+rows.length*sz->c'[j]? =c[j]?)->bo P β w I rows c aa sz->bo P β w I rows c' aa sz
 |[],_,_,_,_,_,_=>trivial
 |r::rs,c,c',aa,sz,hc,⟨h1,h2,h3⟩=>by
  have hl:(r::rs).length*sz=sz+rs.length*sz:=by rw[bI,Nat.add_mul];omega
  rw[hl]at hc;refine⟨h1,?_,bo.congr rs c c' (aa+sz) sz (λ j hj=>hc j (by omega)) h3⟩;rw[jq]at h2 ⊢;intro j x hx;have hj:=(dF.1 hx).1;rw[hc (aa+j) (by omega)];exact h2 j x hx
theorem bo.zeros(z:List Value)(sz:Nat)(hz:z.length=sz)(h1:∀v∈z,oneCell v):∀(n:Nat)(c:Array Value)(aa:Nat),(∀ i j,i<n->j<sz->c[aa+i*sz+j]? =z[j]?)->bo P β w I (List.replicate n (z.map cv)) c aa sz
 | 0,_,_,_=>trivial
 |n+1,c,aa,hc=>by
  rw[List.replicate_succ];refine⟨by simpa using hz,?_,bo.zeros z sz hz h1 n c (aa+sz) λi j hi hj=>?_⟩
  ·rw[jq];intro j x hx;simp only[List.getElem?_map,dK]at hx;obtain⟨v,hv,rfl⟩:=hx;have hj:=(dF.1 hv).1;refine⟨v,?_,VR.cv,h1 v (dh hv)⟩;have:=hc 0 j (by omega) (by omega);rw[Nat.zero_mul,Nat.add_zero]at this;rw[this];exact hv
  ·have:=hc (i+1) j (by omega) hj;rw[show aa+sz+i*sz+j=aa+(i+1)*sz+j by rw[Nat.add_mul];omega];exact this
theorem Kh(z:Array Value)(n j:Nat)(h:j<n*z.size):(Builtin.zeroCells z n)[j]? =z[j%z.size]? :=by
 have hz:0<z.size:=Nat.pos_of_ne_zero λe=>by rw[e]at h;omega
 have hm:j%z.size<z.size:=Nat.mod_lt _ hz;simp[Builtin.zeroCells,h,hm]
theorem R5(hT:eY P T)(h:Mem P w0 O0 β I obj w)(hn:β (cJ i)=none){b:Builtin}{args:List AV}{cQ:Array TypeId}{get:Nat->Option aS}{ab:Out}(hg:∀k o,get k=some o->obj k=some o)
 {vs:Array Value} {ty:TypeId} {al:Array Operand} (ha:uM T i b args cQ.toList get=some ab) (cM:ab.ob) (hv:aE P β w I args vs.toList) {r:Operand->Value} (hops:vs=al.map r) {dst:Option Tmp} {ao:String} {after:Array Edge} {guard:Option (Nat×Bool)}:
 sk P w0 O0 β I obj w i ab ((execOp r ⟨dst,.call { callee:= .builtin b,args:=al,argTypes:=cQ },ty,ao,after,guard⟩).run P w):=by
 unfold uM at ha;split at ha
 ·rename_i t qS;obtain⟨v,hvs⟩:∃v,vs=#[v]:=by
   obtain⟨l⟩:=vs
   match l,hv with
   |[v],_=>exact⟨v,rfl⟩
   |[],h=>simp[aE]at h
   |_::_::_,h=>simp[aE]at h
  have ht:cQ=#[t]:=by cases cQ;simpa using qS
  subst hvs ht;simp only[aE,VR]at hv;cases hti:T t with
  |none=>simp[hti]at ha
  |some ti=>
   simp only[hti,af]at ha;split at ha
   ·rename_i e hk;simp only[pv,aA]at ha;subst ha;refine⟨.int .i64 0,w,β,I,.inl ?_,Step.refl ..,h,by simp only[VR,TR];exact⟨trivial,trivial⟩⟩;rw[hv.1]at hops;simp[execOp,resolve,invoke,builtin,<- hops,Builtin.cap_,run_underlying (gX (hT t ti hti) hk),goInt]
   ·cases ha
 ·rename_i k aa len t qS;obtain⟨v,hvs⟩:∃v,vs=#[v]:=by
   obtain⟨l⟩:=vs
   match l,hv with
   |[v],_=>exact⟨v,rfl⟩
   |[],h=>simp[aE]at h
   |_::_::_,h=>simp[aE]at h
  have ht:cQ=#[t]:=by cases cQ;simpa using qS
  subst hvs ht;simp only[aE]at hv;have hv:=hv.1;cases hti:T t with
  |none=>simp[hti]at ha
  |some ti=>
   simp only[hti,af]at ha;split at ha
   ·rename_i e hkd;cases fj:T e with
    |none=>simp[fj]at ha
    |some ei=>
     cases hk:get k with
     |none=>simp[fj,hk]at ha
     |some o=>
      simp only[fj,hk,af]at ha;split at ha
      ·rename_i hsz;cases ha;have he:=hT e ei fj;have eQ:=gX (hT t ti hti) hkd;obtain⟨info,d,z,g1,g2,g3,g4,g5,g6,g7,g8⟩:=he.ex;have hko:=hg k o hk;have weak:∀{w':World},Mem P w0 O0 β I obj w'->Mem P w0 O0 β I (cK obj [(k,some ⟨o.sz,o.rows.take aa⟩)]) w':=by
        intro w' hm;refine hm.weak λj o' hj=>?_;simp only[cK]at hj;split at hj
        ·rename_i e;subst e;cases hj;refine⟨o,hko,λB hB hO=>?_⟩;cases B with
         |none=>simp only[OR]at hO ⊢;simp[hO]
         | «at» b s n=>
          obtain⟨h1,c,e,h2,h3,h4⟩:=hO;exact⟨h1,c,e,h2,h3,bo.take _ _ _ _ _ h4⟩
         |mp b=>
          obtain⟨es,cl,h1,hle,h2,h3⟩:=hO;refine⟨es,cl,h1,by simp only[length_take];omega,λe=>?_,h3⟩;simp only[length_take]at e;simp only;rw[List.take_of_length_le (by omega)];exact h2 (by omega)
        ·exact⟨o',hj,λ_ _ h=>h⟩
       have hdone:∀w',(Builtin.clear_ #[t] ty #[v]).run P w= .ok (.tuple #[]) w'->(execOp r ⟨dst,.call { callee:= .builtin .clear,args:=al,argTypes:=#[t] },ty,ao,after,guard⟩).run P w= .ok (.value (.tuple #[])) w':=by
        intro w' hw;simp[execOp,resolve,invoke,builtin,<- hops,hw]
       have A0:∀{w':World},VR P β w' I (.eC []) (.tuple #[]):=by
        intro w';simp only[VR];exact⟨#[],rfl,trivial⟩
       simp only[VR]at hv;rcases hv with ⟨h1,rfl,_,rfl⟩ |⟨b,sz,m,cap,a,h1,rfl,h2,h3,h4⟩
       ·exact⟨_,w,β,I,.inl (hdone w (by simp[Builtin.clear_,run_underlying eQ])),Step.refl ..,weak h,A0⟩
       ·by_cases h0:len=0
        ·subst h0;exact⟨_,w,β,I,.inl (hdone w (by simp[Builtin.clear_,run_underlying eQ])),Step.refl ..,weak h,A0⟩
        ·have⟨B,hB,hO⟩:=h.cE k o hko;rw[h1]at hB;cases hB;obtain⟨hs,c,ce,hc,hcn,hO⟩:=hO;have ha':a=m.s+aa*sz:=h4 (by omega);subst ha';have hzs:z.cells.size=ei.size:=(by rw[<- Array.length_toList,g6];exact he.len);have hzl:(Builtin.zeroCells z.cells len).toList.length=len*ei.size:=(by simp[size_zeroCells,hzs]);have hfit:m.s+aa*sz+len*ei.size<=c.size:=by
          rw[hcn,<- hsz,<- hs,Nat.add_assoc,<- Nat.add_mul];have:(aa+len)*sz<=(aa+cap)*sz:=Nat.mul_le_mul_right _ (by omega);omega
         have hone:∀u∈(Builtin.zeroCells z.cells len).toList,u.oneCell'=true:=by
          intro u hu;obtain⟨j,hj⟩:=List.getElem?_of_mem hu;have hjl:=(dF.1 hj).1;rw[hzl,<- hzs]at hjl;rw[Array.getElem?_toList,Kh _ _ _ hjl]at hj;have:u∈ei.zero:=(by rw[<- g6];exact Array.mem_toList_iff.2 (Array.mem_of_getElem? hj));exact oneCell' (sF (all_eq_true.1 he.one u this))
         have hst:=run_storeCells_at P b (m.s+aa*sz) ce (Builtin.zeroCells z.cells len).toList 0 c w hc (by rw[hzl];omega) hone;simp only[Nat.add_zero]at hst;generalize hcc:(List.take (m.s+aa*sz) c.toList++(Builtin.zeroCells z.cells len).toList++List.drop (m.s+aa*sz+(Builtin.zeroCells z.cells len).toList.length) c.toList).toArray=cc at hst;have SO:cc.size=c.size:=(by rw[<- hcc];simp[length_take,List.length_drop,size_zeroCells,hzs];omega);have hzv:(zeroValue e).run P w= .ok z w:=(by simp[zeroValue,typeInfo,g1,g5]);have hrun:(Builtin.clear_ #[t] ty #[.slice (some ⟨b,m.s+aa*sz,none⟩) len cap]).run P w= .ok (.tuple #[]) (w.setRow b cc):=by
          obtain⟨len',rfl⟩:∃len',len=len'+1:=⟨len -1,by omega⟩;simp[Builtin.clear_,run_underlying eQ,hzv,hst]
         obtain⟨vn,hM⟩:=Mem.write (o':=⟨o.sz,o.rows.take aa⟩) h hko h1 (c':=cc) (e:=ce) (setRow_heap w b c cc ce (0,0) hc) (λ b' hb=>setRow_other w b b' cc hb) (by simp) rfl rfl rfl hs (by omega) (by
          refine bo.congr _ c cc m.s o.sz (λ j hj=>?_) (by rw[<- hs];exact bo.take _ _ _ _ _ hO);have hj2:j<m.s+aa*sz:=by
           rw[hs];refine Nat.lt_of_lt_of_le hj (Nat.add_le_add_left ?_ _);exact Nat.mul_le_mul_right _ (by simp[length_take];omega)
          rw[<- hcc,List.getElem?_toArray,aK,List.getElem?_append_left (by simp[length_take];omega),List.getElem?_take,aX hj2,Array.getElem?_toList])
         exact⟨_,_,β,I,.inl (hdone _ hrun),⟨λ _ _=>rfl,λ_ _ h=>h,vn,λ_ h=>h⟩,hM,A0⟩
      ·cases ha
   ·cases ha
 ·rename_i kk m t u qS;obtain⟨v,v',hvs⟩:∃v v',vs=#[v,v']:=by
   obtain⟨l⟩:=vs
   match l,hv with
   |[v,v'],_=>exact⟨v,v',rfl⟩
   |[],h=>simp[aE]at h
   |[_],h=>simp[aE]at h
   |_::_::_::_,h=>simp[aE]at h
  have ht:cQ=#[t,u]:=by cases cQ;simpa using qS
  subst hvs ht;simp only[aE,VR,TR]at hv;obtain⟨rfl,⟨rfl,_⟩,_⟩:=hv;cases hti:T t with
  |none=>simp[hti]at ha
  |some ti=>
   cases wc:T u with
   |none=>simp[hti,wc]at ha
   |some ui=>
    simp only[hti,wc,af]at ha;split at ha
    ·rename_i e kn hkd Bm;cases fj:T e with
     |none=>simp[fj]at ha
     |some ei=>
      simp only[fj,af,aA]at ha;subst ha;obtain⟨m0,m48,Hh,mpos⟩:=cM;have he:=hT e ei fj;have eQ:=gX (hT t ti hti) hkd;obtain⟨info,d,z,g1,g2,g3,g4,g5,g6,g7,g8⟩:=he.ex;have⟨_,dd',_,_,h2',_,_,_,_,_,h8⟩:=(hT u ui wc).ex;rw[Bm]at h8;have h8:dd'= .int kn:=h8;subst h8;obtain⟨n,rfl⟩:∃n:Nat,m=(n:Int):=⟨m.toNat,by omega⟩;simp only[Int.toNat_natCast]at m48 Hh ⊢;by_cases h0:n=0
      ·subst h0;have⟨hS,hM⟩:=Mem.pp (i:=cJ i) (o:=⟨ei.size,[]⟩) h hn rfl;have hrun:(Builtin.append_ #[t,u] ty #[.slice none 0 0,.int kk ((0:Nat):Int)]).run P w= .ok (.slice none 0 0) w:=by
        have hw0:i64.wrap (0:Int)=0:=(by decide);simp[Builtin.append_,run_underlying eQ,run_underlying h2',sizeOf,typeInfo,g1,asInt,asIntOf,hw0]
       replace hrun:(Builtin.append_ #[t,u] ty #[.slice none 0 0,.int kk 0]).run P w= .ok (.slice none 0 0) w:=hrun
       refine⟨.slice none 0 0,w,_,I,.inl (by simp[execOp,resolve,invoke,builtin,<- hops,hrun]),hS,by simpa[dW]using hM,by simp only[VR];exact .inl ⟨by simp[ins],trivial,trivial,trivial⟩⟩
      ·have hrun:=Lib.run_append_nil_zeros (P:=P) w t u ty e info z kk kn eQ h2' g1 g5 n (by omega) (by omega) (by simp only[maxLen]at Hh;omega) (by rw[g4];omega);have hd:=h.drew;have hzs:z.cells.size=ei.size:=(by rw[<- Array.length_toList,g6];exact he.len);have hge:=grownCap_ge w n 0 e;generalize hC:Builtin.zeroCells z.cells n++Builtin.zeroCells z.cells (grownCap w n 0 e -n)=cs at hrun;have hcs:cs.size=grownCap w n 0 e*ei.size:=by
        rw[<- hC];simp only[Array.size_append,size_zeroCells,hzs,<- Nat.add_mul];rw[show n+(grownCap w n 0 e -n)=grownCap w n 0 e by omega]
       obtain⟨hS,hM⟩:=Mem.alloc (i:=cJ i) (o:=⟨ei.size,List.replicate n (ei.zero.map cv)⟩) (c:=cs) (e:=e) hd hn (by
        refine bo.zeros ei.zero ei.size he.len (λ v hv=>sF (all_eq_true.1 he.one v hv)) n cs 0 (λ i j hi hj=>?_);have hlt:0+i*ei.size+j<n*ei.size:=by
         have:(i+1)*ei.size<=n*ei.size:=Nat.mul_le_mul_right _ (by omega);rw[Nat.add_mul]at this;omega
        rw[<- hC,Array.getElem?_append_left (by simpa[size_zeroCells,hzs]using hlt),Kh _ _ _ (by rw[hzs];exact hlt),hzs,<- g6,Array.getElem?_toList];congr 1;rw[Nat.zero_add,Nat.mul_comm,Nat.mul_add_mod,Nat.mod_eq_of_lt hj])
       refine⟨_,_,_,I,.inl (by simp[execOp,resolve,invoke,builtin,<- hops,hrun];rfl),⟨hS.other,hS.ext,λb hb=>hS.same b hb,hS.inc⟩,hM.we,?_⟩;simp only[VR];refine .inr ⟨w.heap.size,ei.size,_,_,0,by simp[ins];rfl,rfl,hge,?_,by simp⟩;rw[hcs,Nat.zero_add];simp
    ·cases ha
 ·cases ha
theorem aaK(hT:eY P T)(h:Mem P w0 O0 β I obj w)(hn:β (cJ i)=none){o:Oper}{n:Int}{ρ:Operand->AV}{get:Nat->Option aS}{ab:Out}(hg:∀k o,get k=some o->obj k=some o)
 {r:Operand->Value} (hρ:∀x,VR P β w I (ρ x) (r x)) (ha:sH T i o n ρ get=some ab) (cM:ab.ob):sk P w0 O0 β I obj w i ab ((execOp r o).run P w):=by
 obtain⟨dst,op,ty,ao,after,guard⟩:=o;have val:∀{s:Sem Value}{z:Value},s.run P w= .ok z w->ab.upd=[]->VR P β w I ab.v z->sk P w0 O0 β I obj w i ab ((do pure (.value (<- s)):Sem Next).run P w):=by
  intro s z h1 h2 h3;refine⟨z,w,β,I,.inl (by simp[h1]),Step.refl ..,by rw[h2];exact h,h3⟩
 unfold sH at ha;split at ha
 ·rename_i bop t x y q heq;simp only at heq;subst heq;have⟨z,h1,h2,h3⟩:=afm (xo:=x) (yo:=y) hT ha (hρ x) (hρ y);exact val h1 h3 h2
 ·rename_i s d x heq;simp only at heq;subst heq;have⟨z,h1,h2,h3⟩:=acF hT ha (hρ x);exact val h1 h3 h2
 ·rename_i t x j heq;simp only at heq;subst heq;have⟨z,h1,h2,h3⟩:=aaJ hT ha cM (hρ x) (hρ j);exact val h1 h3 h2
 ·rename_i t x lo hi heq;simp only at heq;subst heq;obtain⟨z,h1,h2,h3⟩:=R4 (th:=lo.map r) (hiv:=hi.map r) hT ha cM (hρ x) (λ y hy=>by
   cases lo with
   |none=>cases hy
   |some q=>cases hy;exact⟨r q,rfl,hρ q⟩) (λ h=>by cases lo<;>first |rfl |cases h) (λ y hy=>by
   cases hi with
   |none=>cases hy
   |some q=>cases hy;exact⟨r q,rfl,hρ q⟩) (λ h=>by cases hi<;>first |rfl |cases h)
  exact val h1 h3 h2
 ·rename_i b args cQ heq;simp only at heq;subst heq;exact R5 hT h hn hg ha cM (by rw[Array.toList_map];exact aE.map hρ _) rfl
 ·cases ha
theorem aaL(hT:eY P T)(h:Mem P w0 O0 β I obj w)(hn:β (cJ i)=none){o:Oper}{ae:List Nat}{fr:Operand->AV}{cw:i8}{ρ:Operand->AV}{get:Nat->Option aS}{ab:Out}(hg:∀k o,get k=some o->obj k=some o)
 {r:Operand->Value} (hρ:∀x,VR P β w I (ρ x) (r x)) (ha:GA P T i o ae fr cw ρ get=some ab) (cM:ab.ob):sk P w0 O0 β I obj w i ab ((execOp r o).run P w):=by
 unfold GA at ha;split at ha
 ·cases ha
 rw[ai]at ha;obtain⟨out',h1,h2⟩:=ha;cases h2;have cM:=qj _ cM;have hb:=cM (∀ x∈o.op.operands,(fx P get (ρ x) (fr x)/\∀k∈refs (ρ x),k∈ae)\/fr x=ρ x) (by simp);have hsub:∀k o',cK obj (ae.map λk=>(k,none)) k=some o'->obj k=some o'/\k∉ae:=by
  intro k o' hk;rw[xW]at hk;split at hk
  ·cases hk
  ·exact⟨hk,‹_›⟩
 have hd:=h.drop (cK obj (ae.map λk=>(k,none))) (λ k o hk=>(hsub k o hk).1);obtain⟨_,hM⟩:=hd.below (I':=fL β obj ae I) (w':=w) ⟨rfl,rfl,rfl,aC _,λ_ _=>rfl⟩ (λ b hb=> .inl hb) (Ma h ae) (λ b k o B hb' e1 e2 e3=>by
  have⟨f1,f2⟩:=hsub k o e1;have⟨a1,_,_⟩:=h.ownB k o B b f1 e2 e3;rcases hb' with h5 |⟨k',o',s',n',g1,g2,g3⟩
  ·exact a1 h5
  ·have:=h.lv k k' o o' b f1 g2 ⟨B,e2,e3⟩ (.at g3);subst this;exact f2 g1) (λ b hb'=>by
  rcases hb' with h5 |⟨k',o',s',n',g1,g2,g3⟩
  ·exact h.up b h5
  ·exact .inr (h.own k' o' b s' n' g2 g3).2.2)
 have hfr:∀x,VR P β w (fL β obj ae I) ((λ x=>open Classical in if x∈o.op.operands then fr x else .undef) x) (r x):=by
  intro x;by_cases hx:x∈o.op.operands
  ·simp only[hx,if_true];rcases hb x hx with ⟨b1,b2⟩ |b1
   ·exact VR.mono (λ k B h=>by simp[ma]at h) (λ _ _=>rfl) (λ _ h=>h) _ _ (fx.sound h ae _ _ _ b2 (fx.weaken hg _ _ b1) (hρ x))
   ·rw[b1];exact VR.mono (λ _ _ h=>h) (λ _ _=>rfl) (λ _ h=> .inl h) _ _ (hρ x)
  ·simp only[hx,if_false,VR]
 rw[QX (ρ':=λx=>open Classical in if x∈o.op.operands then fr x else .undef) (λ x hx=>by simp only[hx,if_true])]at h1;obtain⟨v',w',β',I',k1,k2,k3,k4⟩:=QV hT hM hn (λ k o' hk=>by
  rw[xW];split at hk
  ·cases hk
  ·rw[aQ ‹_›];exact hg k o' hk) hfr h1 (qK _ λp hp=>cM p (by simp[hp]))
 refine⟨v',w',β',I',k1,⟨k2.other,k2.ext,λb hb=>k2.same b (.inl hb),λb hb=>k2.inc b (.inl hb)⟩,?_,k4⟩;have e:cK obj (out'.upd++ae.map λk=>(k,none))=cK (cK obj (ae.map λk=>(k,none))) out'.upd:=funext λk=>rJ obj _ _ k;rw[e];exact k3
end
open Go.RowKit Go.MapKept
def Md:AD->Value->Bool
 | .int a,.int b _=>decide (a=b)
 | .str,.string _=>true
 | .bool,.bool _=>true
 |_,_=>false
def QY:Value->Value->Option Bool
 | .int k a,.int k' b=>if k=k' then some (a==b)else none
 | .string a,.string b=>some (a.toList==b.toList)
 | .bool a,.bool b=>some (a==b)
 |_,_=>none
def QZ(key:Value):List (List AV)->Option (Option (Nat×AV))
 |[]=>some none
 |[.t (.sc kv),y]::rs=>(QY key kv).bind λb=>if b then some (some (0,y))else(QZ key rs).map λr=>r.map λp=>(p.1+1,p.2)
 |_=>none
def xz(key:Value)(y':AV):List (List AV)->Option (List (List AV))
 |[]=>some [[.t (.sc key),y']]
 |[.t (.sc kv),y]::rs=>(QY key kv).bind λb=>if b then some ([.t (.sc key),y']::rs)else(xz key y' rs).map λr=>[.t (.sc kv),y]::r
 |_=>none
def yf:AV->AV
 | .agg cs=> .agg (cs.map wk)
 |x=>wk x
def GD(T:ea)(i:Nat)(t:TypeId):Option Out:=
 (T t).bind λti=>match ti.k with
 | .map _ _=>some ⟨.mp (cJ i),[(cJ i,some ⟨0,[]⟩)],[]⟩
 |_=>none
def vA(r:Option (Nat×AV))(z:Option AV):Option AV:=match r with
 |some p=>some p.2
 |none=>z
def Ud(T:ea)(t:TypeId)(x key:AV)(ok:Bool)(get:Nat->Option aS):Option Out:=
 (T t).bind λti=>match ti.k,x,key with
 | .map kt et,.mp k,.t (.sc kv)=>(T kt).bind λki=>(T et).bind λei=>(get k).bind λo=>if Md ki.k kv=true/\o.sz=o.rows.length then(QZ kv o.rows).bind λr=>
  (vA r (part' ei.agg ei.size ((ei.zero.map cv).map wk))).bind λv=>pv (if ok then .eC [v,.t (.sc (.bool r.isSome))]else v)else none
 |_,_,_=>none
def Ue(T:ea)(t:TypeId)(x key y:AV)(get:Nat->Option aS):Option Out:=
 (T t).bind λti=>match ti.k,x,key with
 | .map kt _,.mp k,.t (.sc kv)=>(T kt).bind λki=>(get k).bind λo=>if Md ki.k kv=true/\o.sz=o.rows.length then(xz kv (yf y) o.rows).bind λrs=>
  some ⟨.undef,[(k,some ⟨rs.length,rs⟩)],[]⟩else none
 |_,_,_=>none
section
variable {P:Program} {T:ea} {w0:World} {O0:j8} {β:Nat->Option cL} {I:Nat->Prop} {obj:Nat->Option aS} {w:World} {i:Nat}
theorem air{k:AD}{v:Value}{d:TypeDesc}(h:Md k v=true)(hd:QQ k d):IsKey d v:=by
 unfold Md at h;split at h
 ·rename_i a b n;have hd:d= .int a:=hd;subst hd;simp only[aV]at h;subst h;simp[IsKey]
 ·have hd:d= .string:=hd;subst hd;simp[IsKey]
 ·have hd:d= .bool:=hd;subst hd;simp[IsKey]
 ·cases h
theorem Zo{d:TypeDesc}{a b:Value}(ha:IsKey d a){r:Bool}(h:QY a b=some r):Instr.sameNow d a b=some r/\(r=true->a=b)/\IsKey d b:=by
 unfold QY at h;split at h
 ·rename_i k x k' y;split at h
  ·rename_i hk;subst hk;cases h;cases d<;>simp only[IsKey]at ha ⊢
   all_goals first |exact ha.elim |skip
   subst ha;refine⟨by simp[Instr.sameNow],λhh=>?_,rfl⟩;rw[eq_of_beq hh]
  ·cases h
 ·rename_i x y;cases h;cases d<;>simp only[IsKey]at ha ⊢
  all_goals first |exact ha.elim |skip
  have e:(x==y)=(x.toList==y.toList):=by
   rw[jX,bytes_beq];constructor
   ·rintro rfl;simp
   ·intro hh;have:=eq_of_beq hh;cases x;cases y;simp only[ByteArray.toList_eq]at this;congr 1;exact Array.ext' this
  refine⟨by simp[Instr.sameNow,e],λhh=>?_,trivial⟩;rw[(bytes_beq x y).1 (e ▸ hh)]
 ·rename_i x y;cases h;cases d<;>simp only[IsKey]at ha ⊢
  all_goals first |exact ha.elim |skip
  exact⟨by simp[Instr.sameNow],λhh=>by rw[eq_of_beq hh],trivial⟩
 ·cases h
theorem Q0{d:TypeDesc}{key:Value}(hk:IsKey d key):∀(rows:List (List AV))(es:List MapEntry)(i:Nat)(r:Option (Nat×AV)),co P β w I rows es->QZ key rows=some r->
 (r=none/\Instr.findNow d key es i=some none)\/∃j y e,r=some (j,y)/\Instr.findNow d key es i=some (some (i+j,e.val))/\es[j]? =some e/\e.key=key/\VR P β w I y e.val
 |[],[],i,r,_,h=>by simp only[QZ,aA]at h;exact .inl ⟨h.symm,rfl⟩
 |row::rows,e::es,i,r,hm,h=>by
  obtain⟨h1,h2⟩:=hm;unfold QZ at h;split at h
  ·rename_i heq;cases heq
  ·rename_i kv y rs heq;injection heq with e1 e2;subst e1;subst e2;simp only[aE,VR,TR]at h1;obtain⟨⟨g1,_⟩,g2,_⟩:=h1;rw[ai]at h;obtain⟨b,h3,h⟩:=h;rw[<- g1]at h3;have⟨q1,q2,_⟩:=Zo hk h3;cases b with
   |true=>
    simp only[if_true,aA]at h;subst h;exact .inr ⟨0,y,e,rfl,by simp[Instr.findNow,q1],rfl,(q2 rfl).symm,g2⟩
   |false=>
    simp only[Bool.false_eq_true,if_false,dK]at h;obtain⟨r',h4,rfl⟩:=h;rcases Q0 hk rows es (i+1) r' h2 h4 with ⟨rfl,a2⟩ |⟨j,y',e',rfl,a2,a3,a4,a5⟩
    ·exact .inl ⟨rfl,by simp[Instr.findNow,q1,a2]⟩
    ·exact .inr ⟨j+1,y',e',rfl,by simp only[Instr.findNow,q1,a2];congr 3;omega,by simpa using a3,a4,a5⟩
  ·cases h
 |[],_::_,_,_,hm,_=>hm.elim
 |_::_,[],_,_,hm,_=>hm.elim
theorem UY{d:TypeDesc}{key v:Value}{y':AV}(hk:IsKey d key)(hv:VR P β w I y' v)(hkv:oneCell key):∀(rows:List (List AV))(es:List MapEntry)(i:Nat)(rs':List (List AV)),co P β w I rows es->xz key y' rows=some rs'->
 (Instr.findNow d key es i=some none/\∀n,co P β w I rs' (es++[⟨key,v,n⟩]))\/∃j e,Instr.findNow d key es i=some (some (i+j,e.val))/\es[j]? =some e/\e.key=key/\co P β w I rs' (es.modify j λe=>{ e with key:=key,val:=v })
 |[],[],i,r,_,h=>by
  simp only[xz,aA]at h;subst h;refine .inl ⟨rfl,λn=>?_⟩;simp only[bQ,co,aE,VR,TR];exact⟨⟨⟨trivial,hkv⟩,hv,trivial⟩,trivial⟩
 |row::rows,e::es,i,r,hm,h=>by
  obtain⟨h1,h2⟩:=hm;unfold xz at h;split at h
  ·rename_i heq;cases heq
  ·rename_i kv y rs heq;injection heq with e1 e2;subst e1;subst e2;have h1':=h1;simp only[aE,VR,TR]at h1;obtain⟨⟨g1,g1'⟩,g2,_⟩:=h1;rw[ai]at h;obtain⟨b,h3,h⟩:=h;rw[<- g1]at h3;have⟨q1,q2,_⟩:=Zo hk h3;cases b with
   |true=>
    simp only[if_true,aA]at h;subst h;refine .inr ⟨0,e,by simp[Instr.findNow,q1],rfl,(q2 rfl).symm,?_⟩;simp only[List.modify_zero_cons,co,aE,VR,TR];exact⟨⟨⟨trivial,hkv⟩,hv,trivial⟩,h2⟩
   |false=>
    simp only[Bool.false_eq_true,if_false,dK]at h;obtain⟨r',h4,rfl⟩:=h;rcases UY hk hv hkv rows es (i+1) r' h2 h4 with ⟨a1,a2⟩ |⟨j,e',a1,a2,a3,a4⟩
    ·exact .inl ⟨by simp[Instr.findNow,q1,a1],λn=>⟨h1',a2 n⟩⟩
    ·refine .inr ⟨j+1,e',by simp only[Instr.findNow,q1,a1];congr 3;omega,by simpa using a2,a3,?_⟩;simp only[List.modify_succ_cons,co];exact⟨h1',a4⟩
  ·cases h
 |[],_::_,_,_,hm,_=>hm.elim
 |_::_,[],_,_,hm,_=>hm.elim
theorem Mem.ur{k:Nat}{o o':aS}{b:Nat}{es:Array MapEntry}{cl:Nat}{w':World}(h:Mem P w0 O0 β I obj w)(hk:obj k=some o)(hβ:β k=some (.mp b))
 (hnew:w'.heap[b]? =some (.map es cl)) (hother:∀b',b'≠b->w'.heap[b']? =w.heap[b']?) (hsize:w'.heap.size=w.heap.size) (hos:w'.os=w.os) (vd:w'.tape=w.tape) (hout:w'.output=w.output)
 (hle:o'.rows.length<=o'.sz) (hr:co P β w I o'.rows es.toList) (hnd:(es.toList.map (·.born)).Nodup) (hlt':∀e∈es.toList,e.born<cl):
 Same I w w'/\Mem P w0 O0 β I (cK obj [(k,some o')]) w':=by
 obtain⟨Sa,hlt,hO⟩:=h.iv k o b hk ⟨_,hβ,rfl⟩;have hs:Same I w w':=λb' hb=>hother b' (λ e=>Sa (e ▸ hb));have hx:∀(j:Nat)(o1:aS),cK obj [(k,some o')] j=some o1->∃o2,obj j=some o2:=λj o1 h=>by
  simp only[cK]at h;split at h
  ·rename_i e;exact⟨o,by rw[e];exact hk⟩
  ·exact⟨_,h⟩
 refine⟨hs,?_⟩;constructor
 ·intro j oj hj;simp only[cK]at hj;split at hj
  ·rename_i hjk;cases hj;exact⟨.mp b,by rw[hjk];exact hβ,es,cl,hnew,hle,λ_=>co.mono (λ _ _ h=>h) hs (λ _ h=>h) _ _ hr,hnd,hlt'⟩
  ·rename_i hjk;have⟨B,hB,sA⟩:=h.cE j oj hj;refine⟨B,hB,OR.mono (λ _ _ h=>h) hs (λ _ h=>h) (λ b1 e1=>hother b1 (λ e2=>hjk ?_)) sA⟩;subst e2;exact h.gj j k oj o B _ b1 hj hk hB hβ e1 rfl
 ·intro j j' o1 o2 B1 B2 b1 h1 h2 h3 h4 h5 h6;have⟨p1,q1⟩:=hx j o1 h1;have⟨p2,q2⟩:=hx j' o2 h2;exact h.gj j j' p1 p2 B1 B2 b1 q1 q2 h3 h4 h5 h6
 ·intro j o1 B1 b1 h1 h2 h3;have⟨p1,q1⟩:=hx j o1 h1;have:=h.ownB j p1 B1 b1 q1 h2 h3;rw[hsize];exact this
 ·intro b1 hb1;rw[hsize];exact h.lt b1 hb1
 ·exact h.up
 ·intro b1 hb1 hno;rw[hother b1 (λ e1=>?_)]
  ·exact h.keep b1 hb1 hno
  ·subst e1;rcases hO with hO |hO
   ·exact hno hO
   ·omega
 ·rw[hsize];exact h.le
 ·rw[hos];exact h.os
 ·rw[vd];exact h.tape
 ·rw[hout];exact h.output
 ·exact h.anch
 ·exact h.vars.mono hs (λ _ h=>h)
theorem Mem.C7(h:Mem P w0 O0 β I obj w)(hn:β i=none):
 Step β I w i (ins β i (.mp w.heap.size)) I (w.alloc (.map #[] 0))/\Mem P w0 O0 (ins β i (.mp w.heap.size)) I (cK obj [(i,some ⟨0,[]⟩)]) (w.alloc (.map #[] 0)):=by
 have hS:Step β I w i (ins β i (.mp w.heap.size)) I (w.alloc (.map #[] 0)):=
  ⟨λ k hk=>by simp[ins,ij.ne hk],mX hn,Same.alloc h.lt _,λ_ h=>h⟩
 refine⟨hS,?_⟩;constructor
 ·intro k o' hk;simp only[cK]at hk;split at hk
  ·cases hk;rename_i hki;exact⟨.mp w.heap.size,by simp[ins,hki],#[],0,heap_alloc_new w _,aC _,λ_=>trivial,by simp,by simp⟩
  ·have⟨B,hB,hO⟩:=h.cE k o' hk;exact⟨B,mX hn _ _ hB,OR.mono hS.ext hS.same hS.inc (λ b hb=>qi (h.ownB k o' B b hk hB hb).2.1) hO⟩
 ·intro k k' o1 o2 B B' b h1 h2 h3 h4 h5 h6;simp only[cK]at h1 h2;simp only[ins]at h3 h4;split at h1<;>split at h2
  ·rename_i a b;rw[a,b]
  ·rename_i hki pf;simp only[hki,if_true,aA]at h3;simp only[pf,if_false]at h4;subst h3;injection h5 with h5;have:=(h.ownB k' o2 B' b h2 h4 h6).2.1;omega
  ·rename_i hki pf;simp only[pf,if_true,aA]at h4;simp only[hki,if_false]at h3;subst h4;injection h6 with h6;have:=(h.ownB k o1 B b h1 h3 h5).2.1;omega
  ·rename_i hki pf;simp only[hki,pf,if_false]at h3 h4;exact h.gj k k' o1 o2 B B' b h1 h2 h3 h4 h5 h6
 ·intro k o' B b h1 h2 h3;simp only[cK]at h1;simp only[ins]at h2;split at h1
  ·rename_i hki;simp only[hki,if_true,aA]at h2;subst h2;injection h3 with h3;refine⟨λ hI=>?_,?_,.inr ?_⟩
   ·have:=h.lt b hI;omega
   ·simp;omega
   ·have:=h.le;omega
  ·rename_i hki;simp only[hki,if_false]at h2;have⟨a,b',c'⟩:=h.ownB k o' B b h1 h2 h3;exact⟨a,by simp;omega,c'⟩
 ·intro b hb;have:=h.lt b hb;simp;omega
 ·exact h.up
 ·intro b hb hO;rw[qi (by have:=h.le;omega)];exact h.keep b hb hO
 ·have:=h.le;simp;omega
 ·exact h.os
 ·exact h.tape
 ·exact h.output
 ·intro j B hj;exact mX hn _ _ (h.anch j B hj)
 ·exact h.vars.mono (Same.alloc h.lt _) (λ _ h=>h)
theorem Me{t:TypeId}{ti:nf}(ht:lE P t ti){k e:TypeId}(h:ti.k= .map k e):P.underlying t=some (.map k e):=by
 obtain⟨info,d,z,_,h2,_,_,_,_,_,h8⟩:=ht.ex;rw[h]at h8;have h8:d= .map k e:=h8;rw[h2,h8]
theorem acG{t:TypeId}{ti:nf}(ht:lE P t ti){v:Value}(h:Md ti.k v=true):∃d,P.underlying t=some d/\IsKey d v:=by
 obtain⟨info,d,z,_,h2,_,_,_,_,_,h8⟩:=ht.ex;exact⟨d,h2,air h h8⟩
theorem ami{k:AD}{v:Value}(h:Md k v=true):oneCell v:=by
 unfold Md at h;split at h
 ·exact trivial
 ·exact trivial
 ·exact trivial
 ·cases h
theorem amj{t:TypeId}{ti:nf}(ht:lE P t ti){v:AV}(hp:part' ti.agg ti.size ((ti.zero.map cv).map wk)=some v):∃z,(zeroValue t).run P w= .ok z w/\VR P β w I v z:=by
 obtain⟨info,d,z,h1,h2,h3,h4,h5,h6,h7,h8⟩:=ht.ex;refine⟨z,by simp[zeroValue,typeInfo,h1,h5],?_⟩;obtain⟨_,_,g1,g2⟩:=KG (P:=P) (β:=β) (w:=w) (I:=I) hp (aE.wk _ _ (aE.cv ti.zero));have hf:=ht.form info z h1 h5;cases ha:ti.agg with
 |true=>
  rw[ha]at hf;cases z<;>simp only[te,Bool.not_true,reduceCtorEq]at hf;rename_i cs;have:=g1 ha;simp only[Value.cells]at h6;rw[<- h6]at this;simpa using this
 |false=>
  rw[ha]at hf;have h1c:oneCell z:=by cases z<;>simp only[te,reduceCtorEq,Bool.not_false,Bool.not_true,Bool.false_eq_true]at hf<;>trivial
  have⟨u,e1,e2⟩:=g2 ha;rw[cells_one h1c]at h6;simp only at h6;rw[<- h6]at e1;cases e1;exact e2
theorem UZ(h:Mem P w0 O0 β I obj w)(hn:β (cJ i)=none){t:TypeId}{ab:Out}(ha:GD T i t=some ab){r:Operand->Value}
 {dst:Option Tmp} {ty:TypeId} {ao:String} {after:Array Edge} {guard:Option (Nat×Bool)}:sk P w0 O0 β I obj w i ab ((execOp r ⟨dst,.makeMap t none,ty,ao,after,guard⟩).run P w):=by
 unfold GD at ha;cases hti:T t with
 |none=>simp[hti]at ha
 |some ti=>
  simp only[hti,af]at ha;split at ha
  ·cases ha;have⟨hS,hM⟩:=Mem.C7 h hn;refine⟨.map (some w.heap.size),_,_,I,.inl ?_,hS,hM,?_⟩
   ·simp[execOp,Instr.makeMap]
   ·simp only[VR];exact⟨_,by simp[ins],rfl⟩
  ·cases ha
theorem O7(hT:eY P T){t kt et:TypeId}{ei:nf}(fj:T et=some ei){b:Nat}{es:Array MapEntry}{cl:Nat}{kv:Value}{ok:Bool}{r:Option (Nat×AV)}{v:AV}
 (hu:P.underlying t=some (.map kt et)) (g1:w.heap[b]? =some (.map es cl)) (hck:(Instr.checkKey es.isEmpty 10000 kt kv).run P w= .ok () w)
 (hf:(r=none/\(Instr.findKey kt kv es.toList).run P w= .ok none w)\/∃(j:Nat)(y:AV)(e:MapEntry),r=some (j,y)/\(Instr.findKey kt kv es.toList).run P w= .ok (some (j,e.val)) w/\VR P β w I y e.val)
 (hv:vA r (part' ei.agg ei.size ((ei.zero.map cv).map wk))=some v):
 ∃z,(Instr.lookup t (.map (some b)) kv ok).run P w= .ok z w/\VR P β w I (if ok then .eC [v,.t (.sc (.bool r.isSome))]else v) z:=by
 rcases hf with ⟨rfl,a2⟩ |⟨j,y,e,rfl,a2,a5⟩
 ·have⟨z,hz,hzv⟩:=amj (β:=β) (I:=I) (w:=w) (hT et ei fj) hv;cases ok with
  |true=>
   refine⟨.tuple #[z,.bool false],?_,?_⟩
   ·simp[Instr.lookup,run_underlying hu,MapKept.run_getObj_map g1,hck,a2,hz,Result.andThen]
   ·simp only[if_true,VR];exact⟨_,rfl,by simp only[aE,VR,TR];exact⟨hzv,⟨rfl,trivial⟩,trivial⟩⟩
  |false=>
   refine⟨z,?_,by simpa using hzv⟩;simp[Instr.lookup,run_underlying hu,MapKept.run_getObj_map g1,hck,a2,hz,Result.andThen]
 ·simp only[vA,aA]at hv;subst hv;cases ok with
  |true=>
   refine⟨.tuple #[e.val,.bool true],?_,?_⟩
   ·simp[Instr.lookup,run_underlying hu,MapKept.run_getObj_map g1,hck,a2,Result.andThen]
   ·simp only[if_true,VR];exact⟨_,rfl,by simp only[aE,VR,TR];exact⟨a5,⟨rfl,trivial⟩,trivial⟩⟩
  |false=>
   refine⟨e.val,?_,by simpa using a5⟩;simp[Instr.lookup,run_underlying hu,MapKept.run_getObj_map g1,hck,a2,Result.andThen]
theorem Ym(hT:eY P T)(h:Mem P w0 O0 β I obj w){t:TypeId}{x key:AV}{ok:Bool}{get:Nat->Option aS}{ab:Out}(hg:∀k o,get k=some o->obj k=some o){u kv:Value}
 (ha:Ud T t x key ok get=some ab) (hx:VR P β w I x u) (hk:VR P β w I key kv):∃z,(Instr.lookup t u kv ok).run P w= .ok z w/\VR P β w I ab.v z/\ab.upd=[]:=by
 unfold Ud at ha;cases hti:T t with
 |none=>simp[hti]at ha
 |some ti=>
  simp only[hti,af]at ha;split at ha
  ·rename_i kt et k kv' hk1;rw[ai]at ha;obtain⟨ki,hki,ha⟩:=ha;rw[ai]at ha;obtain⟨ei,fj,ha⟩:=ha;rw[ai]at ha;obtain⟨o,ho,ha⟩:=ha;split at ha
   ·rename_i hc;rw[ai]at ha;obtain⟨r,hr,ha⟩:=ha;rw[ai]at ha;obtain⟨v,hv,ha⟩:=ha;simp only[pv,aA]at ha;subst ha;simp only[VR,TR]at hx hk;obtain⟨b,hβ,rfl⟩:=hx;obtain⟨rfl,_⟩:=hk;have⟨B,hB,hO⟩:=h.cE k o (hg k o ho);rw[hβ]at hB;cases hB;obtain⟨es,cl,g1,g2,g3,g4⟩:=hO;have hu:=Me (hT t ti hti) hk1;have⟨d,hd,hkey⟩:=acG (hT kt ki hki) hc.1;obtain⟨z,q1,q2⟩:=O7 (β:=β) (I:=I) hT fj (ok:=ok) hu g1 (run_checkKey hd hkey _ 9999) (by
     rcases Q0 hkey o.rows es.toList 0 r (g3 hc.2) hr with ⟨rfl,a2⟩ |⟨j,y,e,rfl,a2,a3,a4,a5⟩
     ·exact .inl ⟨rfl,run_findKey hd a2⟩
     ·rw[Nat.zero_add]at a2;exact .inr ⟨j,y,e,rfl,run_findKey hd a2,a5⟩) hv
    exact⟨z,q1,q2,rfl⟩
   ·cases ha
  ·cases ha
theorem akc{x:AV}{v:Value}(h:VR P β w I x v):VR P β w I (yf x) v:=by
 cases x<;>simp only[yf]<;>try exact h.wk
 simp only[VR]at h ⊢;obtain⟨vs,h1,h2⟩:=h;exact⟨vs,h1,aE.wk _ _ h2⟩
theorem aaN{d:TypeDesc}{v:Value}(h:IsKey d v):Instr.sameBits 10000 v v=true:=by cases d<;>cases v<;>simp only[IsKey]at h<;>simp_all [Instr.sameBits,bytes_beq]
theorem acH(h:Mem P w0 O0 β I obj w){t kt et:TypeId}{k b:Nat}{o:aS}{es:Array MapEntry}{cl:Nat}{kv v:Value}{rs:List (List AV)}
 (hu:P.underlying t=some (.map kt et)) (gp:obj k=some o) (hβ:β k=some (.mp b)) (g1:w.heap[b]? =some (.map es cl)) (g4:(es.toList.map (·.born)).Nodup) (g5:∀e∈es.toList,e.born<cl)
 (hck:(Instr.checkKey false 10000 kt kv).run P w= .ok () w) (hks:(Instr.keyThatStays kv kv).run P w= .ok kv w)
 (hf:((Instr.findKey kt kv es.toList).run P w= .ok none w/\∀n,co P β w I rs (es.toList++[⟨kv,v,n⟩]))\/
  ∃(j:Nat)(e:MapEntry),(Instr.findKey kt kv es.toList).run P w= .ok (some (j,e.val)) w/\es.toList[j]? =some e/\e.key=kv/\co P β w I rs (es.toList.modify j λe=>{ e with key:=kv,val:=v })):
 ∃w',(Instr.mapUpdate t (.map (some b)) kv v).run P w= .ok () w'/\Same I w w'/\Mem P w0 O0 β I (cK obj [(k,some ⟨rs.length,rs⟩)]) w':=by
 rcases hf with ⟨a1,a2⟩ |⟨j,e,a1,a2,a3,a4⟩
 ·obtain⟨k1,k2⟩:=heap_set (o':= .map (es.push ⟨kv,v,cl⟩) (cl+1)) g1
  obtain⟨m1,m2⟩:=h.ur (o':=⟨rs.length,rs⟩) (w':={ w with heap:=w.heap.setIfInBounds b (.map (es.push ⟨kv,v,cl⟩) (cl+1)) }) gp hβ k1 k2 (by simp) rfl rfl rfl (aC _) (by simpa using a2 cl)
   (by
    rw[Array.toList_push,List.map_append,List.nodup_append];refine⟨g4,by simp,λa ha b hb=>?_⟩;simp only[aF,List.map_nil,aW]at hb;obtain⟨e,he,rfl⟩:=mem_map.1 ha;have:=g5 e he;omega)
   (λ e he=>by
    rw[Array.toList_push,bf]at he;rcases he with he |he
    ·have:=g5 e he;omega
    ·simp only[aW]at he;subst he;exact Nat.lt_succ_self _)
  refine⟨_,?_,m1,m2⟩;simp[Instr.mapUpdate,run_underlying hu,MapKept.run_getObj_map g1,hck,a1,run_setObj_map _ g1,Result.andThen]
 ·obtain⟨k1,k2⟩:=heap_set (o':= .map (es.modify j λe=>{ e with key:=kv,val:=v }) cl) g1;have ht:(es.modify j λe=>{ e with key:=kv,val:=v }).toList=es.toList.modify j λe=>{ e with key:=kv,val:=v }:=Array.toList_modify;have hb:(es.toList.modify j λe=>{ e with key:=kv,val:=v }).map (·.born)=es.toList.map (·.born):=by
   apply List.ext_getElem?;intro q;simp only[List.getElem?_map,List.getElem?_modify];split<;>cases es.toList[q]?<;>rfl
  obtain⟨m1,m2⟩:=h.ur (o':=⟨rs.length,rs⟩) (w':={ w with heap:=w.heap.setIfInBounds b (.map (es.modify j λe=>{ e with key:=kv,val:=v }) cl) }) gp hβ k1 k2 (by simp) rfl rfl rfl (aC _) (by rw[ht];exact a4)
   (by rw[ht,hb];exact g4)
   (λ e he=>by
    rw[ht]at he;have:e.born∈(es.toList.modify j λe=>{ e with key:=kv,val:=v }).map (·.born):=mem_map.2 ⟨e,he,rfl⟩;rw[hb]at this;obtain⟨e',he',hh⟩:=mem_map.1 this;rw[<- hh];exact g5 e' he')
  refine⟨_,?_,m1,m2⟩;have hold:((es[j]?).map (·.key)).getD kv=kv:=by rw[<- Array.getElem?_toList,a2];exact a3
  simp only[Instr.mapUpdate,Sem.run_bind,run_underlying hu,MapKept.run_getObj_map g1,hck,a1,Result.andThen,hold,hks,run_setObj_map _ g1]
theorem Yn(hT:eY P T)(h:Mem P w0 O0 β I obj w){t:TypeId}{x key y:AV}{get:Nat->Option aS}{ab:Out}(hg:∀k o,get k=some o->obj k=some o){u kv v:Value}
 (ha:Ue T t x key y get=some ab) (hx:VR P β w I x u) (hk:VR P β w I key kv) (hy:VR P β w I y v):∃w',(Instr.mapUpdate t u kv v).run P w= .ok () w'/\Same I w w'/\Mem P w0 O0 β I (cK obj ab.upd) w'/\ab.v= .undef:=by
 unfold Ue at ha;cases hti:T t with
 |none=>simp[hti]at ha
 |some ti=>
  simp only[hti,af]at ha;split at ha
  ·rename_i kt et k kv' hk1;rw[ai]at ha;obtain⟨ki,hki,ha⟩:=ha;rw[ai]at ha;obtain⟨o,ho,ha⟩:=ha;split at ha
   ·rename_i hc;rw[ai]at ha;obtain⟨rs,hr,ha⟩:=ha;cases ha;simp only[VR,TR]at hx hk;obtain⟨b,hβ,rfl⟩:=hx;obtain⟨hkk,_⟩:=hk;subst hkk;have gp:=hg k o ho;have⟨B,hB,hO⟩:=h.cE k o gp;rw[hβ]at hB;cases hB;obtain⟨es,cl,g1,g2,g3,g4,g5⟩:=hO;have hu:=Me (hT t ti hti) hk1;have⟨d,hd,hkey⟩:=acG (hT kt ki hki) hc.1;have hlt:b<w.heap.size:=(Array.getElem?_eq_some_iff.1 g1).1;obtain⟨w',q1,q2,q3⟩:=acH (rs:=rs) (v:=v) h hu gp hβ g1 g4 g5 (run_checkKey hd hkey _ 9999) (by simp[Instr.keyThatStays,aaN hkey]) (by
     rcases UY hkey (akc hy) (ami hc.1) o.rows es.toList 0 rs (g3 hc.2) hr with ⟨a1,a2⟩ |⟨j,e,a1,a2,a3,a4⟩
     ·exact .inl ⟨run_findKey hd a1,a2⟩
     ·rw[Nat.zero_add]at a1;exact .inr ⟨j,e,run_findKey hd a1,a2,a3,a4⟩)
    exact⟨w',q1,q2,q3,rfl⟩
   ·cases ha
  ·cases ha
end
def pV(k:IntKind):List AV->Option (List Int)
 |[]=>some []
 | .t (.sc (.int k' n))::r=>if k'=k then(pV k r).map (n:: ·)else none
 |_=>none
def l8(k:IntKind)(c:List Int):Value:= .agg (c.map (Value.int k)).toArray
def GH(k:IntKind)(c:List Int):AV:= .agg (c.map λn=> .t (.sc (.int k n)))
def Av(k:IntKind)(key:List Int):List (List AV)->Option (Option (Nat×AV))
 |[]=>some none
 |[.agg cs,y]::rs=>(pV k cs).bind λc=>if c.length=key.length then if key=c then some (some (0,y))else(Av k key rs).map λr=>r.map λp=>(p.1+1,p.2)else none
 |_=>none
def Mf(k:IntKind)(key:List Int)(y':AV):List (List AV)->Option (List (List AV))
 |[]=>some [[GH k key,y']]
 |[.agg cs,y]::rs=>(pV k cs).bind λc=>if c.length=key.length then if key=c then some ([GH k key,y']::rs)else(Mf k key y' rs).map λr=>[.agg cs,y]::r else none
 |_=>none
def Fk(T:ea)(kt:TypeId):Option (Nat×IntKind):=
 (T kt).bind λki=>match ki.k with
 | .arr m e=>(T e).bind λei=>match ei.k with
  | .int k=>if ei.size=1 then some (m,k)else none
  |_=>none
 |_=>none
def Mg(T:ea)(t:TypeId)(x key:AV)(ok:Bool)(get:Nat->Option aS):Option Out:=
 (T t).bind λti=>match ti.k,x,key with
 | .map kt et,.mp k,.agg cs=>(Fk T kt).bind λmk=>(T et).bind λei=>(get k).bind λo=>(pV mk.2 cs).bind λc=>if c.length=mk.1/\o.sz=o.rows.length then(Av mk.2 c o.rows).bind λr=>
  (vA r (part' ei.agg ei.size ((ei.zero.map cv).map wk))).bind λv=>pv (if ok then .eC [v,.t (.sc (.bool r.isSome))]else v)else none
 |_,_,_=>none
def Mh(T:ea)(t:TypeId)(x key y:AV)(get:Nat->Option aS):Option Out:=
 (T t).bind λti=>match ti.k,x,key with
 | .map kt _,.mp k,.agg cs=>(Fk T kt).bind λmk=>(get k).bind λo=>(pV mk.2 cs).bind λc=>if c.length=mk.1/\o.sz=o.rows.length then(Mf mk.2 c (yf y) o.rows).bind λrs=>
  some ⟨.undef,[(k,some ⟨rs.length,rs⟩)],[]⟩else none
 |_,_,_=>none
section
variable {P:Program} {T:ea} {w0:World} {O0:j8} {β:Nat->Option cL} {I:Nat->Prop} {obj:Nat->Option aS} {w:World} {i:Nat}
theorem Jd{k:IntKind}:∀{cs:List AV}{c:List Int}{vs:List Value},pV k cs=some c->aE P β w I cs vs->vs=c.map (Value.int k)
 |[],c,vs,h,hv=>by
  simp only[pV,aA]at h;subst h;cases vs with
  |nil=>rfl
  |cons=>simp[aE]at hv
 |x::cs,c,vs,h,hv=>by
  unfold pV at h;split at h
  ·rename_i heq;cases heq
  ·rename_i k' n r heq;injection heq with e1 e2;subst e1;subst e2;split at h
   ·rename_i hk;subst hk;rw[dK]at h;obtain⟨c',h1,rfl⟩:=h;cases vs with
    |nil=>simp[aE]at hv
    |cons v vs=>
     simp only[aE,VR,TR]at hv;rw[Jd h1 hv.2,hv.1.1];rfl
   ·cases h
  ·cases h
theorem Cc{e:TypeId}{k:IntKind}(he:P.underlying e=some (.int k))(d:Nat)(xs ys:List Int)(hl:xs.length=ys.length):∀is:List Nat,(∀ i∈is,i<xs.length)->
 (Op.eqItems (d+1) e 1 (xs.map (Value.int k)).toArray (ys.map (Value.int k)).toArray is).run P w= .ok (decide (∀ i∈is,xs[i]? =ys[i]?)) w
 |[],_=>by simp[Op.eqItems]
 |i::is,h=>by
  have hi:=h i (by simp);have hpl:P.plainKey e=true:=by simp[Program.plainKey,he]
  have p1:=run_part_plain (w:=w) hpl (show (xs.map (Value.int k)).toArray[i*1]? =some (.int k xs[i])by simp[hi]);have p2:=run_part_plain (w:=w) hpl (show (ys.map (Value.int k)).toArray[i*1]? =some (.int k ys[i])by simp[hl ▸ hi]);have ih:=Cc he d xs ys hl is λj hj=>h j (by simp[hj]);simp only[Op.eqItems,Sem.run_bind,p1,p2,Result.andThen_ok,run_equalIn_int w d e k k _ _ he];have hi2:i<ys.length:=hl ▸ hi;by_cases hc:xs[i]=ys[i]
  ·have e1:(!(xs[i]==ys[i]))=false:=(by simp[hc]);rw[e1,aQ (by decide),ih];congr 1;rw[decide_eq_decide];simp[hi,hi2,hc]
  ·have e1:(!(xs[i]==ys[i]))=true:=(by simp[hc]);rw[e1,aX rfl,Sem.run_pure];congr 1;symm;rw[dN];intro hh;have:=hh i (by simp);rw[dI hi,dI hi2]at this;injection this with this;exact hc this
theorem GI{t e:TypeId}{n:Nat}{k:IntKind}{info:TypeInfo}(hu:P.underlying t=some (.array n e))(he:P.underlying e=some (.int k))(hi:P.info? e=some info)(hs:info.size=1){xs ys:List Int}(hx:xs.length=n)(hy:ys.length=n):
 (Op.equal t (l8 k xs) (l8 k ys)).run P w= .ok (decide (xs=ys)) w:=by
 have hce:P.cellsOf e=1:=by simp[Program.cellsOf,hi,hs]
 show(Op.equalIn (9999+1) t _ _).run P w=_;unfold l8;rw[run_equalIn_array w 9999 _ _ hu hi,hce,Cc he 9998 xs ys (by omega) _ (λ i hi=>by rw[hx];exact List.mem_range.1 hi)];congr 1;rw[decide_eq_decide];constructor
 ·intro h;refine List.ext_getElem? λi=>?_;by_cases hi:i<n
  ·exact h i (List.mem_range.2 hi)
  ·rw[List.getElem?_eq_none (by omega),List.getElem?_eq_none (by omega)]
 ·rintro rfl _ _;rfl
def DG(P:Program)(t:TypeId)(n:Nat)(k:IntKind):Prop:=∃e info,P.underlying t=some (.array n e)/\P.underlying e=some (.int k)/\P.info? e=some info/\info.size=1
theorem aaO(hT:eY P T){kt:TypeId}{mk:Nat×IntKind}(h:Fk T kt=some mk):DG P kt mk.1 mk.2:=by
 unfold Fk at h;rw[ai]at h;obtain⟨ki,h1,h⟩:=h;split at h
 ·rename_i m e hk;rw[ai]at h;obtain⟨ei,h2,h⟩:=h;split at h
  ·rename_i k hk2;split at h
   ·rename_i hs;cases h;have⟨info,d,z,g1,g2,g3,_,_,_,_,g8⟩:=(hT e ei h2).ex;rw[hk2]at g8;have g8:d= .int k:=g8;subst g8;exact⟨e,info,LZ (hT kt ki h1) hk,g2,g1,by rw[g3,hs]⟩
   ·cases h
  ·cases h
 ·cases h
theorem yx{t:TypeId}{n:Nat}{k:IntKind}(h:DG P t n k){c:List Int}(hc:c.length=n)(em:Bool):(Instr.checkKey em 10000 t (l8 k c)).run P w= .ok () w:=by
 obtain⟨e,info,hu,he,hi,hs⟩:=h;have hpl:P.plainKey e=true:=by simp[Program.plainKey,he]
 have hce:P.cellsOf e=1:=by simp[Program.cellsOf,hi,hs]
 show(Instr.checkKey em (9999+1) t (l8 k c)).run P w=_;unfold l8;rw[Instr.checkKey];simp only[Sem.run_bind,run_underlying hu,Result.andThen_ok];simp only[Std.Legacy.Range.forIn_eq_forIn_range',Std.Legacy.Range.size,Nat.sub_zero,Nat.add_one_sub_one,Nat.div_one];have each:∀j∈List.range' 0 n,j<c.length:=λj hj=>by rw[List.mem_range']at hj;obtain⟨q,hq,rfl⟩:=hj;omega
 generalize List.range' 0 n=is at each
 induction is with
 |nil=>simp
 |cons j is ih=>
  have hj:=each j (by simp);have p1:=run_part_plain (w:=w) hpl (show (c.map (Value.int k)).toArray[j*1]? =some (.int k c[j])by simp[hj]);have p2:(Instr.checkKey em 9999 e (.int k c[j])).run P w= .ok () w:=MapKept.run_checkKey (k:= .int k c[j]) he (by simp[IsKey]) em 9998;simp only[List.forIn_cons,Sem.run_bind,run_sizeOf w hi,hce,Result.andThen_ok,p1,p2,Sem.run_pure];exact ih (λ y hy=>each y (by simp[hy]))
theorem Ce{t:TypeId}{n:Nat}{k:IntKind}(h:DG P t n k):(match P.underlying t with |some (.array _ _) |some (.struct _)=>true |_=>false)=true:=by
 obtain⟨e,info,hu,_⟩:=h;rw[hu]
theorem Dt{t:TypeId}{n:Nat}{k:IntKind}(ht:DG P t n k){key:List Int}(hk:key.length=n):∀(rows:List (List AV))(es:List MapEntry)(i:Nat)(r:Option (Nat×AV)),co P β w I rows es->Av k key rows=some r->
 (r=none/\(Instr.findAsking t (l8 k key) es i).run P w= .ok none w)\/∃j y e,r=some (j,y)/\(Instr.findAsking t (l8 k key) es i).run P w= .ok (some (i+j,e.val)) w/\es[j]? =some e/\e.key=l8 k key/\VR P β w I y e.val
 |[],[],i,r,_,h=>by simp only[Av,aA]at h;exact .inl ⟨h.symm,by simp[Instr.findAsking]⟩
 |row::rows,e::es,i,r,hm,h=>by
  obtain⟨h1,h2⟩:=hm;unfold Av at h;split at h
  ·rename_i heq;cases heq
  ·rename_i cs y rs heq;injection heq with e1 e2;subst e1;subst e2;rw[ai]at h;obtain⟨c,h3,h⟩:=h;simp only[aE,VR]at h1;obtain⟨⟨vs,g1,g2⟩,g3,_⟩:=h1;have g4:=Jd h3 g2;have hkey:e.key=l8 k c:=(by rw[g1];unfold l8;rw[<- g4]);split at h
   ·rename_i hlen;obtain⟨e0,info,hu,he,hi,hs⟩:=ht;have hq:=GI (w:=w) hu he hi hs (k:=k) (xs:=key) (ys:=c) hk (by omega);split at h
    ·rename_i hkc;cases h;refine .inr ⟨0,y,e,rfl,?_,rfl,by rw[hkey,hkc],g3⟩;rw[show decide (key=c)=true by simp[hkc]]at hq;simp[Instr.findAsking,hkey,hq,Result.andThen]
    ·rename_i hkc;rw[dK]at h;obtain⟨r',h4,rfl⟩:=h;have hd:decide (key=c)=false:=(by simp[hkc]);rw[hd]at hq;rcases Dt ⟨e0,info,hu,he,hi,hs⟩ hk rows es (i+1) r' h2 h4 with ⟨rfl,a2⟩ |⟨j,y',e',rfl,a2,a3,a4,a5⟩
     ·exact .inl ⟨rfl,by simp[Instr.findAsking,hkey,hq,a2,Result.andThen]⟩
     ·exact .inr ⟨j+1,y',e',rfl,by simp[Instr.findAsking,hkey,hq,a2,Result.andThen];omega,by simpa using a3,a4,a5⟩
   ·cases h
  ·cases h
 |[],_::_,_,_,hm,_=>hm.elim
 |_::_,[],_,_,hm,_=>hm.elim
theorem U0(k:IntKind)(c:List Int):VR P β w I (GH k c) (l8 k c):=by
 simp only[GH,VR];refine⟨_,rfl,?_⟩;simp only[]
 induction c with
 |nil=>simp[aE]
 |cons x c ih=>simp only[aF,aE,VR,TR];exact⟨⟨trivial,trivial⟩,ih⟩
theorem Q5{t:TypeId}{n:Nat}{k:IntKind}(ht:DG P t n k){key:List Int}(hk:key.length=n){v:Value}{y':AV}(hv:VR P β w I y' v):∀(rows:List (List AV))(es:List MapEntry)(i:Nat)(rs':List (List AV)),co P β w I rows es->Mf k key y' rows=some rs'->
 ((Instr.findAsking t (l8 k key) es i).run P w= .ok none w/\∀n,co P β w I rs' (es++[⟨l8 k key,v,n⟩]))\/
 ∃j e,(Instr.findAsking t (l8 k key) es i).run P w= .ok (some (i+j,e.val)) w/\es[j]? =some e/\e.key=l8 k key/\co P β w I rs' (es.modify j λe=>{ e with key:=l8 k key,val:=v })
 |[],[],i,r,_,h=>by
  simp only[Mf,aA]at h;subst h;refine .inl ⟨by simp[Instr.findAsking],λn=>?_⟩;simp only[bQ,co,aE];exact⟨⟨U0 k key,hv,trivial⟩,trivial⟩
 |row::rows,e::es,i,r,hm,h=>by
  obtain⟨h1,h2⟩:=hm;unfold Mf at h;split at h
  ·rename_i heq;cases heq
  ·rename_i cs y rs heq;injection heq with e1 e2;subst e1;subst e2;rw[ai]at h;obtain⟨c,h3,h⟩:=h;have h1':=h1;simp only[aE,VR]at h1;obtain⟨⟨vs,g1,g2⟩,g3,_⟩:=h1;have g4:=Jd h3 g2;have hkey:e.key=l8 k c:=(by rw[g1];unfold l8;rw[<- g4]);split at h
   ·rename_i hlen;obtain⟨e0,info,hu,he,hi,hs⟩:=ht;have hq:=GI (w:=w) hu he hi hs (k:=k) (xs:=key) (ys:=c) hk (by omega);split at h
    ·rename_i hkc;cases h;rw[show decide (key=c)=true by simp[hkc]]at hq;refine .inr ⟨0,e,by simp[Instr.findAsking,hkey,hq,Result.andThen],rfl,by rw[hkey,hkc],?_⟩;simp only[List.modify_zero_cons,co,aE];exact⟨⟨U0 k key,hv,trivial⟩,h2⟩
    ·rename_i hkc;rw[dK]at h;obtain⟨r',h4,rfl⟩:=h;rw[show decide (key=c)=false by simp[hkc]]at hq;rcases Q5 ⟨e0,info,hu,he,hi,hs⟩ hk hv rows es (i+1) r' h2 h4 with ⟨a1,a2⟩ |⟨j,e',a1,a2,a3,a4⟩
     ·exact .inl ⟨by simp[Instr.findAsking,hkey,hq,a1,Result.andThen],λn=>⟨h1',a2 n⟩⟩
     ·refine .inr ⟨j+1,e',by simp[Instr.findAsking,hkey,hq,a1,Result.andThen];omega,by simpa using a2,a3,?_⟩;simp only[List.modify_succ_cons,co];exact⟨h1',a4⟩
   ·cases h
  ·cases h
 |[],_::_,_,_,hm,_=>hm.elim
 |_::_,[],_,_,hm,_=>hm.elim
theorem U1(hT:eY P T)(h:Mem P w0 O0 β I obj w){t:TypeId}{x key:AV}{ok:Bool}{get:Nat->Option aS}{ab:Out}(hg:∀k o,get k=some o->obj k=some o){u kv:Value}
 (ha:Mg T t x key ok get=some ab) (hx:VR P β w I x u) (hk:VR P β w I key kv):∃z,(Instr.lookup t u kv ok).run P w= .ok z w/\VR P β w I ab.v z/\ab.upd=[]:=by
 unfold Mg at ha;rw[ai]at ha;obtain⟨ti,hti,ha⟩:=ha;split at ha
 ·rename_i kt et k cs hk1;rw[ai]at ha;obtain⟨mk,hmk,ha⟩:=ha;rw[ai]at ha;obtain⟨ei,fj,ha⟩:=ha;rw[ai]at ha;obtain⟨o,ho,ha⟩:=ha;rw[ai]at ha;obtain⟨c,hc,ha⟩:=ha;split at ha
  ·rename_i hh;rw[ai]at ha;obtain⟨r,hr,ha⟩:=ha;rw[ai]at ha;obtain⟨v,hv,ha⟩:=ha;simp only[pv,aA]at ha;subst ha;simp only[VR]at hx hk;obtain⟨b,hβ,rfl⟩:=hx;obtain⟨vs,rfl,hvs⟩:=hk;have e1:Value.agg vs=l8 mk.2 c:=(by unfold l8;rw[<- Jd hc hvs]);rw[e1];have⟨B,hB,hO⟩:=h.cE k o (hg k o ho);rw[hβ]at hB;cases hB;obtain⟨es,cl,g1,g2,g3,g4⟩:=hO;have hAr:=aaO hT hmk;obtain⟨z,q1,q2⟩:=O7 (β:=β) (I:=I) hT fj (ok:=ok) (Me (hT t ti hti) hk1) g1 (yx hAr hh.1 _) (by
    rcases Dt hAr hh.1 o.rows es.toList 0 r (g3 hh.2) hr with ⟨rfl,a2⟩ |⟨j,y,e,rfl,a2,a3,a4,a5⟩
    ·exact .inl ⟨rfl,(run_findKey_eq w (Ce hAr) _ _).trans a2⟩
    ·rw[Nat.zero_add]at a2;exact .inr ⟨j,y,e,rfl,(run_findKey_eq w (Ce hAr) _ _).trans a2,a5⟩) hv
   exact⟨z,q1,q2,rfl⟩
  ·cases ha
 ·cases ha
theorem Yo(k:IntKind)(c:List Int):Instr.sameBits 10000 (l8 k c) (l8 k c)=true:=by
 unfold l8;show(_&&_)=true;rw[aL];refine⟨by simp,?_⟩;rw[all_eq_true];rintro⟨a,b⟩ h;simp only[List.zip_map',mem_map]at h;obtain⟨x,_,hx⟩:=h;injection hx with h1 h2;subst h1;subst h2;simp[Instr.sameBits]
theorem U2(hT:eY P T)(h:Mem P w0 O0 β I obj w){t:TypeId}{x key y:AV}{get:Nat->Option aS}{ab:Out}(hg:∀k o,get k=some o->obj k=some o){u kv v:Value}
 (ha:Mh T t x key y get=some ab) (hx:VR P β w I x u) (hk:VR P β w I key kv) (hy:VR P β w I y v):∃w',(Instr.mapUpdate t u kv v).run P w= .ok () w'/\Same I w w'/\Mem P w0 O0 β I (cK obj ab.upd) w'/\ab.v= .undef:=by
 unfold Mh at ha;rw[ai]at ha;obtain⟨ti,hti,ha⟩:=ha;split at ha
 ·rename_i kt et k cs hk1;rw[ai]at ha;obtain⟨mk,hmk,ha⟩:=ha;rw[ai]at ha;obtain⟨o,ho,ha⟩:=ha;rw[ai]at ha;obtain⟨c,hc,ha⟩:=ha;split at ha
  ·rename_i hh;rw[ai]at ha;obtain⟨rs,hr,ha⟩:=ha;cases ha;simp only[VR]at hx hk;obtain⟨b,hβ,rfl⟩:=hx;obtain⟨vs,rfl,hvs⟩:=hk;have e1:Value.agg vs=l8 mk.2 c:=(by unfold l8;rw[<- Jd hc hvs]);rw[e1];have gp:=hg k o ho;have⟨B,hB,hO⟩:=h.cE k o gp;rw[hβ]at hB;cases hB;obtain⟨es,cl,g1,g2,g3,g4,g5⟩:=hO;have hAr:=aaO hT hmk;obtain⟨w',q1,q2,q3⟩:=acH (rs:=rs) (v:=v) h (Me (hT t ti hti) hk1) gp hβ g1 g4 g5 (yx hAr hh.1 _) (by simp[Instr.keyThatStays,Yo]) (by
    rcases Q5 hAr hh.1 (akc hy) o.rows es.toList 0 rs (g3 hh.2) hr with ⟨a1,a2⟩ |⟨j,e,a1,a2,a3,a4⟩
    ·exact .inl ⟨(run_findKey_eq w (Ce hAr) _ _).trans a1,a2⟩
    ·rw[Nat.zero_add]at a1;exact .inr ⟨j,e,(run_findKey_eq w (Ce hAr) _ _).trans a1,a2,a3,a4⟩)
   exact⟨w',q1,q2,q3,rfl⟩
  ·cases ha
 ·cases ha
def ql(T:ea)(t:TypeId)(x key:AV)(ok:Bool)(get:Nat->Option aS):Option Out:=match key with
 | .agg cs=>Mg T t x (.agg cs) ok get
 |key=>Ud T t x key ok get
def vP(T:ea)(t:TypeId)(x key y:AV)(get:Nat->Option aS):Option Out:=match key with
 | .agg cs=>Mh T t x (.agg cs) y get
 |key=>Ue T t x key y get
theorem U3(hT:eY P T)(h:Mem P w0 O0 β I obj w){t:TypeId}{x key:AV}{ok:Bool}{get:Nat->Option aS}{ab:Out}(hg:∀k o,get k=some o->obj k=some o){u kv:Value}
 (ha:ql T t x key ok get=some ab) (hx:VR P β w I x u) (hk:VR P β w I key kv):∃z,(Instr.lookup t u kv ok).run P w= .ok z w/\VR P β w I ab.v z/\ab.upd=[]:=by
 unfold ql at ha;split at ha
 ·exact U1 hT h hg ha hx hk
 ·exact Ym hT h hg ha hx hk
theorem U4(hT:eY P T)(h:Mem P w0 O0 β I obj w){t:TypeId}{x key y:AV}{get:Nat->Option aS}{ab:Out}(hg:∀k o,get k=some o->obj k=some o){u kv v:Value}
 (ha:vP T t x key y get=some ab) (hx:VR P β w I x u) (hk:VR P β w I key kv) (hy:VR P β w I y v):∃w',(Instr.mapUpdate t u kv v).run P w= .ok () w'/\Same I w w'/\Mem P w0 O0 β I (cK obj ab.upd) w'/\ab.v= .undef:=by
 unfold vP at ha;split at ha
 ·exact U2 hT h hg ha hx hk hy
 ·exact Yn hT h hg ha hx hk hy
end
def KB(T:ea)(i:Nat)(t:TypeId)(l c:AV):Option Out:=
 (T t).bind λti=>match ti.k,l,c with
 | .slice e,.t (.sc (.int _ n)),.t (.sc (.int _ m))=>(T e).bind λei=>
  some ⟨.own (cJ i) 0 n.toNat,[(cJ i,some ⟨ei.size,dW (List.replicate n.toNat (ei.zero.map cv))⟩)],[0<=n/\n<=m/\m.toNat*ei.bytes<=140737488355328/\m.toNat<=maxLen/\0<ei.size]⟩
 |_,_,_=>none
def O8(x:AV):Option Out:=
 match x with
 | .ptr k r f=>pv (.ptr k r f)
 | .eo r f=>pv (.eo r f)
 |_=>none
def IT:Op->Bool
 | .nilCheck _=>true
 | .makeSlice _ _ _=>true
 | .makeMap _ none=>true
 | .lookup _ _ _ _=>true
 | .mapUpdate _ _ _ _=>true
 |_=>false
def Du(T:ea)(i:Nat)(o:Oper)(_n:Int)(ρ:Operand->AV)(get:Nat->Option aS):Option Out:=
 match o.op with
 | .nilCheck x=>O8 (ρ x)
 | .makeSlice t l c=>KB T i t (ρ l) (ρ c)
 | .makeMap t none=>GD T i t
 | .lookup t m x ok=>ql T t (ρ m) (ρ x) ok get
 | .mapUpdate t m x v=>vP T t (ρ m) (ρ x) (ρ v) get
 |_=>none
def sI(T:ea)(i:Nat)(o:Oper)(n:Int)(ρ:Operand->AV)(get:Nat->Option aS):Option Out:=
 bif IT o.op then Du T i o n ρ get else sH T i o n ρ get
section
variable {T:ea}
theorem Yp{i:Nat}{o:Oper}{n:Int}{ρ ρ':Operand->AV}{get:Nat->Option aS}(h:∀x∈o.op.operands,ρ x=ρ' x):Du T i o n ρ get=Du T i o n ρ' get:=by
 obtain⟨dst,op,ty,ao,after,guard⟩:=o;cases op<;>simp only[Op.operands]at h<;>simp only[Du]
 case nilCheck x=>rw[h x (by simp)]
 case makeSlice t l c=>rw[h l (by simp),h c (by simp)]
 case makeMap t r=>cases r<;>rfl
 case lookup t m x ok=>rw[h m (by simp),h x (by simp)]
 case mapUpdate t m x v=>rw[h m (by simp),h x (by simp),h v (by simp)]
theorem Yq{i:Nat}{o:Oper}{n:Int}{ρ ρ':Operand->AV}{get:Nat->Option aS}(h:∀x∈o.op.operands,ρ x=ρ' x):sI T i o n ρ get=sI T i o n ρ' get:=by
 unfold sI;rw[aaH h,Yp h]
end
section
variable {P:Program} {T:ea} {w0:World} {O0:j8} {β:Nat->Option cL} {I:Nat->Prop} {obj:Nat->Option aS} {w:World} {i:Nat}
theorem Yr(z:Array Value)(n j:Nat)(h:j<n):(madeCells z n)[j]? =some (z[j%z.size]!):=by simp[madeCells,Array.getElem?_map,h]
theorem acJ(hT:eY P T)(h:Mem P w0 O0 β I obj w)(hn:β (cJ i)=none){t:TypeId}{l c:AV}{u v:Value}{ab:Out}(ha:KB T i t l c=some ab)(cM:ab.ob)(hl:VR P β w I l u)(hc:VR P β w I c v)
 {r:Operand->Value} {x y:Operand} (hu:r x=u) (hv:r y=v) {dst:Option Tmp} {ty:TypeId} {ao:String} {after:Array Edge} {guard:Option (Nat×Bool)}:
 sk P w0 O0 β I obj w i ab ((execOp r ⟨dst,.makeSlice t x y,ty,ao,after,guard⟩).run P w):=by
 unfold KB at ha;cases hti:T t with
 |none=>simp[hti]at ha
 |some ti=>
  simp only[hti,af]at ha;split at ha
  ·rename_i e kl n kc m hkd;cases fj:T e with
   |none=>simp[fj]at ha
   |some ei=>
    simp only[fj,af,aA]at ha;subst ha;obtain⟨n0,nm,m47,Hh,mpos⟩:=cM;simp only[VR,TR]at hl hc;obtain⟨rfl,_⟩:=hl;obtain⟨rfl,_⟩:=hc;have he:=hT e ei fj;have eQ:=gX (hT t ti hti) hkd;obtain⟨info,d,z,g1,g2,g3,g4,g5,g6,g7,g8⟩:=he.ex;obtain⟨n,rfl⟩:∃n':Nat,n=(n':Int):=⟨n.toNat,by omega⟩;obtain⟨m,rfl⟩:∃m':Nat,m=(m':Int):=⟨m.toNat,by omega⟩;simp only[Int.toNat_natCast]at m47 Hh ⊢;have hb:(info.bytes:Int)*(m:Int)<=281474976710656:=by
     have:((info.bytes*m:Nat):Int)<=281474976710656:=by rw[g4,Nat.mul_comm];omega
     rwa [Int.natCast_mul]at this
    have hrun:=run_make (P:=P) w t e info z eQ g1 g5 kl kc n m n0 nm hb (by simp only[maxLen]at Hh;omega);simp only[Int.toNat_natCast,g3]at hrun;have hzs:z.cells.size=ei.size:=(by rw[<- Array.length_toList,g6];exact he.len);have hcs:(madeCells z.cells (m*ei.size)).size=m*ei.size:=size_madeCells _ _;obtain⟨hS,hM⟩:=Mem.alloc (i:=cJ i) (o:=⟨ei.size,List.replicate n (ei.zero.map cv)⟩) (c:=madeCells z.cells (m*ei.size)) (e:=e) h hn (by
     refine bo.zeros ei.zero ei.size he.len (λ v hv=>sF (all_eq_true.1 he.one v hv)) n _ 0 (λ i j hi hj=>?_);have hlt:0+i*ei.size+j<m*ei.size:=by
      have:(i+1)*ei.size<=m*ei.size:=Nat.mul_le_mul_right _ (by omega);rw[Nat.add_mul]at this;omega
     rw[Yr _ _ _ hlt,hzs];have e1:(0+i*ei.size+j)%ei.size=j:=(by rw[Nat.zero_add,Nat.mul_comm,Nat.mul_add_mod,Nat.mod_eq_of_lt hj]);rw[e1,<- g6,Array.getElem?_toList,getElem!_pos z.cells j (by rw[hzs];exact hj),Array.getElem?_eq_getElem])
    refine⟨_,_,_,I,.inl (by simp[execOp,hu,hv,hrun];rfl),hS,hM.we,?_⟩;simp only[VR];refine .inr ⟨w.heap.size,ei.size,_,_,0,by simp[ins];rfl,rfl,by omega,?_,by simp⟩;rw[Nm,Nd,hcs,Nat.zero_add,Nat.zero_add];exact aC _
  ·cases ha
theorem Yt(hT:eY P T)(h:Mem P w0 O0 β I obj w)(hn:β (cJ i)=none){o:Oper}{n:Int}{ρ:Operand->AV}{get:Nat->Option aS}{ab:Out}(hg:∀k o,get k=some o->obj k=some o)
 {r:Operand->Value} (hρ:∀x,VR P β w I (ρ x) (r x)) (ha:Du T i o n ρ get=some ab) (cM:ab.ob):sk P w0 O0 β I obj w i ab ((execOp r o).run P w):=by
 obtain⟨dst,op,ty,ao,after,guard⟩:=o;unfold Du at ha;split at ha
 ·rename_i x heq;simp only at heq;subst heq;have hx:=hρ x;unfold O8 at ha;split at ha
  ·rename_i k q f hk;simp only[pv,aA]at ha;subst ha;rw[hk]at hx;have hx2:=hx;simp only[VR]at hx2;obtain⟨b,sz,m,_,e1⟩:=hx2;exact⟨r x,w,β,I,.inl (by simp[execOp,e1]),Step.refl ..,h,hx⟩
  ·rename_i q f hk;simp only[pv,aA]at ha;subst ha;rw[hk]at hx;have hx2:=hx;simp only[VR]at hx2;obtain⟨b,o',e1,_⟩:=hx2;exact⟨r x,w,β,I,.inl (by simp[execOp,e1]),Step.refl ..,h,hx⟩
  ·cases ha
 ·rename_i t l c heq;simp only at heq;subst heq;exact acJ hT h hn ha cM (hρ l) (hρ c) rfl rfl
 ·rename_i t heq;simp only at heq;subst heq;exact UZ h hn ha
 ·rename_i t m x ok heq;simp only at heq;subst heq;have⟨z,h1,h2,h3⟩:=U3 hT h hg ha (hρ m) (hρ x);exact⟨z,w,β,I,.inl (by simp[execOp,h1]),Step.refl ..,by rw[h3];exact h,h2⟩
 ·rename_i t m x v heq;simp only at heq;subst heq;have⟨w',h1,h2,h3,h4⟩:=U4 hT h hg ha (hρ m) (hρ x) (hρ v);exact⟨undef,w',β,I,.inr ⟨by simp[execOp,h1],rfl⟩,⟨λ _ _=>rfl,λ_ _ h=>h,h2,λ_ h=>h⟩,h3,by rw[h4];simp[VR]⟩
 ·cases ha
theorem Yu(hT:eY P T)(h:Mem P w0 O0 β I obj w)(hn:β (cJ i)=none){o:Oper}{n:Int}{ρ:Operand->AV}{get:Nat->Option aS}{ab:Out}(hg:∀k o,get k=some o->obj k=some o)
 {r:Operand->Value} (hρ:∀x,VR P β w I (ρ x) (r x)) (ha:sI T i o n ρ get=some ab) (cM:ab.ob):sk P w0 O0 β I obj w i ab ((execOp r o).run P w):=by
 unfold sI at ha;cases hx:IT o.op with
 |true=>rw[hx]at ha;exact Yt (n:=n) hT h hn hg hρ ha cM
 |false=>rw[hx]at ha;exact aaK hT h hn hg hρ ha cM
end
mutual
def fX(f:Nat->Nat):AV->AV
 | .own k aa len=> .own (f k) aa len
 | .ptr k row aa=> .ptr (f k) row aa
 | .agg cs=> .agg (zw f cs)
 | .eC cs=> .eC (zw f cs)
 | .fn F first caps=> .fn F (zw f first) (zw f caps)
 | .t x=> .t x
 | .eo r o=> .eo r o
 | .d7 φ=> .d7 φ
 | .mp k=> .mp (f k)
 | .oz k len=> .oz (f k) len
 | .cV=> .cV
 | .ub=> .ub
 | .undef=> .undef
def zw(f:Nat->Nat):List AV->List AV
 |[]=>[]
 |x::xs=>fX f x::zw f xs
end
def JJ(f:Nat->Nat)(o:aS):aS:=⟨o.sz,o.rows.map (zw f)⟩
def nw(os:List (Nat×aS))(k:Nat):Option aS:=match os with
 |[]=>none
 |(j,o)::r=>if j=k then some o else nw r k
def UP(P:Program)(w:World)(β:Nat->Option cL)(I:Nat->Prop)(os':List (Nat×aS))(rv:AV)(e:Ending)(w':World):Prop:=
 ∃v β' I',e= .returned v/\Mem P w (mY β I) β' I' (nw os') w'/\(∀ b,I b->I' b)/\VR P β' w' I' rv v
def rK(os:List aS)(k:Nat):Option aS:=os[k]?
def ye(P:Program)(f:FuncId)(args:List AV)(os:List aS)(os':List (Nat×aS))(rv:AV):Prop:=
 eO P f/\∀(w:World) (β:Nat->Option cL) (I:Nat->Prop) (vs:Array Value),(∀ k,os.length<=k->β k=none)->Mem P w (mY β I) β I (rK os) w->aE P β w I args vs.toList->Calls P f vs w (UP P w β I os' rv)
def GJ(i k:Nat):Bool:=Nat.ble 1000000 k&&(k -1000000)/64==i
theorem U5{i k:Nat}:GJ i k=true↔ij (cJ i) k:=by
 simp only[GJ,aL,Nat.ble_eq,beq_iff_eq,ij,cJ];omega
def cn(i:Nat)(ae:List Nat)(j:Nat):Nat:=if j<1000 then(ae[j]?).getD 0 else cJ i+(j -1000)
def U6(P:Program)(get:Nat->Option aS)(ae:List Nat)(k:Nat):OB->Option (aS×List Prop)
 | .dat p=>(get k).bind λo=>some (gA p,[o.sz=p.1/\dW (o.rows.take p.2.length)=aI p.2])
 | .C5 hs=>(get k).bind λo=>(yw P get ae o.rows hs).bind λq=>some (⟨o.sz,q.1⟩,q.2)
def E8(P:Program)(get:Nat->Option aS)(ae:List Nat):List Nat->List OB->Option (List aS×List Prop)
 |[],[]=>some ([],[])
 |k::ks,b::bs=>(U6 P get ae k b).bind λp=>(E8 P get ae ks bs).bind λq=>some (p.1::q.1,p.2++q.2)
 |_,_=>none
def O9(o:aS):List Nat:=o.rows.flatMap eT
def U7(get:Nat->Option aS)(xs:List AV)(ae cT:List Nat)(bs:List OB):Prop:=
 (∀ k∈cT,k∉ae)/\(∀ k∈eT xs,k∉ae->k∈cT)/\∀(j:Nat) hs q o,bs[j]? =some (.C5 hs)->ae[j]? =some q->get q=some o->∀k∈O9 o,k∉ae->k∈cT
def xy(i:Nat)(ae:List Nat)(os':List (Nat×aS)):List (Nat×Option aS):=
 (ae.zipIdx.map λp=>(p.1,(nw os' p.2).map (JJ (cn i ae))))++(os'.filter λq=>decide (1000<=q.1)).map λq=>(cn i ae q.1,some (JJ (cn i ae) q.2))
mutual
def uN:AV->Prop
 | .t x=>x.flat
 | .eo _ _ | .d7 _=>False
 | .agg cs | .eC cs=>o7 cs
 | .fn _ first caps=>o7 first/\o7 caps
 |_=>True
def o7:List AV->Prop
 |[]=>True
 |x::xs=>uN x/\o7 xs
end
def As(n k:Nat):Prop:=k<n\/(1000<=k/\k<1064)
def Zp(n:Nat)(os':List (Nat×aS))(rv:AV):Prop:=
 (∀ q∈os',As n q.1)/\(os'.map (·.1)).Nodup/\(∀ q∈os',∀r∈q.2.rows,∀k∈eT r,As n k)/\∀k∈refs rv,As n k
def m9(os':List (Nat×aS))(rv:AV):Prop:=uN rv/\∀q∈os',∀r∈q.2.rows,o7 r
def Mi(P:Program)(i:Nat)(f:AV)(args:List AV)(cw:i8)(get:Nat->Option aS):Option Out:=
 match f,cw with
 | .fn F first caps,.tA ae cT bs hs os' rv keep=>if ae.Nodup/\ae.length<=1000 then(E8 P get ae ae bs).bind λho=>(lU P get ae (first++args++caps) hs).bind λq=>
  some ⟨fX (cn i ae) rv,xy i ae os'++(if keep then []else cT.map λk=>(k,none)),
   q.2.2++ho.2++[ye P F q.1 ho.1 os' rv,Zp ae.length os' rv,U7 get (first++args++caps) ae cT bs]++(if keep then [m9 os' rv]else [])⟩
  else none
 |_,_=>none
section
variable {P:Program} {w0:World} {O0:j8} {β β1 β2:Nat->Option cL} {I:Nat->Prop} {obj:Nat->Option aS} {w:World} {i:Nat}
mutual
theorem VR.ux{f:Nat->Nat}:∀(x:AV)(v:Value),(∀ k∈refs x,∀B,β1 k=some B->β2 (f k)=some B)->VR P β1 w I x v->VR P β2 w I (fX f x) v
 | .own k aa len,v,hd,h=>by
  simp only[fX,VR]at h ⊢;have hd':=hd k (by simp[refs]);rcases h with ⟨h1,h2⟩ |⟨b,s,n,c,o,h1,h2⟩
  ·exact .inl ⟨hd' _ h1,h2⟩
  ·exact .inr ⟨b,s,n,c,o,hd' _ h1,h2⟩
 | .ptr k row aa,v,hd,h=>by
  simp only[fX,VR]at h ⊢;obtain⟨b,s,n,h1,h2⟩:=h;exact⟨b,s,n,hd k (by simp[refs]) _ h1,h2⟩
 | .agg cs,v,hd,h=>by
  simp only[fX,VR]at h ⊢;obtain⟨vs,h1,h2⟩:=h;exact⟨vs,h1,aE.ux cs _ (by simpa[refs]using hd) h2⟩
 | .eC cs,v,hd,h=>by
  simp only[fX,VR]at h ⊢;obtain⟨vs,h1,h2⟩:=h;exact⟨vs,h1,aE.ux cs _ (by simpa[refs]using hd) h2⟩
 | .fn F first caps,v,hd,h=>by
  simp only[fX,VR]at h ⊢;obtain⟨fs,cs,h1,h2,h3⟩:=h;exact⟨fs,cs,h1,aE.ux first _ (λ k hk=>hd k (by simp[refs,hk])) h2,aE.ux caps _ (λ k hk=>hd k (by simp[refs,hk])) h3⟩
 | .t x,v,_,h=>by simpa[fX,VR]using h
 | .eo r o,v,_,h=>by simpa[fX,VR]using h
 | .d7 φ,v,_,h=>by simpa[fX,VR]using h
 | .mp k,v,hd,h=>by
  simp only[fX,VR]at h ⊢;obtain⟨b,h1,h2⟩:=h;exact⟨b,hd k (by simp[refs]) _ h1,h2⟩
 | .oz k len,v,hd,h=>by
  simp only[fX,VR]at h ⊢;rcases h with h |⟨h0,b,sz,n,cap,o,h1,h2⟩
  ·exact .inl h
  ·exact .inr ⟨h0,b,sz,n,cap,o,hd k (by simp[refs]) _ h1,h2⟩
 | .cV,v,_,h=>by simpa[fX,VR]using h
 | .ub,v,_,h=>by simpa[fX,VR]using h
 | .undef,v,_,h=>by simp[fX,VR]
theorem aE.ux{f:Nat->Nat}:∀(xs:List AV)(vs:List Value),(∀ k∈eT xs,∀B,β1 k=some B->β2 (f k)=some B)->aE P β1 w I xs vs->aE P β2 w I (zw f xs) vs
 |[],[],_,_=>by simp[zw,aE]
 |x::xs,v::vs,hd,h=>by
  simp only[aE]at h;simp only[zw,aE];exact⟨VR.ux x v (λ k hk=>hd k (by simp[eT,hk])) h.1,aE.ux xs vs (λ k hk=>hd k (by simp[eT,hk])) h.2⟩
 |[],_::_,_,h=>by simp[aE]at h
 |_::_,[],_,h=>by simp[aE]at h
end
mutual
theorem VR.flat{I2:Nat->Prop}:∀(x:AV)(v:Value),uN x->VR P β w I x v->VR P β w I2 x v
 | .own k aa len,v,_,h=>by simpa only[VR]using h
 | .ptr k row aa,v,_,h=>by simpa only[VR]using h
 | .agg cs,v,hf,h=>by
  simp only[VR]at h ⊢;obtain⟨vs,h1,h2⟩:=h;exact⟨vs,h1,aE.flat cs _ (by simpa[uN]using hf) h2⟩
 | .eC cs,v,hf,h=>by
  simp only[VR]at h ⊢;obtain⟨vs,h1,h2⟩:=h;exact⟨vs,h1,aE.flat cs _ (by simpa[uN]using hf) h2⟩
 | .fn F first caps,v,hf,h=>by
  simp only[VR]at h ⊢;obtain⟨fs,cs,h1,h2,h3⟩:=h;simp only[uN]at hf;exact⟨fs,cs,h1,aE.flat first _ hf.1 h2,aE.flat caps _ hf.2 h3⟩
 | .t x,v,hf,h=>by
  simp only[VR]at h ⊢;exact Tree.mf (by simpa[uN]using hf) h
 | .eo r o,v,hf,h=>by simp[uN]at hf
 | .d7 φ,v,hf,h=>by simp[uN]at hf
 | .mp k,v,_,h=>by simpa only[VR]using h
 | .oz k len,v,_,h=>by simpa only[VR]using h
 | .cV,v,_,h=>by simpa only[VR]using h
 | .ub,v,_,h=>by simpa only[VR]using h
 | .undef,v,_,h=>by simp[VR]
theorem aE.flat{I2:Nat->Prop}:∀(xs:List AV)(vs:List Value),o7 xs->aE P β w I xs vs->aE P β w I2 xs vs
 |[],[],_,_=>by simp[aE]
 |x::xs,v::vs,hf,h=>by
  simp only[aE]at h ⊢;simp only[o7]at hf;exact⟨VR.flat x v hf.1 h.1,aE.flat xs vs hf.2 h.2⟩
 |[],_::_,_,h=>by simp[aE]at h
 |_::_,[],_,h=>by simp[aE]at h
end
theorem Q6(f:Nat->Nat):∀l:List AV,(zw f l).length=l.length
 |[]=>rfl
 |_::l=>by simp only[zw,bI,Q6 f l]
theorem cW.tell{β':Nat->Option cL}{w':World}{I':Nat->Prop}{r q:List AV}{c:Array Value}{aa:Nat}(hv:∀vs:List Value,aE P β w I r vs->aE P β' w' I' q vs)(h:cW P β w I r c aa):cW P β' w' I' q c aa:=by
 have⟨vs,h1,h2,h3⟩:=cW.list r c aa h;exact cW.ot q vs c aa (hv vs h1) h2 h3
theorem bo.tell{β':Nat->Option cL}{w':World}{I':Nat->Prop}:∀{rs qs:List (List AV)}{c:Array Value}{aa sz:Nat},rs.length=qs.length->(∀ (j:Nat) r q,rs[j]? =some r->qs[j]? =some q->q.length=r.length/\∀vs:List Value,aE P β w I r vs->aE P β' w' I' q vs)->
 bo P β w I rs c aa sz->bo P β' w' I' qs c aa sz
 |[],[],_,_,_,_,_,h=>h
 |r::rs,q::qs,c,aa,sz,hl,hr,h=>by
  simp only[bo]at h ⊢;obtain⟨h1,h2,h3⟩:=h;have⟨e1,e2⟩:=hr 0 r q rfl rfl;exact⟨e1.trans h1,h2.tell e2,bo.tell (by simpa using hl) (λ j a b ha hb=>hr (j+1) a b (by simpa using ha) (by simpa using hb)) h3⟩
 |[],_::_,_,_,_,hl,_,_=>by simp at hl
 |_::_,[],_,_,_,hl,_,_=>by simp at hl
theorem co.tell{β':Nat->Option cL}{I':Nat->Prop}:∀{rs qs:List (List AV)}{es:List MapEntry},rs.length=qs.length->(∀ (j:Nat) r q',rs[j]? =some r->qs[j]? =some q'->∀vs:List Value,aE P β w I r vs->aE P β' w I' q' vs)->co P β w I rs es->co P β' w I' qs es
 |[],[],[],_,_,_=>trivial
 |r::rs,q::qs,_::es,hl,hr,⟨h1,h2⟩=>⟨hr 0 r q rfl rfl _ h1,co.tell (by simpa using hl) (λ j r' q' a b=>hr (j+1) r' q' (by simpa using a) (by simpa using b)) h2⟩
 |[],_::_,_,hl,_,_=>by simp at hl
 |_::_,[],_,hl,_,_=>by simp at hl
 |[],_,_::_,_,_,h=>h.elim
 |_::_,_,[],_,_,h=>h.elim
theorem OR.tell{β':Nat->Option cL}{I':Nat->Prop}{o q:aS}{B:cL}(hsz:q.sz=o.sz)(hl:o.rows.length=q.rows.length)(hr:∀(j:Nat) r q',o.rows[j]? =some r->q.rows[j]? =some q'->q'.length=r.length/\∀vs:List Value,aE P β w I r vs->aE P β' w I' q' vs)
 (h:OR P β w I o B):OR P β' w I' q B:=by
 cases B with
 |none=>
  simp only[OR]at h ⊢;rw[h]at hl;exact List.eq_nil_of_length_eq_zero hl.symm
 | «at» b s n=>
  obtain⟨h1,c,e,h2,h3,h4⟩:=h;exact⟨by rw[hsz];exact h1,c,e,h2,h3,h4.tell hl hr⟩
 |mp b=>
  obtain⟨es,cl,h1,hle,h2,h3⟩:=h;exact⟨es,cl,h1,by omega,λe=>co.tell hl (λ j r q' a b=>(hr j r q' a b).2) (h2 (by omega)),h3⟩
theorem OR.ux{f:Nat->Nat}{o:aS}{B:cL}(hf:∀r∈o.rows,∀k∈eT r,∀B,β1 k=some B->β2 (f k)=some B)(h:OR P β1 w I o B):OR P β2 w I (JJ f o) B:=by
 refine OR.tell (o:=o) (q:=JJ f o) rfl (by simp[JJ]) (λ j r q h1 h2=>?_) h;simp only[JJ,List.getElem?_map,dK]at h2;obtain⟨r',h3,rfl⟩:=h2;rw[h1]at h3;cases h3;exact⟨Q6 f r,λvs hv=>aE.ux r vs (hf r (dh h1)) hv⟩
theorem OR.m9{I2:Nat->Prop}{o:aS}{B:cL}(hf:∀r∈o.rows,o7 r)(h:OR P β w I o B):OR P β w I2 o B:=by
 refine OR.tell rfl rfl (λ j r q h1 h2=>?_) h;rw[h1]at h2;cases h2;exact⟨rfl,λvs hv=>aE.flat r vs (hf r (dh h1)) hv⟩
def pw(P:Program)(get:Nat->Option aS)(ae:List Nat):List (List AV)->List (List AV)->Prop
 |[],[]=>True
 |r::rs,q::qs=>ft P get ae r q/\pw P get ae rs qs
 |_,_=>False
theorem Mj{get:Nat->Option aS}{ae:List Nat}:∀{rs:List (List AV)}{hs:List (List LH)}{p:List (List AV)×List Prop},yw P get ae rs hs=some p->(∀ q∈p.2,q)->pw P get ae rs p.1
 |[],[],p,h,_=>by simp only[yw,aA]at h;subst h;trivial
 |r::rs,hl::hs,p,h,ho=>by
  simp only[yw,ai,aA]at h;obtain⟨q,h1,q',h2,rfl⟩:=h;exact⟨mZ h1 (λ y hy=>ho y (by simp[hy])),Mj h2 (λ y hy=>ho y (by simp[hy]))⟩
 |[],_::_,p,h,_=>by simp[yw]at h
 |_::_,[],p,h,_=>by simp[yw]at h
theorem ft.length{get:Nat->Option aS}{ae:List Nat}:∀{xs ys:List AV},ft P get ae xs ys->ys.length=xs.length
 |[],[],_=>rfl
 |x::xs,y::ys,h=>by simp only[bI,ft.length h.2]
 |[],_::_,h=>h.elim
 |_::_,[],h=>h.elim
theorem pw.get{get:Nat->Option aS}{ae:List Nat}:∀{rs qs:List (List AV)},pw P get ae rs qs->rs.length=qs.length/\∀(j:Nat) r q,rs[j]? =some r->qs[j]? =some q->ft P get ae r q
 |[],[],_=>⟨rfl,λj r q h=>by simp at h⟩
 |r::rs,q::qs,h=>by
  have⟨h1,h2⟩:=pw.get h.2;refine⟨by simp[h1],λj a b ha hb=>?_⟩;cases j with
  |zero=>simp only[List.getElem?_cons_zero,aA]at ha hb;subst ha;subst hb;exact h.1
  |succ j=>exact h2 j a b (by simpa using ha) (by simpa using hb)
 |[],_::_,h=>h.elim
 |_::_,[],h=>h.elim
theorem U8{get:Nat->Option aS}{ae:List Nat}:∀{ks:List Nat}{bs:List OB}{p:List aS×List Prop},E8 P get ae ks bs=some p->(∀ q∈p.2,q)->ks.length=p.1.length/\∀(j:Nat) k q,ks[j]? =some k->p.1[j]? =some q->∃o,get k=some o/\
 ((∃ d:fe,bs[j]? =some (.dat d)/\q=gA d/\o.sz=d.1/\dW (o.rows.take d.2.length)=aI d.2)\/(∃ hs,bs[j]? =some (.C5 hs)/\q.sz=o.sz/\pw P get ae o.rows q.rows))
 |[],[],p,h,_=>by simp only[E8,aA]at h;subst h;exact⟨rfl,λj k q h=>by simp at h⟩
 |k::ks,b::bs,p,h,ho=>by
  simp only[E8,ai,aA]at h;obtain⟨q,h1,q',h2,rfl⟩:=h;obtain⟨g1,g2⟩:=U8 h2 (λ y hy=>ho y (by simp[hy]));refine⟨by simp[g1],λj k' z hj hz=>?_⟩;cases j with
  |succ j=>
   obtain⟨o,e1,e2⟩:=g2 j k' z (by simpa using hj) (by simpa using hz);exact⟨o,e1,by simpa using e2⟩
  |zero=>
   simp only[List.getElem?_cons_zero,aA]at hj hz;subst hj;subst hz;cases b with
   |dat d=>
    simp only[U6,ai,aA]at h1;obtain⟨o,e1,rfl⟩:=h1;have:=ho _ (List.mem_append_left _ (aW.2 rfl));exact⟨o,e1,.inl ⟨d,rfl,rfl,this.1,this.2⟩⟩
   |C5 hs=>
    simp only[U6,ai,aA]at h1;obtain⟨o,e1,z,e2,rfl⟩:=h1;exact⟨o,e1,.inr ⟨hs,rfl,rfl,Mj e2 (λ y hy=>ho y (List.mem_append_left _ hy))⟩⟩
 |[],_::_,p,h,_=>by simp[E8]at h
 |_::_,[],p,h,_=>by simp[E8]at h
theorem Mem.xi(h:Mem P w0 O0 β I obj w){get:Nat->Option aS}(hg:∀k o,get k=some o->obj k=some o){ae cT:List Nat}{os:List aS}(hnd:ae.Nodup)(hlen:ae.length=os.length)
 (hm:∀(j:Nat) k q,ae[j]? =some k->os[j]? =some q->∃o,get k=some o/\((∃ d:fe,q=gA d/\o.sz=d.1/\dW (o.rows.take d.2.length)=aI d.2)\/(q.sz=o.sz/\pw P get ae o.rows q.rows/\∀k∈O9 o,k∉ae->k∈cT))) (BT:∀k∈cT,k∉ae):
 Mem P w (mY (βc ae β) (fL β obj cT I)) (βc ae β) (fL β obj cT I) (rK os) w:=by
 have hb0:∀j k,ae[j]? =some k->βc ae β j=β k:=λj k hk=>by simp[βc,hk]
 have look:∀j q,rK os j=some q->∃k o,ae[j]? =some k/\obj k=some o/\∀B,OR P β w I o B->OR P (βc ae β) w (fL β obj cT I) q B:=by
  intro j q hj;simp only[rK]at hj;have hjl:j<ae.length:=by rw[hlen];exact(dF.1 hj).1
  obtain⟨o,g,hh⟩:=hm j _ q (dI hjl) hj;refine⟨_,o,dI hjl,hg _ _ g,λB hO=>?_⟩;rcases hh with ⟨d,rfl,g4,g5⟩ |⟨g4,g5,g6⟩
  ·have:OR P β w I (gA d) B:=by
    cases B with
    |none=>
     simp only[OR]at hO ⊢;rw[hO]at g5;simpa[dW,gA]using g5.symm
    | «at» b s n=>
     obtain⟨h1,c,e,h2,h3,h4⟩:=hO;refine⟨by rw[h1,g4];rfl,c,e,h2,h3,?_⟩;have:=bo.wk _ _ _ _ (bo.take d.2.length _ _ _ _ h4);rw[g5]at this;exact this
    |mp b=>exact OR.part g4 g5 hO
   exact this.dat λb hb=> .inl hb
  ·obtain⟨e1,e2⟩:=g5.get;refine hO.tell g4 e1 (λ m r q' hr hq=>?_);have hb:=e2 m r q' hr hq;refine⟨hb.length,λvs hv=>?_⟩;refine ft.sound h hg cT r q' vs (λ k hk hn=>g6 k ?_ hn) hb hv;exact List.mem_flatMap.2 ⟨r,dh hr,hk⟩
 constructor
 ·intro j q hj;have⟨k,o,g1,g2,g3⟩:=look j q hj;have⟨B,hB,hO⟩:=h.cE k o g2;exact⟨B,by rw[hb0 j k g1];exact hB,g3 B hO⟩
 ·intro j j' o o' B B' b h1 h2 h3 h4 h5 h6;have⟨k,q,g1,g3,_⟩:=look j o h1;have⟨k',q',g1',g3',_⟩:=look j' o' h2;rw[hb0 j k g1]at h3;rw[hb0 j' k' g1']at h4;have:=h.gj k k' q q' B B' b g3 g3' h3 h4 h5 h6;subst this;exact O6 hnd g1 g1'
 ·intro j o B b h1 h2 h5;have⟨k,q,g1,g3,_⟩:=look j o h1;have h2':=h2;rw[hb0 j k g1]at h2;have⟨a1,a2,_⟩:=h.ownB k q B b g3 h2 h5;refine⟨?_,a2,.inl ⟨j,B,h2',h5⟩⟩;rintro (hI |⟨k',o',s',n',e1,e2,e3⟩)
  ·exact a1 hI
  ·have:=h.lv k k' q o' b g3 e2 ⟨B,h2,h5⟩ (.at e3);subst this;exact BT _ e1 (dh g1)
 ·exact Ma h _
 ·exact λb hb=> .inl hb
 ·exact λ_ _ _=>rfl
 ·exact aC _
 ·rfl
 ·rfl
 ·rfl
 ·intro j B hj;simp only[mY]at hj;split at hj
  ·exact hj
  ·cases hj
 ·exact h.vars.mono (λ _ _=>rfl) (λ b hb=> .inl hb)
theorem aaQ:∀{os':List (Nat×aS)}{k:Nat}{o:aS},nw os' k=some o->(k,o)∈os'
 |[],_,_,h=>by simp[nw]at h
 |(j,q)::r,k,o,h=>by
  simp only[nw]at h;split at h
  ·rename_i e;cases h;subst e;exact List.mem_cons_self
  ·exact eG _ (aaQ h)
theorem U9:∀{os':List (Nat×aS)}{k:Nat}{o:aS},(os'.map (·.1)).Nodup->(k,o)∈os'->nw os' k=some o
 |(j,q)::r,k,o,hn,h=>by
  simp only[aF,List.nodup_cons]at hn;simp only[nw];rcases aN.1 h with e |h
  ·injection e with e1 e2;subst e1;subst e2;rw[aX rfl]
  ·rw[aQ (λ e=>hn.1 (mem_map.2 ⟨(k,o),h,e.symm⟩)),U9 hn.2 h]
theorem acL{F:Nat->Option aS}{k:Nat}:∀(ae:List Nat)(n:Nat),(∃ j,ae[j]? =some k/\cK obj ((ae.zipIdx n).map λp=>(p.1,F p.2)) k=F (n+j))\/(k∉ae/\cK obj ((ae.zipIdx n).map λp=>(p.1,F p.2)) k=obj k)
 |[],n=> .inr ⟨by simp,rfl⟩
 |q::ae,n=>by
  simp only[List.zipIdx_cons,aF,cK];by_cases e:k=q
  ·subst e;exact .inl ⟨0,rfl,by simp⟩
  ·rw[aQ e];rcases acL (k:=k) ae (n+1)with ⟨j,h1,h2⟩ |⟨h1,h2⟩
   ·exact .inl ⟨j+1,by simpa using h1,by rw[h2];congr 1;omega⟩
   ·exact .inr ⟨by simp[e,h1],h2⟩
theorem Zq{c:Nat->Nat}{G:aS->aS}{k:Nat}:∀(l:List (Nat×aS)),(∃ q∈l,k=c q.1/\cK obj (l.map λq=>(c q.1,some (G q.2))) k=some (G q.2))\/cK obj (l.map λq=>(c q.1,some (G q.2))) k=obj k
 |[]=> .inr rfl
 |q::l=>by
  simp only[aF,cK];by_cases e:k=c q.1
  ·exact .inl ⟨q,by simp,e,by rw[aX e]⟩
  ·rw[aQ e];rcases Zq (c:=c) (G:=G) (k:=k) l with ⟨z,h1,h2,h3⟩ |h
   ·exact .inl ⟨z,eG _ h1,h2,h3⟩
   ·exact .inr h
theorem acM(h:Mem P w0 O0 β I obj w)(hn:∀k,ij (cJ i) k->β k=none){ae cT:List Nat}{os':List (Nat×aS)}{rv:AV}{keep:Bool}(hgood:Zp ae.length os' rv)(hk:keep=true->m9 os' rv)
 (hnd:ae.Nodup) (hl:ae.length<=1000) (kq:∀k∈ae,∃o,obj k=some o)
 {w':World} {I1:Nat->Prop} {v:Value} (hM:Mem P w (mY (βc ae β) (fL β obj cT I)) β1 I1 (nw os') w') (h1:∀b,fL β obj cT I b->I1 b) (hr:VR P β1 w' I1 rv v):
 ∃ β' I',Step β I w (cJ i) β' I' w'/\Mem P w0 O0 β' I' (cK obj (xy i ae os'++if keep then []else cT.map (λ k=>(k,none)))) w'/\VR P β' w' I' (fX (cn i ae) rv) v:=by
 obtain⟨gk,gn,gr,gv⟩:=hgood;have hb0:∀j k,ae[j]? =some k->βc ae β j=β k:=λj k hk=>by simp[βc,hk]
 have hown0:∀k B,β k=some B->¬ij (cJ i) k:=λk B hk e=>by rw[hn k e]at hk;cases hk
 have HI:∀j k,ae[j]? =some k->∃B,β k=some B/\β1 j=some B:=by
  intro j k hj;have⟨o,ho⟩:=kq k (dh hj);have⟨B,hB,_⟩:=h.cE k o ho;have hjl:=(dF.1 hj).1;exact⟨B,hB,hM.anch j B (by simp only[mY];rw[aX (by omega),hb0 j k hj];exact hB)⟩
 generalize EE:(λ k=>if GJ i k then β1 (1000+(k -cJ i))else β k:Nat->Option cL)=β2;have AS:∀k,¬ij (cJ i) k->β2 k=β k:=λk hk=>by
  rw[<- EE];have:GJ i k=false:=by
   cases e:GJ i k with
   |false=>rfl
   |true=>exact absurd (U5.1 e) hk
  simp[this]
 have hβn:∀j,1000<=j->j<1064->β2 (cJ i+(j -1000))=β1 j:=λj e1 e2=>by
  rw[<- EE];have e:GJ i (cJ i+(j -1000))=true:=U5.2 (by simp only[ij,cJ];omega);have e':1000+(cJ i+(j -1000) -cJ i)=j:=by omega
  simp only[e,if_true,e']
 have hmap:∀k,As ae.length k->∀B,β1 k=some B->β2 (cn i ae k)=some B:=by
  rintro k (hk |⟨hk1,hk2⟩) B hB
  ·obtain⟨B',e1,e2⟩:=HI k _ (dI hk);rw[e2]at hB;cases hB;simp only[cn,show k<1000 by omega,if_true,dI hk,Option.getD_some];rw[AS _ (hown0 _ _ e1)];exact e1
  ·simp only[cn,show ¬k<1000 by omega,if_false];rw[hβn k hk1 hk2];exact hB
 have look:∀g k o,cK obj (xy i ae os'++g) k=some o->(∃ j o0,ae[j]? =some k/\nw os' j=some o0/\o=JJ (cn i ae) o0)\/
  (∃ j o0,1000<=j/\j<1064/\nw os' j=some o0/\k=cJ i+(j -1000)/\o=JJ (cn i ae) o0)\/(k∉ae/\cK obj g k=some o):=by
  intro g k o hko;rw[rJ,xy,rJ]at hko;rcases acL (obj:=cK (cK obj g) ((os'.filter λ(q:Nat×aS)=>decide (1000<=q.1)).map λ(q:Nat×aS)=>(cn i ae q.1,some (JJ (cn i ae) q.2)))) (F:=λj=>(nw os' j).map (JJ (cn i ae))) (k:=k) ae 0 with ⟨j,e1,e2⟩ |⟨e1,e2⟩
  ·rw[e2]at hko;simp only[Nat.zero_add,dK]at hko;obtain⟨o0,e3,e4⟩:=hko;exact .inl ⟨j,o0,e1,e3,e4.symm⟩
  ·rw[e2]at hko;rcases Zq (obj:=cK obj g) (c:=cn i ae) (G:=JJ (cn i ae)) (k:=k) (os'.filter λq=>decide (1000<=q.1))with ⟨q,e3,e4,e5⟩ |e3
   ·rw[e5]at hko;injection hko with hko;simp only[List.mem_filter,aV]at e3;have hq:=gk q e3.1;simp only[As]at hq;refine .inr (.inl ⟨q.1,q.2,e3.2,by omega,U9 gn e3.1,?_,hko.symm⟩);rw[e4];simp only[cn,show ¬q.1<1000 by omega,if_false]
   ·rw[e3]at hko;exact .inr (.inr ⟨e1,hko⟩)
 have main:∀(g:List (Nat×Option aS))(I2:Nat->Prop),(∀ k o,cK obj g k=some o->obj k=some o)->(∀ b,I b->I2 b)->(∀ b,I2 b->I1 b)->(∀ j o B,nw os' j=some o->OR P β1 w' I1 o B->OR P β1 w' I2 o B)->
  (∀ k o b,k∉ae->cK obj g k=some o->fh β k b->¬I2 b)->VR P β1 w' I2 rv v->
  ∃ β' I',Step β I w (cJ i) β' I' w'/\Mem P w0 O0 β' I' (cK obj (xy i ae os'++g)) w'/\VR P β' w' I' (fX (cn i ae) rv) v:=by
  intro g I2 hg hI hI1 hor HB hr2;have hown:∀b,UQ (βc ae β) b->∃k o,k∈ae/\obj k=some o/\fh β k b:=by
   rintro b ⟨j,B,hj,hB⟩;have⟨k,e1,e2⟩:=Mc hj;have⟨o,e3⟩:=kq k (dh e1);exact⟨k,o,dh e1,e3,B,e2,hB⟩
  have hapart:∀k o b,k∉ae->obj k=some o->fh β k b->¬UQ (βc ae β) b:=by
   intro k o b hk e1 e2 hb;have⟨k',o',g1,g2,g3⟩:=hown b hb;have:=h.lv k k' o o' b e1 g2 e2 g3;subst this;exact hk g1
  have hS:Same I w w':=λb hb=>hM.keep b (h.lt b hb) (λ hb'=>by
   have⟨k',o',g1,g2,g3⟩:=hown b hb';exact(h.iv k' o' b g2 g3).1 hb)
  have If:∀k o,cK obj (xy i ae os'++g) k=some o->(∃ j o0,nw os' j=some o0/\As ae.length j/\k=cn i ae j/\β2 k=β1 j/\o=JJ (cn i ae) o0)\/(k∉ae/\obj k=some o/\cK obj g k=some o/\β2 k=β k):=by
   intro k o hko;rcases look g k o hko with ⟨j,o0,e1,e2,e3⟩ |⟨j,o0,e1,LR,e2,e3,e4⟩ |⟨e1,e2⟩
   ·have⟨B,e4,e5⟩:=HI j k e1;have hjl:=(dF.1 e1).1;refine .inl ⟨j,o0,e2,.inl hjl,?_,?_,e3⟩
    ·simp only[cn,show j<1000 by omega,if_true,e1,Option.getD_some]
    ·rw[AS _ (hown0 _ _ e4),e4,e5]
   ·refine .inl ⟨j,o0,e2,.inr ⟨e1,LR⟩,?_,?_,e4⟩
    ·simp only[cn,show ¬j<1000 by omega,if_false];exact e3
    ·rw[e3];exact hβn j e1 LR
   ·have⟨B,e3,_⟩:=h.cE k o (hg k o e2);exact .inr ⟨e1,hg k o e2,e2,AS _ (hown0 _ _ e3)⟩
  have sR:∀j o0 b,nw os' j=some o0->fh β1 j b->¬I2 b/\b<w'.heap.size/\(UQ (βc ae β) b\/w.heap.size<=b):=by
   intro j o0 b e1 e2;have⟨a1,a2,a3⟩:=hM.iv j o0 b e1 e2;exact⟨λ hb=>a1 (hI1 b hb),a2,a3⟩
  refine⟨β2,I2,⟨AS,λk B hk=>by rw[AS k (hown0 k B hk)];exact hk,hS,hI⟩,?_,VR.ux rv v (λ k hk=>hmap k (gv k hk)) hr2⟩;constructor
  ·intro k o hko;rcases If k o hko with ⟨j,o0,e1,e2,e3,e4,rfl⟩ |⟨e1,e2,e3,e4⟩
   ·have⟨B,hB,hO⟩:=hM.cE j o0 e1;refine⟨B,by rw[e4];exact hB,OR.ux (λ r hr' q hq=>hmap q (gr (j,o0) (aaQ e1) r hr' q hq)) (hor j o0 B e1 hO)⟩
   ·have⟨B,hB,hO⟩:=h.cE k o e2;refine⟨B,by rw[e4];exact hB,OR.mono (λ q C hq=>by rw[AS q (hown0 q C hq)];exact hq) hS hI (λ b e=>hM.keep b (h.ownB k o B b e2 hB e).2.1 (hapart k o b e1 e2 ⟨B,hB,e⟩)) hO⟩
  ·intro k k' o o' B B' b ho ho' hb hb' h5 h6;rcases If k o ho with ⟨j,o0,e1,e2,e3,e4,rfl⟩ |⟨e1,e2,e3,e4⟩
   ·rw[e4]at hb;rcases If k' o' ho' with ⟨j',P0,f1,f2,f3,f4,rfl⟩ |⟨f1,f2,f3,f4⟩
    ·rw[f4]at hb';have:=hM.gj j j' o0 P0 B B' b e1 f1 hb hb' h5 h6;subst this;rw[e3,f3]
    ·rw[f4]at hb';rcases (sR j o0 b e1 ⟨B,hb,h5⟩).2.2 with g1 |g1
     ·exact absurd g1 (hapart k' o' b f1 f2 ⟨B',hb',h6⟩)
     ·have:=(h.ownB k' o' B' b f2 hb' h6).2.1;omega
   ·rw[e4]at hb;rcases If k' o' ho' with ⟨j',P0,f1,f2,f3,f4,rfl⟩ |⟨f1,f2,f3,f4⟩
    ·rw[f4]at hb';rcases (sR j' P0 b f1 ⟨B',hb',h6⟩).2.2 with g1 |g1
     ·exact absurd g1 (hapart k o b e1 e2 ⟨B,hb,h5⟩)
     ·have:=(h.ownB k o B b e2 hb h5).2.1;omega
    ·rw[f4]at hb';exact h.gj k k' o o' B B' b e2 f2 hb hb' h5 h6
  ·intro k o B b ho hb h5;rcases If k o ho with ⟨j,o0,e1,e2,e3,e4,rfl⟩ |⟨e1,e2,e3,e4⟩
   ·rw[e4]at hb;have⟨a1,a2,a3⟩:=sR j o0 b e1 ⟨B,hb,h5⟩;refine⟨a1,a2,?_⟩;rcases a3 with a3 |a3
    ·have⟨k',o',g1,g2,g3⟩:=hown b a3;exact(h.iv k' o' b g2 g3).2.2
    ·exact .inr (Nat.le_trans h.le a3)
   ·rw[e4]at hb;have⟨a1,a2,a3⟩:=h.ownB k o B b e2 hb h5;exact⟨HB k o b e1 e3 ⟨B,hb,h5⟩,Nat.lt_of_lt_of_le a2 hM.le,a3⟩
  ·exact λb hb=>hM.lt b (hI1 b hb)
  ·intro b hb;rcases hM.up b (hI1 b hb)with (g1 |⟨k',o',s',n',_,g2,g3⟩) |g1 |g1
   ·exact h.up b g1
   ·exact .inr (h.own k' o' b s' n' g2 g3).2.2
   ·have⟨k',o',_,g2,g3⟩:=hown b g1;exact .inr (h.iv k' o' b g2 g3).2.2
   ·exact .inr (.inr (Nat.le_trans h.le g1))
  ·intro b hb hno;refine(hM.keep b (Nat.lt_of_lt_of_le hb h.le) (λ hb'=>?_)).trans (h.keep b hb hno);have⟨k',o',_,g2,g3⟩:=hown b hb';rcases (h.iv k' o' b g2 g3).2.2 with g1 |g1
   ·exact hno g1
   ·omega
  ·exact Nat.le_trans h.le hM.le
  ·exact hM.os.trans h.os
  ·exact hM.tape.trans h.tape
  ·exact hM.output.trans h.output
  ·intro j B hj;have e:=h.anch j B hj;rw[AS j (hown0 j B e)];exact e
  ·exact h.vars.mono hS hI
 cases keep with
 |true=>
  have⟨hf1,hf2⟩:=hk rfl;exact main [] I (λ _ _ h=>h) (λ _ h=>h) (λ b hb=>h1 b (.inl hb)) (λ j o B hj hO=>OR.m9 (hf2 (j,o) (aaQ hj)) hO) (λ k o b _ e1 e2=>(h.iv k o b e1 e2).1) (VR.flat rv v hf1 hr)
 |false=>
  have hsub:∀k o,cK obj (cT.map λk=>(k,none)) k=some o->obj k=some o/\k∉cT:=by
   intro k o hk;rw[xW]at hk;split at hk
   ·cases hk
   ·exact⟨hk,‹_›⟩
  refine main _ I1 (λ k o hk=>(hsub k o hk).1) (λ b hb=>h1 b (.inl hb)) (λ _ h=>h) (λ j o B hj hO=>hO) (λ k o b hki e1 e2 hb=>?_) hr;have⟨f1,f2⟩:=hsub k o e1;have⟨a1,a2,_⟩:=h.iv k o b f1 e2;rcases hM.up b hb with (g |⟨k',o',s',n',g1,g2,g3⟩) |⟨j,B',g,g'⟩ |g
  ·exact a1 g
  ·have:=h.lv k k' o o' b f1 g2 e2 (.at g3);subst this;exact f2 g1
  ·have⟨k',g1,g2⟩:=Mc g;have⟨o',g3⟩:=kq k' (dh g1);have:=h.lv k k' o o' b f1 g3 e2 ⟨B',g2,g'⟩;subst this;exact hki (dh g1)
  ·omega
theorem Va(h:Mem P w0 O0 β I obj w)(hn:∀k,ij (cJ i) k->β k=none){f:AV}{args:List AV}{cw:i8}{get:Nat->Option aS}{ab:Out}(hg:∀k o,get k=some o->obj k=some o)
 {fv:Value} {vs:Array Value} {al:Array Operand} {fo:Operand} {r:Operand->Value} (ha:Mi P i f args cw get=some ab) (cM:ab.ob) (hf:VR P β w I f fv) (hv:aE P β w I args vs.toList) (hfo:r fo=fv) (hops:vs=al.map r)
 {dst:Option Tmp} {ao:String} {after:Array Edge} {guard:Option (Nat×Bool)} {ty:TypeId} {cQ:Array TypeId}:
 zN P w0 O0 β I obj w i ab ((execOp r ⟨dst,.call { callee:= .value fo,args:=al,argTypes:=cQ },ty,ao,after,guard⟩).run P w):=by
 unfold Mi at ha;split at ha
 ·rename_i F first caps ae cT bs hs os' rv keep
  split at ha
  ·rename_i hc;obtain⟨hnd,hl⟩:=hc;rw[ai]at ha;obtain⟨ho,hho,ha⟩:=ha;rw[ai]at ha;obtain⟨q,hq,ha⟩:=ha;cases ha;have cM:=qj _ cM;simp only[VR]at hf;obtain⟨fs,cs,rfl,hf1,hf2⟩:=hf;have o1:∀x∈q.2.2,x:=λx hx=>cM x (by simp[hx]);have o2:∀x∈ho.2,x:=λx hx=>cM x (by simp[hx]);have o3:ye P F q.1 ho.1 os' rv:=cM (ye P F q.1 ho.1 os' rv) (by simp);have o4:Zp ae.length os' rv:=cM (Zp ae.length os' rv) (by simp);have o5:keep=true->m9 os' rv:=λe=>cM (m9 os' rv) (by simp[e]);obtain⟨l1,l2,l3⟩:U7 get (first++args++caps) ae cT bs:=cM (U7 get (first++args++caps) ae cT bs) (by simp);obtain⟨⟨fn,e1,e2,e3⟩,hcon⟩:=o3;have⟨hl2,hmm⟩:=U8 hho o2;have kq:∀k∈ae,∃o,obj k=some o:=by
    intro k hk;obtain⟨j,hj⟩:=List.getElem?_of_mem hk;have hjl:j<ho.1.length:=(by rw[<- hl2];exact(dF.1 hj).1);obtain⟨o,g,_⟩:=hmm j k _ hj (dI hjl);exact⟨o,hg _ _ g⟩
   have hM:=h.xi hg (cT:=cT) hnd hl2 (λ j k z hj hz=>by
    have⟨o,g1,g2⟩:=hmm j k z hj hz;refine⟨o,g1,?_⟩;rcases g2 with ⟨d,_,g3⟩ |⟨hs',g3,g4,g5⟩
    ·exact .inl ⟨d,g3⟩
    ·exact .inr ⟨g4,g5,λk' hk' hn'=>l3 j hs' k o g3 hj g1 k' hk' hn'⟩) l1
   have hall:aE P β w I (first++args++caps) (fs++vs++cs).toList:=by
    simp only[Array.toList_append];exact aE.append _ _ _ _ (aE.append _ _ _ _ hf1 hv) hf2
   have pd:=ft.sound h hg cT _ _ _ (λ k hk hn=>l2 k hk hn) (mZ hq o1) hall;refine⟨F,fs++vs++cs,?_,(hcon w _ _ _ (λ k hk=>?_) hM pd).mono ?_⟩
   ·have hb:¬fn.body=none:=(by cases hh:fn.body<;>simp[hh]at e2 ⊢);have e3' : ¬ fn.name = "runtime.NumGoroutine" := (by simpa using e3);simp[execOp,resolve,hfo,<- hops,Deferred.ofValue,invoke,callFunc,e1,e3',hb]
   ·simp[βc,List.getElem?_eq_none (show ae.length<=k by omega)]
   ·rintro e w' ⟨v',β1,I1,rfl,g1,g2,g3⟩;have⟨β',I',k1,k2,k3⟩:=acM (keep:=keep) h hn o4 o5 hnd hl kq g1 g2 g3;exact⟨v',β',I',rfl,k1,k2,k3⟩
  ·cases ha
 ·cases ha
end
def jY(P:Program)(i:Nat)(f:AV)(args:List AV)(cw:i8)(get:Nat->Option aS):Option Out:=
 match cw with
 | .tA ae cT bs hs os' rv keep=>Mi P i f args (.tA ae cT bs hs os' rv keep) get
 |cw=>oI P i f args cw get
section
variable {P:Program} {w0:World} {O0:j8} {β:Nat->Option cL} {I:Nat->Prop} {obj:Nat->Option aS} {w:World} {i:Nat}
theorem Vb(h:Mem P w0 O0 β I obj w)(hn:∀k,ij (cJ i) k->β k=none){f:AV}{args:List AV}{cw:i8}{get:Nat->Option aS}{ab:Out}(hg:∀k o,get k=some o->obj k=some o)
 {fv:Value} {vs:Array Value} {al:Array Operand} {fo:Operand} {r:Operand->Value} (ha:jY P i f args cw get=some ab) (cM:ab.ob) (hf:VR P β w I f fv) (hv:aE P β w I args vs.toList) (hfo:r fo=fv) (hops:vs=al.map r)
 {dst:Option Tmp} {ao:String} {after:Array Edge} {guard:Option (Nat×Bool)} {ty:TypeId} {cQ:Array TypeId}:
 zN P w0 O0 β I obj w i ab ((execOp r ⟨dst,.call { callee:= .value fo,args:=al,argTypes:=cQ },ty,ao,after,guard⟩).run P w):=by
 unfold jY at ha;split at ha
 ·exact Va h hn hg ha cM hf hv hfo hops
 ·exact UW h (hn _ (.inl rfl)) hg ha cM hf hv hfo hops
end
structure St where
 env:Nat->AV
 obj:Nat->Option aS
 ok:Nat->Option Bool
structure mS where
 cw:i8
 rd:List Nat
 wr:List Nat
 sym:Bool
def jA(P:Program)(T:ea)(i:Nat)(o:Oper)(cw:i8)(ρ:Operand->AV)(get:Nat->Option aS):Option Out:=
 match cw with
 | .ext n=>sI T i o n ρ get
 | .xm ae fr uC=>GA P T i o ae fr uC ρ get
 |cw=>match o.op with
  | .call { callee:= .value f,args:=args,argTypes:=_ }=>jY P i (ρ f) (args.toList.map ρ) cw get
  |_=>pU T i o cw ρ get
def Aw{α:Type}(env:Nat->α)(dst:Option Tmp)(v:α):Nat->α:=λt=>if dst=some t then v else env t
def St.app(σ:St)(dst:Option Tmp)(p:Out×Option Bool):St:=⟨Aw σ.env dst p.1.v,cK σ.obj p.1.upd,Aw σ.ok dst p.2⟩
def want(al:Array Oper)(o:Oper)(env:Nat->AV)(ok:Nat->Option Bool):Option Bool:=
 match o.guard with
 |none=>some true
 |some (j,b)=>match (al[j]?).bind (·.dst)with
  |some t=>match env t,ok t with
   | .t (.sc (.bool v)),none=>some (v==b)
   | .t (.sc (.bool v)),some g=>some (g&&(v==b))
   | .undef,some false=>some false
   |_,_=>none
  |none=>none
def wY(ok:Nat->Option Bool):Operand->List Prop
 | .tmp t=>match ok t with
  |none=>[]
  |some b=>[b=true]
 |_=>[]
def needs(env:Nat->AV)(ok:Nat->Option Bool)(o:Op):List Prop:=
 match o with
 | .pick c a b=>match lp env c with
  | .t (.sc (.bool e))=>wY ok c++((wY ok a).map (λ p=>e=true->p)++(wY ok b).map (λ p=>e=false->p))
  |_=>[False]
 |o=>o.operands.toList.flatMap (wY ok)
def dH(rd:List Nat)(obj:Nat->Option aS):Nat->Option aS:=λk=>if k∈rd then obj k else none
section
variable (P:Program) (T:ea) (al:Array Oper) (c7:Nat->mS)
def opAt(i:Nat)(σ:St):Option (Out×Option Bool):=
 (al[i]?).bind λo=>(want al o σ.env σ.ok).bind λg=>match (c7 i).sym with
  |true=>(jA P T i o (c7 i).cw (lp σ.env) (dH (c7 i).rd σ.obj)).bind λab=>
   if ab.upd.isEmpty then some (⟨ab.v,[],(needs σ.env σ.ok o.op++ab.obs).map λp=>g=true->p⟩,some g)else none
  |false=>match g with
   |true=>(jA P T i o (c7 i).cw (lp σ.env) (dH (c7 i).rd σ.obj)).bind λab=>
    if ab.upd.all (λ p=>GJ i p.1 || (c7 i).wr.contains p.1)then some (⟨ab.v,ab.upd,needs σ.env σ.ok o.op++ab.obs⟩,none)else none
   |false=>some (⟨.undef,[],[]⟩,some false)
def xp(i:Nat)(K:St->Prop)(σ:St):Prop:=∃o ab,al[i]? =some o/\opAt P T al c7 i σ=some ab/\ab.1.ob/\K (σ.app o.dst ab)
def R6(Q:St->Prop):List Nat->St->Prop
 |[],σ=>Q σ
 |i::r,σ=>xp P T al c7 i (R6 Q r) σ
def DE(md:Region.Mode)(Q:St->Prop):Nat->Array Bool->St->Prop
 | 0,listed,σ=>Region.ready md al listed=[]/\Q σ
 |fuel+1,listed,σ=>(Region.ready md al listed=[]->Q σ)/\∀i∈Region.ready md al listed,xp P T al c7 i (DE md Q fuel (listed.setIfInBounds i true)) σ
end
def xq(c7:Nat->mS)(i j:Nat):Bool:=
 (c7 j).rd.all (λ k=>!GJ i k&&!(c7 i).wr.contains k)&&(!Nat.beq i j&&(c7 j).wr.all (λ k=>!GJ i k&&!(c7 i).wr.contains k)&&(c7 i).wr.all (λ k=>!GJ j k))&&(c7 i).rd.all (λ k=>!GJ j k&&!(c7 j).wr.contains k)
def Pb(md:Region.Mode)(al:Array Oper)(i:Nat):List Nat:=
 (List.range al.size).foldl (λ D j=>match al[j]? with
  |some oj=>bif oj.after.any (λ e=>Region.binds md e&&(e.on==i || D.contains e.on))then j::D else D
  |none=>D) []
def M2(md:Region.Mode)(al:Array Oper)(listed:Array Bool)(i j:Nat):Bool:=
 (Pb md al i).contains j&&(Pb md al i).all λd=>!listed.getD d true
def Pd(md:Region.Mode)(al:Array Oper)(c7:Nat->mS)(listed:Array Bool)(i:Nat):Bool:=
 match al[i]? with
 |some oi=>(List.range al.size).all λj=>j==i || listed.getD j true || match al[j]? with
  |some oj=>oj.after.any (λ e=>Region.binds md e&&e.on==i) || (oi.apart al oj&&xq c7 i j) || M2 md al listed i j
  |none=>true
 |none=>false
def lexFrom'(md:Region.Mode)(al:Array Oper)(c7:Nat->mS):Nat->Nat->Array Bool->Bool
 | 0,_,listed=>(Region.ready md al listed).isEmpty
 |fuel+1,k,listed=>(Region.ready md al listed).contains k&&Pd md al c7 listed k&&lexFrom' md al c7 fuel (k+1) (listed.setIfInBounds k true)
def M1(al:Array Oper)(c7:Nat->mS):Bool:=lexFrom' .any al c7 al.size 0 (Array.replicate al.size false)
section
variable {P:Program} {T:ea} {al:Array Oper} {c7:Nat->mS} {md:Region.Mode} {Q:St->Prop}
theorem ake{i:Nat}{K K':St->Prop}{σ:St}(h:∀ σ,K σ->K' σ)(hh:xp P T al c7 i K σ):xp P T al c7 i K' σ:=
 let ⟨o,ab,h1,h2,h3,h4⟩:=hh
 ⟨o,ab,h1,h2,h3,h _ h4⟩
theorem Mk{i:Nat}{o:Oper}{cw:i8}{ρ ρ':Operand->AV}{get:Nat->Option aS}(h:∀x∈o.op.operands,ρ x=ρ' x):jA P T i o cw ρ get=jA P T i o cw ρ' get:=by
 have hop:=QX (T:=T) (i:=i) (cw:=cw) (get:=get) h;unfold jA;split
 ·exact Yq h
 ·exact aaI h
 ·obtain⟨dst,op,ty,ao,after,guard⟩:=o;simp only at h ⊢;split
  ·rename_i f args cQ;simp only[Op.operands,Call.operands]at h;have h1:args.toList.map ρ=args.toList.map ρ':=map_congr_left λx hx=>h x (by simp;exact .inr (by simpa using hx));rw[h1,h f (by simp)]
  ·exact hop
theorem Zr{i:Nat}{σ:St}{ab:Out×Option Bool}(h:opAt P T al c7 i σ=some ab):∀p∈ab.1.upd,GJ i p.1=true\/p.1∈(c7 i).wr:=by
 unfold opAt at h;cases ho:al[i]? with
 |none=>simp[ho]at h
 |some o=>
  simp only[ho,af]at h;cases hw:want al o σ.env σ.ok with
  |none=>simp[hw]at h
  |some g=>
   simp only[hw,af]at h;split at h
   ·cases ha:jA P T i o (c7 i).cw (lp σ.env) (dH (c7 i).rd σ.obj)with
    |none=>simp[ha]at h
    |some out'=>
     simp only[ha,af]at h;split at h
     ·cases h;simp
     ·cases h
   ·split at h
    ·cases ha:jA P T i o (c7 i).cw (lp σ.env) (dH (c7 i).rd σ.obj)with
     |none=>simp[ha]at h
     |some out'=>
      simp only[ha,af]at h;split at h
      ·rename_i hall;cases h;intro p hp;have:=all_eq_true.1 hall p hp;simpa using this
      ·cases h
    ·cases h;simp
theorem uO{obj:Nat->Option aS}:∀(upd:List (Nat×Option aS))(k:Nat),(∀ p∈upd,p.1≠k)->cK obj upd k=obj k
 |[],_,_=>rfl
 |(j,o)::r,k,h=>by
  simp only[cK];rw[aQ (λ e=>h (j,o) (by simp) e.symm),uO r k (λ p hp=>h p (by simp[hp]))]
theorem Dv{obj oa:Nat->Option aS}:∀(upd:List (Nat×Option aS))(k:Nat),obj k=oa k->cK obj upd k=cK oa upd k
 |[],_,h=>h
 |(j,o)::r,k,h=>by simp only[cK,Dv r k h]
theorem acN{env env':Nat->AV}{ok ok':Nat->Option Bool}{o:Op}(h:∀t,.tmp t∈o.operands->env t=env' t/\ok t=ok' t):needs env ok o=needs env' ok' o:=by
 have h1:∀x∈o.operands,wY ok x=wY ok' x:=λx hx=>by
  cases x with
  |tmp t=>simp only[wY,(h t hx).2]
  |_=>rfl
 unfold needs;split
 ·rename_i c a b;have hc:lp env c=lp env' c:=by
   cases c with
   |tmp t=>exact(h t (by simp[Op.operands])).1
   |_=>rfl
  rw[hc,h1 c (by simp[Op.operands]),h1 a (by simp[Op.operands]),h1 b (by simp[Op.operands])]
 ·have:∀l:List Operand,(∀ x∈l,wY ok x=wY ok' x)->l.flatMap (wY ok)=l.flatMap (wY ok'):=by
   intro l
   induction l with
   |nil=>intro _;rfl
   |cons x xs ih=>intro hx;simp only[List.flatMap_cons,hx x (by simp),ih (λ y hy=>hx y (by simp[hy]))]
  exact this _ λx hx=>h1 x (by simpa using hx)
theorem acO{j:Nat}{oi oj:Oper}{ab:Out×Option Bool}{σ:St}(hj:al[j]? =some oj)(hd:∀d,oi.dst=some d->d∉oj.looksAt al)(hk:∀p∈ab.1.upd,p.1∉(c7 j).rd):
 opAt P T al c7 j (σ.app oi.dst ab)=opAt P T al c7 j σ:=by
 unfold opAt;simp only[hj,af];have q6:∀t,t∈oj.looksAt al->(σ.app oi.dst ab).env t=σ.env t:=λt ht=>by
  simp only[St.app,Aw];rw[aQ (λ e=>hd t e ht)]
 have Hx:∀t,t∈oj.looksAt al->(σ.app oi.dst ab).ok t=σ.ok t:=λt ht=>by
  simp only[St.app,Aw];rw[aQ (λ e=>hd t e ht)]
 have hw:want al oj (σ.app oi.dst ab).env (σ.app oi.dst ab).ok=want al oj σ.env σ.ok:=by
  unfold want;cases hg:oj.guard with
  |none=>rfl
  |some gw=>
   obtain⟨g,b⟩:=gw;cases ht:(al[g]?).bind (·.dst)with
   |none=>simp only[ht]
   |some t=>simp only[ht,q6 t (by simp[Oper.looksAt,hg,ht]),Hx t (by simp[Oper.looksAt,hg,ht])]
 have hget:dH (c7 j).rd (σ.app oi.dst ab).obj=dH (c7 j).rd σ.obj:=by
  funext k;simp only[dH];split
  ·rename_i hkr;exact uO _ _ (λ p hp e=>hk p hp (e ▸ hkr))
  ·rfl
 have hin:∀t,.tmp t∈oj.op.operands->t∈oj.looksAt al:=λt ht=>by simp only[Oper.looksAt];exact List.mem_append_left _ (List.mem_filterMap.2 ⟨.tmp t,by simpa using ht,rfl⟩)
 have hρ:jA P T j oj (c7 j).cw (lp (σ.app oi.dst ab).env) (dH (c7 j).rd σ.obj)=jA P T j oj (c7 j).cw (lp σ.env) (dH (c7 j).rd σ.obj):=by
  refine Mk λx hx=>?_;cases x with
  |tmp t=>exact q6 t (hin t hx)
  |_=>rfl
 have hnd:needs (σ.app oi.dst ab).env (σ.app oi.dst ab).ok oj.op=needs σ.env σ.ok oj.op:=acN λt ht=>⟨q6 t (hin t ht),Hx t (hin t ht)⟩;rw[hw,hget,hρ,hnd]
theorem akf{σ:St}{di dj:Option Tmp}{a b:Out×Option Bool}(hd:∀d,di=some d->dj≠some d)(hk:∀p∈a.1.upd,∀q∈b.1.upd,p.1≠q.1):(σ.app di a).app dj b=(σ.app dj b).app di a:=by
 have slot:∀{α:Type} (e:Nat->α) (x y:α),Aw (Aw e di x) dj y=Aw (Aw e dj y) di x:=λe x y=>by
  funext t;simp only[Aw];by_cases h1:dj=some t
  ·rw[aX h1,aQ (λ e=>hd t e h1),aX h1]
  ·rw[aQ h1,aQ h1]
 simp only[St.app,St.mk.injEq];refine⟨slot _ _ _,?_,slot _ _ _⟩;funext k;by_cases h1:∃p∈a.1.upd,p.1=k
 ·obtain⟨p,hp,e⟩:=h1;rw[uO b.1.upd k (λ q hq e2=>hk p hp q hq (e.trans e2.symm))];exact Dv _ _ (uO b.1.upd k (λ q hq e2=>hk p hp q hq (e.trans e2.symm))).symm
 ·have h2:∀p∈a.1.upd,p.1≠k:=λp hp e=>h1 ⟨p,hp,e⟩;rw[uO a.1.upd k h2];exact Dv _ _ (uO a.1.upd k h2)
theorem amk{i j:Nat}{oi oj:Oper}{ab:Out×Option Bool}{σ:St}{K:St->Prop}(hi:al[i]? =some oi)(hj:al[j]? =some oj)(hap:oi.apart al oj=true)(hfp:xq c7 i j=true)
 (hy:opAt P T al c7 i σ=some ab) (h:xp P T al c7 j K (σ.app oi.dst ab)):
 xp P T al c7 j (λ σ'=>opAt P T al c7 i σ'=some ab/\K (σ'.app oi.dst ab)) σ:=by
 obtain⟨a1,a2,a3⟩:=Oper.apart_spec hap;simp only[xq,aL]at hfp;obtain⟨⟨f1,⟨f0,f2⟩,f2'⟩,f3⟩:=hfp;have hij:i≠j:=by intro e;subst e;rw[show Nat.beq i i=true from Nat.beq_refl i]at f0;cases f0
 have ki:=Zr hy;have no:∀(a:Nat)(l wr:List Nat)(k:Nat),(l.all λk=>!GJ a k&&!wr.contains k)=true->(GJ a k=true\/k∈wr)->k∈l->False:=by
  intro a l wr k h hk hl;have:=all_eq_true.1 h k hl;simp only[aL,Bool.not_eq_true']at this;rcases hk with hk |hk
  ·rw[hk]at this;exact absurd this.1 (by simp)
  ·have h2:=this.2;simp[hk]at h2
 obtain⟨o,PR,g1,g2,g3,g4⟩:=h;rw[hj]at g1;cases g1;rw[acO hj a1 (λ p hp hr=>no _ _ _ _ f1 (ki p hp) hr)]at g2;have kj:=Zr g2;have both:∀k,(GJ i k=true\/k∈(c7 i).wr)->(GJ j k=true\/k∈(c7 j).wr)->False:=by
  intro k h1 h2;rcases h2 with h2 |h2
  ·rcases h1 with h1 |h1
   ·simp only[GJ,aL,beq_iff_eq]at h1 h2;exact hij (h1.2.symm.trans h2.2)
   ·have:=all_eq_true.1 f2' k h1;rw[h2]at this;exact absurd this (by simp)
  ·exact no _ _ _ _ f2 h1 h2
 refine⟨oj,PR,hj,g2,g3,?_,?_⟩
 ·rw[acO hi a3 (λ p hp hr=>no _ _ _ _ f3 (kj p hp) hr)];exact hy
 ·rw[<- akf a2 (λ p hp q hq e=>both p.1 (ki p hp) (e ▸ kj q hq))];exact g4
theorem acP{i:Nat}:∀d∈Pb md al i,∃od,al[d]? =some od/\∃e∈od.after,Region.binds md e=true/\(e.on=i\/e.on∈Pb md al i):=by
 have main:∀(l:List Nat)(D0:List Nat),(∀ d∈D0,∃od,al[d]? =some od/\∃e∈od.after,Region.binds md e=true/\(e.on=i\/e.on∈D0))->
  ∀d∈l.foldl (λ D j=>match al[j]? with
   |some oj=>bif oj.after.any (λ e=>Region.binds md e&&(e.on==i || D.contains e.on))then j::D else D
   |none=>D) D0,∃od,al[d]? =some od/\∃e∈od.after,Region.binds md e=true/\(e.on=i\/e.on∈l.foldl (λ D j=>match al[j]? with
   |some oj=>bif oj.after.any (λ e=>Region.binds md e&&(e.on==i || D.contains e.on))then j::D else D
   |none=>D) D0):=by
  intro l
  induction l with
  |nil=>intro D0 h;exact h
  |cons j l ih=>
   intro D0 h;simp only[List.foldl_cons];refine ih _ ?_;cases hj:al[j]? with
   |none=>exact h
   |some oj=>
    simp only;cases hb:oj.after.any (λ e=>Region.binds md e&&(e.on==i || D0.contains e.on))with
    |false=>simp only[ak];exact h
    |true=>
     simp only[aj];intro d hd;rcases aN.1 hd with rfl |hd
     ·obtain⟨e,he,hb'⟩:=Array.any_eq_true'.1 hb;simp only[aL,Bool.or_eq_true,beq_iff_eq,List.contains_iff_mem]at hb';exact⟨oj,hj,e,he,hb'.1,hb'.2.imp id λh=>eG _ h⟩
     ·have⟨od,g1,e,g2,g3,g4⟩:=h d hd;exact⟨od,g1,e,g2,g3,g4.imp id λh=>eG _ h⟩
 exact main _ [] (λ d hd=>by simp at hd)
theorem Q7{i:Nat}{oi:Oper}{listed:Array Bool}(hi:al[i]? =some oi)(h:Pd md al c7 listed i=true)(j:Nat)(oj:Oper)(hj:al[j]? =some oj)(hne:j≠i)(hun:listed.getD j true=false)
 (hno:∀e∈oj.after,Region.binds md e=true->e.on≠i):(oi.apart al oj=true/\xq c7 i j=true)\/M2 md al listed i j=true:=by
 simp only[Pd,hi,all_eq_true,List.mem_range]at h;have h1:=h j (Array.getElem?_eq_some_iff.1 hj).1;simp only[hj,Bool.or_eq_true,beq_iff_eq,hne,false_or,hun,Bool.false_eq_true,aL]at h1;rcases h1 with (h1 |h1) |h1
 ·obtain⟨e,he,hb⟩:=Array.any_eq_true'.1 h1;simp only[aL,beq_iff_eq]at hb;exact absurd hb.2 (hno e he hb.1)
 ·exact .inl h1
 ·exact .inr h1
theorem Vd{i:Nat}{oi:Oper}{ab:Out×Option Bool}(D:List Nat)(hi:al[i]? =some oi)(hD:∀d∈D,∃od,al[d]? =some od/\∃e∈od.after,Region.binds md e=true/\(e.on=i\/e.on∈D)):
 ∀(fuel:Nat) (listed:Array Bool) (σ:St),(∀ d∈D,listed.getD d true=false)->
  (∀ j oj,al[j]? =some oj->j≠i->listed.getD j true=false->j∉D->(∀ e∈oj.after,Region.binds md e=true->e.on≠i)->oi.apart al oj=true/\xq c7 i j=true)->
  i∈Region.ready md al listed->opAt P T al c7 i σ=some ab->ab.1.ob->
  DE P T al c7 md Q fuel (listed.setIfInBounds i true) (σ.app oi.dst ab)->DE P T al c7 md Q (fuel+1) listed σ:=by
 intro fuel
 induction fuel with
 |zero=>
  intro listed σ _ _ hr hy cM H;refine⟨λ h=>(by rw[h]at hr;cases hr),λj hj=>?_⟩;by_cases hji:j=i
  ·subst hji;exact⟨oi,ab,hi,hy,cM,H⟩
  ·have:=ready_mono hj hji;rw[H.1]at this;cases this
 |succ fuel ih=>
  intro listed σ hDu hfree hr hy cM H;refine⟨λ h=>(by rw[h]at hr;cases hr),λj hj=>?_⟩;by_cases hji:j=i
  ·subst hji;exact⟨oi,ab,hi,hy,cM,H⟩
  ·have h1:=H.2 j (ready_mono hj hji);obtain⟨hjun,oj,hoj,hall⟩:=mem_ready.1 hj;have hnl:∀k,listed.getD k true=false->∀e∈oj.after,Region.binds md e=true->e.on≠k:=λk h0 e he hb heq=>by
    have h1:=hall e he hb;rw[heq]at h1;rcases Nat.lt_or_ge k listed.size with h' |h'
    ·simp[h']at h0 h1;rw[h0]at h1;cases h1
    ·simp[Array.getElem?_eq_none h']at h1
   have hnot:∀e∈oj.after,Region.binds md e=true->e.on≠i:=hnl i (mem_ready.1 hr).1;have Lz:j∉D:=λhm=>by
    have⟨od,g1,e,g2,g3,g4⟩:=hD j hm;rw[hoj]at g1;cases g1;rcases g4 with g4 |g4
    ·exact hnot e g2 g3 g4
    ·exact hnl _ (hDu _ g4) e g2 g3 rfl
   have⟨hap,hfp⟩:=hfree j oj hoj hji hjun Lz hnot;have h2:=amk hi hoj hap hfp hy h1
   have hfree':∀k ok,al[k]? =some ok->k≠i->(listed.setIfInBounds j true).getD k true=false->k∉D->
    (∀ e∈ok.after,Region.binds md e=true->e.on≠i)->oi.apart al ok=true/\xq c7 i k=true:=λk ok hk hki hun hkD hno=>by
    refine hfree k ok hk hki ?_ hkD hno;by_cases hjk:j=k
    ·subst hjk;exact hjun
    ·rw[getD_set_ne true hjk]at hun;exact hun
   have Th:∀d∈D,(listed.setIfInBounds j true).getD d true=false:=λd hd=>by
    have hne:j≠d:=λe=>Lz (by rw[e];exact hd);rw[getD_set_ne true hne];exact hDu d hd
   refine ake (λ σ' h3=>ih (listed.setIfInBounds j true) σ' Th hfree' (ready_mono hr (Ne.symm hji)) h3.1 cM ?_) h2;rw[Array.setIfInBounds_comm _ _ hji];exact h3.2
theorem acQ:∀(n k:Nat) (listed:Array Bool) (σ:St),lexFrom' md al c7 n k listed=true->R6 P T al c7 Q ((List.range n).map (k+ ·)) σ->DE P T al c7 md Q n listed σ
 | 0,k,listed,σ,hB,h=>⟨by simpa[lexFrom']using hB,by simpa[R6]using h⟩
 |n+1,k,listed,σ,hB,h=>by
  simp only[lexFrom',aL]at hB;obtain⟨⟨hr,hfp⟩,hB'⟩:=hB;rw[List.range_succ_eq_map,aF,List.map_map]at h;simp only[R6,Nat.add_zero]at h;obtain⟨o,ab,h1,h2,h3,h4⟩:=h;have fin:DE P T al c7 md Q n (listed.setIfInBounds k true) (σ.app o.dst ab)->DE P T al c7 md Q (n+1) listed σ:=by
   intro H;cases hd:(Pb md al k).all λd=>!listed.getD d true with
   |true=>
    refine Vd (Pb md al k) h1 acP n listed σ (λ d hd'=>by simpa using all_eq_true.1 hd d hd') (λ j oj hj hne hun Lz hno=>?_) (by simpa using hr) h2 h3 H;rcases Q7 h1 hfp j oj hj hne hun hno with h |h
    ·exact h
    ·simp only[M2,aL,List.contains_iff_mem]at h;exact absurd h.1 Lz
   |false=>
    refine Vd [] h1 (λ d hd'=>by simp at hd') n listed σ (λ d hd'=>by simp at hd') (λ j oj hj hne hun _ hno=>?_) (by simpa using hr) h2 h3 H;rcases Q7 h1 hfp j oj hj hne hun hno with h |h
    ·exact h
    ·simp only[M2,aL]at h;rw[h.2]at hd;cases hd
  refine fin ?_;refine acQ n (k+1) _ _ hB' ?_;have e:(λ x=>k+x)∘Nat.succ=λx=>k+1+x:=by funext x;simp only[Function.comp];omega
  rw[e]at h4;exact h4
end
def eJ(P:Program)(β:Nat->Option cL)(w:World)(I:Nat->Prop)(x:AV)(ok:Option Bool)(v:Value):Prop:=
 match ok with
 |none=>VR P β w I x v
 |some b=>(b=true->VR P β w I x v)/\(b=false->v=undef)
theorem eJ.mono{P:Program}{β β':Nat->Option cL}{w w':World}{I I':Nat->Prop}(hb:∀k B,β k=some B->β' k=some B)(hs:Same I w w')(hi:∀b,I b->I' b){x:AV}{ok:Option Bool}{v:Value}(h:eJ P β w I x ok v):eJ P β' w' I' x ok v:=by
 cases ok with
 |none=>exact VR.mono hb hs hi _ _ h
 |some b=>exact⟨λ hh=>VR.mono hb hs hi _ _ (h.1 hh),h.2⟩
structure Rel(P:Program)(w0:World)(O0:j8)(N:Nat)(β:Nat->Option cL)(I:Nat->Prop)(σ:St)(a:Act)(w:World):Prop where
 defers:a.defers=[]
 size:a.tmps.size=N
 env:∀t,eJ P β w I (σ.env t) (σ.ok t) (a.tmps.getD t undef)
 mem:Mem P w0 O0 β I σ.obj w
section
variable {P:Program} {T:ea} {w0:World} {O0:j8} {N:Nat} {β:Nat->Option cL} {I:Nat->Prop} {σ:St} {a:Act} {w:World} {al:Array Oper} {c7:Nat->mS}
def Fr(un:Nat->Prop)(β:Nat->Option cL):Prop:=∀i k,un i->ij (cJ i) k->β k=none
theorem aaR(hgv:i7 w I){x:Operand}(h:∀t,x= .tmp t->VR P β w I (σ.env t) (a.tmps.getD t undef)):VR P β w I (lp σ.env x) (a.eval x):=by
 cases x with
 |tmp t=>exact h t rfl
 |const v=>exact VR.cv
 |global g=>
  simp only[lp];split
  ·rename_i row hg;simp only[VR,Act.eval];exact⟨g,0,rfl,(hgv.1 g row hg).1,(hgv.1 g row hg).2⟩
  ·simp[VR]
 |func f=>simp only[lp,VR,Act.eval];exact⟨#[],#[],rfl,by simp[aE],by simp[aE]⟩
theorem zO(hr:Rel P w0 O0 N β I σ a w){x:Operand}(h:∀p∈wY σ.ok x,p):VR P β w I (lp σ.env x) (a.eval x):=by
 refine aaR hr.mem.vars λt hx=>?_;subst hx;have h1:=hr.env t;simp only[wY]at h;cases hk:σ.ok t with
 |none=>rw[hk]at h1;exact h1
 |some b=>rw[hk]at h1 h;exact h1.1 (h _ (by simp))
theorem afp(hT:eY P T){i:Nat}{o:Oper}{cw:i8}{rd:List Nat}{ab:Out}(hr:Rel P w0 O0 N β I σ a w)(hn:∀k,ij (cJ i) k->β k=none)(ha:jA P T i o cw (lp σ.env) (dH rd σ.obj)=some ab)
 (cM:ab.ob) (hnd:∀p∈needs σ.env σ.ok o.op,p):sk P w0 O0 β I σ.obj w i ab ((execOp a.eval o).run P w)\/zN P w0 O0 β I σ.obj w i ab ((execOp a.eval o).run P w):=by
 have hg:∀k ob,dH rd σ.obj k=some ob->σ.obj k=some ob:=λk ob hk=>by
  simp only[dH]at hk;split at hk
  ·exact hk
  ·cases hk
 by_cases hp:∃c x y,o.op= .pick c x y
 ·obtain⟨c,x,y,he⟩:=hp;obtain⟨dst,op,ty,ao,after,guard⟩:=o;simp only at he;subst he;have ha:pU T i ⟨dst,.pick c x y,ty,ao,after,guard⟩ cw (lp σ.env) (dH rd σ.obj)=some ab:=by
   unfold jA at ha;split at ha
   ·cases ha
   ·cases ha
   ·exact ha
  simp only[pU]at ha;simp only[needs]at hnd;split at ha
  ·rename_i t hc;rw[hc]at hnd;simp only[pv,aA]at ha;subst ha;have h1:=zO hr (x:=c) (λ p hp=>hnd p (by simp[hp]));rw[hc]at h1;simp only[VR,TR]at h1;refine .inl ⟨if t then a.eval x else a.eval y,w,β,I,.inl ?_,Step.refl ..,hr.mem,?_⟩
   ·simp only[execOp,h1.1,asBool];simp
   ·rw[UI];cases t
    ·exact zO hr λp hp=>hnd (false=false->p) (by simp only[bf,mem_map];exact .inr (.inr ⟨p,hp,rfl⟩)) rfl
    ·exact zO hr λp hp=>hnd (true=true->p) (by simp only[bf,mem_map];exact .inr (.inl ⟨p,hp,rfl⟩)) rfl
  ·cases ha
 ·have hnd':∀x∈o.op.operands,∀p∈wY σ.ok x,p:=λx hx p hp'=>hnd p (by
   unfold needs;split
   ·rename_i c x y he;exact absurd ⟨c,x,y,he⟩ hp
   ·exact List.mem_flatMap.2 ⟨x,by simpa using hx,hp'⟩)
  have hρ:∀x,VR P β w I ((λ x=>open Classical in if x∈o.op.operands then lp σ.env x else .undef) x) (a.eval x):=λx=>by
   by_cases hx:x∈o.op.operands
   ·simp only[hx,if_true];exact zO hr (hnd' x hx)
   ·simp only[hx,if_false,VR]
  rw[Mk (ρ':=λx=>open Classical in if x∈o.op.operands then lp σ.env x else .undef) (λ x hx=>by simp only[hx,if_true])]at ha;generalize (λ x=>open Classical in if x∈o.op.operands then lp σ.env x else AV.undef)=ρ at ha hρ;unfold jA at ha;split at ha
  ·exact .inl (Yu hT hr.mem (hn _ (.inl rfl)) hg hρ ha cM)
  ·exact .inl (aaL hT hr.mem (hn _ (.inl rfl)) hg hρ ha cM)
  ·split at ha
   ·rename_i f args cQ heq;obtain⟨dst,op,ty,ao,after,guard⟩:=o;simp only at heq;subst heq;exact .inr (Vb hr.mem hn hg ha cM (hρ f) (by rw[Array.toList_map];exact aE.map hρ _) rfl rfl)
   ·exact .inl (QV hT hr.mem (hn _ (.inl rfl)) hg hρ ha cM)
theorem ait(hr:Rel P w0 O0 N β I σ a w){o:Oper}{b:Bool}(hb:want al o σ.env σ.ok=some b):Region.wanted o (yielded al a.tmps)=b:=by
 unfold want at hb;unfold Region.wanted;cases hg:o.guard with
 |none=>simp only[hg,aA]at hb ⊢;exact hb
 |some gw=>
  obtain⟨g,bw⟩:=gw;simp only[hg]at hb ⊢;unfold yielded;cases ht:(al[g]?).bind (·.dst)with
  |none=>simp[ht]at hb
  |some t=>
   simp only[ht]at hb;have he:=hr.env t;have val:∀v:Bool,a.tmps.getD t undef= .bool v->a.tmps[t]? =some (.bool v):=λv hv=>by
    cases hh:a.tmps[t]? with
    |none=>simp[hh,undef]at hv
    |some u=>simp[hh]at hv;rw[hv]
   split at hb
   ·rename_i v e1 e2;rw[e1,e2]at he;simp only[eJ,VR,TR]at he;cases hb;simp only[af,val v he.1];cases v<;>cases bw<;>rfl
   ·rename_i v q e1 e2;rw[e1,e2]at he;simp only[eJ,VR,TR]at he;cases hb;cases q with
    |true=>
     simp only[af,val v (he.1 rfl).1];cases v<;>cases bw<;>rfl
    |false=>
     have h0:=he.2 rfl;simp only[af];cases hh:a.tmps[t]? with
     |none=>simp
     |some u=>simp[hh,undef]at h0;subst h0;simp
   ·rename_i e1 e2;rw[e1,e2]at he;cases hb;have h0:=he.2 rfl;simp only[af];cases hh:a.tmps[t]? with
    |none=>simp
    |some u=>simp[hh,undef]at h0;subst h0;simp
   ·cases hb
theorem Ml:∀(l:List Prop),jl l->∀p∈l,p
 |[],_,_,hp=>by simp at hp
 |[q],h,p,hp=>by rw[aW]at hp;rw[hp];exact h
 |q::r::l,h,p,hp=>by
  rcases aN.1 hp with e |hp
  ·rw[e];exact h.1
  ·exact Ml (r::l) h.2 p hp
theorem Q8(hT:eY P T){i:Nat}{K:St->Prop}{Q:Exit->Act->World->Prop}{K':Act->World->Prop}{un:Nat->Prop}(hd:∀(j:Nat)(o:Oper)(d:Tmp),al[j]? =some o->o.dst=some d->d<N)
 (hr:Rel P w0 O0 N β I σ a w) (hf:Fr un β) (hi:un i)
 (hK:∀ σ' a' w' β' I',Rel P w0 O0 N β' I' σ' a' w'->Fr (λ j=>un j/\j≠i) β'->K σ'->K' a' w') (h:xp P T al c7 i K σ):wpOp P al Q i K' a w:=by
 obtain⟨o,⟨ab,PT⟩,h1,h2,h3,h4⟩:=h;have put:∀(v':Value) (w':World) (β':Nat->Option cL) (I':Nat->Prop),Step β I w (cJ i) β' I' w'->Mem P w0 O0 β' I' (cK σ.obj ab.upd) w'->eJ P β' w' I' ab.v PT v'->K' (a.put o.dst v') w':=by
  intro v' w' β' I' k1 k2 k3;refine hK (σ.app o.dst (ab,PT)) _ w' β' I' ⟨?_,?_,?_,k2⟩ ?_ h4
  ·cases hdst:o.dst<;>simp[Act.put,hr.defers]
  ·cases hdst:o.dst<;>simp[Act.put,hr.size]
  ·intro t;have hold:=eJ.mono k1.ext k1.same k1.inc (hr.env t);simp only[St.app,Aw];cases hdst:o.dst with
   |none=>simpa[Act.put]using hold
   |some d=>
    simp only[Act.put,aA];by_cases hdt:d=t
    ·subst hdt;rw[aX rfl,aX rfl];have hlt:d<a.tmps.size:=Nat.lt_of_lt_of_eq (hd i o d h1 hdst) hr.size.symm;have e:(a.tmps.setIfInBounds d v').getD d undef=v':=(by simp[hlt]);rw[e];exact k3
    ·rw[aQ hdt,aQ hdt];simpa[Array.getElem?_setIfInBounds_ne hdt]using hold
  ·intro j k hj hk;rw[k1.other k (by have:=hj.2;simp only[ij,cJ]at hk ⊢;omega)];exact hf j k hj.1 hk
 unfold opAt at h2;simp only[h1,af]at h2;unfold wpOp;simp only[h1];have hn:=λk=>hf i k hi;cases hw:want al o σ.env σ.ok with
 |none=>simp[hw]at h2
 |some g=>
  simp only[hw,af]at h2;rw[ait hr hw]
  have run:∀(out':Out),jA P T i o (c7 i).cw (lp σ.env) (dH (c7 i).rd σ.obj)=some out'->(∀ p∈needs σ.env σ.ok o.op++out'.obs,p)->out'.v=ab.v->(out'.upd=ab.upd)->(∀ β' w' I' v',VR P β' w' I' ab.v v'->eJ P β' w' I' ab.v PT v')->
   o.wp P a w K' Q:=by
   intro out' ha cM e1 e2 sd;have Tl:=afp hT hr hn ha (qK _ λp hp=>cM p (by simp[hp])) (λ p hp=>cM p (by simp[hp]));unfold Oper.wp;rcases Tl with ⟨v',w',β',I',hrun,k1,k2,k3⟩ |⟨F,args,hrun,BW⟩
   ·rw[e1]at k3;rw[e2]at k2;rcases hrun with hrun |⟨hrun,rfl⟩
    ·rw[hrun];exact put v' w' β' I' k1 k2 (sd _ _ _ _ k3)
    ·rw[hrun];exact put _ w' β' I' k1 k2 (sd _ _ _ _ k3)
   ·rw[hrun];refine BW.mono ?_;rintro e w' ⟨v',β',I',rfl,k1,k2,k3⟩;rw[e1]at k3;rw[e2]at k2;exact put v' w' β' I' k1 k2 (sd _ _ _ _ k3)
  split at h2
  ·cases ha:jA P T i o (c7 i).cw (lp σ.env) (dH (c7 i).rd σ.obj)with
   |none=>simp[ha]at h2
   |some out'=>
    simp only[ha,af]at h2;split at h2
    ·rename_i hem;simp only[aA,Prod.mk.injEq]at h2;obtain⟨rfl,rfl⟩:=h2;have BE:out'.upd=[]:=(by simpa using hem);have h3:=Ml _ h3;cases g with
     |true=>
      simp only[if_true];refine .inl (run out' ha (λ p hp=>h3 (true=true->p) (mem_map.2 ⟨p,hp,rfl⟩) rfl) rfl BE λ_ _ _ _ hv=>⟨λ _=>hv,λh=>by cases h⟩)
     |false=>
      simp only[Bool.false_eq_true,if_false];exact put _ w β I (Step.refl ..) hr.mem ⟨λ h=>(by cases h),λ_=>rfl⟩
    ·cases h2
  ·split at h2
   ·cases ha:jA P T i o (c7 i).cw (lp σ.env) (dH (c7 i).rd σ.obj)with
    |none=>simp[ha]at h2
    |some out'=>
     simp only[ha,af]at h2;split at h2
     ·simp only[aA,Prod.mk.injEq]at h2;obtain⟨rfl,rfl⟩:=h2;simp only[if_true];exact .inl (run out' ha (Ml _ h3) rfl rfl λ_ _ _ _ hv=>hv)
     ·cases h2
   ·simp only[aA,Prod.mk.injEq]at h2;obtain⟨rfl,rfl⟩:=h2;simp only[Bool.false_eq_true,if_false];exact put _ w β I (Step.refl ..) hr.mem ⟨λ h=>(by cases h),λ_=>rfl⟩
theorem Ki(hT:eY P T){md:Region.Mode}{Q:St->Prop}{Q':Exit->Act->World->Prop}(hd:∀(j:Nat)(o:Oper)(d:Tmp),al[j]? =some o->o.dst=some d->d<N)
 (hQ:∀ σ a w β I,Rel P w0 O0 N β I σ a w->Q σ->Q' .normal a w):∀(fuel:Nat) (listed:Array Bool) (σ:St) (a:Act) (w:World) (β:Nat->Option cL) (I:Nat->Prop),Rel P w0 O0 N β I σ a w->
  Fr (λ j=>listed.getD j true=false) β->DE P T al c7 md Q fuel listed σ->wpAny P md al Q' fuel listed a w
 | 0,_,_,_,_,_,_,hr,_,h=>⟨h.1,hQ _ _ _ _ _ hr h.2⟩
 |fuel+1,listed,σ,a,w,β,I,hr,hf,h=>by
  refine⟨λ h0=>hQ _ _ _ _ _ hr (h.1 h0),λi hi=>?_⟩;have hun:listed.getD i true=false:=(mem_ready.1 hi).1;refine Q8 hT hd hr hf hun (λ σ' a' w' β' I' hr' hf' hK=>?_) (h.2 i hi);refine Ki hT hd hQ fuel _ σ' a' w' β' I' hr' (λ j k hj hk=>hf' j k ?_ hk) hK;have hj:(listed.setIfInBounds i true).getD j true=false:=hj;by_cases hji:i=j
  ·subst hji;rcases Nat.lt_or_ge i listed.size with h1 |h1
   ·simp[h1]at hj
   ·simp[Array.getElem?_eq_none h1]at hun
  ·rw[getD_set_ne true hji]at hj;exact⟨hj,λe=>hji e.symm⟩
theorem Kj(hT:eY P T){Q:St->Prop}{Q':Exit->Act->World->Prop}(hd:∀(j:Nat)(o:Oper)(d:Tmp),al[j]? =some o->o.dst=some d->d<N)
 (hQ:∀ σ a w β I,Rel P w0 O0 N β I σ a w->Q σ->Q' .normal a w):∀(l:List Nat) (σ:St) (a:Act) (w:World) (β:Nat->Option cL) (I:Nat->Prop),l.Nodup->Rel P w0 O0 N β I σ a w->
  Fr (λ j=>j∈l) β->R6 P T al c7 Q l σ->wpOps P al Q' l a w
 |[],_,_,_,_,_,_,hr,_,h=>hQ _ _ _ _ _ hr h
 |i::l,σ,a,w,β,I,hn,hr,hf,h=>by
  rw[wpOps_cons];refine Q8 hT hd hr hf (by simp) (λ σ' a' w' β' I' hr' hf' hK=>?_) h;refine Kj hT hd hQ l σ' a' w' β' I' (List.nodup_cons.1 hn).2 hr' (λ j k hj hk=>hf' j k ⟨by simp[hj],λe=>?_⟩ hk) hK;subst e;exact(List.nodup_cons.1 hn).1 hj
def Pl(N:Nat)(al:Array Oper):Bool:=al.all λo=>match o.dst with |some d=>decide (d<N) |none=>true
theorem Q9(h:Pl N al=true)(j:Nat)(o:Oper)(d:Tmp)(hj:al[j]? =some o)(hd:o.dst=some d):d<N:=by
 have:=Array.all_eq_true_iff_forall_mem.1 h o (Array.mem_of_getElem? hj);simpa[hd]using this
structure tD(σ:St):Prop where
 env:∀t k,k∈refs (σ.env t)->k<1000000
 obj:∀k o,σ.obj k=some o->k<1000000/\∀r∈o.rows,∀x∈r,∀j∈refs x,j<1000000
mutual
theorem VR.restrict{β':Nat->Option cL}(h:∀k,k<1000000->β' k=β k):∀(x:AV)(v:Value),(∀ k∈refs x,k<1000000)->VR P β w I x v->VR P β' w I x v
 | .t _,_,_,hv=>by simpa[VR]using hv
 | .agg cs,_,hk,hv=>by
  simp only[VR]at hv ⊢;obtain⟨vs,h1,h2⟩:=hv;exact⟨vs,h1,aE.restrict h cs _ (by simpa[refs]using hk) h2⟩
 | .eC cs,_,hk,hv=>by
  simp only[VR]at hv ⊢;obtain⟨vs,h1,h2⟩:=hv;exact⟨vs,h1,aE.restrict h cs _ (by simpa[refs]using hk) h2⟩
 | .own k _ _,_,hk,hv=>by simp only[VR,h k (hk k (by simp[refs]))]at hv ⊢;exact hv
 | .ptr k _ _,_,hk,hv=>by simp only[VR,h k (hk k (by simp[refs]))]at hv ⊢;exact hv
 | .eo _ _,_,_,hv=>by simpa[VR]using hv
 | .fn f first caps,_,hk,hv=>by
  simp only[VR]at hv ⊢;obtain⟨fs,cs,h1,h2,h3⟩:=hv;exact⟨fs,cs,h1,aE.restrict h first _ (λ k hk'=>hk k (by simp[refs,hk'])) h2,aE.restrict h caps _ (λ k hk'=>hk k (by simp[refs,hk'])) h3⟩
 | .d7 _,_,_,hv=>by simpa[VR]using hv
 | .mp k,_,hk,hv=>by simp only[VR,h k (hk k (by simp[refs]))]at hv ⊢;exact hv
 | .oz k _,_,hk,hv=>by simp only[VR,h k (hk k (by simp[refs]))]at hv ⊢;exact hv
 | .cV,_,_,hv=>by simpa[VR]using hv
 | .ub,_,_,hv=>by simpa[VR]using hv
 | .undef,_,_,_=>by simp[VR]
theorem aE.restrict{β':Nat->Option cL}(h:∀k,k<1000000->β' k=β k):∀(xs:List AV)(vs:List Value),(∀ k∈eT xs,k<1000000)->aE P β w I xs vs->aE P β' w I xs vs
 |[],[],_,_=>by simp[aE]
 |x::xs,v::vs,hk,hv=>by
  simp only[aE]at hv ⊢;exact⟨VR.restrict h x v (λ k hk'=>hk k (by simp[eT,hk'])) hv.1,aE.restrict h xs vs (λ k hk'=>hk k (by simp[eT,hk'])) hv.2⟩
 |[],_::_,_,hv=>by simp[aE]at hv
 |_::_,[],_,hv=>by simp[aE]at hv
end
theorem Zt:∀{xs:List AV}{k:Nat},k∈eT xs->∃x∈xs,k∈refs x
 |[],_,h=>by simp[eT]at h
 |x::xs,k,h=>by
  simp only[eT,bf]at h;rcases h with h |h
  ·exact⟨x,by simp,h⟩
  ·have⟨y,h1,h2⟩:=Zt h;exact⟨y,by simp[h1],h2⟩
theorem Rel.restrict(ho:tD σ)(hr:Rel P w0 O0 N β I σ a w):Rel P w0 O0 N (λ k=>if k<1000000 then β k else none) I σ a w:=by
 have hb:∀k,k<1000000->(λ k=>if k<1000000 then β k else none) k=β k:=λk hk=>by simp[hk]
 have sd:∀t,eJ P (λ k=>if k<1000000 then β k else none) w I (σ.env t) (σ.ok t) (a.tmps.getD t undef):=λt=>by
  have h1:=hr.env t;cases hk:σ.ok t with
  |none=>rw[hk]at h1;exact VR.restrict hb _ _ (ho.env t) h1
  |some b=>rw[hk]at h1;exact⟨λ h=>VR.restrict hb _ _ (ho.env t) (h1.1 h),h1.2⟩
 refine⟨hr.defers,hr.size,sd,?_⟩;have hm:=hr.mem;constructor
 ·intro k o hk;have⟨B,hB,hO⟩:=hm.cE k o hk;have⟨h1,h2⟩:=ho.obj k o hk;refine⟨B,by simp only[h1,if_true];exact hB,?_⟩;cases B with
  |none=>exact hO
  | «at» b s n=>
   obtain⟨g1,c,e,g2,g3,g4⟩:=hO;refine⟨g1,c,e,g2,g3,?_⟩;rw[nX]at g4 ⊢;intro i r hir;have⟨q1,q2⟩:=g4 i r hir;refine⟨q1,?_⟩;rw[jq]at q2 ⊢;intro j x hx;have⟨v,p1,p2,p3⟩:=q2 j x hx;exact⟨v,p1,VR.restrict hb _ _ (h2 r (dh hir) x (dh hx)) p2,p3⟩
  |mp b=>
   obtain⟨es,cl,g1,gl,g2,g3⟩:=hO;refine⟨es,cl,g1,gl,λe=>co.tell rfl (λ j r q' a b vs hv=>?_) (g2 e),g3⟩;rw[a]at b;cases b;exact aE.restrict hb _ _ (λ k hk=>by
    have⟨x,hx,hk⟩:=Zt hk;exact h2 r (dh a) x hx k hk) hv
 ·intro k k' o o' B B' b h1 h2 h3 h4;simp only[(ho.obj k o h1).1,(ho.obj k' o' h2).1,if_true]at h3 h4;exact hm.gj k k' o o' B B' b h1 h2 h3 h4
 ·intro k o B b h1 h2;simp only[(ho.obj k o h1).1,if_true]at h2;exact hm.ownB k o B b h1 h2
 ·exact hm.lt
 ·exact hm.up
 ·exact hm.keep
 ·exact hm.le
 ·exact hm.os
 ·exact hm.tape
 ·exact hm.output
 ·intro j B hj;have:=O0.lt j B hj;show(if j<1000000 then β j else none)=some B;rw[aX (by omega)];exact hm.anch j B hj
 ·exact hm.vars
theorem Rel.drew(hr:Rel P w0 O0 N β I σ a w):Rel P w0 O0 N β I σ a w.drew:=
 ⟨hr.defers,hr.size,λt=>eJ.mono (w:=w) (w':=w.drew) (λ _ _ h=>h) (λ _ _=>rfl) (λ _ h=>h) (hr.env t),hr.mem.drew⟩
theorem aiu(hT:eY P T){id:Nat}{Q:St->Prop}(hd:Pl N al=true)(ho:tD σ)(h:R6 P T al c7 Q (List.range al.size) σ)(hr:Rel P w0 O0 N β I σ a w):
 (Code.region id al false).wp P (λ e a' w'=>∃ β' I' σ',Rel P w0 O0 N β' I' σ' a' w'/\e= .normal/\Q σ') a w:=by
 refine wp_region (Kj hT (Q9 hd) (Q:=Q) (λ σ a w β I hr hq=>⟨β,I,σ,hr,rfl,hq⟩) _ σ a w _ I List.nodup_range (hr.restrict ho) (λ j k _ hk=>?_) h);exact aQ (by simp only[ij,cJ]at hk;omega)
theorem Ve(hT:eY P T)(hm:P.follows .mixedOrders=true){id:Nat}{Q:St->Prop}(hd:Pl N al=true)(hB:M1 al c7=true)(ho:tD σ)(h:R6 P T al c7 Q (List.range al.size) σ)(hr:Rel P w0 O0 N β I σ a w):
 (Code.region id al true).wp P (λ e a' w'=>∃ β' I' σ',Rel P w0 O0 N β' I' σ' a' w'/\e= .normal/\Q σ') a w:=by
 refine wp_region_any hm (Ki hT (md:= .any) (c7:=c7) (Q9 hd) (Q:=Q) (λ σ a w β I hr hq=>⟨β,I,σ,hr,rfl,hq⟩) _ _ σ a _ _ I (hr.restrict ho).drew (λ j k _ hk=>?_) ?_)
 ·exact aQ (by simp only[ij,cJ]at hk;omega)
 ·refine acQ al.size 0 _ σ hB ?_;have e:(List.range al.size).map (λ x=>0+x)=List.range al.size:=by simp
  rw[e];exact h
end
def Ev(P:Program)(N:Nat)(c:Code)(Q:Exit->St->Prop)(σ:St):Prop:=
 ∀(w0:World) (O0:j8) (β:Nat->Option cL) (I:Nat->Prop) (a:Act) (w:World),Rel P w0 O0 N β I σ a w->tD σ->
  c.wp P (λ e a' w'=>∃ β' I' σ',Rel P w0 O0 N β' I' σ' a' w'/\tD σ'/\Q e σ') a w
def anL(K:St->Prop)(Q:Exit->St->Prop):Exit->St->Prop
 | .normal,σ=>K σ
 |e,σ=>Q e σ
def Zs(id:Nat)(Q:Exit->St->Prop):Exit->St->Prop
 | .exit j,σ=>if j=id then Q .normal σ else Q (.exit j) σ
 |e,σ=>Q e σ
theorem Zu{P:Program}{c:Code}{Q:Exit->Act->World->Prop}(J:Nat->Act->World->Prop)(h0:∀a w,¬J 0 a w)(round:∀n a w,J (n+1) a w->c.wp P (Exit.then (J n) Q) a w)(n:Nat)(a:Act)(w:World)(h:J n a w):
 (Code.loop c).wp P Q a w:=by
 intro b k cs;have key:∀n a w,J n a w->∃e a' w',Q e a' w'/\Arrives P (lone (b.at a (.code c:: .inLoop c::k)) cs w) b k cs e a' w':=by
  intro n
  induction n with
  |zero=>intro a w h;exact(h0 a w h).elim
  |succ n ih=>
   intro a w hI;have⟨e,a₁,w₁,hq,harr⟩:=round n a w hI b (.inLoop c::k) cs;cases e with
   |normal=>
    have⟨e₂,a₂,w₂,hq₂,harr₂⟩:=ih a₁ w₁ hq;exact⟨e₂,a₂,w₂,hq₂,.of_steps (Steps.trans harr (.one step_inLoop)) harr₂⟩
   |exit id=>exact⟨_,a₁,w₁,hq,.pass (x:= .inLoop c) rfl (λ _ _=> .inl (by simp)) harr⟩
   |goto l=>exact⟨_,a₁,w₁,hq,.pass (x:= .inLoop c) rfl (λ _ _=> .inl (by simp)) harr⟩
   |ret=>exact⟨_,a₁,w₁,hq,.pass (x:= .inLoop c) rfl (λ _ _=> .inl (by simp)) harr⟩
   |panic ch=>exact⟨_,a₁,w₁,hq,.pass (x:= .inLoop c) rfl (λ _ _=> .inl (by simp)) harr⟩
   |outgrown=>exact⟨_,a₁,w₁,hq,.pass (x:= .inLoop c) rfl (λ _ _=> .inl (by simp)) harr⟩
 have⟨e,a',w',hq,harr⟩:=key n a w h;exact⟨e,a',w',hq,.of_steps (.one step_loop) harr⟩
section
variable {P:Program} {N:Nat} {Q:Exit->St->Prop} {σ:St}
theorem Ev.mono{c:Code}{Q':Exit->St->Prop}(h:Ev P N c Q σ)(hq:∀e σ,Q e σ->Q' e σ):Ev P N c Q' σ:=
 λw0 O0 β I a w hr ho=>wp_mono (h w0 O0 β I a w hr ho) λ_ _ _ ⟨β',I',σ',h1,h2,h3⟩=>⟨β',I',σ',h1,h2,hq _ _ h3⟩
theorem aml(h:Q .normal σ):Ev P N .skip Q σ:=λ_ _ β I _ _ hr ho=>wp_skip ⟨β,I,σ,hr,ho,h⟩
theorem amm{id:Nat}(h:Q (.exit id) σ):Ev P N (.exit id) Q σ:=λ_ _ β I _ _ hr ho=>wp_exit ⟨β,I,σ,hr,ho,h⟩
theorem an0(h:Q .ret σ):Ev P N .ret Q σ:=λ_ _ β I _ _ hr ho=>wp_ret ⟨β,I,σ,hr,ho,h⟩
theorem akg{l:Nat}(h:Q .normal σ):Ev P N (.label l) Q σ:=λ_ _ β I _ _ hr ho=>wp_label ⟨β,I,σ,hr,ho,h⟩
theorem an1{x y:Code}(h:Ev P N x (anL (Ev P N y Q) Q) σ):Ev P N (.seq x y) Q σ:=by
 intro w0 O0 β I a w hr ho;refine wp_seq (wp_mono (h w0 O0 β I a w hr ho) ?_);rintro e a' w' ⟨β',I',σ',h1,h2,h3⟩;cases e<;>first |exact h3 w0 O0 β' I' a' w' h1 h2 |exact⟨β',I',σ',h1,h2,h3⟩
theorem amn{c:Operand}{x y:Code}(b:Bool)(hk:∀t,c= .tmp t->σ.ok t=none)(hc:lp σ.env c= .t (.sc (.bool b)))(h:Ev P N (bif b then x else y) Q σ):Ev P N (.cond c x y) Q σ:=by
 intro w0 O0 β I a w hr ho;have h1:=aaR (P:=P) (β:=β) (w:=w) (I:=I) (σ:=σ) (a:=a) (x:=c) hr.mem.vars (λ t ht=>by
  have h1:=hr.env t;rw[hk t ht]at h1;exact h1)
 rw[hc]at h1;simp only[VR,TR]at h1;refine wp_cond (t:=b) h1.1 ?_;cases b<;>exact h w0 O0 β I a w hr ho
theorem afr{c:Operand}{x y:Code}(hk:∀t,c= .tmp t->σ.ok t=none)(hc:lp σ.env c= .ub)(h1:Ev P N x Q σ)(h2:Ev P N y Q σ):Ev P N (.cond c x y) Q σ:=by
 intro w0 O0 β I a w hr ho;have h3:=aaR (P:=P) (β:=β) (w:=w) (I:=I) (σ:=σ) (a:=a) (x:=c) hr.mem.vars (λ t ht=>by
  have h1:=hr.env t;rw[hk t ht]at h1;exact h1)
 rw[hc]at h3;simp only[VR]at h3;obtain⟨b,hb⟩:=h3;refine wp_cond (t:=b) hb ?_;cases b
 ·exact h2 w0 O0 β I a w hr ho
 ·exact h1 w0 O0 β I a w hr ho
theorem akh{id:Nat}{c:Code}(h:Ev P N c (Zs id Q) σ):Ev P N (.block id c) Q σ:=by
 intro w0 O0 β I a w hr ho;refine wp_block (wp_mono (h w0 O0 β I a w hr ho) ?_);rintro e a' w' ⟨β',I',σ',h1,h2,h3⟩;cases e with
 |exit j=>
  simp only[Zs]at h3;simp only[Exit.inBlock];split
  ·rw[aX ‹_›]at h3;exact⟨β',I',σ',h1,h2,h3⟩
  ·rw[aQ ‹_›]at h3;exact⟨β',I',σ',h1,h2,h3⟩
 |_=>exact⟨β',I',σ',h1,h2,h3⟩
theorem amo{c:Code}(J:Nat->St->Prop)(h0:∀ σ,¬J 0 σ)(round:∀n σ,J (n+1) σ->Ev P N c (anL (J n) Q) σ)(n:Nat)(h:J n σ):Ev P N (.loop c) Q σ:=by
 intro w0 O0 β I a w hr ho;refine Zu (λ n a w=>∃ β I σ,Rel P w0 O0 N β I σ a w/\tD σ/\J n σ) (λ a w ⟨_,_,σ,_,_,h⟩=>h0 σ h) ?_ n a w ⟨β,I,σ,hr,ho,h⟩;rintro n a w ⟨β,I,σ,hr,ho,hJ⟩;refine wp_mono (round n σ hJ w0 O0 β I a w hr ho) ?_;rintro e a' w' ⟨β',I',σ',h1,h2,h3⟩;cases e<;>exact⟨β',I',σ',h1,h2,h3⟩
end
def lk{α:Type}:List (Nat×α)->Nat->Option α
 |[],_=>none
 |(j,x)::r,k=>if j=k then some x else lk r k
structure ro where
 env:List (Nat×AV)
 cE:List (Nat×aS)
def ro.st(L:ro):St:=⟨λ t=>(lk L.env t).getD .undef,λk=>lk L.cE k,λ_=>none⟩
theorem qZ{α:Type}:∀{l:List (Nat×α)}{k:Nat}{x:α},lk l k=some x->(k,x)∈l
 |(j,y)::r,k,x,h=>by
  simp only[lk]at h;split at h
  ·cases h;rename_i e;subst e;simp
  ·exact eG _ (qZ h)
theorem uP{α:Type}:∀{l:List (Nat×α)}{k:Nat}{x:α},(l.map (·.1)).Nodup->(k,x)∈l->lk l k=some x
 |(j,y)::r,k,x,hn,h=>by
  simp only[aF,List.nodup_cons]at hn;simp only[lk];rcases aN.1 h with h |h
  ·injection h with h1 h2;subst h1;subst h2;simp
  ·have hne:k≠j:=λe=>hn.1 (mem_map.2 ⟨(k,x),h,e⟩);rw[aQ (Ne.symm hne)];exact uP hn.2 h
structure RgI where
 x:Operand
 t:TypeId
 a0:Nat
 it:Nat
 nn:Nat
 b:Nat
 e:Nat
 xx:Nat
 kv:Nat
 j:Nat
 j2:Nat
 body:Code
section
variable {P:Program} {w0:World} {O0:j8} {N:Nat} {β:Nat->Option cL} {I:Nat->Prop} {σ:St} {a:Act} {w:World}
def St.put(σ:St)(d:Nat)(x:AV):St:=⟨Aw σ.env (some d) x,σ.obj,Aw σ.ok (some d) none⟩
theorem Rel.put(hr:Rel P w0 O0 N β I σ a w){d:Nat}(hd:d<N){x:AV}{v:Value}(hv:VR P β w I x v):Rel P w0 O0 N β I (σ.put d x) (a.put (some d) v) w:=by
 refine⟨by simpa[Act.put]using hr.defers,by simpa[Act.put]using hr.size,λt=>?_,hr.mem⟩;have hold:=hr.env t;simp only[St.put,Aw,Act.put,aA];by_cases hdt:d=t
 ·subst hdt;rw[aX rfl,aX rfl];have e:(a.tmps.setIfInBounds d v).getD d undef=v:=by simp[Nat.lt_of_lt_of_eq hd hr.size.symm]
  rw[e];exact hv
 ·rw[aQ hdt,aQ hdt];simpa[Array.getElem?_setIfInBounds_ne hdt]using hold
structure td(β:Nat->Option cL)(I:Nat->Prop)(obj:Nat->Option aS)(w:World)(r:Nat):Prop where
 lt:r<w.heap.size
 Hj:¬I r
 obj:∀k o,obj k=some o->¬fh β k r
theorem Rel.world{w':World}(hr:Rel P w0 O0 N β I σ a w)(hs:Same I w w')(hm:Mem P w0 O0 β I σ.obj w'):Rel P w0 O0 N β I σ a w':=
 ⟨hr.defers,hr.size,λt=>eJ.mono (λ _ _ h=>h) hs (λ _ h=>h) (hr.env t),hm⟩
end
def kept(os':List (Option fe))(j:Nat):Prop:=∃p,os'[j]? =some (some p)
def Pe(get:Nat->Option aS)(fk:Option Nat)(os':List (Option fe)):AV->Tree->Prop
 | .t x,y=>y=x
 | .cV,y=>y= .sl []
 | .oz k len,y=>fk≠some k/\¬kept os' k/\∃o df,get k=some o/\(o.rows.drop 0).take len=aI df/\df.length=len/\y= .sl df
 | .own k aa len,y=>fk≠some k/\¬kept os' k/\∃o df,get k=some o/\(o.rows.drop aa).take len=aI df/\df.length=len/\y= .sl df
 |_,_=>False
def k9(get:Nat->Option aS)(fk:Option Nat)(os':List (Option fe)):List AV->List Tree->Prop
 |[],[]=>True
 |x::xs,y::ys=>Pe get fk os' x y/\k9 get fk os' xs ys
 |_,_=>False
def ek(get:Nat->Option aS)(fk:Option Nat)(os':List (Option fe)):List (List AV)->List (List Tree)->Prop
 |[],[]=>True
 |x::xs,y::ys=>k9 get fk os' x y/\ek get fk os' xs ys
 |_,_=>False
def Fi(get:Nat->Option aS)(fk:Option Nat)(os':List (Option fe)):AV->RC->Prop
 | .agg cs,.d (.a ts)=>k9 get fk os' cs ts
 |x,.d (.s y)=>Pe get fk os' x y
 | .cV,.fresh _ rows=>rows=[]
 | .own k aa len,.fresh sz rows=>fk=some k/\¬kept os' k/\aa=0/\∃o,get k=some o/\o.sz=sz/\ek get fk os' (o.rows.take len) rows/\rows.length=len
 | .own k aa len,.whole j len'=>k=j/\aa=0/\len'=len/\kept os' j
 |_,_=>False
def nh(get:Nat->Option aS)(fk:Option Nat)(os':List (Option fe)):List AV->List RC->Prop
 |[],[]=>True
 |x::xs,c::cs=>Fi get fk os' x c/\nh get fk os' xs cs
 |_,_=>False
def Fc(get:Nat->Option aS)(fk:Option Nat)(os':List (Option fe)):List AV->RV->Prop
 |[x],.one c=>Fi get fk os' x c
 |x::y::r,.eC cs=>nh get fk os' (x::y::r) cs
 |[],.eC cs=>cs=[]
 |_,_=>False
def Mb(get:Nat->Option aS)(fk:Option Nat)(os':List (Option fe)):Prop:=
 ∀(j:Nat) p,os'[j]? =some (some p)->fk≠some j/\∃o,get j=some o/\o.sz=p.1/\ek get fk os' (o.rows.take p.2.length) p.2
def Uf(T:ea)(t:TypeId)(x:AV)(obj:Nat->Option aS):Option Out:=
 Kc T t x .none obj
def Pf(T:ea)(σ:St):ResultVar->Option AV
 | .tmp t=>match σ.ok t with
  |none=>some (σ.env t)
  |some _=>none
 | .cell a t=>match σ.ok a with
  |none=>match Uf T t (σ.env a) σ.obj with
   |some ⟨v,[],[]⟩=>some v
   |_=>none
  |some _=>none
def ng(T:ea)(σ:St):List ResultVar->Option (List AV)
 |[]=>some []
 |r::rs=>(Pf T σ r).bind λv=>(ng T σ rs).bind λvs=>some (v::vs)
def Vf(tmps:Array Value):ResultVar->Sem Value
 | .tmp t=>pure (tmps.getD t undef)
 | .cell a t=>do loadVar t (<- asAddr (tmps.getD a undef))
theorem Vg(fn:Func)(tmps:Array Value):results fn tmps=(fn.results.mapM (Vf tmps))>>=λvs=>pure (if h:vs.size=1 then vs[0]else .tuple vs):=by
 unfold results;congr 2
def ao8(T:ea)(rs:List ResultVar)(rv:RV)(os':List (Option fe)):Exit->St->Prop
 | .normal,σ=>∃xs fk,ng T σ rs=some xs/\Fc σ.obj fk os' xs rv/\Mb σ.obj fk os'
 | .ret,σ=>∃xs fk,ng T σ rs=some xs/\Fc σ.obj fk os' xs rv/\Mb σ.obj fk os'
 |_,_=>False
section
variable {P:Program} {T:ea} {w0:World} {O0:j8} {N:Nat} {β:Nat->Option cL} {I:Nat->Prop} {σ:St} {a:Act} {w:World}
theorem aaT(hT:eY P T)(hr:Rel P w0 O0 N β I σ a w){r:ResultVar}{x:AV}(h:Pf T σ r=some x):
 ∃v,(Vf a.tmps r).run P w= .ok v w/\VR P β w I x v:=by
 cases r with
 |tmp t=>
  simp only[Pf]at h;have h1:=hr.env t;cases hk:σ.ok t with
  |some b=>rw[hk]at h;cases h
  |none=>
   rw[hk]at h h1;cases h;exact⟨_,by simp[Vf],h1⟩
 |cell ad t=>
  simp only[Pf]at h;have hx:=hr.env ad;cases hk:σ.ok ad with
  |some b=>rw[hk]at h;cases h
  |none=>
  rw[hk]at h hx;simp only at h;have hx:VR P β w I (σ.env ad) (a.tmps.getD ad undef):=hx;split at h
  ·rename_i v hl;injection h with h;subst h;obtain⟨u,h1,h2⟩:∃u,(Instr.loadAt t (a.tmps.getD ad undef)).run P w= .ok u w/\VR P β w I v u:=by
    obtain⟨u,h1,h2,_⟩:=QU hT hr.mem (λ _ _ h=>h) hl trivial hx;exact⟨u,h1,h2⟩
   refine⟨u,?_,h2⟩;have hp:∃p,a.tmps.getD ad undef= .pointer (some p):=by
    unfold Uf at hl;unfold Kc at hl;cases hti:T t with
    |none=>simp[hti]at hl
    |some ti=>
     simp only[hti,af]at hl;split at hl
     ·rename_i heq;rw[heq]at hx;simp only[VR]at hx;obtain⟨b,sz,n,_,h⟩:=hx;exact⟨_,h⟩
     ·rename_i heq;rw[heq]at hx;simp only[VR]at hx;obtain⟨b,o,h,_⟩:=hx;exact⟨_,h⟩
     ·cases hl
   obtain⟨p,hp⟩:=hp;rw[hp]at h1;simp only[Instr.loadAt,Instr.sureAddr,Sem.run_bind,Sem.run_pure,Result.andThen_ok]at h1;simp only[Vf,hp,asAddr,Sem.run_bind,Sem.run_pure,Result.andThen_ok];exact h1
  ·cases h
theorem Ay(hT:eY P T)(hr:Rel P w0 O0 N β I σ a w):∀(rs:List ResultVar)(xs:List AV),ng T σ rs=some xs->
 ∃vs,(rs.mapM (Vf a.tmps)).run P w= .ok vs w/\aE P β w I xs vs
 |[],xs,h=>by simp only[ng,aA]at h;subst h;exact⟨[],by simp,by simp[aE]⟩
 |r::rs,xs,h=>by
  simp only[ng]at h;cases h1:Pf T σ r with
  |none=>simp[h1]at h
  |some x=>
   cases h2:ng T σ rs with
   |none=>simp[h1,h2]at h
   |some ys=>
    simp only[h1,h2,af,aA]at h;subst h;have⟨v,g1,g2⟩:=aaT hT hr h1;have⟨vs,g3,g4⟩:=Ay hT hr rs ys h2;exact⟨v::vs,by simp only[List.mapM_cons,Sem.run_bind,g1,Result.andThen_ok,g3,Sem.run_pure],by simp only[aE];exact⟨g2,g4⟩⟩
def Mq(σ:St)(w0 w:World)(β:Nat->Option cL)(I:Nat->Prop)(O0:j8)(fk:Option Nat)(os':List (Option fe))(b:Nat):Prop:=
 (I b\/O0.Hj b\/w0.heap.size<=b\/O0.own b)/\b<w.heap.size/\¬∃k,(fk=some k\/kept os' k)/\(∃ o,σ.obj k=some o)/\fh β k b
theorem acR(hr:Rel P w0 O0 N β I σ a w)(fk:Option Nat)(os':List (Option fe)):∀b,I b->Mq σ w0 w β I O0 fk os' b:=λb hb=>
 ⟨.inl hb,hr.mem.lt b hb,λ⟨k,_,⟨o,ho⟩,hβ⟩=>(hr.mem.iv k o b ho hβ).1 hb⟩
theorem Mr(hr:Rel P w0 O0 N β I σ a w){fk:Option Nat}{os':List (Option fe)}{k aa len:Nat}{y:Tree}{v:Value}(h:fk≠some k/\¬kept os' k/\∃o df,σ.obj k=some o/\(o.rows.drop aa).take len=aI df/\df.length=len/\y= .sl df)(hv:VR P β w I (.own k aa len) v):TR w (Mq σ w0 w β I O0 fk os') y v:=by
 obtain⟨hne,hnk,o,df,h1,h2,h3,rfl⟩:=h;simp only[VR]at hv;simp only[TR];rcases hv with ⟨_,rfl,_,h4⟩ |⟨b,sz,n,cap,ad,h4,rfl,h5,h6,h7⟩
 ·exact .inl ⟨List.eq_nil_of_length_eq_zero (by omega),none,0,rfl,λ_=>rfl⟩
 ·have⟨g1,g2,g3⟩:=hr.mem.own k o b sz n h1 h4;refine .inr ⟨b,ad,cap,sz,by rw[h3],by omega,⟨.inr (.inr (g3.elim .inr .inl)),g2,λ⟨k',e1,⟨o',e2⟩,e3⟩=>?_⟩,?_⟩
  ·have:=hr.mem.lv k k' o o' b h1 e2 (.at h4) e3;subst this;exact e1.elim hne hnk
  ·by_cases hc:cap=0
   ·have:df=[]:=List.eq_nil_of_length_eq_zero (by omega);subst this;simp[cp]
   ·rw[h7 hc];have⟨B,hB,sA⟩:=hr.mem.cE k o h1;rw[h4]at hB;cases hB;obtain⟨hs,c,e,hc',_,sA⟩:=sA;have h8:=bo.take len _ _ _ _ (bo.drop aa _ _ _ _ sA);rw[h2]at h8;exact cp.lr (acR hr fk os') hc' df _ _ h8
theorem Dw(hr:Rel P w0 O0 N β I σ a w){fk:Option Nat}{os':List (Option fe)}{x:AV}{y:Tree}{v:Value}(h:Pe σ.obj fk os' x y)(hv:VR P β w I x v):TR w (Mq σ w0 w β I O0 fk os') y v:=by
 cases x<;>simp only[Pe]at h
 case t x=>subst h;simp only[VR]at hv;exact TR.mono (λ _ _=>rfl) (acR hr fk os') _ _ hv
 case cV=>subst h;simp only[VR]at hv;simp only[TR];exact .inl ⟨trivial,none,0,hv,λ_=>rfl⟩
 case own k aa len=>exact Mr hr h hv
 case oz k len=>
  rcases hv.uA with ⟨rfl,rfl⟩ |⟨_,hv⟩
  ·obtain⟨hne,hnk,o,df,h1,h2,h3,rfl⟩:=h;simp only[TR];exact .inl ⟨List.eq_nil_of_length_eq_zero h3,none,0,rfl,λ_=>rfl⟩
  ·exact Mr hr h hv
theorem Ms(hr:Rel P w0 O0 N β I σ a w){fk:Option Nat}{os':List (Option fe)}{β':Nat->Option cL}:∀{r:List AV}{t:List Tree}{c:Array Value}{aa:Nat},k9 σ.obj fk os' r t->cW P β w I r c aa->cW P β' w (Mq σ w0 w β I O0 fk os') (t.map AV.t) c aa
 |[],[],_,_,_,_=>trivial
 |x::xs,y::ys,c,aa,h,⟨⟨v,h1,h2,h3⟩,h4⟩=>⟨⟨v,h1,by simp only[VR];exact Dw hr h.1 h2,h3⟩,Ms hr h.2 h4⟩
 |[],_::_,_,_,h,_=>h.elim
 |_::_,[],_,_,h,_=>h.elim
theorem k9.length{get:Nat->Option aS}{fk:Option Nat}{os':List (Option fe)}:∀{r:List AV}{t:List Tree},k9 get fk os' r t->t.length=r.length
 |[],[],_=>rfl
 |_::_,_::_,h=>by simp[k9.length h.2]
 |[],_::_,h=>h.elim
 |_::_,[],h=>h.elim
theorem Az(hr:Rel P w0 O0 N β I σ a w){fk:Option Nat}{os':List (Option fe)}{β':Nat->Option cL}:∀{rs:List (List AV)}{ts:List (List Tree)}{c:Array Value}{aa sz:Nat},ek σ.obj fk os' rs ts->bo P β w I rs c aa sz->bo P β' w (Mq σ w0 w β I O0 fk os') (aI ts) c aa sz
 |[],[],_,_,_,_,_=>trivial
 |r::rs,t::ts,c,aa,sz,h,⟨h1,h2,h3⟩=>⟨by rw[List.length_map,h.1.length,h1],Ms hr h.1 h2,Az hr h.2 h3⟩
 |[],_::_,_,_,_,h,_=>h.elim
 |_::_,[],_,_,_,h,_=>h.elim
theorem ek.length{get:Nat->Option aS}{fk:Option Nat}{os':List (Option fe)}:∀{rs:List (List AV)}{ts:List (List Tree)},ek get fk os' rs ts->rs.length=ts.length
 |[],[],_=>rfl
 |_::_,_::_,h=>by simp only[bI,h.2.length]
 |[],_::_,h=>h.elim
 |_::_,[],h=>h.elim
theorem Kk(hr:Rel P w0 O0 N β I σ a w){fk:Option Nat}{os':List (Option fe)}{β':Nat->Option cL}:∀{r:List AV}{t:List Tree}{vs:List Value},k9 σ.obj fk os' r t->aE P β w I r vs->aE P β' w (Mq σ w0 w β I O0 fk os') (t.map AV.t) vs
 |[],[],[],_,_=>by simp[aE]
 |x::xs,y::ys,v::vs,h,hv=>by
  simp only[aE]at hv;simp only[aF,aE,VR];exact⟨Dw hr h.1 hv.1,Kk hr h.2 hv.2⟩
 |[],_::_,_,h,_=>h.elim
 |_::_,[],_,h,_=>h.elim
 |[],[],_::_,_,hv=>by simp[aE]at hv
 |_::_,_::_,[],_,hv=>by simp[aE]at hv
theorem GK(hr:Rel P w0 O0 N β I σ a w){fk:Option Nat}{os':List (Option fe)}{β':Nat->Option cL}:∀{rs:List (List AV)}{ts:List (List Tree)}{es:List MapEntry},ek σ.obj fk os' rs ts->co P β w I rs es->co P β' w (Mq σ w0 w β I O0 fk os') (aI ts) es
 |[],[],[],_,_=>trivial
 |_::_,_::_,_::_,h,hm=>⟨Kk hr h.1 hm.1,GK hr h.2 hm.2⟩
 |[],_::_,_,h,_=>h.elim
 |_::_,[],_,h,_=>h.elim
 |[],[],_::_,_,hm=>hm.elim
 |_::_,_::_,[],_,hm=>hm.elim
theorem ek.nil{get:Nat->Option aS}{fk:Option Nat}{os':List (Option fe)}{t:List (List Tree)}(h:ek get fk os' [] t):t=[]:=by
 cases t with
 |nil=>rfl
 |cons=>exact h.elim
theorem Vh(hr:Rel P w0 O0 N β I σ a w){F:Nat->Prop}{βi:Nat->Option cL}{fk:Option Nat}{os':List (Option fe)}(hF:∀k o b,fk=some k->σ.obj k=some o->¬kept os' k->fh β k b->F b)(hi:∀j,kept os' j->β j=βi j){x:AV}{c:RC}{v:Value}
 (h:Fi σ.obj fk os' x c) (hv:VR P β w I x v):yd P F βi c w (Mq σ w0 w β I O0 fk os') v:=by
 unfold Fi at h;split at h
 ·rename_i cs ts;simp only[VR]at hv;obtain⟨vs,rfl,hv⟩:=hv;refine⟨vs,rfl,?_⟩;have:∀(cs:List AV)(ts:List Tree)(vs:List Value),k9 σ.obj fk os' cs ts->aE P β w I cs vs->eI w (Mq σ w0 w β I O0 fk os') ts vs:=by
   intro cs
   induction cs with
   |nil=>intro ts vs h hv;cases ts<;>cases vs<;>first |trivial |exact h.elim |(simp [aE]at hv)
   |cons x xs ih=>
    intro ts vs h hv;cases ts with
    |nil=>exact h.elim
    |cons t ts=>
     cases vs with
     |nil=>simp[aE]at hv
     |cons u us=>simp only[aE]at hv;exact⟨Dw hr h.1 hv.1,ih ts us h.2 hv.2⟩
  exact this cs ts vs.toList h hv
 ·exact Dw hr h hv
 ·subst h;simp only[VR]at hv;exact .inl ⟨rfl,hv⟩
 ·rename_i k aa len sz rows;obtain⟨rfl,hnk,rfl,o,h1,rfl,h2,h3⟩:=h;simp only[VR]at hv;rcases hv with ⟨_,rfl,_,h4⟩ |⟨b,sz,n,cap,ad,h4,rfl,h5,h6,h7⟩
  ·exact .inl ⟨List.eq_nil_of_length_eq_zero (by omega),rfl⟩
  ·have⟨g1,g2,g3⟩:=hr.mem.own k o b sz n h1 h4;have⟨B,hB,sA⟩:=hr.mem.cE k o h1;rw[h4]at hB;cases hB;obtain⟨hs,c,e,hc',hn,sA⟩:=sA;refine .inr ⟨b,c,e,cap,ad,n.s,by rw[h3],hF k o b rfl h1 hnk (.at h4),λhI=>hI.2.2 ⟨k,.inl rfl,⟨o,h1⟩,.at h4⟩,hc',by omega,?_,?_,λhc=>by simpa using h7 hc⟩
   ·rw[<- hs,hn];simpa using h6
   ·rw[<- hs];exact Az hr h2 (bo.take len _ _ _ _ sA)
 ·rename_i k aa len j len';obtain⟨rfl,rfl,rfl,hk⟩:=h;show VR P βi w (Mq σ w0 w β I O0 fk os') (.own k 0 len') v;simp only[VR]at hv ⊢;rw[<- hi k hk];exact hv
 ·exact h.elim
theorem AA{α:Type}(l:List α)(t:Nat):lk ((List.range l.length).zip l) t=l[t]? :=by
 have qe:∀(l:List α)(s t:Nat),(lk ((List.range' s l.length).zip l) t)=if s<=t/\t<s+l.length then l[t -s]? else none:=by
  intro l
  induction l with
  |nil=>intro s t;simp[lk]
  |cons x xs ih=>
   intro s t;simp only[bI,List.range'_succ,List.zip_cons_cons,lk];by_cases hst:s=t
   ·subst hst;simp
   ·rw[aQ hst,ih];by_cases hlt':s+1<=t/\t<s+1+xs.length
    ·rw[aX hlt',aX (by omega),show t -s=(t -(s+1))+1 by omega];simp
    ·rw[aQ hlt',aQ (by omega)]
 rw[List.range_eq_range',qe];by_cases ht:t<l.length
 ·simp[ht]
 ·rw[aQ (by omega)];simp[List.getElem?_eq_none (Nat.le_of_not_lt ht)]
theorem Pg{x:AV}:∀{l:List AV},x∈l->∀k∈refs x,k∈eT l
 |[],h,_,_=>by simp at h
 |y::ys,h,k,hk=>by
  simp only[eT,bf];rcases aN.1 h with rfl |h
  ·exact .inl hk
  ·exact .inr (Pg h k hk)
theorem aix(hT : eY P T){f : FuncId}{fn : Func}{c : Code}{args : List AV}{os : List fe}{os' : List (Option fe)}{rv : RV}(hfn : P.funcs[f]? = some fn)(hb : fn.body = some c)(hname : (fn.name == "runtime.NumGoroutine") = false)(hN : args.length <= fn.ntmps)(hargs : ∀ k ∈ eT args, k < 1000)(hos : os.length <= 1000)(hlen : os'.length = os.length)
 (h:Ev P fn.ntmps c (ao8 T fn.results.toList rv os') (ro.st ⟨(List.range args.length).zip args,(List.range (os.map gA).length).zip (os.map gA)⟩)):qn P f args os os' rv:=by
 refine⟨⟨fn,hfn,by rw[hb];rfl,hname⟩,λw β I vs hβ hM hv=>?_⟩;have hvl:=aE.length _ _ hv;simp only[Array.length_toList]at hvl;have gp:∀k,lk ((List.range (os.map gA).length).zip (os.map gA)) k=rL os k:=λk=>by rw[AA];simp[rL]
 refine calls_of_wp hfn hb ?_;have hrel:Rel P w (mY β I) fn.ntmps β I (ro.st ⟨(List.range args.length).zip args,(List.range (os.map gA).length).zip (os.map gA)⟩) { tmps:=vs++Array.replicate (fn.ntmps -vs.size) undef,defers:=[] } w:=by
  refine⟨rfl,by simp;omega,λt=>?_,?_⟩
  ·simp only[ro.st,AA,eJ];by_cases ht:t<args.length
   ·obtain⟨v,g1,g2⟩:=aE.get _ _ t _ hv (dI ht);rw[dI ht];simp only[Option.getD_some];have:(vs++Array.replicate (fn.ntmps -vs.size) undef).getD t undef=v:=by
     rw[Array.getElem?_toList]at g1;simp only[Array.getD_eq_getD_getElem?,Array.getElem?_append,show t<vs.size by omega,if_true,g1,Option.getD_some]
    rw[this];exact g2
   ·rw[List.getElem?_eq_none (Nat.le_of_not_lt ht)];simp[VR]
  ·have:(ro.st ⟨(List.range args.length).zip args,(List.range (os.map gA).length).zip (os.map gA)⟩).obj=rL os:=funext gp;rw[this];exact hM
 have hold:tD (ro.st ⟨(List.range args.length).zip args,(List.range (os.map gA).length).zip (os.map gA)⟩):=by
  refine⟨λ t k hk=>?_,λk o hk=>?_⟩
  ·simp only[ro.st,AA]at hk;cases ht:args[t]? with
   |none=>rw[ht]at hk;simp[refs]at hk
   |some x=>rw[ht]at hk;have:=hargs k (Pg (dh ht) k hk);omega
  ·have hk:rL os k=some o:=(gp k).symm.trans hk;simp only[rL,dK]at hk;obtain⟨p,hp,rfl⟩:=hk;refine⟨by have:=(dF.1 hp).1;omega,λr hr x hx j hj=>?_⟩;simp only[gA,aI,mem_map]at hr;obtain⟨q,_,rfl⟩:=hr;simp only[mem_map]at hx;obtain⟨t,_,rfl⟩:=hx;simp[refs]at hj
 refine wp_mono (h w (mY β I) β I _ w hrel hold) ?_
 have fin:∀(a':Act) (w':World) (β':Nat->Option cL) (I':Nat->Prop) (σ':St),Rel P w (mY β I) fn.ntmps β' I' σ' a' w'->(∃ xs fk,ng T σ' fn.results.toList=some xs/\Fc σ'.obj fk os' xs rv/\Mb σ'.obj fk os')->
  a'.defers=[]/\∃v,(results fn a'.tmps).run P w'= .ok v w'/\Mm P w β I os' rv (.returned v) w':=by
  intro a' w' β' I' σ' hr ⟨xs,fk,hx,he,heo⟩;obtain⟨us,g1,g2⟩:=Ay hT hr _ _ hx;have E1:=aE.length _ _ g2;have hm:=hr.mem;have hrun:(fn.results.mapM (Vf a'.tmps)).run P w'= .ok us.toArray w':=by rw[Array.mapM_eq_mapM_toList,Sem.run_map,g1];rfl
  have hko:∀j p,os'[j]? =some (some p)->∃B o,β j=some B/\β' j=some B/\σ'.obj j=some o/\OR P β' w' I' o B/\o.sz=p.1/\ek σ'.obj fk os' (o.rows.take p.2.length) p.2:=by
   intro j p hj;have⟨_,o,e1,e2,e3⟩:=heo j p hj;have hjl:j<os.length:=(by rw[<- hlen];exact(dF.1 hj).1);obtain⟨B,hB,_⟩:=hM.cE j (gA os[j]) (by simp[rL,hjl]);have hB':=hm.anch j B (by simp only[mY];rw[aX (by omega)];exact hB);have⟨B',hB2,hO⟩:=hm.cE j o e1;rw[hB']at hB2;cases hB2;exact⟨B,o,hB,hB',e1,hO,e2,e3⟩
  have hkept:∀j,kept os' j->β' j=β j:=λj ⟨p,hp⟩=>by
   have⟨B,o,h1,h2,_⟩:=hko j p hp;rw[h1,h2]
  have pc:∀j o,Cb os' j=some o->∃p,os'[j]? =some (some p)/\o=gA p:=by
   intro j o hj;simp only[Cb,dK,Option.join_eq_some_iff]at hj;obtain⟨p,hp,rfl⟩:=hj;exact⟨p,hp,rfl⟩
  have p7:∀b,I b->¬UQ β b/\b<w.heap.size:=by
   intro b hb;refine⟨?_,hM.lt b hb⟩;rintro⟨j,B,hj,hB⟩;rcases Nat.lt_or_ge j os.length with hjl |hjl
   ·exact(hM.ownB j (gA os[j]) B b (by simp[rL,hjl]) hj hB).1 hb
   ·rw[hβ j hjl]at hj;cases hj
  have hOI:∀b,I b->Mq σ' w w' β' I' (mY β I) fk os' b:=by
   intro b hb;have⟨g1,g2⟩:=p7 b hb;refine⟨.inr (.inl hb),Nat.lt_of_lt_of_le g2 hm.le,?_⟩;rintro⟨k,_,⟨o,ho⟩,hβk⟩;rcases (hm.iv k o b ho hβk).2.2 with g |g
   ·exact g1 g
   ·omega
  have hmem:Mem P w (mY β I) β (Mq σ' w w' β' I' (mY β I) fk os') (Cb os') w':=by
   constructor
   ·intro j o hj;obtain⟨p,hp,rfl⟩:=pc j o hj;have⟨B,o1,b1,b2,b3,b4,b5,b6⟩:=hko j p hp;refine⟨B,b1,?_⟩;cases B with
    |none=>
     simp only[OR]at b4 ⊢;rw[b4]at b6;have:=ek.nil (by simpa using b6);simp[gA,aI,this]
    | «at» b s n=>
     obtain⟨c1,c,e,c2,c3,c4⟩:=b4;refine⟨by rw[c1,b5];rfl,c,e,c2,c3,?_⟩;exact Az hr b6 (bo.take _ _ _ _ _ c4)
    |mp b=>
     obtain⟨es,cl,c1,cl',c2,c3⟩:=b4;have hl:=b6.length;simp only[length_take]at hl;refine⟨es,cl,c1,by simp only[gA,aI,List.length_map];omega,λe=>?_,c3⟩;have e':p.1=p.2.length:=(by simpa[gA,aI]using e);rw[List.take_of_length_le (by omega)]at b6;exact GK hr b6 (c2 (by omega))
   ·intro j j' o o' B B' b h1 h2 h3 h4 h5 h6;obtain⟨p,hp,rfl⟩:=pc j o h1;obtain⟨p',hp',rfl⟩:=pc j' o' h2;have⟨_,o1,_,_,b3,_⟩:=hko j p hp;have⟨_,o1',_,_,b3',_⟩:=hko j' p' hp';rw[<- hkept j ⟨p,hp⟩]at h3;rw[<- hkept j' ⟨p',hp'⟩]at h4;exact hm.gj j j' o1 o1' B B' b b3 b3' h3 h4 h5 h6
   ·intro j o B b h1 h2 h5;obtain⟨p,hp,rfl⟩:=pc j o h1;have⟨_,o1,_,_,b3,_⟩:=hko j p hp;rw[<- hkept j ⟨p,hp⟩]at h2;have⟨_,c2,c3⟩:=hm.ownB j o1 B b b3 h2 h5;exact⟨λ hb=>hb.2.2 ⟨j,.inr ⟨p,hp⟩,⟨o1,b3⟩,B,h2,h5⟩,c2,c3⟩
   ·exact λb hb=>hb.2.1
   ·intro b hb;rcases hb.1 with g |g |g |g
    ·exact hm.up b g
    ·exact .inl g
    ·exact .inr (.inr g)
    ·exact .inr (.inl g)
   ·exact hm.keep
   ·exact hm.le
   ·exact hm.os
   ·exact hm.tape
   ·exact hm.output
   ·intro j B hj;simp only[mY]at hj;split at hj
    ·exact hj
    ·cases hj
   ·exact hM.vars.mono (λ b hb=>hm.keep b (p7 b hb).2 (p7 b hb).1) hOI
  have hF:∀k o b,fk=some k->σ'.obj k=some o->¬kept os' k->fh β' k b->Ax w β os' b:=by
   intro k o b _ h2 h3 h4;refine⟨(hm.iv k o b h2 h4).2.2,λj o' h5 h6=>?_⟩;obtain⟨p,hp,rfl⟩:=pc j o' h5;have⟨_,o1,_,_,b3,_⟩:=hko j p hp;have h6':fh β' j b:=by
    obtain⟨B,e1,e2⟩:=h6;exact⟨B,by rw[hkept j ⟨p,hp⟩];exact e1,e2⟩
   have:=hm.lv k j o o1 b h2 b3 h4 h6';subst this;exact h3 ⟨p,hp⟩
  have ret:∀v,rm P (Ax w β os') β rv w' (Mq σ' w w' β' I' (mY β I) fk os') v->Mm P w β I os' rv (.returned v) w':=λv hv'=>⟨v,_,rfl,hmem,hOI,hv'⟩;refine⟨hr.defers,?_⟩;have hlist:∀(xs:List AV)(cs:List RC)(us:List Value),nh σ'.obj fk os' xs cs->aE P β' w' I' xs us->RZ P (Ax w β os') β cs w' (Mq σ' w w' β' I' (mY β I) fk os') us:=by
   intro xs
   induction xs with
   |nil=>intro cs us h1 h2;cases cs<;>cases us<;>first |trivial |exact h1.elim |(simp [aE]at h2)
   |cons x xs ih=>
    intro cs us h1 h2;cases cs with
    |nil=>exact h1.elim
    |cons c cs=>
     cases us with
     |nil=>simp[aE]at h2
     |cons u us=>simp only[aE]at h2;exact⟨Vh hr hF hkept h1.1 h2.1,ih cs us h1.2 h2.2⟩
  simp only[Vg,Sem.run_bind,hrun,Result.andThen_ok,Sem.run_pure];refine⟨_,rfl,ret _ ?_⟩
  match xs,us,rv,he,g2 with
  |[x],[u],.one c,he,g2=>
   simp only[aE]at g2;simpa[rm]using Vh hr hF hkept he g2.1
  |x::y::r,u::u'::us,.eC cs,he,g2=>
   have:=hlist _ _ _ he g2;rw[dif_neg (by simp)];exact⟨_,rfl,by simpa using this⟩
  |[],[],.eC cs,he,g2=>
   simp only[Fc]at he;subst he;rw[dif_neg (by simp)];exact⟨_,rfl,trivial⟩
  |[x],[u],.eC cs,he,_=>exact he.elim
  |[],_,.one c,he,_=>exact he.elim
  |x::y::r,_,.one c,he,_=>exact he.elim
  |[],_::_,.eC _,_,g2=>simp[aE]at g2
  |[_],[],_,_,g2=>simp[aE]at g2
  |[_],_::_::_,_,_,g2=>simp[aE]at g2
  |_::_::_,[],_,_,g2=>simp[aE]at g2
  |_::_::_,[_],_,_,g2=>simp[aE]at g2
 rintro e a' w' ⟨β',I',σ',h1,h2,h3⟩;cases e with
 |normal=>exact fin a' w' β' I' σ' h1 h3
 |ret=>exact fin a' w' β' I' σ' h1 h3
 |_=>exact h3.elim
def L7(P:Program)(get:Nat->Option aS)(xs:List AV)(os':List (Nat×aS))(rv:AV):Prop:=
 ∀(w0:World) (O0:j8) (β:Nat->Option cL) (I:Nat->Prop) (w:World) (vs:Array Value),Mem P w0 O0 β I get w->aE P β w I xs vs.toList->∃ β' I',Mem P w0 O0 β' I' (nw os') w/\(∀ b,I b->I' b)/\VR P β' w I' rv (if h:vs.size=1 then vs[0]else .tuple vs)
def aoE(P:Program)(T:ea)(rs:List ResultVar)(rv:AV)(os':List (Nat×aS)):Exit->St->Prop
 | .normal,σ=>∃xs,ng T σ rs=some xs/\L7 P σ.obj xs os' rv
 | .ret,σ=>∃xs,ng T σ rs=some xs/\L7 P σ.obj xs os' rv
 |_,_=>False
theorem aiy(hT : eY P T){f : FuncId}{fn : Func}{c : Code}{args : List AV}{os : List aS}{os' : List (Nat × aS)}{rv : AV}(hfn : P.funcs[f]? = some fn)(hb : fn.body = some c)(hname : (fn.name == "runtime.NumGoroutine") = false)(hN : args.length <= fn.ntmps)(hargs : ∀ k ∈ eT args, k < 1000)(hos : os.length <= 1000)
 (RW:∀o∈os,∀r∈o.rows,∀x∈r,∀j∈refs x,j<1000)
 (h:Ev P fn.ntmps c (aoE P T fn.results.toList rv os') (ro.st ⟨(List.range args.length).zip args,(List.range os.length).zip os⟩)):ye P f args os os' rv:=by
 refine⟨⟨fn,hfn,by rw[hb];rfl,hname⟩,λw β I vs hβ hM hv=>?_⟩;have hvl:=aE.length _ _ hv;simp only[Array.length_toList]at hvl;have gp:∀k,lk ((List.range os.length).zip os) k=rK os k:=λk=>by rw[AA];rfl
 refine calls_of_wp hfn hb ?_;have hrel:Rel P w (mY β I) fn.ntmps β I (ro.st ⟨(List.range args.length).zip args,(List.range os.length).zip os⟩) { tmps:=vs++Array.replicate (fn.ntmps -vs.size) undef,defers:=[] } w:=by
  refine⟨rfl,by simp;omega,λt=>?_,?_⟩
  ·simp only[ro.st,AA,eJ];by_cases ht:t<args.length
   ·obtain⟨v,g1,g2⟩:=aE.get _ _ t _ hv (dI ht);rw[dI ht];simp only[Option.getD_some];have:(vs++Array.replicate (fn.ntmps -vs.size) undef).getD t undef=v:=by
     rw[Array.getElem?_toList]at g1;simp only[Array.getD_eq_getD_getElem?,Array.getElem?_append,show t<vs.size by omega,if_true,g1,Option.getD_some]
    rw[this];exact g2
   ·rw[List.getElem?_eq_none (Nat.le_of_not_lt ht)];simp[VR]
  ·have:(ro.st ⟨(List.range args.length).zip args,(List.range os.length).zip os⟩).obj=rK os:=funext gp;rw[this];exact hM
 have hold:tD (ro.st ⟨(List.range args.length).zip args,(List.range os.length).zip os⟩):=by
  refine⟨λ t k hk=>?_,λk o hk=>?_⟩
  ·simp only[ro.st,AA]at hk;cases ht:args[t]? with
   |none=>rw[ht]at hk;simp[refs]at hk
   |some x=>rw[ht]at hk;have:=hargs k (Pg (dh ht) k hk);omega
  ·have hk:rK os k=some o:=(gp k).symm.trans hk;simp only[rK]at hk;refine⟨by have:=(dF.1 hk).1;omega,λr hr x hx j hj=>?_⟩;have:=RW o (dh hk) r hr x hx j hj;omega
 refine wp_mono (h w (mY β I) β I _ w hrel hold) ?_
 have fin:∀(a':Act) (w':World) (β':Nat->Option cL) (I':Nat->Prop) (σ':St),Rel P w (mY β I) fn.ntmps β' I' σ' a' w'->(∃ xs,ng T σ' fn.results.toList=some xs/\L7 P σ'.obj xs os' rv)->
  a'.defers=[]/\∃v,(results fn a'.tmps).run P w'= .ok v w'/\UP P w β I os' rv (.returned v) w':=by
  intro a' w' β' I' σ' hr ⟨xs,hx,he⟩;obtain⟨us,g1,g2⟩:=Ay hT hr _ _ hx;have hrun:(fn.results.mapM (Vf a'.tmps)).run P w'= .ok us.toArray w':=by rw[Array.mapM_eq_mapM_toList,Sem.run_map,g1];rfl
  have p7:∀b,I b->¬UQ β b/\b<w.heap.size:=by
   intro b hb;refine⟨?_,hM.lt b hb⟩;rintro⟨j,B,hj,hB⟩;rcases Nat.lt_or_ge j os.length with hjl |hjl
   ·exact(hM.ownB j os[j] B b (by simp[rK,hjl]) hj hB).1 hb
   ·rw[hβ j hjl]at hj;cases hj
  obtain⟨β2,I2,hm,hI2,hv2⟩:=he w (mY β I) β' I' w' us.toArray hr.mem (by simpa using g2);have hmem:Mem P w (mY β I) β2 (λ b=>I2 b\/I b) (nw os') w':=by
   constructor
   ·intro k o hk;have⟨B,hB,hO⟩:=hm.cE k o hk;exact⟨B,hB,OR.mono (λ _ _ h=>h) (λ _ _=>rfl) (λ b hb=> .inl hb) (λ _ _=>rfl) hO⟩
   ·exact hm.gj
   ·intro k o B b h1 h2 h3;have⟨a1,a2,a3⟩:=hm.ownB k o B b h1 h2 h3;refine⟨?_,a2,a3⟩;rintro (hb |hb)
    ·exact a1 hb
    ·have⟨c1,c2⟩:=p7 b hb;rcases a3 with a3 |a3
     ·exact c1 a3
     ·omega
   ·rintro b (hb |hb)
    ·exact hm.lt b hb
    ·exact Nat.lt_of_lt_of_le (p7 b hb).2 hm.le
   ·rintro b (hb |hb)
    ·exact hm.up b hb
    ·exact .inl hb
   ·exact hm.keep
   ·exact hm.le
   ·exact hm.os
   ·exact hm.tape
   ·exact hm.output
   ·exact hm.anch
   ·exact hm.vars.mono (λ _ _=>rfl) (λ b hb=> .inl hb)
  refine⟨hr.defers,?_⟩;simp only[Vg,Sem.run_bind,hrun,Result.andThen_ok,Sem.run_pure];exact⟨_,rfl,_,β2,_,rfl,hmem,λb hb=> .inr hb,VR.mono (λ _ _ h=>h) (λ _ _=>rfl) (λ b hb=> .inl hb) _ _ hv2⟩
 rintro e a' w' ⟨β',I',σ',h1,h2,h3⟩;cases e with
 |normal=>exact fin a' w' β' I' σ' h1 h3
 |ret=>exact fin a' w' β' I' σ' h1 h3
 |_=>exact h3.elim
theorem rm.Hd{F F':Nat->Prop}{βi:Nat->Option cL}{w':World}{I':Nat->Prop}(hF:∀b,F b->F' b){rv:RV}{v:Value}(h:rm P F βi rv w' I' v):rm P F' βi rv w' I' v:=by
 have hc:∀(c:RC)(v:Value),yd P F βi c w' I' v->yd P F' βi c w' I' v:=by
  intro c v h;cases c with
  |d x=>exact h
  |fresh sz rows=>
   rcases h with h |⟨b,c,e,cap,o,s,h1,h2,h3⟩
   ·exact .inl h
   ·exact .inr ⟨b,c,e,cap,o,s,h1,hF b h2,h3⟩
  |whole j len=>exact h
 cases rv with
 |one c=>exact hc c v h
 |eC cs=>
  obtain⟨vs,rfl,h⟩:=h;refine⟨vs,rfl,?_⟩;have:∀(cs:List RC)(vs:List Value),RZ P F βi cs w' I' vs->RZ P F' βi cs w' I' vs:=by
   intro cs
   induction cs with
   |nil=>intro vs h;cases vs with
    |nil=>trivial
    |cons=>exact h.elim
   |cons c cs ih=>intro vs h;cases vs with
    |nil=>exact h.elim
    |cons v vs=>exact⟨hc c v h.1,ih vs h.2⟩
  exact this cs vs.toList h
theorem Mt{f:FuncId}{args:List AV}{rv:RV}(h:qn P f args [] [] rv):ra P f args rv:=by
 refine⟨h.1,λw I vs hlt hgv hv=>?_⟩;have hM:Mem P w (mY ma I) ma I (rL []) w:=by
  refine⟨λ k o hk=>by simp[rL]at hk,λk k' o o' B B' b hk=>by simp[rL]at hk,λk o B b hk=>by simp[rL]at hk,hlt,λb hb=> .inl hb,λ_ _ _=>rfl,aC _,rfl,rfl,rfl,λj B hj=>?_,hgv⟩;simp only[mY,ma,ite_self]at hj;cases hj
 refine(h.2 w ma I vs (λ _ _=>rfl) hM hv).mono ?_;rintro e w' ⟨v,I',rfl,g1,g2,g3⟩;have hno:∀b,¬(mY ma I).own b:=λb ⟨j,B,hj,_⟩=>by cases hj
 refine⟨v,I',rfl,⟨g1.os,g1.tape,g1.output,g1.le,λb hb=>g1.keep b hb (hno b)⟩,g2,g1.lt,λb hb=>?_,rm.Hd (λ b hb=>?_) g3⟩
 ·rcases g1.up b hb with h |h |h
  ·exact .inl h
  ·exact(hno b h).elim
  ·exact .inr h
 ·rcases hb.1 with h |h
  ·exact(hno b h).elim
  ·exact h
end
end Go.Gb
