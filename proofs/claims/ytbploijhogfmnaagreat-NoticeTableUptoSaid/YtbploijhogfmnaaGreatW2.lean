/-
  More operations of the abstract walk; values that become data for good.
-/
import Derived.Test.YtbploijhogfmnaaGreatW1
import Derived.Lib.AppendZeros
import Derived.MapKept
import Derived.Laws.MakeOwn
import Derived.Maps.RangeRun
open Go.IntKind (i64)
open Option (bind_some)
open List (map_cons mem_cons mem_append length_take mem_map all_eq_true mem_singleton length_cons length_drop mem_cons_of_mem map_congr_left eq_nil_of_length_eq_zero)
open Bool (and_eq_true)
namespace Go.Gb
open Go.RowKit
def U6 (op:BinOp) (b:AV) (yes:Bool):Option Out:=
 match op with
 | .eql=>pv (if yes then b else .t (.sc (.bool false)))
 | .neq=>pv (if yes then b else .t (.sc (.bool true)))
 |_=>none
def NA (T:Tab) (op:BinOp) (t:TypeId) (x y:AV):Option Out:=
 (T t).bind fun ti=>match ti.k,x,y with
 | .slice _,.t (.sl rows),.nilsl=>U6 op .ub rows.isEmpty
 | .slice _,.own _ _ len,.nilsl=>U6 op .ub (len==0)
 | .slice _,.oz _ len,.nilsl=>U6 op (.t (.sc (.bool (op== .eql)))) (len==0)
 | .slice _,.nilsl,.nilsl=>U6 op (.t (.sc (.bool (op== .eql)))) true
 |_,_,_=>none
def Xi (T:Tab) (s d:TypeId) (x:AV):Option Out:=
 (T s).bind fun _=>(T d).bind fun di=>match di.k,x with
 | .int k,.t (.sc (.int _ n))=>pv (.t (.sc (.int k (k.wrap n))))
 |_,_=>none
def Ky (T:Tab) (t:TypeId) (x j:AV) (n:Int):Option Out:=
 (T t).bind fun ti=>match ti.k,x,j with
 | .str,.t (.sc (.string s)),.t (.sc (.int _ m))=>pvo (.t (.sc (.int .u8 n))) (0<=m∧∃ b,s[m.toNat]? =some b∧n=b.toNat)
 | .arr m e,.agg cs,.t (.sc (.int _ q))=>(T e).bind fun ei=>(part' ei.agg ei.size ((cs.drop (q.toNat*ei.size)).take ei.size)).bind fun v=>pvo v (0<=q∧q < (m:Int))
 |_,_,_=>none
def wB (T:Tab) (t:TypeId) (x:AV) (lo hi:Option AV):Option Out:=
 (T t).bind fun ti=>match ti.k,x with
 | .slice e,.nilsl=>(T e).bind fun _=>(bnd 0 lo).bind fun l=>(bnd 0 hi).bind fun h=>pvo .nilsl (l=0∧h=0)
 |_,_=>none
def nN (T:Tab) (i:Nat) (b:Builtin) (args:List AV) (tys:List TypeId) (get:Nat->Option aF):Option Out:=
 match b,args,tys with
 | .cap,[.nilsl],[t]=>(T t).bind fun ti=>match ti.k with
  | .slice _=>pv (.t (.sc (.int .i64 0)))
  |_=>none
 | .clear,[.own k off _],[t]=>(T t).bind fun ti=>match ti.k with
  | .slice e=>(T e).bind fun ei=>(get k).bind fun o=>if o.sz=ei.size then some ⟨.tup [],[(k,some ⟨o.sz,o.rows.take off⟩)],[]⟩else none
  |_=>none
 | .append,[.nilsl,.t (.sc (.int _ m))],[t,u]=>(T t).bind fun ti=>(T u).bind fun ui=>match ti.k,ui.k with
  | .slice e,.int _=>(T e).bind fun ei=>some ⟨.own (nid i) 0 m.toNat,[(nid i,some ⟨ei.size,bA (List.replicate m.toNat (ei.zero.map cv))⟩)],[0<=m∧m.toNat*ei.bytes<=140737488355328∧m.toNat<=maxLen∧0 < ei.size]⟩
  |_,_=>none
 |_,_,_=>none
def jF (T:Tab) (i:Nat) (o:Oper) (n:Int) (ρ:Operand->AV) (get:Nat->Option aF):Option Out:=
 match o.op with
 | .binOp op t x y _=>NA T op t (ρ x) (ρ y)
 | .convert s d x=>Xi T s d (ρ x)
 | .index t x j=>Ky T t (ρ x) (ρ j) n
 | .slice t x lo hi none=>wB T t (ρ x) (lo.map ρ) (hi.map ρ)
 | .call { callee:= .builtin b,args:=args,argTypes:=tys }=>nN T i b (args.toList.map ρ) tys.toList get
 |_=>none
section
variable {T:Tab}
theorem Il {i:Nat} {o:Oper} {orc:Orc} {ρ ρ':Operand->AV} {get:Nat->Option aF} (h:∀ x∈o.op.operands,ρ x=ρ' x):kF T i o orc ρ get=kF T i o orc ρ' get:=by
 obtain⟨dst,op,ty,pos,after,guard⟩:=o;have pairs:∀ ps:Array (Nat×Operand),(∀ x∈(ps.toList.map (·.2)).toArray,ρ x=ρ' x)->(ps.toList.map fun (j,x)=>(j,ρ x))=(ps.toList.map fun (j,x)=>(j,ρ' x)):=fun ps hp=>
  map_congr_left fun p hm=>by
   obtain⟨i,x⟩:=p;simp only[hp x (by simp only[List.mem_toArray];exact mem_map.2 ⟨(i,x),hm,rfl⟩)]
 cases op<;>simp only[Op.operands]at h<;>simp only[kF]
 case build t ps=>rw[pairs ps h]
 case buildSlice t n ps=>rw[pairs ps h]
 case makeFunc fn first captured=>
  have h1:first.toList.map ρ=first.toList.map ρ':=map_congr_left fun x hx=>h x (by simp;exact .inl (by simpa using hx))
  have h2:captured.toList.map ρ=captured.toList.map ρ':=map_congr_left fun x hx=>h x (by simp;exact .inr (by simpa using hx));cases fn<;>simp only[h1,h2]
 case call c=>
  obtain⟨callee,args,tys⟩:=c;cases callee<;>simp only
  case builtin b=>
   have h1:args.toList.map ρ=args.toList.map ρ':=map_congr_left fun x hx=>h x (by simp[Call.operands];simpa using hx);rw[h1]
 case slice t x lo hi mx=>
  have hx:=h x (by simp);cases mx with
  |some m=>rfl
  |none=>
   simp only[hx];cases lo<;>cases hi<;>simp_all
 case pick c a b=>rw[h c (by simp),h a (by simp),h b (by simp)]
 all_goals (first |rfl |(simp_all;done))
theorem lm:∀ (l:List Prop),(∀ p∈l,p)->fC l
 |[],_=>trivial
 |[q],h=>h q (by simp)
 |q::r::l,h=>⟨h q (by simp),lm (r::l) fun p hp=>h p (mem_cons_of_mem _ hp)⟩
theorem Qo {i:Nat} {o:Oper} {n:Int} {ρ ρ':Operand->AV} {get:Nat->Option aF} (h:∀ x∈o.op.operands,ρ x=ρ' x):jF T i o n ρ get=jF T i o n ρ' get:=by
 obtain⟨dst,op,ty,pos,after,guard⟩:=o;cases op<;>simp only[Op.operands]at h<;>simp only[jF]
 case binOp a b c d e=>rw[h c (by simp),h d (by simp)]
 case convert s d x=>rw[h x (by simp)]
 case index t x j=>rw[h x (by simp),h j (by simp)]
 case call c=>
  obtain⟨callee,args,tys⟩:=c;cases callee<;>simp only
  case builtin b=>
   have h1:args.toList.map ρ=args.toList.map ρ':=map_congr_left fun x hx=>h x (by simp[Call.operands];simpa using hx);rw[h1]
 case slice t x lo hi mx=>
  have hx:=h x (by simp);cases mx with
  |some m=>rfl
  |none=>
   simp only[hx];cases lo<;>cases hi<;>simp_all
end
def U7:Op->Bool
 | .pick .. =>true
 |_=>false
def Aa (P:Program) (T:Tab) (i:Nat) (o:Oper) (ids:List Nat) (fr:Operand->AV) (orc:Orc) (ρ:Operand->AV) (get:Nat->Option aF):Option Out:=
 if U7 o.op then none else (kF T i o orc fr (fun k=>if k∈ids then none else get k)).bind fun out=>
  some ⟨out.v,out.upd++ids.map (fun k=>(k,none)),out.obs++[∀ x∈o.op.operands,(Bor P get (ρ x) (fr x)∧∀ k∈refs (ρ x),k∈ids)∨fr x=ρ x]⟩
theorem Qp {P:Program} {T:Tab} {i:Nat} {o:Oper} {ids:List Nat} {fr:Operand->AV} {orc:Orc} {ρ ρ':Operand->AV} {get:Nat->Option aF} (h:∀ x∈o.op.operands,ρ x=ρ' x):Aa P T i o ids fr orc ρ get=Aa P T i o ids fr orc ρ' get:=by
 unfold Aa;have:(∀ x∈o.op.operands,(Bor P get (ρ x) (fr x)∧∀ k∈refs (ρ x),k∈ids)∨fr x=ρ x)=(∀ x∈o.op.operands,(Bor P get (ρ' x) (fr x)∧∀ k∈refs (ρ' x),k∈ids)∨fr x=ρ' x):=by
  apply propext;constructor<;>intro hh x hx
  ·rw[<- h x hx];exact hh x hx
  ·rw[h x hx];exact hh x hx
 rw[this]
section
variable {P:Program} {T:Tab} {w0:World} {O0:Was} {β:Nat->Option Blk} {I:Nat->Prop} {obj:Nat->Option aF} {w:World} {i:Nat}
theorem U8 (hT:bI P T) {op:BinOp} {t:TypeId} {x y:AV} {xo yo:Operand} {u v:Value} {out:Out} (ha:NA T op t x y=some out) (hx:VR P β w I x u) (hy:VR P β w I y v):
 ∃ z,(do eqGuard op t xo yo u v;binOp op t u v:Sem Value).run P w= .ok z w∧VR P β w I out.v z∧out.upd=[]:=by
 unfold NA at ha;cases hti:T t with
 |none=>simp[hti]at ha
 |some ti=>
  have ht:=hT t ti hti;simp only[hti,bind_some]at ha;have eq:∀ e a n c,P.underlying t=some (.slice e)->(Op.equal t (.slice a n c) (.slice none 0 0)).run P w= .ok a.isNone w:=by
   intro e a n c hu;have:∀ d,(Op.equalIn (d+1) t (.slice a n c) (.slice none 0 0)).run P w= .ok a.isNone w:=by
    intro d;cases a<;>simp[Op.equalIn,run_underlying hu]
   exact this 9999
  have main:∀ e,P.underlying t=some (.slice e)->∀ a n c,u= .slice a n c->v= .slice none 0 0->(op= .eql∨op= .neq)->
   (do eqGuard op t xo yo u v;binOp op t u v:Sem Value).run P w= .ok (.bool (if op= .eql then a.isNone else !a.isNone)) w:=by
   rintro e hu a n c rfl rfl (rfl |rfl)
   ·simp[eqGuard,binOp,eq e a n c hu]
   ·simp[eqGuard,binOp,eq e a n c hu]
  have fin:∀ e,P.underlying t=some (.slice e)->∀ a n c,u= .slice a n c->v= .slice none 0 0->∀ (bv:AV) (yes:Bool),U6 op bv yes=some out->
   (yes=false->a.isNone=false)->(yes=true->∀ q,(q=if op= .eql then a.isNone else !a.isNone)->VR P β w I bv (.bool q))->
   ∃ z,(do eqGuard op t xo yo u v;binOp op t u v:Sem Value).run P w= .ok z w∧VR P β w I out.v z∧out.upd=[]:=by
   intro e hu a n c h1 h2 bv yes hn hno hyes;unfold U6 at hn;split at hn
   ·simp only[pv,Option.some.injEq]at hn;subst hn;refine⟨_,main e hu a n c h1 h2 (.inl rfl),?_,rfl⟩;cases yes with
    |true=>exact hyes rfl _ rfl
    |false=>simp only[VR,TR,hno rfl];exact⟨by simp,trivial⟩
   ·simp only[pv,Option.some.injEq]at hn;subst hn;refine⟨_,main e hu a n c h1 h2 (.inr rfl),?_,rfl⟩;cases yes with
    |true=>exact hyes rfl _ rfl
    |false=>simp only[VR,TR,hno rfl];exact⟨by simp,trivial⟩
   ·cases hn
  split at ha
  ·rename_i e rows hk;have hu:=dF ht hk;simp only[VR]at hy;simp only[VR,TR]at hx;rcases hx with ⟨rfl,a,c,rfl,_⟩ |⟨b,off,c,sz,rfl,_⟩
   ·exact fin _ hu _ _ _ rfl hy _ _ ha (fun h=>by simp at h) (fun _ q _=>by simp only[VR];exact⟨q,rfl⟩)
   ·exact fin _ hu _ _ _ rfl hy _ _ ha (fun _=>rfl) (fun _ q _=>by simp only[VR];exact⟨q,rfl⟩)
  ·rename_i e k off len hk;have hu:=dF ht hk;simp only[VR]at hx hy;rcases hx with ⟨_,rfl,_,rfl⟩ |⟨b,sz,n,cap,o,_,rfl,_⟩
   ·exact fin _ hu _ _ _ rfl hy _ _ ha (fun h=>by simp at h) (fun _ q _=>by simp only[VR];exact⟨q,rfl⟩)
   ·exact fin _ hu _ _ _ rfl hy _ _ ha (fun _=>rfl) (fun _ q _=>by simp only[VR];exact⟨q,rfl⟩)
  ·rename_i e k len hk;have hu:=dF ht hk;simp only[VR]at hx hy;rcases hx with ⟨h0,rfl⟩ |⟨h0,b,sz,n,cap,o,_,rfl,_⟩
   ·refine fin _ hu _ _ _ rfl hy _ _ ha (fun h=>by simp[h0]at h) (fun _ q hq=>?_);simp only[VR,TR,hq];cases op<;>exact⟨by simp,trivial⟩
   ·exact fin _ hu _ _ _ rfl hy _ _ ha (fun _=>rfl) (fun h=>by simp[h0]at h)
  ·rename_i e hk;have hu:=dF ht hk;simp only[VR]at hx hy;subst hx;refine fin _ hu _ _ _ rfl hy _ _ ha (fun h=>by cases h) (fun _ q hq=>?_);simp only[VR,TR,hq];cases op<;>exact⟨by simp,trivial⟩
  ·cases ha
theorem R6 (hT:bI P T) {s d:TypeId} {x:AV} {u:Value} {out:Out} (ha:Xi T s d x=some out) (hx:VR P β w I x u):
 ∃ z,(convert s d u).run P w= .ok z w∧VR P β w I out.v z∧out.upd=[]:=by
 unfold Xi at ha;cases hsi:T s with
 |none=>simp[hsi]at ha
 |some si=>
  cases hdi:T d with
  |none=>simp[hsi,hdi]at ha
  |some di=>
   simp only[hsi,hdi,bind_some]at ha;split at ha
   ·rename_i k kk n hk;simp only[pv,Option.some.injEq]at ha;subst ha;obtain⟨info,dd,z,_,h2,_⟩:=(hT s si hsi).ex;obtain⟨info',dd',z',_,h2',_,_,_,_,_,h8⟩:=(hT d di hdi).ex;rw[hk]at h8;have h8:dd'= .int k:=h8;subst h8;simp only[VR,TR]at hx;obtain⟨rfl,_⟩:=hx;refine⟨.int k (k.wrap n),?_,by simp only[VR,TR];exact⟨trivial,trivial⟩,rfl⟩;simp[convert,run_underlying h2,run_underlying h2',Conv.intToInt]
   ·cases ha
theorem Qq (hT:bI P T) {t:TypeId} {x j:AV} {n:Int} {u v:Value} {out:Out} (ha:Ky T t x j n=some out) (hob:out.ob) (hx:VR P β w I x u) (hj:VR P β w I j v):
 ∃ z,(Instr.index t u v).run P w= .ok z w∧VR P β w I out.v z∧out.upd=[]:=by
 unfold Ky at ha;cases hti:T t with
 |none=>simp[hti]at ha
 |some ti=>
  simp only[hti,bind_some]at ha;split at ha
  ·rename_i s k m hk;simp only[pvo,Option.some.injEq]at ha;subst ha;obtain⟨h0,b,hb,rfl⟩:=hob;obtain⟨info',dd',z',_,h2',_,_,_,_,_,h8⟩:=(hT t ti hti).ex;rw[hk]at h8;have h8:dd'= .string:=h8;subst h8;simp only[VR,TR]at hx hj;obtain⟨rfl,_⟩:=hx;obtain⟨rfl,_⟩:=hj;refine⟨.int .u8 b.toNat,?_,by simp only[VR,TR];exact⟨trivial,trivial⟩,rfl⟩;simp[Instr.index,asIntOf,run_underlying h2',h0,hb]
  ·rename_i m e cs kd q hk;have hund:=wz (hT t ti hti) hk;cases hei:T e with
   |none=>simp[hei]at ha
   |some ei=>
    simp only[hei,bind_some]at ha;cases hp:part' ei.agg ei.size ((cs.drop (q.toNat*ei.size)).take ei.size)with
    |none=>simp[hp]at ha
    |some y=>
     simp only[hp,bind_some,pvo,Option.some.injEq]at ha;subst ha;have hob:0<=q∧q < (m:Int):=hob;simp only[VR,TR]at hx hj;obtain⟨vs,rfl,hvs⟩:=hx;obtain⟨rfl,_⟩:=hj;have he:=hT e ei hei;obtain⟨u,hu,hv⟩:=RZ he hp hvs;refine⟨u,?_,hv,rfl⟩;simp[Instr.index,asIntOf,run_underlying hund,hob.1,hob.2,he.size (w:=w)];simpa using hu
  ·cases ha
theorem Jg (hT:bI P T) {t:TypeId} {x:AV} {lo hi:Option AV} {out:Out} {v:Value} {lov hiv:Option Value}
 (ha:wB T t x lo hi=some out) (hob:out.ob) (hx:VR P β w I x v) (hlo:∀ x,lo=some x->∃ v,lov=some v∧VR P β w I x v) (hlo0:lo=none->lov=none) (hhi:∀ x,hi=some x->∃ v,hiv=some v∧VR P β w I x v) (hhi0:hi=none->hiv=none):
 ∃ u,(Instr.sliceAt t v lov hiv none).run P w= .ok u w∧VR P β w I out.v u∧out.upd=[]:=by
 unfold wB at ha;cases hti:T t with
 |none=>simp[hti]at ha
 |some ti=>
  have ht:=hT t ti hti;simp only[hti,bind_some]at ha;split at ha
  ·rename_i e hkd;cases hei:T e with
   |none=>simp[hei]at ha
   |some ei=>
    have he:=hT e ei hei;simp only[hei,bind_some]at ha;cases hl:bnd 0 lo with
    |none=>simp[hl]at ha
    |some l=>
     cases hh:bnd 0 hi with
     |none=>simp[hl,hh]at ha
     |some r=>
      simp only[hl,hh,bind_some,pvo,Option.some.injEq]at ha;subst ha;obtain⟨rfl,rfl⟩:=hob;simp only[VR]at hx;subst hx;have:=zu (P:=P) (w:=w) (len:=0) (cap:=0) (rG hl hlo hlo0) (rG hh hhi hhi0) (by omega) (by omega) (by omega);refine⟨.slice none 0 0,?_,by simp only[VR],rfl⟩;simp[Instr.sliceAt,Instr.slice,run_underlying (dF ht hkd),this,he.size (w:=w)]
  ·cases ha
theorem ORows.congr:∀ (rows:List (List AV)) (c c':Array Value) (off sz:Nat),(∀ j,j < off+rows.length*sz->c'[j]? =c[j]?)->ORows P β w I rows c off sz->ORows P β w I rows c' off sz
 |[],_,_,_,_,_,_=>trivial
 |r::rs,c,c',off,sz,hc,⟨h1,h2,h3⟩=>by
  have hl:(r::rs).length*sz=sz+rs.length*sz:=by rw[length_cons,Nat.add_mul];omega
  rw[hl]at hc;refine⟨h1,?_,ORows.congr rs c c' (off+sz) sz (fun j hj=>hc j (by omega)) h3⟩;rw[gG]at h2 ⊢;intro j x hx;have hj:=(List.getElem?_eq_some_iff.1 hx).1;rw[hc (off+j) (by omega)];exact h2 j x hx
theorem ORows.zeros (z:List Value) (sz:Nat) (hz:z.length=sz) (h1:∀ v∈z,oneCell v):∀ (n:Nat) (c:Array Value) (off:Nat),(∀ i j,i < n->j < sz->c[off+i*sz+j]? =z[j]?)->ORows P β w I (List.replicate n (z.map cv)) c off sz
 | 0,_,_,_=>trivial
 |n+1,c,off,hc=>by
  rw[List.replicate_succ];refine⟨by simpa using hz,?_,ORows.zeros z sz hz h1 n c (off+sz) fun i j hi hj=>?_⟩
  ·rw[gG];intro j x hx;simp only[List.getElem?_map,Option.map_eq_some_iff]at hx;obtain⟨v,hv,rfl⟩:=hx;have hj:=(List.getElem?_eq_some_iff.1 hv).1;refine⟨v,?_,VR.cv,h1 v (List.mem_of_getElem? hv)⟩;have:=hc 0 j (by omega) (by omega);rw[Nat.zero_mul,Nat.add_zero]at this;rw[this];exact hv
  ·have:=hc (i+1) j (by omega) hj;rw[show off+sz+i*sz+j=off+(i+1)*sz+j by rw[Nat.add_mul];omega];exact this
theorem Db (z:Array Value) (n j:Nat) (h:j < n*z.size):(Builtin.zeroCells z n)[j]? =z[j%z.size]? :=by
 have hz:0 < z.size:=Nat.pos_of_ne_zero fun e=>by rw[e]at h;omega
 have hm:j%z.size < z.size:=Nat.mod_lt _ hz;simp[Builtin.zeroCells,h,hm]
theorem Jh (hT:bI P T) (h:Mem P w0 O0 β I obj w) (hn:β (nid i)=none) {b:Builtin} {args:List AV} {tys:Array TypeId} {get:Nat->Option aF} {out:Out} (hg:∀ k o,get k=some o->obj k=some o)
 {vs:Array Value} {ty:TypeId} {ops:Array Operand} (ha:nN T i b args tys.toList get=some out) (hob:out.ob) (hv:VRl P β w I args vs.toList) {r:Operand->Value} (hops:vs=ops.map r) {dst:Option Tmp} {pos:String} {after:Array Edge} {guard:Option (Nat×Bool)}:
 Did P w0 O0 β I obj w i out ((execOp r ⟨dst,.call { callee:= .builtin b,args:=ops,argTypes:=tys },ty,pos,after,guard⟩).run P w):=by
 unfold nN at ha;split at ha
 ·rename_i t htys;obtain⟨v,hvs⟩:∃ v,vs=#[v]:=by
   obtain⟨l⟩:=vs
   match l,hv with
   |[v],_=>exact⟨v,rfl⟩
   |[],h=>simp[VRl]at h
   |_::_::_,h=>simp[VRl]at h
  have ht:tys=#[t]:=by cases tys;simpa using htys
  subst hvs ht;simp only[VRl,VR]at hv;cases hti:T t with
  |none=>simp[hti]at ha
  |some ti=>
   simp only[hti,bind_some]at ha;split at ha
   ·rename_i e hk;simp only[pv,Option.some.injEq]at ha;subst ha;refine⟨.int .i64 0,w,β,I,.inl ?_,Step.refl ..,h,by simp only[VR,TR];exact⟨trivial,trivial⟩⟩;rw[hv.1]at hops;simp[execOp,resolve,invoke,builtin,<- hops,Builtin.cap_,run_underlying (dF (hT t ti hti) hk),goInt]
   ·cases ha
 ·rename_i k off len t htys;obtain⟨v,hvs⟩:∃ v,vs=#[v]:=by
   obtain⟨l⟩:=vs
   match l,hv with
   |[v],_=>exact⟨v,rfl⟩
   |[],h=>simp[VRl]at h
   |_::_::_,h=>simp[VRl]at h
  have ht:tys=#[t]:=by cases tys;simpa using htys
  subst hvs ht;simp only[VRl]at hv;have hv:=hv.1;cases hti:T t with
  |none=>simp[hti]at ha
  |some ti=>
   simp only[hti,bind_some]at ha;split at ha
   ·rename_i e hkd;cases hei:T e with
    |none=>simp[hei]at ha
    |some ei=>
     cases hk:get k with
     |none=>simp[hei,hk]at ha
     |some o=>
      simp only[hei,hk,bind_some]at ha;split at ha
      ·rename_i hsz;injection ha with ha;subst ha;have he:=hT e ei hei;have hund:=dF (hT t ti hti) hkd;obtain⟨info,d,z,g1,g2,g3,g4,g5,g6,g7,g8⟩:=he.ex;have hko:=hg k o hk;have weak:∀ {w':World},Mem P w0 O0 β I obj w'->Mem P w0 O0 β I (aL obj [(k,some ⟨o.sz,o.rows.take off⟩)]) w':=by
        intro w' hm;refine hm.weak fun j o' hj=>?_;simp only[aL]at hj;split at hj
        ·rename_i e;subst e;injection hj with hj;subst hj;refine⟨o,hko,fun B hB hO=>?_⟩;cases B with
         |none=>simp only[OR]at hO ⊢;simp[hO]
         | «at» b s n=>
          obtain⟨h1,c,e,h2,h3,h4⟩:=hO;exact⟨h1,c,e,h2,h3,ORows.take _ _ _ _ _ h4⟩
         |mp b=>
          obtain⟨es,cl,h1,hle,h2,h3⟩:=hO;refine⟨es,cl,h1,by simp only[length_take];omega,fun e=>?_,h3⟩;simp only[length_take]at e;simp only;rw[List.take_of_length_le (by omega)];exact h2 (by omega)
        ·exact⟨o',hj,fun _ _ h=>h⟩
       have hdone:∀ w',(Builtin.clear_ #[t] ty #[v]).run P w= .ok (.tuple #[]) w'->(execOp r ⟨dst,.call { callee:= .builtin .clear,args:=ops,argTypes:=#[t] },ty,pos,after,guard⟩).run P w= .ok (.value (.tuple #[])) w':=by
        intro w' hw;simp[execOp,resolve,invoke,builtin,<- hops,hw]
       have htup:∀ {w':World},VR P β w' I (.tup []) (.tuple #[]):=by
        intro w';simp only[VR];exact⟨#[],rfl,trivial⟩
       simp only[VR]at hv;rcases hv with ⟨h1,rfl,_,rfl⟩ |⟨b,sz,m,cap,a,h1,rfl,h2,h3,h4⟩
       ·exact⟨_,w,β,I,.inl (hdone w (by simp[Builtin.clear_,run_underlying hund])),Step.refl ..,weak h,htup⟩
       ·by_cases h0:len=0
        ·subst h0;exact⟨_,w,β,I,.inl (hdone w (by simp[Builtin.clear_,run_underlying hund])),Step.refl ..,weak h,htup⟩
        ·obtain⟨B,hB,hO⟩:=h.objs k o hko;rw[h1]at hB;injection hB with hB;subst hB;obtain⟨hs,c,ce,hc,hcn,hO⟩:=hO;have ha':a=m.s+off*sz:=h4 (by omega);subst ha';have hzs:z.cells.size=ei.size:=(by rw[<- Array.length_toList,g6];exact he.len);have hzl:(Builtin.zeroCells z.cells len).toList.length=len*ei.size:=(by simp[size_zeroCells,hzs]);have hfit:m.s+off*sz+len*ei.size<=c.size:=by
          rw[hcn,<- hsz,<- hs,Nat.add_assoc,<- Nat.add_mul];have:(off+len)*sz<=(off+cap)*sz:=Nat.mul_le_mul_right _ (by omega);omega
         have hone:∀ u∈(Builtin.zeroCells z.cells len).toList,u.oneCell'=true:=by
          intro u hu;obtain⟨j,hj⟩:=List.getElem?_of_mem hu;have hjl:=(List.getElem?_eq_some_iff.1 hj).1;rw[hzl,<- hzs]at hjl;rw[Array.getElem?_toList,Db _ _ _ hjl]at hj;have:u∈ei.zero:=(by rw[<- g6];exact Array.mem_toList_iff.2 (Array.mem_of_getElem? hj));exact oneCell' (jZ (all_eq_true.1 he.one u this))
         have hst:=run_storeCells_at P b (m.s+off*sz) ce (Builtin.zeroCells z.cells len).toList 0 c w hc (by rw[hzl];omega) hone;simp only[Nat.add_zero]at hst;generalize hcc:(List.take (m.s+off*sz) c.toList++(Builtin.zeroCells z.cells len).toList++List.drop (m.s+off*sz+(Builtin.zeroCells z.cells len).toList.length) c.toList).toArray=cc at hst;have hccs:cc.size=c.size:=(by rw[<- hcc];simp[length_take,length_drop,size_zeroCells,hzs];omega);have hzv:(zeroValue e).run P w= .ok z w:=(by simp[zeroValue,typeInfo,g1,g5]);have hrun:(Builtin.clear_ #[t] ty #[.slice (some ⟨b,m.s+off*sz,none⟩) len cap]).run P w= .ok (.tuple #[]) (w.setRow b cc):=by
          obtain⟨len',rfl⟩:∃ len',len=len'+1:=⟨len - 1,by omega⟩;simp[Builtin.clear_,run_underlying hund,hzv,hst]
         obtain⟨hSame,hM⟩:=Mem.write (o':=⟨o.sz,o.rows.take off⟩) h hko h1 (c':=cc) (e:=ce) (setRow_heap w b c cc ce (0,0) hc) (fun b' hb=>setRow_other w b b' cc hb) (by simp) rfl rfl rfl hs (by omega) (by
          refine ORows.congr _ c cc m.s o.sz (fun j hj=>?_) (by rw[<- hs];exact ORows.take _ _ _ _ _ hO);have hj2:j < m.s+off*sz:=by
           rw[hs];refine Nat.lt_of_lt_of_le hj (Nat.add_le_add_left ?_ _);exact Nat.mul_le_mul_right _ (by simp[length_take];omega)
          rw[<- hcc,List.getElem?_toArray,List.append_assoc,List.getElem?_append_left (by simp[length_take];omega),List.getElem?_take,if_pos hj2,Array.getElem?_toList])
         exact⟨_,_,β,I,.inl (hdone _ hrun),⟨fun _ _=>rfl,fun _ _ h=>h,hSame,fun _ h=>h⟩,hM,htup⟩
      ·cases ha
   ·cases ha
 ·rename_i kk m t u htys;obtain⟨v,v',hvs⟩:∃ v v',vs=#[v,v']:=by
   obtain⟨l⟩:=vs
   match l,hv with
   |[v,v'],_=>exact⟨v,v',rfl⟩
   |[],h=>simp[VRl]at h
   |[_],h=>simp[VRl]at h
   |_::_::_::_,h=>simp[VRl]at h
  have ht:tys=#[t,u]:=by cases tys;simpa using htys
  subst hvs ht;simp only[VRl,VR,TR]at hv;obtain⟨rfl,⟨rfl,_⟩,_⟩:=hv;cases hti:T t with
  |none=>simp[hti]at ha
  |some ti=>
   cases hui:T u with
   |none=>simp[hti,hui]at ha
   |some ui=>
    simp only[hti,hui,bind_some]at ha;split at ha
    ·rename_i e kn hkd hku;cases hei:T e with
     |none=>simp[hei]at ha
     |some ei=>
      simp only[hei,bind_some,Option.some.injEq]at ha;subst ha;obtain⟨m0,m48,m63,mpos⟩:=hob;have he:=hT e ei hei;have hund:=dF (hT t ti hti) hkd;obtain⟨info,d,z,g1,g2,g3,g4,g5,g6,g7,g8⟩:=he.ex;obtain⟨_,dd',_,_,h2',_,_,_,_,_,h8⟩:=(hT u ui hui).ex;rw[hku]at h8;have h8:dd'= .int kn:=h8;subst h8;obtain⟨n,rfl⟩:∃ n:Nat,m=(n:Int):=⟨m.toNat,by omega⟩;simp only[Int.toNat_natCast]at m48 m63 ⊢;by_cases h0:n=0
      ·subst h0;obtain⟨hS,hM⟩:=Mem.addNil (i:=nid i) (o:=⟨ei.size,[]⟩) h hn rfl;have hrun:(Builtin.append_ #[t,u] ty #[.slice none 0 0,.int kk ((0:Nat):Int)]).run P w= .ok (.slice none 0 0) w:=by
        have hw0:i64.wrap (0:Int)=0:=(by decide);simp[Builtin.append_,run_underlying hund,run_underlying h2',sizeOf,typeInfo,g1,asInt,asIntOf,hw0]
       replace hrun:(Builtin.append_ #[t,u] ty #[.slice none 0 0,.int kk 0]).run P w= .ok (.slice none 0 0) w:=hrun
       refine⟨.slice none 0 0,w,_,I,.inl (by simp[execOp,resolve,invoke,builtin,<- hops,hrun]),hS,by simpa[bA]using hM,by simp only[VR];exact .inl ⟨by simp[ins],trivial,trivial,trivial⟩⟩
      ·have hrun:=Lib.run_append_nil_zeros (P:=P) w t u ty e info z kk kn hund h2' g1 g5 n (by omega) (by omega) (by simp only[maxLen]at m63;omega) (by rw[g4];omega);have hd:=h.drew;have hzs:z.cells.size=ei.size:=(by rw[<- Array.length_toList,g6];exact he.len);have hge:=grownCap_ge w n 0 e;generalize hC:Builtin.zeroCells z.cells n++Builtin.zeroCells z.cells (grownCap w n 0 e - n)=cs at hrun;have hcs:cs.size=grownCap w n 0 e*ei.size:=by
        rw[<- hC];simp only[Array.size_append,size_zeroCells,hzs,<- Nat.add_mul];rw[show n+(grownCap w n 0 e - n)=grownCap w n 0 e by omega]
       obtain⟨hS,hM⟩:=Mem.alloc (i:=nid i) (o:=⟨ei.size,List.replicate n (ei.zero.map cv)⟩) (c:=cs) (e:=e) hd hn (by
        refine ORows.zeros ei.zero ei.size he.len (fun v hv=>jZ (all_eq_true.1 he.one v hv)) n cs 0 (fun i j hi hj=>?_);have hlt:0+i*ei.size+j < n*ei.size:=by
         have:(i+1)*ei.size<=n*ei.size:=Nat.mul_le_mul_right _ (by omega);rw[Nat.add_mul]at this;omega
        rw[<- hC,Array.getElem?_append_left (by simpa[size_zeroCells,hzs]using hlt),Db _ _ _ (by rw[hzs];exact hlt),hzs,<- g6,Array.getElem?_toList];congr 1;rw[Nat.zero_add,Nat.mul_comm,Nat.mul_add_mod,Nat.mod_eq_of_lt hj])
       refine⟨_,_,_,I,.inl (by simp[execOp,resolve,invoke,builtin,<- hops,hrun];rfl),⟨hS.other,hS.ext,fun b hb=>hS.same b hb,hS.inc⟩,hM.wkAt,?_⟩;simp only[VR];refine .inr ⟨w.heap.size,ei.size,_,_,0,by simp[ins];rfl,rfl,hge,?_,by simp⟩;rw[hcs,Nat.zero_add];simp
    ·cases ha
 ·cases ha
theorem Qr (hT:bI P T) (h:Mem P w0 O0 β I obj w) (hn:β (nid i)=none) {o:Oper} {n:Int} {ρ:Operand->AV} {get:Nat->Option aF} {out:Out} (hg:∀ k o,get k=some o->obj k=some o)
 {r:Operand->Value} (hρ:∀ x,VR P β w I (ρ x) (r x)) (ha:jF T i o n ρ get=some out) (hob:out.ob):Did P w0 O0 β I obj w i out ((execOp r o).run P w):=by
 obtain⟨dst,op,ty,pos,after,guard⟩:=o;have val:∀ {s:Sem Value} {z:Value},s.run P w= .ok z w->out.upd=[]->VR P β w I out.v z->Did P w0 O0 β I obj w i out ((do pure (.value (<- s)):Sem Next).run P w):=by
  intro s z h1 h2 h3;refine⟨z,w,β,I,.inl (by simp[h1]),Step.refl ..,by rw[h2];exact h,h3⟩
 unfold jF at ha;split at ha
 ·rename_i bop t x y q heq;simp only at heq;subst heq;obtain⟨z,h1,h2,h3⟩:=U8 (xo:=x) (yo:=y) hT ha (hρ x) (hρ y);exact val h1 h3 h2
 ·rename_i s d x heq;simp only at heq;subst heq;obtain⟨z,h1,h2,h3⟩:=R6 hT ha (hρ x);exact val h1 h3 h2
 ·rename_i t x j heq;simp only at heq;subst heq;obtain⟨z,h1,h2,h3⟩:=Qq hT ha hob (hρ x) (hρ j);exact val h1 h3 h2
 ·rename_i t x lo hi heq;simp only at heq;subst heq;obtain⟨z,h1,h2,h3⟩:=Jg (lov:=lo.map r) (hiv:=hi.map r) hT ha hob (hρ x) (fun y hy=>by
   cases lo with
   |none=>cases hy
   |some q=>injection hy with hy;subst hy;exact⟨r q,rfl,hρ q⟩) (fun h=>by cases lo<;>first |rfl |cases h) (fun y hy=>by
   cases hi with
   |none=>cases hy
   |some q=>injection hy with hy;subst hy;exact⟨r q,rfl,hρ q⟩) (fun h=>by cases hi<;>first |rfl |cases h)
  exact val h1 h3 h2
 ·rename_i b args tys heq;simp only at heq;subst heq;exact Jh hT h hn hg ha hob (by rw[Array.toList_map];exact VRl.map hρ _) rfl
 ·cases ha
theorem Qs (hT:bI P T) (h:Mem P w0 O0 β I obj w) (hn:β (nid i)=none) {o:Oper} {ids:List Nat} {fr:Operand->AV} {orc:Orc} {ρ:Operand->AV} {get:Nat->Option aF} {out:Out} (hg:∀ k o,get k=some o->obj k=some o)
 {r:Operand->Value} (hρ:∀ x,VR P β w I (ρ x) (r x)) (ha:Aa P T i o ids fr orc ρ get=some out) (hob:out.ob):Did P w0 O0 β I obj w i out ((execOp r o).run P w):=by
 unfold Aa at ha;split at ha
 ·cases ha
 rw[ai]at ha;obtain⟨out',h1,h2⟩:=ha;injection h2 with h2;subst h2;have hob:=kS _ hob;have hb:=hob (∀ x∈o.op.operands,(Bor P get (ρ x) (fr x)∧∀ k∈refs (ρ x),k∈ids)∨fr x=ρ x) (by simp);have hsub:∀ k o',aL obj (ids.map fun k=>(k,none)) k=some o'->obj k=some o'∧k∉ids:=by
  intro k o' hk;rw[rH]at hk;split at hk
  ·cases hk
  ·exact⟨hk,‹_›⟩
 have hd:=h.drop (aL obj (ids.map fun k=>(k,none))) (fun k o hk=>(hsub k o hk).1);obtain⟨_,hM⟩:=hd.below (I':=Lent β obj ids I) (w':=w) ⟨rfl,rfl,rfl,Nat.le_refl _,fun _ _=>rfl⟩ (fun b hb=> .inl hb) (Et h ids) (fun b k o B hb' e1 e2 e3=>by
  obtain⟨f1,f2⟩:=hsub k o e1;obtain⟨a1,_,_⟩:=h.ownB k o B b f1 e2 e3;rcases hb' with h5 |⟨k',o',s',n',g1,g2,g3⟩
  ·exact a1 h5
  ·have:=h.injL k k' o o' b f1 g2 ⟨B,e2,e3⟩ (.at g3);subst this;exact f2 g1) (fun b hb'=>by
  rcases hb' with h5 |⟨k',o',s',n',g1,g2,g3⟩
  ·exact h.up b h5
  ·exact .inr (h.own k' o' b s' n' g2 g3).2.2)
 have hfr:∀ x,VR P β w (Lent β obj ids I) ((fun x=>open Classical in if x∈o.op.operands then fr x else .undef) x) (r x):=by
  intro x;by_cases hx:x∈o.op.operands
  ·simp only[hx,if_true];rcases hb x hx with ⟨b1,b2⟩ |b1
   ·exact VR.mono (fun k B h=>by simp[nob]at h) (fun _ _=>rfl) (fun _ h=>h) _ _ (Bor.sound h ids _ _ _ b2 (Bor.weaken hg _ _ b1) (hρ x))
   ·rw[b1];exact VR.mono (fun _ _ h=>h) (fun _ _=>rfl) (fun _ h=> .inl h) _ _ (hρ x)
  ·simp only[hx,if_false,VR]
 rw[Il (ρ':=fun x=>open Classical in if x∈o.op.operands then fr x else .undef) (fun x hx=>by simp only[hx,if_true])]at h1;obtain⟨v',w',β',I',k1,k2,k3,k4⟩:=Ij hT hM hn (fun k o' hk=>by
  rw[rH];split at hk
  ·cases hk
  ·rw[if_neg ‹_›];exact hg k o' hk) hfr h1 (lm _ fun p hp=>hob p (by simp[hp]))
 refine⟨v',w',β',I',k1,⟨k2.other,k2.ext,fun b hb=>k2.same b (.inl hb),fun b hb=>k2.inc b (.inl hb)⟩,?_,k4⟩;have e:aL obj (out'.upd++ids.map fun k=>(k,none))=aL (aL obj (ids.map fun k=>(k,none))) out'.upd:=funext fun k=>lT obj _ _ k;rw[e];exact k3
end
open Go.RowKit Go.MapKept
def Ew:TyK->Value->Bool
 | .int a,.int b _=>decide (a=b)
 | .str,.string _=>true
 | .bool,.bool _=>true
 |_,_=>false
def Im:Value->Value->Option Bool
 | .int k a,.int k' b=>if k=k' then some (a==b)else none
 | .string a,.string b=>some (a.toList==b.toList)
 | .bool a,.bool b=>some (a==b)
 |_,_=>none
def Io (key:Value):List (List AV)->Option (Option (Nat×AV))
 |[]=>some none
 |[.t (.sc kv),y]::rs=>(Im key kv).bind fun b=>if b then some (some (0,y))else (Io key rs).map fun r=>r.map fun p=>(p.1+1,p.2)
 |_=>none
def Qt (key:Value) (y':AV):List (List AV)->Option (List (List AV))
 |[]=>some [[.t (.sc key),y']]
 |[.t (.sc kv),y]::rs=>(Im key kv).bind fun b=>if b then some ([.t (.sc key),y']::rs)else (Qt key y' rs).map fun r=>[.t (.sc kv),y]::r
 |_=>none
def wkV:AV->AV
 | .agg cs=> .agg (cs.map wk)
 |x=>wk x
def Ab (T:Tab) (i:Nat) (t:TypeId):Option Out:=
 (T t).bind fun ti=>match ti.k with
 | .map _ _=>some ⟨.mp (nid i),[(nid i,some ⟨0,[]⟩)],[]⟩
 |_=>none
def orZ (r:Option (Nat×AV)) (z:Option AV):Option AV:=match r with
 |some p=>some p.2
 |none=>z
def BM (T:Tab) (t:TypeId) (x key:AV) (ok:Bool) (get:Nat->Option aF):Option Out:=
 (T t).bind fun ti=>match ti.k,x,key with
 | .map kt et,.mp k,.t (.sc kv)=>(T kt).bind fun ki=>(T et).bind fun ei=>(get k).bind fun o=>if Ew ki.k kv=true∧o.sz=o.rows.length then (Io kv o.rows).bind fun r=>
  (orZ r (part' ei.agg ei.size ((ei.zero.map cv).map wk))).bind fun v=>pv (if ok then .tup [v,.t (.sc (.bool r.isSome))]else v)else none
 |_,_,_=>none
def Ey (T:Tab) (t:TypeId) (x key y:AV) (get:Nat->Option aF):Option Out:=
 (T t).bind fun ti=>match ti.k,x,key with
 | .map kt _,.mp k,.t (.sc kv)=>(T kt).bind fun ki=>(get k).bind fun o=>if Ew ki.k kv=true∧o.sz=o.rows.length then (Qt kv (wkV y) o.rows).bind fun rs=>
  some ⟨.undef,[(k,some ⟨rs.length,rs⟩)],[]⟩else none
 |_,_,_=>none
section
variable {P:Program} {T:Tab} {w0:World} {O0:Was} {β:Nat->Option Blk} {I:Nat->Prop} {obj:Nat->Option aF} {w:World} {i:Nat}
theorem X7 {k:TyK} {v:Value} {d:TypeDesc} (h:Ew k v=true) (hd:kOk k d):IsKey d v:=by
 unfold Ew at h;split at h
 ·rename_i a b n;have hd:d= .int a:=hd;subst hd;simp only[decide_eq_true_eq]at h;subst h;simp[IsKey]
 ·have hd:d= .string:=hd;subst hd;simp[IsKey]
 ·have hd:d= .bool:=hd;subst hd;simp[IsKey]
 ·cases h
theorem OG {d:TypeDesc} {a b:Value} (ha:IsKey d a) {r:Bool} (h:Im a b=some r):Instr.sameNow d a b=some r∧(r=true->a=b)∧IsKey d b:=by
 unfold Im at h;split at h
 ·rename_i k x k' y;split at h
  ·rename_i hk;subst hk;injection h with h;subst h;cases d<;>simp only[IsKey]at ha ⊢
   all_goals first |exact ha.elim |skip
   subst ha;refine⟨by simp[Instr.sameNow],fun hh=>?_,rfl⟩;rw[eq_of_beq hh]
  ·cases h
 ·rename_i x y;injection h with h;subst h;cases d<;>simp only[IsKey]at ha ⊢
  all_goals first |exact ha.elim |skip
  have e:(x==y)=(x.toList==y.toList):=by
   rw[Bool.eq_iff_iff,bytes_beq];constructor
   ·rintro rfl;simp
   ·intro hh;have:=eq_of_beq hh;cases x;cases y;simp only[ByteArray.toList_eq]at this;congr 1;exact Array.ext' this
  refine⟨by simp[Instr.sameNow,e],fun hh=>?_,trivial⟩;rw[(bytes_beq x y).1 (e ▸ hh)]
 ·rename_i x y;injection h with h;subst h;cases d<;>simp only[IsKey]at ha ⊢
  all_goals first |exact ha.elim |skip
  exact⟨by simp[Instr.sameNow],fun hh=>by rw[eq_of_beq hh],trivial⟩
 ·cases h
theorem Ip {d:TypeDesc} {key:Value} (hk:IsKey d key):∀ (rows:List (List AV)) (es:List MapEntry) (i:Nat) (r:Option (Nat×AV)),MRows P β w I rows es->Io key rows=some r->
 (r=none∧Instr.findNow d key es i=some none)∨∃ j y e,r=some (j,y)∧Instr.findNow d key es i=some (some (i+j,e.val))∧es[j]? =some e∧e.key=key∧VR P β w I y e.val
 |[],[],i,r,_,h=>by simp only[Io,Option.some.injEq]at h;exact .inl ⟨h.symm,rfl⟩
 |row::rows,e::es,i,r,hm,h=>by
  obtain⟨h1,h2⟩:=hm;unfold Io at h;split at h
  ·rename_i heq;cases heq
  ·rename_i kv y rs heq;injection heq with e1 e2;subst e1;subst e2;simp only[VRl,VR,TR]at h1;obtain⟨⟨g1,_⟩,g2,_⟩:=h1;rw[ai]at h;obtain⟨b,h3,h⟩:=h;rw[<- g1]at h3;obtain⟨q1,q2,_⟩:=OG hk h3;cases b with
   |true=>
    simp only[if_true,Option.some.injEq]at h;subst h;exact .inr ⟨0,y,e,rfl,by simp[Instr.findNow,q1],rfl,(q2 rfl).symm,g2⟩
   |false=>
    simp only[Bool.false_eq_true,if_false,Option.map_eq_some_iff]at h;obtain⟨r',h4,rfl⟩:=h;rcases Ip hk rows es (i+1) r' h2 h4 with ⟨rfl,a2⟩ |⟨j,y',e',rfl,a2,a3,a4,a5⟩
    ·exact .inl ⟨rfl,by simp[Instr.findNow,q1,a2]⟩
    ·exact .inr ⟨j+1,y',e',rfl,by simp only[Instr.findNow,q1,a2];congr 3;omega,by simpa using a3,a4,a5⟩
  ·cases h
 |[],_::_,_,_,hm,_=>hm.elim
 |_::_,[],_,_,hm,_=>hm.elim
theorem Kz {d:TypeDesc} {key v:Value} {y':AV} (hk:IsKey d key) (hv:VR P β w I y' v) (hkv:oneCell key):∀ (rows:List (List AV)) (es:List MapEntry) (i:Nat) (rs':List (List AV)),MRows P β w I rows es->Qt key y' rows=some rs'->
 (Instr.findNow d key es i=some none∧∀ n,MRows P β w I rs' (es++[⟨key,v,n⟩]))∨∃ j e,Instr.findNow d key es i=some (some (i+j,e.val))∧es[j]? =some e∧e.key=key∧MRows P β w I rs' (es.modify j fun e=>{ e with key:=key,val:=v })
 |[],[],i,r,_,h=>by
  simp only[Qt,Option.some.injEq]at h;subst h;refine .inl ⟨rfl,fun n=>?_⟩;simp only[List.nil_append,MRows,VRl,VR,TR];exact⟨⟨⟨trivial,hkv⟩,hv,trivial⟩,trivial⟩
 |row::rows,e::es,i,r,hm,h=>by
  obtain⟨h1,h2⟩:=hm;unfold Qt at h;split at h
  ·rename_i heq;cases heq
  ·rename_i kv y rs heq;injection heq with e1 e2;subst e1;subst e2;have h1':=h1;simp only[VRl,VR,TR]at h1;obtain⟨⟨g1,g1'⟩,g2,_⟩:=h1;rw[ai]at h;obtain⟨b,h3,h⟩:=h;rw[<- g1]at h3;obtain⟨q1,q2,_⟩:=OG hk h3;cases b with
   |true=>
    simp only[if_true,Option.some.injEq]at h;subst h;refine .inr ⟨0,e,by simp[Instr.findNow,q1],rfl,(q2 rfl).symm,?_⟩;simp only[List.modify_zero_cons,MRows,VRl,VR,TR];exact⟨⟨⟨trivial,hkv⟩,hv,trivial⟩,h2⟩
   |false=>
    simp only[Bool.false_eq_true,if_false,Option.map_eq_some_iff]at h;obtain⟨r',h4,rfl⟩:=h;rcases Kz hk hv hkv rows es (i+1) r' h2 h4 with ⟨a1,a2⟩ |⟨j,e',a1,a2,a3,a4⟩
    ·exact .inl ⟨by simp[Instr.findNow,q1,a1],fun n=>⟨h1',a2 n⟩⟩
    ·refine .inr ⟨j+1,e',by simp only[Instr.findNow,q1,a1];congr 3;omega,by simpa using a2,a3,?_⟩;simp only[List.modify_succ_cons,MRows];exact⟨h1',a4⟩
  ·cases h
 |[],_::_,_,_,hm,_=>hm.elim
 |_::_,[],_,_,hm,_=>hm.elim
theorem Mem.writeM {k:Nat} {o o':aF} {b:Nat} {es:Array MapEntry} {cl:Nat} {w':World} (h:Mem P w0 O0 β I obj w) (hk:obj k=some o) (hβ:β k=some (.mp b))
 (hnew:w'.heap[b]? =some (.map es cl)) (hother:∀ b',b'≠b->w'.heap[b']? =w.heap[b']?) (hsize:w'.heap.size=w.heap.size) (hos:w'.os=w.os) (htape:w'.tape=w.tape) (hout:w'.output=w.output)
 (hle:o'.rows.length<=o'.sz) (hr:MRows P β w I o'.rows es.toList) (hnd:(es.toList.map (·.born)).Nodup) (hlt':∀ e∈es.toList,e.born < cl):
 Same I w w'∧Mem P w0 O0 β I (aL obj [(k,some o')]) w':=by
 obtain⟨hnI,hlt,hO⟩:=h.ownL k o b hk ⟨_,hβ,rfl⟩;have hs:Same I w w':=fun b' hb=>hother b' (fun e=>hnI (e ▸ hb));have hx:∀ (j:Nat) (o1:aF),aL obj [(k,some o')] j=some o1->∃ o2,obj j=some o2:=fun j o1 h=>by
  simp only[aL]at h;split at h
  ·rename_i e;exact⟨o,by rw[e];exact hk⟩
  ·exact⟨_,h⟩
 refine⟨hs,?_⟩;constructor
 ·intro j oj hj;simp only[aL]at hj;split at hj
  ·rename_i hjk;injection hj with hj;subst hj;exact⟨.mp b,by rw[hjk];exact hβ,es,cl,hnew,hle,fun _=>MRows.mono (fun _ _ h=>h) hs (fun _ h=>h) _ _ hr,hnd,hlt'⟩
  ·rename_i hjk;obtain⟨B,hB,hOR⟩:=h.objs j oj hj;refine⟨B,hB,OR.mono (fun _ _ h=>h) hs (fun _ h=>h) (fun b1 e1=>hother b1 (fun e2=>hjk ?_)) hOR⟩;subst e2;exact h.injB j k oj o B _ b1 hj hk hB hβ e1 rfl
 ·intro j j' o1 o2 B1 B2 b1 h1 h2 h3 h4 h5 h6;obtain⟨p1,q1⟩:=hx j o1 h1;obtain⟨p2,q2⟩:=hx j' o2 h2;exact h.injB j j' p1 p2 B1 B2 b1 q1 q2 h3 h4 h5 h6
 ·intro j o1 B1 b1 h1 h2 h3;obtain⟨p1,q1⟩:=hx j o1 h1;have:=h.ownB j p1 B1 b1 q1 h2 h3;rw[hsize];exact this
 ·intro b1 hb1;rw[hsize];exact h.lt b1 hb1
 ·exact h.up
 ·intro b1 hb1 hno;rw[hother b1 (fun e1=>?_)]
  ·exact h.keep b1 hb1 hno
  ·subst e1;rcases hO with hO |hO
   ·exact hno hO
   ·omega
 ·rw[hsize];exact h.le
 ·rw[hos];exact h.os
 ·rw[htape];exact h.tape
 ·rw[hout];exact h.output
 ·exact h.anch
 ·exact h.vars.mono hs (fun _ h=>h)
theorem Mem.allocM (h:Mem P w0 O0 β I obj w) (hn:β i=none):
 Step β I w i (ins β i (.mp w.heap.size)) I (w.alloc (.map #[] 0))∧Mem P w0 O0 (ins β i (.mp w.heap.size)) I (aL obj [(i,some ⟨0,[]⟩)]) (w.alloc (.map #[] 0)):=by
 have hS:Step β I w i (ins β i (.mp w.heap.size)) I (w.alloc (.map #[] 0)):=
  ⟨fun k hk=>by simp[ins,ownN.ne hk],iT hn,Same.alloc h.lt _,fun _ h=>h⟩
 refine⟨hS,?_⟩;constructor
 ·intro k o' hk;simp only[aL]at hk;split at hk
  ·injection hk with hk;subst hk;rename_i hki;exact⟨.mp w.heap.size,by simp[ins,hki],#[],0,heap_alloc_new w _,Nat.le_refl _,fun _=>trivial,by simp,by simp⟩
  ·obtain⟨B,hB,hO⟩:=h.objs k o' hk;exact⟨B,iT hn _ _ hB,OR.mono hS.ext hS.same hS.inc (fun b hb=>fA (h.ownB k o' B b hk hB hb).2.1) hO⟩
 ·intro k k' o1 o2 B B' b h1 h2 h3 h4 h5 h6;simp only[aL]at h1 h2;simp only[ins]at h3 h4;split at h1<;>split at h2
  ·rename_i a b;rw[a,b]
  ·rename_i hki hki';simp only[hki,if_true,Option.some.injEq]at h3;simp only[hki',if_false]at h4;subst h3;injection h5 with h5;have:=(h.ownB k' o2 B' b h2 h4 h6).2.1;omega
  ·rename_i hki hki';simp only[hki',if_true,Option.some.injEq]at h4;simp only[hki,if_false]at h3;subst h4;injection h6 with h6;have:=(h.ownB k o1 B b h1 h3 h5).2.1;omega
  ·rename_i hki hki';simp only[hki,hki',if_false]at h3 h4;exact h.injB k k' o1 o2 B B' b h1 h2 h3 h4 h5 h6
 ·intro k o' B b h1 h2 h3;simp only[aL]at h1;simp only[ins]at h2;split at h1
  ·rename_i hki;simp only[hki,if_true,Option.some.injEq]at h2;subst h2;injection h3 with h3;refine⟨fun hI=>?_,?_,.inr ?_⟩
   ·have:=h.lt b hI;omega
   ·simp;omega
   ·have:=h.le;omega
  ·rename_i hki;simp only[hki,if_false]at h2;obtain⟨a,b',c'⟩:=h.ownB k o' B b h1 h2 h3;exact⟨a,by simp;omega,c'⟩
 ·intro b hb;have:=h.lt b hb;simp;omega
 ·exact h.up
 ·intro b hb hO;rw[fA (by have:=h.le;omega)];exact h.keep b hb hO
 ·have:=h.le;simp;omega
 ·exact h.os
 ·exact h.tape
 ·exact h.output
 ·intro j B hj;exact iT hn _ _ (h.anch j B hj)
 ·exact h.vars.mono (Same.alloc h.lt _) (fun _ h=>h)
theorem KA {t:TypeId} {ti:TyI} (ht:TyOk P t ti) {k e:TypeId} (h:ti.k= .map k e):P.underlying t=some (.map k e):=by
 obtain⟨info,d,z,_,h2,_,_,_,_,_,h8⟩:=ht.ex;rw[h]at h8;have h8:d= .map k e:=h8;rw[h2,h8]
theorem R7 {t:TypeId} {ti:TyI} (ht:TyOk P t ti) {v:Value} (h:Ew ti.k v=true):∃ d,P.underlying t=some d∧IsKey d v:=by
 obtain⟨info,d,z,_,h2,_,_,_,_,_,h8⟩:=ht.ex;exact⟨d,h2,X7 h h8⟩
theorem abe {k:TyK} {v:Value} (h:Ew k v=true):oneCell v:=by
 unfold Ew at h;split at h
 ·exact trivial
 ·exact trivial
 ·exact trivial
 ·cases h
theorem abf {t:TypeId} {ti:TyI} (ht:TyOk P t ti) {v:AV} (hp:part' ti.agg ti.size ((ti.zero.map cv).map wk)=some v):∃ z,(zeroValue t).run P w= .ok z w∧VR P β w I v z:=by
 obtain⟨info,d,z,h1,h2,h3,h4,h5,h6,h7,h8⟩:=ht.ex;refine⟨z,by simp[zeroValue,typeInfo,h1,h5],?_⟩;obtain⟨_,_,g1,g2⟩:=Dq (P:=P) (β:=β) (w:=w) (I:=I) hp (VRl.wk _ _ (VRl.cv ti.zero));have hf:=ht.form info z h1 h5;cases ha:ti.agg with
 |true=>
  rw[ha]at hf;cases z<;>simp only[zForm,Bool.not_true,reduceCtorEq]at hf;rename_i cs;have:=g1 ha;simp only[Value.cells]at h6;rw[<- h6]at this;simpa using this
 |false=>
  rw[ha]at hf;have h1c:oneCell z:=by cases z<;>simp only[zForm,reduceCtorEq,Bool.not_false,Bool.not_true,Bool.false_eq_true]at hf<;>trivial
  obtain⟨u,e1,e2⟩:=g2 ha;rw[cells_one h1c]at h6;simp only at h6;rw[<- h6]at e1;injection e1 with e1;subst e1;exact e2
theorem KC (h:Mem P w0 O0 β I obj w) (hn:β (nid i)=none) {t:TypeId} {out:Out} (ha:Ab T i t=some out) {r:Operand->Value}
 {dst:Option Tmp} {ty:TypeId} {pos:String} {after:Array Edge} {guard:Option (Nat×Bool)}:Did P w0 O0 β I obj w i out ((execOp r ⟨dst,.makeMap t none,ty,pos,after,guard⟩).run P w):=by
 unfold Ab at ha;cases hti:T t with
 |none=>simp[hti]at ha
 |some ti=>
  simp only[hti,bind_some]at ha;split at ha
  ·injection ha with ha;subst ha;obtain⟨hS,hM⟩:=Mem.allocM h hn;refine⟨.map (some w.heap.size),_,_,I,.inl ?_,hS,hM,?_⟩
   ·simp[execOp,Instr.makeMap]
   ·simp only[VR];exact⟨_,by simp[ins],rfl⟩
  ·cases ha
theorem NC (hT:bI P T) (h:Mem P w0 O0 β I obj w) {t:TypeId} {x key:AV} {ok:Bool} {get:Nat->Option aF} {out:Out} (hg:∀ k o,get k=some o->obj k=some o) {u kv:Value}
 (ha:BM T t x key ok get=some out) (hx:VR P β w I x u) (hk:VR P β w I key kv):∃ z,(Instr.lookup t u kv ok).run P w= .ok z w∧VR P β w I out.v z∧out.upd=[]:=by
 unfold BM at ha;cases hti:T t with
 |none=>simp[hti]at ha
 |some ti=>
  simp only[hti,bind_some]at ha;split at ha
  ·rename_i kt et k kv' hk1;rw[ai]at ha;obtain⟨ki,hki,ha⟩:=ha;rw[ai]at ha;obtain⟨ei,hei,ha⟩:=ha;rw[ai]at ha;obtain⟨o,ho,ha⟩:=ha;split at ha
   ·rename_i hc;rw[ai]at ha;obtain⟨r,hr,ha⟩:=ha;rw[ai]at ha;obtain⟨v,hv,ha⟩:=ha;simp only[pv,Option.some.injEq]at ha;subst ha;simp only[VR,TR]at hx hk;obtain⟨b,hβ,rfl⟩:=hx;obtain⟨rfl,_⟩:=hk;obtain⟨B,hB,hO⟩:=h.objs k o (hg k o ho);rw[hβ]at hB;injection hB with hB;subst hB;obtain⟨es,cl,g1,g2,g3,g4⟩:=hO;have hu:=KA (hT t ti hti) hk1;obtain⟨d,hd,hkey⟩:=R7 (hT kt ki hki) hc.1;rcases Ip hkey o.rows es.toList 0 r (g3 hc.2) hr with ⟨rfl,a2⟩ |⟨j,y,e,rfl,a2,a3,a4,a5⟩
    ·obtain⟨z,hz,hzv⟩:=abf (β:=β) (I:=I) (w:=w) (hT et ei hei) hv;cases ok with
     |true=>
      refine⟨.tuple #[z,.bool false],?_,?_,rfl⟩
      ·simp[Instr.lookup,run_underlying hu,MapKept.run_getObj_map g1,run_checkKey hd hkey,run_findKey hd a2,hz,Result.andThen]
      ·simp only[if_true,VR];exact⟨_,rfl,by simp only[VRl,VR,TR];exact⟨hzv,⟨rfl,trivial⟩,trivial⟩⟩
     |false=>
      refine⟨z,?_,by simpa using hzv,rfl⟩;simp[Instr.lookup,run_underlying hu,MapKept.run_getObj_map g1,run_checkKey hd hkey,run_findKey hd a2,hz,Result.andThen]
    ·simp only[orZ,Option.some.injEq]at hv;subst hv;cases ok with
     |true=>
      refine⟨.tuple #[e.val,.bool true],?_,?_,rfl⟩
      ·simp[Instr.lookup,run_underlying hu,MapKept.run_getObj_map g1,run_checkKey hd hkey,run_findKey hd a2,Result.andThen]
      ·simp only[if_true,VR];exact⟨_,rfl,by simp only[VRl,VR,TR];exact⟨a5,⟨rfl,trivial⟩,trivial⟩⟩
     |false=>
      refine⟨e.val,?_,by simpa using a5,rfl⟩;simp[Instr.lookup,run_underlying hu,MapKept.run_getObj_map g1,run_checkKey hd hkey,run_findKey hd a2,Result.andThen]
   ·cases ha
  ·cases ha
theorem aco {x:AV} {v:Value} (h:VR P β w I x v):VR P β w I (wkV x) v:=by
 cases x<;>simp only[wkV]<;>try exact h.wk
 simp only[VR]at h ⊢;obtain⟨vs,h1,h2⟩:=h;exact⟨vs,h1,VRl.wk _ _ h2⟩
theorem Qu {d:TypeDesc} {v:Value} (h:IsKey d v):Instr.sameBits 10000 v v=true:=by cases d<;>cases v<;>simp only[IsKey]at h<;>simp_all [Instr.sameBits,bytes_beq]
theorem ND (hT:bI P T) (h:Mem P w0 O0 β I obj w) {t:TypeId} {x key y:AV} {get:Nat->Option aF} {out:Out} (hg:∀ k o,get k=some o->obj k=some o) {u kv v:Value}
 (ha:Ey T t x key y get=some out) (hx:VR P β w I x u) (hk:VR P β w I key kv) (hy:VR P β w I y v):∃ w',(Instr.mapUpdate t u kv v).run P w= .ok () w'∧Same I w w'∧Mem P w0 O0 β I (aL obj out.upd) w'∧out.v= .undef:=by
 unfold Ey at ha;cases hti:T t with
 |none=>simp[hti]at ha
 |some ti=>
  simp only[hti,bind_some]at ha;split at ha
  ·rename_i kt et k kv' hk1;rw[ai]at ha;obtain⟨ki,hki,ha⟩:=ha;rw[ai]at ha;obtain⟨o,ho,ha⟩:=ha;split at ha
   ·rename_i hc;rw[ai]at ha;obtain⟨rs,hr,ha⟩:=ha;injection ha with ha;subst ha;simp only[VR,TR]at hx hk;obtain⟨b,hβ,rfl⟩:=hx;obtain⟨hkk,_⟩:=hk;subst hkk;have hobj:=hg k o ho;obtain⟨B,hB,hO⟩:=h.objs k o hobj;rw[hβ]at hB;injection hB with hB;subst hB;obtain⟨es,cl,g1,g2,g3,g4,g5⟩:=hO;have hu:=KA (hT t ti hti) hk1;obtain⟨d,hd,hkey⟩:=R7 (hT kt ki hki) hc.1;have hlt:b < w.heap.size:=(Array.getElem?_eq_some_iff.1 g1).1;rcases Kz hkey (aco hy) (abe hc.1) o.rows es.toList 0 rs (g3 hc.2) hr with ⟨a1,a2⟩ |⟨j,e,a1,a2,a3,a4⟩
    ·obtain⟨k1,k2⟩:=heap_set (o':= .map (es.push ⟨kv,v,cl⟩) (cl+1)) g1
     obtain⟨m1,m2⟩:=h.writeM (o':=⟨rs.length,rs⟩) (w':={ w with heap:=w.heap.setIfInBounds b (.map (es.push ⟨kv,v,cl⟩) (cl+1)) }) hobj hβ k1 k2 (by simp) rfl rfl rfl (Nat.le_refl _) (by simpa using a2 cl)
      (by
       rw[Array.toList_push,List.map_append,List.nodup_append];refine⟨g4,by simp,fun a ha b hb=>?_⟩;simp only[map_cons,List.map_nil,mem_singleton]at hb;obtain⟨e,he,rfl⟩:=mem_map.1 ha;have:=g5 e he;omega)
      (fun e he=>by
       rw[Array.toList_push,mem_append]at he;rcases he with he |he
       ·have:=g5 e he;omega
       ·simp only[mem_singleton]at he;subst he;exact Nat.lt_succ_self _)
     refine⟨_,?_,m1,m2,rfl⟩;simp[Instr.mapUpdate,run_underlying hu,MapKept.run_getObj_map g1,run_checkKey hd hkey,run_findKey hd a1,run_setObj_map _ g1,Result.andThen]
    ·obtain⟨k1,k2⟩:=heap_set (o':= .map (es.modify j fun e=>{ e with key:=kv,val:=v }) cl) g1;have ht:(es.modify j fun e=>{ e with key:=kv,val:=v }).toList=es.toList.modify j fun e=>{ e with key:=kv,val:=v }:=Array.toList_modify;have hb:(es.toList.modify j fun e=>{ e with key:=kv,val:=v }).map (·.born)=es.toList.map (·.born):=by
      apply List.ext_getElem?;intro q;simp only[List.getElem?_map,List.getElem?_modify];split<;>cases es.toList[q]?<;>rfl
     obtain⟨m1,m2⟩:=h.writeM (o':=⟨rs.length,rs⟩) (w':={ w with heap:=w.heap.setIfInBounds b (.map (es.modify j fun e=>{ e with key:=kv,val:=v }) cl) }) hobj hβ k1 k2 (by simp) rfl rfl rfl (Nat.le_refl _) (by rw[ht];exact a4)
      (by rw[ht,hb];exact g4)
      (fun e he=>by
       rw[ht]at he;have:e.born∈(es.toList.modify j fun e=>{ e with key:=kv,val:=v }).map (·.born):=mem_map.2 ⟨e,he,rfl⟩;rw[hb]at this;obtain⟨e',he',hh⟩:=mem_map.1 this;rw[<- hh];exact g5 e' he')
     refine⟨_,?_,m1,m2,rfl⟩;have hold:((es[j]?).map (·.key)).getD kv=kv:=(by rw[<- Array.getElem?_toList,a2];exact a3);have hks:(Instr.keyThatStays kv kv).run P w= .ok kv w:=(by simp[Instr.keyThatStays,Qu hkey]);simp only[Instr.mapUpdate,Sem.run_bind,run_underlying hu,MapKept.run_getObj_map g1,run_checkKey hd hkey,run_findKey hd a1,Result.andThen,Nat.zero_add,hold,hks,run_setObj_map _ g1]
   ·cases ha
  ·cases ha
end
def bG (cs:List AV):List (List AV):=cs.map fun x=>[x]
def KD (o:aF) (p n:Nat):List AV:=((o.rows.drop p).take n).flatten
def xO (T:Tab) (t:TypeId) (x:AV) (get:Nat->Option aF):Option Out:=
 (T t).bind fun ti=>match x with
 | .ptr k row off=>(get k).bind fun o=>if o.sz=1 then (part' ti.agg ti.size (KD o (row+off) ti.size)).bind pv else none
 |_=>none
def Ez (T:Tab) (t:TypeId) (x y:AV) (get:Nat->Option aF):Option Out:=
 (T t).bind fun ti=>(cellsOf y).bind fun cs=>match x with
 | .ptr k row off=>(get k).bind fun o=>if o.sz=1∧cs.length=ti.size∧row+off+cs.length<=o.rows.length then
  some ⟨.undef,[(k,some ⟨1,o.rows.take (row+off)++bG cs++o.rows.drop (row+off+cs.length)⟩)],[]⟩else none
 |_=>none
def JU (T:Tab) (i:Nat) (e:TypeId):Option Out:=
 (T e).bind fun ti=>some ⟨.ptr (nid i) 0 0,[(nid i,some ⟨1,bG (ti.zero.map cv)⟩)],[]⟩
def Xj (i:Nat) (x:AV):Option Out:=
 (cellsOf x).bind fun cs=>some ⟨.ptr (nid i) 0 0,[(nid i,some ⟨1,bG cs⟩)],[]⟩
def JV (T:Tab) (t:TypeId) (x:AV) (lo hi:Option AV) (get:Nat->Option aF):Option Out:=
 (T t).bind fun ti=>match ti.k,x with
 | .arr m e,.ptr k row off=>(T e).bind fun ei=>(get k).bind fun o=>if o.sz=1∧ei.size=1 then (bnd 0 lo).bind fun l=>(bnd m hi).bind fun h=>
  pvo (.own k (row+off+l.toNat) (h.toNat - l.toNat)) (0<=l∧l<=h∧h<=(m:Int)∧row+off+m<=o.rows.length)else none
 |_,_=>none
def xP (T:Tab):Nat->TypeId->Bool
 | 0,_=>false
 |d+1,t=>match T t with
  |some ti=>match ti.k with
   | .bool=>ti.size==1&&!ti.agg
   | .arr m e=>ti.agg&&match T e with
    |some ei=>ti.size==m*ei.size&&xP T d e
    |none=>false
   |_=>false
  |none=>false
def tB (b:Bool):AV:= .t (.sc (.bool b))
def ZF (T:Tab) (op:BinOp) (t:TypeId) (x y:AV) (n:Int):Option Out:=
 (T t).bind fun ti=>match ti.k,x,y with
 | .arr _ _,.agg xs,.agg ys=>if xP T 9 t=true∧ti.cmp=[9]then match op with
  | .eql=>pvo (tB (n != 0)) (∃ l1 l2:List Bool,xs=l1.map tB∧ys=l2.map tB∧l1.length=ti.size∧l2.length=ti.size∧(n≠0↔l1=l2))
  | .neq=>pvo (tB (!(n != 0))) (∃ l1 l2:List Bool,xs=l1.map tB∧ys=l2.map tB∧l1.length=ti.size∧l2.length=ti.size∧(n≠0↔l1=l2))
  |_=>none
  else none
 |_,_,_=>none
def gH (T:Tab) (i:Nat) (o:Oper) (n:Int) (ρ:Operand->AV) (get:Nat->Option aF):Option Out:=
 match o.op with
 | .load t a=>xO T t (ρ a) get
 | .store t a x=>Ez T t (ρ a) (ρ x) get
 | .alloc e=>JU T i e
 | .box _ x=>Xj i (ρ x)
 | .slice t x lo hi none=>JV T t (ρ x) (lo.map ρ) (hi.map ρ) get
 | .binOp op t x y _=>ZF T op t (ρ x) (ρ y) n
 |_=>none
section
variable {T:Tab}
theorem NE {i:Nat} {o:Oper} {n:Int} {ρ ρ':Operand->AV} {get:Nat->Option aF} (h:∀ x∈o.op.operands,ρ x=ρ' x):gH T i o n ρ get=gH T i o n ρ' get:=by
 obtain⟨dst,op,ty,pos,after,guard⟩:=o;cases op<;>simp only[Op.operands]at h<;>simp only[gH]
 case load t a=>rw[h a (by simp)]
 case store t a x=>rw[h a (by simp),h x (by simp)]
 case box e x=>rw[h x (by simp)]
 case binOp a b c d e=>rw[h c (by simp),h d (by simp)]
 case slice t x lo hi mx=>
  have hx:=h x (by simp);cases mx with
  |some m=>rfl
  |none=>
   simp only[hx];cases lo<;>cases hi<;>simp_all
end
section
variable {P:Program} {T:Tab} {w0:World} {O0:Was} {β:Nat->Option Blk} {I:Nat->Prop} {obj:Nat->Option aF} {w:World} {i:Nat}
theorem lq:∀ cs:List AV,(bG cs).flatten=cs
 |[]=>rfl
 |c::cs=>by simp only[bG,map_cons,List.flatten_cons,List.singleton_append];exact congrArg (c:: ·) (lq cs)
theorem Iq (cs:List AV):∀ r∈bG cs,r.length=1:=by
 intro r hr;simp only[bG,mem_map]at hr;obtain⟨x,_,rfl⟩:=hr;rfl
theorem EA (hT:bI P T) (h:Mem P w0 O0 β I obj w) {t:TypeId} {x:AV} {get:Nat->Option aF} {out:Out} {v:Value} (hg:∀ k o,get k=some o->obj k=some o)
 (ha:xO T t x get=some out) (hx:VR P β w I x v):∃ u,(Instr.loadAt t v).run P w= .ok u w∧VR P β w I out.v u∧out.upd=[]:=by
 unfold xO at ha;cases hti:T t with
 |none=>simp[hti]at ha
 |some ti=>
  have ht:=hT t ti hti;simp only[hti,bind_some]at ha;cases x<;>simp only[reduceCtorEq]at ha
  case ptr k row off=>
   cases hk:get k with
   |none=>simp[hk]at ha
   |some o=>
    simp only[hk,bind_some]at ha;split at ha
    ·rename_i hsz;cases hp:part' ti.agg ti.size (KD o (row+off) ti.size)with
     |none=>simp[hp]at ha
     |some u=>
      simp only[hp,bind_some,pv,Option.some.injEq]at ha;subst ha;simp only[VR]at hx;obtain⟨b,sz,n,h1,rfl⟩:=hx;obtain⟨B,hB,hO⟩:=h.objs k o (hg k o hk);rw[h1]at hB;injection hB with hB;subst hB;obtain⟨hs,c,e,hc,_,hO⟩:=hO;rw[hsz]at hs;subst hs;have h5:=ORows.take ti.size _ _ _ _ (ORows.drop (row+off) _ _ _ _ hO);obtain⟨l,g1,g2,g3,g4,g5⟩:=ORows.list _ _ _ _ h5;obtain⟨z,hz,hz2⟩:=rT ht (b:=b) (o:=n.s+row*1+off) hp g1 (fun j u hj=>by
       have:=g5 j u hj;rw[Nat.mul_one,<- Nat.add_assoc]at this;rw[Nat.mul_one];simp[World.cell?,hc,this])
      exact⟨z,by simp[Instr.loadAt,Instr.sureAddr]at hz ⊢;exact hz,hz2,rfl⟩
    ·cases ha
theorem NF (hT:bI P T) (h:Mem P w0 O0 β I obj w) {t:TypeId} {x y:AV} {get:Nat->Option aF} {out:Out} {v u:Value} (hg:∀ k o,get k=some o->obj k=some o)
 (ha:Ez T t x y get=some out) (hx:VR P β w I x v) (hy:VR P β w I y u):
 ∃ w',(Instr.storeAt t v u).run P w= .ok () w'∧Same I w w'∧Mem P w0 O0 β I (aL obj out.upd) w'∧out.v= .undef:=by
 unfold Ez at ha;cases hti:T t with
 |none=>simp[hti]at ha
 |some ti=>
  have ht:=hT t ti hti;simp only[hti,bind_some]at ha;cases hcs:cellsOf y with
  |none=>simp[hcs]at ha
  |some cs=>
   simp only[hcs,bind_some]at ha;obtain⟨hv1,hv2⟩:=kR hcs hy;cases x<;>simp only[reduceCtorEq]at ha
   case ptr k row off=>
    cases hk:get k with
    |none=>simp[hk]at ha
    |some o=>
     simp only[hk,bind_some]at ha;split at ha
     ·rename_i hh;obtain⟨hsz,hlen,hfit⟩:=hh;injection ha with ha;subst ha;simp only[VR]at hx;obtain⟨b,sz,n,hβ,rfl⟩:=hx;obtain⟨B,hB,hO⟩:=h.objs k o (hg k o hk);rw[hβ]at hB;injection hB with hB;subst hB;obtain⟨hs,c,e,hc,hn,hO⟩:=hO;rw[hsz]at hs;subst hs;obtain⟨ol,o1,o2,o3,o4,o5⟩:=ORows.list _ _ _ _ hO;have hvl:=VRl.length _ _ hv1;have hol:ol.length=o.rows.length:=(by rw[o3,Nat.mul_one]);have hcsz:n.s+ol.length<=c.size:=by
       by_cases h0:ol.length=0
       ·have:=n.h;omega
       ·have:=o5 (ol.length - 1) _ (List.getElem?_eq_getElem (by omega));have:=(Array.getElem?_eq_some_iff.1 this).1;omega
      generalize hp:row+off=p at*;have hpp:n.s+row*1+off=n.s+p:=(by omega);rw[hpp];have hst:=run_storeCells_at P b (n.s+p) e u.cells.toList 0 c w hc (by omega) (fun u hu=>by
       have:=hv2 u hu;cases u<;>first |rfl |exact this.elim)
      simp only[Nat.add_zero]at hst;generalize hc':(List.take (n.s+p) c.toList++u.cells.toList++List.drop (n.s+p+u.cells.toList.length) c.toList).toArray=c' at hst;have hsize:c'.size=c.size:=(by rw[<- hc'];simp[length_take,length_drop];simp at hvl;omega);obtain⟨hS,hM⟩:=Mem.write (o':=⟨1,o.rows.take p++bG cs++o.rows.drop (p+cs.length)⟩) h (hg k o hk) hβ (c':=c') (e:=e) (setRow_heap w b c c' e (0,0) hc) (fun b' hb=>setRow_other w b b' c' hb) (by simp) rfl rfl rfl rfl (by omega) (by
       have hfl:(o.rows.take p++bG cs++o.rows.drop (p+cs.length)).flatten=(o.rows.flatten.take p++cs)++o.rows.flatten.drop (p+cs.length):=by
        have one:∀ (n:Nat) (rs:List (List AV)),(∀ r∈rs,r.length=1)->(rs.take n).flatten=rs.flatten.take n∧(rs.drop n).flatten=rs.flatten.drop n:=by
         intro n
         induction n with
         |zero=>intro rs _;simp
         |succ n ih=>
          intro rs hrs;cases rs with
          |nil=>simp
          |cons r rs=>
           have hr:=hrs r (by simp);obtain⟨i1,i2⟩:=ih rs (fun r h=>hrs r (by simp[h]))
           match r,hr with
           |[x],_=>simp[i1,i2]
        simp only[List.flatten_append,lq,(one _ _ o4).1,(one _ _ o4).2]
       refine jL _ _ _ 1 (ol.take p++u.cells.toList++ol.drop (p+cs.length)) (fun r hr=>?_) ?_ (fun z hz=>?_) (fun j z hj=>?_)
       ·rcases mem_append.1 hr with hr |hr
        ·rcases mem_append.1 hr with hr |hr
         ·exact o4 r (List.mem_of_mem_take hr)
         ·exact Iq cs r hr
        ·exact o4 r (List.mem_of_mem_drop hr)
       ·rw[hfl];exact VRl.append _ _ _ _ (VRl.append _ _ _ _ (VRl.take _ _ _ o1) hv1) (VRl.drop _ _ _ o1)
       ·rcases mem_append.1 hz with hz |hz
        ·rcases mem_append.1 hz with hz |hz
         ·exact o2 z (List.mem_of_mem_take hz)
         ·exact hv2 z hz
        ·exact o2 z (List.mem_of_mem_drop hz)
       ·rw[<- hc',List.getElem?_toArray];have e1:(ol.take p).length=p:=(by simp[length_take];omega);have e2:(c.toList.take (n.s+p)).length=n.s+p:=(by simp[length_take];omega);rw[List.append_assoc]at hj ⊢;by_cases hjp:j < p
        ·rw[List.getElem?_append_left (by omega),List.getElem?_take,if_pos hjp]at hj;rw[List.getElem?_append_left (by omega),List.getElem?_take,if_pos (by omega),Array.getElem?_toList];exact o5 j z hj
        ·rw[List.getElem?_append_right (by omega),e1]at hj;rw[List.getElem?_append_right (by omega),e2,show n.s+j - (n.s+p)=j - p by omega];by_cases hj2:j - p < u.cells.toList.length
         ·rw[List.getElem?_append_left hj2]at hj ⊢;exact hj
         ·rw[List.getElem?_append_right (by omega),List.getElem?_drop]at hj;rw[List.getElem?_append_right (by omega),List.getElem?_drop,Array.getElem?_toList];have:=o5 _ z hj;rw[show n.s+p+u.cells.toList.length+(j - p - u.cells.toList.length)=n.s+(p+cs.length+(j - p - u.cells.toList.length))by omega];exact this)
      refine⟨w.setRow b c',?_,hS,hM,rfl⟩;have:(storeVar t ⟨b,n.s+p,none⟩ u).run P w= .ok () (w.setRow b c'):=by
       unfold storeVar;simp only[Sem.run_bind,ht.size (w:=w),Result.andThen_ok];rw[if_neg (by rw[<- Array.length_toList];omega)];simp only[hst]
      simp[Instr.storeAt,Instr.sureAddr]at this ⊢;exact this
     ·cases ha
theorem Dc (h:Mem P w0 O0 β I obj w) (hn:β (nid i)=none) {e:TypeId} {v:Value} {cs:List AV} (hcs:VRl P β w I cs v.cells.toList) (h1:∀ u∈v.cells.toList,oneCell u):
 ∃ w' β',(newVar e v).run P w= .ok ⟨w.heap.size,0,none⟩ w'∧Step β I w (nid i) β' I w'∧Mem P w0 O0 β' I (aL obj [(nid i,some ⟨1,bG cs⟩)]) w'∧VR P β' w' I (.ptr (nid i) 0 0) (.pointer (some ⟨w.heap.size,0,none⟩)):=by
 obtain⟨hS,hM⟩:=Mem.alloc (o:=⟨1,bG cs⟩) (c:=v.cells) (e:=e) h hn (jL _ _ 0 1 v.cells.toList (Iq cs) (by rw[lq];exact hcs) h1 (fun j u hj=>by simpa using hj));refine⟨_,_,?_,hS,hM,?_⟩
 ·simp only[newVar,newRow,Sem.run_bind,run_newObj,Result.andThen_ok,Sem.run_pure];rfl
 ·simp only[VR];exact⟨w.heap.size,1,ex0 v.cells.size,by simp[ins],by simp⟩
theorem NG (hT:bI P T) (h:Mem P w0 O0 β I obj w) (hn:β (nid i)=none) {e:TypeId} {out:Out} (ha:JU T i e=some out):
 ∃ u w' β',(Instr.alloc e true (.tuple #[])).run P w= .ok u w'∧Step β I w (nid i) β' I w'∧Mem P w0 O0 β' I (aL obj out.upd) w'∧VR P β' w' I out.v u:=by
 unfold JU at ha;cases hti:T e with
 |none=>simp[hti]at ha
 |some ti=>
  have ht:=hT e ti hti;simp only[hti,bind_some,Option.some.injEq]at ha;subst ha;obtain⟨z,hz,hz2⟩:=ht.zeroV (w:=w);obtain⟨w',β',h1,h2,h3,h4⟩:=Dc (i:=i) (e:=e) (v:=z) (cs:=ti.zero.map cv) h hn (by rw[hz2];exact VRl.cv _) (fun u hu=>jZ (all_eq_true.1 ht.one u (hz2 ▸ hu)));exact⟨_,w',β',by simp[Instr.alloc,hz,h1],h2,h3,h4⟩
theorem R8 (h:Mem P w0 O0 β I obj w) (hn:β (nid i)=none) {e:TypeId} {x:AV} {v:Value} {out:Out} (ha:Xj i x=some out) (hx:VR P β w I x v):
 ∃ u w' β',(Instr.box e v).run P w= .ok u w'∧Step β I w (nid i) β' I w'∧Mem P w0 O0 β' I (aL obj out.upd) w'∧VR P β' w' I out.v u:=by
 unfold Xj at ha;cases hcs:cellsOf x with
 |none=>simp[hcs]at ha
 |some cs=>
  simp only[hcs,bind_some,Option.some.injEq]at ha;subst ha;obtain⟨hv1,hv2⟩:=kR hcs hx;obtain⟨w',β',h1,h2,h3,h4⟩:=Dc (i:=i) (e:=e) h hn hv1 hv2;exact⟨_,w',β',by simp[Instr.box,h1],h2,h3,h4⟩
theorem Gr {lov hiv:Option Value} {l hh:Int} {len:Nat} (h1:(lov=none∧l=0)∨∃ k,lov=some (.int k l)) (h2:(hiv=none∧hh=(len:Int))∨∃ k,hiv=some (.int k hh)) (g0:0<=l) (g1:l<=hh) (g2:hh<=(len:Int)):
 (Instr.sliceBounds false len len lov hiv none).run P w= .ok (l.toNat,hh.toNat,len) w:=by
 have hb:∀ (k:IntKind) (n:Int) (y:Nat) code,0<=n->n<=(y:Int)->(Instr.sliceBound (.int k n) y code).run P w= .ok n.toNat w:=fun k n y code a b=>by simp[Instr.sliceBound,asIntOf,a,b]
 rcases h1 with ⟨rfl,rfl⟩ |⟨k,rfl⟩<;>rcases h2 with ⟨rfl,rfl⟩ |⟨k',rfl⟩
 ·simp[Instr.sliceBounds]
 ·simp[Instr.sliceBounds,hb k' hh len _ (by omega) g2]
 ·simp[Instr.sliceBounds,hb k l len _ g0 g1]
 ·have h3:=fun code=>hb k l hh.toNat code g0 (by omega);simp[Instr.sliceBounds,hb k' hh len _ (by omega) g2,h3]
theorem NH (hT:bI P T) (h:Mem P w0 O0 β I obj w) {t:TypeId} {x:AV} {lo hi:Option AV} {get:Nat->Option aF} {out:Out} {v:Value} {lov hiv:Option Value} (hg:∀ k o,get k=some o->obj k=some o)
 (ha:JV T t x lo hi get=some out) (hob:out.ob) (hx:VR P β w I x v) (hlo:∀ x,lo=some x->∃ v,lov=some v∧VR P β w I x v) (hlo0:lo=none->lov=none) (hhi:∀ x,hi=some x->∃ v,hiv=some v∧VR P β w I x v) (hhi0:hi=none->hiv=none):
 ∃ u,(Instr.sliceAt t v lov hiv none).run P w= .ok u w∧VR P β w I out.v u∧out.upd=[]:=by
 unfold JV at ha;cases hti:T t with
 |none=>simp[hti]at ha
 |some ti=>
  have ht:=hT t ti hti;simp only[hti,bind_some]at ha;split at ha
  ·rename_i m e k row off hkd;cases hei:T e with
   |none=>simp[hei]at ha
   |some ei=>
    have he:=hT e ei hei;cases hk:get k with
    |none=>simp[hei,hk]at ha
    |some o=>
     simp only[hei,hk,bind_some]at ha;split at ha
     ·rename_i hsz;cases hl:bnd 0 lo with
      |none=>simp[hl]at ha
      |some l=>
       cases hh:bnd (m:Int) hi with
       |none=>simp[hl,hh]at ha
       |some r=>
        simp only[hl,hh,bind_some,pvo,Option.some.injEq]at ha;subst ha;have hob:0<=l∧l<=r∧r<=(m:Int)∧row+off+m<=o.rows.length:=hob;obtain⟨q1,q2,q3,q4⟩:=hob;simp only[VR]at hx;obtain⟨b,sz,n,hβ,rfl⟩:=hx;obtain⟨B,hB,hO⟩:=h.objs k o (hg k o hk);rw[hβ]at hB;injection hB with hB;subst hB;obtain⟨hs,c,ce,hc,hn,hO⟩:=hO;rw[hsz.1]at hs;subst hs;obtain⟨ol,o1,o2,o3,o4,o5⟩:=ORows.list _ _ _ _ hO;have hcsz:n.s+o.rows.length<=n.m:=by
         by_cases h0:o.rows.length=0
         ·have:=n.h;omega
         ·have:=o5 (ol.length - 1) _ (List.getElem?_eq_getElem (by omega));have:=(Array.getElem?_eq_some_iff.1 this).1;omega
        have hb:=Gr (P:=P) (w:=w) (len:=m) (rG hl hlo hlo0) (rG hh hhi hhi0) q1 q2 q3;refine⟨.slice (some (if m=l.toNat then⟨b,n.s+row*1+off,none⟩else (⟨b,n.s+row*1+off,none⟩:Addr).add (l.toNat*ei.size))) (r.toNat - l.toNat) (m - l.toNat),?_,?_,rfl⟩
        ·simp only[Instr.sliceAt,Sem.run_bind,run_underlying (wz ht hkd),Result.andThen_ok,Instr.sureAddr,Sem.run_pure,hb,he.size (w:=w)]
        ·simp only[VR];by_cases hml:m=l.toNat
         ·rw[if_pos hml];exact .inr ⟨b,1,n,m - l.toNat,n.s+row*1+off,hβ,rfl,by omega,by omega,fun h=>by omega⟩
         ·rw[if_neg hml];exact .inr ⟨b,1,n,m - l.toNat,n.s+row*1+off+l.toNat*ei.size,hβ,by rw[addr_add],by omega,by omega,fun _=>by rw[hsz.2];omega⟩
     ·cases ha
  ·cases ha
def bV (agg:Bool) (xs:List Bool):Value:=if agg then .agg (xs.map Value.bool).toArray else .bool (xs.headD false)
def chunk {α:Type} (s i:Nat) (xs:List α):List α:=(xs.drop (i*s)).take s
theorem X8 {α:Type} {s m:Nat} {xs ys:List α} (hx:xs.length=m*s) (hy:ys.length=m*s) (h:∀ i,i < m->chunk s i xs=chunk s i ys):xs=ys:=by
 apply List.ext_getElem?;intro j;by_cases hj:j < m*s
 ·have hs:0 < s:=Nat.pos_of_ne_zero fun e=>by subst e;simp at hj
  have h1:j/s < m:=(Nat.div_lt_iff_lt_mul hs).2 hj;have h2:=congrArg (·[j%s]?) (h _ h1);have h3:=Nat.mod_lt j hs;have h4:j/s*s+j%s=j:=by rw[Nat.mul_comm];exact Nat.div_add_mod j s
  simp only[chunk,List.getElem?_take,if_pos h3,List.getElem?_drop,h4]at h2;exact h2
 ·rw[List.getElem?_eq_none (by omega),List.getElem?_eq_none (by omega)]
theorem KE {e:TypeId} {ei:TyI} (he:TyOk P e ei) (hf:ei.agg=false->ei.size=1) {xs:List Bool} {i m:Nat} (hi:i < m) (hl:xs.length=m*ei.size):
 (part e (xs.map Value.bool).toArray (i*ei.size)).run P w= .ok (bV ei.agg (chunk ei.size i xs)) w∧(chunk ei.size i xs).length=ei.size:=by
 have hle:(i+1)*ei.size<=m*ei.size:=Nat.mul_le_mul_right _ (by omega);rw[Nat.add_mul,Nat.one_mul]at hle;have hc:(chunk ei.size i xs).length=ei.size:=by simp only[chunk,length_take,length_drop];omega
 refine⟨?_,hc⟩;unfold part;simp only[Sem.run_bind,he.agg (w:=w),Result.andThen_ok];cases hag:ei.agg with
 |true=>
  simp only[if_true,Sem.run_bind,he.size (w:=w),Result.andThen_ok,Sem.run_pure,bV];congr 2;apply Array.ext';simp[chunk,List.extract_eq_take_drop,List.map_take,List.map_drop]
 |false=>
  have h1:=hf hag;simp only[Bool.false_eq_true,if_false,bV];have h2:i*ei.size < xs.length:=by omega
  have h3:chunk ei.size i xs=[xs[i*ei.size]]:=by
   simp only[chunk];rw[List.drop_eq_getElem_cons h2]
   conv=>lhs;arg 1;rw[h1]
   rfl
  rw[h3];simp[h2]
theorem KF (hT:bI P T):∀ (d:Nat) (t:TypeId) (ti:TyI),T t=some ti->xP T d t=true->(ti.agg=false->ti.size=1)∧∀ (D:Nat),d<=D->∀ xs ys:List Bool,xs.length=ti.size->ys.length=ti.size->
 (Op.equalIn D t (bV ti.agg xs) (bV ti.agg ys)).run P w= .ok (decide (xs=ys)) w
 | 0,_,_,_,h=>by simp[xP]at h
 |d+1,t,ti,hti,h=>by
  have ht:=hT t ti hti;simp only[xP,hti]at h;split at h
  ·rename_i hk;simp only[and_eq_true,beq_iff_eq,Bool.not_eq_true']at h;refine⟨fun _=>h.1,fun D hD xs ys hx hy=>?_⟩;obtain⟨D,rfl⟩:∃ D',D=D'+1:=⟨D - 1,by omega⟩;obtain⟨info,dd,z,g1,g2,g3,g4,g5,g6,g7,g8⟩:=ht.ex;rw[hk]at g8;have g8:dd= .bool:=g8;subst g8;rw[h.1]at hx hy
   match xs,ys,hx,hy with
   |[a],[b],_,_=>
    rw[h.2];simp only[bV,Bool.false_eq_true,if_false,List.headD_cons];rw[run_equalIn_bool w D t a b g2];cases a<;>cases b<;>rfl
  ·rename_i m e hk;simp only[and_eq_true]at h;obtain⟨hag,h⟩:=h;refine⟨fun hf=>by rw[hag]at hf;(cases hf),fun D hD xs ys hx hy=>?_⟩;obtain⟨D,rfl⟩:∃ D',D=D'+1:=⟨D - 1,by omega⟩;cases hei:T e with
   |none=>rw[hei]at h;cases h
   |some ei=>
    rw[hei]at h;simp only[and_eq_true,beq_iff_eq]at h;have he:=hT e ei hei;obtain⟨hf,ih⟩:=KF hT d e ei hei h.2;obtain⟨info,dd,z,g1,g2,g3,g4,g5,g6,g7,g8⟩:=he.ex;have hce:P.cellsOf e=ei.size:=(by simp[Program.cellsOf,g1,g3]);rw[h.1]at hx hy;rw[hag];simp only[bV,if_true];rw[run_equalIn_array w D _ _ (wz ht hk) g1,hce];have items:∀ is:List Nat,(∀ i∈is,i < m)->(Op.eqItems D e ei.size (xs.map Value.bool).toArray (ys.map Value.bool).toArray is).run P w= .ok (decide (∀ i∈is,chunk ei.size i xs=chunk ei.size i ys)) w:=by
     intro is
     induction is with
     |nil=>intro _;simp[Op.eqItems]
     |cons i is ihh=>
      intro hi;obtain⟨p1,p2⟩:=KE (w:=w) he hf (hi i (by simp)) hx;obtain⟨q1,q2⟩:=KE (w:=w) he hf (hi i (by simp)) hy;simp only[Op.eqItems,Sem.run_bind,p1,q1,Result.andThen_ok,ih D (by omega) _ _ p2 q2];by_cases hcc:chunk ei.size i xs=chunk ei.size i ys
      ·simp only[hcc,decide_true,Bool.not_true,Bool.false_eq_true,if_false];rw[ihh (fun j hj=>hi j (by simp[hj]))];simp[hcc]
      ·simp[hcc]
    rw[items _ (fun i hi=>List.mem_range.1 hi)];congr 1;rw[decide_eq_decide];exact⟨fun hh=>X8 hx hy (fun i hi=>hh i (List.mem_range.2 hi)),fun e _ _=>by rw[e]⟩
  ·cases h
theorem Gs:∀ (l:List Bool) (vs:List Value),VRl P β w I (l.map tB) vs->vs=l.map Value.bool
 |[],[],_=>rfl
 |b::l,v::vs,h=>by
  simp only[map_cons,VRl,tB,VR,TR]at h;rw[h.1.1,Gs l vs h.2];rfl
 |[],_::_,h=>by simp[VRl]at h
 |_::_,[],h=>by simp[VRl]at h
theorem U9 (hT:bI P T) {op:BinOp} {t:TypeId} {x y:AV} {n:Int} {xo yo:Operand} {u v:Value} {out:Out} (ha:ZF T op t x y n=some out) (hob:out.ob) (hx:VR P β w I x u) (hy:VR P β w I y v):
 ∃ z,(do eqGuard op t xo yo u v;binOp op t u v:Sem Value).run P w= .ok z w∧VR P β w I out.v z∧out.upd=[]:=by
 unfold ZF at ha;cases hti:T t with
 |none=>simp[hti]at ha
 |some ti=>
  have ht:=hT t ti hti;simp only[hti,bind_some]at ha;split at ha
  ·rename_i m e xs ys hk;split at ha
   ·rename_i hb;have hgt:P.eqGuardType P.depth t=false:=by
     rcases ht.cmp (by rw[hb.2];simp)with ⟨fa,h1,_⟩ |⟨_,h⟩
     ·rw[wz ht hk]at h1;injection h1 with h1;cases h1
     ·exact h
    have hagg:ti.agg=true:=by
     have:=hb.1;simp only[xP,hti,hk,and_eq_true]at this;exact this.1
    simp only[VR]at hx hy;obtain⟨us,rfl,hus⟩:=hx;obtain⟨vs,rfl,hvs⟩:=hy;have key:(∃ l1 l2:List Bool,xs=l1.map tB∧ys=l2.map tB∧l1.length=ti.size∧l2.length=ti.size∧(n≠0↔l1=l2))->(Op.equalIn 10000 t (.agg us) (.agg vs)).run P w= .ok (n != 0) w:=by
     rintro⟨l1,l2,rfl,rfl,e1,e2,e3⟩;have h1:=Gs _ _ hus;have h2:=Gs _ _ hvs;have:=(KF (w:=w) hT 9 t ti hti hb.1).2 10000 (by omega) l1 l2 e1 e2;rw[hagg]at this;simp only[bV,if_true,<- h1,<- h2,Array.toArray_toList]at this;rw[this];congr 1;by_cases hn:n=0
     ·simp only[hn,ne_eq,not_true_eq_false,false_iff]at e3;simp[hn,e3]
     ·simp only[ne_eq,hn,not_false_eq_true,true_iff]at e3;simp[hn,e3]
    have hgd:∀ op,(eqGuard op t xo yo (.agg us) (.agg vs)).run P w= .ok () w:=fun op=>run_eqGuard_agg w op t xo yo us vs hgt;cases op<;>simp only[pvo,Option.some.injEq,reduceCtorEq]at ha<;>subst ha
    ·have:=key hob;exact⟨.bool (n != 0),by simp[hgd,run_eql_struct,this],by simp only[tB,VR,TR];exact⟨trivial,trivial⟩,rfl⟩
    ·have:=key hob;exact⟨.bool (!(n != 0)),by simp[hgd,run_neq_struct,this],by simp only[tB,VR,TR];exact⟨trivial,trivial⟩,rfl⟩
   ·cases ha
  ·cases ha
theorem NI (hT:bI P T) (h:Mem P w0 O0 β I obj w) (hn:β (nid i)=none) {o:Oper} {n:Int} {ρ:Operand->AV} {get:Nat->Option aF} {out:Out} (hg:∀ k o,get k=some o->obj k=some o)
 {r:Operand->Value} (hρ:∀ x,VR P β w I (ρ x) (r x)) (ha:gH T i o n ρ get=some out) (hob:out.ob):Did P w0 O0 β I obj w i out ((execOp r o).run P w):=by
 obtain⟨dst,op,ty,pos,after,guard⟩:=o;have val:∀ {s:Sem Value} {z:Value},s.run P w= .ok z w->out.upd=[]->VR P β w I out.v z->Did P w0 O0 β I obj w i out ((do pure (.value (<- s)):Sem Next).run P w):=by
  intro s z h1 h2 h3;refine⟨z,w,β,I,.inl (by simp[h1]),Step.refl ..,by rw[h2];exact h,h3⟩
 unfold gH at ha;split at ha
 ·rename_i t a heq;simp only at heq;subst heq;obtain⟨z,h1,h2,h3⟩:=EA hT h hg ha (hρ a);exact val h1 h3 h2
 ·rename_i t a x heq;simp only at heq;subst heq;obtain⟨w',h1,h2,h3,h4⟩:=NF hT h hg ha (hρ a) (hρ x);exact⟨undef,w',β,I,.inr ⟨by simp[execOp,h1],rfl⟩,⟨fun _ _=>rfl,fun _ _ h=>h,h2,fun _ h=>h⟩,h3,by rw[h4];simp[VR]⟩
 ·rename_i e heq;simp only at heq;subst heq;obtain⟨u,w',β',h1,h2,h3,h4⟩:=NG hT h hn ha;exact⟨u,w',β',I,.inl (by simp[execOp,h1]),h2,h3,h4⟩
 ·rename_i e x heq;simp only at heq;subst heq;obtain⟨u,w',β',h1,h2,h3,h4⟩:=R8 (e:=e) h hn ha (hρ x);exact⟨u,w',β',I,.inl (by simp[execOp,h1]),h2,h3,h4⟩
 ·rename_i t x lo hi heq;simp only at heq;subst heq;obtain⟨z,h1,h2,h3⟩:=NH (lov:=lo.map r) (hiv:=hi.map r) hT h hg ha hob (hρ x) (fun y hy=>by
   cases lo with
   |none=>cases hy
   |some q=>injection hy with hy;subst hy;exact⟨r q,rfl,hρ q⟩) (fun h=>by cases lo<;>first |rfl |cases h) (fun y hy=>by
   cases hi with
   |none=>cases hy
   |some q=>injection hy with hy;subst hy;exact⟨r q,rfl,hρ q⟩) (fun h=>by cases hi<;>first |rfl |cases h)
  exact val h1 h3 h2
 ·rename_i bop t x y q heq;simp only at heq;subst heq;obtain⟨z,h1,h2,h3⟩:=U9 (xo:=x) (yo:=y) hT ha hob (hρ x) (hρ y);exact val h1 h3 h2
 ·cases ha
end
def R9 (T:Tab) (i:Nat) (t:TypeId) (l c:AV):Option Out:=
 (T t).bind fun ti=>match ti.k,l,c with
 | .slice e,.t (.sc (.int _ n)),.t (.sc (.int _ m))=>(T e).bind fun ei=>
  some ⟨.own (nid i) 0 n.toNat,[(nid i,some ⟨ei.size,bA (List.replicate n.toNat (ei.zero.map cv))⟩)],[0<=n∧n<=m∧m.toNat*ei.bytes<=140737488355328∧m.toNat<=maxLen∧0 < ei.size]⟩
 |_,_,_=>none
def Gt (x:AV):Option Out:=
 match x with
 | .ptr k r f=>pv (.ptr k r f)
 | .rptr r f=>pv (.rptr r f)
 |_=>none
def X9:Op->Bool
 | .nilCheck _=>true
 | .makeSlice _ _ _=>true
 | .makeMap _ none=>true
 | .lookup _ _ _ _=>true
 | .mapUpdate _ _ _ _=>true
 |_=>false
def xQ (T:Tab) (i:Nat) (o:Oper) (_n:Int) (ρ:Operand->AV) (get:Nat->Option aF):Option Out:=
 match o.op with
 | .nilCheck x=>Gt (ρ x)
 | .makeSlice t l c=>R9 T i t (ρ l) (ρ c)
 | .makeMap t none=>Ab T i t
 | .lookup t m x ok=>BM T t (ρ m) (ρ x) ok get
 | .mapUpdate t m x v=>Ey T t (ρ m) (ρ x) (ρ v) get
 |_=>none
def j3 (T:Tab) (i:Nat) (o:Oper) (n:Int) (ρ:Operand->AV) (get:Nat->Option aF):Option Out:=
 match (bif X9 o.op then xQ T i o n ρ get else jF T i o n ρ get)with
 |some out=>some out
 |none=>gH T i o n ρ get
section
variable {T:Tab}
theorem NJ {i:Nat} {o:Oper} {n:Int} {ρ ρ':Operand->AV} {get:Nat->Option aF} (h:∀ x∈o.op.operands,ρ x=ρ' x):xQ T i o n ρ get=xQ T i o n ρ' get:=by
 obtain⟨dst,op,ty,pos,after,guard⟩:=o;cases op<;>simp only[Op.operands]at h<;>simp only[xQ]
 case nilCheck x=>rw[h x (by simp)]
 case makeSlice t l c=>rw[h l (by simp),h c (by simp)]
 case makeMap t r=>cases r<;>rfl
 case lookup t m x ok=>rw[h m (by simp),h x (by simp)]
 case mapUpdate t m x v=>rw[h m (by simp),h x (by simp),h v (by simp)]
theorem NK {i:Nat} {o:Oper} {n:Int} {ρ ρ':Operand->AV} {get:Nat->Option aF} (h:∀ x∈o.op.operands,ρ x=ρ' x):j3 T i o n ρ get=j3 T i o n ρ' get:=by
 unfold j3;rw[Qo h,NJ h,NE h]
end
section
variable {P:Program} {T:Tab} {w0:World} {O0:Was} {β:Nat->Option Blk} {I:Nat->Prop} {obj:Nat->Option aF} {w:World} {i:Nat}
theorem NN (z:Array Value) (n j:Nat) (h:j < n):(madeCells z n)[j]? =some (z[j%z.size]!):=by simp[madeCells,Array.getElem?_map,h]
theorem Sb (hT:bI P T) (h:Mem P w0 O0 β I obj w) (hn:β (nid i)=none) {t:TypeId} {l c:AV} {u v:Value} {out:Out} (ha:R9 T i t l c=some out) (hob:out.ob) (hl:VR P β w I l u) (hc:VR P β w I c v)
 {r:Operand->Value} {x y:Operand} (hu:r x=u) (hv:r y=v) {dst:Option Tmp} {ty:TypeId} {pos:String} {after:Array Edge} {guard:Option (Nat×Bool)}:
 Did P w0 O0 β I obj w i out ((execOp r ⟨dst,.makeSlice t x y,ty,pos,after,guard⟩).run P w):=by
 unfold R9 at ha;cases hti:T t with
 |none=>simp[hti]at ha
 |some ti=>
  simp only[hti,bind_some]at ha;split at ha
  ·rename_i e kl n kc m hkd;cases hei:T e with
   |none=>simp[hei]at ha
   |some ei=>
    simp only[hei,bind_some,Option.some.injEq]at ha;subst ha;obtain⟨n0,nm,m47,m63,mpos⟩:=hob;simp only[VR,TR]at hl hc;obtain⟨rfl,_⟩:=hl;obtain⟨rfl,_⟩:=hc;have he:=hT e ei hei;have hund:=dF (hT t ti hti) hkd;obtain⟨info,d,z,g1,g2,g3,g4,g5,g6,g7,g8⟩:=he.ex;obtain⟨n,rfl⟩:∃ n':Nat,n=(n':Int):=⟨n.toNat,by omega⟩;obtain⟨m,rfl⟩:∃ m':Nat,m=(m':Int):=⟨m.toNat,by omega⟩;simp only[Int.toNat_natCast]at m47 m63 ⊢;have hb:(info.bytes:Int)*(m:Int)<=281474976710656:=by
     have:((info.bytes*m:Nat):Int)<=281474976710656:=by rw[g4,Nat.mul_comm];omega
     rwa [Int.natCast_mul]at this
    have hrun:=run_make (P:=P) w t e info z hund g1 g5 kl kc n m n0 nm hb (by simp only[maxLen]at m63;omega);simp only[Int.toNat_natCast,g3]at hrun;have hzs:z.cells.size=ei.size:=(by rw[<- Array.length_toList,g6];exact he.len);have hcs:(madeCells z.cells (m*ei.size)).size=m*ei.size:=size_madeCells _ _;obtain⟨hS,hM⟩:=Mem.alloc (i:=nid i) (o:=⟨ei.size,List.replicate n (ei.zero.map cv)⟩) (c:=madeCells z.cells (m*ei.size)) (e:=e) h hn (by
     refine ORows.zeros ei.zero ei.size he.len (fun v hv=>jZ (all_eq_true.1 he.one v hv)) n _ 0 (fun i j hi hj=>?_);have hlt:0+i*ei.size+j < m*ei.size:=by
      have:(i+1)*ei.size<=m*ei.size:=Nat.mul_le_mul_right _ (by omega);rw[Nat.add_mul]at this;omega
     rw[NN _ _ _ hlt,hzs];have e1:(0+i*ei.size+j)%ei.size=j:=(by rw[Nat.zero_add,Nat.mul_comm,Nat.mul_add_mod,Nat.mod_eq_of_lt hj]);rw[e1,<- g6,Array.getElem?_toList,getElem!_pos z.cells j (by rw[hzs];exact hj),Array.getElem?_eq_getElem])
    refine⟨_,_,_,I,.inl (by simp[execOp,hu,hv,hrun];rfl),hS,hM.wkAt,?_⟩;simp only[VR];refine .inr ⟨w.heap.size,ei.size,_,_,0,by simp[ins];rfl,rfl,by omega,?_,by simp⟩;rw[Xf,Xg,hcs,Nat.zero_add,Nat.zero_add];exact Nat.le_refl _
  ·cases ha
theorem NP (hT:bI P T) (h:Mem P w0 O0 β I obj w) (hn:β (nid i)=none) {o:Oper} {n:Int} {ρ:Operand->AV} {get:Nat->Option aF} {out:Out} (hg:∀ k o,get k=some o->obj k=some o)
 {r:Operand->Value} (hρ:∀ x,VR P β w I (ρ x) (r x)) (ha:xQ T i o n ρ get=some out) (hob:out.ob):Did P w0 O0 β I obj w i out ((execOp r o).run P w):=by
 obtain⟨dst,op,ty,pos,after,guard⟩:=o;unfold xQ at ha;split at ha
 ·rename_i x heq;simp only at heq;subst heq;have hx:=hρ x;unfold Gt at ha;split at ha
  ·rename_i k q f hk;simp only[pv,Option.some.injEq]at ha;subst ha;rw[hk]at hx;have hx2:=hx;simp only[VR]at hx2;obtain⟨b,sz,m,_,e1⟩:=hx2;exact⟨r x,w,β,I,.inl (by simp[execOp,e1]),Step.refl ..,h,hx⟩
  ·rename_i q f hk;simp only[pv,Option.some.injEq]at ha;subst ha;rw[hk]at hx;have hx2:=hx;simp only[VR]at hx2;obtain⟨b,o',e1,_⟩:=hx2;exact⟨r x,w,β,I,.inl (by simp[execOp,e1]),Step.refl ..,h,hx⟩
  ·cases ha
 ·rename_i t l c heq;simp only at heq;subst heq;exact Sb hT h hn ha hob (hρ l) (hρ c) rfl rfl
 ·rename_i t heq;simp only at heq;subst heq;exact KC h hn ha
 ·rename_i t m x ok heq;simp only at heq;subst heq;obtain⟨z,h1,h2,h3⟩:=NC hT h hg ha (hρ m) (hρ x);exact⟨z,w,β,I,.inl (by simp[execOp,h1]),Step.refl ..,by rw[h3];exact h,h2⟩
 ·rename_i t m x v heq;simp only at heq;subst heq;obtain⟨w',h1,h2,h3,h4⟩:=ND hT h hg ha (hρ m) (hρ x) (hρ v);exact⟨undef,w',β,I,.inr ⟨by simp[execOp,h1],rfl⟩,⟨fun _ _=>rfl,fun _ _ h=>h,h2,fun _ h=>h⟩,h3,by rw[h4];simp[VR]⟩
 ·cases ha
theorem NQ (hT:bI P T) (h:Mem P w0 O0 β I obj w) (hn:β (nid i)=none) {o:Oper} {n:Int} {ρ:Operand->AV} {get:Nat->Option aF} {out:Out} (hg:∀ k o,get k=some o->obj k=some o)
 {r:Operand->Value} (hρ:∀ x,VR P β w I (ρ x) (r x)) (ha:j3 T i o n ρ get=some out) (hob:out.ob):Did P w0 O0 β I obj w i out ((execOp r o).run P w):=by
 unfold j3 at ha;split at ha
 ·rename_i out' he;injection ha with ha;subst ha;cases hx:X9 o.op with
  |true=>rw[hx]at he;exact NP (n:=n) hT h hn hg hρ he hob
  |false=>rw[hx]at he;exact Qr hT h hn hg hρ he hob
 ·exact NI hT h hn hg hρ ha hob
end
mutual
def rnA (f:Nat->Nat):AV->AV
 | .own k off len=> .own (f k) off len
 | .ptr k row off=> .ptr (f k) row off
 | .agg cs=> .agg (qP f cs)
 | .tup cs=> .tup (qP f cs)
 | .fn F first caps=> .fn F (qP f first) (qP f caps)
 | .t x=> .t x
 | .rptr r o=> .rptr r o
 | .clo φ=> .clo φ
 | .mp k=> .mp (f k)
 | .oz k len=> .oz (f k) len
 | .nilsl=> .nilsl
 | .ub=> .ub
 | .undef=> .undef
def qP (f:Nat->Nat):List AV->List AV
 |[]=>[]
 |x::xs=>rnA f x::qP f xs
end
def Cr (f:Nat->Nat) (o:aF):aF:=⟨o.sz,o.rows.map (qP f)⟩
def olk (os:List (Nat×aF)) (k:Nat):Option aF:=match os with
 |[]=>none
 |(j,o)::r=>if j=k then some o else olk r k
def acY (P:Program) (w:World) (β:Nat->Option Blk) (I:Nat->Prop) (os':List (Nat×aF)) (rv:AV) (e:Ending) (w':World):Prop:=
 ∃ v β' I',e= .returned v∧Mem P w (mg β I) β' I' (olk os') w'∧(∀ b,I b->I' b)∧VR P β' w' I' rv v
def osg (os:List aF) (k:Nat):Option aF:=os[k]?
def FnG (P:Program) (f:FuncId) (args:List AV) (os:List aF) (os':List (Nat×aF)) (rv:AV):Prop:=
 eO P f∧∀ (w:World) (β:Nat->Option Blk) (I:Nat->Prop) (vs:Array Value),(∀ k,os.length<=k->β k=none)->Mem P w (mg β I) β I (osg os) w->VRl P β w I args vs.toList->Calls P f vs w (acY P w β I os' rv)
def Ac (i k:Nat):Bool:=Nat.ble 1000000 k&&(k - 1000000)/64==i
theorem KG {i k:Nat}:Ac i k=true↔ownN (nid i) k:=by
 simp only[Ac,and_eq_true,Nat.ble_eq,beq_iff_eq,ownN,nid];omega
def cn (i:Nat) (ids:List Nat) (j:Nat):Nat:=if j < 1000 then (ids[j]?).getD 0 else nid i+(j - 1000)
def OH (P:Program) (get:Nat->Option aF) (ids:List Nat) (k:Nat):OB->Option (aF×List Prop)
 | .dat p=>(get k).bind fun o=>some (aob p,[o.sz=p.1∧bA (o.rows.take p.2.length)=ay p.2])
 | .cel hs=>(get k).bind fun o=>(xN P get ids o.rows hs).bind fun q=>some (⟨o.sz,q.1⟩,q.2)
def Ad (P:Program) (get:Nat->Option aF) (ids:List Nat):List Nat->List OB->Option (List aF×List Prop)
 |[],[]=>some ([],[])
 |k::ks,b::bs=>(OH P get ids k b).bind fun p=>(Ad P get ids ks bs).bind fun q=>some (p.1::q.1,p.2++q.2)
 |_,_=>none
def KH (o:aF):List Nat:=o.rows.flatMap bH
def KI (get:Nat->Option aF) (xs:List AV) (ids lids:List Nat) (bs:List OB):Prop:=
 (∀ k∈lids,k∉ids)∧(∀ k∈bH xs,k∉ids->k∈lids)∧∀ (j:Nat) hs q o,bs[j]? =some (.cel hs)->ids[j]? =some q->get q=some o->∀ k∈KH o,k∉ids->k∈lids
def Qv (i:Nat) (ids:List Nat) (os':List (Nat×aF)):List (Nat×Option aF):=
 (ids.zipIdx.map fun p=>(p.1,(olk os' p.2).map (Cr (cn i ids))))++(os'.filter fun q=>decide (1000<=q.1)).map fun q=>(cn i ids q.1,some (Cr (cn i ids) q.2))
mutual
def nO:AV->Prop
 | .t x=>x.flat
 | .rptr _ _ | .clo _=>False
 | .agg cs | .tup cs=>j4 cs
 | .fn _ first caps=>j4 first∧j4 caps
 |_=>True
def j4:List AV->Prop
 |[]=>True
 |x::xs=>nO x∧j4 xs
end
def Sc (n k:Nat):Prop:=k < n∨(1000<=k∧k < 1064)
def OI (n:Nat) (os':List (Nat×aF)) (rv:AV):Prop:=
 (∀ q∈os',Sc n q.1)∧(os'.map (·.1)).Nodup∧(∀ q∈os',∀ r∈q.2.rows,∀ k∈bH r,Sc n k)∧∀ k∈refs rv,Sc n k
def flatG (os':List (Nat×aF)) (rv:AV):Prop:=nO rv∧∀ q∈os',∀ r∈q.2.rows,j4 r
def EB (P:Program) (i:Nat) (f:AV) (args:List AV) (orc:Orc) (get:Nat->Option aF):Option Out:=
 match f,orc with
 | .fn F first caps,.callg ids lids bs hs os' rv keep=>if ids.Nodup∧ids.length<=1000 then (Ad P get ids ids bs).bind fun ho=>(iG P get ids (first++args++caps) hs).bind fun q=>
  some ⟨rnA (cn i ids) rv,Qv i ids os'++(if keep then []else lids.map fun k=>(k,none)),
   q.2.2++ho.2++[FnG P F q.1 ho.1 os' rv,OI ids.length os' rv,KI get (first++args++caps) ids lids bs]++(if keep then [flatG os' rv]else [])⟩
  else none
 |_,_=>none
section
variable {P:Program} {w0:World} {O0:Was} {β β1 β2:Nat->Option Blk} {I:Nat->Prop} {obj:Nat->Option aF} {w:World} {i:Nat}
mutual
theorem VR.rn2 {f:Nat->Nat}:∀ (x:AV) (v:Value),(∀ k∈refs x,∀ B,β1 k=some B->β2 (f k)=some B)->VR P β1 w I x v->VR P β2 w I (rnA f x) v
 | .own k off len,v,hd,h=>by
  simp only[rnA,VR]at h ⊢;have hd':=hd k (by simp[refs]);rcases h with ⟨h1,h2⟩ |⟨b,s,n,c,o,h1,h2⟩
  ·exact .inl ⟨hd' _ h1,h2⟩
  ·exact .inr ⟨b,s,n,c,o,hd' _ h1,h2⟩
 | .ptr k row off,v,hd,h=>by
  simp only[rnA,VR]at h ⊢;obtain⟨b,s,n,h1,h2⟩:=h;exact⟨b,s,n,hd k (by simp[refs]) _ h1,h2⟩
 | .agg cs,v,hd,h=>by
  simp only[rnA,VR]at h ⊢;obtain⟨vs,h1,h2⟩:=h;exact⟨vs,h1,VRl.rn2 cs _ (by simpa[refs]using hd) h2⟩
 | .tup cs,v,hd,h=>by
  simp only[rnA,VR]at h ⊢;obtain⟨vs,h1,h2⟩:=h;exact⟨vs,h1,VRl.rn2 cs _ (by simpa[refs]using hd) h2⟩
 | .fn F first caps,v,hd,h=>by
  simp only[rnA,VR]at h ⊢;obtain⟨fs,cs,h1,h2,h3⟩:=h;exact⟨fs,cs,h1,VRl.rn2 first _ (fun k hk=>hd k (by simp[refs,hk])) h2,VRl.rn2 caps _ (fun k hk=>hd k (by simp[refs,hk])) h3⟩
 | .t x,v,_,h=>by simpa[rnA,VR]using h
 | .rptr r o,v,_,h=>by simpa[rnA,VR]using h
 | .clo φ,v,_,h=>by simpa[rnA,VR]using h
 | .mp k,v,hd,h=>by
  simp only[rnA,VR]at h ⊢;obtain⟨b,h1,h2⟩:=h;exact⟨b,hd k (by simp[refs]) _ h1,h2⟩
 | .oz k len,v,hd,h=>by
  simp only[rnA,VR]at h ⊢;rcases h with h |⟨h0,b,sz,n,cap,o,h1,h2⟩
  ·exact .inl h
  ·exact .inr ⟨h0,b,sz,n,cap,o,hd k (by simp[refs]) _ h1,h2⟩
 | .nilsl,v,_,h=>by simpa[rnA,VR]using h
 | .ub,v,_,h=>by simpa[rnA,VR]using h
 | .undef,v,_,h=>by simp[rnA,VR]
theorem VRl.rn2 {f:Nat->Nat}:∀ (xs:List AV) (vs:List Value),(∀ k∈bH xs,∀ B,β1 k=some B->β2 (f k)=some B)->VRl P β1 w I xs vs->VRl P β2 w I (qP f xs) vs
 |[],[],_,_=>by simp[qP,VRl]
 |x::xs,v::vs,hd,h=>by
  simp only[VRl]at h;simp only[qP,VRl];exact⟨VR.rn2 x v (fun k hk=>hd k (by simp[bH,hk])) h.1,VRl.rn2 xs vs (fun k hk=>hd k (by simp[bH,hk])) h.2⟩
 |[],_::_,_,h=>by simp[VRl]at h
 |_::_,[],_,h=>by simp[VRl]at h
end
mutual
theorem VR.flat {I2:Nat->Prop}:∀ (x:AV) (v:Value),nO x->VR P β w I x v->VR P β w I2 x v
 | .own k off len,v,_,h=>by simpa only[VR]using h
 | .ptr k row off,v,_,h=>by simpa only[VR]using h
 | .agg cs,v,hf,h=>by
  simp only[VR]at h ⊢;obtain⟨vs,h1,h2⟩:=h;exact⟨vs,h1,VRl.flat cs _ (by simpa[nO]using hf) h2⟩
 | .tup cs,v,hf,h=>by
  simp only[VR]at h ⊢;obtain⟨vs,h1,h2⟩:=h;exact⟨vs,h1,VRl.flat cs _ (by simpa[nO]using hf) h2⟩
 | .fn F first caps,v,hf,h=>by
  simp only[VR]at h ⊢;obtain⟨fs,cs,h1,h2,h3⟩:=h;simp only[nO]at hf;exact⟨fs,cs,h1,VRl.flat first _ hf.1 h2,VRl.flat caps _ hf.2 h3⟩
 | .t x,v,hf,h=>by
  simp only[VR]at h ⊢;exact Tree.flat_TR (by simpa[nO]using hf) h
 | .rptr r o,v,hf,h=>by simp[nO]at hf
 | .clo φ,v,hf,h=>by simp[nO]at hf
 | .mp k,v,_,h=>by simpa only[VR]using h
 | .oz k len,v,_,h=>by simpa only[VR]using h
 | .nilsl,v,_,h=>by simpa only[VR]using h
 | .ub,v,_,h=>by simpa only[VR]using h
 | .undef,v,_,h=>by simp[VR]
theorem VRl.flat {I2:Nat->Prop}:∀ (xs:List AV) (vs:List Value),j4 xs->VRl P β w I xs vs->VRl P β w I2 xs vs
 |[],[],_,_=>by simp[VRl]
 |x::xs,v::vs,hf,h=>by
  simp only[VRl]at h ⊢;simp only[j4]at hf;exact⟨VR.flat x v hf.1 h.1,VRl.flat xs vs hf.2 h.2⟩
 |[],_::_,_,h=>by simp[VRl]at h
 |_::_,[],_,h=>by simp[VRl]at h
end
theorem Ir (f:Nat->Nat):∀ l:List AV,(qP f l).length=l.length
 |[]=>rfl
 |_::l=>by simp only[qP,length_cons,Ir f l]
theorem ORow.tell {β':Nat->Option Blk} {w':World} {I':Nat->Prop} {r q:List AV} {c:Array Value} {off:Nat} (hv:∀ vs:List Value,VRl P β w I r vs->VRl P β' w' I' q vs) (h:ORow P β w I r c off):ORow P β' w' I' q c off:=by
 obtain⟨vs,h1,h2,h3⟩:=ORow.list r c off h;exact ORow.of_list q vs c off (hv vs h1) h2 h3
theorem ORows.tell {β':Nat->Option Blk} {w':World} {I':Nat->Prop}:∀ {rs qs:List (List AV)} {c:Array Value} {off sz:Nat},rs.length=qs.length->(∀ (j:Nat) r q,rs[j]? =some r->qs[j]? =some q->q.length=r.length∧∀ vs:List Value,VRl P β w I r vs->VRl P β' w' I' q vs)->
 ORows P β w I rs c off sz->ORows P β' w' I' qs c off sz
 |[],[],_,_,_,_,_,h=>h
 |r::rs,q::qs,c,off,sz,hl,hr,h=>by
  simp only[ORows]at h ⊢;obtain⟨h1,h2,h3⟩:=h;obtain⟨e1,e2⟩:=hr 0 r q rfl rfl;exact⟨e1.trans h1,h2.tell e2,ORows.tell (by simpa using hl) (fun j a b ha hb=>hr (j+1) a b (by simpa using ha) (by simpa using hb)) h3⟩
 |[],_::_,_,_,_,hl,_,_=>by simp at hl
 |_::_,[],_,_,_,hl,_,_=>by simp at hl
theorem MRows.tell {β':Nat->Option Blk} {I':Nat->Prop}:∀ {rs qs:List (List AV)} {es:List MapEntry},rs.length=qs.length->(∀ (j:Nat) r q',rs[j]? =some r->qs[j]? =some q'->∀ vs:List Value,VRl P β w I r vs->VRl P β' w I' q' vs)->MRows P β w I rs es->MRows P β' w I' qs es
 |[],[],[],_,_,_=>trivial
 |r::rs,q::qs,_::es,hl,hr,⟨h1,h2⟩=>⟨hr 0 r q rfl rfl _ h1,MRows.tell (by simpa using hl) (fun j r' q' a b=>hr (j+1) r' q' (by simpa using a) (by simpa using b)) h2⟩
 |[],_::_,_,hl,_,_=>by simp at hl
 |_::_,[],_,hl,_,_=>by simp at hl
 |[],_,_::_,_,_,h=>h.elim
 |_::_,_,[],_,_,h=>h.elim
theorem OR.tell {β':Nat->Option Blk} {I':Nat->Prop} {o q:aF} {B:Blk} (hsz:q.sz=o.sz) (hl:o.rows.length=q.rows.length) (hr:∀ (j:Nat) r q',o.rows[j]? =some r->q.rows[j]? =some q'->q'.length=r.length∧∀ vs:List Value,VRl P β w I r vs->VRl P β' w I' q' vs)
 (h:OR P β w I o B):OR P β' w I' q B:=by
 cases B with
 |none=>
  simp only[OR]at h ⊢;rw[h]at hl;exact eq_nil_of_length_eq_zero hl.symm
 | «at» b s n=>
  obtain⟨h1,c,e,h2,h3,h4⟩:=h;exact⟨by rw[hsz];exact h1,c,e,h2,h3,h4.tell hl hr⟩
 |mp b=>
  obtain⟨es,cl,h1,hle,h2,h3⟩:=h;exact⟨es,cl,h1,by omega,fun e=>MRows.tell hl (fun j r q' a b=>(hr j r q' a b).2) (h2 (by omega)),h3⟩
theorem OR.rn2 {f:Nat->Nat} {o:aF} {B:Blk} (hf:∀ r∈o.rows,∀ k∈bH r,∀ B,β1 k=some B->β2 (f k)=some B) (h:OR P β1 w I o B):OR P β2 w I (Cr f o) B:=by
 refine OR.tell (o:=o) (q:=Cr f o) rfl (by simp[Cr]) (fun j r q h1 h2=>?_) h;simp only[Cr,List.getElem?_map,Option.map_eq_some_iff]at h2;obtain⟨r',h3,rfl⟩:=h2;rw[h1]at h3;injection h3 with h3;subst h3;exact⟨Ir f r,fun vs hv=>VRl.rn2 r vs (hf r (List.mem_of_getElem? h1)) hv⟩
theorem OR.flatG {I2:Nat->Prop} {o:aF} {B:Blk} (hf:∀ r∈o.rows,j4 r) (h:OR P β w I o B):OR P β w I2 o B:=by
 refine OR.tell rfl rfl (fun j r q h1 h2=>?_) h;rw[h1]at h2;injection h2 with h2;subst h2;exact⟨rfl,fun vs hv=>VRl.flat r vs (hf r (List.mem_of_getElem? h1)) hv⟩
def BorRs (P:Program) (get:Nat->Option aF) (ids:List Nat):List (List AV)->List (List AV)->Prop
 |[],[]=>True
 |r::rs,q::qs=>BorLW P get ids r q∧BorRs P get ids rs qs
 |_,_=>False
theorem EC {get:Nat->Option aF} {ids:List Nat}:∀ {rs:List (List AV)} {hs:List (List LH)} {p:List (List AV)×List Prop},xN P get ids rs hs=some p->(∀ q∈p.2,q)->BorRs P get ids rs p.1
 |[],[],p,h,_=>by simp only[xN,Option.some.injEq]at h;subst h;trivial
 |r::rs,hl::hs,p,h,ho=>by
  simp only[xN,ai,Option.some.injEq]at h;obtain⟨q,h1,q',h2,rfl⟩:=h;exact⟨iU h1 (fun y hy=>ho y (by simp[hy])),EC h2 (fun y hy=>ho y (by simp[hy]))⟩
 |[],_::_,p,h,_=>by simp[xN]at h
 |_::_,[],p,h,_=>by simp[xN]at h
theorem BorLW.length {get:Nat->Option aF} {ids:List Nat}:∀ {xs ys:List AV},BorLW P get ids xs ys->ys.length=xs.length
 |[],[],_=>rfl
 |x::xs,y::ys,h=>by simp only[length_cons,BorLW.length h.2]
 |[],_::_,h=>h.elim
 |_::_,[],h=>h.elim
theorem BorRs.get {get:Nat->Option aF} {ids:List Nat}:∀ {rs qs:List (List AV)},BorRs P get ids rs qs->rs.length=qs.length∧∀ (j:Nat) r q,rs[j]? =some r->qs[j]? =some q->BorLW P get ids r q
 |[],[],_=>⟨rfl,fun j r q h=>by simp at h⟩
 |r::rs,q::qs,h=>by
  obtain⟨h1,h2⟩:=BorRs.get h.2;refine⟨by simp[h1],fun j a b ha hb=>?_⟩;cases j with
  |zero=>simp only[List.getElem?_cons_zero,Option.some.injEq]at ha hb;subst ha;subst hb;exact h.1
  |succ j=>exact h2 j a b (by simpa using ha) (by simpa using hb)
 |[],_::_,h=>h.elim
 |_::_,[],h=>h.elim
theorem KJ {get:Nat->Option aF} {ids:List Nat}:∀ {ks:List Nat} {bs:List OB} {p:List aF×List Prop},Ad P get ids ks bs=some p->(∀ q∈p.2,q)->ks.length=p.1.length∧∀ (j:Nat) k q,ks[j]? =some k->p.1[j]? =some q->∃ o,get k=some o∧
 ((∃ d:bJ,bs[j]? =some (.dat d)∧q=aob d∧o.sz=d.1∧bA (o.rows.take d.2.length)=ay d.2)∨(∃ hs,bs[j]? =some (.cel hs)∧q.sz=o.sz∧BorRs P get ids o.rows q.rows))
 |[],[],p,h,_=>by simp only[Ad,Option.some.injEq]at h;subst h;exact⟨rfl,fun j k q h=>by simp at h⟩
 |k::ks,b::bs,p,h,ho=>by
  simp only[Ad,ai,Option.some.injEq]at h;obtain⟨q,h1,q',h2,rfl⟩:=h;obtain⟨g1,g2⟩:=KJ h2 (fun y hy=>ho y (by simp[hy]));refine⟨by simp[g1],fun j k' z hj hz=>?_⟩;cases j with
  |succ j=>
   obtain⟨o,e1,e2⟩:=g2 j k' z (by simpa using hj) (by simpa using hz);exact⟨o,e1,by simpa using e2⟩
  |zero=>
   simp only[List.getElem?_cons_zero,Option.some.injEq]at hj hz;subst hj;subst hz;cases b with
   |dat d=>
    simp only[OH,ai,Option.some.injEq]at h1;obtain⟨o,e1,rfl⟩:=h1;have:=ho _ (List.mem_append_left _ (mem_singleton.2 rfl));exact⟨o,e1,.inl ⟨d,rfl,rfl,this.1,this.2⟩⟩
   |cel hs=>
    simp only[OH,ai,Option.some.injEq]at h1;obtain⟨o,e1,z,e2,rfl⟩:=h1;exact⟨o,e1,.inr ⟨hs,rfl,rfl,EC e2 (fun y hy=>ho y (List.mem_append_left _ hy))⟩⟩
 |[],_::_,p,h,_=>by simp[Ad]at h
 |_::_,[],p,h,_=>by simp[Ad]at h
theorem Mem.handedG (h:Mem P w0 O0 β I obj w) {get:Nat->Option aF} (hg:∀ k o,get k=some o->obj k=some o) {ids lids:List Nat} {os:List aF} (hnd:ids.Nodup) (hlen:ids.length=os.length)
 (hm:∀ (j:Nat) k q,ids[j]? =some k->os[j]? =some q->∃ o,get k=some o∧((∃ d:bJ,q=aob d∧o.sz=d.1∧bA (o.rows.take d.2.length)=ay d.2)∨(q.sz=o.sz∧BorRs P get ids o.rows q.rows∧∀ k∈KH o,k∉ids->k∈lids))) (hdis:∀ k∈lids,k∉ids):
 Mem P w (mg (βc ids β) (Lent β obj lids I)) (βc ids β) (Lent β obj lids I) (osg os) w:=by
 have hb0:∀ j k,ids[j]? =some k->βc ids β j=β k:=fun j k hk=>by simp[βc,hk]
 have look:∀ j q,osg os j=some q->∃ k o,ids[j]? =some k∧obj k=some o∧∀ B,OR P β w I o B->OR P (βc ids β) w (Lent β obj lids I) q B:=by
  intro j q hj;simp only[osg]at hj;have hjl:j < ids.length:=by rw[hlen];exact (List.getElem?_eq_some_iff.1 hj).1
  obtain⟨o,g,hh⟩:=hm j _ q (List.getElem?_eq_getElem hjl) hj;refine⟨_,o,List.getElem?_eq_getElem hjl,hg _ _ g,fun B hO=>?_⟩;rcases hh with ⟨d,rfl,g4,g5⟩ |⟨g4,g5,g6⟩
  ·have:OR P β w I (aob d) B:=by
    cases B with
    |none=>
     simp only[OR]at hO ⊢;rw[hO]at g5;simpa[bA,aob]using g5.symm
    | «at» b s n=>
     obtain⟨h1,c,e,h2,h3,h4⟩:=hO;refine⟨by rw[h1,g4];rfl,c,e,h2,h3,?_⟩;have:=ORows.wk _ _ _ _ (ORows.take d.2.length _ _ _ _ h4);rw[g5]at this;exact this
    |mp b=>exact OR.part g4 g5 hO
   exact this.dat fun b hb=> .inl hb
  ·obtain⟨e1,e2⟩:=g5.get;refine hO.tell g4 e1 (fun m r q' hr hq=>?_);have hb:=e2 m r q' hr hq;refine⟨hb.length,fun vs hv=>?_⟩;refine BorLW.sound h hg lids r q' vs (fun k hk hn=>g6 k ?_ hn) hb hv;exact List.mem_flatMap.2 ⟨r,List.mem_of_getElem? hr,hk⟩
 constructor
 ·intro j q hj;obtain⟨k,o,g1,g2,g3⟩:=look j q hj;obtain⟨B,hB,hO⟩:=h.objs k o g2;exact⟨B,by rw[hb0 j k g1];exact hB,g3 B hO⟩
 ·intro j j' o o' B B' b h1 h2 h3 h4 h5 h6;obtain⟨k,q,g1,g3,_⟩:=look j o h1;obtain⟨k',q',g1',g3',_⟩:=look j' o' h2;rw[hb0 j k g1]at h3;rw[hb0 j' k' g1']at h4;have:=h.injB k k' q q' B B' b g3 g3' h3 h4 h5 h6;subst this;exact Gq hnd g1 g1'
 ·intro j o B b h1 h2 h5;obtain⟨k,q,g1,g3,_⟩:=look j o h1;have h2':=h2;rw[hb0 j k g1]at h2;obtain⟨a1,a2,_⟩:=h.ownB k q B b g3 h2 h5;refine⟨?_,a2,.inl ⟨j,B,h2',h5⟩⟩;rintro (hI |⟨k',o',s',n',e1,e2,e3⟩)
  ·exact a1 hI
  ·have:=h.injL k k' q o' b g3 e2 ⟨B,h2,h5⟩ (.at e3);subst this;exact hdis _ e1 (List.mem_of_getElem? g1)
 ·exact Et h _
 ·exact fun b hb=> .inl hb
 ·exact fun _ _ _=>rfl
 ·exact Nat.le_refl _
 ·rfl
 ·rfl
 ·rfl
 ·intro j B hj;simp only[mg]at hj;split at hj
  ·exact hj
  ·cases hj
 ·exact h.vars.mono (fun _ _=>rfl) (fun b hb=> .inl hb)
theorem Qw:∀ {os':List (Nat×aF)} {k:Nat} {o:aF},olk os' k=some o->(k,o)∈os'
 |[],_,_,h=>by simp[olk]at h
 |(j,q)::r,k,o,h=>by
  simp only[olk]at h;split at h
  ·rename_i e;injection h with h;subst h;subst e;exact List.mem_cons_self
  ·exact mem_cons_of_mem _ (Qw h)
theorem KL:∀ {os':List (Nat×aF)} {k:Nat} {o:aF},(os'.map (·.1)).Nodup->(k,o)∈os'->olk os' k=some o
 |(j,q)::r,k,o,hn,h=>by
  simp only[map_cons,List.nodup_cons]at hn;simp only[olk];rcases mem_cons.1 h with e |h
  ·injection e with e1 e2;subst e1;subst e2;rw[if_pos rfl]
  ·rw[if_neg (fun e=>hn.1 (mem_map.2 ⟨(k,o),h,e.symm⟩)),KL hn.2 h]
theorem Sd {F:Nat->Option aF} {k:Nat}:∀ (ids:List Nat) (n:Nat),(∃ j,ids[j]? =some k∧aL obj ((ids.zipIdx n).map fun p=>(p.1,F p.2)) k=F (n+j))∨(k∉ids∧aL obj ((ids.zipIdx n).map fun p=>(p.1,F p.2)) k=obj k)
 |[],n=> .inr ⟨by simp,rfl⟩
 |q::ids,n=>by
  simp only[List.zipIdx_cons,map_cons,aL];by_cases e:k=q
  ·subst e;exact .inl ⟨0,rfl,by simp⟩
  ·rw[if_neg e];rcases Sd (k:=k) ids (n+1)with ⟨j,h1,h2⟩ |⟨h1,h2⟩
   ·exact .inl ⟨j+1,by simpa using h1,by rw[h2];congr 1;omega⟩
   ·exact .inr ⟨by simp[e,h1],h2⟩
theorem OJ {c:Nat->Nat} {G:aF->aF} {k:Nat}:∀ (l:List (Nat×aF)),(∃ q∈l,k=c q.1∧aL obj (l.map fun q=>(c q.1,some (G q.2))) k=some (G q.2))∨aL obj (l.map fun q=>(c q.1,some (G q.2))) k=obj k
 |[]=> .inr rfl
 |q::l=>by
  simp only[map_cons,aL];by_cases e:k=c q.1
  ·exact .inl ⟨q,by simp,e,by rw[if_pos e]⟩
  ·rw[if_neg e];rcases OJ (c:=c) (G:=G) (k:=k) l with ⟨z,h1,h2,h3⟩ |h
   ·exact .inl ⟨z,mem_cons_of_mem _ h1,h2,h3⟩
   ·exact .inr h
theorem Sg (h:Mem P w0 O0 β I obj w) (hn:∀ k,ownN (nid i) k->β k=none) {ids lids:List Nat} {os':List (Nat×aF)} {rv:AV} {keep:Bool} (hgood:OI ids.length os' rv) (hk:keep=true->flatG os' rv)
 (hnd:ids.Nodup) (hl:ids.length<=1000) (hids:∀ k∈ids,∃ o,obj k=some o)
 {w':World} {I1:Nat->Prop} {v:Value} (hM:Mem P w (mg (βc ids β) (Lent β obj lids I)) β1 I1 (olk os') w') (h1:∀ b,Lent β obj lids I b->I1 b) (hr:VR P β1 w' I1 rv v):
 ∃ β' I',Step β I w (nid i) β' I' w'∧Mem P w0 O0 β' I' (aL obj (Qv i ids os'++if keep then []else lids.map (fun k=>(k,none)))) w'∧VR P β' w' I' (rnA (cn i ids) rv) v:=by
 obtain⟨gk,gn,gr,gv⟩:=hgood;have hb0:∀ j k,ids[j]? =some k->βc ids β j=β k:=fun j k hk=>by simp[βc,hk]
 have hown0:∀ k B,β k=some B->¬ ownN (nid i) k:=fun k B hk e=>by rw[hn k e]at hk;cases hk
 have hanc:∀ j k,ids[j]? =some k->∃ B,β k=some B∧β1 j=some B:=by
  intro j k hj;obtain⟨o,ho⟩:=hids k (List.mem_of_getElem? hj);obtain⟨B,hB,_⟩:=h.objs k o ho;have hjl:=(List.getElem?_eq_some_iff.1 hj).1;exact⟨B,hB,hM.anch j B (by simp only[mg];rw[if_pos (by omega),hb0 j k hj];exact hB)⟩
 generalize hβ2:(fun k=>if Ac i k then β1 (1000+(k - nid i))else β k:Nat->Option Blk)=β2;have hβo:∀ k,¬ ownN (nid i) k->β2 k=β k:=fun k hk=>by
  rw[<- hβ2];have:Ac i k=false:=by
   cases e:Ac i k with
   |false=>rfl
   |true=>exact absurd (KG.1 e) hk
  simp[this]
 have hβn:∀ j,1000<=j->j < 1064->β2 (nid i+(j - 1000))=β1 j:=fun j e1 e2=>by
  rw[<- hβ2];have e:Ac i (nid i+(j - 1000))=true:=KG.2 (by simp only[ownN,nid];omega);have e':1000+(nid i+(j - 1000) - nid i)=j:=by omega
  simp only[e,if_true,e']
 have hmap:∀ k,Sc ids.length k->∀ B,β1 k=some B->β2 (cn i ids k)=some B:=by
  rintro k (hk |⟨hk1,hk2⟩) B hB
  ·obtain⟨B',e1,e2⟩:=hanc k _ (List.getElem?_eq_getElem hk);rw[e2]at hB;injection hB with hB;subst hB;simp only[cn,show k < 1000 by omega,if_true,List.getElem?_eq_getElem hk,Option.getD_some];rw[hβo _ (hown0 _ _ e1)];exact e1
  ·simp only[cn,show ¬ k < 1000 by omega,if_false];rw[hβn k hk1 hk2];exact hB
 have look:∀ g k o,aL obj (Qv i ids os'++g) k=some o->(∃ j o0,ids[j]? =some k∧olk os' j=some o0∧o=Cr (cn i ids) o0)∨
  (∃ j o0,1000<=j∧j < 1064∧olk os' j=some o0∧k=nid i+(j - 1000)∧o=Cr (cn i ids) o0)∨(k∉ids∧aL obj g k=some o):=by
  intro g k o hko;rw[lT,Qv,lT]at hko;rcases Sd (obj:=aL (aL obj g) ((os'.filter fun (q:Nat×aF)=>decide (1000<=q.1)).map fun (q:Nat×aF)=>(cn i ids q.1,some (Cr (cn i ids) q.2)))) (F:=fun j=>(olk os' j).map (Cr (cn i ids))) (k:=k) ids 0 with ⟨j,e1,e2⟩ |⟨e1,e2⟩
  ·rw[e2]at hko;simp only[Nat.zero_add,Option.map_eq_some_iff]at hko;obtain⟨o0,e3,e4⟩:=hko;exact .inl ⟨j,o0,e1,e3,e4.symm⟩
  ·rw[e2]at hko;rcases OJ (obj:=aL obj g) (c:=cn i ids) (G:=Cr (cn i ids)) (k:=k) (os'.filter fun q=>decide (1000<=q.1))with ⟨q,e3,e4,e5⟩ |e3
   ·rw[e5]at hko;injection hko with hko;simp only[List.mem_filter,decide_eq_true_eq]at e3;have hq:=gk q e3.1;simp only[Sc]at hq;refine .inr (.inl ⟨q.1,q.2,e3.2,by omega,KL gn e3.1,?_,hko.symm⟩);rw[e4];simp only[cn,show ¬ q.1 < 1000 by omega,if_false]
   ·rw[e3]at hko;exact .inr (.inr ⟨e1,hko⟩)
 have main:∀ (g:List (Nat×Option aF)) (I2:Nat->Prop),(∀ k o,aL obj g k=some o->obj k=some o)->(∀ b,I b->I2 b)->(∀ b,I2 b->I1 b)->(∀ j o B,olk os' j=some o->OR P β1 w' I1 o B->OR P β1 w' I2 o B)->
  (∀ k o b,k∉ids->aL obj g k=some o->Lies β k b->¬ I2 b)->VR P β1 w' I2 rv v->
  ∃ β' I',Step β I w (nid i) β' I' w'∧Mem P w0 O0 β' I' (aL obj (Qv i ids os'++g)) w'∧VR P β' w' I' (rnA (cn i ids) rv) v:=by
  intro g I2 hg hI hI1 hor hng hr2;have hown:∀ b,Kt (βc ids β) b->∃ k o,k∈ids∧obj k=some o∧Lies β k b:=by
   rintro b ⟨j,B,hj,hB⟩;obtain⟨k,e1,e2⟩:=Eu hj;obtain⟨o,e3⟩:=hids k (List.mem_of_getElem? e1);exact⟨k,o,List.mem_of_getElem? e1,e3,B,e2,hB⟩
  have hapart:∀ k o b,k∉ids->obj k=some o->Lies β k b->¬ Kt (βc ids β) b:=by
   intro k o b hk e1 e2 hb;obtain⟨k',o',g1,g2,g3⟩:=hown b hb;have:=h.injL k k' o o' b e1 g2 e2 g3;subst this;exact hk g1
  have hS:Same I w w':=fun b hb=>hM.keep b (h.lt b hb) (fun hb'=>by
   obtain⟨k',o',g1,g2,g3⟩:=hown b hb';exact (h.ownL k' o' b g2 g3).1 hb)
  have cls:∀ k o,aL obj (Qv i ids os'++g) k=some o->(∃ j o0,olk os' j=some o0∧Sc ids.length j∧k=cn i ids j∧β2 k=β1 j∧o=Cr (cn i ids) o0)∨(k∉ids∧obj k=some o∧aL obj g k=some o∧β2 k=β k):=by
   intro k o hko;rcases look g k o hko with ⟨j,o0,e1,e2,e3⟩ |⟨j,o0,e1,e1',e2,e3,e4⟩ |⟨e1,e2⟩
   ·obtain⟨B,e4,e5⟩:=hanc j k e1;have hjl:=(List.getElem?_eq_some_iff.1 e1).1;refine .inl ⟨j,o0,e2,.inl hjl,?_,?_,e3⟩
    ·simp only[cn,show j < 1000 by omega,if_true,e1,Option.getD_some]
    ·rw[hβo _ (hown0 _ _ e4),e4,e5]
   ·refine .inl ⟨j,o0,e2,.inr ⟨e1,e1'⟩,?_,?_,e4⟩
    ·simp only[cn,show ¬ j < 1000 by omega,if_false];exact e3
    ·rw[e3];exact hβn j e1 e1'
   ·obtain⟨B,e3,_⟩:=h.objs k o (hg k o e2);exact .inr ⟨e1,hg k o e2,e2,hβo _ (hown0 _ _ e3)⟩
  have newold:∀ j o0 b,olk os' j=some o0->Lies β1 j b->¬ I2 b∧b < w'.heap.size∧(Kt (βc ids β) b∨w.heap.size<=b):=by
   intro j o0 b e1 e2;obtain⟨a1,a2,a3⟩:=hM.ownL j o0 b e1 e2;exact⟨fun hb=>a1 (hI1 b hb),a2,a3⟩
  refine⟨β2,I2,⟨hβo,fun k B hk=>by rw[hβo k (hown0 k B hk)];exact hk,hS,hI⟩,?_,VR.rn2 rv v (fun k hk=>hmap k (gv k hk)) hr2⟩;constructor
  ·intro k o hko;rcases cls k o hko with ⟨j,o0,e1,e2,e3,e4,rfl⟩ |⟨e1,e2,e3,e4⟩
   ·obtain⟨B,hB,hO⟩:=hM.objs j o0 e1;refine⟨B,by rw[e4];exact hB,OR.rn2 (fun r hr' q hq=>hmap q (gr (j,o0) (Qw e1) r hr' q hq)) (hor j o0 B e1 hO)⟩
   ·obtain⟨B,hB,hO⟩:=h.objs k o e2;refine⟨B,by rw[e4];exact hB,OR.mono (fun q C hq=>by rw[hβo q (hown0 q C hq)];exact hq) hS hI (fun b e=>hM.keep b (h.ownB k o B b e2 hB e).2.1 (hapart k o b e1 e2 ⟨B,hB,e⟩)) hO⟩
  ·intro k k' o o' B B' b ho ho' hb hb' h5 h6;rcases cls k o ho with ⟨j,o0,e1,e2,e3,e4,rfl⟩ |⟨e1,e2,e3,e4⟩
   ·rw[e4]at hb;rcases cls k' o' ho' with ⟨j',o0',f1,f2,f3,f4,rfl⟩ |⟨f1,f2,f3,f4⟩
    ·rw[f4]at hb';have:=hM.injB j j' o0 o0' B B' b e1 f1 hb hb' h5 h6;subst this;rw[e3,f3]
    ·rw[f4]at hb';rcases (newold j o0 b e1 ⟨B,hb,h5⟩).2.2 with g1 |g1
     ·exact absurd g1 (hapart k' o' b f1 f2 ⟨B',hb',h6⟩)
     ·have:=(h.ownB k' o' B' b f2 hb' h6).2.1;omega
   ·rw[e4]at hb;rcases cls k' o' ho' with ⟨j',o0',f1,f2,f3,f4,rfl⟩ |⟨f1,f2,f3,f4⟩
    ·rw[f4]at hb';rcases (newold j' o0' b f1 ⟨B',hb',h6⟩).2.2 with g1 |g1
     ·exact absurd g1 (hapart k o b e1 e2 ⟨B,hb,h5⟩)
     ·have:=(h.ownB k o B b e2 hb h5).2.1;omega
    ·rw[f4]at hb';exact h.injB k k' o o' B B' b e2 f2 hb hb' h5 h6
  ·intro k o B b ho hb h5;rcases cls k o ho with ⟨j,o0,e1,e2,e3,e4,rfl⟩ |⟨e1,e2,e3,e4⟩
   ·rw[e4]at hb;obtain⟨a1,a2,a3⟩:=newold j o0 b e1 ⟨B,hb,h5⟩;refine⟨a1,a2,?_⟩;rcases a3 with a3 |a3
    ·obtain⟨k',o',g1,g2,g3⟩:=hown b a3;exact (h.ownL k' o' b g2 g3).2.2
    ·exact .inr (Nat.le_trans h.le a3)
   ·rw[e4]at hb;obtain⟨a1,a2,a3⟩:=h.ownB k o B b e2 hb h5;exact⟨hng k o b e1 e3 ⟨B,hb,h5⟩,Nat.lt_of_lt_of_le a2 hM.le,a3⟩
  ·exact fun b hb=>hM.lt b (hI1 b hb)
  ·intro b hb;rcases hM.up b (hI1 b hb)with (g1 |⟨k',o',s',n',_,g2,g3⟩) |g1 |g1
   ·exact h.up b g1
   ·exact .inr (h.own k' o' b s' n' g2 g3).2.2
   ·obtain⟨k',o',_,g2,g3⟩:=hown b g1;exact .inr (h.ownL k' o' b g2 g3).2.2
   ·exact .inr (.inr (Nat.le_trans h.le g1))
  ·intro b hb hno;refine (hM.keep b (Nat.lt_of_lt_of_le hb h.le) (fun hb'=>?_)).trans (h.keep b hb hno);obtain⟨k',o',_,g2,g3⟩:=hown b hb';rcases (h.ownL k' o' b g2 g3).2.2 with g1 |g1
   ·exact hno g1
   ·omega
  ·exact Nat.le_trans h.le hM.le
  ·exact hM.os.trans h.os
  ·exact hM.tape.trans h.tape
  ·exact hM.output.trans h.output
  ·intro j B hj;have e:=h.anch j B hj;rw[hβo j (hown0 j B e)];exact e
  ·exact h.vars.mono hS hI
 cases keep with
 |true=>
  obtain⟨hf1,hf2⟩:=hk rfl;exact main [] I (fun _ _ h=>h) (fun _ h=>h) (fun b hb=>h1 b (.inl hb)) (fun j o B hj hO=>OR.flatG (hf2 (j,o) (Qw hj)) hO) (fun k o b _ e1 e2=>(h.ownL k o b e1 e2).1) (VR.flat rv v hf1 hr)
 |false=>
  have hsub:∀ k o,aL obj (lids.map fun k=>(k,none)) k=some o->obj k=some o∧k∉lids:=by
   intro k o hk;rw[rH]at hk;split at hk
   ·cases hk
   ·exact⟨hk,‹_›⟩
  refine main _ I1 (fun k o hk=>(hsub k o hk).1) (fun b hb=>h1 b (.inl hb)) (fun _ h=>h) (fun j o B hj hO=>hO) (fun k o b hki e1 e2 hb=>?_) hr;obtain⟨f1,f2⟩:=hsub k o e1;obtain⟨a1,a2,_⟩:=h.ownL k o b f1 e2;rcases hM.up b hb with (g |⟨k',o',s',n',g1,g2,g3⟩) |⟨j,B',g,g'⟩ |g
  ·exact a1 g
  ·have:=h.injL k k' o o' b f1 g2 e2 (.at g3);subst this;exact f2 g1
  ·obtain⟨k',g1,g2⟩:=Eu g;obtain⟨o',g3⟩:=hids k' (List.mem_of_getElem? g1);have:=h.injL k k' o o' b f1 g3 e2 ⟨B',g2,g'⟩;subst this;exact hki (List.mem_of_getElem? g1)
  ·omega
theorem KM (h:Mem P w0 O0 β I obj w) (hn:∀ k,ownN (nid i) k->β k=none) {f:AV} {args:List AV} {orc:Orc} {get:Nat->Option aF} {out:Out} (hg:∀ k o,get k=some o->obj k=some o)
 {fv:Value} {vs:Array Value} {ops:Array Operand} {fo:Operand} {r:Operand->Value} (ha:EB P i f args orc get=some out) (hob:out.ob) (hf:VR P β w I f fv) (hv:VRl P β w I args vs.toList) (hfo:r fo=fv) (hops:vs=ops.map r)
 {dst:Option Tmp} {pos:String} {after:Array Edge} {guard:Option (Nat×Bool)} {ty:TypeId} {tys:Array TypeId}:
 uE P w0 O0 β I obj w i out ((execOp r ⟨dst,.call { callee:= .value fo,args:=ops,argTypes:=tys },ty,pos,after,guard⟩).run P w):=by
 unfold EB at ha;split at ha
 ·rename_i F first caps ids lids bs hs os' rv keep
  split at ha
  ·rename_i hc;obtain⟨hnd,hl⟩:=hc;rw[ai]at ha;obtain⟨ho,hho,ha⟩:=ha;rw[ai]at ha;obtain⟨q,hq,ha⟩:=ha;injection ha with ha;subst ha;have hob:=kS _ hob;simp only[VR]at hf;obtain⟨fs,cs,rfl,hf1,hf2⟩:=hf;have o1:∀ x∈q.2.2,x:=fun x hx=>hob x (by simp[hx]);have o2:∀ x∈ho.2,x:=fun x hx=>hob x (by simp[hx]);have o3:FnG P F q.1 ho.1 os' rv:=hob (FnG P F q.1 ho.1 os' rv) (by simp);have o4:OI ids.length os' rv:=hob (OI ids.length os' rv) (by simp);have o5:keep=true->flatG os' rv:=fun e=>hob (flatG os' rv) (by simp[e]);obtain⟨l1,l2,l3⟩:KI get (first++args++caps) ids lids bs:=hob (KI get (first++args++caps) ids lids bs) (by simp);obtain⟨⟨fn,e1,e2,e3⟩,hcon⟩:=o3;obtain⟨hl2,hmm⟩:=KJ hho o2;have hids:∀ k∈ids,∃ o,obj k=some o:=by
    intro k hk;obtain⟨j,hj⟩:=List.getElem?_of_mem hk;have hjl:j < ho.1.length:=(by rw[<- hl2];exact (List.getElem?_eq_some_iff.1 hj).1);obtain⟨o,g,_⟩:=hmm j k _ hj (List.getElem?_eq_getElem hjl);exact⟨o,hg _ _ g⟩
   have hM:=h.handedG hg (lids:=lids) hnd hl2 (fun j k z hj hz=>by
    obtain⟨o,g1,g2⟩:=hmm j k z hj hz;refine⟨o,g1,?_⟩;rcases g2 with ⟨d,_,g3⟩ |⟨hs',g3,g4,g5⟩
    ·exact .inl ⟨d,g3⟩
    ·exact .inr ⟨g4,g5,fun k' hk' hn'=>l3 j hs' k o g3 hj g1 k' hk' hn'⟩) l1
   have hall:VRl P β w I (first++args++caps) (fs++vs++cs).toList:=by
    simp only[Array.toList_append];exact VRl.append _ _ _ _ (VRl.append _ _ _ _ hf1 hv) hf2
   have hlent:=BorLW.sound h hg lids _ _ _ (fun k hk hn=>l2 k hk hn) (iU hq o1) hall;refine⟨F,fs++vs++cs,?_,(hcon w _ _ _ (fun k hk=>?_) hM hlent).mono ?_⟩
   ·have hb:¬ fn.body=none:=(by cases hh:fn.body<;>simp[hh]at e2 ⊢);have e3' : ¬ fn.name = "runtime.NumGoroutine" := (by simpa using e3);simp[execOp,resolve,hfo,<- hops,Deferred.ofValue,invoke,callFunc,e1,e3',hb]
   ·simp[βc,List.getElem?_eq_none (show ids.length<=k by omega)]
   ·rintro e w' ⟨v',β1,I1,rfl,g1,g2,g3⟩;obtain⟨β',I',k1,k2,k3⟩:=Sg (keep:=keep) h hn o4 o5 hnd hl hids g1 g2 g3;exact⟨v',β',I',rfl,k1,k2,k3⟩
  ·cases ha
 ·cases ha
end
def fF (P:Program) (i:Nat) (f:AV) (args:List AV) (orc:Orc) (get:Nat->Option aF):Option Out:=
 match orc with
 | .callg ids lids bs hs os' rv keep=>EB P i f args (.callg ids lids bs hs os' rv keep) get
 |orc=>jM P i f args orc get
section
variable {P:Program} {w0:World} {O0:Was} {β:Nat->Option Blk} {I:Nat->Prop} {obj:Nat->Option aF} {w:World} {i:Nat}
theorem KN (h:Mem P w0 O0 β I obj w) (hn:∀ k,ownN (nid i) k->β k=none) {f:AV} {args:List AV} {orc:Orc} {get:Nat->Option aF} {out:Out} (hg:∀ k o,get k=some o->obj k=some o)
 {fv:Value} {vs:Array Value} {ops:Array Operand} {fo:Operand} {r:Operand->Value} (ha:fF P i f args orc get=some out) (hob:out.ob) (hf:VR P β w I f fv) (hv:VRl P β w I args vs.toList) (hfo:r fo=fv) (hops:vs=ops.map r)
 {dst:Option Tmp} {pos:String} {after:Array Edge} {guard:Option (Nat×Bool)} {ty:TypeId} {tys:Array TypeId}:
 uE P w0 O0 β I obj w i out ((execOp r ⟨dst,.call { callee:= .value fo,args:=ops,argTypes:=tys },ty,pos,after,guard⟩).run P w):=by
 unfold fF at ha;split at ha
 ·exact KM h hn hg ha hob hf hv hfo hops
 ·exact Kw h (hn _ (.inl rfl)) hg ha hob hf hv hfo hops
end
structure St where
 env:Nat->AV
 obj:Nat->Option aF
 ok:Nat->Option Bool
structure Ann where
 orc:Orc
 rd:List Nat
 wr:List Nat
 sym:Bool
def eT (P:Program) (T:Tab) (i:Nat) (o:Oper) (orc:Orc) (ρ:Operand->AV) (get:Nat->Option aF):Option Out:=
 match orc with
 | .ext n=>j3 T i o n ρ get
 | .frz ids fr orc'=>Aa P T i o ids fr orc' ρ get
 |orc=>match o.op with
  | .call { callee:= .value f,args:=args,argTypes:=_ }=>fF P i (ρ f) (args.toList.map ρ) orc get
  |_=>kF T i o orc ρ get
def rU {α:Type} (env:Nat->α) (dst:Option Tmp) (v:α):Nat->α:=fun t=>if dst=some t then v else env t
def St.app (σ:St) (dst:Option Tmp) (p:Out×Option Bool):St:=⟨rU σ.env dst p.1.v,aL σ.obj p.1.upd,rU σ.ok dst p.2⟩
def want (ops:Array Oper) (o:Oper) (env:Nat->AV) (ok:Nat->Option Bool):Option Bool:=
 match o.guard with
 |none=>some true
 |some (j,b)=>match (ops[j]?).bind (·.dst)with
  |some t=>match env t,ok t with
   | .t (.sc (.bool v)),none=>some (v==b)
   | .t (.sc (.bool v)),some g=>some (g&&(v==b))
   | .undef,some false=>some false
   |_,_=>none
  |none=>none
def qL (ok:Nat->Option Bool):Operand->List Prop
 | .tmp t=>match ok t with
  |none=>[]
  |some b=>[b=true]
 |_=>[]
def needs (env:Nat->AV) (ok:Nat->Option Bool) (o:Op):List Prop:=
 match o with
 | .pick c a b=>match opv env c with
  | .t (.sc (.bool e))=>qL ok c++((qL ok a).map (fun p=>e=true->p)++(qL ok b).map (fun p=>e=false->p))
  |_=>[False]
 |o=>o.operands.toList.flatMap (qL ok)
def aX (rd:List Nat) (obj:Nat->Option aF):Nat->Option aF:=fun k=>if k∈rd then obj k else none
section
variable (P:Program) (T:Tab) (ops:Array Oper) (ann:Nat->Ann)
def opAt (i:Nat) (σ:St):Option (Out×Option Bool):=
 (ops[i]?).bind fun o=>(want ops o σ.env σ.ok).bind fun g=>match (ann i).sym with
  |true=>(eT P T i o (ann i).orc (opv σ.env) (aX (ann i).rd σ.obj)).bind fun out=>
   if out.upd.isEmpty then some (⟨out.v,[],(needs σ.env σ.ok o.op++out.obs).map fun p=>g=true->p⟩,some g)else none
  |false=>match g with
   |true=>(eT P T i o (ann i).orc (opv σ.env) (aX (ann i).rd σ.obj)).bind fun out=>
    if out.upd.all (fun p=>Ac i p.1 || (ann i).wr.contains p.1)then some (⟨out.v,out.upd,needs σ.env σ.ok o.op++out.obs⟩,none)else none
   |false=>some (⟨.undef,[],[]⟩,some false)
def eOp (i:Nat) (K:St->Prop) (σ:St):Prop:=∃ o out,ops[i]? =some o∧opAt P T ops ann i σ=some out∧out.1.ob∧K (σ.app o.dst out)
def Ji (Q:St->Prop):List Nat->St->Prop
 |[],σ=>Q σ
 |i::r,σ=>eOp P T ops ann i (Ji Q r) σ
def Va (md:Region.Mode) (Q:St->Prop):Nat->Array Bool->St->Prop
 | 0,listed,σ=>Region.ready md ops listed=[]∧Q σ
 |fuel+1,listed,σ=>(Region.ready md ops listed=[]->Q σ)∧∀ i∈Region.ready md ops listed,eOp P T ops ann i (Va md Q fuel (listed.setIfInBounds i true)) σ
end
def qQ (ann:Nat->Ann) (i j:Nat):Bool:=
 (ann j).rd.all (fun k=>!Ac i k&&!(ann i).wr.contains k)&&(!Nat.beq i j&&(ann j).wr.all (fun k=>!Ac i k&&!(ann i).wr.contains k)&&(ann i).wr.all (fun k=>!Ac j k))&&(ann i).rd.all (fun k=>!Ac j k&&!(ann j).wr.contains k)
def Gu (md:Region.Mode) (ops:Array Oper) (i:Nat):List Nat:=
 (List.range ops.size).foldl (fun D j=>match ops[j]? with
  |some oj=>bif oj.after.any (fun e=>Region.binds md e&&(e.on==i || D.contains e.on))then j::D else D
  |none=>D) []
def Xk (md:Region.Mode) (ops:Array Oper) (listed:Array Bool) (i j:Nat):Bool:=
 (Gu md ops i).contains j&&(Gu md ops i).all fun d=>!listed.getD d true
def Gv (md:Region.Mode) (ops:Array Oper) (ann:Nat->Ann) (listed:Array Bool) (i:Nat):Bool:=
 match ops[i]? with
 |some oi=>(List.range ops.size).all fun j=>j==i || listed.getD j true || match ops[j]? with
  |some oj=>oj.after.any (fun e=>Region.binds md e&&e.on==i) || (oi.apart ops oj&&qQ ann i j) || Xk md ops listed i j
  |none=>true
 |none=>false
def lexFrom' (md:Region.Mode) (ops:Array Oper) (ann:Nat->Ann):Nat->Nat->Array Bool->Bool
 | 0,_,listed=>(Region.ready md ops listed).isEmpty
 |fuel+1,k,listed=>(Region.ready md ops listed).contains k&&Gv md ops ann listed k&&lexFrom' md ops ann fuel (k+1) (listed.setIfInBounds k true)
def Xl (ops:Array Oper) (ann:Nat->Ann):Bool:=lexFrom' .any ops ann ops.size 0 (Array.replicate ops.size false)
section
variable {P:Program} {T:Tab} {ops:Array Oper} {ann:Nat->Ann} {md:Region.Mode} {Q:St->Prop}
theorem ZG {i:Nat} {K K':St->Prop} {σ:St} (h:∀ σ,K σ->K' σ) (hh:eOp P T ops ann i K σ):eOp P T ops ann i K' σ:=
 let ⟨o,out,h1,h2,h3,h4⟩:=hh
 ⟨o,out,h1,h2,h3,h _ h4⟩
theorem ED {i:Nat} {o:Oper} {orc:Orc} {ρ ρ':Operand->AV} {get:Nat->Option aF} (h:∀ x∈o.op.operands,ρ x=ρ' x):eT P T i o orc ρ get=eT P T i o orc ρ' get:=by
 have hop:=Il (T:=T) (i:=i) (orc:=orc) (get:=get) h;unfold eT;split
 ·exact NK h
 ·exact Qp h
 ·obtain⟨dst,op,ty,pos,after,guard⟩:=o;simp only at h ⊢;split
  ·rename_i f args tys;simp only[Op.operands,Call.operands]at h;have h1:args.toList.map ρ=args.toList.map ρ':=map_congr_left fun x hx=>h x (by simp;exact .inr (by simpa using hx));rw[h1,h f (by simp)]
  ·exact hop
theorem OL {i:Nat} {σ:St} {out:Out×Option Bool} (h:opAt P T ops ann i σ=some out):∀ p∈out.1.upd,Ac i p.1=true∨p.1∈(ann i).wr:=by
 unfold opAt at h;cases ho:ops[i]? with
 |none=>simp[ho]at h
 |some o=>
  simp only[ho,bind_some]at h;cases hw:want ops o σ.env σ.ok with
  |none=>simp[hw]at h
  |some g=>
   simp only[hw,bind_some]at h;split at h
   ·cases ha:eT P T i o (ann i).orc (opv σ.env) (aX (ann i).rd σ.obj)with
    |none=>simp[ha]at h
    |some out'=>
     simp only[ha,bind_some]at h;split at h
     ·injection h with h;subst h;simp
     ·cases h
   ·split at h
    ·cases ha:eT P T i o (ann i).orc (opv σ.env) (aX (ann i).rd σ.obj)with
     |none=>simp[ha]at h
     |some out'=>
      simp only[ha,bind_some]at h;split at h
      ·rename_i hall;injection h with h;subst h;intro p hp;have:=all_eq_true.1 hall p hp;simpa using this
      ·cases h
    ·injection h with h;subst h;simp
theorem nP {obj:Nat->Option aF}:∀ (upd:List (Nat×Option aF)) (k:Nat),(∀ p∈upd,p.1≠k)->aL obj upd k=obj k
 |[],_,_=>rfl
 |(j,o)::r,k,h=>by
  simp only[aL];rw[if_neg (fun e=>h (j,o) (by simp) e.symm),nP r k (fun p hp=>h p (by simp[hp]))]
theorem xR {obj obj':Nat->Option aF}:∀ (upd:List (Nat×Option aF)) (k:Nat),obj k=obj' k->aL obj upd k=aL obj' upd k
 |[],_,h=>h
 |(j,o)::r,k,h=>by simp only[aL,xR r k h]
theorem Si {env env':Nat->AV} {ok ok':Nat->Option Bool} {o:Op} (h:∀ t,.tmp t∈o.operands->env t=env' t∧ok t=ok' t):needs env ok o=needs env' ok' o:=by
 have h1:∀ x∈o.operands,qL ok x=qL ok' x:=fun x hx=>by
  cases x with
  |tmp t=>simp only[qL,(h t hx).2]
  |_=>rfl
 unfold needs;split
 ·rename_i c a b;have hc:opv env c=opv env' c:=by
   cases c with
   |tmp t=>exact (h t (by simp[Op.operands])).1
   |_=>rfl
  rw[hc,h1 c (by simp[Op.operands]),h1 a (by simp[Op.operands]),h1 b (by simp[Op.operands])]
 ·have:∀ l:List Operand,(∀ x∈l,qL ok x=qL ok' x)->l.flatMap (qL ok)=l.flatMap (qL ok'):=by
   intro l
   induction l with
   |nil=>intro _;rfl
   |cons x xs ih=>intro hx;simp only[List.flatMap_cons,hx x (by simp),ih (fun y hy=>hx y (by simp[hy]))]
  exact this _ fun x hx=>h1 x (by simpa using hx)
theorem Sj {j:Nat} {oi oj:Oper} {out:Out×Option Bool} {σ:St} (hj:ops[j]? =some oj) (hd:∀ d,oi.dst=some d->d∉oj.looksAt ops) (hk:∀ p∈out.1.upd,p.1∉(ann j).rd):
 opAt P T ops ann j (σ.app oi.dst out)=opAt P T ops ann j σ:=by
 unfold opAt;simp only[hj,bind_some];have henv:∀ t,t∈oj.looksAt ops->(σ.app oi.dst out).env t=σ.env t:=fun t ht=>by
  simp only[St.app,rU];rw[if_neg (fun e=>hd t e ht)]
 have hokk:∀ t,t∈oj.looksAt ops->(σ.app oi.dst out).ok t=σ.ok t:=fun t ht=>by
  simp only[St.app,rU];rw[if_neg (fun e=>hd t e ht)]
 have hw:want ops oj (σ.app oi.dst out).env (σ.app oi.dst out).ok=want ops oj σ.env σ.ok:=by
  unfold want;cases hg:oj.guard with
  |none=>rfl
  |some gw=>
   obtain⟨g,b⟩:=gw;cases ht:(ops[g]?).bind (·.dst)with
   |none=>simp only[ht]
   |some t=>simp only[ht,henv t (by simp[Oper.looksAt,hg,ht]),hokk t (by simp[Oper.looksAt,hg,ht])]
 have hget:aX (ann j).rd (σ.app oi.dst out).obj=aX (ann j).rd σ.obj:=by
  funext k;simp only[aX];split
  ·rename_i hkr;exact nP _ _ (fun p hp e=>hk p hp (e ▸ hkr))
  ·rfl
 have hin:∀ t,.tmp t∈oj.op.operands->t∈oj.looksAt ops:=fun t ht=>by simp only[Oper.looksAt];exact List.mem_append_left _ (List.mem_filterMap.2 ⟨.tmp t,by simpa using ht,rfl⟩)
 have hρ:eT P T j oj (ann j).orc (opv (σ.app oi.dst out).env) (aX (ann j).rd σ.obj)=eT P T j oj (ann j).orc (opv σ.env) (aX (ann j).rd σ.obj):=by
  refine ED fun x hx=>?_;cases x with
  |tmp t=>exact henv t (hin t hx)
  |_=>rfl
 have hnd:needs (σ.app oi.dst out).env (σ.app oi.dst out).ok oj.op=needs σ.env σ.ok oj.op:=Si fun t ht=>⟨henv t (hin t ht),hokk t (hin t ht)⟩;rw[hw,hget,hρ,hnd]
theorem ZH {σ:St} {di dj:Option Tmp} {a b:Out×Option Bool} (hd:∀ d,di=some d->dj≠some d) (hk:∀ p∈a.1.upd,∀ q∈b.1.upd,p.1≠q.1):(σ.app di a).app dj b=(σ.app dj b).app di a:=by
 have slot:∀ {α:Type} (e:Nat->α) (x y:α),rU (rU e di x) dj y=rU (rU e dj y) di x:=fun e x y=>by
  funext t;simp only[rU];by_cases h1:dj=some t
  ·rw[if_pos h1,if_neg (fun e=>hd t e h1),if_pos h1]
  ·rw[if_neg h1,if_neg h1]
 simp only[St.app,St.mk.injEq];refine⟨slot _ _ _,?_,slot _ _ _⟩;funext k;by_cases h1:∃ p∈a.1.upd,p.1=k
 ·obtain⟨p,hp,e⟩:=h1;rw[nP b.1.upd k (fun q hq e2=>hk p hp q hq (e.trans e2.symm))];exact xR _ _ (nP b.1.upd k (fun q hq e2=>hk p hp q hq (e.trans e2.symm))).symm
 ·have h2:∀ p∈a.1.upd,p.1≠k:=fun p hp e=>h1 ⟨p,hp,e⟩;rw[nP a.1.upd k h2];exact xR _ _ (nP a.1.upd k h2)
theorem abg {i j:Nat} {oi oj:Oper} {out:Out×Option Bool} {σ:St} {K:St->Prop} (hi:ops[i]? =some oi) (hj:ops[j]? =some oj) (hap:oi.apart ops oj=true) (hfp:qQ ann i j=true)
 (hy:opAt P T ops ann i σ=some out) (h:eOp P T ops ann j K (σ.app oi.dst out)):
 eOp P T ops ann j (fun σ'=>opAt P T ops ann i σ'=some out∧K (σ'.app oi.dst out)) σ:=by
 obtain⟨a1,a2,a3⟩:=Oper.apart_spec hap;simp only[qQ,and_eq_true]at hfp;obtain⟨⟨f1,⟨f0,f2⟩,f2'⟩,f3⟩:=hfp;have hij:i≠j:=by intro e;subst e;rw[show Nat.beq i i=true from Nat.beq_refl i]at f0;cases f0
 have ki:=OL hy;have no:∀ (a:Nat) (l wr:List Nat) (k:Nat),(l.all fun k=>!Ac a k&&!wr.contains k)=true->(Ac a k=true∨k∈wr)->k∈l->False:=by
  intro a l wr k h hk hl;have:=all_eq_true.1 h k hl;simp only[and_eq_true,Bool.not_eq_true']at this;rcases hk with hk |hk
  ·rw[hk]at this;exact absurd this.1 (by simp)
  ·have h2:=this.2;simp[hk]at h2
 obtain⟨o,outj,g1,g2,g3,g4⟩:=h;rw[hj]at g1;injection g1 with g1;subst g1;rw[Sj hj a1 (fun p hp hr=>no _ _ _ _ f1 (ki p hp) hr)]at g2;have kj:=OL g2;have both:∀ k,(Ac i k=true∨k∈(ann i).wr)->(Ac j k=true∨k∈(ann j).wr)->False:=by
  intro k h1 h2;rcases h2 with h2 |h2
  ·rcases h1 with h1 |h1
   ·simp only[Ac,and_eq_true,beq_iff_eq]at h1 h2;exact hij (h1.2.symm.trans h2.2)
   ·have:=all_eq_true.1 f2' k h1;rw[h2]at this;exact absurd this (by simp)
  ·exact no _ _ _ _ f2 h1 h2
 refine⟨oj,outj,hj,g2,g3,?_,?_⟩
 ·rw[Sj hi a3 (fun p hp hr=>no _ _ _ _ f3 (kj p hp) hr)];exact hy
 ·rw[<- ZH a2 (fun p hp q hq e=>both p.1 (ki p hp) (e ▸ kj q hq))];exact g4
theorem Sk {i:Nat}:∀ d∈Gu md ops i,∃ od,ops[d]? =some od∧∃ e∈od.after,Region.binds md e=true∧(e.on=i∨e.on∈Gu md ops i):=by
 have main:∀ (l:List Nat) (D0:List Nat),(∀ d∈D0,∃ od,ops[d]? =some od∧∃ e∈od.after,Region.binds md e=true∧(e.on=i∨e.on∈D0))->
  ∀ d∈l.foldl (fun D j=>match ops[j]? with
    |some oj=>bif oj.after.any (fun e=>Region.binds md e&&(e.on==i || D.contains e.on))then j::D else D
    |none=>D) D0,∃ od,ops[d]? =some od∧∃ e∈od.after,Region.binds md e=true∧(e.on=i∨e.on∈l.foldl (fun D j=>match ops[j]? with
    |some oj=>bif oj.after.any (fun e=>Region.binds md e&&(e.on==i || D.contains e.on))then j::D else D
    |none=>D) D0):=by
  intro l
  induction l with
  |nil=>intro D0 h;exact h
  |cons j l ih=>
   intro D0 h;simp only[List.foldl_cons];refine ih _ ?_;cases hj:ops[j]? with
   |none=>exact h
   |some oj=>
    simp only;cases hb:oj.after.any (fun e=>Region.binds md e&&(e.on==i || D0.contains e.on))with
    |false=>simp only[cond_false];exact h
    |true=>
     simp only[cond_true];intro d hd;rcases mem_cons.1 hd with rfl |hd
     ·obtain⟨e,he,hb'⟩:=Array.any_eq_true'.1 hb;simp only[and_eq_true,Bool.or_eq_true,beq_iff_eq,List.contains_iff_mem]at hb';exact⟨oj,hj,e,he,hb'.1,hb'.2.imp id fun h=>mem_cons_of_mem _ h⟩
     ·obtain⟨od,g1,e,g2,g3,g4⟩:=h d hd;exact⟨od,g1,e,g2,g3,g4.imp id fun h=>mem_cons_of_mem _ h⟩
 exact main _ [] (fun d hd=>by simp at hd)
theorem Iu {i:Nat} {oi:Oper} {listed:Array Bool} (hi:ops[i]? =some oi) (h:Gv md ops ann listed i=true) (j:Nat) (oj:Oper) (hj:ops[j]? =some oj) (hne:j≠i) (hun:listed.getD j true=false)
 (hno:∀ e∈oj.after,Region.binds md e=true->e.on≠i):(oi.apart ops oj=true∧qQ ann i j=true)∨Xk md ops listed i j=true:=by
 simp only[Gv,hi,all_eq_true,List.mem_range]at h;have h1:=h j (Array.getElem?_eq_some_iff.1 hj).1;simp only[hj,Bool.or_eq_true,beq_iff_eq,hne,false_or,hun,Bool.false_eq_true,and_eq_true]at h1;rcases h1 with (h1 |h1) |h1
 ·obtain⟨e,he,hb⟩:=Array.any_eq_true'.1 h1;simp only[and_eq_true,beq_iff_eq]at hb;exact absurd hb.2 (hno e he hb.1)
 ·exact .inl h1
 ·exact .inr h1
theorem KO {i:Nat} {oi:Oper} {out:Out×Option Bool} (D:List Nat) (hi:ops[i]? =some oi) (hD:∀ d∈D,∃ od,ops[d]? =some od∧∃ e∈od.after,Region.binds md e=true∧(e.on=i∨e.on∈D)):
 ∀ (fuel:Nat) (listed:Array Bool) (σ:St),(∀ d∈D,listed.getD d true=false)->
   (∀ j oj,ops[j]? =some oj->j≠i->listed.getD j true=false->j∉D->(∀ e∈oj.after,Region.binds md e=true->e.on≠i)->oi.apart ops oj=true∧qQ ann i j=true)->
   i∈Region.ready md ops listed->opAt P T ops ann i σ=some out->out.1.ob->
   Va P T ops ann md Q fuel (listed.setIfInBounds i true) (σ.app oi.dst out)->Va P T ops ann md Q (fuel+1) listed σ:=by
 intro fuel
 induction fuel with
 |zero=>
  intro listed σ _ _ hr hy hob H;refine⟨fun h=>(by rw[h]at hr;cases hr),fun j hj=>?_⟩;by_cases hji:j=i
  ·subst hji;exact⟨oi,out,hi,hy,hob,H⟩
  ·have:=ready_mono hj hji;rw[H.1]at this;cases this
 |succ fuel ih=>
  intro listed σ hDu hfree hr hy hob H;refine⟨fun h=>(by rw[h]at hr;cases hr),fun j hj=>?_⟩;by_cases hji:j=i
  ·subst hji;exact⟨oi,out,hi,hy,hob,H⟩
  ·have h1:=H.2 j (ready_mono hj hji);obtain⟨hjun,oj,hoj,hall⟩:=mem_ready.1 hj;have hnl:∀ k,listed.getD k true=false->∀ e∈oj.after,Region.binds md e=true->e.on≠k:=fun k h0 e he hb heq=>by
    have h1:=hall e he hb;rw[heq]at h1;rcases Nat.lt_or_ge k listed.size with h' |h'
    ·simp[h']at h0 h1;rw[h0]at h1;cases h1
    ·simp[Array.getElem?_eq_none h']at h1
   have hnot:∀ e∈oj.after,Region.binds md e=true->e.on≠i:=hnl i (mem_ready.1 hr).1;have hjD:j∉D:=fun hm=>by
    obtain⟨od,g1,e,g2,g3,g4⟩:=hD j hm;rw[hoj]at g1;injection g1 with g1;subst g1;rcases g4 with g4 |g4
    ·exact hnot e g2 g3 g4
    ·exact hnl _ (hDu _ g4) e g2 g3 rfl
   obtain⟨hap,hfp⟩:=hfree j oj hoj hji hjun hjD hnot;have h2:=abg hi hoj hap hfp hy h1
   have hfree':∀ k ok,ops[k]? =some ok->k≠i->(listed.setIfInBounds j true).getD k true=false->k∉D->
    (∀ e∈ok.after,Region.binds md e=true->e.on≠i)->oi.apart ops ok=true∧qQ ann i k=true:=fun k ok hk hki hun hkD hno=>by
    refine hfree k ok hk hki ?_ hkD hno;by_cases hjk:j=k
    ·subst hjk;exact hjun
    ·rw[getD_set_ne true hjk]at hun;exact hun
   have hDu':∀ d∈D,(listed.setIfInBounds j true).getD d true=false:=fun d hd=>by
    have hne:j≠d:=fun e=>hjD (by rw[e];exact hd);rw[getD_set_ne true hne];exact hDu d hd
   refine ZG (fun σ' h3=>ih (listed.setIfInBounds j true) σ' hDu' hfree' (ready_mono hr (Ne.symm hji)) h3.1 hob ?_) h2;rw[Array.setIfInBounds_comm _ _ hji];exact h3.2
theorem Sl:∀ (n k:Nat) (listed:Array Bool) (σ:St),lexFrom' md ops ann n k listed=true->Ji P T ops ann Q ((List.range n).map (k+ ·)) σ->Va P T ops ann md Q n listed σ
 | 0,k,listed,σ,hB,h=>⟨by simpa[lexFrom']using hB,by simpa[Ji]using h⟩
 |n+1,k,listed,σ,hB,h=>by
  simp only[lexFrom',and_eq_true]at hB;obtain⟨⟨hr,hfp⟩,hB'⟩:=hB;rw[List.range_succ_eq_map,map_cons,List.map_map]at h;simp only[Ji,Nat.add_zero]at h;obtain⟨o,out,h1,h2,h3,h4⟩:=h;have fin:Va P T ops ann md Q n (listed.setIfInBounds k true) (σ.app o.dst out)->Va P T ops ann md Q (n+1) listed σ:=by
   intro H;cases hd:(Gu md ops k).all fun d=>!listed.getD d true with
   |true=>
    refine KO (Gu md ops k) h1 Sk n listed σ (fun d hd'=>by simpa using all_eq_true.1 hd d hd') (fun j oj hj hne hun hjD hno=>?_) (by simpa using hr) h2 h3 H;rcases Iu h1 hfp j oj hj hne hun hno with h |h
    ·exact h
    ·simp only[Xk,and_eq_true,List.contains_iff_mem]at h;exact absurd h.1 hjD
   |false=>
    refine KO [] h1 (fun d hd'=>by simp at hd') n listed σ (fun d hd'=>by simp at hd') (fun j oj hj hne hun _ hno=>?_) (by simpa using hr) h2 h3 H;rcases Iu h1 hfp j oj hj hne hun hno with h |h
    ·exact h
    ·simp only[Xk,and_eq_true]at h;rw[h.2]at hd;cases hd
  refine fin ?_;refine Sl n (k+1) _ _ hB' ?_;have e:(fun x=>k+x)∘Nat.succ=fun x=>k+1+x:=by funext x;simp only[Function.comp];omega
  rw[e]at h4;exact h4
end
def SlotR (P:Program) (β:Nat->Option Blk) (w:World) (I:Nat->Prop) (x:AV) (ok:Option Bool) (v:Value):Prop:=
 match ok with
 |none=>VR P β w I x v
 |some b=>(b=true->VR P β w I x v)∧(b=false->v=undef)
theorem SlotR.mono {P:Program} {β β':Nat->Option Blk} {w w':World} {I I':Nat->Prop} (hb:∀ k B,β k=some B->β' k=some B) (hs:Same I w w') (hi:∀ b,I b->I' b) {x:AV} {ok:Option Bool} {v:Value} (h:SlotR P β w I x ok v):SlotR P β' w' I' x ok v:=by
 cases ok with
 |none=>exact VR.mono hb hs hi _ _ h
 |some b=>exact⟨fun hh=>VR.mono hb hs hi _ _ (h.1 hh),h.2⟩
structure Rel (P:Program) (w0:World) (O0:Was) (N:Nat) (β:Nat->Option Blk) (I:Nat->Prop) (σ:St) (a:Act) (w:World):Prop where
 defers:a.defers=[]
 size:a.tmps.size=N
 env:∀ t,SlotR P β w I (σ.env t) (σ.ok t) (a.tmps.getD t undef)
 mem:Mem P w0 O0 β I σ.obj w
section
variable {P:Program} {T:Tab} {w0:World} {O0:Was} {N:Nat} {β:Nat->Option Blk} {I:Nat->Prop} {σ:St} {a:Act} {w:World} {ops:Array Oper} {ann:Nat->Ann}
def Fr (un:Nat->Prop) (β:Nat->Option Blk):Prop:=∀ i k,un i->ownN (nid i) k->β k=none
theorem JW (hgv:VarsOk w I) {x:Operand} (h:∀ t,x= .tmp t->VR P β w I (σ.env t) (a.tmps.getD t undef)):VR P β w I (opv σ.env x) (a.eval x):=by
 cases x with
 |tmp t=>exact h t rfl
 |const v=>exact VR.cv
 |global g=>
  simp only[opv];split
  ·rename_i row hg;simp only[VR,Act.eval];exact⟨g,0,rfl,(hgv g row hg).1,(hgv g row hg).2⟩
  ·simp[VR]
 |func f=>simp only[opv,VR,Act.eval];exact⟨#[],#[],rfl,by simp[VRl],by simp[VRl]⟩
theorem uF (hr:Rel P w0 O0 N β I σ a w) {x:Operand} (h:∀ p∈qL σ.ok x,p):VR P β w I (opv σ.env x) (a.eval x):=by
 refine JW hr.mem.vars fun t hx=>?_;subst hx;have h1:=hr.env t;simp only[qL]at h;cases hk:σ.ok t with
 |none=>rw[hk]at h1;exact h1
 |some b=>rw[hk]at h1 h;exact h1.1 (h _ (by simp))
theorem Vb (hT:bI P T) {i:Nat} {o:Oper} {orc:Orc} {rd:List Nat} {out:Out} (hr:Rel P w0 O0 N β I σ a w) (hn:∀ k,ownN (nid i) k->β k=none) (ha:eT P T i o orc (opv σ.env) (aX rd σ.obj)=some out)
 (hob:out.ob) (hnd:∀ p∈needs σ.env σ.ok o.op,p):Did P w0 O0 β I σ.obj w i out ((execOp a.eval o).run P w)∨uE P w0 O0 β I σ.obj w i out ((execOp a.eval o).run P w):=by
 have hg:∀ k ob,aX rd σ.obj k=some ob->σ.obj k=some ob:=fun k ob hk=>by
  simp only[aX]at hk;split at hk
  ·exact hk
  ·cases hk
 by_cases hp:∃ c x y,o.op= .pick c x y
 ·obtain⟨c,x,y,he⟩:=hp;obtain⟨dst,op,ty,pos,after,guard⟩:=o;simp only at he;subst he;have ha:kF T i ⟨dst,.pick c x y,ty,pos,after,guard⟩ orc (opv σ.env) (aX rd σ.obj)=some out:=by
   unfold eT at ha;split at ha
   ·cases ha
   ·cases ha
   ·exact ha
  simp only[kF]at ha;simp only[needs]at hnd;split at ha
  ·rename_i t hc;rw[hc]at hnd;simp only[pv,Option.some.injEq]at ha;subst ha;have h1:=uF hr (x:=c) (fun p hp=>hnd p (by simp[hp]));rw[hc]at h1;simp only[VR,TR]at h1;refine .inl ⟨if t then a.eval x else a.eval y,w,β,I,.inl ?_,Step.refl ..,hr.mem,?_⟩
   ·simp only[execOp,h1.1,asBool];simp
   ·rw[Kk];cases t
    ·exact uF hr fun p hp=>hnd (false=false->p) (by simp only[mem_append,mem_map];exact .inr (.inr ⟨p,hp,rfl⟩)) rfl
    ·exact uF hr fun p hp=>hnd (true=true->p) (by simp only[mem_append,mem_map];exact .inr (.inl ⟨p,hp,rfl⟩)) rfl
  ·cases ha
 ·have hnd':∀ x∈o.op.operands,∀ p∈qL σ.ok x,p:=fun x hx p hp'=>hnd p (by
   unfold needs;split
   ·rename_i c x y he;exact absurd ⟨c,x,y,he⟩ hp
   ·exact List.mem_flatMap.2 ⟨x,by simpa using hx,hp'⟩)
  have hρ:∀ x,VR P β w I ((fun x=>open Classical in if x∈o.op.operands then opv σ.env x else .undef) x) (a.eval x):=fun x=>by
   by_cases hx:x∈o.op.operands
   ·simp only[hx,if_true];exact uF hr (hnd' x hx)
   ·simp only[hx,if_false,VR]
  rw[ED (ρ':=fun x=>open Classical in if x∈o.op.operands then opv σ.env x else .undef) (fun x hx=>by simp only[hx,if_true])]at ha;generalize (fun x=>open Classical in if x∈o.op.operands then opv σ.env x else AV.undef)=ρ at ha hρ;unfold eT at ha;split at ha
  ·exact .inl (NQ hT hr.mem (hn _ (.inl rfl)) hg hρ ha hob)
  ·exact .inl (Qs hT hr.mem (hn _ (.inl rfl)) hg hρ ha hob)
  ·split at ha
   ·rename_i f args tys heq;obtain⟨dst,op,ty,pos,after,guard⟩:=o;simp only at heq;subst heq;exact .inr (KN hr.mem hn hg ha hob (hρ f) (by rw[Array.toList_map];exact VRl.map hρ _) rfl rfl)
   ·exact .inl (Ij hT hr.mem (hn _ (.inl rfl)) hg hρ ha hob)
theorem Ya (hr:Rel P w0 O0 N β I σ a w) {o:Oper} {b:Bool} (hb:want ops o σ.env σ.ok=some b):Region.wanted o (yielded ops a.tmps)=b:=by
 unfold want at hb;unfold Region.wanted;cases hg:o.guard with
 |none=>simp only[hg,Option.some.injEq]at hb ⊢;exact hb
 |some gw=>
  obtain⟨g,bw⟩:=gw;simp only[hg]at hb ⊢;unfold yielded;cases ht:(ops[g]?).bind (·.dst)with
  |none=>simp[ht]at hb
  |some t=>
   simp only[ht]at hb;have he:=hr.env t;have val:∀ v:Bool,a.tmps.getD t undef= .bool v->a.tmps[t]? =some (.bool v):=fun v hv=>by
    cases hh:a.tmps[t]? with
    |none=>simp[hh,undef]at hv
    |some u=>simp[hh]at hv;rw[hv]
   split at hb
   ·rename_i v e1 e2;rw[e1,e2]at he;simp only[SlotR,VR,TR]at he;injection hb with hb;subst hb;simp only[bind_some,val v he.1];cases v<;>cases bw<;>rfl
   ·rename_i v q e1 e2;rw[e1,e2]at he;simp only[SlotR,VR,TR]at he;injection hb with hb;subst hb;cases q with
    |true=>
     simp only[bind_some,val v (he.1 rfl).1];cases v<;>cases bw<;>rfl
    |false=>
     have h0:=he.2 rfl;simp only[bind_some];cases hh:a.tmps[t]? with
     |none=>simp
     |some u=>simp[hh,undef]at h0;subst h0;simp
   ·rename_i e1 e2;rw[e1,e2]at he;injection hb with hb;subst hb;have h0:=he.2 rfl;simp only[bind_some];cases hh:a.tmps[t]? with
    |none=>simp
    |some u=>simp[hh,undef]at h0;subst h0;simp
   ·cases hb
theorem EF:∀ (l:List Prop),fC l->∀ p∈l,p
 |[],_,_,hp=>by simp at hp
 |[q],h,p,hp=>by rw[mem_singleton]at hp;rw[hp];exact h
 |q::r::l,h,p,hp=>by
  rcases mem_cons.1 hp with e |hp
  ·rw[e];exact h.1
  ·exact EF (r::l) h.2 p hp
theorem Iw (hT:bI P T) {i:Nat} {K:St->Prop} {Q:Exit->Act->World->Prop} {K':Act->World->Prop} {un:Nat->Prop} (hd:∀ (j:Nat) (o:Oper) (d:Tmp),ops[j]? =some o->o.dst=some d->d < N)
 (hr:Rel P w0 O0 N β I σ a w) (hf:Fr un β) (hi:un i)
 (hK:∀ σ' a' w' β' I',Rel P w0 O0 N β' I' σ' a' w'->Fr (fun j=>un j∧j≠i) β'->K σ'->K' a' w') (h:eOp P T ops ann i K σ):wpOp P ops Q i K' a w:=by
 obtain⟨o,⟨out,okb⟩,h1,h2,h3,h4⟩:=h;have put:∀ (v':Value) (w':World) (β':Nat->Option Blk) (I':Nat->Prop),Step β I w (nid i) β' I' w'->Mem P w0 O0 β' I' (aL σ.obj out.upd) w'->SlotR P β' w' I' out.v okb v'->K' (a.put o.dst v') w':=by
  intro v' w' β' I' k1 k2 k3;refine hK (σ.app o.dst (out,okb)) _ w' β' I' ⟨?_,?_,?_,k2⟩ ?_ h4
  ·cases hdst:o.dst<;>simp[Act.put,hr.defers]
  ·cases hdst:o.dst<;>simp[Act.put,hr.size]
  ·intro t;have hold:=SlotR.mono k1.ext k1.same k1.inc (hr.env t);simp only[St.app,rU];cases hdst:o.dst with
   |none=>simpa[Act.put]using hold
   |some d=>
    simp only[Act.put,Option.some.injEq];by_cases hdt:d=t
    ·subst hdt;rw[if_pos rfl,if_pos rfl];have hlt:d < a.tmps.size:=Nat.lt_of_lt_of_eq (hd i o d h1 hdst) hr.size.symm;have e:(a.tmps.setIfInBounds d v').getD d undef=v':=(by simp[hlt]);rw[e];exact k3
    ·rw[if_neg hdt,if_neg hdt];simpa[Array.getElem?_setIfInBounds_ne hdt]using hold
  ·intro j k hj hk;rw[k1.other k (by have:=hj.2;simp only[ownN,nid]at hk ⊢;omega)];exact hf j k hj.1 hk
 unfold opAt at h2;simp only[h1,bind_some]at h2;unfold wpOp;simp only[h1];have hn:=fun k=>hf i k hi;cases hw:want ops o σ.env σ.ok with
 |none=>simp[hw]at h2
 |some g=>
  simp only[hw,bind_some]at h2;rw[Ya hr hw]
  have run:∀ (out':Out),eT P T i o (ann i).orc (opv σ.env) (aX (ann i).rd σ.obj)=some out'->(∀ p∈needs σ.env σ.ok o.op++out'.obs,p)->out'.v=out.v->(out'.upd=out.upd)->(∀ β' w' I' v',VR P β' w' I' out.v v'->SlotR P β' w' I' out.v okb v')->
   o.wp P a w K' Q:=by
   intro out' ha hob e1 e2 hslot;have hDid:=Vb hT hr hn ha (lm _ fun p hp=>hob p (by simp[hp])) (fun p hp=>hob p (by simp[hp]));unfold Oper.wp;rcases hDid with ⟨v',w',β',I',hrun,k1,k2,k3⟩ |⟨F,args,hrun,hcal⟩
   ·rw[e1]at k3;rw[e2]at k2;rcases hrun with hrun |⟨hrun,rfl⟩
    ·rw[hrun];exact put v' w' β' I' k1 k2 (hslot _ _ _ _ k3)
    ·rw[hrun];exact put _ w' β' I' k1 k2 (hslot _ _ _ _ k3)
   ·rw[hrun];refine hcal.mono ?_;rintro e w' ⟨v',β',I',rfl,k1,k2,k3⟩;rw[e1]at k3;rw[e2]at k2;exact put v' w' β' I' k1 k2 (hslot _ _ _ _ k3)
  split at h2
  ·cases ha:eT P T i o (ann i).orc (opv σ.env) (aX (ann i).rd σ.obj)with
   |none=>simp[ha]at h2
   |some out'=>
    simp only[ha,bind_some]at h2;split at h2
    ·rename_i hem;simp only[Option.some.injEq,Prod.mk.injEq]at h2;obtain⟨rfl,rfl⟩:=h2;have hem':out'.upd=[]:=(by simpa using hem);have h3:=EF _ h3;cases g with
     |true=>
      simp only[if_true];refine .inl (run out' ha (fun p hp=>h3 (true=true->p) (mem_map.2 ⟨p,hp,rfl⟩) rfl) rfl hem' fun _ _ _ _ hv=>⟨fun _=>hv,fun h=>by cases h⟩)
     |false=>
      simp only[Bool.false_eq_true,if_false];exact put _ w β I (Step.refl ..) hr.mem ⟨fun h=>(by cases h),fun _=>rfl⟩
    ·cases h2
  ·split at h2
   ·cases ha:eT P T i o (ann i).orc (opv σ.env) (aX (ann i).rd σ.obj)with
    |none=>simp[ha]at h2
    |some out'=>
     simp only[ha,bind_some]at h2;split at h2
     ·simp only[Option.some.injEq,Prod.mk.injEq]at h2;obtain⟨rfl,rfl⟩:=h2;simp only[if_true];exact .inl (run out' ha (EF _ h3) rfl rfl fun _ _ _ _ hv=>hv)
     ·cases h2
   ·simp only[Option.some.injEq,Prod.mk.injEq]at h2;obtain⟨rfl,rfl⟩:=h2;simp only[Bool.false_eq_true,if_false];exact put _ w β I (Step.refl ..) hr.mem ⟨fun h=>(by cases h),fun _=>rfl⟩
theorem Df (hT:bI P T) {md:Region.Mode} {Q:St->Prop} {Q':Exit->Act->World->Prop} (hd:∀ (j:Nat) (o:Oper) (d:Tmp),ops[j]? =some o->o.dst=some d->d < N)
 (hQ:∀ σ a w β I,Rel P w0 O0 N β I σ a w->Q σ->Q' .normal a w):∀ (fuel:Nat) (listed:Array Bool) (σ:St) (a:Act) (w:World) (β:Nat->Option Blk) (I:Nat->Prop),Rel P w0 O0 N β I σ a w->
  Fr (fun j=>listed.getD j true=false) β->Va P T ops ann md Q fuel listed σ->wpAny P md ops Q' fuel listed a w
 | 0,_,_,_,_,_,_,hr,_,h=>⟨h.1,hQ _ _ _ _ _ hr h.2⟩
 |fuel+1,listed,σ,a,w,β,I,hr,hf,h=>by
  refine⟨fun h0=>hQ _ _ _ _ _ hr (h.1 h0),fun i hi=>?_⟩;have hun:listed.getD i true=false:=(mem_ready.1 hi).1;refine Iw hT hd hr hf hun (fun σ' a' w' β' I' hr' hf' hK=>?_) (h.2 i hi);refine Df hT hd hQ fuel _ σ' a' w' β' I' hr' (fun j k hj hk=>hf' j k ?_ hk) hK;have hj:(listed.setIfInBounds i true).getD j true=false:=hj;by_cases hji:i=j
  ·subst hji;rcases Nat.lt_or_ge i listed.size with h1 |h1
   ·simp[h1]at hj
   ·simp[Array.getElem?_eq_none h1]at hun
  ·rw[getD_set_ne true hji]at hj;exact⟨hj,fun e=>hji e.symm⟩
theorem Dg (hT:bI P T) {Q:St->Prop} {Q':Exit->Act->World->Prop} (hd:∀ (j:Nat) (o:Oper) (d:Tmp),ops[j]? =some o->o.dst=some d->d < N)
 (hQ:∀ σ a w β I,Rel P w0 O0 N β I σ a w->Q σ->Q' .normal a w):∀ (l:List Nat) (σ:St) (a:Act) (w:World) (β:Nat->Option Blk) (I:Nat->Prop),l.Nodup->Rel P w0 O0 N β I σ a w->
  Fr (fun j=>j∈l) β->Ji P T ops ann Q l σ->wpOps P ops Q' l a w
 |[],_,_,_,_,_,_,hr,_,h=>hQ _ _ _ _ _ hr h
 |i::l,σ,a,w,β,I,hn,hr,hf,h=>by
  rw[wpOps_cons];refine Iw hT hd hr hf (by simp) (fun σ' a' w' β' I' hr' hf' hK=>?_) h;refine Dg hT hd hQ l σ' a' w' β' I' (List.nodup_cons.1 hn).2 hr' (fun j k hj hk=>hf' j k ⟨by simp[hj],fun e=>?_⟩ hk) hK;subst e;exact (List.nodup_cons.1 hn).1 hj
def Qx (N:Nat) (ops:Array Oper):Bool:=ops.all fun o=>match o.dst with |some d=>decide (d < N) |none=>true
theorem Iy (h:Qx N ops=true) (j:Nat) (o:Oper) (d:Tmp) (hj:ops[j]? =some o) (hd:o.dst=some d):d < N:=by
 have:=Array.all_eq_true_iff_forall_mem.1 h o (Array.mem_of_getElem? hj);simpa[hd]using this
structure Old (σ:St):Prop where
 env:∀ t k,k∈refs (σ.env t)->k < 1000000
 obj:∀ k o,σ.obj k=some o->k < 1000000∧∀ r∈o.rows,∀ x∈r,∀ j∈refs x,j < 1000000
mutual
theorem VR.restrict {β':Nat->Option Blk} (h:∀ k,k < 1000000->β' k=β k):∀ (x:AV) (v:Value),(∀ k∈refs x,k < 1000000)->VR P β w I x v->VR P β' w I x v
 | .t _,_,_,hv=>by simpa[VR]using hv
 | .agg cs,_,hk,hv=>by
  simp only[VR]at hv ⊢;obtain⟨vs,h1,h2⟩:=hv;exact⟨vs,h1,VRl.restrict h cs _ (by simpa[refs]using hk) h2⟩
 | .tup cs,_,hk,hv=>by
  simp only[VR]at hv ⊢;obtain⟨vs,h1,h2⟩:=hv;exact⟨vs,h1,VRl.restrict h cs _ (by simpa[refs]using hk) h2⟩
 | .own k _ _,_,hk,hv=>by simp only[VR,h k (hk k (by simp[refs]))]at hv ⊢;exact hv
 | .ptr k _ _,_,hk,hv=>by simp only[VR,h k (hk k (by simp[refs]))]at hv ⊢;exact hv
 | .rptr _ _,_,_,hv=>by simpa[VR]using hv
 | .fn f first caps,_,hk,hv=>by
  simp only[VR]at hv ⊢;obtain⟨fs,cs,h1,h2,h3⟩:=hv;exact⟨fs,cs,h1,VRl.restrict h first _ (fun k hk'=>hk k (by simp[refs,hk'])) h2,VRl.restrict h caps _ (fun k hk'=>hk k (by simp[refs,hk'])) h3⟩
 | .clo _,_,_,hv=>by simpa[VR]using hv
 | .mp k,_,hk,hv=>by simp only[VR,h k (hk k (by simp[refs]))]at hv ⊢;exact hv
 | .oz k _,_,hk,hv=>by simp only[VR,h k (hk k (by simp[refs]))]at hv ⊢;exact hv
 | .nilsl,_,_,hv=>by simpa[VR]using hv
 | .ub,_,_,hv=>by simpa[VR]using hv
 | .undef,_,_,_=>by simp[VR]
theorem VRl.restrict {β':Nat->Option Blk} (h:∀ k,k < 1000000->β' k=β k):∀ (xs:List AV) (vs:List Value),(∀ k∈bH xs,k < 1000000)->VRl P β w I xs vs->VRl P β' w I xs vs
 |[],[],_,_=>by simp[VRl]
 |x::xs,v::vs,hk,hv=>by
  simp only[VRl]at hv ⊢;exact⟨VR.restrict h x v (fun k hk'=>hk k (by simp[bH,hk'])) hv.1,VRl.restrict h xs vs (fun k hk'=>hk k (by simp[bH,hk'])) hv.2⟩
 |[],_::_,_,hv=>by simp[VRl]at hv
 |_::_,[],_,hv=>by simp[VRl]at hv
end
theorem OM:∀ {xs:List AV} {k:Nat},k∈bH xs->∃ x∈xs,k∈refs x
 |[],_,h=>by simp[bH]at h
 |x::xs,k,h=>by
  simp only[bH,mem_append]at h;rcases h with h |h
  ·exact⟨x,by simp,h⟩
  ·obtain⟨y,h1,h2⟩:=OM h;exact⟨y,by simp[h1],h2⟩
theorem Rel.restrict (ho:Old σ) (hr:Rel P w0 O0 N β I σ a w):Rel P w0 O0 N (fun k=>if k < 1000000 then β k else none) I σ a w:=by
 have hb:∀ k,k < 1000000->(fun k=>if k < 1000000 then β k else none) k=β k:=fun k hk=>by simp[hk]
 have hslot:∀ t,SlotR P (fun k=>if k < 1000000 then β k else none) w I (σ.env t) (σ.ok t) (a.tmps.getD t undef):=fun t=>by
  have h1:=hr.env t;cases hk:σ.ok t with
  |none=>rw[hk]at h1;exact VR.restrict hb _ _ (ho.env t) h1
  |some b=>rw[hk]at h1;exact⟨fun h=>VR.restrict hb _ _ (ho.env t) (h1.1 h),h1.2⟩
 refine⟨hr.defers,hr.size,hslot,?_⟩;have hm:=hr.mem;constructor
 ·intro k o hk;obtain⟨B,hB,hO⟩:=hm.objs k o hk;obtain⟨h1,h2⟩:=ho.obj k o hk;refine⟨B,by simp only[h1,if_true];exact hB,?_⟩;cases B with
  |none=>exact hO
  | «at» b s n=>
   obtain⟨g1,c,e,g2,g3,g4⟩:=hO;refine⟨g1,c,e,g2,g3,?_⟩;rw[lS]at g4 ⊢;intro i r hir;obtain⟨q1,q2⟩:=g4 i r hir;refine⟨q1,?_⟩;rw[gG]at q2 ⊢;intro j x hx;obtain⟨v,p1,p2,p3⟩:=q2 j x hx;exact⟨v,p1,VR.restrict hb _ _ (h2 r (List.mem_of_getElem? hir) x (List.mem_of_getElem? hx)) p2,p3⟩
  |mp b=>
   obtain⟨es,cl,g1,gl,g2,g3⟩:=hO;refine⟨es,cl,g1,gl,fun e=>MRows.tell rfl (fun j r q' a b vs hv=>?_) (g2 e),g3⟩;rw[a]at b;injection b with b;subst b;exact VRl.restrict hb _ _ (fun k hk=>by
    obtain⟨x,hx,hk⟩:=OM hk;exact h2 r (List.mem_of_getElem? a) x hx k hk) hv
 ·intro k k' o o' B B' b h1 h2 h3 h4;simp only[(ho.obj k o h1).1,(ho.obj k' o' h2).1,if_true]at h3 h4;exact hm.injB k k' o o' B B' b h1 h2 h3 h4
 ·intro k o B b h1 h2;simp only[(ho.obj k o h1).1,if_true]at h2;exact hm.ownB k o B b h1 h2
 ·exact hm.lt
 ·exact hm.up
 ·exact hm.keep
 ·exact hm.le
 ·exact hm.os
 ·exact hm.tape
 ·exact hm.output
 ·intro j B hj;have:=O0.lt j B hj;show (if j < 1000000 then β j else none)=some B;rw[if_pos (by omega)];exact hm.anch j B hj
 ·exact hm.vars
theorem Rel.drew (hr:Rel P w0 O0 N β I σ a w):Rel P w0 O0 N β I σ a w.drew:=
 ⟨hr.defers,hr.size,fun t=>SlotR.mono (w:=w) (w':=w.drew) (fun _ _ h=>h) (fun _ _=>rfl) (fun _ h=>h) (hr.env t),hr.mem.drew⟩
theorem Yb (hT:bI P T) {id:Nat} {Q:St->Prop} (hd:Qx N ops=true) (ho:Old σ) (h:Ji P T ops ann Q (List.range ops.size) σ) (hr:Rel P w0 O0 N β I σ a w):
 (Code.region id ops false).wp P (fun e a' w'=>∃ β' I' σ',Rel P w0 O0 N β' I' σ' a' w'∧e= .normal∧Q σ') a w:=by
 refine wp_region (Dg hT (Iy hd) (Q:=Q) (fun σ a w β I hr hq=>⟨β,I,σ,hr,rfl,hq⟩) _ σ a w _ I List.nodup_range (hr.restrict ho) (fun j k _ hk=>?_) h);exact if_neg (by simp only[ownN,nid]at hk;omega)
theorem KP (hT:bI P T) (hm:P.follows .mixedOrders=true) {id:Nat} {Q:St->Prop} (hd:Qx N ops=true) (hB:Xl ops ann=true) (ho:Old σ) (h:Ji P T ops ann Q (List.range ops.size) σ) (hr:Rel P w0 O0 N β I σ a w):
 (Code.region id ops true).wp P (fun e a' w'=>∃ β' I' σ',Rel P w0 O0 N β' I' σ' a' w'∧e= .normal∧Q σ') a w:=by
 refine wp_region_any hm (Df hT (md:= .any) (ann:=ann) (Iy hd) (Q:=Q) (fun σ a w β I hr hq=>⟨β,I,σ,hr,rfl,hq⟩) _ _ σ a _ _ I (hr.restrict ho).drew (fun j k _ hk=>?_) ?_)
 ·exact if_neg (by simp only[ownN,nid]at hk;omega)
 ·refine Sl ops.size 0 _ σ hB ?_;have e:(List.range ops.size).map (fun x=>0+x)=List.range ops.size:=by simp
  rw[e];exact h
end
def Ev (P:Program) (N:Nat) (c:Code) (Q:Exit->St->Prop) (σ:St):Prop:=
 ∀ (w0:World) (O0:Was) (β:Nat->Option Blk) (I:Nat->Prop) (a:Act) (w:World),Rel P w0 O0 N β I σ a w->Old σ->
   c.wp P (fun e a' w'=>∃ β' I' σ',Rel P w0 O0 N β' I' σ' a' w'∧Old σ'∧Q e σ') a w
def ab3 (K:St->Prop) (Q:Exit->St->Prop):Exit->St->Prop
 | .normal,σ=>K σ
 |e,σ=>Q e σ
def Vd (id:Nat) (Q:Exit->St->Prop):Exit->St->Prop
 | .exit j,σ=>if j=id then Q .normal σ else Q (.exit j) σ
 |e,σ=>Q e σ
theorem Gw {P:Program} {c:Code} {Q:Exit->Act->World->Prop} (J:Nat->Act->World->Prop) (h0:∀ a w,¬ J 0 a w) (round:∀ n a w,J (n+1) a w->c.wp P (Exit.then (J n) Q) a w) (n:Nat) (a:Act) (w:World) (h:J n a w):
 (Code.loop c).wp P Q a w:=by
 intro b k cs;have key:∀ n a w,J n a w->∃ e a' w',Q e a' w'∧Arrives P (lone (b.at a (.code c:: .inLoop c::k)) cs w) b k cs e a' w':=by
  intro n
  induction n with
  |zero=>intro a w h;exact (h0 a w h).elim
  |succ n ih=>
   intro a w hI;obtain⟨e,a₁,w₁,hq,harr⟩:=round n a w hI b (.inLoop c::k) cs;cases e with
   |normal=>
    obtain⟨e₂,a₂,w₂,hq₂,harr₂⟩:=ih a₁ w₁ hq;exact⟨e₂,a₂,w₂,hq₂,.of_steps (Steps.trans harr (.one step_inLoop)) harr₂⟩
   |exit id=>exact⟨_,a₁,w₁,hq,.pass (x:= .inLoop c) rfl (fun _ _=> .inl (by simp)) harr⟩
   |goto l=>exact⟨_,a₁,w₁,hq,.pass (x:= .inLoop c) rfl (fun _ _=> .inl (by simp)) harr⟩
   |ret=>exact⟨_,a₁,w₁,hq,.pass (x:= .inLoop c) rfl (fun _ _=> .inl (by simp)) harr⟩
   |panic ch=>exact⟨_,a₁,w₁,hq,.pass (x:= .inLoop c) rfl (fun _ _=> .inl (by simp)) harr⟩
   |outgrown=>exact⟨_,a₁,w₁,hq,.pass (x:= .inLoop c) rfl (fun _ _=> .inl (by simp)) harr⟩
 obtain⟨e,a',w',hq,harr⟩:=key n a w h;exact⟨e,a',w',hq,.of_steps (.one step_loop) harr⟩
section
variable {P:Program} {N:Nat} {Q:Exit->St->Prop} {σ:St}
theorem Ev.mono {c:Code} {Q':Exit->St->Prop} (h:Ev P N c Q σ) (hq:∀ e σ,Q e σ->Q' e σ):Ev P N c Q' σ:=
 fun w0 O0 β I a w hr ho=>wp_mono (h w0 O0 β I a w hr ho) fun _ _ _ ⟨β',I',σ',h1,h2,h3⟩=>⟨β',I',σ',h1,h2,hq _ _ h3⟩
theorem abh (h:Q .normal σ):Ev P N .skip Q σ:=fun _ _ β I _ _ hr ho=>wp_skip ⟨β,I,σ,hr,ho,h⟩
theorem abj {id:Nat} (h:Q (.exit id) σ):Ev P N (.exit id) Q σ:=fun _ _ β I _ _ hr ho=>wp_exit ⟨β,I,σ,hr,ho,h⟩
theorem acp (h:Q .ret σ):Ev P N .ret Q σ:=fun _ _ β I _ _ hr ho=>wp_ret ⟨β,I,σ,hr,ho,h⟩
theorem ZI {l:Nat} (h:Q .normal σ):Ev P N (.label l) Q σ:=fun _ _ β I _ _ hr ho=>wp_label ⟨β,I,σ,hr,ho,h⟩
theorem acr {x y:Code} (h:Ev P N x (ab3 (Ev P N y Q) Q) σ):Ev P N (.seq x y) Q σ:=by
 intro w0 O0 β I a w hr ho;refine wp_seq (wp_mono (h w0 O0 β I a w hr ho) ?_);rintro e a' w' ⟨β',I',σ',h1,h2,h3⟩;cases e<;>first |exact h3 w0 O0 β' I' a' w' h1 h2 |exact⟨β',I',σ',h1,h2,h3⟩
theorem abk {c:Operand} {x y:Code} (b:Bool) (hk:∀ t,c= .tmp t->σ.ok t=none) (hc:opv σ.env c= .t (.sc (.bool b))) (h:Ev P N (bif b then x else y) Q σ):Ev P N (.cond c x y) Q σ:=by
 intro w0 O0 β I a w hr ho;have h1:=JW (P:=P) (β:=β) (w:=w) (I:=I) (σ:=σ) (a:=a) (x:=c) hr.mem.vars (fun t ht=>by
  have h1:=hr.env t;rw[hk t ht]at h1;exact h1)
 rw[hc]at h1;simp only[VR,TR]at h1;refine wp_cond (t:=b) h1.1 ?_;cases b<;>exact h w0 O0 β I a w hr ho
theorem Ve {c:Operand} {x y:Code} (hk:∀ t,c= .tmp t->σ.ok t=none) (hc:opv σ.env c= .ub) (h1:Ev P N x Q σ) (h2:Ev P N y Q σ):Ev P N (.cond c x y) Q σ:=by
 intro w0 O0 β I a w hr ho;have h3:=JW (P:=P) (β:=β) (w:=w) (I:=I) (σ:=σ) (a:=a) (x:=c) hr.mem.vars (fun t ht=>by
  have h1:=hr.env t;rw[hk t ht]at h1;exact h1)
 rw[hc]at h3;simp only[VR]at h3;obtain⟨b,hb⟩:=h3;refine wp_cond (t:=b) hb ?_;cases b
 ·exact h2 w0 O0 β I a w hr ho
 ·exact h1 w0 O0 β I a w hr ho
theorem ZJ {id:Nat} {c:Code} (h:Ev P N c (Vd id Q) σ):Ev P N (.block id c) Q σ:=by
 intro w0 O0 β I a w hr ho;refine wp_block (wp_mono (h w0 O0 β I a w hr ho) ?_);rintro e a' w' ⟨β',I',σ',h1,h2,h3⟩;cases e with
 |exit j=>
  simp only[Vd]at h3;simp only[Exit.inBlock];split
  ·rw[if_pos ‹_›]at h3;exact⟨β',I',σ',h1,h2,h3⟩
  ·rw[if_neg ‹_›]at h3;exact⟨β',I',σ',h1,h2,h3⟩
 |_=>exact⟨β',I',σ',h1,h2,h3⟩
theorem abl {c:Code} (J:Nat->St->Prop) (h0:∀ σ,¬ J 0 σ) (round:∀ n σ,J (n+1) σ->Ev P N c (ab3 (J n) Q) σ) (n:Nat) (h:J n σ):Ev P N (.loop c) Q σ:=by
 intro w0 O0 β I a w hr ho;refine Gw (fun n a w=>∃ β I σ,Rel P w0 O0 N β I σ a w∧Old σ∧J n σ) (fun a w ⟨_,_,σ,_,_,h⟩=>h0 σ h) ?_ n a w ⟨β,I,σ,hr,ho,h⟩;rintro n a w ⟨β,I,σ,hr,ho,hJ⟩;refine wp_mono (round n σ hJ w0 O0 β I a w hr ho) ?_;rintro e a' w' ⟨β',I',σ',h1,h2,h3⟩;cases e<;>exact⟨β',I',σ',h1,h2,h3⟩
end
def lk {α:Type}:List (Nat×α)->Nat->Option α
 |[],_=>none
 |(j,x)::r,k=>if j=k then some x else lk r k
structure LSt where
 env:List (Nat×AV)
 objs:List (Nat×aF)
def LSt.st (L:LSt):St:=⟨fun t=>(lk L.env t).getD .undef,fun k=>lk L.objs k,fun _=>none⟩
theorem lI {α:Type}:∀ {l:List (Nat×α)} {k:Nat} {x:α},lk l k=some x->(k,x)∈l
 |(j,y)::r,k,x,h=>by
  simp only[lk]at h;split at h
  ·injection h with h;subst h;rename_i e;subst e;simp
  ·exact mem_cons_of_mem _ (lI h)
theorem nQ {α:Type}:∀ {l:List (Nat×α)} {k:Nat} {x:α},(l.map (·.1)).Nodup->(k,x)∈l->lk l k=some x
 |(j,y)::r,k,x,hn,h=>by
  simp only[map_cons,List.nodup_cons]at hn;simp only[lk];rcases mem_cons.1 h with h |h
  ·injection h with h1 h2;subst h1;subst h2;simp
  ·have hne:k≠j:=fun e=>hn.1 (mem_map.2 ⟨(k,x),h,e⟩);rw[if_neg (Ne.symm hne)];exact nQ hn.2 h
theorem iV {P:Program} {ops:Array Oper} {Q:Exit->Act->World->Prop} {i:Nat} {rest:List Nat} {o:Oper} {a:Act} {w w':World} {v:Value} (h:ops[i]? =some o) (hg:o.guard=none)
 (hx:(execOp a.eval o).run P w= .ok (.value v) w') (hk:wpOps P ops Q rest (a.put o.dst v) w'):wpOps P ops Q (i::rest) a w:=by
 rw[wpOps_cons];unfold wpOp;simp only[h];rw[if_pos (by simp[Region.wanted,hg])];refine .inl ?_;unfold Oper.wp;rw[hx,Oper.upon_value];exact hk
structure RgI where
 x:Operand
 t:TypeId
 a0:Nat
 it:Nat
 nn:Nat
 b:Nat
 e:Nat
 xx:Nat
 kv:Nat
 j:Nat
 j2:Nat
 body:Code
def noG (o:Oper):Bool:=o.guard.isNone
def Vf:Code->Option RgI
 | .seq (.region _ ops1 false) (.block j (.loop (.seq (.region _ ops2 false) (.seq (.cond (.tmp b') .skip (.exit j')) (.block j2 (.seq (.region _ ops3 false) body))))))=>
  match ops1.toList,ops2.toList,ops3.toList with
  |[o1,o2],[o3,o4],[o5,o6,o7]=>
   match o1.op,o2.op,o3.op,o4.op,o5.op,o6.op,o7.op with
   | .move x,.range t (.tmp a0'),.next (.tmp it1) false,.extract (.tmp nn') 0,.entry (.tmp it2),.extract (.tmp e') 0,.assign (.tmp xx')=>
    match o1.dst,o2.dst,o3.dst,o4.dst,o5.dst,o6.dst,o7.dst with
    |some a0,some it,some nn,some b,some e,some xx,some kv=>
     bif noG o1&&noG o2&&noG o3&&noG o4&&noG o5&&noG o6&&noG o7&&a0'==a0&&it1==it&&it2==it&&nn'==nn&&e'==e&&xx'==xx&&b'==b&&j'==j&&
      decide (it≠nn)&&decide (it≠b)&&decide (it≠e)&&decide (it≠xx)&&decide (it≠kv)
     then some ⟨x,t,a0,it,nn,b,e,xx,kv,j,j2,body⟩else none
    |_,_,_,_,_,_,_=>none
   |_,_,_,_,_,_,_=>none
  |_,_,_=>none
 |_=>none
def NR (r:Nat):Value:= .pointer (some ⟨r,0,none⟩)
section
variable {P:Program} {w0:World} {O0:Was} {N:Nat} {β:Nat->Option Blk} {I:Nat->Prop} {σ:St} {a:Act} {w:World}
def St.put (σ:St) (d:Nat) (x:AV):St:=⟨rU σ.env (some d) x,σ.obj,rU σ.ok (some d) none⟩
theorem Rel.put (hr:Rel P w0 O0 N β I σ a w) {d:Nat} (hd:d < N) {x:AV} {v:Value} (hv:VR P β w I x v):Rel P w0 O0 N β I (σ.put d x) (a.put (some d) v) w:=by
 refine⟨by simpa[Act.put]using hr.defers,by simpa[Act.put]using hr.size,fun t=>?_,hr.mem⟩;have hold:=hr.env t;simp only[St.put,rU,Act.put,Option.some.injEq];by_cases hdt:d=t
 ·subst hdt;rw[if_pos rfl,if_pos rfl];have e:(a.tmps.setIfInBounds d v).getD d undef=v:=by simp[Nat.lt_of_lt_of_eq hd hr.size.symm]
  rw[e];exact hv
 ·rw[if_neg hdt,if_neg hdt];simpa[Array.getElem?_setIfInBounds_ne hdt]using hold
theorem xS {a:Act} {d:Nat} {v:Value} (hd:d < a.tmps.size):(a.put (some d) v).eval (.tmp d)=v:=by simp[Act.put,Act.eval,hd]
theorem KQ {a:Act} {d t:Nat} {v:Value} (h:d≠t):(a.put (some d) v).eval (.tmp t)=a.eval (.tmp t):=by
 simp only[Act.put,Act.eval];simp[Array.getElem?_setIfInBounds_ne h]
def reO (w0:World) (O0:Was) (r b:Nat):Was:=⟨fun q=>(O0.own q∨w0.heap.size<=q)∧q≠r∧q≠b,fun q=>(O0.imm q∨O0.own q∨w0.heap.size<=q)∧q≠r∧q≠b,O0.anc,O0.lt⟩
structure Free (β:Nat->Option Blk) (I:Nat->Prop) (obj:Nat->Option aF) (w:World) (r:Nat):Prop where
 lt:r < w.heap.size
 imm:¬ I r
 obj:∀ k o,obj k=some o->¬ Lies β k r
theorem Mem.rebase {obj:Nat->Option aF} (h:Mem P w0 O0 β I obj w) {r b:Nat} (hr:Free β I obj w r) (hb:Free β I obj w b):Mem P w (reO w0 O0 r b) β I obj w:=by
 refine⟨h.objs,h.injB,fun k o B q h1 h2 h3=>?_,h.lt,fun q hq=> .inl ⟨h.up q hq,fun e=>hr.imm (e ▸ hq),fun e=>hb.imm (e ▸ hq)⟩,fun _ _ _=>rfl,Nat.le_refl _,rfl,rfl,rfl,h.anch,h.vars⟩;obtain⟨g1,g2,g3⟩:=h.ownB k o B q h1 h2 h3;exact⟨g1,g2,.inl ⟨g3,fun e=>hr.obj k o h1 ⟨B,h2,e ▸ h3⟩,fun e=>hb.obj k o h1 ⟨B,h2,e ▸ h3⟩⟩⟩
theorem Mem.unbase {obj obj':Nat->Option aF} {β':Nat->Option Blk} {I':Nat->Prop} {w':World} (h:Mem P w0 O0 β I obj w) {r b:Nat} (h':Mem P w (reO w0 O0 r b) β' I' obj' w') (hr:r < w.heap.size) (hb:b < w.heap.size):
 Mem P w0 O0 β' I' obj' w'∧Free β' I' obj' w' r∧Free β' I' obj' w' b∧w'.heap[r]? =w.heap[r]?∧w'.heap[b]? =w.heap[b]? :=by
 have hle:=h.le;have hle':=h'.le;have own':∀ k o B q,obj' k=some o->β' k=some B->B.num=some q->(O0.own q∨w0.heap.size<=q)∧q≠r∧q≠b:=by
  intro k o B q h1 h2 h3;rcases (h'.ownB k o B q h1 h2 h3).2.2 with g |g
  ·exact g
  ·exact⟨.inr (by omega),by omega,by omega⟩
 have imm':∀ q,I' q->(O0.imm q∨O0.own q∨w0.heap.size<=q)∧q≠r∧q≠b:=by
  intro q hq;rcases h'.up q hq with g |g |g
  ·exact g
  ·exact⟨.inr g.1,g.2⟩
  ·exact⟨.inr (.inr (by omega)),by omega,by omega⟩
 have fr:∀ q,(q=r∨q=b)->q < w.heap.size->Free β' I' obj' w' q:=fun q hq hlt=>
  ⟨by omega,fun hi=>by
   obtain⟨_,g1,g2⟩:=imm' _ hi;rcases hq with e |e
   ·exact g1 e
   ·exact g2 e,fun k o h1 ⟨B,h2,h3⟩=>by
   obtain⟨_,g1,g2⟩:=own' k o B q h1 h2 h3;rcases hq with e |e
   ·exact g1 e
   ·exact g2 e⟩
 refine⟨⟨h'.objs,h'.injB,fun k o B q h1 h2 h3=>⟨(h'.ownB k o B q h1 h2 h3).1,(h'.ownB k o B q h1 h2 h3).2.1,(own' k o B q h1 h2 h3).1⟩,h'.lt,fun q hq=>(imm' q hq).1,fun q hq hno=>?_,by omega,h'.os.trans h.os,h'.tape.trans h.tape,h'.output.trans h.output,h'.anch,h'.vars⟩,
  fr r (.inl rfl) hr,fr b (.inr rfl) hb,h'.keep r hr (fun hh=>hh.2.1 rfl),h'.keep b hb (fun hh=>hh.2.2 rfl)⟩
 exact (h'.keep q (by omega) (fun hh=>by
  rcases hh.1 with g |g
  ·exact hno g
  ·omega)).trans (h.keep q hq hno)
theorem Mem.poke {obj:Nat->Option aF} (h:Mem P w0 O0 β I obj w) {r:Nat} (hr:Free β I obj w r) (hnew:w0.heap.size<=r) {w':World} (hother:∀ q,q≠r->w'.heap[q]? =w.heap[q]?) (hsize:w'.heap.size=w.heap.size) (hos:w'.os=w.os) (htape:w'.tape=w.tape) (hout:w'.output=w.output):
 Same I w w'∧Mem P w0 O0 β I obj w':=by
 have hs:Same I w w':=fun q hq=>hother q (fun e=>hr.imm (e ▸ hq));refine⟨hs,⟨fun k o hk=>?_,h.injB,fun k o B q h1 h2 h3=>by rw[hsize];exact h.ownB k o B q h1 h2 h3,fun q hq=>by rw[hsize];exact h.lt q hq,h.up,fun q hq hno=>?_,by rw[hsize];exact h.le,hos.trans h.os,htape.trans h.tape,hout.trans h.output,h.anch,h.vars.mono hs (fun _ h=>h)⟩⟩
 ·obtain⟨B,hB,hO⟩:=h.objs k o hk;exact⟨B,hB,OR.mono (fun _ _ h=>h) hs (fun _ h=>h) (fun q hq=>hother q (fun e=>hr.obj k o hk ⟨B,hB,e ▸ hq⟩)) hO⟩
 ·rw[hother q (by omega)];exact h.keep q hq hno
theorem Rel.world {w':World} (hr:Rel P w0 O0 N β I σ a w) (hs:Same I w w') (hm:Mem P w0 O0 β I σ.obj w'):Rel P w0 O0 N β I σ a w':=
 ⟨hr.defers,hr.size,fun t=>SlotR.mono (fun _ _ h=>h) hs (fun _ h=>h) (hr.env t),hm⟩
def Ae (es:Array MapEntry) (seen:Array Nat) (rem:List Value):Prop:=((leftOf es seen).toList.map (·.key)).Perm rem
theorem Yc {es:Array MapEntry} {seen:Array Nat} {e:MapEntry} (hn:(es.toList.map (·.born)).Nodup) (he:e∈(leftOf es seen).toList):(leftOf es seen).toList.Perm (e::(leftOf es (seen.push e.born)).toList):=by
 have e1:(leftOf es (seen.push e.born)).toList=(leftOf es seen).toList.filter fun x=>x.born != e.born:=by
  simp only[leftOf,Array.toList_filter,List.filter_filter];refine List.filter_congr fun x _=>?_;simp only[Array.contains_push];cases hx:seen.contains x.born<;>cases hb:(x.born==e.born)<;>simp_all
 rw[e1];have hnl:((leftOf es seen).toList.map (·.born)).Nodup:=by
  have hs:(leftOf es seen).toList.Sublist es.toList:=by simp only[leftOf,Array.toList_filter];exact List.filter_sublist
  exact (hs.map _).nodup hn
 generalize (leftOf es seen).toList=L at he hnl
 induction L with
 |nil=>simp at he
 |cons y ys ih=>
  simp only[map_cons,List.nodup_cons]at hnl;rcases mem_cons.1 he with rfl |he
  ·have:ys.filter (fun x=>x.born != e.born)=ys:=List.filter_eq_self.2 fun x hx=>by
    have:x.born≠e.born:=fun h=>hnl.1 (h ▸ mem_map.2 ⟨x,hx,rfl⟩);simpa using this
   simp[this]
  ·have hne:y.born≠e.born:=fun h=>hnl.1 (h ▸ mem_map.2 ⟨e,he,rfl⟩);have h1:(y::ys).filter (fun x=>x.born != e.born)=y::ys.filter (fun x=>x.born != e.born):=(by rw[List.filter_cons_of_pos (by simpa using hne)]);rw[h1];exact ((ih he hnl.2).cons y).trans (List.Perm.swap _ _ _)
def Qy (σ:St) (i:RgI) (r:Nat):St:=((σ.put i.a0 .undef).put i.it (.t (.sc (NR r))))
def ZK (σ:St) (i:RgI) (kv:Value):St:=(((((σ.put i.nn .undef).put i.b .undef).put i.e .undef).put i.xx .undef).put i.kv (.t (.sc kv)))
def ab4 (σ:St) (i:RgI):St:=((σ.put i.nn .undef).put i.b .undef)
theorem nR {o:Oper} (h:noG o=true):o.guard=none:=by
 unfold noG at h;cases hg:o.guard with
 |none=>rfl
 |some x=>rw[hg]at h;cases h
theorem BN {c:Code} {i:RgI} (h:Vf c=some i):∃ i1 i2 i3 ops1 ops2 ops3 o1 o2 o3 o4 o5 o6 o7,
 c= .seq (.region i1 ops1 false) (.block i.j (.loop (.seq (.region i2 ops2 false) (.seq (.cond (.tmp i.b) .skip (.exit i.j)) (.block i.j2 (.seq (.region i3 ops3 false) i.body))))))∧
 ops1.toList=[o1,o2]∧ops2.toList=[o3,o4]∧ops3.toList=[o5,o6,o7]∧
 (o1.op= .move i.x∧o1.dst=some i.a0∧o1.guard=none)∧(o2.op= .range i.t (.tmp i.a0)∧o2.dst=some i.it∧o2.guard=none)∧(o3.op= .next (.tmp i.it) false∧o3.dst=some i.nn∧o3.guard=none)∧
 (o4.op= .extract (.tmp i.nn) 0∧o4.dst=some i.b∧o4.guard=none)∧(o5.op= .entry (.tmp i.it)∧o5.dst=some i.e∧o5.guard=none)∧(o6.op= .extract (.tmp i.e) 0∧o6.dst=some i.xx∧o6.guard=none)∧
 (o7.op= .assign (.tmp i.xx)∧o7.dst=some i.kv∧o7.guard=none)∧i.it≠i.nn∧i.it≠i.b∧i.it≠i.e∧i.it≠i.xx∧i.it≠i.kv:=by
 unfold Vf at h;split at h
 ·split at h
  ·rename_i o1 o2 o3 o4 o5 o6 o7 e1 e2 e3;split at h
   ·rename_i p1 p2 p3 p4 p5 p6 p7;split at h
    ·rename_i q1 q2 q3 q4 q5 q6 q7;rw[cond_eq_ite]at h;split at h
     ·rename_i hc;injection h with h;subst h;simp only[and_eq_true,beq_iff_eq,decide_eq_true_eq]at hc;obtain⟨⟨⟨⟨⟨⟨⟨⟨⟨⟨⟨⟨⟨⟨⟨⟨⟨⟨⟨g1,g2⟩,g3⟩,g4⟩,g5⟩,g6⟩,g7⟩,rfl⟩,rfl⟩,rfl⟩,rfl⟩,rfl⟩,rfl⟩,rfl⟩,rfl⟩,n1⟩,n2⟩,n3⟩,n4⟩,n5⟩:=hc;exact⟨_,_,_,_,_,_,o1,o2,o3,o4,o5,o6,o7,rfl,e1,e2,e3,⟨p1,q1,nR g1⟩,⟨p2,q2,nR g2⟩,⟨p3,q3,nR g3⟩,⟨p4,q4,nR g4⟩,⟨p5,q5,nR g5⟩,⟨p6,q6,nR g6⟩,⟨p7,q7,nR g7⟩,n1,n2,n3,n4,n5⟩
     ·cases h
    ·cases h
   ·cases h
  ·cases h
 ·cases h
theorem qR {α:Type} {l:Array α} {m:List α} (h:l.toList=m) (j:Nat):l[j]? =m[j]? :=by rw[<- h,Array.getElem?_toList]
theorem KR {α:Type} {l:Array α} {m:List α} (h:l.toList=m):l.size=m.length:=by rw[<- h,Array.length_toList]
theorem rV {v:Value}:VR P β w I .undef v:=by simp[VR]
theorem ZL {T:Tab} (hT:bI P T) {c:Code} {i:RgI} (hc:Vf c=some i) {ti:TyI} {kt et:TypeId} (h1:T i.t=some ti) (h2:ti.k= .map kt et) {kk:Nat} {o:aF} {keys:List Value}
 (hN:i.a0 < N∧i.it < N∧i.nn < N∧i.b < N∧i.e < N∧i.xx < N∧i.kv < N) (hok:∀ t,σ.ok t=none) (hx:opv σ.env i.x= .mp kk) (hobj:σ.obj kk=some o) (hsz:o.sz=o.rows.length)
 (hkeys:o.rows.map (fun r=>r.head?)=keys.map fun k=>some (.t (.sc k))) (hkeys1:∀ k∈keys,oneCell k)
 (s0:St) (hs0:s0.obj kk=none) (hle:∀ k q,s0.obj k=some q->σ.obj k=some q) (hre:∀ t,s0.env t= .undef∨s0.env t=σ.env t) (hok0:∀ t,s0.ok t=none)
 (Q:Exit->St->Prop) (J:Nat->List Value->St->Prop)
 (hJ:∀ r rem s,J r rem s->Old s∧s.env i.it= .t (.sc (NR r))∧s.ok i.it=none)
 (hperm:∀ r rem rem' s,J r rem s->rem.Perm rem'->J r rem' s)
 (hstart:∀ r (w0:World) (O0:Was) (β:Nat->Option Blk) (I:Nat->Prop) (a:Act) (w:World),Rel P w0 O0 N β I (Qy s0 i r) a w->∃ β' s,Rel P w0 O0 N β' I s a w∧J r keys s)
 (hround:∀ r k rem s,J r (k::rem) s->Ev P N i.body (fun e s'=>match e with
  | .normal=>J r rem s'
  | .exit q=>if q=i.j2 then J r rem s' else if q=i.j then False else Q (.exit q) s'
  |e=>Q e s') (ZK s i k))
 (hend:∀ r s,J r [] s->Q .normal (ab4 s i)) (hoo:∀ r s,J r [] s->Old (ab4 s i)) (hoi:∀ r k rem s,J r (k::rem) s->Old (ZK s i k)) (ho0:Old s0):
 ∀ (β:Nat->Option Blk) (I:Nat->Prop) (a:Act) (w:World),Rel P w0 O0 N β I σ a w->c.wp P (fun e a' w'=>∃ β' I' σ',Rel P w0 O0 N β' I' σ' a' w'∧Old σ'∧Q e σ') a w:=by
 intro β I a w hr;obtain⟨i1,i2,i3,ops1,ops2,ops3,o1,o2,o3,o4,o5,o6,o7,rfl,l1,l2,l3,⟨p1,q1,g1⟩,⟨p2,q2,g2⟩,⟨p3,q3,g3⟩,⟨p4,q4,g4⟩,⟨p5,q5,g5⟩,⟨p6,q6,g6⟩,⟨p7,q7,g7⟩,n1,n2,n3,n4,n5⟩:=BN hc;obtain⟨N1,N2,N3,N4,N5,N6,N7⟩:=hN;have hvx:VR P β w I (.mp kk) (a.eval i.x):=by
  have:=JW (β:=β) (w:=w) (I:=I) (σ:=σ) (a:=a) (x:=i.x) (P:=P) hr.mem.vars (fun t _=>by
   have h:=hr.env t;rw[hok t]at h;exact h)
  rw[hx]at this;exact this
 simp only[VR]at hvx;obtain⟨b,hβ,hev⟩:=hvx;obtain⟨B,hB,hO⟩:=hr.mem.objs kk o hobj;rw[hβ]at hB;injection hB with hB;subst hB;obtain⟨es,cl,m1,m2,m3,m4,m5⟩:=hO;have hkl:es.toList.map (·.key)=keys:=by
  have hm:=m3 hsz;have:∀ (rows:List (List AV)) (es:List MapEntry) (keys:List Value),MRows P β w I rows es->rows.map (fun r=>r.head?)=keys.map (fun k=>some (.t (.sc k)))->es.map (·.key)=keys:=by
   intro rows
   induction rows with
   |nil=>intro es keys h1 h2;cases es with
    |nil=>cases keys with
     |nil=>rfl
     |cons=>simp at h2
    |cons=>exact h1.elim
   |cons r rs ih=>intro es keys h1 h2;cases es with
    |nil=>exact h1.elim
    |cons e es=>cases keys with
     |nil=>simp at h2
     |cons k ks=>
      simp only[map_cons,List.cons.injEq]at h2;obtain⟨g,h3⟩:=h1;cases r with
      |nil=>simp[VRl]at g
      |cons x xs=>
       simp only[List.head?_cons,Option.some.injEq]at h2;obtain⟨h2,h2'⟩:=h2;subst h2;simp only[VRl,VR,TR]at g;simp only[map_cons,g.1.1,ih es ks h3 h2']
  exact this _ _ _ hm hkeys
 have hkl0:=hkl;obtain⟨b1,b2,b3⟩:=hr.mem.ownL kk o b hobj ⟨_,hβ,rfl⟩;have hu:=KA (hT i.t ti h1) h2;have hm0:Mem P w0 O0 β I s0.obj w:=hr.mem.drop _ hle;have hfb:Free β I s0.obj w b:=⟨b2,b1,fun k q hk hl=>by
  have:=hr.mem.injL k kk q o b (hle k q hk) hobj hl ⟨_,hβ,rfl⟩;subst this;rw[hs0]at hk;cases hk⟩
 have hr0:Rel P w0 O0 N β I s0 a w:=⟨hr.defers,hr.size,fun t=>by
  rw[hok0 t];rcases hre t with h |h
  ·rw[h];simp[SlotR,VR]
  ·rw[h];have:=hr.env t;rw[hok t]at this;exact this,hm0⟩
 refine wp_seq (wp_region ?_);have s1:ops1.size=2:=KR l1;have r2:List.range ops1.size=[0,1]:=by rw[s1];rfl
 rw[r2];refine iV (o:=o1) (v:=a.eval i.x) (w':=w) (by rw[qR l1];rfl) g1 (by obtain⟨d,op,ty,po,af,gu⟩:=o1;simp only at p1;subst p1;simp[execOp]) ?_;rw[q1,hev];have hsa:i.a0 < a.tmps.size:=by rw[hr.size];exact N1
 let w1:=w.alloc (.mapIter (some b) cl #[] cl)
 have hr1v:w1.heap[w.heap.size]? =some (.mapIter (some b) cl #[] cl):=heap_alloc_new w _;refine iV (o:=o2) (v:=NR w.heap.size) (w':=w1) (by rw[qR l1];rfl) g2 (by
  obtain⟨d,op,ty,po,af,gu⟩:=o2;simp only at p2;subst p2;simp[execOp,xS hsa,Instr.range,run_underlying hu,MapKept.run_getObj_map m1,Result.andThen,NR];rfl) ?_
 simp only[wpOps,Exit.then];rw[q2];have hS1:Same I w w1:=Same.alloc hr.mem.lt _;have hle1:=hr.mem.le;have hm1:Mem P w0 O0 β I s0.obj w1:=by
  refine⟨fun k q hk=>?_,hm0.injB,fun k q B z h1 h2 h3=>?_,fun q hq=>?_,hm0.up,fun q hq hno=>?_,?_,hm0.os,hm0.tape,hm0.output,hm0.anch,hm0.vars.mono hS1 (fun _ h=>h)⟩
  ·obtain⟨B,hB,hO⟩:=hm0.objs k q hk;exact⟨B,hB,OR.mono (fun _ _ h=>h) hS1 (fun _ h=>h) (fun z hz=>fA (hm0.ownB k q B z hk hB hz).2.1) hO⟩
  ·obtain⟨a1,a2,a3⟩:=hm0.ownB k q B z h1 h2 h3;exact⟨a1,by simp[w1];omega,a3⟩
  ·have:=hm0.lt q hq;simp[w1];omega
  ·rw[fA (by omega)];exact hm0.keep q hq hno
  ·simp[w1];omega
 have hrel1:Rel P w0 O0 N β I (Qy s0 i w.heap.size) ((a.put (some i.a0) (.map (some b))).put (some i.it) (NR w.heap.size)) w1:=by
  have e1:=(hr0.put N1 (x:= .undef) (v:= .map (some b)) rV).world (w':=w1) hS1 hm1;exact e1.put N2 (by simp only[VR,TR];exact⟨trivial,trivial⟩)
 generalize hrr:w.heap.size=r at*;have hfr1:Free β I s0.obj w1 r:=⟨by simp[w1];omega,fun hi=>by have:=hr.mem.lt r hi;omega,fun k q hk ⟨B,hB,hb⟩=>by have:=(hm0.ownB k q B r hk hB hb).2.1;omega⟩;have hfb1:Free β I s0.obj w1 b:=⟨by simp[w1];omega,hfb.imm,hfb.obj⟩;have hbm:w1.heap[b]? =some (.map es cl):=by rw[fA (by omega)];exact m1
 obtain⟨β1,s1',hrel2,hJ1⟩:=hstart r w1 (reO w0 O0 r b) _ _ _ _ ⟨hrel1.defers,hrel1.size,hrel1.env,hm1.rebase hfr1 hfb1⟩;obtain⟨u1,u2,u3,_,_⟩:=hm1.unbase hrel2.mem hfr1.lt hfb1.lt;refine wp_block ?_;have hrw0:w0.heap.size<=r:=by omega
 refine Gw (fun n a w=>∃ β I s rem seen c0,Rel P w0 O0 N β I s a w∧Free β I s.obj w r∧Free β I s.obj w b∧J r rem s∧n=rem.length+1∧w.heap[r]? =some (.mapIter (some b) cl seen c0)∧cl<=c0∧w.heap[b]? =some (.map es cl)∧Ae es seen rem)
  (fun a w ⟨_,_,_,_,_,_,_,_,_,_,h,_⟩=>by omega) ?_ (keys.length+1) _ _ ⟨β1,I,s1',keys,#[],cl,⟨hrel2.defers,hrel2.size,hrel2.env,u1⟩,u2,u3,hJ1,rfl,hr1v,Nat.le_refl _,hbm,by
   unfold Ae;have:(leftOf es #[]).toList=es.toList:=(by simp[leftOf]);rw[this,hkl]⟩
 clear hJ1 u1 u2 u3 hrel2 hrel1 hfr1 hfb1 hm1 hS1;rintro n a w ⟨β,I,s,rem,seen,c0,hrel,hfr,hfb,hj,hn,hri,hcc,hbm,hkl⟩;obtain⟨hold,hit,hitok⟩:=hJ _ _ _ hj;have hite:a.eval (.tmp i.it)=NR r:=by
  have h:=hrel.env i.it;rw[hit,hitok]at h;simp only[SlotR,VR,TR]at h;exact h.1
 have hsz:=hrel.size;refine wp_seq (wp_region ?_);have s2:ops2.size=2:=KR l2;have r2:List.range ops2.size=[0,1]:=by rw[s2];rfl
 rw[r2];have x3:∀ (v:Value) (w':World),(Instr.next (NR r) false o3.type).run P w= .ok v w'->(execOp a.eval o3).run P w= .ok (.value v) w':=fun v w' h=>by
  obtain⟨d,op,ty,po,af,gu⟩:=o3;simp only at p3;subst p3;simp only at h;simp[execOp,hite,h]
 have x4:∀ (a:Act) (w:World) (u:Value) (us:Array Value),us[0]? =some u->a.eval (.tmp i.nn)= .tuple us->(execOp a.eval o4).run P w= .ok (.value u) w:=fun a w u us hu h=>by
  obtain⟨d,op,ty,po,af,gu⟩:=o4;simp only at p4;subst p4;simp[execOp,h,Instr.extract,hu]
 rcases run_next_at (P:=P) w o3.type r b cl c0 seen es cl hri hbm m5 hcc with ⟨h0,hrun⟩ |⟨e,he,wn,hwn,hrun⟩
 ·refine iV (o:=o3) (by rw[qR l2];rfl) g3 (x3 _ _ hrun) ?_;refine iV (o:=o4) (v:= .bool false) (w':=w) (by rw[qR l2];rfl) g4 (x4 _ _ _ #[.bool false] rfl (by rw[q3];exact xS (by omega))) ?_;simp only[wpOps,Exit.then];rw[q3,q4];refine wp_seq (wp_cond (t:=false) (xS (by simp[Act.put];omega)) ?_);simp only[Bool.false_eq_true,if_false];refine wp_exit ?_;simp only[Exit.then,Exit.inBlock,if_true];have hrem:rem=[]:=by
   have:(leftOf es seen).toList=[]:=by
    have:(leftOf es seen).toList.length=0:=(by simpa using h0);exact eq_nil_of_length_eq_zero this
   unfold Ae at hkl;rw[this]at hkl;exact List.nil_perm.1 hkl
  subst hrem;exact⟨β,I,_,(hrel.put N3 rV).put N4 rV,hoo _ _ hj,hend _ _ hj⟩
 ·refine iV (o:=o3) (by rw[qR l2];rfl) g3 (x3 _ _ hrun) ?_;refine iV (o:=o4) (v:= .bool true) (by rw[qR l2];rfl) g4 (x4 _ _ _ #[.bool true,e.key,e.val] rfl (by rw[q3];exact xS (by omega))) ?_;simp only[wpOps,Exit.then];rw[q3,q4];refine wp_seq (wp_cond (t:=true) (xS (by simp[Act.put];omega)) ?_);simp only[if_true];refine wp_skip ?_;simp only[Exit.then]
  let w2:World:=ChangeMaps.setBlock wn r (.mapIter (some b) cl (seen.push e.born) cl)
  have hwnh:wn.heap=w.heap:=by rcases hwn with rfl |rfl<;>rfl
  have hrlt:r < w.heap.size:=hfr.lt;have hw2r:w2.heap[r]? =some (.mapIter (some b) cl (seen.push e.born) cl):=by simp[w2,ChangeMaps.setBlock,hwnh,hrlt]
  have hw2o:∀ q,q≠r->w2.heap[q]? =w.heap[q]? :=fun q hq=>by simp[w2,ChangeMaps.setBlock,hwnh,Ne.symm hq]
  have hbr:b≠r:=fun h=>by rw[h,hri]at hbm;cases hbm
  have hw2b:w2.heap[b]? =some (.map es cl):=by rw[hw2o b hbr];exact hbm
  have hw2s:w2.heap.size=w.heap.size:=by simp[w2,ChangeMaps.setBlock,hwnh]
  obtain⟨hS2,hM2⟩:=hrel.mem.poke hfr hrw0 (w':=w2) hw2o hw2s (by rcases hwn with rfl |rfl<;>rfl) (by rcases hwn with rfl |rfl<;>rfl) (by rcases hwn with rfl |rfl<;>rfl);have hfr2:Free β I s.obj w2 r:=⟨by rw[hw2s];exact hfr.lt,hfr.imm,hfr.obj⟩;have hfb2:Free β I s.obj w2 b:=⟨by rw[hw2s];exact hfb.lt,hfb.imm,hfb.obj⟩;have hees:e∈es.toList:=by
   have:(leftOf es seen).toList.Sublist es.toList:=(by simp only[leftOf,Array.toList_filter];exact List.filter_sublist);exact this.subset he
  have hent:=run_entry_at (P:=P) w2 r b cl seen es cl e hw2r hw2b hees m4;refine wp_block (wp_seq (wp_region ?_));have s3:ops3.size=3:=KR l3;have r3:List.range ops3.size=[0,1,2]:=by rw[s3];rfl
  rw[r3];refine iV (o:=o5) (v:= .tuple #[e.key,e.val]) (w':=w2) (by rw[qR l3];rfl) g5 (by
   obtain⟨d,op,ty,po,af,gu⟩:=o5;simp only at p5;subst p5;simp only[execOp];rw[KQ (Ne.symm n2),KQ (Ne.symm n1),hite];have hent':(Instr.entry (.pointer (some ⟨r,0,none⟩))).run P (ChangeMaps.setBlock wn r (.mapIter (some b) cl (seen.push e.born) cl))= .ok (.tuple #[e.key,e.val]) (ChangeMaps.setBlock wn r (.mapIter (some b) cl (seen.push e.born) cl)):=hent;show Sem.run P _ (ChangeMaps.setBlock wn r (.mapIter (some b) cl (seen.push e.born) cl))= .ok _ (ChangeMaps.setBlock wn r (.mapIter (some b) cl (seen.push e.born) cl));simp[NR,hent']) ?_
  refine iV (o:=o6) (v:=e.key) (w':=w2) (by rw[qR l3];rfl) g6 (by
   obtain⟨d,op,ty,po,af,gu⟩:=o6;simp only at p6;subst p6;simp only[execOp,q5];rw[xS (by simp[Act.put];omega)];simp[Instr.extract]) ?_
  refine iV (o:=o7) (v:=e.key) (w':=w2) (by rw[qR l3];rfl) g7 (by
   obtain⟨d,op,ty,po,af,gu⟩:=o7;simp only at p7;subst p7;simp only[execOp,q6];rw[xS (by simp only[q5,Act.put,Array.size_setIfInBounds];omega)];rfl) ?_
  simp only[wpOps,Exit.then];rw[q5,q6,q7];have hlp:=Yc m4 he;have hkp:rem.Perm (e.key::(leftOf es (seen.push e.born)).toList.map (·.key)):=(hkl.symm).trans (by simpa using hlp.map (·.key));have hj2:=hperm _ _ _ _ hj hkp;generalize hrem2:(leftOf es (seen.push e.born)).toList.map (·.key)=rem2 at hkp hj2;have hkone:oneCell e.key:=by
   have:e.key∈keys:=(by rw[<- hkl0];exact mem_map.2 ⟨e,hees,rfl⟩);exact hkeys1 _ this
  have hrelb:Rel P w0 O0 N β I (ZK s i e.key) (((((a.put (some i.nn) (.tuple #[.bool true,e.key,e.val])).put (some i.b) (.bool true)).put (some i.e) (.tuple #[e.key,e.val])).put (some i.xx) e.key).put (some i.kv) e.key) w2:=
   ((((((hrel.world hS2 hM2).put N3 rV).put N4 rV).put N5 rV).put N6 rV).put N7 (by simp only[VR,TR];exact⟨trivial,hkone⟩))
  refine wp_mono (hround _ _ _ _ hj2 w2 (reO w0 O0 r b) β I _ w2 ⟨hrelb.defers,hrelb.size,hrelb.env,hM2.rebase hfr2 hfb2⟩ (hoi _ _ _ _ hj2)) ?_;rintro ex a3 w3 ⟨β3,I3,s3,k1,k2,k3⟩;obtain⟨v1,v2,v3,v4,v5⟩:=hM2.unbase k1.mem hfr2.lt hfb2.lt;have hrel3:Rel P w0 O0 N β3 I3 s3 a3 w3:=⟨k1.defers,k1.size,k1.env,v1⟩;have again:J r rem2 s3->∃ β I s rem seen c0,Rel P w0 O0 N β I s a3 w3∧Free β I s.obj w3 r∧Free β I s.obj w3 b∧J r rem s∧n=rem.length+1∧w3.heap[r]? =some (.mapIter (some b) cl seen c0)∧cl<=c0∧w3.heap[b]? =some (.map es cl)∧Ae es seen rem:=fun hj3=>
   ⟨β3,I3,s3,rem2,seen.push e.born,cl,hrel3,v2,v3,hj3,by have:=hkp.length_eq;simp at this;omega,by rw[v4];exact hw2r,Nat.le_refl _,by rw[v5];exact hw2b,by unfold Ae;rw[hrem2]⟩
  cases ex with
  |normal=>exact again k3
  |exit q=>
   simp only at k3;simp only[Exit.inBlock];split at k3
   ·rename_i hq;rw[if_pos hq];exact again k3
   ·rename_i hq;rw[if_neg hq];split at k3
    ·exact k3.elim
    ·rename_i hq';simp only[Exit.then,Exit.inBlock];rw[if_neg hq'];exact⟨β3,I3,s3,hrel3,k2,k3⟩
  |_=>exact⟨β3,I3,s3,hrel3,k2,k3⟩
end
def kept (os':List (Option bJ)) (j:Nat):Prop:=∃ p,os'[j]? =some (some p)
def Gx (get:Nat->Option aF) (fk:Option Nat) (os':List (Option bJ)):AV->Tree->Prop
 | .t x,y=>y=x
 | .nilsl,y=>y= .sl []
 | .oz k len,y=>fk≠some k∧¬ kept os' k∧∃ o trows,get k=some o∧(o.rows.drop 0).take len=ay trows∧trows.length=len∧y= .sl trows
 | .own k off len,y=>fk≠some k∧¬ kept os' k∧∃ o trows,get k=some o∧(o.rows.drop off).take len=ay trows∧trows.length=len∧y= .sl trows
 |_,_=>False
def ExpL (get:Nat->Option aF) (fk:Option Nat) (os':List (Option bJ)):List AV->List Tree->Prop
 |[],[]=>True
 |x::xs,y::ys=>Gx get fk os' x y∧ExpL get fk os' xs ys
 |_,_=>False
def ExpRows (get:Nat->Option aF) (fk:Option Nat) (os':List (Option bJ)):List (List AV)->List (List Tree)->Prop
 |[],[]=>True
 |x::xs,y::ys=>ExpL get fk os' x y∧ExpRows get fk os' xs ys
 |_,_=>False
def Yd (get:Nat->Option aF) (fk:Option Nat) (os':List (Option bJ)):AV->RC->Prop
 | .agg cs,.d (.a ts)=>ExpL get fk os' cs ts
 |x,.d (.s y)=>Gx get fk os' x y
 | .nilsl,.fresh _ rows=>rows=[]
 | .own k off len,.fresh sz rows=>fk=some k∧¬ kept os' k∧off=0∧∃ o,get k=some o∧o.sz=sz∧ExpRows get fk os' (o.rows.take len) rows∧rows.length=len
 | .own k off len,.whole j len'=>k=j∧off=0∧len'=len∧kept os' j
 |_,_=>False
def ExpCs (get:Nat->Option aF) (fk:Option Nat) (os':List (Option bJ)):List AV->List RC->Prop
 |[],[]=>True
 |x::xs,c::cs=>Yd get fk os' x c∧ExpCs get fk os' xs cs
 |_,_=>False
def Ye (get:Nat->Option aF) (fk:Option Nat) (os':List (Option bJ)):List AV->RV->Prop
 |[x],.one c=>Yd get fk os' x c
 |x::y::r,.tup cs=>ExpCs get fk os' (x::y::r) cs
 |[],.tup cs=>cs=[]
 |_,_=>False
def abm (get:Nat->Option aF) (fk:Option Nat) (os':List (Option bJ)):Prop:=
 ∀ (j:Nat) p,os'[j]? =some (some p)->fk≠some j∧∃ o,get j=some o∧o.sz=p.1∧ExpRows get fk os' (o.rows.take p.2.length) p.2
def BP (T:Tab) (t:TypeId) (x:AV) (obj:Nat->Option aF):Option Out:=
 match wo T t x .none obj with
 |some o=>some o
 |none=>xO T t x obj
def Gy (T:Tab) (σ:St):ResultVar->Option AV
 | .tmp t=>match σ.ok t with
  |none=>some (σ.env t)
  |some _=>none
 | .cell a t=>match σ.ok a with
  |none=>match BP T t (σ.env a) σ.obj with
   |some ⟨v,[],[]⟩=>some v
   |_=>none
  |some _=>none
def iW (T:Tab) (σ:St):List ResultVar->Option (List AV)
 |[]=>some []
 |r::rs=>(Gy T σ r).bind fun v=>(iW T σ rs).bind fun vs=>some (v::vs)
def KS (tmps:Array Value):ResultVar->Sem Value
 | .tmp t=>pure (tmps.getD t undef)
 | .cell a t=>do loadVar t (<- asAddr (tmps.getD a undef))
theorem KT (fn:Func) (tmps:Array Value):results fn tmps=(fn.results.mapM (KS tmps))>>=fun vs=>pure (if h:vs.size=1 then vs[0]else .tuple vs):=by
 unfold results;congr 2
def ado (T:Tab) (rs:List ResultVar) (rv:RV) (os':List (Option bJ)):Exit->St->Prop
 | .normal,σ=>∃ xs fk,iW T σ rs=some xs∧Ye σ.obj fk os' xs rv∧abm σ.obj fk os'
 | .ret,σ=>∃ xs fk,iW T σ rs=some xs∧Ye σ.obj fk os' xs rv∧abm σ.obj fk os'
 |_,_=>False
section
variable {P:Program} {T:Tab} {w0:World} {O0:Was} {N:Nat} {β:Nat->Option Blk} {I:Nat->Prop} {σ:St} {a:Act} {w:World}
theorem Qz (hT:bI P T) (hr:Rel P w0 O0 N β I σ a w) {r:ResultVar} {x:AV} (h:Gy T σ r=some x):
 ∃ v,(KS a.tmps r).run P w= .ok v w∧VR P β w I x v:=by
 cases r with
 |tmp t=>
  simp only[Gy]at h;have h1:=hr.env t;cases hk:σ.ok t with
  |some b=>rw[hk]at h;cases h
  |none=>
   rw[hk]at h h1;injection h with h;subst h;exact⟨_,by simp[KS],h1⟩
 |cell ad t=>
  simp only[Gy]at h;have hx:=hr.env ad;cases hk:σ.ok ad with
  |some b=>rw[hk]at h;cases h
  |none=>
  rw[hk]at h hx;simp only at h;have hx:VR P β w I (σ.env ad) (a.tmps.getD ad undef):=hx;split at h
  ·rename_i v hl;injection h with h;subst h;have hl2:wo T t (σ.env ad) .none σ.obj=some ⟨v,[],[]⟩∨xO T t (σ.env ad) σ.obj=some ⟨v,[],[]⟩:=by
    unfold BP at hl;split at hl
    ·rename_i heq;injection hl with hl;subst hl;exact .inl heq
    ·exact .inr hl
   obtain⟨u,h1,h2⟩:∃ u,(Instr.loadAt t (a.tmps.getD ad undef)).run P w= .ok u w∧VR P β w I v u:=by
    rcases hl2 with hl2 |hl2
    ·obtain⟨u,h1,h2,_⟩:=Ii hT hr.mem (fun _ _ h=>h) hl2 trivial hx;exact⟨u,h1,h2⟩
    ·obtain⟨u,h1,h2,_⟩:=EA hT hr.mem (fun _ _ h=>h) hl2 hx;exact⟨u,h1,h2⟩
   refine⟨u,?_,h2⟩;have hp:∃ p,a.tmps.getD ad undef= .pointer (some p):=by
    rcases hl2 with hl |hl
    rotate_left
    ·unfold xO at hl;cases hti:T t with
     |none=>simp[hti]at hl
     |some ti=>
      simp only[hti,bind_some]at hl;split at hl
      ·rename_i heq;rw[heq]at hx;simp only[VR]at hx;obtain⟨b,sz,n,_,h⟩:=hx;exact⟨_,h⟩
      ·cases hl
    unfold wo at hl;cases hti:T t with
    |none=>simp[hti]at hl
    |some ti=>
     simp only[hti,bind_some]at hl;split at hl
     ·rename_i heq;rw[heq]at hx;simp only[VR]at hx;obtain⟨b,sz,n,_,h⟩:=hx;exact⟨_,h⟩
     ·rename_i heq;rw[heq]at hx;simp only[VR]at hx;obtain⟨b,o,h,_⟩:=hx;exact⟨_,h⟩
     ·cases hl
   obtain⟨p,hp⟩:=hp;rw[hp]at h1;simp only[Instr.loadAt,Instr.sureAddr,Sem.run_bind,Sem.run_pure,Result.andThen_ok]at h1;simp only[KS,hp,asAddr,Sem.run_bind,Sem.run_pure,Result.andThen_ok];exact h1
  ·cases h
theorem u7 (hT:bI P T) (hr:Rel P w0 O0 N β I σ a w):∀ (rs:List ResultVar) (xs:List AV),iW T σ rs=some xs->
 ∃ vs,(rs.mapM (KS a.tmps)).run P w= .ok vs w∧VRl P β w I xs vs
 |[],xs,h=>by simp only[iW,Option.some.injEq]at h;subst h;exact⟨[],by simp,by simp[VRl]⟩
 |r::rs,xs,h=>by
  simp only[iW]at h;cases h1:Gy T σ r with
  |none=>simp[h1]at h
  |some x=>
   cases h2:iW T σ rs with
   |none=>simp[h1,h2]at h
   |some ys=>
    simp only[h1,h2,bind_some,Option.some.injEq]at h;subst h;obtain⟨v,g1,g2⟩:=Qz hT hr h1;obtain⟨vs,g3,g4⟩:=u7 hT hr rs ys h2;exact⟨v::vs,by simp only[List.mapM_cons,Sem.run_bind,g1,Result.andThen_ok,g3,Sem.run_pure],by simp only[VRl];exact⟨g2,g4⟩⟩
def EG (σ:St) (w0 w:World) (β:Nat->Option Blk) (I:Nat->Prop) (O0:Was) (fk:Option Nat) (os':List (Option bJ)) (b:Nat):Prop:=
 (I b∨O0.imm b∨w0.heap.size<=b∨O0.own b)∧b < w.heap.size∧¬ ∃ k,(fk=some k∨kept os' k)∧(∃ o,σ.obj k=some o)∧Lies β k b
theorem Sm (hr:Rel P w0 O0 N β I σ a w) (fk:Option Nat) (os':List (Option bJ)):∀ b,I b->EG σ w0 w β I O0 fk os' b:=fun b hb=>
 ⟨.inl hb,hr.mem.lt b hb,fun⟨k,_,⟨o,ho⟩,hβ⟩=>(hr.mem.ownL k o b ho hβ).1 hb⟩
theorem EH (hr:Rel P w0 O0 N β I σ a w) {fk:Option Nat} {os':List (Option bJ)} {k off len:Nat} {y:Tree} {v:Value} (h:fk≠some k∧¬ kept os' k∧∃ o trows,σ.obj k=some o∧(o.rows.drop off).take len=ay trows∧trows.length=len∧y= .sl trows) (hv:VR P β w I (.own k off len) v):TR w (EG σ w0 w β I O0 fk os') y v:=by
 obtain⟨hne,hnk,o,trows,h1,h2,h3,rfl⟩:=h;simp only[VR]at hv;simp only[TR];rcases hv with ⟨_,rfl,_,h4⟩ |⟨b,sz,n,cap,ad,h4,rfl,h5,h6,h7⟩
 ·exact .inl ⟨eq_nil_of_length_eq_zero (by omega),none,0,rfl,fun _=>rfl⟩
 ·obtain⟨g1,g2,g3⟩:=hr.mem.own k o b sz n h1 h4;refine .inr ⟨b,ad,cap,sz,by rw[h3],by omega,⟨.inr (.inr (g3.elim .inr .inl)),g2,fun⟨k',e1,⟨o',e2⟩,e3⟩=>?_⟩,?_⟩
  ·have:=hr.mem.injL k k' o o' b h1 e2 (.at h4) e3;subst this;exact e1.elim hne hnk
  ·by_cases hc:cap=0
   ·have:trows=[]:=eq_nil_of_length_eq_zero (by omega);subst this;simp[TRows]
   ·rw[h7 hc];obtain⟨B,hB,hOR⟩:=hr.mem.objs k o h1;rw[h4]at hB;injection hB with hB;subst hB;obtain⟨hs,c,e,hc',_,hOR⟩:=hOR;have h8:=ORows.take len _ _ _ _ (ORows.drop off _ _ _ _ hOR);rw[h2]at h8;exact TRows.of_own (Sm hr fk os') hc' trows _ _ h8
theorem xU (hr:Rel P w0 O0 N β I σ a w) {fk:Option Nat} {os':List (Option bJ)} {x:AV} {y:Tree} {v:Value} (h:Gx σ.obj fk os' x y) (hv:VR P β w I x v):TR w (EG σ w0 w β I O0 fk os') y v:=by
 cases x<;>simp only[Gx]at h
 case t x=>subst h;simp only[VR]at hv;exact TR.mono (fun _ _=>rfl) (Sm hr fk os') _ _ hv
 case nilsl=>subst h;simp only[VR]at hv;simp only[TR];exact .inl ⟨trivial,none,0,hv,fun _=>rfl⟩
 case own k off len=>exact EH hr h hv
 case oz k len=>
  rcases hv.oz_own with ⟨rfl,rfl⟩ |⟨_,hv⟩
  ·obtain⟨hne,hnk,o,trows,h1,h2,h3,rfl⟩:=h;simp only[TR];exact .inl ⟨eq_nil_of_length_eq_zero h3,none,0,rfl,fun _=>rfl⟩
  ·exact EH hr h hv
theorem EI (hr:Rel P w0 O0 N β I σ a w) {fk:Option Nat} {os':List (Option bJ)} {β':Nat->Option Blk}:∀ {r:List AV} {t:List Tree} {c:Array Value} {off:Nat},ExpL σ.obj fk os' r t->ORow P β w I r c off->ORow P β' w (EG σ w0 w β I O0 fk os') (t.map AV.t) c off
 |[],[],_,_,_,_=>trivial
 |x::xs,y::ys,c,off,h,⟨⟨v,h1,h2,h3⟩,h4⟩=>⟨⟨v,h1,by simp only[VR];exact xU hr h.1 h2,h3⟩,EI hr h.2 h4⟩
 |[],_::_,_,_,h,_=>h.elim
 |_::_,[],_,_,h,_=>h.elim
theorem ExpL.length {get:Nat->Option aF} {fk:Option Nat} {os':List (Option bJ)}:∀ {r:List AV} {t:List Tree},ExpL get fk os' r t->t.length=r.length
 |[],[],_=>rfl
 |_::_,_::_,h=>by simp[ExpL.length h.2]
 |[],_::_,h=>h.elim
 |_::_,[],h=>h.elim
theorem ve (hr:Rel P w0 O0 N β I σ a w) {fk:Option Nat} {os':List (Option bJ)} {β':Nat->Option Blk}:∀ {rs:List (List AV)} {ts:List (List Tree)} {c:Array Value} {off sz:Nat},ExpRows σ.obj fk os' rs ts->ORows P β w I rs c off sz->ORows P β' w (EG σ w0 w β I O0 fk os') (ay ts) c off sz
 |[],[],_,_,_,_,_=>trivial
 |r::rs,t::ts,c,off,sz,h,⟨h1,h2,h3⟩=>⟨by rw[List.length_map,h.1.length,h1],EI hr h.1 h2,ve hr h.2 h3⟩
 |[],_::_,_,_,_,h,_=>h.elim
 |_::_,[],_,_,_,h,_=>h.elim
theorem ExpRows.length {get:Nat->Option aF} {fk:Option Nat} {os':List (Option bJ)}:∀ {rs:List (List AV)} {ts:List (List Tree)},ExpRows get fk os' rs ts->rs.length=ts.length
 |[],[],_=>rfl
 |_::_,_::_,h=>by simp only[length_cons,h.2.length]
 |[],_::_,h=>h.elim
 |_::_,[],h=>h.elim
theorem Dh (hr:Rel P w0 O0 N β I σ a w) {fk:Option Nat} {os':List (Option bJ)} {β':Nat->Option Blk}:∀ {r:List AV} {t:List Tree} {vs:List Value},ExpL σ.obj fk os' r t->VRl P β w I r vs->VRl P β' w (EG σ w0 w β I O0 fk os') (t.map AV.t) vs
 |[],[],[],_,_=>by simp[VRl]
 |x::xs,y::ys,v::vs,h,hv=>by
  simp only[VRl]at hv;simp only[map_cons,VRl,VR];exact⟨xU hr h.1 hv.1,Dh hr h.2 hv.2⟩
 |[],_::_,_,h,_=>h.elim
 |_::_,[],_,h,_=>h.elim
 |[],[],_::_,_,hv=>by simp[VRl]at hv
 |_::_,_::_,[],_,hv=>by simp[VRl]at hv
theorem Af (hr:Rel P w0 O0 N β I σ a w) {fk:Option Nat} {os':List (Option bJ)} {β':Nat->Option Blk}:∀ {rs:List (List AV)} {ts:List (List Tree)} {es:List MapEntry},ExpRows σ.obj fk os' rs ts->MRows P β w I rs es->MRows P β' w (EG σ w0 w β I O0 fk os') (ay ts) es
 |[],[],[],_,_=>trivial
 |_::_,_::_,_::_,h,hm=>⟨Dh hr h.1 hm.1,Af hr h.2 hm.2⟩
 |[],_::_,_,h,_=>h.elim
 |_::_,[],_,h,_=>h.elim
 |[],[],_::_,_,hm=>hm.elim
 |_::_,_::_,[],_,hm=>hm.elim
theorem ExpRows.nil {get:Nat->Option aF} {fk:Option Nat} {os':List (Option bJ)} {t:List (List Tree)} (h:ExpRows get fk os' [] t):t=[]:=by
 cases t with
 |nil=>rfl
 |cons=>exact h.elim
theorem KU (hr:Rel P w0 O0 N β I σ a w) {F:Nat->Prop} {βi:Nat->Option Blk} {fk:Option Nat} {os':List (Option bJ)} (hF:∀ k o b,fk=some k->σ.obj k=some o->¬ kept os' k->Lies β k b->F b) (hi:∀ j,kept os' j->β j=βi j) {x:AV} {c:RC} {v:Value}
 (h:Yd σ.obj fk os' x c) (hv:VR P β w I x v):RCR P F βi c w (EG σ w0 w β I O0 fk os') v:=by
 unfold Yd at h;split at h
 ·rename_i cs ts;simp only[VR]at hv;obtain⟨vs,rfl,hv⟩:=hv;refine⟨vs,rfl,?_⟩;have:∀ (cs:List AV) (ts:List Tree) (vs:List Value),ExpL σ.obj fk os' cs ts->VRl P β w I cs vs->TRl w (EG σ w0 w β I O0 fk os') ts vs:=by
   intro cs
   induction cs with
   |nil=>intro ts vs h hv;cases ts<;>cases vs<;>first |trivial |exact h.elim |(simp [VRl]at hv)
   |cons x xs ih=>
    intro ts vs h hv;cases ts with
    |nil=>exact h.elim
    |cons t ts=>
     cases vs with
     |nil=>simp[VRl]at hv
     |cons u us=>simp only[VRl]at hv;exact⟨xU hr h.1 hv.1,ih ts us h.2 hv.2⟩
  exact this cs ts vs.toList h hv
 ·exact xU hr h hv
 ·subst h;simp only[VR]at hv;exact .inl ⟨rfl,hv⟩
 ·rename_i k off len sz rows;obtain⟨rfl,hnk,rfl,o,h1,rfl,h2,h3⟩:=h;simp only[VR]at hv;rcases hv with ⟨_,rfl,_,h4⟩ |⟨b,sz,n,cap,ad,h4,rfl,h5,h6,h7⟩
  ·exact .inl ⟨eq_nil_of_length_eq_zero (by omega),rfl⟩
  ·obtain⟨g1,g2,g3⟩:=hr.mem.own k o b sz n h1 h4;obtain⟨B,hB,hOR⟩:=hr.mem.objs k o h1;rw[h4]at hB;injection hB with hB;subst hB;obtain⟨hs,c,e,hc',hn,hOR⟩:=hOR;refine .inr ⟨b,c,e,cap,ad,n.s,by rw[h3],hF k o b rfl h1 hnk (.at h4),fun hI=>hI.2.2 ⟨k,.inl rfl,⟨o,h1⟩,.at h4⟩,hc',by omega,?_,?_,fun hc=>by simpa using h7 hc⟩
   ·rw[<- hs,hn];simpa using h6
   ·rw[<- hs];exact ve hr h2 (ORows.take len _ _ _ _ hOR)
 ·rename_i k off len j len';obtain⟨rfl,rfl,rfl,hk⟩:=h;show VR P βi w (EG σ w0 w β I O0 fk os') (.own k 0 len') v;simp only[VR]at hv ⊢;rw[<- hi k hk];exact hv
 ·exact h.elim
theorem vg {α:Type} (l:List α) (t:Nat):lk ((List.range l.length).zip l) t=l[t]? :=by
 have hlook:∀ (l:List α) (s t:Nat),(lk ((List.range' s l.length).zip l) t)=if s<=t∧t < s+l.length then l[t - s]? else none:=by
  intro l
  induction l with
  |nil=>intro s t;simp[lk]
  |cons x xs ih=>
   intro s t;simp only[length_cons,List.range'_succ,List.zip_cons_cons,lk];by_cases hst:s=t
   ·subst hst;simp
   ·rw[if_neg hst,ih];by_cases hlt':s+1<=t∧t < s+1+xs.length
    ·rw[if_pos hlt',if_pos (by omega),show t - s=(t - (s+1))+1 by omega];simp
    ·rw[if_neg hlt',if_neg (by omega)]
 rw[List.range_eq_range',hlook];by_cases ht:t < l.length
 ·simp[ht]
 ·rw[if_neg (by omega)];simp[List.getElem?_eq_none (Nat.le_of_not_lt ht)]
theorem Gz {x:AV}:∀ {l:List AV},x∈l->∀ k∈refs x,k∈bH l
 |[],h,_,_=>by simp at h
 |y::ys,h,k,hk=>by
  simp only[bH,mem_append];rcases mem_cons.1 h with rfl |h
  ·exact .inl hk
  ·exact .inr (Gz h k hk)
theorem Yf (hT : bI P T) {f : FuncId} {fn : Func} {c : Code} {args : List AV} {os : List bJ} {os' : List (Option bJ)} {rv : RV} (hfn : P.funcs[f]? = some fn) (hb : fn.body = some c) (hname : (fn.name == "runtime.NumGoroutine") = false) (hN : args.length <= fn.ntmps) (hargs : ∀ k ∈ bH args, k < 1000) (hos : os.length <= 1000) (hlen : os'.length = os.length)
 (h:Ev P fn.ntmps c (ado T fn.results.toList rv os') (LSt.st ⟨(List.range args.length).zip args,(List.range (os.map aob).length).zip (os.map aob)⟩)):FnW P f args os os' rv:=by
 refine⟨⟨fn,hfn,by rw[hb];rfl,hname⟩,fun w β I vs hβ hM hv=>?_⟩;have hvl:=VRl.length _ _ hv;simp only[Array.length_toList]at hvl;have hobj:∀ k,lk ((List.range (os.map aob).length).zip (os.map aob)) k=osf os k:=fun k=>by rw[vg];simp[osf]
 refine calls_of_wp hfn hb ?_;have hrel:Rel P w (mg β I) fn.ntmps β I (LSt.st ⟨(List.range args.length).zip args,(List.range (os.map aob).length).zip (os.map aob)⟩) { tmps:=vs++Array.replicate (fn.ntmps - vs.size) undef,defers:=[] } w:=by
  refine⟨rfl,by simp;omega,fun t=>?_,?_⟩
  ·simp only[LSt.st,vg,SlotR];by_cases ht:t < args.length
   ·obtain⟨v,g1,g2⟩:=VRl.get _ _ t _ hv (List.getElem?_eq_getElem ht);rw[List.getElem?_eq_getElem ht];simp only[Option.getD_some];have:(vs++Array.replicate (fn.ntmps - vs.size) undef).getD t undef=v:=by
     rw[Array.getElem?_toList]at g1;simp only[Array.getD_eq_getD_getElem?,Array.getElem?_append,show t < vs.size by omega,if_true,g1,Option.getD_some]
    rw[this];exact g2
   ·rw[List.getElem?_eq_none (Nat.le_of_not_lt ht)];simp[VR]
  ·have:(LSt.st ⟨(List.range args.length).zip args,(List.range (os.map aob).length).zip (os.map aob)⟩).obj=osf os:=funext hobj;rw[this];exact hM
 have hold:Old (LSt.st ⟨(List.range args.length).zip args,(List.range (os.map aob).length).zip (os.map aob)⟩):=by
  refine⟨fun t k hk=>?_,fun k o hk=>?_⟩
  ·simp only[LSt.st,vg]at hk;cases ht:args[t]? with
   |none=>rw[ht]at hk;simp[refs]at hk
   |some x=>rw[ht]at hk;have:=hargs k (Gz (List.mem_of_getElem? ht) k hk);omega
  ·have hk:osf os k=some o:=(hobj k).symm.trans hk;simp only[osf,Option.map_eq_some_iff]at hk;obtain⟨p,hp,rfl⟩:=hk;refine⟨by have:=(List.getElem?_eq_some_iff.1 hp).1;omega,fun r hr x hx j hj=>?_⟩;simp only[aob,ay,mem_map]at hr;obtain⟨q,_,rfl⟩:=hr;simp only[mem_map]at hx;obtain⟨t,_,rfl⟩:=hx;simp[refs]at hj
 refine wp_mono (h w (mg β I) β I _ w hrel hold) ?_
 have fin:∀ (a':Act) (w':World) (β':Nat->Option Blk) (I':Nat->Prop) (σ':St),Rel P w (mg β I) fn.ntmps β' I' σ' a' w'->(∃ xs fk,iW T σ' fn.results.toList=some xs∧Ye σ'.obj fk os' xs rv∧abm σ'.obj fk os')->
  a'.defers=[]∧∃ v,(results fn a'.tmps).run P w'= .ok v w'∧acn P w β I os' rv (.returned v) w':=by
  intro a' w' β' I' σ' hr ⟨xs,fk,hx,he,heo⟩;obtain⟨us,g1,g2⟩:=u7 hT hr _ _ hx;have hul:=VRl.length _ _ g2;have hm:=hr.mem;have hrun:(fn.results.mapM (KS a'.tmps)).run P w'= .ok us.toArray w':=by rw[Array.mapM_eq_mapM_toList,Sem.run_map,g1];rfl
  have hko:∀ j p,os'[j]? =some (some p)->∃ B o,β j=some B∧β' j=some B∧σ'.obj j=some o∧OR P β' w' I' o B∧o.sz=p.1∧ExpRows σ'.obj fk os' (o.rows.take p.2.length) p.2:=by
   intro j p hj;obtain⟨_,o,e1,e2,e3⟩:=heo j p hj;have hjl:j < os.length:=(by rw[<- hlen];exact (List.getElem?_eq_some_iff.1 hj).1);obtain⟨B,hB,_⟩:=hM.objs j (aob os[j]) (by simp[osf,hjl]);have hB':=hm.anch j B (by simp only[mg];rw[if_pos (by omega)];exact hB);obtain⟨B',hB2,hO⟩:=hm.objs j o e1;rw[hB']at hB2;injection hB2 with hB2;subst hB2;exact⟨B,o,hB,hB',e1,hO,e2,e3⟩
  have hkept:∀ j,kept os' j->β' j=β j:=fun j ⟨p,hp⟩=>by
   obtain⟨B,o,h1,h2,_⟩:=hko j p hp;rw[h1,h2]
  have hosf:∀ j o,Cq os' j=some o->∃ p,os'[j]? =some (some p)∧o=aob p:=by
   intro j o hj;simp only[Cq,Option.map_eq_some_iff,Option.join_eq_some_iff]at hj;obtain⟨p,hp,rfl⟩:=hj;exact⟨p,hp,rfl⟩
  have hownI:∀ b,I b->¬ Kt β b∧b < w.heap.size:=by
   intro b hb;refine⟨?_,hM.lt b hb⟩;rintro⟨j,B,hj,hB⟩;rcases Nat.lt_or_ge j os.length with hjl |hjl
   ·exact (hM.ownB j (aob os[j]) B b (by simp[osf,hjl]) hj hB).1 hb
   ·rw[hβ j hjl]at hj;cases hj
  have hOI:∀ b,I b->EG σ' w w' β' I' (mg β I) fk os' b:=by
   intro b hb;obtain⟨g1,g2⟩:=hownI b hb;refine⟨.inr (.inl hb),Nat.lt_of_lt_of_le g2 hm.le,?_⟩;rintro⟨k,_,⟨o,ho⟩,hβk⟩;rcases (hm.ownL k o b ho hβk).2.2 with g |g
   ·exact g1 g
   ·omega
  have hmem:Mem P w (mg β I) β (EG σ' w w' β' I' (mg β I) fk os') (Cq os') w':=by
   constructor
   ·intro j o hj;obtain⟨p,hp,rfl⟩:=hosf j o hj;obtain⟨B,o1,b1,b2,b3,b4,b5,b6⟩:=hko j p hp;refine⟨B,b1,?_⟩;cases B with
    |none=>
     simp only[OR]at b4 ⊢;rw[b4]at b6;have:=ExpRows.nil (by simpa using b6);simp[aob,ay,this]
    | «at» b s n=>
     obtain⟨c1,c,e,c2,c3,c4⟩:=b4;refine⟨by rw[c1,b5];rfl,c,e,c2,c3,?_⟩;exact ve hr b6 (ORows.take _ _ _ _ _ c4)
    |mp b=>
     obtain⟨es,cl,c1,cl',c2,c3⟩:=b4;have hl:=b6.length;simp only[length_take]at hl;refine⟨es,cl,c1,by simp only[aob,ay,List.length_map];omega,fun e=>?_,c3⟩;have e':p.1=p.2.length:=(by simpa[aob,ay]using e);rw[List.take_of_length_le (by omega)]at b6;exact Af hr b6 (c2 (by omega))
   ·intro j j' o o' B B' b h1 h2 h3 h4 h5 h6;obtain⟨p,hp,rfl⟩:=hosf j o h1;obtain⟨p',hp',rfl⟩:=hosf j' o' h2;obtain⟨_,o1,_,_,b3,_⟩:=hko j p hp;obtain⟨_,o1',_,_,b3',_⟩:=hko j' p' hp';rw[<- hkept j ⟨p,hp⟩]at h3;rw[<- hkept j' ⟨p',hp'⟩]at h4;exact hm.injB j j' o1 o1' B B' b b3 b3' h3 h4 h5 h6
   ·intro j o B b h1 h2 h5;obtain⟨p,hp,rfl⟩:=hosf j o h1;obtain⟨_,o1,_,_,b3,_⟩:=hko j p hp;rw[<- hkept j ⟨p,hp⟩]at h2;obtain⟨_,c2,c3⟩:=hm.ownB j o1 B b b3 h2 h5;exact⟨fun hb=>hb.2.2 ⟨j,.inr ⟨p,hp⟩,⟨o1,b3⟩,B,h2,h5⟩,c2,c3⟩
   ·exact fun b hb=>hb.2.1
   ·intro b hb;rcases hb.1 with g |g |g |g
    ·exact hm.up b g
    ·exact .inl g
    ·exact .inr (.inr g)
    ·exact .inr (.inl g)
   ·exact hm.keep
   ·exact hm.le
   ·exact hm.os
   ·exact hm.tape
   ·exact hm.output
   ·intro j B hj;simp only[mg]at hj;split at hj
    ·exact hj
    ·cases hj
   ·exact hM.vars.mono (fun b hb=>hm.keep b (hownI b hb).2 (hownI b hb).1) hOI
  have hF:∀ k o b,fk=some k->σ'.obj k=some o->¬ kept os' k->Lies β' k b->R3 w β os' b:=by
   intro k o b _ h2 h3 h4;refine⟨(hm.ownL k o b h2 h4).2.2,fun j o' h5 h6=>?_⟩;obtain⟨p,hp,rfl⟩:=hosf j o' h5;obtain⟨_,o1,_,_,b3,_⟩:=hko j p hp;have h6':Lies β' j b:=by
    obtain⟨B,e1,e2⟩:=h6;exact⟨B,by rw[hkept j ⟨p,hp⟩];exact e1,e2⟩
   have:=hm.injL k j o o1 b h2 b3 h4 h6';subst this;exact h3 ⟨p,hp⟩
  have ret:∀ v,RVR P (R3 w β os') β rv w' (EG σ' w w' β' I' (mg β I) fk os') v->acn P w β I os' rv (.returned v) w':=fun v hv'=>⟨v,_,rfl,hmem,hOI,hv'⟩;refine⟨hr.defers,?_⟩;have hlist:∀ (xs:List AV) (cs:List RC) (us:List Value),ExpCs σ'.obj fk os' xs cs->VRl P β' w' I' xs us->J9 P (R3 w β os') β cs w' (EG σ' w w' β' I' (mg β I) fk os') us:=by
   intro xs
   induction xs with
   |nil=>intro cs us h1 h2;cases cs<;>cases us<;>first |trivial |exact h1.elim |(simp [VRl]at h2)
   |cons x xs ih=>
    intro cs us h1 h2;cases cs with
    |nil=>exact h1.elim
    |cons c cs=>
     cases us with
     |nil=>simp[VRl]at h2
     |cons u us=>simp only[VRl]at h2;exact⟨KU hr hF hkept h1.1 h2.1,ih cs us h1.2 h2.2⟩
  simp only[KT,Sem.run_bind,hrun,Result.andThen_ok,Sem.run_pure];refine⟨_,rfl,ret _ ?_⟩
  match xs,us,rv,he,g2 with
  |[x],[u],.one c,he,g2=>
   simp only[VRl]at g2;simpa[RVR]using KU hr hF hkept he g2.1
  |x::y::r,u::u'::us,.tup cs,he,g2=>
   have:=hlist _ _ _ he g2;rw[dif_neg (by simp)];exact⟨_,rfl,by simpa using this⟩
  |[],[],.tup cs,he,g2=>
   simp only[Ye]at he;subst he;rw[dif_neg (by simp)];exact⟨_,rfl,trivial⟩
  |[x],[u],.tup cs,he,_=>exact he.elim
  |[],_,.one c,he,_=>exact he.elim
  |x::y::r,_,.one c,he,_=>exact he.elim
  |[],_::_,.tup _,_,g2=>simp[VRl]at g2
  |[_],[],_,_,g2=>simp[VRl]at g2
  |[_],_::_::_,_,_,g2=>simp[VRl]at g2
  |_::_::_,[],_,_,g2=>simp[VRl]at g2
  |_::_::_,[_],_,_,g2=>simp[VRl]at g2
 rintro e a' w' ⟨β',I',σ',h1,h2,h3⟩;cases e with
 |normal=>exact fin a' w' β' I' σ' h1 h3
 |ret=>exact fin a' w' β' I' σ' h1 h3
 |_=>exact h3.elim
def abn (P:Program) (get:Nat->Option aF) (xs:List AV) (os':List (Nat×aF)) (rv:AV):Prop:=
 ∀ (w0:World) (O0:Was) (β:Nat->Option Blk) (I:Nat->Prop) (w:World) (vs:Array Value),Mem P w0 O0 β I get w->VRl P β w I xs vs.toList->∃ β' I',Mem P w0 O0 β' I' (olk os') w∧(∀ b,I b->I' b)∧VR P β' w I' rv (if h:vs.size=1 then vs[0]else .tuple vs)
def acZ (P:Program) (T:Tab) (rs:List ResultVar) (rv:AV) (os':List (Nat×aF)):Exit->St->Prop
 | .normal,σ=>∃ xs,iW T σ rs=some xs∧abn P σ.obj xs os' rv
 | .ret,σ=>∃ xs,iW T σ rs=some xs∧abn P σ.obj xs os' rv
 |_,_=>False
theorem Yg (hT : bI P T) {f : FuncId} {fn : Func} {c : Code} {args : List AV} {os : List aF} {os' : List (Nat × aF)} {rv : AV} (hfn : P.funcs[f]? = some fn) (hb : fn.body = some c) (hname : (fn.name == "runtime.NumGoroutine") = false) (hN : args.length <= fn.ntmps) (hargs : ∀ k ∈ bH args, k < 1000) (hos : os.length <= 1000)
 (hobs:∀ o∈os,∀ r∈o.rows,∀ x∈r,∀ j∈refs x,j < 1000)
 (h:Ev P fn.ntmps c (acZ P T fn.results.toList rv os') (LSt.st ⟨(List.range args.length).zip args,(List.range os.length).zip os⟩)):FnG P f args os os' rv:=by
 refine⟨⟨fn,hfn,by rw[hb];rfl,hname⟩,fun w β I vs hβ hM hv=>?_⟩;have hvl:=VRl.length _ _ hv;simp only[Array.length_toList]at hvl;have hobj:∀ k,lk ((List.range os.length).zip os) k=osg os k:=fun k=>by rw[vg];rfl
 refine calls_of_wp hfn hb ?_;have hrel:Rel P w (mg β I) fn.ntmps β I (LSt.st ⟨(List.range args.length).zip args,(List.range os.length).zip os⟩) { tmps:=vs++Array.replicate (fn.ntmps - vs.size) undef,defers:=[] } w:=by
  refine⟨rfl,by simp;omega,fun t=>?_,?_⟩
  ·simp only[LSt.st,vg,SlotR];by_cases ht:t < args.length
   ·obtain⟨v,g1,g2⟩:=VRl.get _ _ t _ hv (List.getElem?_eq_getElem ht);rw[List.getElem?_eq_getElem ht];simp only[Option.getD_some];have:(vs++Array.replicate (fn.ntmps - vs.size) undef).getD t undef=v:=by
     rw[Array.getElem?_toList]at g1;simp only[Array.getD_eq_getD_getElem?,Array.getElem?_append,show t < vs.size by omega,if_true,g1,Option.getD_some]
    rw[this];exact g2
   ·rw[List.getElem?_eq_none (Nat.le_of_not_lt ht)];simp[VR]
  ·have:(LSt.st ⟨(List.range args.length).zip args,(List.range os.length).zip os⟩).obj=osg os:=funext hobj;rw[this];exact hM
 have hold:Old (LSt.st ⟨(List.range args.length).zip args,(List.range os.length).zip os⟩):=by
  refine⟨fun t k hk=>?_,fun k o hk=>?_⟩
  ·simp only[LSt.st,vg]at hk;cases ht:args[t]? with
   |none=>rw[ht]at hk;simp[refs]at hk
   |some x=>rw[ht]at hk;have:=hargs k (Gz (List.mem_of_getElem? ht) k hk);omega
  ·have hk:osg os k=some o:=(hobj k).symm.trans hk;simp only[osg]at hk;refine⟨by have:=(List.getElem?_eq_some_iff.1 hk).1;omega,fun r hr x hx j hj=>?_⟩;have:=hobs o (List.mem_of_getElem? hk) r hr x hx j hj;omega
 refine wp_mono (h w (mg β I) β I _ w hrel hold) ?_
 have fin:∀ (a':Act) (w':World) (β':Nat->Option Blk) (I':Nat->Prop) (σ':St),Rel P w (mg β I) fn.ntmps β' I' σ' a' w'->(∃ xs,iW T σ' fn.results.toList=some xs∧abn P σ'.obj xs os' rv)->
  a'.defers=[]∧∃ v,(results fn a'.tmps).run P w'= .ok v w'∧acY P w β I os' rv (.returned v) w':=by
  intro a' w' β' I' σ' hr ⟨xs,hx,he⟩;obtain⟨us,g1,g2⟩:=u7 hT hr _ _ hx;have hrun:(fn.results.mapM (KS a'.tmps)).run P w'= .ok us.toArray w':=by rw[Array.mapM_eq_mapM_toList,Sem.run_map,g1];rfl
  have hownI:∀ b,I b->¬ Kt β b∧b < w.heap.size:=by
   intro b hb;refine⟨?_,hM.lt b hb⟩;rintro⟨j,B,hj,hB⟩;rcases Nat.lt_or_ge j os.length with hjl |hjl
   ·exact (hM.ownB j os[j] B b (by simp[osg,hjl]) hj hB).1 hb
   ·rw[hβ j hjl]at hj;cases hj
  obtain⟨β2,I2,hm,hI2,hv2⟩:=he w (mg β I) β' I' w' us.toArray hr.mem (by simpa using g2);have hmem:Mem P w (mg β I) β2 (fun b=>I2 b∨I b) (olk os') w':=by
   constructor
   ·intro k o hk;obtain⟨B,hB,hO⟩:=hm.objs k o hk;exact⟨B,hB,OR.mono (fun _ _ h=>h) (fun _ _=>rfl) (fun b hb=> .inl hb) (fun _ _=>rfl) hO⟩
   ·exact hm.injB
   ·intro k o B b h1 h2 h3;obtain⟨a1,a2,a3⟩:=hm.ownB k o B b h1 h2 h3;refine⟨?_,a2,a3⟩;rintro (hb |hb)
    ·exact a1 hb
    ·obtain⟨c1,c2⟩:=hownI b hb;rcases a3 with a3 |a3
     ·exact c1 a3
     ·omega
   ·rintro b (hb |hb)
    ·exact hm.lt b hb
    ·exact Nat.lt_of_lt_of_le (hownI b hb).2 hm.le
   ·rintro b (hb |hb)
    ·exact hm.up b hb
    ·exact .inl hb
   ·exact hm.keep
   ·exact hm.le
   ·exact hm.os
   ·exact hm.tape
   ·exact hm.output
   ·exact hm.anch
   ·exact hm.vars.mono (fun _ _=>rfl) (fun b hb=> .inl hb)
  refine⟨hr.defers,?_⟩;simp only[KT,Sem.run_bind,hrun,Result.andThen_ok,Sem.run_pure];exact⟨_,rfl,_,β2,_,rfl,hmem,fun b hb=> .inr hb,VR.mono (fun _ _ h=>h) (fun _ _=>rfl) (fun b hb=> .inl hb) _ _ hv2⟩
 rintro e a' w' ⟨β',I',σ',h1,h2,h3⟩;cases e with
 |normal=>exact fin a' w' β' I' σ' h1 h3
 |ret=>exact fin a' w' β' I' σ' h1 h3
 |_=>exact h3.elim
theorem RVR.monoF {F F':Nat->Prop} {βi:Nat->Option Blk} {w':World} {I':Nat->Prop} (hF:∀ b,F b->F' b) {rv:RV} {v:Value} (h:RVR P F βi rv w' I' v):RVR P F' βi rv w' I' v:=by
 have hc:∀ (c:RC) (v:Value),RCR P F βi c w' I' v->RCR P F' βi c w' I' v:=by
  intro c v h;cases c with
  |d x=>exact h
  |fresh sz rows=>
   rcases h with h |⟨b,c,e,cap,o,s,h1,h2,h3⟩
   ·exact .inl h
   ·exact .inr ⟨b,c,e,cap,o,s,h1,hF b h2,h3⟩
  |whole j len=>exact h
 cases rv with
 |one c=>exact hc c v h
 |tup cs=>
  obtain⟨vs,rfl,h⟩:=h;refine⟨vs,rfl,?_⟩;have:∀ (cs:List RC) (vs:List Value),J9 P F βi cs w' I' vs->J9 P F' βi cs w' I' vs:=by
   intro cs
   induction cs with
   |nil=>intro vs h;cases vs with
    |nil=>trivial
    |cons=>exact h.elim
   |cons c cs ih=>intro vs h;cases vs with
    |nil=>exact h.elim
    |cons v vs=>exact⟨hc c v h.1,ih vs h.2⟩
  exact this cs vs.toList h
theorem KV {f:FuncId} {args:List AV} {rv:RV} (h:FnW P f args [] [] rv):FnP P f args rv:=by
 refine⟨h.1,fun w I vs hlt hgv hv=>?_⟩;have hM:Mem P w (mg nob I) nob I (osf []) w:=by
  refine⟨fun k o hk=>by simp[osf]at hk,fun k k' o o' B B' b hk=>by simp[osf]at hk,fun k o B b hk=>by simp[osf]at hk,hlt,fun b hb=> .inl hb,fun _ _ _=>rfl,Nat.le_refl _,rfl,rfl,rfl,fun j B hj=>?_,hgv⟩;simp only[mg,nob,ite_self]at hj;cases hj
 refine (h.2 w nob I vs (fun _ _=>rfl) hM hv).mono ?_;rintro e w' ⟨v,I',rfl,g1,g2,g3⟩;have hno:∀ b,¬ (mg nob I).own b:=fun b ⟨j,B,hj,_⟩=>by cases hj
 refine⟨v,I',rfl,⟨g1.os,g1.tape,g1.output,g1.le,fun b hb=>g1.keep b hb (hno b)⟩,g2,g1.lt,fun b hb=>?_,RVR.monoF (fun b hb=>?_) g3⟩
 ·rcases g1.up b hb with h |h |h
  ·exact .inl h
  ·exact (hno b h).elim
  ·exact .inr h
 ·rcases hb.1 with h |h
  ·exact (hno b h).elim
  ·exact h
end
end Go.Gb
