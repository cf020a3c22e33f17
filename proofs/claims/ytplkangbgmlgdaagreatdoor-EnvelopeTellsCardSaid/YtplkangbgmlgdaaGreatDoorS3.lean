/-
  The reference's rules of a lot (greenbeltref21, greenbeltref13, greenbeltref24).
-/
import Derived.Test.YtplkangbgmlgdaaGreatDoorS2
open Go.IntKind (i64)
open List (length_take mem_map all_eq_true getElem_mem length_map length_nil foldl_cons mem_flatMap any_eq_false mem_append_left mem_append_right)
namespace Go.Proofs
open Go.Gb Go.RowKit
theorem aiT (a b:ByteArray):sEq a b=sEq b a:=by unfold sEq;rw[bJ,beq_iff_eq,beq_iff_eq];exact eq_comm
theorem ae9 {n:Nat} {l:List ByteArray} (a:ByteArray) (hl:l.length<=1000) (hn:2000<=n):Sy n l a=some (l.any (sEq a)):=by
 unfold Sy;have:=jW (l:=l) (step:=EX l a) (fun i=>(i:Int)) (fun x=>sEq a x) () (fun _=>true) (fun i hi=>?_) ?_ n (by omega)
 ·rw[show ((0:Nat):Int)=0 from rfl]at this;rw[this];have e:=j5 (fun x=>sEq a x) l;cases hf:nR (fun x=>sEq a x) l with
  |none=>rw[hf]at e;rw[show l.any (sEq a)=l.any (fun x=>sEq a x)from rfl,<- e];rfl
  |some i=>rw[hf]at e;rw[show l.any (sEq a)=l.any (fun x=>sEq a x)from rfl,<- e];rfl
 ·simp only[EX,bG hi,au,aY hi,ah,bL i];rw[show (ByteArray.toList l[i]==ByteArray.toList a)=sEq a l[i]from aiT _ _];cases sEq a l[i]<;>rfl
 ·simp[EX]
theorem Nr {n:Nat} {a b:List ByteArray} (ha:a.length<=1000) (hb:b.length<=1000) (hn:2000<=n):zf n a b=some (a.any fun z=>b.any (sEq z)):=by
 unfold zf;have:=jW (l:=a) (step:=yQ n a b) (fun i=>(i:Int)) (fun z=>b.any (sEq z)) () (fun _=>true) (fun i hi=>?_) ?_ n (by omega)
 ·rw[show ((0:Nat):Int)=0 from rfl]at this;rw[this];have e:=j5 (fun z=>b.any (sEq z)) a;cases hf:nR (fun z=>b.any (sEq z)) a with
  |none=>rw[hf]at e;rw[<- e];rfl
  |some i=>rw[hf]at e;rw[<- e];rfl
 ·simp only[yQ,bG hi,au,aY hi,ah,ae9 _ hb hn,bL i];cases b.any (sEq a[i])<;>rfl
 ·simp[yQ]
theorem Ve {n:Nat} (r:eD) (zs:List ByteArray) (day:Int) (h:ZQ r) (h3:zs.length<=100) (hn:2000<=n):Bw n r zs day=some (fG zs day r):=by
 obtain⟨h1,h2⟩:=h;unfold Bw fG Nb;rw[Nr (by omega) (by omega) hn,Nr (by omega) (by omega) hn];have e:(((r.zones.length:Nat):Int)==0)=decide (r.zones=[]):=by
  rw[bJ,beq_iff_eq,aM];constructor
  ·intro h;exact List.length_eq_zero_iff.1 (by omega)
  ·intro h;rw[h];rfl
 have e2:decide (r.from_>day)=!decide (r.from_<=day):=by rw[bJ];simp
 have e3:decide (r.until_<=day)=!decide (day < r.until_):=by rw[bJ];simp
 simp only[ah,e,e2,e3,bne];cases decide (r.from_<=day)<;>cases r.until_==0<;>cases decide (day < r.until_)<;>cases decide (r.zones=[])<;>cases (r.zones.any fun z=>zs.any (sEq z))<;>cases (r.except.any fun z=>zs.any (sEq z))<;>rfl
theorem Z5 {n:Nat} (p:lg) (zs:List ByteArray) (day:Int) (hr:∀ r∈p.rules,ZQ r) (hl:p.rules.length<=100) (h3:zs.length<=100) (hn:2000<=n):Js n p zs day=some ((xQ p.rules zs day).map fun (i:Nat)=>(i:Int)):=by
 unfold Js xQ
 have:=cZ (l:=List.range p.rules.length) (step:=yR n p zs day) (fun i (s:List Int)=>((i:Int),s)) (fun i s=>bif (p.rules[i]?).any (fG zs day)then s++[((i:Nat):Int)]else s) (fun s=>s) (fun i s=>s.length<=i)
  (fun i hi s hs=>?_) (fun s hs=>by rw[List.length_range];simp[yR]) n (by rw[List.length_range];omega) [] (aU _)
 ·rw[show ((0:Nat):Int)=0 from rfl]at this;simp only[length_nil,aC,au,this,ah,bE];congr 1;have gen:∀ (ys:List Nat) (s:List Int),ys.foldl (fun s i=>bif (p.rules[i]?).any (fG zs day)then s++[((i:Nat):Int)]else s) s=s++(ys.filter fun i=>(p.rules[i]?).any (fG zs day)).map fun (i:Nat)=>(i:Int):=by
   intro ys
   induction ys with
   |nil=>intro s;simp
   |cons y ys ih=>
    intro s;rw[foldl_cons,ih,List.filter_cons];cases (p.rules[y]?).any (fG zs day)<;>simp
  exact gen (List.range p.rules.length) []
 ·rw[List.length_range]at hi;rw[List.getElem_range];have ap:bM s.length s.length (sub ([((i:Nat):Int)]:List Int) 0 1).length 1 8=true:=bI (n:=1);have eg:(p.rules[i]?).any (fG zs day)=fG zs day p.rules[i]:=by rw[gG hi];rfl
  rw[eg];simp only[yR,bG hi,au,aY hi,ah,Ve _ zs day (hr _ (getElem_mem hi)) h3 hn,ap,dH,aC,bL i];cases fG zs day p.rules[i]<;>refine⟨rfl,?_⟩<;>simp<;>omega
theorem acL {t:l5} (h:ZU t):MI t=some t:=by
 obtain⟨h1,h2⟩:=h;unfold MI;have a1:bM ([]:List aj).length 0 t.area.length t.area.length 32=true:=by simp only[length_nil,OH,aK,aM];exact⟨by omega,by simp only[maxLen];omega⟩
 have a2:bM ([]:List Int).length 0 t.from_.length t.from_.length 8=true:=by simp only[length_nil,OH,aK,aM];exact⟨by omega,by simp only[maxLen];omega⟩
 simp only[a1,a2,au,dH,cu,bE,aC]
theorem Iu {n:Nat} {land:List l5} {id:Int} (h:∀ t∈land,ZU t) (hl:land.length < 1099511627776) (hn:land.length < n):zO n land id=some (findLot land id):=by
 unfold zO;have:=jW (l:=land) (step:=Br land id) (fun i=>(i:Int)) (fun t=>t.id==id) () (fun i=>(land.getD i ack,true)) (fun i hi=>?_) ?_ n hn
 ·rw[show ((0:Nat):Int)=0 from rfl]at this;rw[this];unfold findLot;rcases UQ (fun t:l5=>t.id==id) land with ⟨i,hi,h1,h2⟩ |⟨h1,h2⟩
  ·rw[h1,h2];simp[hi]
  ·rw[h1,h2];rfl
 ·simp only[Br,bG hi,au,aY hi,ah,acL (h _ (getElem_mem hi))];cases land[i].id==id with
  |true=>simp[hi]
  |false=>simp only[aA];rw[aN (by omega)]
 ·simp[Br]
theorem Ns {n:Nat} {t:dY} (h:DU t) (lt:l5) (hlt:ZU lt) (day:Int) (hn:50000<=n):Dr n t lt day=some (t.plan_rules.filter (fG (ofZ t.plan_zones lt.area) day)):=by
 obtain⟨h1,h2,h3,h4,h5,h6,h7⟩:=h;unfold Dr;have zl:=agx t.plan_zones lt.area;rw[ahs _ _ (by simp only;omega) hlt.1 hn];simp only[ah,bE,aC,au];rw[Z5 _ _ _ h2 (by simp only;omega) (by omega) (by omega)];simp only[ah,length_nil,aC,au];generalize hZ:ofZ t.plan_zones lt.area=Z at*;have hm:∀ i∈xQ t.plan_rules Z day,i < t.plan_rules.length:=fun i hi=>List.mem_range.1 (List.mem_filter.1 hi).1;have hlen:(xQ t.plan_rules Z day).length<=t.plan_rules.length:=by
  have:=List.length_filter_le (fun i=>(t.plan_rules[i]?).any (fG Z day)) (List.range t.plan_rules.length);rw[List.length_range]at this;exact this
 rw[<- Ih];rw[show ((List.range t.plan_rules.length).filter fun i=>(t.plan_rules[i]?).any (fG Z day))=xQ t.plan_rules Z day from rfl];generalize xQ t.plan_rules Z day=idx at*
 have:=cZ (l:=idx) (step:=yS t (idx.map fun (i:Nat)=>(i:Int))) (fun i (s:List eD)=>((i:Int),s)) (fun i s=>s++(t.plan_rules[i]?).toList) (fun s=>s) (fun i s=>s.length<=i)
  (fun i hi s hs=>?_) (fun s hs=>by simp[yS]) n (by omega) [] (aU _)
 ·rw[show ((0:Nat):Int)=0 from rfl]at this;rw[this];simp only[ah,bE,aC,au];congr 1;have gen:∀ (ys:List Nat) (s:List eD),ys.foldl (fun s i=>s++(t.plan_rules[i]?).toList) s=s++ys.filterMap fun i=>t.plan_rules[i]? :=by
   intro ys
   induction ys with
   |nil=>intro s;simp
   |cons y ys ih=>
    intro s;rw[foldl_cons,ih,List.filterMap_cons];cases t.plan_rules[y]?<;>simp
  exact gen idx []
 ·have hk:=hm _ (getElem_mem hi);have e1:(idx.map fun (i:Nat)=>(i:Int)).length=idx.length:=length_map _;have g1:at? (idx.map fun (i:Nat)=>(i:Int)) (((0:Nat):Int)+((i:Nat):Int))=some ((idx[i]:Nat):Int):=by rw[dh (by rw[e1];exact hi)];simp
  have ap:bM s.length s.length (sub ([t.plan_rules[idx[i]]]:List eD) 0 1).length 1 232=true:=bI (n:=1);simp only[yS,e1,bG hi,au,bC hi,g1,ah,aY hk,ap,dH,aC,bL i];rw[gG hk];exact⟨rfl,by simp;omega⟩
theorem ajT {r:eD} (h:¬ r.test_args.length=2):Pq r=false:=by
 unfold Pq;split
 ·rename_i h2;rw[h2]at h;simp at h
 ·rfl
theorem Vf (r:eD):Bz r=some (Pq r)∧(Pq r=true->∃ a,at? r.test_args 0=some a∧a.n=aeZ r):=by
 unfold Bz;by_cases h2:r.test_args.length=2
 ·unfold Pq aeZ
  match hm:r.test_args,h2 with
  |[a,b],_=>
   have l2:(((([a,b]:List qA).length:Nat):Int) != 2)=false:=rfl;have g0:at? [a,b] 0=some a:=rfl;have g1:at? [a,b] 1=some b:=rfl;have la:(((a.args.length:Nat):Int)==0)=decide (a.args.length=0):=(by rw[bJ];simp);have lb:(((b.args.length:Nat):Int)==0)=decide (b.args.length=0):=(by rw[bJ];simp);simp only[l2,ah,g0,g1,la,lb,bne];refine⟨?_,fun _=>⟨a,rfl,rfl⟩⟩;rw[show (ByteArray.toList b.s==ByteArray.toList (⟨#[115,101,116,98,97,99,107]⟩))=sEq b.s zY from rfl];generalize sEq b.s zY=q;generalize (a.op==0)=q1;generalize (b.op==1)=q2;generalize decide (a.args.length=0)=q3;generalize decide (b.args.length=0)=q4;cases r.kind==0<;>cases r.test_op==12<;>cases q<;>cases q1<;>cases q2<;>cases q3<;>cases q4<;>rfl
 ·have l2:(((r.test_args.length:Nat):Int) != 2)=true:=by rw[bne_iff_ne];omega
  have e:=ajT h2;refine⟨?_,fun h=>by rw[e]at h;cases h⟩;rw[e,l2];cases r.kind != 0<;>cases r.test_op != 12<;>rfl
theorem Nt {t:dY} {lot day:Int} (h:(findLot t.land lot).2=true):uo t lot day=t.plan_rules.filter (fG (ofZ t.plan_zones (findLot t.land lot).1.area) day):=by unfold uo;rw[h];rfl
theorem Q5 {t:dY} {lot day:Int} (h:(findLot t.land lot).2=false):uo t lot day=[]:=by unfold uo;rw[h];rfl
theorem xR {n:Nat} {t:dY} (h:DU t) (lot day:Int) (hn:50000<=n):tV n t lot day=some (distE t lot day):=by
 have hl:=zX t lot day;have h1:=h.rules;unfold tV distE;have hla:=h.land;rw[Iu h.lots (by omega) (by omega)];simp only[ah];cases hf:(findLot t.land lot).2 with
 |false=>rw[Q5 hf];rfl
 |true=>
  rw[Ns h _ (DT h.lots lot) day hn,<- Nt hf];simp only[Bool.not_true,aA,ah];generalize uo t lot day=l at*;have:=zb (l:=l) (step:=rq n l) (fun i (s:Int)=>(s,((i:Nat):Int))) (fun r m=>bif Pq r then max m (aeZ r)else m) (fun s=>s) (fun i hi s=>?_) (fun s=>by simp[rq]) n (by omega) 0
  ·rw[show ((0:Nat):Int)=0 from rfl]at this;rw[this];rfl
  ·obtain⟨e1,e2⟩:=Vf l[i];simp only[rq,bG hi,au,bC hi,dh hi,ah,e1,bL i];cases hs:Pq l[i]with
   |true=>
    obtain⟨a,g1,g2⟩:=e2 hs;simp only[au,g1,ah,g2]
   |false=>rfl
theorem Kg {n:Nat} {t:dY} (h:DU t) (lot day:Int) (hn:50000<=n):u7 n t lot day=some (planesE t lot day):=by
 have hl:=zX t lot day;have h1:=h.rules;unfold u7 planesE;have hla:=h.land;rw[Iu h.lots (by omega) (by omega)];simp only[ah];cases hf:(findLot t.land lot).2 with
 |false=>rw[Q5 hf];rfl
 |true=>
  rw[Ns h _ (DT h.lots lot) day hn,<- Nt hf];simp only[Bool.not_true,aA,ah,length_nil,aC,au];generalize uo t lot day=l at*
  have:=cZ (l:=l) (step:=wu l) (fun i (s:List bR)=>((i:Int),s)) (fun r s=>bif r.kind==1 then s++[Fj r]else s) (fun s=>s) (fun i s=>s.length<=i)
   (fun i hi s hs=>?_) (fun s hs=>by simp[wu]) n (by omega) [] (aU _)
  ·rw[show ((0:Nat):Int)=0 from rfl]at this;rw[this];simp only[ah,bE,aC,au];congr 1;have gen:∀ (ys:List eD) (s:List bR),ys.foldl (fun s r=>bif r.kind==1 then s++[Fj r]else s) s=s++(ys.filter fun r=>r.kind==1).map Fj:=by
    intro ys
    induction ys with
    |nil=>intro s;simp
    |cons y ys ih=>
     intro s;rw[foldl_cons,ih,List.filter_cons];cases y.kind==1<;>simp
   exact gen l []
  ·have ap:bM s.length s.length (sub ([(bR.mk (l[i]).plane_side (l[i]).plane_base (l[i]).plane_num (l[i]).plane_den)]:List bR) 0 1).length 1 32=true:=bI (n:=1);simp only[wu,bG hi,au,bC hi,dh hi,ah,ap,dH,aC,bL i];cases (l[i]).kind==1<;>refine⟨rfl,?_⟩<;>simp<;>omega
theorem Kh {n:Nat} (a:List aj) (hl:a.length<=900) (hn:50000<=n):u6 n a=some (iL a):=by
 unfold u6 iL;cases a with
 |nil=>rfl
 |cons r l=>
  have e:((((r::l).length:Nat):Int)==0)=false:=by simp;omega
  have e2:decide (r::l≠[])=true:=by simp
  rw[lZ (by omega) hn,e,e2];simp only[aA,ah,Bool.true_and];cases hr:rightL (r::l)with
  |false=>rfl
  |true=>
   have g0:at? (r::l) 0=some r:=rfl;simp only[Bool.not_true,aA,g0,ah];have:=zb (l:=l) (step:=wo (r::l) r) (fun i (s:aj)=>(((i+1:Nat):Int),s.x0,s.y0,s.x1,s.y1)) (fun q s=>FQ s q) (fun s=>(s.x0,s.y0,s.x1,s.y1)) (fun i hi s=>?_) (fun s=>?_) n (by rw[bH]at hl;omega) r
   ·rw[show (((0+1:Nat):Nat):Int)=1 from rfl]at this;rw[this];rfl
   ·have hi':i+1 < (r::l).length:=(by rw[bH];omega);have hs:∀ k:Nat,k+1 < 9223372036854775808->i64.wrap (((k:Nat):Int)+1)=((k+1:Nat):Int):=fun k hk=>aN (by omega);simp only[wo,bG hi',au,aY hi',ah,List.getElem_cons_succ];rw[hs (i+1) (by rw[bH]at hl;omega)];rfl
   ·have:(r::l).length=l.length+1:=rfl;simp only[wo,this,fP,aA]
def IsF (f:Int->Int->Bool) (v:List aj):Prop:=∃ S,v=bD S∧nQ S∧(∀ x,Can (fI S x))∧∀ x y,inS (fI S x) y=f x y
def Fv (f:Int->Int->Bool):Prop:=∀ x y,f x y=true->(0<=x∧x < 1048576)∧(0<=y∧y < 1048576)
def Fw (X:List Int) (f:Int->Int->Bool):Prop:=∀ x y,f (x - 1) y≠f x y->x∈X
def Gf (Y:List Int) (f:Int->Int->Bool):Prop:=∀ x y,f x (y - 1)≠f x y->y∈Y
theorem z8 {f:Int->Int->Bool} {v w:List aj} (hv:IsF f v) (hw:IsF f w):v=w:=by
 obtain⟨S,rfl,s1,s2,s3⟩:=hv;obtain⟨T,rfl,t1,t2,t3⟩:=hw;exact Ch s1 t1 fun x=>jN (s2 x) (t2 x) fun y=>by rw[s3,t3]
theorem Yv {f:Int->Int->Bool} {v:List aj} (hv:IsF f v) (x y:Int):aV v x y=f x y:=by
 obtain⟨S,rfl,s1,s2,s3⟩:=hv;rw[Fa s1,s3]
theorem Vg {L:List aj} (h:∀ r∈L,OkR r=true):IsF (aV L) (bD (bq L)):=
 ⟨_,rfl,lW L,fun x=>by rw[nO];exact (eu h x).1,fun x y=>by rw[nO,(eu h x).2]⟩
theorem Nu {keep:Bool->Bool->Bool} (hk:keep false false=false) {a b:List aj} (ha:∀ r∈a,OkR r=true) (hb:∀ r∈b,OkR r=true):IsF (fun x y=>keep (aV a x y) (aV b x y)) (bD (MZ keep a b)):=
 ⟨_,rfl,uh _ _ (nN _),fun x=>by rw[Jz hk];exact (BG hk _ _).1,fun x y=>by rw[Jz hk,(BG hk _ _).2,(eu ha x).2,(eu hb x).2]⟩
theorem SC {f:Int->Int->Bool} (hf:Fv f) {v:List aj} (hv:IsF f v):∀ r∈v,OkR r=true:=by
 obtain⟨S,rfl,hS,hc,hin⟩:=hv;intro r hr;obtain⟨r1,r2⟩:=oM hS;rw[mh,BF]at hr;obtain⟨s,hs,q,hq,rfl⟩:=hr;obtain⟨g1,g2⟩:=mq r1 s hs;have c0:=g2 s.x0 (Int.le_refl _) g1;have c1:=g2 (s.x1 - 1) (by omega) (by omega);rw[r2]at c0 c1;have hcan:=hc s.x0;rw[c0]at hcan;have hq1:q.from_ < q.to:=hcan.2 q hq;have b0:=hf s.x0 q.from_ (by rw[<- hin,c0,jS];exact⟨q,hq,Int.le_refl _,hq1⟩);have b1:=hf (s.x1 - 1) (q.to - 1) (by rw[<- hin,c1,jS];exact⟨q,hq,by omega,by omega⟩);rw[jA];simp only;omega
theorem aiU {f:Int->Int->Bool} (hf:Fv f) {v:List aj} (hv:IsF f v):Ar v:=by
 refine⟨?_,SC hf hv⟩;obtain⟨S,rfl,hS,hc,hin⟩:=hv;obtain⟨r1,r2⟩:=oM hS;rw[mh];unfold iK;rw[List.pairwise_flatMap];refine⟨fun s hs=>?_,(DK r1).imp fun {s t} hst=>?_⟩
 ·unfold aF;rw[List.pairwise_map];obtain⟨g1,g2⟩:=mq r1 s hs;have hcan:=hc s.x0;rw[<- r2,g2 s.x0 (Int.le_refl _) g1]at hcan;refine hcan.1.imp fun {p q} hpq x y h1 h2=>?_;rw[dL]at h1 h2;simp only at h1 h2;omega
 ·intro p hp q hq x y h1 h2;unfold aF at hp hq;obtain⟨p',_,rfl⟩:=mem_map.1 hp;obtain⟨q',_,rfl⟩:=mem_map.1 hq;rw[dL]at h1 h2;simp only at h1 h2;omega
theorem agA:∀ {R:List bg},Runs R->∀ x,(∀ s∈R.head?,x < s.x0)->fI R x=[]
 |[],_,_,_=>rfl
 |s::R,h,x,hx=>by
  have h0:=hx s (by simp);rw[iT];have d:(decide (s.x0<=x)&&decide (x < s.x1))=false:=by simp;omega
  rw[d,aA];refine agA (fJ h) x fun t ht=>?_;cases R with
  |nil=>simp at ht
  |cons u R=>
   have:u=t:=(by simpa using ht);subst this;have:=h.1.1;have:=h.2.1;omega
theorem Yw:∀ {R:List bg},Runs R->∀ s∈R,fI R (s.x0 - 1)≠s.column
 |[],_,s,hs=>by simp at hs
 |t::R,h,s,hs=>by
  have hh:=iA h;rcases aI.1 hs with he |hs
  ·subst he;have hb:=agA h (s.x0 - 1) (fun u hu=>by
    have:s=u:=(by simpa using hu);subst this;omega)
   rw[hb];exact fun e=>hh.2 e.symm
  ·have ih:=Yw (fJ h) s hs;rw[iT];by_cases hx:t.x0<=s.x0 - 1∧s.x0 - 1 < t.x1
   ·have d:(decide (t.x0<=s.x0 - 1)&&decide (s.x0 - 1 < t.x1))=true:=(by simpa using hx);rw[d,au];cases R with
    |nil=>simp at hs
    |cons u R=>
     have hu:=(iA (fJ h)).1;rcases aI.1 hs with rfl |hs'
     ·exact h.2.2.1 (by have:=h.2.1;omega)
     ·have hp:=(List.pairwise_cons.1 (DK (fJ h))).1 s hs';have:=h.2.1;omega
   ·have d:(decide (t.x0<=s.x0 - 1)&&decide (s.x0 - 1 < t.x1))=false:=(by rw[Bool.eq_false_iff];intro hc;rw[aK,aM,aM]at hc;exact hx hc);rw[d,aA];exact ih
theorem aiV {f:Int->Int->Bool} {X Y:List Int} (hX:Fw X f) (hY:Gf Y f) {v:List aj} (hv:IsF f v):BI X Y v:=by
 obtain⟨S,rfl,hS,hc,hin⟩:=hv;intro r hr;obtain⟨r1,r2⟩:=oM hS;rw[mh,BF]at hr;obtain⟨s,hs,q,hq,rfl⟩:=hr;obtain⟨g1,g2⟩:=mq r1 s hs;have c0:=g2 s.x0 (Int.le_refl _) g1;have hl:=Yw r1 s hs;rw[r2]at c0 hl;have hcan:=hc s.x0;rw[c0]at hcan;have hq1:q.from_ < q.to:=hcan.2 q hq;refine⟨?_,?_⟩
 ·simp only;by_cases hx:s.x0∈X
  ·exact hx
  ·exfalso;refine hl ?_;rw[<- c0];refine jN (hc _) (hc _) fun y=>?_;rw[hin,hin];exact Decidable.byContradiction fun hne=>hx (hX _ _ hne)
 ·simp only;refine hY s.x0 q.from_ ?_;rw[<- hin,<- hin,c0];have t1:inS s.column q.from_=true:=(jS _ _).2 ⟨q,hq,Int.le_refl _,hq1⟩;have t2:inS s.column (q.from_ - 1)=false:=by
   rw[Bool.eq_false_iff];intro ht;obtain⟨p,hp,p1,p2⟩:=(jS _ _).1 ht;obtain⟨i,hi,rfl⟩:=List.mem_iff_getElem.1 hp;obtain⟨j,hj,rfl⟩:=List.mem_iff_getElem.1 hq;rcases Nat.lt_trichotomy i j with h |h |h
   ·have:=List.pairwise_iff_getElem.1 hcan.1 i j hi hj h;omega
   ·subst h;omega
   ·have:=List.pairwise_iff_getElem.1 hcan.1 j i hj hi h;omega
  rw[t1,t2];decide
theorem agB {f:Int->Int->Bool} (hf:Fv f) {X Y:List Int} (hX:Fw X f) (hY:Gf Y f) {v:List aj} (hv:IsF f v):v.length<=X.length*Y.length:=
 U2 (aiU hf hv) (aiV hX hY hv)
def xsR (l:List aj):List Int:=l.flatMap fun r=>[r.x0,r.x1]
def ysR (l:List aj):List Int:=l.flatMap fun r=>[r.y0,r.y1]
theorem Nv (l:List aj):(xsR l).length=2*l.length:=by
 induction l with
 |nil=>rfl
 |cons r l ih=>rw[xsR,List.flatMap_cons,aZ,<- xsR,ih,bH];simp;omega
theorem Nw (l:List aj):(ysR l).length=2*l.length:=by
 induction l with
 |nil=>rfl
 |cons r l ih=>rw[ysR,List.flatMap_cons,aZ,<- ysR,ih,bH];simp;omega
theorem Aa (l:List aj):Fw (xsR l) (aV l):=by
 intro x y hne;have:∃ r∈l,iC r (x - 1) y≠iC r x y:=by
  apply dP;intro hc;refine hne ?_;rw[bJ,fw,fw];have h:∀ r∈l,iC r (x - 1) y=iC r x y:=fun r hr=>dP fun h=>hc ⟨r,hr,h⟩;constructor
  ·rintro⟨r,hr,h1⟩;exact⟨r,hr,by rw[<- h r hr];exact h1⟩
  ·rintro⟨r,hr,h1⟩;exact⟨r,hr,by rw[h r hr];exact h1⟩
 obtain⟨r,hr,h⟩:=this;have:x=r.x0∨x=r.x1:=by
  apply dP;intro hc;refine h ?_;rw[bJ,dL,dL];omega
 exact mem_flatMap.2 ⟨r,hr,by simpa using this⟩
theorem Ab (l:List aj):Gf (ysR l) (aV l):=by
 intro x y hne;have:∃ r∈l,iC r x (y - 1)≠iC r x y:=by
  apply dP;intro hc;refine hne ?_;rw[bJ,fw,fw];have h:∀ r∈l,iC r x (y - 1)=iC r x y:=fun r hr=>dP fun h=>hc ⟨r,hr,h⟩;constructor
  ·rintro⟨r,hr,h1⟩;exact⟨r,hr,by rw[<- h r hr];exact h1⟩
  ·rintro⟨r,hr,h1⟩;exact⟨r,hr,by rw[h r hr];exact h1⟩
 obtain⟨r,hr,h⟩:=this;have:y=r.y0∨y=r.y1:=by
  apply dP;intro hc;refine h ?_;rw[bJ,dL,dL];omega
 exact mem_flatMap.2 ⟨r,hr,by simpa using this⟩
theorem Yx {X:List Int} {f g:Int->Int->Bool} (k:Bool->Bool->Bool) (hf:Fw X f) (hg:Fw X g):Fw X fun x y=>k (f x y) (g x y):=by
 intro x y hne;apply dP;intro hx;refine hne ?_;have e1:f (x - 1) y=f x y:=dP fun h=>hx (hf _ _ h);have e2:g (x - 1) y=g x y:=dP fun h=>hx (hg _ _ h);simp only[e1,e2]
theorem Yy {Y:List Int} {f g:Int->Int->Bool} (k:Bool->Bool->Bool) (hf:Gf Y f) (hg:Gf Y g):Gf Y fun x y=>k (f x y) (g x y):=by
 intro x y hne;apply dP;intro hx;refine hne ?_;have e1:f x (y - 1)=f x y:=dP fun h=>hx (hf _ _ h);have e2:g x (y - 1)=g x y:=dP fun h=>hx (hg _ _ h);simp only[e1,e2]
theorem Iw {X X':List Int} {f:Int->Int->Bool} (h:Fw X f) (hs:∀ x∈X,x∈X'):Fw X' f:=fun x y hne=>hs x (h x y hne)
theorem Iy {X X':List Int} {f:Int->Int->Bool} (h:Gf X f) (hs:∀ x∈X,x∈X'):Gf X' f:=fun x y hne=>hs y (h x y hne)
def Z6 (f g:Int->Int->Bool) (d:Int):Prop:=∀ x y,g x y=true↔∀ u v,x - d<=u->u<=x+d->y - d<=v->v<=y+d->f u v=true
theorem Yz {X:List Int} {f g:Int->Int->Bool} {d:Int} (h0:0<=d) (hX:Fw X f) (h:Z6 f g d):Fw (X.map (· +d)++X.map (· - d)) g:=by
 intro x y hne;have key:∃ u∈X,u=x+d∨u=x - d:=by
  cases h1:g x y with
  |true=>
   have h2:g (x - 1) y=false:=by cases h2:g (x - 1) y with
    |true=>rw[h1,h2]at hne;exact absurd rfl hne
    |false=>rfl
   have h3:=(h x y).1 h1;have h4:¬ g (x - 1) y=true:=(by rw[h2];decide);rw[h]at h4;apply dP;intro hc;refine h4 fun u v a b c e=>?_;by_cases hu:x - d<=u
   ·exact h3 u v hu (by omega) c e
   ·have g1:=h3 (x - d) v (Int.le_refl _) (by omega) c e;have:f (x - d - 1) v=f (x - d) v:=dP fun hn=>hc ⟨x - d,hX _ _ hn,.inr rfl⟩;rw[show u=x - d - 1 by omega,this];exact g1
  |false=>
   have h2:g (x - 1) y=true:=by cases h2:g (x - 1) y with
    |false=>rw[h1,h2]at hne;exact absurd rfl hne
    |true=>rfl
   have h3:=(h (x - 1) y).1 h2;have h4:¬ g x y=true:=(by rw[h1];decide);rw[h]at h4;apply dP;intro hc;refine h4 fun u v a b c e=>?_;by_cases hu:u<=x - 1+d
   ·exact h3 u v (by omega) hu c e
   ·have g1:=h3 (x+d - 1) v (by omega) (by omega) c e;have:f (x+d - 1) v=f (x+d) v:=dP fun hn=>hc ⟨x+d,hX _ _ hn,.inl rfl⟩;rw[show u=x+d by omega,<- this];exact g1
 obtain⟨u,hu,e |e⟩:=key
 ·exact mem_append_right _ (mem_map.2 ⟨u,hu,by omega⟩)
 ·exact mem_append_left _ (mem_map.2 ⟨u,hu,by omega⟩)
theorem aht {X:List Int} {f g:Int->Int->Bool} {d:Int} (h0:0<=d) (hX:Gf X f) (h:Z6 f g d):Gf (X.map (· +d)++X.map (· - d)) g:=by
 have h':Z6 (fun x y=>f y x) (fun x y=>g y x) d:=fun x y=>by
  rw[h];exact⟨fun k u v a b c e=>k v u c e a b,fun k u v a b c e=>k v u c e a b⟩
 have hX':Fw X (fun x y=>f y x):=fun x y hne=>hX y x hne;exact fun x y hne=>Yz h0 hX' h' y x hne
def Iz (d:Int) (b:aj):aj:=⟨b.x0+d,b.y0+d,b.x1 - d,b.y1 - d⟩
def DX (d:Int) (r:aj):aj:=⟨max 0 (r.x0 - d),max 0 (r.y0 - d),min 1048576 (r.x1+d),min 1048576 (r.y1+d)⟩
theorem WA {b:aj} {d:Int} (hb:OkR b=true) (hd:0<=d∧d<=1048576):EY b d=some (bif OkR (Iz d b)then (Iz d b,true)else (⟨0,0,0,0⟩,false)):=by
 have h:=(jA b).1 hb;have d1:decide (d < 0)=false:=by simp;omega
 have d2:decide (d>1048576)=false:=by simp;omega
 unfold EY;rw[uz,hb];simp only[ah,Bool.not_true,aA,d1,d2];rw[bB (x:=b.x0+d),bB (x:=b.y0+d),bB (x:=b.x1 - d),bB (x:=b.y1 - d)];rw[show aj.mk (b.x0+d) (b.y0+d) (b.x1 - d) (b.y1 - d)=Iz d b from rfl,uz];cases OkR (Iz d b)<;>rfl
theorem acM {r:aj} {d:Int} (hr:OkR r=true) (hd:0<=d∧d<=1048576):MO r d=some (DX d r,true):=by
 have h:=(jA r).1 hr;have d1:decide (d < 0)=false:=by simp;omega
 have d2:min d 1048576=d:=by omega
 unfold MO;rw[uz,hr];simp only[ah,Bool.not_true,aA,d1,d2];rw[bB (x:=r.x0 - d),bB (x:=r.y0 - d),bB (x:=r.x1+d),bB (x:=r.y1+d)];rfl
theorem ajU {r:aj} {d:Int} (hr:OkR r=true) (hd:0<=d):OkR (DX d r)=true:=by
 rw[jA]at*;unfold DX;simp only;omega
theorem aiW {α:Type} (g:α->α) (l:List α) {i:Nat} (hi:i < l.length):((l.map g).take i++l.drop i).set i (g l[i])=(l.map g).take (i+1)++l.drop (i+1):=by
 have e:((l.map g).take i).length=i:=by rw[length_take,length_map];omega
 rw[List.drop_eq_getElem_cons hi,List.set_append_right _ _ (by omega),e,Nat.sub_self,List.set_cons_zero,dW (by simpa using hi)];simp
theorem Ny {n:Nat} {d:Int} (hd:0<=d∧d<=1048576) (l:List aj) (hl:∀ r∈l,OkR r=true) (hlen:l.length<=1000000) (hn:l.length < n):iter (qO d l) n ((0:Int),l)=some (l.map (DX d)):=by
 have:=d9 (step:=qO d l) (fun i=>(((i:Nat):Int),(l.map (DX d)).take i++l.drop i)) l.length (l.map (DX d)) (fun i hi=>?_) ?_ n hn
 ·simpa using this
 ·have e:((l.map (DX d)).take i).length=i:=by rw[length_take,length_map];omega
  have g:at? ((l.map (DX d)).take i++l.drop i) (((0:Nat):Int)+((i:Nat):Int))=some l[i]:=by
   rw[dh (by rw[aZ,e,List.length_drop];omega)];congr 1;rw[List.getElem_append_right (by omega)];simp only[e,Nat.sub_self,List.getElem_drop,Nat.add_zero]
  have ht:(((0:Nat):Int)+((i:Nat):Int)).toNat=i:=by omega
  simp only[qO,bG hi,au,bC hi,g,ah,acM (hl _ (getElem_mem hi)) hd,ht,aiW (DX d) l hi,bL i]
 ·simp only[qO,fP,aA];simp only[List.drop_length,List.append_nil];rw[List.take_of_length_le (by rw[length_map];exact aU _)]
theorem ahu (l:List aj):∀ (r:aj) (x y:Int),iC r x y=true∨aV l x y=true->iC (l.foldl FQ r) x y=true:=by
 induction l with
 |nil=>intro r x y h;simpa[aV]using h
 |cons q l ih=>
  intro r x y h;rw[foldl_cons];refine ih _ x y ?_;rw[fw]at h ⊢;rcases h with h |⟨p,hp,h⟩
  ·left;rw[dL]at h ⊢;unfold FQ;simp only;omega
  ·rcases aI.1 hp with rfl |hp
   ·left;rw[dL]at h ⊢;unfold FQ;simp only;omega
   ·exact .inr ⟨p,hp,h⟩
theorem Vh {a:List aj} {x y:Int} (h:aV a x y=true):iC (gy a) x y=true:=by
 cases a with
 |nil=>simp[aV]at h
 |cons r l=>
  refine ahu l r x y ?_;rw[fw]at h;obtain⟨p,hp,h⟩:=h;rcases aI.1 hp with rfl |hp
  ·exact .inl h
  ·exact .inr ((fw _ _ _).2 ⟨p,hp,h⟩)
theorem cells_one (r:aj) (x y:Int):aV [r] x y=iC r x y:=by simp[aV,iC]
theorem Z7 {a:List aj} {d:Int} (h0:0<=d) (h1:d<=1048576) (hr:rightL a=true):∃ g v,Z6 (aV a) g d∧IsF g v∧nW a d=ae1 v:=by
 obtain⟨q1,q2⟩:=agv h0 hr;refine⟨fun x y=>inS (fI (kH d (fZ d a)) x) y,bD (kH d (fZ d a)),fun x y=>(q2 x).2 y,⟨_,rfl,q1,fun x=>(q2 x).1,fun _ _=>rfl⟩,?_⟩;unfold nW;rw[aJ (by simp only[aK,aM];exact⟨h0,h1,hr⟩)];rfl
theorem agC {g:Int->Int->Bool} (h:∀ x y,g x y=false):IsF g []:=⟨[],rfl,trivial,fun _=>tX,fun x y=>by rw[h];rfl⟩
theorem Ki {n:Nat} {a:List aj} {d:Int} (ha:a.length<=10) (hn:1000000<=n):EZ n a d=some (nW a d):=by
 unfold EZ OT;rw[lZ (by omega) (by omega)];by_cases hv:(0<=d∧d<=1048576)∧rightL a=true
 ·obtain⟨hd,hr⟩:=hv;have d1:decide (d>=0)=true:=by simp;omega
  have d2:decide (d<=1048576)=true:=by simp;omega
  obtain⟨g,v,hg,hF,hS⟩:=Z7 hd.1 hd.2 hr;rw[d1,d2,hr,Kh a (by omega) (by omega),hS];simp only[au,ah,Bool.not_true,aA];have vok:=(dV hr).1;by_cases hne:a=[]
  ·subst hne;have:v=[]:=z8 hF (agC fun x y=>by
    rw[Bool.eq_false_iff];intro h;have:=(hg x y).1 h x y (by omega) (by omega) (by omega) (by omega);simp[aV]at this)
   rw[this];rfl
  ·obtain⟨be,bok⟩:=ae0 hne hr;rw[be];simp only[Bool.not_true,aA,WA bok hd,ah];have ins:∀ x y,g x y=true->iC (Iz d (gy a)) x y=true:=fun x y h=>by
    have e1:=Vh ((hg x y).1 h (x - d) (y - d) (by omega) (by omega) (by omega) (by omega));have e2:=Vh ((hg x y).1 h (x+d) (y+d) (by omega) (by omega) (by omega) (by omega));rw[dL]at*;unfold Iz;simp only;omega
   cases hs:OkR (Iz d (gy a))with
   |false=>
    have:v=[]:=z8 hF (agC fun x y=>by
     rw[Bool.eq_false_iff];intro h;have:=ins x y h;have hb:=(jA _).1 bok;rw[dL]at this;have:OkR (Iz d (gy a))=true:=by
      rw[jA];unfold Iz at*;simp only at*;omega
     rw[hs]at this;cases this)
    rw[this];rfl
   |true=>
    have o1:∀ r∈[gy a],OkR r=true:=fun r h=>(by rw[aO]at h;rw[h];exact bok);have o2:∀ r∈[Iz d (gy a)],OkR r=true:=fun r h=>(by rw[aO]at h;rw[h];exact hs);simp only[au,Bool.not_true,aA];rw[show sub ([gy a]:List aj) 0 1=[gy a]from rfl,show sub ([Iz d (gy a)]:List aj) 0 1=[Iz d (gy a)]from rfl];rw[show eqL ([gy a]:List aj).length 1=true from rfl,show eqL ([Iz d (gy a)]:List aj).length 1=true from rfl];simp only[au];rw[qQ o1 vok (by simp) (by omega) (by simp only[bH,length_nil];omega)];simp only[ah];have hf:=Nu (keep:=fA 2) rfl o1 vok;have hin:Fv fun x y=>fA 2 (aV [gy a] x y) (aV a x y):=fun x y h=>by
     have:(aV [gy a] x y&&!aV a x y)=true:=h;rw[aK]at this;exact mV o1 this.1
    have hc:=Yv hf;have hok:=SC hin hf
    have hlen:=agB hin (X:=xsR [gy a]++xsR a) (Y:=ysR [gy a]++ysR a)
     (Yx (fA 2) (Iw (Aa _) fun x h=>mem_append_left _ h) (Iw (Aa _) fun x h=>mem_append_right _ h))
     (Yy (fA 2) (Iy (Ab _) fun x h=>mem_append_left _ h) (Iy (Ab _) fun x h=>mem_append_right _ h)) hf
    rw[aZ,aZ,Nv,Nv,Nw,Nw,List.length_singleton]at hlen;generalize bD (MZ (fA 2) [gy a] a)=H at*;have hH:H.length<=22*22:=Nat.le_trans hlen (Nat.mul_le_mul (by omega) (by omega));rw[Ny hd H hok (by omega) (by omega)];have hgl:(H.map (DX d)).length=H.length:=length_map _;have hsub:sub (H.map (DX d)) 0 H.length=H.map (DX d):=(by rw[<- hgl];exact bE _);simp only[ah,hsub,hgl,aC,au];have o3:∀ r∈H.map (DX d),OkR r=true:=fun r h=>by
     obtain⟨q,hq,rfl⟩:=mem_map.1 h;exact ajU (hok q hq) hd.1
    rw[qQ o2 o3 (by simp) (by omega) (by simp only[bH,length_nil];omega)];have hf2:=Nu (keep:=fA 2) rfl o2 o3;have hv:v=bD (MZ (fA 2) [Iz d (gy a)] (H.map (DX d))):=by
     refine z8 hF ?_;have:(fun x y=>fA 2 (aV [Iz d (gy a)] x y) (aV (H.map (DX d)) x y))=g:=by
      funext x y;show (aV [Iz d (gy a)] x y&&!aV (H.map (DX d)) x y)=g x y;rw[bJ,aK,Bool.not_eq_true',cells_one,hg];have hcell:∀ u v,aV H u v=(iC (gy a) u v&&!aV a u v):=fun u v=>(by rw[hc,cells_one];rfl);constructor
      ·rintro⟨h1,h2⟩ u w a1 a2 a3 a4;apply dP;intro hna;have hb:iC (gy a) u w=true:=by
        rw[dL]at h1 ⊢;unfold Iz at h1;simp only at h1;omega
       have hh:aV H u w=true:=(by rw[hcell,hb];simpa using hna);obtain⟨q,hq,hqq⟩:=(fw _ _ _).1 hh;have hxy:=mV o2 (by rw[cells_one];exact h1);have:aV (H.map (DX d)) x y=true:=(fw _ _ _).2 ⟨DX d q,mem_map.2 ⟨q,hq,rfl⟩,by
        rw[dL]at hqq ⊢;unfold DX;simp only;omega⟩
       rw[h2]at this;cases this
      ·intro h;refine⟨ins x y ((hg x y).2 h),?_⟩;rw[Bool.eq_false_iff];intro hcc;obtain⟨q',hq',hqq⟩:=(fw _ _ _).1 hcc;obtain⟨q,hq,rfl⟩:=mem_map.1 hq';have hqo:=(jA _).1 (hok q hq);have:∃ u w,(x - d<=u∧u<=x+d)∧(y - d<=w∧w<=y+d)∧iC q u w=true:=by
        rw[dL]at hqq;unfold DX at hqq;simp only at hqq;refine⟨max q.x0 (min x (q.x1 - 1)),max q.y0 (min y (q.y1 - 1)),by omega,by omega,?_⟩;rw[dL];omega
       obtain⟨u,w,b1,b2,b3⟩:=this;have hh:aV H u w=true:=(fw _ _ _).2 ⟨q,hq,b3⟩;rw[hcell,aK,Bool.not_eq_true',h u w b1.1 b1.2 b2.1 b2.2]at hh;cases hh.2
     rw[<- this];exact hf2
    rw[<- hv];simp only[ah,bE,aC,au];unfold ae1;by_cases h200:v.length>200
    ·have d3:decide (((v.length:Nat):Int)>200)=true:=(by simp;omega);rw[d3,aJ h200];rfl
    ·have d3:decide (((v.length:Nat):Int)>200)=false:=(by simp;omega);rw[d3,aD h200];rfl
 ·have e:nW a d=([],1):=by
   unfold nW;rw[aD (by simp only[aK,aM];intro h;exact hv ⟨⟨h.1,h.2.1⟩,h.2.2⟩)]
  rw[e];by_cases h1:0<=d
  ·by_cases h2:d<=1048576
   ·have h3:rightL a=false:=(by rw[Bool.eq_false_iff];intro h;exact hv ⟨⟨h1,h2⟩,h⟩);have d1:decide (d>=0)=true:=(by simp;omega);have d2:decide (d<=1048576)=true:=(by simp;omega);rw[d1,d2,h3];rfl
   ·have d1:decide (d>=0)=true:=(by simp;omega);have d2:decide (d<=1048576)=false:=(by simp;omega);rw[d1,d2];rfl
  ·have d1:decide (d>=0)=false:=(by simp;omega);rw[d1];rfl
theorem Z8 (p:bR):Jt p=some (JJ p):=by
 have e:JJ p=(decide (p.side>=0)&&(decide (p.side < 4)&&(decide (p.base>=0)&&(decide (p.base<=4096)&&(decide (p.num>=0)&&(decide (p.num<=4096)&&(decide (p.den>=1)&&decide (p.den<=4096)))))))):=by rw[bJ,Ia];simp only[aK,aM];omega
 unfold Jt;rw[e];cases decide (p.side>=0)<;>cases decide (p.side < 4)<;>cases decide (p.base>=0)<;>cases decide (p.base<=4096)<;>cases decide (p.num>=0)<;>cases decide (p.num<=4096)<;>cases decide (p.den>=1)<;>rfl
theorem Z9 {n:Nat} (b:aj) (l:List bR) (hl:l.length<=1000) (hn:2000<=n):Ju n b l=some (pK b l):=by
 unfold Ju pK;rw[zh (l:=l) (step:=yT l) (fun p=>!JJ p) () false (fun i hi=>by
  simp only[yT,bG hi,au,aY hi,ah,Z8,bL i];cases JJ l[i]<;>rfl) (by simp[yT]) n (by omega),DW]
 cases l.any fun p=>!JJ p<;>cases OkR b<;>rfl
theorem acN {a m:Int} (hm:0 < m∧m<=4096) (ha: -4294967296<=a∧a<=4294967296):MP a m=some (-((-a)/m)):=by
 have hm0:(m != 0)=true:=by rw[bne_iff_ne];omega
 have dv:=Pm (n:=m) (a:= -a) hm.1 (by omega);unfold MP;by_cases h:a>0
 ·have d:decide (a>0)=true:=by simpa using h
  rw[d,hm0];simp only[au];rw[bB (x:=a+m),bB (x:=a+m - 1),Int.tdiv_eq_ediv_of_nonneg (by omega)];have e:(a+m - 1)/m= -((-a)/m):=by
   have e1:(a+m - 1)/m=(a - 1)/m+1:=(by rw[show a+m - 1=a - 1+1*m by omega,Int.add_mul_ediv_right _ _ (by omega)]);have f1:=Int.emod_add_mul_ediv (a - 1) m;have f2:=Int.emod_nonneg (a - 1) (show m≠0 by omega);have f3:=Int.emod_lt_of_pos (a - 1) hm.1;generalize hq:(a - 1)/m=q at*;have:(-a)/m= -(q+1):=by
    rw[Int.ediv_eq_iff_of_pos hm.1];rw[Int.neg_mul,Int.add_mul,Int.one_mul,Int.mul_comm q m];omega
   rw[this,e1];omega
  rw[e,bB (by omega) (by omega)]
 ·have d:decide (a>0)=false:=by simpa using h
  rw[d,hm0];simp only[aA,au];rw[bB (x:=0 - a)];simp only[Int.zero_sub];rw[Int.tdiv_eq_ediv_of_nonneg (by omega),bB (x:=(-a)/m),bB (by omega) (by omega)]
def acO (b:aj) (z:Int) (p:bR) (s:St4):St4 ⊕ ((Int×Int×Int×Int) ⊕ List aj):=
 match um b z p s with
 | .inl t=> .inl t
 | .inr (.inl t)=> .inr (.inl t)
 | .inr (.inr _)=> .inr (.inr [])
theorem Vi (b:aj) (z:Int):∀ (l:List bR) (s:St4),sK (acO b z) (fun s=>(.inl s:(Int×Int×Int×Int) ⊕ List aj)) l s=(match sK (um b z) (fun s=>(.inl s:(Int×Int×Int×Int) ⊕ (aj×Bool))) l s with
 | .inl t=> .inl t
 | .inr _=> .inr [])
 |[],s=>rfl
 |p::l,s=>by
  have ih:=Vi b z l;unfold sK acO;cases um b z p s with
  |inl t=>exact ih t
  |inr o=>cases o<;>rfl
theorem aac {n:Nat} {b:aj} {l:List bR} {z:Int} (hb:OkR b=true) (hp:∀ p∈l,JJ p=true) (hz:0<=z∧z<=4096) (hl:l.length<=1000) (hn:2000<=n) (s:St4):
 iter (wV b l z) n ((0:Int),s)=some (sK (acO b z) (fun s=> .inl s) l s):=by
 have hr:=hb;simp only[OkR,aK,aM]at hr;have:=X3 (l:=l) (step:=wV b l z) (fun i (s:St4)=>(((i:Nat):Int),s)) (acO b z) (fun s=> .inl s) (fun i hi s=>?_) (fun s=>?_) n (by omega) s
 ·exact this
 ·obtain⟨v2,v3,v4,v5⟩:=s;obtain⟨s1,s2,s3,s4⟩:=(Ia _).1 (hp _ (getElem_mem hi));have mb:=Pk (a:=(l[i]).den) (d:=z - (l[i]).base) (by omega) (by omega);have mb2:=Pk (a:=(l[i]).den) (d:=(l[i]).base - z) (by omega) (by omega);rw[Int.mul_comm]at mb mb2;simp only[wV,bG hi,au,aY hi,ah];rw[bB (x:=z - (l[i]).base),bB (x:=(z - (l[i]).base)*(l[i]).den)];unfold acO um;by_cases h0:(l[i]).num=0
  ·have e0:((l[i]).num==0)=true:=(by simpa using h0);rw[e0,aJ h0];by_cases hzb:z>(l[i]).base
   ·have d:decide (z>(l[i]).base)=true:=(by simpa using hzb);rw[aJ hzb];simp only[au,d];rfl
   ·have d:decide (z>(l[i]).base)=false:=(by simpa using hzb);rw[aD hzb];simp only[au,aA,d,fD,bL i]
  ·have e0:((l[i]).num==0)=false:=(by simpa using h0);have dv:=Pm (n:=(l[i]).num) (by omega) mb2;rw[e0,aD h0];simp only[aA];rw[acN (by omega) mb,show -((z - (l[i]).base)*(l[i]).den)=((l[i]).base - z)*(l[i]).den by rw[<- Int.neg_mul];congr 1;omega];simp only[ah];generalize ((l[i]).base - z)*(l[i]).den/(l[i]).num=q at*;rw[bB (x:=b.x0+ -q),bB (x:=b.x1 - -q),bB (x:=b.y0+ -q),bB (x:=b.y1 - -q)];have hs:(l[i]).side=0∨(l[i]).side=1∨(l[i]).side=2∨(l[i]).side=3:=(by omega);rcases hs with e |e |e |e<;>rw[e]<;>simp[bL i]
 ·obtain⟨v2,v3,v4,v5⟩:=s;simp only[wV,fP,aA]
theorem WB {n:Nat} (b:aj) (l:List bR) {z:Int} (hz:1<=z∧z<=4096) (hl:l.length<=1000) (hn:2000<=n):
 ∃ r,Dt n b l z=some r∧r.1.length<=1∧(∀ q∈r.1,OkR q=true)∧∀ x y,aV r.1 x y=true↔pK b l=true∧InG x y∧∀ p∈l,z<=ZR b p x y:=by
 unfold Dt;rw[Z9 b l hl hn];simp only[ah];cases hv:pK b l with
 |false=>exact⟨_,rfl,by simp,by simp,fun x y=>by simp[aV]⟩
 |true=>
  obtain⟨v1,v2⟩:=(QY b l).1 hv;have dz:decide (z < 0)=false:=by simp;omega
  have dz2:decide (z>4096)=false:=by simp;omega
  have ez:(z==0)=false:=by simp;omega
  simp only[Bool.not_true,aA,dz,dz2,ah,ez];unfold UB;rw[show ((0:Int),(0:Int),(0:Int),(1048576:Int),(1048576:Int))=((0:Int),((0,0,1048576,1048576):St4))from rfl,aac v1 v2 (by omega) hl hn,Vi];rcases KW (b:=b) (z:=z) l v2 (0,0,1048576,1048576)with ⟨⟨t1,t2,t3,t4⟩,h1,h2,h3⟩ |⟨h1,p,hp,h2⟩
  ·rw[h1];simp only[fD];simp only at h2;have h3':∀ x y,iC ⟨t1,t2,t3,t4⟩ x y=true↔InG x y∧∀ p∈l,z<=ZR b p x y:=fun x y=>by
    have:=h3 x y;rw[show Ib (t1,t2,t3,t4)=⟨t1,t2,t3,t4⟩from rfl]at this;rw[this,ak8];constructor
    ·rintro⟨a,b⟩;exact⟨a,fun p hp=>(DL (v2 p hp) x y).1 (b p hp)⟩
    ·rintro⟨a,b⟩;exact⟨a,fun p hp=>(DL (v2 p hp) x y).2 (b p hp)⟩
   by_cases hxy:t1 < t3∧t2 < t4
   ·have d1:decide (t1>=t3)=false:=(by simp;omega);have d2:decide (t2>=t4)=false:=(by simp;omega);simp only[d1,d2,aA,ah];refine⟨([aj.mk t1 t2 t3 t4],0),rfl,by simp,fun q hq=>?_,fun x y=>?_⟩
    ·rw[aO.1 hq];simp only[OkR,aK,aM];omega
    ·rw[show aV [aj.mk t1 t2 t3 t4] x y=iC ⟨t1,t2,t3,t4⟩ x y by simp[aV,iC],h3'];simp
   ·have e:((bif decide (t1>=t3)then some true else some (decide (t2>=t4))):Option Bool)=some true:=by
     by_cases h:t1>=t3
     ·have d1:decide (t1>=t3)=true:=(by simpa using h);rw[d1];rfl
     ·have d1:decide (t1>=t3)=false:=(by simpa using h);have d2:decide (t2>=t4)=true:=(by simp;omega);rw[d1,d2];rfl
    rw[e];refine⟨([],0),rfl,by simp,by simp,fun x y=>?_⟩;have h0:¬ iC ⟨t1,t2,t3,t4⟩ x y=true:=(by rw[dL];simp only;omega);rw[h3']at h0;simp only[aV,List.any_nil,Bool.false_eq_true,false_iff,true_and];exact h0
  ·rw[h1];refine⟨([],0),rfl,by simp,by simp,fun x y=>?_⟩;simp only[aV,List.any_nil,Bool.false_eq_true,false_iff,true_and];exact fun h=>h2 x y ((DL (v2 p hp) x y).2 (h.2 p hp))
def Vj (lot h:Int) (e:bV) (x y:Int):Bool:=!(e.lot==lot&&(decide (e.top < h)&&rightL e.area)) || !aV e.area x y
def qU (lot h:Int) (es:List bV) (f:Int->Int->Bool) (x y:Int):Bool:=f x y&&es.all fun e=>Vj lot h e x y
theorem afa {lot h:Int} {es:List bV} {f:Int->Int->Bool} (hf:Fv f):Fv (qU lot h es f):=fun x y hc=>hf x y (by unfold qU at hc;rw[aK]at hc;exact hc.1)
theorem Vk {lot h:Int} {f:Int->Int->Bool} {x y x' y':Int} (h1:f x y=f x' y'):∀ es:List bV,(∀ e∈es,aV e.area x y=aV e.area x' y')->qU lot h es f x y=qU lot h es f x' y':=fun es he=>by
 unfold qU;rw[h1];congr 1;rw[bJ,all_eq_true,all_eq_true];constructor
 ·intro k e hm;have:=k e hm;unfold Vj at *;rw[<- he e hm];exact this
 ·intro k e hm;have:=k e hm;unfold Vj at *;rw[he e hm];exact this
theorem afb {lot h:Int} {es:List bV} {f:Int->Int->Bool} {X:List Int} (hf:Fw X f) (he:∀ e∈es,Fw X (aV e.area)):Fw X (qU lot h es f):=fun x y hne=>by
 apply dP;intro hx;exact hne (Vk (dP fun h=>hx (hf _ _ h)) es fun e hm=>dP fun h=>hx (he e hm _ _ h))
theorem afc {lot h:Int} {es:List bV} {f:Int->Int->Bool} {X:List Int} (hf:Gf X f) (he:∀ e∈es,Gf X (aV e.area)):Gf X (qU lot h es f):=fun x y hne=>by
 apply dP;intro hx;exact hne (Vk (dP fun h=>hx (hf _ _ h)) es fun e hm=>dP fun h=>hx (he e hm _ _ h))
theorem PE {n:Nat} (t:dY) (lot:Int) {j:Nat} (hj:j < 12) {f:Int->Int->Bool} {v:List aj} (hv:IsF f v) (hf:Fv f) {X Y:List Int} (hX:Fw X f) (hY:Gf Y f) (eX:∀ e∈t.easements,Fw X (aV e.area)) (eY:∀ e∈t.easements,Gf Y (aV e.area)) (hs:X.length*Y.length<=90000) (el:t.easements.length<=5) (ea:∀ e∈t.easements,e.area.length<=10) (hn:1000000<=n):
 ∃ w,iter (yU n t lot (j:Int)) n ((0:Int),v)=some w∧IsF (qU lot (3*((j:Int)+1)) t.easements f) w:=by
 refine H7 (fun i (s:Int×List aj)=>s.1=(i:Int)∧IsF (qU lot (3*((j:Int)+1)) (t.easements.take i) f) s.2) t.easements.length (fun o=>IsF (qU lot (3*((j:Int)+1)) t.easements f) o) (fun i s hi hR=>?_) (fun s hR=>?_) n (by omega) (0,v) ⟨rfl,?_⟩
 ·obtain⟨a,w⟩:=s;obtain⟨r1,r2⟩:=hR;simp only at r1 r2;subst r1;have wj:i64.wrap ((j:Int)+1)=((j:Int)+1):=bB (by omega) (by omega);have w3:i64.wrap (3*((j:Int)+1))=3*((j:Int)+1):=bB (by omega) (by omega);have hin:Fv (qU lot (3*((j:Int)+1)) (t.easements.take i) f):=afa hf;have hlen:=agB hin (afb hX fun e he=>eX e (List.mem_of_mem_take he)) (afc hY fun e he=>eY e (List.mem_of_mem_take he)) r2;have hal:=ea _ (getElem_mem hi);have step:∀ x y,qU lot (3*((j:Int)+1)) (t.easements.take (i+1)) f x y=(qU lot (3*((j:Int)+1)) (t.easements.take i) f x y&&Vj lot (3*((j:Int)+1)) t.easements[i] x y):=fun x y=>by
   unfold qU;rw[dW hi,List.all_append];simp[Bool.and_assoc]
  simp only[yU,bG hi,au,aY hi,ah,wj,w3,lZ (n:=n) (l:=(t.easements[i]).area) (by omega) (by omega),bE,aC];have ec:((bif (t.easements[i]).lot==lot then bif decide ((t.easements[i]).top < 3*((j:Int)+1))then some (rightL (t.easements[i]).area)else some false else some false):Option Bool)=some ((t.easements[i]).lot==lot&&(decide ((t.easements[i]).top < 3*((j:Int)+1))&&rightL (t.easements[i]).area)):=by cases (t.easements[i]).lot==lot<;>cases decide ((t.easements[i]).top < 3*((j:Int)+1))<;>rfl
  rw[ec];simp only[ah];cases hc:((t.easements[i]).lot==lot&&(decide ((t.easements[i]).top < 3*((j:Int)+1))&&rightL (t.easements[i]).area))with
  |false=>
   simp only[aA,ah,aC,au,bL i];refine⟨_,rfl,rfl,?_⟩;have:qU lot (3*((j:Int)+1)) (t.easements.take (i+1)) f=qU lot (3*((j:Int)+1)) (t.easements.take i) f:=by
    funext x y;rw[step];unfold Vj;rw[hc];simp
   rw[this];exact r2
  |true=>
   have hrt:rightL (t.easements[i]).area=true:=akC hc;have aok:=(dV hrt).1;simp only[au];rw[qQ (SC hin r2) aok (by omega) (by omega) (by omega)];simp only[ah,aC,au,bL i];refine⟨_,rfl,rfl,?_⟩;have:qU lot (3*((j:Int)+1)) (t.easements.take (i+1)) f=fun x y=>fA 2 (aV w x y) (aV (t.easements[i]).area x y):=by
    funext x y;rw[step,Yv r2];unfold Vj;rw[hc];rfl
   rw[this];exact Nu rfl (SC hin r2) aok
 ·obtain⟨a,w⟩:=s;obtain⟨r1,r2⟩:=hR;simp only at r1 r2;subst r1;rw[List.take_length]at r2;simp only[yU,fP,aA,aC,au];exact⟨_,rfl,r2⟩
 ·have:qU lot (3*((j:Int)+1)) (t.easements.take 0) f=f:=by funext x y;unfold qU;simp
  rw[this];exact hv
theorem Vl {α:Type} (f:α->List Int) (k:Nat):∀ l:List α,(∀ e∈l,(f e).length<=k)->(l.flatMap f).length<=l.length*k
 |[],_=>by simp
 |e::l,h=>by
  have ih:=Vl f k l fun x hx=>h x (bP _ hx);have:=h e List.mem_cons_self;rw[List.flatMap_cons,aZ,bH,Nat.add_mul,Nat.one_mul];omega
theorem Nz {n:Nat} {t:dY} (h:DU t) (lot day:Int) (F:Int) {base:List aj} (hb:rightL base=true) (hbe:(baseE t lot day).1=base) {Xb Yb:List Int} (bX:Fw Xb (aV base)) (bY:Gf Yb (aV base)) (lX:Xb.length<=40) (lY:Yb.length<=40) {W:Nat->List aj} (hW:Fp t lot day W) {j:Nat} (hj:j < 12) (hjF:(j:Int) < F) (hn:1000000<=n):
 jy n t lot F base (planesE t lot day) (iL (areaE t lot)) (((j:Nat):Int),(List.range j).map W)=some (if (W j).length>200 then .inr (.inr ([],6))else .inl (((j+1:Nat):Int),(List.range (j+1)).map W)):=by
 have wj:i64.wrap ((j:Int)+1)=((j:Int)+1):=bB (by omega) (by omega);have w3:i64.wrap (3*((j:Int)+1))=3*((j:Int)+1):=bB (by omega) (by omega);have dF:decide ((j:Int) < F)=true:=by simpa using hjF
 have hpl:=Ii t lot day;have hrl:=h.rules;have bok:=(dV hb).1;have blen:=(dV hb).2.1;have hex:∃ v5,((bif (decide (((base.length:Nat):Int)>(0:Int)))then (Dt n (iL (areaE t lot)).1 (planesE t lot day) (3*((j:Int)+1))).bind fun r7=>some r7.1 else some ([]:List aj)):Option (List aj))=some v5∧v5.length<=1∧(∀ q∈v5,OkR q=true)∧∀ x y,aV base x y=true->(aV v5 x y=true↔pK (iL (areaE t lot)).1 (planesE t lot day)=true∧∀ p∈planesE t lot day,3*((j:Int)+1)<=ZR (iL (areaE t lot)).1 p x y):=by
  by_cases hne:base=[]
  ·subst hne;exact⟨[],rfl,by simp,by simp,fun x y hc=>by simp[aV]at hc⟩
  ·have d:decide (((base.length:Nat):Int)>0)=true:=by
    have:=List.length_pos_iff.2 hne;rw[aM];omega
   obtain⟨r,e1,e2,e3,e4⟩:=WB (n:=n) (iL (areaE t lot)).1 (planesE t lot day) (z:=3*((j:Int)+1)) (by omega) (by omega) (by omega);refine⟨r.1,by rw[d,e1];rfl,e2,e3,fun x y hc=>?_⟩;rw[e4];have:=mV bok hc;exact⟨fun k=>⟨k.1,k.2.2⟩,fun k=>⟨k.1,this,k.2⟩⟩
 obtain⟨v5,e1,e2,e3,e4⟩:=hex;have hform:qK n base v5 1=some (bD (MZ (fA 1) base v5)):=qQ bok e3 (by omega) (by omega) (by omega);have f1:=Nu (keep:=fA 1) rfl bok e3;have in1:Fv fun x y=>fA 1 (aV base x y) (aV v5 x y):=fun x y hc=>by
  have:(aV base x y&&aV v5 x y)=true:=hc;rw[aK]at this;exact mV bok this.1
 have lE:=h.easements;have aE:=h.areas;have lx:=Vl (fun e:bV=>xsR e.area) 20 t.easements fun e he=>by have:=aE e he;rw[Nv];omega
 have ly:=Vl (fun e:bV=>ysR e.area) 20 t.easements fun e he=>by have:=aE e he;rw[Nw];omega
 have l5x:=Nv v5;have l5y:=Nw v5;have hs:(Xb++xsR v5++t.easements.flatMap fun e=>xsR e.area).length*(Yb++ysR v5++t.easements.flatMap fun e=>ysR e.area).length<=90000:=by
  have a1:(Xb++xsR v5++t.easements.flatMap fun e=>xsR e.area).length<=142:=by rw[aZ,aZ];omega
  have a2:(Yb++ysR v5++t.easements.flatMap fun e=>ysR e.area).length<=142:=by rw[aZ,aZ];omega
  exact Nat.le_trans (Nat.mul_le_mul a1 a2) (by decide)
 obtain⟨w,g1,g2⟩:=PE (n:=n) t lot hj f1 in1 (X:=Xb++xsR v5++t.easements.flatMap fun e=>xsR e.area) (Y:=Yb++ysR v5++t.easements.flatMap fun e=>ysR e.area)
  (Yx (fA 1) (Iw bX fun x hx=>mem_append_left _ (mem_append_left _ hx)) (Iw (Aa v5) fun x hx=>mem_append_left _ (mem_append_right _ hx)))
  (Yy (fA 1) (Iy bY fun x hx=>mem_append_left _ (mem_append_left _ hx)) (Iy (Ab v5) fun x hx=>mem_append_left _ (mem_append_right _ hx)))
  (fun e he=>Iw (Aa e.area) fun x hx=>mem_append_right _ (mem_flatMap.2 ⟨e,he,hx⟩))
  (fun e he=>Iy (Ab e.area) fun x hx=>mem_append_right _ (mem_flatMap.2 ⟨e,he,hx⟩))
  hs lE aE hn
 obtain⟨L,l1,l2,l3⟩:=hW j hj;have hw:w=W j:=by
  refine z8 g2 ?_;rw[l3];have:=Vg l1.2;have e:aV L=qU lot (3*((j:Int)+1)) t.easements fun x y=>fA 1 (aV base x y) (aV v5 x y):=by
   funext x y;rw[l2];unfold Yq acu qU lawsE;rw[hbe];show _=((aV base x y&&aV v5 x y)&&_);cases hc:aV base x y with
   |false=>rfl
   |true=>
    have e5:aV v5 x y=decide (pK (iL (areaE t lot)).1 (planesE t lot day)=true∧∀ p∈planesE t lot day,3*((j:Int)+1)<=ZR (iL (areaE t lot)).1 p x y):=(by rw[bJ,aM];exact e4 x y hc);rw[<- e5,Bool.true_and,Bool.true_and,List.all_filter];congr 1;congr 1;funext e;unfold Vj;have d:decide (e.top < 3*((j:Int)+1))=!decide (3*((j:Int)+1)<=e.top):=(by rw[bJ];simp);rw[d];cases e.lot==lot<;>cases rightL e.area<;>cases decide (3*((j:Int)+1)<=e.top)<;>cases aV e.area x y<;>rfl
  rw[<- e];exact this
 subst hw;have ap:bM ((List.range j).map W).length ((List.range j).map W).length (sub ([W j]:List (List aj)) 0 1).length 1 24=true:=bI (n:=1) (by simp;omega) (by simp only[maxLen,length_map,List.length_range];omega);have e1':((bif (decide (((base.length:Nat):Int)>(0:Int)))then bif eqL (sub (planesE t lot day) 0 (planesE t lot day).length).length (planesE t lot day).length then (Dt n (iL (areaE t lot)).1 (sub (planesE t lot day) 0 (planesE t lot day).length) (i64.wrap (3*(i64.wrap ((j:Int)+1))))).bind fun r7=>bif eqL r7.1.length r7.1.length then some r7.1 else none else none else bif eqL 0 ([]:List aj).length then some ([]:List aj)else none):Option (List aj))=some v5:=by
  simp only[bE,aC,au,wj,w3,length_nil];exact e1
 simp only[jy,dF,au];rw[e1'];simp only[ah,bE,aC,au,hform,g1];by_cases h2:(W j).length>200
 ·have d:decide ((((W j).length:Nat):Int)>200)=true:=by simp;omega
  rw[d,aJ h2];rfl
 ·have d:decide ((((W j).length:Nat):Int)>200)=false:=by simp;omega
  rw[d,aD h2];simp only[aA,ap,au,dH,bL j,List.range_succ,List.map_append,bf,List.map_nil];rfl
theorem Q6 {t:dY} {lot day:Int} {W:Nat->List aj} (hW:Fp t lot day W) {j:Nat} (hj:j < 12):IsF (fun x y=>Yq t lot day (3*((j:Int)+1)) x y) (W j):=by
 obtain⟨L,l1,l2,l3⟩:=hW j hj;have:=Vg l1.2;rw[show aV L=fun x y=>Yq t lot day (3*((j:Int)+1)) x y from by funext x y;exact l2 x y]at this;rw[l3];exact this
theorem WC {t:dY} {lot day:Int} {W:Nat->List aj} (hW:Fp t lot day W) {j:Nat} (hj:j < 12) (hl:(W j).length<=200):rightL (W j)=true:=by
 obtain⟨L,l1,l2,l3⟩:=hW j hj;rw[l3]at hl ⊢;exact (ae2 l1 hl).1
theorem aad {land:List l5} {k:Nat} (h:∀ l∈land,l.area.length<=k) (id:Int):(findLot land id).1.area.length<=k:=by
 unfold findLot;split
 ·rename_i t ht;exact h t (List.mem_of_find?_eq_some ht)
 ·simp[ack]
theorem PG {n:Nat} {t:dY} (h:DU t) (lot day:Int) (F:Nat) (hF:F<=12) {base:List aj} (hb:rightL base=true) (hbe:(baseE t lot day).1=base) {Xb Yb:List Int} (bX:Fw Xb (aV base)) (bY:Gf Yb (aV base)) (lX:Xb.length<=40) (lY:Yb.length<=40) {W:Nat->List aj} (hW:Fp t lot day W) (hn:1000000<=n):
 iter (jy n t lot (F:Int) base (planesE t lot day) (iL (areaE t lot))) n ((0:Int),([]:List (List aj)))=some (if ∃ j:Nat,j < F∧(W j).length>200 then .inr ([],6)else .inl ((List.range F).map W)):=by
 have st:∀ j,j < F->jy n t lot (F:Int) base (planesE t lot day) (iL (areaE t lot)) (((j:Nat):Int),(List.range j).map W)=some (if (W j).length>200 then .inr (.inr ([],6))else .inl (((j+1:Nat):Int),(List.range (j+1)).map W)):=fun j hj=>
  Nz h lot day (F:Int) hb hbe bX bY lX lY hW (by omega) (by omega) hn
 rcases vQ (fun j=>decide ((W j).length>200)) 0 F with ⟨i,h1,h2,h3,h4⟩ |h
 ·have hi:(W i).length>200:=by simpa using h3
  rw[aJ ⟨i,h2,hi⟩];have:=d9 (step:=jy n t lot (F:Int) base (planesE t lot day) (iL (areaE t lot))) (fun j=>(((j:Nat):Int),(List.range j).map W)) i (.inr ([],6)) (fun j hj=>?_) ?_ n (by omega)
  ·exact this
  ·have:=h4 j (by omega) hj;rw[st j (by omega),aD (by simpa using this)]
  ·rw[st i h2,aJ hi]
 ·rw[aD (by rintro⟨j,hj,hl⟩;have:=h j (by omega) hj;simp at this;omega)];have:=d9 (step:=jy n t lot (F:Int) base (planesE t lot day) (iL (areaE t lot))) (fun j=>(((j:Nat):Int),(List.range j).map W)) F (.inl ((List.range F).map W)) (fun j hj=>?_) ?_ n (by omega)
  ·exact this
  ·have:=h j (by omega) hj;rw[st j hj,aD (by simpa using this)]
  ·simp only[jy,fP,aA,aC,au]
theorem NA {n:Nat} {t:dY} (h:DU t) (ha:∀ l∈t.land,l.area.length<=10) (lot day floors:Int) (hn:1000000<=n):∃ r,envelope_Rooms n t lot day floors=some r∧Jv n t lot day floors=some r∧r.1.length<=12∧∀ a∈r.1,rightL a=true:=by
 have lw:=DT h.lots lot;have hland:=h.land;have al:(areaE t lot).length<=10:=aad ha lot;have fuel:50000<=n:=by omega
 have hfind:zO n t.land lot=some (findLot t.land lot):=Iu h.lots (by omega) (by omega);unfold Jv;rw[hfind];simp only[ah];rw[show (findLot t.land lot).1.area=areaE t lot from rfl,lZ (by omega) fuel];rcases qi h lot day floors hn with ⟨c1,c2⟩ |⟨c1,c2,c3⟩ |⟨c1,c2,c3,c4⟩ |⟨c1,c2,c3,W,hW,c4⟩
 ·rw[c2,c1];exact⟨_,rfl,rfl,by simp,by simp⟩
 ·rw[c3,c1];refine⟨_,rfl,?_,by simp,by simp⟩;have e:((bif decide (floors < 0)then some true else bif decide (floors>12)then some true else (some (rightL (areaE t lot))).bind fun r2=>some (!r2)):Option Bool)=some true:=by
   by_cases h1:floors < 0
   ·have d:decide (floors < 0)=true:=(by simpa using h1);rw[d];rfl
   ·have d:decide (floors < 0)=false:=(by simpa using h1);rw[d];by_cases h2:floors>12
    ·have d2:decide (floors>12)=true:=(by simpa using h2);rw[d2];rfl
    ·have d2:decide (floors>12)=false:=(by simpa using h2);have h3:rightL (areaE t lot)=false:=(by rw[Bool.eq_false_iff];intro hr;exact c2 ⟨by omega,hr⟩);rw[d2,h3];rfl
  rw[e];rfl
 ·obtain⟨⟨f0,f12⟩,hr⟩:=c2;have d0:decide (floors < 0)=false:=by simp;omega
  have d12:decide (floors>12)=false:=by simp;omega
  rw[c4,c1,d0,d12,hr,xR h lot day fuel];simp only[aA,ah,Bool.not_true];refine⟨_,rfl,?_,by simp,by simp⟩;by_cases hd:distE t lot day<=1048576
  ·have dd:decide (distE t lot day<=1048576)=true:=(by simpa using hd);have be:baseE t lot day=nW (areaE t lot) (distE t lot day):=(by unfold baseE;rw[aJ hd]);rw[dd];simp only[au,Ki (n:=n) (a:=areaE t lot) (d:=distE t lot day) al hn,ah,<- be];have e1:((baseE t lot day).2 != 0)=true:=(by simp[c3]);rw[e1];rfl
  ·have be:baseE t lot day=([],0):=(by unfold baseE;rw[aD hd]);rw[be]at c3;exact absurd rfl c3
 ·obtain⟨⟨f0,f12⟩,hr⟩:=c2;have d0:decide (floors < 0)=false:=by simp;omega
  have d12:decide (floors>12)=false:=by simp;omega
  rw[c4,c1,d0,d12,hr,xR h lot day fuel];simp only[aA,ah,Bool.not_true];obtain⟨F,rfl⟩:∃ F:Nat,floors=(F:Int):=⟨floors.toNat,by omega⟩;have hF:(F:Int).toNat=F:=by omega
  rw[hF];have good:(if ∃ j:Nat,j < F∧(W j).length>200 then (([],6):List (List aj)×Int)else ((List.range F).map W,0)).1.length<=12∧∀ a∈(if ∃ j:Nat,j < F∧(W j).length>200 then (([],6):List (List aj)×Int)else ((List.range F).map W,0)).1,rightL a=true:=by
   split
   ·exact⟨by simp,by simp⟩
   ·rename_i hno;refine⟨by simp;omega,fun a ha=>?_⟩;obtain⟨j,hj,rfl⟩:=mem_map.1 ha;have hj':=List.mem_range.1 hj;exact WC hW (by omega) (by
     apply dP;intro hc;exact hno ⟨j,hj',by omega⟩)
  refine⟨_,rfl,?_,good.1,good.2⟩;have hbr:=QZ c3;have fin:∀ base:List aj,(baseE t lot day).1=base->(∃ Xb Yb:List Int,Fw Xb (aV base)∧Gf Yb (aV base)∧Xb.length<=40∧Yb.length<=40)->((u7 n t lot day).bind fun r5=>(u6 n (areaE t lot)).bind fun r6=>bif eqL 0 ([]:List (List aj)).length then dX (iter (jy n t lot (F:Int) base r5 r6) n ((0:Int),([]:List (List aj)))) fun w2=>bif eqL (sub w2 0 w2.length).length w2.length then some ((sub w2 0 w2.length),(0:Int))else none else none:Option (List (List aj)×Int))=some (if ∃ j:Nat,j < F∧(W j).length>200 then ([],6)else ((List.range F).map W,0)):=by
   rintro base hbe ⟨Xb,Yb,x1,x2,x3,x4⟩;rw[Kg h lot day fuel,Kh (areaE t lot) (by omega) fuel];simp only[length_nil,aC,au,ah];rw[PG h lot day F (by omega) (by rw[<- hbe];exact hbr) hbe x1 x2 x3 x4 hW hn];split
   ·rfl
   ·simp only[fD,bE,aC,au]
  by_cases hd:distE t lot day<=1048576
  ·have dd:decide (distE t lot day<=1048576)=true:=(by simpa using hd);have be:baseE t lot day=nW (areaE t lot) (distE t lot day):=(by unfold baseE;rw[aJ hd]);rw[dd];simp only[au,Ki (n:=n) (a:=areaE t lot) (d:=distE t lot day) al hn,ah,<- be];have e1:((baseE t lot day).2 != 0)=false:=(by simp[c3]);rw[e1];simp only[aA,aC,au,fD];refine fin _ rfl ?_;obtain⟨_,p2,_,p4⟩:=QU (a:=areaE t lot) (d:=distE t lot day) (r:=(baseE t lot day).1) (by rw[<- be,<- c3]);have xa:=Nv (areaE t lot);have ya:=Nw (areaE t lot);exact⟨_,_,Yz p2 (Aa (areaE t lot)) p4,aht p2 (Ab (areaE t lot)) p4,by simp;omega,by simp;omega⟩
  ·have dd:decide (distE t lot day<=1048576)=false:=(by simpa using hd);have be:baseE t lot day=([],0):=(by unfold baseE;rw[aD hd]);rw[dd];simp only[aA,length_nil,aC,au,fD];exact fin [] (by rw[be]) ⟨[],[],fun x y hne=>absurd rfl hne,fun x y hne=>absurd rfl hne,by simp,by simp⟩
theorem ahv {out:List dw} {x:dw} (h:x.area≠[]):∃ o q,zW out x=o++[q]∧q.z1=x.z1∧q.area=x.area:=by
 unfold zW;rw[aD h];split
 ·split
  ·rename_i q _ hq;exact⟨_,_,rfl,rfl,hq.2⟩
  ·exact⟨_,_,rfl,rfl,rfl⟩
 ·exact⟨[],x,rfl,rfl,rfl⟩
theorem Rw {n:Nat} {l:List (List aj)} (hl:l.length<=12) (hr:∀ a∈l,rightL a=true) (hn:50000<=n):iter (mU n l) n ((0:Int),([]:List dw))=some (solidE l):=by
 have lens:∀ a∈l,a.length<=200:=fun a ha=>(dV (hr a ha)).2.1;have main:=d9 (step:=mU n l) (fun i=>(((i:Nat):Int),solidE (l.take i))) l.length (solidE l) (fun i hi=>?_) ?_ n (by omega)
 ·rw[show ((0:Nat):Int)=0 from rfl]at main;simp only[List.take_zero]at main;rw[show solidE []=[]from rfl]at main;exact main
 ·have I:=aiO (l.take i).length (l.take i) rfl (by rw[length_take];omega) fun a ha=>hr a (List.mem_of_mem_take ha);have ti:(l.take i).length=i:=by rw[length_take];omega
  have sn:solidE (l.take (i+1))=zW (solidE (l.take i)) (iF i l[i]):=by rw[dW hi,BN,ti]
  have Il:=I.len;rw[ti]at Il;have la:=lens _ (getElem_mem hi);have same:l[i]≠[]->∀ o q,solidE (l.take i)=o++[q]->(0 < i∧∀ h0:i - 1 < l.length,((q.z1=3*(i:Int)∧q.area=l[i])↔l[i - 1]=l[i])):=by
   intro hne o q hq;have i0:0 < i:=by
    apply dP;intro hc;obtain rfl:i=0:=(by omega);simp[solidE,uw]at hq
   refine⟨i0,fun h0=>?_⟩;have I2:=aiO (l.take (i - 1)).length (l.take (i - 1)) rfl (by rw[length_take];omega) fun a ha=>hr a (List.mem_of_mem_take ha);have ti2:(l.take (i - 1)).length=i - 1:=(by rw[length_take];omega);have sn2:solidE (l.take i)=zW (solidE (l.take (i - 1))) (iF (i - 1) l[i - 1]):=by
    have:l.take i=l.take (i - 1)++[l[i - 1]]:=by
     have:=dW h0;rw[show i - 1+1=i by omega]at this;exact this
    rw[this,BN,ti2]
   by_cases hp:l[i - 1]=[]
   ·have:solidE (l.take i)=solidE (l.take (i - 1)):=(by rw[sn2];unfold zW;rw[aJ (show (iF (i - 1) l[i - 1]).area=[]from hp)]);rw[this]at hq;have ht:=I2.top q (by rw[hq];simp);rw[ti2]at ht;constructor
    ·rintro⟨e,_⟩;omega
    ·intro e;rw[hp]at e;exact absurd e.symm hne
   ·obtain⟨o',q',e1,e2,e3⟩:=ahv (out:=solidE (l.take (i - 1))) (x:=iF (i - 1) l[i - 1]) hp;rw[sn2,e1]at hq;have hq':q'=q:=by
     have:=List.append_inj_right' hq rfl;simpa using this
    subst hq';have z1:q'.z1=3*(i:Int):=(by rw[e2];simp only[iF];omega);rw[e3];exact⟨fun k=>k.2,fun k=>⟨z1,k⟩⟩
  rw[sn];generalize solidE (l.take i)=out at*;have w3:i64.wrap (3*((i:Nat):Int))=3*(i:Int):=bB (by omega) (by omega);have w1:i64.wrap (((i:Nat):Int)+1)=(i:Int)+1:=bB (by omega) (by omega);have w31:i64.wrap (3*((i:Int)+1))=3*((i:Int)+1):=bB (by omega) (by omega);have z0:((((l[i]).length:Nat):Int)==0)=decide (l[i]=[]):=by rw[bJ,beq_iff_eq,aM,<- List.length_eq_zero_iff];omega
  have ap:bM out.length out.length (sub ([(dw.mk (3*(i:Int)) (3*((i:Int)+1)) l[i])]:List dw) 0 1).length 1 40=true:=bI (n:=1);have ac:bM ([]:List aj).length 0 (l[i]).length (l[i]).length 32=true:=by simp only[length_nil,OH,aK,aM];exact⟨by omega,by simp only[maxLen];omega⟩
  unfold zW;by_cases he:l[i]=[]
  ·have d1:decide (l[i]=[])=true:=(by simpa using he);rw[aJ (show (iF i l[i]).area=[]from he)];simp only[mU,bG hi,au,aY hi,ah,z0,d1,aC,w1];rfl
  ·have d1:decide (l[i]=[])=false:=(by simpa using he);rw[aD (show ¬ (iF i l[i]).area=[]from he)];rcases List.eq_nil_or_concat out with rfl |⟨o,q,e⟩
   ·have d5:decide (((([]:List dw).length:Nat):Int)>0)=false:=rfl;simp only[List.getLast?_nil];simp only[mU,bG hi,au,aY hi,ah,z0,d1,aA,d5,ac,dH,cu,bE,aC,w3,w1,w31];have ap0:bM ([]:List dw).length ([]:List dw).length (sub ([(dw.mk (3*(i:Int)) (3*((i:Int)+1)) l[i])]:List dw) 0 1).length 1 40=true:=ap;simp only[ap0,au,aC];rfl
   ·rw[List.concat_eq_append]at e;subst e;obtain⟨i0,sm⟩:=same he o q rfl;have hi1:i - 1 < l.length:=(by omega);have sm:=sm hi1;have lq:(o++[q]).length=o.length+1:=(by simp);have gl:(o++[q]).getLast? =some q:=(by simp);have dl:(o++[q]).dropLast=o:=(by simp);have d5:decide ((((o++[q]).length:Nat):Int)>0)=true:=(by rw[lq,aM];omega);have d6:decide (((i:Nat):Int)>0)=true:=(by rw[aM];omega);have wl:i64.wrap ((((o++[q]).length:Nat):Int) - 1)=((o.length:Nat):Int):=(by rw[gB (by simp) (by omega),lq];rfl);have wm:max (i64.wrap (((i:Nat):Int) - 1)) 0=((i - 1:Nat):Int):=(by rw[bB (by omega) (by omega)];omega);have ib:inb ((o.length:Nat):Int) (o++[q]).length=true:=bC (by omega);have g:at? (o++[q]) (((0:Nat):Int)+((o.length:Nat):Int))=some q:=(by rw[gW];simp);have zz:(((0:Nat):Int)+((o.length:Nat):Int)).toNat=o.length:=(by simp);have lp:=lens _ (getElem_mem hi1);have el:∀ z:dw,eqL (o++[q]).length (o++[z]).length=true:=fun z=>(by apply Zn;simp);have st:∀ z:dw,(o++[q]).set o.length z=o++[z]:=fun z=>(by simp);simp only[gl,dl];simp only[mU,bG hi,au,aY hi,aY hi1,ah,z0,d1,aA,d5,d6,wm,kU (n:=n) (a:=l[i - 1]) (b:=l[i]) (by omega) (by omega),wl,ib,g,zz,st,el,w3,w1,w31,ac,dH,cu,bE,aC,ap];by_cases hc:l[i - 1]=l[i]
    ·have b1:decide (l[i - 1]=l[i])=true:=(by simpa using hc);rw[aJ (show q.z1=(iF i l[i]).z0∧q.area=(iF i l[i]).area from sm.2 hc),b1];simp only[au,ah,aC];rfl
    ·have b1:decide (l[i - 1]=l[i])=false:=(by simpa using hc);rw[aD (show ¬ (q.z1=(iF i l[i]).z0∧q.area=(iF i l[i]).area)from fun k=>hc (sm.1 k)),b1];simp only[aA,ah,aC,au];rfl
 ·simp only[mU,fP,aA,aC,au,List.take_length]
def aae (l:List (List aj)):List dw×Int:=bif decide (l.length<=12)&&l.all rightL then (solidE l,0)else ([],1)
theorem Ac {n:Nat} {l:List (List aj)} (hl:l.length<=100) (ha:∀ a∈l,a.length<=900) (hn:50000<=n):fO n l=some (aae l):=by
 unfold aae;by_cases h12:l.length<=12
 ·have d12:decide (l.length<=12)=true:=by simpa using h12
  cases hr:l.all rightL with
  |true=>
   rw[d12];exact uy h12 (all_eq_true.1 hr) (by omega)
  |false=>
   unfold fO;have d:decide (((l.length:Nat):Int)>12)=false:=(by simp;omega);rw[d,d12,qR (fun a=>!rightL a) (fun a hm=>by
    have:=ha a hm;show jg n a=_;unfold jg;rw[oL (by omega) (by omega) (by omega)];rfl) (by omega) (by omega)]
   have na:(l.any fun a=>!rightL a)=true:=by
    refine Decidable.byContradiction fun hc=>?_;rw[Bool.not_eq_true,any_eq_false]at hc;have:l.all rightL=true:=all_eq_true.2 fun a hm=>(by have:=hc a hm;simpa using this);rw[hr]at this;cases this
   rw[na];rfl
 ·have d12:decide (l.length<=12)=false:=by simpa using h12
  have d:decide (((l.length:Nat):Int)>12)=true:=by simp;omega
  unfold fO;rw[d,d12];rfl
theorem Kj {n:Nat} {l:List (List aj)} (hl:l.length<=100) (ha:∀ a∈l,a.length<=900) (hn:50000<=n):Du n l=some (aae l):=by
 unfold aae Du;by_cases h12:l.length<=12
 ·have d12:decide (l.length<=12)=true:=by simpa using h12
  have d:decide (((l.length:Nat):Int)>12)=false:=by simp;omega
  rw[d,d12,zh (l:=l) (step:=yV n l) (fun a=>!rightL a) () (([]:List dw),(1:Int)) (fun i hi=>by
   have:=ha _ (getElem_mem hi);simp only[yV,bG hi,au,aY hi,ah,lZ (n:=n) (l:=l[i]) (by omega) hn,bL i];cases rightL l[i]<;>rfl) (by simp[yV]) n (by omega)]
  cases hr:l.all rightL with
  |true=>
   have na:(l.any fun a=>!rightL a)=false:=by
    rw[any_eq_false];intro a hm;rw[all_eq_true.1 hr a hm];simp
   rw[na];simp only[aA,fD,length_nil,aC,au,Bool.and_self];rw[Rw h12 (all_eq_true.1 hr) hn];simp only[ah,bE,aC,au]
  |false=>
   have na:(l.any fun a=>!rightL a)=true:=by
    refine Decidable.byContradiction fun hc=>?_;rw[Bool.not_eq_true,any_eq_false]at hc;have:l.all rightL=true:=all_eq_true.2 fun a hm=>(by have:=hc a hm;simpa using this);rw[hr]at this;cases this
   rw[na];rfl
 ·have d12:decide (l.length<=12)=false:=by simpa using h12
  have d:decide (((l.length:Nat):Int)>12)=true:=by simp;omega
  rw[d,d12];rfl
theorem Vm {l:List (List aj)}:(aae l).1.length<=12∧∀ s∈(aae l).1,s.area.length<=200:=by
 unfold aae;cases h:decide (l.length<=12)&&l.all rightL with
 |false=>exact⟨by simp,by simp⟩
 |true=>
  rw[aK,aM,all_eq_true]at h;have I:=aiO l.length l rfl h.1 h.2;exact⟨Nat.le_trans I.len h.1,fun s hs=>(dV (I.ok s hs).rt).2.1⟩
theorem K5 {n:Nat} {a:List (List aj)} (hl:a.length<=100) (ha:∀ x∈a,x.length<=900) (hn:2000<=n):wB n a a=some true:=by
 unfold wB;have e:(((a.length:Nat):Int) != ((a.length:Nat):Int))=false:=by simp
 rw[e];have:=d9 (step:=pG n a a) (fun i=>((i:Nat):Int)) a.length (.inl ()) (fun i hi=>?_) (by simp[pG]) n (by omega)
 ·rw[show ((0:Nat):Int)=0 from rfl]at this;rw[this];rfl
 ·have:=ha _ (getElem_mem hi);have d:decide (a[i]=a[i])=true:=by simp
  simp only[pG,bG hi,au,aY hi,ah,kU (n:=n) (a:=a[i]) (b:=a[i]) (by omega) (by omega),d,Bool.not_true,aA,bL i];rfl
theorem Kk {n:Nat} {a:List dw} (hl:a.length<=100) (ha:∀ x∈a,x.area.length<=900) (hn:2000<=n):Ho n a a=some true:=by
 unfold Ho;have e:(((a.length:Nat):Int) != ((a.length:Nat):Int))=false:=by simp
 rw[e];have:=d9 (step:=BA n a a) (fun i=>((i:Nat):Int)) a.length (.inl ()) (fun i hi=>?_) (by simp[BA]) n (by omega)
 ·rw[show ((0:Nat):Int)=0 from rfl]at this;rw[this];rfl
 ·have:=ha _ (getElem_mem hi);have d:decide ((a[i]).area=(a[i]).area)=true:=by simp
  have n0:∀ z:Int,(z != z)=false:=fun z=>by simp
  simp only[BA,bG hi,au,aY hi,ah,n0,aA,kU (n:=n) (a:=(a[i]).area) (b:=(a[i]).area) (by omega) (by omega),d,Bool.not_true,bL i];rfl
theorem YA:∀ a∈exR,rightL a=true:=by
 obtain⟨r,e1,_,_,e4⟩:=NA (n:=1000000) ex_ok (fun l hl=>by simp only[exTown,aI,aP,or_false]at hl;subst hl;decide) 1 0 3 (aU _);rw[acv]at e1;injection e1 with e1;rw[<- e1]at e4;exact e4
theorem afd {n:Nat} (hn:1000000<=n):envelope_Rooms n exTown 1 0 3=some (exR,0):=by
 have hx:=acv;rcases qi ex_ok 1 0 3 (aU 1000000)with ⟨c1,c2⟩ |⟨c1,c2,c3⟩ |⟨c1,c2,c3,c4⟩ |⟨c1,c2,c3,W,hW,c4⟩
 ·rw[c2]at hx;simp[exR]at hx
 ·rw[c3]at hx;simp[exR]at hx
 ·rw[c4]at hx;simp[exR]at hx
 ·rcases qi ex_ok 1 0 3 hn with ⟨d1,_⟩ |⟨_,d2,_⟩ |⟨_,_,d3,_⟩ |⟨_,_,_,V,hV,d4⟩
  ·rw[c1]at d1;cases d1
  ·exact absurd c2 d2
  ·exact absurd c3 d3
  ·have e:∀ j,j < 12->V j=W j:=fun j hj=>z8 (Q6 hV hj) (Q6 hW hj);rw[d4];rw[c4]at hx;have l3:(3:Int).toNat=3:=rfl;rw[l3]at hx ⊢;have e1:((List.range 3).map V)=(List.range 3).map W:=List.map_congr_left fun j hj=>e j (by have:=List.mem_range.1 hj;omega);rw[e1];by_cases hc:∃ j:Nat,j < 3∧(W j).length>200
   ·rw[aJ hc]at hx;simp at hx
   ·rw[aD hc]at hx;rw[aD (by rintro⟨j,hj,hl⟩;exact hc ⟨j,hj,by rw[<- e j (by omega)];exact hl⟩)];exact hx
theorem ahw {n:Nat} (hn:1000000<=n):Jk n=some true:=by
 have s0:lS n [⟨2,2,8,6⟩] [⟨2,2,8,6⟩]=some true:=by rw[kU (by decide) (by simp;omega)];rfl
 have s1:lS n [⟨3,2,4,6⟩,⟨4,3,6,6⟩,⟨6,2,8,6⟩] [⟨3,2,4,6⟩,⟨4,3,6,6⟩,⟨6,2,8,6⟩]=some true:=by rw[kU (by decide) (by simp;omega)];rfl
 have s2:lS n [⟨6,2,8,6⟩] [⟨6,2,8,6⟩]=some true:=by rw[kU (by decide) (by simp;omega)];rfl
 have sE:fO n exR=some ([⟨0,3,[⟨2,2,8,6⟩]⟩,⟨3,6,[⟨3,2,4,6⟩,⟨4,3,6,6⟩,⟨6,2,8,6⟩]⟩,⟨6,9,[⟨6,2,8,6⟩]⟩],0):=by
  have h1:=uy (n:=n) (l:=exR) (by decide) YA (by omega);have h2:=uy (n:=1000000) (l:=exR) (by decide) YA (by omega);rw[h1,<- h2];exact aiL
 unfold Jk;rw[alb];have g0:at? exR 0=some [⟨2,2,8,6⟩]:=rfl;have g1:at? exR 1=some [⟨3,2,4,6⟩,⟨4,3,6,6⟩,⟨6,2,8,6⟩]:=rfl;have g2:at? exR 2=some [⟨6,2,8,6⟩]:=rfl;have b0:sub ([⟨2,2,8,6⟩]:List aj) 0 1=[⟨2,2,8,6⟩]:=rfl;have b1:sub ([⟨3,2,4,6⟩,⟨4,3,6,6⟩,⟨6,2,8,6⟩]:List aj) 0 3=[⟨3,2,4,6⟩,⟨4,3,6,6⟩,⟨6,2,8,6⟩]:=rfl;have b2:sub ([⟨6,2,8,6⟩]:List aj) 0 1=[⟨6,2,8,6⟩]:=rfl;simp only[ah,afd hn,bE,aC,au,sE,kI ex_ok 1 0 (show 2000<=n by omega),mY ex_ok 1 0 (show 2000<=n by omega),agy,Yr,g0,g1,g2,b0,b1,b2,s0,s1,s2];rfl
theorem Rx {n:Nat} {l:List (List aj)} (hl:l.length<=1000000000000000000) (hn:l.length < n):yO n l 14=some (!(l.any fun a=>decide (a.length>10))&&decide (l.length<=14)):=by
 unfold yO;rw[zh (l:=l) (step:=rf l) (fun a=>decide (a.length>10)) () false (fun i hi=>by
  have d:decide ((((l[i]).length:Nat):Int)>10)=decide ((l[i]).length>10):=by rw[bJ,aM,aM];omega
  simp only[rf,bG hi,au,aY hi,ah,d,Option.map_some,lU,bL i]) (by simp[rf]) n hn]
 have d:decide (((l.length:Nat):Int)<=14)=decide (l.length<=14):=by rw[bJ,aM,aM];omega
 rw[d];cases l.any fun a=>decide (a.length>10)<;>rfl
theorem aiX {t:dY} (h:ae3 t=true):∀ l∈t.land,l.area.length<=10:=by
 unfold ae3 at h;simp only[aK,aM,Bool.not_eq_true',any_eq_false,Bool.or_eq_true,not_or]at h;intro l hl;have:=h.2.2.1 l hl;omega
theorem K6 {n:Nat} (t:dY) (lot day floors:Int) (l:List (List aj)) (hf:U4 t) (hl:l.length<=1000000000000000000) (hn:1000000+l.length < n):nU n t lot day floors l=some true:=by
 unfold nU;rw[ahw (by omega),ae4 t (by omega),Rx hl (by omega)];simp only[ah];cases hfew:ae3 t with
 |false=>rfl
 |true=>
  cases hfr:(!(l.any fun a=>decide (a.length>10))&&decide (l.length<=14))with
  |false=>rfl
  |true=>
   have E:=ajO hfew hf;obtain⟨r,r1,r2,r3,r4⟩:=NA (n:=n) E (aiX hfew) lot day floors (by omega);have r5:∀ a∈r.1,a.length<=900:=fun a ha=>(by have:=(dV (r4 a ha)).2.1;omega);rw[aK,Bool.not_eq_true',aM,any_eq_false]at hfr;have l2:∀ a∈l,a.length<=900:=fun a ha=>(by have:=hfr.1 a ha;simp at this;omega);have l3:l.length<=100:=(by omega);have n0:∀ z:Int,(z != z)=false:=fun z=>(by simp);have n1:∀ z:Int,(z==z)=true:=fun z=>(by simp);have pl:=Ii t lot day;have rl:=E.rules;have s1:=d9 (step:=kD (planesE t lot day) (planesE t lot day)) (fun i=>((i:Nat):Int)) (planesE t lot day).length (.inl ()) (fun i hi=>by simp only[kD,bG hi,au,bC hi,dh hi,ah,n1,Bool.and_self,Bool.not_true,aA,bL i]) (by simp[kD]) n (by omega);rw[show ((0:Nat):Int)=0 from rfl]at s1;obtain⟨A1,A2⟩:=Vm (l:=l);obtain⟨B1,B2⟩:=Vm (l:=r.1)
   simp only[Bool.not_true,aA,ah,r1,r2,bE,aC,au,n0,n1,K5 (n:=n) (a:=r.1) (by omega) r5 (by omega),kI E lot day (show 2000<=n by omega),xR E lot day (show 50000<=n by omega),mY E lot day (show 2000<=n by omega),Kg E lot day (show 50000<=n by omega),s1,fD,
    Ac (n:=n) l3 l2 (by omega),Kj (n:=n) l3 l2 (by omega),Ac (n:=n) (l:=r.1) (by omega) r5 (by omega),Kj (n:=n) (l:=r.1) (by omega) r5 (by omega),Kk (n:=n) (a:=(aae l).1) (by omega) (fun s hs=>by have:=A2 s hs;omega) (by omega),Kk (n:=n) (a:=(aae r.1).1) (by omega) (fun s hs=>by have:=B2 s hs;omega) (by omega)]
theorem NC (t:dY) (lot day floors:Int) (l:List (List aj)) (hf:U4 t) (hl:l.length<=1000000000000000000):∃ k,nU k t lot day floors l=some true:=⟨1000001+l.length,K6 t lot day floors l hf hl (by omega)⟩
theorem IA {X:SX} {n:Nat} {c:CT X.ι} {cs:List (CT X.ι)} {ss:List VS} (hs:Ao (vsF n) (c::cs)=some ss) (q:HL X.toSE (c::cs)) (h:J5 ss (HL.tvs X.toSE (c::cs) q)):∃ s ss',vsF n c=some s∧Ao (vsF n) cs=some ss'∧Tw s (CT.tv X.toSE c q.1)∧J5 ss' (HL.tvs X.toSE cs q.2):=by
 simp only[Ao]at hs;rw[ax]at hs;obtain⟨a,h1,hs⟩:=hs;rw[ax]at hs;obtain⟨b,h2,hs⟩:=hs;injection hs with hs;subst hs;exact⟨a,b,h1,h2,h.1,h.2⟩
theorem akD {X:SX} {n:Nat} {i:X.ι} {s:VS} {x:X.T i} (hs:vsF n (.st i)=some s) (h:Tw s (CT.tv X.toSE (.st i) x)):∃ l,csF (X:=X) n (.st i)=some l∧FitL l (X.row i x):=by
 simp only[vsF]at hs;obtain⟨l,h1,rfl⟩:=fB.1 hs;obtain⟨ys,e,hf⟩:=h;rw[CT.tv]at e;injection e with e;exact⟨l,h1,by rw[e];exact hf⟩
theorem aaf:∀ {cs:List CS} {ts:List Tree},FitL cs ts->∀ {i:Nat} {c:CS} {x:Tree},cs[i]? =some c->ts[i]? =some x->Fit c x
 |c::cs,x::ts,h,0,c',x',hc,hx=>by
  simp only[List.getElem?_cons_zero,aG]at hc hx;subst hc;subst hx;simp only[FitL]at h;exact h.1
 |c::cs,x::ts,h,i+1,c',x',hc,hx=>by
  simp only[List.getElem?_cons_succ]at hc hx;simp only[FitL]at h;exact aaf h.2 hc hx
 |[],_,h,_,_,_,hc,_=>by simp at hc
 |_::_,[],h,_,_,_,_,hx=>by simp at hx
theorem afe {row:List CS} {α:Type} {l:List α} {f:α->List Tree} (h:Fit (.sl row) (.sl (l.map f))):l.length<=maxLen∧l.length*ad4 row<=reachBytes∧∀ x∈l,FitL row (f x):=by
 simp only[Fit]at h;obtain⟨rows,e,⟨h1,h2⟩,h3⟩:=h;injection e with e;subst e;rw[length_map]at h1 h2;exact⟨h1,h2,fun x hx=>h3 _ (mem_map.2 ⟨x,hx,rfl⟩)⟩
def alB:List CS:=[.int .i64,.int .i64,.sl [.int .i64,.int .i64,.int .i64,.int .i64],.sl [.int .i64]]
theorem ajV {t:dY} {n:Nat} {s:VS} (hs:vsF (X:=xx) (n+8) (.st SI.Town)=some s) (h:Tw s (CT.tv xx.toSE (.st SI.Town) t)):U4 t:=by
 obtain⟨l,h1,h2⟩:=akD hs h;have h8:((csF (X:=xx) (n+8) (.st SI.Town)).bind fun l=>l[8]?)=some (.sl alB):=by kernel_rfl
 rw[h1]at h8;have hf:=aaf h2 (i:=8) h8 (x:= .sl (t.land.map aeH)) rfl;obtain⟨_,_,h3⟩:=afe hf;intro lt hlt;have h4:=aaf (h3 lt hlt) (i:=3) (c:= .sl [.int .i64]) rfl (x:= .sl (lt.from_.map fun x=>[.sc (.int .i64 x)])) rfl;obtain⟨_,h5,_⟩:=afe h4;have:lt.from_.length*8<=reachBytes:=h5;have:reachBytes=140737488351232:=rfl;omega
theorem aiY {X:SX} {n:Nat} {e:CT X.ι} {s:VS} {l:List (CT.T X.toSE e)} (hm:aku X.dec e=none) (hs:vsF (n+1) (.sl e)=some s) (h:Tw s (CT.tv X.toSE (.sl e) l)):∃ r,csF n e=some r∧l.length*ad4 r<=reachBytes:=by
 simp only[vsF,csF,hm]at hs;cases hc:csF n e with
 |none=>rw[hc]at hs;simp at hs
 |some r=>
  rw[hc]at hs;simp only[ah,aG]at hs;subst hs;obtain⟨y,e1,e2⟩:=h;rw[CT.tv]at e1;injection e1 with e1;subst e1;exact⟨r,rfl,(afe e2).2.1⟩
theorem ahx {l:List (List aj)} {n:Nat} {s:VS} (hs:vsF (X:=xx) (n+4) (.sl (.sl (.st SI.Rect)))=some s) (h:Tw s (CT.tv xx.toSE (.sl (.sl (.st SI.Rect))) l)):l.length<=1000000000000000000:=by
 obtain⟨r,h1,h2⟩:=aiY (X:=xx) (e:= .sl (.st SI.Rect)) (l:=l) (by kernel_rfl) hs h;have h3:(csF (X:=xx) (n+3) (.sl (.st SI.Rect))).map ad4=some 24:=by kernel_rfl
 rw[h1,Option.map_some]at h3;injection h3 with h3;rw[h3]at h2;have h4:List.length (α:=List aj) l*24<=reachBytes:=h2;have:reachBytes=140737488351232:=rfl;omega
theorem YB {n:Nat} {ss:List VS} {q:HL xx.toSE [.st SI.Town,.int .i64,.int .i64,.int .i64,.sl (.sl (.st SI.Rect))]} (hs:Ao (vsF (X:=xx) (n+8)) [.st SI.Town,.int .i64,.int .i64,.int .i64,.sl (.sl (.st SI.Rect))]=some ss) (hq:J5 ss (HL.tvs xx.toSE _ q)):U4 q.1∧List.length (α:=List aj) q.2.2.2.2.1<=1000000000000000000:=by
 obtain⟨_,_,h1,a1,h2,b1⟩:=IA hs q hq;obtain⟨_,_,_,a2,_,b2⟩:=IA a1 q.2 b1;obtain⟨_,_,_,a3,_,b3⟩:=IA a2 q.2.2 b2;obtain⟨_,_,_,a4,_,b4⟩:=IA a3 q.2.2.2 b3;obtain⟨_,_,h5,_,h6,_⟩:=IA a4 q.2.2.2.2 b4;exact⟨ajV (n:=n) h1 h2,ahx (n:=n+4) h5 h6⟩
end Go.Proofs
