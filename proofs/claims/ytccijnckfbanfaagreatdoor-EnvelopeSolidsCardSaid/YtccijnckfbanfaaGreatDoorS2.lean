/-
  Height planes: the greatest height over a cell, and the cells over which a height is allowed.
-/
import Derived.Test.YtccijnckfbanfaaGreatDoorS1
open Go.IntKind (i64)
open Option (bind_some)
open List (map_cons mem_cons append_assoc mem_append length_take mem_map all_eq_true mem_singleton length_append getElem_mem length_cons length_map length_nil take_succ_eq_append_getElem mem_cons_of_mem foldl_cons mem_filter any_eq_true mem_cons_self map_nil all_cons length_filter_le mem_flatMap map_append any_eq_false)
open Bool (and_eq_true)
namespace Go.Proofs
open Go.Gb Go.RowKit
def wK (p:aW):Bool:=decide (0<=p.side∧p.side<=3)&&(decide (0<=p.base∧p.base<=4096)&&(decide (0<=p.num∧p.num<=4096)&&decide (1<=p.den∧p.den<=4096)))
theorem KY (p:aW):wK p=true↔(0<=p.side∧p.side<=3)∧(0<=p.base∧p.base<=4096)∧(0<=p.num∧p.num<=4096)∧(1<=p.den∧p.den<=4096):=by simp only[wK,and_eq_true,decide_eq_true_eq]
theorem DX (a b c:Int):jh a b c=some (decide (b<=a∧a<=c)):=by
 unfold jh;by_cases h1:b<=a
 ·have d:decide (b<=a)=true:=by simpa using h1
  rw[d,cond_true];congr 1;rw[Bool.eq_iff_iff];simp[h1]
 ·have d:decide (b<=a)=false:=by simpa using h1
  rw[d,cond_false];congr 1;rw[Bool.eq_iff_iff];simp[h1]
theorem FH (p:aW):uo p=some (wK p):=by
 unfold uo wK;simp only[DX,bind_some,l8];generalize decide (0<=p.side∧p.side<=3)=a;generalize decide (0<=p.base∧p.base<=4096)=b;generalize decide (0<=p.num∧p.num<=4096)=c;cases a<;>cases b<;>cases c<;>rfl
theorem Ad {n:Nat} {l:List aW} {φ:(aW×Unit)->Option Bool} (p:aW->Bool) (h:∀ x∈l,φ (x,())=some (p x)) (hl:l.length < 1099511627776) (hn:l.length < n):iI n l φ=some (l.any p):=by
 unfold iI;have e:oZ n l φ=tY n l φ:=by kernel_rfl
 rw[e,oF p h hl hn,bind_some,Kc]
def wL (b:aj) (l:List aW):Bool:=OkR b&&!(l.any fun p=>!wK p)
theorem FI {n:Nat} (b:aj) (l:List aW) (hl:l.length<=1000) (hn:2000<=n):uq n b l=some (wL b l):=by
 unfold uq wL;rw[o9,Ad (fun p=>!wK p) (fun p _=>by show qI p=_;unfold qI;rw[FH];rfl) (by omega) (by omega)];simp only[bind_some,l8];cases OkR b<;>rfl
theorem ab1 {a n:Int} (hn:0 < n):(if Int.tmod a n < 0 then Int.tdiv a n - 1 else Int.tdiv a n)=a/n:=by
 have h1:=Int.mul_ediv_add_emod a n;have h2:=Int.emod_nonneg a (by omega:n≠0);have h3:=Int.emod_lt_of_pos a hn;rcases Int.le_total 0 a with h |h
 ·have e1:Int.tmod a n=a%n:=Int.tmod_eq_emod_of_nonneg h;have e2:Int.tdiv a n=a/n:=Int.tdiv_eq_ediv_of_nonneg h;rw[e1,e2,if_neg (by omega)]
 ·obtain⟨b,rfl⟩:∃ b,a= -b:=⟨-a,by omega⟩;have hb:0<=b:=by omega
  have e1:Int.tmod (-b) n= -(b%n):=by rw[Int.neg_tmod,Int.tmod_eq_emod_of_nonneg hb]
  have e2:Int.tdiv (-b) n= -(b/n):=by rw[Int.neg_tdiv,Int.tdiv_eq_ediv_of_nonneg hb]
  have g1:=Int.mul_ediv_add_emod b n;have g2:=Int.emod_nonneg b (by omega:n≠0);have g3:=Int.emod_lt_of_pos b hn;rw[e1,e2];by_cases hm:b%n=0
  ·rw[if_neg (by omega)];have:(-b)/n= -(b/n):=by
    refine (Int.ediv_eq_iff_of_pos hn).2 ?_;constructor
    ·rw[Int.neg_mul,Int.mul_comm (b/n)];omega
    ·rw[Int.neg_mul,Int.mul_comm (b/n)];omega
   omega
  ·rw[if_pos (by omega)];have:(-b)/n= -(b/n) - 1:=by
    refine (Int.ediv_eq_iff_of_pos hn).2 ?_;constructor
    ·rw[Int.sub_mul,Int.neg_mul,Int.mul_comm (b/n)];omega
    ·rw[Int.sub_mul,Int.neg_mul,Int.mul_comm (b/n)];omega
   omega
theorem zA {a n:Int} (hn:0 < n) (ha: -4611686018427387904<=a∧a<=4611686018427387904):lZ a n=some (a/n):=by
 have nz:(n != 0)=true:=by simp;omega
 have hb: -4611686018427387904<=a/n∧a/n<=4611686018427387904:=by
  constructor
  ·rw[Int.le_ediv_iff_mul_le hn];have: -4611686018427387904*n<= -4611686018427387904:=(by omega);omega
  ·rcases Int.le_total 0 a with h |h
   ·have:=Int.ediv_le_self n h;omega
   ·have:a/n<=0:=by
     have:=(Int.ediv_lt_iff_lt_mul (a:=a) (b:=1) hn).2 (by omega);omega
    omega
 have hf:=ab1 (a:=a) hn;have ht: -4611686018427387904<=Int.tdiv a n∧Int.tdiv a n<=4611686018427387905:=by split at hf<;>omega
 unfold lZ;simp only[nz,cond_true];rw[aO (x:=Int.tdiv a n) (by omega) (by omega),aO (x:=Int.tdiv a n - 1) (by omega) (by omega),<- hf];by_cases h:Int.tmod a n < 0
 ·have d:decide (Int.tmod a n < 0)=true:=by simpa using h
  rw[d,if_pos h];rfl
 ·have d:decide (Int.tmod a n < 0)=false:=by simpa using h
  rw[d,if_neg h];rfl
def zB (b:aj) (side x y:Int):Int:=if side=0 then x - b.x0 else if side=1 then b.x1 - 1 - x else if side=2 then y - b.y0 else b.y1 - 1 - y
def Pd (b:aj) (p:aW) (x y:Int):Int:=p.base+p.num*zB b p.side x y/p.den
def Tf (b:aj) (l:List aW) (x y:Int):Int:=l.foldl (fun h p=>min h (Pd b p x y)) 4096
abbrev InG (x y:Int):Prop:=(0<=x∧x < 1048576)∧(0<=y∧y < 1048576)
theorem Z0 {b:aj} (hb:OkR b=true) {x y:Int} (h:InG x y) (side:Int): -1048576<=zB b side x y∧zB b side x y<=1048576:=by
 simp only[OkR,and_eq_true,decide_eq_true_eq]at hb;obtain⟨h1,h2⟩:=h;unfold zB;split
 ·omega
 ·split
  ·omega
  ·split<;>omega
theorem Wn {a d:Int} (ha:0<=a∧a<=4096) (hd: -1048576<=d∧d<=1048576): -4294967296<=a*d∧a*d<=4294967296:=by
 have h1:a*d<=a*1048576:=Int.mul_le_mul_of_nonneg_left hd.2 ha.1;have h2:a*(-1048576)<=a*d:=Int.mul_le_mul_of_nonneg_left hd.1 ha.1;omega
theorem Wo {a n:Int} (hn:0 < n) (ha: -4294967296<=a∧a<=4294967296): -4294967296<=a/n∧a/n<=4294967296:=by
 constructor
 ·rw[Int.le_ediv_iff_mul_le hn];omega
 ·rcases Int.le_total 0 a with h |h
  ·have:=Int.ediv_le_self n h;omega
  ·have:=(Int.ediv_lt_iff_lt_mul (a:=a) (b:=1) hn).2 (by omega);omega
theorem XR {n:Nat} {b:aj} {l:List aW} {x y:Int} (hb:OkR b=true) (hp:∀ p∈l,wK p=true) (h:InG x y) (hl:l.length<=1000) (hn:2000<=n):Gx n b l x y=some (Tf b l x y):=by
 unfold Gx vo;have hr:=hb;simp only[OkR,and_eq_true,decide_eq_true_eq]at hr;obtain⟨h1,h2⟩:=h;rw[aO (x:=x - b.x0) (by omega) (by omega),aO (x:=b.x1 - 1) (by omega) (by omega),aO (x:=b.x1 - 1 - x) (by omega) (by omega),aO (x:=y - b.y0) (by omega) (by omega),aO (x:=b.y1 - 1) (by omega) (by omega),aO (x:=b.y1 - 1 - y) (by omega) (by omega)];simp only[bind_some];have:=rM (l:=l) (step:=wF b l x y ⟨x - b.x0,b.x1 - 1 - x,y - b.y0,b.y1 - 1 - y⟩) (fun i (s:Int)=>(s,((i:Nat):Int))) (fun p s=>min s (Pd b p x y)) (fun s=>s) (fun i hi s=>?_) (fun s=>by simp[wF]) n (by omega) 4096
 ·rw[show ((0:Nat):Int)=0 from rfl]at this;rw[this];rfl
 ·obtain⟨s1,s2,s3,s4⟩:=(KY _).1 (hp _ (getElem_mem hi));have ib:inb (l[i]).side 4=true:=by simp[inb];omega
  have g:at? ([x - b.x0,b.x1 - 1 - x,y - b.y0,b.y1 - 1 - y]:List Int) (l[i]).side=some (zB b (l[i]).side x y):=by
   have hs:(l[i]).side=0∨(l[i]).side=1∨(l[i]).side=2∨(l[i]).side=3:=(by omega);rcases hs with e |e |e |e<;>rw[e]<;>simp[at?,zB]
  have db:=Z0 hb ⟨h1,h2⟩ (l[i]).side;have mb:=Wn s3 db;have dv:=Wo (n:=(l[i]).den) (by omega) mb;simp only[wF,bq hi,cond_true,aZ hi,bind_some,ib,g];rw[aO (x:=(l[i]).num*zB b (l[i]).side x y) (by omega) (by omega),zA (by omega) (by omega)];simp only[bind_some];rw[aO (x:=(l[i]).base+_) (by omega) (by omega),ax (by omega)];rfl
theorem ac4 (b:aj) (x y h:Int):∀ (l:List aW) (m:Int),(h<=l.foldl (fun h p=>min h (Pd b p x y)) m)↔h<=m∧∀ p∈l,h<=Pd b p x y
 |[],m=>by simp
 |p::l,m=>by
  rw[foldl_cons,ac4 b x y h l];rw[show (h<=min m (Pd b p x y))↔(h<=m∧h<=Pd b p x y)by omega];simp only[mem_cons,forall_eq_or_imp,and_assoc]
theorem zC (b:aj) (l:List aW):wL b l=true↔OkR b=true∧∀ p∈l,wK p=true:=by
 unfold wL;rw[and_eq_true,Bool.not_eq_true',any_eq_false];simp
def asks (b:aj) (z:Int) (p:aW) (x y:Int):Prop:=(z - p.base)*p.den<=p.num*zB b p.side x y
theorem Tg {b:aj} {z:Int} {p:aW} (hp:wK p=true) (x y:Int):asks b z p x y↔z<=Pd b p x y:=by
 obtain⟨s1,s2,s3,s4⟩:=(KY _).1 hp;unfold asks Pd;have:=Int.le_ediv_iff_mul_le (a:=z - p.base) (b:=p.num*zB b p.side x y) (c:=p.den) (by omega);rw[<- this];omega
theorem agI {k d n m:Int} (hn:0 < n):(k*m<=n*d)↔ -((-k)*m/n)<=d:=by
 have:=Int.le_ediv_iff_mul_le (a:= -d) (b:=(-k)*m) (c:=n) hn;rw[show (-((-k)*m/n)<=d)↔ -d<=(-k)*m/n by omega,this,Int.neg_mul,Int.neg_mul,Int.mul_comm d n];omega
abbrev St4:=Int×Int×Int×Int
def H9 (s:St4):aj:=⟨s.1,s.2.1,s.2.2.1,s.2.2.2⟩
def xZ (b:aj) (z:Int) (p:aW) (s:St4):St4 ⊕ ((Int×Int×Int×Int) ⊕ (aj×Bool)):=
 if p.num=0 then (if z>p.base then .inr (.inr (⟨0,0,0,0⟩,false))else .inl s)
 else if p.side=0 then .inl (max s.1 (b.x0+ -((p.base - z)*p.den/p.num)),s.2.1,s.2.2.1,s.2.2.2)
 else if p.side=1 then .inl (s.1,s.2.1,min s.2.2.1 (b.x1 - -((p.base - z)*p.den/p.num)),s.2.2.2)
 else if p.side=2 then .inl (s.1,max s.2.1 (b.y0+ -((p.base - z)*p.den/p.num)),s.2.2.1,s.2.2.2)
 else .inl (s.1,s.2.1,s.2.2.1,min s.2.2.2 (b.y1 - -((p.base - z)*p.den/p.num)))
theorem Ti {n:Nat} {b:aj} {l:List aW} {z:Int} (hb:OkR b=true) (hp:∀ p∈l,wK p=true) (hz:0<=z∧z<=4096) (hl:l.length<=1000) (hn:2000<=n) (s:St4):
 iter (oh b l z) n ((0:Int),s)=some (xJ (xZ b z) (fun s=> .inl s) l s):=by
 have hr:=hb;simp only[OkR,and_eq_true,decide_eq_true_eq]at hr;have:=adI (l:=l) (step:=oh b l z) (fun i (s:St4)=>(((i:Nat):Int),s)) (xZ b z) (fun s=> .inl s) (fun i hi s=>?_) (fun s=>?_) n (by omega) s
 ·exact this
 ·obtain⟨v2,v3,v4,v5⟩:=s;obtain⟨s1,s2,s3,s4⟩:=(KY _).1 (hp _ (getElem_mem hi));have mb:=Wn (a:=(l[i]).den) (d:=(l[i]).base - z) (by omega) (by omega);rw[Int.mul_comm]at mb;simp only[oh,bq hi,cond_true,aZ hi,bind_some];rw[aO (x:=(l[i]).base - z) (by omega) (by omega),aO (x:=((l[i]).base - z)*(l[i]).den) (by omega) (by omega)];unfold xZ;by_cases h0:(l[i]).num=0
  ·have e0:((l[i]).num==0)=true:=(by simpa using h0);rw[e0,if_pos h0];by_cases hzb:z>(l[i]).base
   ·have d:decide (z>(l[i]).base)=true:=(by simpa using hzb);rw[if_pos hzb];simp only[cond_true,d];rfl
   ·have d:decide (z>(l[i]).base)=false:=(by simpa using hzb);rw[if_neg hzb];simp only[cond_true,cond_false,d,gm,ax (show i < 9223372036854775807 by omega)]
  ·have e0:((l[i]).num==0)=false:=(by simpa using h0);have dv:=Wo (n:=(l[i]).num) (by omega) mb;rw[e0,if_neg h0];simp only[cond_false];rw[zA (by omega) (by omega)];simp only[bind_some];generalize ((l[i]).base - z)*(l[i]).den/(l[i]).num=q at*;rw[aO (x:=0 - q) (by omega) (by omega),Int.zero_sub,aO (x:=b.x0+ -q) (by omega) (by omega),aO (x:=b.x1 - -q) (by omega) (by omega),aO (x:=b.y0+ -q) (by omega) (by omega),aO (x:=b.y1 - -q) (by omega) (by omega)];have hs:(l[i]).side=0∨(l[i]).side=1∨(l[i]).side=2∨(l[i]).side=3:=(by omega);rcases hs with e |e |e |e<;>rw[e]<;>simp[ax (show i < 9223372036854775807 by omega)]
 ·obtain⟨v2,v3,v4,v5⟩:=s;simp only[oh,jV,cond_false]
def ag9 (b:aj) (z:Int) (l:List aW) (s:St4):Prop:=
    (∃ t,xJ (xZ b z) (fun s=>(.inl s:(Int×Int×Int×Int) ⊕ (aj×Bool))) l s= .inl t∧(s.1<=t.1∧s.2.1<=t.2.1∧t.2.2.1<=s.2.2.1∧t.2.2.2<=s.2.2.2)∧∀ x y,jZ (H9 t) x y=true↔jZ (H9 s) x y=true∧∀ p∈l,asks b z p x y)∨
    (xJ (xZ b z) (fun s=>(.inl s:(Int×Int×Int×Int) ⊕ (aj×Bool))) l s= .inr (⟨0,0,0,0⟩,false)∧∃ p∈l,∀ x y,¬ asks b z p x y)
theorem dD (r:aj) (x y:Int):jZ r x y=true↔(r.x0<=x∧x < r.x1)∧(r.y0<=y∧y < r.y1):=by simp only[jZ,and_eq_true,decide_eq_true_eq]
theorem Tj {b:aj} {z:Int}:∀ (l:List aW),(∀ p∈l,wK p=true)->∀ s:St4,ag9 b z l s
 |[],_,s=> .inl ⟨s,rfl,⟨Int.le_refl _,Int.le_refl _,Int.le_refl _,Int.le_refl _⟩,fun x y=>by simp⟩
 |p::l,hp,s=>by
  have hp0:=hp p mem_cons_self;have ih:=Tj (b:=b) (z:=z) l fun q hq=>hp q (mem_cons_of_mem _ hq);obtain⟨s1,s2,s3,s4⟩:=(KY _).1 hp0;have go:∀ s':St4,xZ b z p s= .inl s'->(s.1<=s'.1∧s.2.1<=s'.2.1∧s'.2.2.1<=s.2.2.1∧s'.2.2.2<=s.2.2.2)->(∀ x y,jZ (H9 s') x y=true↔jZ (H9 s) x y=true∧asks b z p x y)->ag9 b z (p::l) s:=fun s' hf hb' he=>by
   have hl:xJ (xZ b z) (fun s=>(.inl s:(Int×Int×Int×Int) ⊕ (aj×Bool))) (p::l) s=xJ (xZ b z) (fun s=>(.inl s:(Int×Int×Int×Int) ⊕ (aj×Bool))) l s':=(by simp only[xJ,hf]);rcases ih s' with ⟨t,t1,t2,t3⟩ |⟨t1,q,hq,t2⟩
   ·exact .inl ⟨t,by rw[hl,t1],⟨by omega,by omega,by omega,by omega⟩,fun x y=>by
     rw[t3,he];simp only[mem_cons,forall_eq_or_imp,and_assoc]⟩
   ·exact .inr ⟨by rw[hl,t1],q,mem_cons_of_mem _ hq,t2⟩
  by_cases h0:p.num=0
  ·by_cases hz:z>p.base
   ·refine .inr ⟨?_,p,mem_cons_self,fun x y ha=>?_⟩
    ·have hf:xZ b z p s= .inr (.inr (⟨0,0,0,0⟩,false)):=(by unfold xZ;rw[if_pos h0,if_pos hz]);simp only[xJ,hf]
    ·unfold asks at ha;rw[h0,Int.zero_mul]at ha;have:0 < (z - p.base)*p.den:=Int.mul_pos (by omega) (by omega);omega
   ·refine go s (by unfold xZ;rw[if_pos h0,if_neg hz]) ⟨Int.le_refl _,Int.le_refl _,Int.le_refl _,Int.le_refl _⟩ fun x y=>?_;have:asks b z p x y:=by
     unfold asks;rw[h0,Int.zero_mul];have:=Int.mul_nonneg (a:=p.base - z) (b:=p.den) (by omega) (by omega);rw[show z - p.base= -(p.base - z)by omega,Int.neg_mul];omega
    simp[this]
  ·have hn:0 < p.num:=(by omega);have key:∀ x y,asks b z p x y↔ -((p.base - z)*p.den/p.num)<=zB b p.side x y:=fun x y=>by
    unfold asks;rw[agI hn,show -(z - p.base)=p.base - z by omega]
   have hs:p.side=0∨p.side=1∨p.side=2∨p.side=3:=(by omega);generalize hq:(p.base - z)*p.den/p.num=q at key;rcases hs with e |e |e |e
   ·refine go (max s.1 (b.x0+ -q),s.2.1,s.2.2.1,s.2.2.2) (by unfold xZ;rw[if_neg h0,if_pos e,hq]) ⟨by simp only;omega,Int.le_refl _,Int.le_refl _,Int.le_refl _⟩ fun x y=>?_;rw[key];simp only[dD,H9,zB,e,if_true];omega
   ·refine go (s.1,s.2.1,min s.2.2.1 (b.x1 - -q),s.2.2.2) (by unfold xZ;rw[if_neg h0,if_neg (by omega),if_pos e,hq]) ⟨Int.le_refl _,Int.le_refl _,by simp only;omega,Int.le_refl _⟩ fun x y=>?_;rw[key];simp only[dD,H9,zB,e,if_neg (show ¬ (1:Int)=0 by omega),if_true];omega
   ·refine go (s.1,max s.2.1 (b.y0+ -q),s.2.2.1,s.2.2.2) (by unfold xZ;rw[if_neg h0,if_neg (by omega),if_neg (by omega),if_pos e,hq]) ⟨Int.le_refl _,by simp only;omega,Int.le_refl _,Int.le_refl _⟩ fun x y=>?_;rw[key];simp only[dD,H9,zB,e,if_neg (show ¬ (2:Int)=0 by omega),if_neg (show ¬ (2:Int)=1 by omega),if_true];omega
   ·refine go (s.1,s.2.1,s.2.2.1,min s.2.2.2 (b.y1 - -q)) (by unfold xZ;rw[if_neg h0,if_neg (by omega),if_neg (by omega),if_neg (by omega),hq]) ⟨Int.le_refl _,Int.le_refl _,Int.le_refl _,by simp only;omega⟩ fun x y=>?_;rw[key];simp only[dD,H9,zB,e,if_neg (show ¬ (3:Int)=0 by omega),if_neg (show ¬ (3:Int)=1 by omega),if_neg (show ¬ (3:Int)=2 by omega)];omega
theorem aiy (x y:Int):jZ (H9 (0,0,1048576,1048576)) x y=true↔InG x y:=by
 show ((decide (0<=x)&&decide (x < 1048576))&&(decide (0<=y)&&decide (y < 1048576)))=true↔_;simp only[and_eq_true,decide_eq_true_eq]
theorem Pe {n:Nat} (b:aj) (l:List aW) {z:Int} (hz:1<=z∧z<=4096) (hl:l.length<=1000) (hn:2000<=n):
 ∃ r,CX n b l z=some r∧r.1.length<=1∧(∀ q∈r.1,OkR q=true)∧∀ x y,bf r.1 x y=true↔wL b l=true∧InG x y∧∀ p∈l,z<=Pd b p x y:=by
 unfold CX;rw[FI b l hl hn];simp only[bind_some];cases hv:wL b l with
 |false=>exact⟨_,rfl,by simp,by simp,fun x y=>by simp[bf]⟩
 |true=>
  obtain⟨v1,v2⟩:=(zC b l).1 hv;have dz:decide (0<=z∧z<=4096)=true:=by simp;omega
  have ez:(z==0)=false:=by simp;omega
  simp only[Bool.not_true,cond_false,DX,dz,bind_some,ez];unfold IU;rw[show ((0:Int),gv0.x0,gv0.y0,gv0.x1,gv0.y1)=((0:Int),((0,0,1048576,1048576):St4))from rfl,Ti v1 v2 (by omega) hl hn];rcases Tj (b:=b) (z:=z) l v2 (0,0,1048576,1048576)with ⟨⟨t1,t2,t3,t4⟩,h1,h2,h3⟩ |⟨h1,p,hp,h2⟩
  ·rw[h1];simp only[gm,l8,bind_some];simp only at h2;have h3':∀ x y,jZ ⟨t1,t2,t3,t4⟩ x y=true↔InG x y∧∀ p∈l,z<=Pd b p x y:=fun x y=>by
    have:=h3 x y;rw[show H9 (t1,t2,t3,t4)=⟨t1,t2,t3,t4⟩from rfl]at this;rw[this,aiy];constructor
    ·rintro⟨a,b⟩;exact⟨a,fun p hp=>(Tg (v2 p hp) x y).1 (b p hp)⟩
    ·rintro⟨a,b⟩;exact⟨a,fun p hp=>(Tg (v2 p hp) x y).2 (b p hp)⟩
   by_cases hx:t1 < t3
   ·have dx:decide (t1 < t3)=true:=(by simpa using hx);simp only[dx,cond_true];by_cases hy:t2 < t4
    ·have dy:decide (t2 < t4)=true:=(by simpa using hy);simp only[dy,cond_true];refine⟨([aj.mk t1 t2 t3 t4],0),rfl,by simp,fun q hq=>?_,fun x y=>?_⟩
     ·rw[mem_singleton.1 hq];simp only[OkR,and_eq_true,decide_eq_true_eq];omega
     ·rw[show bf [aj.mk t1 t2 t3 t4] x y=jZ ⟨t1,t2,t3,t4⟩ x y by simp[bf,jZ],h3'];simp
    ·have dy:decide (t2 < t4)=false:=(by simpa using hy);simp only[dy,cond_false];refine⟨_,rfl,by simp,by simp,fun x y=>?_⟩;have h0:jZ ⟨t1,t2,t3,t4⟩ x y=false:=(by simp only[jZ];rw[Bool.and_eq_false_iff];right;rw[Bool.and_eq_false_iff,decide_eq_false_iff_not,decide_eq_false_iff_not];omega);have:=h3' x y;rw[h0]at this;simp only[bf,List.any_nil,Bool.false_eq_true,false_iff,true_and];exact fun h=>by have:=this.2 h;cases this
   ·have dx:decide (t1 < t3)=false:=(by simpa using hx);simp only[dx,cond_false];refine⟨_,rfl,by simp,by simp,fun x y=>?_⟩;have h0:jZ ⟨t1,t2,t3,t4⟩ x y=false:=(by simp only[jZ];rw[Bool.and_eq_false_iff];left;rw[Bool.and_eq_false_iff,decide_eq_false_iff_not,decide_eq_false_iff_not];omega);have:=h3' x y;rw[h0]at this;simp only[bf,List.any_nil,Bool.false_eq_true,false_iff,true_and];exact fun h=>by have:=this.2 h;cases this
  ·rw[h1];simp only[Mr,bind_some,cond_false];refine⟨_,rfl,by simp,by simp,fun x y=>?_⟩;simp only[bf,List.any_nil,Bool.false_eq_true,false_iff,true_and];rintro⟨_,h⟩;exact h2 x y ((Tg (v2 p hp) x y).2 (h p hp))
def ApR (a b:aj):Prop:=∀ x y,jZ a x y=true->jZ b x y=true->False
def Ae (l:List aj):Prop:=l.Pairwise ApR∧∀ r∈l,OkR r=true
theorem kK (l:List aj) (x y:Int):bf l x y=true↔∃ r∈l,jZ r x y=true:=by simp[bf,jZ]
theorem UK (a b:List aj) (x y:Int):bf (a++b) x y=(bf a x y || bf b x y):=by simp[bf]
theorem tF (r:aj):OkR r=true↔(0<=r.x0∧r.x0 < r.x1∧r.x1<=1048576)∧(0<=r.y0∧r.y0 < r.y1∧r.y1<=1048576):=by simp only[OkR,and_eq_true,decide_eq_true_eq];omega
theorem ab2 {a:List aj} (h:rightL a=true):Ae a:=by
 obtain⟨rok,hro,_⟩:=Jc h;refine⟨?_,(bn h).1⟩;rw[<- hro];unfold fO;rw[List.pairwise_flatMap];refine⟨fun s hs=>?_,(MQ rok.runs).imp fun {s t} hst=>?_⟩
 ·unfold ay;rw[List.pairwise_map];refine (rok.col s hs).1.1.imp fun {p q} hpq x y h1 h2=>?_;rw[dD]at h1 h2;simp only at h1 h2;omega
 ·intro p hp q hq x y h1 h2;unfold ay at hp hq;obtain⟨p',_,rfl⟩:=mem_map.1 hp;obtain⟨q',_,rfl⟩:=mem_map.1 hq;rw[dD]at h1 h2;simp only at h1 h2;omega
theorem BD (a b:aj):om a b=some (bI a b,decide ((bI a b).x0 < (bI a b).x1)&&decide ((bI a b).y0 < (bI a b).y1)):=by
 unfold om bI;simp only[l8];cases decide (max a.x0 b.x0 < min a.x1 b.x1)<;>rfl
def fA (a b:aj):Bool:=decide ((bI a b).x0 < (bI a b).x1)&&decide ((bI a b).y0 < (bI a b).y1)
theorem KZ (a b:aj) (x y:Int):jZ (bI a b) x y=(jZ a x y&&jZ b x y):=by
 rw[Bool.eq_iff_iff,and_eq_true,dD,dD,dD];unfold bI;simp only;omega
theorem XT {a b:aj} (ha:OkR a=true) (hb:OkR b=true) (hm:fA a b=true):OkR (bI a b)=true:=by
 rw[tF]at*;unfold fA bI at hm;simp only[and_eq_true,decide_eq_true_eq]at hm;unfold bI;simp only;omega
theorem Wp {a b:aj} (h:fA a b=false) (x y:Int):(jZ a x y&&jZ b x y)=false:=by
 rw[<- KZ,Bool.eq_false_iff];intro hc;rw[dD]at hc;have:fA a b=true:=by simp only[fA,and_eq_true,decide_eq_true_eq];omega
 rw[h]at this;cases this
def okB (r:aj):Bool:=decide (r.x0 < r.x1)&&decide (r.y0 < r.y1)
def four (r m:aj):List aj:=[⟨r.x0,r.y0,m.x0,r.y1⟩,⟨m.x1,r.y0,r.x1,r.y1⟩,⟨m.x0,r.y0,m.x1,m.y0⟩,⟨m.x0,m.y1,m.x1,r.y1⟩]
def K4 (c r:aj):List aj:=bif fA r c then (four r (bI r c)).filter okB else [r]
def Eh (l:List aj) (c:aj):List aj:=l.flatMap (K4 c)
theorem afH (c r:aj):(K4 c r).length<=4:=by
 unfold K4;cases fA r c with
 |false=>simp
 |true=>exact Nat.le_trans (length_filter_le _ _) (by simp[four])
theorem GL {n:Nat} (x m:aj) (b:Bool) (out:List aj) (ho:out.length<=1000000000) (hn:10 < n):
 iter (kU x (m,b)) n ((0:Int),out)=some (out++(four x m).filter okB):=by
 have:=bF (l:=four x m) (step:=kU x (m,b)) (fun i (s:List aj)=>((i:Int),s)) (fun r s=>bif okB r then s++[r]else s) (fun s=>s) (fun i s=>s.length<=out.length+i)
  (fun i hi s hs=>?_) (fun s hs=>by simp[kU,four]) n (by simp[four];omega) out (Nat.le_refl _)
 ·rw[show ((0:Nat):Int)=0 from rfl]at this;rw[this];congr 1;have gen:∀ (ys:List aj) (s:List aj),ys.foldl (fun s r=>bif okB r then s++[r]else s) s=s++ys.filter okB:=by
   intro ys
   induction ys with
   |nil=>intro s;simp
   |cons y ys ih=>
    intro s;rw[foldl_cons,ih,List.filter_cons];cases okB y<;>simp
  exact gen _ _
 ·have h4:i < 4:=by simpa[four]using hi
  have g:at? ([(aj.mk x.x0 x.y0 m.x0 x.y1),(aj.mk m.x1 x.y0 x.x1 x.y1),(aj.mk m.x0 x.y0 m.x1 m.y0),(aj.mk m.x0 m.y1 m.x1 x.y1)]:List aj) (((0:Nat):Int)+((i:Nat):Int))=some (four x m)[i]:=bV hi;generalize (four x m)[i]=r at*;have ap:bG s.length s.length (sub ([r]:List aj) 0 1).length 1 32=true:=bE (n:=1) (by omega) (by simp only[maxLen];omega);simp only[kU,bq h4,cond_true,bD h4,g,bind_some,l8,ap,dF,aB,okB,ax (show i < 9223372036854775807 by omega)];cases decide (r.x0 < r.x1)<;>cases decide (r.y0 < r.y1)<;>refine⟨rfl,?_⟩<;>simp<;>omega
theorem Pf {n:Nat} {l:List aj} (c:aj) (hl:l.length<=1000000) (hn:10 < n) (hn2:l.length < n):wC n l c=some (Eh l c):=by
 unfold wC
 have:=bF (l:=l) (step:=oI n l c) (fun i (s:List aj)=>((i:Int),s)) (fun r s=>s++K4 c r) (fun s=>s) (fun i s=>s.length<=4*i)
  (fun i hi s hs=>?_) (fun s hs=>by simp[oI]) n hn2 [] (by simp)
 ·rw[show ((0:Nat):Int)=0 from rfl]at this;simp only[length_nil,aB,cond_true,this,bind_some,bB];congr 1;have gen:∀ (ys:List aj) (s:List aj),ys.foldl (fun s r=>s++K4 c r) s=s++Eh ys c:=by
   intro ys
   induction ys with
   |nil=>intro s;simp[Eh]
   |cons y ys ih=>intro s;rw[foldl_cons,ih];simp[Eh]
  exact gen l []
 ·have cl:=afH c l[i];have ap:bG s.length s.length (sub ([l[i]]:List aj) 0 1).length 1 32=true:=bE (n:=1) (by omega) (by simp only[maxLen];omega);simp only[oI,bq hi,cond_true,aZ hi,bind_some,BD,ap,dF,aB,GL (n:=n) l[i] (bI l[i] c) _ s (by omega) hn,l8,ax (show i < 9223372036854775807 by omega)];rw[show (decide ((bI l[i] c).x0 < (bI l[i] c).x1)&&decide ((bI l[i] c).y0 < (bI l[i] c).y1))=fA l[i] c from rfl];refine⟨?_,by rw[length_append];omega⟩;unfold K4;cases fA l[i] c<;>rfl
theorem ad6 (r c:aj) (hm:fA r c=true) (x y:Int):bf ((four r (bI r c)).filter okB) x y=(jZ r x y&&!jZ c x y):=by
 unfold fA bI at hm;simp only[and_eq_true,decide_eq_true_eq]at hm;rw[Bool.eq_iff_iff,kK,and_eq_true,Bool.not_eq_true',<- Bool.not_eq_true,dD,dD];constructor
 ·rintro⟨q,hq,hh⟩;obtain⟨hq,_⟩:=mem_filter.1 hq;rw[dD]at hh;simp only[four,bI,mem_cons,List.not_mem_nil,or_false]at hq;rcases hq with rfl |rfl |rfl |rfl<;>simp only at hh<;>omega
 ·rintro⟨h1,h2⟩;have key:∀ q,q∈four r (bI r c)->jZ q x y=true->∃ q∈(four r (bI r c)).filter okB,jZ q x y=true:=fun q hq hh=>by
   refine⟨q,mem_filter.2 ⟨hq,?_⟩,hh⟩;rw[dD]at hh;simp only[okB,and_eq_true,decide_eq_true_eq];omega
  by_cases c1:x < c.x0
  ·exact key ⟨r.x0,r.y0,(bI r c).x0,r.y1⟩ (by simp[four]) (by rw[dD];simp only[bI];omega)
  ·by_cases c2:c.x1<=x
   ·exact key ⟨(bI r c).x1,r.y0,r.x1,r.y1⟩ (by simp[four]) (by rw[dD];simp only[bI];omega)
   ·by_cases c3:y < c.y0
    ·exact key ⟨(bI r c).x0,r.y0,(bI r c).x1,(bI r c).y0⟩ (by simp[four]) (by rw[dD];simp only[bI];omega)
    ·exact key ⟨(bI r c).x0,(bI r c).y1,(bI r c).x1,r.y1⟩ (by simp[four]) (by rw[dD];simp only[bI];omega)
theorem M6 (c r:aj) (x y:Int):bf (K4 c r) x y=(jZ r x y&&!jZ c x y):=by
 unfold K4;cases hm:fA r c with
 |true=>exact ad6 r c hm x y
 |false=>
  have:=Wp hm x y;have e:bf [r] x y=jZ r x y:=by simp[bf,jZ]
  simp only[cond_false,e];cases h1:jZ r x y with
  |false=>rfl
  |true=>rw[h1]at this;simp at this;simp[this]
theorem FJ (f:aj->List aj) (l:List aj) (x y:Int):bf (l.flatMap f) x y=l.any fun r=>bf (f r) x y:=by
 induction l with
 |nil=>rfl
 |cons r l ih=>rw[List.flatMap_cons,UK,ih,List.any_cons]
theorem ad7 (l:List aj) (c:aj) (x y:Int):bf (Eh l c) x y=(bf l x y&&!jZ c x y):=by
 unfold Eh;rw[FJ];have e:bf l x y=l.any fun r=>jZ r x y:=rfl;rw[e,Bool.eq_iff_iff,and_eq_true,any_eq_true,any_eq_true];constructor
 ·rintro⟨r,hr,h⟩;rw[M6,and_eq_true]at h;exact⟨⟨r,hr,h.1⟩,h.2⟩
 ·rintro⟨⟨r,hr,h⟩,h2⟩;exact⟨r,hr,by rw[M6,h,h2];rfl⟩
def BF (X Y:List Int) (l:List aj):Prop:=∀ r∈l,r.x0∈X∧r.y0∈Y
theorem Qo {X:List Int} {a b:Int} (h1:a∈X) (h2:b∈X):max a b∈X:=by
 rcases Int.le_total a b with h |h
 ·rw[Int.max_eq_right h];exact h2
 ·rw[Int.max_eq_left h];exact h1
theorem Z4 {c r q:aj} (hr:OkR r=true) (hc:OkR c=true) (h:q∈K4 c r):OkR q=true∧(∀ X:List Int,r.x0∈X->c.x0∈X->c.x1∈X->q.x0∈X)∧(∀ Y:List Int,r.y0∈Y->c.y1∈Y->q.y0∈Y):=by
 unfold K4 at h;cases hm:fA r c with
 |false=>
  rw[hm]at h;simp only[cond_false,mem_singleton]at h;subst h;exact⟨hr,fun X h _ _=>h,fun Y h _=>h⟩
 |true=>
  rw[hm]at h;simp only[cond_true]at h;obtain⟨h1,h2⟩:=mem_filter.1 h;simp only[okB,and_eq_true,decide_eq_true_eq]at h2;have hk:=XT hr hc hm;rw[tF]at hr hc;rw[tF]at hk;have cx:(bI r c).x0=max r.x0 c.x0∧(bI r c).y0=max r.y0 c.y0∧(bI r c).x1=min r.x1 c.x1∧(bI r c).y1=min r.y1 c.y1:=⟨rfl,rfl,rfl,rfl⟩;obtain⟨c1,c2,c3,c4⟩:=cx;simp only[four,mem_cons,List.not_mem_nil,or_false]at h1;rw[tF];rcases h1 with rfl |rfl |rfl |rfl
  ·simp only at h2 ⊢;exact⟨by omega,fun X a _ _=>a,fun Y a _=>a⟩
  ·simp only at h2 ⊢;refine⟨by omega,fun X _ _ a=>?_,fun Y a _=>a⟩;rw[show (bI r c).x1=c.x1 by omega];exact a
  ·simp only at h2 ⊢;refine⟨by omega,fun X a b _=>?_,fun Y a _=>a⟩;rw[c1];exact Qo a b
  ·simp only at h2 ⊢;refine⟨by omega,fun X a b _=>?_,fun Y _ a=>?_⟩
   ·rw[c1];exact Qo a b
   ·rw[show (bI r c).y1=c.y1 by omega];exact a
theorem ad8 {c r:aj} (hr:OkR r=true) (hc:OkR c=true):(K4 c r).Pairwise ApR:=by
 unfold K4;cases hm:fA r c with
 |false=>simp
 |true=>
  simp only[cond_true];refine List.Pairwise.filter _ ?_;have hk:=XT hr hc hm;rw[tF]at hk;simp only[four,List.pairwise_cons,mem_cons,List.not_mem_nil,or_false,forall_eq_or_imp,forall_eq,List.Pairwise.nil,and_true,false_implies,implies_true];refine⟨⟨?_,?_,?_⟩,⟨?_,?_⟩,?_⟩<;>intro x y h1 h2<;>rw[dD]at h1 h2<;>simp only at h1 h2<;>omega
theorem Wq {l:List aj} {c:aj} (h:Ae l) (hc:OkR c=true):Ae (Eh l c):=by
 refine⟨?_,fun q hq=>?_⟩
 ·unfold Eh;rw[List.pairwise_flatMap];refine⟨fun r hr=>ad8 (h.2 r hr) hc,h.1.imp fun {r s} hrs p hp q hq x y h1 h2=>?_⟩;have e1:bf (K4 c r) x y=true:=(kK _ _ _).2 ⟨p,hp,h1⟩;have e2:bf (K4 c s) x y=true:=(kK _ _ _).2 ⟨q,hq,h2⟩;rw[M6,and_eq_true]at e1 e2;exact hrs x y e1.1 e2.1
 ·obtain⟨r,hr,h1⟩:=mem_flatMap.1 hq;exact (Z4 (h.2 r hr) hc h1).1
theorem Ws {l:List aj} {c:aj} (h:∀ r∈l,OkR r=true) (hc:OkR c=true) {X Y:List Int} (hx:BF X Y l) (h1:c.x0∈X) (h2:c.x1∈X) (h3:c.y1∈Y):BF X Y (Eh l c):=by
 intro q hq;obtain⟨r,hr,hm⟩:=mem_flatMap.1 hq;obtain⟨_,g2,g3⟩:=Z4 (h r hr) hc hm;exact⟨g2 X (hx r hr).1 h1 h2,g3 Y (hx r hr).2 h3⟩
theorem Z5 {X Y:List Int} {l:List aj} (h:Ae l) (hx:BF X Y l):l.length<=X.length*Y.length:=by
 have e:(X.flatMap fun x=>Y.map fun y=>(x,y)).length=X.length*Y.length:=by
  clear hx
  induction X with
  |nil=>simp
  |cons x X ih=>rw[List.flatMap_cons,length_append,ih,length_map,length_cons,Nat.add_mul];omega
 have:=MO (l:=l.map fun r=>(r.x0,r.y0)) (m:=X.flatMap fun x=>Y.map fun y=>(x,y)) (by
  rw[List.pairwise_map];refine (List.Pairwise.and_mem.1 h.1).imp fun {a b} hab=>?_;obtain⟨h1,h2,h3⟩:=hab;intro he;have e1:a.x0=b.x0:=congrArg Prod.fst he;have e2:a.y0=b.y0:=congrArg Prod.snd he;have o1:=(tF _).1 (h.2 a h1);have o2:=(tF _).1 (h.2 b h2);exact h3 a.x0 a.y0 ((dD _ _ _).2 (by omega)) ((dD _ _ _).2 (by omega))) (fun p hp=>by
  obtain⟨r,hr,rfl⟩:=mem_map.1 hp;exact mem_flatMap.2 ⟨r.x0,(hx r hr).1,mem_map.2 ⟨r.y0,(hx r hr).2,rfl⟩⟩)
 rw[length_map,e]at this;exact this
theorem Dj {l:List aj} {x0 x1:Int} (hl:l.length < 1099511627776) {n:Nat} (hn:l.length < n):iter (iD l x0 x1) n ((0:Int),([]:List aj))=some (ay x0 x1 (Db l x0 x1)):=by
 have:=bF (l:=l) (step:=iD l x0 x1) (fun i (s:List aj)=>((i:Int),s)) (fun r s=>bif decide (r.x0<=x0)&&decide (x1<=r.x1)then s++[⟨x0,r.y0,x1,r.y1⟩]else s) (fun s=>s) (fun i s=>s.length<=i)
  (fun i hi s hs=>?_) (fun s hs=>by simp[iD]) n hn [] (Nat.le_refl _)
 ·rw[show ((0:Nat):Int)=0 from rfl]at this;rw[this];congr 1;have gen:∀ (ys:List aj) (s:List aj),ys.foldl (fun s r=>bif decide (r.x0<=x0)&&decide (x1<=r.x1)then s++[⟨x0,r.y0,x1,r.y1⟩]else s) s=s++ay x0 x1 (Db ys x0 x1):=by
   intro ys
   induction ys with
   |nil=>intro s;simp[Db,ay]
   |cons y ys ih=>
    intro s;simp only[foldl_cons,ih];cases h:(decide (y.x0<=x0)&&decide (x1<=y.x1))with
    |true=>simp[Db,h,ay,KQ]
    |false=>simp[Db,h]
  simpa using gen l []
 ·have hi':decide (((i:Nat):Int) < (l.length:Int))=true:=by simpa using hi
  have ap:bG s.length s.length (sub ([(aj.mk x0 l[i].y0 x1 l[i].y1)]:List aj) 0 1).length 1 32=true:=bE (n:=1) (by omega) (by simp only[maxLen];omega);simp only[iD,hi',cond_true,aZ hi,bind_some,IY];cases h:(decide (l[i].x0<=x0)&&decide (x1<=l[i].x1))with
  |true=>
   simp only[cond_true,ap,dF,aB,bind_some];refine⟨?_,by simp;omega⟩;rw[ax (by omega)];rfl
  |false=>
   simp only[cond_false,aB,cond_true,bind_some];exact⟨by rw[ax (by omega)],by omega⟩
theorem Dk (x0 x1:Int) (a b:List aC):ay x0 x1 (a++b)=ay x0 x1 a++ay x0 x1 b:=by simp[ay]
theorem Dl {n:Nat} {x0 x1:Int} (w1:List aj) (T:List aC) (hw:w1.length=T.length) (hl:T.length < 1099511627776) (hn:T.length < n):
 ∃ o,iter (iE w1) n ((0:Int),(0:Int),ay x0 x1 T)=some o∧o.1=(((T.foldl ext []).length:Nat):Int)∧o.2.take (T.foldl ext []).length=ay x0 x1 (T.foldl ext [])∧(T.foldl ext []).length<=T.length:=by
 refine Td (fun i (v:Int×Int×List aj)=>v.2.1=(i:Int)∧v.1=((((T.take i).foldl ext []).length:Nat):Int)∧∃ mid,v.2.2=ay x0 x1 ((T.take i).foldl ext [])++mid++ay x0 x1 (T.drop i)∧mid.length+((T.take i).foldl ext []).length=i) T.length _ (fun i v hi hR=>?_) (fun v hR=>?_) n hn _ ⟨rfl,rfl,[],by simp[ay],by simp⟩
 ·obtain⟨v5,v6,v7⟩:=v;obtain⟨h1,h2,mid,h3,h4⟩:=hR;simp only at h1 h2 h3;subst h1;subst h2;subst h3;have hC:(T.take (i+1)).foldl ext []=ext ((T.take i).foldl ext []) T[i]:=by rw[take_succ_eq_append_getElem hi,List.foldl_append];rfl
  generalize (T.take i).foldl ext []=C at*;have lC:(ay x0 x1 C).length=C.length:=aS _ _ _;have dr:ay x0 x1 (T.drop i)=⟨x0,T[i].from_,x1,T[i].to⟩::ay x0 x1 (T.drop (i+1)):=by rw[List.drop_eq_getElem_cons hi];rfl
  have g2:at? (ay x0 x1 C++mid++ay x0 x1 (T.drop i)) (((0:Nat):Int)+((i:Nat):Int))=some ⟨x0,T[i].from_,x1,T[i].to⟩:=by rw[qi,List.getElem?_append_right (by rw[length_append];omega),dr,length_append,lC,show i - (C.length+mid.length)=0 by omega];rfl
  obtain⟨m0,ms,hms⟩:∃ m0 ms,mid++[(⟨x0,T[i].from_,x1,T[i].to⟩:aj)]=m0::ms:=by
   cases mid with
   |nil=>exact⟨_,_,rfl⟩
   |cons a b=>exact⟨_,_,rfl⟩
  have hA:ay x0 x1 C++mid++ay x0 x1 (T.drop i)=ay x0 x1 C++(m0::ms)++ay x0 x1 (T.drop (i+1)):=by rw[dr,<- hms];simp
  have lm:ms.length=mid.length:=by have:=congrArg List.length hms;simp at this;omega
  have ibi:inb ((i:Nat):Int) w1.length=true:=bD (by omega);have d1:decide (((i:Nat):Int) < ((w1.length:Nat):Int))=true:=by rw[hw];exact bq hi
  have w:i64.wrap ((i:Int)+1)=((i+1:Nat):Int):=ax (by omega);have new:ext C T[i]=C++[T[i]]->∃ v',some (Sum.inl ((((C.length+1:Nat):Int)),((i+1:Nat):Int),(ay x0 x1 C++mid++ay x0 x1 (T.drop i)).set C.length ⟨x0,T[i].from_,x1,T[i].to⟩))=some (Sum.inl v':(Int×Int×List aj) ⊕ (Int×List aj))∧v'.2.1=((i+1:Nat):Int)∧v'.1=(((ext C T[i]).length:Nat):Int)∧∃ mid',v'.2.2=ay x0 x1 (ext C T[i])++mid'++ay x0 x1 (T.drop (i+1))∧mid'.length+(ext C T[i]).length=i+1:=fun he=>by
   refine⟨_,rfl,rfl,by rw[he];simp,ms,?_,by rw[he,length_append,List.length_singleton];omega⟩;show (ay x0 x1 C++mid++ay x0 x1 (T.drop i)).set C.length _=_;rw[hA,append_assoc,List.cons_append,he,Dk];have:=Sz (ay x0 x1 C) (ms++ay x0 x1 (T.drop (i+1))) m0 ⟨x0,T[i].from_,x1,T[i].to⟩;rw[lC]at this;rw[this];simp[ay]
  rcases List.eq_nil_or_concat C with e0 |⟨o,q,e0⟩
  ·subst e0;have e1:ext [] T[i]=[]++[T[i]]:=rfl;have d5:decide (((([]:List aC).length:Nat):Int)>0)=false:=rfl;have ib0:inb (((([]:List aC).length:Nat):Int)) w1.length=true:=bD (by simp;omega);have g0:∃ z,at? (ay x0 x1 []++mid++ay x0 x1 (T.drop i)) (((0:Nat):Int)+((([]:List aC).length:Nat):Int))=some z:=by
    rw[hA];exact⟨m0,by simp[at?,ay]⟩
   obtain⟨z,g0⟩:=g0;have z0:(((0:Nat):Int)+((([]:List aC).length:Nat):Int)).toNat=([]:List aC).length:=rfl;have wl:i64.wrap (((([]:List aC).length:Nat):Int)+1)=(((([]:List aC).length+1:Nat)):Int):=ax (by simp);rw[hC];simp only[iE,d1,cond_true,ibi,g2,bind_some,d5,cond_false,ib0,g0,z0,wl,w];exact new e1
  ·rw[List.concat_eq_append]at e0;have d5:decide (((C.length:Nat):Int)>0)=true:=(by rw[e0];simp);have wp:i64.wrap (((C.length:Nat):Int) - 1)=((o.length:Nat):Int):=(by rw[iQ (by rw[e0];simp) (by omega),e0];simp);have ibo:inb ((o.length:Nat):Int) w1.length=true:=bD (by rw[e0]at h4;simp at h4;omega);have ibc:inb ((C.length:Nat):Int) w1.length=true:=bD (by omega);have lo:(ay x0 x1 o).length=o.length:=aS _ _ _;have gq:at? (ay x0 x1 C++mid++ay x0 x1 (T.drop i)) (((0:Nat):Int)+((o.length:Nat):Int))=some ⟨x0,q.from_,x1,q.to⟩:=(by rw[qi,e0,Dk,append_assoc,append_assoc,List.getElem?_append_right (by omega),lo,Nat.sub_self];rfl);have zo:(((0:Nat):Int)+((o.length:Nat):Int)).toNat=o.length:=(by omega);have zc:(((0:Nat):Int)+((C.length:Nat):Int)).toNat=C.length:=(by omega);have wl:i64.wrap (((C.length:Nat):Int)+1)=((C.length+1:Nat):Int):=ax (by omega);have gc:∃ z,at? (ay x0 x1 C++mid++ay x0 x1 (T.drop i)) (((0:Nat):Int)+((C.length:Nat):Int))=some z:=by
    rw[hA,qi,append_assoc,List.getElem?_append_right (by omega),lC,Nat.sub_self];exact⟨m0,rfl⟩
   obtain⟨z,gc⟩:=gc;rw[hC];simp only[iE,d1,cond_true,ibi,g2,bind_some,d5,wp,ibo,gq,ibc,zo,zc,wl,w];have eo:ext C T[i]=bif q.to==T[i].from_ then o++[⟨q.from_,T[i].to⟩]else o++[q]++[T[i]]:=(by rw[e0];exact SC o q T[i]);cases hq:q.to==T[i].from_ with
   |true=>
    rw[hq]at eo;simp only[cond_true]at eo ⊢;refine⟨_,rfl,rfl,?_,mid++[⟨x0,T[i].from_,x1,T[i].to⟩],?_,?_⟩
    ·rw[eo,e0];simp
    ·show (ay x0 x1 C++mid++ay x0 x1 (T.drop i)).set o.length _=_;rw[eo,e0,Dk,dr,Dk];have:=Sz (ay x0 x1 o) (mid++(⟨x0,T[i].from_,x1,T[i].to⟩::ay x0 x1 (T.drop (i+1)))) ⟨x0,q.from_,x1,q.to⟩ ⟨x0,q.from_,x1,T[i].to⟩;rw[lo]at this;simp only[append_assoc];refine Eq.trans this ?_;simp[ay]
    ·rw[eo];rw[e0]at h4;simp at h4 ⊢;omega
   |false=>
    rw[hq]at eo;simp only[cond_false]at eo ⊢;have e1:ext C T[i]=C++[T[i]]:=(by rw[eo,e0]);simp only[gc,bind_some];exact new e1
 ·obtain⟨v5,v6,v7⟩:=v;obtain⟨h1,h2,mid,h3,h4⟩:=hR;simp only at h1 h2 h3;subst h1;subst h2;subst h3;rw[List.take_length]at*;have d1:decide (((T.length:Nat):Int) < ((w1.length:Nat):Int))=false:=by rw[hw];exact jV _
  simp only[iE,d1,cond_false];refine⟨_,rfl,rfl,?_,by omega⟩;show List.take _ (ay x0 x1 (T.foldl ext [])++mid++_)=_;rw[append_assoc,List.take_left' (aS _ _ _)]
theorem ab3 {l:List aj} (h:Ae l) (x:Int):(bK l x).Pairwise fun s t=>s.to<=t.from_∨t.to<=s.from_:=by
 unfold bK;rw[List.pairwise_map];refine (List.Pairwise.and_mem.1 (h.1.filter _)).imp fun {a b} hab=>?_;obtain⟨h1,h2,h3⟩:=hab;obtain⟨m1,p1⟩:=mem_filter.1 h1;obtain⟨m2,p2⟩:=mem_filter.1 h2;simp only[and_eq_true,decide_eq_true_eq]at p1 p2;have o1:=(tF _).1 (h.2 a m1);have o2:=(tF _).1 (h.2 b m2);show a.y1<=b.y0∨b.y1<=a.y0;by_cases c1:a.y1<=b.y0
 ·exact .inl c1
 ·by_cases c2:b.y1<=a.y0
  ·exact .inr c2
  ·exact (h3 x (max a.y0 b.y0) ((dD _ _ _).2 (by omega)) ((dD _ _ _).2 (by omega))).elim
theorem Je {n:Nat} {l:List aj} {x0 x1:Int} (hd:Ae l) (ha:∀ r∈l,(decide (r.x0<=x0)&&decide (x1<=r.x1))=(decide (r.x0<=x0)&&decide (x0 < r.x1)))
 (hl:l.length < 1099511627776) (hn:l.length < n):oJ n l x0 x1=some (ay x0 x1 (bJ l x0)):=by
 have hv:=hd.2;have hs:Db l x0 x1=bK l x0:=by
  unfold Db bK;rw[List.filter_congr ha];rfl
 have h1:=xU l x0;have hp:=CJ Ql (ay x0 x1 (bK l x0));have hso:=CK Ql (ay x0 x1 (bK l x0));have h2:(xK ltY (ay x0 x1 (bK l x0))).length=(bK l x0).length:=by rw[Kl Ql,aS]
 unfold oJ;simp only[length_nil,aB,cond_true,Dj (x0:=x0) (x1:=x1) (l:=l) (by omega) (n:=n) (by omega),bind_some,hs];rw[GK (fun a b=>if a.y0 < b.y0 then -1 else if b.y0 < a.y0 then 1 else 0) (fun a b=>by show kI a b=_;unfold kI;rw[iF];rfl) (fun a b=>by
  by_cases h1:a.y0 < b.y0
  ·simp[h1]
  ·by_cases h2:b.y0 < a.y0<;>simp[h1,h2]) (by rw[aS];omega) (by rw[aS];omega)]
 simp only[bind_some];generalize hL:xK ltY (ay x0 x1 (bK l x0))=L at*;have hx:∀ r∈L,r.x0=x0∧r.x1=x1:=by
  intro r hr;have:=hp.mem_iff.1 hr;simp only[ay,mem_map]at this;obtain⟨s,_,rfl⟩:=this;exact⟨rfl,rfl⟩
 have eL:=Wd hx;have pT:(L.map KQ).Perm (bK l x0):=by
  have:=hp.map KQ;rw[ZL]at this;exact this
 have sT:(L.map KQ).Pairwise fun x y=>x.from_<=y.from_:=by
  rw[List.pairwise_map];refine hso.imp fun {a b} hab=>?_;simp only[ltY,decide_eq_false_iff_not]at hab;show a.y0<=b.y0;omega
 generalize L.map KQ=T at eL pT sT;subst eL;rw[aS]at h2;have oT:∀ s∈T,OkS s:=fun s h=>IZ hv x0 s (pT.mem_iff.1 h);have dT:T.Pairwise fun s t=>s.to<=t.from_∨t.to<=s.from_:=(pT.pairwise_iff (fun {a b} h=>h.symm)).2 (ab3 hd x0);have aT:T.Pairwise fun x y=>x.to<=y.from_:=by
  refine (List.Pairwise.and_mem.1 (sT.and dT)).imp fun {a b} hab=>?_;obtain⟨m1,m2,s1,s2⟩:=hab;have:=oT a m1;have:=oT b m2;rcases s2 with h |h
  ·exact h
  ·simp only[OkS]at *;omega
 obtain⟨o,g1,g2,g3,g4⟩:=Dl (n:=n) (x0:=x0) (x1:=x1) (ay x0 x1 (bK l x0)) T (by rw[aS];omega) (by omega) (by omega);obtain⟨o1,o2⟩:=o;simp only at g2 g3;subst g2;rw[g1];have so:AR 0 (((T.foldl ext []).length:Nat):Int) (ay x0 x1 (bK l x0)).length=true:=Bf (by omega) (by omega) (by rw[aS];omega);have z:((((T.foldl ext []).length:Nat):Int)).toNat=(T.foldl ext []).length:=by omega
 rw[aS]at so;simp only[bind_some,aS,so,cond_true,z,afh,g3,aB];obtain⟨c1,c2⟩:=V6 T [] zu oT aT (by simp);obtain⟨d1,d2⟩:=dX hv x0;rw[l7 c1 d1 fun y=>by rw[c2,d2,wH,Bool.false_or,Sw pT,Fg]]
theorem ah9 {n:Nat} {x0 x1 u0 u1:Int} {c d:List aC} (hl:c.length < 1099511627776) (hn:c.length < n):
 gV n (ay x0 x1 c) (ay u0 u1 d) (fun y:aj×aj×Unit=>jL y.1 y.2.1)=some (decide (c=d)):=by
 unfold gV;rw[aS,aS];by_cases hlen:c.length=d.length
 ·have h0:(((c.length:Nat):Int) != ((d.length:Nat):Int))=false:=by simp[hlen]
  rw[h0];have zl:(c.zip d).length=c.length:=by rw[List.length_zip];omega
  have:=jG (l:=c.zip d) (step:=fB (ay x0 x1 c) (ay u0 u1 d) (fun y:aj×aj×Unit=>jL y.1 y.2.1)) (fun i=>((i:Nat):Int)) (fun z=>!decide (z.1=z.2)) () (fun _=>false) (fun i hi=>?_) ?_ n (by omega)
  ·rw[show ((0:Nat):Int)=0 from rfl]at this;simp only[cond_false];rw[this];rcases CF (fun z:aC×aC=>!decide (z.1=z.2)) (c.zip d)with ⟨i,hi,h1,h2,_⟩ |⟨h1,h2⟩
   ·rw[h1];have:c≠d:=by
     intro e;subst e;simp at h2
    simp[this]
   ·rw[h1];have:c=d:=by
     refine List.ext_getElem hlen fun i hi hj=>?_;have hm:(c[i],d[i])∈c.zip d:=by
      rw[List.mem_iff_getElem];exact⟨i,by omega,by simp⟩
     have:=h2 _ hm;simpa using this
    simp[this]
  ·have hic:i < c.length:=(by omega);have hid:i < d.length:=(by omega);have hi':decide (((i:Nat):Int) < (((ay x0 x1 c).length:Nat):Int))=true:=(by rw[aS];simpa using hic);simp only[fB,hi',cond_true,SF hic,SF hid,bind_some,List.getElem_zip];generalize c[i]=p;generalize d[i]=q;obtain⟨p1,p2⟩:=p;obtain⟨q1,q2⟩:=q;have e:decide ((⟨p1,p2⟩:aC)=⟨q1,q2⟩)=((p1==q1)&&(p2==q2)):=(by rw[Bool.eq_iff_iff];simp);rw[e];unfold jL;simp only;rw[ax (by omega)];cases p1==q1<;>cases p2==q2<;>rfl
  ·have hi':decide ((((c.zip d).length:Nat):Int) < (((ay x0 x1 c).length:Nat):Int))=false:=(by rw[aS,zl];simp);simp only[fB,hi',cond_false]
 ·have h0:(((c.length:Nat):Int) != ((d.length:Nat):Int))=true:=by rw[bne_iff_ne];omega
  rw[h0];have:c≠d:=fun e=>hlen (by rw[e]);simp[this]
theorem FK {n:Nat} {l:List aj} (hl:l.length < 10995116277) (hn:l.length < n):iter (jM l) n ((0:Int),([]:List Int))=some (l.flatMap fun r=>[r.x0,r.x1]):=by
 have:=bF (l:=l) (step:=jM l) (fun i (s:List Int)=>((i:Int),s)) (fun r s=>s++[r.x0,r.x1]) (fun s=>s) (fun i s=>s.length<=2*i)
  (fun i hi s hs=>?_) (fun s hs=>by simp[jM]) n hn [] (Nat.le_refl _)
 ·rw[show ((0:Nat):Int)=0 from rfl]at this;rw[this];have gen:∀ (ys:List aj) (s:List Int),ys.foldl (fun s r=>s++[r.x0,r.x1]) s=s++ys.flatMap fun r=>[r.x0,r.x1]:=by
   intro ys
   induction ys with
   |nil=>intro s;simp
   |cons y ys ih=>intro s;simp[ih]
  congr 1;simpa using gen l []
 ·have hi':decide (((i:Nat):Int) < ((l.length:Nat):Int))=true:=by simpa using hi
  have ap:bG s.length s.length (sub ([l[i].x0,l[i].x1]:List Int) 0 2).length 2 8=true:=bE (n:=2) (by omega) (by simp only[maxLen];omega);simp only[jM,hi',cond_true,aZ hi,bind_some,ap,dF,aB];refine⟨?_,by simp;omega⟩;rw[ax (by omega)];rfl
theorem FL {n:Nat} (es:List Int) (i:Nat) (hi:i+1 < es.length) (he:es.length < 1099511627776) (pre:List aj) (x' x1:Int) (c:List aC) (hl:pre.length+c.length < 1099511627776) (hn:c.length < n):
 iter (jN ((),es) (i:Int) (pre++ay x' x1 c)) n (((pre.length:Nat):Int),pre++ay x' x1 c)=some (pre++ay x' es[i+1] c):=by
 have:=eO (step:=jN ((),es) (i:Int) (pre++ay x' x1 c)) (fun j=>(((pre.length+j:Nat):Int),pre++(ay x' es[i+1] (c.take j)++ay x' x1 (c.drop j)))) c.length (pre++ay x' es[i+1] c) (fun j hj=>?_) ?_ n hn
 ·simpa[ay]using this
 ·have lt:(pre++ay x' x1 c).length=pre.length+c.length:=by rw[length_append,aS]
  have d:decide (((pre.length+j:Nat):Int) < (((pre++ay x' x1 c).length:Nat):Int))=true:=by rw[lt];simp;omega
  have w:i64.wrap ((i:Int)+1)=((i+1:Nat):Int):=ax (by omega);have ib:inb ((pre.length+j:Nat):Int) (pre++ay x' x1 c).length=true:=bD (by rw[lt];omega);have tl:(ay x' es[i+1] (c.take j)).length=j:=by rw[aS,length_take];omega
  have dr:c.drop j=c[j]::c.drop (j+1):=List.drop_eq_getElem_cons hj;have e1:ay x' x1 (c.drop j)=⟨x',c[j].from_,x1,c[j].to⟩::ay x' x1 (c.drop (j+1)):=by rw[dr];rfl
  have g:at? (pre++(ay x' es[i+1] (c.take j)++ay x' x1 (c.drop j))) (((0:Nat):Int)+((pre.length+j:Nat):Int))=some ⟨x',c[j].from_,x1,c[j].to⟩:=by
   rw[qi,List.getElem?_append_right (by omega),List.getElem?_append_right (by omega),tl,e1];simp
  have z:(((0:Nat):Int)+((pre.length+j:Nat):Int)).toNat=pre.length+j:=by omega
  have sn:ay x' es[i+1] (c.take j++[c[j]])=ay x' es[i+1] (c.take j)++[aj.mk x' c[j].from_ es[i+1] c[j].to]:=by unfold ay;rw[map_append];rfl
  have st:(pre++(ay x' es[i+1] (c.take j)++ay x' x1 (c.drop j))).set (pre.length+j) (aj.mk x' c[j].from_ es[i+1] c[j].to)=pre++(ay x' es[i+1] (c.take (j+1))++ay x' x1 (c.drop (j+1))):=by
   rw[List.set_append_right _ _ (by omega),List.set_append_right _ _ (by omega),tl,e1,take_succ_eq_append_getElem hj,sn,Nat.add_sub_cancel_left,Nat.sub_self,List.set_cons_zero,append_assoc];rfl
  simp only[jN,d,cond_true,w,bD hi,bV hi,bind_some,ib,g,z,st];rw[ax (by omega)];rfl
 ·have lt:(pre++ay x' x1 c).length=pre.length+c.length:=by rw[length_append,aS]
  have d:decide (((pre.length+c.length:Nat):Int) < (((pre++ay x' x1 c).length:Nat):Int))=false:=by rw[lt];simp
  simp only[jN,d,cond_false,List.take_length,List.drop_length];simp[ay]
theorem M7 {n:Nat} {l:List aj} (hd:Ae l) (hl:l.length<=200000) (hn:1000000<=n):sW n l=some (aR (aJ l)):=by
 unfold sW;have hv:=hd.2;have he:=zY l;simp only[length_nil,aB,cond_true,FK (l:=l) (n:=n) (by omega) (by omega),bind_some];rw[l5 (by rw[jk];omega) (by rw[jk];omega)];simp only[bind_some,bL,aB,cond_true];rw[lJ (by rw[bL,jk];omega) (by rw[bL,jk];omega)];simp only[bind_some];have hE:dU (iY ltI (l.flatMap fun r=>[r.x0,r.x1]))=aL l:=rfl;rw[hE];obtain⟨p1,p2⟩:=pq (fun a b=>(⟨a,b,bJ l a⟩:aI)) (aL l);have hP:(aJ l).length=(aL l).length - 1:=p1;have bl:∀ i,(aR ((aJ l).take i)).length<=400000*200000:=by
  intro i;have h1:=H7 ((aJ l).take i) 200000 fun s hs=>by
   have:=Ow (List.mem_of_mem_take hs);omega
  have h2:((aJ l).take i).length<=400000:=by rw[length_take];omega
  exact Nat.le_trans h1 (Nat.mul_le_mul_right _ h2)
 have mx:max (0:Int) (i64.wrap ((((aL l).length:Nat):Int) - 1))=(((aJ l).length:Nat):Int):=by rw[aO (by omega) (by omega)];omega
 have key:iter (jO n l ((),aL l)) n ((0:Int),([]:List aj),([]:List aj))=some (aR (aJ l)):=by
  have:=eO (step:=jO n l ((),aL l)) (fun i=>(((i:Nat):Int),aR ((aJ l).take i),OD (aJ l) i)) (aJ l).length (aR (aJ l)) (fun i hi=>?_) ?_ n (by omega)
  ·simpa[aR,OD]using this
  ·have hi2:i+1 < (aL l).length:=(by omega);have hi1:i < (aL l).length:=(by omega);have d:decide (((i:Nat):Int) < (((aJ l).length:Nat):Int))=true:=(by simpa using hi);have w:i64.wrap ((i:Int)+1)=((i+1:Nat):Int):=ax (by omega);have hs:(aJ l)[i]=⟨(aL l)[i],(aL l)[i+1],bJ l (aL l)[i]⟩:=p2 i hi2 hi;have adj:∀ r∈l,(decide (r.x0<=(aL l)[i])&&decide ((aL l)[i+1]<=r.x1))=(decide (r.x0<=(aL l)[i])&&decide ((aL l)[i] < r.x1)):=by
    intro r hr;congr 1;have hm:r.x1∈aL l:=I7.2 ⟨r,hr,.inr rfl⟩;obtain⟨j,hj,e⟩:=List.mem_iff_getElem.1 hm;have hst:=zZ l;rw[List.pairwise_iff_getElem]at hst;rw[<- e,Bool.eq_iff_iff,decide_eq_true_eq,decide_eq_true_eq];rcases Nat.lt_or_ge i j with hij |hij
    ·have a1:=hst i j hi1 hj hij;rcases Nat.eq_or_lt_of_le (show i+1<=j by omega)with e |hlt
     ·subst e;omega
     ·have a2:=hst (i+1) j hi2 hj hlt;omega
    ·rcases Nat.eq_or_lt_of_le hij with e |hlt
     ·subst e;have a2:=hst j (j+1) hj hi2 (by omega);omega
     ·have a1:=hst j i hj hi1 hlt;have a2:=hst i (i+1) hi1 hi2 (by omega);omega
   have lc:=Ff l (aL l)[i];have co:=Je (n:=n) (l:=l) (x0:=(aL l)[i]) (x1:=(aL l)[i+1]) hd adj (by omega) (by omega);have tk:=take_succ_eq_append_getElem hi;have tkl:(aJ l).take (i+1)=(aJ l).take i++[(⟨(aL l)[i],(aL l)[i+1],bJ l (aL l)[i]⟩:aI)]:=(by rw[tk,hs]);have la:OD (aJ l) (i+1)=ay (aL l)[i] (aL l)[i+1] (bJ l (aL l)[i]):=by
    unfold OD;rw[tkl,List.getLast?_append];rfl
   have bi:=bl i;have ap:bG (aR ((aJ l).take i)).length (aR ((aJ l).take i)).length (ay (aL l)[i] (aL l)[i+1] (bJ l (aL l)[i])).length (ay (aL l)[i] (aL l)[i+1] (bJ l (aL l)[i])).length 32=true:=by
    refine bE ?_ ?_
    ·rw[aS];omega
    ·rw[aS];simp only[maxLen];omega
   simp only[jO,mx,d,cond_true,bD hi1,bV hi1,bind_some,w,bD hi2,bV hi2,co,bB,aB,la,ap,dF];rcases List.eq_nil_or_concat ((aJ l).take i)with e0 |⟨S,t,e0⟩
   ·
    have lz:OD (aJ l) i=ay 0 0 []:=(by unfold OD;rw[e0];rfl);have wn:aR ((aJ l).take (i+1))=ay (aL l)[i] (aL l)[i+1] (bJ l (aL l)[i]):=(by rw[tkl,e0];rfl);have wz:aR ((aJ l).take i)=[]:=(by rw[e0];rfl);rw[lz,ah9 (by omega) (by omega),wn,wz];cases hc:bJ l (aL l)[i]with
    |nil=>
     have dz:decide ((((ay (aL l)[i] (aL l)[i+1] []).length:Nat):Int)>0)=false:=(by simp[ay]);simp only[dz,cond_false,bind_some,aB,cond_true];rfl
    |cons q c=>
     have dz:decide (q::c=[])=false:=(by simp);simp only[dz,bind_some];cases decide ((((ay (aL l)[i] (aL l)[i+1] (q::c)).length:Nat):Int)>0)<;>simp only[cond_true,cond_false,bind_some,aB]<;>rfl
   ·rw[List.concat_eq_append]at e0;have lz:OD (aJ l) i=ay t.x0 t.x1 t.column:=(by unfold OD;rw[e0,List.getLast?_append];rfl);have tk2:(aJ l).take (i+1)=S++[t,(⟨(aL l)[i],(aL l)[i+1],bJ l (aL l)[i]⟩:aI)]:=(by rw[tkl,e0,append_assoc];rfl);rw[lz,ah9 (by omega) (by omega)];by_cases hc:bJ l (aL l)[i]=t.column
    ·obtain⟨pre,x',w1,w2⟩:=OC ⟨(aL l)[i],(aL l)[i+1],bJ l (aL l)[i]⟩ t hc S;have ww:aR ((aJ l).take i)=pre++ay x' t.x1 t.column:=(by rw[e0,w1]);have ww2:aR ((aJ l).take (i+1))=pre++ay x' (aL l)[i+1] t.column:=(by rw[tk2,w2]);rw[ww2,ww];rw[ww,length_append,aS]at bi;have s3:=FL (n:=n) (aL l) i hi2 (by omega) pre x' t.x1 t.column (by omega) (by rw[<- hc];omega);have wd:i64.wrap ((((pre++ay x' t.x1 t.column).length:Nat):Int) - (((ay (aL l)[i] (aL l)[i+1] (bJ l (aL l)[i])).length:Nat):Int))=((pre.length:Nat):Int):=(by rw[length_append,aS,aS,hc,aO (by omega) (by omega)];omega);have le:eqL (pre++ay x' t.x1 t.column).length (pre++ay x' (aL l)[i+1] t.column).length=true:=(by apply abA;rw[length_append,length_append,aS,aS]);have dc:decide (bJ l (aL l)[i]=t.column)=true:=(by simpa using hc);simp only[wd,s3,le,dc,bind_some,cond_true];cases hd:decide ((((ay (aL l)[i] (aL l)[i+1] (bJ l (aL l)[i])).length:Nat):Int)>0)with
     |true=>simp only[cond_true,bind_some,aB]
     |false=>
      have hz:t.column=[]:=by
       rw[aS,hc]at hd;simp at hd;exact hd
      have hz2:bJ l (aL l)[i]=[]:=(by rw[hc,hz]);simp only[cond_false,bind_some,aB,hz,hz2,ay,map_nil,List.append_nil,cond_true]
    ·have ww2:aR ((aJ l).take (i+1))=aR ((aJ l).take i)++ay (aL l)[i] (aL l)[i+1] (bJ l (aL l)[i]):=(by rw[tk2,SH _ t hc S,e0]);have dc:decide (bJ l (aL l)[i]=t.column)=false:=(by simpa using hc);rw[ww2];simp only[dc,bind_some];cases decide ((((ay (aL l)[i] (aL l)[i+1] (bJ l (aL l)[i])).length:Nat):Int)>0)<;>simp only[cond_true,cond_false,bind_some,aB]
  ·have d:decide ((((aJ l).length:Nat):Int) < (((aJ l).length:Nat):Int))=false:=(by simp);simp only[jO,mx,d,cond_false,List.take_length,aB,cond_true]
 rw[key];simp only[bind_some,bB,aB,cond_true]
abbrev ad9 (t:uf):Prop:=t.area.length<=900∧t.from_.length*8<=140737488355328
theorem ab4 {t:uf} (h:ad9 t):Kt t=some t:=by
 unfold Kt;have h2:=h.2;rw[rO (by omega),bind_some,show CO t.from_=some t.from_ from Ot (b:=8) (by omega) (by simp only[maxLen];omega),bind_some];simp only[bB,aB,cond_true]
theorem Gz {n:Nat} {land:List uf} {id:Int} (h:∀ t∈land,ad9 t) (hl:land.length < 1099511627776) (hn:land.length < n):CQ n land id=some (findLot land id):=by
 unfold CQ;have:=jG (l:=land) (step:=CP land id) (fun i=>(i:Int)) (fun t=>t.id==id) () (fun i=>(land.getD i afA,true)) (fun i hi=>?_) ?_ n hn
 ·rw[show ((0:Nat):Int)=0 from rfl]at this;rw[this];unfold findLot;rcases S9 (fun t:uf=>t.id==id) land with ⟨i,hi,h1,h2⟩ |⟨h1,h2⟩
  ·rw[h1,h2];simp[hi]
  ·rw[h1,h2];rfl
 ·simp only[CP,bq hi,cond_true,aZ hi,bind_some,ab4 (h _ (getElem_mem hi))];cases land[i].id==id with
  |true=>simp[hi]
  |false=>simp only[cond_false];rw[ax (by omega)]
 ·simp[CP]
theorem M8 {land:List uf} (h:∀ t∈land,ad9 t) (id:Int):ad9 (findLot land id).1:=by
 unfold findLot;split
 ·rename_i t ht;exact h t (List.mem_of_find?_eq_some ht)
 ·simp[ad9,afA]
structure Tk (t:dR):Prop where
 rules:t.plan_rules.length<=20
 ruleOk:∀ r∈t.plan_rules,afG r
 zones:t.plan_zones.length<=20
 land:t.land.length<=20
 lots:∀ l∈t.land,ad9 l
 easements:t.easements.length<=5
 areas:∀ e∈t.easements,e.area.length<=10
theorem OJ {α:Type} (p:α->Bool):∀ l:List α,((List.range l.length).filter fun i=>(l[i]?).any p).filterMap (fun i=>l[i]?)=l.filter p
 |[]=>rfl
 |a::l=>by
  have ih:=OJ p l;rw[length_cons,List.range_succ_eq_map,List.filter_cons,List.filter_cons];have e:(List.filter (fun i=>((a::l)[i]?).any p) (List.map Nat.succ (List.range l.length))).filterMap (fun i=>(a::l)[i]?)=l.filter p:=by
   rw[List.filter_map,List.filterMap_map];exact ih
  cases hp:p a with
  |true=>simp[hp];simpa using e
  |false=>simp[hp];simpa using e
def FM (t:dR) (lot day:Int):List eU:=bif (findLot t.land lot).2 then t.plan_rules.filter (mg (ofZ t.plan_zones (findLot t.land lot).1.area) day)else []
theorem Jf (t:dR) (lot day:Int):(FM t lot day).length<=t.plan_rules.length:=by
 unfold FM;cases (findLot t.land lot).2 with
 |true=>exact length_filter_le _ _
 |false=>simp
theorem zF {n:Nat} {t:dR} (h:Tk t) (lot day:Int) (hn:2000<=n):lY n t lot day=some (FM t lot day):=by
 obtain⟨h1,h2,h3,h4,h5,h6,h7⟩:=h;unfold lY FM;rw[Gz h5 (by omega) (by omega)];simp only[bind_some];have lw:=M8 h5 lot;cases (findLot t.land lot).2 with
 |false=>rfl
 |true=>
  have zl:=agH t.plan_zones (findLot t.land lot).1.area;simp only[Bool.not_true,cond_false,cond_true];rw[XQ _ _ (by simp only;omega) lw.1 hn];simp only[bind_some,bB,aB,cond_true];rw[Pb _ _ _ h2 (by simp only;omega) (by omega) hn];simp only[bind_some,length_nil,aB,cond_true];generalize hZ:ofZ t.plan_zones (findLot t.land lot).1.area=Z at*;have hm:∀ i∈M5 t.plan_rules Z day,i < t.plan_rules.length:=fun i hi=>List.mem_range.1 (mem_filter.1 hi).1;have hlen:(M5 t.plan_rules Z day).length<=t.plan_rules.length:=by
   have:=length_filter_le (fun i=>(t.plan_rules[i]?).any (mg Z day)) (List.range t.plan_rules.length);rw[List.length_range]at this;exact this
  rw[<- OJ];rw[show ((List.range t.plan_rules.length).filter fun i=>(t.plan_rules[i]?).any (mg Z day))=M5 t.plan_rules Z day from rfl];generalize M5 t.plan_rules Z day=idx at*
  have:=bF (l:=idx) (step:=lH t (idx.map fun (i:Nat)=>(i:Int))) (fun i (s:List eU)=>((i:Int),s)) (fun i s=>s++(t.plan_rules[i]?).toList) (fun s=>s) (fun i s=>s.length<=i)
   (fun i hi s hs=>?_) (fun s hs=>by simp[lH]) n (by omega) [] (Nat.le_refl _)
  ·rw[show ((0:Nat):Int)=0 from rfl]at this;rw[this];simp only[bind_some,bB,aB,cond_true];congr 1;have gen:∀ (ys:List Nat) (s:List eU),ys.foldl (fun s i=>s++(t.plan_rules[i]?).toList) s=s++ys.filterMap fun i=>t.plan_rules[i]? :=by
    intro ys
    induction ys with
    |nil=>intro s;simp
    |cons y ys ih=>
     intro s;rw[foldl_cons,ih,List.filterMap_cons];cases t.plan_rules[y]?<;>simp
   exact gen idx []
  ·have hk:=hm _ (getElem_mem hi);have e1:(idx.map fun (i:Nat)=>(i:Int)).length=idx.length:=length_map _;have g1:at? (idx.map fun (i:Nat)=>(i:Int)) (((0:Nat):Int)+((i:Nat):Int))=some ((idx[i]:Nat):Int):=(by rw[bV (by rw[e1];exact hi)];simp);have ap:bG s.length s.length (sub ([t.plan_rules[idx[i]]]:List eU) 0 1).length 1 232=true:=bE (n:=1) (by omega) (by simp only[maxLen];omega);simp only[lH,e1,bq hi,cond_true,bD hi,g1,bind_some,aZ hk,ap,dF,aB,ax (show i < 9223372036854775807 by omega)];rw[List.getElem?_eq_getElem hk];exact⟨rfl,by simp;omega⟩
def FN:ByteArray:=⟨#[115,101,116,98,97,99,107]⟩
def aea (r:eU):Bool:=match r.test_args with
 |[a,b]=>r.kind==0&&(r.test_op==12&&(a.op==0&&(decide (a.args.length=0)&&(b.op==1&&(sEq b.s FN&&decide (b.args.length=0))))))
 |_=>false
def agJ (r:eU):Int:=match r.test_args with
 |[a,_]=>a.n
 |_=>0
theorem GN (r:eU):∃ m,mW r=some (m,aea r)∧(aea r=true->m=agJ r):=by
 unfold mW aea agJ;by_cases h2:r.test_args.length=2
 ·match hm:r.test_args,h2 with
  |[a,b],_=>
   have l2:(((([a,b]:List pQ).length:Nat):Int) != 2)=false:=rfl;have g0:at? [a,b] 0=some a:=rfl;have g1:at? [a,b] 1=some b:=rfl;have la:(((a.args.length:Nat):Int)==0)=decide (a.args.length=0):=(by rw[Bool.eq_iff_iff];simp);have lb:(((b.args.length:Nat):Int)==0)=decide (b.args.length=0):=(by rw[Bool.eq_iff_iff];simp);simp only[l2,l8,bind_some,g0,g1,la,lb,bne];rw[show (ByteArray.toList b.s==ByteArray.toList (⟨#[115,101,116,98,97,99,107]⟩))=sEq b.s FN from rfl];generalize sEq b.s FN=q;generalize (a.op==0)=q1;generalize (b.op==1)=q2;generalize decide (a.args.length=0)=q3;generalize decide (b.args.length=0)=q4;cases r.kind==0<;>cases r.test_op==12<;>cases q<;>cases q1<;>cases q2<;>cases q3<;>cases q4<;>exact⟨_,rfl,fun h=>by first |rfl |cases h⟩
 ·have l2:(((r.test_args.length:Nat):Int) != 2)=true:=by rw[bne_iff_ne];omega
  have e:(match r.test_args with
   |[a,b]=>r.kind==0&&(r.test_op==12&&(a.op==0&&(decide (a.args.length=0)&&(b.op==1&&(sEq b.s FN&&decide (b.args.length=0))))))
   |_=>false)=false:=by
   match hm:r.test_args with
   |[]=>rfl
   |[_]=>rfl
   |[_,_]=>rw[hm]at h2;simp at h2
   |_::_::_::_=>rfl
  rw[e,l2];refine⟨0,?_,fun h=>by cases h⟩;cases r.kind != 0<;>cases r.test_op != 12<;>rfl
def distE (t:dR) (lot day:Int):Int:=(FM t lot day).foldl (fun m r=>bif aea r then max m (agJ r)else m) 0
theorem mh {n:Nat} {t:dR} (h:Tk t) (lot day:Int) (hn:2000<=n):jg n t lot day=some (distE t lot day):=by
 have hl:=Jf t lot day;have h1:=h.rules;unfold jg distE;rw[zF h lot day hn];simp only[bind_some];generalize FM t lot day=l at*;have:=rM (l:=l) (step:=jf l) (fun i (s:Int)=>(s,((i:Nat):Int))) (fun r m=>bif aea r then max m (agJ r)else m) (fun s=>s) (fun i hi s=>?_) (fun s=>by simp[jf]) n (by omega) 0
 ·rw[show ((0:Nat):Int)=0 from rfl]at this;rw[this];rfl
 ·obtain⟨m,e1,e2⟩:=GN l[i];simp only[jf,bq hi,cond_true,bD hi,bV hi,bind_some,e1,l8,ax (show i < 9223372036854775807 by omega)];cases hs:aea l[i]with
  |true=>rw[e2 hs]
  |false=>rfl
def Qp (r:eU):aW:=⟨r.plane_side,r.plane_base,r.plane_num,r.plane_den⟩
def planesE (t:dR) (lot day:Int):List aW:=((FM t lot day).filter fun r=>r.kind==1).map Qp
theorem OL (t:dR) (lot day:Int):(planesE t lot day).length<=t.plan_rules.length:=by
 unfold planesE;rw[length_map];exact Nat.le_trans (length_filter_le _ _) (Jf t lot day)
theorem kL {n:Nat} {t:dR} (h:Tk t) (lot day:Int) (hn:2000<=n):gM n t lot day=some (planesE t lot day):=by
 have hl:=Jf t lot day;have h1:=h.rules;unfold gM planesE;rw[zF h lot day hn];simp only[bind_some,length_nil,aB,cond_true];generalize FM t lot day=l at*
 have:=bF (l:=l) (step:=kG l) (fun i (s:List aW)=>((i:Int),s)) (fun r s=>bif r.kind==1 then s++[Qp r]else s) (fun s=>s) (fun i s=>s.length<=i)
  (fun i hi s hs=>?_) (fun s hs=>by simp[kG]) n (by omega) [] (Nat.le_refl _)
 ·rw[show ((0:Nat):Int)=0 from rfl]at this;rw[this];simp only[bind_some,bB,aB,cond_true];congr 1;have gen:∀ (ys:List eU) (s:List aW),ys.foldl (fun s r=>bif r.kind==1 then s++[Qp r]else s) s=s++(ys.filter fun r=>r.kind==1).map Qp:=by
   intro ys
   induction ys with
   |nil=>intro s;simp
   |cons y ys ih=>
    intro s;rw[foldl_cons,ih,List.filter_cons];cases y.kind==1<;>simp
  exact gen l []
 ·have ap:bG s.length s.length (sub ([(aW.mk (l[i]).plane_side (l[i]).plane_base (l[i]).plane_num (l[i]).plane_den)]:List aW) 0 1).length 1 32=true:=bE (n:=1) (by omega) (by simp only[maxLen];omega);simp only[kG,bq hi,cond_true,bD hi,bV hi,bind_some,l8,ap,dF,aB,ax (show i < 9223372036854775807 by omega)];cases (l[i]).kind==1<;>refine⟨rfl,?_⟩<;>simp<;>omega
def OM (a r:aj):aj:=⟨min a.x0 r.x0,min a.y0 r.y0,max a.x1 r.x1,max a.y1 r.y1⟩
def Qq:List aj->aj
 |[]=>⟨0,0,0,0⟩
 |r::l=>l.foldl OM r
def wM (a:List aj):aj×Bool:=bif decide (a≠[])&&rightL a then (Qq a,true)else (⟨0,0,0,0⟩,false)
theorem Z6 {n:Nat} {a:List aj} (ha:a≠[]) (hv:∀ r∈a,OkR r=true) (hl:a.length<=900) (hn:2000<=n):KE n a=some (Qq a,true):=by
 unfold KE;have:=rM (l:=a.zip (List.range a.length)) (step:=zk a) (fun i (s:Bool×Int×Int×Int×Int)=>(s.1,((i:Nat):Int),s.2)) (fun p s=>bif !s.1 then (true,p.1.x0,p.1.y0,p.1.x1,p.1.y1)else (s.1,min s.2.1 p.1.x0,min s.2.2.1 p.1.y0,max s.2.2.2.1 p.1.x1,max s.2.2.2.2 p.1.y1)) (fun s=>s) (fun i hi s=>?_) (fun s=>?_) n (by simp;omega) (false,0,0,0,0)
 ·rw[show ((0:Nat):Int)=0 from rfl]at this;simp only at this;rw[this];cases a with
  |nil=>exact absurd rfl ha
  |cons r l=>
   have gen:∀ (l:List aj) (k:List Nat) (s:aj),l.length<=k.length->(l.zip k).foldl (fun (s:Bool×Int×Int×Int×Int) p=>bif !s.1 then (true,p.1.x0,p.1.y0,p.1.x1,p.1.y1)else (s.1,min s.2.1 p.1.x0,min s.2.2.1 p.1.y0,max s.2.2.2.1 p.1.x1,max s.2.2.2.2 p.1.y1)) (true,s.x0,s.y0,s.x1,s.y1)=(true,(l.foldl OM s).x0,(l.foldl OM s).y0,(l.foldl OM s).x1,(l.foldl OM s).y1):=by
    intro l
    induction l with
    |nil=>intro k s _;rfl
    |cons r l ih=>
     intro k s hk;cases k with
     |nil=>simp at hk
     |cons j k=>
      rw[List.zip_cons_cons,foldl_cons,foldl_cons];exact ih k (OM s r) (by simpa using hk)
   rw[length_cons,List.range_succ_eq_map,List.zip_cons_cons,foldl_cons];simp only[Bool.not_false,cond_true];rw[gen l _ r (by simp)];rfl
 ·have hi':i < a.length:=by simpa using hi
  obtain⟨s1,s2,s3,s4,s5⟩:=s;have ok:=hv _ (getElem_mem hi');simp only[zk,bq hi',cond_true,aZ hi',bind_some,o9,ok,Bool.not_true,cond_false,l8,List.getElem_zip,ax (show i < 9223372036854775807 by omega)]
 ·obtain⟨s1,s2,s3,s4,s5⟩:=s;have:(a.zip (List.range a.length)).length=a.length:=by simp
  simp only[this,zk,jV,cond_false]
theorem K5 {n:Nat} (a:List aj) (hl:a.length<=900) (hn:2000<=n):wX n a=some (wM a):=by
 unfold wX wM;cases a with
 |nil=>rfl
 |cons r l=>
  have e:((((r::l).length:Nat):Int)==0)=false:=by simp;omega
  have e2:decide (r::l≠[])=true:=by simp
  rw[jl (by omega) (by omega) (by omega),e,e2];simp only[cond_false,bind_some,Bool.true_and];cases hr:rightL (r::l)with
  |false=>rfl
  |true=>
   simp only[Bool.not_true,cond_false];rw[Z6 (by simp) (bn hr).1 hl hn];rfl
theorem Tm:∀ (l:List aj) (r:aj),OkR r=true->(∀ q∈l,OkR q=true)->OkR (l.foldl OM r)=true
 |[],_,h,_=>h
 |q::l,r,h,hl=>by
  rw[foldl_cons];refine Tm l _ ?_ fun p hp=>hl p (mem_cons_of_mem _ hp);have:=hl q mem_cons_self;rw[tF]at*;unfold OM;simp only;omega
theorem ab5 {a:List aj} (h:a≠[]) (hr:rightL a=true):wM a=(Qq a,true)∧OkR (Qq a)=true:=by
 unfold wM;have e2:decide (a≠[])=true:=by simpa using h
 rw[hr,e2];refine⟨rfl,?_⟩;have hv:=(bn hr).1;cases a with
 |nil=>exact absurd rfl h
 |cons r l=>exact Tm l r (hv r mem_cons_self) fun q hq=>hv q (mem_cons_of_mem _ hq)
def rR (base may:List aj):List aj:=base.flatMap fun r=>(may.filter (fA r)).map (bI r)
theorem Z7 (base may:List aj) (x y:Int):bf (rR base may) x y=(bf base x y&&bf may x y):=by
 unfold rR;rw[FJ,Bool.eq_iff_iff,and_eq_true,any_eq_true];constructor
 ·rintro⟨r,hr,h⟩;obtain⟨q,hq,hh⟩:=(kK _ _ _).1 h;obtain⟨m,hm,rfl⟩:=mem_map.1 hq;rw[KZ,and_eq_true]at hh;exact⟨(kK _ _ _).2 ⟨r,hr,hh.1⟩,(kK _ _ _).2 ⟨m,(mem_filter.1 hm).1,hh.2⟩⟩
 ·rintro⟨h1,h2⟩;obtain⟨r,hr,hh1⟩:=(kK _ _ _).1 h1;obtain⟨m,hm,hh2⟩:=(kK _ _ _).1 h2;refine⟨r,hr,(kK _ _ _).2 ⟨bI r m,mem_map.2 ⟨m,mem_filter.2 ⟨hm,?_⟩,rfl⟩,by rw[KZ,hh1,hh2];rfl⟩⟩;cases hb:fA r m with
  |true=>rfl
  |false=>have:=Wp hb x y;rw[hh1,hh2]at this;cases this
theorem Z8 {base may:List aj} (hb:Ae base) (h1:may.length<=1) (hm:∀ q∈may,OkR q=true):Ae (rR base may):=by
 refine⟨?_,fun q hq=>?_⟩
 ·unfold rR;rw[List.pairwise_flatMap];refine⟨fun r hr=>?_,hb.1.imp fun {r s} hrs p hp q hq x y g1 g2=>?_⟩
  ·have:((may.filter (fA r)).map (bI r)).length<=1:=by rw[length_map];exact Nat.le_trans (length_filter_le _ _) h1
   match (may.filter (fA r)).map (bI r),this with
   |[],_=>exact List.Pairwise.nil
   |[_],_=>simp
   |_::_::_,h=>simp at h
  ·obtain⟨m,_,rfl⟩:=mem_map.1 hp;obtain⟨m',_,rfl⟩:=mem_map.1 hq;rw[KZ,and_eq_true]at g1 g2;exact hrs x y g1.1 g2.1
 ·obtain⟨r,hr,h⟩:=mem_flatMap.1 hq;obtain⟨m,hm',rfl⟩:=mem_map.1 h;obtain⟨hm1,hm2⟩:=mem_filter.1 hm';exact XT (hb.2 r hr) (hm m hm1) hm2
theorem Z9 {base may:List aj} {X Y:List Int} (hx:∀ r∈base,r.x0∈X∧r.y0∈Y) (hm:∀ r∈may,r.x0∈X∧r.y0∈Y):BF X Y (rR base may):=by
 intro q hq;obtain⟨r,hr,h⟩:=mem_flatMap.1 hq;obtain⟨m,hm',rfl⟩:=mem_map.1 h;have a:=hx r hr;have b:=hm m (mem_filter.1 hm').1;exact⟨Qo a.1 b.1,Qo a.2 b.2⟩
def rT (h:Int) (l:List aj) (es:List aV):List aj:=es.foldl (fun l e=>bif decide (e.top>=h)then l else e.area.foldl Eh l) l
theorem FO {n:Nat} (may:List aj) (z:Int) (r:aj) (out:List aj) (ho:out.length<=1000000) (h1:may.length<=1000) (hn:2000<=n):
 iter (jP (may,z) r) n ((0:Int),out)=some (out++(may.filter (fA r)).map (bI r)):=by
 have:=bF (l:=may) (step:=jP (may,z) r) (fun i (s:List aj)=>((i:Int),s)) (fun m s=>bif fA r m then s++[bI r m]else s) (fun s=>s) (fun i s=>s.length<=out.length+i)
  (fun i hi s hs=>?_) (fun s hs=>by simp[jP]) n (by omega) out (Nat.le_refl _)
 ·rw[show ((0:Nat):Int)=0 from rfl]at this;rw[this];congr 1;have gen:∀ (ys:List aj) (s:List aj),ys.foldl (fun s m=>bif fA r m then s++[bI r m]else s) s=s++(ys.filter (fA r)).map (bI r):=by
   intro ys
   induction ys with
   |nil=>intro s;simp
   |cons y ys ih=>
    intro s;rw[foldl_cons,ih,List.filter_cons];cases fA r y<;>simp
  exact gen may out
 ·have ap:bG s.length s.length (sub ([bI r may[i]]:List aj) 0 1).length 1 32=true:=bE (n:=1) (by omega) (by simp only[maxLen];omega);simp only[jP,bq hi,cond_true,bD hi,bV hi,bind_some,BD,l8,ap,dF,aB,ax (show i < 9223372036854775807 by omega)];rw[show (decide ((bI r may[i]).x0 < (bI r may[i]).x1)&&decide ((bI r may[i]).y0 < (bI r may[i]).y1))=fA r may[i]from rfl];cases fA r may[i]<;>refine⟨rfl,?_⟩<;>simp<;>omega
theorem FP {n:Nat} (base may:List aj) (z:Int) (h0:base.length<=1000) (h1:may.length<=1) (hn:2000<=n):
 iter (jQ n base (may,z)) n ((0:Int),([]:List aj))=some (rR base may):=by
 have:=bF (l:=base) (step:=jQ n base (may,z)) (fun i (s:List aj)=>((i:Int),s)) (fun r s=>s++(may.filter (fA r)).map (bI r)) (fun s=>s) (fun i s=>s.length<=i)
  (fun i hi s hs=>?_) (fun s hs=>by simp[jQ]) n (by omega) [] (Nat.le_refl _)
 ·rw[show ((0:Nat):Int)=0 from rfl]at this;rw[this];congr 1;have gen:∀ (ys:List aj) (s:List aj),ys.foldl (fun s r=>s++(may.filter (fA r)).map (bI r)) s=s++rR ys may:=by
   intro ys
   induction ys with
   |nil=>intro s;simp[rR]
   |cons y ys ih=>intro s;rw[foldl_cons,ih];simp[rR]
  exact gen base []
 ·have l1:((may.filter (fA base[i])).map (bI base[i])).length<=1:=by rw[length_map];exact Nat.le_trans (length_filter_le _ _) h1
  simp only[jQ,bq hi,cond_true,aZ hi,bind_some,aB,FO may z base[i] s (by omega) (by omega) hn,ax (show i < 9223372036854775807 by omega)];exact⟨trivial,by rw[length_append];omega⟩
structure agK (X Y:List Int) (es:List aV):Prop where
 ok:∀ e∈es,rightL e.area=true
 x0:∀ e∈es,∀ c∈e.area,c.x0∈X
 x1:∀ e∈es,∀ c∈e.area,c.x1∈X
 y1:∀ e∈es,∀ c∈e.area,c.y1∈Y
 len:∀ e∈es,e.area.length<=200
 size:X.length*Y.length<=200000
theorem M9 {X Y:List Int} (hs:X.length*Y.length<=200000):∀ (cs:List aj),(∀ c∈cs,OkR c=true∧c.x0∈X∧c.x1∈X∧c.y1∈Y)->∀ l,Ae l->BF X Y l->Ae (cs.foldl Eh l)∧BF X Y (cs.foldl Eh l)∧∀ x y,bf (cs.foldl Eh l) x y=(bf l x y&&!bf cs x y)
 |[],_,l,hd,hx=>⟨hd,hx,fun x y=>by simp[bf]⟩
 |c::cs,h,l,hd,hx=>by
  obtain⟨o,a,b,d⟩:=h c mem_cons_self;obtain⟨g1,g2,g3⟩:=M9 hs cs (fun q hq=>h q (mem_cons_of_mem _ hq)) (Eh l c) (Wq hd o) (Ws hd.2 o hx a b d);refine⟨g1,g2,fun x y=>?_⟩;rw[foldl_cons,g3,ad7];have e:bf (c::cs) x y=(jZ c x y || bf cs x y):=by simp[bf,jZ]
  rw[e];cases bf l x y<;>cases jZ c x y<;>cases bf cs x y<;>rfl
theorem FQ {X Y:List Int} {h:Int}:∀ (es:List aV),agK X Y es->∀ l,Ae l->BF X Y l->Ae (rT h l es)∧BF X Y (rT h l es)∧∀ x y,bf (rT h l es) x y=(bf l x y&&es.all fun e=>decide (h<=e.top) || !bf e.area x y)
 |[],_,l,hd,hx=>⟨hd,hx,fun x y=>by simp[rT]⟩
 |e::es,hc,l,hd,hx=>by
  have hc':agK X Y es:=⟨fun a ha=>hc.ok a (mem_cons_of_mem _ ha),fun a ha=>hc.x0 a (mem_cons_of_mem _ ha),fun a ha=>hc.x1 a (mem_cons_of_mem _ ha),fun a ha=>hc.y1 a (mem_cons_of_mem _ ha),fun a ha=>hc.len a (mem_cons_of_mem _ ha),hc.size⟩;have em:e∈e::es:=mem_cons_self;have dd:decide (e.top>=h)=decide (h<=e.top):=rfl;by_cases ht:h<=e.top
  ·have d:decide (h<=e.top)=true:=(by simpa using ht);have e0:rT h l (e::es)=rT h l es:=by
    unfold rT;rw[foldl_cons,dd,d];rfl
   rw[e0];obtain⟨g1,g2,g3⟩:=FQ (h:=h) es hc' l hd hx;refine⟨g1,g2,fun x y=>?_⟩;rw[g3,all_cons,d];simp
  ·have d:decide (h<=e.top)=false:=(by simpa using ht);have e0:rT h l (e::es)=rT h (e.area.foldl Eh l) es:=by
    unfold rT;rw[foldl_cons,dd,d];rfl
   rw[e0];obtain⟨k1,k2,k3⟩:=M9 hc.size e.area (fun c hcm=>⟨(bn (hc.ok e em)).1 c hcm,hc.x0 e em c hcm,hc.x1 e em c hcm,hc.y1 e em c hcm⟩) l hd hx;obtain⟨g1,g2,g3⟩:=FQ (h:=h) es hc' _ k1 k2;refine⟨g1,g2,fun x y=>?_⟩;rw[g3,k3,all_cons,d,Bool.false_or,Bool.and_assoc]
theorem FR {n:Nat} (e:aV) {X Y:List Int} (hs:X.length*Y.length<=200000) (he:∀ c∈e.area,OkR c=true∧c.x0∈X∧c.x1∈X∧c.y1∈Y) (hl:e.area.length<=1000) (l:List aj) (hd:Ae l) (hx:BF X Y l) (hn:1000000<=n):
 iter (jR n e) n ((0:Int),l)=some (e.area.foldl Eh l):=by
 have:=bF (l:=e.area) (step:=jR n e) (fun i (s:List aj)=>((i:Int),s)) (fun c s=>Eh s c) (fun s=>s) (fun i s=>Ae s∧BF X Y s)
  (fun i hi s hs'=>?_) (fun s hs=>by simp[jR]) n (by omega) l ⟨hd,hx⟩
 ·rw[show ((0:Nat):Int)=0 from rfl]at this;exact this
 ·obtain⟨o,a,b,c⟩:=he _ (getElem_mem hi);have hlen:=Z5 hs'.1 hs'.2;simp only[jR,bq hi,cond_true,aZ hi,bind_some,bB,aB,Pf (n:=n) (l:=s) (e.area[i]) (by omega) (by omega) (by omega),ax (show i < 9223372036854775807 by omega)];exact⟨trivial,Wq hs'.1 o,Ws hs'.1.2 o hs'.2 a b c⟩
theorem FT {n:Nat} {X Y:List Int} {h:Int} (es:List aV) (hc:agK X Y es) (hl:es.length<=1000) (l:List aj) (hd:Ae l) (hx:BF X Y l) (hn:1000000<=n):
 iter (jS n es h) n ((0:Int),l)=some (rT h l es):=by
 have:=bF (l:=es) (step:=jS n es h) (fun i (s:List aj)=>((i:Int),s)) (fun e s=>bif decide (e.top>=h)then s else e.area.foldl Eh s) (fun s=>s) (fun i s=>Ae s∧BF X Y s)
  (fun i hi s hs'=>?_) (fun s hs=>by simp[jS]) n (by omega) l ⟨hd,hx⟩
 ·rw[show ((0:Nat):Int)=0 from rfl]at this;exact this
 ·have em:=getElem_mem hi;have al:=hc.len _ em;have hcs:∀ c∈(es[i]).area,OkR c=true∧c.x0∈X∧c.x1∈X∧c.y1∈Y:=fun c hcm=>⟨(bn (hc.ok _ em)).1 c hcm,hc.x0 _ em c hcm,hc.x1 _ em c hcm,hc.y1 _ em c hcm⟩;have r4:=FR (n:=n) es[i] hc.size hcs (by omega) s hs'.1 hs'.2 hn;obtain⟨k1,k2,_⟩:=M9 hc.size (es[i]).area hcs s hs'.1 hs'.2;simp only[jS,bq hi,cond_true,aZ hi,bind_some,aB,r4,l8,ax (show i < 9223372036854775807 by omega)];cases decide ((es[i]).top>=h)with
  |true=>exact⟨trivial,hs'⟩
  |false=>exact⟨trivial,k1,k2⟩
def Tn (base:List aj) (b:aj) (ps:List aW) (es:List aV) (h x y:Int):Bool:=
 bf base x y&&(decide (wL b ps=true∧∀ p∈ps,h<=Pd b p x y)&&es.all fun e=>decide (h<=e.top) || !bf e.area x y)
def afI (l:List aj):List aj×Int:=if l.length>200 then ([],6)else (l,0)
theorem Jg {n:Nat} (base:List aj) (b:aj) (ps:List aW) (es:List aV) {h:Int} (hb:rightL base=true) (hp:ps.length<=1000) (hes:∀ e∈es,rightL e.area=true) (hel:es.length<=5) (hal:∀ e∈es,e.area.length<=10) (hh:1<=h∧h<=4096) (hn:1000000<=n):
 ∃ L,Ae L∧(∀ x y,bf L x y=Tn base b ps es h x y)∧lu n base b ps es h=some (afI (aR (aJ L))):=by
 unfold lu;cases hbase:base with
 |nil=>exact⟨[],⟨List.Pairwise.nil,by simp⟩,fun x y=>by simp[bf,Tn],rfl⟩
 |cons r0 l0=>
  rw[<- hbase];have e0:(((base.length:Nat):Int)==0)=false:=by rw[hbase];simp;omega
  obtain⟨bv,bl,_⟩:=bn hb;obtain⟨r,g1,g2,g3,g4⟩:=Pe (n:=n) b ps hh hp (by omega);obtain⟨may,z⟩:=r;simp only at g2 g3 g4;have hd:=ab2 hb;have dC:=Z8 hd g2 g3
  let cs:=es.flatMap fun e=>e.area
  have hcsl:cs.length<=50:=by
   show (es.flatMap fun e=>e.area).length<=50;rw[List.flatMap_def];have:=xX 10 (es.map fun e=>e.area) fun x hx=>(by obtain⟨e,he,rfl⟩:=mem_map.1 hx;exact hal e he);rw[length_map]at this;omega
  let X:=(base.map (·.x0))++(may.map (·.x0))++(cs.map (·.x0))++(cs.map (·.x1))
  let Y:=(base.map (·.y0))++(may.map (·.y0))++(cs.map (·.y1))
  have hX:X.length<=301:=by show ((base.map (·.x0))++(may.map (·.x0))++(cs.map (·.x0))++(cs.map (·.x1))).length<=301;simp only[length_append,length_map];omega
  have hY:Y.length<=251:=by show ((base.map (·.y0))++(may.map (·.y0))++(cs.map (·.y1))).length<=251;simp only[length_append,length_map];omega
  have hXY:X.length*Y.length<=200000:=Nat.le_trans (Nat.mul_le_mul hX hY) (by omega);have mc:∀ e∈es,∀ c∈e.area,c∈cs:=fun e he c hc=>mem_flatMap.2 ⟨e,he,hc⟩;have hC:agK X Y es:=⟨hes,fun e he c hc=>by simp only[X,mem_append,mem_map];exact .inl (.inr ⟨c,mc e he c hc,rfl⟩),fun e he c hc=>by simp only[X,mem_append,mem_map];exact .inr ⟨c,mc e he c hc,rfl⟩,fun e he c hc=>by simp only[Y,mem_append,mem_map];exact .inr ⟨c,mc e he c hc,rfl⟩,fun e he=>by have:=hal e he;omega,hXY⟩;have cC:BF X Y (rR base may):=Z9 (fun r hr=>⟨by simp only[X,mem_append,mem_map];exact .inl (.inl (.inl ⟨r,hr,rfl⟩)),by simp only[Y,mem_append,mem_map];exact .inl (.inl ⟨r,hr,rfl⟩)⟩) (fun r hr=>⟨by simp only[X,mem_append,mem_map];exact .inl (.inl (.inr ⟨r,hr,rfl⟩)),by simp only[Y,mem_append,mem_map];exact .inl (.inr ⟨r,hr,rfl⟩)⟩);obtain⟨k1,k2,k3⟩:=FQ (h:=h) es hC (rR base may) dC cC;refine⟨rT h (rR base may) es,k1,fun x y=>?_,?_⟩
  ·rw[k3,Z7];unfold Tn;rw[Bool.and_assoc];cases hcb:bf base x y with
   |false=>rfl
   |true=>
    have ig:InG x y:=Da bv hcb;congr 2;rw[Bool.eq_iff_iff,g4,decide_eq_true_eq];exact⟨fun ⟨a,_,c⟩=>⟨a,c⟩,fun⟨a,c⟩=>⟨a,ig,c⟩⟩
  ·have kl:=Z5 k1 k2;rw[e0];simp only[cond_false,g1,bind_some,length_nil,aB,cond_true,FP base may z (by omega) g2 (show 2000<=n by omega),FT es hC (by omega) _ dC cC hn,bB,M7 k1 (by omega) hn];unfold afI;generalize aR (aJ (rT h (rR base may) es))=W;by_cases h2:W.length>200
   ·have:decide (((W.length:Nat):Int)>200)=true:=(by simp;omega);rw[this,if_pos h2];rfl
   ·have:decide (((W.length:Nat):Int)>200)=false:=(by simp;omega);rw[this,if_neg h2];rfl
theorem ab6 {L:List aj} (h:Ae L) (hl:(aR (aJ L)).length<=200):rightL (aR (aJ L))=true∧∀ x y,bf (aR (aJ L)) x y=bf L x y:=by
 have hc:∀ x,eF (aJ L) x=bJ L x:=ow L;have hin:∀ x y,inS (eF (aJ L) x) y=bf L x y:=fun x y=>by rw[hc,(dX h.2 x).2]
 refine⟨KP (jX L) (fun x=>by rw[hc];exact (dX h.2 x).1) (fun x y hxy=>Da h.2 (by rw[<- hin];exact hxy)) hl,fun x y=>?_⟩;rw[KM (jX L),hin]
def lawsE (t:dR) (lot:Int):List aV:=t.easements.filter fun e=>e.lot==lot&&rightL e.area
def areaE (t:dR) (lot:Int):List aj:=(findLot t.land lot).1.area
def baseE (t:dR) (lot day:Int):List aj×Int:=if distE t lot day<=1048576 then Df (areaE t lot) (distE t lot day)else ([],0)
theorem aac {t:dR} {lot day:Int} (h:(baseE t lot day).2=0):rightL (baseE t lot day).1=true:=by
 unfold baseE at*;split
 ·rename_i hd;rw[if_pos hd]at h;exact (ZU (r:=(Df (areaE t lot) (distE t lot day)).1) (by rw[<- h])).2.2.1
 ·rfl
theorem aeb {n:Nat} {t:dR} (h:Tk t) (lot:Int) (hn:2000<=n):iter (gG n t lot) n ((0:Int),([]:List aV))=some (lawsE t lot):=by
 have hl:=h.easements
 have:=bF (l:=t.easements) (step:=gG n t lot) (fun i (s:List aV)=>((i:Int),s)) (fun e s=>bif e.lot==lot&&rightL e.area then s++[e]else s) (fun s=>s) (fun i s=>s.length<=i)
  (fun i hi s hs=>?_) (fun s hs=>by simp[gG]) n (by omega) [] (Nat.le_refl _)
 ·rw[show ((0:Nat):Int)=0 from rfl]at this;rw[this];congr 1;have gen:∀ (ys:List aV) (s:List aV),ys.foldl (fun s e=>bif e.lot==lot&&rightL e.area then s++[e]else s) s=s++ys.filter fun e=>e.lot==lot&&rightL e.area:=by
   intro ys
   induction ys with
   |nil=>intro s;simp
   |cons y ys ih=>
    intro s;rw[foldl_cons,ih,List.filter_cons];cases y.lot==lot&&rightL y.area<;>simp
  exact gen t.easements []
 ·have al:=h.areas _ (getElem_mem hi);have ap:bG s.length s.length (sub ([t.easements[i]]:List aV) 0 1).length 1 40=true:=bE (n:=1) (by omega) (by simp only[maxLen];omega);simp only[gG,bq hi,cond_true,aZ hi,bind_some,jl (n:=n) (l:=(t.easements[i]).area) (by omega) (by omega) (by omega),l8,ap,dF,aB,ax (show i < 9223372036854775807 by omega)];cases (t.easements[i]).lot==lot<;>cases rightL (t.easements[i]).area<;>refine⟨rfl,?_⟩<;>simp<;>omega
def K6 (t:dR) (lot day h x y:Int):Bool:=Tn (baseE t lot day).1 (wM (areaE t lot)).1 (planesE t lot day) (lawsE t lot) h x y
def Qr (t:dR) (lot day:Int) (W:Nat->List aj):Prop:=∀ j:Nat,j < 12->∃ L,Ae L∧(∀ x y,bf L x y=K6 t lot day (3*((j:Int)+1)) x y)∧W j=aR (aJ L)
theorem Ei {n:Nat} (F:Nat) (hF:F<=12) (base:List aj) (es:List aV) (b:aj×Bool) (ps:List aW) (W:Nat->List aj) (hW:∀ j:Nat,j < 12->lu n base b.1 ps es (3*((j:Int)+1))=some (afI (W j))) (hn:2000<=n):
 iter (dS n (F:Int) base es b ps) n ((0:Int),([]:List (List aj)))=some (if ∃ j:Nat,j < F∧(W j).length>200 then .inr ([],6)else .inl ((List.range F).map W)):=by
 have st:∀ j,j < F->dS n (F:Int) base es b ps (((j:Nat):Int),(List.range j).map W)=some (if (W j).length>200 then .inr (.inr ([],6))else .inl (((j+1:Nat):Int),(List.range (j+1)).map W)):=by
  intro j hj;have w:i64.wrap ((j:Int)+1)=((j:Int)+1):=aO (by omega) (by omega);have w3:i64.wrap (3*((j:Int)+1))=3*((j:Int)+1):=aO (by omega) (by omega);have ap:bG ((List.range j).map W).length ((List.range j).map W).length (sub ([W j]:List (List aj)) 0 1).length 1 24=true:=bE (n:=1) (by simp;omega) (by simp only[maxLen,length_map,List.length_range];omega);simp only[dS,bq hj,cond_true,bB,aB,w,w3,hW j (by omega),bind_some];unfold afI;by_cases h2:(W j).length>200
  ·rw[if_pos h2,if_pos h2];rfl
  ·rw[if_neg h2,if_neg h2];simp only[bB,aB,cond_true,ap,dF,List.range_succ,map_append,map_cons,map_nil];rfl
 rcases zT (fun j=>decide ((W j).length>200)) 0 F with ⟨i,h1,h2,h3,h4⟩ |h
 ·have hi:(W i).length>200:=by simpa using h3
  rw[if_pos ⟨i,h2,hi⟩];have:=eO (step:=dS n (F:Int) base es b ps) (fun j=>(((j:Nat):Int),(List.range j).map W)) i (.inr ([],6)) (fun j hj=>?_) ?_ n (by omega)
  ·exact this
  ·have:=h4 j (by omega) hj;rw[st j (by omega),if_neg (by simpa using this)]
  ·rw[st i h2,if_pos hi]
 ·rw[if_neg (by rintro⟨j,hj,hl⟩;have:=h j (by omega) hj;simp at this;omega)];have:=eO (step:=dS n (F:Int) base es b ps) (fun j=>(((j:Nat):Int),(List.range j).map W)) F (.inl ((List.range F).map W)) (fun j hj=>?_) ?_ n (by omega)
  ·exact this
  ·have:=h j (by omega) hj;rw[st j hj,if_neg (by simpa using this)]
  ·simp only[dS,jV,cond_false,aB,cond_true]
theorem GQ {n:Nat} {t:dR} (h:Tk t) (lot day floors:Int) (hn:1000000<=n):
 ((findLot t.land lot).2=false∧envelope_Rooms n t lot day floors=some ([],4))∨
 ((findLot t.land lot).2=true∧¬ ((0<=floors∧floors<=12)∧rightL (areaE t lot)=true)∧envelope_Rooms n t lot day floors=some ([],1))∨
 ((findLot t.land lot).2=true∧((0<=floors∧floors<=12)∧rightL (areaE t lot)=true)∧(baseE t lot day).2≠0∧envelope_Rooms n t lot day floors=some ([],(baseE t lot day).2))∨
 ((findLot t.land lot).2=true∧((0<=floors∧floors<=12)∧rightL (areaE t lot)=true)∧(baseE t lot day).2=0∧∃ W,Qr t lot day W∧envelope_Rooms n t lot day floors=some (if ∃ j:Nat,j < floors.toNat∧(W j).length>200 then ([],6)else ((List.range floors.toNat).map W,0))):=by
 have lw:=M8 h.lots lot;have hland:=h.land;have hfind:CQ n t.land lot=some (findLot t.land lot):=Gz h.lots (by omega) (by omega);unfold envelope_Rooms;rw[hfind];simp only[bind_some];cases hf:(findLot t.land lot).2 with
 |false=>exact .inl ⟨rfl,rfl⟩
 |true=>
  refine .inr ?_;rw[show (findLot t.land lot).1.area=areaE t lot from rfl]at*;rw[jl (by have:=lw.1;unfold areaE;omega) (by have:=lw.1;unfold areaE;omega) (by omega)];simp only[Bool.not_true,cond_false,bind_some,l8];by_cases hok:(0<=floors∧floors<=12)∧rightL (areaE t lot)=true
  ·obtain⟨⟨f0,f12⟩,hr⟩:=hok;have d0:decide (floors < 0)=false:=(by simp;omega);have d12:decide (floors>12)=false:=(by simp;omega);refine .inr ?_;rw[d0,d12,hr,mh h lot day (by omega)];simp only[cond_false,bind_some,Bool.not_true];obtain⟨F,rfl⟩:∃ F:Nat,floors=(F:Int):=⟨floors.toNat,by omega⟩;have hF:(F:Int).toNat=F:=(by omega);have hwl:=OL t lot day;have hrl:=h.rules;have fin:∀ base:List aj,rightL base=true->(baseE t lot day).1=base->∃ W,Qr t lot day W∧(bif eqL 0 ([]:List aV).length then (iter (gG n t lot) n ((0:Int),([]:List aV))).bind fun w1=>(wX n (areaE t lot)).bind fun r7=>(gM n t lot day).bind fun r8=>bif eqL 0 ([]:List (List aj)).length then dw (iter (dS n (F:Int) base w1 r7 r8) n ((0:Int),([]:List (List aj)))) fun w2=>bif eqL (sub w2 0 w2.length).length w2.length then some ((sub w2 0 w2.length),(0:Int))else none else none else none:Option (List (List aj)×Int))=some (if ∃ j:Nat,j < F∧(W j).length>200 then ([],6)else ((List.range F).map W,0)):=by
    intro base hb hbe;have hex:∀ j:Nat,∃ V:List aj,j < 12->(∃ L,Ae L∧(∀ x y,bf L x y=K6 t lot day (3*((j:Int)+1)) x y)∧V=aR (aJ L))∧lu n base (wM (areaE t lot)).1 (planesE t lot day) (lawsE t lot) (3*((j:Int)+1))=some (afI V):=by
     intro j;by_cases hj:j < 12
     ·obtain⟨L,l1,l2,l3⟩:=Jg (n:=n) base (wM (areaE t lot)).1 (planesE t lot day) (lawsE t lot) (h:=3*((j:Int)+1)) hb (by omega) (fun e he=>by have:=(mem_filter.1 he).2;rw[and_eq_true]at this;exact this.2) (Nat.le_trans (length_filter_le _ _) h.easements) (fun e he=>h.areas e (mem_filter.1 he).1) (by omega) hn;exact⟨_,fun _=>⟨⟨L,l1,fun x y=>by rw[l2];unfold K6;rw[hbe],rfl⟩,l3⟩⟩
     ·exact⟨[],fun h=>absurd h hj⟩
    obtain⟨W,hW⟩:=Classical.axiomOfChoice hex;refine⟨W,fun j hj=>(hW j hj).1,?_⟩;rw[aeb h lot (by omega),K5 (areaE t lot) lw.1 (by omega),kL h lot day (by omega)];simp only[length_nil,aB,cond_true,bind_some];rw[Ei F (by omega) base (lawsE t lot) (wM (areaE t lot)) (planesE t lot day) W (fun j hj=>(hW j hj).2) (by omega)];split
    ·rfl
    ·simp only[gm,bB,aB,cond_true]
   by_cases hd:distE t lot day<=1048576
   ·have dd:decide (distE t lot day<=1048576)=true:=(by simpa using hd);have be:baseE t lot day=Df (areaE t lot) (distE t lot day):=(by unfold baseE;rw[if_pos hd]);rw[dd];simp only[cond_true,XP (n:=n) (a:=areaE t lot) (d:=distE t lot day) lw.1 (by omega),bind_some,<- be];by_cases he:(baseE t lot day).2=0
    ·have e1:((baseE t lot day).2 != 0)=false:=(by simp[he]);rw[e1];simp only[cond_false,aB,cond_true,gm];obtain⟨W,w1,w2⟩:=fin (baseE t lot day).1 (aac he) rfl;exact .inr ⟨trivial,⟨⟨f0,f12⟩,trivial⟩,he,W,w1,by rw[hF];exact w2⟩
    ·have e1:((baseE t lot day).2 != 0)=true:=(by simp[he]);rw[e1];exact .inl ⟨trivial,⟨⟨f0,f12⟩,trivial⟩,he,rfl⟩
   ·have dd:decide (distE t lot day<=1048576)=false:=(by simpa using hd);have be:baseE t lot day=([],0):=(by unfold baseE;rw[if_neg hd]);rw[dd];simp only[cond_false,length_nil,aB,cond_true,gm];obtain⟨W,w1,w2⟩:=fin [] rfl (by rw[be]);exact .inr ⟨trivial,⟨⟨f0,f12⟩,trivial⟩,by rw[be],W,w1,by rw[hF];exact w2⟩
  ·refine .inl ⟨trivial,hok,?_⟩;have e:(bif decide (floors < 0)then true else bif decide (floors>12)then true else !rightL (areaE t lot))=true:=by
    by_cases h0:floors < 0
    ·have:decide (floors < 0)=true:=(by simpa using h0);rw[this];rfl
    ·by_cases h12:floors>12
     ·have a:decide (floors < 0)=false:=(by simpa using h0);have b:decide (floors>12)=true:=(by simpa using h12);rw[a,b];rfl
     ·have a:decide (floors < 0)=false:=(by simpa using h0);have b:decide (floors>12)=false:=(by simpa using h12);rw[a,b];cases hr:rightL (areaE t lot)with
      |false=>rfl
      |true=>exact absurd ⟨⟨by omega,by omega⟩,hr⟩ hok
   rw[e];rfl
abbrev XU (t:dR):Prop:=∀ l∈t.land,l.from_.length*8<=140737488355328
theorem Na {α W O:Type} {l:List α} {step:Int->Option (Int ⊕ (W ⊕ O))} (p:α->Bool) (w:W) (o:O)
 (h:∀ i (hi:i < l.length),step (i:Int)=some (bif p l[i]then .inr (.inr o)else .inl ((i+1:Nat):Int)))
 (hend:step (l.length:Int)=some (.inr (.inl w))) (n:Nat) (hn:l.length < n):iter step n (0:Int)=some (bif l.any p then .inr o else .inl w):=by
 have:=jG (l:=l) (step:=step) (fun i=>((i:Nat):Int)) p w (fun _=>o) h hend n hn;rw[show ((0:Nat):Int)=0 from rfl]at this;rw[this,<- mH];cases kS p l<;>rfl
def afJ (t:dR):Bool:=
 (decide (t.plan_rules.length<=10)&&(decide (t.plan_zones.length<=6)&&(decide (t.plan_defs.length<=20)&&(decide (t.plan_tables.length<=20)&&(decide (t.land.length<=5)&&(decide (t.easements.length<=5)&&decide (t.built.length<=6)))))))&&
 (!(t.plan_rules.any fun r=>decide (r.zones.length>5) || decide (r.except.length>5))&&(!(t.land.any fun l=>decide (l.area.length>10))&&!(t.easements.any fun e=>decide (e.area.length>10))))
theorem aia {a b:Nat}:decide ((a:Int)>(b:Int))=!decide (a<=b):=by
 by_cases h:a<=b
 ·have:¬ ((a:Int)>(b:Int)):=by omega
  simp[h,this]
 ·have:(a:Int)>(b:Int):=by omega
  simp only[this,h,decide_true,decide_false,Bool.not_false]
theorem ab7 {n:Nat} (t:dR) (hn:2000<=n):Qd n t=some (afJ t):=by
 unfold Qd afJ;simp only[show (10:Int)=((10:Nat):Int)from rfl,show (6:Int)=((6:Nat):Int)from rfl,show (20:Int)=((20:Nat):Int)from rfl,show (5:Int)=((5:Nat):Int)from rfl,aia,l8,bind_some];cases hA:(decide (t.plan_rules.length<=10)&&(decide (t.plan_zones.length<=6)&&(decide (t.plan_defs.length<=20)&&(decide (t.plan_tables.length<=20)&&(decide (t.land.length<=5)&&(decide (t.easements.length<=5)&&decide (t.built.length<=6)))))))with
 |false=>
  have e:(bif !decide (t.plan_rules.length<=10)then true else bif !decide (t.plan_zones.length<=6)then true else bif !decide (t.plan_defs.length<=20)then true else bif !decide (t.plan_tables.length<=20)then true else bif !decide (t.land.length<=5)then true else bif !decide (t.easements.length<=5)then true else !decide (t.built.length<=6))=true:=by
   revert hA;cases decide (t.plan_rules.length<=10)<;>cases decide (t.plan_zones.length<=6)<;>cases decide (t.plan_defs.length<=20)<;>cases decide (t.plan_tables.length<=20)<;>cases decide (t.land.length<=5)<;>cases decide (t.easements.length<=5)<;>cases decide (t.built.length<=6)<;>simp
  rw[e];rfl
 |true=>
  have e:(bif !decide (t.plan_rules.length<=10)then true else bif !decide (t.plan_zones.length<=6)then true else bif !decide (t.plan_defs.length<=20)then true else bif !decide (t.plan_tables.length<=20)then true else bif !decide (t.land.length<=5)then true else bif !decide (t.easements.length<=5)then true else !decide (t.built.length<=6))=false:=by
   revert hA;cases decide (t.plan_rules.length<=10)<;>cases decide (t.plan_zones.length<=6)<;>cases decide (t.plan_defs.length<=20)<;>cases decide (t.plan_tables.length<=20)<;>cases decide (t.land.length<=5)<;>cases decide (t.easements.length<=5)<;>cases decide (t.built.length<=6)<;>simp
  simp only[and_eq_true,decide_eq_true_eq]at hA;rw[e];simp only[cond_false,Bool.true_and];rw[Na (l:=t.plan_rules) (fun r=>decide (r.zones.length>5) || decide (r.except.length>5)) () false (fun i hi=>?_) (by simp[IV]) n (by omega)]
  ·cases (t.plan_rules.any fun r=>decide (r.zones.length>5) || decide (r.except.length>5))with
   |true=>rfl
   |false=>
    simp only[cond_false,gm];rw[Na (l:=t.land) (fun l=>decide (l.area.length>10)) () false (fun i hi=>?_) (by simp[IW]) n (by omega)]
    ·cases (t.land.any fun l=>decide (l.area.length>10))with
     |true=>rfl
     |false=>
      simp only[cond_false,gm];rw[Na (l:=t.easements) (fun e=>decide (e.area.length>10)) () false (fun i hi=>?_) (by simp[IX]) n (by omega)]
      ·cases (t.easements.any fun e=>decide (e.area.length>10))<;>rfl
      ·have d:decide ((((t.easements[i]).area.length:Nat):Int)>10)=decide ((t.easements[i]).area.length>10):=(by rw[Bool.eq_iff_iff,decide_eq_true_eq,decide_eq_true_eq];omega);simp only[IX,bq hi,cond_true,aZ hi,bind_some,d,Option.map_some,l8,ax (show i < 9223372036854775807 by omega)]
    ·have d:decide ((((t.land[i]).area.length:Nat):Int)>10)=decide ((t.land[i]).area.length>10):=(by rw[Bool.eq_iff_iff,decide_eq_true_eq,decide_eq_true_eq];omega);simp only[IW,bq hi,cond_true,aZ hi,bind_some,d,Option.map_some,l8,ax (show i < 9223372036854775807 by omega)]
  ·have d1:decide ((((t.plan_rules[i]).zones.length:Nat):Int)>5)=decide ((t.plan_rules[i]).zones.length>5):=(by rw[Bool.eq_iff_iff,decide_eq_true_eq,decide_eq_true_eq];omega);have d2:decide ((((t.plan_rules[i]).except.length:Nat):Int)>5)=decide ((t.plan_rules[i]).except.length>5):=(by rw[Bool.eq_iff_iff,decide_eq_true_eq,decide_eq_true_eq];omega);simp only[IV,bq hi,cond_true,aZ hi,bind_some,d1,d2,Option.map_some,l8,ax (show i < 9223372036854775807 by omega)];cases decide ((t.plan_rules[i]).zones.length>5)<;>cases decide ((t.plan_rules[i]).except.length>5)<;>rfl
theorem agL {t:dR} (h:afJ t=true) (hf:XU t):Tk t:=by
 unfold afJ at h;simp only[and_eq_true,decide_eq_true_eq,Bool.not_eq_true',any_eq_false,Bool.or_eq_true,not_or]at h;obtain⟨⟨h1,h2,h3,h4,h5,h6,h7⟩,g1,g2,g3⟩:=h;refine⟨by omega,fun r hr=>?_,by omega,by omega,fun l hl=>?_,by omega,fun e he=>?_⟩
 ·have:=g1 r hr;exact⟨by omega,by omega⟩
 ·have:=g2 l hl;exact⟨by omega,hf l hl⟩
 ·have:=g3 e he;omega
def exTown:dR:=(dR.mk [] [] [] [eU.mk ⟨#[97]⟩ [] [] 0 0 0 false 0 12 0 ⟨#[]⟩ ⟨#[]⟩ [pQ.mk 0 2 ⟨#[]⟩ ⟨#[]⟩ [],pQ.mk 1 0 FN ⟨#[]⟩ []] 0 0 0 0 0 0 0,eU.mk ⟨#[98]⟩ [] [] 0 0 0 false 1 0 0 ⟨#[]⟩ ⟨#[]⟩ [] 0 3 1 1 0 0 0] [] [] [] 0 [uf.mk 1 0 [aj.mk 0 0 10 8] []] [aV.mk 1 [aj.mk 4 2 6 3] 5] [] [] [])
theorem aib:EY=some exTown:=by kernel_rfl
theorem ex_ok:Tk exTown:=by
 refine⟨by decide,fun r hr=>?_,by decide,by decide,fun l hl=>?_,by decide,fun e he=>?_⟩
 ·simp only[exTown,mem_cons,List.not_mem_nil,or_false]at hr;rcases hr with rfl |rfl<;>exact⟨by decide,by decide⟩
 ·simp only[exTown,mem_cons,List.not_mem_nil,or_false]at hl;subst hl;exact⟨by decide,by decide⟩
 ·simp only[exTown,mem_cons,List.not_mem_nil,or_false]at he;subst he;decide
theorem agM:findLot exTown.land 1=(uf.mk 1 0 [aj.mk 0 0 10 8] [],true):=by kernel_rfl
theorem ac5:distE exTown 1 0=2:=by kernel_rfl
theorem Wt:planesE exTown 1 0=[aW.mk 0 3 1 1]:=by kernel_rfl
def exR:List (List aj):=[[⟨2,2,8,6⟩],[⟨3,2,4,6⟩,⟨4,3,6,6⟩,⟨6,2,8,6⟩],[⟨6,2,8,6⟩]]
theorem afK:envelope_Rooms 1000000 exTown 1 0 3=some (exR,0):=by
 unfold envelope_Rooms;rw[Gz ex_ok.lots (by decide) (by decide),mh ex_ok 1 0 (by omega),kL ex_ok 1 0 (by omega),agM,ac5,Wt]
 kernel_rfl
theorem afL:jT 1000000 exR=some ([⟨0,3,[⟨2,2,8,6⟩]⟩,⟨3,6,[⟨3,2,4,6⟩,⟨4,3,6,6⟩,⟨6,2,8,6⟩]⟩,⟨6,9,[⟨6,2,8,6⟩]⟩],0):=by kernel_rfl
theorem agN:Br 1000000=some true:=by
 unfold Br;rw[aib];simp only[bind_some,afK,bB,aB,cond_true,afL,mh ex_ok 1 0 (show 2000<=1000000 by omega),kL ex_ok 1 0 (show 2000<=1000000 by omega),ac5,Wt]
 kernel_rfl
theorem ab8:rightL []=true:=by rfl
theorem aad {t:dR} {lot day:Int} {W:Nat->List aj} (hW:Qr t lot day W) {j:Nat} (hj:j < 12) (hl:(W j).length<=200):rightL (W j)=true∧∀ x y,bf (W j) x y=K6 t lot day (3*((j:Int)+1)) x y:=by
 obtain⟨L,l1,l2,l3⟩:=hW j hj;obtain⟨q1,q2⟩:=ab6 l1 (by rw[<- l3];exact hl);rw[<- l3]at q1 q2;exact⟨q1,fun x y=>by rw[q2,l2]⟩
structure More (t u:dR) (lot day:Int):Prop where
 area:areaE u lot=areaE t lot
 dist:distE t lot day<=distE u lot day
 planes:∀ p∈planesE t lot day,p∈planesE u lot day
 laws:∀ e∈lawsE t lot,e∈lawsE u lot
structure Got (n:Nat) (t:dR) (lot day:Int) (R:List (List aj)×Int):Prop where
 eq:envelope_Rooms n t lot day 12=some R
 bad:R.2≠0->R.1=[]
 good:R.2=0->R.1.length=12∧(findLot t.land lot).2=true∧rightL (areaE t lot)=true∧(baseE t lot day).2=0∧∃ W,Qr t lot day W∧R.1=(List.range 12).map W∧∀ j,j < 12->(W j).length<=200
theorem aae {n:Nat} {a b:List aj} (hl:a.length < 1099511627776) (hn:a.length < n):xR n a b=some (decide (a=b)):=by
 have e:xR n a b=gY n a b:=by kernel_rfl
 rw[e,mZ hl hn]
theorem Af {n:Nat} {l:List (List aj)} {φ:(List aj×Unit)->Option Bool} (p:List aj->Bool) (h:∀ x∈l,φ (x,())=some (p x)) (hl:l.length < 1099511627776) (hn:l.length < n):iJ n l φ=some (l.any p):=by
 unfold iJ;have e:o8 n l φ=tY n l φ:=by kernel_rfl
 rw[e,oF p h hl hn,bind_some,Kc]
def jY (i:Nat) (a:List aj):aQ:=⟨3*(i:Int),3*((i:Int)+1),a⟩
def rU:Nat->List (List aj)->List aQ
 |_,[]=>[]
 |i,a::l=>jY i a::rU (i+1) l
theorem Ia:∀ (l m:List (List aj)) (i:Nat),rU i (l++m)=rU i l++rU (i+l.length) m
 |[],m,i=>by simp[rU]
 |a::l,m,i=>by
  simp only[List.cons_append,rU,Ia l m (i+1),length_cons];rw[show i+1+l.length=i+(l.length+1)by omega]
def solidE (l:List (List aj)):List aQ:=(rU 0 l).foldl FB []
theorem OO (l:List (List aj)) (a:List aj):solidE (l++[a])=FB (solidE l) (jY l.length a):=by
 unfold solidE;rw[Ia,List.foldl_append,Nat.zero_add];rfl
structure aiz (l:List (List aj)):Prop where
 ok:∀ s∈solidE l,FC s
 nx:OG (solidE l)
 len:(solidE l).length<=l.length
 top:∀ s∈solidE l,s.z1<=3*(l.length:Int)
 src:∀ s∈solidE l,∃ j,∃ h:j < l.length,s.z1=3*((j:Int)+1)∧s.area=l[j]
 at_:∀ z:Int,atS (solidE l) z=if 0<=z∧z < 3*(l.length:Int)then l.getD (z/3).toNat []else []
 vol:((solidE l).map fun s=>(s.z1 - s.z0)*sumA s.area).sum=(l.map fun a=>3*sumA a).sum
 bad:∀ E t,badE E t (solidE l)↔∃ j,∃ h:j < l.length,3*((j:Int)+1)>t∧meetL l[j] E=true
theorem agO {out:List aQ} {x:aQ} (hz:x.z0 < x.z1) (h:∀ s∈out,s.z1<=x.z0) (ho:∀ s∈out,s.z0 < s.z1) (z:Int):atS (FB out x) z=if x.z0<=z∧z < x.z1 then x.area else atS out z:=by
 have app:∀ (o:List aQ) (s:aQ),atS (o++[s]) z=match o.find? fun x=>decide (x.z0<=z)&&decide (z < x.z1)with
  |some x=>x.area
  |none=>if s.z0<=z∧z < s.z1 then s.area else []:=fun o s=>by
  unfold atS;rw[List.find?_append];cases ho:o.find? fun x=>decide (x.z0<=z)&&decide (z < x.z1)with
  |some q=>rfl
  |none=>
   by_cases hc:s.z0<=z∧z < s.z1
   ·simp[hc]
   ·have:(decide (s.z0<=z)&&decide (z < s.z1))=false:=(by rw[Bool.and_eq_false_iff,decide_eq_false_iff_not,decide_eq_false_iff_not];omega);simp[this,hc]
 have none_of:∀ (o:List aQ),(∀ s∈o,s.z1<=z∨z < s.z0)->o.find? (fun x=>decide (x.z0<=z)&&decide (z < x.z1))=none:=fun o ho=>by
  rw[List.find?_eq_none];intro s hs;have:=ho s hs;simp only[and_eq_true,decide_eq_true_eq];omega
 unfold FB;by_cases he:x.area=[]
 ·rw[if_pos he];by_cases hc:x.z0<=z∧z < x.z1
  ·rw[if_pos hc,he];unfold atS;rw[none_of out fun s hs=> .inl (by have:=h s hs;omega)]
  ·rw[if_neg hc]
 ·rw[if_neg he];rcases List.eq_nil_or_concat out with rfl |⟨o,q,e⟩
  ·have:=app [] x;simpa[atS]using this
  ·rw[List.concat_eq_append]at e;subst e;have gl:(o++[q]).getLast? =some q:=(by simp);have dl:(o++[q]).dropLast=o:=(by simp);have hq:=h q (by simp);have oq:=ho q (by simp);simp only[gl,dl];by_cases hm:q.z1=x.z0∧q.area=x.area
   ·rw[if_pos hm,app,app];by_cases hc:x.z0<=z∧z < x.z1
    ·rw[if_pos hc,none_of o fun s hs=> .inl (by have:=h s (List.mem_append_left _ hs);omega)];simp only;rw[if_pos (by omega),hm.2]
    ·rw[if_neg hc];cases o.find? fun x=>decide (x.z0<=z)&&decide (z < x.z1)with
     |some s=>rfl
     |none=>
      simp only;by_cases hc2:q.z0<=z∧z < q.z1
      ·rw[if_pos hc2,if_pos (by omega)]
      ·rw[if_neg hc2,if_neg (by omega)]
   ·rw[if_neg hm,app];by_cases hc:x.z0<=z∧z < x.z1
    ·rw[if_pos hc,none_of (o++[q]) fun s hs=> .inl (by have:=h s hs;omega)];simp only[if_pos hc]
    ·simp only[if_neg hc];unfold atS;cases (o++[q]).find? fun x=>decide (x.z0<=z)&&decide (z < x.z1)with
     |some s=>rfl
     |none=>rfl
theorem agP (out:List aQ) (x:aQ):((FB out x).map fun s=>(s.z1 - s.z0)*sumA s.area).sum=(out.map fun s=>(s.z1 - s.z0)*sumA s.area).sum+(x.z1 - x.z0)*sumA x.area:=by
 unfold FB;by_cases he:x.area=[]
 ·rw[if_pos he,he];have:sumA []=0:=rfl;rw[this];omega
 ·rw[if_neg he];rcases List.eq_nil_or_concat out with rfl |⟨o,q,e⟩
  ·simp
  ·rw[List.concat_eq_append]at e;subst e;have gl:(o++[q]).getLast? =some q:=(by simp);have dl:(o++[q]).dropLast=o:=(by simp);simp only[gl,dl];by_cases hm:q.z1=x.z0∧q.area=x.area
   ·rw[if_pos hm];simp only[map_append,map_cons,map_nil,rP];rw[hm.2,show x.z1 - q.z0=(q.z1 - q.z0)+(x.z1 - x.z0)by omega,Int.add_mul];omega
   ·rw[if_neg hm];simp only[map_append,map_cons,map_nil,rP]
theorem ahD:∀ (k:Nat) (l:List (List aj)),l.length=k->k<=12->(∀ a∈l,rightL a=true)->aiz l
 | 0,l,hl,_,_=>by
  have:l=[]:=List.length_eq_zero_iff.1 hl;subst this;refine⟨fun s hs=>by simp[solidE,rU]at hs,fun i hi=>by simp[solidE,rU]at hi,by simp[solidE,rU],fun s hs=>by simp[solidE,rU]at hs,fun s hs=>by simp[solidE,rU]at hs,fun z=>?_,rfl,fun E t=>?_⟩
  ·have:¬ (0<=z∧z < 3*((([]:List (List aj)).length:Nat):Int)):=(by rw[length_nil];omega);rw[if_neg this];rfl
  ·constructor
   ·rintro⟨c,hc,_⟩;simp[solidE,rU]at hc
   ·rintro⟨j,h,_⟩;simp at h
 |k+1,l,hl,hk,hr=>by
  rcases List.eq_nil_or_concat l with rfl |⟨m,a,e⟩
  ·simp at hl
  ·rw[List.concat_eq_append]at e;subst e;have hm:m.length=k:=(by simpa using hl);have ih:=ahD k m hm (by omega) fun b hb=>hr b (List.mem_append_left _ hb);have ra:=hr a (by simp);rw[<- hm]at hk;have hz:(jY m.length a).z0 < (jY m.length a).z1:=(by simp only[jY];omega);have hx:(jY m.length a).area≠[]->FC (jY m.length a):=fun hne=>⟨by simp only[jY];omega,hz,by simp only[jY];omega,hne,ra⟩;have htop:∀ s∈solidE m,s.z1<=(jY m.length a).z0:=fun s hs=>ih.top s hs;obtain⟨p1,p2,p3,p4⟩:=ad3 ih.ok ih.nx hx hz fun q hq=>htop q (List.mem_of_getLast? hq);have sn:=OO m a;have memput:∀ s∈FB (solidE m) (jY m.length a),s∈solidE m∨(s.z1=(jY m.length a).z1∧s.area=a):=by
    intro s hs;unfold FB at hs;split at hs
    ·exact .inl hs
    ·split at hs
     ·rename_i q hq;split at hs
      ·rename_i hmm;rcases mem_append.1 hs with h |h
       ·exact .inl ((List.dropLast_sublist _).mem h)
       ·rw[mem_singleton.1 h];exact .inr ⟨rfl,hmm.2⟩
      ·rcases mem_append.1 hs with h |h
       ·exact .inl h
       ·rw[mem_singleton.1 h];exact .inr ⟨rfl,rfl⟩
     ·rw[mem_singleton.1 hs];exact .inr ⟨rfl,rfl⟩
   have ll:(m++[a]).length=m.length+1:=(by simp);refine⟨by rw[sn];exact p1,by rw[sn];exact p2,?_,fun s hs=>?_,fun s hs=>?_,fun z=>?_,?_,fun E t=>?_⟩
   ·rw[sn,ll];have:=afC (solidE m) (jY m.length a);have:=ih.len;omega
   ·rw[sn]at hs;rw[ll];rcases memput s hs with h |⟨h,_⟩
    ·have:=ih.top s h;omega
    ·rw[h];simp only[jY];omega
   ·rw[sn]at hs;rcases memput s hs with h |⟨h,h2⟩
    ·obtain⟨j,hj,e1,e2⟩:=ih.src s h;exact⟨j,by omega,e1,by rw[e2,List.getElem_append_left hj]⟩
    ·exact⟨m.length,by omega,by rw[h];rfl,by rw[h2];simp⟩
   ·rw[sn,agO hz htop (fun s hs=>(ih.ok s hs).lt),ih.at_ z,ll];by_cases hc:(jY m.length a).z0<=z∧z < (jY m.length a).z1
    ·rw[if_pos hc];have hc':3*(m.length:Int)<=z∧z < 3*((m.length:Int)+1):=hc;rw[if_pos (by omega)];have:(z/3).toNat=m.length:=(by omega);rw[this];simp[jY]
    ·rw[if_neg hc];have hc':¬ (3*(m.length:Int)<=z∧z < 3*((m.length:Int)+1)):=hc;by_cases hc2:0<=z∧z < 3*(m.length:Int)
     ·rw[if_pos hc2,if_pos (by omega)];have:(z/3).toNat < m.length:=(by omega);simp only[List.getD_eq_getElem?_getD];rw[List.getElem?_append_left this]
     ·rw[if_neg hc2,if_neg (by omega)]
   ·rw[sn,agP,ih.vol];simp only[map_append,map_cons,map_nil,rP,jY];rw[show 3*((m.length:Int)+1) - 3*(m.length:Int)=3 by omega]
   ·rw[sn,p4,ih.bad];constructor
    ·rintro (⟨j,hj,h1,h2⟩ |⟨h1,h2⟩)
     ·exact⟨j,by omega,h1,by rw[List.getElem_append_left hj];exact h2⟩
     ·exact⟨m.length,by omega,h1,by simp only[List.getElem_append_right (Nat.le_refl _),Nat.sub_self,List.getElem_cons_zero];exact h2⟩
    ·rintro⟨j,hj,h1,h2⟩;by_cases hjm:j < m.length
     ·exact .inl ⟨j,hjm,h1,by rw[List.getElem_append_left hjm]at h2;exact h2⟩
     ·have:j=m.length:=(by omega);subst this;simp only[List.getElem_append_right (Nat.le_refl _),Nat.sub_self,List.getElem_cons_zero]at h2;exact .inr ⟨h1,h2⟩
theorem K7 {n:Nat} {l:List (List aj)} (hl:l.length<=12) (hr:∀ a∈l,rightL a=true) (hn:2000<=n):jT n l=some (solidE l,0):=by
 have lens:∀ a∈l,a.length<=200:=fun a ha=>(bn (hr a ha)).2.1;unfold jT;have d:decide (((l.length:Nat):Int)>12)=false:=by simp;omega
 rw[d,Af (fun a=>!rightL a) (fun a ha=>by
  have:=lens a ha;show lI n a=_;unfold lI;rw[jl (by omega) (by omega) (by omega)];rfl) (by omega) (by omega)]
 have na:(l.any fun a=>!rightL a)=false:=by
  rw[any_eq_false];intro a ha;rw[hr a ha];simp
 rw[na];simp only[cond_false,bind_some,length_nil,aB,cond_true];have main:=eO (step:=eX n l) (fun i=>(((i:Nat):Int),solidE (l.take i))) l.length (solidE l) (fun i hi=>?_) ?_ n (by omega)
 ·rw[show ((0:Nat):Int)=0 from rfl]at main;simp only[List.take_zero]at main;rw[show solidE []=[]from rfl]at main;rw[main];simp only[bind_some,bB,aB,cond_true]
 ·have I:=ahD (l.take i).length (l.take i) rfl (by rw[length_take];omega) fun a ha=>hr a (List.mem_of_mem_take ha);have ti:(l.take i).length=i:=by rw[length_take];omega
  have sn:solidE (l.take (i+1))=FB (solidE (l.take i)) (jY i l[i]):=by rw[take_succ_eq_append_getElem hi,OO,ti]
  have Il:=I.len;have Iok:=I.ok;have Itop:=I.top;rw[ti]at Il Itop;have la:=lens _ (getElem_mem hi);rw[sn];generalize solidE (l.take i)=out at*;have w3:i64.wrap (3*((i:Nat):Int))=3*(i:Int):=aO (by omega) (by omega);have w1:i64.wrap (((i:Nat):Int)+1)=(i:Int)+1:=aO (by omega) (by omega);have w31:i64.wrap (3*((i:Int)+1))=3*((i:Int)+1):=aO (by omega) (by omega);have z0:((((l[i]).length:Nat):Int)==0)=decide (l[i]=[]):=by rw[Bool.eq_iff_iff,beq_iff_eq,decide_eq_true_eq,<- List.length_eq_zero_iff];omega
  have ap:bG out.length out.length (sub ([jY i l[i]]:List aQ) 0 1).length 1 40=true:=bE (n:=1) (by omega) (by simp only[maxLen];omega);have cl:=rO (l:=l[i]) (by omega);unfold FB;by_cases he:l[i]=[]
  ·have d1:decide (l[i]=[])=true:=(by simpa using he);rw[if_pos (show (jY i l[i]).area=[]from he)];simp only[eX,bq hi,cond_true,aZ hi,bind_some,z0,d1,aB,w1];rfl
  ·have d1:decide (l[i]=[])=false:=(by simpa using he);rw[if_neg (show ¬ (jY i l[i]).area=[]from he)];have new:∀ (v:Option Bool),v=some false->eX n l (((i:Nat):Int),out)=some (.inl (((i+1:Nat):Int),out++[jY i l[i]]))->True:=fun _ _ _=>trivial;rcases List.eq_nil_or_concat out with rfl |⟨o,q,e⟩
   ·have d5:decide (((([]:List aQ).length:Nat):Int)>0)=false:=rfl;simp only[List.getLast?_nil];have ap0:bG ([]:List aQ).length ([]:List aQ).length (sub ([(aQ.mk (3*(i:Int)) (3*((i:Int)+1)) l[i])]:List aQ) 0 1).length 1 40=true:=ap;simp only[eX,bq hi,cond_true,aZ hi,bind_some,z0,d1,cond_false,d5,cl,bB,aB,w3,w1,w31,ap0,dF];rfl
   ·rw[List.concat_eq_append]at e;subst e;have lq:(o++[q]).length=o.length+1:=(by simp);have gl:(o++[q]).getLast? =some q:=(by simp);have dl:(o++[q]).dropLast=o:=(by simp);have d5:decide ((((o++[q]).length:Nat):Int)>0)=true:=(by rw[lq,decide_eq_true_eq];omega);have wl:i64.wrap ((((o++[q]).length:Nat):Int) - 1)=((o.length:Nat):Int):=(by rw[iQ (by simp) (by omega),lq];rfl);have ib:inb ((o.length:Nat):Int) (o++[q]).length=true:=bD (by omega);have g:at? (o++[q]) (((0:Nat):Int)+((o.length:Nat):Int))=some q:=(by rw[qi];simp);have zz:(((0:Nat):Int)+((o.length:Nat):Int)).toNat=o.length:=(by simp);have oq:=Iok q (by simp);have qa:=(bn oq.rt).2.1;have hi4:=oq.hi;have hlo:=oq.lo;have hlt:=oq.lt;have wz:i64.wrap (q.z1+3)=q.z1+3:=aO (by omega) (by omega);have ap1:bG (o++[q]).length (o++[q]).length (sub ([(aQ.mk (3*(i:Int)) (3*((i:Int)+1)) l[i])]:List aQ) 0 1).length 1 40=true:=ap;have el:eqL (o++[q]).length (o++[(⟨q.z0,q.z1+3,q.area⟩:aQ)]).length=true:=(by apply abA;simp);have st:(o++[q]).set o.length (aQ.mk q.z0 (q.z1+3) q.area)=o++[⟨q.z0,q.z1+3,q.area⟩]:=(by simp);simp only[gl,dl];simp only[eX,bq hi,cond_true,aZ hi,bind_some,z0,d1,cond_false,d5,wl,ib,g,w3,w1,w31,mZ (n:=n) (a:=q.area) (b:=l[i]) (by omega) (by omega),l8,zz,wz,st,el,cl,bB,aB,ap1,dF];by_cases hc1:q.z1=3*(i:Int)
    ·by_cases hc2:q.area=l[i]
     ·rw[if_pos (show q.z1=(jY i l[i]).z0∧q.area=(jY i l[i]).area from⟨hc1,hc2⟩)];have b1:(q.z1==3*(i:Int))=true:=(by simpa using hc1);have b2:decide (q.area=l[i])=true:=(by simpa using hc2);rw[b1,b2];simp only[cond_true,aB];rw[show q.z1+3=(jY i l[i]).z1 by simp only[jY];omega];rfl
     ·rw[if_neg (fun h=>hc2 h.2)];have b2:decide (q.area=l[i])=false:=(by simpa using hc2);rw[b2];cases q.z1==3*(i:Int)<;>simp only[cond_true,cond_false,aB]<;>rfl
    ·rw[if_neg (fun h=>hc1 h.1)];have b1:(q.z1==3*(i:Int))=false:=(by simpa using hc1);rw[b1];simp only[cond_true,cond_false,aB];rfl
 ·simp only[eX,jV,cond_false,aB,cond_true,List.take_length]
theorem Tp (r:aj):OkR r=true↔(0<=r.x0∧r.x0 < r.x1∧r.x1<=1048576)∧(0<=r.y0∧r.y0 < r.y1∧r.y1<=1048576):=by simp only[OkR,and_eq_true,decide_eq_true_eq];omega
theorem aaf (l:List aj) (x y:Int):bf l x y=true↔∃ r∈l,jZ r x y=true:=by simp[bf,jZ]
theorem DY {α:Type} (b:Nat):∀ l:List (List α),(∀ x∈l,x.length<=b)->l.flatten.length<=l.length*b
 |[],_=>by simp
 |x::l,h=>by
  have h1:=DY b l fun y hy=>h y (mem_cons_of_mem _ hy);have h2:=h x mem_cons_self;rw[List.flatten_cons,length_append,length_cons,Nat.add_mul];omega
def BG (x:aQ) (r:aj):ug:=⟨r.x0,r.y0,r.x1,r.y1,x.z0,x.z1⟩
def dY (s:List aQ):List ug:=s.flatMap fun x=>x.area.map (BG x)
theorem Pg {n:Nat} (x:aQ) (out:List ug) (ho:out.length<=1000000) (hx:x.area.length<=900) (hn:1000<=n):iter (uD x) n ((0:Int),out)=some (out++x.area.map (BG x)):=by
 have:=bF (l:=x.area) (step:=uD x) (fun i (s:List ug)=>((i:Int),s)) (fun r s=>s++[BG x r]) (fun s=>s) (fun i s=>s.length<=out.length+i)
  (fun i hi s hs=>?_) (fun s hs=>by simp[uD]) n (by omega) out (Nat.le_refl _)
 ·rw[show ((0:Nat):Int)=0 from rfl]at this;rw[this];congr 1;have gen:∀ (ys:List aj) (s:List ug),ys.foldl (fun s r=>s++[BG x r]) s=s++ys.map (BG x):=by
   intro ys
   induction ys with
   |nil=>intro s;simp
   |cons y ys ih=>intro s;rw[foldl_cons,ih];simp
  exact gen x.area out
 ·have ap:bG s.length s.length (sub ([BG x x.area[i]]:List ug) 0 1).length 1 48=true:=bE (n:=1) (by omega) (by simp only[maxLen];omega);unfold BG at ap;simp only[uD,bq hi,cond_true,aZ hi,bind_some,ap,dF,aB,ax (show i < 9223372036854775807 by omega)];exact⟨rfl,by simp;omega⟩
theorem aag {n:Nat} {s:List aQ} (hr:xY s=true) (hn:1000<=n):KF n s=some (dY s):=by
 obtain⟨l80,sok,_⟩:=(rQ s).1 hr;have al:∀ x∈s,x.area.length<=200:=fun x hx=>(bn (sok x hx).rt).2.1;unfold KF;rw[uH (fun x hx=>by have:=al x hx;omega) hn,hr]
 have:=bF (l:=s) (step:=zn n s) (fun i (o:List ug)=>((i:Int),o)) (fun x o=>o++x.area.map (BG x)) (fun s=>s) (fun i o=>o.length<=200*i)
  (fun i hi o ho=>?_) (fun s hs=>by simp[zn]) n (by omega) [] (by simp)
 ·rw[show ((0:Nat):Int)=0 from rfl]at this;simp only[bind_some,Bool.not_true,cond_false,length_nil,aB,cond_true,this,bB];congr 1;have gen:∀ (ys:List aQ) (o:List ug),ys.foldl (fun o x=>o++x.area.map (BG x)) o=o++dY ys:=by
   intro ys
   induction ys with
   |nil=>intro o;simp[dY]
   |cons y ys ih=>intro o;rw[foldl_cons,ih];simp[dY]
  exact gen s []
 ·have a:=al _ (getElem_mem hi);simp only[zn,bq hi,cond_true,aZ hi,bind_some,aB,Pg (n:=n) s[i] o (by omega) (by omega) hn,ax (show i < 9223372036854775807 by omega)];exact⟨trivial,by rw[length_append,length_map];omega⟩
def Nb (b:ug):Int:=(b.z1 - b.z0)*Fs ⟨b.base_x0,b.base_y0,b.base_x1,b.base_y1⟩
theorem Nc {α:Type} (f:α->Int) (M:Int):∀ (l:List α),(∀ x∈l,0<=f x∧f x<=M)->0<=(l.map f).sum∧(l.map f).sum<=M*(l.length:Int)
 |[],_=>by simp
 |x::l,h=>by
  have h1:=h x mem_cons_self;have h2:=Nc f M l fun y hy=>h y (mem_cons_of_mem _ hy);rw[map_cons,List.sum_cons,length_cons];have e:M*((l.length+1:Nat):Int)=M*(l.length:Int)+M:=by rw[Int.natCast_add,Int.mul_add];simp
  rw[e];omega
theorem afM (s:List aQ):((dY s).map Nb).sum=(s.map fun x=>(x.z1 - x.z0)*sumA x.area).sum:=by
 induction s with
 |nil=>rfl
 |cons x s ih=>
  have e:dY (x::s)=x.area.map (BG x)++dY s:=rfl;have e2:∀ l:List aj,((l.map (BG x)).map Nb).sum=(x.z1 - x.z0)*sumA l:=fun l=>by
   induction l with
   |nil=>simp[sumA]
   |cons r l ih2=>
    rw[map_cons,map_cons,List.sum_cons,ih2];unfold sumA;rw[map_cons,List.sum_cons,Int.mul_add];rfl
  rw[e,map_append,List.sum_append,ih,e2,map_cons,List.sum_cons]
theorem XV {n:Nat} {s:List aQ} (hr:xY s=true) (hl:s.length<=12) (hz:∀ x∈s,x.z1 - x.z0<=36) (hn:10000<=n):Bt n s=some ((s.map fun x=>(x.z1 - x.z0)*sumA x.area).sum):=by
 obtain⟨l80,sok,_⟩:=(rQ s).1 hr;have al:∀ x∈s,x.area.length<=200:=fun x hx=>(bn (sok x hx).rt).2.1;rw[<- afM];unfold Bt;rw[aag hr (by omega)];simp only[bind_some];have bl:(dY s).length<=2400:=by
  unfold dY;rw[List.flatMap_def];have:=DY 200 (s.map fun x=>x.area.map (BG x)) fun y hy=>by obtain⟨x,hx,rfl⟩:=mem_map.1 hy;rw[length_map];exact al x hx
  rw[length_map]at this;omega
 have term:∀ b∈dY s,OkR ⟨b.base_x0,b.base_y0,b.base_x1,b.base_y1⟩=true∧(0<=b.z1 - b.z0∧b.z1 - b.z0<=36):=by
  intro b hb;obtain⟨x,hx,h⟩:=mem_flatMap.1 hb;obtain⟨r,hr',rfl⟩:=mem_map.1 h;have:=(sok x hx).lt;exact⟨(bn (sok x hx).rt).1 r hr',by simp only[BG];omega,hz x hx⟩
 have tb:∀ b∈dY s,0<=Nb b∧Nb b<=39582418599936:=by
  intro b hb;obtain⟨h1,h2,h3⟩:=term b hb;have ab:=zx h1;unfold Nb;generalize Fs ⟨b.base_x0,b.base_y0,b.base_x1,b.base_y1⟩=A at*;have g1:0<=(b.z1 - b.z0)*A:=Int.mul_nonneg h2 ab.1;have g2:(b.z1 - b.z0)*A<=36*A:=Int.mul_le_mul_of_nonneg_right h3 ab.1;omega
 have:=eO (step:=wE (dY s)) (fun i=>((((dY s).take i).map Nb).sum,((i:Nat):Int))) (dY s).length (((dY s).map Nb).sum) (fun i hi=>?_) ?_ n (by omega)
 ·rw[show ((0:Nat):Int)=0 from rfl]at this;simp only[List.take_zero,map_nil,List.sum_nil]at this;rw[this];rfl
 ·obtain⟨h1,h2,h3⟩:=term _ (getElem_mem hi);have b1:=tb _ (getElem_mem hi);have b2:=Nc Nb 39582418599936 ((dY s).take i) fun b hb=>tb b (List.mem_of_mem_take hb);rw[length_take]at b2;have e:(((dY s).take (i+1)).map Nb).sum=(((dY s).take i).map Nb).sum+Nb (dY s)[i]:=by rw[take_succ_eq_append_getElem hi,map_append,map_cons,map_nil,rP]
  have hb0:=(term _ (getElem_mem hi)).2;simp only[wE,bq hi,cond_true,bD hi,bV hi,bind_some,V7 h1];obtain⟨x,hx,hb⟩:=mem_flatMap.1 (getElem_mem hi);obtain⟨r,_,hbr⟩:=mem_map.1 hb;have z0:=(sok x hx).lo;have z1:=(sok x hx).hi;have zlt:=(sok x hx).lt;have ez0:(dY s)[i].z0=x.z0:=by rw[<- hbr];rfl
  have ez1:(dY s)[i].z1=x.z1:=by rw[<- hbr];rfl
  rw[aO (x:=(dY s)[i].z1 - (dY s)[i].z0) (by omega) (by omega)];rw[show ((dY s)[i].z1 - (dY s)[i].z0)*Fs ⟨(dY s)[i].base_x0,(dY s)[i].base_y0,(dY s)[i].base_x1,(dY s)[i].base_y1⟩=Nb (dY s)[i]from rfl,aO (x:=Nb (dY s)[i]) (by omega) (by omega),aO (by omega) (by omega),ax (by omega),e]
 ·simp only[wE,jV,cond_false,List.take_length]
theorem UL {n:Nat} {s:List aQ} (z:Int) (hr:xY s=true) (hn:1000<=n):xS n s z=some (atS s z):=by
 obtain⟨l80,sok,_⟩:=(rQ s).1 hr;have al:∀ x∈s,x.area.length<=200:=fun x hx=>(bn (sok x hx).rt).2.1;have hz:=(bn (ahC sok z)).2.1;unfold xS;rw[uH (fun x hx=>by have:=al x hx;omega) hn,hr,afD (by omega) hn];simp only[bind_some,Bool.not_true,cond_false,rO (l:=atS s z) (by omega),bB,aB,cond_true]
theorem GR {n:Nat} {b:aj} {l:List aW} (r:aj) (x:Int) (hb:OkR b=true) (hp:∀ p∈l,wK p=true) (hr:OkR r=true) (hx:0<=x∧x < 1048576) (hl:l.length<=1000) (hn:2000<=n) (v:Int):
 iter (kV n b l r x) n (v,(0:Int))=some (min (min v (Tf b l x r.y0)) (Tf b l x (r.y1 - 1))):=by
 have ho:=(Tp r).1 hr;have w:i64.wrap (r.y1 - 1)=r.y1 - 1:=aO (by omega) (by omega);have:=rM (l:=[r.y0,r.y1 - 1]) (step:=kV n b l r x) (fun i (s:Int)=>(s,((i:Nat):Int))) (fun y m=>min m (Tf b l x y)) (fun s=>s) (fun i hi s=>?_) (fun s=>by simp[kV]) n (by simp;omega) v
 ·rw[show ((0:Nat):Int)=0 from rfl]at this;exact this
 ·have h2:i < 2:=by simpa using hi
  have yb:0<=([r.y0,r.y1 - 1]:List Int)[i]∧([r.y0,r.y1 - 1]:List Int)[i] < 1048576:=by
   rcases i with _ |_ |i
   ·simp only[List.getElem_cons_zero];omega
   ·simp only[List.getElem_cons_succ,List.getElem_cons_zero];omega
   ·omega
  simp only[kV,bq h2,cond_true,bD h2,w,bV hi,bind_some,XR hb hp ⟨hx,yb⟩ hl hn,ax (show i < 9223372036854775807 by omega)]
def afN (b:aj) (l:List aW) (v:Int) (r:aj):Int:=min (min (min (min v (Tf b l r.x0 r.y0)) (Tf b l r.x0 (r.y1 - 1))) (Tf b l (r.x1 - 1) r.y0)) (Tf b l (r.x1 - 1) (r.y1 - 1))
theorem GU {n:Nat} {b:aj} {l:List aW} (r:aj) (hb:OkR b=true) (hp:∀ p∈l,wK p=true) (hr:OkR r=true) (hl:l.length<=1000) (hn:2000<=n) (v:Int):
 iter (kW n b l r) n (v,(0:Int))=some (afN b l v r):=by
 have ho:=(Tp r).1 hr;have w:i64.wrap (r.x1 - 1)=r.x1 - 1:=aO (by omega) (by omega);have:=rM (l:=[r.x0,r.x1 - 1]) (step:=kW n b l r) (fun i (s:Int)=>(s,((i:Nat):Int))) (fun x m=>min (min m (Tf b l x r.y0)) (Tf b l x (r.y1 - 1))) (fun s=>s) (fun i hi s=>?_) (fun s=>by simp[kW]) n (by simp;omega) v
 ·rw[show ((0:Nat):Int)=0 from rfl]at this;exact this
 ·have h2:i < 2:=by simpa using hi
  have xb:0<=([r.x0,r.x1 - 1]:List Int)[i]∧([r.x0,r.x1 - 1]:List Int)[i] < 1048576:=by
   rcases i with _ |_ |i
   ·simp only[List.getElem_cons_zero];omega
   ·simp only[List.getElem_cons_succ,List.getElem_cons_zero];omega
   ·omega
  simp only[kW,bq h2,cond_true,bD h2,w,bV hi,bind_some,GR r _ hb hp hr xb hl hn,ax (show i < 9223372036854775807 by omega)]
def agQ (b:aj) (l:List aW) (a:List aj):Int:=a.foldl (afN b l) 4096
theorem Ph {n:Nat} {b:aj} {l:List aW} {a:List aj} (hb:OkR b=true) (hp:∀ p∈l,wK p=true) (ha:∀ r∈a,OkR r=true) (hal:a.length<=1000) (hl:l.length<=1000) (hn:2000<=n):wG n b l a=some (agQ b l a):=by
 unfold wG;have:=rM (l:=a) (step:=oK n b l a) (fun i (s:Int)=>(s,((i:Nat):Int))) (fun r m=>afN b l m r) (fun s=>s) (fun i hi s=>?_) (fun s=>by simp[oK]) n (by omega) 4096
 ·rw[show ((0:Nat):Int)=0 from rfl]at this;rw[this];rfl
 ·simp only[oK,bq hi,cond_true,aZ hi,bind_some,GU a[i] hb hp (ha _ (getElem_mem hi)) hl hn,ax (show i < 9223372036854775807 by omega)]
theorem afO (b:aj) (l:List aW) (h:Int):∀ (a:List aj) (m:Int),h<=m->(∀ r∈a,∀ x y,jZ r x y=true->h<=Tf b l x y)->(∀ r∈a,OkR r=true)->h<=a.foldl (afN b l) m
 |[],m,hm,_,_=>hm
 |r::a,m,hm,hc,ho=>by
  rw[foldl_cons];refine afO b l h a _ ?_ (fun q hq=>hc q (mem_cons_of_mem _ hq)) fun q hq=>ho q (mem_cons_of_mem _ hq);have o:=(Tp r).1 (ho r mem_cons_self);have c:=hc r mem_cons_self;have h1:=c r.x0 r.y0 ((dD _ _ _).2 (by omega));have h2:=c r.x0 (r.y1 - 1) ((dD _ _ _).2 (by omega));have h3:=c (r.x1 - 1) r.y0 ((dD _ _ _).2 (by omega));have h4:=c (r.x1 - 1) (r.y1 - 1) ((dD _ _ _).2 (by omega));unfold afN;omega
theorem K8 {n:Nat} {b:aj} {l:List aW} {s:List aQ} (hv:wL b l=true) (hr:xY s=true) (hl:l.length<=1000) (hn:2000<=n) (hz:∀ c∈s,∀ x y,bf c.area x y=true->∀ p∈l,c.z1<=Pd b p x y):qL n b l s=some true:=by
 obtain⟨l80,sok,_⟩:=(rQ s).1 hr;have al:∀ x∈s,x.area.length<=200:=fun x hx=>(bn (sok x hx).rt).2.1;obtain⟨v1,v2⟩:=(zC b l).1 hv;unfold qL;rw[FI b l hl hn,hv,uH (fun x hx=>by have:=al x hx;omega) (by omega),hr];simp only[bind_some,Bool.not_true,cond_false];rw[pV (fun c=>decide (agQ b l c.area < c.z1)) (fun c hc=>by
  have:=al c hc;show oL n c b l=_;unfold oL;rw[Ph v1 v2 (bn (sok c hc).rt).1 (by omega) hl hn];rfl) (by omega) (by omega)]
 have:(s.any fun c=>decide (agQ b l c.area < c.z1))=false:=by
  rw[any_eq_false];intro c hc;rw[decide_eq_true_eq];have o:=(bn (sok c hc).rt).1;have hi:=(sok c hc).hi;have:c.z1<=agQ b l c.area:=afO b l c.z1 c.area 4096 hi (fun r hr' x y hxy=>by
   have:=hz c hc x y ((aaf _ _ _).2 ⟨r,hr',hxy⟩);exact (ac4 b x y c.z1 l 4096).2 ⟨hi,this⟩) o
  omega
 rw[this];rfl
theorem aec {n:Nat} (ps:List aW) (hl:ps.length<=1000) (hn:2000<=n):iter (fD ps) n (true,(0:Int))=some (ps.all wK):=by
 have:=rM (l:=ps) (step:=fD ps) (fun i (s:Bool)=>(s,((i:Nat):Int))) (fun p s=>s&&wK p) (fun s=>s) (fun i hi s=>?_) (fun s=>by simp[fD]) n (by omega) true
 ·rw[show ((0:Nat):Int)=0 from rfl]at this;rw[this];congr 1;have gen:∀ (l:List aW) (s:Bool),l.foldl (fun s p=>s&&wK p) s=(s&&l.all wK):=by
   intro l
   induction l with
   |nil=>intro s;simp
   |cons p l ih=>intro s;rw[foldl_cons,ih,all_cons,Bool.and_assoc]
  rw[gen,Bool.true_and]
 ·simp only[fD,bq hi,cond_true,bD hi,bV hi,bind_some,FH,l8,ax (show i < 9223372036854775807 by omega)];cases s<;>rfl
theorem aed {n:Nat} (l:List (List aj)) (e:Int) (hl:l.length<=12) (hr:∀ a∈l,rightL a=true) (hn:2000<=n):iter (fC n (l,e)) n ((0:Int),(0:Int))=some ((l.map fun a=>3*sumA a).sum):=by
 have tb:∀ a∈l,0<=3*sumA a∧3*sumA a<=659706976665600:=by
  intro a ha;obtain⟨h1,h2,_⟩:=bn (hr a ha);have:=I8 h1;omega
 have:=eO (step:=fC n (l,e)) (fun i=>(((l.take i).map fun a=>3*sumA a).sum,((i:Nat):Int))) l.length ((l.map fun a=>3*sumA a).sum) (fun i hi=>?_) ?_ n (by omega)
 ·rw[show ((0:Nat):Int)=0 from rfl]at this;simp only[List.take_zero,map_nil,List.sum_nil]at this;exact this
 ·have ra:=hr _ (getElem_mem hi);have b1:=tb _ (getElem_mem hi);have b2:=Nc (fun a=>3*sumA a) 659706976665600 (l.take i) fun b hb=>tb b (List.mem_of_mem_take hb);rw[length_take]at b2;have la:=(bn ra).2.1;have e2:((l.take (i+1)).map fun a=>3*sumA a).sum=((l.take i).map fun a=>3*sumA a).sum+3*sumA l[i]:=by rw[take_succ_eq_append_getElem hi,map_append,map_cons,map_nil,rP]
  simp only[fC,bB,bq hi,cond_true,aZ hi,bind_some,abN (n:=n) (a:=l[i]) (by omega) (by omega),ra];rw[aO (x:=3*sumA l[i]) (by omega) (by omega),aO (by omega) (by omega),ax (by omega),e2]
 ·simp only[fC,bB,jV,cond_false,List.take_length]
theorem GV {n:Nat} (hn:1000000<=n) (hs:Br n=some true) (t:dR) (lot day floors z:Int) (hf:XU t):kJ n t lot day floors z=some true:=by
 unfold kJ;rw[hs,ab7 t (by omega)];simp only[bind_some,bB,aB,cond_true];cases hfw:afJ t with
 |false=>rfl
 |true=>
  have hE:=agL hfw hf;have hland:=hE.land;have hrl:=hE.rules;have hel:=hE.easements;have hpl:=OL t lot day;simp only[Bool.not_true,cond_false];rcases GQ hE lot day floors hn with ⟨f1,g⟩ |⟨f1,f2,g⟩ |⟨f1,f2,f3,g⟩ |⟨f1,f2,f3,W,hW,g⟩
  ·rw[g];rfl
  ·rw[g];rfl
  ·rw[g];have e0:((baseE t lot day).2 != 0)=true:=(by simpa using f3);simp only[bind_some,e0,cond_true];rfl
  ·obtain⟨F,rfl⟩:∃ F:Nat,floors=(F:Int):=⟨floors.toNat,by omega⟩;rw[show ((F:Int)).toNat=F by omega]at g;have hF:F<=12:=(by omega);by_cases hbig:∃ k:Nat,k < F∧(W k).length>200
   ·rw[g,if_pos hbig];rfl
   ·rw[if_neg hbig]at g;have wl:∀ k,k < F->(W k).length<=200:=fun k hk=>by
     rcases Nat.lt_or_ge 200 (W k).length with h |h
     ·exact absurd ⟨k,hk,h⟩ hbig
     ·exact h
    have wr:∀ k,k < F->rightL (W k)=true∧∀ x y,bf (W k) x y=K6 t lot day (3*((k:Int)+1)) x y:=fun k hk=>aad hW (by omega) (wl k hk);rw[g];generalize hl:(List.range F).map W=l;have ll:l.length=F:=(by rw[<- hl];simp);have lg:∀ k (h:k < l.length),l[k]=W k:=fun k h=>(by subst hl;simp);have lr:∀ a∈l,rightL a=true:=by
     intro a ha;rw[<- hl]at ha;obtain⟨k,hk,rfl⟩:=mem_map.1 ha;exact (wr k (List.mem_range.1 hk)).1
    have I:=ahD l.length l rfl (by omega) lr;have rS:xY (solidE l)=true:=(rQ _).2 ⟨by have:=I.len;omega,I.ok,I.nx⟩;have sal:∀ x∈solidE l,x.area.length<=200:=fun x hx=>(bn (I.ok x hx).rt).2.1;have hz36:∀ x∈solidE l,x.z1 - x.z0<=36:=fun x hx=>(by have:=I.top x hx;have:=(I.ok x hx).lo;omega);have Il:=I.len;have e0:((0:Int) != 0)=false:=rfl;have e1:(((l.length:Nat):Int) != (F:Int))=false:=(by rw[ll];simp);have resp:ac3 t.easements lot (solidE l)=true:=by
     unfold ac3;rw[rS,Bool.true_and,Bool.not_eq_true',any_eq_false];intro e he hoff;obtain⟨o1,o2,o3⟩:=(afE _ _ _).1 hoff;obtain⟨j,hj,j1,j2⟩:=(I.bad _ _).1 o3;obtain⟨x,y,m1,m2⟩:=(ZK _ _).1 j2;rw[lg j hj,(wr j (by omega)).2]at m1;unfold K6 Tn at m1;simp only[and_eq_true,all_eq_true]at m1;have:=m1.2.2 e (mem_filter.2 ⟨he,by rw[o2,o1];simp⟩);rw[m2]at this;have hd:decide (3*((j:Int)+1)<=e.top)=false:=(by rw[decide_eq_false_iff_not];omega);rw[hd]at this;cases this
    have volE:Bt n (solidE l)=some ((l.map fun a=>3*sumA a).sum):=(by rw[XV rS (by omega) hz36 (by omega),I.vol])
    simp only[bind_some,e0,cond_false,K7 (n:=n) (l:=l) (by omega) lr (by omega),Gz (n:=n) (id:=lot) hE.lots (by omega) (by omega),K5 (n:=n) (findLot t.land lot).1.area (M8 hE.lots lot).1 (by omega),bB,aB,cond_true,aed (n:=n) l 0 (by omega) lr (by omega),e1,
     uH (n:=n) (s:=solidE l) (fun x hx=>by have:=sal x hx;omega) (by omega),rS,Bool.not_true,volE,UJ (n:=n) (l:=t.easements) (lot:=lot) (s:=solidE l) (by omega) (fun e he=>by have:=hE.areas e he;omega) (fun x hx=>by have:=sal x hx;omega) (by omega),resp,kL hE lot day (show 2000<=n by omega),aec (n:=n) (planesE t lot day) (by omega) (by omega)]
    have bne0:(((l.map fun a=>3*sumA a).sum) != ((l.map fun a=>3*sumA a).sum:Int))=false:=(by simp);simp only[bne0,cond_false,bind_some];have v7:∀ (bd:aj×Bool),bd=wM (findLot t.land lot).1.area->((bif bd.2 then (bif (planesE t lot day).all wK then (qL n bd.1 (planesE t lot day) (solidE l)).bind fun r13=>(bif (!r13)then some true else (bif (!(planesE t lot day).all wK)then some (decide (((l.map fun a=>3*sumA a).sum)>(0:Int)))else some false))else (bif (!(planesE t lot day).all wK)then some (decide (((l.map fun a=>3*sumA a).sum)>(0:Int)))else some false))else (bif (!(planesE t lot day).all wK)then some (decide (((l.map fun a=>3*sumA a).sum)>(0:Int)))else some false)):Option (Bool))=some false:=by
     intro bd hbd;cases hall:(planesE t lot day).all wK with
     |false=>
      have hz:(l.map fun a=>3*sumA a).sum=0:=by
       have:∀ a∈l,a=[]:=by
        intro a ha;rw[<- hl]at ha;obtain⟨k,hk,rfl⟩:=mem_map.1 ha;have hk:=List.mem_range.1 hk;refine UI (wr k hk).1 ab8 fun x y=>?_;rw[(wr k hk).2];cases hc:K6 t lot day (3*((k:Int)+1)) x y with
        |false=>simp[bf]
        |true=>
         unfold K6 Tn at hc;simp only[and_eq_true,decide_eq_true_eq,zC]at hc;have:(planesE t lot day).all wK=true:=all_eq_true.2 hc.2.1.1.2;rw[hall]at this;cases this
       clear hl lg lr I rS sal hz36 Il e1 resp volE bne0 ll g
       induction l with
       |nil=>rfl
       |cons a l ih=>
        rw[map_cons,List.sum_cons,ih fun b hb=>this b (mem_cons_of_mem _ hb),this a mem_cons_self];rfl
      rw[hz];cases bd.2<;>rfl
     |true=>
      cases hb2:bd.2 with
      |false=>rfl
      |true=>
       have hv:wL bd.1 (planesE t lot day)=true:=by
        rw[zC];refine⟨?_,all_eq_true.1 hall⟩;by_cases hne:areaE t lot=[]
        ·exfalso;rw[hbd,show (findLot t.land lot).1.area=areaE t lot from rfl,hne]at hb2;cases hb2
        ·obtain⟨b1,b2⟩:=ab5 hne f2.2;rw[hbd,show (findLot t.land lot).1.area=areaE t lot from rfl,b1];exact b2
       rw[K8 (n:=n) hv rS (by omega) (by omega) fun c hc x y hxy p hp=>?_]
       ·rfl
       ·obtain⟨j,hj,z1,ar⟩:=I.src c hc;rw[ar,lg j hj,(wr j (by omega)).2]at hxy;unfold K6 Tn at hxy;simp only[and_eq_true,decide_eq_true_eq]at hxy;rw[z1,hbd];exact hxy.2.1.2 p hp
    rw[v7 _ rfl];simp only[bind_some,cond_false,UL (n:=n) z rS (show 1000<=n by omega),l8];have w3:i64.wrap (3*(F:Int))=3*(F:Int):=aO (by omega) (by omega);rw[w3];by_cases hzr:0<=z∧z < 3*(F:Int)
    ·have c1:decide (z < 0)=false:=(by simp;omega);have c2:decide (z>=3*(F:Int))=false:=(by simp;omega);have td:i64.wrap (Int.tdiv z 3)=(((z/3).toNat:Nat):Int):=(by rw[Int.tdiv_eq_ediv_of_nonneg hzr.1,aO (by omega) (by omega)];omega);have hk:(z/3).toNat < l.length:=(by omega);have n3:((3:Int) != 0)=true:=rfl;have ats:atS (solidE l) z=l[(z/3).toNat]:=(by rw[I.at_ z,if_pos (by omega)];simp[hk]);have la:=(bn (lr _ (getElem_mem hk))).2.1;rw[c1,c2,td,ats];simp only[cond_false,n3,cond_true,aZ hk,bind_some,aae (n:=n) (a:=l[(z/3).toNat]) (b:=l[(z/3).toNat]) (by omega) (by omega),decide_true];rfl
    ·have ats:atS (solidE l) z=[]:=(by rw[I.at_ z,if_neg (by omega)]);have c:(bif decide (z < 0)then true else decide (z>=3*(F:Int)))=true:=by
      by_cases h0:z < 0
      ·have:decide (z < 0)=true:=(by simpa using h0);rw[this];rfl
      ·have h1:decide (z < 0)=false:=(by simpa using h0);have h2:decide (z>=3*(F:Int))=true:=(by simp;omega);rw[h1,h2];rfl
     rw[c,ats];cases decide (z < 0)<;>rfl
theorem Jh (t:dR) (lot day floors z:Int) (hf:XU t):∃ k,kJ k t lot day floors z=some true:=⟨1000000,GV (Nat.le_refl _) agN t lot day floors z hf⟩
theorem afP {X:SX} {n:Nat} {c:CT X.ι} {cs:List (CT X.ι)} {ss:List VS} (hs:zR (vsF n) (c::cs)=some ss) (q:HL X.toSE (c::cs)) (h:JN ss (HL.tvs X.toSE (c::cs) q)):∃ s ss',vsF n c=some s∧zR (vsF n) cs=some ss'∧WT s (CT.tv X.toSE c q.1)∧JN ss' (HL.tvs X.toSE cs q.2):=by
 simp only[zR]at hs;rw[ai]at hs;obtain⟨a,h1,hs⟩:=hs;rw[ai]at hs;obtain⟨b,h2,hs⟩:=hs;injection hs with hs;subst hs;exact⟨a,b,h1,h2,h.1,h.2⟩
theorem ahE {X:SX} {n:Nat} {i:X.ι} {s:VS} {x:X.T i} (hs:vsF n (.st i)=some s) (h:WT s (CT.tv X.toSE (.st i) x)):∃ l,csF (X:=X) n (.st i)=some l∧FitL l (X.row i x):=by
 simp only[vsF]at hs;obtain⟨l,h1,rfl⟩:=Option.map_eq_some_iff.1 hs;obtain⟨ys,e,hf⟩:=h;rw[CT.tv]at e;injection e with e;exact⟨l,h1,by rw[e];exact hf⟩
theorem XW:∀ {cs:List CS} {ts:List Tree},FitL cs ts->∀ {i:Nat} {c:CS} {x:Tree},cs[i]? =some c->ts[i]? =some x->Fit c x
 |c::cs,x::ts,h,0,c',x',hc,hx=>by
  simp only[List.getElem?_cons_zero,Option.some.injEq]at hc hx;subst hc;subst hx;simp only[FitL]at h;exact h.1
 |c::cs,x::ts,h,i+1,c',x',hc,hx=>by
  simp only[List.getElem?_cons_succ]at hc hx;simp only[FitL]at h;exact XW h.2 hc hx
 |[],_,h,_,_,_,hc,_=>by simp at hc
 |_::_,[],h,_,_,_,_,hx=>by simp at hx
theorem afQ {row:List CS} {α:Type} {l:List α} {f:α->List Tree} (h:Fit (.sl row) (.sl (l.map f))):l.length<=maxLen∧l.length*aeG row<=reachBytes∧∀ x∈l,FitL row (f x):=by
 simp only[Fit]at h;obtain⟨rows,e,⟨h1,h2⟩,h3⟩:=h;injection e with e;subst e;rw[length_map]at h1 h2;exact⟨h1,h2,fun x hx=>h3 _ (mem_map.2 ⟨x,hx,rfl⟩)⟩
def aiA:List CS:=[.int .i64,.int .i64,.sl [.int .i64,.int .i64,.int .i64,.int .i64],.sl [.int .i64]]
theorem agR {t:dR} {n:Nat} {s:VS} (hs:vsF (X:=xx) (n+8) (.st SI.Town)=some s) (h:WT s (CT.tv xx.toSE (.st SI.Town) t)):XU t:=by
 obtain⟨l,h1,h2⟩:=ahE hs h;have h8:((csF (X:=xx) (n+8) (.st SI.Town)).bind fun l=>l[8]?)=some (.sl aiA):=by kernel_rfl
 rw[h1]at h8;have hf:=XW h2 (i:=8) h8 (x:= .sl (t.land.map abL)) rfl;obtain⟨_,_,h3⟩:=afQ hf;intro lt hlt;have h4:=XW (h3 lt hlt) (i:=3) (c:= .sl [.int .i64]) rfl (x:= .sl (lt.from_.map fun x=>[.sc (.int .i64 x)])) rfl;obtain⟨_,h5,_⟩:=afQ h4;have:lt.from_.length*8<=reachBytes:=h5;have:reachBytes=140737488351232:=rfl;omega
end Go.Proofs
