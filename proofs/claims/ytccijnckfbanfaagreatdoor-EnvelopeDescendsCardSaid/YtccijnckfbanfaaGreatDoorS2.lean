/-
  Height planes: the greatest height over a cell, and the cells over which a height is allowed.
-/
import Derived.Test.YtccijnckfbanfaaGreatDoorS1
open Go.IntKind (i64)
open Option (bind_some)
open List (mem_cons append_assoc mem_append mem_map length_append getElem_mem length_cons length_map length_nil mem_cons_of_mem foldl_cons mem_filter any_eq_true mem_cons_self map_nil all_cons filter_append length_filter_le mem_flatMap map_append)
open Bool (and_eq_true)
namespace Go.Proofs
open Go.Gb Go.RowKit
def TJ (p:bE):Bool:=decide (0<=p.side∧p.side<=3)&&(decide (0<=p.base∧p.base<=4096)&&(decide (0<=p.num∧p.num<=4096)&&decide (1<=p.den∧p.den<=4096)))
theorem RP (p:bE):TJ p=true↔(0<=p.side∧p.side<=3)∧(0<=p.base∧p.base<=4096)∧(0<=p.num∧p.num<=4096)∧(1<=p.den∧p.den<=4096):=by simp only[TJ,and_eq_true,decide_eq_true_eq]
theorem Dl (a b c:Int):je a b c=some (decide (b<=a∧a<=c)):=by
 unfold je;by_cases h1:b<=a
 ·have d:decide (b<=a)=true:=by simpa using h1
  rw[d,cond_true];congr 1;rw[Bool.eq_iff_iff];simp[h1]
 ·have d:decide (b<=a)=false:=by simpa using h1
  rw[d,cond_false];congr 1;rw[Bool.eq_iff_iff];simp[h1]
theorem RQ (p:bE):yS p=some (TJ p):=by
 unfold yS TJ;simp only[Dl,bind_some,nJ];generalize decide (0<=p.side∧p.side<=3)=a;generalize decide (0<=p.base∧p.base<=4096)=b;generalize decide (0<=p.num∧p.num<=4096)=c;cases a<;>cases b<;>cases c<;>rfl
theorem zJ {n:Nat} {l:List bE} {φ:(bE×Unit)->Option Bool} (p:bE->Bool) (h:∀ x∈l,φ (x,())=some (p x)) (hl:l.length < 1099511627776) (hn:l.length < n):iG n l φ=some (l.any p):=by
 unfold iG;have e:oN n l φ=yN n l φ:=by kernel_rfl
 rw[e,Dj p h hl hn,bind_some,WB]
def Cz (b:aj) (l:List bE):Bool:=OkR b&&!(l.any fun p=>!TJ p)
theorem RS {n:Nat} (b:aj) (l:List bE) (hl:l.length<=1000) (hn:2000<=n):yT n b l=some (Cz b l):=by
 unfold yT Cz;rw[rC,zJ (fun p=>!TJ p) (fun p _=>by show qp p=_;unfold qp;rw[RQ];rfl) (by omega) (by omega)];simp only[bind_some,nJ];cases OkR b<;>rfl
theorem aa4 {a n:Int} (hn:0 < n):(if Int.tmod a n < 0 then Int.tdiv a n - 1 else Int.tdiv a n)=a/n:=by
 have h1:=Int.mul_ediv_add_emod a n;have h2:=Int.emod_nonneg a (by omega:n≠0);have h3:=Int.emod_lt_of_pos a hn;rcases Int.le_total 0 a with h |h
 ·have e1:Int.tmod a n=a%n:=Int.tmod_eq_emod_of_nonneg h;have e2:Int.tdiv a n=a/n:=Int.tdiv_eq_ediv_of_nonneg h;rw[e1,e2,if_neg (by omega)]
 ·obtain⟨b,rfl⟩:∃ b,a= -b:=⟨-a,by omega⟩;have hb:0<=b:=by omega
  have e1:Int.tmod (-b) n= -(b%n):=by rw[Int.neg_tmod,Int.tmod_eq_emod_of_nonneg hb]
  have e2:Int.tdiv (-b) n= -(b/n):=by rw[Int.neg_tdiv,Int.tdiv_eq_ediv_of_nonneg hb]
  have g1:=Int.mul_ediv_add_emod b n;have g2:=Int.emod_nonneg b (by omega:n≠0);have g3:=Int.emod_lt_of_pos b hn;rw[e1,e2];by_cases hm:b%n=0
  ·rw[if_neg (by omega)];have:(-b)/n= -(b/n):=by
    refine (Int.ediv_eq_iff_of_pos hn).2 ?_;constructor
    ·rw[Int.neg_mul,Int.mul_comm (b/n)];omega
    ·rw[Int.neg_mul,Int.mul_comm (b/n)];omega
   omega
  ·rw[if_pos (by omega)];have:(-b)/n= -(b/n) - 1:=by
    refine (Int.ediv_eq_iff_of_pos hn).2 ?_;constructor
    ·rw[Int.sub_mul,Int.neg_mul,Int.mul_comm (b/n)];omega
    ·rw[Int.sub_mul,Int.neg_mul,Int.mul_comm (b/n)];omega
   omega
theorem Kg {a n:Int} (hn:0 < n) (ha: -4611686018427387904<=a∧a<=4611686018427387904):qw a n=some (a/n):=by
 have nz:(n != 0)=true:=by simp;omega
 have hb: -4611686018427387904<=a/n∧a/n<=4611686018427387904:=by
  constructor
  ·rw[Int.le_ediv_iff_mul_le hn];have: -4611686018427387904*n<= -4611686018427387904:=(by omega);omega
  ·rcases Int.le_total 0 a with h |h
   ·have:=Int.ediv_le_self n h;omega
   ·have:a/n<=0:=by
     have:=(Int.ediv_lt_iff_lt_mul (a:=a) (b:=1) hn).2 (by omega);omega
    omega
 have hf:=aa4 (a:=a) hn;have ht: -4611686018427387904<=Int.tdiv a n∧Int.tdiv a n<=4611686018427387905:=by split at hf<;>omega
 unfold qw;simp only[nz,cond_true];rw[bH (x:=Int.tdiv a n) (by omega) (by omega),bH (x:=Int.tdiv a n - 1) (by omega) (by omega),<- hf];by_cases h:Int.tmod a n < 0
 ·have d:decide (Int.tmod a n < 0)=true:=by simpa using h
  rw[d,if_pos h];rfl
 ·have d:decide (Int.tmod a n < 0)=false:=by simpa using h
  rw[d,if_neg h];rfl
def NK (b:aj) (side x y:Int):Int:=if side=0 then x - b.x0 else if side=1 then b.x1 - 1 - x else if side=2 then y - b.y0 else b.y1 - 1 - y
def aeF (b:aj) (p:bE) (x y:Int):Int:=p.base+p.num*NK b p.side x y/p.den
abbrev InG (x y:Int):Prop:=(0<=x∧x < 1048576)∧(0<=y∧y < 1048576)
theorem ac5 {a d:Int} (ha:0<=a∧a<=4096) (hd: -1048576<=d∧d<=1048576): -4294967296<=a*d∧a*d<=4294967296:=by
 have h1:a*d<=a*1048576:=Int.mul_le_mul_of_nonneg_left hd.2 ha.1;have h2:a*(-1048576)<=a*d:=Int.mul_le_mul_of_nonneg_left hd.1 ha.1;omega
theorem ac6 {a n:Int} (hn:0 < n) (ha: -4294967296<=a∧a<=4294967296): -4294967296<=a/n∧a/n<=4294967296:=by
 constructor
 ·rw[Int.le_ediv_iff_mul_le hn];omega
 ·rcases Int.le_total 0 a with h |h
  ·have:=Int.ediv_le_self n h;omega
  ·have:=(Int.ediv_lt_iff_lt_mul (a:=a) (b:=1) hn).2 (by omega);omega
theorem NN (b:aj) (l:List bE):Cz b l=true↔OkR b=true∧∀ p∈l,TJ p=true:=by
 unfold Cz;rw[and_eq_true,Bool.not_eq_true',List.any_eq_false];simp
def asks (b:aj) (z:Int) (p:bE) (x y:Int):Prop:=(z - p.base)*p.den<=p.num*NK b p.side x y
theorem RU {b:aj} {z:Int} {p:bE} (hp:TJ p=true) (x y:Int):asks b z p x y↔z<=aeF b p x y:=by
 obtain⟨s1,s2,s3,s4⟩:=(RP _).1 hp;unfold asks aeF;have:=Int.le_ediv_iff_mul_le (a:=z - p.base) (b:=p.num*NK b p.side x y) (c:=p.den) (by omega);rw[<- this];omega
theorem afB {k d n m:Int} (hn:0 < n):(k*m<=n*d)↔ -((-k)*m/n)<=d:=by
 have:=Int.le_ediv_iff_mul_le (a:= -d) (b:=(-k)*m) (c:=n) hn;rw[show (-((-k)*m/n)<=d)↔ -d<=(-k)*m/n by omega,this,Int.neg_mul,Int.neg_mul,Int.mul_comm d n];omega
abbrev St4:=Int×Int×Int×Int
def GH (s:St4):aj:=⟨s.1,s.2.1,s.2.2.1,s.2.2.2⟩
def xE (b:aj) (z:Int) (p:bE) (s:St4):St4 ⊕ ((Int×Int×Int×Int) ⊕ (aj×Bool)):=
 if p.num=0 then (if z>p.base then .inr (.inr (⟨0,0,0,0⟩,false))else .inl s)
 else if p.side=0 then .inl (max s.1 (b.x0+ -((p.base - z)*p.den/p.num)),s.2.1,s.2.2.1,s.2.2.2)
 else if p.side=1 then .inl (s.1,s.2.1,min s.2.2.1 (b.x1 - -((p.base - z)*p.den/p.num)),s.2.2.2)
 else if p.side=2 then .inl (s.1,max s.2.1 (b.y0+ -((p.base - z)*p.den/p.num)),s.2.2.1,s.2.2.2)
 else .inl (s.1,s.2.1,s.2.2.1,min s.2.2.2 (b.y1 - -((p.base - z)*p.den/p.num)))
theorem RX {n:Nat} {b:aj} {l:List bE} {z:Int} (hb:OkR b=true) (hp:∀ p∈l,TJ p=true) (hz:0<=z∧z<=4096) (hl:l.length<=1000) (hn:2000<=n) (s:St4):
 iter (nV b l z) n ((0:Int),s)=some (wU (xE b z) (fun s=> .inl s) l s):=by
 have hr:=hb;simp only[OkR,and_eq_true,decide_eq_true_eq]at hr;have:=acM (l:=l) (step:=nV b l z) (fun i (s:St4)=>(((i:Nat):Int),s)) (xE b z) (fun s=> .inl s) (fun i hi s=>?_) (fun s=>?_) n (by omega) s
 ·exact this
 ·obtain⟨v2,v3,v4,v5⟩:=s;obtain⟨s1,s2,s3,s4⟩:=(RP _).1 (hp _ (getElem_mem hi));have mb:=ac5 (a:=(l[i]).den) (d:=(l[i]).base - z) (by omega) (by omega);rw[Int.mul_comm]at mb;simp only[nV,bJ hi,cond_true,bn hi,bind_some];rw[bH (x:=(l[i]).base - z) (by omega) (by omega),bH (x:=((l[i]).base - z)*(l[i]).den) (by omega) (by omega)];unfold xE;by_cases h0:(l[i]).num=0
  ·have e0:((l[i]).num==0)=true:=(by simpa using h0);rw[e0,if_pos h0];by_cases hzb:z>(l[i]).base
   ·have d:decide (z>(l[i]).base)=true:=(by simpa using hzb);rw[if_pos hzb];simp only[cond_true,d];rfl
   ·have d:decide (z>(l[i]).base)=false:=(by simpa using hzb);rw[if_neg hzb];simp only[cond_true,cond_false,d,gW,ay (show i < 9223372036854775807 by omega)]
  ·have e0:((l[i]).num==0)=false:=(by simpa using h0);have dv:=ac6 (n:=(l[i]).num) (by omega) mb;rw[e0,if_neg h0];simp only[cond_false];rw[Kg (by omega) (by omega)];simp only[bind_some];generalize ((l[i]).base - z)*(l[i]).den/(l[i]).num=q at*;rw[bH (x:=0 - q) (by omega) (by omega),Int.zero_sub,bH (x:=b.x0+ -q) (by omega) (by omega),bH (x:=b.x1 - -q) (by omega) (by omega),bH (x:=b.y0+ -q) (by omega) (by omega),bH (x:=b.y1 - -q) (by omega) (by omega)];have hs:(l[i]).side=0∨(l[i]).side=1∨(l[i]).side=2∨(l[i]).side=3:=(by omega);rcases hs with e |e |e |e<;>rw[e]<;>simp[ay (show i < 9223372036854775807 by omega)]
 ·obtain⟨v2,v3,v4,v5⟩:=s;simp only[nV,nZ,cond_false]
def afX (b:aj) (z:Int) (l:List bE) (s:St4):Prop:=
    (∃ t,wU (xE b z) (fun s=>(.inl s:(Int×Int×Int×Int) ⊕ (aj×Bool))) l s= .inl t∧(s.1<=t.1∧s.2.1<=t.2.1∧t.2.2.1<=s.2.2.1∧t.2.2.2<=s.2.2.2)∧∀ x y,lF (GH t) x y=true↔lF (GH s) x y=true∧∀ p∈l,asks b z p x y)∨
    (wU (xE b z) (fun s=>(.inl s:(Int×Int×Int×Int) ⊕ (aj×Bool))) l s= .inr (⟨0,0,0,0⟩,false)∧∃ p∈l,∀ x y,¬ asks b z p x y)
theorem dO (r:aj) (x y:Int):lF r x y=true↔(r.x0<=x∧x < r.x1)∧(r.y0<=y∧y < r.y1):=by simp only[lF,and_eq_true,decide_eq_true_eq]
theorem RY {b:aj} {z:Int}:∀ (l:List bE),(∀ p∈l,TJ p=true)->∀ s:St4,afX b z l s
 |[],_,s=> .inl ⟨s,rfl,⟨Int.le_refl _,Int.le_refl _,Int.le_refl _,Int.le_refl _⟩,fun x y=>by simp⟩
 |p::l,hp,s=>by
  have hp0:=hp p mem_cons_self;have ih:=RY (b:=b) (z:=z) l fun q hq=>hp q (mem_cons_of_mem _ hq);obtain⟨s1,s2,s3,s4⟩:=(RP _).1 hp0;have go:∀ s':St4,xE b z p s= .inl s'->(s.1<=s'.1∧s.2.1<=s'.2.1∧s'.2.2.1<=s.2.2.1∧s'.2.2.2<=s.2.2.2)->(∀ x y,lF (GH s') x y=true↔lF (GH s) x y=true∧asks b z p x y)->afX b z (p::l) s:=fun s' hf hb' he=>by
   have hl:wU (xE b z) (fun s=>(.inl s:(Int×Int×Int×Int) ⊕ (aj×Bool))) (p::l) s=wU (xE b z) (fun s=>(.inl s:(Int×Int×Int×Int) ⊕ (aj×Bool))) l s':=(by simp only[wU,hf]);rcases ih s' with ⟨t,t1,t2,t3⟩ |⟨t1,q,hq,t2⟩
   ·exact .inl ⟨t,by rw[hl,t1],⟨by omega,by omega,by omega,by omega⟩,fun x y=>by
     rw[t3,he];simp only[mem_cons,forall_eq_or_imp,and_assoc]⟩
   ·exact .inr ⟨by rw[hl,t1],q,mem_cons_of_mem _ hq,t2⟩
  by_cases h0:p.num=0
  ·by_cases hz:z>p.base
   ·refine .inr ⟨?_,p,mem_cons_self,fun x y ha=>?_⟩
    ·have hf:xE b z p s= .inr (.inr (⟨0,0,0,0⟩,false)):=(by unfold xE;rw[if_pos h0,if_pos hz]);simp only[wU,hf]
    ·unfold asks at ha;rw[h0,Int.zero_mul]at ha;have:0 < (z - p.base)*p.den:=Int.mul_pos (by omega) (by omega);omega
   ·refine go s (by unfold xE;rw[if_pos h0,if_neg hz]) ⟨Int.le_refl _,Int.le_refl _,Int.le_refl _,Int.le_refl _⟩ fun x y=>?_;have:asks b z p x y:=by
     unfold asks;rw[h0,Int.zero_mul];have:=Int.mul_nonneg (a:=p.base - z) (b:=p.den) (by omega) (by omega);rw[show z - p.base= -(p.base - z)by omega,Int.neg_mul];omega
    simp[this]
  ·have hn:0 < p.num:=(by omega);have key:∀ x y,asks b z p x y↔ -((p.base - z)*p.den/p.num)<=NK b p.side x y:=fun x y=>by
    unfold asks;rw[afB hn,show -(z - p.base)=p.base - z by omega]
   have hs:p.side=0∨p.side=1∨p.side=2∨p.side=3:=(by omega);generalize hq:(p.base - z)*p.den/p.num=q at key;rcases hs with e |e |e |e
   ·refine go (max s.1 (b.x0+ -q),s.2.1,s.2.2.1,s.2.2.2) (by unfold xE;rw[if_neg h0,if_pos e,hq]) ⟨by simp only;omega,Int.le_refl _,Int.le_refl _,Int.le_refl _⟩ fun x y=>?_;rw[key];simp only[dO,GH,NK,e,if_true];omega
   ·refine go (s.1,s.2.1,min s.2.2.1 (b.x1 - -q),s.2.2.2) (by unfold xE;rw[if_neg h0,if_neg (by omega),if_pos e,hq]) ⟨Int.le_refl _,Int.le_refl _,by simp only;omega,Int.le_refl _⟩ fun x y=>?_;rw[key];simp only[dO,GH,NK,e,if_neg (show ¬ (1:Int)=0 by omega),if_true];omega
   ·refine go (s.1,max s.2.1 (b.y0+ -q),s.2.2.1,s.2.2.2) (by unfold xE;rw[if_neg h0,if_neg (by omega),if_neg (by omega),if_pos e,hq]) ⟨Int.le_refl _,by simp only;omega,Int.le_refl _,Int.le_refl _⟩ fun x y=>?_;rw[key];simp only[dO,GH,NK,e,if_neg (show ¬ (2:Int)=0 by omega),if_neg (show ¬ (2:Int)=1 by omega),if_true];omega
   ·refine go (s.1,s.2.1,s.2.2.1,min s.2.2.2 (b.y1 - -q)) (by unfold xE;rw[if_neg h0,if_neg (by omega),if_neg (by omega),if_neg (by omega),hq]) ⟨Int.le_refl _,Int.le_refl _,Int.le_refl _,by simp only;omega⟩ fun x y=>?_;rw[key];simp only[dO,GH,NK,e,if_neg (show ¬ (3:Int)=0 by omega),if_neg (show ¬ (3:Int)=1 by omega),if_neg (show ¬ (3:Int)=2 by omega)];omega
theorem ahm (x y:Int):lF (GH (0,0,1048576,1048576)) x y=true↔InG x y:=by
 show ((decide (0<=x)&&decide (x < 1048576))&&(decide (0<=y)&&decide (y < 1048576)))=true↔_;simp only[and_eq_true,decide_eq_true_eq]
theorem Om {n:Nat} (b:aj) (l:List bE) {z:Int} (hz:1<=z∧z<=4096) (hl:l.length<=1000) (hn:2000<=n):
 ∃ r,Cr n b l z=some r∧r.1.length<=1∧(∀ q∈r.1,OkR q=true)∧∀ x y,aO r.1 x y=true↔Cz b l=true∧InG x y∧∀ p∈l,z<=aeF b p x y:=by
 unfold Cr;rw[RS b l hl hn];simp only[bind_some];cases hv:Cz b l with
 |false=>exact⟨_,rfl,by simp,by simp,fun x y=>by simp[aO]⟩
 |true=>
  obtain⟨v1,v2⟩:=(NN b l).1 hv;have dz:decide (0<=z∧z<=4096)=true:=by simp;omega
  have ez:(z==0)=false:=by simp;omega
  simp only[Bool.not_true,cond_false,Dl,dz,bind_some,ez];unfold Hu;rw[show ((0:Int),gv0.x0,gv0.y0,gv0.x1,gv0.y1)=((0:Int),((0,0,1048576,1048576):St4))from rfl,RX v1 v2 (by omega) hl hn];rcases RY (b:=b) (z:=z) l v2 (0,0,1048576,1048576)with ⟨⟨t1,t2,t3,t4⟩,h1,h2,h3⟩ |⟨h1,p,hp,h2⟩
  ·rw[h1];simp only[gW,nJ,bind_some];simp only at h2;have h3':∀ x y,lF ⟨t1,t2,t3,t4⟩ x y=true↔InG x y∧∀ p∈l,z<=aeF b p x y:=fun x y=>by
    have:=h3 x y;rw[show GH (t1,t2,t3,t4)=⟨t1,t2,t3,t4⟩from rfl]at this;rw[this,ahm];constructor
    ·rintro⟨a,b⟩;exact⟨a,fun p hp=>(RU (v2 p hp) x y).1 (b p hp)⟩
    ·rintro⟨a,b⟩;exact⟨a,fun p hp=>(RU (v2 p hp) x y).2 (b p hp)⟩
   by_cases hx:t1 < t3
   ·have dx:decide (t1 < t3)=true:=(by simpa using hx);simp only[dx,cond_true];by_cases hy:t2 < t4
    ·have dy:decide (t2 < t4)=true:=(by simpa using hy);simp only[dy,cond_true];refine⟨([aj.mk t1 t2 t3 t4],0),rfl,by simp,fun q hq=>?_,fun x y=>?_⟩
     ·rw[List.mem_singleton.1 hq];simp only[OkR,and_eq_true,decide_eq_true_eq];omega
     ·rw[show aO [aj.mk t1 t2 t3 t4] x y=lF ⟨t1,t2,t3,t4⟩ x y by simp[aO,lF],h3'];simp
    ·have dy:decide (t2 < t4)=false:=(by simpa using hy);simp only[dy,cond_false];refine⟨_,rfl,by simp,by simp,fun x y=>?_⟩;have h0:lF ⟨t1,t2,t3,t4⟩ x y=false:=(by simp only[lF];rw[Bool.and_eq_false_iff];right;rw[Bool.and_eq_false_iff,decide_eq_false_iff_not,decide_eq_false_iff_not];omega);have:=h3' x y;rw[h0]at this;simp only[aO,List.any_nil,Bool.false_eq_true,false_iff,true_and];exact fun h=>by have:=this.2 h;cases this
   ·have dx:decide (t1 < t3)=false:=(by simpa using hx);simp only[dx,cond_false];refine⟨_,rfl,by simp,by simp,fun x y=>?_⟩;have h0:lF ⟨t1,t2,t3,t4⟩ x y=false:=(by simp only[lF];rw[Bool.and_eq_false_iff];left;rw[Bool.and_eq_false_iff,decide_eq_false_iff_not,decide_eq_false_iff_not];omega);have:=h3' x y;rw[h0]at this;simp only[aO,List.any_nil,Bool.false_eq_true,false_iff,true_and];exact fun h=>by have:=this.2 h;cases this
  ·rw[h1];simp only[Lg,bind_some,cond_false];refine⟨_,rfl,by simp,by simp,fun x y=>?_⟩;simp only[aO,List.any_nil,Bool.false_eq_true,false_iff,true_and];rintro⟨_,h⟩;exact h2 x y ((RU (v2 p hp) x y).2 (h p hp))
def ApR (a b:aj):Prop:=∀ x y,lF a x y=true->lF b x y=true->False
def zK (l:List aj):Prop:=l.Pairwise ApR∧∀ r∈l,OkR r=true
theorem kK (l:List aj) (x y:Int):aO l x y=true↔∃ r∈l,lF r x y=true:=by simp[aO,lF]
theorem TK (a b:List aj) (x y:Int):aO (a++b) x y=(aO a x y || aO b x y):=by simp[aO]
theorem sS (r:aj):OkR r=true↔(0<=r.x0∧r.x0 < r.x1∧r.x1<=1048576)∧(0<=r.y0∧r.y0 < r.y1∧r.y1<=1048576):=by simp only[OkR,and_eq_true,decide_eq_true_eq];omega
theorem aa5 {a:List aj} (h:rightL a=true):zK a:=by
 obtain⟨rok,hro,_⟩:=Ie h;refine⟨?_,(bV h).1⟩;rw[<- hro];unfold fJ;rw[List.pairwise_flatMap];refine⟨fun s hs=>?_,(LM rok.runs).imp fun {s t} hst=>?_⟩
 ·unfold aA;rw[List.pairwise_map];refine (rok.col s hs).1.1.imp fun {p q} hpq x y h1 h2=>?_;rw[dO]at h1 h2;simp only at h1 h2;omega
 ·intro p hp q hq x y h1 h2;unfold aA at hp hq;obtain⟨p',_,rfl⟩:=mem_map.1 hp;obtain⟨q',_,rfl⟩:=mem_map.1 hq;rw[dO]at h1 h2;simp only at h1 h2;omega
theorem Be (a b:aj):nW a b=some (bG a b,decide ((bG a b).x0 < (bG a b).x1)&&decide ((bG a b).y0 < (bG a b).y1)):=by
 unfold nW bG;simp only[nJ];cases decide (max a.x0 b.x0 < min a.x1 b.x1)<;>rfl
def fe (a b:aj):Bool:=decide ((bG a b).x0 < (bG a b).x1)&&decide ((bG a b).y0 < (bG a b).y1)
theorem Kh (a b:aj) (x y:Int):lF (bG a b) x y=(lF a x y&&lF b x y):=by
 rw[Bool.eq_iff_iff,and_eq_true,dO,dO,dO];unfold bG;simp only;omega
theorem W9 {a b:aj} (ha:OkR a=true) (hb:OkR b=true) (hm:fe a b=true):OkR (bG a b)=true:=by
 rw[sS]at*;unfold fe bG at hm;simp only[and_eq_true,decide_eq_true_eq]at hm;unfold bG;simp only;omega
theorem Vr {a b:aj} (h:fe a b=false) (x y:Int):(lF a x y&&lF b x y)=false:=by
 rw[<- Kh,Bool.eq_false_iff];intro hc;rw[dO]at hc;have:fe a b=true:=by simp only[fe,and_eq_true,decide_eq_true_eq];omega
 rw[h]at this;cases this
def okB (r:aj):Bool:=decide (r.x0 < r.x1)&&decide (r.y0 < r.y1)
def four (r m:aj):List aj:=[⟨r.x0,r.y0,m.x0,r.y1⟩,⟨m.x1,r.y0,r.x1,r.y1⟩,⟨m.x0,r.y0,m.x1,m.y0⟩,⟨m.x0,m.y1,m.x1,r.y1⟩]
def Ki (c r:aj):List aj:=bif fe r c then (four r (bG r c)).filter okB else [r]
def DL (l:List aj) (c:aj):List aj:=l.flatMap (Ki c)
theorem aeG (c r:aj):(Ki c r).length<=4:=by
 unfold Ki;cases fe r c with
 |false=>simp
 |true=>exact Nat.le_trans (length_filter_le _ _) (by simp[four])
theorem Gc {n:Nat} (x m:aj) (b:Bool) (out:List aj) (ho:out.length<=1000000000) (hn:10 < n):
 iter (kS x (m,b)) n ((0:Int),out)=some (out++(four x m).filter okB):=by
 have:=bD (l:=four x m) (step:=kS x (m,b)) (fun i (s:List aj)=>((i:Int),s)) (fun r s=>bif okB r then s++[r]else s) (fun s=>s) (fun i s=>s.length<=out.length+i)
  (fun i hi s hs=>?_) (fun s hs=>by simp[kS,four]) n (by simp[four];omega) out (Nat.le_refl _)
 ·rw[show ((0:Nat):Int)=0 from rfl]at this;rw[this];congr 1;have gen:∀ (ys:List aj) (s:List aj),ys.foldl (fun s r=>bif okB r then s++[r]else s) s=s++ys.filter okB:=by
   intro ys
   induction ys with
   |nil=>intro s;simp
   |cons y ys ih=>
    intro s;rw[foldl_cons,ih,List.filter_cons];cases okB y<;>simp
  exact gen _ _
 ·have h4:i < 4:=by simpa[four]using hi
  have g:at? ([(aj.mk x.x0 x.y0 m.x0 x.y1),(aj.mk m.x1 x.y0 x.x1 x.y1),(aj.mk m.x0 x.y0 m.x1 m.y0),(aj.mk m.x0 m.y1 m.x1 x.y1)]:List aj) (((0:Nat):Int)+((i:Nat):Int))=some (four x m)[i]:=bL hi;generalize (four x m)[i]=r at*;have ap:bq s.length s.length (sub ([r]:List aj) 0 1).length 1 32=true:=bf (n:=1) (by omega) (by simp only[maxLen];omega);simp only[kS,bJ h4,cond_true,aZ h4,g,bind_some,nJ,ap,dw,aC,okB,ay (show i < 9223372036854775807 by omega)];cases decide (r.x0 < r.x1)<;>cases decide (r.y0 < r.y1)<;>refine⟨rfl,?_⟩<;>simp<;>omega
theorem Oo {n:Nat} {l:List aj} (c:aj) (hl:l.length<=1000000) (hn:10 < n) (hn2:l.length < n):vO n l c=some (DL l c):=by
 unfold vO
 have:=bD (l:=l) (step:=oD n l c) (fun i (s:List aj)=>((i:Int),s)) (fun r s=>s++Ki c r) (fun s=>s) (fun i s=>s.length<=4*i)
  (fun i hi s hs=>?_) (fun s hs=>by simp[oD]) n hn2 [] (by simp)
 ·rw[show ((0:Nat):Int)=0 from rfl]at this;simp only[length_nil,aC,cond_true,this,bind_some,bB];congr 1;have gen:∀ (ys:List aj) (s:List aj),ys.foldl (fun s r=>s++Ki c r) s=s++DL ys c:=by
   intro ys
   induction ys with
   |nil=>intro s;simp[DL]
   |cons y ys ih=>intro s;rw[foldl_cons,ih];simp[DL]
  exact gen l []
 ·have cl:=aeG c l[i];have ap:bq s.length s.length (sub ([l[i]]:List aj) 0 1).length 1 32=true:=bf (n:=1) (by omega) (by simp only[maxLen];omega);simp only[oD,bJ hi,cond_true,bn hi,bind_some,Be,ap,dw,aC,Gc (n:=n) l[i] (bG l[i] c) _ s (by omega) hn,nJ,ay (show i < 9223372036854775807 by omega)];rw[show (decide ((bG l[i] c).x0 < (bG l[i] c).x1)&&decide ((bG l[i] c).y0 < (bG l[i] c).y1))=fe l[i] c from rfl];refine⟨?_,by rw[length_append];omega⟩;unfold Ki;cases fe l[i] c<;>rfl
theorem ac7 (r c:aj) (hm:fe r c=true) (x y:Int):aO ((four r (bG r c)).filter okB) x y=(lF r x y&&!lF c x y):=by
 unfold fe bG at hm;simp only[and_eq_true,decide_eq_true_eq]at hm;rw[Bool.eq_iff_iff,kK,and_eq_true,Bool.not_eq_true',<- Bool.not_eq_true,dO,dO];constructor
 ·rintro⟨q,hq,hh⟩;obtain⟨hq,_⟩:=mem_filter.1 hq;rw[dO]at hh;simp only[four,bG,mem_cons,List.not_mem_nil,or_false]at hq;rcases hq with rfl |rfl |rfl |rfl<;>simp only at hh<;>omega
 ·rintro⟨h1,h2⟩;have key:∀ q,q∈four r (bG r c)->lF q x y=true->∃ q∈(four r (bG r c)).filter okB,lF q x y=true:=fun q hq hh=>by
   refine⟨q,mem_filter.2 ⟨hq,?_⟩,hh⟩;rw[dO]at hh;simp only[okB,and_eq_true,decide_eq_true_eq];omega
  by_cases c1:x < c.x0
  ·exact key ⟨r.x0,r.y0,(bG r c).x0,r.y1⟩ (by simp[four]) (by rw[dO];simp only[bG];omega)
  ·by_cases c2:c.x1<=x
   ·exact key ⟨(bG r c).x1,r.y0,r.x1,r.y1⟩ (by simp[four]) (by rw[dO];simp only[bG];omega)
   ·by_cases c3:y < c.y0
    ·exact key ⟨(bG r c).x0,r.y0,(bG r c).x1,(bG r c).y0⟩ (by simp[four]) (by rw[dO];simp only[bG];omega)
    ·exact key ⟨(bG r c).x0,(bG r c).y1,(bG r c).x1,r.y1⟩ (by simp[four]) (by rw[dO];simp only[bG];omega)
theorem L9 (c r:aj) (x y:Int):aO (Ki c r) x y=(lF r x y&&!lF c x y):=by
 unfold Ki;cases hm:fe r c with
 |true=>exact ac7 r c hm x y
 |false=>
  have:=Vr hm x y;have e:aO [r] x y=lF r x y:=by simp[aO,lF]
  simp only[cond_false,e];cases h1:lF r x y with
  |false=>rfl
  |true=>rw[h1]at this;simp at this;simp[this]
theorem E9 (f:aj->List aj) (l:List aj) (x y:Int):aO (l.flatMap f) x y=l.any fun r=>aO (f r) x y:=by
 induction l with
 |nil=>rfl
 |cons r l ih=>rw[List.flatMap_cons,TK,ih,List.any_cons]
theorem ac8 (l:List aj) (c:aj) (x y:Int):aO (DL l c) x y=(aO l x y&&!lF c x y):=by
 unfold DL;rw[E9];have e:aO l x y=l.any fun r=>lF r x y:=rfl;rw[e,Bool.eq_iff_iff,and_eq_true,any_eq_true,any_eq_true];constructor
 ·rintro⟨r,hr,h⟩;rw[L9,and_eq_true]at h;exact⟨⟨r,hr,h.1⟩,h.2⟩
 ·rintro⟨⟨r,hr,h⟩,h2⟩;exact⟨r,hr,by rw[L9,h,h2];rfl⟩
def Bf (X Y:List Int) (l:List aj):Prop:=∀ r∈l,r.x0∈X∧r.y0∈Y
theorem Ph {X:List Int} {a b:Int} (h1:a∈X) (h2:b∈X):max a b∈X:=by
 rcases Int.le_total a b with h |h
 ·rw[Int.max_eq_right h];exact h2
 ·rw[Int.max_eq_left h];exact h1
theorem Zc {c r q:aj} (hr:OkR r=true) (hc:OkR c=true) (h:q∈Ki c r):OkR q=true∧(∀ X:List Int,r.x0∈X->c.x0∈X->c.x1∈X->q.x0∈X)∧(∀ Y:List Int,r.y0∈Y->c.y1∈Y->q.y0∈Y):=by
 unfold Ki at h;cases hm:fe r c with
 |false=>
  rw[hm]at h;simp only[cond_false,List.mem_singleton]at h;subst h;exact⟨hr,fun X h _ _=>h,fun Y h _=>h⟩
 |true=>
  rw[hm]at h;simp only[cond_true]at h;obtain⟨h1,h2⟩:=mem_filter.1 h;simp only[okB,and_eq_true,decide_eq_true_eq]at h2;have hk:=W9 hr hc hm;rw[sS]at hr hc;rw[sS]at hk;have cx:(bG r c).x0=max r.x0 c.x0∧(bG r c).y0=max r.y0 c.y0∧(bG r c).x1=min r.x1 c.x1∧(bG r c).y1=min r.y1 c.y1:=⟨rfl,rfl,rfl,rfl⟩;obtain⟨c1,c2,c3,c4⟩:=cx;simp only[four,mem_cons,List.not_mem_nil,or_false]at h1;rw[sS];rcases h1 with rfl |rfl |rfl |rfl
  ·simp only at h2 ⊢;exact⟨by omega,fun X a _ _=>a,fun Y a _=>a⟩
  ·simp only at h2 ⊢;refine⟨by omega,fun X _ _ a=>?_,fun Y a _=>a⟩;rw[show (bG r c).x1=c.x1 by omega];exact a
  ·simp only at h2 ⊢;refine⟨by omega,fun X a b _=>?_,fun Y a _=>a⟩;rw[c1];exact Ph a b
  ·simp only at h2 ⊢;refine⟨by omega,fun X a b _=>?_,fun Y _ a=>?_⟩
   ·rw[c1];exact Ph a b
   ·rw[show (bG r c).y1=c.y1 by omega];exact a
theorem ac9 {c r:aj} (hr:OkR r=true) (hc:OkR c=true):(Ki c r).Pairwise ApR:=by
 unfold Ki;cases hm:fe r c with
 |false=>simp
 |true=>
  simp only[cond_true];refine List.Pairwise.filter _ ?_;have hk:=W9 hr hc hm;rw[sS]at hk;simp only[four,List.pairwise_cons,mem_cons,List.not_mem_nil,or_false,forall_eq_or_imp,forall_eq,List.Pairwise.nil,and_true,false_implies,implies_true];refine⟨⟨?_,?_,?_⟩,⟨?_,?_⟩,?_⟩<;>intro x y h1 h2<;>rw[dO]at h1 h2<;>simp only at h1 h2<;>omega
theorem Vs {l:List aj} {c:aj} (h:zK l) (hc:OkR c=true):zK (DL l c):=by
 refine⟨?_,fun q hq=>?_⟩
 ·unfold DL;rw[List.pairwise_flatMap];refine⟨fun r hr=>ac9 (h.2 r hr) hc,h.1.imp fun {r s} hrs p hp q hq x y h1 h2=>?_⟩;have e1:aO (Ki c r) x y=true:=(kK _ _ _).2 ⟨p,hp,h1⟩;have e2:aO (Ki c s) x y=true:=(kK _ _ _).2 ⟨q,hq,h2⟩;rw[L9,and_eq_true]at e1 e2;exact hrs x y e1.1 e2.1
 ·obtain⟨r,hr,h1⟩:=mem_flatMap.1 hq;exact (Zc (h.2 r hr) hc h1).1
theorem Vt {l:List aj} {c:aj} (h:∀ r∈l,OkR r=true) (hc:OkR c=true) {X Y:List Int} (hx:Bf X Y l) (h1:c.x0∈X) (h2:c.x1∈X) (h3:c.y1∈Y):Bf X Y (DL l c):=by
 intro q hq;obtain⟨r,hr,hm⟩:=mem_flatMap.1 hq;obtain⟨_,g2,g3⟩:=Zc (h r hr) hc hm;exact⟨g2 X (hx r hr).1 h1 h2,g3 Y (hx r hr).2 h3⟩
theorem Zd {X Y:List Int} {l:List aj} (h:zK l) (hx:Bf X Y l):l.length<=X.length*Y.length:=by
 have e:(X.flatMap fun x=>Y.map fun y=>(x,y)).length=X.length*Y.length:=by
  clear hx
  induction X with
  |nil=>simp
  |cons x X ih=>rw[List.flatMap_cons,length_append,ih,length_map,length_cons,Nat.add_mul];omega
 have:=LJ (l:=l.map fun r=>(r.x0,r.y0)) (m:=X.flatMap fun x=>Y.map fun y=>(x,y)) (by
  rw[List.pairwise_map];refine (List.Pairwise.and_mem.1 h.1).imp fun {a b} hab=>?_;obtain⟨h1,h2,h3⟩:=hab;intro he;have e1:a.x0=b.x0:=congrArg Prod.fst he;have e2:a.y0=b.y0:=congrArg Prod.snd he;have o1:=(sS _).1 (h.2 a h1);have o2:=(sS _).1 (h.2 b h2);exact h3 a.x0 a.y0 ((dO _ _ _).2 (by omega)) ((dO _ _ _).2 (by omega))) (fun p hp=>by
  obtain⟨r,hr,rfl⟩:=mem_map.1 hp;exact mem_flatMap.2 ⟨r.x0,(hx r hr).1,mem_map.2 ⟨r.y0,(hx r hr).2,rfl⟩⟩)
 rw[length_map,e]at this;exact this
theorem CB {l:List aj} {x0 x1:Int} (hl:l.length < 1099511627776) {n:Nat} (hn:l.length < n):iter (iC l x0 x1) n ((0:Int),([]:List aj))=some (aA x0 x1 (Cv l x0 x1)):=by
 have:=bD (l:=l) (step:=iC l x0 x1) (fun i (s:List aj)=>((i:Int),s)) (fun r s=>bif decide (r.x0<=x0)&&decide (x1<=r.x1)then s++[⟨x0,r.y0,x1,r.y1⟩]else s) (fun s=>s) (fun i s=>s.length<=i)
  (fun i hi s hs=>?_) (fun s hs=>by simp[iC]) n hn [] (Nat.le_refl _)
 ·rw[show ((0:Nat):Int)=0 from rfl]at this;rw[this];congr 1;have gen:∀ (ys:List aj) (s:List aj),ys.foldl (fun s r=>bif decide (r.x0<=x0)&&decide (x1<=r.x1)then s++[⟨x0,r.y0,x1,r.y1⟩]else s) s=s++aA x0 x1 (Cv ys x0 x1):=by
   intro ys
   induction ys with
   |nil=>intro s;simp[Cv,aA]
   |cons y ys ih=>
    intro s;simp only[foldl_cons,ih];cases h:(decide (y.x0<=x0)&&decide (x1<=y.x1))with
    |true=>simp[Cv,h,aA,J7]
    |false=>simp[Cv,h]
  simpa using gen l []
 ·have hi':decide (((i:Nat):Int) < (l.length:Int))=true:=by simpa using hi
  have ap:bq s.length s.length (sub ([(aj.mk x0 l[i].y0 x1 l[i].y1)]:List aj) 0 1).length 1 32=true:=bf (n:=1) (by omega) (by simp only[maxLen];omega);simp only[iC,hi',cond_true,bn hi,bind_some,Lu];cases h:(decide (l[i].x0<=x0)&&decide (x1<=l[i].x1))with
  |true=>
   simp only[cond_true,ap,dw,aC,bind_some];refine⟨?_,by simp;omega⟩;rw[ay (by omega)];rfl
  |false=>
   simp only[cond_false,aC,cond_true,bind_some];exact⟨by rw[ay (by omega)],by omega⟩
theorem CF (x0 x1:Int) (a b:List ax):aA x0 x1 (a++b)=aA x0 x1 a++aA x0 x1 b:=by simp[aA]
theorem CG {n:Nat} {x0 x1:Int} (w1:List aj) (T:List ax) (hw:w1.length=T.length) (hl:T.length < 1099511627776) (hn:T.length < n):
 ∃ o,iter (iD w1) n ((0:Int),(0:Int),aA x0 x1 T)=some o∧o.1=(((T.foldl ext []).length:Nat):Int)∧o.2.take (T.foldl ext []).length=aA x0 x1 (T.foldl ext [])∧(T.foldl ext []).length<=T.length:=by
 refine RN (fun i (v:Int×Int×List aj)=>v.2.1=(i:Int)∧v.1=((((T.take i).foldl ext []).length:Nat):Int)∧∃ mid,v.2.2=aA x0 x1 ((T.take i).foldl ext [])++mid++aA x0 x1 (T.drop i)∧mid.length+((T.take i).foldl ext []).length=i) T.length _ (fun i v hi hR=>?_) (fun v hR=>?_) n hn _ ⟨rfl,rfl,[],by simp[aA],by simp⟩
 ·obtain⟨v5,v6,v7⟩:=v;obtain⟨h1,h2,mid,h3,h4⟩:=hR;simp only at h1 h2 h3;subst h1;subst h2;subst h3;have hC:(T.take (i+1)).foldl ext []=ext ((T.take i).foldl ext []) T[i]:=by rw[List.take_succ_eq_append_getElem hi,List.foldl_append];rfl
  generalize (T.take i).foldl ext []=C at*;have lC:(aA x0 x1 C).length=C.length:=aU _ _ _;have dr:aA x0 x1 (T.drop i)=⟨x0,T[i].from_,x1,T[i].to⟩::aA x0 x1 (T.drop (i+1)):=by rw[List.drop_eq_getElem_cons hi];rfl
  have g2:at? (aA x0 x1 C++mid++aA x0 x1 (T.drop i)) (((0:Nat):Int)+((i:Nat):Int))=some ⟨x0,T[i].from_,x1,T[i].to⟩:=by rw[ow,List.getElem?_append_right (by rw[length_append];omega),dr,length_append,lC,show i - (C.length+mid.length)=0 by omega];rfl
  obtain⟨m0,ms,hms⟩:∃ m0 ms,mid++[(⟨x0,T[i].from_,x1,T[i].to⟩:aj)]=m0::ms:=by
   cases mid with
   |nil=>exact⟨_,_,rfl⟩
   |cons a b=>exact⟨_,_,rfl⟩
  have hA:aA x0 x1 C++mid++aA x0 x1 (T.drop i)=aA x0 x1 C++(m0::ms)++aA x0 x1 (T.drop (i+1)):=by rw[dr,<- hms];simp
  have lm:ms.length=mid.length:=by have:=congrArg List.length hms;simp at this;omega
  have ibi:inb ((i:Nat):Int) w1.length=true:=aZ (by omega);have d1:decide (((i:Nat):Int) < ((w1.length:Nat):Int))=true:=by rw[hw];exact bJ hi
  have w:i64.wrap ((i:Int)+1)=((i+1:Nat):Int):=ay (by omega);have new:ext C T[i]=C++[T[i]]->∃ v',some (Sum.inl ((((C.length+1:Nat):Int)),((i+1:Nat):Int),(aA x0 x1 C++mid++aA x0 x1 (T.drop i)).set C.length ⟨x0,T[i].from_,x1,T[i].to⟩))=some (Sum.inl v':(Int×Int×List aj) ⊕ (Int×List aj))∧v'.2.1=((i+1:Nat):Int)∧v'.1=(((ext C T[i]).length:Nat):Int)∧∃ mid',v'.2.2=aA x0 x1 (ext C T[i])++mid'++aA x0 x1 (T.drop (i+1))∧mid'.length+(ext C T[i]).length=i+1:=fun he=>by
   refine⟨_,rfl,rfl,by rw[he];simp,ms,?_,by rw[he,length_append,List.length_singleton];omega⟩;show (aA x0 x1 C++mid++aA x0 x1 (T.drop i)).set C.length _=_;rw[hA,append_assoc,List.cons_append,he,CF];have:=Rt (aA x0 x1 C) (ms++aA x0 x1 (T.drop (i+1))) m0 ⟨x0,T[i].from_,x1,T[i].to⟩;rw[lC]at this;rw[this];simp[aA]
  rcases List.eq_nil_or_concat C with e0 |⟨o,q,e0⟩
  ·subst e0;have e1:ext [] T[i]=[]++[T[i]]:=rfl;have d5:decide (((([]:List ax).length:Nat):Int)>0)=false:=rfl;have ib0:inb (((([]:List ax).length:Nat):Int)) w1.length=true:=aZ (by simp;omega);have g0:∃ z,at? (aA x0 x1 []++mid++aA x0 x1 (T.drop i)) (((0:Nat):Int)+((([]:List ax).length:Nat):Int))=some z:=by
    rw[hA];exact⟨m0,by simp[at?,aA]⟩
   obtain⟨z,g0⟩:=g0;have z0:(((0:Nat):Int)+((([]:List ax).length:Nat):Int)).toNat=([]:List ax).length:=rfl;have wl:i64.wrap (((([]:List ax).length:Nat):Int)+1)=(((([]:List ax).length+1:Nat)):Int):=ay (by simp);rw[hC];simp only[iD,d1,cond_true,ibi,g2,bind_some,d5,cond_false,ib0,g0,z0,wl,w];exact new e1
  ·rw[List.concat_eq_append]at e0;have d5:decide (((C.length:Nat):Int)>0)=true:=(by rw[e0];simp);have wp:i64.wrap (((C.length:Nat):Int) - 1)=((o.length:Nat):Int):=(by rw[gV (by rw[e0];simp) (by omega),e0];simp);have ibo:inb ((o.length:Nat):Int) w1.length=true:=aZ (by rw[e0]at h4;simp at h4;omega);have ibc:inb ((C.length:Nat):Int) w1.length=true:=aZ (by omega);have lo:(aA x0 x1 o).length=o.length:=aU _ _ _;have gq:at? (aA x0 x1 C++mid++aA x0 x1 (T.drop i)) (((0:Nat):Int)+((o.length:Nat):Int))=some ⟨x0,q.from_,x1,q.to⟩:=(by rw[ow,e0,CF,append_assoc,append_assoc,List.getElem?_append_right (by omega),lo,Nat.sub_self];rfl);have zo:(((0:Nat):Int)+((o.length:Nat):Int)).toNat=o.length:=(by omega);have zc:(((0:Nat):Int)+((C.length:Nat):Int)).toNat=C.length:=(by omega);have wl:i64.wrap (((C.length:Nat):Int)+1)=((C.length+1:Nat):Int):=ay (by omega);have gc:∃ z,at? (aA x0 x1 C++mid++aA x0 x1 (T.drop i)) (((0:Nat):Int)+((C.length:Nat):Int))=some z:=by
    rw[hA,ow,append_assoc,List.getElem?_append_right (by omega),lC,Nat.sub_self];exact⟨m0,rfl⟩
   obtain⟨z,gc⟩:=gc;rw[hC];simp only[iD,d1,cond_true,ibi,g2,bind_some,d5,wp,ibo,gq,ibc,zo,zc,wl,w];have eo:ext C T[i]=bif q.to==T[i].from_ then o++[⟨q.from_,T[i].to⟩]else o++[q]++[T[i]]:=(by rw[e0];exact H7 o q T[i]);cases hq:q.to==T[i].from_ with
   |true=>
    rw[hq]at eo;simp only[cond_true]at eo ⊢;refine⟨_,rfl,rfl,?_,mid++[⟨x0,T[i].from_,x1,T[i].to⟩],?_,?_⟩
    ·rw[eo,e0];simp
    ·show (aA x0 x1 C++mid++aA x0 x1 (T.drop i)).set o.length _=_;rw[eo,e0,CF,dr,CF];have:=Rt (aA x0 x1 o) (mid++(⟨x0,T[i].from_,x1,T[i].to⟩::aA x0 x1 (T.drop (i+1)))) ⟨x0,q.from_,x1,q.to⟩ ⟨x0,q.from_,x1,T[i].to⟩;rw[lo]at this;simp only[append_assoc];refine Eq.trans this ?_;simp[aA]
    ·rw[eo];rw[e0]at h4;simp at h4 ⊢;omega
   |false=>
    rw[hq]at eo;simp only[cond_false]at eo ⊢;have e1:ext C T[i]=C++[T[i]]:=(by rw[eo,e0]);simp only[gc,bind_some];exact new e1
 ·obtain⟨v5,v6,v7⟩:=v;obtain⟨h1,h2,mid,h3,h4⟩:=hR;simp only at h1 h2 h3;subst h1;subst h2;subst h3;rw[List.take_length]at*;have d1:decide (((T.length:Nat):Int) < ((w1.length:Nat):Int))=false:=by rw[hw];exact nZ _
  simp only[iD,d1,cond_false];refine⟨_,rfl,rfl,?_,by omega⟩;show List.take _ (aA x0 x1 (T.foldl ext [])++mid++_)=_;rw[append_assoc,List.take_left' (aU _ _ _)]
theorem aa6 {l:List aj} (h:zK l) (x:Int):(bI l x).Pairwise fun s t=>s.to<=t.from_∨t.to<=s.from_:=by
 unfold bI;rw[List.pairwise_map];refine (List.Pairwise.and_mem.1 (h.1.filter _)).imp fun {a b} hab=>?_;obtain⟨h1,h2,h3⟩:=hab;obtain⟨m1,p1⟩:=mem_filter.1 h1;obtain⟨m2,p2⟩:=mem_filter.1 h2;simp only[and_eq_true,decide_eq_true_eq]at p1 p2;have o1:=(sS _).1 (h.2 a m1);have o2:=(sS _).1 (h.2 b m2);show a.y1<=b.y0∨b.y1<=a.y0;by_cases c1:a.y1<=b.y0
 ·exact .inl c1
 ·by_cases c2:b.y1<=a.y0
  ·exact .inr c2
  ·exact (h3 x (max a.y0 b.y0) ((dO _ _ _).2 (by omega)) ((dO _ _ _).2 (by omega))).elim
theorem Ih {n:Nat} {l:List aj} {x0 x1:Int} (hd:zK l) (ha:∀ r∈l,(decide (r.x0<=x0)&&decide (x1<=r.x1))=(decide (r.x0<=x0)&&decide (x0 < r.x1)))
 (hl:l.length < 1099511627776) (hn:l.length < n):oF n l x0 x1=some (aA x0 x1 (aL l x0)):=by
 have hv:=hd.2;have hs:Cv l x0 x1=bI l x0:=by
  unfold Cv bI;rw[List.filter_congr ha];rfl
 have h1:=xw l x0;have hp:=Cg Pe (aA x0 x1 (bI l x0));have hso:=Ch Pe (aA x0 x1 (bI l x0));have h2:(wV ltY (aA x0 x1 (bI l x0))).length=(bI l x0).length:=by rw[JC Pe,aU]
 unfold oF;simp only[length_nil,aC,cond_true,CB (x0:=x0) (x1:=x1) (l:=l) (by omega) (n:=n) (by omega),bind_some,hs];rw[Ga (fun a b=>if a.y0 < b.y0 then -1 else if b.y0 < a.y0 then 1 else 0) (fun a b=>by show kI a b=_;unfold kI;rw[iE];rfl) (fun a b=>by
  by_cases h1:a.y0 < b.y0
  ·simp[h1]
  ·by_cases h2:b.y0 < a.y0<;>simp[h1,h2]) (by rw[aU];omega) (by rw[aU];omega)]
 simp only[bind_some];generalize hL:wV ltY (aA x0 x1 (bI l x0))=L at*;have hx:∀ r∈L,r.x0=x0∧r.x1=x1:=by
  intro r hr;have:=hp.mem_iff.1 hr;simp only[aA,mem_map]at this;obtain⟨s,_,rfl⟩:=this;exact⟨rfl,rfl⟩
 have eL:=Vl hx;have pT:(L.map J7).Perm (bI l x0):=by
  have:=hp.map J7;rw[Y2]at this;exact this
 have sT:(L.map J7).Pairwise fun x y=>x.from_<=y.from_:=by
  rw[List.pairwise_map];refine hso.imp fun {a b} hab=>?_;simp only[ltY,decide_eq_false_iff_not]at hab;show a.y0<=b.y0;omega
 generalize L.map J7=T at eL pT sT;subst eL;rw[aU]at h2;have oT:∀ s∈T,OkS s:=fun s h=>HV hv x0 s (pT.mem_iff.1 h);have dT:T.Pairwise fun s t=>s.to<=t.from_∨t.to<=s.from_:=(pT.pairwise_iff (fun {a b} h=>h.symm)).2 (aa6 hd x0);have aT:T.Pairwise fun x y=>x.to<=y.from_:=by
  refine (List.Pairwise.and_mem.1 (sT.and dT)).imp fun {a b} hab=>?_;obtain⟨m1,m2,s1,s2⟩:=hab;have:=oT a m1;have:=oT b m2;rcases s2 with h |h
  ·exact h
  ·simp only[OkS]at *;omega
 obtain⟨o,g1,g2,g3,g4⟩:=CG (n:=n) (x0:=x0) (x1:=x1) (aA x0 x1 (bI l x0)) T (by rw[aU];omega) (by omega) (by omega);obtain⟨o1,o2⟩:=o;simp only at g2 g3;subst g2;rw[g1];have so:zi 0 (((T.foldl ext []).length:Nat):Int) (aA x0 x1 (bI l x0)).length=true:=Az (by omega) (by omega) (by rw[aU];omega);have z:((((T.foldl ext []).length:Nat):Int)).toNat=(T.foldl ext []).length:=by omega
 rw[aU]at so;simp only[bind_some,aU,so,cond_true,z,aef,g3,aC];obtain⟨c1,c2⟩:=LD T [] vQ oT aT (by simp);obtain⟨d1,d2⟩:=cZ hv x0;rw[l5 c1 d1 fun y=>by rw[c2,d2,sP,Bool.false_or,Rs pT,EN]]
theorem agZ {n:Nat} {x0 x1 u0 u1:Int} {c d:List ax} (hl:c.length < 1099511627776) (hn:c.length < n):
 gP n (aA x0 x1 c) (aA u0 u1 d) (fun y:aj×aj×Unit=>jN y.1 y.2.1)=some (decide (c=d)):=by
 unfold gP;rw[aU,aU];by_cases hlen:c.length=d.length
 ·have h0:(((c.length:Nat):Int) != ((d.length:Nat):Int))=false:=by simp[hlen]
  rw[h0];have zl:(c.zip d).length=c.length:=by rw[List.length_zip];omega
  have:=rz (l:=c.zip d) (step:=fq (aA x0 x1 c) (aA u0 u1 d) (fun y:aj×aj×Unit=>jN y.1 y.2.1)) (fun i=>((i:Nat):Int)) (fun z=>!decide (z.1=z.2)) () (fun _=>false) (fun i hi=>?_) ?_ n (by omega)
  ·rw[show ((0:Nat):Int)=0 from rfl]at this;simp only[cond_false];rw[this];rcases Ce (fun z:ax×ax=>!decide (z.1=z.2)) (c.zip d)with ⟨i,hi,h1,h2,_⟩ |⟨h1,h2⟩
   ·rw[h1];have:c≠d:=by
     intro e;subst e;simp at h2
    simp[this]
   ·rw[h1];have:c=d:=by
     refine List.ext_getElem hlen fun i hi hj=>?_;have hm:(c[i],d[i])∈c.zip d:=by
      rw[List.mem_iff_getElem];exact⟨i,by omega,by simp⟩
     have:=h2 _ hm;simpa using this
    simp[this]
  ·have hic:i < c.length:=(by omega);have hid:i < d.length:=(by omega);have hi':decide (((i:Nat):Int) < (((aA x0 x1 c).length:Nat):Int))=true:=(by rw[aU];simpa using hic);simp only[fq,hi',cond_true,RA hic,RA hid,bind_some,List.getElem_zip];generalize c[i]=p;generalize d[i]=q;obtain⟨p1,p2⟩:=p;obtain⟨q1,q2⟩:=q;have e:decide ((⟨p1,p2⟩:ax)=⟨q1,q2⟩)=((p1==q1)&&(p2==q2)):=(by rw[Bool.eq_iff_iff];simp);rw[e];unfold jN;simp only;rw[ay (by omega)];cases p1==q1<;>cases p2==q2<;>rfl
  ·have hi':decide ((((c.zip d).length:Nat):Int) < (((aA x0 x1 c).length:Nat):Int))=false:=(by rw[aU,zl];simp);simp only[fq,hi',cond_false]
 ·have h0:(((c.length:Nat):Int) != ((d.length:Nat):Int))=true:=by rw[bne_iff_ne];omega
  rw[h0];have:c≠d:=fun e=>hlen (by rw[e]);simp[this]
theorem Fa {n:Nat} {l:List aj} (hl:l.length < 10995116277) (hn:l.length < n):iter (jO l) n ((0:Int),([]:List Int))=some (l.flatMap fun r=>[r.x0,r.x1]):=by
 have:=bD (l:=l) (step:=jO l) (fun i (s:List Int)=>((i:Int),s)) (fun r s=>s++[r.x0,r.x1]) (fun s=>s) (fun i s=>s.length<=2*i)
  (fun i hi s hs=>?_) (fun s hs=>by simp[jO]) n hn [] (Nat.le_refl _)
 ·rw[show ((0:Nat):Int)=0 from rfl]at this;rw[this];have gen:∀ (ys:List aj) (s:List Int),ys.foldl (fun s r=>s++[r.x0,r.x1]) s=s++ys.flatMap fun r=>[r.x0,r.x1]:=by
   intro ys
   induction ys with
   |nil=>intro s;simp
   |cons y ys ih=>intro s;simp[ih]
  congr 1;simpa using gen l []
 ·have hi':decide (((i:Nat):Int) < ((l.length:Nat):Int))=true:=by simpa using hi
  have ap:bq s.length s.length (sub ([l[i].x0,l[i].x1]:List Int) 0 2).length 2 8=true:=bf (n:=2) (by omega) (by simp only[maxLen];omega);simp only[jO,hi',cond_true,bn hi,bind_some,ap,dw,aC];refine⟨?_,by simp;omega⟩;rw[ay (by omega)];rfl
theorem Fb {n:Nat} (es:List Int) (i:Nat) (hi:i+1 < es.length) (he:es.length < 1099511627776) (pre:List aj) (x' x1:Int) (c:List ax) (hl:pre.length+c.length < 1099511627776) (hn:c.length < n):
 iter (jP ((),es) (i:Int) (pre++aA x' x1 c)) n (((pre.length:Nat):Int),pre++aA x' x1 c)=some (pre++aA x' es[i+1] c):=by
 have:=fG (step:=jP ((),es) (i:Int) (pre++aA x' x1 c)) (fun j=>(((pre.length+j:Nat):Int),pre++(aA x' es[i+1] (c.take j)++aA x' x1 (c.drop j)))) c.length (pre++aA x' es[i+1] c) (fun j hj=>?_) ?_ n hn
 ·simpa[aA]using this
 ·have lt:(pre++aA x' x1 c).length=pre.length+c.length:=by rw[length_append,aU]
  have d:decide (((pre.length+j:Nat):Int) < (((pre++aA x' x1 c).length:Nat):Int))=true:=by rw[lt];simp;omega
  have w:i64.wrap ((i:Int)+1)=((i+1:Nat):Int):=ay (by omega);have ib:inb ((pre.length+j:Nat):Int) (pre++aA x' x1 c).length=true:=aZ (by rw[lt];omega);have tl:(aA x' es[i+1] (c.take j)).length=j:=by rw[aU,List.length_take];omega
  have dr:c.drop j=c[j]::c.drop (j+1):=List.drop_eq_getElem_cons hj;have e1:aA x' x1 (c.drop j)=⟨x',c[j].from_,x1,c[j].to⟩::aA x' x1 (c.drop (j+1)):=by rw[dr];rfl
  have g:at? (pre++(aA x' es[i+1] (c.take j)++aA x' x1 (c.drop j))) (((0:Nat):Int)+((pre.length+j:Nat):Int))=some ⟨x',c[j].from_,x1,c[j].to⟩:=by
   rw[ow,List.getElem?_append_right (by omega),List.getElem?_append_right (by omega),tl,e1];simp
  have z:(((0:Nat):Int)+((pre.length+j:Nat):Int)).toNat=pre.length+j:=by omega
  have sn:aA x' es[i+1] (c.take j++[c[j]])=aA x' es[i+1] (c.take j)++[aj.mk x' c[j].from_ es[i+1] c[j].to]:=by unfold aA;rw[map_append];rfl
  have st:(pre++(aA x' es[i+1] (c.take j)++aA x' x1 (c.drop j))).set (pre.length+j) (aj.mk x' c[j].from_ es[i+1] c[j].to)=pre++(aA x' es[i+1] (c.take (j+1))++aA x' x1 (c.drop (j+1))):=by
   rw[List.set_append_right _ _ (by omega),List.set_append_right _ _ (by omega),tl,e1,List.take_succ_eq_append_getElem hj,sn,Nat.add_sub_cancel_left,Nat.sub_self,List.set_cons_zero,append_assoc];rfl
  simp only[jP,d,cond_true,w,aZ hi,bL hi,bind_some,ib,g,z,st];rw[ay (by omega)];rfl
 ·have lt:(pre++aA x' x1 c).length=pre.length+c.length:=by rw[length_append,aU]
  have d:decide (((pre.length+c.length:Nat):Int) < (((pre++aA x' x1 c).length:Nat):Int))=false:=by rw[lt];simp
  simp only[jP,d,cond_false,List.take_length,List.drop_length];simp[aA]
theorem Ma {n:Nat} {l:List aj} (hd:zK l) (hl:l.length<=200000) (hn:1000000<=n):sO n l=some (aR (aD l)):=by
 unfold sO;have hv:=hd.2;have he:=zC l;simp only[length_nil,aC,cond_true,Fa (l:=l) (n:=n) (by omega) (by omega),bind_some];rw[jV (by rw[jk];omega) (by rw[jk];omega)];simp only[bind_some,bC,aC,cond_true];rw[ji (by rw[bC,jk];omega) (by rw[bC,jk];omega)];simp only[bind_some];have hE:dS (iw ltI (l.flatMap fun r=>[r.x0,r.x1]))=aK l:=rfl;rw[hE];obtain⟨p1,p2⟩:=kJ (fun a b=>(⟨a,b,aL l a⟩:aF)) (aK l);have hP:(aD l).length=(aK l).length - 1:=p1;have bl:∀ i,(aR ((aD l).take i)).length<=400000*200000:=by
  intro i;have h1:=GA ((aD l).take i) 200000 fun s hs=>by
   have:=Ny (List.mem_of_mem_take hs);omega
  have h2:((aD l).take i).length<=400000:=by rw[List.length_take];omega
  exact Nat.le_trans h1 (Nat.mul_le_mul_right _ h2)
 have mx:max (0:Int) (i64.wrap ((((aK l).length:Nat):Int) - 1))=(((aD l).length:Nat):Int):=by rw[bH (by omega) (by omega)];omega
 have key:iter (jQ n l ((),aK l)) n ((0:Int),([]:List aj),([]:List aj))=some (aR (aD l)):=by
  have:=fG (step:=jQ n l ((),aK l)) (fun i=>(((i:Nat):Int),aR ((aD l).take i),NG (aD l) i)) (aD l).length (aR (aD l)) (fun i hi=>?_) ?_ n (by omega)
  ·simpa[aR,NG]using this
  ·have hi2:i+1 < (aK l).length:=(by omega);have hi1:i < (aK l).length:=(by omega);have d:decide (((i:Nat):Int) < (((aD l).length:Nat):Int))=true:=(by simpa using hi);have w:i64.wrap ((i:Int)+1)=((i+1:Nat):Int):=ay (by omega);have hs:(aD l)[i]=⟨(aK l)[i],(aK l)[i+1],aL l (aK l)[i]⟩:=p2 i hi2 hi;have adj:∀ r∈l,(decide (r.x0<=(aK l)[i])&&decide ((aK l)[i+1]<=r.x1))=(decide (r.x0<=(aK l)[i])&&decide ((aK l)[i] < r.x1)):=by
    intro r hr;congr 1;have hm:r.x1∈aK l:=xC.2 ⟨r,hr,.inr rfl⟩;obtain⟨j,hj,e⟩:=List.mem_iff_getElem.1 hm;have hst:=og l;rw[List.pairwise_iff_getElem]at hst;rw[<- e,Bool.eq_iff_iff,decide_eq_true_eq,decide_eq_true_eq];rcases Nat.lt_or_ge i j with hij |hij
    ·have a1:=hst i j hi1 hj hij;rcases Nat.eq_or_lt_of_le (show i+1<=j by omega)with e |hlt
     ·subst e;omega
     ·have a2:=hst (i+1) j hi2 hj hlt;omega
    ·rcases Nat.eq_or_lt_of_le hij with e |hlt
     ·subst e;have a2:=hst j (j+1) hj hi2 (by omega);omega
     ·have a1:=hst j i hj hi1 hlt;have a2:=hst i (i+1) hi1 hi2 (by omega);omega
   have lc:=qx l (aK l)[i];have co:=Ih (n:=n) (l:=l) (x0:=(aK l)[i]) (x1:=(aK l)[i+1]) hd adj (by omega) (by omega);have tk:=List.take_succ_eq_append_getElem hi;have tkl:(aD l).take (i+1)=(aD l).take i++[(⟨(aK l)[i],(aK l)[i+1],aL l (aK l)[i]⟩:aF)]:=(by rw[tk,hs]);have la:NG (aD l) (i+1)=aA (aK l)[i] (aK l)[i+1] (aL l (aK l)[i]):=by
    unfold NG;rw[tkl,List.getLast?_append];rfl
   have bi:=bl i;have ap:bq (aR ((aD l).take i)).length (aR ((aD l).take i)).length (aA (aK l)[i] (aK l)[i+1] (aL l (aK l)[i])).length (aA (aK l)[i] (aK l)[i+1] (aL l (aK l)[i])).length 32=true:=by
    refine bf ?_ ?_
    ·rw[aU];omega
    ·rw[aU];simp only[maxLen];omega
   simp only[jQ,mx,d,cond_true,aZ hi1,bL hi1,bind_some,w,aZ hi2,bL hi2,co,bB,aC,la,ap,dw];rcases List.eq_nil_or_concat ((aD l).take i)with e0 |⟨S,t,e0⟩
   ·
    have lz:NG (aD l) i=aA 0 0 []:=(by unfold NG;rw[e0];rfl);have wn:aR ((aD l).take (i+1))=aA (aK l)[i] (aK l)[i+1] (aL l (aK l)[i]):=(by rw[tkl,e0];rfl);have wz:aR ((aD l).take i)=[]:=(by rw[e0];rfl);rw[lz,agZ (by omega) (by omega),wn,wz];cases hc:aL l (aK l)[i]with
    |nil=>
     have dz:decide ((((aA (aK l)[i] (aK l)[i+1] []).length:Nat):Int)>0)=false:=(by simp[aA]);simp only[dz,cond_false,bind_some,aC,cond_true];rfl
    |cons q c=>
     have dz:decide (q::c=[])=false:=(by simp);simp only[dz,bind_some];cases decide ((((aA (aK l)[i] (aK l)[i+1] (q::c)).length:Nat):Int)>0)<;>simp only[cond_true,cond_false,bind_some,aC]<;>rfl
   ·rw[List.concat_eq_append]at e0;have lz:NG (aD l) i=aA t.x0 t.x1 t.column:=(by unfold NG;rw[e0,List.getLast?_append];rfl);have tk2:(aD l).take (i+1)=S++[t,(⟨(aK l)[i],(aK l)[i+1],aL l (aK l)[i]⟩:aF)]:=(by rw[tkl,e0,append_assoc];rfl);rw[lz,agZ (by omega) (by omega)];by_cases hc:aL l (aK l)[i]=t.column
    ·obtain⟨pre,x',w1,w2⟩:=NF ⟨(aK l)[i],(aK l)[i+1],aL l (aK l)[i]⟩ t hc S;have ww:aR ((aD l).take i)=pre++aA x' t.x1 t.column:=(by rw[e0,w1]);have ww2:aR ((aD l).take (i+1))=pre++aA x' (aK l)[i+1] t.column:=(by rw[tk2,w2]);rw[ww2,ww];rw[ww,length_append,aU]at bi;have s3:=Fb (n:=n) (aK l) i hi2 (by omega) pre x' t.x1 t.column (by omega) (by rw[<- hc];omega);have wd:i64.wrap ((((pre++aA x' t.x1 t.column).length:Nat):Int) - (((aA (aK l)[i] (aK l)[i+1] (aL l (aK l)[i])).length:Nat):Int))=((pre.length:Nat):Int):=(by rw[length_append,aU,aU,hc,bH (by omega) (by omega)];omega);have le:eqL (pre++aA x' t.x1 t.column).length (pre++aA x' (aK l)[i+1] t.column).length=true:=(by apply aee;rw[length_append,length_append,aU,aU]);have dc:decide (aL l (aK l)[i]=t.column)=true:=(by simpa using hc);simp only[wd,s3,le,dc,bind_some,cond_true];cases hd:decide ((((aA (aK l)[i] (aK l)[i+1] (aL l (aK l)[i])).length:Nat):Int)>0)with
     |true=>simp only[cond_true,bind_some,aC]
     |false=>
      have hz:t.column=[]:=by
       rw[aU,hc]at hd;simp at hd;exact hd
      have hz2:aL l (aK l)[i]=[]:=(by rw[hc,hz]);simp only[cond_false,bind_some,aC,hz,hz2,aA,map_nil,List.append_nil,cond_true]
    ·have ww2:aR ((aD l).take (i+1))=aR ((aD l).take i)++aA (aK l)[i] (aK l)[i+1] (aL l (aK l)[i]):=(by rw[tk2,RD _ t hc S,e0]);have dc:decide (aL l (aK l)[i]=t.column)=false:=(by simpa using hc);rw[ww2];simp only[dc,bind_some];cases decide ((((aA (aK l)[i] (aK l)[i+1] (aL l (aK l)[i])).length:Nat):Int)>0)<;>simp only[cond_true,cond_false,bind_some,aC]
  ·have d:decide ((((aD l).length:Nat):Int) < (((aD l).length:Nat):Int))=false:=(by simp);simp only[jQ,mx,d,cond_false,List.take_length,aC,cond_true]
 rw[key];simp only[bind_some,bB,aC,cond_true]
abbrev ada (t:qE):Prop:=t.area.length<=900∧t.from_.length*8<=140737488355328
theorem aa7 {t:qE} (h:ada t):JH t=some t:=by
 unfold JH;have h2:=h.2;rw[Lm (by omega),bind_some,show Ci t.from_=some t.from_ from Nu (b:=8) (by omega) (by simp only[maxLen];omega),bind_some];simp only[bB,aC,cond_true]
theorem F4 {n:Nat} {land:List qE} {id:Int} (h:∀ t∈land,ada t) (hl:land.length < 1099511627776) (hn:land.length < n):Ck n land id=some (findLot land id):=by
 unfold Ck;have:=rz (l:=land) (step:=Cj land id) (fun i=>(i:Int)) (fun t=>t.id==id) () (fun i=>(land.getD i aeB,true)) (fun i hi=>?_) ?_ n hn
 ·rw[show ((0:Nat):Int)=0 from rfl]at this;rw[this];unfold findLot;rcases aa2 (fun t:qE=>t.id==id) land with ⟨i,hi,h1,h2⟩ |⟨h1,h2⟩
  ·rw[h1,h2];simp[hi]
  ·rw[h1,h2];rfl
 ·simp only[Cj,bJ hi,cond_true,bn hi,bind_some,aa7 (h _ (getElem_mem hi))];cases land[i].id==id with
  |true=>simp[hi]
  |false=>simp only[cond_false];rw[ay (by omega)]
 ·simp[Cj]
theorem Vu {land:List qE} (h:∀ t∈land,ada t) (id:Int):ada (findLot land id).1:=by
 unfold findLot;split
 ·rename_i t ht;exact h t (List.mem_of_find?_eq_some ht)
 ·simp[ada,aeB]
structure NP (t:bK):Prop where
 rules:t.plan_rules.length<=20
 ruleOk:∀ r∈t.plan_rules,aeE r
 zones:t.plan_zones.length<=20
 land:t.land.length<=20
 lots:∀ l∈t.land,ada l
 easements:t.easements.length<=5
 areas:∀ e∈t.easements,e.area.length<=10
theorem NQ {α:Type} (p:α->Bool):∀ l:List α,((List.range l.length).filter fun i=>(l[i]?).any p).filterMap (fun i=>l[i]?)=l.filter p
 |[]=>rfl
 |a::l=>by
  have ih:=NQ p l;rw[length_cons,List.range_succ_eq_map,List.filter_cons,List.filter_cons];have e:(List.filter (fun i=>((a::l)[i]?).any p) (List.map Nat.succ (List.range l.length))).filterMap (fun i=>(a::l)[i]?)=l.filter p:=by
   rw[List.filter_map,List.filterMap_map];exact ih
  cases hp:p a with
  |true=>simp[hp];simpa using e
  |false=>simp[hp];simpa using e
def xG (t:bK) (lot day:Int):List dD:=bif (findLot t.land lot).2 then t.plan_rules.filter (l7 (ofZ t.plan_zones (findLot t.land lot).1.area) day)else []
theorem Ii (t:bK) (lot day:Int):(xG t lot day).length<=t.plan_rules.length:=by
 unfold xG;cases (findLot t.land lot).2 with
 |true=>exact length_filter_le _ _
 |false=>simp
theorem y7 {n:Nat} {t:bK} (h:NP t) (lot day:Int) (hn:2000<=n):lY n t lot day=some (xG t lot day):=by
 obtain⟨h1,h2,h3,h4,h5,h6,h7⟩:=h;unfold lY xG;rw[F4 h5 (by omega) (by omega)];simp only[bind_some];have lw:=Vu h5 lot;cases (findLot t.land lot).2 with
 |false=>rfl
 |true=>
  have zl:=afA t.plan_zones (findLot t.land lot).1.area;simp only[Bool.not_true,cond_false,cond_true];rw[WZ _ _ (by simp only;omega) lw.1 hn];simp only[bind_some,bB,aC,cond_true];rw[Ol _ _ _ h2 (by simp only;omega) (by omega) hn];simp only[bind_some,length_nil,aC,cond_true];generalize hZ:ofZ t.plan_zones (findLot t.land lot).1.area=Z at*;have hm:∀ i∈L8 t.plan_rules Z day,i < t.plan_rules.length:=fun i hi=>List.mem_range.1 (mem_filter.1 hi).1;have hlen:(L8 t.plan_rules Z day).length<=t.plan_rules.length:=by
   have:=length_filter_le (fun i=>(t.plan_rules[i]?).any (l7 Z day)) (List.range t.plan_rules.length);rw[List.length_range]at this;exact this
  rw[<- NQ];rw[show ((List.range t.plan_rules.length).filter fun i=>(t.plan_rules[i]?).any (l7 Z day))=L8 t.plan_rules Z day from rfl];generalize L8 t.plan_rules Z day=idx at*
  have:=bD (l:=idx) (step:=lH t (idx.map fun (i:Nat)=>(i:Int))) (fun i (s:List dD)=>((i:Int),s)) (fun i s=>s++(t.plan_rules[i]?).toList) (fun s=>s) (fun i s=>s.length<=i)
   (fun i hi s hs=>?_) (fun s hs=>by simp[lH]) n (by omega) [] (Nat.le_refl _)
  ·rw[show ((0:Nat):Int)=0 from rfl]at this;rw[this];simp only[bind_some,bB,aC,cond_true];congr 1;have gen:∀ (ys:List Nat) (s:List dD),ys.foldl (fun s i=>s++(t.plan_rules[i]?).toList) s=s++ys.filterMap fun i=>t.plan_rules[i]? :=by
    intro ys
    induction ys with
    |nil=>intro s;simp
    |cons y ys ih=>
     intro s;rw[foldl_cons,ih,List.filterMap_cons];cases t.plan_rules[y]?<;>simp
   exact gen idx []
  ·have hk:=hm _ (getElem_mem hi);have e1:(idx.map fun (i:Nat)=>(i:Int)).length=idx.length:=length_map _;have g1:at? (idx.map fun (i:Nat)=>(i:Int)) (((0:Nat):Int)+((i:Nat):Int))=some ((idx[i]:Nat):Int):=(by rw[bL (by rw[e1];exact hi)];simp);have ap:bq s.length s.length (sub ([t.plan_rules[idx[i]]]:List dD) 0 1).length 1 232=true:=bf (n:=1) (by omega) (by simp only[maxLen];omega);simp only[lH,e1,bJ hi,cond_true,aZ hi,g1,bind_some,bn hk,ap,dw,aC,ay (show i < 9223372036854775807 by omega)];rw[List.getElem?_eq_getElem hk];exact⟨rfl,by simp;omega⟩
def Fe:ByteArray:=⟨#[115,101,116,98,97,99,107]⟩
def Ze (r:dD):Bool:=match r.test_args with
 |[a,b]=>r.kind==0&&(r.test_op==12&&(a.op==0&&(decide (a.args.length=0)&&(b.op==1&&(sEq b.s Fe&&decide (b.args.length=0))))))
 |_=>false
def aeH (r:dD):Int:=match r.test_args with
 |[a,_]=>a.n
 |_=>0
theorem Gd (r:dD):∃ m,mO r=some (m,Ze r)∧(Ze r=true->m=aeH r):=by
 unfold mO Ze aeH;by_cases h2:r.test_args.length=2
 ·match hm:r.test_args,h2 with
  |[a,b],_=>
   have l2:(((([a,b]:List pE).length:Nat):Int) != 2)=false:=rfl;have g0:at? [a,b] 0=some a:=rfl;have g1:at? [a,b] 1=some b:=rfl;have la:(((a.args.length:Nat):Int)==0)=decide (a.args.length=0):=(by rw[Bool.eq_iff_iff];simp);have lb:(((b.args.length:Nat):Int)==0)=decide (b.args.length=0):=(by rw[Bool.eq_iff_iff];simp);simp only[l2,nJ,bind_some,g0,g1,la,lb,bne];rw[show (ByteArray.toList b.s==ByteArray.toList (⟨#[115,101,116,98,97,99,107]⟩))=sEq b.s Fe from rfl];generalize sEq b.s Fe=q;generalize (a.op==0)=q1;generalize (b.op==1)=q2;generalize decide (a.args.length=0)=q3;generalize decide (b.args.length=0)=q4;cases r.kind==0<;>cases r.test_op==12<;>cases q<;>cases q1<;>cases q2<;>cases q3<;>cases q4<;>exact⟨_,rfl,fun h=>by first |rfl |cases h⟩
 ·have l2:(((r.test_args.length:Nat):Int) != 2)=true:=by rw[bne_iff_ne];omega
  have e:(match r.test_args with
   |[a,b]=>r.kind==0&&(r.test_op==12&&(a.op==0&&(decide (a.args.length=0)&&(b.op==1&&(sEq b.s Fe&&decide (b.args.length=0))))))
   |_=>false)=false:=by
   match hm:r.test_args with
   |[]=>rfl
   |[_]=>rfl
   |[_,_]=>rw[hm]at h2;simp at h2
   |_::_::_::_=>rfl
  rw[e,l2];refine⟨0,?_,fun h=>by cases h⟩;cases r.kind != 0<;>cases r.test_op != 12<;>rfl
def distE (t:bK) (lot day:Int):Int:=(xG t lot day).foldl (fun m r=>bif Ze r then max m (aeH r)else m) 0
theorem l8 {n:Nat} {t:bK} (h:NP t) (lot day:Int) (hn:2000<=n):jd n t lot day=some (distE t lot day):=by
 have hl:=Ii t lot day;have h1:=h.rules;unfold jd distE;rw[y7 h lot day hn];simp only[bind_some];generalize xG t lot day=l at*;have:=U3 (l:=l) (step:=jc l) (fun i (s:Int)=>(s,((i:Nat):Int))) (fun r m=>bif Ze r then max m (aeH r)else m) (fun s=>s) (fun i hi s=>?_) (fun s=>by simp[jc]) n (by omega) 0
 ·rw[show ((0:Nat):Int)=0 from rfl]at this;rw[this];rfl
 ·obtain⟨m,e1,e2⟩:=Gd l[i];simp only[jc,bJ hi,cond_true,aZ hi,bL hi,bind_some,e1,nJ,ay (show i < 9223372036854775807 by omega)];cases hs:Ze l[i]with
  |true=>rw[e2 hs]
  |false=>rfl
def Pj (r:dD):bE:=⟨r.plane_side,r.plane_base,r.plane_num,r.plane_den⟩
def planesE (t:bK) (lot day:Int):List bE:=((xG t lot day).filter fun r=>r.kind==1).map Pj
theorem Zf (t:bK) (lot day:Int):(planesE t lot day).length<=t.plan_rules.length:=by
 unfold planesE;rw[length_map];exact Nat.le_trans (length_filter_le _ _) (Ii t lot day)
theorem oP {n:Nat} {t:bK} (h:NP t) (lot day:Int) (hn:2000<=n):iM n t lot day=some (planesE t lot day):=by
 have hl:=Ii t lot day;have h1:=h.rules;unfold iM planesE;rw[y7 h lot day hn];simp only[bind_some,length_nil,aC,cond_true];generalize xG t lot day=l at*
 have:=bD (l:=l) (step:=kG l) (fun i (s:List bE)=>((i:Int),s)) (fun r s=>bif r.kind==1 then s++[Pj r]else s) (fun s=>s) (fun i s=>s.length<=i)
  (fun i hi s hs=>?_) (fun s hs=>by simp[kG]) n (by omega) [] (Nat.le_refl _)
 ·rw[show ((0:Nat):Int)=0 from rfl]at this;rw[this];simp only[bind_some,bB,aC,cond_true];congr 1;have gen:∀ (ys:List dD) (s:List bE),ys.foldl (fun s r=>bif r.kind==1 then s++[Pj r]else s) s=s++(ys.filter fun r=>r.kind==1).map Pj:=by
   intro ys
   induction ys with
   |nil=>intro s;simp
   |cons y ys ih=>
    intro s;rw[foldl_cons,ih,List.filter_cons];cases y.kind==1<;>simp
  exact gen l []
 ·have ap:bq s.length s.length (sub ([(bE.mk (l[i]).plane_side (l[i]).plane_base (l[i]).plane_num (l[i]).plane_den)]:List bE) 0 1).length 1 32=true:=bf (n:=1) (by omega) (by simp only[maxLen];omega);simp only[kG,bJ hi,cond_true,aZ hi,bL hi,bind_some,nJ,ap,dw,aC,ay (show i < 9223372036854775807 by omega)];cases (l[i]).kind==1<;>refine⟨rfl,?_⟩<;>simp<;>omega
def NR (a r:aj):aj:=⟨min a.x0 r.x0,min a.y0 r.y0,max a.x1 r.x1,max a.y1 r.y1⟩
def Pk:List aj->aj
 |[]=>⟨0,0,0,0⟩
 |r::l=>l.foldl NR r
def vV (a:List aj):aj×Bool:=bif decide (a≠[])&&rightL a then (Pk a,true)else (⟨0,0,0,0⟩,false)
theorem Zg {n:Nat} {a:List aj} (ha:a≠[]) (hv:∀ r∈a,OkR r=true) (hl:a.length<=900) (hn:2000<=n):JP n a=some (Pk a,true):=by
 unfold JP;have:=U3 (l:=a.zip (List.range a.length)) (step:=yR a) (fun i (s:Bool×Int×Int×Int×Int)=>(s.1,((i:Nat):Int),s.2)) (fun p s=>bif !s.1 then (true,p.1.x0,p.1.y0,p.1.x1,p.1.y1)else (s.1,min s.2.1 p.1.x0,min s.2.2.1 p.1.y0,max s.2.2.2.1 p.1.x1,max s.2.2.2.2 p.1.y1)) (fun s=>s) (fun i hi s=>?_) (fun s=>?_) n (by simp;omega) (false,0,0,0,0)
 ·rw[show ((0:Nat):Int)=0 from rfl]at this;simp only at this;rw[this];cases a with
  |nil=>exact absurd rfl ha
  |cons r l=>
   have gen:∀ (l:List aj) (k:List Nat) (s:aj),l.length<=k.length->(l.zip k).foldl (fun (s:Bool×Int×Int×Int×Int) p=>bif !s.1 then (true,p.1.x0,p.1.y0,p.1.x1,p.1.y1)else (s.1,min s.2.1 p.1.x0,min s.2.2.1 p.1.y0,max s.2.2.2.1 p.1.x1,max s.2.2.2.2 p.1.y1)) (true,s.x0,s.y0,s.x1,s.y1)=(true,(l.foldl NR s).x0,(l.foldl NR s).y0,(l.foldl NR s).x1,(l.foldl NR s).y1):=by
    intro l
    induction l with
    |nil=>intro k s _;rfl
    |cons r l ih=>
     intro k s hk;cases k with
     |nil=>simp at hk
     |cons j k=>
      rw[List.zip_cons_cons,foldl_cons,foldl_cons];exact ih k (NR s r) (by simpa using hk)
   rw[length_cons,List.range_succ_eq_map,List.zip_cons_cons,foldl_cons];simp only[Bool.not_false,cond_true];rw[gen l _ r (by simp)];rfl
 ·have hi':i < a.length:=by simpa using hi
  obtain⟨s1,s2,s3,s4,s5⟩:=s;have ok:=hv _ (getElem_mem hi');simp only[yR,bJ hi',cond_true,bn hi',bind_some,rC,ok,Bool.not_true,cond_false,nJ,List.getElem_zip,ay (show i < 9223372036854775807 by omega)]
 ·obtain⟨s1,s2,s3,s4,s5⟩:=s;have:(a.zip (List.range a.length)).length=a.length:=by simp
  simp only[this,yR,nZ,cond_false]
theorem Xa {n:Nat} (a:List aj) (hl:a.length<=900) (hn:2000<=n):AR n a=some (vV a):=by
 unfold AR vV;cases a with
 |nil=>rfl
 |cons r l=>
  have e:((((r::l).length:Nat):Int)==0)=false:=by simp;omega
  have e2:decide (r::l≠[])=true:=by simp
  rw[l6 (by omega) (by omega) (by omega),e,e2];simp only[cond_false,bind_some,Bool.true_and];cases hr:rightL (r::l)with
  |false=>rfl
  |true=>
   simp only[Bool.not_true,cond_false];rw[Zg (by simp) (bV hr).1 hl hn];rfl
theorem RZ:∀ (l:List aj) (r:aj),OkR r=true->(∀ q∈l,OkR q=true)->OkR (l.foldl NR r)=true
 |[],_,h,_=>h
 |q::l,r,h,hl=>by
  rw[foldl_cons];refine RZ l _ ?_ fun p hp=>hl p (mem_cons_of_mem _ hp);have:=hl q mem_cons_self;rw[sS]at*;unfold NR;simp only;omega
theorem aa8 {a:List aj} (h:a≠[]) (hr:rightL a=true):vV a=(Pk a,true)∧OkR (Pk a)=true:=by
 unfold vV;have e2:decide (a≠[])=true:=by simpa using h
 rw[hr,e2];refine⟨rfl,?_⟩;have hv:=(bV hr).1;cases a with
 |nil=>exact absurd rfl h
 |cons r l=>exact RZ l r (hv r mem_cons_self) fun q hq=>hv q (mem_cons_of_mem _ hq)
def rD (base may:List aj):List aj:=base.flatMap fun r=>(may.filter (fe r)).map (bG r)
theorem Zh (base may:List aj) (x y:Int):aO (rD base may) x y=(aO base x y&&aO may x y):=by
 unfold rD;rw[E9,Bool.eq_iff_iff,and_eq_true,any_eq_true];constructor
 ·rintro⟨r,hr,h⟩;obtain⟨q,hq,hh⟩:=(kK _ _ _).1 h;obtain⟨m,hm,rfl⟩:=mem_map.1 hq;rw[Kh,and_eq_true]at hh;exact⟨(kK _ _ _).2 ⟨r,hr,hh.1⟩,(kK _ _ _).2 ⟨m,(mem_filter.1 hm).1,hh.2⟩⟩
 ·rintro⟨h1,h2⟩;obtain⟨r,hr,hh1⟩:=(kK _ _ _).1 h1;obtain⟨m,hm,hh2⟩:=(kK _ _ _).1 h2;refine⟨r,hr,(kK _ _ _).2 ⟨bG r m,mem_map.2 ⟨m,mem_filter.2 ⟨hm,?_⟩,rfl⟩,by rw[Kh,hh1,hh2];rfl⟩⟩;cases hb:fe r m with
  |true=>rfl
  |false=>have:=Vr hb x y;rw[hh1,hh2]at this;cases this
theorem Zi {base may:List aj} (hb:zK base) (h1:may.length<=1) (hm:∀ q∈may,OkR q=true):zK (rD base may):=by
 refine⟨?_,fun q hq=>?_⟩
 ·unfold rD;rw[List.pairwise_flatMap];refine⟨fun r hr=>?_,hb.1.imp fun {r s} hrs p hp q hq x y g1 g2=>?_⟩
  ·have:((may.filter (fe r)).map (bG r)).length<=1:=by rw[length_map];exact Nat.le_trans (length_filter_le _ _) h1
   match (may.filter (fe r)).map (bG r),this with
   |[],_=>exact List.Pairwise.nil
   |[_],_=>simp
   |_::_::_,h=>simp at h
  ·obtain⟨m,_,rfl⟩:=mem_map.1 hp;obtain⟨m',_,rfl⟩:=mem_map.1 hq;rw[Kh,and_eq_true]at g1 g2;exact hrs x y g1.1 g2.1
 ·obtain⟨r,hr,h⟩:=mem_flatMap.1 hq;obtain⟨m,hm',rfl⟩:=mem_map.1 h;obtain⟨hm1,hm2⟩:=mem_filter.1 hm';exact W9 (hb.2 r hr) (hm m hm1) hm2
theorem Zj {base may:List aj} {X Y:List Int} (hx:∀ r∈base,r.x0∈X∧r.y0∈Y) (hm:∀ r∈may,r.x0∈X∧r.y0∈Y):Bf X Y (rD base may):=by
 intro q hq;obtain⟨r,hr,h⟩:=mem_flatMap.1 hq;obtain⟨m,hm',rfl⟩:=mem_map.1 h;have a:=hx r hr;have b:=hm m (mem_filter.1 hm').1;exact⟨Ph a.1 b.1,Ph a.2 b.2⟩
def rE (h:Int) (l:List aj) (es:List aP):List aj:=es.foldl (fun l e=>bif decide (e.top>=h)then l else e.area.foldl DL l) l
theorem Ff {n:Nat} (may:List aj) (z:Int) (r:aj) (out:List aj) (ho:out.length<=1000000) (h1:may.length<=1000) (hn:2000<=n):
 iter (jR (may,z) r) n ((0:Int),out)=some (out++(may.filter (fe r)).map (bG r)):=by
 have:=bD (l:=may) (step:=jR (may,z) r) (fun i (s:List aj)=>((i:Int),s)) (fun m s=>bif fe r m then s++[bG r m]else s) (fun s=>s) (fun i s=>s.length<=out.length+i)
  (fun i hi s hs=>?_) (fun s hs=>by simp[jR]) n (by omega) out (Nat.le_refl _)
 ·rw[show ((0:Nat):Int)=0 from rfl]at this;rw[this];congr 1;have gen:∀ (ys:List aj) (s:List aj),ys.foldl (fun s m=>bif fe r m then s++[bG r m]else s) s=s++(ys.filter (fe r)).map (bG r):=by
   intro ys
   induction ys with
   |nil=>intro s;simp
   |cons y ys ih=>
    intro s;rw[foldl_cons,ih,List.filter_cons];cases fe r y<;>simp
  exact gen may out
 ·have ap:bq s.length s.length (sub ([bG r may[i]]:List aj) 0 1).length 1 32=true:=bf (n:=1) (by omega) (by simp only[maxLen];omega);simp only[jR,bJ hi,cond_true,aZ hi,bL hi,bind_some,Be,nJ,ap,dw,aC,ay (show i < 9223372036854775807 by omega)];rw[show (decide ((bG r may[i]).x0 < (bG r may[i]).x1)&&decide ((bG r may[i]).y0 < (bG r may[i]).y1))=fe r may[i]from rfl];cases fe r may[i]<;>refine⟨rfl,?_⟩<;>simp<;>omega
theorem Fg {n:Nat} (base may:List aj) (z:Int) (h0:base.length<=1000) (h1:may.length<=1) (hn:2000<=n):
 iter (jS n base (may,z)) n ((0:Int),([]:List aj))=some (rD base may):=by
 have:=bD (l:=base) (step:=jS n base (may,z)) (fun i (s:List aj)=>((i:Int),s)) (fun r s=>s++(may.filter (fe r)).map (bG r)) (fun s=>s) (fun i s=>s.length<=i)
  (fun i hi s hs=>?_) (fun s hs=>by simp[jS]) n (by omega) [] (Nat.le_refl _)
 ·rw[show ((0:Nat):Int)=0 from rfl]at this;rw[this];congr 1;have gen:∀ (ys:List aj) (s:List aj),ys.foldl (fun s r=>s++(may.filter (fe r)).map (bG r)) s=s++rD ys may:=by
   intro ys
   induction ys with
   |nil=>intro s;simp[rD]
   |cons y ys ih=>intro s;rw[foldl_cons,ih];simp[rD]
  exact gen base []
 ·have l1:((may.filter (fe base[i])).map (bG base[i])).length<=1:=by rw[length_map];exact Nat.le_trans (length_filter_le _ _) h1
  simp only[jS,bJ hi,cond_true,bn hi,bind_some,aC,Ff may z base[i] s (by omega) (by omega) hn,ay (show i < 9223372036854775807 by omega)];exact⟨trivial,by rw[length_append];omega⟩
structure afC (X Y:List Int) (es:List aP):Prop where
 ok:∀ e∈es,rightL e.area=true
 x0:∀ e∈es,∀ c∈e.area,c.x0∈X
 x1:∀ e∈es,∀ c∈e.area,c.x1∈X
 y1:∀ e∈es,∀ c∈e.area,c.y1∈Y
 len:∀ e∈es,e.area.length<=200
 size:X.length*Y.length<=200000
theorem Mc {X Y:List Int} (hs:X.length*Y.length<=200000):∀ (cs:List aj),(∀ c∈cs,OkR c=true∧c.x0∈X∧c.x1∈X∧c.y1∈Y)->∀ l,zK l->Bf X Y l->zK (cs.foldl DL l)∧Bf X Y (cs.foldl DL l)∧∀ x y,aO (cs.foldl DL l) x y=(aO l x y&&!aO cs x y)
 |[],_,l,hd,hx=>⟨hd,hx,fun x y=>by simp[aO]⟩
 |c::cs,h,l,hd,hx=>by
  obtain⟨o,a,b,d⟩:=h c mem_cons_self;obtain⟨g1,g2,g3⟩:=Mc hs cs (fun q hq=>h q (mem_cons_of_mem _ hq)) (DL l c) (Vs hd o) (Vt hd.2 o hx a b d);refine⟨g1,g2,fun x y=>?_⟩;rw[foldl_cons,g3,ac8];have e:aO (c::cs) x y=(lF c x y || aO cs x y):=by simp[aO,lF]
  rw[e];cases aO l x y<;>cases lF c x y<;>cases aO cs x y<;>rfl
theorem Fh {X Y:List Int} {h:Int}:∀ (es:List aP),afC X Y es->∀ l,zK l->Bf X Y l->zK (rE h l es)∧Bf X Y (rE h l es)∧∀ x y,aO (rE h l es) x y=(aO l x y&&es.all fun e=>decide (h<=e.top) || !aO e.area x y)
 |[],_,l,hd,hx=>⟨hd,hx,fun x y=>by simp[rE]⟩
 |e::es,hc,l,hd,hx=>by
  have hc':afC X Y es:=⟨fun a ha=>hc.ok a (mem_cons_of_mem _ ha),fun a ha=>hc.x0 a (mem_cons_of_mem _ ha),fun a ha=>hc.x1 a (mem_cons_of_mem _ ha),fun a ha=>hc.y1 a (mem_cons_of_mem _ ha),fun a ha=>hc.len a (mem_cons_of_mem _ ha),hc.size⟩;have em:e∈e::es:=mem_cons_self;have dd:decide (e.top>=h)=decide (h<=e.top):=rfl;by_cases ht:h<=e.top
  ·have d:decide (h<=e.top)=true:=(by simpa using ht);have e0:rE h l (e::es)=rE h l es:=by
    unfold rE;rw[foldl_cons,dd,d];rfl
   rw[e0];obtain⟨g1,g2,g3⟩:=Fh (h:=h) es hc' l hd hx;refine⟨g1,g2,fun x y=>?_⟩;rw[g3,all_cons,d];simp
  ·have d:decide (h<=e.top)=false:=(by simpa using ht);have e0:rE h l (e::es)=rE h (e.area.foldl DL l) es:=by
    unfold rE;rw[foldl_cons,dd,d];rfl
   rw[e0];obtain⟨k1,k2,k3⟩:=Mc hc.size e.area (fun c hcm=>⟨(bV (hc.ok e em)).1 c hcm,hc.x0 e em c hcm,hc.x1 e em c hcm,hc.y1 e em c hcm⟩) l hd hx;obtain⟨g1,g2,g3⟩:=Fh (h:=h) es hc' _ k1 k2;refine⟨g1,g2,fun x y=>?_⟩;rw[g3,k3,all_cons,d,Bool.false_or,Bool.and_assoc]
theorem Fj {n:Nat} (e:aP) {X Y:List Int} (hs:X.length*Y.length<=200000) (he:∀ c∈e.area,OkR c=true∧c.x0∈X∧c.x1∈X∧c.y1∈Y) (hl:e.area.length<=1000) (l:List aj) (hd:zK l) (hx:Bf X Y l) (hn:1000000<=n):
 iter (jT n e) n ((0:Int),l)=some (e.area.foldl DL l):=by
 have:=bD (l:=e.area) (step:=jT n e) (fun i (s:List aj)=>((i:Int),s)) (fun c s=>DL s c) (fun s=>s) (fun i s=>zK s∧Bf X Y s)
  (fun i hi s hs'=>?_) (fun s hs=>by simp[jT]) n (by omega) l ⟨hd,hx⟩
 ·rw[show ((0:Nat):Int)=0 from rfl]at this;exact this
 ·obtain⟨o,a,b,c⟩:=he _ (getElem_mem hi);have hlen:=Zd hs'.1 hs'.2;simp only[jT,bJ hi,cond_true,bn hi,bind_some,bB,aC,Oo (n:=n) (l:=s) (e.area[i]) (by omega) (by omega) (by omega),ay (show i < 9223372036854775807 by omega)];exact⟨trivial,Vs hs'.1 o,Vt hs'.1.2 o hs'.2 a b c⟩
theorem Fp {n:Nat} {X Y:List Int} {h:Int} (es:List aP) (hc:afC X Y es) (hl:es.length<=1000) (l:List aj) (hd:zK l) (hx:Bf X Y l) (hn:1000000<=n):
 iter (jU n es h) n ((0:Int),l)=some (rE h l es):=by
 have:=bD (l:=es) (step:=jU n es h) (fun i (s:List aj)=>((i:Int),s)) (fun e s=>bif decide (e.top>=h)then s else e.area.foldl DL s) (fun s=>s) (fun i s=>zK s∧Bf X Y s)
  (fun i hi s hs'=>?_) (fun s hs=>by simp[jU]) n (by omega) l ⟨hd,hx⟩
 ·rw[show ((0:Nat):Int)=0 from rfl]at this;exact this
 ·have em:=getElem_mem hi;have al:=hc.len _ em;have hcs:∀ c∈(es[i]).area,OkR c=true∧c.x0∈X∧c.x1∈X∧c.y1∈Y:=fun c hcm=>⟨(bV (hc.ok _ em)).1 c hcm,hc.x0 _ em c hcm,hc.x1 _ em c hcm,hc.y1 _ em c hcm⟩;have r4:=Fj (n:=n) es[i] hc.size hcs (by omega) s hs'.1 hs'.2 hn;obtain⟨k1,k2,_⟩:=Mc hc.size (es[i]).area hcs s hs'.1 hs'.2;simp only[jU,bJ hi,cond_true,bn hi,bind_some,aC,r4,nJ,ay (show i < 9223372036854775807 by omega)];cases decide ((es[i]).top>=h)with
  |true=>exact⟨trivial,hs'⟩
  |false=>exact⟨trivial,k1,k2⟩
def R3 (base:List aj) (b:aj) (ps:List bE) (es:List aP) (h x y:Int):Bool:=
 aO base x y&&(decide (Cz b ps=true∧∀ p∈ps,h<=aeF b p x y)&&es.all fun e=>decide (h<=e.top) || !aO e.area x y)
def aeI (l:List aj):List aj×Int:=if l.length>200 then ([],6)else (l,0)
theorem Ij {n:Nat} (base:List aj) (b:aj) (ps:List bE) (es:List aP) {h:Int} (hb:rightL base=true) (hp:ps.length<=1000) (hes:∀ e∈es,rightL e.area=true) (hel:es.length<=5) (hal:∀ e∈es,e.area.length<=10) (hh:1<=h∧h<=4096) (hn:1000000<=n):
 ∃ L,zK L∧(∀ x y,aO L x y=R3 base b ps es h x y)∧lg n base b ps es h=some (aeI (aR (aD L))):=by
 unfold lg;cases hbase:base with
 |nil=>exact⟨[],⟨List.Pairwise.nil,by simp⟩,fun x y=>by simp[aO,R3],rfl⟩
 |cons r0 l0=>
  rw[<- hbase];have e0:(((base.length:Nat):Int)==0)=false:=by rw[hbase];simp;omega
  obtain⟨bv,bl,_⟩:=bV hb;obtain⟨r,g1,g2,g3,g4⟩:=Om (n:=n) b ps hh hp (by omega);obtain⟨may,z⟩:=r;simp only at g2 g3 g4;have hd:=aa5 hb;have dC:=Zi hd g2 g3
  let cs:=es.flatMap fun e=>e.area
  have hcsl:cs.length<=50:=by
   show (es.flatMap fun e=>e.area).length<=50;rw[List.flatMap_def];have:=xD 10 (es.map fun e=>e.area) fun x hx=>(by obtain⟨e,he,rfl⟩:=mem_map.1 hx;exact hal e he);rw[length_map]at this;omega
  let X:=(base.map (·.x0))++(may.map (·.x0))++(cs.map (·.x0))++(cs.map (·.x1))
  let Y:=(base.map (·.y0))++(may.map (·.y0))++(cs.map (·.y1))
  have hX:X.length<=301:=by show ((base.map (·.x0))++(may.map (·.x0))++(cs.map (·.x0))++(cs.map (·.x1))).length<=301;simp only[length_append,length_map];omega
  have hY:Y.length<=251:=by show ((base.map (·.y0))++(may.map (·.y0))++(cs.map (·.y1))).length<=251;simp only[length_append,length_map];omega
  have hXY:X.length*Y.length<=200000:=Nat.le_trans (Nat.mul_le_mul hX hY) (by omega);have mc:∀ e∈es,∀ c∈e.area,c∈cs:=fun e he c hc=>mem_flatMap.2 ⟨e,he,hc⟩;have hC:afC X Y es:=⟨hes,fun e he c hc=>by simp only[X,mem_append,mem_map];exact .inl (.inr ⟨c,mc e he c hc,rfl⟩),fun e he c hc=>by simp only[X,mem_append,mem_map];exact .inr ⟨c,mc e he c hc,rfl⟩,fun e he c hc=>by simp only[Y,mem_append,mem_map];exact .inr ⟨c,mc e he c hc,rfl⟩,fun e he=>by have:=hal e he;omega,hXY⟩;have cC:Bf X Y (rD base may):=Zj (fun r hr=>⟨by simp only[X,mem_append,mem_map];exact .inl (.inl (.inl ⟨r,hr,rfl⟩)),by simp only[Y,mem_append,mem_map];exact .inl (.inl ⟨r,hr,rfl⟩)⟩) (fun r hr=>⟨by simp only[X,mem_append,mem_map];exact .inl (.inl (.inr ⟨r,hr,rfl⟩)),by simp only[Y,mem_append,mem_map];exact .inl (.inr ⟨r,hr,rfl⟩)⟩);obtain⟨k1,k2,k3⟩:=Fh (h:=h) es hC (rD base may) dC cC;refine⟨rE h (rD base may) es,k1,fun x y=>?_,?_⟩
  ·rw[k3,Zh];unfold R3;rw[Bool.and_assoc];cases hcb:aO base x y with
   |false=>rfl
   |true=>
    have ig:InG x y:=mV bv hcb;congr 2;rw[Bool.eq_iff_iff,g4,decide_eq_true_eq];exact⟨fun ⟨a,_,c⟩=>⟨a,c⟩,fun⟨a,c⟩=>⟨a,ig,c⟩⟩
  ·have kl:=Zd k1 k2;rw[e0];simp only[cond_false,g1,bind_some,length_nil,aC,cond_true,Fg base may z (by omega) g2 (show 2000<=n by omega),Fp es hC (by omega) _ dC cC hn,bB,Ma k1 (by omega) hn];unfold aeI;generalize aR (aD (rE h (rD base may) es))=W;by_cases h2:W.length>200
   ·have:decide (((W.length:Nat):Int)>200)=true:=(by simp;omega);rw[this,if_pos h2];rfl
   ·have:decide (((W.length:Nat):Int)>200)=false:=(by simp;omega);rw[this,if_neg h2];rfl
theorem aa9 {L:List aj} (h:zK L) (hl:(aR (aD L)).length<=200):rightL (aR (aD L))=true∧∀ x y,aO (aR (aD L)) x y=aO L x y:=by
 have hc:∀ x,dU (aD L) x=aL L x:=jC L;have hin:∀ x y,inS (dU (aD L) x) y=aO L x y:=fun x y=>by rw[hc,(cZ h.2 x).2]
 refine⟨Cu (fQ L) (fun x=>by rw[hc];exact (cZ h.2 x).1) (fun x y hxy=>mV h.2 (by rw[<- hin];exact hxy)) hl,fun x y=>?_⟩;rw[Ct (fQ L),hin]
def lawsE (t:bK) (lot:Int):List aP:=t.easements.filter fun e=>e.lot==lot&&rightL e.area
def areaE (t:bK) (lot:Int):List aj:=(findLot t.land lot).1.area
def baseE (t:bK) (lot day:Int):List aj×Int:=if distE t lot day<=1048576 then sQ (areaE t lot) (distE t lot day)else ([],0)
theorem NS {t:bK} {lot day:Int} (h:(baseE t lot day).2=0):rightL (baseE t lot day).1=true:=by
 unfold baseE at*;split
 ·rename_i hd;rw[if_pos hd]at h;exact (y5 (r:=(sQ (areaE t lot) (distE t lot day)).1) (by rw[<- h])).2.2.1
 ·rfl
theorem adb {n:Nat} {t:bK} (h:NP t) (lot:Int) (hn:2000<=n):iter (gm n t lot) n ((0:Int),([]:List aP))=some (lawsE t lot):=by
 have hl:=h.easements
 have:=bD (l:=t.easements) (step:=gm n t lot) (fun i (s:List aP)=>((i:Int),s)) (fun e s=>bif e.lot==lot&&rightL e.area then s++[e]else s) (fun s=>s) (fun i s=>s.length<=i)
  (fun i hi s hs=>?_) (fun s hs=>by simp[gm]) n (by omega) [] (Nat.le_refl _)
 ·rw[show ((0:Nat):Int)=0 from rfl]at this;rw[this];congr 1;have gen:∀ (ys:List aP) (s:List aP),ys.foldl (fun s e=>bif e.lot==lot&&rightL e.area then s++[e]else s) s=s++ys.filter fun e=>e.lot==lot&&rightL e.area:=by
   intro ys
   induction ys with
   |nil=>intro s;simp
   |cons y ys ih=>
    intro s;rw[foldl_cons,ih,List.filter_cons];cases y.lot==lot&&rightL y.area<;>simp
  exact gen t.easements []
 ·have al:=h.areas _ (getElem_mem hi);have ap:bq s.length s.length (sub ([t.easements[i]]:List aP) 0 1).length 1 40=true:=bf (n:=1) (by omega) (by simp only[maxLen];omega);simp only[gm,bJ hi,cond_true,bn hi,bind_some,l6 (n:=n) (l:=(t.easements[i]).area) (by omega) (by omega) (by omega),nJ,ap,dw,aC,ay (show i < 9223372036854775807 by omega)];cases (t.easements[i]).lot==lot<;>cases rightL (t.easements[i]).area<;>refine⟨rfl,?_⟩<;>simp<;>omega
def Dm (t:bK) (lot day h x y:Int):Bool:=R3 (baseE t lot day).1 (vV (areaE t lot)).1 (planesE t lot day) (lawsE t lot) h x y
def Pm (t:bK) (lot day:Int) (W:Nat->List aj):Prop:=∀ j:Nat,j < 12->∃ L,zK L∧(∀ x y,aO L x y=Dm t lot day (3*((j:Int)+1)) x y)∧W j=aR (aD L)
theorem DR {n:Nat} (F:Nat) (hF:F<=12) (base:List aj) (es:List aP) (b:aj×Bool) (ps:List bE) (W:Nat->List aj) (hW:∀ j:Nat,j < 12->lg n base b.1 ps es (3*((j:Int)+1))=some (aeI (W j))) (hn:2000<=n):
 iter (dW n (F:Int) base es b ps) n ((0:Int),([]:List (List aj)))=some (if ∃ j:Nat,j < F∧(W j).length>200 then .inr ([],6)else .inl ((List.range F).map W)):=by
 have st:∀ j,j < F->dW n (F:Int) base es b ps (((j:Nat):Int),(List.range j).map W)=some (if (W j).length>200 then .inr (.inr ([],6))else .inl (((j+1:Nat):Int),(List.range (j+1)).map W)):=by
  intro j hj;have w:i64.wrap ((j:Int)+1)=((j:Int)+1):=bH (by omega) (by omega);have w3:i64.wrap (3*((j:Int)+1))=3*((j:Int)+1):=bH (by omega) (by omega);have ap:bq ((List.range j).map W).length ((List.range j).map W).length (sub ([W j]:List (List aj)) 0 1).length 1 24=true:=bf (n:=1) (by simp;omega) (by simp only[maxLen,length_map,List.length_range];omega);simp only[dW,bJ hj,cond_true,bB,aC,w,w3,hW j (by omega),bind_some];unfold aeI;by_cases h2:(W j).length>200
  ·rw[if_pos h2,if_pos h2];rfl
  ·rw[if_neg h2,if_neg h2];simp only[bB,aC,cond_true,ap,dw,List.range_succ,map_append,List.map_cons,map_nil];rfl
 rcases zx (fun j=>decide ((W j).length>200)) 0 F with ⟨i,h1,h2,h3,h4⟩ |h
 ·have hi:(W i).length>200:=by simpa using h3
  rw[if_pos ⟨i,h2,hi⟩];have:=fG (step:=dW n (F:Int) base es b ps) (fun j=>(((j:Nat):Int),(List.range j).map W)) i (.inr ([],6)) (fun j hj=>?_) ?_ n (by omega)
  ·exact this
  ·have:=h4 j (by omega) hj;rw[st j (by omega),if_neg (by simpa using this)]
  ·rw[st i h2,if_pos hi]
 ·rw[if_neg (by rintro⟨j,hj,hl⟩;have:=h j (by omega) hj;simp at this;omega)];have:=fG (step:=dW n (F:Int) base es b ps) (fun j=>(((j:Nat):Int),(List.range j).map W)) F (.inl ((List.range F).map W)) (fun j hj=>?_) ?_ n (by omega)
  ·exact this
  ·have:=h j (by omega) hj;rw[st j hj,if_neg (by simpa using this)]
  ·simp only[dW,nZ,cond_false,aC,cond_true]
theorem Gf {n:Nat} {t:bK} (h:NP t) (lot day floors:Int) (hn:1000000<=n):
 ((findLot t.land lot).2=false∧envelope_Rooms n t lot day floors=some ([],4))∨
 ((findLot t.land lot).2=true∧¬ ((0<=floors∧floors<=12)∧rightL (areaE t lot)=true)∧envelope_Rooms n t lot day floors=some ([],1))∨
 ((findLot t.land lot).2=true∧((0<=floors∧floors<=12)∧rightL (areaE t lot)=true)∧(baseE t lot day).2≠0∧envelope_Rooms n t lot day floors=some ([],(baseE t lot day).2))∨
 ((findLot t.land lot).2=true∧((0<=floors∧floors<=12)∧rightL (areaE t lot)=true)∧(baseE t lot day).2=0∧∃ W,Pm t lot day W∧envelope_Rooms n t lot day floors=some (if ∃ j:Nat,j < floors.toNat∧(W j).length>200 then ([],6)else ((List.range floors.toNat).map W,0))):=by
 have lw:=Vu h.lots lot;have hland:=h.land;have hfind:Ck n t.land lot=some (findLot t.land lot):=F4 h.lots (by omega) (by omega);unfold envelope_Rooms;rw[hfind];simp only[bind_some];cases hf:(findLot t.land lot).2 with
 |false=>exact .inl ⟨rfl,rfl⟩
 |true=>
  refine .inr ?_;rw[show (findLot t.land lot).1.area=areaE t lot from rfl]at*;rw[l6 (by have:=lw.1;unfold areaE;omega) (by have:=lw.1;unfold areaE;omega) (by omega)];simp only[Bool.not_true,cond_false,bind_some,nJ];by_cases hok:(0<=floors∧floors<=12)∧rightL (areaE t lot)=true
  ·obtain⟨⟨f0,f12⟩,hr⟩:=hok;have d0:decide (floors < 0)=false:=(by simp;omega);have d12:decide (floors>12)=false:=(by simp;omega);refine .inr ?_;rw[d0,d12,hr,l8 h lot day (by omega)];simp only[cond_false,bind_some,Bool.not_true];obtain⟨F,rfl⟩:∃ F:Nat,floors=(F:Int):=⟨floors.toNat,by omega⟩;have hF:(F:Int).toNat=F:=(by omega);have hwl:=Zf t lot day;have hrl:=h.rules;have fin:∀ base:List aj,rightL base=true->(baseE t lot day).1=base->∃ W,Pm t lot day W∧(bif eqL 0 ([]:List aP).length then (iter (gm n t lot) n ((0:Int),([]:List aP))).bind fun w1=>(AR n (areaE t lot)).bind fun r7=>(iM n t lot day).bind fun r8=>bif eqL 0 ([]:List (List aj)).length then dZ (iter (dW n (F:Int) base w1 r7 r8) n ((0:Int),([]:List (List aj)))) fun w2=>bif eqL (sub w2 0 w2.length).length w2.length then some ((sub w2 0 w2.length),(0:Int))else none else none else none:Option (List (List aj)×Int))=some (if ∃ j:Nat,j < F∧(W j).length>200 then ([],6)else ((List.range F).map W,0)):=by
    intro base hb hbe;have hex:∀ j:Nat,∃ V:List aj,j < 12->(∃ L,zK L∧(∀ x y,aO L x y=Dm t lot day (3*((j:Int)+1)) x y)∧V=aR (aD L))∧lg n base (vV (areaE t lot)).1 (planesE t lot day) (lawsE t lot) (3*((j:Int)+1))=some (aeI V):=by
     intro j;by_cases hj:j < 12
     ·obtain⟨L,l1,l2,l3⟩:=Ij (n:=n) base (vV (areaE t lot)).1 (planesE t lot day) (lawsE t lot) (h:=3*((j:Int)+1)) hb (by omega) (fun e he=>by have:=(mem_filter.1 he).2;rw[and_eq_true]at this;exact this.2) (Nat.le_trans (length_filter_le _ _) h.easements) (fun e he=>h.areas e (mem_filter.1 he).1) (by omega) hn;exact⟨_,fun _=>⟨⟨L,l1,fun x y=>by rw[l2];unfold Dm;rw[hbe],rfl⟩,l3⟩⟩
     ·exact⟨[],fun h=>absurd h hj⟩
    obtain⟨W,hW⟩:=Classical.axiomOfChoice hex;refine⟨W,fun j hj=>(hW j hj).1,?_⟩;rw[adb h lot (by omega),Xa (areaE t lot) lw.1 (by omega),oP h lot day (by omega)];simp only[length_nil,aC,cond_true,bind_some];rw[DR F (by omega) base (lawsE t lot) (vV (areaE t lot)) (planesE t lot day) W (fun j hj=>(hW j hj).2) (by omega)];split
    ·rfl
    ·simp only[gW,bB,aC,cond_true]
   by_cases hd:distE t lot day<=1048576
   ·have dd:decide (distE t lot day<=1048576)=true:=(by simpa using hd);have be:baseE t lot day=sQ (areaE t lot) (distE t lot day):=(by unfold baseE;rw[if_pos hd]);rw[dd];simp only[cond_true,WY (n:=n) (a:=areaE t lot) (d:=distE t lot day) lw.1 (by omega),bind_some,<- be];by_cases he:(baseE t lot day).2=0
    ·have e1:((baseE t lot day).2 != 0)=false:=(by simp[he]);rw[e1];simp only[cond_false,aC,cond_true,gW];obtain⟨W,w1,w2⟩:=fin (baseE t lot day).1 (NS he) rfl;exact .inr ⟨trivial,⟨⟨f0,f12⟩,trivial⟩,he,W,w1,by rw[hF];exact w2⟩
    ·have e1:((baseE t lot day).2 != 0)=true:=(by simp[he]);rw[e1];exact .inl ⟨trivial,⟨⟨f0,f12⟩,trivial⟩,he,rfl⟩
   ·have dd:decide (distE t lot day<=1048576)=false:=(by simpa using hd);have be:baseE t lot day=([],0):=(by unfold baseE;rw[if_neg hd]);rw[dd];simp only[cond_false,length_nil,aC,cond_true,gW];obtain⟨W,w1,w2⟩:=fin [] rfl (by rw[be]);exact .inr ⟨trivial,⟨⟨f0,f12⟩,trivial⟩,by rw[be],W,w1,by rw[hF];exact w2⟩
  ·refine .inl ⟨trivial,hok,?_⟩;have e:(bif decide (floors < 0)then true else bif decide (floors>12)then true else !rightL (areaE t lot))=true:=by
    by_cases h0:floors < 0
    ·have:decide (floors < 0)=true:=(by simpa using h0);rw[this];rfl
    ·by_cases h12:floors>12
     ·have a:decide (floors < 0)=false:=(by simpa using h0);have b:decide (floors>12)=true:=(by simpa using h12);rw[a,b];rfl
     ·have a:decide (floors < 0)=false:=(by simpa using h0);have b:decide (floors>12)=false:=(by simpa using h12);rw[a,b];cases hr:rightL (areaE t lot)with
      |false=>rfl
      |true=>exact absurd ⟨⟨by omega,by omega⟩,hr⟩ hok
   rw[e];rfl
abbrev Xb (t:bK):Prop:=∀ l∈t.land,l.from_.length*8<=140737488355328
theorem Md {α W O:Type} {l:List α} {step:Int->Option (Int ⊕ (W ⊕ O))} (p:α->Bool) (w:W) (o:O)
 (h:∀ i (hi:i < l.length),step (i:Int)=some (bif p l[i]then .inr (.inr o)else .inl ((i+1:Nat):Int)))
 (hend:step (l.length:Int)=some (.inr (.inl w))) (n:Nat) (hn:l.length < n):iter step n (0:Int)=some (bif l.any p then .inr o else .inl w):=by
 have:=rz (l:=l) (step:=step) (fun i=>((i:Nat):Int)) p w (fun _=>o) h hend n hn;rw[show ((0:Nat):Int)=0 from rfl]at this;rw[this,<- pX];cases pq p l<;>rfl
def abb (t:bK):Bool:=
 (decide (t.plan_rules.length<=10)&&(decide (t.plan_zones.length<=6)&&(decide (t.plan_defs.length<=20)&&(decide (t.plan_tables.length<=20)&&(decide (t.land.length<=5)&&(decide (t.easements.length<=5)&&decide (t.built.length<=6)))))))&&
 (!(t.plan_rules.any fun r=>decide (r.zones.length>5) || decide (r.except.length>5))&&(!(t.land.any fun l=>decide (l.area.length>10))&&!(t.easements.any fun e=>decide (e.area.length>10))))
theorem ag0 {a b:Nat}:decide ((a:Int)>(b:Int))=!decide (a<=b):=by
 by_cases h:a<=b
 ·have:¬ ((a:Int)>(b:Int)):=by omega
  simp[h,this]
 ·have:(a:Int)>(b:Int):=by omega
  simp only[this,h,decide_true,decide_false,Bool.not_false]
theorem Ik {n:Nat} (t:bK) (hn:2000<=n):FZ n t=some (abb t):=by
 unfold FZ abb;simp only[show (10:Int)=((10:Nat):Int)from rfl,show (6:Int)=((6:Nat):Int)from rfl,show (20:Int)=((20:Nat):Int)from rfl,show (5:Int)=((5:Nat):Int)from rfl,ag0,nJ,bind_some];cases hA:(decide (t.plan_rules.length<=10)&&(decide (t.plan_zones.length<=6)&&(decide (t.plan_defs.length<=20)&&(decide (t.plan_tables.length<=20)&&(decide (t.land.length<=5)&&(decide (t.easements.length<=5)&&decide (t.built.length<=6)))))))with
 |false=>
  have e:(bif !decide (t.plan_rules.length<=10)then true else bif !decide (t.plan_zones.length<=6)then true else bif !decide (t.plan_defs.length<=20)then true else bif !decide (t.plan_tables.length<=20)then true else bif !decide (t.land.length<=5)then true else bif !decide (t.easements.length<=5)then true else !decide (t.built.length<=6))=true:=by
   revert hA;cases decide (t.plan_rules.length<=10)<;>cases decide (t.plan_zones.length<=6)<;>cases decide (t.plan_defs.length<=20)<;>cases decide (t.plan_tables.length<=20)<;>cases decide (t.land.length<=5)<;>cases decide (t.easements.length<=5)<;>cases decide (t.built.length<=6)<;>simp
  rw[e];rfl
 |true=>
  have e:(bif !decide (t.plan_rules.length<=10)then true else bif !decide (t.plan_zones.length<=6)then true else bif !decide (t.plan_defs.length<=20)then true else bif !decide (t.plan_tables.length<=20)then true else bif !decide (t.land.length<=5)then true else bif !decide (t.easements.length<=5)then true else !decide (t.built.length<=6))=false:=by
   revert hA;cases decide (t.plan_rules.length<=10)<;>cases decide (t.plan_zones.length<=6)<;>cases decide (t.plan_defs.length<=20)<;>cases decide (t.plan_tables.length<=20)<;>cases decide (t.land.length<=5)<;>cases decide (t.easements.length<=5)<;>cases decide (t.built.length<=6)<;>simp
  simp only[and_eq_true,decide_eq_true_eq]at hA;rw[e];simp only[cond_false,Bool.true_and];rw[Md (l:=t.plan_rules) (fun r=>decide (r.zones.length>5) || decide (r.except.length>5)) () false (fun i hi=>?_) (by simp[Hw]) n (by omega)]
  ·cases (t.plan_rules.any fun r=>decide (r.zones.length>5) || decide (r.except.length>5))with
   |true=>rfl
   |false=>
    simp only[cond_false,gW];rw[Md (l:=t.land) (fun l=>decide (l.area.length>10)) () false (fun i hi=>?_) (by simp[Hy]) n (by omega)]
    ·cases (t.land.any fun l=>decide (l.area.length>10))with
     |true=>rfl
     |false=>
      simp only[cond_false,gW];rw[Md (l:=t.easements) (fun e=>decide (e.area.length>10)) () false (fun i hi=>?_) (by simp[Hz]) n (by omega)]
      ·cases (t.easements.any fun e=>decide (e.area.length>10))<;>rfl
      ·have d:decide ((((t.easements[i]).area.length:Nat):Int)>10)=decide ((t.easements[i]).area.length>10):=(by rw[Bool.eq_iff_iff,decide_eq_true_eq,decide_eq_true_eq];omega);simp only[Hz,bJ hi,cond_true,bn hi,bind_some,d,Option.map_some,nJ,ay (show i < 9223372036854775807 by omega)]
    ·have d:decide ((((t.land[i]).area.length:Nat):Int)>10)=decide ((t.land[i]).area.length>10):=(by rw[Bool.eq_iff_iff,decide_eq_true_eq,decide_eq_true_eq];omega);simp only[Hy,bJ hi,cond_true,bn hi,bind_some,d,Option.map_some,nJ,ay (show i < 9223372036854775807 by omega)]
  ·have d1:decide ((((t.plan_rules[i]).zones.length:Nat):Int)>5)=decide ((t.plan_rules[i]).zones.length>5):=(by rw[Bool.eq_iff_iff,decide_eq_true_eq,decide_eq_true_eq];omega);have d2:decide ((((t.plan_rules[i]).except.length:Nat):Int)>5)=decide ((t.plan_rules[i]).except.length>5):=(by rw[Bool.eq_iff_iff,decide_eq_true_eq,decide_eq_true_eq];omega);simp only[Hw,bJ hi,cond_true,bn hi,bind_some,d1,d2,Option.map_some,nJ,ay (show i < 9223372036854775807 by omega)];cases decide ((t.plan_rules[i]).zones.length>5)<;>cases decide ((t.plan_rules[i]).except.length>5)<;>rfl
theorem Xc {t:bK} (h:abb t=true) (hf:Xb t):NP t:=by
 unfold abb at h;simp only[and_eq_true,decide_eq_true_eq,Bool.not_eq_true',List.any_eq_false,Bool.or_eq_true,not_or]at h;obtain⟨⟨h1,h2,h3,h4,h5,h6,h7⟩,g1,g2,g3⟩:=h;refine⟨by omega,fun r hr=>?_,by omega,by omega,fun l hl=>?_,by omega,fun e he=>?_⟩
 ·have:=g1 r hr;exact⟨by omega,by omega⟩
 ·have:=g2 l hl;exact⟨by omega,hf l hl⟩
 ·have:=g3 e he;omega
def exTown:bK:=(bK.mk [] [] [] [dD.mk ⟨#[97]⟩ [] [] 0 0 0 false 0 12 0 ⟨#[]⟩ ⟨#[]⟩ [pE.mk 0 2 ⟨#[]⟩ ⟨#[]⟩ [],pE.mk 1 0 Fe ⟨#[]⟩ []] 0 0 0 0 0 0 0,dD.mk ⟨#[98]⟩ [] [] 0 0 0 false 1 0 0 ⟨#[]⟩ ⟨#[]⟩ [] 0 3 1 1 0 0 0] [] [] [] 0 [qE.mk 1 0 [aj.mk 0 0 10 8] []] [aP.mk 1 [aj.mk 4 2 6 3] 5] [] [] [])
theorem ag1:EG=some exTown:=by kernel_rfl
theorem ex_ok:NP exTown:=by
 refine⟨by decide,fun r hr=>?_,by decide,by decide,fun l hl=>?_,by decide,fun e he=>?_⟩
 ·simp only[exTown,mem_cons,List.not_mem_nil,or_false]at hr;rcases hr with rfl |rfl<;>exact⟨by decide,by decide⟩
 ·simp only[exTown,mem_cons,List.not_mem_nil,or_false]at hl;subst hl;exact⟨by decide,by decide⟩
 ·simp only[exTown,mem_cons,List.not_mem_nil,or_false]at he;subst he;decide
theorem afD:findLot exTown.land 1=(qE.mk 1 0 [aj.mk 0 0 10 8] [],true):=by kernel_rfl
theorem ab4:distE exTown 1 0=2:=by kernel_rfl
theorem Vv:planesE exTown 1 0=[bE.mk 0 3 1 1]:=by kernel_rfl
def exR:List (List aj):=[[⟨2,2,8,6⟩],[⟨3,2,4,6⟩,⟨4,3,6,6⟩,⟨6,2,8,6⟩],[⟨6,2,8,6⟩]]
theorem aeJ:envelope_Rooms 1000000 exTown 1 0 3=some (exR,0):=by
 unfold envelope_Rooms;rw[F4 ex_ok.lots (by decide) (by decide),l8 ex_ok 1 0 (by omega),oP ex_ok 1 0 (by omega),afD,ab4,Vv]
 kernel_rfl
theorem aeK:xq 1000000 exR=some ([⟨0,3,[⟨2,2,8,6⟩]⟩,⟨3,6,[⟨3,2,4,6⟩,⟨4,3,6,6⟩,⟨6,2,8,6⟩]⟩,⟨6,9,[⟨6,2,8,6⟩]⟩],0):=by kernel_rfl
theorem afE:AY 1000000=some true:=by
 unfold AY;rw[ag1];simp only[bind_some,aeJ,bB,aC,cond_true,aeK,l8 ex_ok 1 0 (show 2000<=1000000 by omega),oP ex_ok 1 0 (show 2000<=1000000 by omega),ab4,Vv]
 kernel_rfl
theorem ade {t:bK} {lot day x y:Int} (he:(baseE t lot day).2=0) (hr:rightL (areaE t lot)=true) (hc:aO (baseE t lot day).1 x y=true):InG x y∧aO (areaE t lot) x y=true∧OkR (vV (areaE t lot)).1=true:=by
 have hv:=(bV (NS he)).1;have hg:=mV hv hc;have ha:aO (areaE t lot) x y=true:=by
  unfold baseE at he hc;split at hc
  ·rename_i hd;rw[if_pos hd]at he;have hsp:=y5 (a:=areaE t lot) (r:=(sQ (areaE t lot) (distE t lot day)).1) (d:=distE t lot day) (by rw[<- he]);exact (hsp.2.2.2 x y).1 hc x y (by omega) (by omega) (by omega) (by omega)
  ·simp[aO]at hc
 refine⟨hg,ha,?_⟩;have hne:areaE t lot≠[]:=by intro e;rw[e]at ha;simp[aO]at ha
 obtain⟨b1,b2⟩:=aa8 hne hr;rw[b1];exact b2
theorem Xd {keep:Bool->Bool->Bool} {a b:List aj} (ha:rightL a=true) (hb:rightL b=true):(oh keep a b).2=0∨(oh keep a b).2=6:=by
 unfold oh;rw[ha,hb];simp only[Bool.and_self,if_true];split
 ·exact .inr rfl
 ·exact .inl rfl
theorem abd:rightL []=true:=by rfl
theorem GI {n:Nat} {a b:List aj} (ha:rightL a=true) (hb:rightL b=true) (h:∀ x y,aO a x y=true->aO b x y=true) (hn:2000<=n):oO n a b=some true:=by
 have la:=(bV ha).2.1;have lb:=(bV hb).2.1;unfold oO;rw[Y1 (by omega) (by omega) (by omega) (by omega) (by omega)];simp only[bind_some];rcases Xd (keep:=fun p q=>p&&!q) ha hb with e |e
 ·have hs:=TG (keep:=fun p q=>p&&!q) rfl (a:=a) (b:=b) (r:=(oh (fun p q=>p&&!q) a b).1) (by rw[<- e]);have hz:(oh (fun p q=>p&&!q) a b).1=[]:=TF hs.2.2.1 abd fun x y=>by
   rw[hs.2.2.2];cases h1:aO a x y with
   |false=>simp[aO]
   |true=>rw[h x y h1];simp[aO]
  rw[e,hz];rfl
 ·rw[e];rfl
theorem j4 {t:bK} {lot day:Int} {W:Nat->List aj} (hW:Pm t lot day W) {j:Nat} (hj:j < 12) (hl:(W j).length<=200):rightL (W j)=true∧∀ x y,aO (W j) x y=Dm t lot day (3*((j:Int)+1)) x y:=by
 obtain⟨L,l1,l2,l3⟩:=hW j hj;obtain⟨q1,q2⟩:=aa9 l1 (by rw[<- l3];exact hl);rw[<- l3]at q1 q2;exact⟨q1,fun x y=>by rw[q2,l2]⟩
theorem adf {t:bK} {lot day h h' x y:Int} (hh:h'<=h) (hr:Dm t lot day h x y=true):Dm t lot day h' x y=true:=by
 unfold Dm R3 at*;simp only[and_eq_true,decide_eq_true_eq,List.all_eq_true,Bool.or_eq_true]at*;obtain⟨h1,⟨h2,h3⟩,h4⟩:=hr;refine⟨h1,⟨h2,fun p hp=>by have:=h3 p hp;omega⟩,fun e he=>?_⟩;rcases h4 e he with a |a
 ·exact .inl (by omega)
 ·exact .inr a
theorem adg {t:bK} {lot day h x y:Int} (he:(baseE t lot day).2=0) (hr:rightL (areaE t lot)=true) (hc:Dm t lot day h x y=true):aO (areaE t lot) x y=true:=by
 unfold Dm R3 at hc;rw[and_eq_true]at hc;exact (ade he hr hc.1).2.1
structure More (t u:bK) (lot day:Int):Prop where
 area:areaE u lot=areaE t lot
 dist:distE t lot day<=distE u lot day
 planes:∀ p∈planesE t lot day,p∈planesE u lot day
 laws:∀ e∈lawsE t lot,e∈lawsE u lot
theorem Vw {t u:bK} {lot day h x y:Int} (m:More t u lot day) (ht:(baseE t lot day).2=0) (hu:(baseE u lot day).2=0) (hc:Dm u lot day h x y=true):Dm t lot day h x y=true:=by
 unfold Dm R3 at*;rw[m.area]at hc;simp only[and_eq_true,decide_eq_true_eq,List.all_eq_true,NN]at*;obtain⟨h1,⟨⟨h2,h2'⟩,h3⟩,h4⟩:=hc;refine⟨?_,⟨⟨h2,fun p hp=>h2' p (m.planes p hp)⟩,fun p hp=>h3 p (m.planes p hp)⟩,fun e he=>h4 e (m.laws e he)⟩;unfold baseE at h1 hu ht ⊢;have hd:=m.dist;by_cases hud:distE u lot day<=1048576
 ·rw[if_pos hud]at h1 hu;rw[if_pos (by omega)]at ht ⊢;rw[m.area]at h1 hu;obtain⟨_,d0,_,s2⟩:=y5 (a:=areaE t lot) (r:=(sQ (areaE t lot) (distE t lot day)).1) (d:=distE t lot day) (by rw[<- ht]);obtain⟨_,e0,_,s4⟩:=y5 (a:=areaE t lot) (r:=(sQ (areaE t lot) (distE u lot day)).1) (d:=distE u lot day) (by rw[<- hu]);rw[s2];intro a b b1 b2 b3 b4;exact (s4 x y).1 h1 a b (by omega) (by omega) (by omega) (by omega)
 ·rw[if_neg hud]at h1;simp[aO]at h1
def NT (t:bK) (r:dD):bK:=bK.mk t.plan_defs t.plan_tables t.plan_zones (t.plan_rules++[r]) t.plan_caps t.plan_views t.plan_sun t.plan_hours t.land t.easements t.windows t.built t.base
def Zk (t:bK) (e:aP):bK:=bK.mk t.plan_defs t.plan_tables t.plan_zones t.plan_rules t.plan_caps t.plan_views t.plan_sun t.plan_hours t.land (t.easements++[e]) t.windows t.built t.base
theorem abe (t:bK) (r:dD) (lot day:Int):∃ l,xG (NT t r) lot day=xG t lot day++l:=by
 unfold xG;rw[show (NT t r).land=t.land from rfl,show (NT t r).plan_zones=t.plan_zones from rfl,show (NT t r).plan_rules=t.plan_rules++[r]from rfl];cases (findLot t.land lot).2 with
 |false=>exact⟨[],rfl⟩
 |true=>exact⟨_,filter_append _ _⟩
theorem adh (t:bK) (r:dD) (lot day:Int):More t (NT t r) lot day:=by
 obtain⟨l,hl⟩:=abe t r lot day;refine⟨rfl,?_,fun p hp=>?_,fun e he=>he⟩
 ·unfold distE;rw[hl,List.foldl_append];have:∀ (l:List dD) (m:Int),m<=l.foldl (fun m r=>bif Ze r then max m (aeH r)else m) m:=by
   intro l
   induction l with
   |nil=>intro m;exact Int.le_refl _
   |cons r l ih=>
    intro m;rw[foldl_cons];refine Int.le_trans ?_ (ih _);cases Ze r with
    |true=>simp only[cond_true];omega
    |false=>exact Int.le_refl _
  exact this l _
 ·unfold planesE at*;rw[hl,filter_append,map_append];exact List.mem_append_left _ hp
theorem adi (t:bK) (e:aP) (lot day:Int):More t (Zk t e) lot day:=by
 refine⟨rfl,Int.le_refl _,fun p hp=>hp,fun x hx=>?_⟩;unfold lawsE at*;rw[show (Zk t e).easements=t.easements++[e]from rfl,filter_append];exact List.mem_append_left _ hx
structure Got (n:Nat) (t:bK) (lot day:Int) (R:List (List aj)×Int):Prop where
 eq:envelope_Rooms n t lot day 12=some R
 bad:R.2≠0->R.1=[]
 good:R.2=0->R.1.length=12∧(findLot t.land lot).2=true∧rightL (areaE t lot)=true∧(baseE t lot day).2=0∧∃ W,Pm t lot day W∧R.1=(List.range 12).map W∧∀ j,j < 12->(W j).length<=200
theorem got {n:Nat} {t:bK} (h:NP t) (lot day:Int) (hn:1000000<=n):∃ R,Got n t lot day R:=by
 rcases Gf h lot day 12 hn with ⟨f1,g⟩ |⟨f1,f2,g⟩ |⟨f1,f2,f3,g⟩ |⟨f1,f2,f3,W,hW,g⟩
 ·exact⟨_,g,fun _=>rfl,fun h=>by cases h⟩
 ·exact⟨_,g,fun _=>rfl,fun h=>by cases h⟩
 ·exact⟨_,g,fun _=>rfl,fun h=>absurd h f3⟩
 ·rw[show (12:Int).toNat=12 from rfl]at g;by_cases hbig:∃ k:Nat,k < 12∧(W k).length>200
  ·rw[if_pos hbig]at g;exact⟨_,g,fun _=>rfl,fun h=>by cases h⟩
  ·rw[if_neg hbig]at g;refine⟨_,g,fun h=>absurd rfl h,fun _=>⟨by simp,f1,f2.2,f3,W,hW,rfl,fun j hj=>?_⟩⟩;rcases Nat.lt_or_ge 200 (W j).length with h |h
   ·exact absurd ⟨j,hj,h⟩ hbig
   ·exact h
theorem Zl {n:Nat} {t u v:bK} {lot day:Int} (hn:2000<=n) (mu:More t u lot day) (mv:More t v lot day) {a b c:List (List aj)×Int} (ga:Got n t lot day a) (gb:Got n u lot day b) (gc:Got n v lot day c) (h0:a.2=0) (lt:qE) (hlt:lt.area=areaE t lot):
 iter (dJ n a b c (lt,true)) n (0:Int)=some (.inl ()):=by
 obtain⟨la,_,ra,ba,W,hW,ea,wl⟩:=ga.good h0;have bu:b.2=0->b.1.length=12∧∃ V:Nat->List aj,b.1=(List.range 12).map V∧∀ j,j < 12->rightL (V j)=true∧∀ x y,aO (V j) x y=true->aO (W j) x y=true:=fun hb=>by
  obtain⟨lb,_,rb,bb,V,hV,eb,vl⟩:=gb.good hb;refine⟨lb,V,eb,fun j hj=>⟨(j4 hV hj (vl j hj)).1,fun x y hxy=>?_⟩⟩;rw[(j4 hV hj (vl j hj)).2]at hxy;rw[(j4 hW hj (wl j hj)).2];exact Vw mu ba bb hxy
 have bv:c.2=0->c.1.length=12∧∃ V:Nat->List aj,c.1=(List.range 12).map V∧∀ j,j < 12->rightL (V j)=true∧∀ x y,aO (V j) x y=true->aO (W j) x y=true:=fun hb=>by
  obtain⟨lb,_,rb,bb,V,hV,eb,vl⟩:=gc.good hb;refine⟨lb,V,eb,fun j hj=>⟨(j4 hV hj (vl j hj)).1,fun x y hxy=>?_⟩⟩;rw[(j4 hV hj (vl j hj)).2]at hxy;rw[(j4 hW hj (wl j hj)).2];exact Vw mv ba bb hxy
 have stp:∀ i,i < 12->dJ n a b c (lt,true) ((i:Nat):Int)=some (.inl ((i+1:Nat):Int)):=by
  intro i hi;have hia:i < a.1.length:=by omega
  have ga1:at? a.1 (((0:Nat):Int)+((i:Nat):Int))=some (W i):=by rw[bL hia];simp[ea]
  obtain⟨ri,ci⟩:=j4 hW hi (wl i hi);have below:∃ bl,((bif (decide (((i:Nat):Int)>(0:Int)))then bif inb (i64.wrap (((i:Nat):Int) - 1)) a.1.length then (at? a.1 ((0:Nat)+(i64.wrap (((i:Nat):Int) - 1)):Int)).bind fun x1=>some x1 else none else some lt.area):Option ((List aj)))=some bl∧rightL bl=true∧∀ x y,aO (W i) x y=true->aO bl x y=true:=by
   by_cases hz:i=0
   ·subst hz;refine⟨lt.area,rfl,by rw[hlt];exact ra,fun x y hxy=>?_⟩;rw[ci]at hxy;rw[hlt];exact adg ba ra hxy
   ·have d:decide (((i:Nat):Int)>(0:Int))=true:=(by simp;omega);have w:i64.wrap (((i:Nat):Int) - 1)=((i - 1:Nat):Int):=gV (by omega) (by omega);have g:at? a.1 (((0:Nat):Int)+((i - 1:Nat):Int))=some (W (i - 1)):=(by rw[bL (by omega)];simp[ea]);obtain⟨rp,cp⟩:=j4 hW (show i - 1 < 12 by omega) (wl (i - 1) (by omega));refine⟨W (i - 1),?_,rp,fun x y hxy=>?_⟩
    ·rw[d,w];simp only[cond_true,aZ (show i - 1 < a.1.length by omega),g,bind_some]
    ·rw[ci]at hxy;rw[cp];exact adf (by omega) hxy
  obtain⟨bl,hbl,rbl,cbl⟩:=below;have w1:=GI (n:=n) ri rbl cbl hn
  have bran:∀ q:List (List aj)×Int,(q.2=0->q.1.length=12∧∃ V:Nat->List aj,q.1=(List.range 12).map V∧∀ j,j < 12->rightL (V j)=true∧∀ x y,aO (V j) x y=true->aO (W j) x y=true)->
   ((bif (q.2==(0:Int))then (bif (((q.1.length:Nat):Int) != (((a.1.length:Nat):Int):Int))then some true else bif inb (min ((i:Nat):Int) (max (i64.wrap (((q.1.length:Nat):Int) - 1)) (0:Int))) q.1.length then (at? q.1 ((0:Nat)+(min ((i:Nat):Int) (max (i64.wrap (((q.1.length:Nat):Int) - 1)) (0:Int))):Int)).bind fun x3=>bif inb ((i:Nat):Int) a.1.length then (at? a.1 ((0:Nat)+((i:Nat):Int):Int)).bind fun x4=>(oO n x3 x4).bind fun r14=>some (!r14)else none else none)else some false):Option (Bool))=some false:=by
   intro q hq;by_cases hz:q.2=0
   ·obtain⟨lq,V,eq,hV⟩:=hq hz;have e0:(q.2==0)=true:=(by rw[hz];rfl);have e1:(((q.1.length:Nat):Int) != ((a.1.length:Nat):Int))=false:=(by rw[lq,la];rfl);have w:i64.wrap (((q.1.length:Nat):Int) - 1)=11:=(by rw[lq];decide);have mm:min ((i:Nat):Int) (max (11:Int) 0)=((i:Nat):Int):=(by omega);have gq:at? q.1 (((0:Nat):Int)+((i:Nat):Int))=some (V i):=(by rw[bL (by omega)];simp[eq]);obtain⟨rv,cv⟩:=hV i hi;rw[e0,e1,w,mm];simp only[cond_true,cond_false,aZ (show i < q.1.length by omega),gq,bind_some,aZ hia,ga1,GI (n:=n) rv ri cv hn,Bool.not_true]
   ·have e0:(q.2==0)=false:=(by simpa using hz);rw[e0];rfl
  have b1:=bran b bu;have b2:=bran c bv;simp only[dJ,bJ hia,cond_true,hbl,bind_some,aZ hia,ga1,w1,Bool.not_true,cond_false];simp only[aZ hia,ga1,cond_true,bind_some]at b1 b2;rw[b1,b2];simp only[bind_some,cond_false,ay (show i < 9223372036854775807 by omega)]
 refine fG (step:=dJ n a b c (lt,true)) (fun i=>((i:Nat):Int)) 12 (.inl ()) stp ?_ n (by omega);have d:decide (((12:Nat):Int) < ((a.1.length:Nat):Int))=false:=by rw[la];rfl
 simp only[dJ,d,cond_false]
theorem DT {n:Nat} (hn:1000000<=n) (hs:AY n=some true) (t:bK) (lot day:Int) (r:dD) (x:aP) (hf:Xb t) (h1:t.plan_rules.length*232<=140737488351232) (h2:t.easements.length*40<=140737488351232):jh n t lot day r x=some true:=by
 have a1:bq ([]:List dD).length 0 t.plan_rules.length t.plan_rules.length 232=true:=bf (a:=0) (by omega) (by simp only[maxLen];omega);have a2:bq t.plan_rules.length t.plan_rules.length (sub ([r]:List dD) 0 1).length 1 232=true:=bf (n:=1) (by omega) (by simp only[maxLen];omega);have a3:bq ([]:List aP).length 0 t.easements.length t.easements.length 40=true:=bf (a:=0) (by omega) (by simp only[maxLen];omega);have a4:bq t.easements.length t.easements.length (sub ([x]:List aP) 0 1).length 1 40=true:=bf (n:=1) (by omega) (by simp only[maxLen];omega);have s1:t.plan_rules++sub ([r]:List dD) 0 1=t.plan_rules++[r]:=rfl;have s2:t.easements++sub ([x]:List aP) 0 1=t.easements++[x]:=rfl;unfold jh;rw[hs];simp only[bind_some,a1,a3,cond_true,dw,List.nil_append,a2,a4,s1,s2,bB,aC];rw[show bK.mk t.plan_defs t.plan_tables t.plan_zones (t.plan_rules++[r]) t.plan_caps t.plan_views t.plan_sun t.plan_hours t.land t.easements t.windows t.built t.base=NT t r from rfl,show bK.mk t.plan_defs t.plan_tables t.plan_zones t.plan_rules t.plan_caps t.plan_views t.plan_sun t.plan_hours t.land (t.easements++[x]) t.windows t.built t.base=Zk t x from rfl];rw[Ik t (by omega),Ik (NT t r) (by omega),Ik (Zk t x) (by omega)];simp only[bind_some,nJ];cases ft:abb t with
 |false=>rfl
 |true=>
  cases fu:abb (NT t r)with
  |false=>rfl
  |true=>
   cases fv:abb (Zk t x)with
   |false=>rfl
   |true=>
    have et:=Xc ft hf;obtain⟨a,ga⟩:=got (n:=n) et lot day hn;obtain⟨b,gb⟩:=got (n:=n) (Xc fu hf) lot day hn;obtain⟨c,gc⟩:=got (n:=n) (Xc fv hf) lot day hn;have hland:=et.land;simp only[Bool.not_true,cond_false,ga.eq,gb.eq,gc.eq,bind_some,F4 (n:=n) (id:=lot) et.lots (by omega) (by omega)];by_cases h0:a.2=0
    ·obtain⟨la,fl,ra,_⟩:=ga.good h0;have e0:(a.2 != 0)=false:=(by rw[h0];rfl);have e1:(((a.1.length:Nat):Int) != 12)=false:=(by rw[la];rfl);have pf:findLot t.land lot=((findLot t.land lot).1,true):=(by rw[<- fl]);rw[e0,e1,pf,Zl (by omega) (adh t r lot day) (adi t x lot day) ga gb gc h0 (findLot t.land lot).1 rfl];rfl
    ·have e0:(a.2 != 0)=true:=(by simpa using h0);rw[e0,ga.bad h0];rfl
theorem Fq (t:bK) (lot day:Int) (r:dD) (x:aP) (hf:Xb t) (h1:t.plan_rules.length*232<=140737488351232) (h2:t.easements.length*40<=140737488351232):∃ k,jh k t lot day r x=some true:=⟨1000000,DT (Nat.le_refl _) afE t lot day r x hf h1 h2⟩
theorem R4 {X:SX} {n:Nat} {c:CT X.ι} {cs:List (CT X.ι)} {ss:List VS} (hs:zw (vsF n) (c::cs)=some ss) (q:HL X.toSE (c::cs)) (h:I7 ss (HL.tvs X.toSE (c::cs) q)):∃ s ss',vsF n c=some s∧zw (vsF n) cs=some ss'∧Tn s (CT.tv X.toSE c q.1)∧I7 ss' (HL.tvs X.toSE cs q.2):=by
 simp only[zw]at hs;rw[ai]at hs;obtain⟨a,h1,hs⟩:=hs;rw[ai]at hs;obtain⟨b,h2,hs⟩:=hs;injection hs with hs;subst hs;exact⟨a,b,h1,h2,h.1,h.2⟩
theorem aeL {X:SX} {n:Nat} {i:X.ι} {s:VS} {x:X.T i} (hs:vsF n (.st i)=some s) (h:Tn s (CT.tv X.toSE (.st i) x)):∃ l,csF (X:=X) n (.st i)=some l∧FitL l (X.row i x):=by
 simp only[vsF]at hs;obtain⟨l,h1,rfl⟩:=Option.map_eq_some_iff.1 hs;obtain⟨ys,e,hf⟩:=h;rw[CT.tv]at e;injection e with e;exact⟨l,h1,by rw[e];exact hf⟩
theorem Kj:∀ {cs:List CS} {ts:List Tree},FitL cs ts->∀ {i:Nat} {c:CS} {x:Tree},cs[i]? =some c->ts[i]? =some x->Fit c x
 |c::cs,x::ts,h,0,c',x',hc,hx=>by
  simp only[List.getElem?_cons_zero,Option.some.injEq]at hc hx;subst hc;subst hx;simp only[FitL]at h;exact h.1
 |c::cs,x::ts,h,i+1,c',x',hc,hx=>by
  simp only[List.getElem?_cons_succ]at hc hx;simp only[FitL]at h;exact Kj h.2 hc hx
 |[],_,h,_,_,_,hc,_=>by simp at hc
 |_::_,[],h,_,_,_,_,hx=>by simp at hx
theorem Xe {row:List CS} {α:Type} {l:List α} {f:α->List Tree} (h:Fit (.sl row) (.sl (l.map f))):l.length<=maxLen∧l.length*Z9 row<=reachBytes∧∀ x∈l,FitL row (f x):=by
 simp only[Fit]at h;obtain⟨rows,e,⟨h1,h2⟩,h3⟩:=h;injection e with e;subst e;rw[length_map]at h1 h2;exact⟨h1,h2,fun x hx=>h3 _ (mem_map.2 ⟨x,hx,rfl⟩)⟩
def ahn:List CS:=[.int .i64,.int .i64,.sl [.int .i64,.int .i64,.int .i64,.int .i64],.sl [.int .i64]]
theorem afF {t:bK} {n:Nat} {s:VS} (hs:vsF (X:=xx) (n+8) (.st SI.Town)=some s) (h:Tn s (CT.tv xx.toSE (.st SI.Town) t)):Xb t:=by
 obtain⟨l,h1,h2⟩:=aeL hs h;have h8:((csF (X:=xx) (n+8) (.st SI.Town)).bind fun l=>l[8]?)=some (.sl ahn):=by kernel_rfl
 rw[h1]at h8;have hf:=Kj h2 (i:=8) h8 (x:= .sl (t.land.map aaR)) rfl;obtain⟨_,_,h3⟩:=Xe hf;intro lt hlt;have h4:=Kj (h3 lt hlt) (i:=3) (c:= .sl [.int .i64]) rfl (x:= .sl (lt.from_.map fun x=>[.sc (.int .i64 x)])) rfl;obtain⟨_,h5,_⟩:=Xe h4;have:lt.from_.length*8<=reachBytes:=h5;have:reachBytes=140737488351232:=rfl;omega
noncomputable def afY:List CS:=(csF (X:=xx) 6 (.st SI.Rule)).getD []
noncomputable def afZ:List CS:=(csF (X:=xx) 6 (.st SI.Easement)).getD []
theorem Vx {t:bK} {n:Nat} {s:VS} (hs:vsF (X:=xx) (n+8) (.st SI.Town)=some s) (h:Tn s (CT.tv xx.toSE (.st SI.Town) t)):t.plan_rules.length*232<=140737488351232∧t.easements.length*40<=140737488351232:=by
 obtain⟨l,h1,h2⟩:=aeL hs h;have h3:((csF (X:=xx) (n+8) (.st SI.Town)).bind fun l=>l[3]?)=some (.sl afY):=by kernel_rfl
 have h9:((csF (X:=xx) (n+8) (.st SI.Town)).bind fun l=>l[9]?)=some (.sl afZ):=by kernel_rfl
 rw[h1]at h3 h9;have f3:=Kj h2 (i:=3) h3 (x:= .sl (t.plan_rules.map O7)) rfl;have f9:=Kj h2 (i:=9) h9 (x:= .sl (t.easements.map EF)) rfl;obtain⟨_,g3,_⟩:=Xe f3;obtain⟨_,g9,_⟩:=Xe f9;rw[show Z9 afY=232 by kernel_rfl]at g3;rw[show Z9 afZ=40 by kernel_rfl]at g9;exact⟨g3,g9⟩
end Go.Proofs
