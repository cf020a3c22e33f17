/-
  Values of expressions: total where they are right.
-/
import Derived.Test.YtbploijhogfmnaaGreatS1
open Option (bind_some)
open List (getElem_mem)
namespace Go.Proofs
open Go.Gb Go.RowKit
theorem Bu {n:Nat} (h:0 < n):inb 0 n=true:=by simp[inb];omega
theorem Ux {n:Nat} (h:1 < n):inb 1 n=true:=by simp[inb];omega
theorem aa0 {n:Nat} (h:2 < n):inb 2 n=true:=by simp[inb];omega
theorem F3 {α:Type} {l:List α} (h:0 < l.length):at? l (((0:Nat):Int)+0)=some l[0]:=cK (i:=0) h
theorem X4 {α:Type} {l:List α} (h:1 < l.length):at? l (((0:Nat):Int)+1)=some l[1]:=cK (i:=1) h
theorem abU {α:Type} {l:List α} (h:2 < l.length):at? l (((0:Nat):Int)+2)=some l[2]:=cK (i:=2) h
theorem Ol {n:Nat} {l:List ByteArray} {s:ByteArray} (hl:l.length<=4000000) (hn:4000002<=n):∃ r,ji n l s=some r:=by
 obtain⟨o,h,_⟩:=d9 (step:=jh l s) (fun i (v:Int)=>v=(i:Int)∧i<=l.length) (fun _=>True) l.length (fun k v h=>h.2) (by
  rintro i v ⟨rfl,hi⟩;by_cases hlt:i < l.length
  ·simp only[jh,show decide ((i:Int) < (l.length:Int))=true from by simp;omega,cond_true,aN hlt,bind_some,au (show i < 9223372036854775807 by omega)];cases (ByteArray.toList s==ByteArray.toList l[i])with
   |true=>exact .inr ⟨_,rfl,trivial⟩
   |false=>exact .inl ⟨_,rfl,rfl,hlt⟩
  ·simp only[jh,show decide ((i:Int) < (l.length:Int))=false from by simp;omega,cond_false];exact .inr ⟨_,rfl,trivial⟩) n 0 0 ⟨rfl,Nat.zero_le _⟩ (by omega)
 simp only[ji,qC,h];cases o with
 |inl u=>cases u;simp only[iH,bind_some];exact⟨_,rfl⟩
 |inr r=>simp only[Cc,bind_some];exact⟨_,rfl⟩
theorem Zd {op a:Int} (h0:(op==0)=false) (h1:(op==1)=false) (h2:(op==2)=false) (h3:(op==3)=false) (h9:(op==9)=false) (h15:(op==15)=false) (h16:(op==16)=false) (h:sS op=some (a,true)):a=2:=by
 simp only[sS,h0,h1,h2,h3,h9,h15,h16,cond_false,bind_some]at h;cases hd:decide (op>=0)with
 |true=>rw[hd]at h;simp only[cond_true,Option.some.injEq,Prod.mk.injEq]at h;exact h.1.symm
 |false=>rw[hd]at h;simp at h
section
variable {n:Nat} {a0:List iM} {ts:List bB} {a2:List pE} {a3:List pF} {a4:List AZ} {a5:List pG} {a6:List fP} {a7:Int} {zs:List ByteArray}
theorem Uy (hn:4000002<=n) (ht:X0 ts) (hz:zs.length<=4000000):∀ (m:Nat) (e:aW) (kn:List (ByteArray×Int)),VR m e->(toE e).wt<=4000000->∃ v,aR n m a0 ts a2 a3 a4 a5 a6 a7 zs e kn=some (v,kn)
 | 0,_,_,h,_=>h.elim
 |m+1,e,kn,⟨ha,hr⟩,hw=>by
  have hla:=XZ e;have hmx:maxLen=9223372036854775807:=rfl;show ∃ v,cB n (aR n m) a0 ts a2 a3 a4 a5 a6 a7 zs e kn=some (v,kn)
  obtain⟨o,h1,l,rfl,hl⟩:=d9 (step:=dK n (aR n m) a0 ts a2 a3 a4 a5 a6 a7 zs e) (fun i (v:Int×List (ByteArray×Int)×List Int)=>∃ l,v=((i:Int),kn,l)∧i<=e.args.length∧l.length=i)
   (fun o=>∃ l,o=(kn,l)∧l.length=e.args.length) e.args.length (fun k v ⟨_,_,h,_⟩=>h) (by
   rintro i v ⟨l,rfl,hi,hl⟩;by_cases hlt:i < e.args.length
   ·left;have hwx:=aaZ (getElem_mem hlt);obtain⟨x,hx⟩:=Uy hn ht hz m e.args[i] kn (hr _ (getElem_mem hlt)) (by omega);have key:∃ b,((bif (e.op==(16:Int))then (bif (decide ((i:Int)>(0:Int)))then bif inb 0 l.length then (at? l ((0:Nat)+0:Int)).bind fun x2=>some (!((x2 != (0:Int))==((i:Int)==(1:Int))))else none else some false)else some false):Option (Bool))=some b:=by
     refine MZ ?_ ⟨_,rfl⟩;by_cases h0:(i:Int)>0
     ·simp only[h0,decide_true,cond_true,Bu (show 0 < l.length by omega),F3 (show 0 < l.length by omega),bind_some];exact⟨_,rfl⟩
     ·simp only[h0,decide_false,cond_false];exact⟨_,rfl⟩
    obtain⟨b,hb⟩:=key;have hap:∀ z:Int,bO l.length l.length (sub [z] 0 1).length 1 8=true:=fun z=>(by simp[bO,sub];omega);simp only[dK,show decide ((i:Int) < (e.args.length:Int))=true from by simp;omega,cond_true,aN hlt,bind_some,hb,Bt,hx,hap,fO,aC,au (show i < 9223372036854775807 by omega)];cases b with
    |true=>exact⟨_,rfl,_,rfl,hlt,by simp[sub,hl]⟩
    |false=>exact⟨_,rfl,_,rfl,hlt,by simp[sub,hl]⟩
   ·right;refine⟨(kn,l),?_,l,rfl,by omega⟩;simp only[dK,show decide ((i:Int) < (e.args.length:Int))=false from by simp;omega,cond_false,aC,cond_true]) n 0 ((0:Int),kn,[]) ⟨[],rfl,Nat.zero_le _,rfl⟩ (by omega)
  simp only[cB,List.length_nil,aC,cond_true,h1,bind_some,Bt,Qa hn ht];cases h0:(e.op==0)with
  |true=>exact⟨_,rfl⟩
  |false=>
  cases h1:(e.op==1)with
  |true=>exact⟨_,rfl⟩
  |false=>
  cases h2:(e.op==2)with
  |true=>exact⟨_,rfl⟩
  |false=>
  cases h3:(e.op==3)with
  |true=>
   obtain⟨r,hr⟩:=Ol (n:=n) (l:=zs) (s:=e.s) hz hn;obtain⟨r2,hr2⟩:=M0 r;simp only[cond_false,cond_true,hr,hr2,bind_some];exact⟨_,rfl⟩
  |false=>
  cases h9:(e.op==9)with
  |true=>
   have e9:e.op=9:=(by simpa using h9);rw[e9]at ha;have:l.length=1:=(by have h:some ((1:Int),true)=some ((e.args.length:Int),true):=ha;simp at h;omega);simp only[cond_false,cond_true,Bu (show 0 < l.length by omega),F3 (show 0 < l.length by omega),bind_some];exact⟨_,rfl⟩
  |false=>
  cases h15:(e.op==15)with
  |true=>
   have e15:e.op=15:=(by simpa using h15);rw[e15]at ha;have:l.length=1:=(by have h:some ((1:Int),true)=some ((e.args.length:Int),true):=ha;simp at h;omega);obtain⟨r2,hr2⟩:=M0 (l[0]'(by omega)==0);simp only[cond_false,cond_true,Bu (show 0 < l.length by omega),F3 (show 0 < l.length by omega),bind_some,hr2];exact⟨_,rfl⟩
  |false=>
  cases h16:(e.op==16)with
  |true=>
   have e16:e.op=16:=(by simpa using h16);rw[e16]at ha;have:l.length=3:=(by have h:some ((3:Int),true)=some ((e.args.length:Int),true):=ha;simp at h;omega);simp only[cond_false,cond_true,Bu (show 0 < l.length by omega),F3 (show 0 < l.length by omega),Ux (show 1 < l.length by omega),X4 (show 1 < l.length by omega),aa0 (show 2 < l.length by omega),abU (show 2 < l.length by omega),bind_some];cases (l[0]'(by omega) != 0)<;>exact⟨_,rfl⟩
  |false=>
   have:l.length=2:=(by have:=Zd h0 h1 h2 h3 h9 h15 h16 ha;omega);obtain⟨r,hr⟩:=Uw e.op (l[0]'(by omega)) (l[1]'(by omega));simp only[cond_false,cond_true,Bu (show 0 < l.length by omega),F3 (show 0 < l.length by omega),Ux (show 1 < l.length by omega),X4 (show 1 < l.length by omega),bind_some,hr];exact⟨_,rfl⟩
end
theorem Wy {n:Nat} {ms:List bL} (h:ms.length<=4000000) (hn:4000002<=n):∃ o,iter (iP n ms) n ((0:Int),([]:List (ByteArray×Int)),([]:List (ByteArray×Bool)))=some o:=by
 obtain⟨o,h,_⟩:=d9 (step:=iP n ms) (fun i (v:Int×List (ByteArray×Int)×List (ByteArray×Bool))=>∃ a b,v=((i:Int),a,b)∧i<=ms.length) (fun _=>True) ms.length (fun k v ⟨_,_,_,h⟩=>h) (by
  rintro i v ⟨a,b,rfl,hi⟩;by_cases hlt:i < ms.length
  ·left;simp only[iP,show decide ((i:Int) < (ms.length:Int))=true from by simp;omega,cond_true,aN hlt,bind_some,au (show i < 9223372036854775807 by omega)];cases (!((eD sEq ms[i].name b).getD false))<;>exact⟨_,rfl,_,_,rfl,hlt⟩
  ·right;simp only[iP,show decide ((i:Int) < (ms.length:Int))=false from by simp;omega,cond_false];exact⟨_,rfl,trivial⟩) n 0 _ ⟨[],[],rfl,Nat.zero_le _⟩ (by omega)
 exact⟨o,h⟩
structure M4 (p:dn):Prop where
 defs:DefsOk p.defs
 tabs:X0 p.tables
theorem Wz {n:Nat} {p:dn} {ms:List bL} {zs:List ByteArray} (hp:M4 p) (hm:ms.length<=4000000) (hz:zs.length<=4000000) (hn:5000003<=n) (hn2:n<=9223372036854775000):∃ kn out,oK n p ms zs=some (p.defs,p.tables,p.zones,p.rules,p.caps,p.views,p.sun,p.hours,zs,kn,out)∧out.length=p.defs.length:=by
 obtain⟨⟨w1,w2⟩,hs1⟩:=Wy (n:=n) hm (by omega);obtain⟨r,hr,hrl,hrr⟩:=JA (n:=n) hp.defs hn;have hl:=hp.defs.len;have hmx:maxLen=9223372036854775807:=rfl;have hmk:ER (p.defs.length:Int) 8=true:=by simp[ER];omega
 simp only[oK,hs1,bind_some,Int.le_refl,decide_true,Bool.true_and,show decide ((0:Int)<=(p.defs.length:Int))=true from by simp,hmk,cond_true,hr];cases hb:(r.2.2 != (0:Int))with
 |true=>
  simp only[cond_true,Int.toNat_natCast,List.length_replicate,aC];exact⟨_,_,rfl,by simp⟩
 |false=>
  obtain⟨o,h1,kn,out,rfl,h2⟩:=d9 (step:=ku n p zs w2 r) (fun i (v:Int×List (ByteArray×Int)×List Int)=>∃ kn out,v=((i:Int),kn,out)∧i<=r.1.length∧out.length=p.defs.length)
   (fun o=>∃ kn out,o=(kn,out)∧out.length=p.defs.length) r.1.length (fun k v ⟨_,_,_,h,_⟩=>h) (by
   rintro i v ⟨kn,out,rfl,hi,hol⟩;by_cases hlt:i < r.1.length
   ·left;have hk:=hrr r.1[i] (getElem_mem hlt);obtain⟨k,hk2⟩:=Int.eq_ofNat_of_zero_le hk.1;have hkd:k < p.defs.length:=(by omega);have hko:k < out.length:=(by omega);have hbw:=hp.defs.body (getElem_mem hkd);obtain⟨b,hb1,hb2⟩:=Uv (n:=n) (by omega) hn2 hbw;simp only[ku,show decide ((i:Int) < (r.1.length:Int))=true from by simp;omega,cond_true,bR hlt,cK hlt,bind_some,hk2,aN hkd,hb1,Int.toNat_natCast,bR hkd,cK hko,au (show i < 9223372036854775807 by omega),show (((0:Nat):Int)+(k:Int)).toNat=k by omega];have step2:∀ (kn':List (ByteArray×Int)) (out':List Int),out'.length=p.defs.length->∃ kn'',((bif (!((eD sEq p.defs[k].name w2).getD false))then (at? out' ((0:Nat)+(k:Int):Int)).bind fun x5=>some ((jq sEq p.defs[k].name x5 kn'),out')else some (kn',out')):Option ((List (ByteArray×Int))×(List Int)))=some (kn'',out'):=by
     intro kn' out' ho;cases (!((eD sEq p.defs[k].name w2).getD false))with
     |true=>simp only[cond_true,cK (show k < out'.length by omega),bind_some];exact⟨_,rfl⟩
     |false=>exact⟨_,rfl⟩
    cases b with
    |true=>
     obtain⟨v,hv⟩:=Uy (n:=n) (a0:=p.defs) (a2:=p.zones) (a3:=p.rules) (a4:=p.caps) (a5:=p.views) (a6:=p.sun) (a7:=p.hours) (by omega) hp.tabs hz n _ kn (hb2 rfl) hbw;simp only[dL,hv,cond_true,bind_some];obtain⟨kn2,h2⟩:=step2 kn (out.set k v) (by simp[hol]);rw[h2];exact⟨_,rfl,_,_,rfl,hlt,by simp[hol]⟩
    |false=>
     simp only[cond_false,bind_some];obtain⟨kn2,h2⟩:=step2 kn out hol;rw[h2];exact⟨_,rfl,_,_,rfl,hlt,hol⟩
   ·right;simp only[ku,show decide ((i:Int) < (r.1.length:Int))=false from by simp;omega,cond_false];exact⟨_,rfl,_,_,rfl,hol⟩) n 0 ((0:Int),w1,List.replicate p.defs.length 0) ⟨_,_,rfl,Nat.zero_le _,by simp⟩ (by omega)
  simp only[cond_false,Int.toNat_natCast,h1,bind_some,h2,aC,cond_true];exact⟨_,_,rfl,h2⟩
theorem M5 {n:Nat} {p:dn} {ms:List bL} {zs:List ByteArray} {s key:ByteArray} (hp:M4 p) (hm:ms.length<=4000000) (hz:zs.length<=4000000) (hs:s.size<=3000000) (hn:5000003<=n) (hn2:n<=9223372036854775000):yT n p ms zs (aW.mk 2 0 s key [])=some (abT p.tables s key):=by
 obtain⟨kn,out,h1,_⟩:=Wz (n:=n) hp hm hz hn hn2;have hR:w9 n (aW.mk 2 0 s key [])=some true:=by
  obtain⟨k,rfl⟩:∃ k,n=k+1:=⟨n - 1,by omega⟩;rfl
 have hV:dL n p.defs p.tables p.zones p.rules p.caps p.views p.sun p.hours zs (aW.mk 2 0 s key []) kn=some (abT p.tables s key,kn):=by
  obtain⟨k,hk⟩:∃ k,n=k+1:=⟨n - 1,by omega⟩;have hi:iter (dK n (aR n k) p.defs p.tables p.zones p.rules p.caps p.views p.sun p.hours zs (aW.mk 2 0 s key [])) n ((0:Int),kn,([]:List Int))=some (kn,[]):=by rw[hk];exact aJ rfl
  have e:dL n p.defs p.tables p.zones p.rules p.caps p.views p.sun p.hours zs (aW.mk 2 0 s key []) kn=cB n (aR n k) p.defs p.tables p.zones p.rules p.caps p.views p.sun p.hours zs (aW.mk 2 0 s key []) kn:=by
   unfold dL;rw[show aR n n=aR n (k+1)by rw[<- hk]];rfl
  rw[e];simp only[cB,List.length_nil,aC,cond_true,hi,bind_some,Qa (show 4000002<=n by omega) hp.tabs];rfl
 simp only[yT,hR,bind_some,Bool.not_true,cond_false,h1,hV]
theorem WA (u:Int):FO u=some ((nameOf u).getD ⟨#[]⟩)∧(!(ByteArray.toList ((nameOf u).getD ⟨#[]⟩)==ByteArray.toList ⟨#[]⟩))=(nameOf u).isSome:=by
 by_cases h:0<=u∧u < 6
 ·obtain⟨h0,h6⟩:=h;have:u=0∨u=1∨u=2∨u=3∨u=4∨u=5:=by omega
  rcases this with rfl |rfl |rfl |rfl |rfl |rfl<;>exact⟨by kernel_rfl,by kernel_rfl⟩
 ·have g:nameOf u=none:=by
   unfold nameOf;by_cases h0:0<=u
   ·obtain⟨k,rfl⟩:∃ k:Nat,u=(k:Int):=⟨u.toNat,by omega⟩;rw[AA];exact List.getElem?_eq_none (by have:useNames.length=6:=rfl;omega)
   ·simp[at?,h0]
  have e:∀ k:Int,0<=k->k < 6->(u==k)=false:=fun k h0 h1=>by rw[beq_eq_false_iff_ne];omega
  rw[g];refine⟨?_,by kernel_rfl⟩;simp only[FO,e 0 (by omega) (by omega),e 1 (by omega) (by omega),e 2 (by omega) (by omega),e 3 (by omega) (by omega),e 4 (by omega) (by omega),e 5 (by omega) (by omega),cond_false];rfl
theorem Eb {n:Nat} {t:GTown} {d:aQ} {k:Nat} (hk:k < d.phases.length) (hp:M4 (qE t)) (hv:d.phases[k].volumes.length<=4) (hn:5000003<=n) (hn2:n<=9223372036854775000) (m:Int):iter (fJ n t d (k:Int)) n (m,(0:Int))=some (MR t.plan_tables m d.phases[k]):=by
 have:=nW (l:=d.phases[k].volumes) (step:=fJ n t d (k:Int)) (fun i (s:Int)=>(s,((i:Nat):Int))) (fun v m=>Uh t.plan_tables m v) (fun s=>s) (fun i hi s=>?_) (fun s=>by simp[fJ,hk]) n (by omega) m
 ·exact this
 ·have hi':decide (((i:Nat):Int) < (d.phases[k].volumes.length:Int))=true:=by simpa using hi
  obtain⟨n1,n2⟩:=WA d.phases[k].volumes[i].use;simp only[fJ,aN hk,bind_some,hi',cond_true,aN hi,n1,n2];unfold Uh;cases hname:nameOf d.phases[k].volumes[i].use with
  |none=>
   simp only[Option.isSome_none,cond_false,bind_some];rw[au (by omega)]
  |some nm=>
   have e:=M5 (n:=n) (p:=qE t) (ms:=[]) (zs:=[]) (s:=Cm) (key:=nm) hp (by simp) (by simp) (by decide) hn hn2;have e':yT n (dn.mk t.plan_defs t.plan_tables t.plan_zones t.plan_rules t.plan_caps t.plan_views t.plan_sun t.plan_hours) ([]) ([]) (aW.mk 2 0 (⟨#[110,111,116,105,99,101]⟩) nm ([]))=some (Oi t.plan_tables nm):=e;simp only[Option.isSome_some,cond_true,Option.getD_some,e',bind_some];rw[au (by omega)]
theorem Ec {n:Nat} {t:GTown} {d:aQ} (hp:M4 (qE t)) (hd:vE d) (hn:5000003<=n) (hn2:n<=9223372036854775000):iter (fK n t d) n ((0:Int),(0:Int))=some (xq t.plan_tables d):=by
 have hd1:=hd.1;have:=nW (l:=d.phases) (step:=fK n t d) (fun i (s:Int)=>(s,((i:Nat):Int))) (fun ph m=>MR t.plan_tables m ph) (fun s=>s) (fun i hi s=>?_) (fun s=>by simp[fK]) n (by omega) 0
 ·rw[show ((0:Nat):Int)=0 from rfl]at this;rw[this];rfl
 ·have hi':decide (((i:Nat):Int) < (d.phases.length:Int))=true:=by simpa using hi
  simp only[fK,hi',cond_true,Eb hi hp (hd.2 _ (getElem_mem hi)) hn hn2,bind_some];rw[au (by omega)]
theorem Qb (d:aQ):xq [] d=0:=by
 have h1:∀ (vs:List eY),vs.foldl (Uh []) 0=0:=by
  intro vs
  induction vs with
  |nil=>rfl
  |cons v vs ih=>
   have:Uh [] 0 v=0:=(by unfold Uh;cases nameOf v.use<;>rfl);rw[List.foldl_cons,this,ih]
 unfold xq;have h2:∀ (ps:List kM),ps.foldl (MR []) 0=0:=by
  intro ps
  induction ps with
  |nil=>rfl
  |cons p ps ih=>rw[List.foldl_cons,show MR [] 0 p=0 from h1 p.volumes,ih]
 exact h2 d.phases
theorem Ed {n:Nat} {t:GTown} {d:aQ} (ht:vF t) (hn:1000<=n):iter (jk n t (aK t.land d.lot) (kZ t.land d.lot 0)) n (0:Int)=some (.inl ()):=by
 have hlen:=y8 t.land d.lot 0;have hl:=ht.1;obtain⟨o,h1,rfl⟩:=d9 (step:=jk n t (aK t.land d.lot) (kZ t.land d.lot 0)) (fun i (v:Int)=>v=(i:Int)∧i<=(kZ t.land d.lot 0).length) (fun o=>o= .inl ()) (kZ t.land d.lot 0).length (fun k v h=>h.2) (by
  rintro i v ⟨rfl,hi⟩;simp only[jk,bS];by_cases hlt:i < (kZ t.land d.lot 0).length
  ·left;have ho:=MP ht.2.1 d.lot;have hx:=MP ht.2.1 ((kZ t.land d.lot 0)[i]);have hmem:(kZ t.land d.lot 0)[i]∈kZ t.land d.lot 0:=getElem_mem hlt;generalize hid:(kZ t.land d.lot 0)[i]=id at*;have e2:mQ n t.land id=some (aK t.land id):=sZ ht.2.1 (by omega) (by omega);simp only[show decide ((i:Int) < ((kZ t.land d.lot 0).length:Int))=true from by simp;omega,cond_true,aN hlt,hid,bind_some,e2,PY ho.1 hx.1 hn,Uq ht.1 ht.2.1 hn];have hnear:∃ u∈t.land,y5 (aK t.land d.lot).1 d.lot 0 u=true∧u.id=id:=by
    unfold kZ at hmem;cases hf:(aK t.land d.lot).2 with
    |false=>rw[hf]at hmem;simp at hmem
    |true=>
     rw[hf]at hmem;simp only[cond_true,aau,rz,List.mem_map,List.mem_filter]at hmem;obtain⟨u,⟨h1,h2⟩,h3⟩:=hmem;exact⟨u,h1,h2,h3⟩
   obtain⟨u,hu,hn2,huid⟩:=hnear;have hfound:(aK t.land id).2=true:=by
    unfold aK;cases hfi:t.land.find? fun x=>x.id==id with
    |none=>have:=List.find?_eq_none.1 hfi u hu;simp[huid]at this
    |some x=>rfl
   have hgap:Jc t.land=true->(yZ (aK t.land d.lot).1.area (aK t.land id).1.area).1=0:=by
    intro hL;rw[<- huid,Ur hL hu];show (yZ (aK t.land d.lot).1.area u.area).1=0;simp only[y5,Bool.and_eq_true,decide_eq_true_eq]at hn2;have hA:XV (aK t.land d.lot).1.area u.area (yZ (aK t.land d.lot).1.area u.area).1=true:=(by simp[XV,hn2.1]);rw[Zb]at hA;have:=hn2.2.1;rcases hA.2 with h |h<;>omega
   have hv:((bif (!(aK t.land id).2)then some true else (bif (yZ (aK t.land d.lot).1.area (aK t.land id).1.area).2 then (bif ((yZ (aK t.land d.lot).1.area (aK t.land id).1.area).1 != (0:Int))then some (Jc t.land)else some false)else some false)):Option (Bool))=some false:=by
    rw[hfound];simp only[Bool.not_true,cond_false];cases (yZ (aK t.land d.lot).1.area (aK t.land id).1.area).2 with
    |false=>rfl
    |true=>
     simp only[cond_true];cases hL:Jc t.land with
     |false=>cases ((yZ (aK t.land d.lot).1.area (aK t.land id).1.area).1 != (0:Int))<;>rfl
     |true=>rw[hgap hL];rfl
   rw[hv];exact⟨_,rfl,au (by omega),hlt⟩
  ·right;exact⟨_,by simp only[show decide ((i:Int) < ((kZ t.land d.lot 0).length:Int))=false from by simp;omega,cond_false],rfl⟩) n 0 0 ⟨rfl,Nat.zero_le _⟩ (by omega)
 exact h1
def Qc (t:GTown):GTown:=GTown.mk t.plan_defs ([]) t.plan_zones t.plan_rules t.plan_caps t.plan_views t.plan_sun t.plan_hours t.land t.easements t.windows t.built t.base
theorem H6 {n:Nat} (hn:5000003<=n) (hn2:n<=9223372036854775000) (t:GTown) (d:aQ) (hw:DefsOk t.plan_defs):lF n t d=some true:=by
 obtain⟨b,hb,hfew⟩:=Wq (n:=n) t d (by omega);unfold lF;rw[aaW (by omega),hb];simp only[bind_some];cases b with
 |false=>rfl
 |true=>
  obtain⟨ht,hp4,hd⟩:=hfew rfl;have hT:X0 t.plan_tables:=⟨by have:=ht.2.2.1;omega,fun x hx=>by have:=ht.2.2.2 x hx;omega⟩;have hp:M4 (qE t):=⟨hw,hT⟩;have hu:vF (Qc t):=⟨ht.1,ht.2.1,by simp[Qc],by simp[Qc]⟩;have e5:yT n (dn.mk t.plan_defs t.plan_tables t.plan_zones t.plan_rules t.plan_caps t.plan_views t.plan_sun t.plan_hours) ([]) ([]) (aW.mk 2 0 (⟨#[110,111,116,105,99,101]⟩) (⟨#[100,97,121,115]⟩) ([]))=some (Oi t.plan_tables ⟨#[100,97,121,115]⟩):=
   M5 (n:=n) (p:=qE t) (ms:=[]) (zs:=[]) (s:=Cm) (key:=⟨#[100,97,121,115]⟩) hp (by simp) (by simp) (by decide) hn hn2
  have e6:mQ n t.land d.lot=some (aK t.land d.lot):=sZ ht.2.1 (by have:=ht.1;omega) (by have:=ht.1;omega);have e7:uR n (GTown.mk t.plan_defs ([]) t.plan_zones t.plan_rules t.plan_caps t.plan_views t.plan_sun t.plan_hours t.land t.easements t.windows t.built t.base) d=some (kZ t.land d.lot 0):=by
   have h:=Ea (n:=n) hu hd (by omega);have e:pX (Qc t) d=kZ t.land d.lot 0:=by
    show kZ t.land d.lot (xq [] d)=_;rw[Qb]
   rw[e]at h;exact h
  have e8:dw n (dn.mk t.plan_defs t.plan_tables t.plan_zones t.plan_rules t.plan_caps t.plan_views t.plan_sun t.plan_hours) d=some (xq t.plan_tables d):=ni (p:=qE t) ht.2.2 hd (by omega);have e9:yI n (dn.mk t.plan_defs t.plan_tables t.plan_zones t.plan_rules t.plan_caps t.plan_views t.plan_sun t.plan_hours)=some (max 0 (Oi t.plan_tables ⟨#[100,97,121,115]⟩)):=MS (p:=qE t) ht.2.2 (by omega);have e10:dw n (dn.mk t.plan_defs ([]) t.plan_zones t.plan_rules t.plan_caps t.plan_views t.plan_sun t.plan_hours) d=some 0:=by
   have h:=ni (p:=qE (Qc t)) hu.2.2 hd (show 1000<=n by omega);have e:xq (qE (Qc t)).tables d=0:=Qb d;rw[e]at h;exact h
  simp only[Bool.not_true,cond_false,Ec hp hd hn hn2,bind_some,e5,e6,e7,bS,aC,cond_true,Ed ht (show 1000<=n by omega),iH,e8,e9,e10,beq_self_eq_true]
mutual
theorem abV:∀ g:aW,(toE g).wt<=jl (lC g)
 |⟨op,n,s,key,args⟩=>by
  have:=M6 args;simp only[toE,ET.wt,lC,jl,tbk];omega
theorem M6:∀ l:List aW,ET.wtL (Bb l)<=Cs (mM l)
 |[]=>by simp[Bb,ET.wtL]
 |x::xs=>by
  have h1:=abV x;have h2:=M6 xs;simp only[Bb,ET.wtL,mM,Cs];omega
end
theorem Qd:∀ l:List iM,wtD (l.map toD)<=Cs (l.map DY)
 |[]=>by simp[wtD]
 |x::xs=>by
  have h1:=Qd xs;have h2:=M6 x.body_args;simp only[wtD]at h1;simp only[List.map_cons,wtD,List.foldr_cons,toD,ET.wt,Cs,DY,jl,tbk,<- qW];omega
theorem Ze (t:GTown):wtD (t.plan_defs.map toD)<=jl (J4 t):=by
 have:=Qd t.plan_defs;simp only[J4,jl,tbk];omega
theorem Zf {cs:List (CT xx.ι)} (q:HL xx.toSE (.st SI.Town::cs)) (hb:KX (HL.tvs xx.toSE (.st SI.Town::cs) q)<=1048576):DefsOk (GTown.plan_defs q.1):=by
 have h1:=Ze q.1;have h2:jl (J4 q.1)+KX (HL.tvs xx.toSE cs q.2)<=1048576:=hb;exact Nat.le_trans h1 (by omega)
theorem JB (q:HL xx.toSE [.st SI.Town,.st SI.Drawing]) (hb:KX (HL.tvs xx.toSE [.st SI.Town,.st SI.Drawing] q)<=1048576):∃ k,lF k q.1 q.2.1=some true:=
 ⟨5000003,H6 (Nat.le_refl _) (by omega) q.1 q.2.1 (Zf q hb)⟩
end Go.Proofs
