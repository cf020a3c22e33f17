import Derived.Test.YtakagljmnddfdaaGreatS2
open Go.IntKind (i64)
open List (length_take mem_map all_eq_true getElem_mem length_map append_nil length_nil foldl_cons take_of_length_le length_singleton length_filter_le any_eq_false)
namespace Go.Proofs
open Go.Gb Go.RowKit
variable {n:Nat}
def gM(v:aH):ax:=ax.mk v.bx v.ca v.bu v.b9
def okV(v:aH):Bool:=ef (gM v)&&(decide (0<=v.eh)&&(decide (v.eh<v.d6)&&(decide (v.d6<=4096)&&((decide (v.use=0) || decide (v.units=0))&&(decide (0<=v.use)&&(decide (v.use<6)&&(decide (0<=v.units)&&decide (v.units<=1048576))))))))
theorem vJ(v:aH):gu v=some (okV v):=by
 unfold gu okV;rw[jK];have e1:decide (v.eh<0)=!decide (0<=v.eh):=by rw[<- decide_not,decide_eq_decide];omega
 have e2:decide (v.eh>=v.d6)=!decide (v.eh<v.d6):=by rw[<- decide_not,decide_eq_decide];omega
 have e3:decide (v.d6>4096)=!decide (v.d6<=4096):=by rw[<- decide_not,decide_eq_decide];omega
 have e4:(v.use !=0)=!decide (v.use=0):=by by_cases h:v.use=0<;>simp[h]
 have e5:(v.units !=0)=!decide (v.units=0):=by by_cases h:v.units=0<;>simp[h]
 rw[e1,e2,e3,e4,e5,show ax.mk v.bx v.ca v.bu v.b9=gM v from rfl];simp only[ge_iff_le];generalize ef (gM v)=a1;generalize decide (0<=v.eh)=a2;generalize decide (v.eh<v.d6)=a3;generalize decide (v.d6<=4096)=a4;generalize decide (v.use=0)=a5;generalize decide (v.units=0)=a6;generalize decide (0<=v.use)=a7;generalize decide (v.use<6)=a8;generalize decide (0<=v.units)=a9;generalize decide (v.units<=1048576)=i8;cases a1<;>cases a2<;>cases a3<;>cases a4<;>cases a5<;>cases a6<;>cases a7<;>cases a8<;>cases a9<;>rfl
theorem Zl{v:aH}(h:okV v=true):ef (gM v)=true:=by rw[okV,aG]at h;exact h.1
def lg(d:aQ):U aH:=d.phases.flatMap (·.cj)
theorem ee{l:U qj}(h:∀p∈l,p.cj.length<=1000):(l.flatMap (·.cj)).length<=l.length*1000:=by
 induction l with
 |nil=>simp
 |cons p l ih=>
  have h1:=h p (by simp);have h2:=ih λq hq=>h q (by simp[hq]);simp only[List.flatMap_cons,dM,bn];omega
def Sc(d:aQ):Prop:=d.phases.length<=1000/\∀p∈d.phases,p.cj.length<=1000
theorem Zm{d:aQ}(h:Sc d)(hn:1001<=n):oU n d 0 (d.phases.length:Int)=some (lg d):=by
 obtain⟨h1,h2⟩:=h;unfold oU;have key:=gY (step:=og d 0 (d.phases.length:Int)) (λ i=>((i:Int),(d.phases.take i).flatMap (·.cj))) (s:=((0:Int),([]:U aH))) d.phases.length (lg d) rfl (λ i hi=>by
  have e2:decide ((i:Int)>=0)=true:=by simp
  have hl:=ee (l:=d.phases.take i) λp hp=>h2 p (List.mem_of_mem_take hp);rw[length_take]at hl;have hv:=h2 _ (getElem_mem hi);generalize hL:(d.phases.take i).flatMap (·.cj)=L at hl;have hap:bP L.length L.length d.phases[i].cj.length d.phases[i].cj.length 72=true:=cu (by omega) (by simp only[maxLen];omega);simp only[og,bZ hi,aj,bf hi,af,e2,hap,dY,aD,aP i];rw[fD hi,List.flatMap_append,hL];simp only[List.flatMap_cons,List.flatMap_nil,append_nil]) (by simp only[og,dX,ak,aD,aj,List.take_length,lg]) n (by omega)
 have hz:be 0 ([]:U aH).length=true:=rfl;simp only[hz,aj,key,af,bK,aD]
def X2(v:aH):Int:=(lD v).getD 0
theorem Zn(v:aH):lD v=some (X2 v):=by
 unfold X2 lD;rw[vJ];cases v.extra<;>cases okV v<;>rfl
def PJ(v:aH):Int:=(pJ v).getD 0
theorem agK(v:aH):pJ v=some (PJ v):=by
 unfold PJ pJ;rw[vJ,Zn];cases h:okV v with
 |false=>rfl
 |true=>
  have e:=Em (Zl h);unfold gM at e;simp only[af,Bool.not_true,ak,e,Option.getD_some]
theorem aqC(a1:U bT)(a8:U ax){a9:U aH}(hl:a9.length<=1000)(hn:1001<=n):∃r,∀(a0:U fG)(a2:U dV)(a3:U bC)(a4:U gJ)(a5:U fA)(a6:U bS)(a7:Int),kU n a0 a1 a2 a3 a4 a5 a6 a7 a8 a9=some (r,a0,a1,a2,a3,a4,a5,a6,a7,a8,a9):=by
 have key:=lC (l:=a9) (step:=jS a9) (λ i (s:Int)=>(s,(i:Int))) (λ v s=>i64.wrap (s+PJ v)) (λ s=>s) (λ i hi s=>by simp only[jS,bZ hi,aj,bE hi,bJ hi,af,agK,aP i]) (λ s=>by simp only[jS,dX,ak]) n (by omega) 0;rw[show ((0:Nat):Int)=0 from rfl]at key;unfold kU rE;simp only[key,af,aD,aj];exact⟨_,λ_ _ _ _ _ _ _=>rfl⟩
theorem aqD(a1:U bT)(a8:U ax){a9:U aH}(hl:a9.length<=1000)(hn:1001<=n):∃r,∀(a0:U fG)(a2:U dV)(a3:U bC)(a4:U gJ)(a5:U fA)(a6:U bS)(a7:Int),kV n a0 a1 a2 a3 a4 a5 a6 a7 a8 a9=some (r,a0,a1,a2,a3,a4,a5,a6,a7,a8,a9):=by
 have key:=lC (l:=a9) (step:=jV a9) (λ i (s:Int)=>(s,(i:Int))) (λ v s=>i64.wrap (s+v.units)) (λ s=>s) (λ i hi s=>by simp only[jV,bZ hi,aj,bE hi,bJ hi,af,pR,aP i]) (λ s=>by simp only[jV,dX,ak]) n (by omega) 0;rw[show ((0:Nat):Int)=0 from rfl]at key;unfold kV rF;simp only[key,af,aD,aj];exact⟨_,λ_ _ _ _ _ _ _=>rfl⟩
theorem anR(a1:U bT)(a8:U ax){a9:U aH}(hl:a9.length<=1000)(hn:1001<=n):∃r,∀(a0:U fG)(a2:U dV)(a3:U bC)(a4:U gJ)(a5:U fA)(a6:U bS)(a7:Int),jT n a0 a1 a2 a3 a4 a5 a6 a7 a8 a9=some (r,a0,a1,a2,a3,a4,a5,a6,a7,a8,a9):=by
 have key:=lC (l:=a9) (step:=ig a9) (λ i (s:Int)=>(s,(i:Int))) (λ v s=>max s (X2 v)) (λ s=>s) (λ i hi s=>by simp only[ig,bZ hi,aj,bE hi,bJ hi,af,Zn,aP i]) (λ s=>by simp only[ig,dX,ak]) n (by omega) 0;rw[show ((0:Nat):Int)=0 from rfl]at key;unfold jT mV;simp only[key,af,aD,aj];exact⟨_,λ_ _ _ _ _ _ _=>rfl⟩
theorem anS(a1:U bT)(a8:U ax){a9:U aH}(hl:a9.length<=1000)(hn:1001<=n):∃r,∀(a0:U fG)(a2:U dV)(a3:U bC)(a4:U gJ)(a5:U fA)(a6:U bS)(a7:Int),jU n a0 a1 a2 a3 a4 a5 a6 a7 a8 a9=some (r,a0,a1,a2,a3,a4,a5,a6,a7,a8,a9):=by
 have key:=lC (l:=a9) (step:=iq a9) (λ i (s:Int)=>(s,(i:Int))) (λ v s=>max s v.d6) (λ s=>s) (λ i hi s=>by simp only[iq,bZ hi,aj,bE hi,bJ hi,af,oh,aP i]) (λ s=>by simp only[iq,dX,ak]) n (by omega) 0;rw[show ((0:Nat):Int)=0 from rfl]at key;unfold jU mW;simp only[key,af,aD,aj];exact⟨_,λ_ _ _ _ _ _ _=>rfl⟩
theorem alF(e:bQ)(a:KR){u:Int}(h0:0<=u)(h6:u<6):∃b,kN e a u=some b:=by
 obtain⟨k,rfl⟩:∃k:Nat,u=(k:Int):=⟨u.toNat,by omega⟩;have hk:k<6:=by omega
 unfold kN;rw[bE hk,bf (l:=[a.a0,a.a1,a.a2,a.a3,a.a4,a.a5]) hk];exact⟨_,rfl⟩
theorem FX{l:U bQ}{φ:(bQ×Unit)->J Bool}(p:bQ->Bool)(h:∀x∈l,φ (x,())=some (p x))(hl:l.length<=9223372036854775807)(hn:l.length<n):kP n l φ=some (zI p l):=Gv p h hl hn
theorem aqE(p:cK){u:Int}(h0:0<=u)(h6:u<6)(ht:p.tables.length<n)(ht2:p.tables.length<=9223372036854775807)(hr:∀t∈p.tables,t.rows.length<n/\t.rows.length<=9223372036854775807):∃r,Bz n p u=some r:=by
 have key:∃o,iter (kQ n p u) n (0:Int)=some o/\True:=by
  have step:∀i (hi:i<p.tables.length),kQ n p u (i:Int)=some (.inl ((i+1:Nat):Int))\/∃z,kQ n p u (i:Int)=some (.inr (.inr z)):=by
   intro i hi;obtain⟨r1,r2⟩:=hr _ (getElem_mem hi);simp only[kQ,bZ hi,aj,bf hi,af,aP i];cases ByteArray.toList p.tables[i].name==ByteArray.toList ⟨#[116,114,97,102,102,105,99]⟩with
   |false=>exact Or.inl rfl
   |true=>
    right;simp only[Bool.not_true,ak];generalize KR.mk _ _ _ _ _ _=A;have hx:=FX (n:=n) (l:=p.tables[i].rows) (φ:=λy1=>kN y1.1 A u) (λ e=>(kN e A u).getD false) (λ e _=>by have⟨b,hb⟩:=alF e A h0 h6;simp[hb]) r2 r1;rw[hx];simp only[af,uL];cases hany:p.tables[i].rows.any λe=>(kN e A u).getD false with
    |false=>exact⟨_,rfl⟩
    |true=>
     have⟨j,hj,h1,_⟩:=am3 hany;rw[h1];simp only[aj,bf hj,af];exact⟨_,rfl⟩
  have main:∀k i m,i+k=p.tables.length->k<m->∃o,iter (kQ n p u) m (i:Int)=some o/\True:=by
   intro k
   induction k with
   |zero=>
    intro i m hi hm;obtain⟨q,rfl⟩:∃q,m=q+1:=⟨m -1,by omega⟩;have:i=p.tables.length:=(by omega);subst this;exact⟨.inl (),fJ (by simp only[kQ,dX,ak]),trivial⟩
   |succ k ih=>
    intro i m hi hm;obtain⟨q,rfl⟩:∃q,m=q+1:=⟨m -1,by omega⟩;rcases step i (by omega)with h |⟨z,h⟩
    .rw[kM h];exact ih (i+1) q (by omega) (by omega)
    .exact⟨_,fJ h,trivial⟩
  exact main p.tables.length 0 n (by omega) ht
 obtain⟨o,h1,_⟩:=key;unfold Bz;rw[h1];cases o with
 |inl w=>exact⟨_,rfl⟩
 |inr r=>exact⟨_,rfl⟩
theorem aiT(p:cK){v:aH}(hv:okV v=true)(ht:p.tables.length<n)(ht2:p.tables.length<=9223372036854775807)(hr:∀t∈p.tables,t.rows.length<n/\t.rows.length<=9223372036854775807):∃r,lF n p v=some r:=by
 simp only[okV,aG,aJ]at hv;have⟨r,h1⟩:=aqE (n:=n) p (u:=v.use) hv.2.2.2.2.2.1 hv.2.2.2.2.2.2.1 ht ht2 hr;unfold lF;rw[h1,agK];simp only[af];have e100:((100:Int) !=0)=true:=rfl;by_cases h:r>0
 .have e:(r !=0)=true:=by simp only[bne_iff_ne,ne_eq];omega
  have e2:decide (r>0)=true:=by simpa using h
  rw[e,e2];simp only[aj,af,e100];cases decide (PJ v>i64.wrap (Int.tdiv 109951162777600 r))<;>exact⟨_,rfl⟩
 .have e2:decide (r>0)=false:=by simpa using h
  rw[e2];exact⟨_,rfl⟩
theorem aqF(a1:U bT)(a8:U ax){a9:U aH}(hl:a9.length<=1000)(hn:1001<=n)(hv:∀v∈a9,okV v=true)(ht:a1.length<n)(ht2:a1.length<=9223372036854775807)(hr:∀t∈a1,t.rows.length<n/\t.rows.length<=9223372036854775807):∃r,∀(a0:U fG)(a2:U dV)(a3:U bC)(a4:U gJ)(a5:U fA)(a6:U bS)(a7:Int),jD n a0 a1 a2 a3 a4 a5 a6 a7 a8 a9=some (r,a0,a1,a2,a3,a4,a5,a6,a7,a8,a9):=by
 have key:=λ(a0:List fG)(a2:List dV)(a3:List bC)(a4:List gJ)(a5:List fA)(a6:List bS)(a7:Int)=>fO (l:=a9) (step:=jX n a9) (λ i (s:Int)=>(s,(i:Int),a0,a1,a2,a3,a4,a5,a6,a7,a8,a9)) (λ v s=>i64.wrap (s+(lF n (cK.mk [] a1 [] [] [] [] [] 0) v).getD 0)) (λ s=>(s,a0,a1,a2,a3,a4,a5,a6,a7,a8,a9)) (λ _ _=>True) (λ i hi s _=>⟨by
  obtain⟨r,h1⟩:=aiT (n:=n) (cK.mk [] a1 [] [] [] [] [] 0) (hv _ (getElem_mem hi)) ht ht2 hr;have h2:lF n (cK.mk a0 a1 a2 a3 a4 a5 a6 a7) a9[i]=some r:=h1;simp only[jX,bZ hi,aj,bE hi,bJ hi,af,kR,h1,h2,aD,aP i,Option.getD_some],trivial⟩) (λ s _=>by simp only[jX,dX,ak,aD,aj]) n (by omega) 0 trivial
 have key:=λa0 a2 a3 a4 a5 a6 a7=>(show ((0:Nat):Int)=0 from rfl) ▸ key a0 a2 a3 a4 a5 a6 a7;unfold jD rG;simp only[key,af,aD,aj];exact⟨_,λ_ _ _ _ _ _ _=>rfl⟩
theorem anT{α β:Type}(l:U α)(f:α->β)(z:β){i:Nat}(hi:i<l.length):((l.take i).map f++List.replicate (l.length -i) z).set i (f l[i])=(l.take (i+1)).map f++List.replicate (l.length -(i+1)) z:=by
 have h1:((l.take i).map f).length=i:=by simp;omega
 rw[List.set_append_right _ _ (by omega),h1,Nat.sub_self,show l.length -i=(l.length -(i+1))+1 by omega,List.replicate_succ,List.set_cons_zero,fD hi,List.map_append,aM];rfl
theorem anU{α β:Type}(l:U α)(f:α->β)(z:β){i:Nat}(hi:i<=l.length):((l.take i).map f++List.replicate (l.length -i) z).length=l.length:=by simp;omega
theorem anV{α β:Type}(l:U α)(f:α->β)(z:β){i:Nat}(hi:i<l.length):((l.take (i+1)).map f++List.replicate (l.length -(i+1)) z)[i]? =some (f l[i]):=by rw[List.getElem?_append_left (by simp;omega)];simp[hi]
theorem anW{l:U aH}(hl:l.length<=1000)(hn:1001<=n):iter (gH l) n ((0:Int),List.replicate l.length (ax.mk 0 0 0 0),([]:U Int))=some (l.map gM,l.flatMap λv=>[v.bx,v.bu]):=by
 refine gY (step:=gH l) (λ i=>((i:Int),(l.take i).map gM++List.replicate (l.length -i) (ax.mk 0 0 0 0),(l.take i).flatMap λv=>[v.bx,v.bu])) l.length _ ?_ (λ i hi=>?_) ?_ n (by omega)
 .simp
 .have h1:=anU l gM (ax.mk 0 0 0 0) (Nat.le_of_lt hi);have h2:=anT l gM (ax.mk 0 0 0 0) hi;have h3:=anV l gM (ax.mk 0 0 0 0) hi;have h4:((l.take i).flatMap λv=>[v.bx,v.bu]).length=2*i:=by
   have:∀m:U aH,(m.flatMap λv=>[v.bx,v.bu]).length=2*m.length:=by
    intro m;induction m with
    |nil=>rfl
    |cons a m ih=>simp only[List.flatMap_cons,dM,ih,bn,length_nil];omega
   rw[this,length_take];omega
  generalize (l.take i).map gM++List.replicate (l.length -i) (ax.mk 0 0 0 0)=B at h1 h2;have e0:(((0:Nat):Int)+(i:Int)).toNat=i:=by omega
  have et:((l.length:Int):Int).toNat=l.length:=by omega
  have hb:ax.mk l[i].bx l[i].ca l[i].bu l[i].b9=gM l[i]:=rfl;have hiB:i<B.length:=by omega
  rw[<- h2]at h3;have g3:br (B.set i (gM l[i])) (((0:Nat):Int)+(i:Int))=some (gM l[i]):=by rw[Bu];exact h3
  have hs:sub ([(gM l[i]).x0,(gM l[i]).x1]:U Int) 0 2=[(gM l[i]).x0,(gM l[i]).x1]:=rfl;have hap:bP (2*i) (2*i) 2 2 8=true:=cu (by omega) (by simp only[maxLen];omega);have hl2:([(gM l[i]).x0,(gM l[i]).x1]:U Int).length=2:=rfl;simp only[gH,bZ hi,aj,bE hi,bJ hi,af,et,bJ hiB,e0,hb,g3,hs,hl2,h4,hap,dY,aD,aP i];rw[<- h2,fD hi,List.flatMap_append];rfl
 .simp only[gH,dX,ak,aD,aj,List.take_length];simp
theorem anX{l:U aH}{R:U ax}{X:U Int}(w2:U Int)(hR:R.length=l.length)(hX:X.length=w2.length)(hl:l.length<=1000)(hn:1001<=n){k:Nat}(hk:k+1<w2.length)(hw:w2.length<=10000)(s:Int):∃o,iter (jg l w2 R X (k:Int)) n (s,(0:Int),(0:Int))=some o/\True:=by
 refine PK (λ i (v:Int×Int×Int)=>v.2.2=(i:Int)) l.length (λ _=>True) (λ i v hi hv=>?_) (λ v hv=>?_) n (by omega) _ rfl
 .obtain⟨a,b,c⟩:=v;simp only at hv;subst hv;have et:(((l.length:Int):Int).toNat)=l.length:=by omega
  have ew:i64.wrap ((k:Int)+1)=((k+1:Nat):Int):=bA (by omega);simp only[jg,et,bZ hi,aj,bE hi,bJ (show i<R.length by omega),af,bE (show k<w2.length by omega),bJ (show k<X.length by omega),ew,bE hk,bJ (show k+1<X.length by omega),aP i];cases decide ((R[i]'(by omega)).x0<=X[k]'(by omega))with
  |false=>exact⟨_,rfl,rfl⟩
  |true=>
   simp only[aj,af];cases decide (X[k]'(by omega)<(R[i]'(by omega)).x1)with
   |false=>exact⟨_,rfl,rfl⟩
   |true=>
    simp only[aj,af];cases decide ((R[i]'(by omega)).y1>b)<;>exact⟨_,rfl,rfl⟩
 .obtain⟨a,b,c⟩:=v;simp only at hv;subst hv;have et:(((l.length:Int):Int).toNat)=l.length:=by omega
  simp only[jg,et,dX,ak];exact⟨_,rfl,trivial⟩
theorem anY(a1:U bT)(a8:U ax){a9:U aH}(hl:a9.length<=1000)(hn:10000<=n):∃r,∀(a0:U fG)(a2:U dV)(a3:U bC)(a4:U gJ)(a5:U fA)(a6:U bS)(a7:Int),iW n a0 a1 a2 a3 a4 a5 a6 a7 a8 a9=some (r,a0,a1,a2,a3,a4,a5,a6,a7,a8,a9):=by
 have et:(((a9.length:Int):Int).toNat)=a9.length:=by omega
 have mk:xw (a9.length:Int) 32=true:=aec (by omega) (by simp only[maxLen];omega);have d1:decide ((a9.length:Int)<=(a9.length:Int))=true:=by simp
 have d2:decide (0<=(a9.length:Int))=true:=by simp
 have hz:be 0 ([]:U Int).length=true:=rfl;have hx:(a9.flatMap λv=>[v.bx,v.bu]).length<=2000:=by
  have:∀m:U aH,(m.flatMap λv=>[v.bx,v.bu]).length=2*m.length:=by
   intro m;induction m with
   |nil=>rfl
   |cons a m ih=>simp only[List.flatMap_cons,dM,ih,bn,length_nil];omega
  rw[this];omega
 unfold iW;rw[et,anW hl (by omega)];generalize (a9.flatMap λv=>[v.bx,v.bu])=W at hx;have srt:=Lh (n:=n) (l:=a9.map gM) (φ:=λy1=>iV y1.1 y1.2.1) (λ x y=>if x.y0<y.y0 then -1 else if y.y0<x.y0 then 1 else 0) (λ x y=>by
  show iV x y=_;unfold iV;rw[kT];rfl) (λ x y=>by
  unfold xm;rw[decide_eq_decide];constructor
  .intro h;split at h
   .assumption
   .split at h<;>omega
  .intro h;rw[aT h];decide) (by simp;omega) (by simp;omega)
 have hm:be a9.length (a9.map gM).length=true:=by simp
 have hR:(oQ xm (a9.map gM)).length=a9.length:=by rw[uM akg];simp
 have hX:(kD m9 W).length=W.length:=(Fx m9 W).length_eq;simp only[d1,d2,mk,Bool.and_self,aj,hz,af,hm,srt,aD,nP (show W.length<1099511627776 by omega) (show W.length<n by omega)];generalize oQ xm (a9.map gM)=R at hR;generalize kD m9 W=X at hX;have key:∃o,iter (jh n a9 W R X) n ((0:Int),(0:Int))=some o/\True:=by
  have eN:max (0:Int) (i64.wrap ((W.length:Int) -1))=((W.length -1:Nat):Int):=by
   cases h:W.length with
   |zero=>rfl
   |succ k=>rw[pF (by omega) (by omega)];omega
  refine PK (λ i (v:Int×Int)=>v.2=(i:Int)) (W.length -1) (λ _=>True) (λ i v hi hv=>?_) (λ v hv=>?_) n (by omega) _ rfl
  .obtain⟨a,b⟩:=v;simp only at hv;subst hv;obtain⟨o,ho,_⟩:=anX (n:=n) (l:=a9) (R:=R) (X:=X) W hR hX hl (by omega) (k:=i) (by omega) (by omega) a;simp only[jh,eN,bZ hi,aj,ho,af,aP i];exact⟨_,rfl,rfl⟩
  .obtain⟨a,b⟩:=v;simp only at hv;subst hv;simp only[jh,eN,dX,ak];exact⟨_,rfl,trivial⟩
 obtain⟨o,ho,_⟩:=key;rw[ho];exact⟨o,λ_ _ _ _ _ _ _=>rfl⟩
def LL(b:ax)(k:Int):ax:=⟨b.x0 -k,b.y0 -k,b.x1+k,b.y1+k⟩
def wX(area:U ax)(b:ax)(k:Int):Bool:=ef (LL b k)&&decide (area.foldl (λ s y=>Y9 (LL b k) s y) 0=Lz (LL b k))
theorem alG(b:ax)(k:Int)(a2:U fG)(a3:U bT)(a4:U dV)(a5:U bC)(a6:U gJ)(a7:U fA)(a8:U bS)(a9:Int){i8:U ax}(tc:U aH)(hb:ef b=true)(h0:0<=k)(h1:k<=1048576)(hl:i8.length<=1000)(hn:1001<=n):
 jW n b k a2 a3 a4 a5 a6 a7 a8 a9 i8 tc=some (wX i8 b k,a2,a3,a4,a5,a6,a7,a8,a9,i8,tc):=by
 rw[apk]at hb;unfold jW Co wX;rw[dI (x:=b.x0 -k),dI (x:=b.y0 -k),dI (x:=b.x1+k),dI (x:=b.y1+k),show ax.mk (b.x0 -k) (b.y0 -k) (b.x1+k) (b.y1+k)=LL b k from rfl,jK];generalize LL b k=g;simp only[af];cases hg:ef g with
 |false=>simp only[Bool.not_false,aj,aD,Bool.false_and]
 |true=>
  have key:=lC (l:=i8) (step:=iT i8 (g,true)) (λ i (s:Int)=>(s,(i:Int))) (λ y s=>Y9 g s y) (λ s=>s) (λ i hi s=>by
   simp only[iT,bZ hi,aj,bf hi,af,zY,aP i,Y9];cases h1:ef g with
   |false=>rfl
   |true=>
    cases h2:ef i8[i]with
    |false=>rfl
    |true=>
     cases h3:ef (Gx g i8[i])with
     |false=>rfl
     |true=>simp only[Bool.and_self,aj,Em h3,af]) (λ s=>by simp only[iT,dX,ak]) n (by omega) 0
  rw[show ((0:Nat):Int)=0 from rfl]at key;simp only[Bool.not_true,ak,key,af,Em hg,aD,aj,Bool.true_and];congr 2
def Ng(p:Int->Bool):Nat->Int->Int->Int
 | 0,lo,_=>lo
 |k+1,lo,hi=>bif decide (lo<hi)then(bif p ((lo+hi+1)/2)then Ng p k ((lo+hi+1)/2) hi else Ng p k lo ((lo+hi+1)/2 -1))else lo
theorem WK(p:Int->Bool):∀k lo hi,lo<=hi->lo<=Ng p k lo hi/\Ng p k lo hi<=hi
 | 0,lo,hi,h=>by simp only[Ng];omega
 |k+1,lo,hi,h=>by
  simp only[Ng];by_cases h1:lo<hi
  .have e:decide (lo<hi)=true:=(by simpa using h1);rw[e,aj];cases p ((lo+hi+1)/2)with
   |true=>have:=WK p k ((lo+hi+1)/2) hi (by omega);simp only[aj];omega
   |false=>have:=WK p k lo ((lo+hi+1)/2 -1) (by omega);simp only[ak];omega
  .have e:decide (lo<hi)=false:=(by simpa using h1);rw[e,ak];omega
theorem aiU{v:aH}(hv:ef (gM v)=true)(a2:U fG)(a3:U bT)(a4:U dV)(a5:U bC)(a6:U gJ)(a7:U fA)(a8:U bS)(a9:Int){i8:U ax}(tc:U aH)(hl:i8.length<=1000)(hn:1001<=n):
 ∀(k:Nat) lo hi m,0<=lo->lo<=hi->hi<=1048576->hi -lo<2 ^ k->k<m->iter (eY n v) m (lo,hi,a2,a3,a4,a5,a6,a7,a8,a9,i8,tc)=some (Ng (wX i8 (gM v)) k lo hi,a2,a3,a4,a5,a6,a7,a8,a9,i8,tc):=by
 intro k
 induction k with
 |zero=>
  intro lo hi m h0 h1 h2 h3 hm;obtain⟨q,rfl⟩:∃q,m=q+1:=⟨m -1,by omega⟩;have:lo=hi:=by simp at h3;omega
  subst this;refine fJ ?_;have e:decide (lo<lo)=false:=by simp
  simp only[eY,e,ak,aD,aj,Ng]
 |succ k ih=>
  intro lo hi m h0 h1 h2 h3 hm;obtain⟨q,rfl⟩:∃q,m=q+1:=⟨m -1,by omega⟩;have hp:(2:Int) ^ (k+1)=2*2 ^ k:=by rw[Int.pow_succ];omega
  rw[hp]at h3;by_cases hlt:lo<hi
  .have e:decide (lo<hi)=true:=(by simpa using hlt);have e2:((2:Nat) !=0)=true:=rfl;have em:i64.wrap (Int.tdiv (i64.wrap (i64.wrap (lo+hi)+1)) 2)=(lo+hi+1)/2:=(by rw[dI (x:=lo+hi),dI (x:=lo+hi+1),Int.tdiv_eq_ediv_of_nonneg (by omega),dI (by omega) (by omega)]);have hi2:=alG (n:=n) (gM v) ((lo+hi+1)/2) a2 a3 a4 a5 a6 a7 a8 a9 (i8:=i8) tc hv (by omega) (by omega) hl hn;unfold gM at hi2;cases hc:wX i8 (gM v) ((lo+hi+1)/2)with
   |true=>
    rw[kM (v':=((lo+hi+1)/2,hi,a2,a3,a4,a5,a6,a7,a8,a9,i8,tc)) (by
     unfold gM at hc;simp only[eY,e,aj,e2,aD,em,hi2,af,hc]),ih _ _ _ (by omega) (by omega) (by omega) (by omega) (by omega)]
    simp only[Ng,e,aj,hc]
   |false=>
    rw[kM (v':=(lo,(lo+hi+1)/2 -1,a2,a3,a4,a5,a6,a7,a8,a9,i8,tc)) (by
     unfold gM at hc;simp only[eY,e,aj,e2,aD,em,hi2,af,hc,ak,dI (x:=(lo+hi+1)/2 -1)]),ih _ _ _ (by omega) (by omega) (by omega) (by omega) (by omega)]
    simp only[Ng,e,aj,hc,ak]
  .have e:decide (lo<hi)=false:=(by simpa using hlt);refine fJ ?_;simp only[eY,e,ak,aD,aj,Ng]
def pE(area:U ax)(l:U aH):Int:=l.foldl (λ b v=>Ng (wX area (gM v)) 21 0 b) 1048576
theorem agM(area:U ax)(l:U aH):0<=pE area l/\pE area l<=1048576:=by
 have:∀(l:U aH)(b:Int),0<=b->b<=1048576->0<=l.foldl (λ b v=>Ng (wX area (gM v)) 21 0 b) b/\l.foldl (λ b v=>Ng (wX area (gM v)) 21 0 b) b<=1048576:=by
  intro l
  induction l with
  |nil=>intro b h1 h2;exact⟨h1,h2⟩
  |cons v l ih=>intro b h1 h2;have:=WK (wX area (gM v)) 21 0 b h1;exact ih _ this.1 (Int.le_trans this.2 h2)
 exact this l _ (by omega) (by omega)
theorem aiV(a0:U fG)(a1:U bT)(a2:U dV)(a3:U bC)(a4:U gJ)(a5:U fA)(a6:U bS)(a7:Int){a8:U ax}{a9:U aH}(hv:∀v∈a9,okV v=true)(hl:a9.length<=1000)(h8:a8.length<=1000)(hn:1001<=n):jC n a0 a1 a2 a3 a4 a5 a6 a7 a8 a9=some (pE a8 a9,a0,a1,a2,a3,a4,a5,a6,a7,a8,a9):=by
 have key:=fO (l:=a9) (step:=iF n a9) (λ i (s:Int)=>(s,(i:Int),a0,a1,a2,a3,a4,a5,a6,a7,a8,a9)) (λ v s=>Ng (wX a8 (gM v)) 21 0 s) (λ s=>(s,a0,a1,a2,a3,a4,a5,a6,a7,a8,a9)) (λ _ s=>0<=s/\s<=1048576) (λ i hi s hs=>by
  have h1:=aiU (n:=n) (Zl (hv _ (getElem_mem hi))) a0 a1 a2 a3 a4 a5 a6 a7 (i8:=a8) a9 h8 hn 21 0 s n (by omega) hs.1 hs.2 (by have:(2:Int) ^ 21=2097152:=rfl;omega) (by omega);have h2:=WK (wX a8 (gM a9[i])) 21 0 s hs.1;refine⟨?_,by omega,by omega⟩;simp only[iF,bZ hi,aj,bE hi,bJ hi,af,aD,h1,aP i]) (λ s _=>by simp only[iF,dX,ak,aD,aj]) n (by omega) 1048576 (by omega)
 rw[show ((0:Nat):Int)=0 from rfl]at key;unfold jC;simp only[aD,aj,key,af];rfl
def fu(d:aQ):U aH:=((lg d).take 40).filter okV
theorem aep(d:aQ):∀v∈fu d,okV v=true:=λv hv=>(List.mem_filter.1 hv).2
theorem abm(d:aQ):(fu d).length<=40:=Nat.le_trans (length_filter_le _ _) (by rw[length_take];omega)
def ni(lot:gI):U ax:=bif cz lot.area then lot.area else []
theorem arp{l:U aH}(a0:U fG)(a1:U bT)(a2:U dV)(a3:U bC)(a4:U gJ)(a5:U fA)(a6:U bS)(a7:Int)(a8:U ax)(hl:l.length<=9223372036854775807)(hn:l.length<n):
 iter (rX l) n ((0:Int),a0,a1,a2,a3,a4,a5,a6,a7,a8,([]:U aH))=some (a0,a1,a2,a3,a4,a5,a6,a7,a8,(l.take 40).filter okV):=by
 refine gY (step:=rX l) (λ i=>((i:Int),a0,a1,a2,a3,a4,a5,a6,a7,a8,((l.take i).take 40).filter okV)) l.length _ (by simp) (λ i hi=>?_) ?_ n hn
 .have hlen:(((l.take i).take 40).filter okV).length<=40:=Nat.le_trans (length_filter_le _ _) (by rw[length_take];omega);have e40:decide ((i:Int)<40)=decide (i<40):=by rw[decide_eq_decide];omega
  have hs:sub ([l[i]]:U aH) 0 1=[l[i]]:=rfl;have hN:((l.take (i+1)).take 40).filter okV=((l.take i).take 40).filter okV++(bif decide (i<40)&&okV l[i]then [l[i]]else []):=by
   by_cases h:i<40
   .have h1:(l.take i).take 40=l.take i:=take_of_length_le (by rw[length_take];omega);have h2:(l.take (i+1)).take 40=l.take (i+1):=take_of_length_le (by rw[length_take];omega);have h3:decide (i<40)=true:=(by simpa using h);rw[h1,h2,fD hi,List.filter_append,h3];cases h4:okV l[i]<;>simp[h4]
   .have h3:decide (i<40)=false:=(by simpa using h);rw[List.take_take,List.take_take,h3,show min 40 (i+1)=40 by omega,show min 40 i=40 by omega];simp
  rw[hN];generalize ((l.take i).take 40).filter okV=L at hlen;have hap:bP L.length L.length 1 1 72=true:=cu (by omega) (by simp only[maxLen];omega);simp only[rX,bZ hi,aj,bE hi,bJ hi,af,e40,vJ,aP i];cases decide (i<40)with
  |false=>simp only[ak,af,aD,aj,Bool.false_and,append_nil]
  |true=>
   simp only[aj,af,Bool.true_and];cases okV l[i]with
   |false=>simp only[ak,aD,aj,af,append_nil]
   |true=>simp only[aj,hs,length_singleton,hap,dY,aD,af]
 .simp only[rX,dX,ak,aD,aj,List.take_length]
def aiW(n:Nat)(p:cK):Prop:=p.tables.length<n/\p.tables.length<=9223372036854775807/\∀t∈p.tables,t.rows.length<n/\t.rows.length<=9223372036854775807
def K5:ByteArray:=⟨#[115,101,116,98,97,99,107]⟩
theorem aqG{p:cK}{lot:gI}{d:aQ}(hp:aiW n p)(hl:lot.area.length<=900)(hd:Sc d)(hn:2000000<=n):∃e1 e2 e3 e4 e5 e6 e7 e8:Int,∀(D:U fG)(Z:U dV)(R:U bC)(C:U gJ)(V:U fA)(S:U bS)(H:Int),om n (cK.mk D p.tables Z R C V S H) lot d=some [⟨⟨#[97,114,101,97]⟩,e1⟩,⟨⟨#[99,111,118,101,114]⟩,e2⟩,⟨⟨#[102,108,111,111,114]⟩,e3⟩,⟨⟨#[102,108,111,111,114,115]⟩,e4⟩,⟨⟨#[104,101,105,103,104,116]⟩,e5⟩,⟨⟨#[104,111,109,101,115]⟩,e6⟩,⟨⟨#[114,117,110,111,102,102]⟩,e7⟩,⟨K5,pE (ni lot) (fu d)⟩,⟨⟨#[116,114,97,102,102,105,99]⟩,e8⟩]:=by
 have hs1:ni lot=(bif cz lot.area then lot.area else []):=rfl;have hsl:(ni lot).length<=900:=by unfold ni;cases cz lot.area<;>simp[hl]
 have hvl:=abm d;have hvo:=aep d;have hfl:=ee hd.2;have hd1:=hd.1;obtain⟨hp1,hp2,hp3⟩:=hp;have hz:be 0 ([]:U aH).length=true:=rfl;have HK:∀(D:U fG)(Z:U dV)(R:U bC)(C:U gJ)(V:U fA)(S:U bS)(H:Int),((bif cz lot.area then some (D,p.tables,Z,R,C,V,S,H,lot.area)else some (D,p.tables,Z,R,C,V,S,H,([]:(List ax)))):J ((List fG)×(List bT)×(List dV)×(List bC)×(List gJ)×(List fA)×(List bS)×Int×(List ax)))=some (D,p.tables,Z,R,C,V,S,H,ni lot):=by intro D Z R C V S H;rw[hs1];cases cz lot.area<;>rfl
 obtain⟨e2,h2⟩:=anY (n:=n) p.tables (ni lot) (a9:=fu d) (by omega) (by omega);obtain⟨e3,h3⟩:=aqC (n:=n) p.tables (ni lot) (a9:=fu d) (by omega) (by omega);obtain⟨e4,h4⟩:=anR (n:=n) p.tables (ni lot) (a9:=fu d) (by omega) (by omega);obtain⟨e5,h5⟩:=anS (n:=n) p.tables (ni lot) (a9:=fu d) (by omega) (by omega);obtain⟨e6,h6⟩:=aqD (n:=n) p.tables (ni lot) (a9:=fu d) (by omega) (by omega);have h8:=λ(D:List fG)(Z:List dV)(R:List bC)(C:List gJ)(V:List fA)(S:List bS)(H:Int)=>aiV (n:=n) D p.tables Z R C V S H (a8:=ni lot) (a9:=fu d) hvo (by omega) (by omega) (by omega);obtain⟨e9,h9⟩:=aqF (n:=n) p.tables (ni lot) (a9:=fu d) (by omega) (by omega) hvo hp1 hp2 hp3;refine⟨bif cz (ni lot)then Na (ni lot)else 0,e2,e3,e4,e5,e6,e2,e9,λD Z R C V S H=>?_⟩;unfold om;rw[jq (by omega) (by omega) (by omega),Zm hd (by omega)];simp only[af,HK,hz,aj];rw[arp (n:=n) D p.tables Z R C V S H (ni lot) (by show(lg d).length<=_;unfold lg;omega) (by show(lg d).length<_;unfold lg;omega)];have hr:((lg d).take 40).filter okV=fu d:=rfl;have s1:∀e:bQ,sub ([e]:U bQ) 0 1=[e]:=λ_=>rfl;have ap:∀k,k<=20->bP k k 1 1 24=true:=λk hk=>cu (by omega) (by simp only[maxLen];omega);have lot:nu n D p.tables Z R C V S H (ni lot) (fu d)=some (bif cz (ni lot)then Na (ni lot)else 0,D,p.tables,Z,R,C,V,S,H,ni lot,fu d):=by
  unfold nu;rw[Y2 (by omega) (by omega)];simp only[af,aD,aj]
 simp only[hr,af,aD,aj,lot,s1,length_singleton,ap 0 (by omega),dY,h2,ap 1 (by omega),dM,ap 2 (by omega),h3,ap 3 (by omega),h4,ap 4 (by omega),h5,ap 5 (by omega),h6,ap 6 (by omega),h8,ap 7 (by omega),h9,ap 8 (by omega),Nat.reduceAdd,Nat.zero_add,bK];rfl
theorem apZ{p:cK}{lot:gI}{d:aQ}(hp:aiW n p)(hl:lot.area.length<=900)(hd:Sc d)(hn:2000000<=n):∃e1 e2 e3 e4 e5 e6 e7 e8:Int,∀R:U bC,om n (cK.mk p.defs p.tables p.zones R p.caps p.views p.uv p.hours) lot d=some [⟨⟨#[97,114,101,97]⟩,e1⟩,⟨⟨#[99,111,118,101,114]⟩,e2⟩,⟨⟨#[102,108,111,111,114]⟩,e3⟩,⟨⟨#[102,108,111,111,114,115]⟩,e4⟩,⟨⟨#[104,101,105,103,104,116]⟩,e5⟩,⟨⟨#[104,111,109,101,115]⟩,e6⟩,⟨⟨#[114,117,110,111,102,102]⟩,e7⟩,⟨K5,pE (ni lot) (fu d)⟩,⟨⟨#[116,114,97,102,102,105,99]⟩,e8⟩]:=by
 have⟨e1,e2,e3,e4,e5,e6,e7,e8,h⟩:=aqG (n:=n) hp hl hd hn;exact⟨e1,e2,e3,e4,e5,e6,e7,e8,λR=>h _ _ R _ _ _ _⟩
theorem PV{l:U ByteArray}(hl:l.length<1099511627776)(_:l.length<n):uT n l=some (oQ yw l):=by
 unfold uT PB;rw[Nat.ble_eq_true_of_le (by omega)];rfl
def u9(x y:ByteArray):Bool:=!(x.toList==y.toList)
theorem JY{l:U ByteArray}(hl:l.length<1099511627776)(hn:l.length<n):pU n l=some ((),OT u9 l):=by
 have e:pU n l=Rs (λ x y=>x.toList==y.toList) (λ x y=>!(x.toList==y.toList)) n l:=by kernel_rfl
 rw[e];exact Mr (ne:=u9) (λ x y=>by simp[u9]) hl hn
def U5:U (List UInt8)->Nat
 |[]=>0
 |x::l=>U5 l+(if x∈l then 0 else 1)
theorem Zo:∀l:U (List UInt8),∃k:U (List UInt8),k.Nodup/\k.length=U5 l/\∀z,z∈k↔z∈l
 |[]=>⟨[],List.nodup_nil,rfl,λ_=>Iff.rfl⟩
 |x::l=>by
  have⟨k,h1,h2,h3⟩:=Zo l;by_cases h:x∈l
  .exact⟨k,h1,by simp only[U5,aT h];omega,λz=>by rw[h3,aO];constructor;exact Or.inr;rintro (rfl |h');exact h;exact h'⟩
  .exact⟨x::k,List.nodup_cons.2 ⟨λ h'=>h ((h3 x).1 h'),h1⟩,by simp only[U5,aW h,bn];omega,λz=>by rw[aO,aO,h3]⟩
theorem Cx{α:Type}[DecidableEq α]:∀(l m:U α),l.Nodup->(∀ x∈l,x∈m)->l.length<=m.length
 |[],_,_,_=>Nat.zero_le _
 |x::l,m,h,hm=>by
  rw[List.nodup_cons]at h;have hx:=hm x (by simp);have h1:=Cx l (m.erase x) h.2 (λ y hy=>(List.mem_erase_of_ne (by rintro rfl;exact h.1 hy)).2 (hm y (by simp[hy])));have h2:=List.length_erase_of_mem hx;have h3:=List.length_pos_of_mem hx;simp only[bn];omega
theorem Zp{l m:U (List UInt8)}(h:∀z,z∈l↔z∈m):U5 l=U5 m:=by
 have⟨k,a1,a2,a3⟩:=Zo l;have⟨j,b1,b2,b3⟩:=Zo m;have h1:=Cx k j a1 λx hx=>(b3 x).2 ((h x).1 ((a3 x).1 hx));have h2:=Cx j k b1 λx hx=>(a3 x).2 ((h x).2 ((b3 x).1 hx));omega
theorem anZ(x y:ByteArray)(l:U ByteArray):(OT u9 (x::y::l)).length=(OT u9 (y::l)).length+(if x.toList=y.toList then 0 else 1):=by
 simp only[OT,foldl_cons,bn,uG];by_cases h:x.toList=y.toList
 .have:u9 y x=false:=by simp[u9,h]
  rw[this,aT h];rfl
 .have:u9 y x=true:=by simp only[u9,Bool.not_eq_true',beq_eq_false_iff_ne];exact λh'=>h h'.symm
  rw[this,aW h,OU];simp only[aj,bI,dM,length_singleton];omega
theorem agN:∀l:U ByteArray,l.Pairwise (λ x y=>yw y x=false)->(OT u9 l).length=U5 (l.map ByteArray.toList)
 |[],_=>rfl
 |[x],_=>rfl
 |x::y::l,h=>by
  rw[List.pairwise_cons]at h;rw[anZ,agN (y::l) h.2];show _=U5 ((y::l).map ByteArray.toList)+_;congr 1;by_cases e:x.toList=y.toList
  .rw[aT e,aT (by rw[e];simp)]
  .rw[aW e,aW];rw[mem_map];rintro⟨z,hz,hzx⟩;rcases aO.1 hz with rfl |hz'
   .exact e hzx.symm
   .have h1:=(List.pairwise_cons.1 h.2).1 z hz';have h2:=h.1 y (by simp);rw[Jq,dD,<- ByteArray.toList_eq,<- ByteArray.toList_eq,List.not_lt]at h1 h2;rw[hzx]at h1;exact e (List.le_antisymm h2 h1)
def iM(al:U ByteArray):Nat:=U5 (al.map ByteArray.toList)
theorem aiX(al:U ByteArray):(OT u9 (oQ yw al)).length=iM al:=by
 rw[agN _ (Fv wC al)];refine Zp λz=>?_;rw[mem_map,mem_map];constructor
 .rintro⟨a,h1,h2⟩;exact⟨a,(zJ wC al).mem_iff.1 h1,h2⟩
 .rintro⟨a,h1,h2⟩;exact⟨a,(zJ wC al).mem_iff.2 h1,h2⟩
theorem Zq(hn:400<=n)(os:U bL)(hl:os.length<n)(hl2:os.length<9223372036854775807):uS n os=some (os.all uH&&decide (os.length<=12)):=by
 unfold uS;have h:=uD (l:=os) (step:=sW n os) (λ o=>!uH o) () false (λ i hi=>by
  have hc:(be rk.l.length 144&&kZ 0 rk.l.length (List.replicate 144 false).length)=true:=by rw[vG];exact pz (λ _ _=>false) (λ _ _=>false)
  have hg:(be (mI (nw os[i])).l.length 144&&kZ 0 (mI (nw os[i])).l.length (List.replicate 144 false).length)=true:=by rw[vG];exact pz _ (λ _ _=>false)
  simp only[sW,bZ hi,aj,bf hi,af,Eo (n:=n) hn,aP i];unfold uH;cases vH os[i]&&!(yd os[i])with
  |true=>simp only[aj,hg,Bool.not_true,ak]
  |false=>simp only[ak,hc,aj,Bool.not_false,Option.map_some]) (by simp only[sW,dX,ak]) n hl
 rw[h];have e:(os.any λo=>!uH o)=!(os.all uH):=by rw[List.all_eq_not_any_not,Bool.not_not]
 have d:decide ((os.length:Int)<=12)=decide (os.length<=12):=by rw[decide_eq_decide];omega
 rw[e,d];cases os.all uH<;>rfl
structure Zr(n:Nat)(t:dK)(d:aQ):Prop where
 lots:∀l∈t.land,At l
 land:t.land.length<=100
 tabs:aiW n (cK.mk t.cd t.bk t.b7 t.aE t.cw t.cp t.cJ t.ct)
 few:Sc d
def U6(t:dK)(d:aQ):gI:=(dw t.land d.lot).1
def xQ(t:dK)(d:aQ)(al:U ByteArray):U Int:=[((iM al:Nat):Int),pE (ni (U6 t d)) (fu d),(((Y6 t.land d.lot 10).length:Nat):Int),(((U6 t d).area.length:Nat):Int)]
theorem aiY{t:dK}{d:aQ}(h:Zr n t d)(hn:2000000<=n):qK n t (U6 t d) d=some (pE (ni (U6 t d)) (fu d)):=by
 have hw:=K3 h.lots d.lot;have⟨e1,e2,e3,e4,e5,e6,e7,e8,he⟩:=apZ (n:=n) h.tabs (lot:=U6 t d) hw.1 h.few hn;unfold qK;rw[he];simp only[af];obtain⟨m,rfl⟩:∃m,n=m+20:=⟨n -20,by omega⟩;generalize pE (ni (U6 t d)) (fu d)=S;show _=_
 kernel_rfl
theorem abn{al:U ByteArray}(hn:200000<=n)(hl:al.length<=100000):nk n al=some ((iM al:Nat):Int):=by
 unfold nk rC rD qm;have hs:FF al=some (al,al):=by unfold FF;rw[Nat.ble_eq_true_of_le (by omega)];rfl
 have h1:(oQ yw al).length=al.length:=uM wC al;simp only[af,hs,aD,aj,PV (n:=n) (l:=al) (by omega) (by omega),h1];rw[JY (by omega) (by omega)];simp only[af,aiX]
theorem Zt{t:dK}{d:aQ}(h:Zr n t d)(hn:2000000<=n){al:U ByteArray}(hl:al.length<=100000):qL n t d al=some (xQ t d al):=by
 have hF:=acT (n:=n) (id:=d.lot) h.lots (by have:=h.land;omega) (by have:=h.land;omega);have hN:=aiK (n:=n) (d:=10) (λ l hl=>(h.lots l hl).1) hF h.land (by omega);have hS:ny n t (dw t.land d.lot).1 d=some (pE (ni (U6 t d)) (fu d)):=by
  unfold ny;rw[show (dw t.land d.lot).1=U6 t d from rfl,aiY h hn];rfl
 have h3:nC n t d=some (((Y6 t.land d.lot 10).length:Nat):Int):=by unfold nC;rw[hN];rfl
 have h4:rH (dw t.land d.lot).1=some (((U6 t d).area.length:Nat):Int):=rfl;have mk:(decide ((4:Int)<=4)&&(decide ((0:Int)<=4)&&xw 4 8))=true:=by kernel_rfl
 unfold qL xQ;rw[hF];simp only[af,mk,aj,abn (n:=n) (al:=al) (by omega) hl,hS,h3,h4];generalize ((iM al:Nat):Int)=A;generalize pE (ni (U6 t d)) (fu d)=B;generalize (((Y6 t.land d.lot 10).length:Nat):Int)=C;generalize (((U6 t d).area.length:Nat):Int)=D;show _=_
 kernel_rfl
def cR:bL:=bL.mk 3 [nY.mk 0 1,nY.mk 1 2]
theorem aps:O7=some cR:=by kernel_rfl
theorem aiZ(a b:Nat):eO cR a b=true↔(a=0/\b=1)\/(a=1/\b=2):=by
 simp only[eO,cR,List.any_cons,List.any_nil,Bool.or_false,Bool.or_eq_true,aG,aJ];omega
theorem akm{a b:Nat}(h:Tc (eO cR) a b):a<b/\b<3:=by
 induction h with
 |one _ _ h=>have:=(aiZ _ _).1 h;omega
 |trans _ _ h1 h2=>omega
theorem an0:yd cR=false:=by
 cases h:yd cR with
 |false=>rfl
 |true=>have⟨a,ha⟩:=agC.1 h;have:=akm ha;omega
theorem K6:uH cR=true:=by
 unfold uH;rw[an0]
 kernel_rfl
def R3:U (List Bool):=[[true,true,true],[false,true,true],[false,false,true]]
theorem apt{a b:Nat}(ha:a<3)(hb:b<3):rb (eO cR) a b=decide (a<b):=by
 rw[fB,WI,aJ];constructor
 .exact λh=>(akm h).1
 .intro h;have h01:Tc (eO cR) 0 1:= .one (by omega) (by omega) ((aiZ 0 1).2 (Or.inl ⟨rfl,rfl⟩));have h12:Tc (eO cR) 1 2:= .one (by omega) (by omega) ((aiZ 1 2).2 (Or.inr ⟨rfl,rfl⟩));have:(a=0/\b=1)\/(a=1/\b=2)\/(a=0/\b=2):=by omega
  rcases this with ⟨rfl,rfl⟩ |⟨rfl,rfl⟩ |⟨rfl,rfl⟩
  .exact h01
  .exact h12
  .exact h01.trans h12
theorem apu{a b:Nat}(ha:a<3)(hb:b<3):nw cR a b=decide (a<=b):=by
 unfold nw;rw[apt ha hb,fB];have e3:cR.values=3:=rfl;simp only[Bool.or_eq_true,aG,aJ,e3];omega
theorem alH:qx cR=R3:=by
 have:qx cR=(List.range 3).map λa=>(List.range 3).map λb=>decide (a<=b):=by
  unfold qx;refine List.map_congr_left λa ha=>List.map_congr_left λb hb=>?_;exact apu (List.mem_range.1 ha) (List.mem_range.1 hb)
 rw[this];rfl
theorem K7:BR [cR,cR]=some [R3,R3]:=by
 unfold BR;rw[aT ⟨by decide,by simp[K6]⟩];simp only[aF,List.map_nil,alH]
theorem arC:ku [cR,cR] [] 1 [1,1] true=(true,[aV.mk 1 [1,1] true],0):=by
 unfold ku cZ U4 fZ;simp only[K7]
 kernel_rfl
theorem arD:ku [cR,cR] [aV.mk 1 [1,1] true] 2 [1,2] false=(true,[aV.mk 1 [1,1] true,aV.mk 2 [1,2] true],0):=by
 unfold ku cZ U4 fZ;simp only[K7]
 kernel_rfl
theorem arE:ku [cR,cR] [aV.mk 1 [1,1] true,aV.mk 2 [1,2] true] 3 [0,1] false=(false,[aV.mk 1 [1,1] true,aV.mk 2 [1,2] true,aV.mk 3 [0,1] false],0):=by
 unfold ku cZ U4 fZ;simp only[K7]
 kernel_rfl
theorem arF:ku [cR,cR] [aV.mk 1 [1,1] true,aV.mk 2 [1,2] true,aV.mk 3 [0,1] false] 3 [0,2] false=(false,[aV.mk 1 [1,1] true,aV.mk 2 [1,2] true,aV.mk 3 [0,1] false],5):=by
 unfold ku cZ U4 fZ;simp only[K7]
 kernel_rfl
def FA:dK:=dK.mk [] [] [] [] [] [] [] 0 [gI.mk 1 0 [ax.mk 0 0 20 20] []] [] [] [] []
def IH:aQ:=aQ.mk 1 [qj.mk [aH.mk 5 5 7 7 0 3 2 0 false] []]
def VM:U ByteArray:=[⟨#[97]⟩,⟨#[98]⟩]
theorem an1:xQ FA IH VM=[2,5,0,1]:=by kernel_rfl
theorem aqH(hn:100<=n):Zr n FA IH:=by
 refine⟨λ l hl=>?_,by decide,⟨?_,by decide,λt ht=>?_⟩,by decide,λp hp=>?_⟩
 .simp only[FA,aO,fM,or_false]at hl;subst hl;exact⟨by decide,by decide⟩
 .show 0<n;omega
 .simp[FA]at ht
 .simp only[IH,aO,fM,or_false]at hp;subst hp;decide
theorem ai0(hn:2000000<=n):iQ n FA [cR,cR] IH VM=some [0,2]:=by
 have hr:([cR,cR].all uH&&decide ([cR,cR].length<=12))=true:=by simp[K6]
 unfold iQ;rw[Zq (by omega) _ (by simp;omega) (by simp),hr,Zt (aqH (by omega)) hn (by decide),an1];obtain⟨m,rfl⟩:∃m,n=m+20:=⟨n -20,by omega⟩;show _=_
 kernel_rfl
theorem akn(hn:2000000<=n)(b:Bool)(ag:U ByteArray)(h:(b,ag)=(true,[⟨#[97]⟩])\/(b,ag)=(false,[⟨#[97]⟩,⟨#[98]⟩])):ow n (cK.mk [] [] [] [bC.mk ⟨#[97]⟩ [] [] 0 0 0 true 0 0 0 ⟨#[]⟩ ⟨#[]⟩ [] 0 0 0 0 0 0 0,bC.mk ⟨#[98]⟩ [] [] 0 0 0 false 0 0 0 ⟨#[]⟩ ⟨#[]⟩ [] 0 0 0 0 0 0 0] [] [] [] 0) ag=some b:=by
 obtain⟨m,rfl⟩:∃m,n=m+20:=⟨n -20,by omega⟩;rcases h with h |h<;>(injection h with h1 h2;subst h1;subst h2;show _=_;kernel_rfl)
theorem apv(hn:2000000<=n):KT n=some true:=by
 have c:∀base:U aV,base.length<=3->(∀ k∈base,k.values.length<=2)->Zk base:=λbase h1 h2=>⟨by omega,λk hk=>by have:=h2 k hk;omega⟩;have v2:∀a b:Int,sub ([a,b]:U Int) 0 2=[a,b]:=λ_ _=>rfl;have d1:=Er (n:=n) (by omega) [cR,cR] (by simp[K6]) (base:=[]) (c _ (by simp) (by simp)) 1 (values:=[1,1]) (by simp) true;have d2:=Er (n:=n) (by omega) [cR,cR] (by simp[K6]) (base:=[aV.mk 1 [1,1] true]) (c _ (by simp) (by simp)) 2 (values:=[1,2]) (by simp) false;have d3:=Er (n:=n) (by omega) [cR,cR] (by simp[K6]) (base:=[aV.mk 1 [1,1] true,aV.mk 2 [1,2] true]) (c _ (by simp) (by simp)) 3 (values:=[0,1]) (by simp) false;have d4:=Er (n:=n) (by omega) [cR,cR] (by simp[K6]) (base:=[aV.mk 1 [1,1] true,aV.mk 2 [1,2] true,aV.mk 3 [0,1] false]) (c _ (by simp) (by simp)) 3 (values:=[0,2]) (by simp) false;rw[arC]at d1;rw[arD]at d2;rw[arE]at d3;rw[arF]at d4;have e2:∀(a b:bL),sub ([a,b]:U bL) 0 2=[a,b]:=λ_ _=>rfl;have hv:=ai0 hn;unfold FA IH VM at hv;have m1:=akn hn true [⟨#[97]⟩] (Or.inl rfl);have m2:=akn hn false [⟨#[97]⟩,⟨#[98]⟩] (Or.inr rfl);unfold KT;rw[aps];have b1:∀a b:ByteArray,sub ([a,b]:U ByteArray) 0 2=[a,b]:=λ_ _=>rfl;have b0:∀a:ByteArray,sub ([a]:U ByteArray) 0 1=[a]:=λ_=>rfl;have b2:∀a:aH,sub ([a]:U aH) 0 1=[a]:=λ_=>rfl;have b3:∀a:ax,sub ([a]:U ax) 0 1=[a]:=λ_=>rfl;have b4:∀a:gI,sub ([a]:U gI) 0 1=[a]:=λ_=>rfl;have b5:∀a:qj,sub ([a]:U qj) 0 1=[a]:=λ_=>rfl;have b6:∀a b:bC,sub ([a,b]:U bC) 0 2=[a,b]:=λ_ _=>rfl;have q:FC n [0,2] [0,2]=some true:=by
  obtain⟨m,rfl⟩:∃m,n=m+20:=⟨n -20,by omega⟩;show _=_
  kernel_rfl
 simp only[af,e2,b0,b1,b2,b3,b4,b5,b6,v2,aD,bn,length_nil,Nat.zero_add,Nat.reduceAdd,aj,hv,d1,bK,d2,d3,d4,q,m1,m2];rfl
def Sd(f:Int)(g:Bool):Bool:=bif f==1 then true else bif f==2 then false else g
theorem an2(M:Mx)(base:U aV)(w:U Int)(g:Bool):(base.any λd=>!(d.grant==g)&&q9 M w d)=p5 M base w (!g):=by
 unfold p5;congr 1;funext d;cases d.grant<;>cases g<;>cases q9 M w d<;>rfl
inductive L4(os:List bL)(base:List aV)(id:Int)(w:List Int)(g:Bool):Prop
 |arg (h1:(cZ os base w).2.2=1) (h:ku os base id w g=(false,base,1))
 |clash (h1:(cZ os base w).2.2=0) (h2:(cZ os base w).1=3) (h:ku os base id w g=(false,base,25))
 |twice (h1:(cZ os base w).2.2=0) (h2:(cZ os base w).1=0\/(cZ os base w).1=1\/(cZ os base w).1=2) (h3:(base.any λd=>d.id==id)=true) (h:ku os base id w g=(false,base,5))
 |fine (h1:(cZ os base w).2.2=0) (h2:(cZ os base w).1=0\/(cZ os base w).1=1\/(cZ os base w).1=2) (h3:(base.any λd=>d.id==id)=false) (h:ku os base id w g=(Sd (cZ os base w).1 g,base++[aV.mk id w (Sd (cZ os base w).1 g)],0))
theorem aer(os:U bL)(base:U aV)(id:Int)(w:U Int)(g:Bool):L4 os base id w g:=by
 cases hc:(fZ os base).2&&Ay (fZ os base).1 w with
 |false=>
  have hF:cZ os base w=(0,[],1):=by unfold cZ;rw[hc];rfl
  refine .arg (by rw[hF]) ?_;unfold ku;rw[hF];rfl
 |true=>
  have hF:cZ os base w=(Ux (fZ os base).1 base w,z8 (fZ os base).1 base w,0):=by unfold cZ;rw[hc];rfl
  have hA:∀k,U4 os base (aV.mk id w k)=Kf (fZ os base).1 base (aV.mk id w k):=λk=>by
   unfold U4;show(bif (fZ os base).2&&Ay (fZ os base).1 w then _ else _)=_;rw[hc];rfl
  generalize fZ os base=r at hF hA;have hB:∀k,Kf r.1 base (aV.mk id w k)=bif base.any (λ d=>d.id==id)then([],5)else bif p5 r.1 base w (!k)then([],25)else(base++[aV.mk id w k],0):=λk=>by
   unfold Kf;rw[show (base.any λd=>!(d.grant==(aV.mk id w k).grant)&&q9 r.1 (aV.mk id w k).values d)=p5 r.1 base w (!k)from an2 r.1 base w k]
  have main:∀f:Int,(cZ os base w).1=f->(f=0\/f=1\/f=2)->p5 r.1 base w (!(Sd f g))=false->L4 os base id w g:=by
   intro f hf h3 hk;have hD:ku os base id w g=bif base.any (λ d=>d.id==id)then(false,base,5)else(Sd f g,base++[aV.mk id w (Sd f g)],0):=by
    have e0:((cZ os base w).2.2 !=0)=false:=(by rw[hF];rfl);have e3:((cZ os base w).1==3)=false:=(by rw[hf,beq_eq_false_iff_ne];omega);have eg:(bif (cZ os base w).1==1 then true else bif(cZ os base w).1==2 then false else g)=Sd f g:=(by rw[hf];rfl);unfold ku;rw[e0,e3,eg,hA,hB,hk];cases base.any (λ d=>d.id==id)<;>rfl
   have h1:(cZ os base w).2.2=0:=(by rw[hF]);cases h4:base.any (λ d=>d.id==id)with
   |true=>rw[h4]at hD;exact .twice h1 (hf ▸ h3) h4 hD
   |false=>rw[h4]at hD;exact .fine h1 (hf ▸ h3) h4 (by rw[hf];exact hD)
  have hw:(cZ os base w).1=Ux r.1 base w:=by rw[hF]
  unfold Ux at hw;cases hT:p5 r.1 base w true with
  |true=>
   cases hN:p5 r.1 base w false with
   |true=>
    rw[hT,hN]at hw;refine .clash (by rw[hF]) hw ?_;have e0:((cZ os base w).2.2 !=0)=false:=(by rw[hF];rfl);unfold ku;rw[e0,hw];rfl
   |false=>
    rw[hT,hN]at hw;exact main 1 hw (by omega) hN
  |false=>
   cases hN:p5 r.1 base w false with
   |true=>
    rw[hT,hN]at hw;exact main 2 hw (by omega) hT
   |false=>
    rw[hT,hN]at hw;refine main 0 hw (by omega) ?_;cases g
    .exact hT
    .exact hN
def KB(os:U bL)(base:U aV):Bool:=!(os.any λo=>decide (o.pairs.length>20))&&(!(base.any λc=>decide (c.values.length>8))&&(decide (os.length<=5)&&decide (base.length<=14)))
theorem agO{os:U bL}{base:U aV}(h1:os.length<=1000000000000000000)(h2:base.length<=1000000000000000000)(hn:os.length<n)(hn2:base.length<n):yJ n os base=some (KB os base):=by
 have a1:=uD (l:=os) (step:=tq os) (λ o=>decide (o.pairs.length>20)) () false (λ i hi=>by
  have d:decide ((((os[i]).pairs.length:Nat):Int)>20)=decide ((os[i]).pairs.length>20):=by rw[decide_eq_decide];omega
  simp only[tq,bZ hi,aj,bf hi,af,d,Option.map_some,Cs,aP i]) (by simp only[tq,dX,ak]) n hn
 have a2:=uD (l:=base) (step:=tu base) (λ o=>decide (o.values.length>8)) () false (λ i hi=>by
  have d:decide ((((base[i]).values.length:Nat):Int)>8)=decide ((base[i]).values.length>8):=by rw[decide_eq_decide];omega
  simp only[tu,bZ hi,aj,bf hi,af,d,Option.map_some,Cs,aP i]) (by simp only[tu,dX,ak]) n hn2
 have d1:decide ((os.length:Int)<=5)=decide (os.length<=5):=by rw[decide_eq_decide];omega
 have d2:decide ((base.length:Int)<=14)=decide (base.length<=14):=by rw[decide_eq_decide];omega
 unfold yJ KB;rw[a1,a2,d1,d2];cases os.any λo=>decide (o.pairs.length>20)with
 |true=>rfl
 |false=>
  cases base.any λo=>decide (o.values.length>8)with
  |true=>rfl
  |false=>cases decide (os.length<=5)<;>rfl
theorem alI{os:U bL}{base:U aV}(h:KB os base=true):Zk base/\os.length<=5/\base.length<=14:=by
 simp only[KB,aG,Bool.not_eq_true',aJ,any_eq_false]at h;obtain⟨h1,h2,h3,h4⟩:=h;refine⟨⟨by omega,λc hc=>?_⟩,h3,h4⟩;have:=h2 c hc;omega
def F1(p:qj):Bool:=decide (p.cj.length>12) || decide (p.gives.length>6)
def AD(d:aQ):Bool:=!(d.phases.any F1)&&decide (d.phases.length<=9)
theorem Zu{d:aQ}(h:d.phases.length<=1000000000000000000)(hn:d.phases.length<n)(hn2:10<=n):o6 n [d]=some (AD d):=by
 have a0:br [d] 0=some d:=rfl;have s2:=uD (l:=d.phases) (step:=oC [d] 0) F1 () (.inr (.inr false)) (λ i hi=>by
  have d1:decide ((((d.phases[i]).cj.length:Nat):Int)>12)=decide ((d.phases[i]).cj.length>12):=by rw[decide_eq_decide];omega
  have d2:decide ((((d.phases[i]).gives.length:Nat):Int)>6)=decide ((d.phases[i]).gives.length>6):=by rw[decide_eq_decide];omega
  simp only[oC,a0,af,bZ hi,aj,bf hi,d1,d2,aP i,F1];cases decide ((d.phases[i]).cj.length>12)<;>cases decide ((d.phases[i]).gives.length>6)<;>rfl) (by simp only[oC,a0,af,dX,ak]) n hn
 obtain⟨m,rfl⟩:∃m,n=m+2:=⟨n -2,by omega⟩;have d3:decide ((d.phases.length:Int)>9)=!decide (d.phases.length<=9):=by rw[<- decide_not,decide_eq_decide];omega
 have l1:decide ((0:Int)<(([d].length:Nat):Int))=true:=rfl;unfold o6 AD;cases hb:d.phases.any F1 with
 |true=>
  rw[hb]at s2;rw[fJ (o:= .inr false) (by simp only[kS,l1,aj,s2];rfl)];rfl
 |false=>
  rw[hb]at s2;cases h9:decide (d.phases.length<=9)with
  |false=>
   rw[fJ (o:= .inr false) (by simp only[kS,l1,aj,s2,ak,dU,a0,af,d3,h9,Bool.not_false,Option.map_some])];rfl
  |true=>
   rw[kM (v':=1) (by simp only[kS,l1,aj,s2,ak,dU,a0,af,d3,h9,Bool.not_true];rfl),fJ (o:= .inl ()) (by simp only[kS];rfl)];rfl
theorem apw{d:aQ}(h:AD d=true):Sc d:=by
 simp only[AD,aG,Bool.not_eq_true',any_eq_false,aJ]at h;refine⟨by omega,λp hp=>?_⟩;have:=h.1 p hp;simp only[F1,Bool.or_eq_true,aJ,not_or]at this;omega
def AC(t:dK)(d:aQ)(al:U ByteArray):Bool:=ye t&&(AD d&&decide (al.length<=20))
theorem an4(t:dK){d:aQ}(al:U ByteArray)(h:d.phases.length<=1000000000000000000)(hn:d.phases.length<n)(hn2:2000<=n):Ww n t d al=some (AC t d al):=by
 have e1:Wv n (cK.mk [] [] [] [] [] [] [] 0) (Ju.mk 0 0 0 0 0 [d] 0 0) []=some (AD d):=by
  have s:iter (YO n []) n 0=some (.inl ()):=by
   obtain⟨m,rfl⟩:∃m,n=m+1:=⟨n -1,by omega⟩;exact fJ rfl
  unfold Wv;rw[s];simp only[dU,Zu h hn (by omega),af];rfl
 have sb:sub ([d]:U aQ) 0 1=[d]:=rfl;have d1:decide ((al.length:Int)<=20)=decide (al.length<=20):=by rw[decide_eq_decide];omega
 unfold Ww AC;rw[aiQ t hn2];simp only[af,sb,length_singleton,aD,aj,e1,d1];cases ye t<;>cases AD d<;>rfl
def aqI(t:dK):Prop:=∀x∈t.bk,x.rows.length<=9223372036854775807
def kf(t:dK):Nat:=(t.bk.map (·.rows.length)).sum
theorem ai1:∀(l:U Nat)(x:Nat),x∈l->x<=l.sum
 |[],x,h=>by simp at h
 |y::l,x,h=>by
  rw[List.sum_cons];rcases aO.1 h with rfl |h
  .omega
  .have:=ai1 l x h;omega
theorem apx{t:dK}{d:aQ}{al:U ByteArray}(h:AC t d al=true)(hf:aiP t)(hr:aqI t)(hn:2000000+kf t<=n):Zr n t d/\al.length<=20:=by
 simp only[AC,aG,aJ]at h;have E:=apl h.1 hf;have h1:=h.1;simp only[ye,aG,aJ]at h1;have ht:t.bk.length<=20:=h1.1.2.2.2.1;refine⟨⟨E.lots,by have:=E.land;omega,⟨?_,?_,λx hx=>⟨?_,hr x hx⟩⟩,apw h.2.1⟩,h.2.2⟩
 .show t.bk.length<n;omega
 .show t.bk.length<=_;omega
 .have hx2:x∈t.bk:=hx;have:=ai1 _ _ (List.mem_map_of_mem (f:=λx:bT=>x.rows.length) hx2);have e:(t.bk.map λx:bT=>x.rows.length).sum=kf t:=rfl;omega
def mi(s:ByteArray)(x:ByteArray):Bool:=ByteArray.toList x==ByteArray.toList s
theorem agR(l:U ByteArray):iM l<=l.length:=by
 have:∀l:U (List UInt8),U5 l<=l.length:=by
  intro l;induction l with
  |nil=>exact aC _
  |cons a l ih=>simp only[U5,bn];split<;>omega
 have:=this (l.map ByteArray.toList)
 rwa [length_map]at this
theorem abo(s:ByteArray)(l:U ByteArray):iM (s::l)=iM l+(bif l.any (mi s)then 0 else 1):=by
 unfold iM;rw[aF,U5];congr 1;cases h:l.any (mi s)with
 |true=>
  rw[List.any_eq_true]at h;obtain⟨x,h1,h2⟩:=h;rw[aT (mem_map.2 ⟨x,h1,by simpa[mi]using h2⟩)];rfl
 |false=>
  rw[any_eq_false]at h;rw[aW];rfl;rw[mem_map];rintro⟨x,h1,h2⟩;exact h x h1 (by simpa[mi]using h2)
def mJ(N:U Int)(k:Nat)(V:Int):Int:=bif k%2==0 then V -1 -min (N.getD (k%4) 0) (V -1)else min (N.getD (k%4) 0) (V -1)
def jv(N:U Int)(os:U bL):U Int:=(List.range os.length).map λk=>mJ N k ((os[k]?.map (·.values)).getD 1)
def Sg(N:U Int):Prop:=N.length=4/\∀x∈N,0<=x/\x<=1099511627776
theorem ako{t:dK}{d:aQ}{al:U ByteArray}(h:Zr n t d)(hl:al.length<=1000):Sg (xQ t d al):=by
 have h1:=agR al;have h2:=agM (ni (U6 t d)) (fu d);have h3:(Y6 t.land d.lot 10).length<=100:=by
  unfold Y6;cases (dw t.land d.lot).2 with
  |false=>simp
  |true=>
   rw[aj];refine Nat.le_trans (agn _) ?_;unfold BQ;rw[length_map];exact Nat.le_trans (length_filter_le _ _) h.land
 have h4:=(K3 h.lots d.lot).1;refine⟨rfl,λx hx=>?_⟩;simp only[xQ,aO,fM,or_false]at hx;rcases hx with rfl |rfl |rfl |rfl
 .omega
 .omega
 .omega
 .show 0<=(((dw t.land d.lot).1.area.length:Nat):Int)/\(((dw t.land d.lot).1.area.length:Nat):Int)<=_;omega
theorem an5{N:U Int}(h:Sg N)(k:Nat):co (Int.tmod (k:Int) 4) N.length=true/\br N (((0:Nat):Int)+Int.tmod (k:Int) 4)=some (N.getD (k%4) 0)/\0<=N.getD (k%4) 0/\N.getD (k%4) 0<=1099511627776:=by
 have hk:k%4<N.length:=by rw[h.1];omega
 have e:Int.tmod (k:Int) 4=((k%4:Nat):Int):=Eh k 4;have g:N.getD (k%4) 0=N[k%4]:=by rw[List.getD_eq_getElem?_getD,bX hk];rfl
 rw[e,g];exact⟨bE hk,bJ hk,h.2 _ (getElem_mem hk)⟩
theorem apy(k:Nat):(Int.tmod (k:Int) 2==(0:Int))=(k%2==0):=by
 have e:Int.tmod (k:Int) 2=((k%2:Nat):Int):=Eh k 2;rw[e,fB,beq_iff_eq,beq_iff_eq];omega
theorem aes{o:bL}(h:uH o=true):1<=o.values/\o.values<=12:=by
 simp only[uH,vH,aG,aJ]at h;exact h.1.1.1
theorem acX{t:dK}{d:aQ}(h:Zr n t d)(hn:2000000<=n){os:U bL}{al:U ByteArray}(hl:al.length<=1000)(ho:os.length<=1000):iQ n t os d al=some (bif os.all uH&&decide (os.length<=12)then jv (xQ t d al) os else []):=by
 unfold iQ;rw[Zq (by omega) os (by omega) (by omega)];simp only[af];cases hk:os.all uH&&decide (os.length<=12)with
 |false=>rfl
 |true=>
  rw[aG]at hk;have e4:((4:Nat) !=0)=true:=rfl;have e2:((2:Nat) !=0)=true:=rfl;have mk:(decide ((os.length:Int)<=(os.length:Int))&&(decide (0<=(os.length:Int))&&xw (os.length:Int) 8))=true:=by rw[aec (by omega) (by simp only[maxLen];omega)];simp
  have N4:=ako h hl;simp only[Bool.not_true,ak,Zt h hn (show al.length<=100000 by omega),af,mk,aj,Int.toNat_natCast];generalize xQ t d al=N at N4;have hlen:∀i,((List.range os.length).map λk=>if k<i then mJ N k ((os[k]?.map (·.values)).getD 1)else 0).length=os.length:=λi=>by simp
  have key:=gY (step:=oo os N) (λ i=>((i:Int),(List.range os.length).map λk=>if k<i then mJ N k ((os[k]?.map (·.values)).getD 1)else 0)) (s:=((0:Int),List.replicate os.length (0:Int))) os.length (jv N os) (by
   congr 1;apply List.ext_getElem
   .simp
   .intro j h1 h2;simp) (λ i hi=>by
   have⟨n1,n2,n3,n4⟩:=an5 N4 i;have hv:=aes (all_eq_true.1 hk.1 _ (getElem_mem hi));have hx:((bif i%2==0 then some (i64.wrap ((i64.wrap (os[i].values -1)) -(min (N.getD (i%4) 0) (i64.wrap (os[i].values -1)))))else some (min (N.getD (i%4) 0) (i64.wrap (os[i].values -1)))):J Int)=some (mJ N i os[i].values):=by
    rw[dI (x:=os[i].values -1),dI (x:=os[i].values -1 -min (N.getD (i%4) 0) (os[i].values -1)),Cs];rfl
   have hset:((List.range os.length).map λk=>if k<i then mJ N k ((os[k]?.map (·.values)).getD 1)else 0).set (((0:Nat):Int)+(i:Int)).toNat (mJ N i os[i].values)=(List.range os.length).map λk=>if k<i+1 then mJ N k ((os[k]?.map (·.values)).getD 1)else 0:=by
    rw[show (((0:Nat):Int)+(i:Int)).toNat=i by omega];apply List.ext_getElem
    .simp
    .intro j h1 h2;have hj:j<os.length:=(by simpa using h2);rw[List.getElem_set];by_cases hji:i=j
     .subst hji;simp[hj]
     .by_cases hlt:j<i
      .simp[hji,hlt,show j<i+1 by omega]
      .simp[hji,hlt,show ¬j<i+1 by omega]
   have hi2:i<((List.range os.length).map λk=>if k<i then mJ N k ((os[k]?.map (·.values)).getD 1)else 0).length:=(by rw[hlen];exact hi);have ib:co (i:Int) os.length=true:=bE hi;simp only[oo,bZ hi,aj,bf hi,af,e4,e2,n1,n2,apy,hx,Int.toNat_natCast,ib,bJ hi2,hset,aP i]) (by
   simp only[oo,dX,ak];congr 2;unfold jv;exact List.map_congr_left λk hk=>by rw[aT (List.mem_range.1 hk)]) n (by omega)
  have hvl:(jv N os).length=os.length:=by simp[jv]
  have hsub:sub (jv N os) 0 os.length=jv N os:=by rw[<- hvl,bK]
  simp only[key,af,hsub,hvl,aD,aj]
def F0(rules:U bC)(s:ByteArray):Bool:=!(rules.any λr=>mi s r.name) || rules.any λr=>mi s r.name&&!r.vary
def MD(rules:U bC)(al:U ByteArray):Bool:=!(al.any (F0 rules))&&decide (0<al.length)
theorem JZ{l:U bC}{φ:(bC×Unit)->J Bool}(p:bC->Bool)(h:∀x∈l,φ (x,())=some (p x))(hl:l.length<1099511627776)(hn:l.length<n):u7 n l φ=some (zI p l):=fT p h hl hn
theorem Es{l:U bC}{φ:(bC×Unit)->J Bool}(p:bC->Bool)(h:∀x∈l,φ (x,())=some (p x))(hl:l.length<1099511627776)(hn:l.length<n):l7 n l φ=some (l.any p):=by
 unfold l7;rw[JZ p h hl hn];simp only[af,uL]
theorem Aa{l:U bC}(s:ByteArray)(hl:l.length<1099511627776)(hn:l.length<n):jG n l s=some (l.any λr=>mi s r.name&&!r.vary,s):=by
 have key:=iL (l:=l) (step:=jF l) (λ i=>((i:Int),s)) (λ r=>mi s r.name&&!r.vary) s (λ i=>((i:Int),s)) (λ i hi=>by
  have hf:oq l[i] s=some (mi s l[i].name&&!l[i].vary,s):=by
   unfold oq oZ mi;cases ByteArray.toList l[i].name==ByteArray.toList s<;>rfl
  simp only[jF,bZ hi,aj,bf hi,af,hf,aP i];cases mi s l[i].name&&!l[i].vary<;>rfl) (by simp only[jF,dX,ak]) n hn
 rw[show ((0:Nat):Int)=0 from rfl]at key;unfold jG qo;rw[key,<- jf];cases jA (λ r=>mi s r.name&&!r.vary) l with
 |none=>rfl
 |some i=>
  have:decide ((i:Int)>=0)=true:=by simp
  simp only[jy,af,this,Option.isSome_some]
theorem U7(p:cK)(al:U ByteArray)(hr:p.rules.length<=1000)(hl:al.length<=1000)(hn:1001<=n):ow n p al=some (MD p.rules al):=by
 unfold ow MD;rw[uD (l:=al) (step:=sZ n p al) (F0 p.rules) () false (λ i hi=>by
  simp only[sZ,bZ hi,aj,bf hi,af,Es (n:=n) (l:=p.rules) (φ:=λy1=>oZ y1.1 al[i]) (λ r=>mi al[i] r.name) (λ x _=>rfl) (by omega) (by omega),Aa (n:=n) (l:=p.rules) al[i] (by omega) (by omega),aP i];unfold F0;cases p.rules.any λr=>mi al[i] r.name with
  |false=>rfl
  |true=>cases p.rules.any λr=>mi al[i] r.name&&!r.vary<;>rfl) (by simp only[sZ,dX,ak]) n (by omega)]
 have d:decide ((al.length:Int)>0)=decide (0<al.length):=by rw[decide_eq_decide];omega
 rw[d];cases al.any (F0 p.rules)<;>rfl
theorem akp(ds:U (ByteArray×ET))(s:U UInt8):∀(k:Nat)(i:Int),OZ ds s k=some i->0<=i/\i<(k:Int)
 | 0,i,h=>by simp[OZ]at h
 |k+1,i,h=>by
  simp only[OZ]at h;split at h
  .cases h;omega
  .have:=akp ds s k i h;omega
theorem apB{ds:U (ByteArray×ET)}(h:rm ds<=4000000):ws (pQ ds) ds.length:=by
 have hl:=Wp ds;refine⟨by simp[pQ],by omega,λl hl=>?_⟩;simp only[pQ,mem_map]at hl;obtain⟨d,hd,rfl⟩:=hl;have h1:=Wq hd;have h2:=ET.oB d.2;have h3:=afV d.2.names;refine⟨Nat.le_trans (List.length_filterMap_le _ _) (by omega),λk hk=>?_⟩;simp only[iE,List.mem_filterMap]at hk;obtain⟨s,_,hk⟩:=hk;exact akp ds s _ k hk
theorem agS{M:U ByteArray}(hM:M.length<=1000)(hn:1001<=n)(w0:U (ByteArray×Bool)):∃w,iter (o7 M) n ((0:Int),w0)=some w:=by
 obtain⟨o,h,_⟩:=fQ (step:=o7 M) (λ i (v:Int×List (ByteArray×Bool))=>∃w,v=((i:Int),w)/\i<=M.length) (λ _=>True) M.length (λ k v ⟨_,_,h⟩=>h) (by
  rintro i v ⟨w,rfl,hi⟩;by_cases hlt:i<M.length
  .simp only[o7,show decide ((i:Int)<(M.length:Int))=true from by simp;omega,aj,bE hlt,bJ hlt,af,aP i];exact .inl ⟨_,rfl,_,rfl,hlt⟩
  .simp only[o7,show decide ((i:Int)<(M.length:Int))=false from by simp;omega,ak];exact .inr ⟨_,rfl,trivial⟩) n 0 ((0:Int),w0) ⟨_,rfl,Nat.zero_le _⟩ (by omega)
 exact⟨o,h⟩
theorem agT{p:cK}(hp:p.defs.length<=4000000)(hn:4000001<=n)(w0:U (ByteArray×Bool)):iter (lK p) n ((0:Int),w0)=some (.inl ())\/iter (lK p) n ((0:Int),w0)=some (.inr ([],[],5)):=by
 obtain⟨o,h,h2⟩:=fQ (step:=lK p) (λ i (v:Int×List (ByteArray×Bool))=>∃w,v=((i:Int),w)/\i<=p.defs.length) (λ o=>o= .inl ()\/o= .inr ([],[],5)) p.defs.length (λ k v ⟨_,_,h⟩=>h) (by
  rintro i v ⟨w,rfl,hi⟩;by_cases hlt:i<p.defs.length
  .simp only[lK,show decide ((i:Int)<(p.defs.length:Int))=true from by simp;omega,aj,bf hlt,af,aP i];cases (fI Gb.lf p.defs[i].name w).getD false with
   |true=>exact .inr ⟨_,rfl,.inr rfl⟩
   |false=>exact .inl ⟨_,rfl,_,rfl,hlt⟩
  .simp only[lK,show decide ((i:Int)<(p.defs.length:Int))=false from by simp;omega,ak];exact .inr ⟨_,rfl,.inl rfl⟩) n 0 ((0:Int),w0) ⟨_,rfl,Nat.zero_le _⟩ (by omega)
 rcases h2 with rfl |rfl
 .exact .inl h
 .exact .inr h
theorem agU:∃M,xY=some M/\M.length=9:=⟨_,rfl,rfl⟩
def ia(l:U fG):Prop:=rm (l.map toD)<=4000000
theorem ia.len{l:U fG}(h:ia l):l.length<=4000000:=by
 have:=Wp (l.map toD);rw[length_map]at this;unfold ia at h;omega
theorem ia.body{l:U fG}(h:ia l){d:fG}(hd:d∈l):(toE (dW.mk d.kh d.pf d.mj d.j0 d.eQ)).wt<=4000000:=by
 have h1:=Wq (mem_map.2 ⟨d,hd,rfl⟩:toD d∈l.map toD);unfold ia at h;simp only[toD,ET.wt]at h1;simp only[toE,ET.wt];omega
theorem U8{p:cK}(hp:ia p.defs)(hn:5000003<=n):∃r,oH n p=some r/\r.1.length<=p.defs.length/\(∀ k∈r.1,0<=k/\k<(p.defs.length:Int))/\r.2.1.length<=p.defs.length+1:=by
 obtain⟨M,hM,hM9⟩:=agU;obtain⟨w,hw⟩:=agS (n:=n) (M:=M) (by omega) (by omega) [];have hg:ws (pQ (p.defs.map toD)) p.defs.length:=by have:=apB hp;rwa [length_map]at this
 have HO:lJ p.defs=some (p.defs,pQ (p.defs.map toD)):=by
  unfold lJ;rw[Nat.ble_eq_true_of_le hp];rfl
 simp only[oH,hM,af,hw];rcases agT (n:=n) (p:=p) hp.len (by omega) w with h |h
 .have⟨c,hc,hc2,hc3⟩:=af6 (n:=n) (a0:=p.defs) hg rfl hn;simp only[h,dU,HO,af,hc];cases h0:(c.length==0)with
  |true=>
   have e:c=[]:=List.eq_nil_of_length_eq_zero (by simpa using h0);obtain⟨l,hl,hll,hlr⟩:=anC (n:=n) (a0:=ql.mk p.defs (pQ (p.defs.map toD))) hg rfl (hc2 e) (by omega);simp only[aj,af,ak,hl,bK,aD];exact⟨_,rfl,by simp[hll],hlr,by simp⟩
  |false=>
   simp only[aj,af,ak,bK,aD];exact⟨_,rfl,by simp,by simp,hc3⟩
 .simp only[h,jy];exact⟨_,rfl,by simp,by simp,by simp⟩
theorem Ab(x:dW):dW.mk x.op x.n x.s x.key x.args=x:=by cases x;rfl
theorem PW:∀l:U dW,JE l=l.map toE
 |[]=>rfl
 |x::xs=>by simp only[JE,aF,PW xs]
theorem akq:∀{l:U ET}{t:ET},t∈l->t.wt<=ET.th l
 |x::l,t,h=>by
  simp only[ET.th];rcases aO.1 h with rfl |h
  .omega
  .have:=akq h;omega
theorem an6{e x:dW}(h:x∈e.args):(toE x).wt<(toE e).wt:=by
 have h1:(toE x).wt<=ET.th (JE e.args):=akq (by rw[PW];exact mem_map.2 ⟨x,h,rfl⟩);cases e;simp only[toE,ET.wt]at *;omega
theorem akr(e:dW):e.args.length<(toE e).wt:=by
 have h1:=ET.qt (JE e.args);rw[PW,length_map]at h1;cases e;simp only[toE,ET.wt,PW]at *;omega
def VR:Nat->dW->Prop
 | 0,_=>False
 |k+1,e=>zT e.op=some ((e.args.length:Int),true)/\∀x∈e.args,VR k x
theorem ai2(op:Int):∃a b,zT op=some (a,b):=by
 simp only[zT];cases (op==0)<;>cases (op==1)<;>cases (op==2)<;>cases (op==3)<;>cases (op==9)<;>cases (op==15)<;>cases (op==16)<;>cases (decide (op>=0))<;>exact⟨_,_,rfl⟩
theorem acY(hn:4000002<=n):∀(m:Nat)(e:dW)(a:Int),m<=9223372036854775000->0<=a->a<=12->13<=a+m->(toE e).wt<=4000000->∃r,uw n m e a=some r/\1<=r/\r<=13+m/\(r<=12->VR m e)
 | 0,_,_,_,_,_,h,_=>absurd h (by omega)
 |m+1,e,a,hm,h0,h1,h2,h3=>by
  have⟨x,b,hx⟩:=ai2 e.op;have hla:=akr e;show ∃r,BF n (uw n m) e a=some r/\_;simp only[BF,hx,af];have bad:∃r,some (13:Int)=some r/\1<=r/\r<=13+((m+1:Nat):Int)/\(r<=12->VR (m+1) e):=⟨13,rfl,by omega,by omega,λh=>absurd h (by omega)⟩;cases b with
  |false=>simpa only[Bool.not_false,aj,af]using bad
  |true=>
   simp only[Bool.not_true,ak];by_cases hxl:x=(e.args.length:Int)
   .subst hxl;simp only[show ((e.args.length:Int) !=(e.args.length:Int))=false from by simp,ak,af];by_cases ha:a>=12
    .simpa only[ha,decide_true,aj]using bad
    .simp only[ha,decide_false,ak]
     obtain⟨o,g1,g2,g3,g4⟩:=fQ (step:=yP n (uw n m) e a) (λ i (v:Int×Int)=>v.2=(i:Int)/\i<=e.args.length/\0<=v.1/\v.1<=13+m/\(v.1<=11->∀y∈e.args.take i,VR m y))
      (λ o=>0<=o/\o<=13+m/\(o<=11->∀y∈e.args,VR m y)) e.args.length (λ k v h=>h.2.1) (by
      rintro i ⟨v2,v3⟩ ⟨hv,hi,i1,i2,i3⟩;simp only at hv i1 i2 i3;subst hv;by_cases hlt:i<e.args.length
      .left;have hwx:=an6 (getElem_mem hlt);obtain⟨r,r1,r2,r3,r4⟩:=acY hn m e.args[i] (a+1) (by omega) (by omega) (by omega) (by omega) (by omega);refine⟨(max v2 r,((i+1:Nat):Int)),?_,rfl,hlt,by show 0<=max v2 r;omega,by show max v2 r<=_;omega,λh y hy=>?_⟩
       .simp only[yP,show decide ((i:Int)<(e.args.length:Int))=true from by simp;omega,aj,bf hlt,af,Ab,dI (show -9223372036854775808<=a+1 by omega) (show a+1<=9223372036854775807 by omega),r1,aP i]
       .have h':max v2 r<=11:=h;rw[List.take_add_one,bX hlt]at hy;rw[bg]at hy;rcases hy with hy |hy
        .exact i3 (by omega) y hy
        .simp at hy;subst hy;exact r4 (by omega)
      .right;refine⟨v2,?_,i1,i2,λh y hy=>i3 h y (by rw[take_of_length_le (by omega)];exact hy)⟩;simp only[yP,show decide ((i:Int)<(e.args.length:Int))=false from by simp;omega,ak]) n 0 ((0:Int),(0:Int)) ⟨rfl,Nat.zero_le _,by simp,by show(0:Int)<=_;omega,by simp⟩ (by omega)
     simp only[g1,af];rw[dI (by omega) (by omega)];exact⟨o+1,rfl,by omega,by omega,λh=>⟨hx,g4 (by omega)⟩⟩
   .simpa only[show (x !=(e.args.length:Int))=true from by simpa using hxl,aj,af]using bad
theorem Uy(hn:4000002<=n)(hn2:n<=9223372036854775000){e:dW}(h:(toE e).wt<=4000000):∃b,JD n e=some b/\(b=true->VR n e):=by
 obtain⟨r,h1,h2,h3,h4⟩:=acY hn n e 0 hn2 (by omega) (by omega) (by omega) h;refine⟨decide (r<=12),?_,λh=>h4 (by simpa using h)⟩;simp only[JD,Ab,RJ,h1,af]
def arq(tables:U bT)(s key:ByteArray):Int:=match tables.find? λt=>ByteArray.toList t.name==ByteArray.toList s with
 |some t=>arj t key
 |none=>0
def N3(ts:U bT):Prop:=ts.length<=4000000/\∀t∈ts,t.rows.length<=4000000
theorem alL(hn:4000002<=n){a0:U fG}{ts:U bT}{a2:U dV}{a3:U bC}{a4:U gJ}{a5:U fA}{a6:U bS}{a7:Int}{zs:U ByteArray}(ht:N3 ts)(e:dW)(kn:U (ByteArray×Int)):jI n a0 ts a2 a3 a4 a5 a6 a7 zs e kn=some (arq ts e.s e.key,kn):=by
 have h1:=ht.1;simp only[jI,Ab];rw[GL (λ t=>ByteArray.toList t.name==ByteArray.toList e.s) (λ x _=>rfl) (by omega) (by omega)];simp only[af,arq];rcases Y8 (λ t:bT=>ByteArray.toList t.name==ByteArray.toList e.s) ts with ⟨i,hi,h1,h2⟩ |⟨h1,h2⟩
 .rw[h1,h2];have d:decide ((i:Int)<0)=false:=by simp
  have hr:=ht.2 _ (getElem_mem hi);simp only[d,ak,bf hi,af];rw[GN (λ x=>ByteArray.toList x.name==ByteArray.toList e.key) (λ x _=>rfl) (by omega) (by omega)];simp only[af,arj];rcases Y8 (λ x:bQ=>ByteArray.toList x.name==ByteArray.toList e.key) ts[i].rows with ⟨j,hj,g1,g2⟩ |⟨g1,g2⟩
  .rw[g1,g2];have d:decide ((j:Int)>=0)=true:=(by simp);simp only[d,aj,bf hj,af]
  .rw[g1,g2];rfl
 .rw[h1,h2];rfl
theorem fq{α:Type}{c:Bool}{x y:J α}(hx:∃r,x=some r)(hy:∃r,y=some r):∃r,(bif c then x else y)=some r:=by cases c<;>assumption
theorem abp(a b:Int):∃r,xO a b=some r:=by
 simp only[xO];cases h:(b==0)with
 |true=>exact⟨_,rfl⟩
 |false=>
  have:(b !=0)=true:=by simp[bne,h]
  simp only[this,aj,ak];cases (Int.tmod a b !=0)<;>cases (decide (Int.tmod a b<0)==decide (b<0))<;>exact⟨_,rfl⟩
theorem Zv(b:Bool):∃r,zU b=some r:=fq ⟨_,rfl⟩ ⟨_,rfl⟩
theorem uE{α β:Type}{x:J α}{f:α->J β}(hx:∃r,x=some r)(hf:∀r,∃s,f r=some s):∃s,x.bind f=some s:=by obtain⟨r,rfl⟩:=hx;exact hf r
theorem agV(op a b:Int):∃r,KV op a b=some r:=by
 have q:=abp a b;have t:=λc=>Zv c;unfold KV
 repeat' first
  |exact⟨_,rfl⟩
  |exact q
  |exact t _
  |apply fq
  |(refine uE ?_ λr=>?_)
theorem J2(h:0<n):co 0 n=true:=by simp[co];omega
theorem agW(h:1<n):co 1 n=true:=by simp[co];omega
theorem an7(h:2<n):co 2 n=true:=by simp[co];omega
theorem PX{α:Type}{l:U α}(h:0<l.length):br l (((0:Nat):Int)+0)=some l[0]:=bJ (i:=0) h
theorem akt{α:Type}{l:U α}(h:1<l.length):br l (((0:Nat):Int)+1)=some l[1]:=bJ (i:=1) h
theorem apC{α:Type}{l:U α}(h:2<l.length):br l (((0:Nat):Int)+2)=some l[2]:=bJ (i:=2) h
theorem abq{l:U ByteArray}{s:ByteArray}(hl:l.length<=4000000)(hn:4000002<=n):∃r,fP n l s=some r:=by
 obtain⟨o,h,_⟩:=fQ (step:=oD l s) (λ i (v:Int)=>v=(i:Int)/\i<=l.length) (λ _=>True) l.length (λ k v h=>h.2) (by
  rintro i v ⟨rfl,hi⟩;by_cases hlt:i<l.length
  .simp only[oD,show decide ((i:Int)<(l.length:Int))=true from by simp;omega,aj,bf hlt,af,aP i];cases (ByteArray.toList s==ByteArray.toList l[i])with
   |true=>exact .inr ⟨_,rfl,trivial⟩
   |false=>exact .inl ⟨_,rfl,rfl,hlt⟩
  .simp only[oD,show decide ((i:Int)<(l.length:Int))=false from by simp;omega,ak];exact .inr ⟨_,rfl,trivial⟩) n 0 0 ⟨rfl,Nat.zero_le _⟩ (by omega)
 simp only[fP,tH,h];cases o with
 |inl u=>cases u;simp only[dU,af];exact⟨_,rfl⟩
 |inr r=>simp only[jy,af];exact⟨_,rfl⟩
theorem alM{op a:Int}(h0:(op==0)=false)(h1:(op==1)=false)(h2:(op==2)=false)(h3:(op==3)=false)(h9:(op==9)=false)(My:(op==15)=false)(h16:(op==16)=false)(h:zT op=some (a,true)):a=2:=by
 simp only[zT,h0,h1,h2,h3,h9,My,h16,ak,af]at h;cases hd:decide (op>=0)with
 |true=>rw[hd]at h;simp only[aj,ay,Prod.mk.injEq]at h;exact h.1.symm
 |false=>rw[hd]at h;simp at h
section
variable {n:Nat} {a0:List fG} {ts:List bT} {a2:List dV} {a3:List bC} {a4:List gJ} {a5:List fA} {a6:List bS} {a7:Int} {zs:List ByteArray}
theorem Zw(hn:4000002<=n)(ht:N3 ts)(hz:zs.length<=4000000):∀(m:Nat)(e:dW)(kn:U (ByteArray×Int)),VR m e->(toE e).wt<=4000000->∃v,bW n m a0 ts a2 a3 a4 a5 a6 a7 zs e kn=some (v,kn)
 | 0,_,_,h,_=>h.elim
 |m+1,e,kn,⟨ha,hr⟩,hw=>by
  have hla:=akr e;have hmx:maxLen=9223372036854775807:=rfl;show ∃v,fH n (bW n m) a0 ts a2 a3 a4 a5 a6 a7 zs e kn=some (v,kn)
  obtain⟨o,h1,l,rfl,hl⟩:=fQ (step:=fw n (bW n m) a0 ts a2 a3 a4 a5 a6 a7 zs e) (λ i (v:Int×List (ByteArray×Int)×List Int)=>∃l,v=((i:Int),kn,l)/\i<=e.args.length/\l.length=i)
   (λ o=>∃l,o=(kn,l)/\l.length=e.args.length) e.args.length (λ k v ⟨_,_,h,_⟩=>h) (by
   rintro i v ⟨l,rfl,hi,hl⟩;by_cases hlt:i<e.args.length
   .left;have hwx:=an6 (getElem_mem hlt);obtain⟨x,hx⟩:=Zw hn ht hz m e.args[i] kn (hr _ (getElem_mem hlt)) (by omega);have key:∃b,((bif (e.op==(16:Int))then(bif (decide ((i:Int)>(0:Int)))then(ck (co 0 l.length) ((br l ((0:Nat)+0:Int)).bind λx2=>some (!((x2 !=(0:Int))==((i:Int)==(1:Int))))))else some false)else some false):J (Bool))=some b:=by
     refine fq ?_ ⟨_,rfl⟩;by_cases h0:(i:Int)>0
     .simp only[h0,decide_true,aj,J2 (show 0<l.length by omega),PX (show 0<l.length by omega),af];exact⟨_,rfl⟩
     .simp only[h0,decide_false,ak];exact⟨_,rfl⟩
    obtain⟨b,hb⟩:=key;have hap:∀z:Int,bP l.length l.length (sub [z] 0 1).length 1 8=true:=λz=>(by simp[bP,sub];omega);simp only[fw,show decide ((i:Int)<(e.args.length:Int))=true from by simp;omega,aj,bf hlt,af,hb,Ab,hx,hap,dY,aD,aP i];cases b with
    |true=>exact⟨_,rfl,_,rfl,hlt,by simp[sub,hl]⟩
    |false=>exact⟨_,rfl,_,rfl,hlt,by simp[sub,hl]⟩
   .right;refine⟨(kn,l),?_,l,rfl,by omega⟩;simp only[fw,show decide ((i:Int)<(e.args.length:Int))=false from by simp;omega,ak,aD,aj]) n 0 ((0:Int),kn,[]) ⟨[],rfl,Nat.zero_le _,rfl⟩ (by omega)
  simp only[fH,length_nil,aD,aj,h1,af,Ab,alL hn ht];cases h0:(e.op==0)with
  |true=>exact⟨_,rfl⟩
  |false=>
  cases h1:(e.op==1)with
  |true=>exact⟨_,rfl⟩
  |false=>
  cases h2:(e.op==2)with
  |true=>exact⟨_,rfl⟩
  |false=>
  cases h3:(e.op==3)with
  |true=>
   have⟨r,hr⟩:=abq (n:=n) (l:=zs) (s:=e.s) hz hn;have⟨r2,hr2⟩:=Zv r;simp only[ak,aj,hr,hr2,af];exact⟨_,rfl⟩
  |false=>
  cases h9:(e.op==9)with
  |true=>
   have e9:e.op=9:=(by simpa using h9);rw[e9]at ha;have:l.length=1:=(by have h:some ((1:Int),true)=some ((e.args.length:Int),true):=ha;simp at h;omega);simp only[ak,aj,J2 (show 0<l.length by omega),PX (show 0<l.length by omega),af];exact⟨_,rfl⟩
  |false=>
  cases My:(e.op==15)with
  |true=>
   have e15:e.op=15:=(by simpa using My);rw[e15]at ha;have:l.length=1:=(by have h:some ((1:Int),true)=some ((e.args.length:Int),true):=ha;simp at h;omega);obtain⟨r2,hr2⟩:=Zv (l[0]'(by omega)==0);simp only[ak,aj,J2 (show 0<l.length by omega),PX (show 0<l.length by omega),af,hr2];exact⟨_,rfl⟩
  |false=>
  cases h16:(e.op==16)with
  |true=>
   have e16:e.op=16:=(by simpa using h16);rw[e16]at ha;have:l.length=3:=(by have h:some ((3:Int),true)=some ((e.args.length:Int),true):=ha;simp at h;omega);simp only[ak,aj,J2 (show 0<l.length by omega),PX (show 0<l.length by omega),agW (show 1<l.length by omega),akt (show 1<l.length by omega),an7 (show 2<l.length by omega),apC (show 2<l.length by omega),af];cases (l[0]'(by omega) !=0)<;>exact⟨_,rfl⟩
  |false=>
   have:l.length=2:=(by have:=alM h0 h1 h2 h3 h9 My h16 ha;omega);obtain⟨r,hr⟩:=agV e.op (l[0]'(by omega)) (l[1]'(by omega));simp only[ak,aj,J2 (show 0<l.length by omega),PX (show 0<l.length by omega),agW (show 1<l.length by omega),akt (show 1<l.length by omega),af,hr];exact⟨_,rfl⟩
end
theorem ai3{ms:U bQ}(h:ms.length<=4000000)(hn:4000002<=n):∃o,iter (kJ n ms) n ((0:Int),([]:U (ByteArray×Int)),([]:U (ByteArray×Bool)))=some o:=by
 obtain⟨o,h,_⟩:=fQ (step:=kJ n ms) (λ i (v:Int×List (ByteArray×Int)×List (ByteArray×Bool))=>∃a b,v=((i:Int),a,b)/\i<=ms.length) (λ _=>True) ms.length (λ k v ⟨_,_,_,h⟩=>h) (by
  rintro i v ⟨a,b,rfl,hi⟩;by_cases hlt:i<ms.length
  .left;simp only[kJ,show decide ((i:Int)<(ms.length:Int))=true from by simp;omega,aj,bf hlt,af,aP i];cases (!((fI Gb.lf ms[i].name b).getD false))<;>exact⟨_,rfl,_,_,rfl,hlt⟩
  .right;simp only[kJ,show decide ((i:Int)<(ms.length:Int))=false from by simp;omega,ak];exact⟨_,rfl,trivial⟩) n 0 _ ⟨[],[],rfl,Nat.zero_le _⟩ (by omega)
 exact⟨o,h⟩
structure ai4(p:cK):Prop where
 defs:ia p.defs
 tabs:N3 p.tables
theorem Nh{p:cK}{ms:U bQ}{zs:U ByteArray}(hp:ai4 p)(hm:ms.length<=4000000)(hz:zs.length<=4000000)(hn:5000003<=n)(hn2:n<=9223372036854775000):∃kn ab,mY n p ms zs=some (p.defs,p.tables,p.zones,p.rules,p.caps,p.views,p.uv,p.hours,zs,kn,ab)/\ab.length=p.defs.length:=by
 obtain⟨⟨w1,w2⟩,hs1⟩:=ai3 (n:=n) hm (by omega);have⟨r,hr,hrl,hrr,_⟩:=U8 (n:=n) hp.defs hn;have hl:=hp.defs.len;have hmx:maxLen=9223372036854775807:=rfl;have hmk:xw (p.defs.length:Int) 8=true:=by simp[xw];omega
 simp only[mY,hs1,af,Int.le_refl,decide_true,Bool.true_and,show decide ((0:Int)<=(p.defs.length:Int))=true from by simp,hmk,aj,hr];cases hb:(r.2.2 !=(0:Int))with
 |true=>
  simp only[aj,Int.toNat_natCast,List.length_replicate,aD];exact⟨_,_,rfl,by simp⟩
 |false=>
  obtain⟨o,h1,kn,ab,rfl,h2⟩:=fQ (step:=gW n p zs w2 r) (λ i (v:Int×List (ByteArray×Int)×List Int)=>∃kn ab,v=((i:Int),kn,ab)/\i<=r.1.length/\ab.length=p.defs.length)
   (λ o=>∃kn ab,o=(kn,ab)/\ab.length=p.defs.length) r.1.length (λ k v ⟨_,_,_,h,_⟩=>h) (by
   rintro i v ⟨kn,ab,rfl,hi,hol⟩;by_cases hlt:i<r.1.length
   .left;have hk:=hrr r.1[i] (getElem_mem hlt);obtain⟨k,hk2⟩:=Int.eq_ofNat_of_zero_le hk.1;have hkd:k<p.defs.length:=(by omega);have hko:k<ab.length:=(by omega);have hbw:=hp.defs.body (getElem_mem hkd);obtain⟨b,hb1,hb2⟩:=Uy (n:=n) (by omega) hn2 hbw;simp only[gW,show decide ((i:Int)<(r.1.length:Int))=true from by simp;omega,aj,bE hlt,bJ hlt,af,hk2,bf hkd,hb1,Int.toNat_natCast,bE hkd,bJ hko,aP i,show(((0:Nat):Int)+(k:Int)).toNat=k by omega];have step2:∀(Sf:U (ByteArray×Int)) (out':U Int),out'.length=p.defs.length->∃Se,((bif (!((fI Gb.lf p.defs[k].name w2).getD false))then(br out' ((0:Nat)+(k:Int):Int)).bind λx5=>some ((qg Gb.lf p.defs[k].name x5 Sf),out')else some (Sf,out')):J ((List (ByteArray×Int))×(List Int)))=some (Se,out'):=by
     intro Sf out' ho;cases (!((fI Gb.lf p.defs[k].name w2).getD false))with
     |true=>simp only[aj,bJ (show k<out'.length by omega),af];exact⟨_,rfl⟩
     |false=>exact⟨_,rfl⟩
    cases b with
    |true=>
     obtain⟨v,hv⟩:=Zw (n:=n) (a0:=p.defs) (a2:=p.zones) (a3:=p.rules) (a4:=p.caps) (a5:=p.views) (a6:=p.uv) (a7:=p.hours) (by omega) hp.tabs hz n _ kn (hb2 rfl) hbw;simp only[gB,hv,aj,af];obtain⟨kn2,h2⟩:=step2 kn (ab.set k v) (by simp[hol]);rw[h2];exact⟨_,rfl,_,_,rfl,hlt,by simp[hol]⟩
    |false=>
     simp only[ak,af];have⟨kn2,h2⟩:=step2 kn ab hol;rw[h2];exact⟨_,rfl,_,_,rfl,hlt,hol⟩
   .right;simp only[gW,show decide ((i:Int)<(r.1.length:Int))=false from by simp;omega,ak];exact⟨_,rfl,_,_,rfl,hol⟩) n 0 ((0:Int),w1,List.replicate p.defs.length 0) ⟨_,_,rfl,Nat.zero_le _,by simp⟩ (by omega)
  simp only[ak,Int.toNat_natCast,h1,af,h2,aD,aj];exact⟨_,_,rfl,h2⟩
theorem all_eq{d:aQ}(h:Sc d)(hn:1001<=n):xJ n d=some (lg d):=by simp only[xJ,Zm h hn,af,bK,aD,aj]
theorem abr(a b:ByteArray)(h:a.size<=4000000):∃r,strings_Contains a b=some r:=by
 simp only[strings_Contains,Nat.ble_eq_true_of_le h,aj];exact⟨_,rfl⟩
theorem Uz(c:Int):∃b,FE c=some b:=fq ⟨_,rfl⟩ ⟨_,rfl⟩
theorem ai5(c:Int):∃b,RI c=some b:=fq ⟨_,rfl⟩ ⟨_,rfl⟩
theorem alN(c:Int):∃b,BB c=some b:=uE (Uz c) λ_=>fq ⟨_,rfl⟩ (uE (ai5 c) λ_=>⟨_,rfl⟩)
theorem agX{s:ByteArray}{i:Nat}(h:i<s.size):∃c,TY s (i:Int)=some c:=by
 simp only[TY,show decide (0<=(i:Int))=true from by simp,aj,Int.toNat_natCast];rw[getElem?_pos s i h];exact⟨_,rfl⟩
theorem alO{s:ByteArray}{φ:(Int×Unit)->J Bool}(h:∀c,∃b,φ (c,())=some b)(hs:s.size<=4000000)(hn:4000002<=n):∃r,Pj n s φ=some r:=by
 obtain⟨o,h1,_⟩:=fQ (step:=BA s φ) (λ i (v:Int)=>v=(i:Int)/\i<=s.size) (λ _=>True) s.size (λ k v h=>h.2) (by
  rintro i v ⟨rfl,hi⟩;by_cases hlt:i<s.size
  .have⟨c,hc⟩:=agX hlt;have⟨b,hb⟩:=h c;simp only[BA,show decide ((i:Int)<(s.size:Int))=true from by simp;omega,aj,hc,af,hb,aP i];cases b with
   |true=>exact .inl ⟨_,rfl,rfl,hlt⟩
   |false=>exact .inr ⟨_,rfl,trivial⟩
  .simp only[BA,show decide ((i:Int)<(s.size:Int))=false from by simp;omega,ak,af];exact .inr ⟨_,rfl,trivial⟩) n 0 0 ⟨rfl,Nat.zero_le _⟩ (by omega)
 simp only[Pj,h1,af];exact⟨_,rfl⟩
theorem alP(s:ByteArray)(hn:4000002<=n):∃b,Pk n s=some b/\(b=true->s.size<=20):=by
 simp only[Pk];cases h0:(ByteArray.toList s==ByteArray.toList (⟨#[]⟩))with
 |true=>exact⟨false,by simp only[aj,af],λh=>(by cases h)⟩
 |false=>
  have hs:0<s.size:=by
   refine Nat.pos_of_ne_zero λh=>?_;have:s=⟨#[]⟩:=by
    obtain⟨⟨l⟩⟩:=s;have:l.length=0:=h;rw[List.eq_nil_of_length_eq_zero this]
   rw[this]at h0;simp at h0
  have⟨c,hc⟩:=agX hs;have hc':TY s 0=some c:=hc;have⟨b,hb⟩:=Uz c;simp only[ak,hc',af,hb];cases b with
  |false=>exact⟨false,by simp only[Bool.not_false,aj,af],λh=>(by cases h)⟩
  |true=>
   simp only[Bool.not_true,ak,af];by_cases h20:(s.size:Int)>20
   .exact⟨false,by simp only[h20,decide_true,aj],λh=>(by cases h)⟩
   .obtain⟨r,hr⟩:=alO (n:=n) (s:=s) (φ:=λ(y1:Int×Unit)=>BB y1.1) (λ c=>alN c) (by omega) hn;simp only[h20,decide_false,ak,hr,af];exact⟨_,rfl,λ_=>by omega⟩
theorem alQ(s:ByteArray)(hn:4000002<=n):∃b,xK n s=some b:=by
 have⟨b,hb,h20⟩:=alP (n:=n) s hn;simp only[xK,hb,af];cases b with
 |false=>exact⟨_,rfl⟩
 |true=>
  have hs:=h20 rfl;have hmx:maxLen=9223372036854775807:=rfl;have c1:XD (⟨#[32]⟩) s=true:=by
   have:(⟨#[32]⟩:ByteArray).size=1:=rfl;simp only[XD,aJ];omega
  have c2:XD ((⟨#[32]⟩)++s) (⟨#[32]⟩)=true:=by
   have h1:(⟨#[32]⟩:ByteArray).size=1:=rfl;simp only[XD,aJ,ByteArray.size_append];omega
  simp only[aj,c1,c2];refine uE (abr _ _ (Nat.le_of_ble_eq_true ?_)) λ_=>⟨_,rfl⟩
  kernel_rfl
theorem alR(a b:DM):∃r,yK a b=some r:=by
 unfold yK;rw[zY];exact fq (fq ⟨_,rfl⟩ ⟨_,rfl⟩) ⟨_,rfl⟩
theorem gq{l:U aH}{φ:(aH×Unit)->J Bool}(p:aH->Bool)(h:∀x∈l,φ (x,())=some (p x))(hl:l.length<1099511627776)(hn:l.length<n):fU n l φ=some (l.any p):=by
 have:rJ n l φ=some (zI p l):=fT p h hl hn;simp only[fU,this,af,uL]
theorem yY{l:U aH}{φ:(aH×Unit)->J Bool}(h:∀x∈l,∃b,φ (x,())=some b)(hl:l.length<1099511627776)(hn:l.length<n):fU n l φ=some (l.any λx=>(φ (x,())).getD false):=
 gq _ (λ x hx=>by have⟨b,hb⟩:=h x hx;rw[hb];rfl) hl hn
def Kx(d:aQ):Prop:=∀p∈d.phases,p.gives.length<=1000
theorem ai6{l:U aH}(hl:l.length<=1000000)(hn:4000002<=n):iter (lG n l) n (0:Int)=some (.inr false)\/(iter (lG n l) n (0:Int)=some (.inl ())/\∀v∈l,okV v=true):=by
 obtain⟨o,h1,h2⟩:=fQ (step:=lG n l) (λ i (v:Int)=>v=(i:Int)/\i<=l.length/\∀x∈l.take i,okV x=true) (λ o=>o= .inr false\/(o= .inl ()/\∀v∈l,okV v=true)) l.length (λ k v h=>h.2.1) (by
  rintro i v ⟨rfl,hi,hall⟩;by_cases hlt:i<l.length
  .simp only[lG,show decide ((i:Int)<(l.length:Int))=true from by simp;omega,aj,bE hlt,bJ hlt,af,vJ,aP i];cases hv:okV l[i]with
   |false=>exact .inr ⟨_,by simp only[Bool.not_false,aj,af];rfl,.inl rfl⟩
   |true=>
    have hsub:(sub l 0 i).length=i:=(by simp[sub];omega);have hc:=yY (n:=n) (l:=sub l 0 i) (φ:=λ(y1:aH×Unit)=>tC y1.1 l[i]) (λ x _=>uE (alR _ _) λ_=>⟨_,rfl⟩) (by omega) (by omega);simp only[Bool.not_true,ak,wz (show (0:Int)<=0 by omega) (show (0:Int)<=(i:Int)by omega) (show (i:Int)<=(l.length:Int)by omega),aj,Int.toNat_natCast,Rq hsub,hc,af];cases ((sub l 0 i).any λx=>((λ (y1:aH×Unit)=>tC y1.1 l[i]) (x,())).getD false)with
    |true=>exact .inr ⟨_,rfl,.inl rfl⟩
    |false=>
     refine .inl ⟨_,rfl,rfl,hlt,λx hx=>?_⟩;rw[List.take_add_one,bX hlt,bg]at hx;rcases hx with hx |hx
     .exact hall x hx
     .simp at hx;subst hx;exact hv
  .refine .inr ⟨.inl (),?_,.inr ⟨rfl,λv hv=>hall v (by rw[take_of_length_le (by omega)];exact hv)⟩⟩;simp only[lG,show decide ((i:Int)<(l.length:Int))=false from by simp;omega,ak]) n 0 0 ⟨rfl,Nat.zero_le _,by simp⟩ (by omega)
 rcases h2 with rfl |⟨rfl,h2⟩
 .exact .inl h1
 .exact .inr ⟨h1,h2⟩
theorem ai7{p:qj}(hp:p.gives.length<=1000)(hn:4000002<=n):iter (lH n p) n ((0:Int),([]:U (ByteArray×Bool)))=some (.inl ())\/iter (lH n p) n ((0:Int),([]:U (ByteArray×Bool)))=some (.inr (.inr (.inr false))):=by
 obtain⟨o,h1,h2⟩:=fQ (step:=lH n p) (λ i (v:Int×List (ByteArray×Bool))=>∃m,v=((i:Int),m)/\i<=p.gives.length) (λ o=>o= .inl ()\/o= .inr (.inr (.inr false))) p.gives.length (λ k v ⟨_,_,h⟩=>h) (by
  rintro i v ⟨m,rfl,hi⟩;by_cases hlt:i<p.gives.length
  .have key:∃b,((bif ((fI Gb.lf p.gives[i].name m).getD false)then some true else(xK n p.gives[i].name).bind λr4=>(bif (!r4)then some true else(bif (decide (p.gives[i].n<(0:Int)))then some true else some (decide (p.gives[i].n>(1073741824:Int)))))):J (Bool))=some b:=
    fq ⟨_,rfl⟩ (uE (alQ _ hn) λ_=>fq ⟨_,rfl⟩ (fq ⟨_,rfl⟩ ⟨_,rfl⟩))
   obtain⟨b,hb⟩:=key;simp only[lH,show decide ((i:Int)<(p.gives.length:Int))=true from by simp;omega,aj,bf hlt,af,hb,aP i];cases b with
   |true=>exact .inr ⟨_,rfl,.inr rfl⟩
   |false=>exact .inl ⟨_,rfl,_,rfl,hlt⟩
  .simp only[lH,show decide ((i:Int)<(p.gives.length:Int))=false from by simp;omega,ak];exact .inr ⟨_,rfl,.inl rfl⟩) n 0 _ ⟨[],rfl,Nat.zero_le _⟩ (by omega)
 rcases h2 with rfl |rfl
 .exact .inl h1
 .exact .inr h1
theorem ai8{d:aQ}(hd:Sc d)(hg:Kx d)(hn:4000002<=n):iter (lI n d) n (0:Int)=some (.inl ())\/iter (lI n d) n (0:Int)=some (.inr false):=by
 have hd1:=hd.1;obtain⟨o,h1,h2⟩:=fQ (step:=lI n d) (λ i (v:Int)=>v=(i:Int)/\i<=d.phases.length) (λ o=>o= .inl ()\/o= .inr false) d.phases.length (λ k v h=>h.2) (by
  rintro i v ⟨rfl,hi⟩;by_cases hlt:i<d.phases.length
  .simp only[lI,show decide ((i:Int)<(d.phases.length:Int))=true from by simp;omega,aj,bf hlt,af,aP i];rcases ai7 (n:=n) (hg _ (getElem_mem hlt)) hn with h |h
   .simp only[h,dU];cases decide ((d.phases[i].gives.length:Int)>30)with
    |true=>exact .inr ⟨_,rfl,.inr rfl⟩
    |false=>exact .inl ⟨_,rfl,rfl,hlt⟩
   .simp only[h,jy];exact .inr ⟨_,rfl,.inr rfl⟩
  .simp only[lI,show decide ((i:Int)<(d.phases.length:Int))=false from by simp;omega,ak];exact .inr ⟨_,rfl,.inl rfl⟩) n 0 0 ⟨rfl,Nat.zero_le _⟩ (by omega)
 rcases h2 with rfl |rfl
 .exact .inl h1
 .exact .inr h1
theorem K8{d:aQ}(hd:Sc d):(lg d).length<=1000000:=by
 have:=ee hd.2;have:=hd.1;unfold lg;omega
theorem apD{d:aQ}(hd:Sc d)(hg:Kx d)(hn:4000002<=n):∃b,yL n d=some b/\(b=true->∀v∈lg d,okV v=true):=by
 simp only[yL,all_eq hd (show 1001<=n by omega),af];have key:∀c1 c2 c3 c4 c5 c6:Bool,∃b,((bif c1 then some true else(bif c2 then some true else(bif c3 then some true else(bif c4 then some true else(bif c5 then some true else some c6))))):J Bool)=some b:=by
  intro c1 c2 c3 c4 c5 c6;exact fq ⟨_,rfl⟩ (fq ⟨_,rfl⟩ (fq ⟨_,rfl⟩ (fq ⟨_,rfl⟩ (fq ⟨_,rfl⟩ ⟨_,rfl⟩))))
 have⟨b,hb⟩:=key (decide (d.lot<0)) (decide (d.lot>1073741824)) (decide ((d.phases.length:Int)<1)) (decide ((d.phases.length:Int)>8)) (decide (((lg d).length:Int)<1)) (decide (((lg d).length:Int)>40));rw[hb];cases b with
 |true=>exact⟨false,rfl,λh=>(by cases h)⟩
 |false=>
  simp only[af,ak];rcases ai6 (n:=n) (K8 hd) hn with h |⟨h,hall⟩
  .simp only[h,jy];exact⟨false,rfl,λh=>(by cases h)⟩
  .simp only[h,dU];rcases ai8 (n:=n) hd hg hn with h2 |h2
   .simp only[h2,dU];exact⟨true,rfl,λ_=>hall⟩
   .simp only[h2,jy];exact⟨false,rfl,λh=>(by cases h)⟩
theorem FY{l:U gJ}{φ:(gJ×Unit)->J Bool}(p:gJ->Bool)(h:∀x∈l,φ (x,())=some (p x))(hl:l.length<1099511627776)(hn:l.length<n):nD n l φ=some (l.any p):=by
 have:wH n l φ=some (zI p l):=fT p h hl hn;simp only[nD,this,af,uL]
theorem an9{lot:gI}{l:U aH}(ha:lot.area.length<=900)(hv:∀v∈l,okV v=true)(hl:l.length<=1000000)(hn:4000002<=n):iter (kF n lot l) n (0:Int)=some (.inl ())\/iter (kF n lot l) n (0:Int)=some (.inr false):=by
 obtain⟨o,h1,h2⟩:=fQ (step:=kF n lot l) (λ i (v:Int)=>v=(i:Int)/\i<=l.length) (λ o=>o= .inl ()\/o= .inr false) l.length (λ k v h=>h.2) (by
  rintro i v ⟨rfl,hi⟩;by_cases hlt:i<l.length
  .have hb:=Zl (hv _ (getElem_mem hlt));have hcl:=aef (keep:=λp q=>p&&q) lot.area [gM l[i]];have hc:=aee (n:=n) (a:=lot.area) (b:=[gM l[i]]) (by omega) (by simp) (by omega) (by simp;omega) (by omega);have hA:=Y2 (n:=n) (a:=(vF (λ p q=>p&&q) lot.area [gM l[i]]).1) (by omega) (by omega);have hr:=Em hb;simp only[gM]at hc hA hr;simp only[kF,show decide ((i:Int)<(l.length:Int))=true from by simp;omega,aj,bE hlt,bJ hlt,af,show ∀r:ax,sub [r] 0 1=[r]from λ_=>rfl,length_singleton,aD,hc,hA,hr,aP i];have key:∀c x:Bool,∃b,((bif c then some true else some x):J Bool)=some b:=λc x=>fq ⟨_,rfl⟩ ⟨_,rfl⟩;obtain⟨b,hb2⟩:=key ((vF (λ p q=>p&&q) lot.area [⟨l[i].bx,l[i].ca,l[i].bu,l[i].b9⟩]).2 !=0) (decide ((bif cz (vF (λ p q=>p&&q) lot.area [⟨l[i].bx,l[i].ca,l[i].bu,l[i].b9⟩]).1 then Na (vF (λ p q=>p&&q) lot.area [⟨l[i].bx,l[i].ca,l[i].bu,l[i].b9⟩]).1 else 0)<Lz ⟨l[i].bx,l[i].ca,l[i].bu,l[i].b9⟩));rw[hb2];cases b with
   |true=>exact .inr ⟨_,rfl,.inr rfl⟩
   |false=>exact .inl ⟨_,rfl,rfl,hlt⟩
  .simp only[kF,show decide ((i:Int)<(l.length:Int))=false from by simp;omega,ak];exact .inr ⟨_,rfl,.inl rfl⟩) n 0 0 ⟨rfl,Nat.zero_le _⟩ (by omega)
 rcases h2 with rfl |rfl
 .exact .inl h1
 .exact .inr h1
theorem aoa{p:cK}{ph:qj}(hc:p.caps.length<=4000000)(hp:ph.gives.length<=1000)(hn:4000002<=n):iter (kG n p ph) n (0:Int)=some (.inl ())\/iter (kG n p ph) n (0:Int)=some (.inr (.inr (.inr false))):=by
 obtain⟨o,h1,h2⟩:=fQ (step:=kG n p ph) (λ i (v:Int)=>v=(i:Int)/\i<=ph.gives.length) (λ o=>o= .inl ()\/o= .inr (.inr (.inr false))) ph.gives.length (λ k v h=>h.2) (by
  rintro i v ⟨rfl,hi⟩;by_cases hlt:i<ph.gives.length
  .simp only[kG,show decide ((i:Int)<(ph.gives.length:Int))=true from by simp;omega,aj,bf hlt,af,FY (n:=n) (l:=p.caps) (φ:=λ(y1:gJ×Unit)=>wG y1.1 ph.gives[i]) (λ c=>ByteArray.toList c.name==ByteArray.toList ph.gives[i].name) (λ _ _=>rfl) (by omega) (by omega),aP i];cases (p.caps.any λc=>ByteArray.toList c.name==ByteArray.toList ph.gives[i].name)with
   |false=>exact .inr ⟨_,rfl,.inr rfl⟩
   |true=>exact .inl ⟨_,rfl,rfl,hlt⟩
  .simp only[kG,show decide ((i:Int)<(ph.gives.length:Int))=false from by simp;omega,ak];exact .inr ⟨_,rfl,.inl rfl⟩) n 0 0 ⟨rfl,Nat.zero_le _⟩ (by omega)
 rcases h2 with rfl |rfl
 .exact .inl h1
 .exact .inr h1
theorem aoc{p:cK}{d:aQ}(hc:p.caps.length<=4000000)(hd:Sc d)(hg:Kx d)(hn:4000002<=n):iter (kH n p d) n (0:Int)=some (.inl ())\/iter (kH n p d) n (0:Int)=some (.inr false):=by
 have hd1:=hd.1;obtain⟨o,h1,h2⟩:=fQ (step:=kH n p d) (λ i (v:Int)=>v=(i:Int)/\i<=d.phases.length) (λ o=>o= .inl ()\/o= .inr false) d.phases.length (λ k v h=>h.2) (by
  rintro i v ⟨rfl,hi⟩;by_cases hlt:i<d.phases.length
  .simp only[kH,show decide ((i:Int)<(d.phases.length:Int))=true from by simp;omega,aj,bf hlt,af,aP i];rcases aoa (n:=n) hc (hg _ (getElem_mem hlt)) hn with h |h
   .simp only[h,dU];exact .inl ⟨_,rfl,rfl,hlt⟩
   .simp only[h,jy];exact .inr ⟨_,rfl,.inr rfl⟩
  .simp only[kH,show decide ((i:Int)<(d.phases.length:Int))=false from by simp;omega,ak];exact .inr ⟨_,rfl,.inl rfl⟩) n 0 0 ⟨rfl,Nat.zero_le _⟩ (by omega)
 rcases h2 with rfl |rfl
 .exact .inl h1
 .exact .inr h1
theorem alS{p:cK}{lot:gI}{d:aQ}(hc:p.caps.length<=4000000)(ha:lot.area.length<=900)(hd:Sc d)(hg:Kx d)(hn:4000002<=n):∃b,pK n p lot d=some b/\(b=true->∀v∈lg d,okV v=true):=by
 have⟨b,hb,hv⟩:=apD (n:=n) hd hg hn;simp only[pK,hb,af];cases b with
 |false=>exact⟨false,by simp only[Bool.not_false,aj,af],λh=>(by cases h)⟩
 |true=>
  simp only[Bool.not_true,ak,jq (n:=n) (l:=lot.area) (by omega) (by omega) (by omega),af];cases (lot.id !=d.lot)with
  |true=>exact⟨false,by simp only[aj,af],λh=>(by cases h)⟩
  |false=>
   cases cz lot.area with
   |false=>exact⟨false,by simp only[Bool.not_false,aj,ak,af],λh=>(by cases h)⟩
   |true=>
    simp only[Bool.not_true,ak,af,all_eq hd (show 1001<=n by omega)];rcases an9 (n:=n) ha (hv rfl) (K8 hd) hn with h |h
    .simp only[h,dU];rcases aoc (n:=n) hc hd hg hn with h2 |h2
     .simp only[h2,dU];exact⟨true,rfl,λ_=>hv rfl⟩
     .simp only[h2,jy];exact⟨false,rfl,λh=>(by cases h)⟩
    .simp only[h,jy];exact⟨false,rfl,λh=>(by cases h)⟩
theorem apE{p:cK}{ms:U bQ}{zs:U ByteArray}{e:dW}(hp:ai4 p)(hm:ms.length<=4000000)(hz:zs.length<=4000000)(he:(toE e).wt<=4000000)(hn:5000003<=n)(hn2:n<=9223372036854775000):∃v,BJ n p ms zs e=some v:=by
 obtain⟨b,hb,hv⟩:=Uy (n:=n) (by omega) hn2 he;simp only[BJ,Ab,hb,af];cases b with
 |false=>exact⟨_,rfl⟩
 |true=>
  have⟨kn,ab,h1,_⟩:=Nh (n:=n) hp hm hz hn hn2;obtain⟨v,h2⟩:=Zw (n:=n) (a0:=p.defs) (a2:=p.zones) (a3:=p.rules) (a4:=p.caps) (a5:=p.views) (a6:=p.uv) (a7:=p.hours) (by omega) hp.tabs hz n e kn (hv rfl) he;simp only[Bool.not_true,ak,h1,af,gB,h2];exact⟨_,rfl⟩
section
variable {n:Nat} {d:List fG} {ts:List bT} {z:List dV} {r r':List bC} {c c':List gJ} {v v':List fA} {su sm:List bS} {h h':Int} {zs:List ByteArray}
theorem J3:∀(m:Nat)(e:dW)(kn:U (ByteArray×Int)),bW n m d ts z r c v su h zs e kn=bW n m d ts z r' c' v' sm h' zs e kn
 | 0,_,_=>rfl
 |m+1,e,kn=>by
  have ih:=J3 m;have hs:fw n (bW n m) d ts z r c v su h zs e=fw n (bW n m) d ts z r' c' v' sm h' zs e:=by
   funext ⟨v1,v2,v3⟩;simp only[fw,ih]
  have hr:∀w,jI n d ts z r c v su h zs e w=jI n d ts z r' c' v' sm h' zs e w:=λ_=>rfl;show fH n (bW n m) d ts z r c v su h zs e kn=fH n (bW n m) d ts z r' c' v' sm h' zs e kn;simp only[fH,hs,Ab,hr]
theorem ai9{ms:U bQ}:(mY n (cK.mk d ts z r c v su h) ms zs).map (λ q=>q.2.2.2.2.2.2.2.2.2)=(mY n (cK.mk d ts z r' c' v' sm h') ms zs).map (λ q=>q.2.2.2.2.2.2.2.2.2):=by
 have hs:∀w2 r1,gW n (cK.mk d ts z r c v su h) zs w2 r1=gW n (cK.mk d ts z r' c' v' sm h') zs w2 r1:=by
  intro w2 r1;funext ⟨v6,v7,v8⟩;have hv:∀e kn,gB n d ts z r c v su h zs e kn=gB n d ts z r' c' v' sm h' zs e kn:=λe kn=>J3 n e kn;simp only[gW,hv]
 have ho:oH n (cK.mk d ts z r c v su h)=oH n (cK.mk d ts z r' c' v' sm h'):=rfl;simp only[mY,hs,ho];cases iter (kJ n ms) n ((0:Int),([]:(List (ByteArray×Int))),([]:(List (ByteArray×Bool))))with
 |none=>rfl
 |some w=>
  obtain⟨w1,w2⟩:=w;simp only[af];cases (decide ((d.length:Int)<=(d.length:Int))&&(decide (0<=(d.length:Int))&&xw (d.length:Int) 8))with
  |false=>rfl
  |true=>
   simp only[aj];cases oH n (cK.mk d ts z r' c' v' sm h')with
   |none=>rfl
   |some r1=>
    simp only[af];cases (r1.2.2 !=(0:Int))with
    |true=>
     simp only[aj];cases be (((d.length:Int):Int).toNat) (List.replicate ((d.length:Int):Int).toNat (0:Int)).length<;>rfl
    |false=>
     simp only[ak];cases iter (gW n (cK.mk d ts z r' c' v' sm h') zs w2 r1) n ((0:Int),w1,(List.replicate ((d.length:Int):Int).toNat (0:Int)))with
     |none=>rfl
     |some q=>
      obtain⟨w3,w4⟩:=q;simp only[af];cases be (((d.length:Int):Int).toNat) w4.length<;>rfl
theorem aja{ms:U bQ}{e:dW}(hp:ia d)(ht:N3 ts)(hm:ms.length<=4000000)(hz:zs.length<=4000000)(hn:5000003<=n)(hn2:n<=9223372036854775000):BJ n (cK.mk d ts z r c v su h) ms zs e=BJ n (cK.mk d ts z r' c' v' sm h') ms zs e:=by
 have⟨kn,ab,h1,_⟩:=Nh (n:=n) (p:=cK.mk d ts z r c v su h) ⟨hp,ht⟩ hm hz hn hn2;have⟨kn2,out2,h2,_⟩:=Nh (n:=n) (p:=cK.mk d ts z r' c' v' sm h') ⟨hp,ht⟩ hm hz hn hn2;have h3:=ai9 (n:=n) (d:=d) (ts:=ts) (z:=z) (r:=r) (r':=r') (c:=c) (c':=c') (v:=v) (v':=v') (su:=su) (sm:=sm) (h:=h) (h':=h') (zs:=zs) (ms:=ms);rw[h1,h2]at h3;simp only[Option.map_some,ay,Prod.mk.injEq]at h3;obtain⟨rfl,rfl⟩:=h3;simp only[BJ,h1,h2,af,gB,J3 (r:=r) (r':=r') (c:=c) (c':=c') (v:=v) (v':=v') (su:=su) (sm:=sm) (h:=h) (h':=h')]
end
theorem U9{b:ax}{l:U d9}{s:U fK}(ha:∀c∈s,c.area.length<=200)(hs:s.length<=1000)(hl:l.length<=1000)(hn:2000<=n):
 yT n b l s=some (FU b l&&(FV s&&!(s.any λc=>decide (MM b l c.area<c.z1)))):=by
 unfold yT;rw[Zc b l hl hn];simp only[af];cases hv:FU b l with
 |false=>simp only[Bool.not_false,aj,af,Bool.false_and]
 |true=>
  have⟨v1,v2⟩:=(agr b l).1 hv;simp only[Bool.not_true,ak,Uu (n:=n) (s:=s) (λ x hx=>by have:=ha x hx;omega) (by omega),af,Bool.true_and];cases hr:FV s with
  |false=>simp only[Bool.not_false,aj,Bool.false_and]
  |true=>
   have⟨_,sok,_⟩:=(Ze s).1 hr;simp only[Bool.not_true,ak,Bool.true_and];rw[uz (λ c=>decide (MM b l c.area<c.z1)) (λ c hc=>by
    have:=ha c hc;show tN n c b l=_;unfold tN;rw[U0 v1 v2 (vD (sok c hc).rt).1 (by omega) hl hn];rfl) (by omega) (by omega)]
   simp only[af]
def wI(v:aH):U fK:=[⟨v.eh,v.d6,[gM v]⟩]
theorem agY(v:aH):yQ v=some (wI v):=rfl
def WL(b:ax)(p:d9)(v:aH):Bool:=FU b [p]&&(FV (wI v)&&!((wI v).any λc=>decide (MM b [p] c.area<c.z1)))
def Si(r:bC):d9:=d9.mk r.gC r.gE r.ix r.iz
theorem aeu(v:aH)(b:ax)(r:bC)(hn:2000<=n):j5 n v b r=some (!WL b (Si r) v):=by
 have h:=U9 (n:=n) (b:=b) (l:=[Si r]) (s:=wI v) (by simp[wI]) (by simp[wI]) (by simp) hn;unfold Si at h;have hl:(wI v).length=1:=rfl;simp only[j5,agY,af,bK,aD,aj,show ∀x:d9,sub [x] 0 1=[x]from λ_=>rfl,length_singleton,h,WL,Si];rfl
def N2(r:bC)(v:aH):Bool:=bits .and .i64 r.uses (i64.wrap (1*2 ^ (v.use:Int).toNat))==(0:Int)
theorem aev{v:aH}(h:okV v=true)(r:bC):j6 v r=some (N2 r v):=by
 have hu:0<=v.use/\v.use<6:=by
  simp only[okV,aG,aJ]at h;omega
 have hb:i64.bits=64:=rfl;simp only[j6,N2,show(decide (0<=v.use)&&decide (v.use<=i64.bits))=true from by simp[hb];omega,aj]
def PH(lot:Int)(r:bC)(v:aH)(b:jR):Bool:=(dZ b (mU.mk [] [] [] [] [] [] [] 0 [] [] [] [] [] 0 0 [] [] lot [] [] []) v r).getD false
theorem agZ{b:jR}{s:mU}{v:aH}{r:bC}:dZ b s v r=some (PH s.dt r v b):=by
 have key:∃x,dZ b (mU.mk [] [] [] [] [] [] [] 0 [] [] [] [] [] 0 0 [] [] s.dt [] [] []) v r=some x:=by
  simp only[dZ,jK,agm,af];refine uE (fq ⟨_,rfl⟩ (fq ⟨_,rfl⟩ (fq ⟨_,rfl⟩ ⟨_,rfl⟩))) λ_=>fq ⟨_,rfl⟩ (uE (fq (fq ⟨_,rfl⟩ (fq ⟨_,rfl⟩ ⟨_,rfl⟩)) (fq ⟨_,rfl⟩ ⟨_,rfl⟩)) λ_=>fq ⟨_,rfl⟩ ⟨_,rfl⟩)
 have e:dZ b s v r=dZ b (mU.mk [] [] [] [] [] [] [] 0 [] [] [] [] [] 0 0 [] [] s.dt [] [] []) v r:=rfl;obtain⟨x,hx⟩:=key;rw[e,PH,hx];rfl
theorem Az{l:U jR}{φ:(jR×Unit)->J Bool}(p:jR->Bool)(h:∀x∈l,φ (x,())=some (p x))(hl:l.length<1099511627776)(hn:l.length<n):kg n l φ=some (l.any p):=by
 have:rO n l φ=some (zI p l):=fT p h hl hn;simp only[kg,this,af,uL]
def PF(built:U jR)(lot:Int)(r:bC)(v:aH):Bool:=built.any (PH lot r v)
theorem aey{s:mU}{v:aH}{r:bC}(hb:s.ft.length<=1000)(hn:2000<=n):ko n v s r=some (PF s.ft s.dt r v):=by simp only[ko,tY,Az (n:=n) (l:=s.ft) (φ:=λ(y1:jR×Unit)=>dZ y1.1 s v r) (PH s.dt r v) (λ x _=>agZ) (by omega) (by omega),af,PF]
def lE(r:bC):dW:=dW.mk r.nj r.qk r.qe r.lz r.iv
def mz(t:dK):cK:=cK.mk t.cd t.bk t.b7 [] t.cw t.cp t.cJ t.ct
structure FS(t:dK):Prop where
 lots:∀l∈t.land,At l
 land:t.land.length<=1000
 eas:t.cg.length<=900/\∀e∈t.cg,e.area.length<=900
 built:t.built.length<=1000
 zones:t.b7.length<=100
 caps:t.cw.length<=4000000
 rules:t.aE.length<=100
 rule:∀r∈t.aE,aiM r/\(toE (lE r)).wt<=4000000
 plan:ai4 (mz t)
def J1(d:aQ):Prop:=Sc d/\Kx d
def J0(n:Nat):Prop:=5000003<=n/\n<=9223372036854775000
def wJ(t:dK)(lot:gI):U ByteArray:=Fc t.b7 lot.area
def sL(t:dK)(lot:gI)(d:aQ):mU:=mU.mk t.cd t.bk t.b7 t.aE t.cw t.cp t.cJ t.ct t.land t.cg t.windows t.built t.base lot.id lot.owner lot.area lot.from_ d.lot d.phases (lg d) (wJ t lot)
theorem aof{d:aQ}(h:Sc d)(hn:1001<=n):ve n d=some (lg d):=by
 obtain⟨h1,h2⟩:=h;unfold ve;have key:=gY (step:=p8 d) (λ i=>((i:Int),(d.phases.take i).flatMap (·.cj))) (s:=((0:Int),([]:U aH))) d.phases.length (lg d) rfl (λ i hi=>by
  have hl:=ee (l:=d.phases.take i) λp hp=>h2 p (List.mem_of_mem_take hp);rw[length_take]at hl;have hv:=h2 _ (getElem_mem hi);generalize hL:(d.phases.take i).flatMap (·.cj)=L at hl;have hap:bP L.length L.length d.phases[i].cj.length d.phases[i].cj.length 72=true:=cu (by omega) (by simp only[maxLen];omega);simp only[p8,bZ hi,aj,bf hi,af,hap,dY,aD,aP i];rw[fD hi,List.flatMap_append,hL];simp only[List.flatMap_cons,List.flatMap_nil,append_nil]) (by simp only[p8,dX,ak,aD,aj,List.take_length,lg]) n (by omega)
 have hz:be 0 ([]:U aH).length=true:=rfl;simp only[hz,aj,key,af,bK,aD]
def X1(n:Nat)(t:dK)(d:aQ):Bool:=(pK n (mz t) (dw t.land d.lot).1 d).getD false
def J4(n:Nat)(t:dK)(d:aQ):Int:=bif(dw t.land d.lot).2 then(bif X1 n t d then 0 else 1)else 4
def ars:mU:=mU.mk ([]) ([]) ([]) ([]) ([]) ([]) ([]) 0 ([]) ([]) ([]) ([]) ([]) 0 0 ([]) ([]) 0 ([]) ([]) ([])
theorem look_eq{t:dK}{d:aQ}(ht:FS t)(hd:J1 d)(hn:J0 n):BD n t d=some (bif J4 n t d==0 then sL t (dw t.land d.lot).1 d else ars,J4 n t d)/\(J4 n t d=0->∀v∈lg d,okV v=true):=by
 obtain⟨hn1,hn2⟩:=hn;have hl:=ht.land;have e1:Bw n t.land d.lot=some (dw t.land d.lot):=acT ht.lots (by omega) (by omega);have hw:=K3 ht.lots d.lot;obtain⟨b,hb,hv⟩:=alS (n:=n) (p:=mz t) (lot:=(dw t.land d.lot).1) (d:=d) ht.caps hw.1 hd.1 hd.2 (by omega);have e2:pK n (cK.mk t.cd t.bk t.b7 t.aE t.cw t.cp t.cJ t.ct) (dw t.land d.lot).1 d=some b:=hb;have e3:Ee n (cK.mk t.cd t.bk t.b7 t.aE t.cw t.cp t.cJ t.ct) (dw t.land d.lot).1.area=some (Fc t.b7 (dw t.land d.lot).1.area):=aeh _ _ ht.zones hw.1 (by omega);have e4:X1 n t d=b:=by unfold X1;rw[hb];rfl
 simp only[BD,e1,e2,e3,aof hd.1 (show 1001<=n by omega),af,bK,aD,aj,J4,e4];cases (dw t.land d.lot).2 with
 |false=>exact⟨rfl,λh=>absurd (show (4:Int)=0 from h) (by decide)⟩
 |true=>
  cases b with
  |false=>exact⟨rfl,λh=>absurd (show (1:Int)=0 from h) (by decide)⟩
  |true=>exact⟨rfl,λ_=>hv rfl⟩
def ap0(n:Nat)(t:dK)(lot:gI)(d:aQ)(r:bC):Bool:=((om n (mz t) lot d).bind λms=>BJ n (mz t) ms (wJ t lot) (lE r)).getD 1==0
def DH(n:Nat)(t:dK)(lot:gI)(d:aQ)(r:bC):Bool:=
 bif r.kind==0 then ap0 n t lot d r else bif r.kind==1 then(lg d).any (λ v=>!WL (WE lot.area).1 (Si r) v)else bif r.kind==2 then(lg d).any (N2 r)else bif r.kind==3 then(lg d).any (PF t.built d.lot r)else false
theorem Zx{t:dK}(ht:FS t)(lot:gI):(wJ t lot).length<=100:=Nat.le_trans (apg _ _) ht.zones
theorem alU{t:dK}{lot:gI}{d:aQ}{r:bC}(ht:FS t)(hl:lot.area.length<=900)(hd:J1 d)(hv:∀v∈lg d,okV v=true)(hr:(toE (lE r)).wt<=4000000)(hn:J0 n):nG n (sL t lot d) r=some (DH n t lot d r):=by
 obtain⟨hn1,hn2⟩:=hn;have hvl:=K8 hd.1;have hz:=Zx ht lot;simp only[nG,gX,DH];cases (r.kind==0)with
 |true=>
  have htb:=ht.plan.tabs;obtain⟨e1,e2,e3,e4,e5,e6,e7,e8,hOf⟩:=apZ (n:=n) (p:=mz t) (lot:=lot) (d:=d) ⟨by have:=htb.1;omega,by have:=htb.1;omega,λx hx=>by have:=htb.2 x hx;omega⟩ hl hd.1 (by omega);have h1:=hOf t.aE;have h2:=hOf [];have h2':om n (mz t) lot d=_:=h2;have h1':om n (cK.mk t.cd t.bk t.b7 t.aE t.cw t.cp t.cJ t.ct) (gI.mk lot.id lot.owner lot.area lot.from_) (aQ.mk d.lot d.phases)=_:=h1;obtain⟨v,hE⟩:=apE (n:=n) (p:=mz t) (ms:=[⟨⟨#[97,114,101,97]⟩,e1⟩,⟨⟨#[99,111,118,101,114]⟩,e2⟩,⟨⟨#[102,108,111,111,114]⟩,e3⟩,⟨⟨#[102,108,111,111,114,115]⟩,e4⟩,⟨⟨#[104,101,105,103,104,116]⟩,e5⟩,⟨⟨#[104,111,109,101,115]⟩,e6⟩,⟨⟨#[114,117,110,111,102,102]⟩,e7⟩,⟨K5,pE (ni lot) (fu d)⟩,⟨⟨#[116,114,97,102,102,105,99]⟩,e8⟩]) (zs:=wJ t lot) (e:=lE r) ht.plan (by simp) (by omega) hr hn1 hn2;have hE':=(aja (n:=n) (d:=t.cd) (ts:=t.bk) (z:=t.b7) (r:=t.aE) (r':=[]) (c:=t.cw) (v:=t.cp) (su:=t.cJ) (h:=t.ct) (zs:=wJ t lot) (ms:=[⟨⟨#[97,114,101,97]⟩,e1⟩,⟨⟨#[99,111,118,101,114]⟩,e2⟩,⟨⟨#[102,108,111,111,114]⟩,e3⟩,⟨⟨#[102,108,111,111,114,115]⟩,e4⟩,⟨⟨#[104,101,105,103,104,116]⟩,e5⟩,⟨⟨#[104,111,109,101,115]⟩,e6⟩,⟨⟨#[114,117,110,111,102,102]⟩,e7⟩,⟨K5,pE (ni lot) (fu d)⟩,⟨⟨#[116,114,97,102,102,105,99]⟩,e8⟩]) (e:=lE r) ht.plan.defs ht.plan.tabs (by simp) (by omega) hn1 hn2).trans hE;unfold lE at hE';simp only[aj,sL,h1',af,bK,aD,hE',ap0,h2',hE,Option.getD_some]
 |false=>
  cases (r.kind==1)with
  |true=>
   simp only[aj,ak,show(sL t lot d).ju=lot.area from rfl,show(sL t lot d).cj=lg d from rfl,aej (n:=n) lot.area hl (by omega),af];rw[gq (λ v=>!WL (WE lot.area).1 (Si r) v) (λ v _=>aeu v _ r (by omega)) (by omega) (by omega)];rfl
  |false=>
   cases (r.kind==2)with
   |true=>
    simp only[aj,ak,show(sL t lot d).cj=lg d from rfl];rw[gq (N2 r) (λ v hm=>aev (hv v hm) r) (by omega) (by omega)];rfl
   |false=>
    cases (r.kind==3)with
    |true=>
     simp only[aj,ak,show(sL t lot d).cj=lg d from rfl];rw[gq (PF t.built d.lot r) (λ v _=>aey (s:=sL t lot d) ht.built (by omega)) (by omega) (by omega)];rfl
    |false=>rfl
def addN(ab:U ByteArray)(name:ByteArray)(bad:Bool):U ByteArray:=bif bad&&!(ab.any (lf name))then ab++[name]else ab
theorem Zy(ab:U ByteArray)(name:ByteArray)(bad:Bool):(addN ab name bad).length<=ab.length+1:=by
 unfold addN;cases (bad&&!(ab.any (lf name)))<;>simp
theorem ag0{name:ByteArray}{bad:Bool}{ab:U ByteArray}(hl:ab.length<=1000)(hn:2000<=n):jO n name bad ab=some (addN ab name bad):=by
 have hmx:maxLen=9223372036854775807:=rfl;have hap:bP ab.length ab.length (sub [name] 0 1).length 1 16=true:=by simp[bP,sub];omega
 simp only[jO,bK,aD,aj,vU (n:=n) (l:=ab) (a:=name) (by omega) (by omega),af,addN,hap,dY];cases bad with
 |false=>rfl
 |true=>cases (ab.any (lf name))<;>rfl
def N1(t:dK)(d:aQ):Bool:=(lg d).any λv=>!Ly t.cg d.lot (wI v)
def acZ:ByteArray:=⟨#[101,97,115,101,109,101,110,116]⟩
def J5(n:Nat)(t:dK)(lot:gI)(d:aQ)(l:U bC):U ByteArray:=l.foldl (λ ab r=>addN ab r.name (DH n t lot d r)) []
theorem Cy(f:bC->Bool):∀(l:U bC)(ab:U ByteArray),(l.foldl (λ ab r=>addN ab r.name (f r)) ab).length<=ab.length+l.length
 |[],ab=>by simp
 |r::l,ab=>by
  have h1:=Cy f l (addN ab r.name (f r));have h2:=Zy ab r.name (f r);rw[foldl_cons,bn];omega
def applied(t:dK)(lot:gI)(day:Int):U bC:=t.aE.filter (sF (wJ t lot) day)
def rP(t:dK)(d:aQ):gI:=(dw t.land d.lot).1
def yZ(n:Nat)(t:dK)(d:aQ)(day:Int):U ByteArray:=bif J4 n t d==0 then addN (J5 n t (rP t d) d (applied t (rP t d) day)) acZ (N1 t d)else []
theorem alV{t:dK}{d:aQ}(day:Int)(ht:FS t)(hd:J1 d)(hn:J0 n):wW n t d day=some (yZ n t d day,J4 n t d):=by
 obtain⟨hk,hv⟩:=look_eq (n:=n) ht hd hn;have hn1:=hn.1;have hvl:=K8 hd.1;simp only[wW,hk,af,yZ];by_cases h0:J4 n t d=0
 .have Up:(J4 n t d==0)=true:=by simp[h0]
  have T8:(J4 n t d !=0)=false:=by simp[h0]
  have hw:=K3 ht.lots d.lot;have hz:=Zx ht (rP t d);have hA:vo n (cK.mk t.cd t.bk t.b7 t.aE t.cw t.cp t.cJ t.ct) (wJ t (rP t d)) day=some ((R6 t.aE (wJ t (rP t d)) day).map λ(i:Nat)=>(i:Int)):=UY _ _ _ (λ r hr=>(ht.rule r hr).1) ht.rules hz (by omega);have hal:(R6 t.aE (wJ t (rP t d)) day).length<=100:=Nat.le_trans (length_filter_le _ _) (by rw[List.length_range];exact ht.rules);have hpick:(R6 t.aE (wJ t (rP t d)) day).filterMap (λ i=>t.aE[i]?)=applied t (rP t d) day:=Uv (sF (wJ t (rP t d)) day) t.aE;have hloop:∀A:U Nat,A.length<=100->(∀ i∈A,i<t.aE.length)->iter (nO n t (sL t (rP t d) d,J4 n t d) (A.map λ(i:Nat)=>(i:Int))) n ((0:Int),([]:U ByteArray))=some (J5 n t (rP t d) d (A.filterMap λi=>t.aE[i]?)):=by
   intro A hA hAr
   have key:=fO (l:=A) (step:=nO n t (sL t (rP t d) d,J4 n t d) (A.map λ(i:Nat)=>(i:Int))) (λ i (s:List ByteArray)=>((i:Int),s)) (λ i s=>match t.aE[i]? with
    |some r=>addN s r.name (DH n t (rP t d) d r)
    |none=>s) (λ s=>s) (λ i s=>s.length<=i) (λ i hi s hs=>by
    have hr:=hAr _ (getElem_mem hi);have hlm:(A.map λ(i:Nat)=>(i:Int)).length=A.length:=(by simp);have hg:br (A.map λ(i:Nat)=>(i:Int)) (((0:Nat):Int)+(i:Int))=some ((A[i]:Nat):Int):=(by rw[bJ (by omega)];simp);have hrr:=ht.rule _ (getElem_mem hr);have hb:=alU (n:=n) (t:=t) (lot:=rP t d) (d:=d) ht hw.1 hd (hv h0) hrr.2 hn;have e:=bX hr;simp only[nO,hlm,bZ hi,aj,bE hi,hg,af,bf hr,hb,aD,ag0 (n:=n) (name:=t.aE[A[i]].name) (bad:=DH n t (rP t d) d t.aE[A[i]]) (ab:=s) (by omega) (by omega),aP i,e];exact⟨trivial,Nat.le_trans (Zy _ _ _) (by omega)⟩) (λ s _=>by
    have hlm:(A.map λ(i:Nat)=>(i:Int)).length=A.length:=(by simp);simp only[nO,hlm,dX,ak,aD,aj]) n (by omega) [] (aC _)
   rw[show ((0:Nat):Int)=0 from rfl]at key;rw[key];congr 1;unfold J5;generalize ([]:U ByteArray)=s0;clear key hA
   induction A generalizing s0 with
   |nil=>rfl
   |cons a A ih=>
    have ha:=hAr a (by simp);rw[foldl_cons,List.filterMap_cons];simp only[bX ha];rw[foldl_cons];exact ih (λ i hi=>hAr i (by simp[hi])) _
  have hlo:=hloop (R6 t.aE (wJ t (rP t d)) day) hal (λ i hi=>by
   have:=(List.mem_filter.1 hi).1;simpa using this)
  rw[hpick]at hlo;have hrl:(J5 n t (rP t d) d (applied t (rP t d) day)).length<=100:=by
   have h1:=Cy (DH n t (rP t d) d) (applied t (rP t d) day) [];have h2:(applied t (rP t d) day).length<=100:=Nat.le_trans (length_filter_le _ _) ht.rules;unfold J5;simp only[length_nil]at h1;omega
  have hany:gX n (sL t (rP t d) d) (λ (y1:aH×Unit)=>nN n y1.1 t d)=some (N1 t d):=by
   have hs:∀v,nN n v t d=some (!Ly t.cg d.lot (wI v)):=by
    intro v;have hl1:(wI v).length=1:=rfl;have h:=abj (n:=n) (l:=t.cg) (lot:=d.lot) (s:=wI v) ht.eas.1 ht.eas.2 (by simp[wI]) (by omega);simp only[nN,agY,af,bK,aD,aj,h]
   simp only[gX,show(sL t (rP t d) d).cj=lg d from rfl];rw[gq (λ v=>!Ly t.cg d.lot (wI v)) (λ v _=>hs v) (by omega) (by omega)];rfl
  have hsc:sL t (dw t.land d.lot).1 d=sL t (rP t d) d:=rfl;simp only[Up,T8,aj,ak,hsc,show(sL t (rP t d) d).zones=wJ t (rP t d)from rfl,hA,af,length_nil,aD,hlo,hany,ag0 (n:=n) (name:=⟨#[101,97,115,101,109,101,110,116]⟩) (bad:=N1 t d) (ab:=J5 n t (rP t d) d (applied t (rP t d) day)) (by omega) (by omega),bK];rw[h0];rfl
 .have Up:(J4 n t d==0)=false:=by simpa using h0
  have T8:(J4 n t d !=0)=true:=by simpa using h0
  simp only[Up,T8,aj,ak]
def WtR(l:U bC):Prop:=∀r∈l,(toE (lE r)).wt<=4000000
structure ap1(t:dK):Prop where
 defs:ia t.cd
 rules:WtR t.aE
 zt:∀l∈t.land,l.from_.length*8<=140737488355328
structure arH(t:dK)(d:aQ):Prop where
 xd:FS t
 draw:J1 d
 built:t.built.length<=8
 rules:t.aE.length<=6
theorem arG:J0 5000003:=⟨aC _,by omega⟩
theorem ag1{t:dK}{d:aQ}(h:t.aE.length<=10)(day:Int):(yZ n t d day).length<=11:=by
 unfold yZ;cases (J4 n t d==0)with
 |false=>simp
 |true=>
  have h1:=Zy (J5 n t (rP t d) d (applied t (rP t d) day)) acZ (N1 t d);have h2:=Cy (DH n t (rP t d) d) (applied t (rP t d) day) [];have h3:(applied t (rP t d) day).length<=t.aE.length:=length_filter_le _ _;simp only[aj];unfold J5 at*;simp only[length_nil]at h2;omega
mutual
theorem apF:∀g:dW,(toE g).wt<=iR (sO g)
 |⟨op,n,s,key,args⟩=>by
  have:=PY args;simp only[toE,ET.wt,sO,iR,jp];omega
theorem PY:∀l:List dW,ET.th (JE l)<=vP (uN l)
 |[]=>by simp[JE,ET.th]
 |x::xs=>by
  have h1:=apF x;have h2:=PY xs;simp only[JE,ET.th,uN,vP];omega
end
theorem ac0:∀l:U fG,rm (l.map toD)<=vP (l.map Fy)
 |[]=>by simp[rm]
 |x::xs=>by
  have h1:=ac0 xs;have h2:=PY x.eQ;simp only[rm]at h1;simp only[aF,rm,List.foldr_cons,toD,ET.wt,vP,Fy,iR,jp,<- uO];omega
theorem alW(t:dK):rm (t.cd.map toD)<=iR (Bv t):=by
 have:=ac0 t.cd;simp only[Bv,iR,jp];omega
theorem Zz{r:U Tree}:∀{l:U (List Tree)},r∈l->iR r<=vP l
 |x::l,h=>by
  rw[vP];rcases aO.1 h with rfl |h
  .omega
  .have:=Zz h;omega
theorem alX(r:bC):(toE (lE r)).wt<=iR (yH r):=by
 have h:=PY r.iv;rw[uO]at h;simp only[lE,toE,ET.wt,yH,iR,jp];omega
theorem ac1:∀l:U Int,l.length<=vP (l.map λy=>[Tree.sc (.int .i64 y)])
 |[]=>by simp
 |x::l=>by
  have:=ac1 l;simp only[aF,vP,iR,jp,bn];omega
theorem aqJ{t:dK}(h:iR (Bv t)<=1048576):ap1 t:=by
 have hd:=Nat.le_trans (alW t) h;simp only[Bv,iR,jp]at h;refine⟨by unfold ia;omega,λr hr=>?_,λl hl=>?_⟩
 .have h1:=alX r;have h2:=Zz (mem_map.2 ⟨r,hr,rfl⟩:yH r∈t.aE.map yH);omega
 .have h1:=ac1 l.from_;have h2:=Zz (mem_map.2 ⟨l,hl,rfl⟩:MW l∈t.land.map MW);have h3:vP (l.from_.map λy=>[Tree.sc (.int .i64 y)])<=iR (MW l):=by simp only[MW,iR,jp];omega
  omega
theorem abt(l:U ByteArray)(s:ByteArray):iM (l++[s])=iM l+(bif l.any (mi s)then 0 else 1):=by
 have h1:iM (l++[s])=iM (s::l):=Zp λz=>by simp[or_comm]
 rw[h1,abo]
theorem akw{N:U Int}(h:Sg N){V:Int}(hV:1<=V)(k:Nat):0<=mJ N k V/\mJ N k V<V:=by
 have⟨_,_,h3,_⟩:=an5 h k;unfold mJ;cases k%2==0 with
 |true=>simp only[aj];omega
 |false=>simp only[ak];omega
theorem alY{D D' B C A:Int}{V:Int}(h1:D<=D')(h2:D'<=D+1)(k:Nat):mJ [D',B,C,A] k V<=mJ [D,B,C,A] k V/\(k%4≠0->mJ [D',B,C,A] k V=mJ [D,B,C,A] k V)/\mJ [D,B,C,A] k V -1<=mJ [D',B,C,A] k V:=by
 have h4:k%4<4:=Nat.mod_lt _ (by omega);unfold mJ;by_cases h0:k%4=0
 .have e2:(k%2==0)=true:=by rw[beq_iff_eq];omega
  rw[h0,e2];simp only[aj,List.getD_cons_zero];omega
 .have e:[D',B,C,A].getD (k%4) 0=[D,B,C,A].getD (k%4) 0:=by
   obtain⟨j,hj⟩:∃j,k%4=j+1:=⟨k%4 -1,by omega⟩;rw[hj];rfl
  rw[e];exact⟨by omega,λ_=>rfl,by omega⟩
theorem alZ{os:U bL}{N N':U Int}(hk:os.all uH=true)(hN:Sg N)(hl:os.length<=12)(hn:2000<=n)
 (hle:∀k V,mJ N' k V<=mJ N k V/\(k%4≠0->mJ N' k V=mJ N k V)/\mJ N k V -1<=mJ N' k V):iter (iY os (jv N os) (jv N' os)) n (0:Int)=some (.inl ()):=by
 have hv:∀M:U Int,(jv M os).length=os.length:=λM=>by simp[jv]
 have hg:∀(M:U Int)(i:Nat)(hi:i<os.length),(jv M os)[i]'(by rw[hv];exact hi)=mJ M i os[i].values:=λM i hi=>by simp[jv,hi]
 refine gY (step:=iY os (jv N os) (jv N' os)) (λ i=>(i:Int)) os.length (.inl ()) rfl (λ i hi=>?_) ?_ n (by omega)
 .have i1:i<(jv N os).length:=by rw[hv];exact hi
  have i2:i<(jv N' os).length:=by rw[hv];exact hi
  have hV:=aes (all_eq_true.1 hk _ (getElem_mem hi));have⟨b1,b2⟩:=akw hN hV.1 i;have⟨c1,c2,c3⟩:=hle i os[i].values;have e4:((4:Nat) !=0)=true:=rfl;have em:(Int.tmod (i:Int) 4 !=(0:Int))=!decide (i%4=0):=by rw[show (4:Int)=((4:Nat):Int)from rfl,Eh i 4,bne,Bool.not_eq_eq_eq_not,Bool.not_not,fB,beq_iff_eq,aJ];omega
  have d1:decide (mJ N i os[i].values<(0:Int))=false:=by simpa using b1
  have d2:decide (mJ N i os[i].values>=os[i].values)=false:=by simpa using b2
  have d3:decide (mJ N' i os[i].values>mJ N i os[i].values)=false:=by simpa using c1
  have d4:decide (mJ N' i os[i].values<mJ N i os[i].values -1)=false:=by simpa using c3
  have g1:=hg N i hi;have g2:=hg N' i hi;have wr:i64.wrap (mJ N i os[i].values -1)=mJ N i os[i].values -1:=dI (by omega) (by omega);simp only[iY,bK,bZ i1,aj,bf i1,bf hi,bJ i2,bE i2,af,g1,g2,d1,d2,d3,d4,wr,e4,em,ak,aP i];by_cases h0:i%4=0
  .simp only[h0,decide_true,Bool.not_true,ak,af];cases decide (mJ N' i os[i].values<mJ N i os[i].values)<;>rfl
  .have d5:decide (mJ N' i os[i].values<mJ N i os[i].values)=false:=(by rw[c2 h0];simp);simp only[d5,ak,af]
 .have e:decide ((os.length:Int)<(((jv N os).length:Nat):Int))=false:=by rw[hv];simp
  simp only[iY,bK,e,ak]
theorem aoh{os:U bL}{N:U Int}(hk:os.all uH=true)(hN:Sg N):Ay (os.map qx) (jv N os)=true:=by
 unfold Ay;have hl:(jv N os).length=(os.map qx).length:=by simp[jv]
 rw[aG,aJ];refine⟨hl,all_eq_true.2 λi hi=>?_⟩;rw[length_map]at hi;have hi:=List.mem_range.1 hi;have hV:=aes (all_eq_true.1 hk _ (getElem_mem hi));have⟨b1,b2⟩:=akw hN hV.1 i;have e1:(jv N os)[i]? =some (mJ N i os[i].values):=by simp[jv,hi]
 have e2:(os.map qx)[i]? =some (qx os[i]):=by simp[hi]
 have e3:(qx os[i]).length=os[i].values.toNat:=by simp[qx]
 unfold Zg;rw[e1,e2];simp only[e3,aG,aJ];omega
theorem ag2{os:U bL}{N:U Int}(hk:os.all uH=true)(hl:os.length<=12)(hN:Sg N):∃g,ku os [] 1 (jv N os) true=(g,[aV.mk 1 (jv N os) g],0):=by
 have hr:BR os=some (os.map qx):=by unfold BR;rw[aT ⟨hl,hk⟩]
 have hc:fZ os []=(os.map qx,true):=by
  unfold fZ;rw[hr];simp only;rw[aT (show Zi (os.map qx) []=true from rfl)];rfl
 have hf:cZ os [] (jv N os)=(Ux (os.map qx) [] (jv N os),z8 (os.map qx) [] (jv N os),0):=by
  unfold cZ;rw[hc];simp only[aoh hk hN,Bool.and_self,aj]
 have hw:Ux (os.map qx) [] (jv N os)=0:=rfl;rcases aer os [] 1 (jv N os) true with ⟨p1,p⟩ |⟨p1,p2,p⟩ |⟨p1,p2,p3,p⟩ |⟨p1,p2,p3,p⟩
 .rw[hf]at p1;cases p1
 .rw[hf]at p2;rw[hw]at p2;cases p2
 .cases p3
 .exact⟨_,p⟩
theorem aqK{t:dK}{r:List ByteArray×Int}(m:Bool)(hr:t.aE.length<=1000)(hn:2000<=n){i:Nat}(hi:i<r.1.length):iter (iZ t r (i:Int)) n (m,false,(0:Int))=some (m&&!(t.aE.any λx=>mi r.1[i] x.name&&!x.vary),t.aE.any λx=>mi r.1[i] x.name):=by
 refine gY (step:=iZ t r (i:Int)) (λ k=>(m&&!((t.aE.take k).any λx=>mi r.1[i] x.name&&!x.vary),(t.aE.take k).any λx=>mi r.1[i] x.name,(k:Int))) t.aE.length _ (by simp) (λ k hk=>?_) ?_ n (by omega)
 .rw[fD hk];simp only[List.any_append,List.any_cons,List.any_nil,Bool.or_false,Bool.not_or];simp only[iZ,bZ hk,aj,bf hk,bJ hi,bE hi,af,aP k];rw[show (ByteArray.toList t.aE[k].name==ByteArray.toList r.1[i])=mi r.1[i] t.aE[k].name from rfl];generalize ((t.aE.take k).any λx=>mi r.1[i] x.name&&!x.vary)=S;generalize ((t.aE.take k).any λx=>mi r.1[i] x.name)=U;cases mi r.1[i] t.aE[k].name<;>cases t.aE[k].vary<;>cases m<;>cases S<;>cases U<;>rfl
 .simp only[iZ,dX,ak,List.take_length]
theorem aqL{t:dK}{r:U ByteArray×Int}(hr:t.aE.length<=1000)(hl:r.1.length<=1000)(hn:2000<=n):iter (ja n t r) n ((decide ((r.1.length:Int)>(0:Int))),(0:Int))=some (MD t.aE r.1):=by
 have d:decide ((r.1.length:Int)>(0:Int))=decide (0<r.1.length):=by rw[decide_eq_decide];omega
 refine gY (step:=ja n t r) (λ k=>(!((r.1.take k).any (F0 t.aE))&&decide (0<r.1.length),(k:Int))) r.1.length _ (by rw[d];simp) (λ k hk=>?_) ?_ n (by omega)
 .rw[fD hk];simp only[List.any_append,List.any_cons,List.any_nil,Bool.or_false,Bool.not_or];simp only[ja,bZ hk,aj,aqK _ hr hn hk,af,aP k];unfold F0;generalize decide (0<r.1.length)=P;generalize ((r.1.take k).any _)=S;cases (t.aE.any λx=>mi r.1[k] x.name&&!x.vary)<;>cases (t.aE.any λx=>mi r.1[k] x.name)<;>cases S<;>cases P<;>rfl
 .simp only[ja,dX,ak,List.take_length,MD]
structure W6(t:dK)(d:aQ)(os:List bL):Prop where
 xd:ap1 t
 tabs:∀x∈t.bk,x.rows.length<=1048576
 sum:kf t<=1048576
 caps:t.cw.length<=1048576
 phases:d.phases.length<=1048576
 orders:os.length<=1048576
theorem aqN{t:dK}{d:aQ}{os:U bL}{al:U ByteArray}(h:AC t d al=true)(hz:W6 t d os)(V:Zr 5000003 t d):FS t/\J1 d:=by
 simp only[AC,aG]at h;obtain⟨h1,h2,_⟩:=h;have h1':=h1;unfold ye at h1;simp only[aG,aJ,Bool.not_eq_true',any_eq_false,Bool.or_eq_true,not_or]at h1;obtain⟨⟨a1,a2,a3,a4,a5,a6,a7⟩,g1,g2,g3⟩:=h1;refine⟨⟨V.lots,by omega,⟨by omega,λe he=>by have:=g3 e he;omega⟩,by omega,by omega,by have:=hz.caps;omega,by omega,λr hr=>⟨?_,hz.xd.rules r hr⟩,⟨hz.xd.defs,⟨?_,λx hx=>?_⟩⟩⟩,V.few,λp hp=>?_⟩
 .have:=g1 r hr;exact⟨by omega,by omega⟩
 .show t.bk.length<=_;omega
 .have:=hz.tabs x hx;omega
 .simp only[AD,aG,Bool.not_eq_true',any_eq_false,aJ]at h2;have:=h2.1 p hp;simp only[F1,Bool.or_eq_true,aJ,not_or]at this;omega
theorem Ll(t:dK)(d:aQ)(al:U ByteArray)(more:ByteArray)(os:U bL)(day:Int)(hz:W6 t d os):oJ 5000003 t d al more os day=some true:=by
 have hn:J0 5000003:=arG;have hd:=hz.phases;have ho:=hz.orders;unfold oJ;rw[apv (by omega),an4 t al (by omega) (by omega) (by omega),agO (base:=[]) (by omega) (by simp) (by omega) (by simp)];simp only[af];cases hA:AC t d al with
 |false=>rfl
 |true=>
  cases hC:KB os []with
  |false=>rfl
  |true=>
   have hf:aiP t:=λl hl=>hz.xd.zt l hl;obtain⟨V,hl⟩:=apx (n:=5000003) hA hf (λ x hx=>by have:=hz.tabs x hx;omega) (by have:=hz.sum;omega);have⟨hs,hl5,_⟩:=alI hC;have⟨hT,hD⟩:=aqN hA hz V;have SU:t.aE.length<=10:=by
    simp only[AC,ye,aG,aJ]at hA;exact hA.1.1.1
   simp only[Bool.not_true,ak,af,acX V (n:=5000003) (by omega) (os:=os) (al:=al) (by omega) (by omega),bK,aD,aj,Zq (n:=5000003) (by omega) os (by omega) (by omega)];cases hk:os.all uH&&decide (os.length<=12)with
   |false=>simp only[Bool.not_false,aj,ak];rfl
   |true=>
    rw[aG,aJ]at hk;have HU:bP ([]:U ByteArray).length 0 al.length al.length 16=true:=cu (by simp;omega) (by simp only[maxLen];simp;omega);have hs1:sub ([more]:U ByteArray) 0 1=[more]:=rfl;have HT:bP (([]:U ByteArray)++al).length (([]:U ByteArray)++al).length [more].length 1 16=true:=cu (by simp;omega) (by simp only[maxLen];simp;omega);have hN:=ako V (al:=al) (by omega);have hDl:(iM (al++[more]):Int)=iM al\/(iM (al++[more]):Int)=iM al+1:=by
     rw[abt];cases al.any (mi more)<;>simp
    have hle:∀k W,mJ (xQ t d (al++[more])) k W<=mJ (xQ t d al) k W/\(k%4≠0->mJ (xQ t d (al++[more])) k W=mJ (xQ t d al) k W)/\mJ (xQ t d al) k W -1<=mJ (xQ t d (al++[more])) k W:=λk W=>by
     unfold xQ;exact alY (by omega) (by omega) k
    have hS:=alZ (n:=5000003) hk.1 hN hk.2 (by omega) hle;have hv:∀M:U Int,(jv M os).length=os.length:=λM=>(by simp[jv]);have⟨g,hg⟩:=ag2 hk.1 hk.2 hN;have hDe:gL 5000003 os [] 1 (jv (xQ t d al) os) true=some (g,[aV.mk 1 (jv (xQ t d al) os) g],0):=(by rw[Er (by omega) os hk.1 hs 1 (by rw[hv];omega) true,hg]);have n0:∀z:Int,(z !=z)=false:=λz=>(by simp);have hlen1:((([aV.mk 1 (jv (xQ t d al) os) g]:U aV).length:Int) !=1)=false:=rfl;have hbl:=ag1 (n:=5000003) (t:=t) (d:=d) SU day;have hM:=aqL (n:=5000003) (t:=t) (r:=(yZ 5000003 t d day,J4 5000003 t d)) (by omega) (show (yZ 5000003 t d day).length<=1000 by omega) (by omega);have hMy:=U7 (n:=5000003) (cK.mk t.cd t.bk t.b7 t.aE t.cw t.cp t.cJ t.ct) (yZ 5000003 t d day) (show t.aE.length<=1000 by omega) (by omega) (by omega);have hV2:=acX V (n:=5000003) (by omega) (os:=os) (al:=al++[more]) (by simp;omega) (by omega);have hk':(os.all uH&&decide (os.length<=12))=true:=(by simp[hk.1,hk.2]);rw[hk']at hV2;simp only[aj]at hV2;simp only[bI,length_nil]at HU HT;simp only[Bool.not_true,ak,aj,bI,length_nil,HU,dY,hs1,HT,bK,aD,hV2,af,hDe,hv,n0,hlen1,hS,dU,alV (n:=5000003) day hT hD hn,hM,hMy,beq_self_eq_true];by_cases he:J4 5000003 t d=0
    .rw[he];rfl
    .have e1:(J4 5000003 t d==0)=false:=(by simpa using he);have e2:yZ 5000003 t d day=[]:=(by unfold yZ;rw[e1];rfl);simp only[e1,ak,e2];rfl
theorem UA:∀l:U bT,(l.map λx=>x.rows.length).sum<=vP (l.map zL)
 |[]=>by simp
 |x::l=>by
  have h:=UA l;have h1:∀es:U bQ,es.length<=vP (es.map zK):=λes=>by
   induction es with
   |nil=>simp
   |cons y es ih=>simp only[aF,vP,zK,iR,jp,bn];omega
  have h2:=h1 x.rows;simp only[aF,List.sum_cons,vP,zL,iR,jp];omega
theorem PZ{α:Type}(f:α->U Tree)(hf:∀x,1<=iR (f x)):∀l:U α,l.length<=vP (l.map f)
 |[]=>by simp
 |x::l=>by
  have h:=PZ f hf l;have h1:=hf x;simp only[aF,vP,bn];omega
theorem aru{t:dK}{d:aQ}{os:U bL}(h1:iR (Bv t)<=1048576)(h2:iR (wD d)<=1048576)(h3:vP (os.map Jr)<=1048576):W6 t d os:=by
 have hz:=aqJ h1;have a1:=UA t.bk;have a2:=PZ MX (λ x=>by simp only[MX,iR,jp];omega) t.cw;have a3:=PZ Js (λ x=>by simp only[Js,iR,jp];omega) d.phases;have a4:=PZ Jr (λ x=>by simp only[Jr,iR,jp];omega) os;simp only[Bv,iR,jp]at h1;simp only[wD,iR,jp]at h2;have hs:kf t<=1048576:=by unfold kf;omega
 refine⟨hz,λx hx=>?_,hs,by omega,by omega,by omega⟩;have:=ai1 _ _ (List.mem_map_of_mem (f:=λx:bT=>x.rows.length) hx);have e:(t.bk.map λx:bT=>x.rows.length).sum=kf t:=rfl;omega
theorem Ni(q:HL xx.toSE [.st SI.iS,.st SI.eo,.sl .str,.str,.sl (.st SI.Order),.int .i64])(hb:yi (HL.nh xx.toSE [.st SI.iS,.st SI.eo,.sl .str,.str,.sl (.st SI.Order),.int .i64] q)<=1048576):∃k,oJ k q.1 q.2.1 q.2.2.1 q.2.2.2.1 q.2.2.2.2.1 q.2.2.2.2.2.1=some true:=by
 have h2:iR (Bv q.1)+(iR (wD q.2.1)+(jp (.sl ((q.2.2.1:U ByteArray).map λy=>[Tree.sc (.string y)]))+(jp (.sc (.string q.2.2.2.1))+(jp (.sl ((q.2.2.2.2.1:U bL).map Jr))+(1+0)))))<=1048576:=hb;simp only[jp]at h2;exact⟨5000003,Ll q.1 q.2.1 q.2.2.1 q.2.2.2.1 q.2.2.2.2.1 q.2.2.2.2.2.1 (aru (by omega) (by omega) (by omega))⟩
end Go.Proofs
