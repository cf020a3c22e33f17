import Derived.Test.YtlhamcjimbeggaaGreatDoorTC1
namespace Go.Proofs
open Go.Gb Go.RowKit
open Tryz
noncomputable section
variable (n:Nat)
theorem ast{Φ:U (Nat×AV)}{O:U (Nat×Option aR)}{F:E}:Bp Tryz.prog (pV tab) (cO (cA pZ)) (λ _=>td) F (List.range (cO (cA pZ)).size) ⟨Φ,O,[]⟩=some (⟨(4,.cD)::Φ,O,[(4,none)]⟩,[]):=by kernel_rfl
theorem asu{Φ:U (Nat×AV)}{O:U (Nat×Option aR)}{F:E}:Bp Tryz.prog (pV tab) (cO (cA (cB pZ))) (λ _=>td) F (List.range (cO (cA (cB pZ))).size) ⟨Φ,O,[]⟩=some (⟨(5,.cD)::Φ,O,[(5,none)]⟩,[]):=by kernel_rfl
noncomputable def asv(n:Int):Nat->kB
 | 1=>⟨.num n,[],[],false⟩
 |_=>td
theorem asw{A:U aj}{Φ:U (Nat×AV)}{O:U (Nat×Option aR)}{F:E}:
 Bp Tryz.prog (pV tab) (cO (cA (cA (cB (cB pZ))))) (asv (A.length:Int)) F (List.range (cO (cA (cA (cB (cB pZ))))).size) ⟨(0,.t (.sl (A.map kD)))::Φ,O,[]⟩=
  some (⟨(12,tn 0)::(11,tn (A.length:Int))::(10,.t (.sl (A.map kD)))::(0,.t (.sl (A.map kD)))::Φ,O,[(12,none),(11,none),(10,none)]⟩,[(A.length:Int)=((A.map kD).length:Int)]):=by kernel_rfl
theorem ao8{A:U aj}{d i:Int}{aa:AV}{O:U (Nat×Option aR)}{F:E}:
 Bp Tryz.prog (pV tab) (cO (cA (cB (cB (cB pZ))))) (λ _=>td) F (List.range (cO (cA (cB (cB (cB pZ))))).size) ⟨fq A d i aa,O,[]⟩=
  some (⟨(4,aa)::(72,aa)::fq A d i aa,O,[(4,none),(72,none)]⟩,[]):=by kernel_rfl
theorem ao9{get:E}:∀(l:U dh)(k:Nat),1000<k->(∀ j s,l[j]? =some s->get (k+j)=some ⟨2,iR s.column⟩)->dp get (some 1000) [] (iw k l) (l.map PV)
 |[],_,_,_=>trivial
 |s::l,k,hk,h=>by
  refine⟨⟨rfl,rfl,⟨by simp;omega,by simp[kept],⟨2,iR s.column⟩,s.column.map EC,by simpa using h 0 s rfl,?_,by simp,rfl⟩,trivial⟩,ao9 l (k+1) (by omega) λj s' hj=>?_⟩
  .simp only[List.drop_zero];exact List.take_of_length_le (by simp[aK])
  .have:=h (j+1) s' (by simpa using hj)
   rwa [show k+(j+1)=k+1+j by omega]at this
theorem dp.app{get:E}{fk:J Nat}{q:U AV}{t:U Tree}(hq:ll get fk [] q t):∀{R:U (List AV)}{S:U (List Tree)},dp get fk [] R S->dp get fk [] (R++[q]) (S++[t])
 |[],[],_=>⟨hq,trivial⟩
 |_::_,_::_,h=>⟨h.1,dp.app hq h.2⟩
 |[],_::_,h=>h.elim
 |_::_,[],h=>h.elim
theorem arF{A:U aj}{d i:Int}{l:U dh}(hl:l.length<=500000):
 Ev Tryz.prog Tryz.f49.ntmps (cB (cB (cB pZ))) (aqP (pV tab) Tryz.f49.results.toList (.one (.fresh 3 (l.map PV))) []) (Wt A d i l):=by
 show Ev _ _ (Code.seq (cA (cB (cB (cB pZ)))) Code.ret) _ _;refine kC ?_;rcases List.eq_nil_or_concat l with rfl|⟨pre,c,rfl⟩
 .rw[ahO];refine fZ (am:=cO (cA (cB (cB (cB pZ))))) (σ2:=(⟨(4,.cD)::fq A d i .cD,[],[]⟩:ft).st λ_=>none) qP (by kernel_rfl) ao8 trivial ?_ (aiw ⟨[.cD],none,rfl,rfl,λj p hj=>by simp at hj⟩);refine iY (λ p hp'=>?_) (λ _ _ h=>h) rfl (Dn (pU (Φ:=[(4,.cD)]) (λ p hp' k hk=>by rw[aI]at hp';subst hp';simp[refs]at hk) (by simp[refs])) (λ p hp'=>by cases hp') (λ k o h=>by cases h));simp only[fq,aG,aQ,or_false]at hp';rcases hp' with rfl|rfl|rfl|rfl|rfl|rfl<;>exact⟨rfl,rfl⟩
 .rw[List.concat_eq_append]at hl |-;simp only[bW,eu,List.length_nil]at hl;rw[AR];refine fZ (am:=cO (cA (cB (cB (cB pZ))))) (σ2:=(⟨(4,nJ pre)::fq A d i (nJ pre),(Ws A d i pre c).obj,[]⟩:ft).st (rK pre)) qP (by kernel_rfl) ao8 trivial ?_ (aiw ⟨[nJ pre],some 1000,rfl,?_,λj p hj=>by simp at hj⟩)
  .refine iY (λ p hp'=>?_) (λ _ _ h=>h) rfl ?_
   .simp only[fq,aG,aQ,or_false]at hp';rcases hp' with rfl|rfl|rfl|rfl|rfl|rfl<;>exact⟨rfl,rfl⟩
   .have h:=uL (A:=A) (d:=d) (i:=i) (pre:=pre) (c:=c) (by omega);refine⟨λ t j hj=>?_,h.obj⟩;simp only[ft.st,lk]at hj;by_cases e:4=t
    .rw[aM e]at hj;simp[refs]at hj;omega
    .rw[aC e]at hj;exact h.env t j hj
  .refine⟨rfl,by simp[kept],rfl,⟨3,iw 2000 pre++[rZ 1001 c]⟩,rfl,rfl,?_,by simp⟩;rw[List.take_of_length_le (by simp[q8]),List.map_append];have hq:ll ((⟨(4,nJ pre)::fq A d i (nJ pre),(Ws A d i pre c).obj,[]⟩:ft).st (rK pre)).obj (some 1000) [] (rZ 1001 c) (PV c):=
    ⟨rfl,rfl,⟨by simp,by simp[kept],⟨2,iR c.column⟩,c.column.map EC,rfl,by rw[List.drop_zero];exact List.take_of_length_le (by simp[aK]),by simp,rfl⟩,trivial⟩
   refine dp.app hq (ao9 pre 2000 (by omega) λj s hj=>?_);simp only[ft.st,Ws,lk];rw[aC (by omega),aC (by omega)];show rK pre (2000+j)=_;unfold rK;rw[aM (by omega),Nat.add_sub_cancel_left,hj];rfl
theorem Vv(d:Int):∀(A:U aj)(k:Nat)(l:U dh),GM k l->GM (k+A.length) (A.foldl (jG d) l)
 |[],_,_,h=>h
 |r::A,k,l,h=>by
  have:=Vv d A (k+1) _ (aap h d r);simp only[List.foldl_cons,eu]
  rwa [show k+(A.length+1)=k+1+A.length by omega]
theorem apa{A:U aj}{d:Int}(hA:A.length<500000):
 Ev Tryz.prog Tryz.f49.ntmps pZ (aqP (pV tab) Tryz.f49.results.toList (.one (.fresh 3 ((A.foldl (jG d) []).map PV))) []) ((⟨[(0,.t (.sl (A.map kD))),(1,tn d)],[],[]⟩:ft).st λ_=>none):=by
 have old:∀Φ:U (Nat×AV),(∀ p∈Φ,∀k∈refs p.2,k<1000000)->nb ((⟨Φ,[],[]⟩:ft).st λ_=>none):=λΦ hE=>Dn hE (λ p hp'=>by cases hp') (λ k o h=>by cases h);have hfit:=Vv d A 0 [] ⟨by simp,by simp⟩;show Ev _ _ (Code.seq (cA pZ) (Code.seq (cA (cB pZ)) (Code.seq (Code.seq (cA (cA (cB (cB pZ)))) (Code.block 0 (Code.loop hsB))) (cB (cB (cB pZ)))))) _ _;refine kC ?_;refine fZ (am:=cO (cA pZ)) (σ2:=(⟨[(0,.t (.sl (A.map kD))),(1,tn d)],[],[]⟩:ft).st λ_=>none) qP (by kernel_rfl) ast trivial ?_ ?_
 .refine iY (λ p hp'=>?_) (λ _ _ h=>h) rfl (old _ λp hp' k hk=>?_)
  .simp only[aG,aQ,or_false]at hp';rcases hp' with rfl|rfl<;>exact⟨rfl,rfl⟩
  .simp only[aG,aQ,or_false]at hp';rcases hp' with rfl|rfl<;>simp[refs]at hk
 refine kC ?_;refine fZ (am:=cO (cA (cB pZ))) (σ2:=(⟨[(0,.t (.sl (A.map kD))),(1,tn d),(5,.cD)],[],[]⟩:ft).st λ_=>none) qP (by kernel_rfl) asu trivial ?_ ?_
 .refine iY (λ p hp'=>?_) (λ _ _ h=>h) rfl (old _ λp hp' k hk=>?_)
  .simp only[aG,aQ,or_false]at hp';rcases hp' with rfl|rfl|rfl<;>exact⟨rfl,rfl⟩
  .simp only[aG,aQ,or_false]at hp';rcases hp' with rfl|rfl|rfl<;>simp[refs]at hk
 refine kC (kC ?_);refine fZ (am:=cO (cA (cA (cB (cB pZ))))) (σ2:=(zt A d 0).st λ_=>none) qP (by kernel_rfl) asw (by simp[jD]) ?_ ?_
 .refine iY (λ p hp'=>?_) (λ _ _ h=>h) rfl aal;simp only[zt,fq,aG,aQ,or_false]at hp';rcases hp' with rfl|rfl|rfl|rfl|rfl<;>exact⟨rfl,rfl⟩
 refine O1 (aqo hA ?_);exact arF (by have:=hfit.1;omega)
theorem aj0:aJ 49 aah:=by
 have hb:Tryz.f49.body=some pZ:=by kernel_rfl
 have hn : (Tryz.f49.name == "runtime.NumGoroutine") = false := by kernel_rfl
 refine A2 (xQ func49 hb hn) (λ a r e=>?_) rfl;simp only[aah,JU]at e;split at e
 .rename_i hA;cases e;exact acj (args:=[.t (.sl (List.map kD a.1)),tn a.2.1]) (os:=[]) (os':=[]) qP func49 hb hn (by show 2<=Tryz.f49.ntmps;decide +kernel) (λ k hk=>by simp[cu,refs]at hk) (by simp) rfl (apa hA)
 .cases e
def ahP:ct xx:=⟨[.d (.sl (.st SI.eW)),.d (.sl (.st SI.eW))],[.fresh (.st SI.eW)],λa=>Ls n a.1 a.2.1,none⟩
def ahQ:Hn SI:=(cp (.s (.s .z (.b (.l ⟨[(5,.o 1320),(13,.v af)],[(1320,.l (.st SI.eW))],[1,11,12],[],1321,[(5,.st SI.eW)]⟩ 0 ⟨[(5,.o 1320)],[(1320,.l (.st SI.eW))],[],[],1321,[]⟩ (cp (.s (.b (cp (.b (.l ⟨[(5,.o 1833),(19,.v af)],[(1833,.l (.st SI.eW))],[1,7,11,12,13,17,18],[1513],1834,[]⟩ 2 ⟨[(5,.o 1833)],[(1833,.l (.st SI.eW))],[1,11,12,13],[],1834,[]⟩ (cp (.s (.j ⟨[(5,.o 1898)],[(1898,.l (.st SI.eW))],[1,7,11,12,13,17,18,19],[1513],1899,[]⟩ .z) .z)))))) .z))))) .z))
theorem ahR:aJ 93 (ahP n):=cq aA func93 ahQ n
def aaq:ct xx:=⟨[.d (.st SI.sx),.ip .bool,.ip af,.ip af,.ip af,.ip .bool,.ip (.sl (.st SI.eW))],[.mr .bool,.mr af,.mr af,.mr af,.mr .bool,.mr (.sl (.st SI.eW))],λ(qa,qb,qc,qd,qe,qf,qg,_)=>Gh n qa qb qc qd qe qf qg,none⟩
def aar:Hn SI:=(.s .z (.b (.s (.j ⟨[(14,.v .bool)],[],[1,2,5,6,7],[0,1,2,3,4,5,1000],1064,[]⟩ .z) .z)))
theorem aas:aJ 92 (aaq n):=cq (au (ahR n) aA) func92 aar n
def ahS:ct xx:=⟨[.d (.sl (.st SI.sx)),.d af,.d af],[.d (.sl (.st SI.eW))],λa=>ED n a.1 a.2.1 a.2.2.1,none⟩
def ahT:Hn SI:=(ra (.s (.s .z (.b (.l ⟨[(20,.v af)],[(1000,uC),(1064,uC),(1384,uC),(1448,.c 1 [[.v .bool]]),(1512,.c 1 [[.v .bool]]),(1768,HX)],[4,5,7,8,10,11,18,19],[],2152,[]⟩ 0 ⟨[],[(1000,uC),(1064,uC),(1384,uC),(1448,.c 1 [[.v .bool]]),(1768,HX)],[4,5,7,8,10],[],2152,[]⟩ .z))) (.s (.s (.j ⟨[(35,.v .bool)],[],[10],[1768],2152,[]⟩ .z) .z) .z)))
theorem ahU:aJ 52 (ahS n):=cq (au (aas n) aA) func52 ahT n
def Ub:ct xx:=⟨[.d (.sl (.st SI.eW)),.d (.sl (.st SI.eW))],[.d .bool],λa=>vD n a.1 a.2.1,none⟩
def Uc:Hn SI:=(cp (.s (.s .z (.b (.lx ⟨[(13,.v af)],[],[0,1,12],[],1576,[]⟩ 0 ⟨[],[],[],[],1576,[]⟩ .z))) .z))
theorem Ud:aJ 53 (Ub n):=cq aA func53 Uc n
def ahV:ct xx:=⟨[.d (.sl ax),.d af],[.fresh ax,.d af],λa=>Lu n a.1 a.2.1,none⟩
def ahW:Hn SI:=(cp (.s (.f [3]) (.s .z (.s (.s .z (.b (.l ⟨[(7,.o 1896),(27,.v af)],[(1896,.l af)],[1,6,25,26],[],1897,[(7,af)]⟩ 0 ⟨[(7,.o 1896)],[(1896,.l af)],[1,6],[],1897,[]⟩ .z))) (.s .z (.s (.f [2]) (jj (.s (.s .z (.b (.l ⟨[(10,.o 2473),(11,.v (.sl (.st SI.eW))),(12,.v af),(13,.v af)],[(2473,.l ax)],[1,6,7],[],2474,[(10,ax)]⟩ 2 ⟨[(10,.o 2473)],[(2473,.l ax)],[],[],2474,[]⟩ (.s .z (.s (.j ⟨[(10,.o 2730),(11,.v (.sl (.st SI.eW))),(12,.v af)],[(2730,.l ax)],[1,6,7,13],[],2731,[]⟩ (.b (.s .z (.s (.s (.j ⟨[(80,.v .bool)],[],[1,6,7,10,11,12,13,14],[2473],3306,[]⟩ .z) (.s (.s (.s .z (.b (.l ⟨[(15,.v af)],[(2473,.l ax)],[1,6,7,10,11,12,13],[],3434,[]⟩ 4 ⟨[],[(2473,.l ax)],[1,6,7,10,11,12,13],[],3434,[]⟩ .z))) .z) .z)) (cp (.b (.l ⟨[(10,.o 3818),(101,.v af)],[(3818,.l ax)],[1,6,7,11,12,13,99,100],[],3819,[]⟩ 6 ⟨[(10,.o 3818)],[(3818,.l ax)],[1,6,7,11,12,13],[],3819,[]⟩ .z))))))) .z))))) .z))))))))
theorem ahX:aJ 20 (ahV n):=cq (au (ajZ n) (au aj0 (au (qp n) (au (oW n) (au (ahU n) (au (Ud n) aA)))))) func20 ahW n
def aj1:ct xx:=⟨[.d (.sl ax)],[.d ax,.d .bool],λa=>Qa n a.1,none⟩
def aj2:Hn SI:=(.s .z (.s (.s .z (.b (.l ⟨[(3,.v .bool),(8,.v af)],[(1000,uA)],[2,6,7],[],1320,[]⟩ 0 ⟨[(3,.v .bool)],[(1000,uA)],[2],[],1320,[]⟩ (cp (.s (.j ⟨[(3,.v .bool)],[(1000,uA)],[2,6,7,8],[],1384,[]⟩ .z) .z))))) .z))
theorem aj3:aJ 54 (aj1 n):=cq (au rU aA) func54 aj2 n
def ahY:ct xx:=⟨[.d (.sl ax)],[.d ax,.d .bool],λa=>zR n a.1,none⟩
def ahZ:Hn SI:=(.s .z (.s (.s (.j ⟨[(11,.v .bool)],[],[0,2],[1000],1128,[]⟩ .z) .z) .z))
theorem Vw:aJ 21 (ahY n):=cq (au (lV n) (au (aj3 n) aA)) func21 ahZ n
def Q7:ct xx:=⟨[.d (.st SI.kA),.d af,.d af],[.fresh eY],λa=>l9 n a.1 a.2.1 a.2.2.1,none⟩
def Q8:Hn SI:=(cp (.s (.s .z (.b (.l ⟨[(7,.o 1576),(15,.v af)],[(1576,.l eY)],[13,14],[1384],1577,[(7,eY)]⟩ 0 ⟨[(7,.o 1576)],[(1576,.l eY)],[],[],1577,[]⟩ (cp (.s (.j ⟨[(7,.o 1641)],[(1641,.l eY)],[13,14,15],[1384],1642,[]⟩ .z) .z))))) .z))
theorem Cw:aJ 16 (Q7 n):=cq (au (E5 n) aA) func16 Q8 n
def KG:ct xx:=⟨[.d (.sl eY),.en [eY] .bool],[.d af],λa=>ug n a.1 a.2.1,none⟩
def KH:Hn SI:=(.s .z (.s (.s .z (.b (.lx ⟨[(8,.v af)],[],[0,1,7],[],1256,[]⟩ 0 ⟨[],[],[],[],1256,[]⟩ .z))) .z))
theorem KI:aJ 191 (KG n):=cq aA func191 KH n
def E9:ct xx:=⟨[.d (.sl eY),.en [eY] .bool],[.d .bool],λa=>lW n a.1 a.2.1,none⟩
theorem Fa:aJ 144 (E9 n):=cq (au (KI n) aA) func144 .z n
def aat:ct xx:=⟨[.d af,.d af,.d af],[.d .bool],λa=>mY a.1 a.2.1 a.2.2.1,none⟩
theorem KJ:aJ 95 aat:=cq aA func95 .z 0
def abJ:ct xx:=⟨[.d eY],[.d .bool],λa=>Cc a.1,none⟩
theorem abK:aJ 146 abJ:=cq (au KJ aA) func146 .z 0
def Ue:ct xx:=⟨[.d eY],[.d .bool],λa=>vH a.1,none⟩
theorem Uf:aJ 145 Ue:=cq (au abK aA) func145 .z 0
def abL:ct xx:=⟨[.d ax,.d (.sl eY)],[.d .bool],λa=>xX n a.1 a.2.1,none⟩
theorem M7:aJ 94 (abL n):=cq (au rU (au (Fa n) (au Uf aA))) func94 .z n
def Ug:ct xx:=⟨[.d af,.d af],[.d af],λa=>qU a.1 a.2.1,none⟩
def Uh:Hn SI:=(cp (.s (.j ⟨[(5,.v af)],[],[],[],1320,[]⟩ .z) .z))
theorem Fb:aJ 147 Ug:=cq aA func147 Uh 0
def ae2:ct xx:=⟨[.d ax,.d (.sl eY),.d af],[.d ax,.d .bool],λa=>NC n a.1 a.2.1 a.2.2.1,none⟩
def ae3:Hn SI:=(cp (.s (.s .z (.b (.lx ⟨[(15,.v af)],[(1256,uA)],[2,3,6,8,13,14],[1000,1064],1576,[]⟩ 0 ⟨[],[(1256,uA)],[6,8],[1064],1576,[]⟩ (cp (.s (.jx ⟨[],[(1256,uA)],[2,3,6,8,13,14,15],[1000,1064],1640,[]⟩ .z) .z))))) .z))
theorem ae4:aJ 96 (ae2 n):=cq (au Fb aA) func96 ae3 n
def ae5:ct xx:=⟨[.d ax,.d (.sl eY),.d af],[.fresh ax,.d af],λa=>Gi n a.1 a.2.1 a.2.2.1,none⟩
theorem ae6:aJ 55 (ae5 n):=cq (au (M7 n) (au KJ (au (ae4 n) aA))) func55 .z n
def Wu:ct xx:=⟨[.d ax,.d ax],[.d ax,.d .bool],λa=>sS a.1 a.2.1,none⟩
theorem Hu:aJ 56 Wu:=cq aA func56 .z 0
def aau:ct xx:=⟨[.d (.sl ax),.d ax],[.fresh ax],λa=>zi n a.1 a.2.1,none⟩
def aav:Hn SI:=(cp (.s (.s .z (.b (.l ⟨[(5,.o 1384),(14,.v af)],[(1384,.l ax)],[3,12,13],[1000],1385,[(5,ax)]⟩ 0 ⟨[(5,.o 1384)],[(1384,.l ax)],[],[],1385,[]⟩ (cp (.s (.j ⟨[(5,.o 1449)],[(1449,.l ax)],[3,12,13,14],[1000],1450,[]⟩ (.b (ra (.b (.l ⟨[(5,.o 4905),(68,.v af)],[(4905,.l ax)],[3,12,13,14,66,67],[1000,4713],4906,[]⟩ 2 ⟨[(5,.o 4905)],[(4905,.l ax)],[3,12,13,14],[1000],4906,[]⟩ (cp (.s (.j ⟨[(5,.o 4970)],[(4970,.l ax)],[3,12,13,14,66,67,68],[1000,4713],4971,[]⟩ (.b (.s .z (.s (.j ⟨[(83,.v .bool)],[],[3,5,11,12,13,14,66,67,68],[1000,4713,4905,5098],5226,[]⟩ .z) .z)))) .z))))))) .z))))) .z))
theorem aaw:aJ 57 (aau n):=cq (au Hu aA) func57 aav n
def Om:ct xx:=⟨[.d ax,.d ax],[.d .bool],λa=>oG a.1 a.2.1,none⟩
theorem Oo:aJ 97 Om:=cq aA func97 .z 0
def Oq:ct xx:=⟨[.mut ax,.en [ax,ax] af],[.mu ax],λa=>rR n a.1 a.2.1,none⟩
theorem AU:aJ 148 (Oq n):=by have hcall:fP Tryz.prog 148:=⟨_,func148,by kernel_rfl,by kernel_rfl⟩;refine A2 hcall (λ a r h=>?_) rfl;obtain⟨l,Z,⟨⟩⟩:=a;refine ac1 (X:=xx) (i:=SI.kw) (hI:=(inferInstance:Inhabited aj)) Tryz.so148 rfl hcall Tryz.underlying39 (by kernel_rfl) (λ x t ht=>?_) h;cases x;have ht:t∈[_,_,_,_]:=ht;simp only[aG,aQ,or_false]at ht;rcases ht with rfl|rfl|rfl|rfl<;>exact⟨_,rfl,trivial⟩
def KL:ct xx:=⟨[.d ax,.d ax],[.d af],λa=>pF a.1 a.2.1,none⟩
theorem KM:aJ 149 KL:=cq (au nI aA) func149 .z 0
def Q9:ct xx:=⟨[.d (.sl ax),.d af,.d af],[.fresh ax],λa=>tQ n a.1 a.2.1 a.2.2.1,none⟩
def Ra:Hn SI:=(cp (.s (.s .z (.b (.l ⟨[(7,.o 1320),(15,.v af)],[(1320,.l ax)],[1,2,13,14],[],1321,[(7,ax)]⟩ 0 ⟨[(7,.o 1320)],[(1320,.l ax)],[],[],1321,[]⟩ (cp (.s (.j ⟨[(7,.o 1385)],[(1385,.l ax)],[1,2,13,14,15],[],1386,[]⟩ (.b (.s .z (.s (.j ⟨[(28,.v .bool)],[],[1,2,7,9,13,14,15],[1320,1513],1641,[]⟩ .z) .z)))) .z))))) (cp (.s (.s .z (.b (.l ⟨[(10,.v af),(44,.v af)],[(1320,.l ax)],[7,42,43],[],1705,[]⟩ 2 ⟨[(10,.v af)],[(1320,.l ax)],[7],[],1705,[]⟩ (cp (.s (.j ⟨[(10,.v af)],[(1320,.l ax)],[7,42,43,44],[],1769,[]⟩ (.b (.s .z (.s (.s (.j ⟨[(60,.v .bool)],[],[7,10,12,42,43,44],[1320,1897],2025,[]⟩ .z) .z) .z)))) .z))))) .z))))
theorem Rb:aJ 98 (Q9 n):=cq (au (AU n) (au KM aA)) func98 Ra n
def Dp:ct xx:=⟨[.d (.sl ax),.d (.sl ax),.en [ax,ax] .bool],[.d .bool],λa=>kF n a.1 a.2.1 a.2.2.1,none⟩
def Dq:Hn SI:=(cp (.s (.s .z (.b (.lx ⟨[(17,.v af)],[],[1,2,15,16],[],1576,[]⟩ 0 ⟨[],[],[],[],1576,[]⟩ .z))) .z))
theorem Dr:aJ 99 (Dp n):=cq aA func99 Dq n
def Wv:ct xx:=⟨[.d (.sl ax)],[.fresh ax],λa=>xA n a.1,none⟩
def Ww:Hn SI:=(cp (.s (.s .z (.b (.l ⟨[(3,.o 1320),(14,.v af)],[(1320,.l af)],[0,12,13],[],1321,[(3,af)]⟩ 0 ⟨[(3,.o 1320)],[(1320,.l af)],[0],[],1321,[]⟩ .z))) (ra (.s (.s .z (.b (.l ⟨[(6,.o 2153),(7,.o 2154),(34,.v af)],[(2153,.l ax),(2154,.l ax)],[0,3,8,33],[1320],2155,[(6,ax),(7,ax)]⟩ 2 ⟨[(6,.o 2153)],[(2153,.l ax)],[],[],2154,[]⟩ (cp (.s (.b (cp (.s (.j ⟨[(6,.o 3115)],[(3115,.l ax)],[0,3,8,10,33,34],[1320,2987],3116,[]⟩ (.s (.j ⟨[(56,.v .bool)],[],[0,3,6,8,9,10,33,34],[1320,2153,2987],3115,[]⟩ .z) (.s (.s .z (.b (.l ⟨[(11,.v af)],[(2153,.l ax)],[0,3,6,8,9,10,33,34],[1320,2987],3499,[]⟩ 4 ⟨[],[(2153,.l ax)],[0,3,6,8,10,33,34],[1320,2987],3499,[]⟩ .z))) .z))) .z))) .z))))) .z))))
theorem Wx:aJ 58 (Wv n):=cq (au (qp n) (au (oW n) (au (Rb n) (au (Dr n) (au Oo aA))))) func58 Ww n
def Wy:ct xx:=⟨[.d (.sl ax),.d ax,.d (.sl eY),.d (.sl (.st SI.ee)),.d af],[.fresh ax,.d af],λ(qa,qb,qc,qd,qe,_)=>ql n qa qb qc qd qe,none⟩
def Wz:Hn SI:=(ra (.s (.s .z (.b (.l ⟨[(14,.o 2216),(37,.v af)],[(2216,.l ax)],[3,4,12,35,36],[1576],2217,[(14,ax)]⟩ 0 ⟨[(14,.o 2216)],[(2216,.l ax)],[3,4],[],2217,[]⟩ (cp (.s (.b (cp (.b (.l ⟨[(14,.o 2729),(43,.v af)],[(2729,.l ax)],[3,4,12,16,35,36,37,41,42],[1576,2409],2730,[]⟩ 2 ⟨[(14,.o 2729)],[(2729,.l ax)],[3,4,12,35,36,37],[1576],2730,[]⟩ (cp (.s (.j ⟨[(14,.o 2794)],[(2794,.l ax)],[3,4,12,16,35,36,37,41,42,43],[1576,2409],2795,[]⟩ .z) .z)))))) .z))))) (.s (.s .z (.b (.l ⟨[(14,.o 2409),(62,.v af)],[(2409,.l ax)],[4,60,61],[],2410,[]⟩ 4 ⟨[(14,.o 2409)],[(2409,.l ax)],[],[],2410,[]⟩ (cp (.s (.j ⟨[(14,.o 2474)],[(2474,.l ax)],[4,60,61,62],[],2475,[]⟩ (.b (jj (.b (.l ⟨[(14,.o 3242),(73,.v af)],[(3242,.l ax)],[4,60,61,62,71,72],[],3243,[]⟩ 6 ⟨[(14,.o 3242)],[(3242,.l ax)],[4,60,61,62],[],3243,[]⟩ .z))))) .z))))) .z)))
theorem WA:aJ 22 (Wy n):=cq (au (ae6 n) (au Hu (au (aaw n) (au (Wx n) aA)))) func22 Wz n
def Ui:ct xx:=⟨[.d (.st SI.kA),.d af,.d af,.d af],[.fresh (.sl ax),.d af],λa=>gX n a.1 a.2.1 a.2.2.1 a.2.2.2.1,none⟩
def Uj:Hn SI:=(cp (.s (.b (cp (.s (.j ⟨[(36,.v .bool)],[],[1,2,3,4,10],[1000,1640],2024,[]⟩ .z) .z))) (.s .z (.s (.jx ⟨[(12,.o 2088)],[(2088,.l ax)],[1,2,3,4,10],[1000,1640],2089,[(12,ax)]⟩ .z) (.s .z (.s (.s .z (.b (.l ⟨[(16,.o 2409),(69,.v af)],[(2409,.l (.st SI.ee))],[1,2,3,4,10,12,67,68],[1000,1640,2088],2410,[(16,.st SI.ee)]⟩ 1 ⟨[(16,.o 2409)],[(2409,.l (.st SI.ee))],[1,2,3,4,10,12],[1000,1640,2088],2410,[]⟩ (cp (.s (.j ⟨[(16,.o 2474)],[(2474,.l (.st SI.ee))],[1,2,3,4,10,12,67,68,69],[1000,1640,2088],2475,[]⟩ (.b (.s .z (.s (.j ⟨[(81,.v .bool)],[],[1,2,3,4,10,12,16,18,67,68,69],[1000,1640,2088,2409,2602],2730,[]⟩ .z) .z)))) .z))))) (jj (.s (.s .z (.b (.lx ⟨[(22,.o 3498),(98,.v af)],[(3498,.l (.sl ax))],[12,16,19,21,97],[2088,2409,2794,3178],3499,[(22,.sl ax)]⟩ 3 ⟨[(22,.o 3498)],[(3498,.l (.sl ax))],[],[],3499,[]⟩ .z))) .z))))))))
theorem Fe:aJ 8 (Ui n):=cq (au (LG n) (au (lV n) (au (yV n) (au (ahX n) (au (Vw n) (au (Cw n) (au (WA n) aA))))))) func8 Uj n
def aj4:ct xx:=⟨[.d (.sl ax),.d (.sl ax)],[.d .bool],λa=>Qb n a.1 a.2.1,none⟩
def aj5:Hn SI:=(cp (.s (.s .z (.b (.lx ⟨[(5,.v af)],[],[0,1],[],1448,[]⟩ 0 ⟨[],[],[],[],1448,[]⟩ .z))) .z))
theorem aj6:aJ 13 (aj4 n):=cq aA func13 aj5 n
def KN:ct xx:=⟨[.d (.sl (.sl ax)),.en [.sl ax] .bool],[.d af],λa=>Ap n a.1 a.2.1,none⟩
def KO:Hn SI:=(.s .z (.s (.s .z (.b (.lx ⟨[(8,.v af)],[],[0,1,7],[],1256,[]⟩ 0 ⟨[],[],[],[],1256,[]⟩ .z))) .z))
theorem KP:aJ 85 (KN n):=cq aA func85 KO n
def Ff:ct xx:=⟨[.d (.sl (.sl ax)),.en [.sl ax] .bool],[.d .bool],λa=>wC n a.1 a.2.1,none⟩
theorem Fg:aJ 40 (Ff n):=cq (au (KP n) aA) func40 .z n
def L8:ct xx:=⟨[.d (.sl ax)],[.d .bool],λa=>Ce n a.1,none⟩
theorem L9:aJ 41 (L8 n):=cq (au (lV n) aA) func41 .z n
def Uk:ct xx:=⟨[.d (.sl (.sl ax))],[.fresh iB,.d af],λa=>JV n a.1,none⟩
def Ul:Hn SI:=(.s .z (.s (.s (.j ⟨[(14,.v .bool)],[],[0],[],1128,[]⟩ .z) .z) (.s .z (.s (.s .z (.b (.l ⟨[(4,.o 1384),(17,.v af)],[(1384,.l iB)],[15,16],[],1385,[(4,iB)]⟩ 0 ⟨[(4,.o 1384)],[(1384,.l iB)],[],[],1385,[]⟩ (cp (.s (.j ⟨[(4,.o 1449)],[(1449,.l iB)],[15,16,17],[],1450,[]⟩ (.b (cp (.b (cp (.s (.j ⟨[(39,.v .bool)],[],[4,5,6,7,15,16,17],[1384],2217,[]⟩ .z) .z)))))) .z))))) .z))))
theorem Um:aJ 14 (Uk n):=cq (au (Fg n) (au (L9 n) (au (yN n) (au Ht aA)))) func14 Ul n
def ah0:ct xx:=⟨[],[.d .bool],λ_=>Lv n,none⟩
def ah1:Hn SI:=(cp (.s (.f [5]) (cp (.s (.j ⟨[(5,.v .bool)],[],[1,2,3],[1128],2216,[]⟩ .z) .z))))
theorem ah2:aJ 4 (ah0 n):=cq (au abD (au (Fe n) (au (aj6 n) (au (Um n) (au (yV n) (au (Cw n) aA)))))) func4 ah1 n
def amT:ct xx:=⟨[.d (.st SI.kA)],[.d .bool],λa=>Xd n a.1,none⟩
def amU:Hn SI:=(cp (.s (.s (.j ⟨[(48,.v .bool)],[],[1,3],[1000,1256],1384,[]⟩ .z) .z) (.s (.s .z (.b (.lx ⟨[(4,.v af)],[],[1,3],[1000,1256],1448,[]⟩ 0 ⟨[],[],[1],[1000],1448,[]⟩ (.s .z (.s (.b (.s (.j ⟨[(73,.v .bool)],[],[1,3,4],[1000,1256],1768,[]⟩ .z) .z)) .z))))) (.s (.s .z (.b (.lx ⟨[(5,.v af)],[],[1],[1000],1512,[]⟩ 2 ⟨[],[],[1],[1000],1512,[]⟩ .z))) (.s (.s .z (.b (.lx ⟨[(6,.v af)],[],[1],[1000],1576,[]⟩ 4 ⟨[],[],[],[],1576,[]⟩ .z))) .z)))))
theorem amV:aJ 5 (amT n):=cq aA func5 amU n
def abM:ct xx:=⟨[.d aU],[.d .bool],λa=>Cf a.1,none⟩
def abN:Hn SI:=(.s .z (.s (.s (.j ⟨[(20,.v .bool)],[],[1],[1000],1128,[]⟩ .z) .z) .z))
theorem abO:aJ 17 abM:=cq aA func17 abN 0
def aj7:ct xx:=⟨[.d (.st SI.lj)],[.d (.st SI.lj)],λa=>Qd n a.1,none⟩
def aj8:Hn SI:=(cp (.s (.s .z (.b (.l ⟨[(3,.o 1256),(4,.v af)],[(1256,.l aU)],[1,2],[1000,1064],1257,[(3,aU)]⟩ 0 ⟨[(3,.o 1256)],[(1256,.l aU)],[1,2],[1000,1064],1257,[]⟩ (.s .z (.s (.j ⟨[(3,.o 1577)],[(1577,.l aU)],[1,2,4],[1000,1064],1578,[]⟩ (.b (.s (.j ⟨[(26,.v .bool)],[],[1,2,3,4],[1000,1064,1256],1577,[]⟩ .z) .z))) .z))))) .z))
theorem aj9:aJ 6 (aj7 n):=cq (au abO aA) func6 aj8 n
def Rc:ct xx:=⟨[.d (.st SI.fc),.d af,.d af],[.fresh aH],λa=>qa n a.1 a.2.1 a.2.2.1,none⟩
def Rf:Hn SI:=(cp (.s (.s .z (.b (.l ⟨[(7,.o 1448),(13,.v af)],[(1448,.l aH)],[1,2,11,12],[],1449,[(7,aH)]⟩ 0 ⟨[(7,.o 1448)],[(1448,.l aH)],[],[],1449,[]⟩ (cp (.s (.j ⟨[(7,.o 1513)],[(1513,.l aH)],[1,2,11,12,13],[],1514,[]⟩ (.b (.s .z (.s (.j ⟨[(25,.v .bool)],[],[1,2,7,9,11,12,13],[1448,1705],1897,[]⟩ .z) .z)))) .z))))) .z))
theorem Cx:aJ 79 (Rc n):=cq aA func79 Rf n
def abP:ct xx:=⟨[.d (.st SI.fc)],[.fresh aH],λa=>xZ n a.1,none⟩
theorem M8:aJ 33 (abP n):=cq (au (Cx n) aA) func33 .z n
def Il:ct xx:=⟨[.d aH],[.d .bool],λa=>gT a.1,none⟩
def Im:Hn SI:=(cp (.s (.s (.j ⟨[(26,.v .bool)],[],[1],[1000],1384,[]⟩ .z) .z) (.s (.s (.j ⟨[(34,.v .bool)],[],[1],[1000],1384,[]⟩ .z) .z) .z)))
theorem l5:aJ 75 Il:=cq (au rU aA) func75 Im 0
def aax:ct xx:=⟨[.d (.st SI.GW),.d (.st SI.GW)],[.d .bool],λa=>zk a.1 a.2.1,none⟩
theorem aay:aJ 77 aax:=cq (au Di aA) func77 .z 0
def Rh:ct xx:=⟨[.d aH,.ref aH],[.d .bool],λa=>tT a.1 a.2.1,none⟩
theorem Ri:aJ 76 Rh:=cq (au aay aA) func76 .z 0
def Io:ct xx:=⟨[.d (.sl aH),.en [aH] .bool],[.d af],λa=>sF n a.1 a.2.1,none⟩
def Ip:Hn SI:=(.s .z (.s (.s .z (.b (.lx ⟨[(8,.v af)],[],[0,1,7],[],1256,[]⟩ 0 ⟨[],[],[],[],1256,[]⟩ .z))) .z))
theorem Iq:aJ 119 (Io n):=cq aA func119 Ip n
def Dt:ct xx:=⟨[.d (.sl aH),.en [aH] .bool],[.d .bool],λa=>gH n a.1 a.2.1,none⟩
theorem tC:aJ 70 (Dt n):=cq (au (Iq n) aA) func70 .z n
def ae7:ct xx:=⟨[.d (.int .u8)],[.d .bool],λa=>Gl a.1,none⟩
theorem Rj:aJ 173 ae7:=cq aA func173 .z 0
def akb:ct xx:=⟨[.d .str,.en [.int .u8] .bool],[.d af],λa=>Qe n a.1 a.2.1,none⟩
def akc:Hn SI:=(cp (.s (.b (.l ⟨[(5,.v af)],[],[0,1],[],1128,[]⟩ 0 ⟨[(5,.v af)],[],[],[],1128,[]⟩ (.s (.s (.j ⟨[(16,.v .bool)],[],[0,1,5],[],1128,[]⟩ .z) .z) .z))) .z))
theorem akd:aJ 174 (akb n):=cq aA func174 akc n
def ah3:ct xx:=⟨[.d (.int .u8)],[.d .bool],λa=>Sw a.1,none⟩
theorem ah4:aJ 176 ah3:=cq aA func176 .z 0
def abQ:ct xx:=⟨[.d (.int .u8)],[.d .bool],λa=>Ch a.1,none⟩
theorem abR:aJ 175 abQ:=cq (au Rj (au ah4 aA)) func175 .z 0
def ake:ct xx:=⟨[.d .str],[.d .bool],λa=>Qf n a.1,none⟩
def akf:Hn SI:=(.s .z (.s (.s (.j ⟨[(15,.v .bool)],[],[0],[],1064,[]⟩ .z) .z) .z))
theorem akg:aJ 126 (ake n):=cq (au Rj (au (akd n) (au abR aA))) func126 akf n
def Ot:ct xx:=⟨[.d .str,.d .str],[.d .bool],λa=>strings_Contains a.1 a.2.1,none⟩
theorem Ou:aJ 127 Ot:=by
 have hcall:fP Tryz.prog 127:=⟨_,func127,by kernel_rfl,by kernel_rfl⟩;refine A2 hcall (λ a r h=>?_) rfl;obtain⟨s,b,⟨⟩⟩:=a;have h':strings_Contains s b=some r:=h;unfold strings_Contains at h';cases hb:Nat.ble s.size 4000000 with
 |false=>rw[hb]at h';cases h'
 |true=>
  rw[hb]at h';have h'':some (Lib.contains s.data.toList b.data.toList)=some r:=h';injection h'' with e;subst e;have hw:=Nat.le_of_ble_eq_true hb;exact aes (g:=1) rfl hcall λm w hm=>agJ s b m w (by omega) hm
def abS:ct xx:=⟨[.d .str],[.d .bool],λa=>yc n a.1,none⟩
theorem abT:aJ 78 (abS n):=cq (au (akg n) (au Ou aA)) func78 .z n
def aaz:ct xx:=⟨[.d (.st SI.fc)],[.d .bool],λa=>zm n a.1,none⟩
def aaA:Hn SI:=(cp (.s (.s (.j ⟨[(42,.v .bool)],[],[1,3],[1000,1192],1320,[]⟩ .z) .z) (.s (.s .z (.b (.lx ⟨[(45,.v af)],[],[1,3,43,44],[1000,1192],1512,[]⟩ 0 ⟨[],[],[1],[1000],1512,[]⟩ (cp (.s (.b (.s .z (.s (.j ⟨[(59,.v .bool)],[],[1,3,43,44,45],[1000,1192],1960,[]⟩ .z) .z))) .z))))) (.s (.s .z (.b (.lx ⟨[(64,.v af)],[],[62,63],[],1768,[]⟩ 2 ⟨[],[],[],[],1768,[]⟩ (cp (.s (.b (cp (.s (.s .z (.b (.lx ⟨[(72,.v af)],[(2088,.m .str .bool)],[7,8,62,63,64,70,71],[1960],2472,[]⟩ 4 ⟨[],[],[7,62,63,64],[1960],2472,[]⟩ (cp (.s (.b (.s .z (.s (.s (.j ⟨[(95,.v .bool)],[],[7,8,10,62,63,64,70,71,72],[1960,2088,2664],2792,[]⟩ .z) .z) .z))) .z))))) .z))) .z))))) .z))))
theorem aaB:aJ 32 (aaz n):=cq (au (M8 n) (au l5 (au (tC n) (au Ri (au (abT n) aA))))) func32 aaA n
def wo:ct xx:=⟨[.d (.sl (.st SI.strip)),.d af,.en [.st SI.strip,af] af],[.d af,.d .bool],λa=>jH n a.1 a.2.1 a.2.2.1,none⟩
def wu:Hn SI:=(jj (.s (.b (.l ⟨[(9,.v af),(10,.v af)],[],[0,1,2,8],[],1512,[]⟩ 0 ⟨[(9,.v af)],[],[0,1,2,8],[],1512,[]⟩ .z)) .z))
theorem wB:aJ 180 (wo n):=cq aA func180 wu n
def akh:ct xx:=⟨[.d (.st SI.strip),.d af],[.d af],λa=>yg a.1 a.2.1,none⟩
theorem aki:aJ 181 akh:=cq aA func181 .z 0
def aqp:ct xx:=⟨[.d (.sl (.st SI.strip)),.d af],[.d (.sl (.st SI.span))],λa=>Zd n a.1 a.2.1,none⟩
def aqr:Hn SI:=(cp (.s (.s (.j ⟨[(25,.v .bool)],[],[0,5],[],1576,[]⟩ .z) .z) .z))
theorem aqs:aJ 129 (aqp n):=cq (au (wB n) (au aki aA)) func129 aqr n
def aaC:ct xx:=⟨[.nil,.d af],[.fresh (.st SI.span)],λa=>Qg a.1 a.2.1,none⟩
theorem aaD:aJ 209 aaC:=cq aA func209 .z 0
def Un:ct xx:=⟨[.d (.sl (.sl (.st SI.span)))],[.fresh (.st SI.span)],λa=>Aq n a.1,none⟩
def Uo:Hn SI:=(cp (.s (.s .z (.b (.l ⟨[(3,.v af),(11,.v af)],[],[0,9,10],[],1320,[]⟩ 0 ⟨[(3,.v af)],[],[0],[],1320,[]⟩ .z))) (.s .z (.s (.s .z (.b (.l ⟨[(6,.o 1704),(27,.v af)],[(1704,.l (.st SI.span))],[25,26],[],1705,[]⟩ 2 ⟨[(6,.o 1704)],[(1704,.l (.st SI.span))],[],[],1705,[]⟩ .z))) .z))))
theorem Uq:aJ 178 (Un n):=cq (au aaD aA) func178 Uo n
def wX:ct xx:=⟨[.d (.sl (.st SI.span)),.d af,.en [.st SI.span,af] af],[.d af,.d .bool],λa=>jY n a.1 a.2.1 a.2.2.1,none⟩
def wY:Hn SI:=(jj (.s (.b (.l ⟨[(9,.v af),(10,.v af)],[],[0,1,2,8],[],1512,[]⟩ 0 ⟨[(9,.v af)],[],[0,1,2,8],[],1512,[]⟩ .z)) .z))
theorem wZ:aJ 210 (wX n):=cq aA func210 wY n
def aaE:ct xx:=⟨[.d (.st SI.span),.d af],[.d af],λa=>ng a.1 a.2.1,none⟩
theorem aaF:aJ 211 aaE:=cq aA func211 .z 0
def ah5:ct xx:=⟨[.d (.sl (.st SI.span)),.d af],[.d .bool],λa=>EF n a.1 a.2.1,none⟩
theorem ah6:aJ 179 (ah5 n):=cq (au (wZ n) (au aaF aA)) func179 .z n
def akj:ct xx:=⟨[.d (.sl (.st SI.span)),.d (.sl (.st SI.span)),.en [.bool,.bool] .bool],[.fresh (.st SI.span)],λa=>JW n a.1 a.2.1 a.2.2.1,none⟩
def akk:Hn SI:=(cp (.s (.s .z (.b (.l ⟨[(7,.o 1512),(19,.v af)],[(1512,.l af)],[0,1,2,17,18],[1320],1513,[(7,af)]⟩ 0 ⟨[(7,.o 1512)],[(1512,.l af)],[0,1,2],[],1513,[]⟩ .z))) (jj (.s (.s .z (.b (.l ⟨[(10,.o 1961),(11,.v af)],[(1961,.l (.st SI.span))],[0,1,2,7],[1512],1962,[(10,.st SI.span)]⟩ 2 ⟨[(10,.o 1961)],[(1961,.l (.st SI.span))],[],[],1962,[]⟩ (.s .z (.s (.j ⟨[(10,.o 2218)],[(2218,.l (.st SI.span))],[0,1,2,7,11],[1512],2219,[]⟩ (.b (jj (.s (.j ⟨[(68,.v .bool)],[],[0,1,2,7,10,11,12,13],[1512,1961],3370,[]⟩ .z) .z)))) .z))))) .z))))
theorem akl:aJ 128 (akj n):=cq (au (Uq n) (au (qp n) (au (oW n) (au (ah6 n) aA)))) func128 akk n
def ae8:ct xx:=⟨[.d (.sl ax),.d (.sl ax),.en [.bool,.bool] .bool],[.d (.sl ax),.d af],λa=>Ar n a.1 a.2.1 a.2.2.1,none⟩
def ae9:Hn SI:=(.s .z (.s (.s (.j ⟨[(20,.v .bool)],[],[0,1,2],[],1128,[]⟩ .z) .z) (.s (.f [6,7]) (.s .z (.s (.s .z (.b (.l ⟨[(33,.v af)],[(1832,.l (.st SI.strip))],[2,8,9,10,31,32],[],2152,[]⟩ 0 ⟨[],[(1832,.l (.st SI.strip))],[10],[],2152,[]⟩ .z))) .z)))))
theorem Rk:aJ 80 (ae8 n):=cq (au (lV n) (au (Vr n) (au (aqs n) (au (akl n) (au (aac n) (au QU aA)))))) func80 ae9 n
def aaG:ct xx:=⟨[.d .bool,.d .bool],[.d .bool],λa=>zn a.1 a.2.1,none⟩
theorem aaH:aJ 81 aaG:=cq aA func81 .z 0
def ah7:ct xx:=⟨[.d (.sl ax),.d (.sl ax)],[.d (.sl ax),.d af],λa=>Lx n a.1 a.2.1,none⟩
theorem ah8:aJ 34 (ah7 n):=cq (au (Rk n) (au aaH aA)) func34 .z n
def amW:ct xx:=⟨[.d (.sl ax)],[.d af],λa=>Qj n a.1,none⟩
def amX:Hn SI:=(jj (.s (.s .z (.b (.l ⟨[(3,.v af),(11,.v af)],[],[9,10],[],1512,[]⟩ 0 ⟨[(3,.v af)],[],[],[],1512,[]⟩ .z))) .z))
theorem adz:aJ 35 (amW n):=cq (au (lV n) (au KD aA)) func35 amX n
def Ov:ct xx:=⟨[.d bM,.ref (.st SI.Entry)],[.d .bool],λa=>wQ a.1 a.2.1,none⟩
theorem Ow:aJ 38 Ov:=cq aA func38 .z 0
def Ox:ct xx:=⟨[.d (.sl bM),.en [bM] .bool],[.d af],λa=>wR n a.1 a.2.1,none⟩
def Oy:Hn SI:=(.s .z (.s (.s .z (.b (.lx ⟨[(8,.v af)],[],[0,1,7],[],1256,[]⟩ 0 ⟨[],[],[],[],1256,[]⟩ .z))) .z))
theorem Oz:aJ 83 (Ox n):=cq aA func83 Oy n
def Ir:ct xx:=⟨[.d (.sl bM),.en [bM] .bool],[.d .bool],λa=>oh n a.1 a.2.1,none⟩
theorem Iu:aJ 37 (Ir n):=cq (au (Oz n) aA) func37 .z n
def WB:ct xx:=⟨[.d (.st SI.lj),.d (.st SI.Lot),.d (.st SI.fc)],[.d .bool],λa=>gF n a.1 a.2.1 a.2.2.1,none⟩
def WC:Hn SI:=(.s .z (.s (.s (.j ⟨[(30,.v .bool)],[],[3,4,5],[1000,1064,1128],1256,[]⟩ .z) .z) (.s (.s .z (.b (.lx ⟨[(34,.v af)],[],[3,4,5,32,33],[1000,1064,1128,1320],1512,[]⟩ 0 ⟨[],[],[3,5],[1000,1128],1512,[]⟩ (cp (.s (.b (cp (.s (.j ⟨[(58,.v .bool)],[],[3,4,5,32,33,34],[1000,1064,1128,1320],2600,[]⟩ .z) .z))) .z))))) (.s (.s .z (.b (.lx ⟨[(63,.v af)],[],[3,61,62],[1000],1768,[]⟩ 2 ⟨[],[],[],[],1768,[]⟩ (cp (.s (.b (cp (.b (.lx ⟨[(70,.v af)],[],[3,61,62,63,68,69],[1000],2344,[]⟩ 4 ⟨[],[],[3,61,62,63],[1000],2344,[]⟩ .z)))) .z))))) .z))))
theorem Hw:aJ 10 (WB n):=cq (au (aaB n) (au (lV n) (au (M8 n) (au (ah8 n) (au (adz n) (au KD (au (Iu n) (au Ow aA)))))))) func10 WC n
def Ur:ct xx:=⟨[.d (.st SI.fc)],[.fresh aH],λa=>vI n a.1,none⟩
def Us:Hn SI:=(cp (.s (.s .z (.b (.l ⟨[(3,.o 1448),(9,.v af)],[(1448,.l aH)],[7,8],[],1449,[(3,aH)]⟩ 0 ⟨[(3,.o 1448)],[(1448,.l aH)],[],[],1449,[]⟩ .z))) .z))
theorem Ut:aJ 59 (Ur n):=cq aA func59 Us n
def abU:ct xx:=⟨[.d (.st SI.kA),.d (.st SI.fc)],[.d (.st SI.k9),.d af],λa=>Ci n a.1 a.2.1,none⟩
theorem abV:aJ 23 (abU n):=cq (au (LG n) (au (Hw n) (au (Ut n) (au (Vt n) aA)))) func23 .z n
def Fh:ct xx:=⟨[.d ax,.d ax],[.d af],λa=>jl a.1 a.2.1,none⟩
theorem Fj:aJ 159 Fh:=cq (au nI aA) func159 .z 0
def Rl:ct xx:=⟨[.d aH],[.d af],λa=>mE a.1,none⟩
def Rm:Hn SI:=(.s .z (.s (.s (.j ⟨[(9,.v .bool)],[],[1],[1000],1128,[]⟩ .z) .z) .z))
theorem Cy:aJ 163 Rl:=cq (au l5 aA) func163 Rm 0
def WE:ct xx:=⟨[.d aH],[.d af],λa=>qm a.1,none⟩
theorem Hy:aJ 161 WE:=cq (au l5 (au KD (au Cy aA))) func161 .z 0
def Du:ct xx:=⟨[.d aH],[.d af],λa=>pI a.1,none⟩
theorem Dv:aJ 164 Du:=cq aA func164 .z 0
def Fp:ct xx:=⟨[.d aH],[.d af],λa=>qy a.1,none⟩
theorem Fq:aJ 165 Fp:=cq aA func165 .z 0
def WG:ct xx:=⟨[.d ax,.d af],[.d ax,.d .bool],λa=>CX a.1 a.2.1,none⟩
theorem WH:aJ 205 WG:=cq (au rU aA) func205 .z 0
def Uu:ct xx:=⟨[.d (.st SI.Entry),.ref (.st SI.nf),.ref af],[.d .bool],λa=>lI a.1 a.2.1 a.2.2.1,none⟩
theorem Uv:aJ 230 Uu:=cq aA func230 .z 0
def KQ:ct xx:=⟨[.d (.sl (.st SI.Entry)),.en [.st SI.Entry] .bool],[.d af],λa=>lJ n a.1 a.2.1,none⟩
def KR:Hn SI:=(.s .z (.s (.s .z (.b (.lx ⟨[(8,.v af)],[],[0,1,7],[],1256,[]⟩ 0 ⟨[],[],[],[],1256,[]⟩ .z))) .z))
theorem yG:aJ 202 (KQ n):=cq aA func202 KR n
def abW:ct xx:=⟨[.d (.st SI.lj),.d af],[.d af],λa=>Cj n a.1 a.2.1,none⟩
def abX:Hn SI:=(cp (.s (.s .z (.b (.lx ⟨[(14,.v af)],[],[3,5,12,13],[1064,1256],1640,[]⟩ 0 ⟨[],[],[],[],1640,[]⟩ (cp (.s (.b (jj (.s (.j ⟨[(8,.v af)],[],[],[],2344,[]⟩ .z) .z))) .z))))) .z))
theorem abY:aJ 206 (abW n):=cq (au (yG n) (au Uv aA)) func206 abX n
def Rn:ct xx:=⟨[.d (.st SI.lj),.d aH],[.d af],λa=>jZ n a.1 a.2.1,none⟩
def Ro:Hn SI:=(cp (.s (.s (.j ⟨[(20,.v .bool)],[],[5,6],[],1704,[]⟩ .z) .z) .z))
theorem Rp:aJ 168 (Rn n):=cq (au (abY n) (au Hy aA)) func168 Ro n
def Iw:dg xx:=⟨[.p 0],[(0,gi),(1,.l aH)],[.v af],[(0,gi),(1,.l aH)],λ(qa,qb,qc,qd,qe,qf,qg,qh,qi,qj)=>om n qa qb qc qd qe qf qg qh qi qj⟩
def Iy:ct xx:=tzG (Iw n)
theorem Iz:aJ 106 (Iy n):=oE (au (adz n) aA) func106 .z n
def Fs:dg xx:=⟨[.p 0],[(0,gi),(1,.l aH)],[.v af],[(0,gi),(1,.l aH)],λ(qa,qb,qc,qd,qe,qf,qg,qh,qi,qj)=>jm n qa qb qc qd qe qf qg qh qi qj⟩
def Fu:ct xx:=tzG (Fs n)
def Fv:Hn SI:=(jj (.s (.s .z (.b (.l ⟨[(3,.o 1960),(23,.v af)],[(1448,.l ax),(1960,.l af)],[4,21,22],[0,1],1961,[(3,af)]⟩ 0 ⟨[(3,.o 1960)],[(1448,.l ax),(1960,.l af)],[4],[0,1],1961,[]⟩ .z))) (jj (.s (.s .z (.b (.l ⟨[(7,.v af),(56,.v af)],[],[3,4,55],[0,1,1448,1960],2601,[]⟩ 2 ⟨[(7,.v af)],[],[],[0,1],2601,[]⟩ (cp (.s (.b (jj (.b (.l ⟨[(7,.v af),(9,.v af),(61,.v af)],[],[3,4,8,55,56,59,60],[0,1,1448,1960],3049,[]⟩ 4 ⟨[(7,.v af)],[],[3,4,55,56],[0,1,1448,1960],3049,[]⟩ (cp (.s (.j ⟨[(7,.v af),(9,.v af)],[],[3,4,8,55,56,59,60,61],[0,1,1448,1960],3113,[]⟩ (.b (.s .z (.s (.j ⟨[(86,.v .bool)],[],[3,4,7,8,9,11,55,56,59,60,61],[0,1,1448,1960,3241],3369,[]⟩ .z) .z)))) .z)))))) .z))))) .z))))
theorem Fw:aJ 107 (Fu n):=oE (au (AU n) (au Fj (au (qp n) aA))) func107 Fv n
def IA:dg xx:=⟨[.p 0,.f 161 [] []],[(0,gi),(1,.l aH)],[.v af],[(0,gi),(1,.l aH)],λ(qa,qb,qc,qd,qe,qf,qg,qh,qi,qj)=>sG n qa qb qc qd qe qf qg qh qi qj⟩
def IB:ct xx:=tzG (IA n)
def IC:Hn SI:=(cp (.s (.s .z (.b (.l ⟨[(5,.v af),(13,.v af)],[],[1,11,12],[0,1],1512,[]⟩ 0 ⟨[(5,.v af)],[],[],[0,1],1512,[]⟩ .z))) .z))
theorem IE:aJ 160 (IB n):=oE (au Hy aA) func160 IC n
def Fx:dg xx:=⟨[.p 0],[(0,gi),(1,.l aH)],[.v af],[(0,gi),(1,.l aH)],λ(qa,qb,qc,qd,qe,qf,qg,qh,qi,qj)=>lX n qa qb qc qd qe qf qg qh qi qj⟩
def Fy:ct xx:=tzG (Fx n)
theorem Fz:aJ 108 (Fy n):=oE (au (IE n) aA) func108 .z n
def AX:dg xx:=⟨[.p 0,.f 163 [] []],[(0,gi),(1,.l aH)],[.v af],[(0,gi),(1,.l aH)],λ(qa,qb,qc,qd,qe,qf,qg,qh,qi,qj)=>nQ n qa qb qc qd qe qf qg qh qi qj⟩
def AY:ct xx:=tzG (AX n)
def AZ:Hn SI:=(cp (.s (.s .z (.b (.l ⟨[(5,.v af),(13,.v af)],[],[1,11,12],[0,1],1512,[]⟩ 0 ⟨[(5,.v af)],[],[],[0,1],1512,[]⟩ .z))) .z))
theorem A7:aJ 162 (AY n):=oE (au Cy aA) func162 AZ n
def Dw:dg xx:=⟨[.p 0],[(0,gi),(1,.l aH)],[.v af],[(0,gi),(1,.l aH)],λ(qa,qb,qc,qd,qe,qf,qg,qh,qi,qj)=>kH n qa qb qc qd qe qf qg qh qi qj⟩
def Dx:ct xx:=tzG (Dw n)
theorem Dy:aJ 109 (Dx n):=oE (au (A7 n) aA) func109 .z n
def A8:dg xx:=⟨[.p 0,.f 164 [] []],[(0,gi),(1,.l aH)],[.v af],[(0,gi),(1,.l aH)],λ(qa,qb,qc,qd,qe,qf,qg,qh,qi,qj)=>nR n qa qb qc qd qe qf qg qh qi qj⟩
def A9:ct xx:=tzG (A8 n)
def Ba:Hn SI:=(cp (.s (.s .z (.b (.l ⟨[(5,.v af),(13,.v af)],[],[1,11,12],[0,1],1512,[]⟩ 0 ⟨[(5,.v af)],[],[],[0,1],1512,[]⟩ .z))) .z))
theorem Bb:aJ 162 (A9 n):=oE (au Dv aA) func162 Ba n
def Dz:dg xx:=⟨[.p 0],[(0,gi),(1,.l aH)],[.v af],[(0,gi),(1,.l aH)],λ(qa,qb,qc,qd,qe,qf,qg,qh,qi,qj)=>kI n qa qb qc qd qe qf qg qh qi qj⟩
def DF:ct xx:=tzG (Dz n)
theorem DI:aJ 110 (DF n):=oE (au (Bb n) aA) func110 .z n
def IG:dg xx:=⟨[.p 0,.f 165 [] []],[(0,gi),(1,.l aH)],[.v af],[(0,gi),(1,.l aH)],λ(qa,qb,qc,qd,qe,qf,qg,qh,qi,qj)=>sH n qa qb qc qd qe qf qg qh qi qj⟩
def II:ct xx:=tzG (IG n)
def IJ:Hn SI:=(cp (.s (.s .z (.b (.l ⟨[(5,.v af),(13,.v af)],[],[1,11,12],[0,1],1512,[]⟩ 0 ⟨[(5,.v af)],[],[],[0,1],1512,[]⟩ .z))) .z))
theorem IK:aJ 160 (II n):=oE (au Fq aA) func160 IJ n
def FB:dg xx:=⟨[.p 0],[(0,gi),(1,.l aH)],[.v af],[(0,gi),(1,.l aH)],λ(qa,qb,qc,qd,qe,qf,qg,qh,qi,qj)=>lY n qa qb qc qd qe qf qg qh qi qj⟩
def FC:ct xx:=tzG (FB n)
theorem FD:aJ 111 (FC n):=oE (au (IK n) aA) func111 .z n
def DJ:dg xx:=⟨[.p 0,.v ax,.v af],[(0,gi),(1,.l aH)],[.v .bool],[(0,gi),(1,.l aH)],λ(qa,qb,qc,qd,qe,qf,qg,qh,qi,qj,qk,ql)=>kK n qa qb qc qd qe qf qg qh qi qj qk ql⟩
def DK:ct xx:=tzG (DJ n)
def DL:Hn SI:=(ra (.s (.s .z (.b (.l ⟨[(9,.v af),(27,.v af)],[],[7,25,26],[0,1,1512],2280,[]⟩ 0 ⟨[(9,.v af)],[],[7],[0,1,1512],2280,[]⟩ (cp (.s (.j ⟨[(9,.v af)],[],[7,25,26,27],[0,1,1512],2344,[]⟩ .z) .z))))) .z))
theorem DR:aJ 166 (DK n):=oE (au WH (au Di (au KD aA))) func166 DL n
def Bu:dg xx:=⟨[.p 0],[(0,gi),(1,.l aH)],[.v af],[(0,gi),(1,.l aH)],λ(qa,qb,qc,qd,qe,qf,qg,qh,qi,qj)=>jT n qa qb qc qd qe qf qg qh qi qj⟩
def Bv:ct xx:=tzG (Bu n)
def Bw:Hn SI:=(cp (.s (.s .z (.b (.l ⟨[(3,.v af),(14,.v af)],[(0,gi),(1,.l aH)],[0,12,13],[],1512,[]⟩ 0 ⟨[(3,.v af)],[(0,gi),(1,.l aH)],[],[],1512,[]⟩ (cp (.s (.b (cp (.s (.b (.l ⟨[(6,.v af),(7,.v af)],[(0,gi),(1,.l aH)],[0,5,12,13,14],[1704],2024,[]⟩ 2 ⟨[(6,.v af)],[(0,gi),(1,.l aH)],[0,12,13,14],[],2024,[]⟩ .z)) .z))) .z))))) .z))
theorem Bz:aJ 112 (Bv n):=oE (au (DR n) aA) func112 Bw n
def yO:dg xx:=⟨[.v aH,.p 0],[(0,.c 1 [[.p 1]]),(1,ux),(2,.l aH)],[.v af],[(0,.c 1 [[.p 1]]),(1,ux),(2,.l aH)],λ(qa,qb,qc,qd,qe,qf,qg,qh,qi,qj,qk)=>lM n qa qb qc qd qe qf qg qh qi qj qk⟩
def yP:ct xx:=tzG (yO n)
theorem yQ:aJ 167 (yP n):=oE (au (Rp n) aA) func167 .z n
def IL:dg xx:=⟨[.p 0,.f 167 [] [.p 1]],[(0,ux),(1,.c 1 [[.p 0]]),(2,.l aH)],[.v af],[(0,ux),(1,.c 1 [[.p 0]]),(2,.l aH)],λ(qa,qb,qc,qd,qe,qf,qg,qh,qi,qj)=>sI n qa qb qc qd qe qf qg qh qi qj⟩
def IQ:ct xx:=tzG (IL n)
def IU:Hn SI:=(cp (.s (.s .z (.b (.l ⟨[(5,.v af),(13,.v af)],[(0,ux),(1,.c 1 [[.p 0]]),(2,.l aH)],[1,11,12],[],1512,[]⟩ 0 ⟨[(5,.v af)],[(0,ux),(1,.c 1 [[.p 0]]),(2,.l aH)],[],[],1512,[]⟩ .z))) .z))
theorem IV:aJ 160 (IQ n):=oE (au (yQ n) aA) func160 IU n
def BA:dg xx:=⟨[.p 0],[(0,gi),(1,.l aH)],[.v af],[(0,gi),(1,.l aH)],λ(qa,qb,qc,qd,qe,qf,qg,qh,qi,qj)=>jU n qa qb qc qd qe qf qg qh qi qj⟩
def BB:ct xx:=tzG (BA n)
theorem BD:aJ 113 (BB n):=oE (au (IV n) aA) func113 .z n
def afa:ct xx:=⟨[.d (.st SI.lj),.d (.st SI.Lot),.d (.st SI.fc)],[.fresh (.st SI.Entry)],λa=>nS n a.1 a.2.1 a.2.2.1,none⟩
def afb:Hn SI:=(cp (.s (.j ⟨[],[(1384,.c 10 [[.v (.sl bE),.v (.sl bn),.v (.sl bG),.v (.sl aU),.v (.sl bM),.v (.sl bI),.v (.sl bf),.v af,.v (.sl ax),.nil]])],[5,7],[1128],1512,[]⟩ .z) (.s (.s .z (.b (.l ⟨[(31,.v af)],[(1384,.c 10 [[.v (.sl bE),.v (.sl bn),.v (.sl bG),.v (.sl aU),.v (.sl bM),.v (.sl bI),.v (.sl bf),.v af,.v (.sl ax),.o 1960]]),(1960,.l aH)],[7,29,30],[1768],1961,[(6668873,aH)]⟩ 0 ⟨[],[(1384,.c 10 [[.v (.sl bE),.v (.sl bn),.v (.sl bG),.v (.sl aU),.v (.sl bM),.v (.sl bI),.v (.sl bf),.v af,.v (.sl ax),.o 1960]]),(1960,.l aH)],[7],[],1961,[]⟩ (cp (.s (.j ⟨[],[(1384,.c 10 [[.v (.sl bE),.v (.sl bn),.v (.sl bG),.v (.sl aU),.v (.sl bM),.v (.sl bI),.v (.sl bf),.v af,.v (.sl ax),.o 2025]]),(2025,.l aH)],[7,29,30,31],[1768],2026,[]⟩ (.b (.s .z (.s (.j ⟨[(41,.v .bool)],[],[7,9,29,30,31],[1384,1768,1960,2217],2409,[]⟩ .z) .z)))) .z))))) (cp (.s (.s .z (.b (.un .z (.un .z (.un .z (.un .z (.un .z (.un .z (.un .z (.un .z (.un .z (.un .z .z)))))))))))) .z)))))
theorem afc:aJ 64 (afa n):=cq (au (lV n) (au (Cx n) (au l5 (au (Iz n) (au (Fw n) (au (Fz n) (au (Dy n) (au (DI n) (au (FD n) (au (Bz n) (au (BD n) aA))))))))))) func64 afb n
def akm:ct xx:=⟨[.d af],[.d af,.d .bool],λa=>Au a.1,none⟩
def akn:Hn SI:=(.s .z (.s (.s .z (.b (.s (.j ⟨[(5,.v .bool)],[],[0,4],[],1192,[]⟩ .z) (.s .z (.s (.j ⟨[(10,.v .bool)],[],[0,4],[],1192,[]⟩ .z) .z))))) .z))
theorem ako:aJ 195 akm:=cq aA func195 akn 0
def ah9:Hn SI:=(cp (.s (.s (.j ⟨[(28,.v .bool)],[],[1,2],[1000],1640,[]⟩ .z) .z) (.s .z (.s (.s .z (.b (.l ⟨[(7,.v af),(32,.v af)],[],[1,30,31],[],1960,[]⟩ 0 ⟨[(7,.v af)],[],[],[],1960,[]⟩ .z))) .z))))
theorem afd(rc:(dD)->(Int)->J Int)(hr:aJ 154 (Gn rc)):aJ 154 (Gn (Ck n rc)):=cq (au ako (au hr aA)) func154 ah9 n
theorem Rq(n:Nat):∀m,aJ 154 (Gn (uE n m))
 | 0=>A2 (xQ func154 (by kernel_rfl:Tryz.f154.body=some (Tryz.f154.body.getD .skip)) (by kernel_rfl)) (λ _ _ h=>(by cases h)) rfl
 |m+1=>afd n _ (Rq n m)
end
end Go.Proofs
