import Derived.Test.YtnclkjejgffdmacGreatTC2
open List (mem_map all_cons)
namespace Go.Proofs
open Go.Gb Go.RowKit
open Tryz
noncomputable section
variable (n:Nat)
theorem ase{h:aC}{c:aK}{F:S}:pG Tryz.prog (iM tT) (cO (cA (cB mN))) (nq h) F [0,1,2,3] ⟨RK,RE h c,[]⟩=
 some (⟨yv h c,yy h c,[11,10,9,8].map λt=>(t,none)⟩,[zz Tryz.prog 33 [ri h] [] [(1000,⟨4,pd 1001⟩),(1001,mf h)] (.mp 1000),NT 0 [(1000,⟨4,pd 1001⟩),(1001,mf h)] (.mp 1000),II (dN [] ((⟨RK,RE h c,[]⟩:ix).st F).obj) [ri h] [] [] []]):=by kernel_rfl
noncomputable abbrev AF:Y (Nat×Option Bool):=[(11,none),(10,none),(9,none),(8,none)]
theorem asf{h:aC}{c:aK}{F:S}:∃g:J Out->J Out,(∀ o,g (some o)=some o)/\Gb.opAt Tryz.prog (iM tT) (cO (cA (cB mN))) (nq h) 4 ((⟨yv h c,yy h c,AF⟩:ix).st F)=
 (g ((yH (.int .i64 c.ec) (pd (cD 1+1))).bind λr=>(xy r (some (.agg [nf,nf]))).bind λv=>pv (.eE [v,bo r.isSome]))).bind λout=>if out.upd.all (λ p=>EP 4 p.1 || [].contains p.1)then some (⟨out.v,out.upd,[]++out.obs⟩,none)else none:=
 ⟨λ X=>X,λ_=>rfl,by kernel_rfl⟩
theorem TC{h:aC}{c:aK}{F:S}{f1 f2:Nat}{c1 c2:Y AV}{b:Bool}:pG Tryz.prog (iM tT) (cO (cA (cB mN))) (nq h) F [5,6,7,8,9,10] ⟨(12,.eE [.agg [.fn f1 [] c1,.fn f2 [] c2],bo b])::yv h c,yy h c,(12,none)::AF⟩=
 some (⟨[(6,bo b),(5,.ptr (cD 8) 0 0),(14,bo b),(13,.agg [.fn f1 [] c1,.fn f2 [] c2]),(7,.eE [.agg [.fn f1 [] c1,.fn f2 [] c2],bo b]),(12,.eE [.agg [.fn f1 [] c1,.fn f2 [] c2],bo b])]++yv h c,[(cD 8,some ⟨2,[[.fn f1 [] c1,.fn f2 [] c2]]⟩),(cD 8,some ⟨2,[[nf,nf]]⟩)]++yy h c,[(6,none),(5,none),(14,none),(13,none),(7,none),(12,none)]++AF⟩,[]):=by kernel_rfl
theorem asg{h:aC}{c:aK}{F:S}{b:Bool}:pG Tryz.prog (iM tT) (cO (cA (cB mN))) (nq h) F [5,6,7,8,9,10] ⟨(12,.eE [.agg [nf,nf],bo b])::yv h c,yy h c,(12,none)::AF⟩=
 some (⟨[(6,bo b),(5,.ptr (cD 8) 0 0),(14,bo b),(13,.agg [nf,nf]),(7,.eE [.agg [nf,nf],bo b]),(12,.eE [.agg [nf,nf],bo b])]++yv h c,[(cD 8,some ⟨2,[[nf,nf]]⟩),(cD 8,some ⟨2,[[nf,nf]]⟩)]++yy h c,[(6,none),(5,none),(14,none),(13,none),(7,none),(12,none)]++AF⟩,[]):=by kernel_rfl
theorem ash{h:aC}:WW (cO (cA (cB mN))) (nq h)=true:=by kernel_rfl
theorem asi{h:aC}{c:aK}{F:S}{r:J (Nat×AV)}{v:AV}(hm:yH (.int .i64 c.ec) (pd (cD 1+1))=some r)(hz:xy r (some (.agg [nf,nf]))=some v):
 pG Tryz.prog (iM tT) (cO (cA (cB mN))) (nq h) F [4] ⟨yv h c,yy h c,AF⟩=some (⟨(12,.eE [v,bo r.isSome])::yv h c,yy h c,(12,none)::AF⟩,[]):=by
 obtain⟨g,hg,e⟩:=asf (h:=h) (c:=c) (F:=F);rw[hm]at e;simp only[ai,hz,pv,hg]at e;have e1:(cO (cA (cB mN)))[4]? =some ((cO (cA (cB mN)))[4]!):=by kernel_rfl
 have e2:((cO (cA (cB mN)))[4]!).dst=some 12:=by kernel_rfl
 simp only[pG,e1,ai,e];simp only[ix.app,e2];rfl
noncomputable abbrev yr(b:Bool):Y (Nat×AV):=[(2,.ptr 1001 0 0),(3,.ptr 1002 0 0),(5,.ptr 1003 0 0),(6,bo b)]
noncomputable abbrev A2(h:aC)(c:aK)(x y:AV):Y (Nat×Option aN):=[(1001,some (mf h)),(1002,some (yq c)),(1003,some ⟨2,[[x,y]]⟩),(1004,some (mf h))]
noncomputable def aoO(h:aC)(r b:Bool):Nat->ky
 | 3=>zj [1003]
 | 4=>zj [1002]
 | 5=>if b then⟨.call [.row (jJ h)] (.one (.d (.s (.sc (.bool r))))) false,[1004],[1004],false⟩else⟨.call [] (.one (.d (.s (.sc (.bool r))))) false,[],[],false⟩
 |_=>A1
theorem arp{h:aC}{c:aK}{F:S}{x:AV}{f:Nat}{r:Bool}:∃Θ O K,pG Tryz.prog (iM tT) (cO (cA (cB (cB mN)))) (aoO h r true) F (List.range (cO (cA (cB (cB mN)))).size) ⟨yr true,A2 h c x (hfB f 1004),[]⟩=
 some (⟨(4,bo r)::Θ,O,(4,none)::K⟩,[(mf h).rows[0]? =some ((jJ h).map AV.t),sq Tryz.prog f [sY c,.eW (jJ h) 0] (.one (.d (.s (.sc (.bool r)))))]):=
 ⟨[(21,bo r),(20,bo r),(19,sY c),(18,hfB f 1004),(17,.ptr 1003 0 1),(16,bo true),(15,bo true)]++yr true,(1004,none)::A2 h c x (hfB f 1004),[21,20,19,18,17,16,15].map λt=>(t,none),by kernel_rfl⟩
theorem asj{h:aC}{c:aK}{F:S}{x:AV}{f:Nat}{r:Bool}:∃Θ O K,pG Tryz.prog (iM tT) (cO (cA (cB (cB mN)))) (aoO h r false) F (List.range (cO (cA (cB (cB mN)))).size) ⟨yr true,A2 h c x (.fn f [] []),[]⟩=
 some (⟨(4,bo r)::Θ,O,(4,none)::K⟩,[sq Tryz.prog f [sY c] (.one (.d (.s (.sc (.bool r)))))]):=
 ⟨[(21,bo r),(20,bo r),(19,sY c),(18,.fn f [] []),(17,.ptr 1003 0 1),(16,bo true),(15,bo true)]++yr true,A2 h c x (.fn f [] []),[21,20,19,18,17,16,15].map λt=>(t,none),by kernel_rfl⟩
theorem asl{h:aC}{c:aK}{F:S}:∃Θ O K,pG Tryz.prog (iM tT) (cO (cA (cB (cB mN)))) (aoO h false false) F (List.range (cO (cA (cB (cB mN)))).size) ⟨yr false,A2 h c nf nf,[]⟩=
 some (⟨(4,bo false)::Θ,O,(4,none)::K⟩,[false=true->false=true]):=
 ⟨[(21,bo false),(20,.undef),(19,.undef),(18,.undef),(17,.undef),(16,bo false),(15,bo false)]++yr false,A2 h c nf nf,[(21,none),(20,some false),(19,some false),(18,some false),(17,some false),(16,none),(15,none)],by kernel_rfl⟩
theorem Pu{Ξ:Exit->St->Prop}{h:aC}{c:aK}{r:J (Nat×AV)}{x y x' y':AV}(hm:yH (.int .i64 c.ec) (pd (cD 1+1))=some r)(hz:xy r (some (.agg [nf,nf]))=some (.agg [x,y]))
 (hr:pG Tryz.prog (iM tT) (cO (cA (cB mN))) (nq h) (λ _=>none) [5,6,7,8,9,10] ⟨(12,.eE [.agg [x,y],bo r.isSome])::yv h c,yy h c,(12,none)::AF⟩=
  some (⟨[(6,bo r.isSome),(5,.ptr (cD 8) 0 0),(14,bo r.isSome),(13,.agg [x,y]),(7,.eE [.agg [x,y],bo r.isSome]),(12,.eE [.agg [x,y],bo r.isSome])]++yv h c,[(cD 8,some ⟨2,[[x,y]]⟩),(cD 8,some ⟨2,[[nf,nf]]⟩)]++yy h c,[(6,none),(5,none),(14,none),(13,none),(7,none),(12,none)]++AF⟩,[]))
 (hx:∀z∈[(x,x'),(y,y')],ik (fR [(cD 8,1003),(cD 1+1,1004)]) z.1=z.2/\(refs z.1).all (dR [(cD 8,1003),(cD 1+1,1004)])=true/\(refs z.2).all (Nat.blt · 1000000)=true)
 (hq:Ev Tryz.prog Tryz.f21.ntmps (.seq (cA (cB (cB mN))) .ret) Ξ ((⟨yr r.isSome,A2 h c x' y',[]⟩:ix).st λ_=>none)):
 Ev Tryz.prog Tryz.f21.ntmps mN Ξ ((⟨[(0,ri h),(1,sY c)],[],[]⟩:ix).st λ_=>none):=by
 show Ev _ _ (Code.seq (cA mN) (Code.seq (cA (cB mN)) (Code.seq (cA (cB (cB mN))) Code.ret))) _ _;refine BX (tK (ag:=cO (cA mN)) (σ2:=(⟨RK,RE h c,[]⟩:ix).st λ_=>none) yD (by kernel_rfl) asB trivial ?_ ?_)
 .refine vJ [(cD 0,1001),(cD 1,1002)] (by kernel_rfl) (λ p hp=>?_) (λ q hq o' ho=>?_) rfl (by kernel_rfl) (by kernel_rfl)
  .simp only[aI,bB,or_false]at hp;rcases hp with rfl|rfl<;>exact⟨rfl,rfl,rfl⟩
  .simp only[aI,bB,or_false]at hq;rcases hq with rfl|rfl
   .cases ho;exact⟨cD 0,mf h,rfl,rfl,rfl,rfl,rfl⟩
   .cases ho;exact⟨cD 1,yq c,rfl,rfl,rfl,rfl,rfl⟩
 have hrun:=JX [0,1,2,3] ([4]++[5,6,7,8,9,10]) _ _ _ _ _ ase (JX [4] [5,6,7,8,9,10] _ _ _ _ _ (asi hm hz) hr);refine BX (X5 (ag:=cO (cA (cB mN))) (σ2:=(⟨yr r.isSome,A2 h c x' y',[]⟩:ix).st λ_=>none) yD mixed (by kernel_rfl) ash hrun ?_ ?_ hq)
 .exact⟨aqs h,akI h,akJ⟩
 .obtain⟨a1,a2,a3⟩:=hx (x,x') (by simp);obtain⟨b1,b2,b3⟩:=hx (y,y') (by simp);refine vJ [(cD 8,1003),(cD 1+1,1004)] (by kernel_rfl) (λ p hp=>?_) (λ q hq o' ho=>?_) rfl (by cases r<;>rfl) ?_
  .simp only[aI,bB,or_false]at hp;rcases hp with rfl|rfl|rfl|rfl<;>exact⟨rfl,rfl,rfl⟩
  .simp only[aI,bB,or_false]at hq;rcases hq with rfl|rfl|rfl|rfl
   .cases ho;exact⟨1001,mf h,rfl,rfl,rfl,rfl,rfl⟩
   .cases ho;exact⟨1002,yq c,rfl,rfl,rfl,rfl,rfl⟩
   .cases ho;refine⟨cD 8,⟨2,[[x,y]]⟩,rfl,rfl,rfl,?_,?_⟩
    .simp only[Dt,bq,List.map_nil,wB];rw[a1,b1]
    .simp only[all_cons,List.all_nil,dJ,List.append_nil,List.all_append];rw[a2,b2];rfl
   .cases ho;exact⟨cD 1+1,mf h,rfl,rfl,rfl,rfl,rfl⟩
  .have e:(Nat.blt 1003 1000000&&((some (⟨2,[[x',y']]⟩:aN)).map λo=>o.rows.all λr=>(dJ r).all (Nat.blt · 1000000)).getD true)=true:=(by simp only[Option.map_some,Option.getD_some,all_cons,List.all_nil,dJ,List.append_nil,List.all_append];rw[a3,b3];rfl);simp only[A2,all_cons,List.all_nil,e,Bool.and_true];rfl
theorem Z7{Φ:Y (Nat×Option aN)}{b r:Bool}{obs:Y Prop}{dp:Nat->ky}{Θ:Y (Nat×AV)}{O:Y (Nat×Option aN)}{K:Y (Nat×Option Bool)}
 (hr:pG Tryz.prog (iM tT) (cO (cA (cB (cB mN)))) dp (λ _=>none) (List.range (cO (cA (cB (cB mN)))).size) ⟨yr b,Φ,[]⟩=some (⟨(4,bo r)::Θ,O,(4,none)::K⟩,obs)) (ho:iZ obs):
 Ev Tryz.prog Tryz.f21.ntmps (.seq (cA (cB (cB mN))) .ret) (Pc (iM tT) Tryz.f21.results.toList (.one (.d (.s (.sc (.bool r))))) []) ((⟨yr b,Φ,[]⟩:ix).st λ_=>none):=by refine BX (tK (ag:=cO (cA (cB (cB mN)))) (σ2:=(⟨[(4,bo r)],[],[]⟩:ix).st λ_=>none) yD (by kernel_rfl) hr ho ?_ (Wg ⟨[bo r],none,rfl,rfl,λj p hj=>by simp at hj⟩));refine vJ [] (by kernel_rfl) (λ p hp=>?_) (λ q hq=>by cases hq) rfl rfl rfl;simp only[bC]at hp;subst hp;exact⟨rfl,rfl,rfl⟩
theorem Z8(k1:aD 46 kE)(k3:aD 50 (vN n))(k5:aD 56 (vS n))(k7:aD 59 (vT n)):aD 21 (Ke n):=by
 have hb:Tryz.f21.body=some mN:=by kernel_rfl
 have hn : (Tryz.f21.name == "runtime.NumGoroutine") = false := by kernel_rfl
 refine xl (qG func21 hb hn) (λ a r e=>?_) rfl;obtain⟨h,c,_⟩:=a;have e:rF n h c=some r:=e;refine QK (args:=[ri h,sY c]) (os:=[]) (os':=[]) yD func21 hb hn (by show 2<=Tryz.f21.ntmps;decide +kernel) (λ k hk=>by have hk:k∈([]:Y Nat):=hk;cases hk) (by simp) rfl ?_;show Ev _ _ mN (Pc (iM tT) Tryz.f21.results.toList (.one (.d (.s (.sc (.bool r))))) []) ((⟨[(0,ri h),(1,sY c)],[],[]⟩:ix).st λ_=>none);unfold rF at e;by_cases h0:c.ec=0
 .rw[h0]at e;have f:=pu (k1.2.1 (c,()) r e);obtain⟨Θ,O,K,hr⟩:=asj (h:=h) (c:=c) (F:=λ_=>none) (x:=hf0) (f:=46) (r:=r);exact Pu (r:=some (0,.agg [hf0,hf0])) (by rw[h0];rfl) rfl TC (λ z hz=>by simp only[aI,bB,or_false]at hz;rcases hz with rfl|rfl<;>exact⟨rfl,rfl,rfl⟩) (Z7 hr f)
 by_cases h1:c.ec=1
 .rw[h1]at e;have f:=pu (k3.2.1 (c,h,()) r e);obtain⟨Θ,O,K,hr⟩:=arp (h:=h) (c:=c) (F:=λ_=>none) (x:=.fn 47 [] []) (f:=50) (r:=r);exact Pu (r:=some (1,.agg [.fn 47 [] [],hfB 50 (cD 1+1)])) (by rw[h1];rfl) rfl TC (λ z hz=>by simp only[aI,bB,or_false]at hz;rcases hz with rfl|rfl<;>exact⟨rfl,rfl,rfl⟩) (Z7 hr ⟨rfl,f⟩)
 by_cases h2:c.ec=2
 .rw[h2]at e;have f:=pu (k5.2.1 (c,h,()) r e);obtain⟨Θ,O,K,hr⟩:=arp (h:=h) (c:=c) (F:=λ_=>none) (x:=hfB 53 1004) (f:=56) (r:=r);exact Pu (r:=some (2,.agg [hfB 53 (cD 1+1),hfB 56 (cD 1+1)])) (by rw[h2];rfl) rfl TC (λ z hz=>by simp only[aI,bB,or_false]at hz;rcases hz with rfl|rfl<;>exact⟨rfl,rfl,rfl⟩) (Z7 hr ⟨rfl,f⟩)
 by_cases h3:c.ec=3
 .rw[h3]at e;have f:=pu (k7.2.1 (c,h,()) r e);obtain⟨Θ,O,K,hr⟩:=arp (h:=h) (c:=c) (F:=λ_=>none) (x:=.fn 58 [] []) (f:=59) (r:=r);exact Pu (r:=some (3,.agg [.fn 58 [] [],hfB 59 (cD 1+1)])) (by rw[h3];rfl) rfl TC (λ z hz=>by simp only[aI,bB,or_false]at hz;rcases hz with rfl|rfl<;>exact⟨rfl,rfl,rfl⟩) (Z7 hr ⟨rfl,f⟩)
 .have er:r=false:=by rw[show (c.ec==0)=false by simpa using h0,show(c.ec==1)=false by simpa using h1,show(c.ec==2)=false by simpa using h2,show(c.ec==3)=false by simpa using h3]at e;injection e with e;exact e.symm
  subst er;obtain⟨Θ,O,K,hr⟩:=asl (h:=h) (c:=c) (F:=λ_=>none);exact Pu (r:=none) (akK h0 h1 h2 h3) rfl asg (λ z hz=>by simp only[aI,bB,or_false]at hz;rcases hz with rfl|rfl<;>exact⟨rfl,rfl,rfl⟩) (Z7 hr λe=>e)
theorem Z9:aD 21 (Ke n):=Z8 n vM (Gi n) (Gr n) (Gs n)
def SS:cy xx:=⟨[.d dF],[.fresh .bool],λa=>iK n a.1,none⟩
def SV:Hn SI:=(iu (.s (.s .z (.b (.l ⟨[(16,.v af)],[(1512,.l .bool)],[1,3,14,15],[1000],1896,[]⟩ 0 ⟨[],[(1512,.l .bool)],[3],[],1896,[]⟩ (cx (.s (.j ⟨[],[(1512,.l .bool)],[1,3,14,15,16],[1000],1960,[]⟩ .z) .z))))) .z))
theorem wX:aD 6 (SS n):=cq (ak wT (ak (R4 n) (ak (U3 n) (ak (Sc n) (ak (Z9 n) ay))))) func6 SV n
def abo:cy xx:=⟨[.d (.sl dL)],[.d .bool],λa=>yg n a.1,none⟩
def abp:Hn SI:=(.s .z (.s (.s .z (.b (.lx ⟨[(10,.v af)],[],[0,8,9],[],1256,[]⟩ 0 ⟨[],[],[0],[],1256,[]⟩ (cx (.s (.b (iu (.b (.lx ⟨[(5,.v af),(17,.v af)],[],[0,8,9,10,15,16],[],1896,[]⟩ 2 ⟨[],[],[0,8,9,10],[],1896,[]⟩ (cx (.s (.b (.s .z (.s (.s (.j ⟨[(29,.v .bool)],[],[0,7,8,9,10,15,16,17],[],2152,[]⟩ .z) .z) .z))) .z)))))) .z))))) .z))
theorem abq:aD 34 (abo n):=cq ay func34 abp n
noncomputable def VA:cy xx:=⟨[.d (.sl dL)],[.d (.sl (.sl af))],λa=>qb a.1,none⟩
theorem VB(l:Y aK)(r:Y (List Int))(h:qb l=some r):ro Tryz.prog 35 [.t (.sl (l.map zO))] [] [] (.one (.d (.s (.sl (r.map λx=>[.sl (x.map λi=>[.sc (.int .i64 i)])]))))):=by
 have hcall:eH Tryz.prog 35:=⟨_,func35,by kernel_rfl,by kernel_rfl⟩;unfold qb at h;cases hb:(decide (l.length<=1000000)&&(l.all λc=>decide (c.attacks.length<=1000000)&&c.attacks.all λk=>decide (0<=k)&&decide (k<(l.length:Int))))with
 |false=>rw[hb]at h;cases h
 |true=>
  rw[hb]at h;cases h;simp only[aT,bf,List.all_eq_true]at hb;obtain⟨h1,h2⟩:=hb;have hl:(l.map (·.attacks)).length=l.length:=List.length_map _;rw[<- hl];refine afV (TL:=41) (TI:=3) hcall (by simp) (λ j c r hc hr=>?_) λsv w hS=>aps (l.map (·.attacks)) (by omega) (λ c hc=>?_) (λ c hc k hk=>?_) sv w hS
  .rw[List.getElem?_map]at hc hr;cases hg:l[j]? with
   |none=>rw[hg]at hc;cases hc
   |some x=>
    rw[hg]at hc hr;injection hc with hc;injection hr with hr;subst hc hr;exact⟨_,_,_,_,_,rfl⟩
  .obtain⟨x,hx,rfl⟩:=mem_map.1 hc;exact(h2 x hx).1
  .obtain⟨x,hx,rfl⟩:=mem_map.1 hc;rw[hl];exact(h2 x hx).2 k hk
theorem VD:aD 35 VA:=
 xl ⟨_,func35,by kernel_rfl,by kernel_rfl⟩ (λ a r h=>VB a.1 r h) rfl
def SY:cy xx:=⟨[.d (.sl dL)],[.fresh af,.d (.sl af),.d af],λa=>qO n a.1,none⟩
def S9:Hn SI:=(W5 (.s (.s .z (.b (.l ⟨[(9,.o 2600),(40,.v af)],[(2216,.l af),(2600,.l af)],[0,5,6,7,8,39],[1704,1896],2601,[(9,af)]⟩ 0 ⟨[(9,.o 2600)],[(2216,.l af),(2600,.l af)],[0,6,7,8],[1704,1896],2601,[]⟩ (cx (.s (.j ⟨[(9,.o 2665)],[(2216,.l af),(2665,.l af)],[0,5,6,7,8,39,40],[1704,1896],2666,[]⟩ .z) .z))))) (.s (.s .z (.b (.l ⟨[(9,.o 2665),(11,.v af)],[(1704,.l af),(1896,.l af),(2216,.l af),(2665,.l af)],[0,6,7,8],[],2666,[]⟩ 2 ⟨[],[(1704,.l af),(1896,.l af)],[6,7],[],2665,[]⟩ (.s .z (.s (.b (.s .z (.s (.s .z (.b (.l ⟨[(68,.v af)],[(1704,.l af),(1896,.l af)],[0,6,7,8,9,11,12,13,66,67],[2216,2665],3178,[]⟩ 4 ⟨[],[(1704,.l af),(1896,.l af)],[0,6,7,8,9,11,12,13],[2216,2665],3178,[]⟩ .z))) (.s (.s .z (.b (.l ⟨[(12,.o 3370),(82,.v af)],[(1704,.l af),(1896,.l af),(3370,.l af)],[0,6,7,8,11,13,80,81],[2216,2665],3371,[(12,af)]⟩ 6 ⟨[(12,.o 3370)],[(1704,.l af),(1896,.l af),(3370,.l af)],[0,6,7,8,11,13],[2216],3371,[]⟩ (cx (.s (.b (cx (.b (.l ⟨[(12,.o 4075),(92,.v af)],[(1704,.l af),(1896,.l af),(4075,.l af)],[0,6,7,8,11,13,80,81,82,90,91],[2216,2665],4076,[]⟩ 8 ⟨[(12,.o 4075)],[(1704,.l af),(1896,.l af),(4075,.l af)],[0,6,7,8,11,13,80,81,82],[2216,2665],4076,[]⟩ (cx (.s (.j ⟨[(12,.o 4140)],[(1704,.l af),(1896,.l af),(4140,.l af)],[0,6,7,8,11,13,80,81,82,90,91,92],[2216,2665],4141,[]⟩ .z) .z)))))) .z))))) (.s (.s .z (.b (.l ⟨[(13,.o 3563),(117,.v af)],[(2216,.l af),(3563,.l af)],[0,6,7,8,11,115,116],[1704,1896,3370],3564,[(13,af)]⟩ 10 ⟨[(13,.o 3563)],[(2216,.l af),(3563,.l af)],[0,6,7,8,11],[1704,1896],3564,[]⟩ (cx (.s (.b (cx (.b (.l ⟨[(13,.o 4268),(127,.v af)],[(2216,.l af),(4268,.l af)],[0,6,7,8,11,115,116,117,125,126],[1704,1896,3370],4269,[]⟩ 12 ⟨[(13,.o 4268)],[(2216,.l af),(4268,.l af)],[0,6,7,8,11,115,116,117],[1704,1896,3370],4269,[]⟩ (cx (.s (.j ⟨[(13,.o 4333)],[(2216,.l af),(4333,.l af)],[0,6,7,8,11,115,116,117,125,126,127],[1704,1896,3370],4334,[]⟩ (.b (cx (.s (.j ⟨[(148,.v .bool)],[],[0,6,7,8,11,13,23,115,116,117,125,126,127],[1704,1896,2216,3370,4268],4973,[]⟩ .z) .z)))) .z)))))) .z))))) .z))))) .z))))) .z)))
theorem Ta:aD 23 (SY n):=cq (ak (abq n) (ak VD ay)) func23 S9 n
def Qu:cy xx:=⟨[.d dF],[.fresh af,.d .bool],λa=>iQ n a.1,none⟩
def Qv:Hn SI:=(wg (.s (.s .z (.b (.l ⟨[(24,.v af)],[(1704,.l dL)],[4,5,22,23],[1448],2088,[]⟩ 0 ⟨[],[(1704,.l dL)],[4,5],[1448],2088,[]⟩ (cx (.s (.j ⟨[],[(1704,.l dL)],[4,5,22,23,24],[1448],2152,[]⟩ (.b (.s .z (.s (.j ⟨[(39,.v .bool)],[],[4,5,6,7,22,23,24],[1448,1704,2344],2536,[]⟩ .z) .z)))) .z))))) (.s .z (.s (.s .z (.b (.l ⟨[(55,.v af)],[(2152,.l af)],[8,53,54],[1448],2856,[]⟩ 2 ⟨[],[(2152,.l af)],[8],[],2856,[]⟩ (cx (.s (.j ⟨[],[(2152,.l af)],[8,53,54,55],[1448],2920,[]⟩ .z) .z))))) .z))))
theorem BQ:aD 7 (Qu n):=cq (ak wT (ak (wX n) (ak (vL n) (ak (Ta n) ay)))) func7 Qv n
def aac:cy xx:=⟨[.d (.sl af),.d (.sl af)],[.d .bool],λa=>vB n a.1 a.2.1,none⟩
def aad:Hn SI:=(cx (.s (.s .z (.b (.lx ⟨[(5,.v af)],[],[0,1],[],1448,[]⟩ 0 ⟨[],[],[],[],1448,[]⟩ .z))) .z))
theorem Kg:aD 11 (aac n):=cq ay func11 aad n
def aoP:cy xx:=⟨[.d dF,.d (.sl af),.d .bool],[.d .bool],λa=>vC n a.1 a.2.1 a.2.2.1,none⟩
theorem aoQ:aD 13 (aoP n):=cq (ak (BQ n) (ak (Kg n) ay)) func13 .z n
def ahB:cy xx:=⟨[],[.d .bool],λ_=>KN n,none⟩
def ahC:Hn SI:=(An (.s (.j ⟨[(5,.v .bool)],[],[2,3,4],[1320,1896],2536,[]⟩ .z) .z))
theorem ahD:aD 4 (ahB n):=cq (ak aaO (ak (o6 n) (ak (aoQ n) ay))) func4 ahC n
def amq:cy xx:=⟨[.d (.st SI.pH)],[.d .bool],λa=>VZ n a.1,none⟩
def amr:Hn SI:=(cx (.s (.s (.j ⟨[(48,.v .bool)],[],[1,3],[1000,1256],1384,[]⟩ .z) .z) (.s (.s .z (.b (.lx ⟨[(4,.v af)],[],[1,3],[1000,1256],1448,[]⟩ 0 ⟨[],[],[1],[1000],1448,[]⟩ (.s .z (.s (.b (.s (.j ⟨[(73,.v .bool)],[],[1,3,4],[1000,1256],1768,[]⟩ .z) .z)) .z))))) (.s (.s .z (.b (.lx ⟨[(5,.v af)],[],[1],[1000],1512,[]⟩ 2 ⟨[],[],[1],[1000],1512,[]⟩ .z))) (.s (.s .z (.b (.lx ⟨[(6,.v af)],[],[1],[1000],1576,[]⟩ 4 ⟨[],[],[],[],1576,[]⟩ .z))) .z)))))
theorem ams:aD 14 (amq n):=cq ay func14 amr n
def Qw:cy xx:=⟨[.d (.sl eX)],[.d .bool],λa=>pR n a.1,none⟩
def Qx:Hn SI:=(.s .z (.s (.s .z (.b (.lx ⟨[(3,.v af)],[],[0],[],1128,[]⟩ 0 ⟨[],[],[0],[],1128,[]⟩ (.s .z (.s (.b (.s (.s .z (.b (.lx ⟨[(4,.v af)],[],[0,3],[],1448,[]⟩ 2 ⟨[],[],[0,3],[],1448,[]⟩ (.s .z (.s (.b (.s (.j ⟨[(44,.v .bool)],[],[0,3,4],[],1960,[]⟩ .z) .z)) .z))))) .z)) .z))))) .z))
theorem Qy:aD 30 (Qw n):=cq ay func30 Qx n
def amt:cy xx:=⟨[.d gT,.d (.st SI.mj),.d (.sl (.st SI.Act))],[.d .bool],λa=>V3 n a.1 a.2.1 a.2.2.1,none⟩
def amu:Hn SI:=(.s .z (.s (.s .z (.b (.lx ⟨[(7,.v af)],[],[2,3,4],[1000,1064],1256,[]⟩ 0 ⟨[],[],[2,3,4],[1000,1064],1256,[]⟩ .z))) .z))
theorem amv:aD 15 (amt n):=cq (ak (Qy n) ay) func15 amu n
def ajG:Hn SI:=(cx (.s (.s .z (.b (.l ⟨[(3,.v af),(4,.v af)],[],[1],[1000],1256,[]⟩ 0 ⟨[(3,.v af)],[],[],[],1256,[]⟩ .z))) .z))
theorem ahE(rc:(dD)->J Int)(hr:aD 31 (Jy rc)):aD 31 (Jy (MW n rc)):=cq (ak hr ay) func31 ajG n
theorem Uk(n:Nat):∀m,aD 31 (Jy (wQ n m))
 | 0=>xl (qG func31 (by kernel_rfl:Tryz.f31.body=some (Tryz.f31.body.getD .skip)) (by kernel_rfl)) (λ _ _ h=>(by cases h)) rfl
 |m+1=>ahE n _ (Uk n m)
def ajH:cy xx:=⟨[.d (.st SI.Expr)],[.d af],λa=>Jz n a.1,none⟩
theorem ajI:aD 31 (ajH n):=Uk n n
def amw:cy xx:=⟨[.d gT],[.d .bool],λa=>V4 n a.1,none⟩
def amx:Hn SI:=(.s .z (.s (.s (.j ⟨[(14,.v .bool)],[],[1],[1000],1128,[]⟩ .z) .z) (.s (.s .z (.b (.lx ⟨[(3,.v af)],[],[1],[1000],1192,[]⟩ 0 ⟨[],[],[1],[1000],1192,[]⟩ (.s .z (.s (.b (.s (.j ⟨[(39,.v .bool)],[],[1,3],[1000],1512,[]⟩ .z) .z)) .z))))) (.s (.s .z (.b (.lx ⟨[(4,.v af)],[],[1],[1000],1256,[]⟩ 2 ⟨[],[],[],[],1256,[]⟩ .z))) .z))))
theorem amy:aD 16 (amw n):=cq (ak (ajI n) ay) func16 amx n
def amz:cy xx:=⟨[.d dF],[.d .bool],λa=>V5 n a.1,none⟩
def amA:Hn SI:=(.s .z (.s (.s (.j ⟨[(48,.v .bool)],[],[1],[1000],1128,[]⟩ .z) .z) (.s (.s .z (.b (.lx ⟨[(3,.v af)],[],[1],[1000],1192,[]⟩ 0 ⟨[],[],[1],[1000],1192,[]⟩ .z))) (.s (.s .z (.b (.lx ⟨[(4,.v af)],[],[1],[1000],1256,[]⟩ 2 ⟨[],[],[],[],1256,[]⟩ .z))) .z))))
theorem amB:aD 5 (amz n):=cq (ak (ams n) (ak (amv n) (ak (amy n) ay))) func5 amA n
def VE:cy xx:=⟨[.d (.sl (.st SI.Case))],[.fresh (.st SI.Case)],λa=>Cn a.1,none⟩
theorem VF:aD 28 VE:=cq ay func28 .z 0
def VG:cy xx:=⟨[.d dF,.d (.sl .bool),.d af],[.fresh dL],λa=>xE n a.1 a.2.1 a.2.2.1,none⟩
def VH:Hn SI:=(iu (.s (.s .z (.b (.l ⟨[(8,.v af),(22,.v af)],[(1256,.l af)],[1,2,3,7,20,21],[1000],1640,[]⟩ 0 ⟨[],[(1256,.l af)],[1,2,3,7],[1000],1640,[]⟩ (cx (.s (.j ⟨[(8,.v af)],[(1256,.l af)],[1,2,3,7,20,21,22],[1000],1704,[]⟩ .z) .z))))) (.s .z (.s (.s .z (.b (.l ⟨[(11,.o 1960),(38,.v af)],[(1960,.l dL)],[1,2,3,7,36,37],[1000,1256],1961,[(11,dL)]⟩ 2 ⟨[(11,.o 1960)],[(1960,.l dL)],[],[],1961,[]⟩ (cx (.s (.j ⟨[(11,.o 2025)],[(2025,.l dL)],[1,2,3,7,36,37,38],[1000,1256],2026,[]⟩ (.b (iu (.s (.j ⟨[(14,.v (.sl af))],[],[1,2,3,7,11,13,36,37,38],[1000,1256,1960,2217],2921,[]⟩ .z) (.s .z (.s (.s .z (.b (.l ⟨[(62,.v af)],[(2217,Kd),(3433,.l af)],[1,2,3,7,11,13,36,37,38,60,61],[1000,1256,1960],3434,[(10080834,af)]⟩ 4 ⟨[],[(2217,Kd),(3433,.l af)],[1,2,3,7,11,13,36,37,38],[1000,1256,1960],3434,[]⟩ (cx (.s (.j ⟨[],[(2217,.c 6 [[.v af,.v af,.o 3498,.v af,.v .str,.v af]]),(3498,.l af)],[1,2,3,7,11,13,36,37,38,60,61,62],[1000,1256,1960],3499,[]⟩ .z) .z))))) .z)))))) .z))))) .z))))
theorem VI:aD 29 (VG n):=cq (ak (vL n) ay) func29 VH n
def VJ:cy xx:=⟨[.d dF,.d af],[.d dF,.d af],λa=>xG n a.1 a.2.1,none⟩
theorem VK:aD 9 (VJ n):=cq (ak wT (ak (o6 n) (ak JW (ak GH (ak VF (ak (wX n) (ak (VI n) ay))))))) func9 .z n
def LG:cy xx:=⟨[.d dF,.d af],[.d .bool],λa=>qy n a.1 a.2.1,none⟩
theorem LJ:aD 10 (LG n):=cq (ak (acN n) (ak (yM n) ay)) func10 .z n
def NE:cy xx:=⟨[.d dF,.d af,.d fG],[.d .bool],λa=>rH n a.1 a.2.1 a.2.2.1,none⟩
def NF:Hn SI:=(cx (.s (.s (.j ⟨[(35,.v .bool)],[],[1,3,5,7],[1000,1064],1320,[]⟩ .z) .z) (cx (.s (.s (.j ⟨[(57,.v .bool)],[],[1,3,5,7,8,9,10],[1000,1064,1384,1576],1960,[]⟩ .z) .z) (An (.s (.s (.j ⟨[(96,.v .bool)],[],[1,3,7,8,9,10,13,14,15,16],[1000,1384,1576,3688],3816,[]⟩ .z) .z) (.s (.s .z (.b (.lx ⟨[(17,.v af)],[],[1,3,7,8,9,10,13,14,15,16],[1000,1384,1576,3688],3880,[]⟩ 0 ⟨[],[],[1,3,7,8,9,10,14,15],[1000,1384,1576],3880,[]⟩ (.s .z (.s (.b (.s (.j ⟨[(117,.v .bool)],[],[1,3,7,8,9,10,13,14,15,16,17],[1000,1384,1576,3688],4136,[]⟩ .z) .z)) .z))))) (cx (.s (.s (.j ⟨[(159,.v .bool)],[],[1,7,8,9,10,18],[1384,1576,4264],4584,[]⟩ .z) .z) (.s .z (.s (.s .z (.b (.l ⟨[(20,.o 4712),(21,.v af)],[(4712,.l af)],[1,7,8,9,10,18],[1384,1576,4264],4713,[(20,af)]⟩ 2 ⟨[(20,.o 4712)],[(4712,.l af)],[1,7,10,18],[4264],4713,[]⟩ (.s .z (.s (.j ⟨[(20,.o 4969)],[(4969,.l af)],[1,7,8,9,10,18,21],[1384,1576,4264],4970,[]⟩ .z) .z))))) (cx (.s (.s .z (.b (.lx ⟨[(25,.v af)],[],[1,7,10,18,20,22,23,24],[4264,4712,4777,5225],5417,[]⟩ 4 ⟨[],[],[7,10,18,20,22,23,24],[4264,4712,4777,5225],5417,[]⟩ (.s .z (.s (.b (.s (.j ⟨[(210,.v .bool)],[],[1,7,10,18,20,22,23,24,25],[4264,4712,4777,5225],5673,[]⟩ .z) .z)) .z))))) .z)))))))))))))
theorem NG:aD 3 (NE n):=cq (ak (ahD n) (ak (amB n) (ak (wX n) (ak (BQ n) (ak (o6 n) (ak (VK n) (ak (LJ n) (ak (Kg n) ay)))))))) func3 NF n
end
end Go.Proofs
