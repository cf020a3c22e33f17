import Derived.Test.YtnclkjejgffdmaaGreatTC2
open List (mem_map all_cons)
namespace Go.Proofs
open Go.Gb Go.RowKit
open Tryz
noncomputable section
variable (n:Nat)
noncomputable abbrev ym:List (Nat×Option Bool):=[(11,none),(10,none),(9,none),(8,none)]
theorem aqB{h:aG}{c:aL}{F:Nat->Option aK}:∃g:Option Out->Option Out,(∀ o,g (some o)=some o)/\Gb.opAt Tryz.prog (iB rZ) (cO (cA (cB mj))) (m4 h) 4 ((⟨xr h c,xt h c,ym⟩:ij).st F)=
 (g ((xA (.int .i64 c.d6) (ot (cx 1+1))).bind λr=>(wi r (some (.agg [nf,nf]))).bind λv=>pv (.en [v,bo r.isSome]))).bind λout=>if out.upd.all (λ p=>Eb 4 p.1 || [].contains p.1)then some (⟨out.v,out.upd,[]++out.obs⟩,none)else none:=
 ⟨λ X=>X,λ_=>rfl,by kernel_rfl⟩
theorem Rd{h:aG}{c:aL}{F:Nat->Option aK}{f1 f2:Nat}{c1 c2:List AV}{b:Bool}:oH Tryz.prog (iB rZ) (cO (cA (cB mj))) (m4 h) F [5,6,7,8,9,10] ⟨(12,.en [.agg [.fn f1 [] c1,.fn f2 [] c2],bo b])::xr h c,xt h c,(12,none)::ym⟩=
 some (⟨[(6,bo b),(5,.ptr (cx 8) 0 0),(14,bo b),(13,.agg [.fn f1 [] c1,.fn f2 [] c2]),(7,.en [.agg [.fn f1 [] c1,.fn f2 [] c2],bo b]),(12,.en [.agg [.fn f1 [] c1,.fn f2 [] c2],bo b])]++xr h c,[(cx 8,some ⟨2,[[.fn f1 [] c1,.fn f2 [] c2]]⟩),(cx 8,some ⟨2,[[nf,nf]]⟩)]++xt h c,[(6,none),(5,none),(14,none),(13,none),(7,none),(12,none)]++ym⟩,[]):=by kernel_rfl
theorem aqC{h:aG}{c:aL}{F:Nat->Option aK}{b:Bool}:oH Tryz.prog (iB rZ) (cO (cA (cB mj))) (m4 h) F [5,6,7,8,9,10] ⟨(12,.en [.agg [nf,nf],bo b])::xr h c,xt h c,(12,none)::ym⟩=
 some (⟨[(6,bo b),(5,.ptr (cx 8) 0 0),(14,bo b),(13,.agg [nf,nf]),(7,.en [.agg [nf,nf],bo b]),(12,.en [.agg [nf,nf],bo b])]++xr h c,[(cx 8,some ⟨2,[[nf,nf]]⟩),(cx 8,some ⟨2,[[nf,nf]]⟩)]++xt h c,[(6,none),(5,none),(14,none),(13,none),(7,none),(12,none)]++ym⟩,[]):=by kernel_rfl
theorem aqD{h:aG}:VN (cO (cA (cB mj))) (m4 h)=true:=by kernel_rfl
theorem aqE{h:aG}{c:aL}{F:Nat->Option aK}{r:Option (Nat×AV)}{v:AV}(hm:xA (.int .i64 c.d6) (ot (cx 1+1))=some r)(hz:wi r (some (.agg [nf,nf]))=some v):
 oH Tryz.prog (iB rZ) (cO (cA (cB mj))) (m4 h) F [4] ⟨xr h c,xt h c,ym⟩=some (⟨(12,.en [v,bo r.isSome])::xr h c,xt h c,(12,none)::ym⟩,[]):=by
 obtain⟨g,hg,e⟩:=aqB (h:=h) (c:=c) (F:=F);rw[hm]at e;simp only[ai,hz,pv,hg]at e;have e1:(cO (cA (cB mj)))[4]? =some ((cO (cA (cB mj)))[4]!):=by kernel_rfl
 have e2:((cO (cA (cB mj)))[4]!).dst=some 12:=by kernel_rfl
 simp only[oH,e1,ai,e];simp only[ij.app,e2];rfl
noncomputable abbrev xp(b:Bool):List (Nat×AV):=[(2,.ptr 1001 0 0),(3,.ptr 1002 0 0),(5,.ptr 1003 0 0),(6,bo b)]
noncomputable abbrev zg(h:aG)(c:aL)(x y:AV):List (Nat×Option aK):=[(1001,some (ly h)),(1002,some (xm c)),(1003,some ⟨2,[[x,y]]⟩),(1004,some (ly h))]
noncomputable def anp(h:aG)(r b:Bool):Nat->j9
 | 3=>ZX [1003]
 | 4=>ZX [1002]
 | 5=>if b then⟨.call [.row (jB h)] (.one (.d (.s (.sc (.bool r))))) false,[1004],[1004],false⟩else⟨.call [] (.one (.d (.s (.sc (.bool r))))) false,[],[],false⟩
 |_=>zd
theorem apN{h:aG}{c:aL}{F:Nat->Option aK}{x:AV}{f:Nat}{r:Bool}:∃E O K,oH Tryz.prog (iB rZ) (cO (cA (cB (cB mj)))) (anp h r true) F (List.range (cO (cA (cB (cB mj)))).size) ⟨xp true,zg h c x (hfB f 1004),[]⟩=
 some (⟨(4,bo r)::E,O,(4,none)::K⟩,[(ly h).rows[0]? =some ((jB h).map AV.t),rx Tryz.prog f [sd c,.eK (jB h) 0] (.one (.d (.s (.sc (.bool r)))))]):=
 ⟨[(21,bo r),(20,bo r),(19,sd c),(18,hfB f 1004),(17,.ptr 1003 0 1),(16,bo true),(15,bo true)]++xp true,(1004,none)::zg h c x (hfB f 1004),[21,20,19,18,17,16,15].map λt=>(t,none),by kernel_rfl⟩
theorem aqF{h:aG}{c:aL}{F:Nat->Option aK}{x:AV}{f:Nat}{r:Bool}:∃E O K,oH Tryz.prog (iB rZ) (cO (cA (cB (cB mj)))) (anp h r false) F (List.range (cO (cA (cB (cB mj)))).size) ⟨xp true,zg h c x (.fn f [] []),[]⟩=
 some (⟨(4,bo r)::E,O,(4,none)::K⟩,[rx Tryz.prog f [sd c] (.one (.d (.s (.sc (.bool r)))))]):=
 ⟨[(21,bo r),(20,bo r),(19,sd c),(18,.fn f [] []),(17,.ptr 1003 0 1),(16,bo true),(15,bo true)]++xp true,zg h c x (.fn f [] []),[21,20,19,18,17,16,15].map λt=>(t,none),by kernel_rfl⟩
theorem aqG{h:aG}{c:aL}{F:Nat->Option aK}:∃E O K,oH Tryz.prog (iB rZ) (cO (cA (cB (cB mj)))) (anp h false false) F (List.range (cO (cA (cB (cB mj)))).size) ⟨xp false,zg h c nf nf,[]⟩=
 some (⟨(4,bo false)::E,O,(4,none)::K⟩,[false=true->false=true]):=
 ⟨[(21,bo false),(20,.undef),(19,.undef),(18,.undef),(17,.undef),(16,bo false),(15,bo false)]++xp false,zg h c nf nf,[(21,none),(20,some false),(19,some false),(18,some false),(17,some false),(16,none),(15,none)],by kernel_rfl⟩
theorem M2{Q:Exit->St->Prop}{h:aG}{c:aL}{r:Option (Nat×AV)}{x y x' y':AV}(hm:xA (.int .i64 c.d6) (ot (cx 1+1))=some r)(hz:wi r (some (.agg [nf,nf]))=some (.agg [x,y]))
 (hr:oH Tryz.prog (iB rZ) (cO (cA (cB mj))) (m4 h) (λ _=>none) [5,6,7,8,9,10] ⟨(12,.en [.agg [x,y],bo r.isSome])::xr h c,xt h c,(12,none)::ym⟩=
  some (⟨[(6,bo r.isSome),(5,.ptr (cx 8) 0 0),(14,bo r.isSome),(13,.agg [x,y]),(7,.en [.agg [x,y],bo r.isSome]),(12,.en [.agg [x,y],bo r.isSome])]++xr h c,[(cx 8,some ⟨2,[[x,y]]⟩),(cx 8,some ⟨2,[[nf,nf]]⟩)]++xt h c,[(6,none),(5,none),(14,none),(13,none),(7,none),(12,none)]++ym⟩,[]))
 (hx:∀z∈[(x,x'),(y,y')],gO (fR [(cx 8,1003),(cx 1+1,1004)]) z.1=z.2/\(refs z.1).all (dR [(cx 8,1003),(cx 1+1,1004)])=true/\(refs z.2).all (Nat.blt · 1000000)=true)
 (hq:Ev Tryz.prog Tryz.f8.ntmps (.seq (cA (cB (cB mj))) .ret) Q ((⟨xp r.isSome,zg h c x' y',[]⟩:ij).st λ_=>none)):
 Ev Tryz.prog Tryz.f8.ntmps mj Q ((⟨[(0,qr h),(1,sd c)],[],[]⟩:ij).st λ_=>none):=by
 show Ev _ _ (Code.seq (cA mj) (Code.seq (cA (cB mj)) (Code.seq (cA (cB (cB mj))) Code.ret))) _ _;refine Bc (rU (ag:=cO (cA mj)) (σ2:=(⟨Pi,Pc h c,[]⟩:ij).st λ_=>none) xk (by kernel_rfl) aqV trivial ?_ ?_)
 ·refine uL [(cx 0,1001),(cx 1,1002)] (by kernel_rfl) (λ p hp=>?_) (λ q hq o' ho=>?_) rfl (by kernel_rfl) (by kernel_rfl)
  ·simp only[aH,bn,or_false]at hp;rcases hp with rfl |rfl<;>exact⟨rfl,rfl,rfl⟩
  ·simp only[aH,bn,or_false]at hq;rcases hq with rfl |rfl
   ·cases ho;exact⟨cx 0,ly h,rfl,rfl,rfl,rfl,rfl⟩
   ·cases ho;exact⟨cx 1,xm c,rfl,rfl,rfl,rfl,rfl⟩
 have hrun:=Ji [0,1,2,3] ([4]++[5,6,7,8,9,10]) _ _ _ _ _ aqA (Ji [4] [5,6,7,8,9,10] _ _ _ _ _ (aqE hm hz) hr);refine Bc (WZ (ag:=cO (cA (cB mj))) (σ2:=(⟨xp r.isSome,zg h c x' y',[]⟩:ij).st λ_=>none) xk mixed (by kernel_rfl) aqD hrun ?_ ?_ hq)
 ·exact⟨ao2 h,ajr h,ajs⟩
 ·obtain⟨a1,a2,a3⟩:=hx (x,x') (by simp);obtain⟨b1,b2,b3⟩:=hx (y,y') (by simp);refine uL [(cx 8,1003),(cx 1+1,1004)] (by kernel_rfl) (λ p hp=>?_) (λ q hq o' ho=>?_) rfl (by cases r<;>rfl) ?_
  ·simp only[aH,bn,or_false]at hp;rcases hp with rfl |rfl |rfl |rfl<;>exact⟨rfl,rfl,rfl⟩
  ·simp only[aH,bn,or_false]at hq;rcases hq with rfl |rfl |rfl |rfl
   ·cases ho;exact⟨1001,ly h,rfl,rfl,rfl,rfl,rfl⟩
   ·cases ho;exact⟨1002,xm c,rfl,rfl,rfl,rfl,rfl⟩
   ·cases ho;refine⟨cx 8,⟨2,[[x,y]]⟩,rfl,rfl,rfl,?_,?_⟩
    ·simp only[Cx,bE,List.map_nil,vv];rw[a1,b1]
    ·simp only[all_cons,List.all_nil,dh,List.append_nil,List.all_append];rw[a2,b2];rfl
   ·cases ho;exact⟨cx 1+1,ly h,rfl,rfl,rfl,rfl,rfl⟩
  ·have e:(Nat.blt 1003 1000000&&((some (⟨2,[[x',y']]⟩:aK)).map λo=>o.rows.all λr=>(dh r).all (Nat.blt · 1000000)).getD true)=true:=(by simp only[Option.map_some,Option.getD_some,all_cons,List.all_nil,dh,List.append_nil,List.all_append];rw[a3,b3];rfl);simp only[zg,all_cons,List.all_nil,e,Bool.and_true];rfl
theorem Y7{S:List (Nat×Option aK)}{b r:Bool}{obs:List Prop}{da:Nat->j9}{E:List (Nat×AV)}{O:List (Nat×Option aK)}{K:List (Nat×Option Bool)}
 (hr:oH Tryz.prog (iB rZ) (cO (cA (cB (cB mj)))) da (λ _=>none) (List.range (cO (cA (cB (cB mj)))).size) ⟨xp b,S,[]⟩=some (⟨(4,bo r)::E,O,(4,none)::K⟩,obs)) (ho:iM obs):
 Ev Tryz.prog Tryz.f8.ntmps (.seq (cA (cB (cB mj))) .ret) (My (iB rZ) Tryz.f8.results.toList (.one (.d (.s (.sc (.bool r))))) []) ((⟨xp b,S,[]⟩:ij).st λ_=>none):=by refine Bc (rU (ag:=cO (cA (cB (cB mj)))) (σ2:=(⟨[(4,bo r)],[],[]⟩:ij).st λ_=>none) xk (by kernel_rfl) hr ho ?_ (To ⟨[bo r],none,rfl,rfl,λj p hj=>by simp at hj⟩));refine uL [] (by kernel_rfl) (λ p hp=>?_) (λ q hq=>by cases hq) rfl rfl rfl;simp only[bq]at hp;subst hp;exact⟨rfl,rfl,rfl⟩
theorem Y8(k1:aC 63 j6)(k3:aC 66 (uO n))(k5:aC 71 (uT n))(k7:aC 73 (uU n)):aC 8 (Jy n):=by
 have hb:Tryz.f8.body=some mj:=by kernel_rfl
 have hn : (Tryz.f8.name == "runtime.NumGoroutine") = false := by kernel_rfl
 refine vx (pW func8 hb hn) (λ a r e=>?_) rfl;obtain⟨h,c,_⟩:=a;have e:fA n h c=some r:=e;refine PX (args:=[qr h,sd c]) (os:=[]) (os':=[]) xk func8 hb hn (by show 2<=Tryz.f8.ntmps;decide +kernel) (λ k hk=>by have hk:k∈([]:List Nat):=hk;cases hk) (by simp) rfl ?_;show Ev _ _ mj (My (iB rZ) Tryz.f8.results.toList (.one (.d (.s (.sc (.bool r))))) []) ((⟨[(0,qr h),(1,sd c)],[],[]⟩:ij).st λ_=>none);unfold fA at e;by_cases h0:c.d6=0
 ·rw[h0]at e;have f:=oC (k1.2.1 (c,()) r e);obtain⟨E,O,K,hr⟩:=aqF (h:=h) (c:=c) (F:=λ_=>none) (x:=hf0) (f:=63) (r:=r);exact M2 (r:=some (0,.agg [hf0,hf0])) (by rw[h0];rfl) rfl Rd (λ z hz=>by simp only[aH,bn,or_false]at hz;rcases hz with rfl |rfl<;>exact⟨rfl,rfl,rfl⟩) (Y7 hr f)
 by_cases h1:c.d6=1
 ·rw[h1]at e;have f:=oC (k3.2.1 (c,h,()) r e);obtain⟨E,O,K,hr⟩:=apN (h:=h) (c:=c) (F:=λ_=>none) (x:= .fn 64 [] []) (f:=66) (r:=r);exact M2 (r:=some (1,.agg [.fn 64 [] [],hfB 66 (cx 1+1)])) (by rw[h1];rfl) rfl Rd (λ z hz=>by simp only[aH,bn,or_false]at hz;rcases hz with rfl |rfl<;>exact⟨rfl,rfl,rfl⟩) (Y7 hr ⟨rfl,f⟩)
 by_cases h2:c.d6=2
 ·rw[h2]at e;have f:=oC (k5.2.1 (c,h,()) r e);obtain⟨E,O,K,hr⟩:=apN (h:=h) (c:=c) (F:=λ_=>none) (x:=hfB 68 1004) (f:=71) (r:=r);exact M2 (r:=some (2,.agg [hfB 68 (cx 1+1),hfB 71 (cx 1+1)])) (by rw[h2];rfl) rfl Rd (λ z hz=>by simp only[aH,bn,or_false]at hz;rcases hz with rfl |rfl<;>exact⟨rfl,rfl,rfl⟩) (Y7 hr ⟨rfl,f⟩)
 by_cases h3:c.d6=3
 ·rw[h3]at e;have f:=oC (k7.2.1 (c,h,()) r e);obtain⟨E,O,K,hr⟩:=apN (h:=h) (c:=c) (F:=λ_=>none) (x:= .fn 72 [] []) (f:=73) (r:=r);exact M2 (r:=some (3,.agg [.fn 72 [] [],hfB 73 (cx 1+1)])) (by rw[h3];rfl) rfl Rd (λ z hz=>by simp only[aH,bn,or_false]at hz;rcases hz with rfl |rfl<;>exact⟨rfl,rfl,rfl⟩) (Y7 hr ⟨rfl,f⟩)
 ·have er:r=false:=by rw[show (c.d6==0)=false by simpa using h0,show(c.d6==1)=false by simpa using h1,show(c.d6==2)=false by simpa using h2,show(c.d6==3)=false by simpa using h3]at e;injection e with e;exact e.symm
  subst er;obtain⟨E,O,K,hr⟩:=aqG (h:=h) (c:=c) (F:=λ_=>none);exact M2 (r:=none) (ajt h0 h1 h2 h3) rfl aqC (λ z hz=>by simp only[aH,bn,or_false]at hz;rcases hz with rfl |rfl<;>exact⟨rfl,rfl,rfl⟩) (Y7 hr λe=>e)
theorem Jz:aC 8 (Jy n):=Y8 n uN (Fw n) (FE n) (FH n)
def RG:cm xx:=⟨[.d dJ],[.fresh .bool],λa=>uE n a.1,none⟩
def RH:Hn SI:=(io (.s (.s .z (.b (.l ⟨[(16,.v af)],[(1512,.l .bool)],[1,3,14,15],[1000],1896,[]⟩ 0 ⟨[],[(1512,.l .bool)],[3],[],1896,[]⟩ (co (.s (.j ⟨[],[(1512,.l .bool)],[1,3,14,15,16],[1000],1960,[]⟩ .z) .z))))) .z))
theorem RI:aC 101 (RG n) :=cq (ak Dr (ak (Q5 n) (ak (Uh n) (ak (Rc n) (ak (Jz n) ay))))) func101 RH n
def aas:cm xx:=⟨[.d (.sl d9)],[.d .bool],λa=>Sz n a.1,none⟩
def aat:Hn SI:=(.s .z (.s (.s .z (.b (.lx ⟨[(10,.v af)],[],[0,8,9],[],1256,[]⟩ 0 ⟨[],[],[0],[],1256,[]⟩ (co (.s (.b (io (.b (.lx ⟨[(5,.v af),(17,.v af)],[],[0,8,9,10,15,16],[],1896,[]⟩ 2 ⟨[],[],[0,8,9,10],[],1896,[]⟩ (co (.s (.b (.s .z (.s (.s (.j ⟨[(29,.v .bool)],[],[0,7,8,9,10,15,16,17],[],2152,[]⟩ .z) .z) .z))) .z)))))) .z))))) .z))
theorem aau:aC 152 (aas n) :=cq ay func152 aat n
noncomputable def UN:cm xx:=⟨[.d (.sl d9)],[.d (.sl (.sl af))],λa=>wB a.1,none⟩
theorem UO(l:List aL)(r:List (List Int))(h:wB l=some r):qu Tryz.prog 153 [.t (.sl (l.map yT))] [] [] (.one (.d (.s (.sl (r.map λx=>[.sl (x.map λi=>[.sc (.int .i64 i)])]))))):=by
 have hcall:dU Tryz.prog 153:=⟨_,func153,by kernel_rfl,by kernel_rfl⟩;unfold wB at h;cases hb:(decide (l.length<=1000000)&&(l.all λc=>decide (c.attacks.length<=1000000)&&c.attacks.all λk=>decide (0<=k)&&decide (k<(l.length:Int))))with
 |false=>rw[hb]at h;cases h
 |true=>
  rw[hb]at h;cases h;simp only[aY,bD,List.all_eq_true]at hb;obtain⟨h1,h2⟩:=hb;have hl:(l.map (·.attacks)).length=l.length:=List.length_map _;rw[<- hl];refine aeO (TL:=41) (TI:=3) hcall (by simp) (λ j c r hc hr=>?_) λsv w hS=>an5 (l.map (·.attacks)) (by omega) (λ c hc=>?_) (λ c hc k hk=>?_) sv w hS
  ·rw[List.getElem?_map]at hc hr;cases hg:l[j]? with
   |none=>rw[hg]at hc;cases hc
   |some x=>
    rw[hg]at hc hr;injection hc with hc;injection hr with hr;subst hc hr;exact⟨_,_,_,_,_,rfl⟩
  ·obtain⟨x,hx,rfl⟩:=mem_map.1 hc;exact(h2 x hx).1
  ·obtain⟨x,hx,rfl⟩:=mem_map.1 hc;rw[hl];exact(h2 x hx).2 k hk
theorem UQ:aC 153 UN:=
 vx ⟨_,func153,by kernel_rfl,by kernel_rfl⟩ (λ a r h=>UO a.1 r h) rfl
def RJ:cm xx:=⟨[.d (.sl d9)],[.fresh af,.d (.sl af),.d af],λa=>za n a.1,none⟩
def RL:Hn SI:=(TZ (.s (.s .z (.b (.l ⟨[(9,.o 2600),(40,.v af)],[(2216,.l af),(2600,.l af)],[0,5,6,7,8,39],[1704,1896],2601,[(9,af)]⟩ 0 ⟨[(9,.o 2600)],[(2216,.l af),(2600,.l af)],[0,6,7,8],[1704,1896],2601,[]⟩ (co (.s (.j ⟨[(9,.o 2665)],[(2216,.l af),(2665,.l af)],[0,5,6,7,8,39,40],[1704,1896],2666,[]⟩ .z) .z))))) (.s (.s .z (.b (.l ⟨[(9,.o 2665),(11,.v af)],[(1704,.l af),(1896,.l af),(2216,.l af),(2665,.l af)],[0,6,7,8],[],2666,[]⟩ 2 ⟨[],[(1704,.l af),(1896,.l af)],[6,7],[],2665,[]⟩ (.s .z (.s (.b (.s .z (.s (.s .z (.b (.l ⟨[(68,.v af)],[(1704,.l af),(1896,.l af)],[0,6,7,8,9,11,12,13,66,67],[2216,2665],3178,[]⟩ 4 ⟨[],[(1704,.l af),(1896,.l af)],[0,6,7,8,9,11,12,13],[2216,2665],3178,[]⟩ .z))) (.s (.s .z (.b (.l ⟨[(12,.o 3370),(82,.v af)],[(1704,.l af),(1896,.l af),(3370,.l af)],[0,6,7,8,11,13,80,81],[2216,2665],3371,[(12,af)]⟩ 6 ⟨[(12,.o 3370)],[(1704,.l af),(1896,.l af),(3370,.l af)],[0,6,7,8,11,13],[2216],3371,[]⟩ (co (.s (.b (co (.b (.l ⟨[(12,.o 4075),(92,.v af)],[(1704,.l af),(1896,.l af),(4075,.l af)],[0,6,7,8,11,13,80,81,82,90,91],[2216,2665],4076,[]⟩ 8 ⟨[(12,.o 4075)],[(1704,.l af),(1896,.l af),(4075,.l af)],[0,6,7,8,11,13,80,81,82],[2216,2665],4076,[]⟩ (co (.s (.j ⟨[(12,.o 4140)],[(1704,.l af),(1896,.l af),(4140,.l af)],[0,6,7,8,11,13,80,81,82,90,91,92],[2216,2665],4141,[]⟩ .z) .z)))))) .z))))) (.s (.s .z (.b (.l ⟨[(13,.o 3563),(117,.v af)],[(2216,.l af),(3563,.l af)],[0,6,7,8,11,115,116],[1704,1896,3370],3564,[(13,af)]⟩ 10 ⟨[(13,.o 3563)],[(2216,.l af),(3563,.l af)],[0,6,7,8,11],[1704,1896],3564,[]⟩ (co (.s (.b (co (.b (.l ⟨[(13,.o 4268),(127,.v af)],[(2216,.l af),(4268,.l af)],[0,6,7,8,11,115,116,117,125,126],[1704,1896,3370],4269,[]⟩ 12 ⟨[(13,.o 4268)],[(2216,.l af),(4268,.l af)],[0,6,7,8,11,115,116,117],[1704,1896,3370],4269,[]⟩ (co (.s (.j ⟨[(13,.o 4333)],[(2216,.l af),(4333,.l af)],[0,6,7,8,11,115,116,117,125,126,127],[1704,1896,3370],4334,[]⟩ (.b (co (.s (.j ⟨[(148,.v .bool)],[],[0,6,7,8,11,13,23,115,116,117,125,126,127],[1704,1896,2216,3370,4268],4973,[]⟩ .z) .z)))) .z)))))) .z))))) .z))))) .z))))) .z)))
theorem RN:aC 103 (RJ n) :=cq (ak (aau n) (ak UQ ay)) func103 RL n
def Pv:cm xx:=⟨[.d dJ],[.fresh af,.d .bool],λa=>rQ n a.1,none⟩
def Pw:Hn SI:=(ux (.s (.s .z (.b (.l ⟨[(24,.v af)],[(1704,.l d9)],[4,5,22,23],[1448],2088,[]⟩ 0 ⟨[],[(1704,.l d9)],[4,5],[1448],2088,[]⟩ (co (.s (.j ⟨[],[(1704,.l d9)],[4,5,22,23,24],[1448],2152,[]⟩ (.b (.s .z (.s (.j ⟨[(39,.v .bool)],[],[4,5,6,7,22,23,24],[1448,1704,2344],2536,[]⟩ .z) .z)))) .z))))) (.s .z (.s (.s .z (.b (.l ⟨[(55,.v af)],[(2152,.l af)],[8,53,54],[1448],2856,[]⟩ 2 ⟨[],[(2152,.l af)],[8],[],2856,[]⟩ (co (.s (.j ⟨[],[(2152,.l af)],[8,53,54,55],[1448],2920,[]⟩ .z) .z))))) .z))))
theorem Px:aC 40 (Pv n) :=cq (ak Dr (ak (RI n) (ak (AY n) (ak (RN n) ay)))) func40 Pw n
def Y9:cm xx:=⟨[.d (.sl af),.d (.sl af)],[.d .bool],λa=>xW n a.1 a.2.1,none⟩
def Za:Hn SI:=(co (.s (.s .z (.b (.lx ⟨[(5,.v af)],[],[0,1],[],1448,[]⟩ 0 ⟨[],[],[],[],1448,[]⟩ .z))) .z))
theorem Zb:aC 41 (Y9 n) :=cq ay func41 Za n
def anq:cm xx:=⟨[.d dJ,.d (.sl af),.d .bool],[.d .bool],λa=>uF n a.1 a.2.1 a.2.2.1,none⟩
theorem anr:aC 12 (anq n) :=cq (ak (Px n) (ak (Zb n) ay)) func12 .z n
def agr:cm xx:=⟨[],[.d .bool],λ_=>J4 n,none⟩
def ags:Hn SI:=(yd (.s (.j ⟨[(5,.v .bool)],[],[2,3,4],[1320,1896],2536,[]⟩ .z) .z))
theorem agt:aC 4 (agr n) :=cq (ak ZO (ak (zm n) (ak (anr n) ay))) func4 ags n
def ak4:cm xx:=⟨[.d (.st SI.pf)],[.d .bool],λa=>U3 n a.1,none⟩
def ak5:Hn SI:=(co (.s (.s (.j ⟨[(48,.v .bool)],[],[1,3],[1000,1256],1384,[]⟩ .z) .z) (.s (.s .z (.b (.lx ⟨[(4,.v af)],[],[1,3],[1000,1256],1448,[]⟩ 0 ⟨[],[],[1],[1000],1448,[]⟩ (.s .z (.s (.b (.s (.j ⟨[(73,.v .bool)],[],[1,3,4],[1000,1256],1768,[]⟩ .z) .z)) .z))))) (.s (.s .z (.b (.lx ⟨[(5,.v af)],[],[1],[1000],1512,[]⟩ 2 ⟨[],[],[1],[1000],1512,[]⟩ .z))) (.s (.s .z (.b (.lx ⟨[(6,.v af)],[],[1],[1000],1576,[]⟩ 4 ⟨[],[],[],[],1576,[]⟩ .z))) .z)))))
theorem ak6:aC 13 (ak4 n) :=cq ay func13 ak5 n
def Py:cm xx:=⟨[.d (.sl dY)],[.d .bool],λa=>oO n a.1,none⟩
def Pz:Hn SI:=(.s .z (.s (.s .z (.b (.lx ⟨[(3,.v af)],[],[0],[],1128,[]⟩ 0 ⟨[],[],[0],[],1128,[]⟩ (.s .z (.s (.b (.s (.s .z (.b (.lx ⟨[(4,.v af)],[],[0,3],[],1448,[]⟩ 2 ⟨[],[],[0,3],[],1448,[]⟩ (.s .z (.s (.b (.s (.j ⟨[(44,.v .bool)],[],[0,3,4],[],1960,[]⟩ .z) .z)) .z))))) .z)) .z))))) .z))
theorem PD:aC 42 (Py n) :=cq ay func42 Pz n
def ak7:cm xx:=⟨[.d gF,.d (.st SI.lE),.d (.sl (.st SI.Act))],[.d .bool],λa=>U4 n a.1 a.2.1 a.2.2.1,none⟩
def ak8:Hn SI:=(.s .z (.s (.s .z (.b (.lx ⟨[(7,.v af)],[],[2,3,4],[1000,1064],1256,[]⟩ 0 ⟨[],[],[2,3,4],[1000,1064],1256,[]⟩ .z))) .z))
theorem ak9:aC 14 (ak7 n) :=cq (ak (PD n) ay) func14 ak8 n
def aiw:Hn SI:=(co (.s (.s .z (.b (.l ⟨[(3,.v af),(4,.v af)],[],[1],[1000],1256,[]⟩ 0 ⟨[(3,.v af)],[],[],[],1256,[]⟩ .z))) .z))
theorem agu(rc:(cu)->Option Int)(hr:aC 43 (II rc)):aC 43 (II (LV n rc)) :=cq (ak hr ay) func43 aiw n
theorem Ta(n:Nat):∀m,aC 43 (II (vN n m))
 | 0=>vx (pW func43 (by kernel_rfl:Tryz.f43.body=some (Tryz.f43.body.getD .skip)) (by kernel_rfl)) (λ _ _ h=>(by cases h)) rfl
 |m+1=>agu n _ (Ta n m)
def aix:cm xx:=⟨[.d (.st SI.Expr)],[.d af],λa=>IJ n a.1,none⟩
theorem aiy:aC 43 (aix n):=Ta n n
def ala:cm xx:=⟨[.d gF],[.d .bool],λa=>U5 n a.1,none⟩
def alb:Hn SI:=(.s .z (.s (.s (.j ⟨[(14,.v .bool)],[],[1],[1000],1128,[]⟩ .z) .z) (.s (.s .z (.b (.lx ⟨[(3,.v af)],[],[1],[1000],1192,[]⟩ 0 ⟨[],[],[1],[1000],1192,[]⟩ (.s .z (.s (.b (.s (.j ⟨[(39,.v .bool)],[],[1,3],[1000],1512,[]⟩ .z) .z)) .z))))) (.s (.s .z (.b (.lx ⟨[(4,.v af)],[],[1],[1000],1256,[]⟩ 2 ⟨[],[],[],[],1256,[]⟩ .z))) .z))))
theorem alc:aC 15 (ala n) :=cq (ak (aiy n) ay) func15 alb n
def ald:cm xx:=⟨[.d dJ],[.d .bool],λa=>U6 n a.1,none⟩
def ale:Hn SI:=(.s .z (.s (.s (.j ⟨[(48,.v .bool)],[],[1],[1000],1128,[]⟩ .z) .z) (.s (.s .z (.b (.lx ⟨[(3,.v af)],[],[1],[1000],1192,[]⟩ 0 ⟨[],[],[1],[1000],1192,[]⟩ .z))) (.s (.s .z (.b (.lx ⟨[(4,.v af)],[],[1],[1000],1256,[]⟩ 2 ⟨[],[],[],[],1256,[]⟩ .z))) .z))))
theorem alf:aC 5 (ald n) :=cq (ak (ak6 n) (ak (ak9 n) (ak (alc n) ay))) func5 ale n
def MK:cm xx:=⟨[.d dJ,.d .str,.d af],[.d .bool],λa=>qD n a.1 a.2.1 a.2.2.1,none⟩
def ML:Hn SI:=(yd (.s (.s .z (.b (.lx ⟨[(11,.v af)],[],[1,2,3,7,9,10],[1000,2664],2856,[]⟩ 0 ⟨[],[],[1,2,3,7],[1000],2856,[]⟩ (.s .z (.s (.b (io (.s (.j ⟨[(84,.v .bool)],[],[1,2,3,7,9,10,11],[1000,2664],4328,[]⟩ .z) .z))) .z))))) (co (.s (.s .z (.b (.lx ⟨[(16,.v .bool),(17,.v af)],[],[1,2,3,7,14,15],[1000,3240],3752,[]⟩ 2 ⟨[(16,.v .bool)],[],[1,2,3,7],[1000],3752,[]⟩ (.s .z (.s (.b (.s (.j ⟨[(16,.v .bool)],[],[1,2,3,7,14,15,17],[1000,3240],4008,[]⟩ .z) (.s (.j ⟨[(126,.v .bool)],[],[1,2,3,7,14,15,16,17],[1000,3240],4008,[]⟩ .z) .z))) .z))))) (.s .z (.s (.s .z (.b (.l ⟨[(18,.v af),(19,.v af)],[],[1,2,3,7,16],[1000],3880,[]⟩ 4 ⟨[(18,.v af)],[],[1,2,3,7,16],[1000],3880,[]⟩ (.s (.s (.j ⟨[(135,.v .bool)],[],[1,2,3,7,16,18,19],[1000],3880,[]⟩ .z) .z) (.s (.j ⟨[(18,.v af)],[],[1,2,3,7,16,19],[1000],3880,[]⟩ .z) .z))))) (co (.s (.s (.j ⟨[(182,.v .bool)],[],[1,2,3,7,16],[1000],4520,[]⟩ .z) .z) .z))))))))
theorem MN:aC 3 (MK n) :=cq (ak (agt n) (ak (alf n) (ak (yB n) (ak (Fv n) (ak (Jz n) (ak (FU n) ay)))))) func3 ML n
end
end Go.Proofs
