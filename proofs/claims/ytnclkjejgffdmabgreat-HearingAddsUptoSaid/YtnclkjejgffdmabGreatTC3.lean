import Derived.Test.YtnclkjejgffdmabGreatTC2
open List (mem_map all_cons)
namespace Go.Proofs
open Go.Gb Go.RowKit
open Tryz
noncomputable section
variable (n:Nat)
theorem aru{h:aG}{c:aJ}{F:Nat->Option aN}:oV Tryz.prog (iE sU) (cO (cA (cB mA))) (nh h) F [0,1,2,3] ⟨P1,P0 h c,[]⟩=
 some (⟨yn h c,yp h c,[11,10,9,8].map λt=>(t,none)⟩,[yr Tryz.prog 31 [q6 h] [] [(1000,⟨4,oS 1001⟩),(1001,l4 h)] (.mp 1000),Nz 0 [(1000,⟨4,oS 1001⟩),(1001,l4 h)] (.mp 1000),Io (dI [] ((⟨P1,P0 h c,[]⟩:ix).st F).obj) [q6 h] [] [] []]):=by kernel_rfl
noncomputable abbrev zg:List (Nat×Option Bool):=[(11,none),(10,none),(9,none),(8,none)]
theorem arv{h:aG}{c:aJ}{F:Nat->Option aN}:∃g:Option Out->Option Out,(∀ o,g (some o)=some o)/\Gb.opAt Tryz.prog (iE sU) (cO (cA (cB mA))) (nh h) 4 ((⟨yn h c,yp h c,zg⟩:ix).st F)=
 (g ((xY (.int .i64 c.ee) (oS (cC 1+1))).bind λr=>(xe r (some (.agg [nf,nf]))).bind λv=>pv (.eI [v,bo r.isSome]))).bind λout=>if out.upd.all (λ p=>EA 4 p.1 || [].contains p.1)then some (⟨out.v,out.upd,[]++out.obs⟩,none)else none:=
 ⟨λ X=>X,λ_=>rfl,by kernel_rfl⟩
theorem Sp{h:aG}{c:aJ}{F:Nat->Option aN}{f1 f2:Nat}{c1 c2:List AV}{b:Bool}:oV Tryz.prog (iE sU) (cO (cA (cB mA))) (nh h) F [5,6,7,8,9,10] ⟨(12,.eI [.agg [.fn f1 [] c1,.fn f2 [] c2],bo b])::yn h c,yp h c,(12,none)::zg⟩=
 some (⟨[(6,bo b),(5,.ptr (cC 8) 0 0),(14,bo b),(13,.agg [.fn f1 [] c1,.fn f2 [] c2]),(7,.eI [.agg [.fn f1 [] c1,.fn f2 [] c2],bo b]),(12,.eI [.agg [.fn f1 [] c1,.fn f2 [] c2],bo b])]++yn h c,[(cC 8,some ⟨2,[[.fn f1 [] c1,.fn f2 [] c2]]⟩),(cC 8,some ⟨2,[[nf,nf]]⟩)]++yp h c,[(6,none),(5,none),(14,none),(13,none),(7,none),(12,none)]++zg⟩,[]):=by kernel_rfl
theorem arw{h:aG}{c:aJ}{F:Nat->Option aN}{b:Bool}:oV Tryz.prog (iE sU) (cO (cA (cB mA))) (nh h) F [5,6,7,8,9,10] ⟨(12,.eI [.agg [nf,nf],bo b])::yn h c,yp h c,(12,none)::zg⟩=
 some (⟨[(6,bo b),(5,.ptr (cC 8) 0 0),(14,bo b),(13,.agg [nf,nf]),(7,.eI [.agg [nf,nf],bo b]),(12,.eI [.agg [nf,nf],bo b])]++yn h c,[(cC 8,some ⟨2,[[nf,nf]]⟩),(cC 8,some ⟨2,[[nf,nf]]⟩)]++yp h c,[(6,none),(5,none),(14,none),(13,none),(7,none),(12,none)]++zg⟩,[]):=by kernel_rfl
theorem arx{h:aG}:Ws (cO (cA (cB mA))) (nh h)=true:=by kernel_rfl
theorem arz{h:aG}{c:aJ}{F:Nat->Option aN}{r:Option (Nat×AV)}{v:AV}(hm:xY (.int .i64 c.ee) (oS (cC 1+1))=some r)(hz:xe r (some (.agg [nf,nf]))=some v):
 oV Tryz.prog (iE sU) (cO (cA (cB mA))) (nh h) F [4] ⟨yn h c,yp h c,zg⟩=some (⟨(12,.eI [v,bo r.isSome])::yn h c,yp h c,(12,none)::zg⟩,[]):=by
 obtain⟨g,hg,e⟩:=arv (h:=h) (c:=c) (F:=F);rw[hm]at e;simp only[ai,hz,pv,hg]at e;have e1:(cO (cA (cB mA)))[4]? =some ((cO (cA (cB mA)))[4]!):=by kernel_rfl
 have e2:((cO (cA (cB mA)))[4]!).dst=some 12:=by kernel_rfl
 simp only[oV,e1,ai,e];simp only[ix.app,e2];rfl
noncomputable abbrev ym(b:Bool):List (Nat×AV):=[(2,.ptr 1001 0 0),(3,.ptr 1002 0 0),(5,.ptr 1003 0 0),(6,bo b)]
noncomputable abbrev AC(h:aG)(c:aJ)(x y:AV):List (Nat×Option aN):=[(1001,some (l4 h)),(1002,some (yd c)),(1003,some ⟨2,[[x,y]]⟩),(1004,some (l4 h))]
noncomputable def aoa(h:aG)(r b:Bool):Nat->kw
 | 3=>yi [1003]
 | 4=>yi [1002]
 | 5=>if b then⟨.call [.row (jF h)] (.one (.d (.s (.sc (.bool r))))) false,[1004],[1004],false⟩else⟨.call [] (.one (.d (.s (.sc (.bool r))))) false,[],[],false⟩
 |_=>As
theorem aqG{h:aG}{c:aJ}{F:Nat->Option aN}{x:AV}{f:Nat}{r:Bool}:∃E O K,oV Tryz.prog (iE sU) (cO (cA (cB (cB mA)))) (aoa h r true) F (List.range (cO (cA (cB (cB mA)))).size) ⟨ym true,AC h c x (hfB f 1004),[]⟩=
 some (⟨(4,bo r)::E,O,(4,none)::K⟩,[(l4 h).rows[0]? =some ((jF h).map AV.t),sd Tryz.prog f [sx c,.ff (jF h) 0] (.one (.d (.s (.sc (.bool r)))))]):=
 ⟨[(21,bo r),(20,bo r),(19,sx c),(18,hfB f 1004),(17,.ptr 1003 0 1),(16,bo true),(15,bo true)]++ym true,(1004,none)::AC h c x (hfB f 1004),[21,20,19,18,17,16,15].map λt=>(t,none),by kernel_rfl⟩
theorem arA{h:aG}{c:aJ}{F:Nat->Option aN}{x:AV}{f:Nat}{r:Bool}:∃E O K,oV Tryz.prog (iE sU) (cO (cA (cB (cB mA)))) (aoa h r false) F (List.range (cO (cA (cB (cB mA)))).size) ⟨ym true,AC h c x (.fn f [] []),[]⟩=
 some (⟨(4,bo r)::E,O,(4,none)::K⟩,[sd Tryz.prog f [sx c] (.one (.d (.s (.sc (.bool r)))))]):=
 ⟨[(21,bo r),(20,bo r),(19,sx c),(18,.fn f [] []),(17,.ptr 1003 0 1),(16,bo true),(15,bo true)]++ym true,AC h c x (.fn f [] []),[21,20,19,18,17,16,15].map λt=>(t,none),by kernel_rfl⟩
theorem arB{h:aG}{c:aJ}{F:Nat->Option aN}:∃E O K,oV Tryz.prog (iE sU) (cO (cA (cB (cB mA)))) (aoa h false false) F (List.range (cO (cA (cB (cB mA)))).size) ⟨ym false,AC h c nf nf,[]⟩=
 some (⟨(4,bo false)::E,O,(4,none)::K⟩,[false=true->false=true]):=
 ⟨[(21,bo false),(20,.undef),(19,.undef),(18,.undef),(17,.undef),(16,bo false),(15,bo false)]++ym false,AC h c nf nf,[(21,none),(20,some false),(19,some false),(18,some false),(17,some false),(16,none),(15,none)],by kernel_rfl⟩
theorem On{Q:Exit->St->Prop}{h:aG}{c:aJ}{r:Option (Nat×AV)}{x y x' y':AV}(hm:xY (.int .i64 c.ee) (oS (cC 1+1))=some r)(hz:xe r (some (.agg [nf,nf]))=some (.agg [x,y]))
 (hr:oV Tryz.prog (iE sU) (cO (cA (cB mA))) (nh h) (λ _=>none) [5,6,7,8,9,10] ⟨(12,.eI [.agg [x,y],bo r.isSome])::yn h c,yp h c,(12,none)::zg⟩=
  some (⟨[(6,bo r.isSome),(5,.ptr (cC 8) 0 0),(14,bo r.isSome),(13,.agg [x,y]),(7,.eI [.agg [x,y],bo r.isSome]),(12,.eI [.agg [x,y],bo r.isSome])]++yn h c,[(cC 8,some ⟨2,[[x,y]]⟩),(cC 8,some ⟨2,[[nf,nf]]⟩)]++yp h c,[(6,none),(5,none),(14,none),(13,none),(7,none),(12,none)]++zg⟩,[]))
 (hx:∀z∈[(x,x'),(y,y')],il (fR [(cC 8,1003),(cC 1+1,1004)]) z.1=z.2/\(refs z.1).all (dR [(cC 8,1003),(cC 1+1,1004)])=true/\(refs z.2).all (Nat.blt · 1000000)=true)
 (hq:Ev Tryz.prog Tryz.f13.ntmps (.seq (cA (cB (cB mA))) .ret) Q ((⟨ym r.isSome,AC h c x' y',[]⟩:ix).st λ_=>none)):
 Ev Tryz.prog Tryz.f13.ntmps mA Q ((⟨[(0,q6 h),(1,sx c)],[],[]⟩:ix).st λ_=>none):=by
 show Ev _ _ (Code.seq (cA mA) (Code.seq (cA (cB mA)) (Code.seq (cA (cB (cB mA))) Code.ret))) _ _;refine BA (sN (ag:=cO (cA mA)) (σ2:=(⟨P1,P0 h c,[]⟩:ix).st λ_=>none) xU (by kernel_rfl) arO trivial ?_ ?_)
 ·refine u7 [(cC 0,1001),(cC 1,1002)] (by kernel_rfl) (λ p hp=>?_) (λ q hq o' ho=>?_) rfl (by kernel_rfl) (by kernel_rfl)
  ·simp only[aI,bB,or_false]at hp;rcases hp with rfl |rfl<;>exact⟨rfl,rfl,rfl⟩
  ·simp only[aI,bB,or_false]at hq;rcases hq with rfl |rfl
   ·cases ho;exact⟨cC 0,l4 h,rfl,rfl,rfl,rfl,rfl⟩
   ·cases ho;exact⟨cC 1,yd c,rfl,rfl,rfl,rfl,rfl⟩
 have hrun:=JJ [0,1,2,3] ([4]++[5,6,7,8,9,10]) _ _ _ _ _ aru (JJ [4] [5,6,7,8,9,10] _ _ _ _ _ (arz hm hz) hr);refine BA (Xy (ag:=cO (cA (cB mA))) (σ2:=(⟨ym r.isSome,AC h c x' y',[]⟩:ix).st λ_=>none) xU mixed (by kernel_rfl) arx hrun ?_ ?_ hq)
 ·exact⟨apK h,akb h,akc⟩
 ·obtain⟨a1,a2,a3⟩:=hx (x,x') (by simp);obtain⟨b1,b2,b3⟩:=hx (y,y') (by simp);refine u7 [(cC 8,1003),(cC 1+1,1004)] (by kernel_rfl) (λ p hp=>?_) (λ q hq o' ho=>?_) rfl (by cases r<;>rfl) ?_
  ·simp only[aI,bB,or_false]at hp;rcases hp with rfl |rfl |rfl |rfl<;>exact⟨rfl,rfl,rfl⟩
  ·simp only[aI,bB,or_false]at hq;rcases hq with rfl |rfl |rfl |rfl
   ·cases ho;exact⟨1001,l4 h,rfl,rfl,rfl,rfl,rfl⟩
   ·cases ho;exact⟨1002,yd c,rfl,rfl,rfl,rfl,rfl⟩
   ·cases ho;refine⟨cC 8,⟨2,[[x,y]]⟩,rfl,rfl,rfl,?_,?_⟩
    ·simp only[CY,bG,List.map_nil,vN];rw[a1,b1]
    ·simp only[all_cons,List.all_nil,dD,List.append_nil,List.all_append];rw[a2,b2];rfl
   ·cases ho;exact⟨cC 1+1,l4 h,rfl,rfl,rfl,rfl,rfl⟩
  ·have e:(Nat.blt 1003 1000000&&((some (⟨2,[[x',y']]⟩:aN)).map λo=>o.rows.all λr=>(dD r).all (Nat.blt · 1000000)).getD true)=true:=(by simp only[Option.map_some,Option.getD_some,all_cons,List.all_nil,dD,List.append_nil,List.all_append];rw[a3,b3];rfl);simp only[AC,all_cons,List.all_nil,e,Bool.and_true];rfl
theorem Zy{S:List (Nat×Option aN)}{b r:Bool}{obs:List Prop}{df:Nat->kw}{E:List (Nat×AV)}{O:List (Nat×Option aN)}{K:List (Nat×Option Bool)}
 (hr:oV Tryz.prog (iE sU) (cO (cA (cB (cB mA)))) df (λ _=>none) (List.range (cO (cA (cB (cB mA)))).size) ⟨ym b,S,[]⟩=some (⟨(4,bo r)::E,O,(4,none)::K⟩,obs)) (ho:iT obs):
 Ev Tryz.prog Tryz.f13.ntmps (.seq (cA (cB (cB mA))) .ret) (N1 (iE sU) Tryz.f13.results.toList (.one (.d (.s (.sc (.bool r))))) []) ((⟨ym b,S,[]⟩:ix).st λ_=>none):=by refine BA (sN (ag:=cO (cA (cB (cB mA)))) (σ2:=(⟨[(4,bo r)],[],[]⟩:ix).st λ_=>none) xU (by kernel_rfl) hr ho ?_ (T3 ⟨[bo r],none,rfl,rfl,λj p hj=>by simp at hj⟩));refine u7 [] (by kernel_rfl) (λ p hp=>?_) (λ q hq=>by cases hq) rfl rfl rfl;simp only[bC]at hp;subst hp;exact⟨rfl,rfl,rfl⟩
theorem Zz(k1:aC 48 kg)(k3:aC 52 (vk n))(k5:aC 58 (vB n))(k7:aC 61 (vC n)):aC 13 (JY n):=by
 have hb:Tryz.f13.body=some mA:=by kernel_rfl
 have hn : (Tryz.f13.name == "runtime.NumGoroutine") = false := by kernel_rfl
 refine ws (qh func13 hb hn) (λ a r e=>?_) rfl;obtain⟨h,c,_⟩:=a;have e:iB n h c=some r:=e;refine Qu (args:=[q6 h,sx c]) (os:=[]) (os':=[]) xU func13 hb hn (by show 2<=Tryz.f13.ntmps;decide +kernel) (λ k hk=>by have hk:k∈([]:List Nat):=hk;cases hk) (by simp) rfl ?_;show Ev _ _ mA (N1 (iE sU) Tryz.f13.results.toList (.one (.d (.s (.sc (.bool r))))) []) ((⟨[(0,q6 h),(1,sx c)],[],[]⟩:ix).st λ_=>none);unfold iB at e;by_cases h0:c.ee=0
 ·rw[h0]at e;have f:=oO (k1.2.1 (c,()) r e);obtain⟨E,O,K,hr⟩:=arA (h:=h) (c:=c) (F:=λ_=>none) (x:=hf0) (f:=48) (r:=r);exact On (r:=some (0,.agg [hf0,hf0])) (by rw[h0];rfl) rfl Sp (λ z hz=>by simp only[aI,bB,or_false]at hz;rcases hz with rfl |rfl<;>exact⟨rfl,rfl,rfl⟩) (Zy hr f)
 by_cases h1:c.ee=1
 ·rw[h1]at e;have f:=oO (k3.2.1 (c,h,()) r e);obtain⟨E,O,K,hr⟩:=aqG (h:=h) (c:=c) (F:=λ_=>none) (x:= .fn 49 [] []) (f:=52) (r:=r);exact On (r:=some (1,.agg [.fn 49 [] [],hfB 52 (cC 1+1)])) (by rw[h1];rfl) rfl Sp (λ z hz=>by simp only[aI,bB,or_false]at hz;rcases hz with rfl |rfl<;>exact⟨rfl,rfl,rfl⟩) (Zy hr ⟨rfl,f⟩)
 by_cases h2:c.ee=2
 ·rw[h2]at e;have f:=oO (k5.2.1 (c,h,()) r e);obtain⟨E,O,K,hr⟩:=aqG (h:=h) (c:=c) (F:=λ_=>none) (x:=hfB 55 1004) (f:=58) (r:=r);exact On (r:=some (2,.agg [hfB 55 (cC 1+1),hfB 58 (cC 1+1)])) (by rw[h2];rfl) rfl Sp (λ z hz=>by simp only[aI,bB,or_false]at hz;rcases hz with rfl |rfl<;>exact⟨rfl,rfl,rfl⟩) (Zy hr ⟨rfl,f⟩)
 by_cases h3:c.ee=3
 ·rw[h3]at e;have f:=oO (k7.2.1 (c,h,()) r e);obtain⟨E,O,K,hr⟩:=aqG (h:=h) (c:=c) (F:=λ_=>none) (x:= .fn 60 [] []) (f:=61) (r:=r);exact On (r:=some (3,.agg [.fn 60 [] [],hfB 61 (cC 1+1)])) (by rw[h3];rfl) rfl Sp (λ z hz=>by simp only[aI,bB,or_false]at hz;rcases hz with rfl |rfl<;>exact⟨rfl,rfl,rfl⟩) (Zy hr ⟨rfl,f⟩)
 ·have er:r=false:=by rw[show (c.ee==0)=false by simpa using h0,show(c.ee==1)=false by simpa using h1,show(c.ee==2)=false by simpa using h2,show(c.ee==3)=false by simpa using h3]at e;injection e with e;exact e.symm
  subst er;obtain⟨E,O,K,hr⟩:=arB (h:=h) (c:=c) (F:=λ_=>none);exact On (r:=none) (akd h0 h1 h2 h3) rfl arw (λ z hz=>by simp only[aI,bB,or_false]at hz;rcases hz with rfl |rfl<;>exact⟨rfl,rfl,rfl⟩) (Zy hr λe=>e)
theorem JZ:aC 13 (JY n):=Zz n vg (FZ n) (F9 n) (Ga n)
def Sj:cw xx:=⟨[.d dx],[.fresh .bool],λa=>qw n a.1,none⟩
def Sk:Hn SI:=(jj (.s (.s .z (.b (.l ⟨[(16,.v af)],[(1512,.l .bool)],[1,3,14,15],[1000],1896,[]⟩ 0 ⟨[],[(1512,.l .bool)],[3],[],1896,[]⟩ (cy (.s (.j ⟨[],[(1512,.l .bool)],[1,3,14,15,16],[1000],1960,[]⟩ .z) .z))))) .z))
theorem Et:aC 9 (Sj n) :=cq (ak DX (ak (DY n) (ak (Gp n) (ak (D6 n) (ak (JZ n) ay))))) func9 Sk n
def aaQ:cw xx:=⟨[.d (.sl dL)],[.d .bool],λa=>xJ n a.1,none⟩
def aaR:Hn SI:=(.s .z (.s (.s .z (.b (.lx ⟨[(10,.v af)],[],[0,8,9],[],1256,[]⟩ 0 ⟨[],[],[0],[],1256,[]⟩ (cy (.s (.b (jj (.b (.lx ⟨[(5,.v af),(17,.v af)],[],[0,8,9,10,15,16],[],1896,[]⟩ 2 ⟨[],[],[0,8,9,10],[],1896,[]⟩ (cy (.s (.b (.s .z (.s (.s (.j ⟨[(29,.v .bool)],[],[0,7,8,9,10,15,16,17],[],2152,[]⟩ .z) .z) .z))) .z)))))) .z))))) .z))
theorem aaS:aC 34 (aaQ n) :=cq ay func34 aaR n
noncomputable def Vi:cw xx:=⟨[.d (.sl dL)],[.d (.sl (.sl af))],λa=>pM a.1,none⟩
theorem Vj(l:List aJ)(r:List (List Int))(h:pM l=some r):ra Tryz.prog 35 [.t (.sl (l.map zq))] [] [] (.one (.d (.s (.sl (r.map λx=>[.sl (x.map λi=>[.sc (.int .i64 i)])]))))):=by
 have hcall:eF Tryz.prog 35:=⟨_,func35,by kernel_rfl,by kernel_rfl⟩;unfold pM at h;cases hb:(decide (l.length<=1000000)&&(l.all λc=>decide (c.attacks.length<=1000000)&&c.attacks.all λk=>decide (0<=k)&&decide (k<(l.length:Int))))with
 |false=>rw[hb]at h;cases h
 |true=>
  rw[hb]at h;cases h;simp only[aY,bF,List.all_eq_true]at hb;obtain⟨h1,h2⟩:=hb;have hl:(l.map (·.attacks)).length=l.length:=List.length_map _;rw[<- hl];refine afn (TL:=41) (TI:=3) hcall (by simp) (λ j c r hc hr=>?_) λsv w hS=>aoN (l.map (·.attacks)) (by omega) (λ c hc=>?_) (λ c hc k hk=>?_) sv w hS
  ·rw[List.getElem?_map]at hc hr;cases hg:l[j]? with
   |none=>rw[hg]at hc;cases hc
   |some x=>
    rw[hg]at hc hr;injection hc with hc;injection hr with hr;subst hc hr;exact⟨_,_,_,_,_,rfl⟩
  ·obtain⟨x,hx,rfl⟩:=mem_map.1 hc;exact(h2 x hx).1
  ·obtain⟨x,hx,rfl⟩:=mem_map.1 hc;rw[hl];exact(h2 x hx).2 k hk
theorem Vk:aC 35 Vi:=
 ws ⟨_,func35,by kernel_rfl,by kernel_rfl⟩ (λ a r h=>Vj a.1 r h) rfl
def Sl:cw xx:=⟨[.d (.sl dL)],[.fresh af,.d (.sl af),.d af],λa=>qy n a.1,none⟩
def Sm:Hn SI:=(Vc (.s (.s .z (.b (.l ⟨[(9,.o 2600),(40,.v af)],[(2216,.l af),(2600,.l af)],[0,5,6,7,8,39],[1704,1896],2601,[(9,af)]⟩ 0 ⟨[(9,.o 2600)],[(2216,.l af),(2600,.l af)],[0,6,7,8],[1704,1896],2601,[]⟩ (cy (.s (.j ⟨[(9,.o 2665)],[(2216,.l af),(2665,.l af)],[0,5,6,7,8,39,40],[1704,1896],2666,[]⟩ .z) .z))))) (.s (.s .z (.b (.l ⟨[(9,.o 2665),(11,.v af)],[(1704,.l af),(1896,.l af),(2216,.l af),(2665,.l af)],[0,6,7,8],[],2666,[]⟩ 2 ⟨[],[(1704,.l af),(1896,.l af)],[6,7],[],2665,[]⟩ (.s .z (.s (.b (.s .z (.s (.s .z (.b (.l ⟨[(68,.v af)],[(1704,.l af),(1896,.l af)],[0,6,7,8,9,11,12,13,66,67],[2216,2665],3178,[]⟩ 4 ⟨[],[(1704,.l af),(1896,.l af)],[0,6,7,8,9,11,12,13],[2216,2665],3178,[]⟩ .z))) (.s (.s .z (.b (.l ⟨[(12,.o 3370),(82,.v af)],[(1704,.l af),(1896,.l af),(3370,.l af)],[0,6,7,8,11,13,80,81],[2216,2665],3371,[(12,af)]⟩ 6 ⟨[(12,.o 3370)],[(1704,.l af),(1896,.l af),(3370,.l af)],[0,6,7,8,11,13],[2216],3371,[]⟩ (cy (.s (.b (cy (.b (.l ⟨[(12,.o 4075),(92,.v af)],[(1704,.l af),(1896,.l af),(4075,.l af)],[0,6,7,8,11,13,80,81,82,90,91],[2216,2665],4076,[]⟩ 8 ⟨[(12,.o 4075)],[(1704,.l af),(1896,.l af),(4075,.l af)],[0,6,7,8,11,13,80,81,82],[2216,2665],4076,[]⟩ (cy (.s (.j ⟨[(12,.o 4140)],[(1704,.l af),(1896,.l af),(4140,.l af)],[0,6,7,8,11,13,80,81,82,90,91,92],[2216,2665],4141,[]⟩ .z) .z)))))) .z))))) (.s (.s .z (.b (.l ⟨[(13,.o 3563),(117,.v af)],[(2216,.l af),(3563,.l af)],[0,6,7,8,11,115,116],[1704,1896,3370],3564,[(13,af)]⟩ 10 ⟨[(13,.o 3563)],[(2216,.l af),(3563,.l af)],[0,6,7,8,11],[1704,1896],3564,[]⟩ (cy (.s (.b (cy (.b (.l ⟨[(13,.o 4268),(127,.v af)],[(2216,.l af),(4268,.l af)],[0,6,7,8,11,115,116,117,125,126],[1704,1896,3370],4269,[]⟩ 12 ⟨[(13,.o 4268)],[(2216,.l af),(4268,.l af)],[0,6,7,8,11,115,116,117],[1704,1896,3370],4269,[]⟩ (cy (.s (.j ⟨[(13,.o 4333)],[(2216,.l af),(4333,.l af)],[0,6,7,8,11,115,116,117,125,126,127],[1704,1896,3370],4334,[]⟩ (.b (cy (.s (.j ⟨[(148,.v .bool)],[],[0,6,7,8,11,13,23,115,116,117,125,126,127],[1704,1896,2216,3370,4268],4973,[]⟩ .z) .z)))) .z)))))) .z))))) .z))))) .z))))) .z)))
theorem Sn:aC 22 (Sl n) :=cq (ak (aaS n) (ak Vk ay)) func22 Sm n
def Qb:cw xx:=⟨[.d dx],[.fresh af,.d .bool],λa=>iG n a.1,none⟩
def Qc:Hn SI:=(tR (.s (.s .z (.b (.l ⟨[(24,.v af)],[(1704,.l dL)],[4,5,22,23],[1448],2088,[]⟩ 0 ⟨[],[(1704,.l dL)],[4,5],[1448],2088,[]⟩ (cy (.s (.j ⟨[],[(1704,.l dL)],[4,5,22,23,24],[1448],2152,[]⟩ (.b (.s .z (.s (.j ⟨[(39,.v .bool)],[],[4,5,6,7,22,23,24],[1448,1704,2344],2536,[]⟩ .z) .z)))) .z))))) (.s .z (.s (.s .z (.b (.l ⟨[(55,.v af)],[(2152,.l af)],[8,53,54],[1448],2856,[]⟩ 2 ⟨[],[(2152,.l af)],[8],[],2856,[]⟩ (cy (.s (.j ⟨[],[(2152,.l af)],[8,53,54,55],[1448],2920,[]⟩ .z) .z))))) .z))))
theorem Bu:aC 7 (Qb n) :=cq (ak DX (ak (Et n) (ak (Bp n) (ak (Sn n) ay)))) func7 Qc n
def ZA:cw xx:=⟨[.d (.sl af),.d (.sl af)],[.d .bool],λa=>qW n a.1 a.2.1,none⟩
def ZB:Hn SI:=(cy (.s (.s .z (.b (.lx ⟨[(5,.v af)],[],[0,1],[],1448,[]⟩ 0 ⟨[],[],[],[],1448,[]⟩ .z))) .z))
theorem J2:aC 14 (ZA n) :=cq ay func14 ZB n
def aoc:cw xx:=⟨[.d dx,.d (.sl af),.d .bool],[.d .bool],λa=>uU n a.1 a.2.1 a.2.2.1,none⟩
theorem aod:aC 16 (aoc n) :=cq (ak (Bu n) (ak (J2 n) ay)) func16 .z n
def ag3:cw xx:=⟨[],[.d .bool],λ_=>Kz n,none⟩
def ag4:Hn SI:=(yW (.s (.j ⟨[(5,.v .bool)],[],[2,3,4],[1320,1896],2536,[]⟩ .z) .z))
theorem ag5:aC 4 (ag3 n) :=cq (ak aaj (ak (oJ n) (ak (aod n) ay))) func4 ag4 n
def alR:cw xx:=⟨[.d (.st SI.pw)],[.d .bool],λa=>Vu n a.1,none⟩
def alS:Hn SI:=(cy (.s (.s (.j ⟨[(48,.v .bool)],[],[1,3],[1000,1256],1384,[]⟩ .z) .z) (.s (.s .z (.b (.lx ⟨[(4,.v af)],[],[1,3],[1000,1256],1448,[]⟩ 0 ⟨[],[],[1],[1000],1448,[]⟩ (.s .z (.s (.b (.s (.j ⟨[(73,.v .bool)],[],[1,3,4],[1000,1256],1768,[]⟩ .z) .z)) .z))))) (.s (.s .z (.b (.lx ⟨[(5,.v af)],[],[1],[1000],1512,[]⟩ 2 ⟨[],[],[1],[1000],1512,[]⟩ .z))) (.s (.s .z (.b (.lx ⟨[(6,.v af)],[],[1],[1000],1576,[]⟩ 4 ⟨[],[],[],[],1576,[]⟩ .z))) .z)))))
theorem alT:aC 17 (alR n) :=cq ay func17 alS n
def Qd:cw xx:=⟨[.d (.sl eT)],[.d .bool],λa=>pq n a.1,none⟩
def Qe:Hn SI:=(.s .z (.s (.s .z (.b (.lx ⟨[(3,.v af)],[],[0],[],1128,[]⟩ 0 ⟨[],[],[0],[],1128,[]⟩ (.s .z (.s (.b (.s (.s .z (.b (.lx ⟨[(4,.v af)],[],[0,3],[],1448,[]⟩ 2 ⟨[],[],[0,3],[],1448,[]⟩ (.s .z (.s (.b (.s (.j ⟨[(44,.v .bool)],[],[0,3,4],[],1960,[]⟩ .z) .z)) .z))))) .z)) .z))))) .z))
theorem Qf:aC 32 (Qd n) :=cq ay func32 Qe n
def alU:cw xx:=⟨[.d gI,.d (.st SI.mf),.d (.sl (.st SI.Act))],[.d .bool],λa=>Vv n a.1 a.2.1 a.2.2.1,none⟩
def alV:Hn SI:=(.s .z (.s (.s .z (.b (.lx ⟨[(7,.v af)],[],[2,3,4],[1000,1064],1256,[]⟩ 0 ⟨[],[],[2,3,4],[1000,1064],1256,[]⟩ .z))) .z))
theorem alW:aC 18 (alU n) :=cq (ak (Qf n) ay) func18 alV n
def ai5:Hn SI:=(cy (.s (.s .z (.b (.l ⟨[(3,.v af),(4,.v af)],[],[1],[1000],1256,[]⟩ 0 ⟨[(3,.v af)],[],[],[],1256,[]⟩ .z))) .z))
theorem ag6(rc:(dh)->Option Int)(hr:aC 33 (Jj rc)):aC 33 (Jj (MF n rc)) :=cq (ak hr ay) func33 ai5 n
theorem TM(n:Nat):∀m,aC 33 (Jj (wz n m))
 | 0=>ws (qh func33 (by kernel_rfl:Tryz.f33.body=some (Tryz.f33.body.getD .skip)) (by kernel_rfl)) (λ _ _ h=>(by cases h)) rfl
 |m+1=>ag6 n _ (TM n m)
def ai6:cw xx:=⟨[.d (.st SI.Expr)],[.d af],λa=>Jk n a.1,none⟩
theorem ai7:aC 33 (ai6 n):=TM n n
def alX:cw xx:=⟨[.d gI],[.d .bool],λa=>Vw n a.1,none⟩
def alY:Hn SI:=(.s .z (.s (.s (.j ⟨[(14,.v .bool)],[],[1],[1000],1128,[]⟩ .z) .z) (.s (.s .z (.b (.lx ⟨[(3,.v af)],[],[1],[1000],1192,[]⟩ 0 ⟨[],[],[1],[1000],1192,[]⟩ (.s .z (.s (.b (.s (.j ⟨[(39,.v .bool)],[],[1,3],[1000],1512,[]⟩ .z) .z)) .z))))) (.s (.s .z (.b (.lx ⟨[(4,.v af)],[],[1],[1000],1256,[]⟩ 2 ⟨[],[],[],[],1256,[]⟩ .z))) .z))))
theorem alZ:aC 19 (alX n) :=cq (ak (ai7 n) ay) func19 alY n
def al0:cw xx:=⟨[.d dx],[.d .bool],λa=>Vx n a.1,none⟩
def al1:Hn SI:=(.s .z (.s (.s (.j ⟨[(48,.v .bool)],[],[1],[1000],1128,[]⟩ .z) .z) (.s (.s .z (.b (.lx ⟨[(3,.v af)],[],[1],[1000],1192,[]⟩ 0 ⟨[],[],[1],[1000],1192,[]⟩ .z))) (.s (.s .z (.b (.lx ⟨[(4,.v af)],[],[1],[1000],1256,[]⟩ 2 ⟨[],[],[],[],1256,[]⟩ .z))) .z))))
theorem al2:aC 5 (al0 n) :=cq (ak (alT n) (ak (alW n) (ak (alZ n) ay))) func5 al1 n
def ad2:cw xx:=⟨[.d (.sl dL)],[.d .bool],λa=>Fy n a.1,none⟩
def ad3:Hn SI:=(.s .z (.s (.s .z (.b (.lx ⟨[(3,.v af)],[],[0],[],1128,[]⟩ 0 ⟨[],[],[],[],1128,[]⟩ (.s .z (.s (.b (.s .z (.b (.lx ⟨[(4,.v af)],[],[0,3],[],1448,[]⟩ 2 ⟨[],[],[0,3],[],1448,[]⟩ .z)))) .z))))) .z))
theorem ad4:aC 6 (ad2 n) :=cq ay func6 ad3 n
def ai8:cw xx:=⟨[.d dx,.d dL],[.d dx],λa=>OX a.1 a.2.1,none⟩
theorem ai9:aC 8 ai8 :=cq ay func8 .z 0
def aaT:cw xx:=⟨[.d dx,.d dL],[.d af],λa=>Bg n a.1 a.2.1,none⟩
def aaU:Hn SI:=(tR (.s (.b (.s (.j ⟨[(27,.v .bool)],[],[2,3],[1000,1064],2536,[]⟩ .z) .z)) .z))
theorem aaV:aC 10 (aaT n) :=cq (ak (D6 n) (ak (oJ n) (ak (DY n) (ak (Gp n) ay)))) func10 aaU n
def Qg:cw xx:=⟨[.d dx,.d dL],[.d .bool],λa=>sJ n a.1 a.2.1,none⟩
def Qh:Hn SI:=(cy (.s (.s (.j ⟨[(39,.v .bool)],[],[2,3,5],[1000,1064],1320,[]⟩ .z) .z) (yW (.s (.s (.j ⟨[(76,.v .bool)],[],[2,3,5,6,7,9,10,11,12],[1000,1064,1384,2152,2600],2984,[]⟩ .z) .z) (cy (.s (.j ⟨[(16,.v .bool)],[],[2,3,5,6,7,9,10,11,12,13,14,15],[1000,1064,1384,2152,2600],3688,[]⟩ .z) (.s (.j ⟨[(17,.v .bool)],[],[2,3,5,6,7,9,10,11,12,13,16],[1000,1064,1384,2152,2600],3688,[]⟩ .z) (.s (.s (.j ⟨[(158,.v .bool)],[],[5,6,7,9,10,11,12],[1384,2152,2600],3688,[]⟩ .z) .z) .z))))))))
theorem Qi:aC 3 (Qg n) :=cq (ak (ag5 n) (ak (al2 n) (ak (ad4 n) (ak (Bu n) (ak ai9 (ak (Et n) (ak (aaV n) (ak (oJ n) (ak (agD n) (ak (JZ n) (ak (J2 n) ay))))))))))) func3 Qh n
end
end Go.Proofs
