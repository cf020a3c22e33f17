import Derived.Test.YtnkhciolifefdaaGreatS2
namespace Go.Proofs
open Go.Gb Go.RowKit
abbrev ft:OP SI:=.c 10 [[.v (.sl bH),.v (.sl bB),.v (.sl bJ),.v (.sl bC),.v (.sl bR),.v (.sl bL),.v (.sl bg),.v ah,.v (.sl aB),.o 1]]
abbrev qu:OP SI:=.c 1 [[.o 1]]
abbrev rK:OP SI:=.c 2 [[.v (.sl bH),(.v (.sl (.sl ah)))]]
abbrev tP:OP SI:=.c 10 [[.v (.sl bH),.v (.sl bB),.v (.sl bJ),.v (.sl bC),.v (.sl bR),.v (.sl bL),.v (.sl bg),.v ah,.v (.sl aB),.o 2]]
abbrev vd:OP SI:=.c 2 [[.v ah,.v ah]]
abbrev u9:OP SI:=.c 4 [[.v ah,.v ah,.v ah,.v ah]]
abbrev wy:OP SI:=.c 1 [[.o 1384]]
abbrev Hc:OP SI:=.c 9 [[.v ah,.v ah,.o 2473,.v ah,.v ah,.v ah,.v ah,.v ah,.v ah]]
abbrev cy(a:Hn SI):Hn SI:=.s .z (.s .z a)
abbrev gC(a:Hn SI):Hn SI:=.s .z (.s .z (.s .z a))
abbrev tR(a:Hn SI):Hn SI:=.s .z (.s .z (.s .z (.s .z a)))
abbrev wA(a:Hn SI):Hn SI:=.s .z (.s .z (.s .z (.s .z (.s .z a))))
abbrev Hh(a:Hn SI):Hn SI:=.s .z (.s .z (.s .z (.s .z (.s .z (.s .z (.s .z (.s .z (.s .z (.s .z a)))))))))
open Tryz
noncomputable section
variable (n:Nat)
def acw:cp xx:=⟨[.d ah],[.d (.st SI.Expr)],λa=>ve a.1,none⟩
theorem acy:aL 12 acw :=cq aD func12 .z 0
def ahw:cp xx:=⟨[.d bC],[.d (.st SI.kf)],λa=>yY a.1,none⟩
theorem ahx:aL 11 ahw :=cq aD func11 .z 0
def OM:cp xx:=⟨[],[.fresh .str],λ_=>xq,none⟩
theorem OO:aL 77 OM :=cq aD func77 .z 0
mutual
theorem aoO:∀g:cK,(toE g).wt<=4000000->p6 (toE g) (rf g)
 |⟨op,n,s,key,args⟩,h=>by
  simp only[toE,ET.wt]at h;have:=ET.q6 (IC args);simp only[toE,rf,p6];exact⟨n,key,_,rfl,by unfold maxLen;omega,by omega,XK args (by omega)⟩
theorem XK:∀l:List cK,ET.th (IC l)<=4000000->k7 (IC l) (tJ l)
 |[],_=>by simp only[IC,tJ,k7]
 |x::xs,h=>by
  simp only[IC,ET.th]at h;simp only[IC,tJ,k7];exact⟨_,_,rfl,aoO x (by omega),XK xs (by omega)⟩
end
def OQ:cp xx:=⟨[],[.d .bool],λ_=>none,some ⟨[.v (.sl bH)],[],[.p 1000],[(1000,rK)],λv=>kU v⟩⟩
theorem afd:∀l:U eT,rk (l.map toD)<=4000000->k8 (l.map toD) (l.map Bo)
 |[],_=>by simp only[List.map_nil,k8]
 |x::xs,h=>by
  simp only[aH,rk,List.foldr_cons,toD,ET.wt]at h;have:=ET.q6 (IC x.eL);simp only[aH,k8];refine⟨_,_,rfl,⟨_,_,_,_,_,rfl,by simp only[toD];unfold maxLen;omega,?_⟩,afd xs (by simp only[rk];omega)⟩;simp only[toD,p6];exact⟨_,_,_,rfl,by unfold maxLen;omega,by omega,by rw[<- tK];exact XK _ (by omega)⟩
theorem OT:aL 78 OQ:=by
 have hcall:eZ Tryz.prog 78:=⟨_,func78,by kernel_rfl,by kernel_rfl⟩;refine M2 hcall ?_;intro v r hr;have h':kU v=some r:=hr;unfold kU at h';cases hb:Nat.ble (rk (List.map toD v)) 4000000 with
 |false=>rw[hb]at h';cases h'
 |true=>
  rw[hb]at h';have h'':some (v,oQ (List.map toD v))=some r:=h';injection h'' with e;subst e;have hw:=Nat.le_of_ble_eq_true hb;have hlen:=UC (List.map toD v);have hn:∀d∈List.map toD v,d.2.names.length<=4000000:=λd hd=>by have h1:=UD hd;have h2:=ET.pf d.2;omega
  exact abP (TL:=41) (TG:=218) (TI:=3) hcall (afd v hw) λsv w hS=>an6 (List.map toD v) (by omega) (λ d hd=>Nat.le_trans (hn d hd) (by omega))
   (λ d hd v0 v1 v2 v3 v4 w hE=>callsIn_wide.1 (al3 0 d.2 v0 v1 v2 v3 v4 w hE (Nat.le_trans (hn d hd) (by omega)))) sv w hS
def Tg:cp xx:=⟨[.d (.sl ah),.d ah],[.fresh ah],λa=>qL a.1 a.2.1,none⟩
theorem Ti:aL 219 Tg:=by
 have hcall:eZ Tryz.prog 219:=⟨_,func219,by kernel_rfl,by kernel_rfl⟩;refine z7 hcall (λ a r h=>?_) rfl;obtain⟨l,c,⟨⟩⟩:=a;have h':qL l c=some r:=h
 match l,h' with
 |[x],h'=>
  simp only[qL]at h';cases hb:(decide (0<=c)&&decide (c<=1000000000000))with
  |false=>rw[hb]at h';cases h'
  |true=>
   rw[hb]at h';have h'':some (List.replicate c.toNat x)=some r:=h';injection h'' with e;subst e;simp only[aN,aW]at hb;obtain⟨h1,h2⟩:=hb;obtain⟨k,hk⟩:=Int.eq_ofNat_of_zero_le h1;subst hk;exact agN (E:=3) (c:=k) hcall λa cap w hx=>ake x k (Int.ofNat_le.1 (by simpa using h2)) a cap w hx
def XL:cp xx:=⟨[.d (.sl ah),.d ah],[.d ah],λa=>ED n a.1 a.2.1,none⟩
def XM:Hn SI:=(.s .z (.s (.s .z (.b (.lx ⟨[(8,.v ah)],[],[0,1,7],[],1256,[]⟩ 0 ⟨[],[],[],[],1256,[]⟩ .z))) .z))
theorem XO:aL 254 (XL n) :=cq aD func254 XM n
def OU:cp xx:=⟨[.d (.sl ah),.d ah],[.d .bool],λa=>rq n a.1 a.2.1,none⟩
theorem OV:aL 220 (OU n) :=cq (au (XO n) aD) func220 .z n
def Bz:cp xx:=⟨[.ref (.st SI.graph),.d ah],[.fresh ah],λa=>jG n a.1 a.2.1,none⟩
def BB:Hn SI:=(tR (.s (.b (.l ⟨[(6,.od 2024)],[(1448,.l ah),(2024,.l ah)],[0,5],[],2025,[]⟩ 0 ⟨[],[(1448,.l ah)],[5],[],2024,[]⟩ (.s .z (.b (gC (.b (.l ⟨[(6,.od 3049),(35,.v ah)],[(1448,.l ah),(3049,.l ah)],[0,5,7,33,34],[],3050,[]⟩ 2 ⟨[(6,.od 3049)],[(1448,.l ah),(3049,.l ah)],[0,5],[],3050,[]⟩ (cy (.s (.j ⟨[(6,.od 3114)],[(1448,.l ah),(3114,.l ah)],[0,5,7,33,34,35],[],3115,[]⟩ (.b (.s .z (.s (.j ⟨[(49,.v .bool)],[],[0,5,6,7,8,33,34,35],[1448,3049],3434,[]⟩ .z) .z)))) .z))))))))) .z))
theorem BD:aL 169 (Bz n) :=cq (au Ti (au (OV n) aD)) func169 BB n
def Mg:cp xx:=⟨[.d .str],[.d .bool],λa=>cmp_isNaN_string a.1,none⟩
theorem Mh:aL 221 Mg :=cq aD func221 .z 0
def Jo:cp xx:=⟨[.d .str,.d .str],[.d ah],λa=>nJ a.1 a.2.1,none⟩
theorem Jp:aL 170 Jo :=cq (au Mh aD) func170 .z 0
def KJ:cp xx:=⟨[.d (.sl .str),.d (.sl .str)],[.d ah],λa=>lJ n a.1 a.2.1,none⟩
def KL:Hn SI:=(.s .z (.s (.s .z (.b (.lx ⟨[(11,.v ah)],[],[0,1,9,10],[],1256,[]⟩ 0 ⟨[],[],[0,1],[],1256,[]⟩ .z))) .z))
theorem KM:aL 117 (KJ n) :=cq (au Jp aD) func117 KL n
def zq:dg xx:=⟨[.v ah,.p 0],[(0,qu),(1,.l .bool)],[.v .bool],[(0,qu),(1,.l .bool)],λv=>mE v.1 v.2⟩
def zu:cp xx:=⟨[],[.d .bool],λ_=>none,some (zq)⟩
theorem zw:aL 119 zu :=oE aD func119 .z 0 (by kernel_rfl) λ_=>by kernel_rfl
def Gm:dg xx:=⟨[.v (.sl ah),(.f 119 [] [.p 0])],[(0,qu),(1,.l .bool)],[.v ah],[(0,qu),(1,.l .bool)],λv=>mO n v.1 v.2⟩
def Gn:cp xx:=⟨[],[.d .bool],λ_=>none,some (Gm n)⟩
def Gp:Hn SI:=(.s .z (.s (.s .z (.b (.lx ⟨[(8,.v ah)],[(0,qu),(1,.l .bool)],[0,1,7],[],1256,[]⟩ 0 ⟨[],[(0,qu),(1,.l .bool)],[],[],1256,[]⟩ .z))) .z))
theorem Gq:aL 171 (Gn n) :=oE (au zw aD) func171 Gp n (by kernel_rfl) λ_=>by kernel_rfl
def BG:dg xx:=⟨[.v (.sl ah),(.f 119 [] [.p 0])],[(0,qu),(1,.l .bool)],[.v .bool],[(0,qu),(1,.l .bool)],λv=>iq n v.1 v.2⟩
def BH:cp xx:=⟨[],[.d .bool],λ_=>none,some (BG n)⟩
theorem BJ:aL 118 (BH n) :=oE (au (Gq n) aD) func118 .z n (by kernel_rfl) λ_=>by kernel_rfl
def Jq:cp xx:=⟨[.ref (.st SI.graph)],[.fresh ah],λa=>nK n a.1,none⟩
def Jr:Hn SI:=(gC (.s (.s .z (.b (.l ⟨[(4,.o 2024),(20,.v ah)],[(1448,wy),(2024,.l ah),(1384,.l .bool)],[0,3,19],[],2025,[(4,ah)]⟩ 0 ⟨[(4,.o 2024)],[(2024,.l ah)],[],[],2025,[]⟩ (cy (.s (.b (.s .z (.s (.s .z (.b (.l ⟨[(5,.v ah),(27,.v ah)],[(1448,wy),(1384,.l .bool)],[0,3,4,19,20,25,26],[2024],2537,[]⟩ 2 ⟨[(5,.v ah)],[(1448,wy),(1384,.l .bool)],[0,3,4,19,20],[2024],2537,[]⟩ (cy (.s (.j ⟨[(5,.v ah)],[(1448,wy),(1384,.l .bool)],[0,3,4,19,20,25,26,27],[2024],2601,[]⟩ (.b (cy (.s (.j ⟨[(66,.v .bool)],[],[0,3,4,5,6,19,20,25,26,27],[1384,1448,2024],3177,[]⟩ .z) .z)))) .z))))) .z))) .z))))) .z))
theorem Js:aL 80 (Jq n) :=cq (au (BJ n) aD) func80 Jr n
def BK:dg xx:=⟨[.p 0,.v ah],[(0,rK)],[.oz 1000],[(0,rK),(1000,.l .str)],λv=>jI n v.1 v.2.1 v.2.2⟩
def BL:cp xx:=⟨[],[.d .bool],λ_=>none,some (BK n)⟩
def BN:Hn SI:=(tR (.b (.lx ⟨[(6,.o 1512),(7,.v ah)],[(1512,.l .str)],[0,1,5],[0,1192],1513,[(6,.str)]⟩ 999999 ⟨[],[],[],[],1512,[]⟩ (.b (cy (.s (.s .z (.b (.l ⟨[(8,.v ah),(34,.v ah)],[],[0,1,5,6,32,33],[0,1192,2153],2921,[]⟩ 2 ⟨[(8,.v ah)],[],[0,1,5,6],[0,1192,2153],2921,[]⟩ (cy (.s (.j ⟨[(8,.v ah)],[],[0,1,5,6,32,33,34],[0,1192,2153],2985,[]⟩ (.b (.s .z (.s (.j ⟨[(57,.v .bool)],[],[0,1,5,6,8,10,32,33,34],[0,1192,2153],3177,[]⟩ .z) .z)))) .z))))) .z))))))
theorem BP:aL 116 (BL n) :=oE (au (BD n) aD) func116 BN n (by kernel_rfl) λ_=>by kernel_rfl
def zx:dg xx:=⟨[.p 0],[(0,rK)],[.oz 1000],[(0,rK),(1000,.l .str)],λv=>iV n v.1 v.2⟩
def zy:cp xx:=⟨[],[.d .bool],λ_=>none,some (zx n)⟩
def zA:Hn SI:=(cy (.s (.s .z (.b (.l ⟨[(3,.oz 1512),(11,.v ah)],[(0,rK),(1512,.l .str)],[0,10],[],1513,[(1099511627779,.str)]⟩ 0 ⟨[(3,.oz 1512)],[(0,rK),(1512,.l .str)],[],[],1513,[]⟩ (cy (.s (.j ⟨[(3,.oz 1577)],[(0,rK),(1577,.l .str)],[0,10,11],[],1578,[]⟩ (.b (cy (.s (.s (.j ⟨[(18,.v .bool)],[],[0,3,5,10,11],[0,1512,1833],1961,[]⟩ .z) .z) (.s (.j ⟨[(40,.v .bool)],[],[0,3,5,10,11],[0,1512,1833],1961,[]⟩ .z) .z))))) .z))))) .z))
theorem zB:aL 79 (zy n) :=oE (au (BP n) (au (KM n) aD)) func79 zA n (by kernel_rfl) λ_=>by kernel_rfl
def XP:cp xx:=⟨[.d iQ],[.fresh ah,.d (.sl .str),.d ah],λa=>jJ n a.1,none⟩
def XQ:Hn SI:=(cy (.s (.s .z (.b (.l ⟨[(15,.v ah)],[(1256,.m .str .bool)],[1,5,13,14],[1000,1384],1576,[]⟩ 0 ⟨[],[(1256,.m .str .bool)],[1,5],[1000],1576,[]⟩ .z))) (.s (.s .z (.b (.lx ⟨[(25,.v ah)],[(1256,.m .str .bool)],[1,5,23,24],[1000],1832,[]⟩ 2 ⟨[],[],[1],[1000],1832,[]⟩ .z))) (.s .z (.s (.s .z (.s (.j ⟨[(43,.v .bool)],[],[10,11],[1960,2152],2280,[]⟩ .z) .z)) .z)))))
theorem Jt:aL 48 (XP n) :=cq (au OO (au OT (au (zB n) (au (Js n) aD)))) func48 XQ n
def QG:cp xx:=⟨[.d (.sl (.st SI.ie))],[.fresh (.st SI.side)],λa=>pG n a.1,none⟩
def QH:Hn SI:=(cy (.s (.s .z (.b (.l ⟨[(10,.v ah)],[(1192,.l (.st SI.side))],[0,3,9],[],1512,[]⟩ 0 ⟨[],[(1192,.l (.st SI.side))],[3],[],1512,[]⟩ .z))) .z))
theorem Dt:aL 173 (QG n) :=cq aD func173 QH n
def QI:cp xx:=⟨[.d (.st SI.ie)],[.d .bool],λa=>tN a.1,none⟩
theorem QJ:aL 222 QI :=cq aD func222 .z 0
def Fw:cp xx:=⟨[.d (.st SI.side)],[.d .bool],λa=>gK a.1,none⟩
theorem uK:aL 174 Fw :=cq aD func174 .z 0
def Tj:cp xx:=⟨[.d ah],[.d .bool],λa=>cmp_isNaN_int a.1,none⟩
theorem Tk:aL 47 Tj :=cq aD func47 .z 0
def OW:cp xx:=⟨[.d ah,.d ah],[.d ah],λa=>cmp_Compare_int a.1 a.2.1,none⟩
theorem l7:aL 29 OW :=cq (au Tk aD) func29 .z 0
def acz:cp xx:=⟨[.d (.sl ah)],[.d ah],λa=>rQ n a.1,none⟩
def acA:Hn SI:=(cy (.s (.s .z (.b (.lx ⟨[(8,.v ah)],[],[3,6,7],[],1320,[]⟩ 0 ⟨[],[],[3],[],1320,[]⟩ .z))) .z))
theorem Fx:aL 28 (acz n) :=cq aD func28 acA n
def OX:cp xx:=⟨[.d (.st SI.ie),.d (.st SI.ie)],[.d ah],λa=>ru n a.1 a.2.1,none⟩
theorem OY:aL 223 (OX n) :=cq (au l7 (au (Fx n) aD)) func223 .z n
def Fy:cp xx:=⟨[.d (.st SI.side),.d (.st SI.side)],[.d .bool],λa=>lK a.1 a.2.1,none⟩
theorem Fz:aL 224 Fy :=cq aD func224 .z 0
def Tm:cp xx:=⟨[.d (.sl (.st SI.ie))],[.d .bool],λa=>vK n a.1,none⟩
def Tn:Hn SI:=(.s .z (.s (.s (.j ⟨[(16,.v .bool)],[],[0],[],1064,[]⟩ .z) .z) (.s .z (.s (.s .z (.b (.lx ⟨[(21,.v ah)],[],[0,3,19,20],[1128],1448,[]⟩ 0 ⟨[],[],[3],[1128],1448,[]⟩ (cy (.s (.b (cy (.s (.s (.j ⟨[(61,.v .bool)],[],[0,3,4,19,20,21],[1128],2536,[]⟩ .z) .z) (.s (.j ⟨[(74,.v .bool)],[],[0,3,19,20,21],[1128],2536,[]⟩ .z) .z)))) .z))))) (.s (.s .z (.b (.lx ⟨[(78,.v ah)],[],[3,77],[1128],1640,[]⟩ 2 ⟨[],[],[3],[1128],1640,[]⟩ (cy (.s (.b (cy (.b (.lx ⟨[(8,.v ah)],[],[3,7,77,78],[1128],2024,[]⟩ 4 ⟨[],[],[3,77,78],[1128],2024,[]⟩ (.s .z (.s (.b (.s (.j ⟨[(106,.v .bool)],[],[3,7,8,77,78],[1128],2280,[]⟩ .z) .z)) .z)))))) .z))))) .z)))))
theorem Tp:aL 172 (Tm n) :=cq (au (Dt n) (au QJ (au uK (au (OY n) (au Fz aD))))) func172 Tn n
def Za:cp xx:=⟨[.mut ah],[.mu ah],λa=>pI n a.1,none⟩
theorem vV:aL 157 (Za n):=by
 have hcall:eZ Tryz.prog 157:=⟨_,func157,by kernel_rfl,by kernel_rfl⟩;refine z7 hcall (λ a r h=>?_) rfl;obtain⟨l,⟨⟩⟩:=a;exact aj8 Tryz.so157 rfl hcall h
def QK:cp xx:=⟨[.mut ah],[.whole 0,.mu ah],λa=>pJ n a.1,none⟩
def QL:Hn SI:=(cy (.s (.s .z (.b (.lx ⟨[(3,.v ah)],[],[0],[0],1320,[]⟩ 0 ⟨[],[],[0],[0],1320,[]⟩ (.s .z (.s (.b (.s .z (.s (.s .z (.s (.s .z (.b (.l ⟨[(3,.v ah),(5,.v ah)],[(0,.l ah)],[0,4],[],2536,[]⟩ 2 ⟨[(3,.v ah)],[(0,.l ah)],[0],[],2536,[]⟩ (.s .z (.s (.j ⟨[(3,.v ah)],[(0,.l ah)],[0,4,5],[],2792,[]⟩ .z) .z))))) .z)) .z))) .z))))) .z))
theorem vC:aL 158 (QK n) :=cq aD func158 QL n
def QM:cp xx:=⟨[.d (.sl (.st SI.ie))],[.fresh aB,.d ah],λa=>tO n a.1,none⟩
def QN:Hn SI:=(gC (.s (.s .z (.b (.l ⟨[(4,.o 1576),(19,.v ah)],[(1576,.l ah)],[0,17,18],[],1577,[(4,ah)]⟩ 0 ⟨[(4,.o 1576)],[(1576,.l ah)],[0],[],1577,[]⟩ .z))) (tR (.s (.s .z (.b (.l ⟨[(8,.o 2409),(38,.v ah)],[(2409,.l aB)],[4,7,37],[1576,1961],2410,[(8,aB)]⟩ 2 ⟨[(8,.o 2409)],[(2409,.l aB)],[],[],2410,[]⟩ (cy (.s (.b (cy (.s (.s .z (.b (.l ⟨[(10,.o 2858),(43,.v ah)],[(2858,.l ah)],[4,7,8,9,37,38,41,42],[1576,1961,2409],2859,[(10,ah)]⟩ 4 ⟨[(10,.o 2858)],[(2858,.l ah)],[4,7,8,9,37,38],[1576,1961,2409],2859,[]⟩ (cy (.s (.j ⟨[(10,.o 2923)],[(2923,.l ah)],[4,7,8,9,37,38,41,42,43],[1576,1961,2409],2924,[]⟩ (.b (.s .z (.s (.j ⟨[(77,.v .bool)],[],[4,7,8,9,10,12,37,38,41,42,43],[1576,1961,2409,2858,3051],3179,[]⟩ .z) .z)))) .z))))) (cy (.b (.l ⟨[(8,.o 3051),(13,.v ah)],[(3051,.l aB)],[4,7,9,10,37,38],[1576,1961,2858],3052,[]⟩ 6 ⟨[(8,.o 3051)],[(3051,.l aB)],[4,7,37,38],[1576,1961],3052,[]⟩ .z)))))) .z))))) .z))))
theorem QO:aL 120 (QM n) :=cq (au (Tp n) (au (vV n) (au (vC n) (au (Dt n) (au uK aD))))) func120 QN n
def XR:cp xx:=⟨[.d bJ],[.fresh aB],λa=>tQ n a.1,none⟩
theorem Ju:aL 81 (XR n) :=cq (au (QO n) aD) func81 .z n
def akO:cp xx:=⟨[.d aB],[.d .bool],λa=>nL a.1,none⟩
theorem oP:aL 64 akO :=cq aD func64 .z 0
def afe:cp xx:=⟨[.d aB],[.d aB,.d .bool],λa=>sH a.1,none⟩
theorem Jv:aL 44 afe :=cq (au oP aD) func44 .z 0
def Zb:cp xx:=⟨[.d aB,.d aB],[.d aB,.d .bool],λa=>sI a.1 a.2.1,none⟩
def Zc:Hn SI:=(.s .z (.s (.s (.j ⟨[(13,.v .bool)],[],[2,3,4],[1000,1064,1128],1256,[]⟩ .z) .z) .z))
theorem BQ:aL 121 Zb :=cq (au oP (au Jv aD)) func121 Zc 0
def anl:cp xx:=⟨[.d aB],[.d ah],λa=>oU a.1,none⟩
theorem zC:aL 24 anl :=cq (au Jv aD) func24 .z 0
def Tq:cp xx:=⟨[.d (.sl aB),.d (.sl aB)],[.d ah,.d (.st SI.ie)],λa=>qM n a.1 a.2.1,none⟩
def Tt:Hn SI:=(cy (.s (.s .z (.b (.l ⟨[(6,.v ah),(18,.v ah)],[(1192,vd)],[1,5,7,16,17],[1064],1576,[]⟩ 0 ⟨[(6,.v ah)],[(1192,vd)],[5,7],[1064],1576,[]⟩ (cy (.s (.b (cy (.b (.l ⟨[(6,.v ah),(24,.v ah)],[(1192,vd)],[1,5,7,9,16,17,18,22,23],[1064,1768],2088,[]⟩ 2 ⟨[(6,.v ah)],[(1192,vd)],[1,5,7,16,17,18],[1064],2088,[]⟩ (cy (.s (.j ⟨[(6,.v ah)],[(1192,vd)],[1,5,7,9,16,17,18,22,23,24],[1064,1768],2152,[]⟩ .z) .z)))))) .z))))) .z))
theorem FZ:aL 82 (Tq n) :=cq (au BQ (au zC (au l7 (au (Fx n) aD)))) func82 Tt n
def QR:cp xx:=⟨[.d iQ],[.fresh ah,.d (.st SI.ie),.d .bool],λa=>pK n a.1,none⟩
def QS:Hn SI:=(cy (.s (.s .z (.b (.l ⟨[(19,.v ah)],[(1448,.l (.sl aB))],[3,5,17,18],[1128],1832,[]⟩ 0 ⟨[],[(1448,.l (.sl aB))],[3,5],[1128],1832,[]⟩ (cy (.s (.j ⟨[],[(1448,.l (.sl aB))],[3,5,17,18,19],[1128],1896,[]⟩ .z) .z))))) (.s (.s .z (.b (.lx ⟨[(35,.v ah)],[],[3,5,34],[1128,1448],2024,[]⟩ 2 ⟨[],[],[3],[1128],2024,[]⟩ (cy (.s (.b (cy (.b (.lx ⟨[(9,.v ah)],[],[3,5,8,34,35],[1128,1448],2408,[]⟩ 4 ⟨[],[],[3,5,34,35],[1128,1448],2408,[]⟩ .z)))) .z))))) .z)))
theorem QT:aL 49 (QR n) :=cq (au (Ju n) (au (FZ n) aD)) func49 QS n
def FB:cp xx:=⟨[.d (.st SI.ij)],[.fresh (.st SI.Finding)],λa=>fI n a.1,none⟩
def FD:Hn SI:=(cy (.s (.j ⟨[(3,.o 1192)],[(1192,.l (.st SI.Finding))],[1],[1000],1193,[(3,.st SI.Finding)]⟩ .z) (.s (.j ⟨[(3,.o 1193)],[(1193,.l (.st SI.Finding))],[],[],1194,[]⟩ (cy (.s (.s .z (.s (.s .z (.b (.l ⟨[(41,.v ah)],[(2153,Hc),(2473,.l .str)],[1,3,10,39,40],[1000,1192,1385],2474,[(9818690,.str)]⟩ 0 ⟨[],[(2153,Hc),(2473,.l .str)],[3,10],[1192],2474,[]⟩ .z))) .z)) .z))) .z)))
theorem FE:aL 30 (FB n) :=cq (au (Jt n) (au (QT n) aD)) func30 FD n
def XT:cp xx:=⟨[.nil,.d ah],[.fresh aB],λa=>NV a.1 a.2.1,none⟩
theorem XU:aL 208 XT :=cq aD func208 .z 0
def QU:cp xx:=⟨[.d (.sl (.sl aB))],[.fresh aB],λa=>yZ n a.1,none⟩
def QV:Hn SI:=(cy (.s (.s .z (.b (.l ⟨[(3,.v ah),(11,.v ah)],[],[0,9,10],[],1320,[]⟩ 0 ⟨[(3,.v ah)],[],[0],[],1320,[]⟩ .z))) (.s .z (.s (.s .z (.b (.l ⟨[(6,.o 1704),(27,.v ah)],[(1704,.l aB)],[25,26],[],1705,[]⟩ 2 ⟨[(6,.o 1704)],[(1704,.l aB)],[],[],1705,[]⟩ .z))) .z))))
theorem QW:aL 156 (QU n) :=cq (au XU aD) func156 QV n
def Mi:cp xx:=⟨[.mut (.st SI.span),.eo [.st SI.span,.st SI.span] ah],[.mu (.st SI.span)],λa=>vg n a.1 a.2.1,none⟩
theorem Mj:aL 210 (Mi n):=by
 have hcall:eZ Tryz.prog 210:=⟨_,func210,by kernel_rfl,by kernel_rfl⟩;refine z7 hcall (λ a r h=>?_) rfl;obtain⟨l,φ,⟨⟩⟩:=a;refine aax (X:=xx) (i:=SI.span) (hI:=(inferInstance:Inhabited aP)) Tryz.so210 rfl hcall Tryz.underlying264 (by kernel_rfl) (λ x t ht=>?_) h;cases x;have ht:t∈[_,_]:=ht;simp only[aQ,gG,or_false]at ht;rcases ht with rfl |rfl<;>exact⟨_,rfl,trivial⟩
def XV:cp xx:=⟨[.d (.st SI.span),.d (.st SI.span)],[.d ah],λa=>xQ a.1 a.2.1,none⟩
theorem XW:aL 211 XV :=cq (au l7 aD) func211 .z 0
def aff:cp xx:=⟨[.d (.sl aB),.d ah],[.fresh (.st SI.span)],λa=>Ke n a.1 a.2.1,none⟩
def afg:Hn SI:=(cy (.s (.s .z (.b (.l ⟨[(5,.o 1320),(14,.v ah)],[(1320,.l (.st SI.span))],[1,12,13],[],1321,[(5,.st SI.span)]⟩ 0 ⟨[(5,.o 1320)],[(1320,.l (.st SI.span))],[],[],1321,[]⟩ (cy (.s (.j ⟨[(5,.o 1385)],[(1385,.l (.st SI.span))],[1,12,13,14],[],1386,[]⟩ (.b (.s .z (.s (.j ⟨[(27,.v .bool)],[],[1,5,7,12,13,14],[1320,1513],1641,[]⟩ .z) .z)))) .z))))) (cy (.s (.s .z (.b (.l ⟨[(8,.o 1705),(41,.v ah)],[(1705,.l (.st SI.span))],[39,40],[1320],1706,[(8,.st SI.span)]⟩ 2 ⟨[(8,.o 1705)],[(1705,.l (.st SI.span))],[],[],1706,[]⟩ (cy (.s (.j ⟨[(8,.o 1770)],[(1770,.l (.st SI.span))],[39,40,41],[1320],1771,[]⟩ (.b (cy (.s (.j ⟨[(59,.v .bool)],[],[8,10,11,39,40,41],[1320,1705,1898],2218,[]⟩ .z) .z)))) .z))))) .z))))
theorem afh:aL 159 (aff n) :=cq (au (Mj n) (au XW aD)) func159 afg n
def afi:cp xx:=⟨[.d (.sl (.sl aB))],[.fresh (.st SI.strip)],λa=>oJ n a.1,none⟩
def afj:Hn SI:=(gC (.s (.s .z (.b (.l ⟨[(4,.o 1512),(13,.v ah)],[(1512,.l ah)],[3,11,12],[1128],1513,[(4,ah)]⟩ 0 ⟨[(4,.o 1512)],[(1512,.l ah)],[3],[1128],1513,[]⟩ .z))) (gC (.s (.s .z (.b (.l ⟨[(7,.o 1961),(8,.v ah)],[(1961,.l (.st SI.strip))],[3,4],[1128,1512],1962,[(7,.st SI.strip)]⟩ 2 ⟨[(7,.o 1961)],[(1961,.l (.st SI.strip))],[],[],1962,[]⟩ .z))) .z))))
theorem Sm:aL 105 (afi n) :=cq (au (QW n) (au (vV n) (au (vC n) (au (afh n) aD)))) func105 afj n
def Tv:cp xx:=⟨[.d (.sl (.st SI.span)),.d (.sl (.st SI.span))],[.d .bool],λa=>vL n a.1 a.2.1,none⟩
def Tw:Hn SI:=(cy (.s (.s .z (.b (.lx ⟨[(13,.v ah)],[],[0,1,12],[],1576,[]⟩ 0 ⟨[],[],[],[],1576,[]⟩ .z))) .z))
theorem Tx:aL 164 (Tv n) :=cq aD func164 Tw n
def ahy:cp xx:=⟨[.d (.sl (.st SI.strip))],[.fresh aB],λa=>IE n a.1,none⟩
def ahz:Hn SI:=(cy (.s (.s .z (.b (.l ⟨[(3,.o 1192),(4,.v ah)],[(1192,.l aB)],[0],[],1193,[(3,aB)]⟩ 0 ⟨[(3,.o 1192)],[(1192,.l aB)],[],[],1193,[]⟩ (.s .z (.b (.s .z (.s (.b (.l ⟨[(5,.v ah)],[],[0,3,4],[1192],1641,[]⟩ 2 ⟨[(5,.v ah)],[],[0,3,4],[1192],1641,[]⟩ (.s (.s (.j ⟨[(30,.v .bool)],[],[0,3,4,5],[1192],1641,[]⟩ .z) .z) .z))) (.s (.s .z (.b (.l ⟨[(3,.o 2089),(39,.v ah)],[(2089,.l aB)],[0,4,5,37,38],[],2090,[]⟩ 4 ⟨[(3,.o 2089)],[(2089,.l aB)],[0,5],[],2090,[]⟩ .z))) .z)))))))) .z))
theorem XY:aL 109 (ahy n) :=cq (au (Tx n) aD) func109 ahz n
def acB:cp xx:=⟨[.d (.sl aB)],[.d (.sl aB),.d ah],λa=>y5 a.1,none⟩
theorem OZ:aL 108 acB :=cq aD func108 .z 0
def aoP:cp xx:=⟨[.d (.sl aB)],[.d (.sl aB),.d ah],λa=>O2 n a.1,none⟩
def aoQ:Hn SI:=(.s .z (.s (.s .z (.b (.lx ⟨[(8,.v ah)],[],[0,6,7],[],1320,[]⟩ 0 ⟨[],[],[0],[],1320,[]⟩ .z))) .z))
theorem aoR:aL 103 (aoP n) :=cq (au oP (au (Sm n) (au (XY n) (au OZ aD)))) func103 aoQ n
def Ty:cp xx:=⟨[.d (.sl aB),.d (.sl aB)],[.d .bool],λa=>oK n a.1 a.2.1,none⟩
def Tz:Hn SI:=(cy (.s (.s .z (.b (.lx ⟨[(13,.v ah)],[],[0,1,12],[],1576,[]⟩ 0 ⟨[],[],[],[],1576,[]⟩ .z))) .z))
theorem F3:aL 104 (Ty n) :=cq aD func104 Tz n
def ahA:cp xx:=⟨[.d (.sl aB)],[.d .bool],λa=>og n a.1,none⟩
theorem pQ:aL 62 (ahA n) :=cq (au (aoR n) (au (F3 n) aD)) func62 .z n
def TA:cp xx:=⟨[.d iQ,.d (.sl aB)],[.fresh ah],λa=>vM n a.1 a.2.1,none⟩
def TB:Hn SI:=(gC (.s (.s .z (.b (.l ⟨[(5,.o 1640),(16,.v ah)],[(1640,.l ah)],[1,14,15],[],1641,[(5,ah)]⟩ 0 ⟨[(5,.o 1640)],[(1640,.l ah)],[],[],1641,[]⟩ .z))) .z))
theorem TD:aL 84 (TA n) :=cq (au (pQ n) (au (Ju n) (au (FZ n) aD))) func84 TB n
def afk:cp xx:=⟨[.d iQ,.d (.sl aB)],[.fresh .str],λa=>sK n a.1 a.2.1,none⟩
def afl:Hn SI:=(gC (.s (.s .z (.b (.l ⟨[(6,.v ah),(17,.v ah)],[],[2,5,15,16],[1000,1256],1640,[]⟩ 0 ⟨[(6,.v ah)],[],[2,5],[1000,1256],1640,[]⟩ (cy (.s (.j ⟨[(6,.v ah)],[],[2,5,15,16,17],[1000,1256],1704,[]⟩ (.b (.s .z (.s (.j ⟨[(44,.v .bool)],[],[2,5,6,7,15,16,17],[1000,1256],2024,[]⟩ .z) .z)))) .z))))) (.s .z (.s (.s .z (.b (.l ⟨[(9,.o 1896),(49,.v ah)],[(1896,.l .str)],[2,6,47,48],[1000,1256],1897,[(9,.str)]⟩ 2 ⟨[(9,.o 1896)],[(1896,.l .str)],[],[],1897,[]⟩ (cy (.s (.j ⟨[(9,.o 1961)],[(1961,.l .str)],[2,6,47,48,49],[1000,1256],1962,[]⟩ (.b (.s .z (.s (.j ⟨[(68,.v .bool)],[],[2,6,9,10,47,48,49],[1000,1256,1896],2281,[]⟩ .z) .z)))) .z))))) .z))))
theorem Sn:aL 51 (afk n) :=cq (au (TD n) aD) func51 afl n
def O1:cp xx:=⟨[.d (.sl .str),.d .str],[.d ah],λa=>rz n a.1 a.2.1,none⟩
def O3:Hn SI:=(.s .z (.s (.s .z (.b (.lx ⟨[(8,.v ah)],[],[0,1,7],[],1256,[]⟩ 0 ⟨[],[],[],[],1256,[]⟩ .z))) .z))
theorem O4:aL 90 (O1 n) :=cq aD func90 O3 n
def Jw:cp xx:=⟨[.d (.sl .str),.d .str],[.d .bool],λa=>fJ n a.1 a.2.1,none⟩
theorem pR:aL 56 (Jw n) :=cq (au (O4 n) aD) func56 .z n
def Mk:cp xx:=⟨[.d .str,.ref (.sl .str)],[.d .bool],λa=>jZ n a.1 a.2.1,none⟩
theorem Ml:aL 122 (Mk n) :=cq (au (pR n) aD) func122 .z n
def Gr:cp xx:=⟨[.d (.sl .str),.eo [.str] .bool],[.d ah],λa=>qz n a.1 a.2.1,none⟩
def Gs:Hn SI:=(.s .z (.s (.s .z (.b (.lx ⟨[(8,.v ah)],[],[0,1,7],[],1256,[]⟩ 0 ⟨[],[],[],[],1256,[]⟩ .z))) .z))
theorem Gt:aL 175 (Gr n) :=cq aD func175 Gs n
def BR:cp xx:=⟨[.d (.sl .str),.eo [.str] .bool],[.d .bool],λa=>fO n a.1 a.2.1,none⟩
theorem BU:aL 123 (BR n) :=cq (au (Gt n) aD) func123 .z n
def TF:cp xx:=⟨[.d bC,.d (.sl .str)],[.d .bool],λa=>qN n a.1 a.2.1,none⟩
theorem TH:aL 83 (TF n) :=cq (au (BU n) (au (Ml n) aD)) func83 .z n
def XZ:cp xx:=⟨[.d iQ,.d (.sl .str),.d ah],[.fresh ah],λa=>nN n a.1 a.2.1 a.2.2.1,none⟩
def X0:Hn SI:=(cy (.s (.s .z (.b (.l ⟨[(7,.o 1448),(13,.v ah)],[(1448,.l ah)],[1,2,11,12],[],1449,[(7,ah)]⟩ 0 ⟨[(7,.o 1448)],[(1448,.l ah)],[],[],1449,[]⟩ (cy (.s (.j ⟨[(7,.o 1513)],[(1513,.l ah)],[1,2,11,12,13],[],1514,[]⟩ (.b (.s .z (.s (.j ⟨[(37,.v .bool)],[],[1,2,7,8,11,12,13],[1448],1897,[]⟩ .z) .z)))) .z))))) .z))
theorem Jy:aL 50 (XZ n) :=cq (au (TH n) aD) func50 X0 n
def ahB:cp xx:=⟨[.d (.sl aB)],[.d aB,.d .bool],λa=>N7 n a.1,none⟩
def ahC:Hn SI:=(.s .z (.s (.s .z (.b (.l ⟨[(3,.v .bool),(8,.v ah)],[(1000,u9)],[2,6,7],[],1320,[]⟩ 0 ⟨[(3,.v .bool)],[(1000,u9)],[2],[],1320,[]⟩ (cy (.s (.j ⟨[(3,.v .bool)],[(1000,u9)],[2,6,7,8],[],1384,[]⟩ .z) .z))))) .z))
theorem ahD:aL 63 (ahB n) :=cq (au oP aD) func63 ahC n
def afm:cp xx:=⟨[.d (.sl aB)],[.d aB,.d .bool],λa=>Da n a.1,none⟩
def afn:Hn SI:=(.s .z (.s (.s (.j ⟨[(11,.v .bool)],[],[0,2],[1000],1128,[]⟩ .z) .z) .z))
theorem Sq:aL 40 (afm n) :=cq (au (pQ n) (au (ahD n) aD)) func40 afn n
def ahE:cp xx:=⟨[.d aB,.d ah],[.d aB,.d .bool],λa=>IG a.1 a.2.1,none⟩
def ahF:Hn SI:=(.s .z (.s (.s (.j ⟨[(12,.v .bool)],[],[1,2,4],[1000,1064],1192,[]⟩ .z) .z) .z))
theorem ahG:aL 41 ahE :=cq (au oP (au Jv aD)) func41 ahF 0
def uO:cp xx:=⟨[.d (.sl (.st SI.strip)),.d ah,.eo [.st SI.strip,ah] ah],[.d ah,.d .bool],λa=>iZ n a.1 a.2.1 a.2.2.1,none⟩
def uP:Hn SI:=(gC (.s (.b (.l ⟨[(9,.v ah),(10,.v ah)],[],[0,1,2,8],[],1512,[]⟩ 0 ⟨[(9,.v ah)],[],[0,1,2,8],[],1512,[]⟩ .z)) .z))
theorem uQ:aL 162 (uO n) :=cq aD func162 uP n
def ahH:cp xx:=⟨[.d (.st SI.strip),.d ah],[.d ah],λa=>wI a.1 a.2.1,none⟩
theorem ahI:aL 163 ahH :=cq aD func163 .z 0
def aoS:cp xx:=⟨[.d (.sl (.st SI.strip)),.d ah],[.d (.sl (.st SI.span))],λa=>WX n a.1 a.2.1,none⟩
def aoT:Hn SI:=(cy (.s (.s (.j ⟨[(25,.v .bool)],[],[0,5],[],1576,[]⟩ .z) .z) .z))
theorem aoU:aL 107 (aoS n) :=cq (au (uQ n) (au ahI aD)) func107 aoT n
def X4:cp xx:=⟨[.nil,.d ah],[.fresh (.st SI.span)],λa=>N8 a.1 a.2.1,none⟩
theorem X5:aL 212 X4 :=cq aD func212 .z 0
def QX:cp xx:=⟨[.d (.sl (.sl (.st SI.span)))],[.fresh (.st SI.span)],λa=>y7 n a.1,none⟩
def QY:Hn SI:=(cy (.s (.s .z (.b (.l ⟨[(3,.v ah),(11,.v ah)],[],[0,9,10],[],1320,[]⟩ 0 ⟨[(3,.v ah)],[],[0],[],1320,[]⟩ .z))) (.s .z (.s (.s .z (.b (.l ⟨[(6,.o 1704),(27,.v ah)],[(1704,.l (.st SI.span))],[25,26],[],1705,[]⟩ 2 ⟨[(6,.o 1704)],[(1704,.l (.st SI.span))],[],[],1705,[]⟩ .z))) .z))))
theorem QZ:aL 160 (QX n) :=cq (au X5 aD) func160 QY n
def vD:cp xx:=⟨[.d (.sl (.st SI.span)),.d ah,.eo [.st SI.span,ah] ah],[.d ah,.d .bool],λa=>jv n a.1 a.2.1 a.2.2.1,none⟩
def vE:Hn SI:=(gC (.s (.b (.l ⟨[(9,.v ah),(10,.v ah)],[],[0,1,2,8],[],1512,[]⟩ 0 ⟨[(9,.v ah)],[],[0,1,2,8],[],1512,[]⟩ .z)) .z))
theorem vF:aL 213 (vD n) :=cq aD func213 vE n
def X6:cp xx:=⟨[.d (.st SI.span),.d ah],[.d ah],λa=>lU a.1 a.2.1,none⟩
theorem X7:aL 214 X6 :=cq aD func214 .z 0
def afo:cp xx:=⟨[.d (.sl (.st SI.span)),.d ah],[.d .bool],λa=>Db n a.1 a.2.1,none⟩
theorem afp:aL 161 (afo n) :=cq (au (vF n) (au X7 aD)) func161 .z n
def ahJ:cp xx:=⟨[.d (.sl (.st SI.span)),.d (.sl (.st SI.span)),.eo [.bool,.bool] .bool],[.fresh (.st SI.span)],λa=>II n a.1 a.2.1 a.2.2.1,none⟩
def ahK:Hn SI:=(cy (.s (.s .z (.b (.l ⟨[(7,.o 1512),(19,.v ah)],[(1512,.l ah)],[0,1,2,17,18],[1320],1513,[(7,ah)]⟩ 0 ⟨[(7,.o 1512)],[(1512,.l ah)],[0,1,2],[],1513,[]⟩ .z))) (gC (.s (.s .z (.b (.l ⟨[(10,.o 1961),(11,.v ah)],[(1961,.l (.st SI.span))],[0,1,2,7],[1512],1962,[(10,.st SI.span)]⟩ 2 ⟨[(10,.o 1961)],[(1961,.l (.st SI.span))],[],[],1962,[]⟩ (.s .z (.s (.j ⟨[(10,.o 2218)],[(2218,.l (.st SI.span))],[0,1,2,7,11],[1512],2219,[]⟩ (.b (gC (.s (.j ⟨[(68,.v .bool)],[],[0,1,2,7,10,11,12,13],[1512,1961],3370,[]⟩ .z) .z)))) .z))))) .z))))
theorem ahL:aL 106 (ahJ n) :=cq (au (QZ n) (au (vV n) (au (vC n) (au (afp n) aD)))) func106 ahK n
def acC:cp xx:=⟨[.d (.sl aB),.d (.sl aB),.eo [.bool,.bool] .bool],[.d (.sl aB),.d ah],λa=>EG n a.1 a.2.1 a.2.2.1,none⟩
def acD:Hn SI:=(.s .z (.s (.s (.j ⟨[(20,.v .bool)],[],[0,1,2],[],1128,[]⟩ .z) .z) (.s (.f [6,7]) (.s .z (.s (.s .z (.b (.l ⟨[(33,.v ah)],[(1832,.l (.st SI.strip))],[2,8,9,10,31,32],[],2152,[]⟩ 0 ⟨[],[(1832,.l (.st SI.strip))],[10],[],2152,[]⟩ .z))) .z)))))
theorem acE:aL 65 (acC n) :=cq (au (pQ n) (au (Sm n) (au (aoU n) (au (ahL n) (au (XY n) (au OZ aD)))))) func65 acD n
def X8:cp xx:=⟨[.d .bool,.d .bool],[.d .bool],λa=>xS a.1 a.2.1,none⟩
theorem X9:aL 66 X8 :=cq aD func66 .z 0
def afq:cp xx:=⟨[.d (.sl aB),.d (.sl aB)],[.d (.sl aB),.d ah],λa=>Dc n a.1 a.2.1,none⟩
theorem Sr:aL 42 (afq n) :=cq (au (acE n) (au X9 aD)) func42 .z n
def akP:cp xx:=⟨[.d (.sl aB)],[.d ah],λa=>Kg n a.1,none⟩
def akQ:Hn SI:=(gC (.s (.s .z (.b (.l ⟨[(3,.v ah),(11,.v ah)],[],[9,10],[],1512,[]⟩ 0 ⟨[(3,.v ah)],[],[],[],1512,[]⟩ .z))) .z))
theorem Q0:aL 43 (akP n) :=cq (au (pQ n) (au zC aD)) func43 akQ n
def Ya:cp xx:=⟨[.d fM,.d ah],[.d aB,.d .bool],λa=>lV n a.1 a.2.1,none⟩
def Yb:Hn SI:=(cy (.s (.s (.j ⟨[(26,.v .bool)],[],[1,2,4,6],[1000,1064,1576],1768,[]⟩ .z) .z) .z))
theorem Jz:aL 23 (Ya n) :=cq (au (Sq n) (au ahG (au (Sr n) (au (Q0 n) (au zC aD))))) func23 Yb n
def akR:cp xx:=⟨[],[.d .bool],λ_=>none,some (@pbG xx SI.kw SI.ee (inferInstance:Inhabited aY) lz 27 25)⟩
theorem akS:aL 26 akR:=
 M2 (nu func26 (by kernel_rfl:Tryz.f26.body=some (Tryz.f26.body.getD .skip)) (by kernel_rfl)) (an5 (X:=xx) (ip:=SI.kw) (ik:=SI.ee) (hI:=(inferInstance:Inhabited aY)) Tryz.so26 rfl (nu func26 (by kernel_rfl:Tryz.f26.body=some (Tryz.f26.body.getD .skip)) (by kernel_rfl)) (nu func27 (by kernel_rfl:Tryz.f27.body=some (Tryz.f27.body.getD .skip)) (by kernel_rfl)) (fs:=(Tryz.prog.underlying 45).elim #[] λd=>match d with | .struct fs=>fs |_=>#[]) (by kernel_rfl) (by kernel_rfl) Pa (tm:=89) (kt:=96) (et:=3) (ei:=(RF tab 3).get (by kernel_rfl)) (by kernel_rfl) (by kernel_rfl) (abd (mk:=(2,.i64)) Pa (by kernel_rfl)) (λ r=>by cases r<;>rfl) lz
  (apv (ti:=3) aoa apB (λ x y=>aiO (X:=xx) (cs:=[.int .i64,.int .i64]) (r:= .int .i64) l7 (x,y,()) (aqB x y)) λa b c d e=>aiO (X:=xx) (cs:=[.sl ah]) (r:= .int .i64) (Fx 10) ([a,b,c,d,e],()) (aeo a b c d e)))
def Q5:cp xx:=⟨[.d (.sl fM)],[.fresh dR],λa=>kC n a.1,none⟩
def Q6:Hn SI:=(tR (.s (.s .z (.b (.l ⟨[(3,.o 1640),(17,.v ah)],[(1128,.m (.st SI.ee) ah),(1320,.m ah .bool),(1640,.l dR)],[4,5,15,16],[1192],1641,[(3,dR)]⟩ 0 ⟨[(3,.o 1640)],[(1128,.m (.st SI.ee) ah),(1640,.l dR)],[4],[1192],1641,[]⟩ (cy (.s (.j ⟨[(3,.o 1705)],[(1128,.m (.st SI.ee) ah),(1320,.m ah .bool),(1705,.l dR)],[4,5,15,16,17],[1192],1706,[]⟩ (.b (.s .z (.s (.s (.j ⟨[(34,.v .bool)],[],[3,4,5,7,15,16,17],[1128,1192,1320,1640,1833],1961,[]⟩ .z) .z) (cy (.b (.l ⟨[(3,.o 2281),(38,.v ah)],[(1128,.m (.st SI.ee) ah),(2281,.l dR)],[4,5,7,15,16,17],[1192,1320,1833],2282,[]⟩ 2 ⟨[(3,.o 2281)],[(1128,.m (.st SI.ee) ah),(2281,.l dR)],[4,5,15,16,17],[1192,1320],2282,[]⟩ (cy (.s (.j ⟨[(3,.o 2346)],[(1128,.m (.st SI.ee) ah),(2346,.l dR)],[4,5,7,15,16,17,38],[1192,1320,1833],2347,[]⟩ (.b (wA (.b (.l ⟨[(3,.o 3754),(56,.v ah)],[(3754,.l dR)],[4,5,7,8,15,16,17,38],[1128,1192,1320,1833],3755,[]⟩ 4 ⟨[(3,.o 3754)],[(3754,.l dR)],[4,5,7,15,16,17,38],[1128,1192,1320,1833],3755,[]⟩ .z))))) .z))))))))) .z))))) .z))
theorem vG:aL 8 (Q5 n) :=cq (au (Jz n) (au zC (au akS aD))) func8 Q6 n
def TJ:cp xx:=⟨[.d fM,.d dR],[.d (.st SI.ej),.d .bool],λa=>oL n a.1 a.2.1,none⟩
def TK:Hn SI:=(cy (.s (.s (.j ⟨[(54,.v .bool)],[],[3,4,6],[1064,1128,1704],1896,[]⟩ .z) .z) (.s .z (.s (.j ⟨[],[(2408,.c 9 [[.v ah,.v ah,.v ah,.v ah,.v ah,.v ah,.v ah,.v ah,.v .bool]])],[3,4,8],[1064,1128],2536,[]⟩ .z) .z))))
theorem xA:aL 21 (TJ n) :=cq (au (Jz n) aD) func21 TK n
def ahM:cp xx:=⟨[.d fM,.d dR],[.d (.st SI.ej)],λa=>IJ n a.1 a.2.1,none⟩
theorem Yc:aL 38 (ahM n) :=cq (au (xA n) aD) func38 .z n
def TM:cp xx:=⟨[.d (.sl aB)],[.fresh aB],λa=>Bp a.1,none⟩
theorem TN:aL 180 TM :=cq aD func180 .z 0
def Yd:cp xx:=⟨[.d (.sl ah)],[.fresh ah],λa=>EI a.1,none⟩
theorem Ye:aL 181 Yd :=cq aD func181 .z 0
def ahN:cp xx:=⟨[.d fM],[.d fM],λa=>Ob a.1,none⟩
theorem ahO:aL 126 ahN :=cq (au TN (au Ye aD)) func126 .z 0
def akT:cp xx:=⟨[.d (.sl fM),.d ah],[.d fM,.d .bool],λa=>Oc n a.1 a.2.1,none⟩
def akU:Hn SI:=(.s .z (.s (.s .z (.b (.lx ⟨[(10,.v ah)],[],[1,4,8,9],[1000],1320,[]⟩ 0 ⟨[],[],[4],[1000],1320,[]⟩ .z))) .z))
theorem akV:aL 87 (akT n) :=cq (au ahO aD) func87 akU n
def O5:cp xx:=⟨[.d (.st SI.ej),.d ah,.d ah],[.fresh aI],λa=>oh n a.1 a.2.1 a.2.2.1,none⟩
def O6:Hn SI:=(cy (.s (.s .z (.b (.l ⟨[(7,.o 1448),(13,.v ah)],[(1448,.l aI)],[1,2,11,12],[],1449,[(7,aI)]⟩ 0 ⟨[(7,.o 1448)],[(1448,.l aI)],[],[],1449,[]⟩ (cy (.s (.j ⟨[(7,.o 1513)],[(1513,.l aI)],[1,2,11,12,13],[],1514,[]⟩ (.b (.s .z (.s (.j ⟨[(25,.v .bool)],[],[1,2,7,9,11,12,13],[1448,1705],1897,[]⟩ .z) .z)))) .z))))) .z))
theorem AZ:aL 134 (O5 n) :=cq aD func134 O6 n
def Zd:cp xx:=⟨[.d (.st SI.ej)],[.fresh aI],λa=>wL n a.1,none⟩
theorem LC:aL 128 (Zd n) :=cq (au (AZ n) aD) func128 .z n
def Gu:cp xx:=⟨[.d aI],[.d .bool],λa=>gq a.1,none⟩
def Gv:Hn SI:=(cy (.s (.s (.j ⟨[(26,.v .bool)],[],[1],[1000],1384,[]⟩ .z) .z) (.s (.s (.j ⟨[(34,.v .bool)],[],[1],[1000],1384,[]⟩ .z) .z) .z)))
theorem kN:aL 135 Gu :=cq (au oP aD) func135 Gv 0
def Yf:cp xx:=⟨[.d (.st SI.E3),.d (.st SI.E3)],[.d .bool],λa=>xU a.1 a.2.1,none⟩
theorem Yg:aL 183 Yf :=cq (au BQ aD) func183 .z 0
def O7:cp xx:=⟨[.d aI,.ref aI],[.d .bool],λa=>rD a.1 a.2.1,none⟩
theorem O8:aL 182 O7 :=cq (au Yg aD) func182 .z 0
def Gw:cp xx:=⟨[.d (.sl aI),.eo [aI] .bool],[.d ah],λa=>qC n a.1 a.2.1,none⟩
def Gx:Hn SI:=(.s .z (.s (.s .z (.b (.lx ⟨[(8,.v ah)],[],[0,1,7],[],1256,[]⟩ 0 ⟨[],[],[],[],1256,[]⟩ .z))) .z))
theorem Gy:aL 150 (Gw n) :=cq aD func150 Gx n
def BV:cp xx:=⟨[.d (.sl aI),.eo [aI] .bool],[.d .bool],λa=>fP n a.1 a.2.1,none⟩
theorem qZ:aL 98 (BV n) :=cq (au (Gy n) aD) func98 .z n
def acF:cp xx:=⟨[.d (.int .u8)],[.d .bool],λa=>EL a.1,none⟩
theorem O9:aL 255 acF :=cq aD func255 .z 0
def ahP:cp xx:=⟨[.d .str,.eo [.int .u8] .bool],[.d ah],λa=>Od n a.1 a.2.1,none⟩
def ahQ:Hn SI:=(cy (.s (.b (.l ⟨[(5,.v ah)],[],[0,1],[],1128,[]⟩ 0 ⟨[(5,.v ah)],[],[],[],1128,[]⟩ (.s (.s (.j ⟨[(16,.v .bool)],[],[0,1,5],[],1128,[]⟩ .z) .z) .z))) .z))
theorem ahR:aL 256 (ahP n) :=cq aD func256 ahQ n
def afr:cp xx:=⟨[.d (.int .u8)],[.d .bool],λa=>Ql a.1,none⟩
theorem afs:aL 258 afr :=cq aD func258 .z 0
def Ze:cp xx:=⟨[.d (.int .u8)],[.d .bool],λa=>Ao a.1,none⟩
theorem Zf:aL 257 Ze :=cq (au O9 (au afs aD)) func257 .z 0
def ahS:cp xx:=⟨[.d .str],[.d .bool],λa=>Oe n a.1,none⟩
def ahT:Hn SI:=(.s .z (.s (.s (.j ⟨[(15,.v .bool)],[],[0],[],1064,[]⟩ .z) .z) .z))
theorem ahU:aL 226 (ahS n) :=cq (au O9 (au (ahR n) (au Zf aD))) func226 ahT n
def Mq:cp xx:=⟨[.d .str,.d .str],[.d .bool],λa=>strings_Contains a.1 a.2.1,none⟩
theorem Mr:aL 227 Mq:=by
 have hcall:eZ Tryz.prog 227:=⟨_,func227,by kernel_rfl,by kernel_rfl⟩;refine z7 hcall (λ a r h=>?_) rfl;obtain⟨s,b,⟨⟩⟩:=a;have h':strings_Contains s b=some r:=h;unfold strings_Contains at h';cases hb:Nat.ble s.size 4000000 with
 |false=>rw[hb]at h';cases h'
 |true=>
  rw[hb]at h';have h'':some (Lib.contains s.data.toList b.data.toList)=some r:=h';injection h'' with e;subst e;have hw:=Nat.le_of_ble_eq_true hb;exact abQ (g:=0) rfl hcall λm w hm=>aer s b m w (by omega) hm
def Zg:cp xx:=⟨[.d .str],[.d .bool],λa=>wM n a.1,none⟩
theorem Zh:aL 184 (Zg n) :=cq (au (ahU n) (au Mr aD)) func184 .z n
def Yh:cp xx:=⟨[.d (.st SI.ej)],[.d .bool],λa=>xV n a.1,none⟩
def Yi:Hn SI:=(cy (.s (.s (.j ⟨[(42,.v .bool)],[],[1,3],[1000,1192],1320,[]⟩ .z) .z) (.s (.s .z (.b (.lx ⟨[(45,.v ah)],[],[1,3,43,44],[1000,1192],1512,[]⟩ 0 ⟨[],[],[1],[1000],1512,[]⟩ (cy (.s (.b (.s .z (.s (.j ⟨[(59,.v .bool)],[],[1,3,43,44,45],[1000,1192],1960,[]⟩ .z) .z))) .z))))) (.s (.s .z (.b (.lx ⟨[(64,.v ah)],[],[62,63],[],1768,[]⟩ 2 ⟨[],[],[],[],1768,[]⟩ (cy (.s (.b (cy (.s (.s .z (.b (.lx ⟨[(72,.v ah)],[(2088,.m .str .bool)],[7,8,62,63,64,70,71],[1960],2472,[]⟩ 4 ⟨[],[],[7,62,63,64],[1960],2472,[]⟩ (cy (.s (.b (.s .z (.s (.s (.j ⟨[(95,.v .bool)],[],[7,8,10,62,63,64,70,71,72],[1960,2088,2664],2792,[]⟩ .z) .z) .z))) .z))))) .z))) .z))))) .z))))
theorem Yj:aL 127 (Yh n) :=cq (au (LC n) (au kN (au (qZ n) (au O8 (au (Zh n) aD))))) func127 Yi n
def Ms:cp xx:=⟨[.d bR,.ref (.st SI.Entry)],[.d .bool],λa=>vk a.1 a.2.1,none⟩
theorem Mt:aL 130 Ms :=cq aD func130 .z 0
def Mv:cp xx:=⟨[.d (.sl bR),.eo [bR] .bool],[.d ah],λa=>vo n a.1 a.2.1,none⟩
def Mw:Hn SI:=(.s .z (.s (.s .z (.b (.lx ⟨[(8,.v ah)],[],[0,1,7],[],1256,[]⟩ 0 ⟨[],[],[],[],1256,[]⟩ .z))) .z))
theorem Mx:aL 185 (Mv n) :=cq aD func185 Mw n
def Gz:cp xx:=⟨[.d (.sl bR),.eo [bR] .bool],[.d .bool],λa=>mQ n a.1 a.2.1,none⟩
theorem GA:aL 129 (Gz n) :=cq (au (Mx n) aD) func129 .z n
def TP:cp xx:=⟨[.d iQ,.d fM,.d (.st SI.ej)],[.d .bool],λa=>oM n a.1 a.2.1 a.2.2.1,none⟩
def TQ:Hn SI:=(.s .z (.s (.s (.j ⟨[(30,.v .bool)],[],[3,4,5],[1000,1064,1128],1256,[]⟩ .z) .z) (.s (.s .z (.b (.lx ⟨[(34,.v ah)],[],[3,4,5,32,33],[1000,1064,1128,1320],1512,[]⟩ 0 ⟨[],[],[3,5],[1000,1128],1512,[]⟩ (cy (.s (.b (cy (.s (.j ⟨[(58,.v .bool)],[],[3,4,5,32,33,34],[1000,1064,1128,1320],2600,[]⟩ .z) .z))) .z))))) (.s (.s .z (.b (.lx ⟨[(63,.v ah)],[],[3,61,62],[1000],1768,[]⟩ 2 ⟨[],[],[],[],1768,[]⟩ (cy (.s (.b (cy (.b (.lx ⟨[(70,.v ah)],[],[3,61,62,63,68,69],[1000],2344,[]⟩ 4 ⟨[],[],[3,61,62,63],[1000],2344,[]⟩ .z)))) .z))))) .z))))
theorem TS:aL 88 (TP n) :=cq (au (Yj n) (au (pQ n) (au (LC n) (au (Sr n) (au (Q0 n) (au zC (au (GA n) (au Mt aD)))))))) func88 TQ n
def Q7:cp xx:=⟨[.d (.st SI.ej)],[.fresh aI],λa=>tZ n a.1,none⟩
def Q8:Hn SI:=(cy (.s (.s .z (.b (.l ⟨[(3,.o 1448),(9,.v ah)],[(1448,.l aI)],[7,8],[],1449,[(3,aI)]⟩ 0 ⟨[(3,.o 1448)],[(1448,.l aI)],[],[],1449,[]⟩ .z))) .z))
theorem Q9:aL 89 (Q7 n) :=cq aD func89 Q8 n
def Zi:cp xx:=⟨[.d (.st SI.kf),.d (.st SI.ej)],[.d (.st SI.ky),.d ah],λa=>Ap n a.1 a.2.1,none⟩
theorem Zj:aL 54 (Zi n) :=cq (au (akV n) (au (TS n) (au (Q9 n) (au (Sn n) aD)))) func54 .z n
def MB:cp xx:=⟨[.mut aB,.eo [aB,aB] ah],[.mu aB],λa=>vv n a.1 a.2.1,none⟩
theorem MC:aL 190 (MB n):=by
 have hcall:eZ Tryz.prog 190:=⟨_,func190,by kernel_rfl,by kernel_rfl⟩;refine z7 hcall (λ a r h=>?_) rfl;obtain⟨l,φ,⟨⟩⟩:=a;refine aax (X:=xx) (i:=SI.mC) (hI:=(inferInstance:Inhabited aA)) Tryz.so190 rfl hcall Tryz.underlying92 (by kernel_rfl) (λ x t ht=>?_) h;cases x;have ht:t∈[_,_,_,_]:=ht;simp only[aQ,gG,or_false]at ht;rcases ht with rfl |rfl |rfl |rfl<;>exact⟨_,rfl,trivial⟩
def Du:cp xx:=⟨[.d aB,.d aB],[.d ah],λa=>iK a.1 a.2.1,none⟩
theorem Dv:aL 191 Du :=cq (au l7 aD) func191 .z 0
def Pb:cp xx:=⟨[.d aI],[.d ah],λa=>kZ a.1,none⟩
def Pd:Hn SI:=(.s .z (.s (.s (.j ⟨[(9,.v .bool)],[],[1],[1000],1128,[]⟩ .z) .z) .z))
theorem A7:aL 195 Pb :=cq (au kN aD) func195 Pd 0
def TU:cp xx:=⟨[.d aI],[.d ah],λa=>oN a.1,none⟩
theorem F4:aL 193 TU :=cq (au kN (au zC (au A7 aD))) func193 .z 0
def BX:cp xx:=⟨[.d aI],[.d ah],λa=>nP a.1,none⟩
theorem BZ:aL 196 BX :=cq aD func196 .z 0
def Dw:cp xx:=⟨[.d aI],[.d ah],λa=>oV a.1,none⟩
theorem Dx:aL 197 Dw :=cq aD func197 .z 0
def TW:cp xx:=⟨[.d aB,.d ah],[.d aB,.d .bool],λa=>Bq a.1 a.2.1,none⟩
theorem TY:aL 235 TW :=cq (au oP aD) func235 .z 0
def Ra:cp xx:=⟨[.d (.st SI.Entry),.ref (.st SI.m9),.ref ah],[.d .bool],λa=>kD a.1 a.2.1 a.2.2.1,none⟩
theorem Rb:aL 268 Ra :=cq aD func268 .z 0
def JA:cp xx:=⟨[.d (.sl (.st SI.Entry)),.eo [.st SI.Entry] .bool],[.d ah],λa=>kE n a.1 a.2.1,none⟩
def JB:Hn SI:=(.s .z (.s (.s .z (.b (.lx ⟨[(8,.v ah)],[],[0,1,7],[],1256,[]⟩ 0 ⟨[],[],[],[],1256,[]⟩ .z))) .z))
theorem wW:aL 231 (JA n) :=cq aD func231 JB n
def Zk:cp xx:=⟨[.d iQ,.d ah],[.d ah],λa=>Aq n a.1 a.2.1,none⟩
def Zl:Hn SI:=(cy (.s (.s .z (.b (.lx ⟨[(14,.v ah)],[],[3,5,12,13],[1064,1256],1640,[]⟩ 0 ⟨[],[],[],[],1640,[]⟩ (cy (.s (.b (gC (.s (.j ⟨[(8,.v ah)],[],[],[],2344,[]⟩ .z) .z))) .z))))) .z))
theorem Zm:aL 236 (Zk n) :=cq (au (wW n) (au Rb aD)) func236 Zl n
def Pe:cp xx:=⟨[.d iQ,.d aI],[.d ah],λa=>lg n a.1 a.2.1,none⟩
def Pf:Hn SI:=(cy (.s (.s (.j ⟨[(20,.v .bool)],[],[5,6],[],1704,[]⟩ .z) .z) .z))
theorem Pg:aL 200 (Pe n) :=cq (au (Zm n) (au F4 aD)) func200 Pf n
def GD:dg xx:=⟨[.p 0],[(0,ft),(1,.l aI)],[.v ah],[(0,ft),(1,.l aI)],λv=>mR n v.1 v.2.1 v.2.2.1 v.2.2.2.1 v.2.2.2.2.1 v.2.2.2.2.2.1 v.2.2.2.2.2.2.1 v.2.2.2.2.2.2.2.1 v.2.2.2.2.2.2.2.2.1 v.2.2.2.2.2.2.2.2.2⟩
def GH:cp xx:=⟨[],[.d .bool],λ_=>none,some (GD n)⟩
theorem GI:aL 136 (GH n) :=oE (au (Q0 n) aD) func136 .z n (by kernel_rfl) λ_=>by kernel_rfl
def Dy:dg xx:=⟨[.p 0],[(0,ft),(1,.l aI)],[.v ah],[(0,ft),(1,.l aI)],λv=>iL n v.1 v.2.1 v.2.2.1 v.2.2.2.1 v.2.2.2.2.1 v.2.2.2.2.2.1 v.2.2.2.2.2.2.1 v.2.2.2.2.2.2.2.1 v.2.2.2.2.2.2.2.2.1 v.2.2.2.2.2.2.2.2.2⟩
def Dz:cp xx:=⟨[],[.d .bool],λ_=>none,some (Dy n)⟩
def DF:Hn SI:=(gC (.s (.s .z (.b (.l ⟨[(3,.o 1960),(23,.v ah)],[(1448,.l aB),(1960,.l ah)],[4,21,22],[0,1],1961,[(3,ah)]⟩ 0 ⟨[(3,.o 1960)],[(1448,.l aB),(1960,.l ah)],[4],[0,1],1961,[]⟩ .z))) (gC (.s (.s .z (.b (.l ⟨[(7,.v ah),(56,.v ah)],[],[3,4,55],[0,1,1448,1960],2601,[]⟩ 2 ⟨[(7,.v ah)],[],[],[0,1],2601,[]⟩ (cy (.s (.b (gC (.b (.l ⟨[(7,.v ah),(9,.v ah),(61,.v ah)],[],[3,4,8,55,56,59,60],[0,1,1448,1960],3049,[]⟩ 4 ⟨[(7,.v ah)],[],[3,4,55,56],[0,1,1448,1960],3049,[]⟩ (cy (.s (.j ⟨[(7,.v ah),(9,.v ah)],[],[3,4,8,55,56,59,60,61],[0,1,1448,1960],3113,[]⟩ (.b (.s .z (.s (.j ⟨[(86,.v .bool)],[],[3,4,7,8,9,11,55,56,59,60,61],[0,1,1448,1960,3241],3369,[]⟩ .z) .z)))) .z)))))) .z))))) .z))))
theorem DI:aL 137 (Dz n) :=oE (au (MC n) (au Dv (au (vV n) aD))) func137 DF n (by kernel_rfl) λ_=>by kernel_rfl
def GJ:dg xx:=⟨[.p 0,(.f 193 [] [])],[(0,ft),(1,.l aI)],[.v ah],[(0,ft),(1,.l aI)],λv=>qD n v.1 v.2.1 v.2.2.1 v.2.2.2.1 v.2.2.2.2.1 v.2.2.2.2.2.1 v.2.2.2.2.2.2.1 v.2.2.2.2.2.2.2.1 v.2.2.2.2.2.2.2.2.1 v.2.2.2.2.2.2.2.2.2⟩
def GK:cp xx:=⟨[],[.d .bool],λ_=>none,some (GJ n)⟩
def GL:Hn SI:=(cy (.s (.s .z (.b (.l ⟨[(5,.v ah),(13,.v ah)],[],[1,11,12],[0,1],1512,[]⟩ 0 ⟨[(5,.v ah)],[],[],[0,1],1512,[]⟩ .z))) .z))
theorem GN:aL 192 (GK n) :=oE (au F4 aD) func192 GL n (by kernel_rfl) λ_=>by kernel_rfl
def DJ:dg xx:=⟨[.p 0],[(0,ft),(1,.l aI)],[.v ah],[(0,ft),(1,.l aI)],λv=>kK n v.1 v.2.1 v.2.2.1 v.2.2.2.1 v.2.2.2.2.1 v.2.2.2.2.2.1 v.2.2.2.2.2.2.1 v.2.2.2.2.2.2.2.1 v.2.2.2.2.2.2.2.2.1 v.2.2.2.2.2.2.2.2.2⟩
def DK:cp xx:=⟨[],[.d .bool],λ_=>none,some (DJ n)⟩
theorem DL:aL 138 (DK n) :=oE (au (GN n) aD) func138 .z n (by kernel_rfl) λ_=>by kernel_rfl
def zD:dg xx:=⟨[.p 0,(.f 195 [] [])],[(0,ft),(1,.l aI)],[.v ah],[(0,ft),(1,.l aI)],λv=>mF n v.1 v.2.1 v.2.2.1 v.2.2.2.1 v.2.2.2.2.1 v.2.2.2.2.2.1 v.2.2.2.2.2.2.1 v.2.2.2.2.2.2.2.1 v.2.2.2.2.2.2.2.2.1 v.2.2.2.2.2.2.2.2.2⟩
def zF:cp xx:=⟨[],[.d .bool],λ_=>none,some (zD n)⟩
def zG:Hn SI:=(cy (.s (.s .z (.b (.l ⟨[(5,.v ah),(13,.v ah)],[],[1,11,12],[0,1],1512,[]⟩ 0 ⟨[(5,.v ah)],[],[],[0,1],1512,[]⟩ .z))) .z))
theorem zH:aL 194 (zF n) :=oE (au A7 aD) func194 zG n (by kernel_rfl) λ_=>by kernel_rfl
def Ca:dg xx:=⟨[.p 0],[(0,ft),(1,.l aI)],[.v ah],[(0,ft),(1,.l aI)],λv=>jL n v.1 v.2.1 v.2.2.1 v.2.2.2.1 v.2.2.2.2.1 v.2.2.2.2.2.1 v.2.2.2.2.2.2.1 v.2.2.2.2.2.2.2.1 v.2.2.2.2.2.2.2.2.1 v.2.2.2.2.2.2.2.2.2⟩
def Cb:cp xx:=⟨[],[.d .bool],λ_=>none,some (Ca n)⟩
theorem Cc:aL 139 (Cb n) :=oE (au (zH n) aD) func139 .z n (by kernel_rfl) λ_=>by kernel_rfl
def zI:dg xx:=⟨[.p 0,(.f 196 [] [])],[(0,ft),(1,.l aI)],[.v ah],[(0,ft),(1,.l aI)],λv=>mG n v.1 v.2.1 v.2.2.1 v.2.2.2.1 v.2.2.2.2.1 v.2.2.2.2.2.1 v.2.2.2.2.2.2.1 v.2.2.2.2.2.2.2.1 v.2.2.2.2.2.2.2.2.1 v.2.2.2.2.2.2.2.2.2⟩
def zJ:cp xx:=⟨[],[.d .bool],λ_=>none,some (zI n)⟩
def zK:Hn SI:=(cy (.s (.s .z (.b (.l ⟨[(5,.v ah),(13,.v ah)],[],[1,11,12],[0,1],1512,[]⟩ 0 ⟨[(5,.v ah)],[],[],[0,1],1512,[]⟩ .z))) .z))
theorem zL:aL 194 (zJ n) :=oE (au BZ aD) func194 zK n (by kernel_rfl) λ_=>by kernel_rfl
end
end Go.Proofs
