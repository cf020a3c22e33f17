import Derived.Test.YtdgllbifeebppaaGreatS2
namespace Go.Proofs
open Go.Gb Go.RowKit
abbrev fp:OP SI:=.c 10 [[.v (.sl bE),.v (.sl bg),.v (.sl bH),.v (.sl bn),.v (.sl bL),.v (.sl bI),.v (.sl aZ),.v ah,.v (.sl ay),.o 1]]
abbrev qr:OP SI:=.c 1 [[.o 1]]
abbrev rK:OP SI:=.c 2 [[.v (.sl bE),(.v (.sl (.sl ah)))]]
abbrev tR:OP SI:=.c 10 [[.v (.sl bE),.v (.sl bg),.v (.sl bH),.v (.sl bn),.v (.sl bL),.v (.sl bI),.v (.sl aZ),.v ah,.v (.sl ay),.o 2]]
abbrev vd:OP SI:=.c 2 [[.v ah,.v ah]]
abbrev u9:OP SI:=.c 4 [[.v ah,.v ah,.v ah,.v ah]]
abbrev wv:OP SI:=.c 1 [[.o 1384]]
abbrev Hd:OP SI:=.c 9 [[.v ah,.v ah,.o 2473,.v ah,.v ah,.v ah,.v ah,.v ah,.v ah]]
abbrev cy(a:Hn SI):Hn SI:=.s .z (.s .z a)
abbrev gp(a:Hn SI):Hn SI:=.s .z (.s .z (.s .z a))
abbrev sR(a:Hn SI):Hn SI:=.s .z (.s .z (.s .z (.s .z a)))
abbrev wx(a:Hn SI):Hn SI:=.s .z (.s .z (.s .z (.s .z (.s .z a))))
abbrev Hi(a:Hn SI):Hn SI:=.s .z (.s .z (.s .z (.s .z (.s .z (.s .z (.s .z (.s .z (.s .z (.s .z a)))))))))
open Tryz
noncomputable section
variable (n:Nat)
def acu:co xx:=⟨[.d ah],[.d (.st SI.Expr)],λa=>uX a.1,none⟩
theorem acv:aJ 13 acu :=cq aB func13 .z 0
def ahq:co xx:=⟨[.d bn],[.d (.st SI.il)],λa=>yP a.1,none⟩
theorem ahr:aJ 12 ahq :=cq aB func12 .z 0
def OE:co xx:=⟨[],[.fresh .str],λ_=>wW,none⟩
theorem OG:aJ 43 OE :=cq aB func43 .z 0
mutual
theorem aoQ:∀g:cu,(toE g).wt<=4000000->p0 (toE g) (qY g)
 |⟨op,n,s,key,args⟩,h=>by
  simp only[toE,ET.wt]at h;have:=ET.qS (Im args);simp only[toE,qY,p0];exact⟨n,key,_,rfl,by unfold maxLen;omega,by omega,XC args (by omega)⟩
theorem XC:∀l:List cu,ET.tt (Im l)<=4000000->k7 (Im l) (sW l)
 |[],_=>by simp only[Im,sW,k7]
 |x::xs,h=>by
  simp only[Im,ET.tt]at h;simp only[Im,sW,k7];exact⟨_,_,rfl,aoQ x (by omega),XC xs (by omega)⟩
end
def OH:co xx:=⟨[],[.d .bool],λ_=>none,some ⟨[.v (.sl bE)],[],[.p 1000],[(1000,rK)],λv=>kN v⟩⟩
theorem afb:∀l:U eu,rk (l.map toD)<=4000000->k8 (l.map toD) (l.map Bj)
 |[],_=>by simp only[List.map_nil,k8]
 |x::xs,h=>by
  simp only[aF,rk,List.foldr_cons,toD,ET.wt]at h;have:=ET.qS (Im x.eK);simp only[aF,k8];refine⟨_,_,rfl,⟨_,_,_,_,_,rfl,by simp only[toD];unfold maxLen;omega,?_⟩,afb xs (by simp only[rk];omega)⟩;simp only[toD,p0];exact⟨_,_,_,rfl,by unfold maxLen;omega,by omega,by rw[<- sZ];exact XC _ (by omega)⟩
theorem OI:aJ 44 OH:=by
 have hcall:eT Tryz.prog 44:=⟨_,func44,by kernel_rfl,by kernel_rfl⟩;refine MY hcall ?_;intro v r hr;have h':kN v=some r:=hr;unfold kN at h';cases hb:Nat.ble (rk (List.map toD v)) 4000000 with
 |false=>rw[hb]at h';cases h'
 |true=>
  rw[hb]at h';have h'':some (v,oJ (List.map toD v))=some r:=h';injection h'' with e;subst e;have hw:=Nat.le_of_ble_eq_true hb;have hlen:=Uv (List.map toD v);have hn:∀d∈List.map toD v,d.2.names.length<=4000000:=λd hd=>by have h1:=Uw hd;have h2:=ET.pc d.2;omega
  exact abK (TL:=71) (TG:=170) (TI:=3) hcall (afb v hw) λsv w hS=>an5 (List.map toD v) (by omega) (λ d hd=>Nat.le_trans (hn d hd) (by omega))
   (λ d hd v0 v1 v2 v3 v4 w hE=>callsIn_wide.1 (alX 0 d.2 v0 v1 v2 v3 v4 w hE (Nat.le_trans (hn d hd) (by omega)))) sv w hS
def SY:co xx:=⟨[.d (.sl ah),.d ah],[.fresh ah],λa=>qG a.1 a.2.1,none⟩
theorem S9:aJ 174 SY:=by
 have hcall:eT Tryz.prog 174:=⟨_,func174,by kernel_rfl,by kernel_rfl⟩;refine An hcall (λ a r h=>?_) rfl;obtain⟨l,c,⟨⟩⟩:=a;have h':qG l c=some r:=h
 match l,h' with
 |[x],h'=>
  simp only[qG]at h';cases hb:(decide (0<=c)&&decide (c<=1000000000000))with
  |false=>rw[hb]at h';cases h'
  |true=>
   rw[hb]at h';have h'':some (List.replicate c.toNat x)=some r:=h';injection h'' with e;subst e;simp only[aL,aV]at hb;obtain⟨h1,h2⟩:=hb;obtain⟨k,hk⟩:=Int.eq_ofNat_of_zero_le h1;subst hk;exact agK (E:=3) (c:=k) hcall λa cap w hx=>aj3 x k (Int.ofNat_le.1 (by simpa using h2)) a cap w hx
def XD:co xx:=⟨[.d (.sl ah),.d ah],[.d ah],λa=>Ey n a.1 a.2.1,none⟩
def XE:Hn SI:=(.s .z (.s (.s .z (.b (.lx ⟨[(8,.v ah)],[],[0,1,7],[],1256,[]⟩ 0 ⟨[],[],[],[],1256,[]⟩ .z))) .z))
theorem XF:aJ 221 (XD n) :=cq aB func221 XE n
def OJ:co xx:=⟨[.d (.sl ah),.d ah],[.d .bool],λa=>qZ n a.1 a.2.1,none⟩
theorem OL:aJ 175 (OJ n) :=cq (au (XF n) aB) func175 .z n
def Bu:co xx:=⟨[.ref (.st SI.graph),.d ah],[.fresh ah],λa=>jA n a.1 a.2.1,none⟩
def Bv:Hn SI:=(sR (.s (.b (.l ⟨[(6,.od 2024)],[(1448,.l ah),(2024,.l ah)],[0,5],[],2025,[]⟩ 0 ⟨[],[(1448,.l ah)],[5],[],2024,[]⟩ (.s .z (.b (gp (.b (.l ⟨[(6,.od 3049),(35,.v ah)],[(1448,.l ah),(3049,.l ah)],[0,5,7,33,34],[],3050,[]⟩ 2 ⟨[(6,.od 3049)],[(1448,.l ah),(3049,.l ah)],[0,5],[],3050,[]⟩ (cy (.s (.j ⟨[(6,.od 3114)],[(1448,.l ah),(3114,.l ah)],[0,5,7,33,34,35],[],3115,[]⟩ (.b (.s .z (.s (.j ⟨[(49,.v .bool)],[],[0,5,6,7,8,33,34,35],[1448,3049],3434,[]⟩ .z) .z)))) .z))))))))) .z))
theorem Bw:aJ 115 (Bu n) :=cq (au S9 (au (OL n) aB)) func115 Bv n
def LU:co xx:=⟨[.d .str],[.d .bool],λa=>cmp_isNaN_string a.1,none⟩
theorem LV:aJ 176 LU :=cq aB func176 .z 0
def I8:co xx:=⟨[.d .str,.d .str],[.d ah],λa=>nG a.1 a.2.1,none⟩
theorem I9:aJ 116 I8 :=cq (au LV aB) func116 .z 0
def Kr:co xx:=⟨[.d (.sl .str),.d (.sl .str)],[.d ah],λa=>lD n a.1 a.2.1,none⟩
def Kt:Hn SI:=(.s .z (.s (.s .z (.b (.lx ⟨[(11,.v ah)],[],[0,1,9,10],[],1256,[]⟩ 0 ⟨[],[],[0,1],[],1256,[]⟩ .z))) .z))
theorem Ku:aJ 72 (Kr n) :=cq (au I9 aB) func72 Kt n
def zm:dg xx:=⟨[.v ah,.p 0],[(0,qr),(1,.l .bool)],[.v .bool],[(0,qr),(1,.l .bool)],λv=>mq v.1 v.2⟩
def zn:co xx:=⟨[],[.d .bool],λ_=>none,some (zm)⟩
theorem zo:aJ 74 zn :=oA aB func74 .z 0 (by kernel_rfl) λ_=>by kernel_rfl
def F9:dg xx:=⟨[.v (.sl ah),(.f 74 [] [.p 0])],[(0,qr),(1,.l .bool)],[.v ah],[(0,qr),(1,.l .bool)],λv=>mM n v.1 v.2⟩
def Ga:co xx:=⟨[],[.d .bool],λ_=>none,some (F9 n)⟩
def Gc:Hn SI:=(.s .z (.s (.s .z (.b (.lx ⟨[(8,.v ah)],[(0,qr),(1,.l .bool)],[0,1,7],[],1256,[]⟩ 0 ⟨[],[(0,qr),(1,.l .bool)],[],[],1256,[]⟩ .z))) .z))
theorem Gd:aJ 117 (Ga n) :=oA (au zo aB) func117 Gc n (by kernel_rfl) λ_=>by kernel_rfl
def Bz:dg xx:=⟨[.v (.sl ah),(.f 74 [] [.p 0])],[(0,qr),(1,.l .bool)],[.v .bool],[(0,qr),(1,.l .bool)],λv=>gZ n v.1 v.2⟩
def BB:co xx:=⟨[],[.d .bool],λ_=>none,some (Bz n)⟩
theorem BD:aJ 73 (BB n) :=oA (au (Gd n) aB) func73 .z n (by kernel_rfl) λ_=>by kernel_rfl
def Ja:co xx:=⟨[.ref (.st SI.graph)],[.fresh ah],λa=>nH n a.1,none⟩
def Jb:Hn SI:=(gp (.s (.s .z (.b (.l ⟨[(4,.o 2024),(20,.v ah)],[(1448,wv),(2024,.l ah),(1384,.l .bool)],[0,3,19],[],2025,[(4,ah)]⟩ 0 ⟨[(4,.o 2024)],[(2024,.l ah)],[],[],2025,[]⟩ (cy (.s (.b (.s .z (.s (.s .z (.b (.l ⟨[(5,.v ah),(27,.v ah)],[(1448,wv),(1384,.l .bool)],[0,3,4,19,20,25,26],[2024],2537,[]⟩ 2 ⟨[(5,.v ah)],[(1448,wv),(1384,.l .bool)],[0,3,4,19,20],[2024],2537,[]⟩ (cy (.s (.j ⟨[(5,.v ah)],[(1448,wv),(1384,.l .bool)],[0,3,4,19,20,25,26,27],[2024],2601,[]⟩ (.b (cy (.s (.j ⟨[(66,.v .bool)],[],[0,3,4,5,6,19,20,25,26,27],[1384,1448,2024],3177,[]⟩ .z) .z)))) .z))))) .z))) .z))))) .z))
theorem Jc:aJ 46 (Ja n) :=cq (au (BD n) aB) func46 Jb n
def BG:dg xx:=⟨[.p 0,.v ah],[(0,rK)],[.oz 1000],[(0,rK),(1000,.l .str)],λv=>jC n v.1 v.2.1 v.2.2⟩
def BH:co xx:=⟨[],[.d .bool],λ_=>none,some (BG n)⟩
def BJ:Hn SI:=(sR (.b (.lx ⟨[(6,.o 1512),(7,.v ah)],[(1512,.l .str)],[0,1,5],[0,1192],1513,[(6,.str)]⟩ 999999 ⟨[],[],[],[],1512,[]⟩ (.b (cy (.s (.s .z (.b (.l ⟨[(8,.v ah),(34,.v ah)],[],[0,1,5,6,32,33],[0,1192,2153],2921,[]⟩ 2 ⟨[(8,.v ah)],[],[0,1,5,6],[0,1192,2153],2921,[]⟩ (cy (.s (.j ⟨[(8,.v ah)],[],[0,1,5,6,32,33,34],[0,1192,2153],2985,[]⟩ (.b (.s .z (.s (.j ⟨[(57,.v .bool)],[],[0,1,5,6,8,10,32,33,34],[0,1192,2153],3177,[]⟩ .z) .z)))) .z))))) .z))))))
theorem BK:aJ 71 (BH n) :=oA (au (Bw n) aB) func71 BJ n (by kernel_rfl) λ_=>by kernel_rfl
def zq:dg xx:=⟨[.p 0],[(0,rK)],[.oz 1000],[(0,rK),(1000,.l .str)],λv=>iT n v.1 v.2⟩
def zu:co xx:=⟨[],[.d .bool],λ_=>none,some (zq n)⟩
def zw:Hn SI:=(cy (.s (.s .z (.b (.l ⟨[(3,.oz 1512),(11,.v ah)],[(0,rK),(1512,.l .str)],[0,10],[],1513,[(1099511627779,.str)]⟩ 0 ⟨[(3,.oz 1512)],[(0,rK),(1512,.l .str)],[],[],1513,[]⟩ (cy (.s (.j ⟨[(3,.oz 1577)],[(0,rK),(1577,.l .str)],[0,10,11],[],1578,[]⟩ (.b (cy (.s (.s (.j ⟨[(18,.v .bool)],[],[0,3,5,10,11],[0,1512,1833],1961,[]⟩ .z) .z) (.s (.j ⟨[(40,.v .bool)],[],[0,3,5,10,11],[0,1512,1833],1961,[]⟩ .z) .z))))) .z))))) .z))
theorem zx:aJ 45 (zu n) :=oA (au (BK n) (au (Ku n) aB)) func45 zw n (by kernel_rfl) λ_=>by kernel_rfl
def XG:co xx:=⟨[.d iO],[.fresh ah,.d (.sl .str),.d ah],λa=>jD n a.1,none⟩
def XH:Hn SI:=(cy (.s (.s .z (.b (.l ⟨[(15,.v ah)],[(1256,.m .str .bool)],[1,5,13,14],[1000,1384],1576,[]⟩ 0 ⟨[],[(1256,.m .str .bool)],[1,5],[1000],1576,[]⟩ .z))) (.s (.s .z (.b (.lx ⟨[(25,.v ah)],[(1256,.m .str .bool)],[1,5,23,24],[1000],1832,[]⟩ 2 ⟨[],[],[1],[1000],1832,[]⟩ .z))) (.s .z (.s (.s .z (.s (.j ⟨[(43,.v .bool)],[],[10,11],[1960,2152],2280,[]⟩ .z) .z)) .z)))))
theorem Jd:aJ 26 (XG n) :=cq (au OG (au OI (au (zx n) (au (Jc n) aB)))) func26 XH n
def Qy:co xx:=⟨[.d (.sl (.st SI.ia))],[.fresh (.st SI.side)],λa=>o9 n a.1,none⟩
def Qz:Hn SI:=(cy (.s (.s .z (.b (.l ⟨[(10,.v ah)],[(1192,.l (.st SI.side))],[0,3,9],[],1512,[]⟩ 0 ⟨[],[(1192,.l (.st SI.side))],[3],[],1512,[]⟩ .z))) .z))
theorem Dl:aJ 121 (Qy n) :=cq aB func121 Qz n
def QA:co xx:=⟨[.d (.st SI.ia)],[.d .bool],λa=>tC a.1,none⟩
theorem QB:aJ 177 QA :=cq aB func177 .z 0
def Fh:co xx:=⟨[.d (.st SI.side)],[.d .bool],λa=>gH a.1,none⟩
theorem uD:aJ 122 Fh :=cq aB func122 .z 0
def Ta:co xx:=⟨[.d ah],[.d .bool],λa=>cmp_isNaN_int a.1,none⟩
theorem Td:aJ 67 Ta :=cq aB func67 .z 0
def OM:co xx:=⟨[.d ah,.d ah],[.d ah],λa=>cmp_Compare_int a.1 a.2.1,none⟩
theorem l5:aJ 41 OM :=cq (au Td aB) func41 .z 0
def acw:co xx:=⟨[.d (.sl ah)],[.d ah],λa=>rH n a.1,none⟩
def acy:Hn SI:=(cy (.s (.s .z (.b (.lx ⟨[(8,.v ah)],[],[3,6,7],[],1320,[]⟩ 0 ⟨[],[],[3],[],1320,[]⟩ .z))) .z))
theorem Fj:aJ 40 (acw n) :=cq aB func40 acy n
def OO:co xx:=⟨[.d (.st SI.ia),.d (.st SI.ia)],[.d ah],λa=>q8 n a.1 a.2.1,none⟩
theorem OQ:aJ 178 (OO n) :=cq (au l5 (au (Fj n) aB)) func178 .z n
def Fp:co xx:=⟨[.d (.st SI.side),.d (.st SI.side)],[.d .bool],λa=>lF a.1 a.2.1,none⟩
theorem Fq:aJ 179 Fp :=cq aB func179 .z 0
def Te:co xx:=⟨[.d (.sl (.st SI.ia))],[.d .bool],λa=>vG n a.1,none⟩
def Tf:Hn SI:=(.s .z (.s (.s (.j ⟨[(16,.v .bool)],[],[0],[],1064,[]⟩ .z) .z) (.s .z (.s (.s .z (.b (.lx ⟨[(21,.v ah)],[],[0,3,19,20],[1128],1448,[]⟩ 0 ⟨[],[],[3],[1128],1448,[]⟩ (cy (.s (.b (cy (.s (.s (.j ⟨[(61,.v .bool)],[],[0,3,4,19,20,21],[1128],2536,[]⟩ .z) .z) (.s (.j ⟨[(74,.v .bool)],[],[0,3,19,20,21],[1128],2536,[]⟩ .z) .z)))) .z))))) (.s (.s .z (.b (.lx ⟨[(78,.v ah)],[],[3,77],[1128],1640,[]⟩ 2 ⟨[],[],[3],[1128],1640,[]⟩ (cy (.s (.b (cy (.b (.lx ⟨[(8,.v ah)],[],[3,7,77,78],[1128],2024,[]⟩ 4 ⟨[],[],[3,77,78],[1128],2024,[]⟩ (.s .z (.s (.b (.s (.j ⟨[(106,.v .bool)],[],[3,7,8,77,78],[1128],2280,[]⟩ .z) .z)) .z)))))) .z))))) .z)))))
theorem Tg:aJ 118 (Te n) :=cq (au (Dl n) (au QB (au uD (au (OQ n) (au Fq aB))))) func118 Tf n
def Y4:co xx:=⟨[.mut ah],[.mu ah],λa=>pq n a.1,none⟩
theorem vQ:aJ 119 (Y4 n):=by
 have hcall:eT Tryz.prog 119:=⟨_,func119,by kernel_rfl,by kernel_rfl⟩;refine An hcall (λ a r h=>?_) rfl;obtain⟨l,⟨⟩⟩:=a;exact ajY Tryz.so119 rfl hcall h
def QC:co xx:=⟨[.mut ah],[.whole 0,.mu ah],λa=>pu n a.1,none⟩
def QD:Hn SI:=(cy (.s (.s .z (.b (.lx ⟨[(3,.v ah)],[],[0],[0],1320,[]⟩ 0 ⟨[],[],[0],[0],1320,[]⟩ (.s .z (.s (.b (.s .z (.s (.s .z (.s (.s .z (.b (.l ⟨[(3,.v ah),(5,.v ah)],[(0,.l ah)],[0,4],[],2536,[]⟩ 2 ⟨[(3,.v ah)],[(0,.l ah)],[0],[],2536,[]⟩ (.s .z (.s (.j ⟨[(3,.v ah)],[(0,.l ah)],[0,4,5],[],2792,[]⟩ .z) .z))))) .z)) .z))) .z))))) .z))
theorem vz:aJ 120 (QC n) :=cq aB func120 QD n
def QE:co xx:=⟨[.d (.sl (.st SI.ia))],[.fresh ay,.d ah],λa=>tF n a.1,none⟩
def QF:Hn SI:=(gp (.s (.s .z (.b (.l ⟨[(4,.o 1576),(19,.v ah)],[(1576,.l ah)],[0,17,18],[],1577,[(4,ah)]⟩ 0 ⟨[(4,.o 1576)],[(1576,.l ah)],[0],[],1577,[]⟩ .z))) (sR (.s (.s .z (.b (.l ⟨[(8,.o 2409),(38,.v ah)],[(2409,.l ay)],[4,7,37],[1576,1961],2410,[(8,ay)]⟩ 2 ⟨[(8,.o 2409)],[(2409,.l ay)],[],[],2410,[]⟩ (cy (.s (.b (cy (.s (.s .z (.b (.l ⟨[(10,.o 2858),(43,.v ah)],[(2858,.l ah)],[4,7,8,9,37,38,41,42],[1576,1961,2409],2859,[(10,ah)]⟩ 4 ⟨[(10,.o 2858)],[(2858,.l ah)],[4,7,8,9,37,38],[1576,1961,2409],2859,[]⟩ (cy (.s (.j ⟨[(10,.o 2923)],[(2923,.l ah)],[4,7,8,9,37,38,41,42,43],[1576,1961,2409],2924,[]⟩ (.b (.s .z (.s (.j ⟨[(77,.v .bool)],[],[4,7,8,9,10,12,37,38,41,42,43],[1576,1961,2409,2858,3051],3179,[]⟩ .z) .z)))) .z))))) (cy (.b (.l ⟨[(8,.o 3051),(13,.v ah)],[(3051,.l ay)],[4,7,9,10,37,38],[1576,1961,2858],3052,[]⟩ 6 ⟨[(8,.o 3051)],[(3051,.l ay)],[4,7,37,38],[1576,1961],3052,[]⟩ .z)))))) .z))))) .z))))
theorem QG:aJ 75 (QE n) :=cq (au (Tg n) (au (vQ n) (au (vz n) (au (Dl n) (au uD aB))))) func75 QF n
def XI:co xx:=⟨[.d bH],[.fresh ay],λa=>tH n a.1,none⟩
theorem Je:aJ 47 (XI n) :=cq (au (QG n) aB) func47 .z n
def akI:co xx:=⟨[.d ay],[.d .bool],λa=>nI a.1,none⟩
theorem oI:aJ 97 akI :=cq aB func97 .z 0
def afc:co xx:=⟨[.d ay],[.d ay,.d .bool],λa=>rZ a.1,none⟩
theorem Jf:aJ 64 afc :=cq (au oI aB) func64 .z 0
def Y5:co xx:=⟨[.d ay,.d ay],[.d ay,.d .bool],λa=>sj a.1 a.2.1,none⟩
def Y6:Hn SI:=(.s .z (.s (.s (.j ⟨[(13,.v .bool)],[],[2,3,4],[1000,1064,1128],1256,[]⟩ .z) .z) .z))
theorem BL:aJ 76 Y5 :=cq (au oI (au Jf aB)) func76 Y6 0
def anl:co xx:=⟨[.d ay],[.d ah],λa=>pz a.1,none⟩
theorem zy:aJ 36 anl :=cq (au Jf aB) func36 .z 0
def Ti:co xx:=⟨[.d (.sl ay),.d (.sl ay)],[.d ah,.d (.st SI.ia)],λa=>qH n a.1 a.2.1,none⟩
def Tj:Hn SI:=(cy (.s (.s .z (.b (.l ⟨[(6,.v ah),(18,.v ah)],[(1192,vd)],[1,5,7,16,17],[1064],1576,[]⟩ 0 ⟨[(6,.v ah)],[(1192,vd)],[5,7],[1064],1576,[]⟩ (cy (.s (.b (cy (.b (.l ⟨[(6,.v ah),(24,.v ah)],[(1192,vd)],[1,5,7,9,16,17,18,22,23],[1064,1768],2088,[]⟩ 2 ⟨[(6,.v ah)],[(1192,vd)],[1,5,7,16,17,18],[1064],2088,[]⟩ (cy (.s (.j ⟨[(6,.v ah)],[(1192,vd)],[1,5,7,9,16,17,18,22,23,24],[1064,1768],2152,[]⟩ .z) .z)))))) .z))))) .z))
theorem FR:aJ 48 (Ti n) :=cq (au BL (au zy (au l5 (au (Fj n) aB)))) func48 Tj n
def QH:co xx:=⟨[.d iO],[.fresh ah,.d (.st SI.ia),.d .bool],λa=>pE n a.1,none⟩
def QI:Hn SI:=(cy (.s (.s .z (.b (.l ⟨[(19,.v ah)],[(1448,.l (.sl ay))],[3,5,17,18],[1128],1832,[]⟩ 0 ⟨[],[(1448,.l (.sl ay))],[3,5],[1128],1832,[]⟩ (cy (.s (.j ⟨[],[(1448,.l (.sl ay))],[3,5,17,18,19],[1128],1896,[]⟩ .z) .z))))) (.s (.s .z (.b (.lx ⟨[(35,.v ah)],[],[3,5,34],[1128,1448],2024,[]⟩ 2 ⟨[],[],[3],[1128],2024,[]⟩ (cy (.s (.b (cy (.b (.lx ⟨[(9,.v ah)],[],[3,5,8,34,35],[1128,1448],2408,[]⟩ 4 ⟨[],[],[3,5,34,35],[1128,1448],2408,[]⟩ .z)))) .z))))) .z)))
theorem QJ:aJ 27 (QH n) :=cq (au (Je n) (au (FR n) aB)) func27 QI n
def Fs:co xx:=⟨[.d (.st SI.ii)],[.fresh (.st SI.Finding)],λa=>fG n a.1,none⟩
def Fu:Hn SI:=(cy (.s (.j ⟨[(3,.o 1192)],[(1192,.l (.st SI.Finding))],[1],[1000],1193,[(3,.st SI.Finding)]⟩ .z) (.s (.j ⟨[(3,.o 1193)],[(1193,.l (.st SI.Finding))],[],[],1194,[]⟩ (cy (.s (.s .z (.s (.s .z (.b (.l ⟨[(41,.v ah)],[(2153,Hd),(2473,.l .str)],[1,3,10,39,40],[1000,1192,1385],2474,[(9818690,.str)]⟩ 0 ⟨[],[(2153,Hd),(2473,.l .str)],[3,10],[1192],2474,[]⟩ .z))) .z)) .z))) .z)))
theorem Fv:aJ 16 (Fs n) :=cq (au (Jd n) (au (QJ n) aB)) func16 Fu n
def XJ:co xx:=⟨[.nil,.d ah],[.fresh ay],λa=>NH a.1 a.2.1,none⟩
theorem XK:aJ 246 XJ :=cq aB func246 .z 0
def QK:co xx:=⟨[.d (.sl (.sl ay))],[.fresh ay],λa=>yQ n a.1,none⟩
def QL:Hn SI:=(cy (.s (.s .z (.b (.l ⟨[(3,.v ah),(11,.v ah)],[],[0,9,10],[],1320,[]⟩ 0 ⟨[(3,.v ah)],[],[0],[],1320,[]⟩ .z))) (.s .z (.s (.s .z (.b (.l ⟨[(6,.o 1704),(27,.v ah)],[(1704,.l ay)],[25,26],[],1705,[]⟩ 2 ⟨[(6,.o 1704)],[(1704,.l ay)],[],[],1705,[]⟩ .z))) .z))))
theorem QM:aJ 209 (QK n) :=cq (au XK aB) func209 QL n
def LW:co xx:=⟨[.mut (.st SI.span),.ek [.st SI.span,.st SI.span] ah],[.mu (.st SI.span)],λa=>uY n a.1 a.2.1,none⟩
theorem LX:aJ 247 (LW n):=by
 have hcall:eT Tryz.prog 247:=⟨_,func247,by kernel_rfl,by kernel_rfl⟩;refine An hcall (λ a r h=>?_) rfl;obtain⟨l,φ,⟨⟩⟩:=a;refine aaq (X:=xx) (i:=SI.span) (hI:=(inferInstance:Inhabited aO)) Tryz.so247 rfl hcall Tryz.underlying305 (by kernel_rfl) (λ x t ht=>?_) h;cases x;have ht:t∈[_,_]:=ht;simp only[aN,gB,or_false]at ht;rcases ht with rfl |rfl<;>exact⟨_,rfl,trivial⟩
def XL:co xx:=⟨[.d (.st SI.span),.d (.st SI.span)],[.d ah],λa=>xH a.1 a.2.1,none⟩
theorem XM:aJ 248 XL :=cq (au l5 aB) func248 .z 0
def afd:co xx:=⟨[.d (.sl ay),.d ah],[.fresh (.st SI.span)],λa=>JW n a.1 a.2.1,none⟩
def afe:Hn SI:=(cy (.s (.s .z (.b (.l ⟨[(5,.o 1320),(14,.v ah)],[(1320,.l (.st SI.span))],[1,12,13],[],1321,[(5,.st SI.span)]⟩ 0 ⟨[(5,.o 1320)],[(1320,.l (.st SI.span))],[],[],1321,[]⟩ (cy (.s (.j ⟨[(5,.o 1385)],[(1385,.l (.st SI.span))],[1,12,13,14],[],1386,[]⟩ (.b (.s .z (.s (.j ⟨[(27,.v .bool)],[],[1,5,7,12,13,14],[1320,1513],1641,[]⟩ .z) .z)))) .z))))) (cy (.s (.s .z (.b (.l ⟨[(8,.o 1705),(41,.v ah)],[(1705,.l (.st SI.span))],[39,40],[1320],1706,[(8,.st SI.span)]⟩ 2 ⟨[(8,.o 1705)],[(1705,.l (.st SI.span))],[],[],1706,[]⟩ (cy (.s (.j ⟨[(8,.o 1770)],[(1770,.l (.st SI.span))],[39,40,41],[1320],1771,[]⟩ (.b (cy (.s (.j ⟨[(59,.v .bool)],[],[8,10,11,39,40,41],[1320,1705,1898],2218,[]⟩ .z) .z)))) .z))))) .z))))
theorem aff:aJ 210 (afd n) :=cq (au (LX n) (au XM aB)) func210 afe n
def afg:co xx:=⟨[.d (.sl (.sl ay))],[.fresh (.st SI.strip)],λa=>oC n a.1,none⟩
def afh:Hn SI:=(gp (.s (.s .z (.b (.l ⟨[(4,.o 1512),(13,.v ah)],[(1512,.l ah)],[3,11,12],[1128],1513,[(4,ah)]⟩ 0 ⟨[(4,.o 1512)],[(1512,.l ah)],[3],[1128],1513,[]⟩ .z))) (gp (.s (.s .z (.b (.l ⟨[(7,.o 1961),(8,.v ah)],[(1961,.l (.st SI.strip))],[3,4],[1128,1512],1962,[(7,.st SI.strip)]⟩ 2 ⟨[(7,.o 1961)],[(1961,.l (.st SI.strip))],[],[],1962,[]⟩ .z))) .z))))
theorem Sd:aJ 156 (afg n) :=cq (au (QM n) (au (vQ n) (au (vz n) (au (aff n) aB)))) func156 afh n
def Tk:co xx:=⟨[.d (.sl (.st SI.span)),.d (.sl (.st SI.span))],[.d .bool],λa=>vH n a.1 a.2.1,none⟩
def Tm:Hn SI:=(cy (.s (.s .z (.b (.lx ⟨[(13,.v ah)],[],[0,1,12],[],1576,[]⟩ 0 ⟨[],[],[],[],1576,[]⟩ .z))) .z))
theorem Tn:aJ 215 (Tk n) :=cq aB func215 Tm n
def ahs:co xx:=⟨[.d (.sl (.st SI.strip))],[.fresh ay],λa=>Io n a.1,none⟩
def aht:Hn SI:=(cy (.s (.s .z (.b (.l ⟨[(3,.o 1192),(4,.v ah)],[(1192,.l ay)],[0],[],1193,[(3,ay)]⟩ 0 ⟨[(3,.o 1192)],[(1192,.l ay)],[],[],1193,[]⟩ (.s .z (.b (.s .z (.s (.b (.l ⟨[(5,.v ah)],[],[0,3,4],[1192],1641,[]⟩ 2 ⟨[(5,.v ah)],[],[0,3,4],[1192],1641,[]⟩ (.s (.s (.j ⟨[(30,.v .bool)],[],[0,3,4,5],[1192],1641,[]⟩ .z) .z) .z))) (.s (.s .z (.b (.l ⟨[(3,.o 2089),(39,.v ah)],[(2089,.l ay)],[0,4,5,37,38],[],2090,[]⟩ 4 ⟨[(3,.o 2089)],[(2089,.l ay)],[0,5],[],2090,[]⟩ .z))) .z)))))))) .z))
theorem XO:aJ 160 (ahs n) :=cq (au (Tn n) aB) func160 aht n
def acz:co xx:=⟨[.d (.sl ay)],[.d (.sl ay),.d ah],λa=>yR a.1,none⟩
theorem OT:aJ 159 acz :=cq aB func159 .z 0
def aoR:co xx:=⟨[.d (.sl ay)],[.d (.sl ay),.d ah],λa=>OS n a.1,none⟩
def aoS:Hn SI:=(.s .z (.s (.s .z (.b (.lx ⟨[(8,.v ah)],[],[0,6,7],[],1320,[]⟩ 0 ⟨[],[],[0],[],1320,[]⟩ .z))) .z))
theorem aoT:aJ 124 (aoR n) :=cq (au oI (au (Sd n) (au (XO n) (au OT aB)))) func124 aoS n
def Tp:co xx:=⟨[.d (.sl ay),.d (.sl ay)],[.d .bool],λa=>oD n a.1 a.2.1,none⟩
def Tq:Hn SI:=(cy (.s (.s .z (.b (.lx ⟨[(13,.v ah)],[],[0,1,12],[],1576,[]⟩ 0 ⟨[],[],[],[],1576,[]⟩ .z))) .z))
theorem FT:aJ 125 (Tp n) :=cq aB func125 Tq n
def ahu:co xx:=⟨[.d (.sl ay)],[.d .bool],λa=>nX n a.1,none⟩
theorem pO:aJ 79 (ahu n) :=cq (au (aoT n) (au (FT n) aB)) func79 .z n
def Tt:co xx:=⟨[.d iO,.d (.sl ay)],[.fresh ah],λa=>vI n a.1 a.2.1,none⟩
def Tv:Hn SI:=(gp (.s (.s .z (.b (.l ⟨[(5,.o 1640),(16,.v ah)],[(1640,.l ah)],[1,14,15],[],1641,[(5,ah)]⟩ 0 ⟨[(5,.o 1640)],[(1640,.l ah)],[],[],1641,[]⟩ .z))) .z))
theorem Tw:aJ 50 (Tt n) :=cq (au (pO n) (au (Je n) (au (FR n) aB))) func50 Tv n
def afi:co xx:=⟨[.d iO,.d (.sl ay)],[.fresh .str],λa=>sD n a.1 a.2.1,none⟩
def afj:Hn SI:=(gp (.s (.s .z (.b (.l ⟨[(6,.v ah),(17,.v ah)],[],[2,5,15,16],[1000,1256],1640,[]⟩ 0 ⟨[(6,.v ah)],[],[2,5],[1000,1256],1640,[]⟩ (cy (.s (.j ⟨[(6,.v ah)],[],[2,5,15,16,17],[1000,1256],1704,[]⟩ (.b (.s .z (.s (.j ⟨[(44,.v .bool)],[],[2,5,6,7,15,16,17],[1000,1256],2024,[]⟩ .z) .z)))) .z))))) (.s .z (.s (.s .z (.b (.l ⟨[(9,.o 1896),(49,.v ah)],[(1896,.l .str)],[2,6,47,48],[1000,1256],1897,[(9,.str)]⟩ 2 ⟨[(9,.o 1896)],[(1896,.l .str)],[],[],1897,[]⟩ (cy (.s (.j ⟨[(9,.o 1961)],[(1961,.l .str)],[2,6,47,48,49],[1000,1256],1962,[]⟩ (.b (.s .z (.s (.j ⟨[(68,.v .bool)],[],[2,6,9,10,47,48,49],[1000,1256,1896],2281,[]⟩ .z) .z)))) .z))))) .z))))
theorem Sg:aJ 29 (afi n) :=cq (au (Tw n) aB) func29 afj n
def OU:co xx:=⟨[.d (.sl .str),.d .str],[.d ah],λa=>q9 n a.1 a.2.1,none⟩
def OV:Hn SI:=(.s .z (.s (.s .z (.b (.lx ⟨[(8,.v ah)],[],[0,1,7],[],1256,[]⟩ 0 ⟨[],[],[],[],1256,[]⟩ .z))) .z))
theorem OW:aJ 83 (OU n) :=cq aB func83 OV n
def Jg:co xx:=⟨[.d (.sl .str),.d .str],[.d .bool],λa=>fH n a.1 a.2.1,none⟩
theorem pQ:aJ 53 (Jg n) :=cq (au (OW n) aB) func53 .z n
def LY:co xx:=⟨[.d .str,.ref (.sl .str)],[.d .bool],λa=>jR n a.1 a.2.1,none⟩
theorem LZ:aJ 77 (LY n) :=cq (au (pQ n) aB) func77 .z n
def Gf:co xx:=⟨[.d (.sl .str),.ek [.str] .bool],[.d ah],λa=>qp n a.1 a.2.1,none⟩
def Gg:Hn SI:=(.s .z (.s (.s .z (.b (.lx ⟨[(8,.v ah)],[],[0,1,7],[],1256,[]⟩ 0 ⟨[],[],[],[],1256,[]⟩ .z))) .z))
theorem Gh:aJ 123 (Gf n) :=cq aB func123 Gg n
def BN:co xx:=⟨[.d (.sl .str),.ek [.str] .bool],[.d .bool],λa=>fJ n a.1 a.2.1,none⟩
theorem BP:aJ 78 (BN n) :=cq (au (Gh n) aB) func78 .z n
def Tx:co xx:=⟨[.d bn,.d (.sl .str)],[.d .bool],λa=>qI n a.1 a.2.1,none⟩
theorem Ty:aJ 49 (Tx n) :=cq (au (BP n) (au (LZ n) aB)) func49 .z n
def XP:co xx:=⟨[.d iO,.d (.sl .str),.d ah],[.fresh ah],λa=>nK n a.1 a.2.1 a.2.2.1,none⟩
def XQ:Hn SI:=(cy (.s (.s .z (.b (.l ⟨[(7,.o 1448),(13,.v ah)],[(1448,.l ah)],[1,2,11,12],[],1449,[(7,ah)]⟩ 0 ⟨[(7,.o 1448)],[(1448,.l ah)],[],[],1449,[]⟩ (cy (.s (.j ⟨[(7,.o 1513)],[(1513,.l ah)],[1,2,11,12,13],[],1514,[]⟩ (.b (.s .z (.s (.j ⟨[(37,.v .bool)],[],[1,2,7,8,11,12,13],[1448],1897,[]⟩ .z) .z)))) .z))))) .z))
theorem Jh:aJ 28 (XP n) :=cq (au (Ty n) aB) func28 XQ n
def ahv:co xx:=⟨[.d (.sl ay)],[.d ay,.d .bool],λa=>NN n a.1,none⟩
def ahw:Hn SI:=(.s .z (.s (.s .z (.b (.l ⟨[(3,.v .bool),(8,.v ah)],[(1000,u9)],[2,6,7],[],1320,[]⟩ 0 ⟨[(3,.v .bool)],[(1000,u9)],[2],[],1320,[]⟩ (cy (.s (.j ⟨[(3,.v .bool)],[(1000,u9)],[2,6,7,8],[],1384,[]⟩ .z) .z))))) .z))
theorem ahx:aJ 96 (ahv n) :=cq (au oI aB) func96 ahw n
def afk:co xx:=⟨[.d (.sl ay)],[.d ay,.d .bool],λa=>CY n a.1,none⟩
def afl:Hn SI:=(.s .z (.s (.s (.j ⟨[(11,.v .bool)],[],[0,2],[1000],1128,[]⟩ .z) .z) .z))
theorem Si:aJ 60 (afk n) :=cq (au (pO n) (au (ahx n) aB)) func60 afl n
def ahy:co xx:=⟨[.d ay,.d ah],[.d ay,.d .bool],λa=>NP a.1 a.2.1,none⟩
def ahz:Hn SI:=(.s .z (.s (.s (.j ⟨[(12,.v .bool)],[],[1,2,4],[1000,1064],1192,[]⟩ .z) .z) .z))
theorem ahA:aJ 61 ahy :=cq (au oI (au Jf aB)) func61 ahz 0
def uH:co xx:=⟨[.d (.sl (.st SI.strip)),.d ah,.ek [.st SI.strip,ah] ah],[.d ah,.d .bool],λa=>iW n a.1 a.2.1 a.2.2.1,none⟩
def uI:Hn SI:=(gp (.s (.b (.l ⟨[(9,.v ah),(10,.v ah)],[],[0,1,2,8],[],1512,[]⟩ 0 ⟨[(9,.v ah)],[],[0,1,2,8],[],1512,[]⟩ .z)) .z))
theorem uJ:aJ 213 (uH n) :=cq aB func213 uI n
def ahB:co xx:=⟨[.d (.st SI.strip),.d ah],[.d ah],λa=>wD a.1 a.2.1,none⟩
theorem ahC:aJ 214 ahB :=cq aB func214 .z 0
def aoU:co xx:=⟨[.d (.sl (.st SI.strip)),.d ah],[.d (.sl (.st SI.span))],λa=>WR n a.1 a.2.1,none⟩
def aoV:Hn SI:=(cy (.s (.s (.j ⟨[(25,.v .bool)],[],[0,5],[],1576,[]⟩ .z) .z) .z))
theorem aoW:aJ 158 (aoU n) :=cq (au (uJ n) (au ahC aB)) func158 aoV n
def XR:co xx:=⟨[.nil,.d ah],[.fresh (.st SI.span)],λa=>NQ a.1 a.2.1,none⟩
theorem XT:aJ 249 XR :=cq aB func249 .z 0
def QN:co xx:=⟨[.d (.sl (.sl (.st SI.span)))],[.fresh (.st SI.span)],λa=>yS n a.1,none⟩
def QO:Hn SI:=(cy (.s (.s .z (.b (.l ⟨[(3,.v ah),(11,.v ah)],[],[0,9,10],[],1320,[]⟩ 0 ⟨[(3,.v ah)],[],[0],[],1320,[]⟩ .z))) (.s .z (.s (.s .z (.b (.l ⟨[(6,.o 1704),(27,.v ah)],[(1704,.l (.st SI.span))],[25,26],[],1705,[]⟩ 2 ⟨[(6,.o 1704)],[(1704,.l (.st SI.span))],[],[],1705,[]⟩ .z))) .z))))
theorem QR:aJ 211 (QN n) :=cq (au XT aB) func211 QO n
def vB:co xx:=⟨[.d (.sl (.st SI.span)),.d ah,.ek [.st SI.span,ah] ah],[.d ah,.d .bool],λa=>jl n a.1 a.2.1 a.2.2.1,none⟩
def vC:Hn SI:=(gp (.s (.b (.l ⟨[(9,.v ah),(10,.v ah)],[],[0,1,2,8],[],1512,[]⟩ 0 ⟨[(9,.v ah)],[],[0,1,2,8],[],1512,[]⟩ .z)) .z))
theorem vD:aJ 250 (vB n) :=cq aB func250 vC n
def XU:co xx:=⟨[.d (.st SI.span),.d ah],[.d ah],λa=>lK a.1 a.2.1,none⟩
theorem XV:aJ 251 XU :=cq aB func251 .z 0
def afm:co xx:=⟨[.d (.sl (.st SI.span)),.d ah],[.d .bool],λa=>CZ n a.1 a.2.1,none⟩
theorem afn:aJ 212 (afm n) :=cq (au (vD n) (au XV aB)) func212 .z n
def ahD:co xx:=⟨[.d (.sl (.st SI.span)),.d (.sl (.st SI.span)),.ek [.bool,.bool] .bool],[.fresh (.st SI.span)],λa=>Ip n a.1 a.2.1 a.2.2.1,none⟩
def ahE:Hn SI:=(cy (.s (.s .z (.b (.l ⟨[(7,.o 1512),(19,.v ah)],[(1512,.l ah)],[0,1,2,17,18],[1320],1513,[(7,ah)]⟩ 0 ⟨[(7,.o 1512)],[(1512,.l ah)],[0,1,2],[],1513,[]⟩ .z))) (gp (.s (.s .z (.b (.l ⟨[(10,.o 1961),(11,.v ah)],[(1961,.l (.st SI.span))],[0,1,2,7],[1512],1962,[(10,.st SI.span)]⟩ 2 ⟨[(10,.o 1961)],[(1961,.l (.st SI.span))],[],[],1962,[]⟩ (.s .z (.s (.j ⟨[(10,.o 2218)],[(2218,.l (.st SI.span))],[0,1,2,7,11],[1512],2219,[]⟩ (.b (gp (.s (.j ⟨[(68,.v .bool)],[],[0,1,2,7,10,11,12,13],[1512,1961],3370,[]⟩ .z) .z)))) .z))))) .z))))
theorem ahF:aJ 157 (ahD n) :=cq (au (QR n) (au (vQ n) (au (vz n) (au (afn n) aB)))) func157 ahE n
def acA:co xx:=⟨[.d (.sl ay),.d (.sl ay),.ek [.bool,.bool] .bool],[.d (.sl ay),.d ah],λa=>EA n a.1 a.2.1 a.2.2.1,none⟩
def acB:Hn SI:=(.s .z (.s (.s (.j ⟨[(20,.v .bool)],[],[0,1,2],[],1128,[]⟩ .z) .z) (.s (.f [6,7]) (.s .z (.s (.s .z (.b (.l ⟨[(33,.v ah)],[(1832,.l (.st SI.strip))],[2,8,9,10,31,32],[],2152,[]⟩ 0 ⟨[],[(1832,.l (.st SI.strip))],[10],[],2152,[]⟩ .z))) .z)))))
theorem acC:aJ 98 (acA n) :=cq (au (pO n) (au (Sd n) (au (aoW n) (au (ahF n) (au (XO n) (au OT aB)))))) func98 acB n
def XW:co xx:=⟨[.d .bool,.d .bool],[.d .bool],λa=>xJ a.1 a.2.1,none⟩
theorem XY:aJ 99 XW :=cq aB func99 .z 0
def afo:co xx:=⟨[.d (.sl ay),.d (.sl ay)],[.d (.sl ay),.d ah],λa=>C8 n a.1 a.2.1,none⟩
theorem Sj:aJ 62 (afo n) :=cq (au (acC n) (au XY aB)) func62 .z n
def akJ:co xx:=⟨[.d (.sl ay)],[.d ah],λa=>JX n a.1,none⟩
def akK:Hn SI:=(gp (.s (.s .z (.b (.l ⟨[(3,.v ah),(11,.v ah)],[],[9,10],[],1512,[]⟩ 0 ⟨[(3,.v ah)],[],[],[],1512,[]⟩ .z))) .z))
theorem QS:aJ 63 (akJ n) :=cq (au (pO n) (au zy aB)) func63 akK n
def XZ:co xx:=⟨[.d gG,.d ah],[.d ay,.d .bool],λa=>nL n a.1 a.2.1,none⟩
def X0:Hn SI:=(cy (.s (.s (.j ⟨[(26,.v .bool)],[],[1,2,4,6],[1000,1064,1576],1768,[]⟩ .z) .z) .z))
theorem Ji:aJ 35 (XZ n) :=cq (au (Si n) (au ahA (au (Sj n) (au (QS n) (au zy aB))))) func35 X0 n
def akL:co xx:=⟨[],[.d .bool],λ_=>none,some (@pbG xx SI.kw SI.eJ (inferInstance:Inhabited bB) we 39 37)⟩
theorem akM:aJ 38 akL:=
 MY (ni func38 (by kernel_rfl:Tryz.f38.body=some (Tryz.f38.body.getD .skip)) (by kernel_rfl)) (an4 (X:=xx) (ip:=SI.kw) (ik:=SI.eJ) (hI:=(inferInstance:Inhabited bB)) Tryz.so38 rfl (ni func38 (by kernel_rfl:Tryz.f38.body=some (Tryz.f38.body.getD .skip)) (by kernel_rfl)) (ni func39 (by kernel_rfl:Tryz.f39.body=some (Tryz.f39.body.getD .skip)) (by kernel_rfl)) (fs:=(Tryz.prog.underlying 56).elim #[] λd=>match d with | .struct fs=>fs |_=>#[]) (by kernel_rfl) (by kernel_rfl) O2 (tm:=116) (kt:=119) (et:=3) (ei:=(Rv tab 3).get (by kernel_rfl)) (by kernel_rfl) (by kernel_rfl) (aa5 (mk:=(2,.i64)) O2 (by kernel_rfl)) (λ r=>by cases r<;>rfl) we
  (apy (ti:=3) an9 apE (λ x y=>aiC (X:=xx) (cs:=[.int .i64,.int .i64]) (r:= .int .i64) l5 (x,y,()) (aqF x y)) λa b c d e=>aiC (X:=xx) (cs:=[.sl ah]) (r:= .int .i64) (Fj 10) ([a,b,c,d,e],()) (aen a b c d e)))
def QT:co xx:=⟨[.d (.sl gG)],[.fresh eH],λa=>pF n a.1,none⟩
def QU:Hn SI:=(sR (.s (.s .z (.b (.l ⟨[(3,.o 1640),(17,.v ah)],[(1128,.m (.st SI.eJ) ah),(1320,.m ah .bool),(1640,.l eH)],[4,5,15,16],[1192],1641,[(3,eH)]⟩ 0 ⟨[(3,.o 1640)],[(1128,.m (.st SI.eJ) ah),(1640,.l eH)],[4],[1192],1641,[]⟩ (cy (.s (.j ⟨[(3,.o 1705)],[(1128,.m (.st SI.eJ) ah),(1320,.m ah .bool),(1705,.l eH)],[4,5,15,16,17],[1192],1706,[]⟩ (.b (.s .z (.s (.s (.j ⟨[(34,.v .bool)],[],[3,4,5,7,15,16,17],[1128,1192,1320,1640,1833],1961,[]⟩ .z) .z) (cy (.b (.l ⟨[(3,.o 2281),(38,.v ah)],[(1128,.m (.st SI.eJ) ah),(2281,.l eH)],[4,5,7,15,16,17],[1192,1320,1833],2282,[]⟩ 2 ⟨[(3,.o 2281)],[(1128,.m (.st SI.eJ) ah),(2281,.l eH)],[4,5,15,16,17],[1192,1320],2282,[]⟩ (cy (.s (.j ⟨[(3,.o 2346)],[(1128,.m (.st SI.eJ) ah),(2346,.l eH)],[4,5,7,15,16,17,38],[1192,1320,1833],2347,[]⟩ (.b (wx (.b (.l ⟨[(3,.o 3754),(56,.v ah)],[(3754,.l eH)],[4,5,7,8,15,16,17,38],[1128,1192,1320,1833],3755,[]⟩ 4 ⟨[(3,.o 3754)],[(3754,.l eH)],[4,5,7,15,16,17,38],[1128,1192,1320,1833],3755,[]⟩ .z))))) .z))))))))) .z))))) .z))
theorem Dm:aJ 23 (QT n) :=cq (au (Ji n) (au zy (au akM aB))) func23 QU n
def Tz:co xx:=⟨[.d gG,.d eH],[.d (.st SI.ef),.d .bool],λa=>vJ n a.1 a.2.1,none⟩
def TA:Hn SI:=(cy (.s (.s (.j ⟨[(54,.v .bool)],[],[3,4,6],[1064,1128,1704],1896,[]⟩ .z) .z) (.s .z (.s (.j ⟨[],[(2408,.c 9 [[.v ah,.v ah,.v ah,.v ah,.v ah,.v ah,.v ah,.v ah,.v .bool]])],[3,4,8],[1064,1128],2536,[]⟩ .z) .z))))
theorem TB:aJ 59 (Tz n) :=cq (au (Ji n) aB) func59 TA n
def ahG:co xx:=⟨[.d gG,.d eH],[.d (.st SI.ef)],λa=>Iq n a.1 a.2.1,none⟩
theorem X4:aJ 31 (ahG n) :=cq (au (TB n) aB) func31 .z n
def TD:co xx:=⟨[.d (.sl ay)],[.fresh ay],λa=>Bl a.1,none⟩
theorem TF:aJ 181 TD :=cq aB func181 .z 0
def X5:co xx:=⟨[.d (.sl ah)],[.fresh ah],λa=>EC a.1,none⟩
theorem X6:aJ 182 X5 :=cq aB func182 .z 0
def ahH:co xx:=⟨[.d gG],[.d gG],λa=>NT a.1,none⟩
theorem ahI:aJ 126 ahH :=cq (au TF (au X6 aB)) func126 .z 0
def akN:co xx:=⟨[.d (.sl gG),.d ah],[.d gG,.d .bool],λa=>NU n a.1 a.2.1,none⟩
def akO:Hn SI:=(.s .z (.s (.s .z (.b (.lx ⟨[(10,.v ah)],[],[1,4,8,9],[1000],1320,[]⟩ 0 ⟨[],[],[4],[1000],1320,[]⟩ .z))) .z))
theorem akP:aJ 80 (akN n) :=cq (au ahI aB) func80 akO n
def OX:co xx:=⟨[.d (.st SI.ef),.d ah,.d ah],[.fresh aG],λa=>nY n a.1 a.2.1 a.2.2.1,none⟩
def OY:Hn SI:=(cy (.s (.s .z (.b (.l ⟨[(7,.o 1448),(13,.v ah)],[(1448,.l aG)],[1,2,11,12],[],1449,[(7,aG)]⟩ 0 ⟨[(7,.o 1448)],[(1448,.l aG)],[],[],1449,[]⟩ (cy (.s (.j ⟨[(7,.o 1513)],[(1513,.l aG)],[1,2,11,12,13],[],1514,[]⟩ (.b (.s .z (.s (.j ⟨[(25,.v .bool)],[],[1,2,7,9,11,12,13],[1448,1705],1897,[]⟩ .z) .z)))) .z))))) .z))
theorem AU:aJ 134 (OX n) :=cq aB func134 OY n
def Y7:co xx:=⟨[.d (.st SI.ef)],[.fresh aG],λa=>wG n a.1,none⟩
theorem Le:aJ 128 (Y7 n) :=cq (au (AU n) aB) func128 .z n
def Gi:co xx:=⟨[.d aG],[.d .bool],λa=>fU a.1,none⟩
def Gj:Hn SI:=(cy (.s (.s (.j ⟨[(26,.v .bool)],[],[1],[1000],1384,[]⟩ .z) .z) (.s (.s (.j ⟨[(34,.v .bool)],[],[1],[1000],1384,[]⟩ .z) .z) .z)))
theorem kH:aJ 135 Gi :=cq (au oI aB) func135 Gj 0
def X7:co xx:=⟨[.d (.st SI.E7),.d (.st SI.E7)],[.d .bool],λa=>xK a.1 a.2.1,none⟩
theorem X8:aJ 184 X7 :=cq (au BL aB) func184 .z 0
def OZ:co xx:=⟨[.d aG,.ref aG],[.d .bool],λa=>rq a.1 a.2.1,none⟩
theorem O1:aJ 183 OZ :=cq (au X8 aB) func183 .z 0
def Gl:co xx:=⟨[.d (.sl aG),.ek [aG] .bool],[.d ah],λa=>qw n a.1 a.2.1,none⟩
def Gm:Hn SI:=(.s .z (.s (.s .z (.b (.lx ⟨[(8,.v ah)],[],[0,1,7],[],1256,[]⟩ 0 ⟨[],[],[],[],1256,[]⟩ .z))) .z))
theorem Gn:aJ 150 (Gl n) :=cq aB func150 Gm n
def BQ:co xx:=⟨[.d (.sl aG),.ek [aG] .bool],[.d .bool],λa=>fK n a.1 a.2.1,none⟩
theorem qV:aJ 91 (BQ n) :=cq (au (Gn n) aB) func91 .z n
def acD:co xx:=⟨[.d (.int .u8)],[.d .bool],λa=>EG a.1,none⟩
theorem O3:aJ 266 acD :=cq aB func266 .z 0
def ahJ:co xx:=⟨[.d .str,.ek [.int .u8] .bool],[.d ah],λa=>NV n a.1 a.2.1,none⟩
def ahK:Hn SI:=(cy (.s (.b (.l ⟨[(5,.v ah)],[],[0,1],[],1128,[]⟩ 0 ⟨[(5,.v ah)],[],[],[],1128,[]⟩ (.s (.s (.j ⟨[(16,.v .bool)],[],[0,1,5],[],1128,[]⟩ .z) .z) .z))) .z))
theorem ahL:aJ 267 (ahJ n) :=cq aB func267 ahK n
def afp:co xx:=⟨[.d (.int .u8)],[.d .bool],λa=>Qd a.1,none⟩
theorem afq:aJ 269 afp :=cq aB func269 .z 0
def Y8:co xx:=⟨[.d (.int .u8)],[.d .bool],λa=>Al a.1,none⟩
theorem Y9:aJ 268 Y8 :=cq (au O3 (au afq aB)) func268 .z 0
def ahM:co xx:=⟨[.d .str],[.d .bool],λa=>NW n a.1,none⟩
def ahN:Hn SI:=(.s .z (.s (.s (.j ⟨[(15,.v .bool)],[],[0],[],1064,[]⟩ .z) .z) .z))
theorem ahO:aJ 231 (ahM n) :=cq (au O3 (au (ahL n) (au Y9 aB))) func231 ahN n
def L6:co xx:=⟨[.d .str,.d .str],[.d .bool],λa=>strings_Contains a.1 a.2.1,none⟩
theorem L8:aJ 232 L6:=by
 have hcall:eT Tryz.prog 232:=⟨_,func232,by kernel_rfl,by kernel_rfl⟩;refine An hcall (λ a r h=>?_) rfl;obtain⟨s,b,⟨⟩⟩:=a;have h':strings_Contains s b=some r:=h;unfold strings_Contains at h';cases hb:Nat.ble s.size 4000000 with
 |false=>rw[hb]at h';cases h'
 |true=>
  rw[hb]at h';have h'':some (Lib.contains s.data.toList b.data.toList)=some r:=h';injection h'' with e;subst e;have hw:=Nat.le_of_ble_eq_true hb;exact abL (g:=0) rfl hcall λm w hm=>aep s b m w (by omega) hm
def Za:co xx:=⟨[.d .str],[.d .bool],λa=>wH n a.1,none⟩
theorem Zb:aJ 185 (Za n) :=cq (au (ahO n) (au L8 aB)) func185 .z n
def X9:co xx:=⟨[.d (.st SI.ef)],[.d .bool],λa=>xL n a.1,none⟩
def Ya:Hn SI:=(cy (.s (.s (.j ⟨[(42,.v .bool)],[],[1,3],[1000,1192],1320,[]⟩ .z) .z) (.s (.s .z (.b (.lx ⟨[(45,.v ah)],[],[1,3,43,44],[1000,1192],1512,[]⟩ 0 ⟨[],[],[1],[1000],1512,[]⟩ (cy (.s (.b (.s .z (.s (.j ⟨[(59,.v .bool)],[],[1,3,43,44,45],[1000,1192],1960,[]⟩ .z) .z))) .z))))) (.s (.s .z (.b (.lx ⟨[(64,.v ah)],[],[62,63],[],1768,[]⟩ 2 ⟨[],[],[],[],1768,[]⟩ (cy (.s (.b (cy (.s (.s .z (.b (.lx ⟨[(72,.v ah)],[(2088,.m .str .bool)],[7,8,62,63,64,70,71],[1960],2472,[]⟩ 4 ⟨[],[],[7,62,63,64],[1960],2472,[]⟩ (cy (.s (.b (.s .z (.s (.s (.j ⟨[(95,.v .bool)],[],[7,8,10,62,63,64,70,71,72],[1960,2088,2664],2792,[]⟩ .z) .z) .z))) .z))))) .z))) .z))))) .z))))
theorem Yb:aJ 127 (X9 n) :=cq (au (Le n) (au kH (au (qV n) (au O1 (au (Zb n) aB))))) func127 Ya n
def L9:co xx:=⟨[.d bL,.ref (.st SI.Entry)],[.d .bool],λa=>uZ a.1 a.2.1,none⟩
theorem Ma:aJ 130 L9 :=cq aB func130 .z 0
def Mc:co xx:=⟨[.d (.sl bL),.ek [bL] .bool],[.d ah],λa=>u6 n a.1 a.2.1,none⟩
def Md:Hn SI:=(.s .z (.s (.s .z (.b (.lx ⟨[(8,.v ah)],[],[0,1,7],[],1256,[]⟩ 0 ⟨[],[],[],[],1256,[]⟩ .z))) .z))
theorem Me:aJ 186 (Mc n) :=cq aB func186 Md n
def Gp:co xx:=⟨[.d (.sl bL),.ek [bL] .bool],[.d .bool],λa=>mO n a.1 a.2.1,none⟩
theorem Gq:aJ 129 (Gp n) :=cq (au (Me n) aB) func129 .z n
def TH:co xx:=⟨[.d iO,.d gG,.d (.st SI.ef)],[.d .bool],λa=>oF n a.1 a.2.1 a.2.2.1,none⟩
def TJ:Hn SI:=(.s .z (.s (.s (.j ⟨[(30,.v .bool)],[],[3,4,5],[1000,1064,1128],1256,[]⟩ .z) .z) (.s (.s .z (.b (.lx ⟨[(34,.v ah)],[],[3,4,5,32,33],[1000,1064,1128,1320],1512,[]⟩ 0 ⟨[],[],[3,5],[1000,1128],1512,[]⟩ (cy (.s (.b (cy (.s (.j ⟨[(58,.v .bool)],[],[3,4,5,32,33,34],[1000,1064,1128,1320],2600,[]⟩ .z) .z))) .z))))) (.s (.s .z (.b (.lx ⟨[(63,.v ah)],[],[3,61,62],[1000],1768,[]⟩ 2 ⟨[],[],[],[],1768,[]⟩ (cy (.s (.b (cy (.b (.lx ⟨[(70,.v ah)],[],[3,61,62,63,68,69],[1000],2344,[]⟩ 4 ⟨[],[],[3,61,62,63],[1000],2344,[]⟩ .z)))) .z))))) .z))))
theorem TK:aJ 81 (TH n) :=cq (au (Yb n) (au (pO n) (au (Le n) (au (Sj n) (au (QS n) (au zy (au (Gq n) (au Ma aB)))))))) func81 TJ n
def QV:co xx:=⟨[.d (.st SI.ef)],[.fresh aG],λa=>tO n a.1,none⟩
def QW:Hn SI:=(cy (.s (.s .z (.b (.l ⟨[(3,.o 1448),(9,.v ah)],[(1448,.l aG)],[7,8],[],1449,[(3,aG)]⟩ 0 ⟨[(3,.o 1448)],[(1448,.l aG)],[],[],1449,[]⟩ .z))) .z))
theorem QX:aJ 82 (QV n) :=cq aB func82 QW n
def Zc:co xx:=⟨[.d (.st SI.il),.d (.st SI.ef)],[.d (.st SI.ky),.d ah],λa=>Am n a.1 a.2.1,none⟩
theorem Zd:aJ 51 (Zc n) :=cq (au (akP n) (au (TK n) (au (QX n) (au (Sg n) aB)))) func51 .z n
def Mf:co xx:=⟨[.mut ay,.ek [ay,ay] ah],[.mu ay],λa=>u7 n a.1 a.2.1,none⟩
theorem Mg:aJ 191 (Mf n):=by
 have hcall:eT Tryz.prog 191:=⟨_,func191,by kernel_rfl,by kernel_rfl⟩;refine An hcall (λ a r h=>?_) rfl;obtain⟨l,φ,⟨⟩⟩:=a;refine aaq (X:=xx) (i:=SI.my) (hI:=(inferInstance:Inhabited ax)) Tryz.so191 rfl hcall Tryz.underlying92 (by kernel_rfl) (λ x t ht=>?_) h;cases x;have ht:t∈[_,_,_,_]:=ht;simp only[aN,gB,or_false]at ht;rcases ht with rfl |rfl |rfl |rfl<;>exact⟨_,rfl,trivial⟩
def Dn:co xx:=⟨[.d ay,.d ay],[.d ah],λa=>iH a.1 a.2.1,none⟩
theorem Dp:aJ 192 Dn :=cq (au l5 aB) func192 .z 0
def O4:co xx:=⟨[.d aG],[.d ah],λa=>kT a.1,none⟩
def O5:Hn SI:=(.s .z (.s (.s (.j ⟨[(9,.v .bool)],[],[1],[1000],1128,[]⟩ .z) .z) .z))
theorem AX:aJ 196 O4 :=cq (au kH aB) func196 O5 0
def TM:co xx:=⟨[.d aG],[.d ah],λa=>oG a.1,none⟩
theorem FU:aJ 194 TM :=cq (au kH (au zy (au AX aB))) func194 .z 0
def BR:co xx:=⟨[.d aG],[.d ah],λa=>nN a.1,none⟩
theorem BU:aJ 197 BR :=cq aB func197 .z 0
def Dq:co xx:=⟨[.d aG],[.d ah],λa=>oK a.1,none⟩
theorem Dr:aJ 198 Dq :=cq aB func198 .z 0
def TN:co xx:=⟨[.d ay,.d ah],[.d ay,.d .bool],λa=>Bn a.1 a.2.1,none⟩
theorem TP:aJ 240 TN :=cq (au oI aB) func240 .z 0
def QY:co xx:=⟨[.d (.st SI.Entry),.ref (.st SI.m8),.ref ah],[.d .bool],λa=>j6 a.1 a.2.1 a.2.2.1,none⟩
theorem QZ:aJ 279 QY :=cq aB func279 .z 0
def Jj:co xx:=⟨[.d (.sl (.st SI.Entry)),.ek [.st SI.Entry] .bool],[.d ah],λa=>kg n a.1 a.2.1,none⟩
def Jk:Hn SI:=(.s .z (.s (.s .z (.b (.lx ⟨[(8,.v ah)],[],[0,1,7],[],1256,[]⟩ 0 ⟨[],[],[],[],1256,[]⟩ .z))) .z))
theorem wP:aJ 236 (Jj n) :=cq aB func236 Jk n
def Ze:co xx:=⟨[.d iO,.d ah],[.d ah],λa=>Ao n a.1 a.2.1,none⟩
def Zf:Hn SI:=(cy (.s (.s .z (.b (.lx ⟨[(14,.v ah)],[],[3,5,12,13],[1064,1256],1640,[]⟩ 0 ⟨[],[],[],[],1640,[]⟩ (cy (.s (.b (gp (.s (.j ⟨[(8,.v ah)],[],[],[],2344,[]⟩ .z) .z))) .z))))) .z))
theorem Zg:aJ 241 (Ze n) :=cq (au (wP n) (au QZ aB)) func241 Zf n
def O6:co xx:=⟨[.d iO,.d aG],[.d ah],λa=>kU n a.1 a.2.1,none⟩
def O7:Hn SI:=(cy (.s (.s (.j ⟨[(20,.v .bool)],[],[5,6],[],1704,[]⟩ .z) .z) .z))
theorem O8:aJ 201 (O6 n) :=cq (au (Zg n) (au FU aB)) func201 O7 n
def Gr:dg xx:=⟨[.p 0],[(0,fp),(1,.l aG)],[.v ah],[(0,fp),(1,.l aG)],λv=>mQ n v.1 v.2.1 v.2.2.1 v.2.2.2.1 v.2.2.2.2.1 v.2.2.2.2.2.1 v.2.2.2.2.2.2.1 v.2.2.2.2.2.2.2.1 v.2.2.2.2.2.2.2.2.1 v.2.2.2.2.2.2.2.2.2⟩
def Gs:co xx:=⟨[],[.d .bool],λ_=>none,some (Gr n)⟩
theorem Gt:aJ 136 (Gs n) :=oA (au (QS n) aB) func136 .z n (by kernel_rfl) λ_=>by kernel_rfl
def Dt:dg xx:=⟨[.p 0],[(0,fp),(1,.l aG)],[.v ah],[(0,fp),(1,.l aG)],λv=>iJ n v.1 v.2.1 v.2.2.1 v.2.2.2.1 v.2.2.2.2.1 v.2.2.2.2.2.1 v.2.2.2.2.2.2.1 v.2.2.2.2.2.2.2.1 v.2.2.2.2.2.2.2.2.1 v.2.2.2.2.2.2.2.2.2⟩
def Du:co xx:=⟨[],[.d .bool],λ_=>none,some (Dt n)⟩
def Dv:Hn SI:=(gp (.s (.s .z (.b (.l ⟨[(3,.o 1960),(23,.v ah)],[(1448,.l ay),(1960,.l ah)],[4,21,22],[0,1],1961,[(3,ah)]⟩ 0 ⟨[(3,.o 1960)],[(1448,.l ay),(1960,.l ah)],[4],[0,1],1961,[]⟩ .z))) (gp (.s (.s .z (.b (.l ⟨[(7,.v ah),(56,.v ah)],[],[3,4,55],[0,1,1448,1960],2601,[]⟩ 2 ⟨[(7,.v ah)],[],[],[0,1],2601,[]⟩ (cy (.s (.b (gp (.b (.l ⟨[(7,.v ah),(9,.v ah),(61,.v ah)],[],[3,4,8,55,56,59,60],[0,1,1448,1960],3049,[]⟩ 4 ⟨[(7,.v ah)],[],[3,4,55,56],[0,1,1448,1960],3049,[]⟩ (cy (.s (.j ⟨[(7,.v ah),(9,.v ah)],[],[3,4,8,55,56,59,60,61],[0,1,1448,1960],3113,[]⟩ (.b (.s .z (.s (.j ⟨[(86,.v .bool)],[],[3,4,7,8,9,11,55,56,59,60,61],[0,1,1448,1960,3241],3369,[]⟩ .z) .z)))) .z)))))) .z))))) .z))))
theorem Dw:aJ 137 (Du n) :=oA (au (Mg n) (au Dp (au (vQ n) aB))) func137 Dv n (by kernel_rfl) λ_=>by kernel_rfl
def Gu:dg xx:=⟨[.p 0,(.f 194 [] [])],[(0,fp),(1,.l aG)],[.v ah],[(0,fp),(1,.l aG)],λv=>qx n v.1 v.2.1 v.2.2.1 v.2.2.2.1 v.2.2.2.2.1 v.2.2.2.2.2.1 v.2.2.2.2.2.2.1 v.2.2.2.2.2.2.2.1 v.2.2.2.2.2.2.2.2.1 v.2.2.2.2.2.2.2.2.2⟩
def Gv:co xx:=⟨[],[.d .bool],λ_=>none,some (Gu n)⟩
def Gw:Hn SI:=(cy (.s (.s .z (.b (.l ⟨[(5,.v ah),(13,.v ah)],[],[1,11,12],[0,1],1512,[]⟩ 0 ⟨[(5,.v ah)],[],[],[0,1],1512,[]⟩ .z))) .z))
theorem Gx:aJ 193 (Gv n) :=oA (au FU aB) func193 Gw n (by kernel_rfl) λ_=>by kernel_rfl
def Dx:dg xx:=⟨[.p 0],[(0,fp),(1,.l aG)],[.v ah],[(0,fp),(1,.l aG)],λv=>kE n v.1 v.2.1 v.2.2.1 v.2.2.2.1 v.2.2.2.2.1 v.2.2.2.2.2.1 v.2.2.2.2.2.2.1 v.2.2.2.2.2.2.2.1 v.2.2.2.2.2.2.2.2.1 v.2.2.2.2.2.2.2.2.2⟩
def Dy:co xx:=⟨[],[.d .bool],λ_=>none,some (Dx n)⟩
theorem Dz:aJ 138 (Dy n) :=oA (au (Gx n) aB) func138 .z n (by kernel_rfl) λ_=>by kernel_rfl
def zA:dg xx:=⟨[.p 0,(.f 196 [] [])],[(0,fp),(1,.l aG)],[.v ah],[(0,fp),(1,.l aG)],λv=>mD n v.1 v.2.1 v.2.2.1 v.2.2.2.1 v.2.2.2.2.1 v.2.2.2.2.2.1 v.2.2.2.2.2.2.1 v.2.2.2.2.2.2.2.1 v.2.2.2.2.2.2.2.2.1 v.2.2.2.2.2.2.2.2.2⟩
def zB:co xx:=⟨[],[.d .bool],λ_=>none,some (zA n)⟩
def zC:Hn SI:=(cy (.s (.s .z (.b (.l ⟨[(5,.v ah),(13,.v ah)],[],[1,11,12],[0,1],1512,[]⟩ 0 ⟨[(5,.v ah)],[],[],[0,1],1512,[]⟩ .z))) .z))
theorem zD:aJ 195 (zB n) :=oA (au AX aB) func195 zC n (by kernel_rfl) λ_=>by kernel_rfl
def BV:dg xx:=⟨[.p 0],[(0,fp),(1,.l aG)],[.v ah],[(0,fp),(1,.l aG)],λv=>jF n v.1 v.2.1 v.2.2.1 v.2.2.2.1 v.2.2.2.2.1 v.2.2.2.2.2.1 v.2.2.2.2.2.2.1 v.2.2.2.2.2.2.2.1 v.2.2.2.2.2.2.2.2.1 v.2.2.2.2.2.2.2.2.2⟩
def BX:co xx:=⟨[],[.d .bool],λ_=>none,some (BV n)⟩
theorem BZ:aJ 139 (BX n) :=oA (au (zD n) aB) func139 .z n (by kernel_rfl) λ_=>by kernel_rfl
def zF:dg xx:=⟨[.p 0,(.f 197 [] [])],[(0,fp),(1,.l aG)],[.v ah],[(0,fp),(1,.l aG)],λv=>mE n v.1 v.2.1 v.2.2.1 v.2.2.2.1 v.2.2.2.2.1 v.2.2.2.2.2.1 v.2.2.2.2.2.2.1 v.2.2.2.2.2.2.2.1 v.2.2.2.2.2.2.2.2.1 v.2.2.2.2.2.2.2.2.2⟩
def zG:co xx:=⟨[],[.d .bool],λ_=>none,some (zF n)⟩
def zH:Hn SI:=(cy (.s (.s .z (.b (.l ⟨[(5,.v ah),(13,.v ah)],[],[1,11,12],[0,1],1512,[]⟩ 0 ⟨[(5,.v ah)],[],[],[0,1],1512,[]⟩ .z))) .z))
theorem zI:aJ 195 (zG n) :=oA (au BU aB) func195 zH n (by kernel_rfl) λ_=>by kernel_rfl
end
end Go.Proofs
