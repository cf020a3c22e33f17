import Derived.Test.YthblhgapkimgcacGreatS2
namespace Go.Proofs
open Go.Gb Go.RowKit
abbrev fy:OP SI:=.c 10 [[.v (.sl bE),.v (.sl bg),.v (.sl bH),.v (.sl bq),.v (.sl bO),.v (.sl bK),.v (.sl aY),.v ah,.v (.sl ay),.o 1]]
abbrev qr:OP SI:=.c 1 [[.o 1]]
abbrev rI:OP SI:=.c 2 [[.v (.sl bE),(.v (.sl (.sl ah)))]]
abbrev tM:OP SI:=.c 10 [[.v (.sl bE),.v (.sl bg),.v (.sl bH),.v (.sl bq),.v (.sl bO),.v (.sl bK),.v (.sl aY),.v ah,.v (.sl ay),.o 2]]
abbrev uA:OP SI:=.c 2 [[.v ah,.v ah]]
abbrev ux:OP SI:=.c 4 [[.v ah,.v ah,.v ah,.v ah]]
abbrev wv:OP SI:=.c 1 [[.o 1384]]
abbrev Hb:OP SI:=.c 9 [[.v ah,.v ah,.o 2473,.v ah,.v ah,.v ah,.v ah,.v ah,.v ah]]
abbrev cy(a:Hn SI):Hn SI:=.s .z (.s .z a)
abbrev gA(a:Hn SI):Hn SI:=.s .z (.s .z (.s .z a))
abbrev sE(a:Hn SI):Hn SI:=.s .z (.s .z (.s .z (.s .z a)))
abbrev wx(a:Hn SI):Hn SI:=.s .z (.s .z (.s .z (.s .z (.s .z a))))
abbrev Hd(a:Hn SI):Hn SI:=.s .z (.s .z (.s .z (.s .z (.s .z (.s .z (.s .z (.s .z (.s .z (.s .z a)))))))))
open Tryz
noncomputable section
variable (n:Nat)
def acz:cp xx:=⟨[.d ah],[.d (.st SI.Expr)],λa=>u7 a.1,none⟩
theorem acA:aJ 9 acz :=cq aB func9 .z 0
def ahu:cp xx:=⟨[.d bq],[.d (.st SI.kw)],λa=>yR a.1,none⟩
theorem ahv:aJ 8 ahu :=cq aB func8 .z 0
def OG:cp xx:=⟨[],[.fresh .str],λ_=>wZ,none⟩
theorem OH:aJ 42 OG :=cq aB func42 .z 0
mutual
theorem aoO:∀g:cB,(toE g).wt<=4000000->p0 (toE g) (qY g)
 |⟨op,n,s,key,args⟩,h=>by
  simp only[toE,ET.wt]at h;have:=ET.qS (Ir args);simp only[toE,qY,p0];exact⟨n,key,_,rfl,by unfold maxLen;omega,by omega,XP args (by omega)⟩
theorem XP:∀l:List cB,ET.th (Ir l)<=4000000->k8 (Ir l) (tu l)
 |[],_=>by simp only[Ir,tu,k8]
 |x::xs,h=>by
  simp only[Ir,ET.th]at h;simp only[Ir,tu,k8];exact⟨_,_,rfl,aoO x (by omega),XP xs (by omega)⟩
end
def OI:cp xx:=⟨[],[.d .bool],λ_=>none,some ⟨[.v (.sl bE)],[],[.p 1000],[(1000,rI)],λv=>kN v⟩⟩
theorem afg:∀l:U eu,rj (l.map toD)<=4000000->k9 (l.map toD) (l.map Bh)
 |[],_=>by simp only[List.map_nil,k9]
 |x::xs,h=>by
  simp only[aF,rj,List.foldr_cons,toD,ET.wt]at h;have:=ET.qS (Ir x.eL);simp only[aF,k9];refine⟨_,_,rfl,⟨_,_,_,_,_,rfl,by simp only[toD];unfold maxLen;omega,?_⟩,afg xs (by simp only[rj];omega)⟩;simp only[toD,p0];exact⟨_,_,_,rfl,by unfold maxLen;omega,by omega,by rw[<- tC];exact XP _ (by omega)⟩
theorem OJ:aJ 43 OI:=by
 have hcall:eU Tryz.prog 43:=⟨_,func43,by kernel_rfl,by kernel_rfl⟩;refine MY hcall ?_;intro v r hr;have h':kN v=some r:=hr;unfold kN at h';cases hb:Nat.ble (rj (List.map toD v)) 4000000 with
 |false=>rw[hb]at h';cases h'
 |true=>
  rw[hb]at h';have h'':some (v,oK (List.map toD v))=some r:=h';injection h'' with e;subst e;have hw:=Nat.le_of_ble_eq_true hb;have hlen:=UC (List.map toD v);have hn:∀d∈List.map toD v,d.2.names.length<=4000000:=λd hd=>by have h1:=UD hd;have h2:=ET.pc d.2;omega
  exact abR (TL:=69) (TG:=169) (TI:=3) hcall (afg v hw) λsv w hS=>an4 (List.map toD v) (by omega) (λ d hd=>Nat.le_trans (hn d hd) (by omega))
   (λ d hd v0 v1 v2 v3 v4 w hE=>callsIn_wide.1 (alW 0 d.2 v0 v1 v2 v3 v4 w hE (Nat.le_trans (hn d hd) (by omega)))) sv w hS
def Ti:cp xx:=⟨[.d (.sl ah),.d ah],[.fresh ah],λa=>qG a.1 a.2.1,none⟩
theorem Tj:aJ 173 Ti:=by
 have hcall:eU Tryz.prog 173:=⟨_,func173,by kernel_rfl,by kernel_rfl⟩;refine zz hcall (λ a r h=>?_) rfl;obtain⟨l,c,⟨⟩⟩:=a;have h':qG l c=some r:=h
 match l,h' with
 |[x],h'=>
  simp only[qG]at h';cases hb:(decide (0<=c)&&decide (c<=1000000000000))with
  |false=>rw[hb]at h';cases h'
  |true=>
   rw[hb]at h';have h'':some (List.replicate c.toNat x)=some r:=h';injection h'' with e;subst e;simp only[aL,aV]at hb;obtain⟨h1,h2⟩:=hb;obtain⟨k,hk⟩:=Int.eq_ofNat_of_zero_le h1;subst hk;exact agQ (E:=3) (c:=k) hcall λa cap w hx=>aj3 x k (Int.ofNat_le.1 (by simpa using h2)) a cap w hx
def XQ:cp xx:=⟨[.d (.sl ah),.d ah],[.d ah],λa=>EA n a.1 a.2.1,none⟩
def XR:Hn SI:=(.s .z (.s (.s .z (.b (.lx ⟨[(8,.v ah)],[],[0,1,7],[],1256,[]⟩ 0 ⟨[],[],[],[],1256,[]⟩ .z))) .z))
theorem XT:aJ 220 (XQ n) :=cq aB func220 XR n
def OL:cp xx:=⟨[.d (.sl ah),.d ah],[.d .bool],λa=>qZ n a.1 a.2.1,none⟩
theorem OM:aJ 174 (OL n) :=cq (au (XT n) aB) func174 .z n
def Bt:cp xx:=⟨[.ref (.st SI.graph),.d ah],[.fresh ah],λa=>jB n a.1 a.2.1,none⟩
def Bu:Hn SI:=(sE (.s (.b (.l ⟨[(6,.od 2024)],[(1448,.l ah),(2024,.l ah)],[0,5],[],2025,[]⟩ 0 ⟨[],[(1448,.l ah)],[5],[],2024,[]⟩ (.s .z (.b (gA (.b (.l ⟨[(6,.od 3049),(35,.v ah)],[(1448,.l ah),(3049,.l ah)],[0,5,7,33,34],[],3050,[]⟩ 2 ⟨[(6,.od 3049)],[(1448,.l ah),(3049,.l ah)],[0,5],[],3050,[]⟩ (cy (.s (.j ⟨[(6,.od 3114)],[(1448,.l ah),(3114,.l ah)],[0,5,7,33,34,35],[],3115,[]⟩ (.b (.s .z (.s (.j ⟨[(49,.v .bool)],[],[0,5,6,7,8,33,34,35],[1448,3049],3434,[]⟩ .z) .z)))) .z))))))))) .z))
theorem Bv:aJ 114 (Bt n) :=cq (au Tj (au (OM n) aB)) func114 Bu n
def LV:cp xx:=⟨[.d .str],[.d .bool],λa=>cmp_isNaN_string a.1,none⟩
theorem LW:aJ 175 LV :=cq aB func175 .z 0
def Jb:cp xx:=⟨[.d .str,.d .str],[.d ah],λa=>nH a.1 a.2.1,none⟩
theorem Jc:aJ 115 Jb :=cq (au LW aB) func115 .z 0
def Kv:cp xx:=⟨[.d (.sl .str),.d (.sl .str)],[.d ah],λa=>lD n a.1 a.2.1,none⟩
def Kw:Hn SI:=(.s .z (.s (.s .z (.b (.lx ⟨[(11,.v ah)],[],[0,1,9,10],[],1256,[]⟩ 0 ⟨[],[],[0,1],[],1256,[]⟩ .z))) .z))
theorem Ky:aJ 71 (Kv n) :=cq (au Jc aB) func71 Kw n
def zi:df xx:=⟨[.v ah,.p 0],[(0,qr),(1,.l .bool)],[.v .bool],[(0,qr),(1,.l .bool)],λv=>mh v.1 v.2⟩
def zk:cp xx:=⟨[],[.d .bool],λ_=>none,some (zi)⟩
theorem zl:aJ 73 zk :=oA aB func73 .z 0 (by kernel_rfl) λ_=>by kernel_rfl
def Gf:df xx:=⟨[.v (.sl ah),(.f 73 [] [.p 0])],[(0,qr),(1,.l .bool)],[.v ah],[(0,qr),(1,.l .bool)],λv=>mK n v.1 v.2⟩
def Gg:cp xx:=⟨[],[.d .bool],λ_=>none,some (Gf n)⟩
def Gh:Hn SI:=(.s .z (.s (.s .z (.b (.lx ⟨[(8,.v ah)],[(0,qr),(1,.l .bool)],[0,1,7],[],1256,[]⟩ 0 ⟨[],[(0,qr),(1,.l .bool)],[],[],1256,[]⟩ .z))) .z))
theorem Gi:aJ 116 (Gg n) :=oA (au zl aB) func116 Gh n (by kernel_rfl) λ_=>by kernel_rfl
def Bw:df xx:=⟨[.v (.sl ah),(.f 73 [] [.p 0])],[(0,qr),(1,.l .bool)],[.v .bool],[(0,qr),(1,.l .bool)],λv=>ic n v.1 v.2⟩
def Bz:cp xx:=⟨[],[.d .bool],λ_=>none,some (Bw n)⟩
theorem BB:aJ 72 (Bz n) :=oA (au (Gi n) aB) func72 .z n (by kernel_rfl) λ_=>by kernel_rfl
def Jd:cp xx:=⟨[.ref (.st SI.graph)],[.fresh ah],λa=>nI n a.1,none⟩
def Je:Hn SI:=(gA (.s (.s .z (.b (.l ⟨[(4,.o 2024),(20,.v ah)],[(1448,wv),(2024,.l ah),(1384,.l .bool)],[0,3,19],[],2025,[(4,ah)]⟩ 0 ⟨[(4,.o 2024)],[(2024,.l ah)],[],[],2025,[]⟩ (cy (.s (.b (.s .z (.s (.s .z (.b (.l ⟨[(5,.v ah),(27,.v ah)],[(1448,wv),(1384,.l .bool)],[0,3,4,19,20,25,26],[2024],2537,[]⟩ 2 ⟨[(5,.v ah)],[(1448,wv),(1384,.l .bool)],[0,3,4,19,20],[2024],2537,[]⟩ (cy (.s (.j ⟨[(5,.v ah)],[(1448,wv),(1384,.l .bool)],[0,3,4,19,20,25,26,27],[2024],2601,[]⟩ (.b (cy (.s (.j ⟨[(66,.v .bool)],[],[0,3,4,5,6,19,20,25,26,27],[1384,1448,2024],3177,[]⟩ .z) .z)))) .z))))) .z))) .z))))) .z))
theorem Jf:aJ 45 (Jd n) :=cq (au (BB n) aB) func45 Je n
def BD:df xx:=⟨[.p 0,.v ah],[(0,rI)],[.oz 1000],[(0,rI),(1000,.l .str)],λv=>jD n v.1 v.2.1 v.2.2⟩
def BG:cp xx:=⟨[],[.d .bool],λ_=>none,some (BD n)⟩
def BH:Hn SI:=(sE (.b (.lx ⟨[(6,.o 1512),(7,.v ah)],[(1512,.l .str)],[0,1,5],[0,1192],1513,[(6,.str)]⟩ 999999 ⟨[],[],[],[],1512,[]⟩ (.b (cy (.s (.s .z (.b (.l ⟨[(8,.v ah),(34,.v ah)],[],[0,1,5,6,32,33],[0,1192,2153],2921,[]⟩ 2 ⟨[(8,.v ah)],[],[0,1,5,6],[0,1192,2153],2921,[]⟩ (cy (.s (.j ⟨[(8,.v ah)],[],[0,1,5,6,32,33,34],[0,1192,2153],2985,[]⟩ (.b (.s .z (.s (.j ⟨[(57,.v .bool)],[],[0,1,5,6,8,10,32,33,34],[0,1192,2153],3177,[]⟩ .z) .z)))) .z))))) .z))))))
theorem BJ:aJ 70 (BG n) :=oA (au (Bv n) aB) func70 BH n (by kernel_rfl) λ_=>by kernel_rfl
def zm:df xx:=⟨[.p 0],[(0,rI)],[.oz 1000],[(0,rI),(1000,.l .str)],λv=>iT n v.1 v.2⟩
def zn:cp xx:=⟨[],[.d .bool],λ_=>none,some (zm n)⟩
def zo:Hn SI:=(cy (.s (.s .z (.b (.l ⟨[(3,.oz 1512),(11,.v ah)],[(0,rI),(1512,.l .str)],[0,10],[],1513,[(1099511627779,.str)]⟩ 0 ⟨[(3,.oz 1512)],[(0,rI),(1512,.l .str)],[],[],1513,[]⟩ (cy (.s (.j ⟨[(3,.oz 1577)],[(0,rI),(1577,.l .str)],[0,10,11],[],1578,[]⟩ (.b (cy (.s (.s (.j ⟨[(18,.v .bool)],[],[0,3,5,10,11],[0,1512,1833],1961,[]⟩ .z) .z) (.s (.j ⟨[(40,.v .bool)],[],[0,3,5,10,11],[0,1512,1833],1961,[]⟩ .z) .z))))) .z))))) .z))
theorem zq:aJ 44 (zn n) :=oA (au (BJ n) (au (Ky n) aB)) func44 zo n (by kernel_rfl) λ_=>by kernel_rfl
def XU:cp xx:=⟨[.d iM],[.fresh ah,.d (.sl .str),.d ah],λa=>jE n a.1,none⟩
def XV:Hn SI:=(cy (.s (.s .z (.b (.l ⟨[(15,.v ah)],[(1256,.m .str .bool)],[1,5,13,14],[1000,1384],1576,[]⟩ 0 ⟨[],[(1256,.m .str .bool)],[1,5],[1000],1576,[]⟩ .z))) (.s (.s .z (.b (.lx ⟨[(25,.v ah)],[(1256,.m .str .bool)],[1,5,23,24],[1000],1832,[]⟩ 2 ⟨[],[],[1],[1000],1832,[]⟩ .z))) (.s .z (.s (.s .z (.s (.j ⟨[(43,.v .bool)],[],[10,11],[1960,2152],2280,[]⟩ .z) .z)) .z)))))
theorem Jg:aJ 24 (XU n) :=cq (au OH (au OJ (au (zq n) (au (Jf n) aB)))) func24 XV n
def QB:cp xx:=⟨[.d (.sl (.st SI.ij))],[.fresh (.st SI.side)],λa=>pq n a.1,none⟩
def QC:Hn SI:=(cy (.s (.s .z (.b (.l ⟨[(10,.v ah)],[(1192,.l (.st SI.side))],[0,3,9],[],1512,[]⟩ 0 ⟨[],[(1192,.l (.st SI.side))],[3],[],1512,[]⟩ .z))) .z))
theorem Dn:aJ 120 (QB n) :=cq aB func120 QC n
def QD:cp xx:=⟨[.d (.st SI.ij)],[.d .bool],λa=>tH a.1,none⟩
theorem QE:aJ 176 QD :=cq aB func176 .z 0
def Fp:cp xx:=⟨[.d (.st SI.side)],[.d .bool],λa=>gH a.1,none⟩
theorem uH:aJ 121 Fp :=cq aB func121 .z 0
def Tk:cp xx:=⟨[.d ah],[.d .bool],λa=>cmp_isNaN_int a.1,none⟩
theorem Tm:aJ 66 Tk :=cq aB func66 .z 0
def OO:cp xx:=⟨[.d ah,.d ah],[.d ah],λa=>cmp_Compare_int a.1 a.2.1,none⟩
theorem lZ:aJ 39 OO :=cq (au Tm aB) func39 .z 0
def acB:cp xx:=⟨[.d (.sl ah)],[.d ah],λa=>rJ n a.1,none⟩
def acC:Hn SI:=(cy (.s (.s .z (.b (.lx ⟨[(8,.v ah)],[],[3,6,7],[],1320,[]⟩ 0 ⟨[],[],[3],[],1320,[]⟩ .z))) .z))
theorem Fq:aJ 38 (acB n) :=cq aB func38 acC n
def OQ:cp xx:=⟨[.d (.st SI.ij),.d (.st SI.ij)],[.d ah],λa=>q8 n a.1 a.2.1,none⟩
theorem OT:aJ 177 (OQ n) :=cq (au lZ (au (Fq n) aB)) func177 .z n
def Fs:cp xx:=⟨[.d (.st SI.side),.d (.st SI.side)],[.d .bool],λa=>lF a.1 a.2.1,none⟩
theorem Fu:aJ 178 Fs :=cq aB func178 .z 0
def Tn:cp xx:=⟨[.d (.sl (.st SI.ij))],[.d .bool],λa=>vJ n a.1,none⟩
def Tp:Hn SI:=(.s .z (.s (.s (.j ⟨[(16,.v .bool)],[],[0],[],1064,[]⟩ .z) .z) (.s .z (.s (.s .z (.b (.lx ⟨[(21,.v ah)],[],[0,3,19,20],[1128],1448,[]⟩ 0 ⟨[],[],[3],[1128],1448,[]⟩ (cy (.s (.b (cy (.s (.s (.j ⟨[(61,.v .bool)],[],[0,3,4,19,20,21],[1128],2536,[]⟩ .z) .z) (.s (.j ⟨[(74,.v .bool)],[],[0,3,19,20,21],[1128],2536,[]⟩ .z) .z)))) .z))))) (.s (.s .z (.b (.lx ⟨[(78,.v ah)],[],[3,77],[1128],1640,[]⟩ 2 ⟨[],[],[3],[1128],1640,[]⟩ (cy (.s (.b (cy (.b (.lx ⟨[(8,.v ah)],[],[3,7,77,78],[1128],2024,[]⟩ 4 ⟨[],[],[3,77,78],[1128],2024,[]⟩ (.s .z (.s (.b (.s (.j ⟨[(106,.v .bool)],[],[3,7,8,77,78],[1128],2280,[]⟩ .z) .z)) .z)))))) .z))))) .z)))))
theorem Tq:aJ 117 (Tn n) :=cq (au (Dn n) (au QE (au uH (au (OT n) (au Fu aB))))) func117 Tp n
def Zb:cp xx:=⟨[.mut ah],[.mu ah],λa=>pu n a.1,none⟩
theorem vT:aJ 118 (Zb n):=by
 have hcall:eU Tryz.prog 118:=⟨_,func118,by kernel_rfl,by kernel_rfl⟩;refine zz hcall (λ a r h=>?_) rfl;obtain⟨l,⟨⟩⟩:=a;exact ajY Tryz.so118 rfl hcall h
def QF:cp xx:=⟨[.mut ah],[.whole 0,.mu ah],λa=>pz n a.1,none⟩
def QG:Hn SI:=(cy (.s (.s .z (.b (.lx ⟨[(3,.v ah)],[],[0],[0],1320,[]⟩ 0 ⟨[],[],[0],[0],1320,[]⟩ (.s .z (.s (.b (.s .z (.s (.s .z (.s (.s .z (.b (.l ⟨[(3,.v ah),(5,.v ah)],[(0,.l ah)],[0,4],[],2536,[]⟩ 2 ⟨[(3,.v ah)],[(0,.l ah)],[0],[],2536,[]⟩ (.s .z (.s (.j ⟨[(3,.v ah)],[(0,.l ah)],[0,4,5],[],2792,[]⟩ .z) .z))))) .z)) .z))) .z))))) .z))
theorem vC:aJ 119 (QF n) :=cq aB func119 QG n
def QH:cp xx:=⟨[.d (.sl (.st SI.ij))],[.fresh ay,.d ah],λa=>tJ n a.1,none⟩
def QI:Hn SI:=(gA (.s (.s .z (.b (.l ⟨[(4,.o 1576),(19,.v ah)],[(1576,.l ah)],[0,17,18],[],1577,[(4,ah)]⟩ 0 ⟨[(4,.o 1576)],[(1576,.l ah)],[0],[],1577,[]⟩ .z))) (sE (.s (.s .z (.b (.l ⟨[(8,.o 2409),(38,.v ah)],[(2409,.l ay)],[4,7,37],[1576,1961],2410,[(8,ay)]⟩ 2 ⟨[(8,.o 2409)],[(2409,.l ay)],[],[],2410,[]⟩ (cy (.s (.b (cy (.s (.s .z (.b (.l ⟨[(10,.o 2858),(43,.v ah)],[(2858,.l ah)],[4,7,8,9,37,38,41,42],[1576,1961,2409],2859,[(10,ah)]⟩ 4 ⟨[(10,.o 2858)],[(2858,.l ah)],[4,7,8,9,37,38],[1576,1961,2409],2859,[]⟩ (cy (.s (.j ⟨[(10,.o 2923)],[(2923,.l ah)],[4,7,8,9,37,38,41,42,43],[1576,1961,2409],2924,[]⟩ (.b (.s .z (.s (.j ⟨[(77,.v .bool)],[],[4,7,8,9,10,12,37,38,41,42,43],[1576,1961,2409,2858,3051],3179,[]⟩ .z) .z)))) .z))))) (cy (.b (.l ⟨[(8,.o 3051),(13,.v ah)],[(3051,.l ay)],[4,7,9,10,37,38],[1576,1961,2858],3052,[]⟩ 6 ⟨[(8,.o 3051)],[(3051,.l ay)],[4,7,37,38],[1576,1961],3052,[]⟩ .z)))))) .z))))) .z))))
theorem QJ:aJ 74 (QH n) :=cq (au (Tq n) (au (vT n) (au (vC n) (au (Dn n) (au uH aB))))) func74 QI n
def XW:cp xx:=⟨[.d bH],[.fresh ay],λa=>tK n a.1,none⟩
theorem Jh:aJ 46 (XW n) :=cq (au (QJ n) aB) func46 .z n
def akI:cp xx:=⟨[.d ay],[.d .bool],λa=>nJ a.1,none⟩
theorem oJ:aJ 96 akI :=cq aB func96 .z 0
def afh:cp xx:=⟨[.d ay],[.d ay,.d .bool],λa=>sw a.1,none⟩
theorem Ji:aJ 63 afh :=cq (au oJ aB) func63 .z 0
def Zc:cp xx:=⟨[.d ay,.d ay],[.d ay,.d .bool],λa=>sD a.1 a.2.1,none⟩
def Zd:Hn SI:=(.s .z (.s (.s (.j ⟨[(13,.v .bool)],[],[2,3,4],[1000,1064,1128],1256,[]⟩ .z) .z) .z))
theorem BK:aJ 75 Zc :=cq (au oJ (au Ji aB)) func75 Zd 0
def anj:cp xx:=⟨[.d ay],[.d ah],λa=>pE a.1,none⟩
theorem zu:aJ 34 anj :=cq (au Ji aB) func34 .z 0
def Tt:cp xx:=⟨[.d (.sl ay),.d (.sl ay)],[.d ah,.d (.st SI.ij)],λa=>qH n a.1 a.2.1,none⟩
def Tv:Hn SI:=(cy (.s (.s .z (.b (.l ⟨[(6,.v ah),(18,.v ah)],[(1192,uA)],[1,5,7,16,17],[1064],1576,[]⟩ 0 ⟨[(6,.v ah)],[(1192,uA)],[5,7],[1064],1576,[]⟩ (cy (.s (.b (cy (.b (.l ⟨[(6,.v ah),(24,.v ah)],[(1192,uA)],[1,5,7,9,16,17,18,22,23],[1064,1768],2088,[]⟩ 2 ⟨[(6,.v ah)],[(1192,uA)],[1,5,7,16,17,18],[1064],2088,[]⟩ (cy (.s (.j ⟨[(6,.v ah)],[(1192,uA)],[1,5,7,9,16,17,18,22,23,24],[1064,1768],2152,[]⟩ .z) .z)))))) .z))))) .z))
theorem FV:aJ 47 (Tt n) :=cq (au BK (au zu (au lZ (au (Fq n) aB)))) func47 Tv n
def QK:cp xx:=⟨[.d iM],[.fresh ah,.d (.st SI.ij),.d .bool],λa=>pF n a.1,none⟩
def QL:Hn SI:=(cy (.s (.s .z (.b (.l ⟨[(19,.v ah)],[(1448,.l (.sl ay))],[3,5,17,18],[1128],1832,[]⟩ 0 ⟨[],[(1448,.l (.sl ay))],[3,5],[1128],1832,[]⟩ (cy (.s (.j ⟨[],[(1448,.l (.sl ay))],[3,5,17,18,19],[1128],1896,[]⟩ .z) .z))))) (.s (.s .z (.b (.lx ⟨[(35,.v ah)],[],[3,5,34],[1128,1448],2024,[]⟩ 2 ⟨[],[],[3],[1128],2024,[]⟩ (cy (.s (.b (cy (.b (.lx ⟨[(9,.v ah)],[],[3,5,8,34,35],[1128,1448],2408,[]⟩ 4 ⟨[],[],[3,5,34,35],[1128,1448],2408,[]⟩ .z)))) .z))))) .z)))
theorem QM:aJ 25 (QK n) :=cq (au (Jh n) (au (FV n) aB)) func25 QL n
def Fv:cp xx:=⟨[.d (.st SI.io)],[.fresh (.st SI.Finding)],λa=>fH n a.1,none⟩
def Fw:Hn SI:=(cy (.s (.j ⟨[(3,.o 1192)],[(1192,.l (.st SI.Finding))],[1],[1000],1193,[(3,.st SI.Finding)]⟩ .z) (.s (.j ⟨[(3,.o 1193)],[(1193,.l (.st SI.Finding))],[],[],1194,[]⟩ (cy (.s (.s .z (.s (.s .z (.b (.l ⟨[(41,.v ah)],[(2153,Hb),(2473,.l .str)],[1,3,10,39,40],[1000,1192,1385],2474,[(9818690,.str)]⟩ 0 ⟨[],[(2153,Hb),(2473,.l .str)],[3,10],[1192],2474,[]⟩ .z))) .z)) .z))) .z)))
theorem Fx:aJ 14 (Fv n) :=cq (au (Jg n) (au (QM n) aB)) func14 Fw n
def XY:cp xx:=⟨[.nil,.d ah],[.fresh ay],λa=>NI a.1 a.2.1,none⟩
theorem XZ:aJ 245 XY :=cq aB func245 .z 0
def QN:cp xx:=⟨[.d (.sl (.sl ay))],[.fresh ay],λa=>yS n a.1,none⟩
def QO:Hn SI:=(cy (.s (.s .z (.b (.l ⟨[(3,.v ah),(11,.v ah)],[],[0,9,10],[],1320,[]⟩ 0 ⟨[(3,.v ah)],[],[0],[],1320,[]⟩ .z))) (.s .z (.s (.s .z (.b (.l ⟨[(6,.o 1704),(27,.v ah)],[(1704,.l ay)],[25,26],[],1705,[]⟩ 2 ⟨[(6,.o 1704)],[(1704,.l ay)],[],[],1705,[]⟩ .z))) .z))))
theorem QR:aJ 208 (QN n) :=cq (au XZ aB) func208 QO n
def LX:cp xx:=⟨[.mut (.st SI.span),.ek [.st SI.span,.st SI.span] ah],[.mu (.st SI.span)],λa=>ve n a.1 a.2.1,none⟩
theorem LY:aJ 246 (LX n):=by
 have hcall:eU Tryz.prog 246:=⟨_,func246,by kernel_rfl,by kernel_rfl⟩;refine zz hcall (λ a r h=>?_) rfl;obtain⟨l,φ,⟨⟩⟩:=a;refine aay (X:=xx) (i:=SI.span) (hI:=(inferInstance:Inhabited aN)) Tryz.so246 rfl hcall Tryz.underlying304 (by kernel_rfl) (λ x t ht=>?_) h;cases x;have ht:t∈[_,_]:=ht;simp only[aO,gB,or_false]at ht;rcases ht with rfl |rfl<;>exact⟨_,rfl,trivial⟩
def X0:cp xx:=⟨[.d (.st SI.span),.d (.st SI.span)],[.d ah],λa=>xL a.1 a.2.1,none⟩
theorem X4:aJ 247 X0 :=cq (au lZ aB) func247 .z 0
def afi:cp xx:=⟨[.d (.sl ay),.d ah],[.fresh (.st SI.span)],λa=>JZ n a.1 a.2.1,none⟩
def afj:Hn SI:=(cy (.s (.s .z (.b (.l ⟨[(5,.o 1320),(14,.v ah)],[(1320,.l (.st SI.span))],[1,12,13],[],1321,[(5,.st SI.span)]⟩ 0 ⟨[(5,.o 1320)],[(1320,.l (.st SI.span))],[],[],1321,[]⟩ (cy (.s (.j ⟨[(5,.o 1385)],[(1385,.l (.st SI.span))],[1,12,13,14],[],1386,[]⟩ (.b (.s .z (.s (.j ⟨[(27,.v .bool)],[],[1,5,7,12,13,14],[1320,1513],1641,[]⟩ .z) .z)))) .z))))) (cy (.s (.s .z (.b (.l ⟨[(8,.o 1705),(41,.v ah)],[(1705,.l (.st SI.span))],[39,40],[1320],1706,[(8,.st SI.span)]⟩ 2 ⟨[(8,.o 1705)],[(1705,.l (.st SI.span))],[],[],1706,[]⟩ (cy (.s (.j ⟨[(8,.o 1770)],[(1770,.l (.st SI.span))],[39,40,41],[1320],1771,[]⟩ (.b (cy (.s (.j ⟨[(59,.v .bool)],[],[8,10,11,39,40,41],[1320,1705,1898],2218,[]⟩ .z) .z)))) .z))))) .z))))
theorem afk:aJ 209 (afi n) :=cq (au (LY n) (au X4 aB)) func209 afj n
def afl:cp xx:=⟨[.d (.sl (.sl ay))],[.fresh (.st SI.strip)],λa=>oD n a.1,none⟩
def afm:Hn SI:=(gA (.s (.s .z (.b (.l ⟨[(4,.o 1512),(13,.v ah)],[(1512,.l ah)],[3,11,12],[1128],1513,[(4,ah)]⟩ 0 ⟨[(4,.o 1512)],[(1512,.l ah)],[3],[1128],1513,[]⟩ .z))) (gA (.s (.s .z (.b (.l ⟨[(7,.o 1961),(8,.v ah)],[(1961,.l (.st SI.strip))],[3,4],[1128,1512],1962,[(7,.st SI.strip)]⟩ 2 ⟨[(7,.o 1961)],[(1961,.l (.st SI.strip))],[],[],1962,[]⟩ .z))) .z))))
theorem Sm:aJ 155 (afl n) :=cq (au (QR n) (au (vT n) (au (vC n) (au (afk n) aB)))) func155 afm n
def Tw:cp xx:=⟨[.d (.sl (.st SI.span)),.d (.sl (.st SI.span))],[.d .bool],λa=>vK n a.1 a.2.1,none⟩
def Tx:Hn SI:=(cy (.s (.s .z (.b (.lx ⟨[(13,.v ah)],[],[0,1,12],[],1576,[]⟩ 0 ⟨[],[],[],[],1576,[]⟩ .z))) .z))
theorem Ty:aJ 214 (Tw n) :=cq aB func214 Tx n
def ahw:cp xx:=⟨[.d (.sl (.st SI.strip))],[.fresh ay],λa=>Iu n a.1,none⟩
def ahx:Hn SI:=(cy (.s (.s .z (.b (.l ⟨[(3,.o 1192),(4,.v ah)],[(1192,.l ay)],[0],[],1193,[(3,ay)]⟩ 0 ⟨[(3,.o 1192)],[(1192,.l ay)],[],[],1193,[]⟩ (.s .z (.b (.s .z (.s (.b (.l ⟨[(5,.v ah)],[],[0,3,4],[1192],1641,[]⟩ 2 ⟨[(5,.v ah)],[],[0,3,4],[1192],1641,[]⟩ (.s (.s (.j ⟨[(30,.v .bool)],[],[0,3,4,5],[1192],1641,[]⟩ .z) .z) .z))) (.s (.s .z (.b (.l ⟨[(3,.o 2089),(39,.v ah)],[(2089,.l ay)],[0,4,5,37,38],[],2090,[]⟩ 4 ⟨[(3,.o 2089)],[(2089,.l ay)],[0,5],[],2090,[]⟩ .z))) .z)))))))) .z))
theorem X5:aJ 159 (ahw n) :=cq (au (Ty n) aB) func159 ahx n
def acD:cp xx:=⟨[.d (.sl ay)],[.d (.sl ay),.d ah],λa=>yT a.1,none⟩
theorem OU:aJ 158 acD :=cq aB func158 .z 0
def aoP:cp xx:=⟨[.d (.sl ay)],[.d (.sl ay),.d ah],λa=>ON n a.1,none⟩
def aoQ:Hn SI:=(.s .z (.s (.s .z (.b (.lx ⟨[(8,.v ah)],[],[0,6,7],[],1320,[]⟩ 0 ⟨[],[],[0],[],1320,[]⟩ .z))) .z))
theorem aoR:aJ 123 (aoP n) :=cq (au oJ (au (Sm n) (au (X5 n) (au OU aB)))) func123 aoQ n
def Tz:cp xx:=⟨[.d (.sl ay),.d (.sl ay)],[.d .bool],λa=>oF n a.1 a.2.1,none⟩
def TA:Hn SI:=(cy (.s (.s .z (.b (.lx ⟨[(13,.v ah)],[],[0,1,12],[],1576,[]⟩ 0 ⟨[],[],[],[],1576,[]⟩ .z))) .z))
theorem FW:aJ 124 (Tz n) :=cq aB func124 TA n
def ahy:cp xx:=⟨[.d (.sl ay)],[.d .bool],λa=>nZ n a.1,none⟩
theorem pM:aJ 78 (ahy n) :=cq (au (aoR n) (au (FW n) aB)) func78 .z n
def TB:cp xx:=⟨[.d iM,.d (.sl ay)],[.fresh ah],λa=>vL n a.1 a.2.1,none⟩
def TD:Hn SI:=(gA (.s (.s .z (.b (.l ⟨[(5,.o 1640),(16,.v ah)],[(1640,.l ah)],[1,14,15],[],1641,[(5,ah)]⟩ 0 ⟨[(5,.o 1640)],[(1640,.l ah)],[],[],1641,[]⟩ .z))) .z))
theorem TF:aJ 49 (TB n) :=cq (au (pM n) (au (Jh n) (au (FV n) aB))) func49 TD n
def afn:cp xx:=⟨[.d iM,.d (.sl ay)],[.fresh .str],λa=>sG n a.1 a.2.1,none⟩
def afo:Hn SI:=(gA (.s (.s .z (.b (.l ⟨[(6,.v ah),(17,.v ah)],[],[2,5,15,16],[1000,1256],1640,[]⟩ 0 ⟨[(6,.v ah)],[],[2,5],[1000,1256],1640,[]⟩ (cy (.s (.j ⟨[(6,.v ah)],[],[2,5,15,16,17],[1000,1256],1704,[]⟩ (.b (.s .z (.s (.j ⟨[(44,.v .bool)],[],[2,5,6,7,15,16,17],[1000,1256],2024,[]⟩ .z) .z)))) .z))))) (.s .z (.s (.s .z (.b (.l ⟨[(9,.o 1896),(49,.v ah)],[(1896,.l .str)],[2,6,47,48],[1000,1256],1897,[(9,.str)]⟩ 2 ⟨[(9,.o 1896)],[(1896,.l .str)],[],[],1897,[]⟩ (cy (.s (.j ⟨[(9,.o 1961)],[(1961,.l .str)],[2,6,47,48,49],[1000,1256],1962,[]⟩ (.b (.s .z (.s (.j ⟨[(68,.v .bool)],[],[2,6,9,10,47,48,49],[1000,1256,1896],2281,[]⟩ .z) .z)))) .z))))) .z))))
theorem Sn:aJ 27 (afn n) :=cq (au (TF n) aB) func27 afo n
def OV:cp xx:=⟨[.d (.sl .str),.d .str],[.d ah],λa=>q9 n a.1 a.2.1,none⟩
def OW:Hn SI:=(.s .z (.s (.s .z (.b (.lx ⟨[(8,.v ah)],[],[0,1,7],[],1256,[]⟩ 0 ⟨[],[],[],[],1256,[]⟩ .z))) .z))
theorem OX:aJ 82 (OV n) :=cq aB func82 OW n
def Jj:cp xx:=⟨[.d (.sl .str),.d .str],[.d .bool],λa=>fI n a.1 a.2.1,none⟩
theorem pO:aJ 52 (Jj n) :=cq (au (OX n) aB) func52 .z n
def LZ:cp xx:=⟨[.d .str,.ref (.sl .str)],[.d .bool],λa=>jU n a.1 a.2.1,none⟩
theorem L6:aJ 76 (LZ n) :=cq (au (pO n) aB) func76 .z n
def Gj:cp xx:=⟨[.d (.sl .str),.ek [.str] .bool],[.d ah],λa=>qp n a.1 a.2.1,none⟩
def Gl:Hn SI:=(.s .z (.s (.s .z (.b (.lx ⟨[(8,.v ah)],[],[0,1,7],[],1256,[]⟩ 0 ⟨[],[],[],[],1256,[]⟩ .z))) .z))
theorem Gm:aJ 122 (Gj n) :=cq aB func122 Gl n
def BL:cp xx:=⟨[.d (.sl .str),.ek [.str] .bool],[.d .bool],λa=>fK n a.1 a.2.1,none⟩
theorem BN:aJ 77 (BL n) :=cq (au (Gm n) aB) func77 .z n
def TH:cp xx:=⟨[.d bq,.d (.sl .str)],[.d .bool],λa=>qI n a.1 a.2.1,none⟩
theorem TJ:aJ 48 (TH n) :=cq (au (BN n) (au (L6 n) aB)) func48 .z n
def X6:cp xx:=⟨[.d iM,.d (.sl .str),.d ah],[.fresh ah],λa=>nL n a.1 a.2.1 a.2.2.1,none⟩
def X7:Hn SI:=(cy (.s (.s .z (.b (.l ⟨[(7,.o 1448),(13,.v ah)],[(1448,.l ah)],[1,2,11,12],[],1449,[(7,ah)]⟩ 0 ⟨[(7,.o 1448)],[(1448,.l ah)],[],[],1449,[]⟩ (cy (.s (.j ⟨[(7,.o 1513)],[(1513,.l ah)],[1,2,11,12,13],[],1514,[]⟩ (.b (.s .z (.s (.j ⟨[(37,.v .bool)],[],[1,2,7,8,11,12,13],[1448],1897,[]⟩ .z) .z)))) .z))))) .z))
theorem Jk:aJ 26 (X6 n) :=cq (au (TJ n) aB) func26 X7 n
def ahz:cp xx:=⟨[.d (.sl ay)],[.d ay,.d .bool],λa=>NP n a.1,none⟩
def ahA:Hn SI:=(.s .z (.s (.s .z (.b (.l ⟨[(3,.v .bool),(8,.v ah)],[(1000,ux)],[2,6,7],[],1320,[]⟩ 0 ⟨[(3,.v .bool)],[(1000,ux)],[2],[],1320,[]⟩ (cy (.s (.j ⟨[(3,.v .bool)],[(1000,ux)],[2,6,7,8],[],1384,[]⟩ .z) .z))))) .z))
theorem ahB:aJ 95 (ahz n) :=cq (au oJ aB) func95 ahA n
def afp:cp xx:=⟨[.d (.sl ay)],[.d ay,.d .bool],λa=>CX n a.1,none⟩
def afq:Hn SI:=(.s .z (.s (.s (.j ⟨[(11,.v .bool)],[],[0,2],[1000],1128,[]⟩ .z) .z) .z))
theorem Sq:aJ 59 (afp n) :=cq (au (pM n) (au (ahB n) aB)) func59 afq n
def ahC:cp xx:=⟨[.d ay,.d ah],[.d ay,.d .bool],λa=>NQ a.1 a.2.1,none⟩
def ahD:Hn SI:=(.s .z (.s (.s (.j ⟨[(12,.v .bool)],[],[1,2,4],[1000,1064],1192,[]⟩ .z) .z) .z))
theorem ahE:aJ 60 ahC :=cq (au oJ (au Ji aB)) func60 ahD 0
def uL:cp xx:=⟨[.d (.sl (.st SI.strip)),.d ah,.ek [.st SI.strip,ah] ah],[.d ah,.d .bool],λa=>iW n a.1 a.2.1 a.2.2.1,none⟩
def uM:Hn SI:=(gA (.s (.b (.l ⟨[(9,.v ah),(10,.v ah)],[],[0,1,2,8],[],1512,[]⟩ 0 ⟨[(9,.v ah)],[],[0,1,2,8],[],1512,[]⟩ .z)) .z))
theorem uN:aJ 212 (uL n) :=cq aB func212 uM n
def ahF:cp xx:=⟨[.d (.st SI.strip),.d ah],[.d ah],λa=>wG a.1 a.2.1,none⟩
theorem ahG:aJ 213 ahF :=cq aB func213 .z 0
def aoS:cp xx:=⟨[.d (.sl (.st SI.strip)),.d ah],[.d (.sl (.st SI.span))],λa=>W9 n a.1 a.2.1,none⟩
def aoT:Hn SI:=(cy (.s (.s (.j ⟨[(25,.v .bool)],[],[0,5],[],1576,[]⟩ .z) .z) .z))
theorem aoU:aJ 157 (aoS n) :=cq (au (uN n) (au ahG aB)) func157 aoT n
def X8:cp xx:=⟨[.nil,.d ah],[.fresh (.st SI.span)],λa=>NR a.1 a.2.1,none⟩
theorem X9:aJ 248 X8 :=cq aB func248 .z 0
def QS:cp xx:=⟨[.d (.sl (.sl (.st SI.span)))],[.fresh (.st SI.span)],λa=>yU n a.1,none⟩
def QT:Hn SI:=(cy (.s (.s .z (.b (.l ⟨[(3,.v ah),(11,.v ah)],[],[0,9,10],[],1320,[]⟩ 0 ⟨[(3,.v ah)],[],[0],[],1320,[]⟩ .z))) (.s .z (.s (.s .z (.b (.l ⟨[(6,.o 1704),(27,.v ah)],[(1704,.l (.st SI.span))],[25,26],[],1705,[]⟩ 2 ⟨[(6,.o 1704)],[(1704,.l (.st SI.span))],[],[],1705,[]⟩ .z))) .z))))
theorem QU:aJ 210 (QS n) :=cq (au X9 aB) func210 QT n
def vD:cp xx:=⟨[.d (.sl (.st SI.span)),.d ah,.ek [.st SI.span,ah] ah],[.d ah,.d .bool],λa=>jl n a.1 a.2.1 a.2.2.1,none⟩
def vE:Hn SI:=(gA (.s (.b (.l ⟨[(9,.v ah),(10,.v ah)],[],[0,1,2,8],[],1512,[]⟩ 0 ⟨[(9,.v ah)],[],[0,1,2,8],[],1512,[]⟩ .z)) .z))
theorem vF:aJ 249 (vD n) :=cq aB func249 vE n
def Ya:cp xx:=⟨[.d (.st SI.span),.d ah],[.d ah],λa=>lK a.1 a.2.1,none⟩
theorem Yb:aJ 250 Ya :=cq aB func250 .z 0
def afr:cp xx:=⟨[.d (.sl (.st SI.span)),.d ah],[.d .bool],λa=>CY n a.1 a.2.1,none⟩
theorem afs:aJ 211 (afr n) :=cq (au (vF n) (au Yb aB)) func211 .z n
def ahH:cp xx:=⟨[.d (.sl (.st SI.span)),.d (.sl (.st SI.span)),.ek [.bool,.bool] .bool],[.fresh (.st SI.span)],λa=>Iw n a.1 a.2.1 a.2.2.1,none⟩
def ahI:Hn SI:=(cy (.s (.s .z (.b (.l ⟨[(7,.o 1512),(19,.v ah)],[(1512,.l ah)],[0,1,2,17,18],[1320],1513,[(7,ah)]⟩ 0 ⟨[(7,.o 1512)],[(1512,.l ah)],[0,1,2],[],1513,[]⟩ .z))) (gA (.s (.s .z (.b (.l ⟨[(10,.o 1961),(11,.v ah)],[(1961,.l (.st SI.span))],[0,1,2,7],[1512],1962,[(10,.st SI.span)]⟩ 2 ⟨[(10,.o 1961)],[(1961,.l (.st SI.span))],[],[],1962,[]⟩ (.s .z (.s (.j ⟨[(10,.o 2218)],[(2218,.l (.st SI.span))],[0,1,2,7,11],[1512],2219,[]⟩ (.b (gA (.s (.j ⟨[(68,.v .bool)],[],[0,1,2,7,10,11,12,13],[1512,1961],3370,[]⟩ .z) .z)))) .z))))) .z))))
theorem ahJ:aJ 156 (ahH n) :=cq (au (QU n) (au (vT n) (au (vC n) (au (afs n) aB)))) func156 ahI n
def acE:cp xx:=⟨[.d (.sl ay),.d (.sl ay),.ek [.bool,.bool] .bool],[.d (.sl ay),.d ah],λa=>EC n a.1 a.2.1 a.2.2.1,none⟩
def acF:Hn SI:=(.s .z (.s (.s (.j ⟨[(20,.v .bool)],[],[0,1,2],[],1128,[]⟩ .z) .z) (.s (.f [6,7]) (.s .z (.s (.s .z (.b (.l ⟨[(33,.v ah)],[(1832,.l (.st SI.strip))],[2,8,9,10,31,32],[],2152,[]⟩ 0 ⟨[],[(1832,.l (.st SI.strip))],[10],[],2152,[]⟩ .z))) .z)))))
theorem acG:aJ 97 (acE n) :=cq (au (pM n) (au (Sm n) (au (aoU n) (au (ahJ n) (au (X5 n) (au OU aB)))))) func97 acF n
def Yc:cp xx:=⟨[.d .bool,.d .bool],[.d .bool],λa=>xN a.1 a.2.1,none⟩
theorem Yd:aJ 98 Yc :=cq aB func98 .z 0
def aft:cp xx:=⟨[.d (.sl ay),.d (.sl ay)],[.d (.sl ay),.d ah],λa=>CZ n a.1 a.2.1,none⟩
theorem Sr:aJ 61 (aft n) :=cq (au (acG n) (au Yd aB)) func61 .z n
def akJ:cp xx:=⟨[.d (.sl ay)],[.d ah],λa=>J2 n a.1,none⟩
def akK:Hn SI:=(gA (.s (.s .z (.b (.l ⟨[(3,.v ah),(11,.v ah)],[],[9,10],[],1512,[]⟩ 0 ⟨[(3,.v ah)],[],[],[],1512,[]⟩ .z))) .z))
theorem QV:aJ 62 (akJ n) :=cq (au (pM n) (au zu aB)) func62 akK n
def Ye:cp xx:=⟨[.d gG,.d ah],[.d ay,.d .bool],λa=>nM n a.1 a.2.1,none⟩
def Yf:Hn SI:=(cy (.s (.s (.j ⟨[(26,.v .bool)],[],[1,2,4,6],[1000,1064,1576],1768,[]⟩ .z) .z) .z))
theorem Jl:aJ 33 (Ye n) :=cq (au (Sq n) (au ahE (au (Sr n) (au (QV n) (au zu aB))))) func33 Yf n
def akL:cp xx:=⟨[],[.d .bool],λ_=>none,some (@pbG xx SI.kx SI.eK (inferInstance:Inhabited bB) we 37 35)⟩
theorem akM:aJ 36 akL:=
 MY (nk func36 (by kernel_rfl:Tryz.f36.body=some (Tryz.f36.body.getD .skip)) (by kernel_rfl)) (an3 (X:=xx) (ip:=SI.kx) (ik:=SI.eK) (hI:=(inferInstance:Inhabited bB)) Tryz.so36 rfl (nk func36 (by kernel_rfl:Tryz.f36.body=some (Tryz.f36.body.getD .skip)) (by kernel_rfl)) (nk func37 (by kernel_rfl:Tryz.f37.body=some (Tryz.f37.body.getD .skip)) (by kernel_rfl)) (fs:=(Tryz.prog.underlying 51).elim #[] λd=>match d with | .struct fs=>fs |_=>#[]) (by kernel_rfl) (by kernel_rfl) OS (tm:=114) (kt:=117) (et:=3) (ei:=(RB tab 3).get (by kernel_rfl)) (by kernel_rfl) (by kernel_rfl) (abf (mk:=(2,.i64)) OS (by kernel_rfl)) (λ r=>by cases r<;>rfl) we
  (apw (ti:=3) an8 apC (λ x y=>aiH (X:=xx) (cs:=[.int .i64,.int .i64]) (r:= .int .i64) lZ (x,y,()) (aqz x y)) λa b c d e=>aiH (X:=xx) (cs:=[.sl ah]) (r:= .int .i64) (Fq 10) ([a,b,c,d,e],()) (aer a b c d e)))
def QW:cp xx:=⟨[.d (.sl gG)],[.fresh eO],λa=>pG n a.1,none⟩
def QX:Hn SI:=(sE (.s (.s .z (.b (.l ⟨[(3,.o 1640),(17,.v ah)],[(1128,.m (.st SI.eK) ah),(1320,.m ah .bool),(1640,.l eO)],[4,5,15,16],[1192],1641,[(3,eO)]⟩ 0 ⟨[(3,.o 1640)],[(1128,.m (.st SI.eK) ah),(1640,.l eO)],[4],[1192],1641,[]⟩ (cy (.s (.j ⟨[(3,.o 1705)],[(1128,.m (.st SI.eK) ah),(1320,.m ah .bool),(1705,.l eO)],[4,5,15,16,17],[1192],1706,[]⟩ (.b (.s .z (.s (.s (.j ⟨[(34,.v .bool)],[],[3,4,5,7,15,16,17],[1128,1192,1320,1640,1833],1961,[]⟩ .z) .z) (cy (.b (.l ⟨[(3,.o 2281),(38,.v ah)],[(1128,.m (.st SI.eK) ah),(2281,.l eO)],[4,5,7,15,16,17],[1192,1320,1833],2282,[]⟩ 2 ⟨[(3,.o 2281)],[(1128,.m (.st SI.eK) ah),(2281,.l eO)],[4,5,15,16,17],[1192,1320],2282,[]⟩ (cy (.s (.j ⟨[(3,.o 2346)],[(1128,.m (.st SI.eK) ah),(2346,.l eO)],[4,5,7,15,16,17,38],[1192,1320,1833],2347,[]⟩ (.b (wx (.b (.l ⟨[(3,.o 3754),(56,.v ah)],[(3754,.l eO)],[4,5,7,8,15,16,17,38],[1128,1192,1320,1833],3755,[]⟩ 4 ⟨[(3,.o 3754)],[(3754,.l eO)],[4,5,7,15,16,17,38],[1128,1192,1320,1833],3755,[]⟩ .z))))) .z))))))))) .z))))) .z))
theorem Dp:aJ 19 (QW n) :=cq (au (Jl n) (au zu (au akM aB))) func19 QX n
def TK:cp xx:=⟨[.d gG,.d eO],[.d (.st SI.ef),.d .bool],λa=>vM n a.1 a.2.1,none⟩
def TM:Hn SI:=(cy (.s (.s (.j ⟨[(54,.v .bool)],[],[3,4,6],[1064,1128,1704],1896,[]⟩ .z) .z) (.s .z (.s (.j ⟨[],[(2408,.c 9 [[.v ah,.v ah,.v ah,.v ah,.v ah,.v ah,.v ah,.v ah,.v .bool]])],[3,4,8],[1064,1128],2536,[]⟩ .z) .z))))
theorem TN:aJ 58 (TK n) :=cq (au (Jl n) aB) func58 TM n
def ahK:cp xx:=⟨[.d gG,.d eO],[.d (.st SI.ef)],λa=>Iy n a.1 a.2.1,none⟩
theorem Yg:aJ 29 (ahK n) :=cq (au (TN n) aB) func29 .z n
def TP:cp xx:=⟨[.d (.sl ay)],[.fresh ay],λa=>Bj a.1,none⟩
theorem TQ:aJ 180 TP :=cq aB func180 .z 0
def Yh:cp xx:=⟨[.d (.sl ah)],[.fresh ah],λa=>EF a.1,none⟩
theorem Yi:aJ 181 Yh :=cq aB func181 .z 0
def ahL:cp xx:=⟨[.d gG],[.d gG],λa=>NU a.1,none⟩
theorem ahM:aJ 125 ahL :=cq (au TQ (au Yi aB)) func125 .z 0
def akN:cp xx:=⟨[.d (.sl gG),.d ah],[.d gG,.d .bool],λa=>NV n a.1 a.2.1,none⟩
def akO:Hn SI:=(.s .z (.s (.s .z (.b (.lx ⟨[(10,.v ah)],[],[1,4,8,9],[1000],1320,[]⟩ 0 ⟨[],[],[4],[1000],1320,[]⟩ .z))) .z))
theorem akP:aJ 79 (akN n) :=cq (au ahM aB) func79 akO n
def OY:cp xx:=⟨[.d (.st SI.ef),.d ah,.d ah],[.fresh aG],λa=>og n a.1 a.2.1 a.2.2.1,none⟩
def OZ:Hn SI:=(cy (.s (.s .z (.b (.l ⟨[(7,.o 1448),(13,.v ah)],[(1448,.l aG)],[1,2,11,12],[],1449,[(7,aG)]⟩ 0 ⟨[(7,.o 1448)],[(1448,.l aG)],[],[],1449,[]⟩ (cy (.s (.j ⟨[(7,.o 1513)],[(1513,.l aG)],[1,2,11,12,13],[],1514,[]⟩ (.b (.s .z (.s (.j ⟨[(25,.v .bool)],[],[1,2,7,9,11,12,13],[1448,1705],1897,[]⟩ .z) .z)))) .z))))) .z))
theorem AR:aJ 133 (OY n) :=cq aB func133 OZ n
def Ze:cp xx:=⟨[.d (.st SI.ef)],[.fresh aG],λa=>wJ n a.1,none⟩
theorem Lh:aJ 127 (Ze n) :=cq (au (AR n) aB) func127 .z n
def Gn:cp xx:=⟨[.d aG],[.d .bool],λa=>fZ a.1,none⟩
def Gp:Hn SI:=(cy (.s (.s (.j ⟨[(26,.v .bool)],[],[1],[1000],1384,[]⟩ .z) .z) (.s (.s (.j ⟨[(34,.v .bool)],[],[1],[1000],1384,[]⟩ .z) .z) .z)))
theorem kH:aJ 134 Gn :=cq (au oJ aB) func134 Gp 0
def Yj:cp xx:=⟨[.d (.st SI.E2),.d (.st SI.E2)],[.d .bool],λa=>xO a.1 a.2.1,none⟩
theorem Yk:aJ 183 Yj :=cq (au BK aB) func183 .z 0
def O1:cp xx:=⟨[.d aG,.ref aG],[.d .bool],λa=>rq a.1 a.2.1,none⟩
theorem O3:aJ 182 O1 :=cq (au Yk aB) func182 .z 0
def Gq:cp xx:=⟨[.d (.sl aG),.ek [aG] .bool],[.d ah],λa=>qw n a.1 a.2.1,none⟩
def Gr:Hn SI:=(.s .z (.s (.s .z (.b (.lx ⟨[(8,.v ah)],[],[0,1,7],[],1256,[]⟩ 0 ⟨[],[],[],[],1256,[]⟩ .z))) .z))
theorem Gs:aJ 149 (Gq n) :=cq aB func149 Gr n
def BP:cp xx:=⟨[.d (.sl aG),.ek [aG] .bool],[.d .bool],λa=>fM n a.1 a.2.1,none⟩
theorem qV:aJ 90 (BP n) :=cq (au (Gs n) aB) func90 .z n
def acH:cp xx:=⟨[.d (.int .u8)],[.d .bool],λa=>EI a.1,none⟩
theorem O4:aJ 265 acH :=cq aB func265 .z 0
def ahN:cp xx:=⟨[.d .str,.ek [.int .u8] .bool],[.d ah],λa=>NW n a.1 a.2.1,none⟩
def ahO:Hn SI:=(cy (.s (.b (.l ⟨[(5,.v ah)],[],[0,1],[],1128,[]⟩ 0 ⟨[(5,.v ah)],[],[],[],1128,[]⟩ (.s (.s (.j ⟨[(16,.v .bool)],[],[0,1,5],[],1128,[]⟩ .z) .z) .z))) .z))
theorem ahP:aJ 266 (ahN n) :=cq aB func266 ahO n
def afu:cp xx:=⟨[.d (.int .u8)],[.d .bool],λa=>Qf a.1,none⟩
theorem afv:aJ 268 afu :=cq aB func268 .z 0
def Zf:cp xx:=⟨[.d (.int .u8)],[.d .bool],λa=>Ai a.1,none⟩
theorem Zg:aJ 267 Zf :=cq (au O4 (au afv aB)) func267 .z 0
def ahQ:cp xx:=⟨[.d .str],[.d .bool],λa=>NY n a.1,none⟩
def ahR:Hn SI:=(.s .z (.s (.s (.j ⟨[(15,.v .bool)],[],[0],[],1064,[]⟩ .z) .z) .z))
theorem ahS:aJ 230 (ahQ n) :=cq (au O4 (au (ahP n) (au Zg aB))) func230 ahR n
def L8:cp xx:=⟨[.d .str,.d .str],[.d .bool],λa=>strings_Contains a.1 a.2.1,none⟩
theorem L9:aJ 231 L8:=by
 have hcall:eU Tryz.prog 231:=⟨_,func231,by kernel_rfl,by kernel_rfl⟩;refine zz hcall (λ a r h=>?_) rfl;obtain⟨s,b,⟨⟩⟩:=a;have h':strings_Contains s b=some r:=h;unfold strings_Contains at h';cases hb:Nat.ble s.size 4000000 with
 |false=>rw[hb]at h';cases h'
 |true=>
  rw[hb]at h';have h'':some (Lib.contains s.data.toList b.data.toList)=some r:=h';injection h'' with e;subst e;have hw:=Nat.le_of_ble_eq_true hb;exact abS (g:=0) rfl hcall λm w hm=>aeu s b m w (by omega) hm
def Zh:cp xx:=⟨[.d .str],[.d .bool],λa=>wK n a.1,none⟩
theorem Zi:aJ 184 (Zh n) :=cq (au (ahS n) (au L9 aB)) func184 .z n
def Yl:cp xx:=⟨[.d (.st SI.ef)],[.d .bool],λa=>xP n a.1,none⟩
def Ym:Hn SI:=(cy (.s (.s (.j ⟨[(42,.v .bool)],[],[1,3],[1000,1192],1320,[]⟩ .z) .z) (.s (.s .z (.b (.lx ⟨[(45,.v ah)],[],[1,3,43,44],[1000,1192],1512,[]⟩ 0 ⟨[],[],[1],[1000],1512,[]⟩ (cy (.s (.b (.s .z (.s (.j ⟨[(59,.v .bool)],[],[1,3,43,44,45],[1000,1192],1960,[]⟩ .z) .z))) .z))))) (.s (.s .z (.b (.lx ⟨[(64,.v ah)],[],[62,63],[],1768,[]⟩ 2 ⟨[],[],[],[],1768,[]⟩ (cy (.s (.b (cy (.s (.s .z (.b (.lx ⟨[(72,.v ah)],[(2088,.m .str .bool)],[7,8,62,63,64,70,71],[1960],2472,[]⟩ 4 ⟨[],[],[7,62,63,64],[1960],2472,[]⟩ (cy (.s (.b (.s .z (.s (.s (.j ⟨[(95,.v .bool)],[],[7,8,10,62,63,64,70,71,72],[1960,2088,2664],2792,[]⟩ .z) .z) .z))) .z))))) .z))) .z))))) .z))))
theorem Yn:aJ 126 (Yl n) :=cq (au (Lh n) (au kH (au (qV n) (au O3 (au (Zi n) aB))))) func126 Ym n
def Ma:cp xx:=⟨[.d bO,.ref (.st SI.Entry)],[.d .bool],λa=>vg a.1 a.2.1,none⟩
theorem Mc:aJ 129 Ma :=cq aB func129 .z 0
def Md:cp xx:=⟨[.d (.sl bO),.ek [bO] .bool],[.d ah],λa=>vk n a.1 a.2.1,none⟩
def Me:Hn SI:=(.s .z (.s (.s .z (.b (.lx ⟨[(8,.v ah)],[],[0,1,7],[],1256,[]⟩ 0 ⟨[],[],[],[],1256,[]⟩ .z))) .z))
theorem Mf:aJ 185 (Md n) :=cq aB func185 Me n
def Gt:cp xx:=⟨[.d (.sl bO),.ek [bO] .bool],[.d .bool],λa=>mM n a.1 a.2.1,none⟩
theorem Gu:aJ 128 (Gt n) :=cq (au (Mf n) aB) func128 .z n
def TS:cp xx:=⟨[.d iM,.d gG,.d (.st SI.ef)],[.d .bool],λa=>oG n a.1 a.2.1 a.2.2.1,none⟩
def TU:Hn SI:=(.s .z (.s (.s (.j ⟨[(30,.v .bool)],[],[3,4,5],[1000,1064,1128],1256,[]⟩ .z) .z) (.s (.s .z (.b (.lx ⟨[(34,.v ah)],[],[3,4,5,32,33],[1000,1064,1128,1320],1512,[]⟩ 0 ⟨[],[],[3,5],[1000,1128],1512,[]⟩ (cy (.s (.b (cy (.s (.j ⟨[(58,.v .bool)],[],[3,4,5,32,33,34],[1000,1064,1128,1320],2600,[]⟩ .z) .z))) .z))))) (.s (.s .z (.b (.lx ⟨[(63,.v ah)],[],[3,61,62],[1000],1768,[]⟩ 2 ⟨[],[],[],[],1768,[]⟩ (cy (.s (.b (cy (.b (.lx ⟨[(70,.v ah)],[],[3,61,62,63,68,69],[1000],2344,[]⟩ 4 ⟨[],[],[3,61,62,63],[1000],2344,[]⟩ .z)))) .z))))) .z))))
theorem TW:aJ 80 (TS n) :=cq (au (Yn n) (au (pM n) (au (Lh n) (au (Sr n) (au (QV n) (au zu (au (Gu n) (au Mc aB)))))))) func80 TU n
def QY:cp xx:=⟨[.d (.st SI.ef)],[.fresh aG],λa=>tT n a.1,none⟩
def QZ:Hn SI:=(cy (.s (.s .z (.b (.l ⟨[(3,.o 1448),(9,.v ah)],[(1448,.l aG)],[7,8],[],1449,[(3,aG)]⟩ 0 ⟨[(3,.o 1448)],[(1448,.l aG)],[],[],1449,[]⟩ .z))) .z))
theorem Q0:aJ 81 (QY n) :=cq aB func81 QZ n
def Zj:cp xx:=⟨[.d (.st SI.kw),.d (.st SI.ef)],[.d (.st SI.kA),.d ah],λa=>Aj n a.1 a.2.1,none⟩
theorem Zk:aJ 50 (Zj n) :=cq (au (akP n) (au (TW n) (au (Q0 n) (au (Sn n) aB)))) func50 .z n
def Mg:cp xx:=⟨[.mut ay,.ek [ay,ay] ah],[.mu ay],λa=>vo n a.1 a.2.1,none⟩
theorem Mh:aJ 190 (Mg n):=by
 have hcall:eU Tryz.prog 190:=⟨_,func190,by kernel_rfl,by kernel_rfl⟩;refine zz hcall (λ a r h=>?_) rfl;obtain⟨l,φ,⟨⟩⟩:=a;refine aay (X:=xx) (i:=SI.my) (hI:=(inferInstance:Inhabited ax)) Tryz.so190 rfl hcall Tryz.underlying88 (by kernel_rfl) (λ x t ht=>?_) h;cases x;have ht:t∈[_,_,_,_]:=ht;simp only[aO,gB,or_false]at ht;rcases ht with rfl |rfl |rfl |rfl<;>exact⟨_,rfl,trivial⟩
def Dq:cp xx:=⟨[.d ay,.d ay],[.d ah],λa=>iF a.1 a.2.1,none⟩
theorem Dr:aJ 191 Dq :=cq (au lZ aB) func191 .z 0
def O5:cp xx:=⟨[.d aG],[.d ah],λa=>kT a.1,none⟩
def O6:Hn SI:=(.s .z (.s (.s (.j ⟨[(9,.v .bool)],[],[1],[1000],1128,[]⟩ .z) .z) .z))
theorem AU:aJ 195 O5 :=cq (au kH aB) func195 O6 0
def TY:cp xx:=⟨[.d aG],[.d ah],λa=>oH a.1,none⟩
theorem FX:aJ 193 TY :=cq (au kH (au zu (au AU aB))) func193 .z 0
def BQ:cp xx:=⟨[.d aG],[.d ah],λa=>nO a.1,none⟩
theorem BR:aJ 196 BQ :=cq aB func196 .z 0
def Dt:cp xx:=⟨[.d aG],[.d ah],λa=>oL a.1,none⟩
theorem Du:aJ 197 Dt :=cq aB func197 .z 0
def T9:cp xx:=⟨[.d ay,.d ah],[.d ay,.d .bool],λa=>Bl a.1 a.2.1,none⟩
theorem Ua:aJ 239 T9 :=cq (au oJ aB) func239 .z 0
def Q5:cp xx:=⟨[.d (.st SI.Entry),.ref (.st SI.m7),.ref ah],[.d .bool],λa=>ko a.1 a.2.1 a.2.2.1,none⟩
theorem Q6:aJ 278 Q5 :=cq aB func278 .z 0
def Jm:cp xx:=⟨[.d (.sl (.st SI.Entry)),.ek [.st SI.Entry] .bool],[.d ah],λa=>kr n a.1 a.2.1,none⟩
def Jo:Hn SI:=(.s .z (.s (.s .z (.b (.lx ⟨[(8,.v ah)],[],[0,1,7],[],1256,[]⟩ 0 ⟨[],[],[],[],1256,[]⟩ .z))) .z))
theorem wS:aJ 235 (Jm n) :=cq aB func235 Jo n
def Zl:cp xx:=⟨[.d iM,.d ah],[.d ah],λa=>Ak n a.1 a.2.1,none⟩
def Zm:Hn SI:=(cy (.s (.s .z (.b (.lx ⟨[(14,.v ah)],[],[3,5,12,13],[1064,1256],1640,[]⟩ 0 ⟨[],[],[],[],1640,[]⟩ (cy (.s (.b (gA (.s (.j ⟨[(8,.v ah)],[],[],[],2344,[]⟩ .z) .z))) .z))))) .z))
theorem Zn:aJ 240 (Zl n) :=cq (au (wS n) (au Q6 aB)) func240 Zm n
def O7:cp xx:=⟨[.d iM,.d aG],[.d ah],λa=>kU n a.1 a.2.1,none⟩
def O8:Hn SI:=(cy (.s (.s (.j ⟨[(20,.v .bool)],[],[5,6],[],1704,[]⟩ .z) .z) .z))
theorem O9:aJ 200 (O7 n) :=cq (au (Zn n) (au FX aB)) func200 O8 n
def Gv:df xx:=⟨[.p 0],[(0,fy),(1,.l aG)],[.v ah],[(0,fy),(1,.l aG)],λv=>mO n v.1 v.2.1 v.2.2.1 v.2.2.2.1 v.2.2.2.2.1 v.2.2.2.2.2.1 v.2.2.2.2.2.2.1 v.2.2.2.2.2.2.2.1 v.2.2.2.2.2.2.2.2.1 v.2.2.2.2.2.2.2.2.2⟩
def Gw:cp xx:=⟨[],[.d .bool],λ_=>none,some (Gv n)⟩
theorem Gx:aJ 135 (Gw n) :=oA (au (QV n) aB) func135 .z n (by kernel_rfl) λ_=>by kernel_rfl
def Dv:df xx:=⟨[.p 0],[(0,fy),(1,.l aG)],[.v ah],[(0,fy),(1,.l aG)],λv=>iG n v.1 v.2.1 v.2.2.1 v.2.2.2.1 v.2.2.2.2.1 v.2.2.2.2.2.1 v.2.2.2.2.2.2.1 v.2.2.2.2.2.2.2.1 v.2.2.2.2.2.2.2.2.1 v.2.2.2.2.2.2.2.2.2⟩
def Dw:cp xx:=⟨[],[.d .bool],λ_=>none,some (Dv n)⟩
def Dx:Hn SI:=(gA (.s (.s .z (.b (.l ⟨[(3,.o 1960),(23,.v ah)],[(1448,.l ay),(1960,.l ah)],[4,21,22],[0,1],1961,[(3,ah)]⟩ 0 ⟨[(3,.o 1960)],[(1448,.l ay),(1960,.l ah)],[4],[0,1],1961,[]⟩ .z))) (gA (.s (.s .z (.b (.l ⟨[(7,.v ah),(56,.v ah)],[],[3,4,55],[0,1,1448,1960],2601,[]⟩ 2 ⟨[(7,.v ah)],[],[],[0,1],2601,[]⟩ (cy (.s (.b (gA (.b (.l ⟨[(7,.v ah),(9,.v ah),(61,.v ah)],[],[3,4,8,55,56,59,60],[0,1,1448,1960],3049,[]⟩ 4 ⟨[(7,.v ah)],[],[3,4,55,56],[0,1,1448,1960],3049,[]⟩ (cy (.s (.j ⟨[(7,.v ah),(9,.v ah)],[],[3,4,8,55,56,59,60,61],[0,1,1448,1960],3113,[]⟩ (.b (.s .z (.s (.j ⟨[(86,.v .bool)],[],[3,4,7,8,9,11,55,56,59,60,61],[0,1,1448,1960,3241],3369,[]⟩ .z) .z)))) .z)))))) .z))))) .z))))
theorem Dy:aJ 136 (Dw n) :=oA (au (Mh n) (au Dr (au (vT n) aB))) func136 Dx n (by kernel_rfl) λ_=>by kernel_rfl
def Gy:df xx:=⟨[.p 0,(.f 193 [] [])],[(0,fy),(1,.l aG)],[.v ah],[(0,fy),(1,.l aG)],λv=>qx n v.1 v.2.1 v.2.2.1 v.2.2.2.1 v.2.2.2.2.1 v.2.2.2.2.2.1 v.2.2.2.2.2.2.1 v.2.2.2.2.2.2.2.1 v.2.2.2.2.2.2.2.2.1 v.2.2.2.2.2.2.2.2.2⟩
def Gz:cp xx:=⟨[],[.d .bool],λ_=>none,some (Gy n)⟩
def GA:Hn SI:=(cy (.s (.s .z (.b (.l ⟨[(5,.v ah),(13,.v ah)],[],[1,11,12],[0,1],1512,[]⟩ 0 ⟨[(5,.v ah)],[],[],[0,1],1512,[]⟩ .z))) .z))
theorem GD:aJ 192 (Gz n) :=oA (au FX aB) func192 GA n (by kernel_rfl) λ_=>by kernel_rfl
def Dz:df xx:=⟨[.p 0],[(0,fy),(1,.l aG)],[.v ah],[(0,fy),(1,.l aG)],λv=>kE n v.1 v.2.1 v.2.2.1 v.2.2.2.1 v.2.2.2.2.1 v.2.2.2.2.2.1 v.2.2.2.2.2.2.1 v.2.2.2.2.2.2.2.1 v.2.2.2.2.2.2.2.2.1 v.2.2.2.2.2.2.2.2.2⟩
def DF:cp xx:=⟨[],[.d .bool],λ_=>none,some (Dz n)⟩
theorem DI:aJ 137 (DF n) :=oA (au (GD n) aB) func137 .z n (by kernel_rfl) λ_=>by kernel_rfl
def zw:df xx:=⟨[.p 0,(.f 195 [] [])],[(0,fy),(1,.l aG)],[.v ah],[(0,fy),(1,.l aG)],λv=>mq n v.1 v.2.1 v.2.2.1 v.2.2.2.1 v.2.2.2.2.1 v.2.2.2.2.2.1 v.2.2.2.2.2.2.1 v.2.2.2.2.2.2.2.1 v.2.2.2.2.2.2.2.2.1 v.2.2.2.2.2.2.2.2.2⟩
def zx:cp xx:=⟨[],[.d .bool],λ_=>none,some (zw n)⟩
def zy:Hn SI:=(cy (.s (.s .z (.b (.l ⟨[(5,.v ah),(13,.v ah)],[],[1,11,12],[0,1],1512,[]⟩ 0 ⟨[(5,.v ah)],[],[],[0,1],1512,[]⟩ .z))) .z))
theorem zA:aJ 194 (zx n) :=oA (au AU aB) func194 zy n (by kernel_rfl) λ_=>by kernel_rfl
def BU:df xx:=⟨[.p 0],[(0,fy),(1,.l aG)],[.v ah],[(0,fy),(1,.l aG)],λv=>jG n v.1 v.2.1 v.2.2.1 v.2.2.2.1 v.2.2.2.2.1 v.2.2.2.2.2.1 v.2.2.2.2.2.2.1 v.2.2.2.2.2.2.2.1 v.2.2.2.2.2.2.2.2.1 v.2.2.2.2.2.2.2.2.2⟩
def BV:cp xx:=⟨[],[.d .bool],λ_=>none,some (BU n)⟩
theorem BX:aJ 138 (BV n) :=oA (au (zA n) aB) func138 .z n (by kernel_rfl) λ_=>by kernel_rfl
def zB:df xx:=⟨[.p 0,(.f 196 [] [])],[(0,fy),(1,.l aG)],[.v ah],[(0,fy),(1,.l aG)],λv=>mD n v.1 v.2.1 v.2.2.1 v.2.2.2.1 v.2.2.2.2.1 v.2.2.2.2.2.1 v.2.2.2.2.2.2.1 v.2.2.2.2.2.2.2.1 v.2.2.2.2.2.2.2.2.1 v.2.2.2.2.2.2.2.2.2⟩
def zC:cp xx:=⟨[],[.d .bool],λ_=>none,some (zB n)⟩
def zD:Hn SI:=(cy (.s (.s .z (.b (.l ⟨[(5,.v ah),(13,.v ah)],[],[1,11,12],[0,1],1512,[]⟩ 0 ⟨[(5,.v ah)],[],[],[0,1],1512,[]⟩ .z))) .z))
theorem zF:aJ 194 (zC n) :=oA (au BR aB) func194 zD n (by kernel_rfl) λ_=>by kernel_rfl
end
end Go.Proofs
