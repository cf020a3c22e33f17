import Derived.Test.YtkgkglgpckgokaaGreatTC1
namespace Go.Proofs
open Go.Gb Go.RowKit
open Tryz
noncomputable section
variable (n:Nat)
theorem XV:aJ 112 (ahf n) :=cq (au (aeZ n) aB) func112 .z n
def OM:bx xx:=⟨[],[.fresh .str],λ_=>wR,none⟩
theorem OO:aJ 195 OM :=cq aB func195 .z 0
mutual
theorem anH:∀g:bZ,(toE g).wt<=4000000->pP (toE g) (qM g)
 |⟨op,n,s,key,args⟩,h=>by
  simp only[toE,ET.wt]at h;have:=ET.qv (HZ args);simp only[toE,qM,pP];exact⟨n,key,_,rfl,by unfold maxLen;omega,by omega,XW args (by omega)⟩
theorem XW:∀l:List bZ,ET.tf (HZ l)<=4000000->ky (HZ l) (sP l)
 |[],_=>by simp only[HZ,sP,ky]
 |x::xs,h=>by
  simp only[HZ,ET.tf]at h;simp only[HZ,sP,ky];exact⟨_,_,rfl,anH x (by omega),XW xs (by omega)⟩
end
def OQ:bx xx:=⟨[],[.d .bool],λ_=>none,some ⟨[.v (.sl bC)],[],[.p 1000],[(1000,rx)],λv=>kQ v⟩⟩
theorem ae0:∀l:List fB,rh (l.map toD)<=4000000->kA (l.map toD) (l.map Ea)
 |[],_=>by simp only[List.map_nil,kA]
 |x::xs,h=>by
  simp only[aF,rh,List.foldr_cons,toD,ET.wt]at h;have:=ET.qv (HZ x.en);simp only[aF,kA];refine⟨_,_,rfl,⟨_,_,_,_,_,rfl,by simp only[toD];unfold maxLen;omega,?_⟩,ae0 xs (by simp only[rh];omega)⟩;simp only[toD,pP];exact⟨_,_,_,rfl,by unfold maxLen;omega,by omega,by rw[<- sQ];exact XW _ (by omega)⟩
theorem OT:aJ 196 OQ:=by
 have hcall:eO Tryz.prog 196:=⟨_,func196,by kernel_rfl,by kernel_rfl⟩;refine Mp hcall ?_;intro v r hr;have h':kQ v=some r:=hr;unfold kQ at h';cases hb:Nat.ble (rh (List.map toD v)) 4000000 with
 |false=>rw[hb]at h';cases h'
 |true=>
  rw[hb]at h';have h'':some (v,ow (List.map toD v))=some r:=h';injection h'' with e;subst e;have hw:=Nat.le_of_ble_eq_true hb;have hlen:=Un (List.map toD v);have hn:∀d∈List.map toD v,d.2.names.length<=4000000:=λd hd=>by have h1:=Uo hd;have h2:=ET.oT d.2;omega
  exact abr (TL:=52) (TG:=318) (TI:=3) hcall (ae0 v hw) λsv w hS=>amR (List.map toD v) (by omega) (λ d hd=>Nat.le_trans (hn d hd) (by omega))
   (λ d hd v0 v1 v2 v3 v4 w hE=>callsIn_wide.1 (ak4 0 d.2 v0 v1 v2 v3 v4 w hE (Nat.le_trans (hn d hd) (by omega)))) sv w hS
def TB:bx xx:=⟨[.d (.sl ah),.d ah],[.fresh ah],λa=>qx a.1 a.2.1,none⟩
theorem TD:aJ 284 TB:=by
 have hcall:eO Tryz.prog 284:=⟨_,func284,by kernel_rfl,by kernel_rfl⟩;refine zp hcall (λ a r h=>?_) rfl;obtain⟨l,c,⟨⟩⟩:=a;have h':qx l c=some r:=h
 match l,h' with
 |[x],h'=>
  simp only[qx]at h';cases hb:(decide (0<=c)&&decide (c<=1000000000000))with
  |false=>rw[hb]at h';cases h'
  |true=>
   rw[hb]at h';have h'':some (List.replicate c.toNat x)=some r:=h';injection h'' with e;subst e;simp only[aL,aV]at hb;obtain⟨h1,h2⟩:=hb;obtain⟨k,hk⟩:=Int.eq_ofNat_of_zero_le h1;subst hk;exact af5 (E:=3) (c:=k) hcall λa cap w hx=>ajd x k (Int.ofNat_le.1 (by simpa using h2)) a cap w hx
def XY:bx xx:=⟨[.d (.sl ah),.d ah],[.d ah],λa=>El n a.1 a.2.1,none⟩
def XZ:Hn SI:=(.s .z (.s (.s .z (.b (.lx ⟨[(8,.v ah)],[],[0,1,7],[],1256,[]⟩ 0 ⟨[],[],[],[],1256,[]⟩ .z))) .z))
theorem X0:aJ 294 (XY n) :=cq aB func294 XZ n
def OU:bx xx:=⟨[.d (.sl ah),.d ah],[.d .bool],λa=>qU n a.1 a.2.1,none⟩
theorem OV:aJ 285 (OU n) :=cq (au (X0 n) aB) func285 .z n
def Bv:bx xx:=⟨[.ref (.st SI.graph),.d ah],[.fresh ah],λa=>jI n a.1 a.2.1,none⟩
def Bw:Hn SI:=(uv (.s (.b (.l ⟨[(6,.od 2024)],[(1448,.l ah),(2024,.l ah)],[0,5],[],2025,[]⟩ 0 ⟨[],[(1448,.l ah)],[5],[],2024,[]⟩ (.s .z (.b (gO (.b (.l ⟨[(6,.od 3049),(35,.v ah)],[(1448,.l ah),(3049,.l ah)],[0,5,7,33,34],[],3050,[]⟩ 2 ⟨[(6,.od 3049)],[(1448,.l ah),(3049,.l ah)],[0,5],[],3050,[]⟩ (cg (.s (.j ⟨[(6,.od 3114)],[(1448,.l ah),(3114,.l ah)],[0,5,7,33,34,35],[],3115,[]⟩ (.b (.s .z (.s (.j ⟨[(49,.v .bool)],[],[0,5,6,7,8,33,34,35],[1448,3049],3434,[]⟩ .z) .z)))) .z))))))))) .z))
theorem Bz:aJ 266 (Bv n) :=cq (au TD (au (OV n) aB)) func266 Bw n
def Lu:bx xx:=⟨[.d .str],[.d .bool],λa=>cmp_isNaN_string a.1,none⟩
theorem Lv:aJ 286 Lu :=cq aB func286 .z 0
def IQ:bx xx:=⟨[.d .str,.d .str],[.d ah],λa=>nG a.1 a.2.1,none⟩
theorem IU:aJ 267 IQ :=cq (au Lv aB) func267 .z 0
def JU:bx xx:=⟨[.d (.sl .str),.d (.sl .str)],[.d ah],λa=>lK n a.1 a.2.1,none⟩
def JV:Hn SI:=(.s .z (.s (.s .z (.b (.lx ⟨[(11,.v ah)],[],[0,1,9,10],[],1256,[]⟩ 0 ⟨[],[],[0,1],[],1256,[]⟩ .z))) .z))
theorem JW:aJ 235 (JU n) :=cq (au IU aB) func235 JV n
def zh:cX xx:=⟨[.v ah,.p 0],[(0,qq),(1,.l .bool)],[.v .bool],[(0,qq),(1,.l .bool)],λv=>l5 v.1 v.2⟩
def zi:bx xx:=⟨[],[.d .bool],λ_=>none,some (zh)⟩
theorem zk:aJ 237 zi :=ov aB func237 .z 0 (by kernel_rfl) λ_=>by kernel_rfl
def Gc:cX xx:=⟨[.v (.sl ah),(.f 237 [] [.p 0])],[(0,qq),(1,.l .bool)],[.v ah],[(0,qq),(1,.l .bool)],λv=>mE n v.1 v.2⟩
def Gd:bx xx:=⟨[],[.d .bool],λ_=>none,some (Gc n)⟩
def Gf:Hn SI:=(.s .z (.s (.s .z (.b (.lx ⟨[(8,.v ah)],[(0,qq),(1,.l .bool)],[0,1,7],[],1256,[]⟩ 0 ⟨[],[(0,qq),(1,.l .bool)],[],[],1256,[]⟩ .z))) .z))
theorem Gg:aJ 268 (Gd n) :=ov (au zk aB) func268 Gf n (by kernel_rfl) λ_=>by kernel_rfl
def BB:cX xx:=⟨[.v (.sl ah),(.f 237 [] [.p 0])],[(0,qq),(1,.l .bool)],[.v .bool],[(0,qq),(1,.l .bool)],λv=>ig n v.1 v.2⟩
def BD:bx xx:=⟨[],[.d .bool],λ_=>none,some (BB n)⟩
theorem BG:aJ 236 (BD n) :=ov (au (Gg n) aB) func236 .z n (by kernel_rfl) λ_=>by kernel_rfl
def IV:bx xx:=⟨[.ref (.st SI.graph)],[.fresh ah],λa=>nH n a.1,none⟩
def IW:Hn SI:=(gO (.s (.s .z (.b (.l ⟨[(4,.o 2024),(20,.v ah)],[(1448,wj),(2024,.l ah),(1384,.l .bool)],[0,3,19],[],2025,[(4,ah)]⟩ 0 ⟨[(4,.o 2024)],[(2024,.l ah)],[],[],2025,[]⟩ (cg (.s (.b (.s .z (.s (.s .z (.b (.l ⟨[(5,.v ah),(27,.v ah)],[(1448,wj),(1384,.l .bool)],[0,3,4,19,20,25,26],[2024],2537,[]⟩ 2 ⟨[(5,.v ah)],[(1448,wj),(1384,.l .bool)],[0,3,4,19,20],[2024],2537,[]⟩ (cg (.s (.j ⟨[(5,.v ah)],[(1448,wj),(1384,.l .bool)],[0,3,4,19,20,25,26,27],[2024],2601,[]⟩ (.b (cg (.s (.j ⟨[(66,.v .bool)],[],[0,3,4,5,6,19,20,25,26,27],[1384,1448,2024],3177,[]⟩ .z) .z)))) .z))))) .z))) .z))))) .z))
theorem IX:aJ 198 (IV n) :=cq (au (BG n) aB) func198 IW n
def BH:cX xx:=⟨[.p 0,.v ah],[(0,rx)],[.oz 1000],[(0,rx),(1000,.l .str)],λv=>jK n v.1 v.2.1 v.2.2⟩
def BJ:bx xx:=⟨[],[.d .bool],λ_=>none,some (BH n)⟩
def BK:Hn SI:=(uv (.b (.lx ⟨[(6,.o 1512),(7,.v ah)],[(1512,.l .str)],[0,1,5],[0,1192],1513,[(6,.str)]⟩ 999999 ⟨[],[],[],[],1512,[]⟩ (.b (cg (.s (.s .z (.b (.l ⟨[(8,.v ah),(34,.v ah)],[],[0,1,5,6,32,33],[0,1192,2153],2921,[]⟩ 2 ⟨[(8,.v ah)],[],[0,1,5,6],[0,1192,2153],2921,[]⟩ (cg (.s (.j ⟨[(8,.v ah)],[],[0,1,5,6,32,33,34],[0,1192,2153],2985,[]⟩ (.b (.s .z (.s (.j ⟨[(57,.v .bool)],[],[0,1,5,6,8,10,32,33,34],[0,1192,2153],3177,[]⟩ .z) .z)))) .z))))) .z))))))
theorem BL:aJ 234 (BJ n) :=ov (au (Bz n) aB) func234 BK n (by kernel_rfl) λ_=>by kernel_rfl
def zl:cX xx:=⟨[.p 0],[(0,rx)],[.oz 1000],[(0,rx),(1000,.l .str)],λv=>iT n v.1 v.2⟩
def zm:bx xx:=⟨[],[.d .bool],λ_=>none,some (zl n)⟩
def zn:Hn SI:=(cg (.s (.s .z (.b (.l ⟨[(3,.oz 1512),(11,.v ah)],[(0,rx),(1512,.l .str)],[0,10],[],1513,[(1099511627779,.str)]⟩ 0 ⟨[(3,.oz 1512)],[(0,rx),(1512,.l .str)],[],[],1513,[]⟩ (cg (.s (.j ⟨[(3,.oz 1577)],[(0,rx),(1577,.l .str)],[0,10,11],[],1578,[]⟩ (.b (cg (.s (.s (.j ⟨[(18,.v .bool)],[],[0,3,5,10,11],[0,1512,1833],1961,[]⟩ .z) .z) (.s (.j ⟨[(40,.v .bool)],[],[0,3,5,10,11],[0,1512,1833],1961,[]⟩ .z) .z))))) .z))))) .z))
theorem zo:aJ 197 (zm n) :=ov (au (BL n) (au (JW n) aB)) func197 zn n (by kernel_rfl) λ_=>by kernel_rfl
def X4:bx xx:=⟨[.d dw],[.fresh ah,.d (.sl .str),.d ah],λa=>nI n a.1,none⟩
def X5:Hn SI:=(cg (.s (.s .z (.b (.l ⟨[(15,.v ah)],[(1256,.m .str .bool)],[1,5,13,14],[1000,1384],1576,[]⟩ 0 ⟨[],[(1256,.m .str .bool)],[1,5],[1000],1576,[]⟩ .z))) (.s (.s .z (.b (.lx ⟨[(25,.v ah)],[(1256,.m .str .bool)],[1,5,23,24],[1000],1832,[]⟩ 2 ⟨[],[],[1],[1000],1832,[]⟩ .z))) (.s .z (.s (.s .z (.s (.j ⟨[(43,.v .bool)],[],[10,11],[1960,2152],2280,[]⟩ .z) .z)) .z)))))
theorem X6:aJ 159 (X4 n) :=cq (au OO (au OT (au (zo n) (au (IX n) aB)))) func159 X5 n
def JX:bx xx:=⟨[.d aZ,.ref (.st SI.Expr)],[.d .bool],λa=>Ac a.1 a.2.1,none⟩
theorem JY:aJ 200 JX :=cq aB func200 .z 0
def IY:bx xx:=⟨[.d (.sl aZ),.d7 [aZ] .bool],[.d ah],λa=>rC n a.1 a.2.1,none⟩
def IZ:Hn SI:=(.s .z (.s (.s .z (.b (.lx ⟨[(8,.v ah)],[],[0,1,7],[],1256,[]⟩ 0 ⟨[],[],[],[],1256,[]⟩ .z))) .z))
theorem I4:aJ 199 (IY n) :=cq aB func199 IZ n
def JZ:bx xx:=⟨[.d (.st SI.Entry),.ref (.st SI.Expr)],[.d .bool],λa=>Ad a.1 a.2.1,none⟩
theorem J2:aJ 202 JZ :=cq aB func202 .z 0
def al9:bx xx:=⟨[.d .bool],[.d ah],λa=>yP a.1,none⟩
theorem ae1:aJ 161 al9 :=cq aB func161 .z 0
def Y7:bx xx:=⟨[.d ah,.d ah],[.d ah],λa=>wF a.1 a.2.1,none⟩
def Y8:Hn SI:=(gO (.s (.j ⟨[(5,.v ah)],[],[],[],1448,[]⟩ (.s .z (.s (.j ⟨[(23,.v .bool)],[],[5],[],1704,[]⟩ .z) .z))) .z))
theorem Y9:aJ 203 Y7 :=cq aB func203 Y8 0
def ae2:bx xx:=⟨[.d ah,.d ah,.d ah],[.d ah],λa=>Jv a.1 a.2.1 a.2.2.1,none⟩
theorem ae3:aJ 162 ae2 :=cq (au Y9 (au ae1 aB)) func162 .z 0
def J3:cX xx:=⟨[(.a [.v (.sl bC),.v (.sl aZ),.v (.sl bE),.v (.sl bg),.v (.sl bJ),.v (.sl bH),.v (.sl aU),.v ah,.mp 0,.v (.sl .str)]),.v (.st SI.Expr)],[(0,.m .str ah)],[.v ah],[(0,.m .str ah)],λv=>ji n v.1 v.2.1 v.2.2.1 v.2.2.2.1 v.2.2.2.2.1 v.2.2.2.2.2.1 v.2.2.2.2.2.2.1 v.2.2.2.2.2.2.2.1 v.2.2.2.2.2.2.2.2.1 v.2.2.2.2.2.2.2.2.2.1 v.2.2.2.2.2.2.2.2.2.2⟩
def J4:bx xx:=⟨[],[.d .bool],λ_=>none,some (J3 n)⟩
theorem J5:aJ 160 (J4 n) :=ov (au (I4 n) (au JY (au (wM n) (au J2 aB)))) func160 .z n (by kernel_rfl) λ_=>by kernel_rfl
def Gh:Hn SI:=(cg (.s (.s .z (.b (.l ⟨[(5,.o 1512),(11,.v ah)],[(0,.m .str ah),(1512,.l ah)],[2,3,9,10],[1000,1064],1513,[(5,ah)]⟩ 0 ⟨[(5,.o 1512)],[(0,.m .str ah),(1512,.l ah)],[2,3],[1000,1064],1513,[]⟩ (cg (.s (.j ⟨[(5,.o 1577)],[(0,.m .str ah),(1577,.l ah)],[2,3,9,10,11],[1000,1064],1578,[]⟩ (.b (.s .z (.s (.s (.j ⟨[(31,.v .bool)],[],[2,3,5,7,9,10,11],[0,1000,1064,1512,1769],1961,[]⟩ .z) .z) .z)))) .z))))) .z))
theorem ES(rc:((List fB))->((List cu))->((List dM))->((List bV))->((List fZ))->((List eU))->((List bT))->(Int)->((List ByteArray))->(bZ)->((List (ByteArray×Int)))->Option (Int×(List (ByteArray×Int))))(hr:aJ 114 (jL rc)):aJ 114 (jL (fG n rc)) :=ov (au hr (au (J5 n) (au (o6 n) (au ae1 (au ae3 aB))))) func114 Gh n (by kernel_rfl) λ_=>by kernel_rfl
theorem uz(n:Nat):∀m,aJ 114 (jL (cB n m))
 | 0=>Mp (mV func114 (by kernel_rfl:Tryz.f114.body=some (Tryz.f114.body.getD .skip)) (by kernel_rfl)) (λ _ _ h=>(by cases h))
 |m+1=>ES n _ (uz n m)
def Gi:bx xx:=jL (cB n n)
theorem uK:aJ 114 (Gi n):=uz n n
def TF:cX xx:=⟨[.v dw,(.v (.sl (.st SI.Entry))),.v (.sl .str)],[],[(.a [.v (.sl bC),.v (.sl aZ),.v (.sl bE),.v (.sl bg),.v (.sl bJ),.v (.sl bH),.v (.sl aU),.v ah,.mp 1000,.v (.sl .str)]),.o 1001],[(1000,.m .str ah),(1001,.l ah)],λv=>l6 n v.1 v.2.1 v.2.2⟩
def TH:bx xx:=⟨[],[.d .bool],λ_=>none,some (TF n)⟩
def TJ:Hn SI:=(gO (.s (.s .z (.b (.l ⟨[(26,.v ah)],[(1256,.m .str ah),(1576,.m .str .bool)],[3,6,8,9,24,25],[1000,1064,1448],1896,[]⟩ 0 ⟨[],[(1256,.m .str ah),(1576,.m .str .bool)],[3,6,8,9],[1000,1064,1448],1896,[]⟩ (cg (.s (.j ⟨[],[(1256,.m .str ah),(1576,.m .str .bool)],[3,6,8,9,24,25,26],[1000,1064,1448],1960,[]⟩ .z) .z))))) (gO (.s (.s .z (.b (.l ⟨[(61,.v ah)],[(1256,.m .str ah),(2088,.l ah)],[3,6,8,9,12,59,60],[1000,1064,1448,1576,2280],3112,[]⟩ 2 ⟨[],[(1256,.m .str ah),(2088,.l ah)],[6,8,12],[1064,1448],3112,[]⟩ (cg (.s (.j ⟨[],[(1256,.m .str ah),(2088,.l ah)],[3,6,8,9,12,59,60,61],[1000,1064,1448,1576,2280],3176,[]⟩ (.b (cg (.s (.j ⟨[],[(1256,.m .str ah),(2088,.l ah)],[3,6,8,9,12,17,18,59,60,61],[1000,1064,1448,1576,2280,3688],3816,[]⟩ .z) .z)))) .z))))) .z))))
theorem TK:aJ 113 (TH n) :=ov (au (X6 n) (au (XV n) (au (uK n) aB))) func113 TJ n (by kernel_rfl) λ_=>by kernel_rfl
def ajW:bx xx:=⟨[.d dw,.d (.sl (.st SI.Entry)),.d (.sl .str),.d (.st SI.Expr)],[.d ah],λa=>vG n a.1 a.2.1 a.2.2.1 a.2.2.2.1,none⟩
theorem ajX:aJ 79 (ajW n) :=cq (au (XV n) (au (TK n) (au (uK n) aB))) func79 .z n
def X7:bx xx:=⟨[.d aG],[.fresh (.st SI.k8)],λa=>xM a.1,none⟩
theorem I5:aJ 53 X7 :=cq aB func53 .z 0
def I6:bx xx:=⟨[.d (.sl (.st SI.gh)),.d7 [.st SI.gh] .bool],[.d ah],λa=>rD n a.1 a.2.1,none⟩
def I7:Hn SI:=(.s .z (.s (.s .z (.b (.lx ⟨[(8,.v ah)],[],[0,1,7],[],1256,[]⟩ 0 ⟨[],[],[],[],1256,[]⟩ .z))) .z))
theorem I8:aJ 207 (I6 n) :=cq aB func207 I7 n
def Dk:bx xx:=⟨[.d (.sl (.st SI.gh)),.d7 [.st SI.gh] .bool],[.d .bool],λa=>kE n a.1 a.2.1,none⟩
theorem Dl:aJ 174 (Dk n) :=cq (au (I8 n) aB) func174 .z n
def X8:bx xx:=⟨[.d ah,.d ah,.d ah],[.d .bool],λa=>nJ a.1 a.2.1 a.2.2.1,none⟩
theorem X9:aJ 208 X8 :=cq aB func208 .z 0
def Za:bx xx:=⟨[.d (.st SI.gh)],[.d .bool],λa=>Ae a.1,none⟩
theorem Zb:aJ 176 Za :=cq (au X9 aB) func176 .z 0
def QL:bx xx:=⟨[.d (.st SI.gh)],[.d .bool],λa=>tK a.1,none⟩
theorem QM:aJ 175 QL :=cq (au Zb aB) func175 .z 0
def Zc:bx xx:=⟨[.d ay,.d (.sl (.st SI.gh))],[.d .bool],λa=>Af n a.1 a.2.1,none⟩
theorem Zd:aJ 125 (Zc n) :=cq (au oq (au (Dl n) (au QM aB))) func125 .z n
def ajY:bx xx:=⟨[.d (.sl ay),.d (.sl ay)],[.d .bool],λa=>Uq n a.1 a.2.1,none⟩
theorem ajZ:aJ 132 (ajY n) :=cq (au (Fh n) aB) func132 .z n
def ahg:bx xx:=⟨[.d (.sl (.st SI.k8))],[.d .bool],λa=>H6 n a.1,none⟩
def ahh:Hn SI:=(cg (.s (.s .z (.b (.lx ⟨[(11,.v ah)],[],[0,9,10],[],1448,[]⟩ 0 ⟨[],[],[],[],1448,[]⟩ (cg (.s (.jx ⟨[],[],[0,9,10,11],[],1512,[]⟩ (.b (.s .z (.s (.s (.j ⟨[(42,.v .bool)],[],[0,3,4,9,10,11],[1704],1896,[]⟩ .z) .z) (cg (.s (.j ⟨[(68,.v .bool)],[],[0,9,10,11],[],2472,[]⟩ .z) .z)))))) .z))))) .z))
theorem Ya:aJ 87 (ahg n) :=cq (au (oZ n) (au (ajZ n) aB)) func87 ahh n
def OW:bx xx:=⟨[.d ay,.d ah,.d ah],[.d (.st SI.m4)],λa=>wS a.1 a.2.1 a.2.2.1,none⟩
theorem OX:aJ 209 OW :=cq aB func209 .z 0
def QN:bx xx:=⟨[.d ah,.d ah],[.d ah],λa=>tL a.1 a.2.1,none⟩
def QO:Hn SI:=(cg (.s (.j ⟨[(5,.v ah)],[],[],[],1320,[]⟩ .z) .z))
theorem QR:aJ 210 QN :=cq aB func210 QO 0
def ae4:bx xx:=⟨[.d ay,.d (.sl (.st SI.gh)),.d ah,.d ah],[.d ah],λa=>Jw n a.1 a.2.1 a.2.2.1 a.2.2.2.1,none⟩
def ae5:Hn SI:=(gO (.s (.s .z (.b (.l ⟨[(9,.v ah),(19,.v ah)],[],[10,17,18],[1448],1768,[]⟩ 0 ⟨[(9,.v ah)],[],[],[],1768,[]⟩ .z))) .z))
theorem ae6:aJ 177 (ae4 n) :=cq (au OX (au QR aB)) func177 ae5 n
def Yb:bx xx:=⟨[.d ay,.d (.sl (.st SI.gh)),.d (.sl ay)],[.d ah],λa=>xO n a.1 a.2.1 a.2.2.1,none⟩
def Yc:Hn SI:=(cg (.s (.s .z (.b (.l ⟨[(7,.v ah),(16,.v ah)],[],[1,3,14,15],[1000],1384,[]⟩ 0 ⟨[(7,.v ah)],[],[],[],1384,[]⟩ (cg (.s (.b (cg (.b (.l ⟨[(7,.v ah),(27,.v ah)],[],[1,3,9,14,15,16,25,26],[1000,1576,2024],2216,[]⟩ 2 ⟨[(7,.v ah)],[],[1,3,14,15,16],[1000],2216,[]⟩ (cg (.s (.b (cg (.b (.l ⟨[(7,.v ah),(38,.v ah)],[],[1,3,9,11,14,15,16,25,26,27,36,37],[1000,1576,2024,2792],2984,[]⟩ 4 ⟨[(7,.v ah)],[],[1,3,9,14,15,16,25,26,27],[1000,1576,2024],2984,[]⟩ .z)))) .z)))))) .z))))) .z))
theorem Yd:aJ 127 (Yb n) :=cq (au (ae6 n) aB) func127 Yc n
def OY:bx xx:=⟨[.d (.st SI.k8),.ref ay,.ref (.sl (.st SI.gh))],[.d .bool],λa=>qW n a.1 a.2.1 a.2.2.1,none⟩
theorem OZ:aJ 126 (OY n) :=cq (au (Yd n) aB) func126 .z n
def J6:bx xx:=⟨[.d (.sl (.st SI.k8)),.d7 [.st SI.k8] .bool],[.d ah],λa=>tN n a.1 a.2.1,none⟩
def J7:Hn SI:=(.s .z (.s (.s .z (.b (.lx ⟨[(8,.v ah)],[],[0,1,7],[],1256,[]⟩ 0 ⟨[],[],[],[],1256,[]⟩ .z))) .z))
theorem J8:aJ 133 (J6 n) :=cq aB func133 J7 n
def EU:bx xx:=⟨[.d (.sl (.st SI.k8)),.d7 [.st SI.k8] .bool],[.d .bool],λa=>iY n a.1 a.2.1,none⟩
theorem uD:aJ 88 (EU n) :=cq (au (J8 n) aB) func88 .z n
def Ye:bx xx:=⟨[.d ay,.d (.sl (.st SI.gh)),.d (.sl (.st SI.k8))],[.d .bool],λa=>xP n a.1 a.2.1 a.2.2.1,none⟩
def Yf:Hn SI:=(.s .z (.s (.s (.j ⟨[(15,.v .bool)],[],[2,3,4],[1000,1064],1192,[]⟩ .z) .z) .z))
theorem Yg:aJ 82 (Ye n) :=cq (au (Zd n) (au (Ya n) (au (uD n) (au (OZ n) aB)))) func82 Yf n
def BN:bx xx:=⟨[.d aG,.ref ay,.ref bg],[.d .bool],λa=>jM n a.1 a.2.1 a.2.2.1,none⟩
theorem BP:aJ 81 (BN n) :=cq (au I5 (au (Yg n) aB)) func81 .z n
def Lx:bx xx:=⟨[.d (.st SI.ke),.d7 [aG] .bool],[.d .bool],λa=>gK n a.1 a.2.1,none⟩
theorem zq:aJ 50 (Lx n) :=cq (au (qJ n) aB) func50 .z n
def BQ:bx xx:=⟨[.d aG,.ref bg],[.d .bool],λa=>jN a.1 a.2.1,none⟩
theorem BR:aJ 83 BQ :=cq aB func83 .z 0
def ama:bx xx:=⟨[.d ay,.d ay],[.d ah,.d ah],λa=>ali a.1 a.2.1,none⟩
theorem amb:aJ 179 ama :=cq aB func179 .z 0
def anI:bx xx:=⟨[.d ay,.d ay],[.d ah],λa=>N3 a.1 a.2.1,none⟩
def anJ:Hn SI:=(.s .z (.s (.s (.j ⟨[(14,.v .bool)],[],[2,3],[1000,1064],1192,[]⟩ .z) .z) .z))
theorem anK:aJ 130 anI :=cq (au oq (au amb aB)) func130 anJ 0
def Dm:bx xx:=⟨[.d (.st SI.gb),.ref (.st SI.ke),.ref aG,.ref bg],[.d .bool],λa=>dU a.1 a.2.1 a.2.2.1 a.2.2.2.1,none⟩
def Dn:Hn SI:=(cg (.s (.s (.j ⟨[(32,.v .bool)],[],[2,3,6],[1256],1384,[]⟩ .z) .z) (.s (.j ⟨[(7,.v .bool)],[],[2,3,6],[1256],1384,[]⟩ .z) .z)))
theorem Dp:aJ 129 Dm :=cq (au oq (au anK aB)) func129 Dn 0
def Gj:bx xx:=⟨[.d (.sl (.st SI.gb)),.d7 [.st SI.gb] .bool],[.d ah],λa=>qg n a.1 a.2.1,none⟩
def Gl:Hn SI:=(.s .z (.s (.s .z (.b (.lx ⟨[(8,.v ah)],[],[0,1,7],[],1256,[]⟩ 0 ⟨[],[],[],[],1256,[]⟩ .z))) .z))
theorem Gm:aJ 178 (Gj n) :=cq aB func178 Gl n
def BU:bx xx:=⟨[.d (.sl (.st SI.gb)),.d7 [.st SI.gb] .bool],[.d .bool],λa=>jO n a.1 a.2.1,none⟩
theorem BV:aJ 128 (BU n) :=cq (au (Gm n) aB) func128 .z n
def I9:bx xx:=⟨[.d (.st SI.ke),.d bg,.d aG],[.d .bool],λa=>rE n a.1 a.2.1 a.2.2.1,none⟩
theorem Ja:aJ 85 (I9 n) :=cq (au (BV n) (au Dp aB)) func85 .z n
def BX:bx xx:=⟨[.d aG,.ref (.st SI.ke),.ref bg],[.d .bool],λa=>jP n a.1 a.2.1 a.2.2.1,none⟩
theorem BZ:aJ 84 (BX n) :=cq (au (Ja n) aB) func84 .z n
def Gn:bx xx:=⟨[.d (.st SI.ke),.d bg],[.d .bool],λa=>mF n a.1 a.2.1,none⟩
theorem Gp:aJ 49 (Gn n) :=cq (au (ab6 n) (au (ajX n) (au (RU n) (au (zq n) (au (BP n) (au BR (au (BZ n) aB))))))) func49 .z n
def TM:bx xx:=⟨[.d ay,.ref ay],[.d .bool],λa=>vH a.1 a.2.1,none⟩
theorem TN:aJ 136 TM :=cq aB func136 .z 0
def J9:bx xx:=⟨[.d (.sl ay),.d7 [ay] .bool],[.d ah],λa=>tO n a.1 a.2.1,none⟩
def Ka:Hn SI:=(.s .z (.s (.s .z (.b (.lx ⟨[(8,.v ah)],[],[0,1,7],[],1256,[]⟩ 0 ⟨[],[],[],[],1256,[]⟩ .z))) .z))
theorem Kb:aJ 180 (J9 n) :=cq aB func180 Ka n
def EW:bx xx:=⟨[.d (.sl ay),.d7 [ay] .bool],[.d .bool],λa=>iZ n a.1 a.2.1,none⟩
theorem uE:aJ 134 (EW n) :=cq (au (Kb n) aB) func134 .z n
def ab8:bx xx:=⟨[.d ay,.ref (.sl ay)],[.d .bool],λa=>Eo n a.1 a.2.1,none⟩
theorem ab9:aJ 135 (ab8 n) :=cq (au (uE n) (au TN aB)) func135 .z n
def aj0:bx xx:=⟨[.d (.sl ay),.d (.sl ay)],[.d .bool],λa=>Ur n a.1 a.2.1,none⟩
theorem aj1:aJ 90 (aj0 n) :=cq (au (uE n) (au (ab9 n) aB)) func90 .z n
def TP:bx xx:=⟨[.d (.st SI.k8),.ref (.st SI.eR)],[.d .bool],λa=>qy n a.1 a.2.1,none⟩
theorem TQ:aJ 89 (TP n) :=cq (au (aj1 n) aB) func89 .z n
def acd:bx xx:=⟨[.d (.sl (.st SI.eR)),.d ah,.d (.sl (.st SI.k8))],[.d .bool],λa=>Ep n a.1 a.2.1 a.2.2.1,none⟩
def ace:Hn SI:=(cg (.s (.s .z (.b (.lx ⟨[(14,.v ah)],[],[1,2,12,13],[],1448,[]⟩ 0 ⟨[],[],[],[],1448,[]⟩ (cg (.s (.jx ⟨[],[],[1,2,12,13,14],[],1512,[]⟩ (.b (.s .z (.s (.s (.j ⟨[(27,.v .bool)],[],[1,2,8,12,13,14],[1640],1768,[]⟩ .z) .z) .z)))) .z))))) .z))
theorem acf:aJ 52 (acd n) :=cq (au (Ya n) (au (oZ n) (au (uD n) (au (TQ n) aB)))) func52 ace n
def LA:bx xx:=⟨[.d aG,.ref fJ,.ref (.st SI.dE)],[.d .bool],λa=>mK n a.1 a.2.1 a.2.2.1,none⟩
theorem LB:aJ 51 (LA n) :=cq (au I5 (au (acf n) aB)) func51 .z n
def Gq:cX xx:=⟨[.v .str,.v .bool,.p 0],[(0,qq),(1,.l .str)],[],[(0,.c 1 [[.o 1000]]),(1000,.l .str)],λv=>jw n v.1 v.2.1 v.2.2⟩
def Gr:bx xx:=⟨[],[.d .bool],λ_=>none,some (Gq n)⟩
def Gs:Hn SI:=(.s (.j ⟨[(11,.v .bool)],[],[0,2],[0,1],1000,[]⟩ .z) .z)
theorem Gt:aJ 46 (Gr n) :=ov (au (o6 n) aB) func46 Gs n (by kernel_rfl) λ_=>by kernel_rfl
def TS:bx xx:=⟨[.d fJ,.d (.st SI.dE),.d ah],[.fresh .str,.d ah],λa=>vJ n a.1 a.2.1 a.2.2.1,none⟩
def TU:Hn SI:=(wn (.s (.s .z (.b (.l ⟨[(31,.v ah)],[(1960,.c 1 [[.o 2664]]),(2664,.l .str)],[3,4,8,10,11,29,30],[1000,1064,1640,2472],2665,[(9028160,.str)]⟩ 0 ⟨[],[(1960,.c 1 [[.o 2664]]),(2664,.l .str)],[3,4,8,10,11],[1000,1064,1640],2665,[]⟩ .z))) .z))
theorem TW:aJ 31 (TS n) :=cq (au (Y3 n) (au (XU n) (au (Gp n) (au (Gt n) (au (zq n) (au (LB n) aB)))))) func31 TU n
def TY:bx xx:=⟨[.d fJ,.d (.st SI.dE),.d ah],[.d .bool],λa=>iU n a.1 a.2.1 a.2.2.1,none⟩
theorem wX:aJ 12 (TY n) :=cq (au (TW n) aB) func12 .z n
def Yh:bx xx:=⟨[.d fJ,.d ah,.d7 [.sl .bool] .bool,.d (.sl dw)],[.d fq,.d .bool],λa=>pQ n a.1 a.2.1 a.2.2.1 a.2.2.2.1,none⟩
def Yi:Hn SI:=(.s .z (.s (.s .z (.b (.lx ⟨[(18,.v ah)],[],[1,2,3,4,8,16,17],[1000,1064,1256],1448,[]⟩ 0 ⟨[],[],[8],[1064],1448,[]⟩ (cg (.s (.b (cg (.s (.s .z (.b (.l ⟨[(12,.o 2024),(24,.v ah)],[(2024,.l .bool)],[1,2,3,4,8,11,16,17,18,22,23],[1000,1064,1256,1640],2025,[(12,.bool)]⟩ 2 ⟨[(12,.o 2024)],[(2024,.l .bool)],[1,2,3,4,8,11,16,17,18],[1000,1064,1256,1640],2025,[]⟩ .z))) .z))) .z))))) .z))
theorem zu:aJ 19 (Yh n) :=cq (au (Fj n) (au wT (au (wX n) aB))) func19 Yi n
def LC:bx xx:=⟨[.d (.sl .bool)],[.d .bool],λa=>uZ a.1,none⟩
theorem LD:aJ 21 LC :=cq aB func21 .z 0
def T9:bx xx:=⟨[.d fJ,.d dw,.d dw,.d ah],[.d fq,.d .bool],λa=>iV n a.1 a.2.1 a.2.2.1 a.2.2.2.1,none⟩
theorem Fq:aJ 8 (T9 n) :=cq (au (zu n) (au LD aB)) func8 .z n
def LF:bx xx:=⟨[.d (.sl .bool)],[.d .bool],λa=>u6 a.1,none⟩
def LG:Hn SI:=(cg (.s (.j ⟨[(3,.v .bool)],[],[0],[],1320,[]⟩ .z) .z))
theorem LJ:aJ 20 LF :=cq aB func20 LG 0
def Ua:bx xx:=⟨[.d fJ,.d dw,.d dw,.d dw,.d dw,.d ah],[.d fq,.d .bool],λa=>d9 n a.1 a.2.1 a.2.2.1 a.2.2.2.1 a.2.2.2.2.1 a.2.2.2.2.2.1,none⟩
theorem Fs:aJ 7 (Ua n) :=cq (au (zu n) (au LJ aB)) func7 .z n
def Gu:bx xx:=⟨[.d (.sl .bool)],[.d .bool],λa=>qh a.1,none⟩
theorem Gv:aJ 33 Gu :=cq aB func33 .z 0
def LK:bx xx:=⟨[.d fJ,.d dw,.d dw,.d ah],[.d .bool],λa=>gL n a.1 a.2.1 a.2.2.1 a.2.2.2.1,none⟩
theorem LM:aJ 16 (LK n) :=cq (au (zu n) (au Gv aB)) func16 .z n
def QS:bx xx:=⟨[.d fJ,.d dw,.d fq,.d ah],[.d .bool],λa=>mO n a.1 a.2.1 a.2.2.1 a.2.2.2.1,none⟩
theorem QT:aJ 17 (QS n) :=cq (au (II n) (au wT (au (wX n) aB))) func17 .z n
def LP:bx xx:=⟨[.d fJ,.d dw,.d ah],[.fresh .bool],λa=>mQ n a.1 a.2.1 a.2.2.1,none⟩
def LQ:Hn SI:=(cg (.s (.s .z (.b (.l ⟨[(7,.o 1512),(13,.v ah)],[(1512,.l .bool)],[2,3,4,11,12],[1000,1064,1320],1513,[(7,.bool)]⟩ 0 ⟨[(7,.o 1512)],[(1512,.l .bool)],[],[],1513,[]⟩ .z))) .z))
theorem LU:aJ 9 (LP n) :=cq (au (Fj n) (au wT (au (wX n) aB))) func9 LQ n
def ae7:bx xx:=⟨[],[.d .bool],λ_=>CB n,none⟩
def ae8:Hn SI:=(PM (.s (.j ⟨[(13,.v .bool)],[],[1,6,7,8,9,11,12],[1256,1384,3368,4136,5160],5288,[]⟩ .z) .z))
theorem ae9:aJ 5 (ae7 n) :=cq (au agP (au (Fq n) (au (Fs n) (au (LM n) (au (QT n) (au (LU n) aB)))))) func5 ae8 n
def ahi:Hn SI:=(cg (.s (.s .z (.b (.l ⟨[(3,.v ah),(4,.v ah)],[],[1],[1000],1256,[]⟩ 0 ⟨[(3,.v ah)],[],[],[],1256,[]⟩ .z))) .z))
theorem afa(rc:(bZ)->Option Int)(hr:aJ 56 (H8 rc)):aJ 56 (H8 (Er n rc)) :=cq (au hr aB) func56 ahi n
theorem RY(n:Nat):∀m,aJ 56 (H8 (u7 n m))
 | 0=>zp (mV func56 (by kernel_rfl:Tryz.f56.body=some (Tryz.f56.body.getD .skip)) (by kernel_rfl)) (λ _ _ h=>(by cases h)) rfl
 |m+1=>afa n _ (RY n m)
def ahj:bx xx:=⟨[.d (.st SI.Expr)],[.d ah],λa=>H9 n a.1,none⟩
theorem ahk:aJ 56 (ahj n):=RY n n
def Ze:bx xx:=⟨[.d dw],[.d .bool],λa=>wG n a.1,none⟩
def Zf:Hn SI:=(.s .z (.s (.s (.j ⟨[(35,.v .bool)],[],[1],[1000],1128,[]⟩ .z) .z) (.s (.s .z (.b (.lx ⟨[(3,.v ah)],[],[1],[1000],1192,[]⟩ 0 ⟨[],[],[1],[1000],1192,[]⟩ .z))) (.s (.s .z (.b (.lx ⟨[(4,.v ah)],[],[1],[1000],1256,[]⟩ 2 ⟨[],[],[1],[1000],1256,[]⟩ (.s .z (.s (.b (.s (.j ⟨[(85,.v .bool)],[],[1,4],[1000],1576,[]⟩ .z) .z)) .z))))) (.s (.s .z (.b (.lx ⟨[(5,.v ah)],[],[1],[1000],1320,[]⟩ 4 ⟨[],[],[1],[1000],1320,[]⟩ .z))) (.s (.s .z (.b (.lx ⟨[(6,.v ah)],[],[1],[1000],1384,[]⟩ 6 ⟨[],[],[1],[1000],1384,[]⟩ .z))) (.s (.s .z (.b (.lx ⟨[(7,.v ah)],[],[1],[1000],1448,[]⟩ 8 ⟨[],[],[],[],1448,[]⟩ .z))) .z)))))))
theorem Zg:aJ 35 (Ze n) :=cq (au (ahk n) aB) func35 Zf n
def Ub:bx xx:=⟨[.d ay],[.d .bool],λa=>vK a.1,none⟩
theorem Uc:aJ 181 Ub :=cq aB func181 .z 0
def acg:bx xx:=⟨[.d (.sl ah)],[.fresh ah],λa=>Es n a.1,none⟩
def ach:Hn SI:=(cg (.s (.s .z (.b (.l ⟨[(3,.o 1192),(4,.v ah)],[(1192,.l ah)],[0],[],1193,[(3,ah)]⟩ 0 ⟨[(3,.o 1192)],[(1192,.l ah)],[],[],1193,[]⟩ (.s .z (.s (.j ⟨[(3,.o 1449)],[(1449,.l ah)],[0,4],[],1450,[]⟩ (.b (.s .z (.s (.b (.l ⟨[(5,.v ah)],[],[0,3,4],[1192],1641,[]⟩ 2 ⟨[(5,.v ah)],[],[0,3,4],[1192],1641,[]⟩ (.s (.s (.j ⟨[(28,.v .bool)],[],[0,3,4,5],[1192],1641,[]⟩ .z) .z) .z))) (.s (.s (.j ⟨[(44,.v .bool)],[],[0,3,4,5],[1192],1641,[]⟩ .z) .z) (.s .z (.s (.s .z (.b (.l ⟨[(6,.v ah)],[(1769,.l ah)],[0,3,4,5],[],2153,[]⟩ 4 ⟨[],[(1769,.l ah)],[0,3,4,5],[],2153,[]⟩ .z))) .z))))))) .z))))) .z))
theorem aci:aJ 247 (acg n) :=cq aB func247 ach n
def afb:bx xx:=⟨[.d (.sl ay),.d (.sl ay)],[.fresh ah],λa=>Jy n a.1 a.2.1,none⟩
def afc:Hn SI:=(cg (.s (.s .z (.b (.l ⟨[(5,.o 1192),(6,.v ah)],[(1192,.l ah)],[0,1],[],1193,[(5,ah)]⟩ 0 ⟨[(5,.o 1192)],[(1192,.l ah)],[1],[],1193,[]⟩ .z))) (.s (.s .z (.b (.l ⟨[(5,.o 1257),(7,.v ah)],[(1257,.l ah)],[1],[],1258,[]⟩ 2 ⟨[(5,.o 1257)],[(1257,.l ah)],[],[],1258,[]⟩ .z))) .z)))
theorem afd:aJ 211 (afb n) :=cq (au (aci n) aB) func211 afc n
def acj:bx xx:=⟨[.d (.sl ay),.d ah],[.fresh ah],λa=>yQ n a.1 a.2.1,none⟩
def ack:Hn SI:=(gO (.s (.s .z (.b (.l ⟨[(5,.o 1256),(6,.o 1257),(7,.v ah)],[(1256,.l ah),(1257,.l ah)],[0,1],[],1258,[(5,ah),(6,ah)]⟩ 0 ⟨[(5,.o 1256),(6,.o 1257)],[(1256,.l ah),(1257,.l ah)],[],[],1258,[]⟩ (.s .z (.s (.j ⟨[(5,.o 1514),(6,.o 1515)],[(1514,.l ah),(1515,.l ah)],[0,1,7],[],1516,[]⟩ (.b (.s (.s (.j ⟨[(32,.v .bool)],[],[0,1,5,6,7],[1256,1257],1514,[]⟩ .z) .z) (gO (.s (.b (.l ⟨[(8,.v ah)],[(1834,.l ah),(2090,.l ah)],[0,1,5,6,7],[],2218,[]⟩ 2 ⟨[(8,.v ah)],[(1834,.l ah),(2090,.l ah)],[0,1,5,6,7],[],2218,[]⟩ (.s (.s (.j ⟨[(55,.v .bool)],[],[0,1,5,6,7,8],[1834,2090],2218,[]⟩ .z) .z) .z))) .z))))) .z))))) (.s .z (.s (.s .z (.b (.l ⟨[(9,.o 1386),(10,.v ah)],[(1386,.l ah)],[5,6],[1256,1257],1387,[(9,ah)]⟩ 4 ⟨[(9,.o 1386)],[(1386,.l ah)],[],[],1387,[]⟩ (.s .z (.s (.j ⟨[(9,.o 1643)],[(1643,.l ah)],[5,6,10],[1256,1257],1644,[]⟩ (.b (.s (.s (.j ⟨[(111,.v .bool)],[],[5,6,9,10],[1256,1257,1386],1643,[]⟩ .z) .z) .z))) .z))))) .z))))
theorem acn:aJ 213 (acj n) :=cq aB func213 ack n
def Zh:bx xx:=⟨[.d (.sl ah),.d (.sl ah),.d ah],[.fresh ah],λa=>Ai n a.1 a.2.1 a.2.2.1,none⟩
def Zi:Hn SI:=(wn (.s (.b (.l ⟨[(7,.o 1320),(8,.v ah),(9,.v ah),(10,.v .bool)],[(1320,.l ah)],[0,1,2],[],1321,[(7,ah)]⟩ 0 ⟨[(7,.o 1320)],[(1320,.l ah)],[],[],1321,[]⟩ (.s (.s (.j ⟨[(24,.v .bool)],[],[0,1,2,7,8,9,10],[1320],1321,[]⟩ .z) .z) (.b (.s .z (.s (.j ⟨[(11,.v ah)],[],[0,1,2,7,8,9,10],[1320],1385,[]⟩ (.s (.j ⟨[(49,.v .bool)],[],[0,1,2,7,8,9,10],[1320],1385,[]⟩ .z) .z)) (.s (.j ⟨[(8,.v ah)],[],[0,1,2,7,9,10,11],[1320],1385,[]⟩ (.s (.j ⟨[(69,.v .bool)],[],[0,1,2,7,8,9,10,11],[1320],1385,[]⟩ .z) .z)) (.s (.j ⟨[(9,.v ah)],[],[0,1,2,7,8,10,11],[1320],1385,[]⟩ (.s (.j ⟨[(83,.v .bool)],[],[0,1,2,7,8,9,10,11],[1320],1385,[]⟩ .z) .z)) (cg (.s (.j ⟨[(14,.v .bool)],[],[0,1,2,7,8,9,10,11,12,13],[1320],1897,[]⟩ .z) (.s (.j ⟨[(14,.v .bool)],[],[0,1,2,7,8,9,10,11,12,13],[1320],1897,[]⟩ .z) (.s (.j ⟨[(14,.v .bool)],[],[0,1,2,7,8,9,10,11],[1320],1897,[]⟩ .z) (.s (.j ⟨[(7,.o 1897)],[(1897,.l ah)],[0,1,2,8,9,14],[],1898,[]⟩ .z) .z))))))))))))) .z))
theorem Zj:aJ 212 (Zh n) :=cq aB func212 Zi n
def ahl:bx xx:=⟨[.d (.sl ah),.d (.sl ah)],[.d .bool],λa=>NE n a.1 a.2.1,none⟩
def ahm:Hn SI:=(cg (.s (.s .z (.b (.lx ⟨[(5,.v ah)],[],[0,1],[],1448,[]⟩ 0 ⟨[],[],[],[],1448,[]⟩ .z))) .z))
theorem ahn:aJ 214 (ahl n) :=cq aB func214 ahm n
def aho:bx xx:=⟨[.d (.sl ay),.d (.sl ay),.d ah],[.fresh ay],λa=>NF n a.1 a.2.1 a.2.2.1,none⟩
def ahp:Hn SI:=(wn (.s (.s .z (.b (.l ⟨[(7,.o 1576),(9,.o 1577),(10,.v ah),(11,.v ah)],[(1576,.l ay),(1577,.l ah)],[0,1,2,8],[1256],1578,[(7,ay),(9,ah)]⟩ 0 ⟨[(7,.o 1576)],[(1576,.l ay)],[],[],1577,[]⟩ (.s .z (.s (.j ⟨[(7,.o 1898),(9,.o 1899),(10,.v ah)],[(1898,.l ay),(1899,.l ah)],[0,1,2,8,11],[1256],1900,[]⟩ (.b (.s .z (.s (.s (.j ⟨[(50,.v .bool)],[],[0,1,2,7,8,9,10,11,12],[1256,1576,1577,2730],2858,[]⟩ .z) (.s (.s (.s .z (.b (.l ⟨[(13,.v ah)],[(1576,.l ay)],[0,1,2,7,8,9,10,11],[1256,1577],2986,[]⟩ 2 ⟨[],[(1576,.l ay)],[0,1,2,7,8,9,10,11],[1256,1577],2986,[]⟩ .z))) .z) .z)) (gO (.b (.l ⟨[(7,.o 3242),(14,.v ah)],[(3242,.l ay)],[0,1,2,8,9,10,11,12],[1256,2730],3243,[]⟩ 4 ⟨[(7,.o 3242)],[(3242,.l ay)],[0,1,2,8,9,10,11],[1256,2730],3243,[]⟩ .z))))))) .z))))) .z))
theorem ahq:aJ 182 (aho n) :=cq (au (afd n) (au (acn n) (au (Zj n) (au (ahn n) aB)))) func182 ahp n
def amc:bx xx:=⟨[.d (.sl ay)],[.fresh ay,.d ah],λa=>Pc n a.1,none⟩
def amd:Hn SI:=(.s .z (.s (.s .z (.b (.lx ⟨[(4,.v ah)],[],[0],[],1192,[]⟩ 0 ⟨[],[],[0],[],1192,[]⟩ .z))) .z))
theorem ame:aJ 137 (amc n) :=cq (au Uc (au (ahq n) aB)) func137 amd n
def ahr:bx xx:=⟨[.d (.sl ay),.d (.sl ay)],[.d .bool],λa=>NG n a.1 a.2.1,none⟩
def ahs:Hn SI:=(cg (.s (.s .z (.b (.lx ⟨[(5,.v ah)],[],[0,1],[],1448,[]⟩ 0 ⟨[],[],[],[],1448,[]⟩ .z))) .z))
theorem aht:aJ 138 (ahr n) :=cq aB func138 ahs n
def afe:bx xx:=⟨[.d (.sl ay)],[.d .bool],λa=>JA n a.1,none⟩
theorem aff:aJ 91 (afe n) :=cq (au (ame n) (au (aht n) aB)) func91 .z n
def aco:bx xx:=⟨[.d (.sl ay)],[.d ay,.d .bool],λa=>Eu n a.1,none⟩
def acp:Hn SI:=(.s .z (.s (.s (.j ⟨[(13,.v .bool)],[],[0,2],[1000],1128,[]⟩ .z) .z) (.s .z (.s (.s .z (.b (.l ⟨[(5,.v ah)],[(1320,uu)],[0,2,4],[1000],1512,[]⟩ 0 ⟨[],[(1320,uu)],[2,4],[1000],1512,[]⟩ .z))) .z))))
theorem acr:aJ 57 (aco n) :=cq (au (aff n) aB) func57 acp n
def acs:bx xx:=⟨[.d iM],[.d .bool],λa=>Ew n a.1,none⟩
theorem acu:aJ 36 (acs n) :=cq (au (acr n) aB) func36 .z n
def aj2:bx xx:=⟨[.d fJ],[.d .bool],λa=>EA n a.1,none⟩
def aj3:Hn SI:=(.s .z (.s (.s (.j ⟨[(26,.v .bool)],[],[1],[1000],1128,[]⟩ .z) .z) (.s (.s .z (.b (.lx ⟨[(3,.v ah)],[],[1],[1000],1192,[]⟩ 0 ⟨[],[],[1],[1000],1192,[]⟩ .z))) (.s (.s .z (.b (.lx ⟨[(4,.v ah)],[],[1],[1000],1256,[]⟩ 2 ⟨[],[],[],[],1256,[]⟩ .z))) .z))))
theorem aj4:aJ 18 (aj2 n) :=cq (au (Zg n) (au (acu n) aB)) func18 aj3 n
def aj5:bx xx:=⟨[.d fJ,.d (.sl dw)],[.d .bool],λa=>Us n a.1 a.2.1,none⟩
def aj6:Hn SI:=(.s .z (.s (.s .z (.b (.lx ⟨[(5,.v ah)],[(1000,GM)],[1,2],[],1192,[]⟩ 0 ⟨[],[(1000,GM)],[2],[],1192,[]⟩ .z))) .z))
theorem aj7:aJ 6 (aj5 n) :=cq (au (aj4 n) aB) func6 aj6 n
def LV:bx xx:=⟨[.d fJ,.d dw,.d dw,.d dw,.d ah],[.d .bool],λa=>mR n a.1 a.2.1 a.2.2.1 a.2.2.2.1 a.2.2.2.2.1,none⟩
theorem LW:aJ 3 (LV n) :=cq (au (ae9 n) (au (aj7 n) (au (Fs n) (au (Fq n) aB)))) func3 .z n
end
end Go.Proofs
