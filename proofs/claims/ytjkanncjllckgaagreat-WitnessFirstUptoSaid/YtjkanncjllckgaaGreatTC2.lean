import Derived.Test.YtjkanncjllckgaaGreatTC1
namespace Go.Proofs
open Go.Gb Go.RowKit
open Tryz
noncomputable section
variable (n:Nat)
theorem X0:aJ 120 (ahi n) :=cq (au (ae3 n) aB) func120 .z n
def OV:bx xx:=⟨[],[.fresh .str],λ_=>wU,none⟩
theorem OW:aJ 205 OV :=cq aB func205 .z 0
mutual
theorem anL:∀g:bZ,(toE g).wt<=4000000->pP (toE g) (qO g)
 |⟨op,n,s,key,args⟩,h=>by
  simp only[toE,ET.wt]at h;have:=ET.qv (Ia args);simp only[toE,qO,pP];exact⟨n,key,_,rfl,by unfold maxLen;omega,by omega,X4 args (by omega)⟩
theorem X4:∀l:List bZ,ET.te (Ia l)<=4000000->kx (Ia l) (sU l)
 |[],_=>by simp only[Ia,sU,kx]
 |x::xs,h=>by
  simp only[Ia,ET.te]at h;simp only[Ia,sU,kx];exact⟨_,_,rfl,anL x (by omega),X4 xs (by omega)⟩
end
def OX:bx xx:=⟨[],[.d .bool],λ_=>none,some ⟨[.v (.sl bC)],[],[.p 1000],[(1000,rx)],λv=>kS v⟩⟩
theorem ae4:∀l:List fH,rh (l.map toD)<=4000000->ky (l.map toD) (l.map Ef)
 |[],_=>by simp only[List.map_nil,ky]
 |x::xs,h=>by
  simp only[aF,rh,List.foldr_cons,toD,ET.wt]at h;have:=ET.qv (Ia x.eo);simp only[aF,ky];refine⟨_,_,rfl,⟨_,_,_,_,_,rfl,by simp only[toD];unfold maxLen;omega,?_⟩,ae4 xs (by simp only[rh];omega)⟩;simp only[toD,pP];exact⟨_,_,_,rfl,by unfold maxLen;omega,by omega,by rw[<- sV];exact X4 _ (by omega)⟩
theorem OY:aJ 206 OX:=by
 have hcall:eT Tryz.prog 206:=⟨_,func206,by kernel_rfl,by kernel_rfl⟩;refine Mn hcall ?_;intro v r hr;have h':kS v=some r:=hr;unfold kS at h';cases hb:Nat.ble (rh (List.map toD v)) 4000000 with
 |false=>rw[hb]at h';cases h'
 |true=>
  rw[hb]at h';have h'':some (v,oC (List.map toD v))=some r:=h';injection h'' with e;subst e;have hw:=Nat.le_of_ble_eq_true hb;have hlen:=Us (List.map toD v);have hn:∀d∈List.map toD v,d.2.names.length<=4000000:=λd hd=>by have h1:=Ut hd;have h2:=ET.oT d.2;omega
  exact abx (TL:=52) (TG:=320) (TI:=3) hcall (ae4 v hw) λsv w hS=>amV (List.map toD v) (by omega) (λ d hd=>Nat.le_trans (hn d hd) (by omega))
   (λ d hd v0 v1 v2 v3 v4 w hE=>callsIn_wide.1 (ak6 0 d.2 v0 v1 v2 v3 v4 w hE (Nat.le_trans (hn d hd) (by omega)))) sv w hS
def TH:bx xx:=⟨[.d (.sl ah),.d ah],[.fresh ah],λa=>qz a.1 a.2.1,none⟩
theorem TJ:aJ 281 TH:=by
 have hcall:eT Tryz.prog 281:=⟨_,func281,by kernel_rfl,by kernel_rfl⟩;refine zp hcall (λ a r h=>?_) rfl;obtain⟨l,c,⟨⟩⟩:=a;have h':qz l c=some r:=h
 match l,h' with
 |[x],h'=>
  simp only[qz]at h';cases hb:(decide (0<=c)&&decide (c<=1000000000000))with
  |false=>rw[hb]at h';cases h'
  |true=>
   rw[hb]at h';have h'':some (List.replicate c.toNat x)=some r:=h';injection h'' with e;subst e;simp only[aL,aV]at hb;obtain⟨h1,h2⟩:=hb;obtain⟨k,hk⟩:=Int.eq_ofNat_of_zero_le h1;subst hk;exact af9 (E:=3) (c:=k) hcall λa cap w hx=>ajg x k (Int.ofNat_le.1 (by simpa using h2)) a cap w hx
def X5:bx xx:=⟨[.d (.sl ah),.d ah],[.d ah],λa=>Er n a.1 a.2.1,none⟩
def X6:Hn SI:=(.s .z (.s (.s .z (.b (.lx ⟨[(8,.v ah)],[],[0,1,7],[],1256,[]⟩ 0 ⟨[],[],[],[],1256,[]⟩ .z))) .z))
theorem X7:aJ 290 (X5 n) :=cq aB func290 X6 n
def OZ:bx xx:=⟨[.d (.sl ah),.d ah],[.d .bool],λa=>qW n a.1 a.2.1,none⟩
theorem O1:aJ 282 (OZ n) :=cq (au (X7 n) aB) func282 .z n
def BD:bx xx:=⟨[.ref (.st SI.graph),.d ah],[.fresh ah],λa=>jL n a.1 a.2.1,none⟩
def BG:Hn SI:=(uv (.s (.b (.l ⟨[(6,.od 2024)],[(1448,.l ah),(2024,.l ah)],[0,5],[],2025,[]⟩ 0 ⟨[],[(1448,.l ah)],[5],[],2024,[]⟩ (.s .z (.b (gO (.b (.l ⟨[(6,.od 3049),(35,.v ah)],[(1448,.l ah),(3049,.l ah)],[0,5,7,33,34],[],3050,[]⟩ 2 ⟨[(6,.od 3049)],[(1448,.l ah),(3049,.l ah)],[0,5],[],3050,[]⟩ (cg (.s (.j ⟨[(6,.od 3114)],[(1448,.l ah),(3114,.l ah)],[0,5,7,33,34,35],[],3115,[]⟩ (.b (.s .z (.s (.j ⟨[(49,.v .bool)],[],[0,5,6,7,8,33,34,35],[1448,3049],3434,[]⟩ .z) .z)))) .z))))))))) .z))
theorem BH:aJ 266 (BD n) :=cq (au TJ (au (O1 n) aB)) func266 BG n
def LC:bx xx:=⟨[.d .str],[.d .bool],λa=>cmp_isNaN_string a.1,none⟩
theorem LD:aJ 283 LC :=cq aB func283 .z 0
def IX:bx xx:=⟨[.d .str,.d .str],[.d ah],λa=>nH a.1 a.2.1,none⟩
theorem IY:aJ 267 IX :=cq (au LD aB) func267 .z 0
def JY:bx xx:=⟨[.d (.sl .str),.d (.sl .str)],[.d ah],λa=>lN n a.1 a.2.1,none⟩
def JZ:Hn SI:=(.s .z (.s (.s .z (.b (.lx ⟨[(11,.v ah)],[],[0,1,9,10],[],1256,[]⟩ 0 ⟨[],[],[0,1],[],1256,[]⟩ .z))) .z))
theorem J2:aJ 243 (JY n) :=cq (au IY aB) func243 JZ n
def zl:cX xx:=⟨[.v ah,.p 0],[(0,qq),(1,.l .bool)],[.v .bool],[(0,qq),(1,.l .bool)],λv=>l7 v.1 v.2⟩
def zm:bx xx:=⟨[],[.d .bool],λ_=>none,some (zl)⟩
theorem zn:aJ 245 zm :=ov aB func245 .z 0 (by kernel_rfl) λ_=>by kernel_rfl
def Gi:cX xx:=⟨[.v (.sl ah),(.f 245 [] [.p 0])],[(0,qq),(1,.l .bool)],[.v ah],[(0,qq),(1,.l .bool)],λv=>mG n v.1 v.2⟩
def Gj:bx xx:=⟨[],[.d .bool],λ_=>none,some (Gi n)⟩
def Gl:Hn SI:=(.s .z (.s (.s .z (.b (.lx ⟨[(8,.v ah)],[(0,qq),(1,.l .bool)],[0,1,7],[],1256,[]⟩ 0 ⟨[],[(0,qq),(1,.l .bool)],[],[],1256,[]⟩ .z))) .z))
theorem Gm:aJ 268 (Gj n) :=ov (au zn aB) func268 Gl n (by kernel_rfl) λ_=>by kernel_rfl
def BJ:cX xx:=⟨[.v (.sl ah),(.f 245 [] [.p 0])],[(0,qq),(1,.l .bool)],[.v .bool],[(0,qq),(1,.l .bool)],λv=>iw n v.1 v.2⟩
def BK:bx xx:=⟨[],[.d .bool],λ_=>none,some (BJ n)⟩
theorem BL:aJ 244 (BK n) :=ov (au (Gm n) aB) func244 .z n (by kernel_rfl) λ_=>by kernel_rfl
def IZ:bx xx:=⟨[.ref (.st SI.graph)],[.fresh ah],λa=>nI n a.1,none⟩
def I4:Hn SI:=(gO (.s (.s .z (.b (.l ⟨[(4,.o 2024),(20,.v ah)],[(1448,wj),(2024,.l ah),(1384,.l .bool)],[0,3,19],[],2025,[(4,ah)]⟩ 0 ⟨[(4,.o 2024)],[(2024,.l ah)],[],[],2025,[]⟩ (cg (.s (.b (.s .z (.s (.s .z (.b (.l ⟨[(5,.v ah),(27,.v ah)],[(1448,wj),(1384,.l .bool)],[0,3,4,19,20,25,26],[2024],2537,[]⟩ 2 ⟨[(5,.v ah)],[(1448,wj),(1384,.l .bool)],[0,3,4,19,20],[2024],2537,[]⟩ (cg (.s (.j ⟨[(5,.v ah)],[(1448,wj),(1384,.l .bool)],[0,3,4,19,20,25,26,27],[2024],2601,[]⟩ (.b (cg (.s (.j ⟨[(66,.v .bool)],[],[0,3,4,5,6,19,20,25,26,27],[1384,1448,2024],3177,[]⟩ .z) .z)))) .z))))) .z))) .z))))) .z))
theorem I5:aJ 208 (IZ n) :=cq (au (BL n) aB) func208 I4 n
def BN:cX xx:=⟨[.p 0,.v ah],[(0,rx)],[.oz 1000],[(0,rx),(1000,.l .str)],λv=>jN n v.1 v.2.1 v.2.2⟩
def BP:bx xx:=⟨[],[.d .bool],λ_=>none,some (BN n)⟩
def BQ:Hn SI:=(uv (.b (.lx ⟨[(6,.o 1512),(7,.v ah)],[(1512,.l .str)],[0,1,5],[0,1192],1513,[(6,.str)]⟩ 999999 ⟨[],[],[],[],1512,[]⟩ (.b (cg (.s (.s .z (.b (.l ⟨[(8,.v ah),(34,.v ah)],[],[0,1,5,6,32,33],[0,1192,2153],2921,[]⟩ 2 ⟨[(8,.v ah)],[],[0,1,5,6],[0,1192,2153],2921,[]⟩ (cg (.s (.j ⟨[(8,.v ah)],[],[0,1,5,6,32,33,34],[0,1192,2153],2985,[]⟩ (.b (.s .z (.s (.j ⟨[(57,.v .bool)],[],[0,1,5,6,8,10,32,33,34],[0,1192,2153],3177,[]⟩ .z) .z)))) .z))))) .z))))))
theorem BR:aJ 242 (BP n) :=ov (au (BH n) aB) func242 BQ n (by kernel_rfl) λ_=>by kernel_rfl
def zo:cX xx:=⟨[.p 0],[(0,rx)],[.oz 1000],[(0,rx),(1000,.l .str)],λv=>iW n v.1 v.2⟩
def zq:bx xx:=⟨[],[.d .bool],λ_=>none,some (zo n)⟩
def zu:Hn SI:=(cg (.s (.s .z (.b (.l ⟨[(3,.oz 1512),(11,.v ah)],[(0,rx),(1512,.l .str)],[0,10],[],1513,[(1099511627779,.str)]⟩ 0 ⟨[(3,.oz 1512)],[(0,rx),(1512,.l .str)],[],[],1513,[]⟩ (cg (.s (.j ⟨[(3,.oz 1577)],[(0,rx),(1577,.l .str)],[0,10,11],[],1578,[]⟩ (.b (cg (.s (.s (.j ⟨[(18,.v .bool)],[],[0,3,5,10,11],[0,1512,1833],1961,[]⟩ .z) .z) (.s (.j ⟨[(40,.v .bool)],[],[0,3,5,10,11],[0,1512,1833],1961,[]⟩ .z) .z))))) .z))))) .z))
theorem zw:aJ 207 (zq n) :=ov (au (BR n) (au (J2 n) aB)) func207 zu n (by kernel_rfl) λ_=>by kernel_rfl
def X8:bx xx:=⟨[.d dD],[.fresh ah,.d (.sl .str),.d ah],λa=>nJ n a.1,none⟩
def X9:Hn SI:=(cg (.s (.s .z (.b (.l ⟨[(15,.v ah)],[(1256,.m .str .bool)],[1,5,13,14],[1000,1384],1576,[]⟩ 0 ⟨[],[(1256,.m .str .bool)],[1,5],[1000],1576,[]⟩ .z))) (.s (.s .z (.b (.lx ⟨[(25,.v ah)],[(1256,.m .str .bool)],[1,5,23,24],[1000],1832,[]⟩ 2 ⟨[],[],[1],[1000],1832,[]⟩ .z))) (.s .z (.s (.s .z (.s (.j ⟨[(43,.v .bool)],[],[10,11],[1960,2152],2280,[]⟩ .z) .z)) .z)))))
theorem Ya:aJ 164 (X8 n) :=cq (au OW (au OY (au (zw n) (au (I5 n) aB)))) func164 X9 n
def J3:bx xx:=⟨[.d aZ,.ref (.st SI.Expr)],[.d .bool],λa=>Ag a.1 a.2.1,none⟩
theorem J4:aJ 210 J3 :=cq aB func210 .z 0
def I6:bx xx:=⟨[.d (.sl aZ),.d8 [aZ] .bool],[.d ah],λa=>rE n a.1 a.2.1,none⟩
def I7:Hn SI:=(.s .z (.s (.s .z (.b (.lx ⟨[(8,.v ah)],[],[0,1,7],[],1256,[]⟩ 0 ⟨[],[],[],[],1256,[]⟩ .z))) .z))
theorem I8:aJ 209 (I6 n) :=cq aB func209 I7 n
def J5:bx xx:=⟨[.d (.st SI.Entry),.ref (.st SI.Expr)],[.d .bool],λa=>Ah a.1 a.2.1,none⟩
theorem J6:aJ 212 J5 :=cq aB func212 .z 0
def amd:bx xx:=⟨[.d .bool],[.d ah],λa=>yR a.1,none⟩
theorem ae5:aJ 166 amd :=cq aB func166 .z 0
def Zb:bx xx:=⟨[.d ah,.d ah],[.d ah],λa=>wI a.1 a.2.1,none⟩
def Zc:Hn SI:=(gO (.s (.j ⟨[(5,.v ah)],[],[],[],1448,[]⟩ (.s .z (.s (.j ⟨[(23,.v .bool)],[],[5],[],1704,[]⟩ .z) .z))) .z))
theorem Zd:aJ 213 Zb :=cq aB func213 Zc 0
def ae6:bx xx:=⟨[.d ah,.d ah,.d ah],[.d ah],λa=>Jz a.1 a.2.1 a.2.2.1,none⟩
theorem ae7:aJ 167 ae6 :=cq (au Zd (au ae5 aB)) func167 .z 0
def J7:cX xx:=⟨[(.a [.v (.sl bC),.v (.sl aZ),.v (.sl bE),.v (.sl bg),.v (.sl bJ),.v (.sl bH),.v (.sl aU),.v ah,.mp 0,.v (.sl .str)]),.v (.st SI.Expr)],[(0,.m .str ah)],[.v ah],[(0,.m .str ah)],λv=>jm n v.1 v.2.1 v.2.2.1 v.2.2.2.1 v.2.2.2.2.1 v.2.2.2.2.2.1 v.2.2.2.2.2.2.1 v.2.2.2.2.2.2.2.1 v.2.2.2.2.2.2.2.2.1 v.2.2.2.2.2.2.2.2.2.1 v.2.2.2.2.2.2.2.2.2.2⟩
def J8:bx xx:=⟨[],[.d .bool],λ_=>none,some (J7 n)⟩
theorem J9:aJ 165 (J8 n) :=ov (au (I8 n) (au J4 (au (wP n) (au J6 aB)))) func165 .z n (by kernel_rfl) λ_=>by kernel_rfl
def Gn:Hn SI:=(cg (.s (.s .z (.b (.l ⟨[(5,.o 1512),(11,.v ah)],[(0,.m .str ah),(1512,.l ah)],[2,3,9,10],[1000,1064],1513,[(5,ah)]⟩ 0 ⟨[(5,.o 1512)],[(0,.m .str ah),(1512,.l ah)],[2,3],[1000,1064],1513,[]⟩ (cg (.s (.j ⟨[(5,.o 1577)],[(0,.m .str ah),(1577,.l ah)],[2,3,9,10,11],[1000,1064],1578,[]⟩ (.b (.s .z (.s (.s (.j ⟨[(31,.v .bool)],[],[2,3,5,7,9,10,11],[0,1000,1064,1512,1769],1961,[]⟩ .z) .z) .z)))) .z))))) .z))
theorem E5(rc:((List fH))->((List cu))->((List dV))->((List bX))->((List fZ))->((List eX))->((List bT))->(Int)->((List ByteArray))->(bZ)->((List (ByteArray×Int)))->Option (Int×(List (ByteArray×Int))))(hr:aJ 122 (jO rc)):aJ 122 (jO (fF n rc)) :=ov (au hr (au (J9 n) (au (o8 n) (au ae5 (au ae7 aB))))) func122 Gn n (by kernel_rfl) λ_=>by kernel_rfl
theorem uF(n:Nat):∀m,aJ 122 (jO (cB n m))
 | 0=>Mn (mW func122 (by kernel_rfl:Tryz.f122.body=some (Tryz.f122.body.getD .skip)) (by kernel_rfl)) (λ _ _ h=>(by cases h))
 |m+1=>E5 n _ (uF n m)
def Gp:bx xx:=jO (cB n n)
theorem uN:aJ 122 (Gp n):=uF n n
def TK:cX xx:=⟨[.v dD,(.v (.sl (.st SI.Entry))),.v (.sl .str)],[],[(.a [.v (.sl bC),.v (.sl aZ),.v (.sl bE),.v (.sl bg),.v (.sl bJ),.v (.sl bH),.v (.sl aU),.v ah,.mp 1000,.v (.sl .str)]),.o 1001],[(1000,.m .str ah),(1001,.l ah)],λv=>l8 n v.1 v.2.1 v.2.2⟩
def TM:bx xx:=⟨[],[.d .bool],λ_=>none,some (TK n)⟩
def TN:Hn SI:=(gO (.s (.s .z (.b (.l ⟨[(26,.v ah)],[(1256,.m .str ah),(1576,.m .str .bool)],[3,6,8,9,24,25],[1000,1064,1448],1896,[]⟩ 0 ⟨[],[(1256,.m .str ah),(1576,.m .str .bool)],[3,6,8,9],[1000,1064,1448],1896,[]⟩ (cg (.s (.j ⟨[],[(1256,.m .str ah),(1576,.m .str .bool)],[3,6,8,9,24,25,26],[1000,1064,1448],1960,[]⟩ .z) .z))))) (gO (.s (.s .z (.b (.l ⟨[(61,.v ah)],[(1256,.m .str ah),(2088,.l ah)],[3,6,8,9,12,59,60],[1000,1064,1448,1576,2280],3112,[]⟩ 2 ⟨[],[(1256,.m .str ah),(2088,.l ah)],[6,8,12],[1064,1448],3112,[]⟩ (cg (.s (.j ⟨[],[(1256,.m .str ah),(2088,.l ah)],[3,6,8,9,12,59,60,61],[1000,1064,1448,1576,2280],3176,[]⟩ (.b (cg (.s (.j ⟨[],[(1256,.m .str ah),(2088,.l ah)],[3,6,8,9,12,17,18,59,60,61],[1000,1064,1448,1576,2280,3688],3816,[]⟩ .z) .z)))) .z))))) .z))))
theorem TP:aJ 121 (TM n) :=ov (au (Ya n) (au (X0 n) (au (uN n) aB))) func121 TN n (by kernel_rfl) λ_=>by kernel_rfl
def ajY:bx xx:=⟨[.d dD,.d (.sl (.st SI.Entry)),.d (.sl .str),.d (.st SI.Expr)],[.d ah],λa=>vJ n a.1 a.2.1 a.2.2.1 a.2.2.2.1,none⟩
theorem ajZ:aJ 88 (ajY n) :=cq (au (X0 n) (au (TP n) (au (uN n) aB))) func88 .z n
def Yb:bx xx:=⟨[.d aG],[.fresh (.st SI.k7)],λa=>xO a.1,none⟩
theorem I9:aJ 68 Yb :=cq aB func68 .z 0
def Ja:bx xx:=⟨[.d (.sl (.st SI.gh)),.d8 [.st SI.gh] .bool],[.d ah],λa=>rF n a.1 a.2.1,none⟩
def Jb:Hn SI:=(.s .z (.s (.s .z (.b (.lx ⟨[(8,.v ah)],[],[0,1,7],[],1256,[]⟩ 0 ⟨[],[],[],[],1256,[]⟩ .z))) .z))
theorem Jc:aJ 217 (Ja n) :=cq aB func217 Jb n
def Dp:bx xx:=⟨[.d (.sl (.st SI.gh)),.d8 [.st SI.gh] .bool],[.d .bool],λa=>kH n a.1 a.2.1,none⟩
theorem Dq:aJ 179 (Dp n) :=cq (au (Jc n) aB) func179 .z n
def Yc:bx xx:=⟨[.d ah,.d ah,.d ah],[.d .bool],λa=>nK a.1 a.2.1 a.2.2.1,none⟩
theorem Yd:aJ 218 Yc :=cq aB func218 .z 0
def Ze:bx xx:=⟨[.d (.st SI.gh)],[.d .bool],λa=>Ai a.1,none⟩
theorem Zf:aJ 181 Ze :=cq (au Yd aB) func181 .z 0
def QR:bx xx:=⟨[.d (.st SI.gh)],[.d .bool],λa=>tN a.1,none⟩
theorem QS:aJ 180 QR :=cq (au Zf aB) func180 .z 0
def Zg:bx xx:=⟨[.d ay,.d (.sl (.st SI.gh))],[.d .bool],λa=>Aj n a.1 a.2.1,none⟩
theorem Zh:aJ 133 (Zg n) :=cq (au ow (au (Dq n) (au QS aB))) func133 .z n
def aj0:bx xx:=⟨[.d (.sl ay),.d (.sl ay)],[.d .bool],λa=>Uu n a.1 a.2.1,none⟩
theorem aj1:aJ 140 (aj0 n) :=cq (au (Fv n) aB) func140 .z n
def ahj:bx xx:=⟨[.d (.sl (.st SI.k7))],[.d .bool],λa=>Ib n a.1,none⟩
def ahk:Hn SI:=(cg (.s (.s .z (.b (.lx ⟨[(11,.v ah)],[],[0,9,10],[],1448,[]⟩ 0 ⟨[],[],[],[],1448,[]⟩ (cg (.s (.jx ⟨[],[],[0,9,10,11],[],1512,[]⟩ (.b (.s .z (.s (.s (.j ⟨[(42,.v .bool)],[],[0,3,4,9,10,11],[1704],1896,[]⟩ .z) .z) (cg (.s (.j ⟨[(68,.v .bool)],[],[0,9,10,11],[],2472,[]⟩ .z) .z)))))) .z))))) .z))
theorem Ye:aJ 96 (ahj n) :=cq (au (o7 n) (au (aj1 n) aB)) func96 ahk n
def O3:bx xx:=⟨[.d ay,.d ah,.d ah],[.d (.st SI.m4)],λa=>wV a.1 a.2.1 a.2.2.1,none⟩
theorem O4:aJ 219 O3 :=cq aB func219 .z 0
def QT:bx xx:=⟨[.d ah,.d ah],[.d ah],λa=>tO a.1 a.2.1,none⟩
def QU:Hn SI:=(cg (.s (.j ⟨[(5,.v ah)],[],[],[],1320,[]⟩ .z) .z))
theorem QV:aJ 220 QT :=cq aB func220 QU 0
def ae8:bx xx:=⟨[.d ay,.d (.sl (.st SI.gh)),.d ah,.d ah],[.d ah],λa=>JA n a.1 a.2.1 a.2.2.1 a.2.2.2.1,none⟩
def ae9:Hn SI:=(gO (.s (.s .z (.b (.l ⟨[(9,.v ah),(19,.v ah)],[],[10,17,18],[1448],1768,[]⟩ 0 ⟨[(9,.v ah)],[],[],[],1768,[]⟩ .z))) .z))
theorem afa:aJ 182 (ae8 n) :=cq (au O4 (au QV aB)) func182 ae9 n
def Yf:bx xx:=⟨[.d ay,.d (.sl (.st SI.gh)),.d (.sl ay)],[.d ah],λa=>xQ n a.1 a.2.1 a.2.2.1,none⟩
def Yg:Hn SI:=(cg (.s (.s .z (.b (.l ⟨[(7,.v ah),(16,.v ah)],[],[1,3,14,15],[1000],1384,[]⟩ 0 ⟨[(7,.v ah)],[],[],[],1384,[]⟩ (cg (.s (.b (cg (.b (.l ⟨[(7,.v ah),(27,.v ah)],[],[1,3,9,14,15,16,25,26],[1000,1576,2024],2216,[]⟩ 2 ⟨[(7,.v ah)],[],[1,3,14,15,16],[1000],2216,[]⟩ (cg (.s (.b (cg (.b (.l ⟨[(7,.v ah),(38,.v ah)],[],[1,3,9,11,14,15,16,25,26,27,36,37],[1000,1576,2024,2792],2984,[]⟩ 4 ⟨[(7,.v ah)],[],[1,3,9,14,15,16,25,26,27],[1000,1576,2024],2984,[]⟩ .z)))) .z)))))) .z))))) .z))
theorem Yh:aJ 135 (Yf n) :=cq (au (afa n) aB) func135 Yg n
def O5:bx xx:=⟨[.d (.st SI.k7),.ref ay,.ref (.sl (.st SI.gh))],[.d .bool],λa=>qY n a.1 a.2.1 a.2.2.1,none⟩
theorem O6:aJ 134 (O5 n) :=cq (au (Yh n) aB) func134 .z n
def Ka:bx xx:=⟨[.d (.sl (.st SI.k7)),.d8 [.st SI.k7] .bool],[.d ah],λa=>tQ n a.1 a.2.1,none⟩
def Kb:Hn SI:=(.s .z (.s (.s .z (.b (.lx ⟨[(8,.v ah)],[],[0,1,7],[],1256,[]⟩ 0 ⟨[],[],[],[],1256,[]⟩ .z))) .z))
theorem Kc:aJ 141 (Ka n) :=cq aB func141 Kb n
def E8:bx xx:=⟨[.d (.sl (.st SI.k7)),.d8 [.st SI.k7] .bool],[.d .bool],λa=>ja n a.1 a.2.1,none⟩
theorem uG:aJ 97 (E8 n) :=cq (au (Kc n) aB) func97 .z n
def Yi:bx xx:=⟨[.d ay,.d (.sl (.st SI.gh)),.d (.sl (.st SI.k7))],[.d .bool],λa=>xR n a.1 a.2.1 a.2.2.1,none⟩
def Yj:Hn SI:=(.s .z (.s (.s (.j ⟨[(15,.v .bool)],[],[2,3,4],[1000,1064],1192,[]⟩ .z) .z) .z))
theorem Yk:aJ 91 (Yi n) :=cq (au (Zh n) (au (Ye n) (au (uG n) (au (O6 n) aB)))) func91 Yj n
def BU:bx xx:=⟨[.d aG,.ref ay,.ref bg],[.d .bool],λa=>jP n a.1 a.2.1 a.2.2.1,none⟩
theorem BV:aJ 90 (BU n) :=cq (au I9 (au (Yk n) aB)) func90 .z n
def LF:bx xx:=⟨[.d (.st SI.ka),.d8 [aG] .bool],[.d .bool],λa=>gL n a.1 a.2.1,none⟩
theorem zx:aJ 65 (LF n) :=cq (au (qL n) aB) func65 .z n
def BX:bx xx:=⟨[.d aG,.ref bg],[.d .bool],λa=>jQ a.1 a.2.1,none⟩
theorem BZ:aJ 92 BX :=cq aB func92 .z 0
def ame:bx xx:=⟨[.d ay,.d ay],[.d ah,.d ah],λa=>alk a.1 a.2.1,none⟩
theorem amf:aJ 184 ame :=cq aB func184 .z 0
def anM:bx xx:=⟨[.d ay,.d ay],[.d ah],λa=>N2 a.1 a.2.1,none⟩
def anN:Hn SI:=(.s .z (.s (.s (.j ⟨[(14,.v .bool)],[],[2,3],[1000,1064],1192,[]⟩ .z) .z) .z))
theorem anO:aJ 138 anM :=cq (au ow (au amf aB)) func138 anN 0
def Dr:bx xx:=⟨[.d (.st SI.gb),.ref (.st SI.ka),.ref aG,.ref bg],[.d .bool],λa=>dW a.1 a.2.1 a.2.2.1 a.2.2.2.1,none⟩
def Dt:Hn SI:=(cg (.s (.s (.j ⟨[(32,.v .bool)],[],[2,3,6],[1256],1384,[]⟩ .z) .z) (.s (.j ⟨[(7,.v .bool)],[],[2,3,6],[1256],1384,[]⟩ .z) .z)))
theorem Du:aJ 137 Dr :=cq (au ow (au anO aB)) func137 Dt 0
def Gq:bx xx:=⟨[.d (.sl (.st SI.gb)),.d8 [.st SI.gb] .bool],[.d ah],λa=>qi n a.1 a.2.1,none⟩
def Gr:Hn SI:=(.s .z (.s (.s .z (.b (.lx ⟨[(8,.v ah)],[],[0,1,7],[],1256,[]⟩ 0 ⟨[],[],[],[],1256,[]⟩ .z))) .z))
theorem Gs:aJ 183 (Gq n) :=cq aB func183 Gr n
def Ca:bx xx:=⟨[.d (.sl (.st SI.gb)),.d8 [.st SI.gb] .bool],[.d .bool],λa=>jR n a.1 a.2.1,none⟩
theorem Cb:aJ 136 (Ca n) :=cq (au (Gs n) aB) func136 .z n
def Jd:bx xx:=⟨[.d (.st SI.ka),.d bg,.d aG],[.d .bool],λa=>rG n a.1 a.2.1 a.2.2.1,none⟩
theorem Je:aJ 94 (Jd n) :=cq (au (Cb n) (au Du aB)) func94 .z n
def Cc:bx xx:=⟨[.d aG,.ref (.st SI.ka),.ref bg],[.d .bool],λa=>jS n a.1 a.2.1 a.2.2.1,none⟩
theorem Ce:aJ 93 (Cc n) :=cq (au (Je n) aB) func93 .z n
def Gt:bx xx:=⟨[.d (.st SI.ka),.d bg],[.d .bool],λa=>mH n a.1 a.2.1,none⟩
theorem Gu:aJ 64 (Gt n) :=cq (au (ace n) (au (ajZ n) (au (RZ n) (au (zx n) (au (BV n) (au BZ (au (Ce n) aB))))))) func64 .z n
def TQ:bx xx:=⟨[.d ay,.ref ay],[.d .bool],λa=>vK a.1 a.2.1,none⟩
theorem TS:aJ 144 TQ :=cq aB func144 .z 0
def Ke:bx xx:=⟨[.d (.sl ay),.d8 [ay] .bool],[.d ah],λa=>tT n a.1 a.2.1,none⟩
def Kg:Hn SI:=(.s .z (.s (.s .z (.b (.lx ⟨[(8,.v ah)],[],[0,1,7],[],1256,[]⟩ 0 ⟨[],[],[],[],1256,[]⟩ .z))) .z))
theorem Kh:aJ 185 (Ke n) :=cq aB func185 Kg n
def E9:bx xx:=⟨[.d (.sl ay),.d8 [ay] .bool],[.d .bool],λa=>jb n a.1 a.2.1,none⟩
theorem uH:aJ 142 (E9 n) :=cq (au (Kh n) aB) func142 .z n
def acg:bx xx:=⟨[.d ay,.ref (.sl ay)],[.d .bool],λa=>Eu n a.1 a.2.1,none⟩
theorem ach:aJ 143 (acg n) :=cq (au (uH n) (au TS aB)) func143 .z n
def aj2:bx xx:=⟨[.d (.sl ay),.d (.sl ay)],[.d .bool],λa=>Uv n a.1 a.2.1,none⟩
theorem aj3:aJ 99 (aj2 n) :=cq (au (uH n) (au (ach n) aB)) func99 .z n
def TU:bx xx:=⟨[.d (.st SI.k7),.ref (.st SI.eR)],[.d .bool],λa=>qC n a.1 a.2.1,none⟩
theorem TW:aJ 98 (TU n) :=cq (au (aj3 n) aB) func98 .z n
def aci:bx xx:=⟨[.d (.sl (.st SI.eR)),.d ah,.d (.sl (.st SI.k7))],[.d .bool],λa=>Ew n a.1 a.2.1 a.2.2.1,none⟩
def acj:Hn SI:=(cg (.s (.s .z (.b (.lx ⟨[(14,.v ah)],[],[1,2,12,13],[],1448,[]⟩ 0 ⟨[],[],[],[],1448,[]⟩ (cg (.s (.jx ⟨[],[],[1,2,12,13,14],[],1512,[]⟩ (.b (.s .z (.s (.s (.j ⟨[(27,.v .bool)],[],[1,2,8,12,13,14],[1640],1768,[]⟩ .z) .z) .z)))) .z))))) .z))
theorem ack:aJ 67 (aci n) :=cq (au (Ye n) (au (o7 n) (au (uG n) (au (TW n) aB)))) func67 acj n
def LG:bx xx:=⟨[.d aG,.ref fJ,.ref (.st SI.dE)],[.d .bool],λa=>mO n a.1 a.2.1 a.2.2.1,none⟩
theorem LJ:aJ 66 (LG n) :=cq (au I9 (au (ack n) aB)) func66 .z n
def Gv:cX xx:=⟨[.v .str,.v .bool,.p 0],[(0,qq),(1,.l .str)],[],[(0,.c 1 [[.o 1000]]),(1000,.l .str)],λv=>jB n v.1 v.2.1 v.2.2⟩
def Gw:bx xx:=⟨[],[.d .bool],λ_=>none,some (Gv n)⟩
def Gx:Hn SI:=(.s (.j ⟨[(11,.v .bool)],[],[0,2],[0,1],1000,[]⟩ .z) .z)
theorem Gy:aJ 61 (Gw n) :=ov (au (o8 n) aB) func61 Gx n (by kernel_rfl) λ_=>by kernel_rfl
def TY:bx xx:=⟨[.d fJ,.d (.st SI.dE),.d ah],[.fresh .str,.d ah],λa=>vM n a.1 a.2.1 a.2.2.1,none⟩
def T9:Hn SI:=(uu (.s (.s .z (.b (.l ⟨[(31,.v ah)],[(1960,.c 1 [[.o 2664]]),(2664,.l .str)],[3,4,8,10,11,29,30],[1000,1064,1640,2472],2665,[(9028160,.str)]⟩ 0 ⟨[],[(1960,.c 1 [[.o 2664]]),(2664,.l .str)],[3,4,8,10,11],[1000,1064,1640],2665,[]⟩ .z))) .z))
theorem Ua:aJ 42 (TY n) :=cq (au (Y7 n) (au (XZ n) (au (Gu n) (au (Gy n) (au (zx n) (au (LJ n) aB)))))) func42 T9 n
def Ub:bx xx:=⟨[.d fJ,.d (.st SI.dE),.d ah],[.d .bool],λa=>iX n a.1 a.2.1 a.2.2.1,none⟩
theorem xg:aJ 25 (Ub n) :=cq (au (Ua n) aB) func25 .z n
def Yl:bx xx:=⟨[.d fJ,.d ah,.d8 [.sl .bool] .bool,.d (.sl dD)],[.d fq,.d .bool],λa=>pU n a.1 a.2.1 a.2.2.1 a.2.2.2.1,none⟩
def Ym:Hn SI:=(.s .z (.s (.s .z (.b (.lx ⟨[(18,.v ah)],[],[1,2,3,4,8,16,17],[1000,1064,1256],1448,[]⟩ 0 ⟨[],[],[8],[1064],1448,[]⟩ (cg (.s (.b (cg (.s (.s .z (.b (.l ⟨[(12,.o 2024),(24,.v ah)],[(2024,.l .bool)],[1,2,3,4,8,11,16,17,18,22,23],[1000,1064,1256,1640],2025,[(12,.bool)]⟩ 2 ⟨[(12,.o 2024)],[(2024,.l .bool)],[1,2,3,4,8,11,16,17,18],[1000,1064,1256,1640],2025,[]⟩ .z))) .z))) .z))))) .z))
theorem zy:aJ 14 (Yl n) :=cq (au (Fw n) (au wW (au (xg n) aB))) func14 Ym n
def LK:bx xx:=⟨[.d (.sl .bool)],[.d .bool],λa=>ve a.1,none⟩
theorem LM:aJ 15 LK :=cq aB func15 .z 0
def Uc:bx xx:=⟨[.d fJ,.d dD,.d dD,.d ah],[.d fq,.d .bool],λa=>gX n a.1 a.2.1 a.2.2.1 a.2.2.2.1,none⟩
theorem Fy:aJ 6 (Uc n) :=cq (au (zy n) (au LM aB)) func6 .z n
def LP:bx xx:=⟨[.d (.sl .bool)],[.d .bool],λa=>vg a.1,none⟩
def LQ:Hn SI:=(cg (.s (.j ⟨[(3,.v .bool)],[],[0],[],1320,[]⟩ .z) .z))
theorem LU:aJ 27 LP :=cq aB func27 LQ 0
def Ud:bx xx:=⟨[.d fJ,.d dD,.d dD,.d dD,.d dD,.d ah],[.d fq,.d .bool],λa=>gY n a.1 a.2.1 a.2.2.1 a.2.2.2.1 a.2.2.2.2.1 a.2.2.2.2.2.1,none⟩
theorem Ue:aJ 11 (Ud n) :=cq (au (zy n) (au LU aB)) func11 .z n
def Gz:bx xx:=⟨[.d (.sl .bool)],[.d .bool],λa=>qj a.1,none⟩
theorem GA:aJ 16 Gz :=cq aB func16 .z 0
def LV:bx xx:=⟨[.d fJ,.d dD,.d dD,.d ah],[.d .bool],λa=>fD n a.1 a.2.1 a.2.2.1 a.2.2.2.1,none⟩
theorem zA:aJ 7 (LV n) :=cq (au (zy n) (au GA aB)) func7 .z n
def QW:bx xx:=⟨[.d fJ,.d dD,.d fq,.d ah],[.d .bool],λa=>gD n a.1 a.2.1 a.2.2.1 a.2.2.2.1,none⟩
theorem Dv:aJ 9 (QW n) :=cq (au (IQ n) (au wW (au (xg n) aB))) func9 .z n
def LW:bx xx:=⟨[.d fJ,.d dD,.d ah],[.fresh .bool],λa=>mR n a.1 a.2.1 a.2.2.1,none⟩
def LX:Hn SI:=(cg (.s (.s .z (.b (.l ⟨[(7,.o 1512),(13,.v ah)],[(1512,.l .bool)],[2,3,4,11,12],[1000,1064,1320],1513,[(7,.bool)]⟩ 0 ⟨[(7,.o 1512)],[(1512,.l .bool)],[],[],1513,[]⟩ .z))) .z))
theorem LY:aJ 12 (LW n) :=cq (au (Fw n) (au wW (au (xg n) aB))) func12 LX n
def afb:bx xx:=⟨[],[.d .bool],λ_=>CK n,none⟩
def afc:Hn SI:=(PJ (.s (.j ⟨[(13,.v .bool)],[],[1,6,7,8,9,11,12],[1256,1384,3368,4136,5160],5288,[]⟩ .z) .z))
theorem afd:aJ 4 (afb n) :=cq (au agS (au (Fy n) (au (Ue n) (au (zA n) (au (Dv n) (au (LY n) aB)))))) func4 afc n
def ahl:Hn SI:=(cg (.s (.s .z (.b (.l ⟨[(3,.v ah),(4,.v ah)],[],[1],[1000],1256,[]⟩ 0 ⟨[(3,.v ah)],[],[],[],1256,[]⟩ .z))) .z))
theorem afe(rc:(bZ)->Option Int)(hr:aJ 43 (Ie rc)):aJ 43 (Ie (Ey n rc)) :=cq (au hr aB) func43 ahl n
theorem R4(n:Nat):∀m,aJ 43 (Ie (vk n m))
 | 0=>zp (mW func43 (by kernel_rfl:Tryz.f43.body=some (Tryz.f43.body.getD .skip)) (by kernel_rfl)) (λ _ _ h=>(by cases h)) rfl
 |m+1=>afe n _ (R4 n m)
def ahm:bx xx:=⟨[.d (.st SI.Expr)],[.d ah],λa=>Ig n a.1,none⟩
theorem ahn:aJ 43 (ahm n):=R4 n n
def Zi:bx xx:=⟨[.d dD],[.d .bool],λa=>wJ n a.1,none⟩
def Zj:Hn SI:=(.s .z (.s (.s (.j ⟨[(35,.v .bool)],[],[1],[1000],1128,[]⟩ .z) .z) (.s (.s .z (.b (.lx ⟨[(3,.v ah)],[],[1],[1000],1192,[]⟩ 0 ⟨[],[],[1],[1000],1192,[]⟩ .z))) (.s (.s .z (.b (.lx ⟨[(4,.v ah)],[],[1],[1000],1256,[]⟩ 2 ⟨[],[],[1],[1000],1256,[]⟩ (.s .z (.s (.b (.s (.j ⟨[(85,.v .bool)],[],[1,4],[1000],1576,[]⟩ .z) .z)) .z))))) (.s (.s .z (.b (.lx ⟨[(5,.v ah)],[],[1],[1000],1320,[]⟩ 4 ⟨[],[],[1],[1000],1320,[]⟩ .z))) (.s (.s .z (.b (.lx ⟨[(6,.v ah)],[],[1],[1000],1384,[]⟩ 6 ⟨[],[],[1],[1000],1384,[]⟩ .z))) (.s (.s .z (.b (.lx ⟨[(7,.v ah)],[],[1],[1000],1448,[]⟩ 8 ⟨[],[],[],[],1448,[]⟩ .z))) .z)))))))
theorem Zk:aJ 29 (Zi n) :=cq (au (ahn n) aB) func29 Zj n
def Uf:bx xx:=⟨[.d ay],[.d .bool],λa=>vN a.1,none⟩
theorem Ug:aJ 145 Uf :=cq aB func145 .z 0
def acn:bx xx:=⟨[.d (.sl ah)],[.fresh ah],λa=>Ez n a.1,none⟩
def aco:Hn SI:=(cg (.s (.s .z (.b (.l ⟨[(3,.o 1192),(4,.v ah)],[(1192,.l ah)],[0],[],1193,[(3,ah)]⟩ 0 ⟨[(3,.o 1192)],[(1192,.l ah)],[],[],1193,[]⟩ (.s .z (.s (.j ⟨[(3,.o 1449)],[(1449,.l ah)],[0,4],[],1450,[]⟩ (.b (.s .z (.s (.b (.l ⟨[(5,.v ah)],[],[0,3,4],[1192],1641,[]⟩ 2 ⟨[(5,.v ah)],[],[0,3,4],[1192],1641,[]⟩ (.s (.s (.j ⟨[(28,.v .bool)],[],[0,3,4,5],[1192],1641,[]⟩ .z) .z) .z))) (.s (.s (.j ⟨[(44,.v .bool)],[],[0,3,4,5],[1192],1641,[]⟩ .z) .z) (.s .z (.s (.s .z (.b (.l ⟨[(6,.v ah)],[(1769,.l ah)],[0,3,4,5],[],2153,[]⟩ 4 ⟨[],[(1769,.l ah)],[0,3,4,5],[],2153,[]⟩ .z))) .z))))))) .z))))) .z))
theorem acp:aJ 221 (acn n) :=cq aB func221 aco n
def aff:bx xx:=⟨[.d (.sl ay),.d (.sl ay)],[.fresh ah],λa=>JB n a.1 a.2.1,none⟩
def afg:Hn SI:=(cg (.s (.s .z (.b (.l ⟨[(5,.o 1192),(6,.v ah)],[(1192,.l ah)],[0,1],[],1193,[(5,ah)]⟩ 0 ⟨[(5,.o 1192)],[(1192,.l ah)],[1],[],1193,[]⟩ .z))) (.s (.s .z (.b (.l ⟨[(5,.o 1257),(7,.v ah)],[(1257,.l ah)],[1],[],1258,[]⟩ 2 ⟨[(5,.o 1257)],[(1257,.l ah)],[],[],1258,[]⟩ .z))) .z)))
theorem afh:aJ 186 (aff n) :=cq (au (acp n) aB) func186 afg n
def acr:bx xx:=⟨[.d (.sl ay),.d ah],[.fresh ah],λa=>yS n a.1 a.2.1,none⟩
def acs:Hn SI:=(gO (.s (.s .z (.b (.l ⟨[(5,.o 1256),(6,.o 1257),(7,.v ah)],[(1256,.l ah),(1257,.l ah)],[0,1],[],1258,[(5,ah),(6,ah)]⟩ 0 ⟨[(5,.o 1256),(6,.o 1257)],[(1256,.l ah),(1257,.l ah)],[],[],1258,[]⟩ (.s .z (.s (.j ⟨[(5,.o 1514),(6,.o 1515)],[(1514,.l ah),(1515,.l ah)],[0,1,7],[],1516,[]⟩ (.b (.s (.s (.j ⟨[(32,.v .bool)],[],[0,1,5,6,7],[1256,1257],1514,[]⟩ .z) .z) (gO (.s (.b (.l ⟨[(8,.v ah)],[(1834,.l ah),(2090,.l ah)],[0,1,5,6,7],[],2218,[]⟩ 2 ⟨[(8,.v ah)],[(1834,.l ah),(2090,.l ah)],[0,1,5,6,7],[],2218,[]⟩ (.s (.s (.j ⟨[(55,.v .bool)],[],[0,1,5,6,7,8],[1834,2090],2218,[]⟩ .z) .z) .z))) .z))))) .z))))) (.s .z (.s (.s .z (.b (.l ⟨[(9,.o 1386),(10,.v ah)],[(1386,.l ah)],[5,6],[1256,1257],1387,[(9,ah)]⟩ 4 ⟨[(9,.o 1386)],[(1386,.l ah)],[],[],1387,[]⟩ (.s .z (.s (.j ⟨[(9,.o 1643)],[(1643,.l ah)],[5,6,10],[1256,1257],1644,[]⟩ (.b (.s (.s (.j ⟨[(111,.v .bool)],[],[5,6,9,10],[1256,1257,1386],1643,[]⟩ .z) .z) .z))) .z))))) .z))))
theorem acu:aJ 188 (acr n) :=cq aB func188 acs n
def Zl:bx xx:=⟨[.d (.sl ah),.d (.sl ah),.d ah],[.fresh ah],λa=>Am n a.1 a.2.1 a.2.2.1,none⟩
def Zm:Hn SI:=(uu (.s (.b (.l ⟨[(7,.o 1320),(8,.v ah),(9,.v ah),(10,.v .bool)],[(1320,.l ah)],[0,1,2],[],1321,[(7,ah)]⟩ 0 ⟨[(7,.o 1320)],[(1320,.l ah)],[],[],1321,[]⟩ (.s (.s (.j ⟨[(24,.v .bool)],[],[0,1,2,7,8,9,10],[1320],1321,[]⟩ .z) .z) (.b (.s .z (.s (.j ⟨[(11,.v ah)],[],[0,1,2,7,8,9,10],[1320],1385,[]⟩ (.s (.j ⟨[(49,.v .bool)],[],[0,1,2,7,8,9,10],[1320],1385,[]⟩ .z) .z)) (.s (.j ⟨[(8,.v ah)],[],[0,1,2,7,9,10,11],[1320],1385,[]⟩ (.s (.j ⟨[(69,.v .bool)],[],[0,1,2,7,8,9,10,11],[1320],1385,[]⟩ .z) .z)) (.s (.j ⟨[(9,.v ah)],[],[0,1,2,7,8,10,11],[1320],1385,[]⟩ (.s (.j ⟨[(83,.v .bool)],[],[0,1,2,7,8,9,10,11],[1320],1385,[]⟩ .z) .z)) (cg (.s (.j ⟨[(14,.v .bool)],[],[0,1,2,7,8,9,10,11,12,13],[1320],1897,[]⟩ .z) (.s (.j ⟨[(14,.v .bool)],[],[0,1,2,7,8,9,10,11,12,13],[1320],1897,[]⟩ .z) (.s (.j ⟨[(14,.v .bool)],[],[0,1,2,7,8,9,10,11],[1320],1897,[]⟩ .z) (.s (.j ⟨[(7,.o 1897)],[(1897,.l ah)],[0,1,2,8,9,14],[],1898,[]⟩ .z) .z))))))))))))) .z))
theorem Zn:aJ 187 (Zl n) :=cq aB func187 Zm n
def aho:bx xx:=⟨[.d (.sl ah),.d (.sl ah)],[.d .bool],λa=>NK n a.1 a.2.1,none⟩
def ahp:Hn SI:=(cg (.s (.s .z (.b (.lx ⟨[(5,.v ah)],[],[0,1],[],1448,[]⟩ 0 ⟨[],[],[],[],1448,[]⟩ .z))) .z))
theorem ahq:aJ 189 (aho n) :=cq aB func189 ahp n
def ahr:bx xx:=⟨[.d (.sl ay),.d (.sl ay),.d ah],[.fresh ay],λa=>NN n a.1 a.2.1 a.2.2.1,none⟩
def ahs:Hn SI:=(uu (.s (.s .z (.b (.l ⟨[(7,.o 1576),(9,.o 1577),(10,.v ah),(11,.v ah)],[(1576,.l ay),(1577,.l ah)],[0,1,2,8],[1256],1578,[(7,ay),(9,ah)]⟩ 0 ⟨[(7,.o 1576)],[(1576,.l ay)],[],[],1577,[]⟩ (.s .z (.s (.j ⟨[(7,.o 1898),(9,.o 1899),(10,.v ah)],[(1898,.l ay),(1899,.l ah)],[0,1,2,8,11],[1256],1900,[]⟩ (.b (.s .z (.s (.s (.j ⟨[(50,.v .bool)],[],[0,1,2,7,8,9,10,11,12],[1256,1576,1577,2730],2858,[]⟩ .z) (.s (.s (.s .z (.b (.l ⟨[(13,.v ah)],[(1576,.l ay)],[0,1,2,7,8,9,10,11],[1256,1577],2986,[]⟩ 2 ⟨[],[(1576,.l ay)],[0,1,2,7,8,9,10,11],[1256,1577],2986,[]⟩ .z))) .z) .z)) (gO (.b (.l ⟨[(7,.o 3242),(14,.v ah)],[(3242,.l ay)],[0,1,2,8,9,10,11,12],[1256,2730],3243,[]⟩ 4 ⟨[(7,.o 3242)],[(3242,.l ay)],[0,1,2,8,9,10,11],[1256,2730],3243,[]⟩ .z))))))) .z))))) .z))
theorem aht:aJ 146 (ahr n) :=cq (au (afh n) (au (acu n) (au (Zn n) (au (ahq n) aB)))) func146 ahs n
def amg:bx xx:=⟨[.d (.sl ay)],[.fresh ay,.d ah],λa=>Pa n a.1,none⟩
def amh:Hn SI:=(.s .z (.s (.s .z (.b (.lx ⟨[(4,.v ah)],[],[0],[],1192,[]⟩ 0 ⟨[],[],[0],[],1192,[]⟩ .z))) .z))
theorem ami:aJ 100 (amg n) :=cq (au Ug (au (aht n) aB)) func100 amh n
def ahu:bx xx:=⟨[.d (.sl ay),.d (.sl ay)],[.d .bool],λa=>NP n a.1 a.2.1,none⟩
def ahv:Hn SI:=(cg (.s (.s .z (.b (.lx ⟨[(5,.v ah)],[],[0,1],[],1448,[]⟩ 0 ⟨[],[],[],[],1448,[]⟩ .z))) .z))
theorem ahw:aJ 101 (ahu n) :=cq aB func101 ahv n
def afi:bx xx:=⟨[.d (.sl ay)],[.d .bool],λa=>JD n a.1,none⟩
theorem afj:aJ 69 (afi n) :=cq (au (ami n) (au (ahw n) aB)) func69 .z n
def acv:bx xx:=⟨[.d (.sl ay)],[.d ay,.d .bool],λa=>EB n a.1,none⟩
def acw:Hn SI:=(.s .z (.s (.s (.j ⟨[(13,.v .bool)],[],[0,2],[1000],1128,[]⟩ .z) .z) (.s .z (.s (.s .z (.b (.l ⟨[(5,.v ah)],[(1320,ut)],[0,2,4],[1000],1512,[]⟩ 0 ⟨[],[(1320,ut)],[2,4],[1000],1512,[]⟩ .z))) .z))))
theorem acy:aJ 44 (acv n) :=cq (au (afj n) aB) func44 acw n
def acz:bx xx:=⟨[.d iQ],[.d .bool],λa=>EC n a.1,none⟩
theorem acA:aJ 30 (acz n) :=cq (au (acy n) aB) func30 .z n
def aj4:bx xx:=⟨[.d fJ],[.d .bool],λa=>EG n a.1,none⟩
def aj5:Hn SI:=(.s .z (.s (.s (.j ⟨[(26,.v .bool)],[],[1],[1000],1128,[]⟩ .z) .z) (.s (.s .z (.b (.lx ⟨[(3,.v ah)],[],[1],[1000],1192,[]⟩ 0 ⟨[],[],[1],[1000],1192,[]⟩ .z))) (.s (.s .z (.b (.lx ⟨[(4,.v ah)],[],[1],[1000],1256,[]⟩ 2 ⟨[],[],[],[],1256,[]⟩ .z))) .z))))
theorem aj6:aJ 13 (aj4 n) :=cq (au (Zk n) (au (acA n) aB)) func13 aj5 n
def aj7:bx xx:=⟨[.d fJ,.d (.sl dD)],[.d .bool],λa=>Uw n a.1 a.2.1,none⟩
def aj8:Hn SI:=(.s .z (.s (.s .z (.b (.lx ⟨[(5,.v ah)],[(1000,GG)],[1,2],[],1192,[]⟩ 0 ⟨[],[(1000,GG)],[2],[],1192,[]⟩ .z))) .z))
theorem aj9:aJ 5 (aj7 n) :=cq (au (aj6 n) aB) func5 aj8 n
def LZ:bx xx:=⟨[.d fJ,.d dD,.d dD,.d ah],[.d .bool],λa=>mU n a.1 a.2.1 a.2.2.1 a.2.2.2.1,none⟩
def L6:Hn SI:=(uu (.s (.s (.j ⟨[(75,.v .bool)],[],[3,4,5,6,9,10,11],[1000,1064,1128,2280],3176,[]⟩ .z) .z) (cg (.s (.s .z (.b (.lx ⟨[(15,.v .bool),(16,.v ah)],[],[3,4,5,6,9,10,11,14],[1000,1064,1128,2280,3304],3560,[]⟩ 0 ⟨[(15,.v .bool)],[],[9,11],[],3560,[]⟩ (.s (.s (.j ⟨[(86,.v .bool)],[],[3,4,5,6,9,10,11,14,15,16],[1000,1064,1128,2280,3304],3560,[]⟩ .z) .z) (.s (.b (cg (.s (.j ⟨[(15,.v .bool)],[],[3,4,5,6,9,10,11,14,16,17,18],[1000,1064,1128,2280,3304],4712,[]⟩ .z) .z))) .z))))) .z))))
theorem L8:aJ 3 (LZ n) :=cq (au (afd n) (au (aj9 n) (au (Fy n) (au (zA n) (au (CY n) (au (Dv n) aB)))))) func3 L6 n
end
end Go.Proofs
