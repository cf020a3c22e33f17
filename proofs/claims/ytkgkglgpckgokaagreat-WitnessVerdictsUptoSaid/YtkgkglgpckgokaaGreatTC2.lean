import Derived.Test.YtkgkglgpckgokaaGreatTC1
namespace Go.Proofs
open Go.Gb Go.RowKit
open Tryz
noncomputable section
variable (n:Nat)
def ahJ:b7 xx:=⟨[.d (.st SI.Expr)],[.d .bool],λa=>Ii n a.1,none⟩
theorem Yg:aJ 112 (ahJ n) :=cq (au (afo n) aB) func112 .z n
def OZ:b7 xx:=⟨[],[.fresh .str],λ_=>wX,none⟩
theorem O1:aJ 195 OZ :=cq aB func195 .z 0
mutual
theorem aoe:∀g:cu,(toE g).wt<=4000000->pS (toE g) (qZ g)
 |⟨op,n,s,key,args⟩,h=>by
  simp only[toE,ET.wt]at h;have:=ET.qT (Ij args);simp only[toE,qZ,pS];exact⟨n,key,_,rfl,by unfold maxLen;omega,by omega,Yh args (by omega)⟩
theorem Yh:∀l:List cu,ET.tg (Ij l)<=4000000->kx (Ij l) (tK l)
 |[],_=>by simp only[Ij,tK,kx]
 |x::xs,h=>by
  simp only[Ij,ET.tg]at h;simp only[Ij,tK,kx];exact⟨_,_,rfl,aoe x (by omega),Yh xs (by omega)⟩
end
def O3:b7 xx:=⟨[],[.d .bool],λ_=>none,some ⟨[.v (.sl bC)],[],[.p 1000],[(1000,rI)],λv=>kU v⟩⟩
theorem afp:∀l:U fw,rj (l.map toD)<=4000000->ky (l.map toD) (l.map Ei)
 |[],_=>by simp only[List.map_nil,ky]
 |x::xs,h=>by
  simp only[aF,rj,List.foldr_cons,toD,ET.wt]at h;have:=ET.qT (Ij x.ep);simp only[aF,ky];refine⟨_,_,rfl,⟨_,_,_,_,_,rfl,by simp only[toD];unfold maxLen;omega,?_⟩,afp xs (by simp only[rj];omega)⟩;simp only[toD,pS];exact⟨_,_,_,rfl,by unfold maxLen;omega,by omega,by rw[<- tL];exact Yh _ (by omega)⟩
theorem O4:aJ 196 O3:=by
 have hcall:eO Tryz.prog 196:=⟨_,func196,by kernel_rfl,by kernel_rfl⟩;refine L4 hcall ?_;intro v r hr;have h':kU v=some r:=hr;unfold kU at h';cases hb:Nat.ble (rj (List.map toD v)) 4000000 with
 |false=>rw[hb]at h';cases h'
 |true=>
  rw[hb]at h';have h'':some (v,oH (List.map toD v))=some r:=h';injection h'' with e;subst e;have hw:=Nat.le_of_ble_eq_true hb;have hlen:=UA (List.map toD v);have hn:∀d∈List.map toD v,d.2.names.length<=4000000:=λd hd=>by have h1:=UB hd;have h2:=ET.oY d.2;omega
  exact abQ (TL:=52) (TG:=318) (TI:=3) hcall (afp v hw) λsv w hS=>anq (List.map toD v) (by omega) (λ d hd=>Nat.le_trans (hn d hd) (by omega))
   (λ d hd v0 v1 v2 v3 v4 w hE=>callsIn_wide.1 (alD 0 d.2 v0 v1 v2 v3 v4 w hE (Nat.le_trans (hn d hd) (by omega)))) sv w hS
def TS:b7 xx:=⟨[.d (.sl ah),.d ah],[.fresh ah],λa=>qK a.1 a.2.1,none⟩
theorem TU:aJ 284 TS:=by
 have hcall:eO Tryz.prog 284:=⟨_,func284,by kernel_rfl,by kernel_rfl⟩;refine zr hcall (λ a r h=>?_) rfl;obtain⟨l,c,⟨⟩⟩:=a;have h':qK l c=some r:=h
 match l,h' with
 |[x],h'=>
  simp only[qK]at h';cases hb:(decide (0<=c)&&decide (c<=1000000000000))with
  |false=>rw[hb]at h';cases h'
  |true=>
   rw[hb]at h';have h'':some (List.replicate c.toNat x)=some r:=h';injection h'' with e;subst e;simp only[aL,aV]at hb;obtain⟨h1,h2⟩:=hb;obtain⟨k,hk⟩:=Int.eq_ofNat_of_zero_le h1;subst hk;exact agC (E:=3) (c:=k) hcall λa cap w hx=>ajK x k (Int.ofNat_le.1 (by simpa using h2)) a cap w hx
def Yi:b7 xx:=⟨[.d (.sl ah),.d ah],[.d ah],λa=>Eu n a.1 a.2.1,none⟩
def Yj:Hn SI:=(.s .z (.s (.s .z (.b (.lx ⟨[(8,.v ah)],[],[0,1,7],[],1256,[]⟩ 0 ⟨[],[],[],[],1256,[]⟩ .z))) .z))
theorem Yk:aJ 294 (Yi n) :=cq aB func294 Yj n
def O5:b7 xx:=⟨[.d (.sl ah),.d ah],[.d .bool],λa=>rC n a.1 a.2.1,none⟩
theorem O6:aJ 285 (O5 n) :=cq (au (Yk n) aB) func285 .z n
def BL:b7 xx:=⟨[.ref (.st SI.graph),.d ah],[.fresh ah],λa=>jO n a.1 a.2.1,none⟩
def BN:Hn SI:=(ux (.s (.b (.l ⟨[(6,.od 2024)],[(1448,.l ah),(2024,.l ah)],[0,5],[],2025,[]⟩ 0 ⟨[],[(1448,.l ah)],[5],[],2024,[]⟩ (.s .z (.b (gx (.b (.l ⟨[(6,.od 3049),(35,.v ah)],[(1448,.l ah),(3049,.l ah)],[0,5,7,33,34],[],3050,[]⟩ 2 ⟨[(6,.od 3049)],[(1448,.l ah),(3049,.l ah)],[0,5],[],3050,[]⟩ (b9 (.s (.j ⟨[(6,.od 3114)],[(1448,.l ah),(3114,.l ah)],[0,5,7,33,34,35],[],3115,[]⟩ (.b (.s .z (.s (.j ⟨[(49,.v .bool)],[],[0,5,6,7,8,33,34,35],[1448,3049],3434,[]⟩ .z) .z)))) .z))))))))) .z))
theorem BP:aJ 266 (BL n) :=cq (au TU (au (O6 n) aB)) func266 BN n
def LV:b7 xx:=⟨[.d .str],[.d .bool],λa=>cmp_isNaN_string a.1,none⟩
theorem LW:aJ 286 LV :=cq aB func286 .z 0
def Ja:b7 xx:=⟨[.d .str,.d .str],[.d ah],λa=>nK a.1 a.2.1,none⟩
theorem Jb:aJ 267 Ja :=cq (au LW aB) func267 .z 0
def Ka:b7 xx:=⟨[.d (.sl .str),.d (.sl .str)],[.d ah],λa=>lT n a.1 a.2.1,none⟩
def Kb:Hn SI:=(.s .z (.s (.s .z (.b (.lx ⟨[(11,.v ah)],[],[0,1,9,10],[],1256,[]⟩ 0 ⟨[],[],[0,1],[],1256,[]⟩ .z))) .z))
theorem Kc:aJ 235 (Ka n) :=cq (au Jb aB) func235 Kb n
def zq:c7 xx:=⟨[.v ah,.p 0],[(0,qt),(1,.l .bool)],[.v .bool],[(0,qt),(1,.l .bool)],λv=>l9 v.1 v.2⟩
def zu:b7 xx:=⟨[],[.d .bool],λ_=>none,some (zq)⟩
theorem zw:aJ 237 zu :=oy aB func237 .z 0 (by kernel_rfl) λ_=>by kernel_rfl
def Gp:c7 xx:=⟨[.v (.sl ah),(.f 237 [] [.p 0])],[(0,qt),(1,.l .bool)],[.v ah],[(0,qt),(1,.l .bool)],λv=>mI n v.1 v.2⟩
def Gq:b7 xx:=⟨[],[.d .bool],λ_=>none,some (Gp n)⟩
def Gr:Hn SI:=(.s .z (.s (.s .z (.b (.lx ⟨[(8,.v ah)],[(0,qt),(1,.l .bool)],[0,1,7],[],1256,[]⟩ 0 ⟨[],[(0,qt),(1,.l .bool)],[],[],1256,[]⟩ .z))) .z))
theorem Gs:aJ 268 (Gq n) :=oy (au zw aB) func268 Gr n (by kernel_rfl) λ_=>by kernel_rfl
def BQ:c7 xx:=⟨[.v (.sl ah),(.f 237 [] [.p 0])],[(0,qt),(1,.l .bool)],[.v .bool],[(0,qt),(1,.l .bool)],λv=>iy n v.1 v.2⟩
def BR:b7 xx:=⟨[],[.d .bool],λ_=>none,some (BQ n)⟩
theorem BU:aJ 236 (BR n) :=oy (au (Gs n) aB) func236 .z n (by kernel_rfl) λ_=>by kernel_rfl
def Jc:b7 xx:=⟨[.ref (.st SI.graph)],[.fresh ah],λa=>nL n a.1,none⟩
def Jd:Hn SI:=(gx (.s (.s .z (.b (.l ⟨[(4,.o 2024),(20,.v ah)],[(1448,wn),(2024,.l ah),(1384,.l .bool)],[0,3,19],[],2025,[(4,ah)]⟩ 0 ⟨[(4,.o 2024)],[(2024,.l ah)],[],[],2025,[]⟩ (b9 (.s (.b (.s .z (.s (.s .z (.b (.l ⟨[(5,.v ah),(27,.v ah)],[(1448,wn),(1384,.l .bool)],[0,3,4,19,20,25,26],[2024],2537,[]⟩ 2 ⟨[(5,.v ah)],[(1448,wn),(1384,.l .bool)],[0,3,4,19,20],[2024],2537,[]⟩ (b9 (.s (.j ⟨[(5,.v ah)],[(1448,wn),(1384,.l .bool)],[0,3,4,19,20,25,26,27],[2024],2601,[]⟩ (.b (b9 (.s (.j ⟨[(66,.v .bool)],[],[0,3,4,5,6,19,20,25,26,27],[1384,1448,2024],3177,[]⟩ .z) .z)))) .z))))) .z))) .z))))) .z))
theorem Je:aJ 198 (Jc n) :=cq (au (BU n) aB) func198 Jd n
def BV:c7 xx:=⟨[.p 0,.v ah],[(0,rI)],[.oz 1000],[(0,rI),(1000,.l .str)],λv=>jQ n v.1 v.2.1 v.2.2⟩
def BX:b7 xx:=⟨[],[.d .bool],λ_=>none,some (BV n)⟩
def BZ:Hn SI:=(ux (.b (.lx ⟨[(6,.o 1512),(7,.v ah)],[(1512,.l .str)],[0,1,5],[0,1192],1513,[(6,.str)]⟩ 999999 ⟨[],[],[],[],1512,[]⟩ (.b (b9 (.s (.s .z (.b (.l ⟨[(8,.v ah),(34,.v ah)],[],[0,1,5,6,32,33],[0,1192,2153],2921,[]⟩ 2 ⟨[(8,.v ah)],[],[0,1,5,6],[0,1192,2153],2921,[]⟩ (b9 (.s (.j ⟨[(8,.v ah)],[],[0,1,5,6,32,33,34],[0,1192,2153],2985,[]⟩ (.b (.s .z (.s (.j ⟨[(57,.v .bool)],[],[0,1,5,6,8,10,32,33,34],[0,1192,2153],3177,[]⟩ .z) .z)))) .z))))) .z))))))
theorem Ca:aJ 234 (BX n) :=oy (au (BP n) aB) func234 BZ n (by kernel_rfl) λ_=>by kernel_rfl
def zx:c7 xx:=⟨[.p 0],[(0,rI)],[.oz 1000],[(0,rI),(1000,.l .str)],λv=>jb n v.1 v.2⟩
def zy:b7 xx:=⟨[],[.d .bool],λ_=>none,some (zx n)⟩
def zA:Hn SI:=(b9 (.s (.s .z (.b (.l ⟨[(3,.oz 1512),(11,.v ah)],[(0,rI),(1512,.l .str)],[0,10],[],1513,[(1099511627779,.str)]⟩ 0 ⟨[(3,.oz 1512)],[(0,rI),(1512,.l .str)],[],[],1513,[]⟩ (b9 (.s (.j ⟨[(3,.oz 1577)],[(0,rI),(1577,.l .str)],[0,10,11],[],1578,[]⟩ (.b (b9 (.s (.s (.j ⟨[(18,.v .bool)],[],[0,3,5,10,11],[0,1512,1833],1961,[]⟩ .z) .z) (.s (.j ⟨[(40,.v .bool)],[],[0,3,5,10,11],[0,1512,1833],1961,[]⟩ .z) .z))))) .z))))) .z))
theorem zB:aJ 197 (zy n) :=oy (au (Ca n) (au (Kc n) aB)) func197 zA n (by kernel_rfl) λ_=>by kernel_rfl
def Yl:b7 xx:=⟨[.d dF],[.fresh ah,.d (.sl .str),.d ah],λa=>nM n a.1,none⟩
def Ym:Hn SI:=(b9 (.s (.s .z (.b (.l ⟨[(15,.v ah)],[(1256,.m .str .bool)],[1,5,13,14],[1000,1384],1576,[]⟩ 0 ⟨[],[(1256,.m .str .bool)],[1,5],[1000],1576,[]⟩ .z))) (.s (.s .z (.b (.lx ⟨[(25,.v ah)],[(1256,.m .str .bool)],[1,5,23,24],[1000],1832,[]⟩ 2 ⟨[],[],[1],[1000],1832,[]⟩ .z))) (.s .z (.s (.s .z (.s (.j ⟨[(43,.v .bool)],[],[10,11],[1960,2152],2280,[]⟩ .z) .z)) .z)))))
theorem Yn:aJ 159 (Yl n) :=cq (au O1 (au O4 (au (zB n) (au (Je n) aB)))) func159 Ym n
def Ke:b7 xx:=⟨[.d bn,.ref (.st SI.Expr)],[.d .bool],λa=>Al a.1 a.2.1,none⟩
theorem Kg:aJ 200 Ke :=cq aB func200 .z 0
def Jf:b7 xx:=⟨[.d (.sl bn),.d8 [bn] .bool],[.d ah],λa=>rT n a.1 a.2.1,none⟩
def Jg:Hn SI:=(.s .z (.s (.s .z (.b (.lx ⟨[(8,.v ah)],[],[0,1,7],[],1256,[]⟩ 0 ⟨[],[],[],[],1256,[]⟩ .z))) .z))
theorem Jh:aJ 199 (Jf n) :=cq aB func199 Jg n
def Kh:b7 xx:=⟨[.d (.st SI.Entry),.ref (.st SI.Expr)],[.d .bool],λa=>Am a.1 a.2.1,none⟩
theorem Ki:aJ 202 Kh :=cq aB func202 .z 0
def amH:b7 xx:=⟨[.d .bool],[.d ah],λa=>yV a.1,none⟩
theorem afq:aJ 161 amH :=cq aB func161 .z 0
def Zp:b7 xx:=⟨[.d ah,.d ah],[.d ah],λa=>wM a.1 a.2.1,none⟩
def Zq:Hn SI:=(gx (.s (.j ⟨[(5,.v ah)],[],[],[],1448,[]⟩ (.s .z (.s (.j ⟨[(23,.v .bool)],[],[5],[],1704,[]⟩ .z) .z))) .z))
theorem Zr:aJ 203 Zp :=cq aB func203 Zq 0
def afr:b7 xx:=⟨[.d ah,.d ah,.d ah],[.d ah],λa=>JI a.1 a.2.1 a.2.2.1,none⟩
theorem afs:aJ 162 afr :=cq (au Zr (au afq aB)) func162 .z 0
def Kj:c7 xx:=⟨[(.a [.v (.sl bC),.v (.sl bn),.v (.sl bE),.v (.sl bB),.v (.sl bK),.v (.sl bG),.v (.sl aW),.v ah,.mp 0,.v (.sl .str)]),.v (.st SI.Expr)],[(0,.m .str ah)],[.v ah],[(0,.m .str ah)],λv=>jr n v.1 v.2.1 v.2.2.1 v.2.2.2.1 v.2.2.2.2.1 v.2.2.2.2.2.1 v.2.2.2.2.2.2.1 v.2.2.2.2.2.2.2.1 v.2.2.2.2.2.2.2.2.1 v.2.2.2.2.2.2.2.2.2.1 v.2.2.2.2.2.2.2.2.2.2⟩
def Kk:b7 xx:=⟨[],[.d .bool],λ_=>none,some (Kj n)⟩
theorem Kl:aJ 160 (Kk n) :=oy (au (Jh n) (au Kg (au (wS n) (au Ki aB)))) func160 .z n (by kernel_rfl) λ_=>by kernel_rfl
def Gt:Hn SI:=(b9 (.s (.s .z (.b (.l ⟨[(5,.o 1512),(11,.v ah)],[(0,.m .str ah),(1512,.l ah)],[2,3,9,10],[1000,1064],1513,[(5,ah)]⟩ 0 ⟨[(5,.o 1512)],[(0,.m .str ah),(1512,.l ah)],[2,3],[1000,1064],1513,[]⟩ (b9 (.s (.j ⟨[(5,.o 1577)],[(0,.m .str ah),(1577,.l ah)],[2,3,9,10,11],[1000,1064],1578,[]⟩ (.b (.s .z (.s (.s (.j ⟨[(31,.v .bool)],[],[2,3,5,7,9,10,11],[0,1000,1064,1512,1769],1961,[]⟩ .z) .z) .z)))) .z))))) .z))
theorem Fa(rc:((List fw))->((List cB))->((List dN))->((List bV))->((List fZ))->((List eU))->((List bW))->(Int)->((List ByteArray))->(cu)->((List (ByteArray×Int)))->J (Int×(List (ByteArray×Int))))(hr:aJ 114 (jR rc)):aJ 114 (jR (fF n rc)) :=oy (au hr (au (Kl n) (au (pG n) (au afq (au afs aB))))) func114 Gt n (by kernel_rfl) λ_=>by kernel_rfl
theorem uK(n:Nat):∀m,aJ 114 (jR (cK n m))
 | 0=>L4 (ng func114 (by kernel_rfl:Tryz.f114.body=some (Tryz.f114.body.getD .skip)) (by kernel_rfl)) (λ _ _ h=>(by cases h))
 |m+1=>Fa n _ (uK n m)
def Gu:b7 xx:=jR (cK n n)
theorem uS:aJ 114 (Gu n):=uK n n
def TW:c7 xx:=⟨[.v dF,(.v (.sl (.st SI.Entry))),.v (.sl .str)],[],[(.a [.v (.sl bC),.v (.sl bn),.v (.sl bE),.v (.sl bB),.v (.sl bK),.v (.sl bG),.v (.sl aW),.v ah,.mp 1000,.v (.sl .str)]),.o 1001],[(1000,.m .str ah),(1001,.l ah)],λv=>mh n v.1 v.2.1 v.2.2⟩
def TY:b7 xx:=⟨[],[.d .bool],λ_=>none,some (TW n)⟩
def T9:Hn SI:=(gx (.s (.s .z (.b (.l ⟨[(26,.v ah)],[(1256,.m .str ah),(1576,.m .str .bool)],[3,6,8,9,24,25],[1000,1064,1448],1896,[]⟩ 0 ⟨[],[(1256,.m .str ah),(1576,.m .str .bool)],[3,6,8,9],[1000,1064,1448],1896,[]⟩ (b9 (.s (.j ⟨[],[(1256,.m .str ah),(1576,.m .str .bool)],[3,6,8,9,24,25,26],[1000,1064,1448],1960,[]⟩ .z) .z))))) (gx (.s (.s .z (.b (.l ⟨[(61,.v ah)],[(1256,.m .str ah),(2088,.l ah)],[3,6,8,9,12,59,60],[1000,1064,1448,1576,2280],3112,[]⟩ 2 ⟨[],[(1256,.m .str ah),(2088,.l ah)],[6,8,12],[1064,1448],3112,[]⟩ (b9 (.s (.j ⟨[],[(1256,.m .str ah),(2088,.l ah)],[3,6,8,9,12,59,60,61],[1000,1064,1448,1576,2280],3176,[]⟩ (.b (b9 (.s (.j ⟨[],[(1256,.m .str ah),(2088,.l ah)],[3,6,8,9,12,17,18,59,60,61],[1000,1064,1448,1576,2280,3688],3816,[]⟩ .z) .z)))) .z))))) .z))))
theorem Ua:aJ 113 (TY n) :=oy (au (Yn n) (au (Yg n) (au (uS n) aB))) func113 T9 n (by kernel_rfl) λ_=>by kernel_rfl
def aks:b7 xx:=⟨[.d dF,.d (.sl (.st SI.Entry)),.d (.sl .str),.d (.st SI.Expr)],[.d ah],λa=>vN n a.1 a.2.1 a.2.2.1 a.2.2.2.1,none⟩
theorem akt:aJ 79 (aks n) :=cq (au (Yg n) (au (Ua n) (au (uS n) aB))) func79 .z n
def Yo:b7 xx:=⟨[.d aG],[.fresh (.st SI.k7)],λa=>xQ a.1,none⟩
theorem Ji:aJ 53 Yo :=cq aB func53 .z 0
def Jj:b7 xx:=⟨[.d (.sl (.st SI.gj)),.d8 [.st SI.gj] .bool],[.d ah],λa=>rU n a.1 a.2.1,none⟩
def Jk:Hn SI:=(.s .z (.s (.s .z (.b (.lx ⟨[(8,.v ah)],[],[0,1,7],[],1256,[]⟩ 0 ⟨[],[],[],[],1256,[]⟩ .z))) .z))
theorem Jl:aJ 207 (Jj n) :=cq aB func207 Jk n
def Dt:b7 xx:=⟨[.d (.sl (.st SI.gj)),.d8 [.st SI.gj] .bool],[.d .bool],λa=>kI n a.1 a.2.1,none⟩
theorem Du:aJ 174 (Dt n) :=cq (au (Jl n) aB) func174 .z n
def Yp:b7 xx:=⟨[.d ah,.d ah,.d ah],[.d .bool],λa=>nN a.1 a.2.1 a.2.2.1,none⟩
theorem Yq:aJ 208 Yp :=cq aB func208 .z 0
def Zt:b7 xx:=⟨[.d (.st SI.gj)],[.d .bool],λa=>Ao a.1,none⟩
theorem Zu:aJ 176 Zt :=cq (au Yq aB) func176 .z 0
def QU:b7 xx:=⟨[.d (.st SI.gj)],[.d .bool],λa=>ug a.1,none⟩
theorem QV:aJ 175 QU :=cq (au Zu aB) func175 .z 0
def Zv:b7 xx:=⟨[.d ay,.d (.sl (.st SI.gj))],[.d .bool],λa=>Ap n a.1 a.2.1,none⟩
theorem Zw:aJ 125 (Zv n) :=cq (au oG (au (Du n) (au QV aB))) func125 .z n
def aku:b7 xx:=⟨[.d (.sl ay),.d (.sl ay)],[.d .bool],λa=>UD n a.1 a.2.1,none⟩
theorem akv:aJ 132 (aku n) :=cq (au (FD n) aB) func132 .z n
def ahK:b7 xx:=⟨[.d (.sl (.st SI.k7))],[.d .bool],λa=>Ik n a.1,none⟩
def ahL:Hn SI:=(b9 (.s (.s .z (.b (.lx ⟨[(11,.v ah)],[],[0,9,10],[],1448,[]⟩ 0 ⟨[],[],[],[],1448,[]⟩ (b9 (.s (.jx ⟨[],[],[0,9,10,11],[],1512,[]⟩ (.b (.s .z (.s (.s (.j ⟨[(42,.v .bool)],[],[0,3,4,9,10,11],[1704],1896,[]⟩ .z) .z) (b9 (.s (.j ⟨[(68,.v .bool)],[],[0,9,10,11],[],2472,[]⟩ .z) .z)))))) .z))))) .z))
theorem Yr:aJ 87 (ahK n) :=cq (au (pF n) (au (akv n) aB)) func87 ahL n
def O7:b7 xx:=⟨[.d ay,.d ah,.d ah],[.d (.st SI.m5)],λa=>wY a.1 a.2.1 a.2.2.1,none⟩
theorem O8:aJ 209 O7 :=cq aB func209 .z 0
def QW:b7 xx:=⟨[.d ah,.d ah],[.d ah],λa=>uh a.1 a.2.1,none⟩
def QX:Hn SI:=(b9 (.s (.j ⟨[(5,.v ah)],[],[],[],1320,[]⟩ .z) .z))
theorem QY:aJ 210 QW :=cq aB func210 QX 0
def aft:b7 xx:=⟨[.d ay,.d (.sl (.st SI.gj)),.d ah,.d ah],[.d ah],λa=>JJ n a.1 a.2.1 a.2.2.1 a.2.2.2.1,none⟩
def afu:Hn SI:=(gx (.s (.s .z (.b (.l ⟨[(9,.v ah),(19,.v ah)],[],[10,17,18],[1448],1768,[]⟩ 0 ⟨[(9,.v ah)],[],[],[],1768,[]⟩ .z))) .z))
theorem afv:aJ 177 (aft n) :=cq (au O8 (au QY aB)) func177 afu n
def Yt:b7 xx:=⟨[.d ay,.d (.sl (.st SI.gj)),.d (.sl ay)],[.d ah],λa=>xS n a.1 a.2.1 a.2.2.1,none⟩
def Yu:Hn SI:=(b9 (.s (.s .z (.b (.l ⟨[(7,.v ah),(16,.v ah)],[],[1,3,14,15],[1000],1384,[]⟩ 0 ⟨[(7,.v ah)],[],[],[],1384,[]⟩ (b9 (.s (.b (b9 (.b (.l ⟨[(7,.v ah),(27,.v ah)],[],[1,3,9,14,15,16,25,26],[1000,1576,2024],2216,[]⟩ 2 ⟨[(7,.v ah)],[],[1,3,14,15,16],[1000],2216,[]⟩ (b9 (.s (.b (b9 (.b (.l ⟨[(7,.v ah),(38,.v ah)],[],[1,3,9,11,14,15,16,25,26,27,36,37],[1000,1576,2024,2792],2984,[]⟩ 4 ⟨[(7,.v ah)],[],[1,3,9,14,15,16,25,26,27],[1000,1576,2024],2984,[]⟩ .z)))) .z)))))) .z))))) .z))
theorem Yv:aJ 127 (Yt n) :=cq (au (afv n) aB) func127 Yu n
def O9:b7 xx:=⟨[.d (.st SI.k7),.ref ay,.ref (.sl (.st SI.gj))],[.d .bool],λa=>rE n a.1 a.2.1 a.2.2.1,none⟩
theorem Pb:aJ 126 (O9 n) :=cq (au (Yv n) aB) func126 .z n
def Km:b7 xx:=⟨[.d (.sl (.st SI.k7)),.d8 [.st SI.k7] .bool],[.d ah],λa=>uj n a.1 a.2.1,none⟩
def Kn:Hn SI:=(.s .z (.s (.s .z (.b (.lx ⟨[(8,.v ah)],[],[0,1,7],[],1256,[]⟩ 0 ⟨[],[],[],[],1256,[]⟩ .z))) .z))
theorem Ko:aJ 133 (Km n) :=cq aB func133 Kn n
def Fb:b7 xx:=⟨[.d (.sl (.st SI.k7)),.d8 [.st SI.k7] .bool],[.d .bool],λa=>je n a.1 a.2.1,none⟩
theorem uL:aJ 88 (Fb n) :=cq (au (Ko n) aB) func88 .z n
def Yw:b7 xx:=⟨[.d ay,.d (.sl (.st SI.gj)),.d (.sl (.st SI.k7))],[.d .bool],λa=>xU n a.1 a.2.1 a.2.2.1,none⟩
def Yx:Hn SI:=(.s .z (.s (.s (.j ⟨[(15,.v .bool)],[],[2,3,4],[1000,1064],1192,[]⟩ .z) .z) .z))
theorem Yy:aJ 82 (Yw n) :=cq (au (Zw n) (au (Yr n) (au (uL n) (au (Pb n) aB)))) func82 Yx n
def Cb:b7 xx:=⟨[.d aG,.ref ay,.ref bB],[.d .bool],λa=>jS n a.1 a.2.1 a.2.2.1,none⟩
theorem Cc:aJ 81 (Cb n) :=cq (au Ji (au (Yy n) aB)) func81 .z n
def LX:b7 xx:=⟨[.d (.st SI.ke),.d8 [aG] .bool],[.d .bool],λa=>gM n a.1 a.2.1,none⟩
theorem zC:aJ 50 (LX n) :=cq (au (qW n) aB) func50 .z n
def Ce:b7 xx:=⟨[.d aG,.ref bB],[.d .bool],λa=>jT a.1 a.2.1,none⟩
theorem Cf:aJ 83 Ce :=cq aB func83 .z 0
def amI:b7 xx:=⟨[.d ay,.d ay],[.d ah,.d ah],λa=>alR a.1 a.2.1,none⟩
theorem amJ:aJ 179 amI :=cq aB func179 .z 0
def aof:b7 xx:=⟨[.d ay,.d ay],[.d ah],λa=>MM a.1 a.2.1,none⟩
def aog:Hn SI:=(.s .z (.s (.s (.j ⟨[(14,.v .bool)],[],[2,3],[1000,1064],1192,[]⟩ .z) .z) .z))
theorem aoh:aJ 130 aof :=cq (au oG (au amJ aB)) func130 aog 0
def Dv:b7 xx:=⟨[.d (.st SI.ft),.ref (.st SI.ke),.ref aG,.ref bB],[.d .bool],λa=>dV a.1 a.2.1 a.2.2.1 a.2.2.2.1,none⟩
def Dw:Hn SI:=(b9 (.s (.s (.j ⟨[(32,.v .bool)],[],[2,3,6],[1256],1384,[]⟩ .z) .z) (.s (.j ⟨[(7,.v .bool)],[],[2,3,6],[1256],1384,[]⟩ .z) .z)))
theorem Dx:aJ 129 Dv :=cq (au oG (au aoh aB)) func129 Dw 0
def Gv:b7 xx:=⟨[.d (.sl (.st SI.ft)),.d8 [.st SI.ft] .bool],[.d ah],λa=>qy n a.1 a.2.1,none⟩
def Gw:Hn SI:=(.s .z (.s (.s .z (.b (.lx ⟨[(8,.v ah)],[],[0,1,7],[],1256,[]⟩ 0 ⟨[],[],[],[],1256,[]⟩ .z))) .z))
theorem Gx:aJ 178 (Gv n) :=cq aB func178 Gw n
def Cg:b7 xx:=⟨[.d (.sl (.st SI.ft)),.d8 [.st SI.ft] .bool],[.d .bool],λa=>jU n a.1 a.2.1,none⟩
theorem Ch:aJ 128 (Cg n) :=cq (au (Gx n) aB) func128 .z n
def Jm:b7 xx:=⟨[.d (.st SI.ke),.d bB,.d aG],[.d .bool],λa=>rV n a.1 a.2.1 a.2.2.1,none⟩
theorem Jo:aJ 85 (Jm n) :=cq (au (Ch n) (au Dx aB)) func85 .z n
def Ci:b7 xx:=⟨[.d aG,.ref (.st SI.ke),.ref bB],[.d .bool],λa=>jV n a.1 a.2.1 a.2.2.1,none⟩
theorem Cj:aJ 84 (Ci n) :=cq (au (Jo n) aB) func84 .z n
def Gy:b7 xx:=⟨[.d (.st SI.ke),.d bB],[.d .bool],λa=>mJ n a.1 a.2.1,none⟩
theorem Gz:aJ 49 (Gy n) :=cq (au (acD n) (au (akt n) (au (Sb n) (au (zC n) (au (Cc n) (au Cf (au (Cj n) aB))))))) func49 .z n
def Ub:b7 xx:=⟨[.d ay,.ref ay],[.d .bool],λa=>vO a.1 a.2.1,none⟩
theorem Uc:aJ 136 Ub :=cq aB func136 .z 0
def Kq:b7 xx:=⟨[.d (.sl ay),.d8 [ay] .bool],[.d ah],λa=>ul n a.1 a.2.1,none⟩
def Kr:Hn SI:=(.s .z (.s (.s .z (.b (.lx ⟨[(8,.v ah)],[],[0,1,7],[],1256,[]⟩ 0 ⟨[],[],[],[],1256,[]⟩ .z))) .z))
theorem Kt:aJ 180 (Kq n) :=cq aB func180 Kr n
def Fe:b7 xx:=⟨[.d (.sl ay),.d8 [ay] .bool],[.d .bool],λa=>jf n a.1 a.2.1,none⟩
theorem uM:aJ 134 (Fe n) :=cq (au (Kt n) aB) func134 .z n
def acF:b7 xx:=⟨[.d ay,.ref (.sl ay)],[.d .bool],λa=>Ez n a.1 a.2.1,none⟩
theorem acG:aJ 135 (acF n) :=cq (au (uM n) (au Uc aB)) func135 .z n
def akw:b7 xx:=⟨[.d (.sl ay),.d (.sl ay)],[.d .bool],λa=>UE n a.1 a.2.1,none⟩
theorem akx:aJ 90 (akw n) :=cq (au (uM n) (au (acG n) aB)) func90 .z n
def Ud:b7 xx:=⟨[.d (.st SI.k7),.ref (.st SI.eC)],[.d .bool],λa=>qL n a.1 a.2.1,none⟩
theorem Ue:aJ 89 (Ud n) :=cq (au (akx n) aB) func89 .z n
def acH:b7 xx:=⟨[.d (.sl (.st SI.eC)),.d ah,.d (.sl (.st SI.k7))],[.d .bool],λa=>EA n a.1 a.2.1 a.2.2.1,none⟩
def acI:Hn SI:=(b9 (.s (.s .z (.b (.lx ⟨[(14,.v ah)],[],[1,2,12,13],[],1448,[]⟩ 0 ⟨[],[],[],[],1448,[]⟩ (b9 (.s (.jx ⟨[],[],[1,2,12,13,14],[],1512,[]⟩ (.b (.s .z (.s (.s (.j ⟨[(27,.v .bool)],[],[1,2,8,12,13,14],[1640],1768,[]⟩ .z) .z) .z)))) .z))))) .z))
theorem acJ:aJ 52 (acH n) :=cq (au (Yr n) (au (pF n) (au (uL n) (au (Ue n) aB)))) func52 acI n
def LY:b7 xx:=⟨[.d aG,.ref fH,.ref (.st SI.d5)],[.d .bool],λa=>mU n a.1 a.2.1 a.2.2.1,none⟩
theorem LZ:aJ 51 (LY n) :=cq (au Ji (au (acJ n) aB)) func51 .z n
def GA:c7 xx:=⟨[.v .str,.v .bool,.p 0],[(0,qt),(1,.l .str)],[],[(0,.c 1 [[.o 1000]]),(1000,.l .str)],λv=>jD n v.1 v.2.1 v.2.2⟩
def GD:b7 xx:=⟨[],[.d .bool],λ_=>none,some (GA n)⟩
def GH:Hn SI:=(.s (.j ⟨[(11,.v .bool)],[],[0,2],[0,1],1000,[]⟩ .z) .z)
theorem GI:aJ 46 (GD n) :=oy (au (pG n) aB) func46 GH n (by kernel_rfl) λ_=>by kernel_rfl
def Uf:b7 xx:=⟨[.d fH,.d (.st SI.d5),.d ah],[.fresh .str,.d ah],λa=>vQ n a.1 a.2.1 a.2.2.1,none⟩
def Ug:Hn SI:=(ws (.s (.s .z (.b (.l ⟨[(31,.v ah)],[(1960,.c 1 [[.o 2664]]),(2664,.l .str)],[3,4,8,10,11,29,30],[1000,1064,1640,2472],2665,[(9028160,.str)]⟩ 0 ⟨[],[(1960,.c 1 [[.o 2664]]),(2664,.l .str)],[3,4,8,10,11],[1000,1064,1640],2665,[]⟩ .z))) .z))
theorem Uh:aJ 31 (Uf n) :=cq (au (Zl n) (au (Yf n) (au (Gz n) (au (GI n) (au (zC n) (au (LZ n) aB)))))) func31 Ug n
def Ui:b7 xx:=⟨[.d fH,.d (.st SI.d5),.d ah],[.d .bool],λa=>gF n a.1 a.2.1 a.2.2.1,none⟩
theorem rH:aJ 12 (Ui n) :=cq (au (Uh n) aB) func12 .z n
def Yz:b7 xx:=⟨[.d fH,.d ah,.d8 [.sl .bool] .bool,.d (.sl dF)],[.d fe,.d .bool],λa=>qa n a.1 a.2.1 a.2.2.1 a.2.2.2.1,none⟩
def YA:Hn SI:=(.s .z (.s (.s .z (.b (.lx ⟨[(18,.v ah)],[],[1,2,3,4,8,16,17],[1000,1064,1256],1448,[]⟩ 0 ⟨[],[],[8],[1064],1448,[]⟩ (b9 (.s (.b (b9 (.s (.s .z (.b (.l ⟨[(12,.o 2024),(24,.v ah)],[(2024,.l .bool)],[1,2,3,4,8,11,16,17,18,22,23],[1000,1064,1256,1640],2025,[(12,.bool)]⟩ 2 ⟨[(12,.o 2024)],[(2024,.l .bool)],[1,2,3,4,8,11,16,17,18],[1000,1064,1256,1640],2025,[]⟩ .z))) .z))) .z))))) .z))
theorem zD:aJ 19 (Yz n) :=cq (au (FH n) (au wZ (au (rH n) aB))) func19 YA n
def L6:b7 xx:=⟨[.d (.sl .bool)],[.d .bool],λa=>vw a.1,none⟩
theorem L8:aJ 21 L6 :=cq aB func21 .z 0
def Uj:b7 xx:=⟨[.d fH,.d dF,.d dF,.d ah],[.d fe,.d .bool],λa=>jY n a.1 a.2.1 a.2.2.1 a.2.2.2.1,none⟩
theorem Uk:aJ 8 (Uj n) :=cq (au (zD n) (au L8 aB)) func8 .z n
def L9:b7 xx:=⟨[.d (.sl .bool)],[.d .bool],λa=>vz a.1,none⟩
def Ma:Hn SI:=(b9 (.s (.j ⟨[(3,.v .bool)],[],[0],[],1320,[]⟩ .z) .z))
theorem Mc:aJ 20 L9 :=cq aB func20 Ma 0
def Ul:b7 xx:=⟨[.d fH,.d dF,.d dF,.d dF,.d dF,.d ah],[.d fe,.d .bool],λa=>gZ n a.1 a.2.1 a.2.2.1 a.2.2.2.1 a.2.2.2.2.1 a.2.2.2.2.2.1,none⟩
theorem Um:aJ 7 (Ul n) :=cq (au (zD n) (au Mc aB)) func7 .z n
def GJ:b7 xx:=⟨[.d (.sl .bool)],[.d .bool],λa=>qz a.1,none⟩
theorem GK:aJ 33 GJ :=cq aB func33 .z 0
def Md:b7 xx:=⟨[.d fH,.d dF,.d dF,.d ah],[.d .bool],λa=>gP n a.1 a.2.1 a.2.2.1 a.2.2.2.1,none⟩
theorem Me:aJ 16 (Md n) :=cq (au (zD n) (au GK aB)) func16 .z n
def QZ:b7 xx:=⟨[.d fH,.d dF,.d fe,.d ah],[.d .bool],λa=>mW n a.1 a.2.1 a.2.2.1 a.2.2.2.1,none⟩
theorem Q0:aJ 17 (QZ n) :=cq (au (I6 n) (au wZ (au (rH n) aB))) func17 .z n
def Mf:b7 xx:=⟨[.d fH,.d dF,.d ah],[.fresh .bool],λa=>gQ n a.1 a.2.1 a.2.2.1,none⟩
def Mg:Hn SI:=(b9 (.s (.s .z (.b (.l ⟨[(7,.o 1512),(13,.v ah)],[(1512,.l .bool)],[2,3,4,11,12],[1000,1064,1320],1513,[(7,.bool)]⟩ 0 ⟨[(7,.o 1512)],[(1512,.l .bool)],[],[],1513,[]⟩ .z))) .z))
theorem zF:aJ 9 (Mf n) :=cq (au (FH n) (au wZ (au (rH n) aB))) func9 Mg n
def afw:b7 xx:=⟨[],[.d .bool],λ_=>CU n,none⟩
def afx:Hn SI:=(PP (.s (.j ⟨[(13,.v .bool)],[],[1,6,7,8,9,11,12],[1256,1384,3368,4136,5160],5288,[]⟩ .z) .z))
theorem afy:aJ 5 (afw n) :=cq (au ahj (au (Uk n) (au (Um n) (au (Me n) (au (Q0 n) (au (zF n) aB)))))) func5 afx n
def ahM:Hn SI:=(b9 (.s (.s .z (.b (.l ⟨[(3,.v ah),(4,.v ah)],[],[1],[1000],1256,[]⟩ 0 ⟨[(3,.v ah)],[],[],[],1256,[]⟩ .z))) .z))
theorem afz(rc:(cu)->J Int)(hr:aJ 56 (Im rc)):aJ 56 (Im (EB n rc)) :=cq (au hr aB) func56 ahM n
theorem Sd(n:Nat):∀m,aJ 56 (Im (vB n m))
 | 0=>zr (ng func56 (by kernel_rfl:Tryz.f56.body=some (Tryz.f56.body.getD .skip)) (by kernel_rfl)) (λ _ _ h=>(by cases h)) rfl
 |m+1=>afz n _ (Sd n m)
def ahN:b7 xx:=⟨[.d (.st SI.Expr)],[.d ah],λa=>Io n a.1,none⟩
theorem ahO:aJ 56 (ahN n):=Sd n n
def Zx:b7 xx:=⟨[.d dF],[.d .bool],λa=>wN n a.1,none⟩
def Zy:Hn SI:=(.s .z (.s (.s (.j ⟨[(35,.v .bool)],[],[1],[1000],1128,[]⟩ .z) .z) (.s (.s .z (.b (.lx ⟨[(3,.v ah)],[],[1],[1000],1192,[]⟩ 0 ⟨[],[],[1],[1000],1192,[]⟩ .z))) (.s (.s .z (.b (.lx ⟨[(4,.v ah)],[],[1],[1000],1256,[]⟩ 2 ⟨[],[],[1],[1000],1256,[]⟩ (.s .z (.s (.b (.s (.j ⟨[(85,.v .bool)],[],[1,4],[1000],1576,[]⟩ .z) .z)) .z))))) (.s (.s .z (.b (.lx ⟨[(5,.v ah)],[],[1],[1000],1320,[]⟩ 4 ⟨[],[],[1],[1000],1320,[]⟩ .z))) (.s (.s .z (.b (.lx ⟨[(6,.v ah)],[],[1],[1000],1384,[]⟩ 6 ⟨[],[],[1],[1000],1384,[]⟩ .z))) (.s (.s .z (.b (.lx ⟨[(7,.v ah)],[],[1],[1000],1448,[]⟩ 8 ⟨[],[],[],[],1448,[]⟩ .z))) .z)))))))
theorem Zz:aJ 35 (Zx n) :=cq (au (ahO n) aB) func35 Zy n
def Un:b7 xx:=⟨[.d ay],[.d .bool],λa=>vR a.1,none⟩
theorem Uo:aJ 181 Un :=cq aB func181 .z 0
def acK:b7 xx:=⟨[.d (.sl ah)],[.fresh ah],λa=>EC n a.1,none⟩
def acL:Hn SI:=(b9 (.s (.s .z (.b (.l ⟨[(3,.o 1192),(4,.v ah)],[(1192,.l ah)],[0],[],1193,[(3,ah)]⟩ 0 ⟨[(3,.o 1192)],[(1192,.l ah)],[],[],1193,[]⟩ (.s .z (.s (.j ⟨[(3,.o 1449)],[(1449,.l ah)],[0,4],[],1450,[]⟩ (.b (.s .z (.s (.b (.l ⟨[(5,.v ah)],[],[0,3,4],[1192],1641,[]⟩ 2 ⟨[(5,.v ah)],[],[0,3,4],[1192],1641,[]⟩ (.s (.s (.j ⟨[(28,.v .bool)],[],[0,3,4,5],[1192],1641,[]⟩ .z) .z) .z))) (.s (.s (.j ⟨[(44,.v .bool)],[],[0,3,4,5],[1192],1641,[]⟩ .z) .z) (.s .z (.s (.s .z (.b (.l ⟨[(6,.v ah)],[(1769,.l ah)],[0,3,4,5],[],2153,[]⟩ 4 ⟨[],[(1769,.l ah)],[0,3,4,5],[],2153,[]⟩ .z))) .z))))))) .z))))) .z))
theorem acM:aJ 247 (acK n) :=cq aB func247 acL n
def afA:b7 xx:=⟨[.d (.sl ay),.d (.sl ay)],[.fresh ah],λa=>JK n a.1 a.2.1,none⟩
def afB:Hn SI:=(b9 (.s (.s .z (.b (.l ⟨[(5,.o 1192),(6,.v ah)],[(1192,.l ah)],[0,1],[],1193,[(5,ah)]⟩ 0 ⟨[(5,.o 1192)],[(1192,.l ah)],[1],[],1193,[]⟩ .z))) (.s (.s .z (.b (.l ⟨[(5,.o 1257),(7,.v ah)],[(1257,.l ah)],[1],[],1258,[]⟩ 2 ⟨[(5,.o 1257)],[(1257,.l ah)],[],[],1258,[]⟩ .z))) .z)))
theorem afC:aJ 211 (afA n) :=cq (au (acM n) aB) func211 afB n
def acN:b7 xx:=⟨[.d (.sl ay),.d ah],[.fresh ah],λa=>yX n a.1 a.2.1,none⟩
def acO:Hn SI:=(gx (.s (.s .z (.b (.l ⟨[(5,.o 1256),(6,.o 1257),(7,.v ah)],[(1256,.l ah),(1257,.l ah)],[0,1],[],1258,[(5,ah),(6,ah)]⟩ 0 ⟨[(5,.o 1256),(6,.o 1257)],[(1256,.l ah),(1257,.l ah)],[],[],1258,[]⟩ (.s .z (.s (.j ⟨[(5,.o 1514),(6,.o 1515)],[(1514,.l ah),(1515,.l ah)],[0,1,7],[],1516,[]⟩ (.b (.s (.s (.j ⟨[(32,.v .bool)],[],[0,1,5,6,7],[1256,1257],1514,[]⟩ .z) .z) (gx (.s (.b (.l ⟨[(8,.v ah)],[(1834,.l ah),(2090,.l ah)],[0,1,5,6,7],[],2218,[]⟩ 2 ⟨[(8,.v ah)],[(1834,.l ah),(2090,.l ah)],[0,1,5,6,7],[],2218,[]⟩ (.s (.s (.j ⟨[(55,.v .bool)],[],[0,1,5,6,7,8],[1834,2090],2218,[]⟩ .z) .z) .z))) .z))))) .z))))) (.s .z (.s (.s .z (.b (.l ⟨[(9,.o 1386),(10,.v ah)],[(1386,.l ah)],[5,6],[1256,1257],1387,[(9,ah)]⟩ 4 ⟨[(9,.o 1386)],[(1386,.l ah)],[],[],1387,[]⟩ (.s .z (.s (.j ⟨[(9,.o 1643)],[(1643,.l ah)],[5,6,10],[1256,1257],1644,[]⟩ (.b (.s (.s (.j ⟨[(111,.v .bool)],[],[5,6,9,10],[1256,1257,1386],1643,[]⟩ .z) .z) .z))) .z))))) .z))))
theorem acP:aJ 213 (acN n) :=cq aB func213 acO n
def ZA:b7 xx:=⟨[.d (.sl ah),.d (.sl ah),.d ah],[.fresh ah],λa=>Au n a.1 a.2.1 a.2.2.1,none⟩
def ZB:Hn SI:=(ws (.s (.b (.l ⟨[(7,.o 1320),(8,.v ah),(9,.v ah),(10,.v .bool)],[(1320,.l ah)],[0,1,2],[],1321,[(7,ah)]⟩ 0 ⟨[(7,.o 1320)],[(1320,.l ah)],[],[],1321,[]⟩ (.s (.s (.j ⟨[(24,.v .bool)],[],[0,1,2,7,8,9,10],[1320],1321,[]⟩ .z) .z) (.b (.s .z (.s (.j ⟨[(11,.v ah)],[],[0,1,2,7,8,9,10],[1320],1385,[]⟩ (.s (.j ⟨[(49,.v .bool)],[],[0,1,2,7,8,9,10],[1320],1385,[]⟩ .z) .z)) (.s (.j ⟨[(8,.v ah)],[],[0,1,2,7,9,10,11],[1320],1385,[]⟩ (.s (.j ⟨[(69,.v .bool)],[],[0,1,2,7,8,9,10,11],[1320],1385,[]⟩ .z) .z)) (.s (.j ⟨[(9,.v ah)],[],[0,1,2,7,8,10,11],[1320],1385,[]⟩ (.s (.j ⟨[(83,.v .bool)],[],[0,1,2,7,8,9,10,11],[1320],1385,[]⟩ .z) .z)) (b9 (.s (.j ⟨[(14,.v .bool)],[],[0,1,2,7,8,9,10,11,12,13],[1320],1897,[]⟩ .z) (.s (.j ⟨[(14,.v .bool)],[],[0,1,2,7,8,9,10,11,12,13],[1320],1897,[]⟩ .z) (.s (.j ⟨[(14,.v .bool)],[],[0,1,2,7,8,9,10,11],[1320],1897,[]⟩ .z) (.s (.j ⟨[(7,.o 1897)],[(1897,.l ah)],[0,1,2,8,9,14],[],1898,[]⟩ .z) .z))))))))))))) .z))
theorem ZC:aJ 212 (ZA n) :=cq aB func212 ZB n
def ahP:b7 xx:=⟨[.d (.sl ah),.d (.sl ah)],[.d .bool],λa=>NT n a.1 a.2.1,none⟩
def ahQ:Hn SI:=(b9 (.s (.s .z (.b (.lx ⟨[(5,.v ah)],[],[0,1],[],1448,[]⟩ 0 ⟨[],[],[],[],1448,[]⟩ .z))) .z))
theorem ahR:aJ 214 (ahP n) :=cq aB func214 ahQ n
def ahS:b7 xx:=⟨[.d (.sl ay),.d (.sl ay),.d ah],[.fresh ay],λa=>NU n a.1 a.2.1 a.2.2.1,none⟩
def ahT:Hn SI:=(ws (.s (.s .z (.b (.l ⟨[(7,.o 1576),(9,.o 1577),(10,.v ah),(11,.v ah)],[(1576,.l ay),(1577,.l ah)],[0,1,2,8],[1256],1578,[(7,ay),(9,ah)]⟩ 0 ⟨[(7,.o 1576)],[(1576,.l ay)],[],[],1577,[]⟩ (.s .z (.s (.j ⟨[(7,.o 1898),(9,.o 1899),(10,.v ah)],[(1898,.l ay),(1899,.l ah)],[0,1,2,8,11],[1256],1900,[]⟩ (.b (.s .z (.s (.s (.j ⟨[(50,.v .bool)],[],[0,1,2,7,8,9,10,11,12],[1256,1576,1577,2730],2858,[]⟩ .z) (.s (.s (.s .z (.b (.l ⟨[(13,.v ah)],[(1576,.l ay)],[0,1,2,7,8,9,10,11],[1256,1577],2986,[]⟩ 2 ⟨[],[(1576,.l ay)],[0,1,2,7,8,9,10,11],[1256,1577],2986,[]⟩ .z))) .z) .z)) (gx (.b (.l ⟨[(7,.o 3242),(14,.v ah)],[(3242,.l ay)],[0,1,2,8,9,10,11,12],[1256,2730],3243,[]⟩ 4 ⟨[(7,.o 3242)],[(3242,.l ay)],[0,1,2,8,9,10,11],[1256,2730],3243,[]⟩ .z))))))) .z))))) .z))
theorem ahU:aJ 182 (ahS n) :=cq (au (afC n) (au (acP n) (au (ZC n) (au (ahR n) aB)))) func182 ahT n
def amK:b7 xx:=⟨[.d (.sl ay)],[.fresh ay,.d ah],λa=>OK n a.1,none⟩
def amL:Hn SI:=(.s .z (.s (.s .z (.b (.lx ⟨[(4,.v ah)],[],[0],[],1192,[]⟩ 0 ⟨[],[],[0],[],1192,[]⟩ .z))) .z))
theorem amM:aJ 137 (amK n) :=cq (au Uo (au (ahU n) aB)) func137 amL n
def ahV:b7 xx:=⟨[.d (.sl ay),.d (.sl ay)],[.d .bool],λa=>NV n a.1 a.2.1,none⟩
def ahW:Hn SI:=(b9 (.s (.s .z (.b (.lx ⟨[(5,.v ah)],[],[0,1],[],1448,[]⟩ 0 ⟨[],[],[],[],1448,[]⟩ .z))) .z))
theorem ahX:aJ 138 (ahV n) :=cq aB func138 ahW n
def afD:b7 xx:=⟨[.d (.sl ay)],[.d .bool],λa=>JM n a.1,none⟩
theorem afE:aJ 91 (afD n) :=cq (au (amM n) (au (ahX n) aB)) func91 .z n
def acQ:b7 xx:=⟨[.d (.sl ay)],[.d ay,.d .bool],λa=>EF n a.1,none⟩
def acR:Hn SI:=(.s .z (.s (.s (.j ⟨[(13,.v .bool)],[],[0,2],[1000],1128,[]⟩ .z) .z) (.s .z (.s (.s .z (.b (.l ⟨[(5,.v ah)],[(1320,uv)],[0,2,4],[1000],1512,[]⟩ 0 ⟨[],[(1320,uv)],[2,4],[1000],1512,[]⟩ .z))) .z))))
theorem acS:aJ 57 (acQ n) :=cq (au (afE n) aB) func57 acR n
def acT:b7 xx:=⟨[.d iU],[.d .bool],λa=>EG n a.1,none⟩
theorem acU:aJ 36 (acT n) :=cq (au (acS n) aB) func36 .z n
def aky:b7 xx:=⟨[.d fH],[.d .bool],λa=>EJ n a.1,none⟩
def akz:Hn SI:=(.s .z (.s (.s (.j ⟨[(26,.v .bool)],[],[1],[1000],1128,[]⟩ .z) .z) (.s (.s .z (.b (.lx ⟨[(3,.v ah)],[],[1],[1000],1192,[]⟩ 0 ⟨[],[],[1],[1000],1192,[]⟩ .z))) (.s (.s .z (.b (.lx ⟨[(4,.v ah)],[],[1],[1000],1256,[]⟩ 2 ⟨[],[],[],[],1256,[]⟩ .z))) .z))))
theorem akA:aJ 18 (aky n) :=cq (au (Zz n) (au (acU n) aB)) func18 akz n
def akB:b7 xx:=⟨[.d fH,.d (.sl dF)],[.d .bool],λa=>UF n a.1 a.2.1,none⟩
def akC:Hn SI:=(.s .z (.s (.s .z (.b (.lx ⟨[(5,.v ah)],[(1000,.c 13 [[.v (.sl bC),.v (.sl bn),.v (.sl bE),.v (.sl bB),.v (.sl bK),.v (.sl bG),.v (.sl aW),.v ah,.v (.sl iU),(.v (.sl (.st SI.eC))),(.v (.sl (.st SI.Window))),(.v (.sl (.st SI.ft))),(.v (.sl (.st SI.Entry)))]])],[1,2],[],1192,[]⟩ 0 ⟨[],[(1000,.c 13 [[.v (.sl bC),.v (.sl bn),.v (.sl bE),.v (.sl bB),.v (.sl bK),.v (.sl bG),.v (.sl aW),.v ah,.v (.sl iU),(.v (.sl (.st SI.eC))),(.v (.sl (.st SI.Window))),(.v (.sl (.st SI.ft))),(.v (.sl (.st SI.Entry)))]])],[2],[],1192,[]⟩ .z))) .z))
theorem akD:aJ 6 (akB n) :=cq (au (akA n) aB) func6 akC n
def Q5:b7 xx:=⟨[.d ah,.ref ah,.iS .bool,.iS ah],[.mr .bool,.mr ah],λa=>o8 a.1 a.2.1 a.2.2.1 a.2.2.2.1,none⟩
def Q6:Hn SI:=(.s (.j ⟨[(16,.v .bool)],[],[0,2,3],[0,1],1000,[]⟩ .z) .z)
theorem Q7:aJ 32 Q5 :=cq aB func32 Q6 0
def ZE:b7 xx:=⟨[.d dF,.d ah],[.d ah,.d .bool],λa=>Az n a.1 a.2.1,none⟩
def ZF:Hn SI:=(gx (.s (.s .z (.b (.l ⟨[(15,.v ah)],[(1256,.c 1 [[.v ah]]),(1320,.c 1 [[.v .bool]])],[6,7,8,13,14],[1064],1896,[]⟩ 0 ⟨[],[(1256,.c 1 [[.v ah]]),(1320,.c 1 [[.v .bool]])],[6,7],[],1896,[]⟩ (b9 (.s (.j ⟨[],[(1256,.c 1 [[.v ah]]),(1320,.c 1 [[.v .bool]])],[6,7,8,13,14,15],[1064],1960,[]⟩ .z) .z))))) .z))
theorem ZG:aJ 13 (ZE n) :=cq (au Q7 aB) func13 ZF n
def afF:b7 xx:=⟨[.d (.sl .bool),.d (.sl .bool)],[.d .bool],λa=>JN n a.1 a.2.1,none⟩
def afG:Hn SI:=(b9 (.s (.s .z (.b (.lx ⟨[(5,.v ah)],[],[0,1],[],1448,[]⟩ 0 ⟨[],[],[],[],1448,[]⟩ .z))) .z))
theorem afH:aJ 14 (afF n) :=cq aB func14 afG n
def GL:b7 xx:=⟨[.d fH,.d dF,.d ah],[.d .bool],λa=>mM n a.1 a.2.1 a.2.2.1,none⟩
def GN:Hn SI:=(b9 (.s (.s (.j ⟨[(32,.v .bool)],[],[2,3,4,7],[1000,1064],1320,[]⟩ .z) .z) (.s .z (.s (.f [3]) (gx (.s (.s .z (.b (.lx ⟨[(11,.v ah)],[],[2,3,4,7,8,9,10],[1000,1064,1512,2280],2664,[]⟩ 0 ⟨[],[],[2,3,4,7,8],[1000,1064,1512],2664,[]⟩ (.s .z (.s (.b (.s .z (.b (.lx ⟨[(12,.v ah)],[],[2,3,4,7,8,9,10,11],[1000,1064,1512,2280],2984,[]⟩ 2 ⟨[],[],[2,3,4,7,8,9,10,11],[1000,1064,1512,2280],2984,[]⟩ (.s .z (.s (.b (b9 (.s (.s (.j ⟨[(99,.v .bool)],[],[2,3,4,7,8,9,10,11],[1000,1064,1512,2280],5096,[]⟩ .z) .z) .z))) .z)))))) .z))))) (PQ (.s (.j ⟨[(18,.v ah)],[],[3,7,8,15],[1000,1512,2728],3816,[]⟩ .z) .z))))))))
theorem GQ:aJ 4 (GL n) :=cq (au (afy n) (au (akD n) (au (zF n) (au (C9 n) (au (FE n) (au (rH n) (au (ZG n) (au (afH n) aB)))))))) func4 GN n
end
end Go.Proofs
