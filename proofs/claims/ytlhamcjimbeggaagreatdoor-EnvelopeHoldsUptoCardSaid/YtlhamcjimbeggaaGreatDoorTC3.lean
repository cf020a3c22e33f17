import Derived.Test.YtlhamcjimbeggaaGreatDoorTC2
namespace Go.Proofs
open Go.Gb Go.RowKit
open Tryz
noncomputable section
variable (n:Nat)
def aia:ct xx:=⟨[.d (.st SI.Expr),.d af],[.d af],λa=>Sy n a.1 a.2.1,none⟩
theorem aib:aJ 154 (aia n):=Rq n n
def akp:ct xx:=⟨[.d (.st SI.Expr)],[.d .bool],λa=>EG n a.1,none⟩
theorem aaI:aJ 103 (akp n):=cq (au (aib n) aA) func103 .z n
def Rs:ct xx:=⟨[],[.fresh .str],λ_=>yJ,none⟩
theorem Rt:aJ 196 Rs:=cq aA func196 .z 0
mutual
theorem aqt:∀g:dD,(toE g).wt<=4000000->s6 (toE g) (tJ g)
 |⟨op,n,s,key,args⟩,h=>by simp only[toE,ET.wt]at h;have:=ET.rx (JX args);simp only[toE,tJ,s6];exact⟨n,key,_,rfl,by unfold maxLen;omega,by omega,aaJ args (by omega)⟩
theorem aaJ:∀l:List dD,ET.tI (JX l)<=4000000->nF (JX l) (u7 l)
 |[],_=>by simp only[JX,u7,nF]
 |x::xs,h=>by simp only[JX,ET.tI]at h;simp only[JX,u7,nF];exact⟨_,_,rfl,aqt x (by omega),aaJ xs (by omega)⟩
end
def Ru:ct xx:=⟨[],[.d .bool],λ_=>none,some ⟨[.v (.sl bE)],[],[.p 1000],[(1000,sm)],λv=>mF v⟩⟩
theorem aic:∀l:U iQ,sk (l.map toD)<=4000000->oa (l.map toD) (l.map Gc)
 |[],_=>by simp only[List.map_nil,oa]
 |x::xs,h=>by simp only[bK,sk,List.foldr_cons,toD,ET.wt]at h;have:=ET.rx (JX x.gh);simp only[bK,oa];refine⟨_,_,rfl,⟨_,_,_,_,_,rfl,by simp only[toD];unfold maxLen;omega,?_⟩,aic xs (by simp only[sk];omega)⟩;simp only[toD,s6];exact⟨_,_,_,rfl,by unfold maxLen;omega,by omega,by rw[<- ve];exact aaJ _ (by omega)⟩
theorem Rv:aJ 197 Ru:=by
 have hcall:fP Tryz.prog 197:=⟨_,func197,by kernel_rfl,by kernel_rfl⟩;refine aq3 hcall ?_;intro v r hr;have h':mF v=some r:=hr;unfold mF at h';cases hb:Nat.ble (sk (List.map toD v)) 4000000 with
 |false=>rw[hb]at h';cases h'
 |true=>
  rw[hb]at h';have h'':some (v,qx (List.map toD v))=some r:=h';injection h'' with e;subst e;have hw:=Nat.le_of_ble_eq_true hb;have hlen:=Xa (List.map toD v);have hn:∀d∈List.map toD v,d.2.names.length<=4000000:=λd hd=>by have h1:=Xb hd;have h2:=ET.pd d.2;omega
  exact aer (TL:=44) (TG:=308) (TI:=3) hcall (aic v hw) λsv w hS=>apM (List.map toD v) (by omega) (λ d hd=>Nat.le_trans (hn d hd) (by omega))
   (λ d hd v0 v1 v2 v3 v4 w hE=>callsIn_wide.1 (an6 0 d.2 v0 v1 v2 v3 v4 w hE (Nat.le_trans (hn d hd) (by omega)))) sv w hS
def WI:ct xx:=⟨[.d (.sl af),.d af],[.fresh af],λa=>sW a.1 a.2.1,none⟩
theorem WJ:aJ 265 WI:=by
 have hcall:fP Tryz.prog 265:=⟨_,func265,by kernel_rfl,by kernel_rfl⟩;refine A2 hcall (λ a r h=>?_) rfl;obtain⟨l,c,⟨⟩⟩:=a;have h':sW l c=some r:=h
 match l,h' with
 |[x],h'=>
  simp only[sW]at h';cases hb:(decide (0<=c)&&decide (c<=1000000000000))with
  |false=>rw[hb]at h';cases h'
  |true=>
   rw[hb]at h';have h'':some (List.replicate c.toNat x)=some r:=h';injection h'' with e;subst e;simp only[aY,bF]at hb;obtain⟨h1,h2⟩:=hb;obtain⟨k,hk⟩:=Int.eq_ofNat_of_zero_le h1;subst hk;exact ajb (Φ:=3) (c:=k) hcall λa cap w hx=>al7 x k (Int.ofNat_le.1 (by simpa using h2)) a cap w hx
def aaK:ct xx:=⟨[.d (.sl af),.d af],[.d af],λa=>Gp n a.1 a.2.1,none⟩
def aaL:Hn SI:=(.s .z (.s (.s .z (.b (.lx ⟨[(8,.v af)],[],[0,1,7],[],1256,[]⟩ 0 ⟨[],[],[],[],1256,[]⟩ .z))) .z))
theorem aaM:aJ 272 (aaK n):=cq aA func272 aaL n
def Rw:ct xx:=⟨[.d (.sl af),.d af],[.d .bool],λa=>tV n a.1 a.2.1,none⟩
theorem Rx:aJ 266 (Rw n):=cq (au (aaM n) aA) func266 .z n
def DT:ct xx:=⟨[.ref (.st SI.graph),.d af],[.fresh af],λa=>kM n a.1 a.2.1,none⟩
def DU:Hn SI:=(ra (.s (.b (.l ⟨[(6,.od 2024)],[(1448,.l af),(2024,.l af)],[0,5],[],2025,[]⟩ 0 ⟨[],[(1448,.l af)],[5],[],2024,[]⟩ (.s .z (.b (jj (.b (.l ⟨[(6,.od 3049),(35,.v af)],[(1448,.l af),(3049,.l af)],[0,5,7,33,34],[],3050,[]⟩ 2 ⟨[(6,.od 3049)],[(1448,.l af),(3049,.l af)],[0,5],[],3050,[]⟩ (cp (.s (.j ⟨[(6,.od 3114)],[(1448,.l af),(3114,.l af)],[0,5,7,33,34,35],[],3115,[]⟩ (.b (.s .z (.s (.j ⟨[(49,.v .bool)],[],[0,5,6,7,8,33,34,35],[1448,3049],3434,[]⟩ .z) .z)))) .z))))))))) .z))
theorem DW:aJ 252 (DT n):=cq (au WJ (au (Rx n) aA)) func252 DU n
def OA:ct xx:=⟨[.d .str],[.d .bool],λa=>cmp_isNaN_string a.1,none⟩
theorem OC:aJ 267 OA:=cq aA func267 .z 0
def KS:ct xx:=⟨[.d .str,.d .str],[.d af],λa=>pJ a.1 a.2.1,none⟩
theorem KT:aJ 253 KS:=cq (au OC aA) func253 .z 0
def Ma:ct xx:=⟨[.d (.sl .str),.d (.sl .str)],[.d af],λa=>nk n a.1 a.2.1,none⟩
def Mc:Hn SI:=(.s .z (.s (.s .z (.b (.lx ⟨[(11,.v af)],[],[0,1,9,10],[],1256,[]⟩ 0 ⟨[],[],[0,1],[],1256,[]⟩ .z))) .z))
theorem Md:aJ 227 (Ma n):=cq (au KT aA) func227 Mc n
def Bc:dg xx:=⟨[.v af,.p 0],[(0,q7),(1,.l .bool)],[.v .bool],[(0,q7),(1,.l .bool)],λv=>nT v.1 v.2⟩
def Bd:ct xx:=tzG (Bc)
theorem Be:aJ 229 Bd:=oE aA func229 .z 0
def IW:dg xx:=⟨[.v (.sl af),.f 229 [] [.p 0]],[(0,q7),(1,.l .bool)],[.v af],[(0,q7),(1,.l .bool)],λv=>oo n v.1 v.2⟩
def IX:ct xx:=tzG (IW n)
def IY:Hn SI:=(.s .z (.s (.s .z (.b (.lx ⟨[(8,.v af)],[(0,q7),(1,.l .bool)],[0,1,7],[],1256,[]⟩ 0 ⟨[],[(0,q7),(1,.l .bool)],[],[],1256,[]⟩ .z))) .z))
theorem IZ:aJ 254 (IX n):=oE (au Be aA) func254 IY n
def DX:dg xx:=⟨[.v (.sl af),.f 229 [] [.p 0]],[(0,q7),(1,.l .bool)],[.v .bool],[(0,q7),(1,.l .bool)],λv=>iX n v.1 v.2⟩
def DY:ct xx:=tzG (DX n)
theorem DZ:aJ 228 (DY n):=oE (au (IZ n) aA) func228 .z n
def KU:ct xx:=⟨[.ref (.st SI.graph)],[.fresh af],λa=>pK n a.1,none⟩
def KV:Hn SI:=(jj (.s (.s .z (.b (.l ⟨[(4,.o 2024),(20,.v af)],[(1448,yp),(2024,.l af),(1384,.l .bool)],[0,3,19],[],2025,[(4,af)]⟩ 0 ⟨[(4,.o 2024)],[(2024,.l af)],[],[],2025,[]⟩ (cp (.s (.b (.s .z (.s (.s .z (.b (.l ⟨[(5,.v af),(27,.v af)],[(1448,yp),(1384,.l .bool)],[0,3,4,19,20,25,26],[2024],2537,[]⟩ 2 ⟨[(5,.v af)],[(1448,yp),(1384,.l .bool)],[0,3,4,19,20],[2024],2537,[]⟩ (cp (.s (.j ⟨[(5,.v af)],[(1448,yp),(1384,.l .bool)],[0,3,4,19,20,25,26,27],[2024],2601,[]⟩ (.b (cp (.s (.j ⟨[(66,.v .bool)],[],[0,3,4,5,6,19,20,25,26,27],[1384,1448,2024],3177,[]⟩ .z) .z)))) .z))))) .z))) .z))))) .z))
theorem KW:aJ 199 (KU n):=cq (au (DZ n) aA) func199 KV n
def D5:dg xx:=⟨[.p 0,.v af],[(0,sm)],[.oz 1000],[(0,sm),(1000,.l .str)],λv=>kP n v.1 v.2.1 v.2.2⟩
def D6:ct xx:=tzG (D5 n)
def D7:Hn SI:=(ra (.b (.lx ⟨[(6,.o 1512),(7,.v af)],[(1512,.l .str)],[0,1,5],[0,1192],1513,[(6,.str)]⟩ 999999 ⟨[],[],[],[],1512,[]⟩ (.b (cp (.s (.s .z (.b (.l ⟨[(8,.v af),(34,.v af)],[],[0,1,5,6,32,33],[0,1192,2153],2921,[]⟩ 2 ⟨[(8,.v af)],[],[0,1,5,6],[0,1192,2153],2921,[]⟩ (cp (.s (.j ⟨[(8,.v af)],[],[0,1,5,6,32,33,34],[0,1192,2153],2985,[]⟩ (.b (.s .z (.s (.j ⟨[(57,.v .bool)],[],[0,1,5,6,8,10,32,33,34],[0,1192,2153],3177,[]⟩ .z) .z)))) .z))))) .z))))))
theorem D8:aJ 226 (D6 n):=oE (au (DW n) aA) func226 D7 n
def Bf:dg xx:=⟨[.p 0],[(0,sm)],[.oz 1000],[(0,sm),(1000,.l .str)],λv=>jE n v.1 v.2⟩
def Bg:ct xx:=tzG (Bf n)
def Bh:Hn SI:=(cp (.s (.s .z (.b (.l ⟨[(3,.oz 1512),(11,.v af)],[(0,sm),(1512,.l .str)],[0,10],[],1513,[(1099511627779,.str)]⟩ 0 ⟨[(3,.oz 1512)],[(0,sm),(1512,.l .str)],[],[],1513,[]⟩ (cp (.s (.j ⟨[(3,.oz 1577)],[(0,sm),(1577,.l .str)],[0,10,11],[],1578,[]⟩ (.b (cp (.s (.s (.j ⟨[(18,.v .bool)],[],[0,3,5,10,11],[0,1512,1833],1961,[]⟩ .z) .z) (.s (.j ⟨[(40,.v .bool)],[],[0,3,5,10,11],[0,1512,1833],1961,[]⟩ .z) .z))))) .z))))) .z))
theorem Bj:aJ 198 (Bg n):=oE (au (D8 n) (au (Md n) aA)) func198 Bh n
def aaN:ct xx:=⟨[.d (.st SI.lj)],[.fresh af,.d (.sl .str),.d af],λa=>pM n a.1,none⟩
def aaO:Hn SI:=(cp (.s (.s .z (.b (.l ⟨[(15,.v af)],[(1256,.m .str .bool)],[1,5,13,14],[1000,1384],1576,[]⟩ 0 ⟨[],[(1256,.m .str .bool)],[1,5],[1000],1576,[]⟩ .z))) (.s (.s .z (.b (.lx ⟨[(25,.v af)],[(1256,.m .str .bool)],[1,5,23,24],[1000],1832,[]⟩ 2 ⟨[],[],[1],[1000],1832,[]⟩ .z))) (.s .z (.s (.s .z (.s (.j ⟨[(43,.v .bool)],[],[10,11],[1960,2152],2280,[]⟩ .z) .z)) .z)))))
theorem aaP:aJ 155 (aaN n):=cq (au Rt (au Rv (au (Bj n) (au (KW n) aA)))) func155 aaO n
def Me:ct xx:=⟨[.d bn,.ref (.st SI.Expr)],[.d .bool],λa=>Cm a.1 a.2.1,none⟩
theorem Mf:aJ 201 Me:=cq aA func201 .z 0
def KX:ct xx:=⟨[.d (.sl bn),.en [bn] .bool],[.d af],λa=>uh n a.1 a.2.1,none⟩
def KY:Hn SI:=(.s .z (.s (.s .z (.b (.lx ⟨[(8,.v af)],[],[0,1,7],[],1256,[]⟩ 0 ⟨[],[],[],[],1256,[]⟩ .z))) .z))
theorem KZ:aJ 200 (KX n):=cq aA func200 KY n
def Mg:ct xx:=⟨[.d (.st SI.Entry),.ref (.st SI.Expr)],[.d .bool],λa=>Cn a.1 a.2.1,none⟩
theorem Mh:aJ 203 Mg:=cq aA func203 .z 0
def apb:ct xx:=⟨[.d .bool],[.d af],λa=>yK a.1,none⟩
theorem aid:aJ 157 apb:=cq aA func157 .z 0
def abZ:ct xx:=⟨[.d af,.d af],[.d af],λa=>yu a.1 a.2.1,none⟩
def ab0:Hn SI:=(jj (.s (.j ⟨[(5,.v af)],[],[],[],1448,[]⟩ (.s .z (.s (.j ⟨[(23,.v .bool)],[],[5],[],1704,[]⟩ .z) .z))) .z))
theorem ab1:aJ 204 abZ:=cq aA func204 ab0 0
def aie:ct xx:=⟨[.d af,.d af,.d af],[.d af],λa=>LA a.1 a.2.1 a.2.2.1,none⟩
theorem aif:aJ 158 aie:=cq (au ab1 (au aid aA)) func158 .z 0
def Mi:dg xx:=⟨[.a [.v (.sl bE),.v (.sl bn),.v (.sl bG),.v (.sl aU),.v (.sl bM),.v (.sl bI),.v (.sl bf),.v af,.mp 0,.v (.sl .str)],.v (.st SI.Expr)],[(0,.m .str af)],[.v af],[(0,.m .str af)],λ(qa,qb,qc,qd,qe,qf,qg,qh,qi,qj,qk)=>jV n qa qb qc qd qe qf qg qh qi qj qk⟩
def Mj:ct xx:=tzG (Mi n)
theorem Mk:aJ 156 (Mj n):=oE (au (KZ n) (au Mf (au (yG n) (au Mh aA)))) func156 .z n
def I4:Hn SI:=(cp (.s (.s .z (.b (.l ⟨[(5,.o 1512),(11,.v af)],[(0,.m .str af),(1512,.l af)],[2,3,9,10],[1000,1064],1513,[(5,af)]⟩ 0 ⟨[(5,.o 1512)],[(0,.m .str af),(1512,.l af)],[2,3],[1000,1064],1513,[]⟩ (cp (.s (.j ⟨[(5,.o 1577)],[(0,.m .str af),(1577,.l af)],[2,3,9,10,11],[1000,1064],1578,[]⟩ (.b (.s .z (.s (.s (.j ⟨[(31,.v .bool)],[],[2,3,5,7,9,10,11],[0,1000,1064,1512,1769],1961,[]⟩ .z) .z) .z)))) .z))))) .z))
theorem GY(rc:((List iQ))->((List dX))->((List gm))->((List bO))->((List j5))->((List jd))->((List d9))->(Int)->((List ByteArray))->(dD)->((List (ByteArray×Int)))->J (Int×(List (ByteArray×Int))))(hr:aJ 105 (kQ rc)):aJ 105 (kQ (fM n rc)):=oE (au hr (au (Mk n) (au (qZ n) (au aid (au aif aA))))) func105 I4 n
theorem vU(n:Nat):∀m,aJ 105 (kQ (dm n m))
 | 0=>aq3 (xQ func105 (by kernel_rfl:Tryz.f105.body=some (Tryz.f105.body.getD .skip)) (by kernel_rfl)) (λ _ _ h=>(by cases h))
 |m+1=>GY n _ (vU n m)
def I5:ct xx:=kQ (dm n n)
theorem wE:aJ 105 (I5 n):=vU n n
def WK:dg xx:=⟨[.v (.st SI.lj),.v (.sl (.st SI.Entry)),.v (.sl .str)],[],[.a [.v (.sl bE),.v (.sl bn),.v (.sl bG),.v (.sl aU),.v (.sl bM),.v (.sl bI),.v (.sl bf),.v af,.mp 1000,.v (.sl .str)],.o 1001],[(1000,.m .str af),(1001,.l af)],λv=>nU n v.1 v.2.1 v.2.2⟩
def WL:ct xx:=tzG (WK n)
def WM:Hn SI:=(jj (.s (.s .z (.b (.l ⟨[(26,.v af)],[(1256,.m .str af),(1576,.m .str .bool)],[3,6,8,9,24,25],[1000,1064,1448],1896,[]⟩ 0 ⟨[],[(1256,.m .str af),(1576,.m .str .bool)],[3,6,8,9],[1000,1064,1448],1896,[]⟩ (cp (.s (.j ⟨[],[(1256,.m .str af),(1576,.m .str .bool)],[3,6,8,9,24,25,26],[1000,1064,1448],1960,[]⟩ .z) .z))))) (jj (.s (.s .z (.b (.l ⟨[(61,.v af)],[(1256,.m .str af),(2088,.l af)],[3,6,8,9,12,59,60],[1000,1064,1448,1576,2280],3112,[]⟩ 2 ⟨[],[(1256,.m .str af),(2088,.l af)],[6,8,12],[1064,1448],3112,[]⟩ (cp (.s (.j ⟨[],[(1256,.m .str af),(2088,.l af)],[3,6,8,9,12,59,60,61],[1000,1064,1448,1576,2280],3176,[]⟩ (.b (cp (.s (.j ⟨[],[(1256,.m .str af),(2088,.l af)],[3,6,8,9,12,17,18,59,60,61],[1000,1064,1448,1576,2280,3688],3816,[]⟩ .z) .z)))) .z))))) .z))))
theorem WN:aJ 104 (WL n):=oE (au (aaP n) (au (aaI n) (au (wE n) aA))) func104 WM n
def amY:ct xx:=⟨[.d (.st SI.lj),.d (.sl (.st SI.Entry)),.d (.sl .str),.d (.st SI.Expr)],[.d af],λa=>xB n a.1 a.2.1 a.2.2.1 a.2.2.2.1,none⟩
theorem amZ:aJ 63 (amY n):=cq (au (aaI n) (au (WN n) (au (wE n) aA))) func63 .z n
def aaQ:ct xx:=⟨[.d aH],[.fresh iB],λa=>zu a.1,none⟩
theorem K4:aJ 31 aaQ:=cq aA func31 .z 0
def am0:ct xx:=⟨[.d (.sl ax),.d (.sl ax)],[.d .bool],λa=>Xe n a.1 a.2.1,none⟩
theorem am1:aJ 120 (am0 n):=cq (au (yN n) aA) func120 .z n
def akq:ct xx:=⟨[.d (.sl iB)],[.d .bool],λa=>JY n a.1,none⟩
def akr:Hn SI:=(cp (.s (.s .z (.b (.lx ⟨[(11,.v af)],[],[0,9,10],[],1448,[]⟩ 0 ⟨[],[],[],[],1448,[]⟩ (cp (.s (.jx ⟨[],[],[0,9,10,11],[],1512,[]⟩ (.b (.s .z (.s (.s (.j ⟨[(42,.v .bool)],[],[0,3,4,9,10,11],[1704],1896,[]⟩ .z) .z) (cp (.s (.j ⟨[(68,.v .bool)],[],[0,9,10,11],[],2472,[]⟩ .z) .z)))))) .z))))) .z))
theorem aaR:aJ 71 (akq n):=cq (au (lV n) (au (am1 n) aA)) func71 akr n
def Ry:ct xx:=⟨[.d ax,.d af,.d af],[.d (.st SI.nh)],λa=>yL a.1 a.2.1 a.2.2.1,none⟩
theorem Rz:aJ 207 Ry:=cq aA func207 .z 0
def aii:ct xx:=⟨[.d ax,.d (.sl eY),.d af,.d af],[.d af],λa=>LB n a.1 a.2.1 a.2.2.1 a.2.2.2.1,none⟩
def aij:Hn SI:=(jj (.s (.s .z (.b (.l ⟨[(9,.v af),(19,.v af)],[],[10,17,18],[1448],1768,[]⟩ 0 ⟨[(9,.v af)],[],[],[],1768,[]⟩ .z))) .z))
theorem aik:aJ 169 (aii n):=cq (au Rz (au Fb aA)) func169 aij n
def aaS:ct xx:=⟨[.d ax,.d (.sl eY),.d (.sl ax)],[.d af],λa=>zx n a.1 a.2.1 a.2.2.1,none⟩
def aaT:Hn SI:=(cp (.s (.s .z (.b (.l ⟨[(7,.v af),(16,.v af)],[],[1,3,14,15],[1000],1384,[]⟩ 0 ⟨[(7,.v af)],[],[],[],1384,[]⟩ (cp (.s (.b (cp (.b (.l ⟨[(7,.v af),(27,.v af)],[],[1,3,9,14,15,16,25,26],[1000,1576,2024],2216,[]⟩ 2 ⟨[(7,.v af)],[],[1,3,14,15,16],[1000],2216,[]⟩ (cp (.s (.b (cp (.b (.l ⟨[(7,.v af),(38,.v af)],[],[1,3,9,11,14,15,16,25,26,27,36,37],[1000,1576,2024,2792],2984,[]⟩ 4 ⟨[(7,.v af)],[],[1,3,9,14,15,16,25,26,27],[1000,1576,2024],2984,[]⟩ .z)))) .z)))))) .z))))) .z))
theorem aaU:aJ 115 (aaS n):=cq (au (aik n) aA) func115 aaT n
def RA:ct xx:=⟨[.d iB,.ref ax,.ref (.sl eY)],[.d .bool],λa=>tY n a.1 a.2.1 a.2.2.1,none⟩
theorem RB:aJ 114 (RA n):=cq (au (aaU n) aA) func114 .z n
def Ml:ct xx:=⟨[.d (.sl iB),.en [iB] .bool],[.d af],λa=>vJ n a.1 a.2.1,none⟩
def Mq:Hn SI:=(.s .z (.s (.s .z (.b (.lx ⟨[(8,.v af)],[],[0,1,7],[],1256,[]⟩ 0 ⟨[],[],[],[],1256,[]⟩ .z))) .z))
theorem Mr:aJ 121 (Ml n):=cq aA func121 Mq n
def GZ:ct xx:=⟨[.d (.sl iB),.en [iB] .bool],[.d .bool],λa=>jI n a.1 a.2.1,none⟩
theorem vW:aJ 72 (GZ n):=cq (au (Mr n) aA) func72 .z n
def aaV:ct xx:=⟨[.d ax,.d (.sl eY),.d (.sl iB)],[.d .bool],λa=>zy n a.1 a.2.1 a.2.2.1,none⟩
def aaW:Hn SI:=(.s .z (.s (.s (.j ⟨[(15,.v .bool)],[],[2,3,4],[1000,1064],1192,[]⟩ .z) .z) .z))
theorem aaX:aJ 66 (aaV n):=cq (au (M7 n) (au (aaR n) (au (vW n) (au (RB n) aA)))) func66 aaW n
def D9:ct xx:=⟨[.d aH,.ref ax,.ref aU],[.d .bool],λa=>kR n a.1 a.2.1 a.2.2.1,none⟩
theorem Ea:aJ 65 (D9 n):=cq (au K4 (au (aaX n) aA)) func65 .z n
def OD:ct xx:=⟨[.d (.st SI.k9),.en [aH] .bool],[.d .bool],λa=>iH n a.1 a.2.1,none⟩
theorem Bl:aJ 28 (OD n):=cq (au (tC n) aA) func28 .z n
def Eb:ct xx:=⟨[.d aH,.ref aU],[.d .bool],λa=>kS a.1 a.2.1,none⟩
theorem Ec:aJ 67 Eb:=cq aA func67 .z 0
def apc:ct xx:=⟨[.d ax,.d ax],[.d af,.d af],λa=>aoi a.1 a.2.1,none⟩
theorem apd:aJ 171 apc:=cq aA func171 .z 0
def aqu:ct xx:=⟨[.d ax,.d ax],[.d af],λa=>RE a.1 a.2.1,none⟩
def aqv:Hn SI:=(.s .z (.s (.s (.j ⟨[(14,.v .bool)],[],[2,3],[1000,1064],1192,[]⟩ .z) .z) .z))
theorem aqw:aJ 118 aqu:=cq (au rU (au apd aA)) func118 aqv 0
def FE:ct xx:=⟨[.d (.st SI.iv),.ref (.st SI.k9),.ref aH,.ref aU],[.d .bool],λa=>eO a.1 a.2.1 a.2.2.1 a.2.2.2.1,none⟩
def FH:Hn SI:=(cp (.s (.s (.j ⟨[(32,.v .bool)],[],[2,3,6],[1256],1384,[]⟩ .z) .z) (.s (.j ⟨[(7,.v .bool)],[],[2,3,6],[1256],1384,[]⟩ .z) .z)))
theorem FI:aJ 117 FE:=cq (au rU (au aqw aA)) func117 FH 0
def I6:ct xx:=⟨[.d (.sl (.st SI.iv)),.en [.st SI.iv] .bool],[.d af],λa=>sJ n a.1 a.2.1,none⟩
def I7:Hn SI:=(.s .z (.s (.s .z (.b (.lx ⟨[(8,.v af)],[],[0,1,7],[],1256,[]⟩ 0 ⟨[],[],[],[],1256,[]⟩ .z))) .z))
theorem I8:aJ 170 (I6 n):=cq aA func170 I7 n
def Ed:ct xx:=⟨[.d (.sl (.st SI.iv)),.en [.st SI.iv] .bool],[.d .bool],λa=>kT n a.1 a.2.1,none⟩
theorem Ee:aJ 116 (Ed n):=cq (au (I8 n) aA) func116 .z n
def K5:ct xx:=⟨[.d (.st SI.k9),.d aU,.d aH],[.d .bool],λa=>uj n a.1 a.2.1 a.2.2.1,none⟩
theorem K6:aJ 69 (K5 n):=cq (au (Ee n) (au FI aA)) func69 .z n
def Ef:ct xx:=⟨[.d aH,.ref (.st SI.k9),.ref aU],[.d .bool],λa=>kU n a.1 a.2.1 a.2.2.1,none⟩
theorem Eg:aJ 68 (Ef n):=cq (au (K6 n) aA) func68 .z n
def I9:ct xx:=⟨[.d (.st SI.k9),.d aU],[.d .bool],λa=>oq n a.1 a.2.1,none⟩
theorem Ja:aJ 27 (I9 n):=cq (au (afc n) (au (amZ n) (au (Vw n) (au (Bl n) (au (Ea n) (au Ec (au (Eg n) aA))))))) func27 .z n
def WO:ct xx:=⟨[.d ax,.ref ax],[.d .bool],λa=>xC a.1 a.2.1,none⟩
theorem WQ:aJ 124 WO:=cq aA func124 .z 0
def Ms:ct xx:=⟨[.d (.sl ax),.en [ax] .bool],[.d af],λa=>vK n a.1 a.2.1,none⟩
def Mt:Hn SI:=(.s .z (.s (.s .z (.b (.lx ⟨[(8,.v af)],[],[0,1,7],[],1256,[]⟩ 0 ⟨[],[],[],[],1256,[]⟩ .z))) .z))
theorem Mv:aJ 172 (Ms n):=cq aA func172 Mt n
def G5:ct xx:=⟨[.d (.sl ax),.en [ax] .bool],[.d .bool],λa=>jJ n a.1 a.2.1,none⟩
theorem vX:aJ 122 (G5 n):=cq (au (Mv n) aA) func122 .z n
def afe:ct xx:=⟨[.d ax,.ref (.sl ax)],[.d .bool],λa=>Gs n a.1 a.2.1,none⟩
theorem aff:aJ 123 (afe n):=cq (au (vX n) (au WQ aA)) func123 .z n
def am2:ct xx:=⟨[.d (.sl ax),.d (.sl ax)],[.d .bool],λa=>Xf n a.1 a.2.1,none⟩
theorem am3:aJ 74 (am2 n):=cq (au (vX n) (au (aff n) aA)) func74 .z n
def WR:ct xx:=⟨[.d iB,.ref (.st SI.ee)],[.d .bool],λa=>sZ n a.1 a.2.1,none⟩
theorem WS:aJ 73 (WR n):=cq (au (am3 n) aA) func73 .z n
def afg:ct xx:=⟨[.d (.sl (.st SI.ee)),.d af,.d (.sl iB)],[.d .bool],λa=>Gt n a.1 a.2.1 a.2.2.1,none⟩
def afh:Hn SI:=(cp (.s (.s .z (.b (.lx ⟨[(14,.v af)],[],[1,2,12,13],[],1448,[]⟩ 0 ⟨[],[],[],[],1448,[]⟩ (cp (.s (.jx ⟨[],[],[1,2,12,13,14],[],1512,[]⟩ (.b (.s .z (.s (.s (.j ⟨[(27,.v .bool)],[],[1,2,8,12,13,14],[1640],1768,[]⟩ .z) .z) .z)))) .z))))) .z))
theorem afi:aJ 30 (afg n):=cq (au (aaR n) (au (lV n) (au (vW n) (au (WS n) aA)))) func30 afh n
def OE:ct xx:=⟨[.d aH,.ref (.st SI.kA),.ref (.st SI.fc)],[.d .bool],λa=>oO n a.1 a.2.1 a.2.2.1,none⟩
theorem OG:aJ 29 (OE n):=cq (au K4 (au (afi n) aA)) func29 .z n
def Jb:dg xx:=⟨[.v .str,.v .bool,.p 0],[(0,q7),(1,.l .str)],[],[(0,.c 1 [[.o 1000]]),(1000,.l .str)],λv=>kr n v.1 v.2.1 v.2.2⟩
def Jc:ct xx:=tzG (Jb n)
def Jd:Hn SI:=(.s (.j ⟨[(11,.v .bool)],[],[0,2],[0,1],1000,[]⟩ .z) .z)
theorem Je:aJ 24 (Jc n):=oE (au (qZ n) aA) func24 Jd n
def WT:ct xx:=⟨[.d (.st SI.kA),.d (.st SI.fc),.d af],[.fresh .str,.d af],λa=>xE n a.1 a.2.1 a.2.2.1,none⟩
def WU:Hn SI:=(SR (.s (.s .z (.b (.l ⟨[(31,.v af)],[(1960,.c 1 [[.o 2664]]),(2664,.l .str)],[3,4,8,10,11,29,30],[1000,1064,1640,2472],2665,[(9028160,.str)]⟩ 0 ⟨[],[(1960,.c 1 [[.o 2664]]),(2664,.l .str)],[3,4,8,10,11],[1000,1064,1640],2665,[]⟩ .z))) .z))
theorem WV:aJ 9 (WT n):=cq (au (abV n) (au (KF n) (au (Ja n) (au (Je n) (au (Bl n) (au (OG n) aA)))))) func9 WU n
def ab2:ct xx:=⟨[.d .bool,.d .bool],[.d .bool],λa=>Cq a.1 a.2.1,none⟩
theorem ab3:aJ 84 ab2:=cq aA func84 .z 0
def aks:ct xx:=⟨[.d (.sl ax),.d (.sl ax)],[.d (.sl ax),.d af],λa=>Qk n a.1 a.2.1,none⟩
theorem akt:aJ 39 (aks n):=cq (au (Rk n) (au ab3 aA)) func39 .z n
def afj:ct xx:=⟨[.d ax,.d (.sl ax)],[.d .bool,.d .bool],λa=>NG n a.1 a.2.1,none⟩
theorem afk:aJ 11 (afj n):=cq (au (akt n) aA) func11 .z n
def Mw:ct xx:=⟨[.d (.st SI.kA),.d af,.d af,.d af,.d ax],[.d .bool],λ(qa,qb,qc,qd,qe,_)=>qG n qa qb qc qd qe,none⟩
def Mx:Hn SI:=(cp (.s (.s (.j ⟨[(33,.v .bool)],[],[1,2,3,5,9,11],[1000,1064],1320,[]⟩ .z) .z) (SP (.s (.s (.j ⟨[(87,.v .bool)],[],[3,9,11,16,17,18],[1064,3624,4200],4584,[]⟩ .z) .z) .z))))
theorem MB:aJ 3 (Mw n):=cq (au (ah2 n) (au (amV n) (au (aj9 n) (au (LG n) (au (Fe n) (au (WV n) (au (Hw n) (au (afk n) aA)))))))) func3 Mx n
end
end Go.Proofs
