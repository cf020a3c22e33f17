import Derived.Test.YthblhgapkimgcaaGreatTC1
namespace Go.Proofs
open Go.Gb Go.RowKit
open Tryz
noncomputable section
variable (n:Nat)
theorem X8:aJ 77 (ahp n) :=cq (au (afb n) aB) func77 .z n
def OV:bz xx:=⟨[],[.fresh .str],λ_=>wW,none⟩
theorem OW:aJ 166 OV :=cq aB func166 .z 0
mutual
theorem anP:∀g:cu,(toE g).wt<=4000000->pS (toE g) (qV g)
 |⟨op,n,s,key,args⟩,h=>by
  simp only[toE,ET.wt]at h;have:=ET.qS (Ic args);simp only[toE,qV,pS];exact⟨n,key,_,rfl,by unfold maxLen;omega,by omega,X9 args (by omega)⟩
theorem X9:∀l:List cu,ET.te (Ic l)<=4000000->kx (Ic l) (tu l)
 |[],_=>by simp only[Ic,tu,kx]
 |x::xs,h=>by
  simp only[Ic,ET.te]at h;simp only[Ic,tu,kx];exact⟨_,_,rfl,anP x (by omega),X9 xs (by omega)⟩
end
def OX:bz xx:=⟨[],[.d .bool],λ_=>none,some ⟨[.v (.sl bC)],[],[.p 1000],[(1000,ry)],λv=>kU v⟩⟩
theorem afc:∀l:List fA,ri (l.map toD)<=4000000->ky (l.map toD) (l.map Eh)
 |[],_=>by simp only[List.map_nil,ky]
 |x::xs,h=>by
  simp only[aF,ri,List.foldr_cons,toD,ET.wt]at h;have:=ET.qS (Ic x.eo);simp only[aF,ky];refine⟨_,_,rfl,⟨_,_,_,_,_,rfl,by simp only[toD];unfold maxLen;omega,?_⟩,afc xs (by simp only[ri];omega)⟩;simp only[toD,pS];exact⟨_,_,_,rfl,by unfold maxLen;omega,by omega,by rw[<- tC];exact X9 _ (by omega)⟩
theorem OY:aJ 167 OX:=by
 have hcall:eO Tryz.prog 167:=⟨_,func167,by kernel_rfl,by kernel_rfl⟩;refine L4 hcall ?_;intro v r hr;have h':kU v=some r:=hr;unfold kU at h';cases hb:Nat.ble (ri (List.map toD v)) 4000000 with
 |false=>rw[hb]at h';cases h'
 |true=>
  rw[hb]at h';have h'':some (v,oH (List.map toD v))=some r:=h';injection h'' with e;subst e;have hw:=Nat.le_of_ble_eq_true hb;have hlen:=Ux (List.map toD v);have hn:∀d∈List.map toD v,d.2.names.length<=4000000:=λd hd=>by have h1:=Uy hd;have h2:=ET.oT d.2;omega
  exact abE (TL:=55) (TG:=295) (TI:=3) hcall (afc v hw) λsv w hS=>am1 (List.map toD v) (by omega) (λ d hd=>Nat.le_trans (hn d hd) (by omega))
   (λ d hd v0 v1 v2 v3 v4 w hE=>callsIn_wide.1 (alf 0 d.2 v0 v1 v2 v3 v4 w hE (Nat.le_trans (hn d hd) (by omega)))) sv w hS
def TQ:bz xx:=⟨[.d (.sl ah),.d ah],[.fresh ah],λa=>qH a.1 a.2.1,none⟩
theorem TS:aJ 276 TQ:=by
 have hcall:eO Tryz.prog 276:=⟨_,func276,by kernel_rfl,by kernel_rfl⟩;refine zj hcall (λ a r h=>?_) rfl;obtain⟨l,c,⟨⟩⟩:=a;have h':qH l c=some r:=h
 match l,h' with
 |[x],h'=>
  simp only[qH]at h';cases hb:(decide (0<=c)&&decide (c<=1000000000000))with
  |false=>rw[hb]at h';cases h'
  |true=>
   rw[hb]at h';have h'':some (List.replicate c.toNat x)=some r:=h';injection h'' with e;subst e;simp only[aK,aS]at hb;obtain⟨h1,h2⟩:=hb;obtain⟨k,hk⟩:=Int.eq_ofNat_of_zero_le h1;subst hk;exact agk (E:=3) (c:=k) hcall λa cap w hx=>ajr x k (Int.ofNat_le.1 (by simpa using h2)) a cap w hx
def Ya:bz xx:=⟨[.d (.sl ah),.d ah],[.d ah],λa=>Et n a.1 a.2.1,none⟩
def Yb:Hn SI:=(.s .z (.s (.s .z (.b (.lx ⟨[(8,.v ah)],[],[0,1,7],[],1256,[]⟩ 0 ⟨[],[],[],[],1256,[]⟩ .z))) .z))
theorem Yc:aJ 289 (Ya n) :=cq aB func289 Yb n
def OZ:bz xx:=⟨[.d (.sl ah),.d ah],[.d .bool],λa=>q9 n a.1 a.2.1,none⟩
theorem O1:aJ 277 (OZ n) :=cq (au (Yc n) aB) func277 .z n
def BH:bz xx:=⟨[.ref (.st SI.graph),.d ah],[.fresh ah],λa=>jK n a.1 a.2.1,none⟩
def BJ:Hn SI:=(uu (.s (.b (.l ⟨[(6,.od 2024)],[(1448,.l ah),(2024,.l ah)],[0,5],[],2025,[]⟩ 0 ⟨[],[(1448,.l ah)],[5],[],2024,[]⟩ (.s .z (.b (gj (.b (.l ⟨[(6,.od 3049),(35,.v ah)],[(1448,.l ah),(3049,.l ah)],[0,5,7,33,34],[],3050,[]⟩ 2 ⟨[(6,.od 3049)],[(1448,.l ah),(3049,.l ah)],[0,5],[],3050,[]⟩ (cg (.s (.j ⟨[(6,.od 3114)],[(1448,.l ah),(3114,.l ah)],[0,5,7,33,34,35],[],3115,[]⟩ (.b (.s .z (.s (.j ⟨[(49,.v .bool)],[],[0,5,6,7,8,33,34,35],[1448,3049],3434,[]⟩ .z) .z)))) .z))))))))) .z))
theorem BK:aJ 249 (BH n) :=cq (au TS (au (O1 n) aB)) func249 BJ n
def LG:bz xx:=⟨[.d .str],[.d .bool],λa=>cmp_isNaN_string a.1,none⟩
theorem LJ:aJ 278 LG :=cq aB func278 .z 0
def I5:bz xx:=⟨[.d .str,.d .str],[.d ah],λa=>nJ a.1 a.2.1,none⟩
theorem I6:aJ 250 I5 :=cq (au LJ aB) func250 .z 0
def J3:bz xx:=⟨[.d (.sl .str),.d (.sl .str)],[.d ah],λa=>lT n a.1 a.2.1,none⟩
def J4:Hn SI:=(.s .z (.s (.s .z (.b (.lx ⟨[(11,.v ah)],[],[0,1,9,10],[],1256,[]⟩ 0 ⟨[],[],[0,1],[],1256,[]⟩ .z))) .z))
theorem J5:aJ 211 (J3 n) :=cq (au I6 aB) func211 J4 n
def zo:cX xx:=⟨[.v ah,.p 0],[(0,qr),(1,.l .bool)],[.v .bool],[(0,qr),(1,.l .bool)],λv=>l9 v.1 v.2⟩
def zq:bz xx:=⟨[],[.d .bool],λ_=>none,some (zo)⟩
theorem zu:aJ 213 zq :=ov aB func213 .z 0 (by kernel_rfl) λ_=>by kernel_rfl
def Gm:cX xx:=⟨[.v (.sl ah),(.f 213 [] [.p 0])],[(0,qr),(1,.l .bool)],[.v ah],[(0,qr),(1,.l .bool)],λv=>mI n v.1 v.2⟩
def Gn:bz xx:=⟨[],[.d .bool],λ_=>none,some (Gm n)⟩
def Gp:Hn SI:=(.s .z (.s (.s .z (.b (.lx ⟨[(8,.v ah)],[(0,qr),(1,.l .bool)],[0,1,7],[],1256,[]⟩ 0 ⟨[],[(0,qr),(1,.l .bool)],[],[],1256,[]⟩ .z))) .z))
theorem Gq:aJ 251 (Gn n) :=ov (au zu aB) func251 Gp n (by kernel_rfl) λ_=>by kernel_rfl
def BL:cX xx:=⟨[.v (.sl ah),(.f 213 [] [.p 0])],[(0,qr),(1,.l .bool)],[.v .bool],[(0,qr),(1,.l .bool)],λv=>iq n v.1 v.2⟩
def BN:bz xx:=⟨[],[.d .bool],λ_=>none,some (BL n)⟩
theorem BP:aJ 212 (BN n) :=ov (au (Gq n) aB) func212 .z n (by kernel_rfl) λ_=>by kernel_rfl
def I7:bz xx:=⟨[.ref (.st SI.graph)],[.fresh ah],λa=>nK n a.1,none⟩
def I8:Hn SI:=(gj (.s (.s .z (.b (.l ⟨[(4,.o 2024),(20,.v ah)],[(1448,wj),(2024,.l ah),(1384,.l .bool)],[0,3,19],[],2025,[(4,ah)]⟩ 0 ⟨[(4,.o 2024)],[(2024,.l ah)],[],[],2025,[]⟩ (cg (.s (.b (.s .z (.s (.s .z (.b (.l ⟨[(5,.v ah),(27,.v ah)],[(1448,wj),(1384,.l .bool)],[0,3,4,19,20,25,26],[2024],2537,[]⟩ 2 ⟨[(5,.v ah)],[(1448,wj),(1384,.l .bool)],[0,3,4,19,20],[2024],2537,[]⟩ (cg (.s (.j ⟨[(5,.v ah)],[(1448,wj),(1384,.l .bool)],[0,3,4,19,20,25,26,27],[2024],2601,[]⟩ (.b (cg (.s (.j ⟨[(66,.v .bool)],[],[0,3,4,5,6,19,20,25,26,27],[1384,1448,2024],3177,[]⟩ .z) .z)))) .z))))) .z))) .z))))) .z))
theorem I9:aJ 169 (I7 n) :=cq (au (BP n) aB) func169 I8 n
def BQ:cX xx:=⟨[.p 0,.v ah],[(0,ry)],[.oz 1000],[(0,ry),(1000,.l .str)],λv=>jM n v.1 v.2.1 v.2.2⟩
def BR:bz xx:=⟨[],[.d .bool],λ_=>none,some (BQ n)⟩
def BU:Hn SI:=(uu (.b (.lx ⟨[(6,.o 1512),(7,.v ah)],[(1512,.l .str)],[0,1,5],[0,1192],1513,[(6,.str)]⟩ 999999 ⟨[],[],[],[],1512,[]⟩ (.b (cg (.s (.s .z (.b (.l ⟨[(8,.v ah),(34,.v ah)],[],[0,1,5,6,32,33],[0,1192,2153],2921,[]⟩ 2 ⟨[(8,.v ah)],[],[0,1,5,6],[0,1192,2153],2921,[]⟩ (cg (.s (.j ⟨[(8,.v ah)],[],[0,1,5,6,32,33,34],[0,1192,2153],2985,[]⟩ (.b (.s .z (.s (.j ⟨[(57,.v .bool)],[],[0,1,5,6,8,10,32,33,34],[0,1192,2153],3177,[]⟩ .z) .z)))) .z))))) .z))))))
theorem BV:aJ 210 (BR n) :=ov (au (BK n) aB) func210 BU n (by kernel_rfl) λ_=>by kernel_rfl
def zw:cX xx:=⟨[.p 0],[(0,ry)],[.oz 1000],[(0,ry),(1000,.l .str)],λv=>iW n v.1 v.2⟩
def zx:bz xx:=⟨[],[.d .bool],λ_=>none,some (zw n)⟩
def zy:Hn SI:=(cg (.s (.s .z (.b (.l ⟨[(3,.oz 1512),(11,.v ah)],[(0,ry),(1512,.l .str)],[0,10],[],1513,[(1099511627779,.str)]⟩ 0 ⟨[(3,.oz 1512)],[(0,ry),(1512,.l .str)],[],[],1513,[]⟩ (cg (.s (.j ⟨[(3,.oz 1577)],[(0,ry),(1577,.l .str)],[0,10,11],[],1578,[]⟩ (.b (cg (.s (.s (.j ⟨[(18,.v .bool)],[],[0,3,5,10,11],[0,1512,1833],1961,[]⟩ .z) .z) (.s (.j ⟨[(40,.v .bool)],[],[0,3,5,10,11],[0,1512,1833],1961,[]⟩ .z) .z))))) .z))))) .z))
theorem zA:aJ 168 (zx n) :=ov (au (BV n) (au (J5 n) aB)) func168 zy n (by kernel_rfl) λ_=>by kernel_rfl
def Yd:bz xx:=⟨[.d dG],[.fresh ah,.d (.sl .str),.d ah],λa=>nL n a.1,none⟩
def Ye:Hn SI:=(cg (.s (.s .z (.b (.l ⟨[(15,.v ah)],[(1256,.m .str .bool)],[1,5,13,14],[1000,1384],1576,[]⟩ 0 ⟨[],[(1256,.m .str .bool)],[1,5],[1000],1576,[]⟩ .z))) (.s (.s .z (.b (.lx ⟨[(25,.v ah)],[(1256,.m .str .bool)],[1,5,23,24],[1000],1832,[]⟩ 2 ⟨[],[],[1],[1000],1832,[]⟩ .z))) (.s .z (.s (.s .z (.s (.j ⟨[(43,.v .bool)],[],[10,11],[1960,2152],2280,[]⟩ .z) .z)) .z)))))
theorem Yf:aJ 125 (Yd n) :=cq (au OW (au OY (au (zA n) (au (I9 n) aB)))) func125 Ye n
def J6:bz xx:=⟨[.d aZ,.ref (.st SI.Expr)],[.d .bool],λa=>Aj a.1 a.2.1,none⟩
theorem J7:aJ 171 J6 :=cq aB func171 .z 0
def Ja:bz xx:=⟨[.d (.sl aZ),.d7 [aZ] .bool],[.d ah],λa=>rO n a.1 a.2.1,none⟩
def Jb:Hn SI:=(.s .z (.s (.s .z (.b (.lx ⟨[(8,.v ah)],[],[0,1,7],[],1256,[]⟩ 0 ⟨[],[],[],[],1256,[]⟩ .z))) .z))
theorem Jc:aJ 170 (Ja n) :=cq aB func170 Jb n
def J8:bz xx:=⟨[.d (.st SI.Entry),.ref (.st SI.Expr)],[.d .bool],λa=>Ak a.1 a.2.1,none⟩
theorem J9:aJ 173 J8 :=cq aB func173 .z 0
def amj:bz xx:=⟨[.d .bool],[.d ah],λa=>yV a.1,none⟩
theorem afd:aJ 127 amj :=cq aB func127 .z 0
def Zh:bz xx:=⟨[.d ah,.d ah],[.d ah],λa=>wK a.1 a.2.1,none⟩
def Zi:Hn SI:=(gj (.s (.j ⟨[(5,.v ah)],[],[],[],1448,[]⟩ (.s .z (.s (.j ⟨[(23,.v .bool)],[],[5],[],1704,[]⟩ .z) .z))) .z))
theorem Zj:aJ 174 Zh :=cq aB func174 Zi 0
def afe:bz xx:=⟨[.d ah,.d ah,.d ah],[.d ah],λa=>JE a.1 a.2.1 a.2.2.1,none⟩
theorem aff:aJ 128 afe :=cq (au Zj (au afd aB)) func128 .z 0
def Ka:cX xx:=⟨[(.a [.v (.sl bC),.v (.sl aZ),.v (.sl bE),.v (.sl bg),.v (.sl bK),.v (.sl bH),.v (.sl aV),.v ah,.mp 0,.v (.sl .str)]),.v (.st SI.Expr)],[(0,.m .str ah)],[.v ah],[(0,.m .str ah)],λv=>jm n v.1 v.2.1 v.2.2.1 v.2.2.2.1 v.2.2.2.2.1 v.2.2.2.2.2.1 v.2.2.2.2.2.2.1 v.2.2.2.2.2.2.2.1 v.2.2.2.2.2.2.2.2.1 v.2.2.2.2.2.2.2.2.2.1 v.2.2.2.2.2.2.2.2.2.2⟩
def Kb:bz xx:=⟨[],[.d .bool],λ_=>none,some (Ka n)⟩
theorem Kc:aJ 126 (Kb n) :=ov (au (Jc n) (au J7 (au (wR n) (au J9 aB)))) func126 .z n (by kernel_rfl) λ_=>by kernel_rfl
def Gr:Hn SI:=(cg (.s (.s .z (.b (.l ⟨[(5,.o 1512),(11,.v ah)],[(0,.m .str ah),(1512,.l ah)],[2,3,9,10],[1000,1064],1513,[(5,ah)]⟩ 0 ⟨[(5,.o 1512)],[(0,.m .str ah),(1512,.l ah)],[2,3],[1000,1064],1513,[]⟩ (cg (.s (.j ⟨[(5,.o 1577)],[(0,.m .str ah),(1577,.l ah)],[2,3,9,10,11],[1000,1064],1578,[]⟩ (.b (.s .z (.s (.s (.j ⟨[(31,.v .bool)],[],[2,3,5,7,9,10,11],[0,1000,1064,1512,1769],1961,[]⟩ .z) .z) .z)))) .z))))) .z))
theorem E8(rc:((List fA))->((List cB))->((List dO))->((List bJ))->((List fV))->((List eU))->((List bV))->(Int)->((List ByteArray))->(cu)->((List (ByteArray×Int)))->Option (Int×(List (ByteArray×Int))))(hr:aJ 79 (jN rc)):aJ 79 (jN (fE n rc)) :=ov (au hr (au (Kc n) (au (pu n) (au afd (au aff aB))))) func79 Gr n (by kernel_rfl) λ_=>by kernel_rfl
theorem uH(n:Nat):∀m,aJ 79 (jN (cK n m))
 | 0=>L4 (mX func79 (by kernel_rfl:Tryz.f79.body=some (Tryz.f79.body.getD .skip)) (by kernel_rfl)) (λ _ _ h=>(by cases h))
 |m+1=>E8 n _ (uH n m)
def Gs:bz xx:=jN (cK n n)
theorem uQ:aJ 79 (Gs n):=uH n n
def TU:cX xx:=⟨[.v dG,(.v (.sl (.st SI.Entry))),.v (.sl .str)],[],[(.a [.v (.sl bC),.v (.sl aZ),.v (.sl bE),.v (.sl bg),.v (.sl bK),.v (.sl bH),.v (.sl aV),.v ah,.mp 1000,.v (.sl .str)]),.o 1001],[(1000,.m .str ah),(1001,.l ah)],λv=>mh n v.1 v.2.1 v.2.2⟩
def TW:bz xx:=⟨[],[.d .bool],λ_=>none,some (TU n)⟩
def TY:Hn SI:=(gj (.s (.s .z (.b (.l ⟨[(26,.v ah)],[(1256,.m .str ah),(1576,.m .str .bool)],[3,6,8,9,24,25],[1000,1064,1448],1896,[]⟩ 0 ⟨[],[(1256,.m .str ah),(1576,.m .str .bool)],[3,6,8,9],[1000,1064,1448],1896,[]⟩ (cg (.s (.j ⟨[],[(1256,.m .str ah),(1576,.m .str .bool)],[3,6,8,9,24,25,26],[1000,1064,1448],1960,[]⟩ .z) .z))))) (gj (.s (.s .z (.b (.l ⟨[(61,.v ah)],[(1256,.m .str ah),(2088,.l ah)],[3,6,8,9,12,59,60],[1000,1064,1448,1576,2280],3112,[]⟩ 2 ⟨[],[(1256,.m .str ah),(2088,.l ah)],[6,8,12],[1064,1448],3112,[]⟩ (cg (.s (.j ⟨[],[(1256,.m .str ah),(2088,.l ah)],[3,6,8,9,12,59,60,61],[1000,1064,1448,1576,2280],3176,[]⟩ (.b (cg (.s (.j ⟨[],[(1256,.m .str ah),(2088,.l ah)],[3,6,8,9,12,17,18,59,60,61],[1000,1064,1448,1576,2280,3688],3816,[]⟩ .z) .z)))) .z))))) .z))))
theorem T9:aJ 78 (TW n) :=ov (au (Yf n) (au (X8 n) (au (uQ n) aB))) func78 TY n (by kernel_rfl) λ_=>by kernel_rfl
def aj7:bz xx:=⟨[.d dG,.d (.sl (.st SI.Entry)),.d (.sl .str),.d (.st SI.Expr)],[.d ah],λa=>vL n a.1 a.2.1 a.2.2.1 a.2.2.2.1,none⟩
theorem aj8:aJ 46 (aj7 n) :=cq (au (X8 n) (au (T9 n) (au (uQ n) aB))) func46 .z n
def Yg:bz xx:=⟨[.d aG],[.fresh (.st SI.k7)],λa=>xS a.1,none⟩
theorem Jd:aJ 27 Yg :=cq aB func27 .z 0
def Je:bz xx:=⟨[.d (.sl (.st SI.gh)),.d7 [.st SI.gh] .bool],[.d ah],λa=>rP n a.1 a.2.1,none⟩
def Jf:Hn SI:=(.s .z (.s (.s .z (.b (.lx ⟨[(8,.v ah)],[],[0,1,7],[],1256,[]⟩ 0 ⟨[],[],[],[],1256,[]⟩ .z))) .z))
theorem Jg:aJ 179 (Je n) :=cq aB func179 Jf n
def Dq:bz xx:=⟨[.d (.sl (.st SI.gh)),.d7 [.st SI.gh] .bool],[.d .bool],λa=>kJ n a.1 a.2.1,none⟩
theorem Dr:aJ 141 (Dq n) :=cq (au (Jg n) aB) func141 .z n
def Yh:bz xx:=⟨[.d ah,.d ah,.d ah],[.d .bool],λa=>nM a.1 a.2.1 a.2.2.1,none⟩
theorem Yi:aJ 180 Yh :=cq aB func180 .z 0
def Zk:bz xx:=⟨[.d (.st SI.gh)],[.d .bool],λa=>Al a.1,none⟩
theorem Zl:aJ 143 Zk :=cq (au Yi aB) func143 .z 0
def QW:bz xx:=⟨[.d (.st SI.gh)],[.d .bool],λa=>tX a.1,none⟩
theorem QX:aJ 142 QW :=cq (au Zl aB) func142 .z 0
def Zm:bz xx:=⟨[.d ay,.d (.sl (.st SI.gh))],[.d .bool],λa=>Am n a.1 a.2.1,none⟩
theorem Zn:aJ 90 (Zm n) :=cq (au oG (au (Dr n) (au QX aB))) func90 .z n
def aj9:bz xx:=⟨[.d (.sl ay),.d (.sl ay)],[.d .bool],λa=>Uz n a.1 a.2.1,none⟩
theorem akb:aJ 97 (aj9 n) :=cq (au (Fw n) aB) func97 .z n
def ahq:bz xx:=⟨[.d (.sl (.st SI.k7))],[.d .bool],λa=>Ie n a.1,none⟩
def ahr:Hn SI:=(cg (.s (.s .z (.b (.lx ⟨[(11,.v ah)],[],[0,9,10],[],1448,[]⟩ 0 ⟨[],[],[],[],1448,[]⟩ (cg (.s (.jx ⟨[],[],[0,9,10,11],[],1512,[]⟩ (.b (.s .z (.s (.s (.j ⟨[(42,.v .bool)],[],[0,3,4,9,10,11],[1704],1896,[]⟩ .z) .z) (cg (.s (.j ⟨[(68,.v .bool)],[],[0,9,10,11],[],2472,[]⟩ .z) .z)))))) .z))))) .z))
theorem Yj:aJ 54 (ahq n) :=cq (au (pq n) (au (akb n) aB)) func54 ahr n
def O3:bz xx:=⟨[.d ay,.d ah,.d ah],[.d (.st SI.m5)],λa=>wX a.1 a.2.1 a.2.2.1,none⟩
theorem O4:aJ 181 O3 :=cq aB func181 .z 0
def QY:bz xx:=⟨[.d ah,.d ah],[.d ah],λa=>tY a.1 a.2.1,none⟩
def QZ:Hn SI:=(cg (.s (.j ⟨[(5,.v ah)],[],[],[],1320,[]⟩ .z) .z))
theorem Q0:aJ 182 QY :=cq aB func182 QZ 0
def afg:bz xx:=⟨[.d ay,.d (.sl (.st SI.gh)),.d ah,.d ah],[.d ah],λa=>JF n a.1 a.2.1 a.2.2.1 a.2.2.2.1,none⟩
def afh:Hn SI:=(gj (.s (.s .z (.b (.l ⟨[(9,.v ah),(19,.v ah)],[],[10,17,18],[1448],1768,[]⟩ 0 ⟨[(9,.v ah)],[],[],[],1768,[]⟩ .z))) .z))
theorem afi:aJ 144 (afg n) :=cq (au O4 (au Q0 aB)) func144 afh n
def Yk:bz xx:=⟨[.d ay,.d (.sl (.st SI.gh)),.d (.sl ay)],[.d ah],λa=>xV n a.1 a.2.1 a.2.2.1,none⟩
def Yl:Hn SI:=(cg (.s (.s .z (.b (.l ⟨[(7,.v ah),(16,.v ah)],[],[1,3,14,15],[1000],1384,[]⟩ 0 ⟨[(7,.v ah)],[],[],[],1384,[]⟩ (cg (.s (.b (cg (.b (.l ⟨[(7,.v ah),(27,.v ah)],[],[1,3,9,14,15,16,25,26],[1000,1576,2024],2216,[]⟩ 2 ⟨[(7,.v ah)],[],[1,3,14,15,16],[1000],2216,[]⟩ (cg (.s (.b (cg (.b (.l ⟨[(7,.v ah),(38,.v ah)],[],[1,3,9,11,14,15,16,25,26,27,36,37],[1000,1576,2024,2792],2984,[]⟩ 4 ⟨[(7,.v ah)],[],[1,3,9,14,15,16,25,26,27],[1000,1576,2024],2984,[]⟩ .z)))) .z)))))) .z))))) .z))
theorem Ym:aJ 92 (Yk n) :=cq (au (afi n) aB) func92 Yl n
def O5:bz xx:=⟨[.d (.st SI.k7),.ref ay,.ref (.sl (.st SI.gh))],[.d .bool],λa=>rq n a.1 a.2.1 a.2.2.1,none⟩
theorem O6:aJ 91 (O5 n) :=cq (au (Ym n) aB) func91 .z n
def Ke:bz xx:=⟨[.d (.sl (.st SI.k7)),.d7 [.st SI.k7] .bool],[.d ah],λa=>tZ n a.1 a.2.1,none⟩
def Kg:Hn SI:=(.s .z (.s (.s .z (.b (.lx ⟨[(8,.v ah)],[],[0,1,7],[],1256,[]⟩ 0 ⟨[],[],[],[],1256,[]⟩ .z))) .z))
theorem Kh:aJ 100 (Ke n) :=cq aB func100 Kg n
def E9:bz xx:=⟨[.d (.sl (.st SI.k7)),.d7 [.st SI.k7] .bool],[.d .bool],λa=>jb n a.1 a.2.1,none⟩
theorem uI:aJ 56 (E9 n) :=cq (au (Kh n) aB) func56 .z n
def Yn:bz xx:=⟨[.d ay,.d (.sl (.st SI.gh)),.d (.sl (.st SI.k7))],[.d .bool],λa=>xW n a.1 a.2.1 a.2.2.1,none⟩
def Yo:Hn SI:=(.s .z (.s (.s (.j ⟨[(15,.v .bool)],[],[2,3,4],[1000,1064],1192,[]⟩ .z) .z) .z))
theorem Yp:aJ 49 (Yn n) :=cq (au (Zn n) (au (Yj n) (au (uI n) (au (O6 n) aB)))) func49 Yo n
def BX:bz xx:=⟨[.d aG,.ref ay,.ref bg],[.d .bool],λa=>jO n a.1 a.2.1 a.2.2.1,none⟩
theorem BZ:aJ 48 (BX n) :=cq (au Jd (au (Yp n) aB)) func48 .z n
def LK:bz xx:=⟨[.d (.st SI.ke),.d7 [aG] .bool],[.d .bool],λa=>gK n a.1 a.2.1,none⟩
theorem zB:aJ 24 (LK n) :=cq (au (qQ n) aB) func24 .z n
def Ca:bz xx:=⟨[.d aG,.ref bg],[.d .bool],λa=>jP a.1 a.2.1,none⟩
theorem Cb:aJ 50 Ca :=cq aB func50 .z 0
def amk:bz xx:=⟨[.d ay,.d ay],[.d ah,.d ah],λa=>alv a.1 a.2.1,none⟩
theorem aml:aJ 146 amk :=cq aB func146 .z 0
def anQ:bz xx:=⟨[.d ay,.d ay],[.d ah],λa=>MY a.1 a.2.1,none⟩
def anR:Hn SI:=(.s .z (.s (.s (.j ⟨[(14,.v .bool)],[],[2,3],[1000,1064],1192,[]⟩ .z) .z) .z))
theorem anS:aJ 95 anQ :=cq (au oG (au aml aB)) func95 anR 0
def Dt:bz xx:=⟨[.d (.st SI.gb),.ref (.st SI.ke),.ref aG,.ref bg],[.d .bool],λa=>dU a.1 a.2.1 a.2.2.1 a.2.2.2.1,none⟩
def Du:Hn SI:=(cg (.s (.s (.j ⟨[(32,.v .bool)],[],[2,3,6],[1256],1384,[]⟩ .z) .z) (.s (.j ⟨[(7,.v .bool)],[],[2,3,6],[1256],1384,[]⟩ .z) .z)))
theorem Dv:aJ 94 Dt :=cq (au oG (au anS aB)) func94 Du 0
def Gt:bz xx:=⟨[.d (.sl (.st SI.gb)),.d7 [.st SI.gb] .bool],[.d ah],λa=>qp n a.1 a.2.1,none⟩
def Gu:Hn SI:=(.s .z (.s (.s .z (.b (.lx ⟨[(8,.v ah)],[],[0,1,7],[],1256,[]⟩ 0 ⟨[],[],[],[],1256,[]⟩ .z))) .z))
theorem Gv:aJ 145 (Gt n) :=cq aB func145 Gu n
def Cc:bz xx:=⟨[.d (.sl (.st SI.gb)),.d7 [.st SI.gb] .bool],[.d .bool],λa=>jQ n a.1 a.2.1,none⟩
theorem Ce:aJ 93 (Cc n) :=cq (au (Gv n) aB) func93 .z n
def Jh:bz xx:=⟨[.d (.st SI.ke),.d bg,.d aG],[.d .bool],λa=>rQ n a.1 a.2.1 a.2.2.1,none⟩
theorem Ji:aJ 52 (Jh n) :=cq (au (Ce n) (au Dv aB)) func52 .z n
def Cf:bz xx:=⟨[.d aG,.ref (.st SI.ke),.ref bg],[.d .bool],λa=>jR n a.1 a.2.1 a.2.2.1,none⟩
theorem Cg:aJ 51 (Cf n) :=cq (au (Ji n) aB) func51 .z n
def Gw:bz xx:=⟨[.d (.st SI.ke),.d bg],[.d .bool],λa=>mJ n a.1 a.2.1,none⟩
theorem Gx:aJ 23 (Gw n) :=cq (au (aco n) (au (aj8 n) (au (R8 n) (au (zB n) (au (BZ n) (au Cb (au (Cg n) aB))))))) func23 .z n
def Ua:bz xx:=⟨[.d ay,.ref ay],[.d .bool],λa=>vM a.1 a.2.1,none⟩
theorem Ub:aJ 103 Ua :=cq aB func103 .z 0
def Ki:bz xx:=⟨[.d (.sl ay),.d7 [ay] .bool],[.d ah],λa=>uf n a.1 a.2.1,none⟩
def Kj:Hn SI:=(.s .z (.s (.s .z (.b (.lx ⟨[(8,.v ah)],[],[0,1,7],[],1256,[]⟩ 0 ⟨[],[],[],[],1256,[]⟩ .z))) .z))
theorem Kk:aJ 147 (Ki n) :=cq aB func147 Kj n
def Fa:bz xx:=⟨[.d (.sl ay),.d7 [ay] .bool],[.d .bool],λa=>jc n a.1 a.2.1,none⟩
theorem uJ:aJ 101 (Fa n) :=cq (au (Kk n) aB) func101 .z n
def acr:bz xx:=⟨[.d ay,.ref (.sl ay)],[.d .bool],λa=>Ey n a.1 a.2.1,none⟩
theorem acs:aJ 102 (acr n) :=cq (au (uJ n) (au Ub aB)) func102 .z n
def akc:bz xx:=⟨[.d (.sl ay),.d (.sl ay)],[.d .bool],λa=>UA n a.1 a.2.1,none⟩
theorem akd:aJ 58 (akc n) :=cq (au (uJ n) (au (acs n) aB)) func58 .z n
def Uc:bz xx:=⟨[.d (.st SI.k7),.ref (.st SI.eQ)],[.d .bool],λa=>qI n a.1 a.2.1,none⟩
theorem Ud:aJ 57 (Uc n) :=cq (au (akd n) aB) func57 .z n
def acu:bz xx:=⟨[.d (.sl (.st SI.eQ)),.d ah,.d (.sl (.st SI.k7))],[.d .bool],λa=>Ez n a.1 a.2.1 a.2.2.1,none⟩
def acv:Hn SI:=(cg (.s (.s .z (.b (.lx ⟨[(14,.v ah)],[],[1,2,12,13],[],1448,[]⟩ 0 ⟨[],[],[],[],1448,[]⟩ (cg (.s (.jx ⟨[],[],[1,2,12,13,14],[],1512,[]⟩ (.b (.s .z (.s (.s (.j ⟨[(27,.v .bool)],[],[1,2,8,12,13,14],[1640],1768,[]⟩ .z) .z) .z)))) .z))))) .z))
theorem acw:aJ 26 (acu n) :=cq (au (Yj n) (au (pq n) (au (uI n) (au (Ud n) aB)))) func26 acv n
def LM:bz xx:=⟨[.d aG,.ref fI,.ref (.st SI.dE)],[.d .bool],λa=>mR n a.1 a.2.1 a.2.2.1,none⟩
theorem LP:aJ 25 (LM n) :=cq (au Jd (au (acw n) aB)) func25 .z n
def Gy:cX xx:=⟨[.v .str,.v .bool,.p 0],[(0,qr),(1,.l .str)],[],[(0,.c 1 [[.o 1000]]),(1000,.l .str)],λv=>jA n v.1 v.2.1 v.2.2⟩
def Gz:bz xx:=⟨[],[.d .bool],λ_=>none,some (Gy n)⟩
def GA:Hn SI:=(.s (.j ⟨[(11,.v .bool)],[],[0,2],[0,1],1000,[]⟩ .z) .z)
theorem GD:aJ 20 (Gz n) :=ov (au (pu n) aB) func20 GA n (by kernel_rfl) λ_=>by kernel_rfl
def Ue:bz xx:=⟨[.d fI,.d (.st SI.dE),.d ah],[.fresh .str,.d ah],λa=>oF n a.1 a.2.1 a.2.2.1,none⟩
def Uf:Hn SI:=(wn (.s (.s .z (.b (.l ⟨[(31,.v ah)],[(1960,.c 1 [[.o 2664]]),(2664,.l .str)],[3,4,8,10,11,29,30],[1000,1064,1640,2472],2665,[(9028160,.str)]⟩ 0 ⟨[],[(1960,.c 1 [[.o 2664]]),(2664,.l .str)],[3,4,8,10,11],[1000,1064,1640],2665,[]⟩ .z))) .z))
theorem FB:aJ 9 (Ue n) :=cq (au (Zd n) (au (X7 n) (au (Gx n) (au (GD n) (au (zB n) (au (LP n) aB)))))) func9 Uf n
def Ug:bz xx:=⟨[.d fI,.d (.st SI.dE),.d ah],[.d .bool],λa=>iX n a.1 a.2.1 a.2.2.1,none⟩
theorem xk:aJ 29 (Ug n) :=cq (au (FB n) aB) func29 .z n
def Yq:bz xx:=⟨[.d fI,.d ah,.d7 [.sl .bool] .bool,.d (.sl dG)],[.d fe,.d .bool],λa=>pY n a.1 a.2.1 a.2.2.1 a.2.2.2.1,none⟩
def Yr:Hn SI:=(.s .z (.s (.s .z (.b (.lx ⟨[(18,.v ah)],[],[1,2,3,4,8,16,17],[1000,1064,1256],1448,[]⟩ 0 ⟨[],[],[8],[1064],1448,[]⟩ (cg (.s (.b (cg (.s (.s .z (.b (.l ⟨[(12,.o 2024),(24,.v ah)],[(2024,.l .bool)],[1,2,3,4,8,11,16,17,18,22,23],[1000,1064,1256,1640],2025,[(12,.bool)]⟩ 2 ⟨[(12,.o 2024)],[(2024,.l .bool)],[1,2,3,4,8,11,16,17,18],[1000,1064,1256,1640],2025,[]⟩ .z))) .z))) .z))))) .z))
theorem zC:aJ 15 (Yq n) :=cq (au (Fy n) (au wY (au (xk n) aB))) func15 Yr n
def LQ:bz xx:=⟨[.d (.sl .bool)],[.d .bool],λa=>vk a.1,none⟩
theorem LU:aJ 17 LQ :=cq aB func17 .z 0
def Uh:bz xx:=⟨[.d fI,.d dG,.d dG,.d ah],[.d fe,.d .bool],λa=>gW n a.1 a.2.1 a.2.2.1 a.2.2.2.1,none⟩
theorem FD:aJ 7 (Uh n) :=cq (au (zC n) (au LU aB)) func7 .z n
def LV:bz xx:=⟨[.d (.sl .bool)],[.d .bool],λa=>vo a.1,none⟩
def LW:Hn SI:=(cg (.s (.j ⟨[(3,.v .bool)],[],[0],[],1320,[]⟩ .z) .z))
theorem LX:aJ 31 LV :=cq aB func31 LW 0
def Ui:bz xx:=⟨[.d fI,.d dG,.d dG,.d dG,.d dG,.d ah],[.d fe,.d .bool],λa=>gX n a.1 a.2.1 a.2.2.1 a.2.2.2.1 a.2.2.2.2.1 a.2.2.2.2.2.1,none⟩
theorem Uj:aJ 12 (Ui n) :=cq (au (zC n) (au LX aB)) func12 .z n
def GH:bz xx:=⟨[.d (.sl .bool)],[.d .bool],λa=>qw a.1,none⟩
theorem GI:aJ 16 GH :=cq aB func16 .z 0
def LY:bz xx:=⟨[.d fI,.d dG,.d dG,.d ah],[.d .bool],λa=>eu n a.1 a.2.1 a.2.2.1 a.2.2.2.1,none⟩
theorem zD:aJ 6 (LY n) :=cq (au (zC n) (au GI aB)) func6 .z n
def Q5:bz xx:=⟨[.d fI,.d dG,.d fe,.d ah],[.d .bool],λa=>kC n a.1 a.2.1 a.2.2.1 a.2.2.2.1,none⟩
theorem Dw:aJ 10 (Q5 n) :=cq (au (IX n) (au wY (au (xk n) aB))) func10 .z n
def LZ:bz xx:=⟨[.d fI,.d dG,.d ah],[.fresh .bool],λa=>mV n a.1 a.2.1 a.2.2.1,none⟩
def L6:Hn SI:=(cg (.s (.s .z (.b (.l ⟨[(7,.o 1512),(13,.v ah)],[(1512,.l .bool)],[2,3,4,11,12],[1000,1064,1320],1513,[(7,.bool)]⟩ 0 ⟨[(7,.o 1512)],[(1512,.l .bool)],[],[],1513,[]⟩ .z))) .z))
theorem L8:aJ 13 (LZ n) :=cq (au (Fy n) (au wY (au (xk n) aB))) func13 L6 n
def afj:bz xx:=⟨[],[.d .bool],λ_=>CP n,none⟩
def afk:Hn SI:=(PH (.s (.j ⟨[(13,.v .bool)],[],[1,6,7,8,9,11,12],[1256,1384,3368,4136,5160],5288,[]⟩ .z) .z))
theorem afl:aJ 4 (afj n) :=cq (au agZ (au (FD n) (au (Uj n) (au (zD n) (au (Dw n) (au (L8 n) aB)))))) func4 afk n
def ahs:Hn SI:=(cg (.s (.s .z (.b (.l ⟨[(3,.v ah),(4,.v ah)],[],[1],[1000],1256,[]⟩ 0 ⟨[(3,.v ah)],[],[],[],1256,[]⟩ .z))) .z))
theorem afm(rc:(cu)->Option Int)(hr:aJ 62 (Ih rc)):aJ 62 (Ih (EA n rc)) :=cq (au hr aB) func62 ahs n
theorem Sb(n:Nat):∀m,aJ 62 (Ih (vv n m))
 | 0=>zj (mX func62 (by kernel_rfl:Tryz.f62.body=some (Tryz.f62.body.getD .skip)) (by kernel_rfl)) (λ _ _ h=>(by cases h)) rfl
 |m+1=>afm n _ (Sb n m)
def aht:bz xx:=⟨[.d (.st SI.Expr)],[.d ah],λa=>Ii n a.1,none⟩
theorem ahu:aJ 62 (aht n):=Sb n n
def Zo:bz xx:=⟨[.d dG],[.d .bool],λa=>wL n a.1,none⟩
def Zp:Hn SI:=(.s .z (.s (.s (.j ⟨[(35,.v .bool)],[],[1],[1000],1128,[]⟩ .z) .z) (.s (.s .z (.b (.lx ⟨[(3,.v ah)],[],[1],[1000],1192,[]⟩ 0 ⟨[],[],[1],[1000],1192,[]⟩ .z))) (.s (.s .z (.b (.lx ⟨[(4,.v ah)],[],[1],[1000],1256,[]⟩ 2 ⟨[],[],[1],[1000],1256,[]⟩ (.s .z (.s (.b (.s (.j ⟨[(85,.v .bool)],[],[1,4],[1000],1576,[]⟩ .z) .z)) .z))))) (.s (.s .z (.b (.lx ⟨[(5,.v ah)],[],[1],[1000],1320,[]⟩ 4 ⟨[],[],[1],[1000],1320,[]⟩ .z))) (.s (.s .z (.b (.lx ⟨[(6,.v ah)],[],[1],[1000],1384,[]⟩ 6 ⟨[],[],[1],[1000],1384,[]⟩ .z))) (.s (.s .z (.b (.lx ⟨[(7,.v ah)],[],[1],[1000],1448,[]⟩ 8 ⟨[],[],[],[],1448,[]⟩ .z))) .z)))))))
theorem Zq:aJ 33 (Zo n) :=cq (au (ahu n) aB) func33 Zp n
def Uk:bz xx:=⟨[.d ay],[.d .bool],λa=>vO a.1,none⟩
theorem Ul:aJ 193 Uk :=cq aB func193 .z 0
def acy:bz xx:=⟨[.d (.sl ah)],[.fresh ah],λa=>EB n a.1,none⟩
def acz:Hn SI:=(cg (.s (.s .z (.b (.l ⟨[(3,.o 1192),(4,.v ah)],[(1192,.l ah)],[0],[],1193,[(3,ah)]⟩ 0 ⟨[(3,.o 1192)],[(1192,.l ah)],[],[],1193,[]⟩ (.s .z (.s (.j ⟨[(3,.o 1449)],[(1449,.l ah)],[0,4],[],1450,[]⟩ (.b (.s .z (.s (.b (.l ⟨[(5,.v ah)],[],[0,3,4],[1192],1641,[]⟩ 2 ⟨[(5,.v ah)],[],[0,3,4],[1192],1641,[]⟩ (.s (.s (.j ⟨[(28,.v .bool)],[],[0,3,4,5],[1192],1641,[]⟩ .z) .z) .z))) (.s (.s (.j ⟨[(44,.v .bool)],[],[0,3,4,5],[1192],1641,[]⟩ .z) .z) (.s .z (.s (.s .z (.b (.l ⟨[(6,.v ah)],[(1769,.l ah)],[0,3,4,5],[],2153,[]⟩ 4 ⟨[],[(1769,.l ah)],[0,3,4,5],[],2153,[]⟩ .z))) .z))))))) .z))))) .z))
theorem acA:aJ 259 (acy n) :=cq aB func259 acz n
def afn:bz xx:=⟨[.d (.sl ay),.d (.sl ay)],[.fresh ah],λa=>JG n a.1 a.2.1,none⟩
def afo:Hn SI:=(cg (.s (.s .z (.b (.l ⟨[(5,.o 1192),(6,.v ah)],[(1192,.l ah)],[0,1],[],1193,[(5,ah)]⟩ 0 ⟨[(5,.o 1192)],[(1192,.l ah)],[1],[],1193,[]⟩ .z))) (.s (.s .z (.b (.l ⟨[(5,.o 1257),(7,.v ah)],[(1257,.l ah)],[1],[],1258,[]⟩ 2 ⟨[(5,.o 1257)],[(1257,.l ah)],[],[],1258,[]⟩ .z))) .z)))
theorem afp:aJ 237 (afn n) :=cq (au (acA n) aB) func237 afo n
def acB:bz xx:=⟨[.d (.sl ay),.d ah],[.fresh ah],λa=>yX n a.1 a.2.1,none⟩
def acC:Hn SI:=(gj (.s (.s .z (.b (.l ⟨[(5,.o 1256),(6,.o 1257),(7,.v ah)],[(1256,.l ah),(1257,.l ah)],[0,1],[],1258,[(5,ah),(6,ah)]⟩ 0 ⟨[(5,.o 1256),(6,.o 1257)],[(1256,.l ah),(1257,.l ah)],[],[],1258,[]⟩ (.s .z (.s (.j ⟨[(5,.o 1514),(6,.o 1515)],[(1514,.l ah),(1515,.l ah)],[0,1,7],[],1516,[]⟩ (.b (.s (.s (.j ⟨[(32,.v .bool)],[],[0,1,5,6,7],[1256,1257],1514,[]⟩ .z) .z) (gj (.s (.b (.l ⟨[(8,.v ah)],[(1834,.l ah),(2090,.l ah)],[0,1,5,6,7],[],2218,[]⟩ 2 ⟨[(8,.v ah)],[(1834,.l ah),(2090,.l ah)],[0,1,5,6,7],[],2218,[]⟩ (.s (.s (.j ⟨[(55,.v .bool)],[],[0,1,5,6,7,8],[1834,2090],2218,[]⟩ .z) .z) .z))) .z))))) .z))))) (.s .z (.s (.s .z (.b (.l ⟨[(9,.o 1386),(10,.v ah)],[(1386,.l ah)],[5,6],[1256,1257],1387,[(9,ah)]⟩ 4 ⟨[(9,.o 1386)],[(1386,.l ah)],[],[],1387,[]⟩ (.s .z (.s (.j ⟨[(9,.o 1643)],[(1643,.l ah)],[5,6,10],[1256,1257],1644,[]⟩ (.b (.s (.s (.j ⟨[(111,.v .bool)],[],[5,6,9,10],[1256,1257,1386],1643,[]⟩ .z) .z) .z))) .z))))) .z))))
theorem acD:aJ 239 (acB n) :=cq aB func239 acC n
def Zr:bz xx:=⟨[.d (.sl ah),.d (.sl ah),.d ah],[.fresh ah],λa=>Aq n a.1 a.2.1 a.2.2.1,none⟩
def Zt:Hn SI:=(wn (.s (.b (.l ⟨[(7,.o 1320),(8,.v ah),(9,.v ah),(10,.v .bool)],[(1320,.l ah)],[0,1,2],[],1321,[(7,ah)]⟩ 0 ⟨[(7,.o 1320)],[(1320,.l ah)],[],[],1321,[]⟩ (.s (.s (.j ⟨[(24,.v .bool)],[],[0,1,2,7,8,9,10],[1320],1321,[]⟩ .z) .z) (.b (.s .z (.s (.j ⟨[(11,.v ah)],[],[0,1,2,7,8,9,10],[1320],1385,[]⟩ (.s (.j ⟨[(49,.v .bool)],[],[0,1,2,7,8,9,10],[1320],1385,[]⟩ .z) .z)) (.s (.j ⟨[(8,.v ah)],[],[0,1,2,7,9,10,11],[1320],1385,[]⟩ (.s (.j ⟨[(69,.v .bool)],[],[0,1,2,7,8,9,10,11],[1320],1385,[]⟩ .z) .z)) (.s (.j ⟨[(9,.v ah)],[],[0,1,2,7,8,10,11],[1320],1385,[]⟩ (.s (.j ⟨[(83,.v .bool)],[],[0,1,2,7,8,9,10,11],[1320],1385,[]⟩ .z) .z)) (cg (.s (.j ⟨[(14,.v .bool)],[],[0,1,2,7,8,9,10,11,12,13],[1320],1897,[]⟩ .z) (.s (.j ⟨[(14,.v .bool)],[],[0,1,2,7,8,9,10,11,12,13],[1320],1897,[]⟩ .z) (.s (.j ⟨[(14,.v .bool)],[],[0,1,2,7,8,9,10,11],[1320],1897,[]⟩ .z) (.s (.j ⟨[(7,.o 1897)],[(1897,.l ah)],[0,1,2,8,9,14],[],1898,[]⟩ .z) .z))))))))))))) .z))
theorem Zu:aJ 238 (Zr n) :=cq aB func238 Zt n
def ahv:bz xx:=⟨[.d (.sl ah),.d (.sl ah)],[.d .bool],λa=>NJ n a.1 a.2.1,none⟩
def ahw:Hn SI:=(cg (.s (.s .z (.b (.lx ⟨[(5,.v ah)],[],[0,1],[],1448,[]⟩ 0 ⟨[],[],[],[],1448,[]⟩ .z))) .z))
theorem ahx:aJ 240 (ahv n) :=cq aB func240 ahw n
def ahy:bz xx:=⟨[.d (.sl ay),.d (.sl ay),.d ah],[.fresh ay],λa=>NK n a.1 a.2.1 a.2.2.1,none⟩
def ahz:Hn SI:=(wn (.s (.s .z (.b (.l ⟨[(7,.o 1576),(9,.o 1577),(10,.v ah),(11,.v ah)],[(1576,.l ay),(1577,.l ah)],[0,1,2,8],[1256],1578,[(7,ay),(9,ah)]⟩ 0 ⟨[(7,.o 1576)],[(1576,.l ay)],[],[],1577,[]⟩ (.s .z (.s (.j ⟨[(7,.o 1898),(9,.o 1899),(10,.v ah)],[(1898,.l ay),(1899,.l ah)],[0,1,2,8,11],[1256],1900,[]⟩ (.b (.s .z (.s (.s (.j ⟨[(50,.v .bool)],[],[0,1,2,7,8,9,10,11,12],[1256,1576,1577,2730],2858,[]⟩ .z) (.s (.s (.s .z (.b (.l ⟨[(13,.v ah)],[(1576,.l ay)],[0,1,2,7,8,9,10,11],[1256,1577],2986,[]⟩ 2 ⟨[],[(1576,.l ay)],[0,1,2,7,8,9,10,11],[1256,1577],2986,[]⟩ .z))) .z) .z)) (gj (.b (.l ⟨[(7,.o 3242),(14,.v ah)],[(3242,.l ay)],[0,1,2,8,9,10,11,12],[1256,2730],3243,[]⟩ 4 ⟨[(7,.o 3242)],[(3242,.l ay)],[0,1,2,8,9,10,11],[1256,2730],3243,[]⟩ .z))))))) .z))))) .z))
theorem ahA:aJ 194 (ahy n) :=cq (au (afp n) (au (acD n) (au (Zu n) (au (ahx n) aB)))) func194 ahz n
def amm:bz xx:=⟨[.d (.sl ay)],[.fresh ay,.d ah],λa=>OF n a.1,none⟩
def amn:Hn SI:=(.s .z (.s (.s .z (.b (.lx ⟨[(4,.v ah)],[],[0],[],1192,[]⟩ 0 ⟨[],[],[0],[],1192,[]⟩ .z))) .z))
theorem amo:aJ 151 (amm n) :=cq (au Ul (au (ahA n) aB)) func151 amn n
def ahB:bz xx:=⟨[.d (.sl ay),.d (.sl ay)],[.d .bool],λa=>NN n a.1 a.2.1,none⟩
def ahC:Hn SI:=(cg (.s (.s .z (.b (.lx ⟨[(5,.v ah)],[],[0,1],[],1448,[]⟩ 0 ⟨[],[],[],[],1448,[]⟩ .z))) .z))
theorem ahD:aJ 152 (ahB n) :=cq aB func152 ahC n
def afq:bz xx:=⟨[.d (.sl ay)],[.d .bool],λa=>JI n a.1,none⟩
theorem afr:aJ 109 (afq n) :=cq (au (amo n) (au (ahD n) aB)) func109 .z n
def acE:bz xx:=⟨[.d (.sl ay)],[.d ay,.d .bool],λa=>ED n a.1,none⟩
def acF:Hn SI:=(.s .z (.s (.s (.j ⟨[(13,.v .bool)],[],[0,2],[1000],1128,[]⟩ .z) .z) (.s .z (.s (.s .z (.b (.l ⟨[(5,.v ah)],[(1320,ut)],[0,2,4],[1000],1512,[]⟩ 0 ⟨[],[(1320,ut)],[2,4],[1000],1512,[]⟩ .z))) .z))))
theorem acG:aJ 63 (acE n) :=cq (au (afr n) aB) func63 acF n
def acH:bz xx:=⟨[.d iP],[.d .bool],λa=>EF n a.1,none⟩
theorem acI:aJ 34 (acH n) :=cq (au (acG n) aB) func34 .z n
def ake:bz xx:=⟨[.d fI],[.d .bool],λa=>EI n a.1,none⟩
def akf:Hn SI:=(.s .z (.s (.s (.j ⟨[(26,.v .bool)],[],[1],[1000],1128,[]⟩ .z) .z) (.s (.s .z (.b (.lx ⟨[(3,.v ah)],[],[1],[1000],1192,[]⟩ 0 ⟨[],[],[1],[1000],1192,[]⟩ .z))) (.s (.s .z (.b (.lx ⟨[(4,.v ah)],[],[1],[1000],1256,[]⟩ 2 ⟨[],[],[],[],1256,[]⟩ .z))) .z))))
theorem akg:aJ 14 (ake n) :=cq (au (Zq n) (au (acI n) aB)) func14 akf n
def akh:bz xx:=⟨[.d fI,.d (.sl dG)],[.d .bool],λa=>NP n a.1 a.2.1,none⟩
def aki:Hn SI:=(.s .z (.s (.s .z (.b (.lx ⟨[(5,.v ah)],[(1000,GG)],[1,2],[],1192,[]⟩ 0 ⟨[],[(1000,GG)],[2],[],1192,[]⟩ .z))) .z))
theorem akj:aJ 5 (akh n) :=cq (au (akg n) aB) func5 aki n
def O7:bz xx:=⟨[.d fI,.d dG,.d bg,.d ah],[.d .bool],λa=>rz n a.1 a.2.1 a.2.2.1 a.2.2.2.1,none⟩
def O8:Hn SI:=(gj (.s (.f [8]) (.s (.s (.j ⟨[(40,.v .bool)],[],[3,4,5,6,9,10],[1000,1064,1128,1448],2152,[]⟩ .z) .z) (.s (.s .z (.b (.lx ⟨[(11,.v ah)],[],[3,4,5,6,9,10],[1000,1064,1128,1448],2216,[]⟩ 0 ⟨[],[],[3,4,5,6,9,10],[1000,1064,1128,1448],2216,[]⟩ .z))) (gj (.s (.s .z (.b (.lx ⟨[(14,.v ah)],[],[3,4,5,6,9,10,12],[1000,1064,1128,1448,3112],3496,[]⟩ 2 ⟨[],[],[],[],3496,[]⟩ .z))) .z))))))
theorem O9:aJ 3 (O7 n) :=cq (au (afl n) (au (akj n) (au (zD n) (au (FD n) (au (Fx n) (au (FB n) (au (Dw n) aB))))))) func3 O8 n
end
end Go.Proofs
