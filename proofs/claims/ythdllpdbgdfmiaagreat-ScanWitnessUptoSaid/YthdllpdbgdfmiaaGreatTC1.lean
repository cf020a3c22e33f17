import Derived.Test.YthdllpdbgdfmiaaGreatS2
namespace Go.Proofs
open Go.Gb Go.RowKit
abbrev gb:OP SI:=.c 10 [[.v (.sl bC),.v (.sl aV),.v (.sl bG),.v (.sl aY),.v (.sl bL),.v (.sl bJ),.v (.sl aT),.v af,.v (.sl ay),.o 1]]
abbrev ri:OP SI:=.c 1 [[.o 1]]
abbrev sn:OP SI:=.c 2 [[.v (.sl bC),(.v (.sl (.sl af)))]]
abbrev ud:OP SI:=.c 10 [[.v (.sl bC),.v (.sl aV),.v (.sl bG),.v (.sl aY),.v (.sl bL),.v (.sl bJ),.v (.sl aT),.v af,.v (.sl ay),.o 2]]
abbrev vp:OP SI:=.c 2 [[.v af,.v af]]
abbrev vn:OP SI:=.c 4 [[.v af,.v af,.v af,.v af]]
abbrev xi:OP SI:=.c 1 [[.o 1384]]
abbrev HX:OP SI:=.c 9 [[.v af,.v af,.o 2473,.v af,.v af,.v af,.v af,.v af,.v af]]
abbrev cz(a:Hn SI):Hn SI:=.s .z (.s .z a)
abbrev gi(a:Hn SI):Hn SI:=.s .z (.s .z (.s .z a))
abbrev te(a:Hn SI):Hn SI:=.s .z (.s .z (.s .z (.s .z a)))
abbrev xj(a:Hn SI):Hn SI:=.s .z (.s .z (.s .z (.s .z (.s .z a))))
abbrev H2(a:Hn SI):Hn SI:=.s .z (.s .z (.s .z (.s .z (.s .z (.s .z (.s .z (.s .z (.s .z (.s .z a)))))))))
open Tryz
noncomputable section
variable (n:Nat)
def ac4:cx xx:=⟨[.d af],[.d (.st SI.Expr)],λa=>vK a.1,none⟩
theorem ac5:aJ 10 ac4 :=cq aA func10 .z 0
def aii:cx xx:=⟨[.d aY],[.d (.st SI.kw)],λa=>zl a.1,none⟩
theorem aij:aJ 9 aii :=cq aA func9 .z 0
def Pb:cx xx:=⟨[],[.fresh .str],λ_=>xJ,none⟩
theorem Pd:aJ 36 Pb :=cq aA func36 .z 0
def Yp:cx xx:=⟨[.d (.st SI.Expr)],[.fresh .str],λa=>qp a.1,none⟩
mutual
theorem ake:∀g:bP,(toE g).wt<=4000000->rL (toE g) (rO g)
 |⟨op,n,s,key,args⟩,h=>by simp only[toE,ET.wt]at h;have:=ET.ro (IY args);simp only[toE,rO,rL];exact⟨n,key,_,rfl,by unfold maxLen;omega,by omega,Yq args (by omega)⟩
theorem Yq:∀l:List bP,ET.tE (IY l)<=4000000->oA (IY l) (ul l)
 |[],_=>by simp only[IY,ul,oA]
 |x::xs,h=>by simp only[IY,ET.tE]at h;simp only[IY,ul,oA];exact⟨_,_,rfl,ake x (by omega),Yq xs (by omega)⟩
end
theorem Yr:aJ 40 Yp:=by
 have hcall:eG Tryz.prog 40:=⟨_,func40,by kernel_rfl,by kernel_rfl⟩;refine yn hcall (λ a r h=>?_) rfl;obtain⟨g,⟨⟩⟩:=a;have h':qp g=some r:=h;unfold qp at h';cases hb:Nat.ble (toE g).wt 4000000 with
 |false=>rw[hb]at h';cases h'
 |true=>
  rw[hb]at h';have h'':some (xr (toE g).names)=some r:=h';injection h'' with e;subst e;have hw:=Nat.le_of_ble_eq_true hb;have hl:=Nat.le_trans (ET.ll (toE g)) hw;exact akW (E:=9) hcall (ake g hw) (by omega) λv0 v1 v2 v3 v4 w hE=>callsIn_wide.1 (ae1 0 (toE g) v0 v1 v2 v3 v4 w hE (by omega))
def Pe:cx xx:=⟨[],[.d .bool],λ_=>none,some ⟨[.v (.sl bC)],[],[.p 1000],[(1000,sn)],λv=>iZ v⟩⟩
theorem afO:∀l:List fB,rS (l.map toD)<=4000000->oB (l.map toD) (l.map BK)
 |[],_=>by simp only[List.map_nil,oB]
 |x::xs,h=>by simp only[bE,rS,List.foldr_cons,toD,ET.wt]at h;have:=ET.ro (IY x.c8);simp only[bE,oB];refine⟨_,_,rfl,⟨_,_,_,_,_,rfl,by simp only[toD];unfold maxLen;omega,?_⟩,afO xs (by simp only[rS];omega)⟩;simp only[toD,rL];exact⟨_,_,_,rfl,by unfold maxLen;omega,by omega,by rw[<- um];exact Yq _ (by omega)⟩
theorem Pf:aJ 37 Pe:=by
 have hcall:eG Tryz.prog 37:=⟨_,func37,by kernel_rfl,by kernel_rfl⟩;refine P1 hcall ?_;intro v r hr;have h':iZ v=some r:=hr;unfold iZ at h';cases hb:Nat.ble (rS (List.map toD v)) 4000000 with
 |false=>rw[hb]at h';cases h'
 |true=>
  rw[hb]at h';have h'':some (v,jq (List.map toD v))=some r:=h';injection h'' with e;subst e;have hw:=Nat.le_of_ble_eq_true hb;have hlen:=U3 (List.map toD v);have hn:∀d∈List.map toD v,d.2.names.length<=4000000:=λd hd=>by have h1:=U4 hd;have h2:=ET.ll d.2;omega
  exact acw (TL:=41) (TG:=165) (TI:=3) hcall (afO v hw) λsv w hS=>aoY (List.map toD v) (by omega) (λ d hd=>Nat.le_trans (hn d hd) (by omega))
   (λ d hd v0 v1 v2 v3 v4 w hE=>callsIn_wide.1 (ae1 0 d.2 v0 v1 v2 v3 v4 w hE (Nat.le_trans (hn d hd) (by omega)))) sv w hS
def TW:cx xx:=⟨[.d (.sl af),.d af],[.fresh af],λa=>q8 a.1 a.2.1,none⟩
theorem TY:aJ 166 TW:=by
 have hcall:eG Tryz.prog 166:=⟨_,func166,by kernel_rfl,by kernel_rfl⟩;refine yn hcall (λ a r h=>?_) rfl;obtain⟨l,c,⟨⟩⟩:=a;have h':q8 l c=some r:=h
 match l,h' with
 |[x],h'=>
  simp only[q8]at h';cases hb:(decide (0<=c)&&decide (c<=1000000000000))with
  |false=>rw[hb]at h';cases h'
  |true=>
   rw[hb]at h';have h'':some (List.replicate c.toNat x)=some r:=h';injection h'' with e;subst e;simp only[bK,bT]at hb;obtain⟨h1,h2⟩:=hb;obtain⟨k,hk⟩:=Int.eq_ofNat_of_zero_le h1;subst hk;exact aht (E:=3) (c:=k) hcall λa cap w hx=>ak3 x k (Int.ofNat_le.1 (by simpa using h2)) a cap w hx
def Yt:cx xx:=⟨[.d (.sl af),.d af],[.d af],λa=>EQ n a.1 a.2.1,none⟩
def Yu:Hn SI:=(.s .z (.s (.s .z (.b (.lx ⟨[(8,.v af)],[],[0,1,7],[],1256,[]⟩ 0 ⟨[],[],[],[],1256,[]⟩ .z))) .z))
theorem Yv:aJ 218 (Yt n) :=cq aA func218 Yu n
def Pg:cx xx:=⟨[.d (.sl af),.d af],[.d .bool],λa=>rP n a.1 a.2.1,none⟩
theorem Ph:aJ 167 (Pg n) :=cq (ak (Yv n) aA) func167 .z n
def BX:cx xx:=⟨[.ref (.st SI.graph),.d af],[.fresh af],λa=>jY n a.1 a.2.1,none⟩
def BZ:Hn SI:=(te (.s (.b (.l ⟨[(6,.od 2024)],[(1448,.l af),(2024,.l af)],[0,5],[],2025,[]⟩ 0 ⟨[],[(1448,.l af)],[5],[],2024,[]⟩ (.s .z (.b (gi (.b (.l ⟨[(6,.od 3049),(35,.v af)],[(1448,.l af),(3049,.l af)],[0,5,7,33,34],[],3050,[]⟩ 2 ⟨[(6,.od 3049)],[(1448,.l af),(3049,.l af)],[0,5],[],3050,[]⟩ (cz (.s (.j ⟨[(6,.od 3114)],[(1448,.l af),(3114,.l af)],[0,5,7,33,34,35],[],3115,[]⟩ (.b (.s .z (.s (.j ⟨[(49,.v .bool)],[],[0,5,6,7,8,33,34,35],[1448,3049],3434,[]⟩ .z) .z)))) .z))))))))) .z))
theorem Ca:aJ 104 (BX n) :=cq (ak TY (ak (Ph n) aA)) func104 BZ n
def Mx:cx xx:=⟨[.d .str],[.d .bool],λa=>cmp_isNaN_string a.1,none⟩
theorem MB:aJ 168 Mx :=cq aA func168 .z 0
def Jy:cx xx:=⟨[.d .str,.d .str],[.d af],λa=>nX a.1 a.2.1,none⟩
theorem Jz:aJ 105 Jy :=cq (ak MB aA) func105 .z 0
def KS:cx xx:=⟨[.d (.sl .str),.d (.sl .str)],[.d af],λa=>lW n a.1 a.2.1,none⟩
def KT:Hn SI:=(.s .z (.s (.s .z (.b (.lx ⟨[(11,.v af)],[],[0,1,9,10],[],1256,[]⟩ 0 ⟨[],[],[0,1],[],1256,[]⟩ .z))) .z))
theorem KU:aJ 66 (KS n) :=cq (ak Jz aA) func66 KT n
def zJ:dp xx:=⟨[.v af,.p 0],[(0,ri),(1,.l .bool)],[.v .bool],[(0,ri),(1,.l .bool)],λv=>mM v.1 v.2⟩
def zK:cx xx:=⟨[],[.d .bool],λ_=>none,some (zJ)⟩
theorem zL:aJ 68 zK :=pc aA func68 .z 0 (by kernel_rfl) λ_=>by kernel_rfl
def Gv:dp xx:=⟨[.v (.sl af),(.f 68 [] [.p 0])],[(0,ri),(1,.l .bool)],[.v af],[(0,ri),(1,.l .bool)],λv=>ni n v.1 v.2⟩
def Gw:cx xx:=⟨[],[.d .bool],λ_=>none,some (Gv n)⟩
def Gx:Hn SI:=(.s .z (.s (.s .z (.b (.lx ⟨[(8,.v af)],[(0,ri),(1,.l .bool)],[0,1,7],[],1256,[]⟩ 0 ⟨[],[(0,ri),(1,.l .bool)],[],[],1256,[]⟩ .z))) .z))
theorem Gy:aJ 106 (Gw n) :=pc (ak zL aA) func106 Gx n (by kernel_rfl) λ_=>by kernel_rfl
def Cb:dp xx:=⟨[.v (.sl af),(.f 68 [] [.p 0])],[(0,ri),(1,.l .bool)],[.v .bool],[(0,ri),(1,.l .bool)],λv=>iQ n v.1 v.2⟩
def Cc:cx xx:=⟨[],[.d .bool],λ_=>none,some (Cb n)⟩
theorem Ce:aJ 67 (Cc n) :=pc (ak (Gy n) aA) func67 .z n (by kernel_rfl) λ_=>by kernel_rfl
def JA:cx xx:=⟨[.ref (.st SI.graph)],[.fresh af],λa=>nY n a.1,none⟩
def JB:Hn SI:=(gi (.s (.s .z (.b (.l ⟨[(4,.o 2024),(20,.v af)],[(1448,xi),(2024,.l af),(1384,.l .bool)],[0,3,19],[],2025,[(4,af)]⟩ 0 ⟨[(4,.o 2024)],[(2024,.l af)],[],[],2025,[]⟩ (cz (.s (.b (.s .z (.s (.s .z (.b (.l ⟨[(5,.v af),(27,.v af)],[(1448,xi),(1384,.l .bool)],[0,3,4,19,20,25,26],[2024],2537,[]⟩ 2 ⟨[(5,.v af)],[(1448,xi),(1384,.l .bool)],[0,3,4,19,20],[2024],2537,[]⟩ (cz (.s (.j ⟨[(5,.v af)],[(1448,xi),(1384,.l .bool)],[0,3,4,19,20,25,26,27],[2024],2601,[]⟩ (.b (cz (.s (.j ⟨[(66,.v .bool)],[],[0,3,4,5,6,19,20,25,26,27],[1384,1448,2024],3177,[]⟩ .z) .z)))) .z))))) .z))) .z))))) .z))
theorem JC:aJ 39 (JA n) :=cq (ak (Ce n) aA) func39 JB n
def Cf:dp xx:=⟨[.p 0,.v af],[(0,sn)],[.oz 1000],[(0,sn),(1000,.l .str)],λv=>gD n v.1 v.2.1 v.2.2⟩
def Cg:cx xx:=⟨[],[.d .bool],λ_=>none,some (Cf n)⟩
def Ch:Hn SI:=(te (.b (.lx ⟨[(6,.o 1512),(7,.v af)],[(1512,.l .str)],[0,1,5],[0,1192],1513,[(6,.str)]⟩ 999999 ⟨[],[],[],[],1512,[]⟩ (.b (cz (.s (.s .z (.b (.l ⟨[(8,.v af),(34,.v af)],[],[0,1,5,6,32,33],[0,1192,2153],2921,[]⟩ 2 ⟨[(8,.v af)],[],[0,1,5,6],[0,1192,2153],2921,[]⟩ (cz (.s (.j ⟨[(8,.v af)],[],[0,1,5,6,32,33,34],[0,1192,2153],2985,[]⟩ (.b (.s .z (.s (.j ⟨[(57,.v .bool)],[],[0,1,5,6,8,10,32,33,34],[0,1192,2153],3177,[]⟩ .z) .z)))) .z))))) .z))))))
theorem Ci:aJ 65 (Cg n) :=pc (ak (Ca n) aA) func65 Ch n (by kernel_rfl) λ_=>by kernel_rfl
def zM:dp xx:=⟨[.p 0],[(0,sn)],[.oz 1000],[(0,sn),(1000,.l .str)],λv=>fJ n v.1 v.2⟩
def zN:cx xx:=⟨[],[.d .bool],λ_=>none,some (zM n)⟩
def zO:Hn SI:=(cz (.s (.s .z (.b (.l ⟨[(3,.oz 1512),(11,.v af)],[(0,sn),(1512,.l .str)],[0,10],[],1513,[(1099511627779,.str)]⟩ 0 ⟨[(3,.oz 1512)],[(0,sn),(1512,.l .str)],[],[],1513,[]⟩ (cz (.s (.j ⟨[(3,.oz 1577)],[(0,sn),(1577,.l .str)],[0,10,11],[],1578,[]⟩ (.b (cz (.s (.s (.j ⟨[(18,.v .bool)],[],[0,3,5,10,11],[0,1512,1833],1961,[]⟩ .z) .z) (.s (.j ⟨[(40,.v .bool)],[],[0,3,5,10,11],[0,1512,1833],1961,[]⟩ .z) .z))))) .z))))) .z))
theorem zP:aJ 38 (zN n) :=pc (ak (Ci n) (ak (KU n) aA)) func38 zO n (by kernel_rfl) λ_=>by kernel_rfl
def Yw:cx xx:=⟨[.d ic],[.fresh af,.d (.sl .str),.d af],λa=>fQ n a.1,none⟩
def Yx:Hn SI:=(cz (.s (.s .z (.b (.l ⟨[(15,.v af)],[(1256,.m .str .bool)],[1,5,13,14],[1000,1384],1576,[]⟩ 0 ⟨[],[(1256,.m .str .bool)],[1,5],[1000],1576,[]⟩ .z))) (.s (.s .z (.b (.lx ⟨[(25,.v af)],[(1256,.m .str .bool)],[1,5,23,24],[1000],1832,[]⟩ 2 ⟨[],[],[1],[1000],1832,[]⟩ .z))) (.s .z (.s (.s .z (.s (.j ⟨[(43,.v .bool)],[],[10,11],[1960,2152],2280,[]⟩ .z) .z)) .z)))))
theorem zQ:aJ 18 (Yw n) :=cq (ak Pd (ak Pf (ak (zP n) (ak (JC n) aA)))) func18 Yx n
def Q8:cx xx:=⟨[.d (.sl (.st SI.iv))],[.fresh (.st SI.side)],λa=>pX n a.1,none⟩
def Q9:Hn SI:=(cz (.s (.s .z (.b (.l ⟨[(10,.v af)],[(1192,.l (.st SI.side))],[0,3,9],[],1512,[]⟩ 0 ⟨[],[(1192,.l (.st SI.side))],[3],[],1512,[]⟩ .z))) .z))
theorem DJ:aJ 114 (Q8 n) :=cq aA func114 Q9 n
def Ra:cx xx:=⟨[.d (.st SI.iv)],[.d .bool],λa=>uo a.1,none⟩
theorem Rb:aJ 171 Ra :=cq aA func171 .z 0
def FP:cx xx:=⟨[.d (.st SI.side)],[.d .bool],λa=>iB a.1,none⟩
theorem uY:aJ 115 FP :=cq aA func115 .z 0
def T9:cx xx:=⟨[.d af],[.d .bool],λa=>cmp_isNaN_int a.1,none⟩
theorem Ua:aJ 85 T9 :=cq aA func85 .z 0
def Pj:cx xx:=⟨[.d af,.d af],[.d af],λa=>cmp_Compare_int a.1 a.2.1,none⟩
theorem mF:aJ 51 Pj :=cq (ak Ua aA) func51 .z 0
def ac6:cx xx:=⟨[.d (.sl af)],[.d af],λa=>vL n a.1,none⟩
def ac7:Hn SI:=(cz (.s (.s .z (.b (.lx ⟨[(8,.v af)],[],[3,6,7],[],1320,[]⟩ 0 ⟨[],[],[3],[],1320,[]⟩ .z))) .z))
theorem FQ:aJ 50 (ac6 n) :=cq aA func50 ac7 n
def Pk:cx xx:=⟨[.d (.st SI.iv),.d (.st SI.iv)],[.d af],λa=>rQ n a.1 a.2.1,none⟩
theorem Pm:aJ 172 (Pk n) :=cq (ak mF (ak (FQ n) aA)) func172 .z n
def FR:cx xx:=⟨[.d (.st SI.side),.d (.st SI.side)],[.d .bool],λa=>lX a.1 a.2.1,none⟩
theorem FT:aJ 173 FR :=cq aA func173 .z 0
def Ub:cx xx:=⟨[.d (.sl (.st SI.iv))],[.d .bool],λa=>wz n a.1,none⟩
def Uc:Hn SI:=(.s .z (.s (.s (.j ⟨[(16,.v .bool)],[],[0],[],1064,[]⟩ .z) .z) (.s .z (.s (.s .z (.b (.lx ⟨[(21,.v af)],[],[0,3,19,20],[1128],1448,[]⟩ 0 ⟨[],[],[3],[1128],1448,[]⟩ (cz (.s (.b (cz (.s (.s (.j ⟨[(61,.v .bool)],[],[0,3,4,19,20,21],[1128],2536,[]⟩ .z) .z) (.s (.j ⟨[(74,.v .bool)],[],[0,3,19,20,21],[1128],2536,[]⟩ .z) .z)))) .z))))) (.s (.s .z (.b (.lx ⟨[(78,.v af)],[],[3,77],[1128],1640,[]⟩ 2 ⟨[],[],[3],[1128],1640,[]⟩ (cz (.s (.b (cz (.b (.lx ⟨[(8,.v af)],[],[3,7,77,78],[1128],2024,[]⟩ 4 ⟨[],[],[3,77,78],[1128],2024,[]⟩ (.s .z (.s (.b (.s (.j ⟨[(106,.v .bool)],[],[3,7,8,77,78],[1128],2280,[]⟩ .z) .z)) .z)))))) .z))))) .z)))))
theorem Ud:aJ 111 (Ub n) :=cq (ak (DJ n) (ak Rb (ak uY (ak (Pm n) (ak FT aA))))) func111 Uc n
def ZI:cx xx:=⟨[.mut af],[.mu af],λa=>pY n a.1,none⟩
theorem wK:aJ 112 (ZI n):=by have hcall:eG Tryz.prog 112:=⟨_,func112,by kernel_rfl,by kernel_rfl⟩;refine yn hcall (λ a r h=>?_) rfl;obtain⟨l,⟨⟩⟩:=a;exact akY Tryz.so112 rfl hcall h
def Rc:cx xx:=⟨[.mut af],[.whole 0,.mu af],λa=>p8 n a.1,none⟩
def Rf:Hn SI:=(cz (.s (.s .z (.b (.lx ⟨[(3,.v af)],[],[0],[0],1320,[]⟩ 0 ⟨[],[],[0],[0],1320,[]⟩ (.s .z (.s (.b (.s .z (.s (.s .z (.s (.s .z (.b (.l ⟨[(3,.v af),(5,.v af)],[(0,.l af)],[0,4],[],2536,[]⟩ 2 ⟨[(3,.v af)],[(0,.l af)],[0],[],2536,[]⟩ (.s .z (.s (.j ⟨[(3,.v af)],[(0,.l af)],[0,4,5],[],2792,[]⟩ .z) .z))))) .z)) .z))) .z))))) .z))
theorem vX:aJ 113 (Rc n) :=cq aA func113 Rf n
def Rh:cx xx:=⟨[.d (.sl (.st SI.iv))],[.fresh ay,.d af],λa=>uq n a.1,none⟩
def Ri:Hn SI:=(gi (.s (.s .z (.b (.l ⟨[(4,.o 1576),(19,.v af)],[(1576,.l af)],[0,17,18],[],1577,[(4,af)]⟩ 0 ⟨[(4,.o 1576)],[(1576,.l af)],[0],[],1577,[]⟩ .z))) (te (.s (.s .z (.b (.l ⟨[(8,.o 2409),(38,.v af)],[(2409,.l ay)],[4,7,37],[1576,1961],2410,[(8,ay)]⟩ 2 ⟨[(8,.o 2409)],[(2409,.l ay)],[],[],2410,[]⟩ (cz (.s (.b (cz (.s (.s .z (.b (.l ⟨[(10,.o 2858),(43,.v af)],[(2858,.l af)],[4,7,8,9,37,38,41,42],[1576,1961,2409],2859,[(10,af)]⟩ 4 ⟨[(10,.o 2858)],[(2858,.l af)],[4,7,8,9,37,38],[1576,1961,2409],2859,[]⟩ (cz (.s (.j ⟨[(10,.o 2923)],[(2923,.l af)],[4,7,8,9,37,38,41,42,43],[1576,1961,2409],2924,[]⟩ (.b (.s .z (.s (.j ⟨[(77,.v .bool)],[],[4,7,8,9,10,12,37,38,41,42,43],[1576,1961,2409,2858,3051],3179,[]⟩ .z) .z)))) .z))))) (cz (.b (.l ⟨[(8,.o 3051),(13,.v af)],[(3051,.l ay)],[4,7,9,10,37,38],[1576,1961,2858],3052,[]⟩ 6 ⟨[(8,.o 3051)],[(3051,.l ay)],[4,7,37,38],[1576,1961],3052,[]⟩ .z)))))) .z))))) .z))))
theorem Rj:aJ 72 (Rh n) :=cq (ak (Ud n) (ak (wK n) (ak (vX n) (ak (DJ n) (ak uY aA))))) func72 Ri n
def Yy:cx xx:=⟨[.d bG],[.fresh ay],λa=>uw n a.1,none⟩
theorem JD:aJ 41 (Yy n) :=cq (ak (Rj n) aA) func41 .z n
def alJ:cx xx:=⟨[.d ay],[.d .bool],λa=>nZ a.1,none⟩
theorem pz:aJ 116 alJ :=cq aA func116 .z 0
def afP:cx xx:=⟨[.d ay],[.d ay,.d .bool],λa=>sS a.1,none⟩
theorem JE:aJ 82 afP :=cq (ak pz aA) func82 .z 0
def ZJ:cx xx:=⟨[.d ay,.d ay],[.d ay,.d .bool],λa=>sU a.1 a.2.1,none⟩
def ZK:Hn SI:=(.s .z (.s (.s (.j ⟨[(13,.v .bool)],[],[2,3,4],[1000,1064,1128],1256,[]⟩ .z) .z) .z))
theorem Cj:aJ 73 ZJ :=cq (ak pz (ak JE aA)) func73 ZK 0
def aoh:cx xx:=⟨[.d ay],[.d af],λa=>pG a.1,none⟩
theorem zR:aJ 46 aoh :=cq (ak JE aA) func46 .z 0
def Ue:cx xx:=⟨[.d (.sl ay),.d (.sl ay)],[.d af,.d (.st SI.iv)],λa=>mO n a.1 a.2.1,none⟩
def Uf:Hn SI:=(cz (.s (.s .z (.b (.l ⟨[(6,.v af),(18,.v af)],[(1192,vp)],[1,5,7,16,17],[1064],1576,[]⟩ 0 ⟨[(6,.v af)],[(1192,vp)],[5,7],[1064],1576,[]⟩ (cz (.s (.b (cz (.b (.l ⟨[(6,.v af),(24,.v af)],[(1192,vp)],[1,5,7,9,16,17,18,22,23],[1064,1768],2088,[]⟩ 2 ⟨[(6,.v af)],[(1192,vp)],[1,5,7,16,17,18],[1064],2088,[]⟩ (cz (.s (.j ⟨[(6,.v af)],[(1192,vp)],[1,5,7,9,16,17,18,22,23,24],[1064,1768],2152,[]⟩ .z) .z)))))) .z))))) .z))
theorem Gc:aJ 42 (Ue n) :=cq (ak Cj (ak zR (ak mF (ak (FQ n) aA)))) func42 Uf n
def Rk:cx xx:=⟨[.d ic],[.fresh af,.d (.st SI.iv),.d .bool],λa=>gT n a.1,none⟩
def Rl:Hn SI:=(cz (.s (.s .z (.b (.l ⟨[(19,.v af)],[(1448,.l (.sl ay))],[3,5,17,18],[1128],1832,[]⟩ 0 ⟨[],[(1448,.l (.sl ay))],[3,5],[1128],1832,[]⟩ (cz (.s (.j ⟨[],[(1448,.l (.sl ay))],[3,5,17,18,19],[1128],1896,[]⟩ .z) .z))))) (.s (.s .z (.b (.lx ⟨[(35,.v af)],[],[3,5,34],[1128,1448],2024,[]⟩ 2 ⟨[],[],[3],[1128],2024,[]⟩ (cz (.s (.b (cz (.b (.lx ⟨[(9,.v af)],[],[3,5,8,34,35],[1128,1448],2408,[]⟩ 4 ⟨[],[],[3,5,34,35],[1128,1448],2408,[]⟩ .z)))) .z))))) .z)))
theorem DK:aJ 20 (Rk n) :=cq (ak (JD n) (ak (Gc n) aA)) func20 Rl n
def FU:cx xx:=⟨[.d (.st SI.ix)],[.fresh fA],λa=>dR n a.1,none⟩
def FV:Hn SI:=(cz (.s (.j ⟨[(3,.o 1192)],[(1192,.l fA)],[1],[1000],1193,[(3,fA)]⟩ .z) (.s (.j ⟨[(3,.o 1193)],[(1193,.l fA)],[],[],1194,[]⟩ (cz (.s (.s .z (.s (.s .z (.b (.l ⟨[(41,.v af)],[(2153,HX),(2473,.l .str)],[1,3,10,39,40],[1000,1192,1385],2474,[(9818690,.str)]⟩ 0 ⟨[],[(2153,HX),(2473,.l .str)],[3,10],[1192],2474,[]⟩ .z))) .z)) .z))) .z)))
theorem FW:aJ 16 (FU n) :=cq (ak (zQ n) (ak (DK n) aA)) func16 FV n
def Yz:cx xx:=⟨[.nil,.d af],[.fresh ay],λa=>Oi a.1 a.2.1,none⟩
theorem YA:aJ 237 Yz :=cq aA func237 .z 0
def Rm:cx xx:=⟨[.d (.sl (.sl ay))],[.fresh ay],λa=>zm n a.1,none⟩
def Rn:Hn SI:=(cz (.s (.s .z (.b (.l ⟨[(3,.v af),(11,.v af)],[],[0,9,10],[],1320,[]⟩ 0 ⟨[(3,.v af)],[],[0],[],1320,[]⟩ .z))) (.s .z (.s (.s .z (.b (.l ⟨[(6,.o 1704),(27,.v af)],[(1704,.l ay)],[25,26],[],1705,[]⟩ 2 ⟨[(6,.o 1704)],[(1704,.l ay)],[],[],1705,[]⟩ .z))) .z))))
theorem Ro:aJ 176 (Rm n) :=cq (ak YA aA) func176 Rn n
def MC:cx xx:=⟨[.mut (.st SI.span),.eC [.st SI.span,.st SI.span] af],[.mu (.st SI.span)],λa=>vM n a.1 a.2.1,none⟩
theorem ME:aJ 238 (MC n):=by have hcall:eG Tryz.prog 238:=⟨_,func238,by kernel_rfl,by kernel_rfl⟩;refine yn hcall (λ a r h=>?_) rfl;obtain⟨l,φ,⟨⟩⟩:=a;refine aa7 (X:=xx) (i:=SI.span) (hI:=(inferInstance:Inhabited aK)) Tryz.so238 rfl hcall Tryz.underlying276 (by kernel_rfl) (λ x t ht=>?_) h;cases x;have ht:t∈[_,_]:=ht;simp only[aR,nO,or_false]at ht;rcases ht with rfl|rfl<;>exact⟨_,rfl,trivial⟩
def YB:cx xx:=⟨[.d (.st SI.span),.d (.st SI.span)],[.d af],λa=>yu a.1 a.2.1,none⟩
theorem YC:aJ 239 YB :=cq (ak mF aA) func239 .z 0
def afQ:cx xx:=⟨[.d (.sl ay),.d af],[.fresh (.st SI.span)],λa=>Kq n a.1 a.2.1,none⟩
def afR:Hn SI:=(cz (.s (.s .z (.b (.l ⟨[(5,.o 1320),(14,.v af)],[(1320,.l (.st SI.span))],[1,12,13],[],1321,[(5,.st SI.span)]⟩ 0 ⟨[(5,.o 1320)],[(1320,.l (.st SI.span))],[],[],1321,[]⟩ (cz (.s (.j ⟨[(5,.o 1385)],[(1385,.l (.st SI.span))],[1,12,13,14],[],1386,[]⟩ (.b (.s .z (.s (.j ⟨[(27,.v .bool)],[],[1,5,7,12,13,14],[1320,1513],1641,[]⟩ .z) .z)))) .z))))) (cz (.s (.s .z (.b (.l ⟨[(8,.o 1705),(41,.v af)],[(1705,.l (.st SI.span))],[39,40],[1320],1706,[(8,.st SI.span)]⟩ 2 ⟨[(8,.o 1705)],[(1705,.l (.st SI.span))],[],[],1706,[]⟩ (cz (.s (.j ⟨[(8,.o 1770)],[(1770,.l (.st SI.span))],[39,40,41],[1320],1771,[]⟩ (.b (cz (.s (.j ⟨[(59,.v .bool)],[],[8,10,11,39,40,41],[1320,1705,1898],2218,[]⟩ .z) .z)))) .z))))) .z))))
theorem afS:aJ 177 (afQ n) :=cq (ak (ME n) (ak YC aA)) func177 afR n
def afT:cx xx:=⟨[.d (.sl (.sl ay))],[.fresh (.st SI.strip)],λa=>o8 n a.1,none⟩
def afU:Hn SI:=(gi (.s (.s .z (.b (.l ⟨[(4,.o 1512),(13,.v af)],[(1512,.l af)],[3,11,12],[1128],1513,[(4,af)]⟩ 0 ⟨[(4,.o 1512)],[(1512,.l af)],[3],[1128],1513,[]⟩ .z))) (gi (.s (.s .z (.b (.l ⟨[(7,.o 1961),(8,.v af)],[(1961,.l (.st SI.strip))],[3,4],[1128,1512],1962,[(7,.st SI.strip)]⟩ 2 ⟨[(7,.o 1961)],[(1961,.l (.st SI.strip))],[],[],1962,[]⟩ .z))) .z))))
theorem Tk:aJ 119 (afT n) :=cq (ak (Ro n) (ak (wK n) (ak (vX n) (ak (afS n) aA)))) func119 afU n
def Ug:cx xx:=⟨[.d (.sl (.st SI.span)),.d (.sl (.st SI.span))],[.d .bool],λa=>wB n a.1 a.2.1,none⟩
def Uh:Hn SI:=(cz (.s (.s .z (.b (.lx ⟨[(13,.v af)],[],[0,1,12],[],1576,[]⟩ 0 ⟨[],[],[],[],1576,[]⟩ .z))) .z))
theorem Ui:aJ 175 (Ug n) :=cq aA func175 Uh n
def aik:cx xx:=⟨[.d (.sl (.st SI.strip))],[.fresh ay],λa=>IZ n a.1,none⟩
def ail:Hn SI:=(cz (.s (.s .z (.b (.l ⟨[(3,.o 1192),(4,.v af)],[(1192,.l ay)],[0],[],1193,[(3,ay)]⟩ 0 ⟨[(3,.o 1192)],[(1192,.l ay)],[],[],1193,[]⟩ (.s .z (.b (.s .z (.s (.b (.l ⟨[(5,.v af)],[],[0,3,4],[1192],1641,[]⟩ 2 ⟨[(5,.v af)],[],[0,3,4],[1192],1641,[]⟩ (.s (.s (.j ⟨[(30,.v .bool)],[],[0,3,4,5],[1192],1641,[]⟩ .z) .z) .z))) (.s (.s .z (.b (.l ⟨[(3,.o 2089),(39,.v af)],[(2089,.l ay)],[0,4,5,37,38],[],2090,[]⟩ 4 ⟨[(3,.o 2089)],[(2089,.l ay)],[0,5],[],2090,[]⟩ .z))) .z)))))))) .z))
theorem YD:aJ 118 (aik n) :=cq (ak (Ui n) aA) func118 ail n
def ac8:cx xx:=⟨[.d (.sl ay)],[.d (.sl ay),.d af],λa=>zn a.1,none⟩
theorem Pn:aJ 117 ac8 :=cq aA func117 .z 0
def apJ:cx xx:=⟨[.d (.sl ay)],[.d (.sl ay),.d af],λa=>Se n a.1,none⟩
def apK:Hn SI:=(.s .z (.s (.s .z (.b (.lx ⟨[(8,.v af)],[],[0,6,7],[],1320,[]⟩ 0 ⟨[],[],[0],[],1320,[]⟩ .z))) .z))
theorem apL:aJ 74 (apJ n) :=cq (ak pz (ak (Tk n) (ak (YD n) (ak Pn aA)))) func74 apK n
def Uj:cx xx:=⟨[.d (.sl ay),.d (.sl ay)],[.d .bool],λa=>o9 n a.1 a.2.1,none⟩
def Uk:Hn SI:=(cz (.s (.s .z (.b (.lx ⟨[(13,.v af)],[],[0,1,12],[],1576,[]⟩ 0 ⟨[],[],[],[],1576,[]⟩ .z))) .z))
theorem Gd:aJ 75 (Uj n) :=cq aA func75 Uk n
def aim:cx xx:=⟨[.d (.sl ay)],[.d .bool],λa=>oM n a.1,none⟩
theorem qf:aJ 43 (aim n) :=cq (ak (apL n) (ak (Gd n) aA)) func43 .z n
def Ul:cx xx:=⟨[.d ic,.d (.sl ay)],[.fresh af],λa=>jC n a.1 a.2.1,none⟩
def Um:Hn SI:=(gi (.s (.s .z (.b (.l ⟨[(5,.o 1640),(16,.v af)],[(1640,.l af)],[1,14,15],[],1641,[(5,af)]⟩ 0 ⟨[(5,.o 1640)],[(1640,.l af)],[],[],1641,[]⟩ .z))) .z))
theorem Gf:aJ 21 (Ul n) :=cq (ak (qf n) (ak (JD n) (ak (Gc n) aA))) func21 Um n
def afV:cx xx:=⟨[.d ic,.d (.sl ay)],[.fresh .str],λa=>pq n a.1 a.2.1,none⟩
def afW:Hn SI:=(gi (.s (.s .z (.b (.l ⟨[(6,.v af),(17,.v af)],[],[2,5,15,16],[1000,1256],1640,[]⟩ 0 ⟨[(6,.v af)],[],[2,5],[1000,1256],1640,[]⟩ (cz (.s (.j ⟨[(6,.v af)],[],[2,5,15,16,17],[1000,1256],1704,[]⟩ (.b (.s .z (.s (.j ⟨[(44,.v .bool)],[],[2,5,6,7,15,16,17],[1000,1256],2024,[]⟩ .z) .z)))) .z))))) (.s .z (.s (.s .z (.b (.l ⟨[(9,.o 1896),(49,.v af)],[(1896,.l .str)],[2,6,47,48],[1000,1256],1897,[(9,.str)]⟩ 2 ⟨[(9,.o 1896)],[(1896,.l .str)],[],[],1897,[]⟩ (cz (.s (.j ⟨[(9,.o 1961)],[(1961,.l .str)],[2,6,47,48,49],[1000,1256],1962,[]⟩ (.b (.s .z (.s (.j ⟨[(68,.v .bool)],[],[2,6,9,10,47,48,49],[1000,1256,1896],2281,[]⟩ .z) .z)))) .z))))) .z))))
theorem JF:aJ 23 (afV n) :=cq (ak (Gf n) aA) func23 afW n
def Po:cx xx:=⟨[.d (.sl .str),.d .str],[.d af],λa=>rR n a.1 a.2.1,none⟩
def Pp:Hn SI:=(.s .z (.s (.s .z (.b (.lx ⟨[(8,.v af)],[],[0,1,7],[],1256,[]⟩ 0 ⟨[],[],[],[],1256,[]⟩ .z))) .z))
theorem Pq:aJ 89 (Po n) :=cq aA func89 Pp n
def JG:cx xx:=⟨[.d (.sl .str),.d .str],[.d .bool],λa=>fV n a.1 a.2.1,none⟩
theorem qg:aJ 55 (JG n) :=cq (ak (Pq n) aA) func55 .z n
def MF:cx xx:=⟨[.d .str,.ref (.sl .str)],[.d .bool],λa=>kP n a.1 a.2.1,none⟩
theorem MH:aJ 76 (MF n) :=cq (ak (qg n) aA) func76 .z n
def Gz:cx xx:=⟨[.d (.sl .str),.eC [.str] .bool],[.d af],λa=>qN n a.1 a.2.1,none⟩
def GA:Hn SI:=(.s .z (.s (.s .z (.b (.lx ⟨[(8,.v af)],[],[0,1,7],[],1256,[]⟩ 0 ⟨[],[],[],[],1256,[]⟩ .z))) .z))
theorem GD:aJ 120 (Gz n) :=cq aA func120 GA n
def Ck:cx xx:=⟨[.d (.sl .str),.eC [.str] .bool],[.d .bool],λa=>gF n a.1 a.2.1,none⟩
theorem Cm:aJ 77 (Ck n) :=cq (ak (GD n) aA) func77 .z n
def Un:cx xx:=⟨[.d aY,.d (.sl .str)],[.d .bool],λa=>q9 n a.1 a.2.1,none⟩
theorem Uo:aJ 44 (Un n) :=cq (ak (Cm n) (ak (MH n) aA)) func44 .z n
def YE:cx xx:=⟨[.d ic,.d (.sl .str),.d af],[.fresh af],λa=>j3 n a.1 a.2.1 a.2.2.1,none⟩
def YF:Hn SI:=(cz (.s (.s .z (.b (.l ⟨[(7,.o 1448),(13,.v af)],[(1448,.l af)],[1,2,11,12],[],1449,[(7,af)]⟩ 0 ⟨[(7,.o 1448)],[(1448,.l af)],[],[],1449,[]⟩ (cz (.s (.j ⟨[(7,.o 1513)],[(1513,.l af)],[1,2,11,12,13],[],1514,[]⟩ (.b (.s .z (.s (.j ⟨[(37,.v .bool)],[],[1,2,7,8,11,12,13],[1448],1897,[]⟩ .z) .z)))) .z))))) .z))
theorem zS:aJ 22 (YE n) :=cq (ak (Uo n) aA) func22 YF n
def ain:cx xx:=⟨[.d (.sl ay)],[.d ay,.d .bool],λa=>Oo n a.1,none⟩
def aio:Hn SI:=(.s .z (.s (.s .z (.b (.l ⟨[(3,.v .bool),(8,.v af)],[(1000,vn)],[2,6,7],[],1320,[]⟩ 0 ⟨[(3,.v .bool)],[(1000,vn)],[2],[],1320,[]⟩ (cz (.s (.j ⟨[(3,.v .bool)],[(1000,vn)],[2,6,7,8],[],1384,[]⟩ .z) .z))))) .z))
theorem aip:aJ 121 (ain n) :=cq (ak pz aA) func121 aio n
def afX:cx xx:=⟨[.d (.sl ay)],[.d ay,.d .bool],λa=>Dq n a.1,none⟩
def afY:Hn SI:=(.s .z (.s (.s (.j ⟨[(11,.v .bool)],[],[0,2],[1000],1128,[]⟩ .z) .z) .z))
theorem Tm:aJ 78 (afX n) :=cq (ak (qf n) (ak (aip n) aA)) func78 afY n
def aiq:cx xx:=⟨[.d ay,.d af],[.d ay,.d .bool],λa=>I4 a.1 a.2.1,none⟩
def air:Hn SI:=(.s .z (.s (.s (.j ⟨[(12,.v .bool)],[],[1,2,4],[1000,1064],1192,[]⟩ .z) .z) .z))
theorem ais:aJ 79 aiq :=cq (ak pz (ak JE aA)) func79 air 0
def vk:cx xx:=⟨[.d (.sl (.st SI.strip)),.d af,.eC [.st SI.strip,af] af],[.d af,.d .bool],λa=>jD n a.1 a.2.1 a.2.2.1,none⟩
def vo:Hn SI:=(gi (.s (.b (.l ⟨[(9,.v af),(10,.v af)],[],[0,1,2,8],[],1512,[]⟩ 0 ⟨[(9,.v af)],[],[0,1,2,8],[],1512,[]⟩ .z)) .z))
theorem vv:aJ 242 (vk n) :=cq aA func242 vo n
def ait:cx xx:=⟨[.d (.st SI.strip),.d af],[.d af],λa=>wY a.1 a.2.1,none⟩
theorem aiu:aJ 243 ait :=cq aA func243 .z 0
def apM:cx xx:=⟨[.d (.sl (.st SI.strip)),.d af],[.d (.sl (.st SI.span))],λa=>XD n a.1 a.2.1,none⟩
def apN:Hn SI:=(cz (.s (.s (.j ⟨[(25,.v .bool)],[],[0,5],[],1576,[]⟩ .z) .z) .z))
theorem apO:aJ 179 (apM n) :=cq (ak (vv n) (ak aiu aA)) func179 apN n
def YG:cx xx:=⟨[.nil,.d af],[.fresh (.st SI.span)],λa=>Oq a.1 a.2.1,none⟩
theorem YH:aJ 270 YG :=cq aA func270 .z 0
def Rp:cx xx:=⟨[.d (.sl (.sl (.st SI.span)))],[.fresh (.st SI.span)],λa=>zo n a.1,none⟩
def Rq:Hn SI:=(cz (.s (.s .z (.b (.l ⟨[(3,.v af),(11,.v af)],[],[0,9,10],[],1320,[]⟩ 0 ⟨[(3,.v af)],[],[0],[],1320,[]⟩ .z))) (.s .z (.s (.s .z (.b (.l ⟨[(6,.o 1704),(27,.v af)],[(1704,.l (.st SI.span))],[25,26],[],1705,[]⟩ 2 ⟨[(6,.o 1704)],[(1704,.l (.st SI.span))],[],[],1705,[]⟩ .z))) .z))))
theorem Rs:aJ 240 (Rp n) :=cq (ak YH aA) func240 Rq n
def vY:cx xx:=⟨[.d (.sl (.st SI.span)),.d af,.eC [.st SI.span,af] af],[.d af,.d .bool],λa=>jQ n a.1 a.2.1 a.2.2.1,none⟩
def vZ:Hn SI:=(gi (.s (.b (.l ⟨[(9,.v af),(10,.v af)],[],[0,1,2,8],[],1512,[]⟩ 0 ⟨[(9,.v af)],[],[0,1,2,8],[],1512,[]⟩ .z)) .z))
theorem wh:aJ 271 (vY n) :=cq aA func271 vZ n
def YI:cx xx:=⟨[.d (.st SI.span),.d af],[.d af],λa=>l7 a.1 a.2.1,none⟩
theorem YJ:aJ 272 YI :=cq aA func272 .z 0
def afZ:cx xx:=⟨[.d (.sl (.st SI.span)),.d af],[.d .bool],λa=>Dr n a.1 a.2.1,none⟩
theorem af0:aJ 241 (afZ n) :=cq (ak (wh n) (ak YJ aA)) func241 .z n
def aiv:cx xx:=⟨[.d (.sl (.st SI.span)),.d (.sl (.st SI.span)),.eC [.bool,.bool] .bool],[.fresh (.st SI.span)],λa=>I5 n a.1 a.2.1 a.2.2.1,none⟩
def aiw:Hn SI:=(cz (.s (.s .z (.b (.l ⟨[(7,.o 1512),(19,.v af)],[(1512,.l af)],[0,1,2,17,18],[1320],1513,[(7,af)]⟩ 0 ⟨[(7,.o 1512)],[(1512,.l af)],[0,1,2],[],1513,[]⟩ .z))) (gi (.s (.s .z (.b (.l ⟨[(10,.o 1961),(11,.v af)],[(1961,.l (.st SI.span))],[0,1,2,7],[1512],1962,[(10,.st SI.span)]⟩ 2 ⟨[(10,.o 1961)],[(1961,.l (.st SI.span))],[],[],1962,[]⟩ (.s .z (.s (.j ⟨[(10,.o 2218)],[(2218,.l (.st SI.span))],[0,1,2,7,11],[1512],2219,[]⟩ (.b (gi (.s (.j ⟨[(68,.v .bool)],[],[0,1,2,7,10,11,12,13],[1512,1961],3370,[]⟩ .z) .z)))) .z))))) .z))))
theorem aix:aJ 178 (aiv n) :=cq (ak (Rs n) (ak (wK n) (ak (vX n) (ak (af0 n) aA)))) func178 aiw n
def ac9:cx xx:=⟨[.d (.sl ay),.d (.sl ay),.eC [.bool,.bool] .bool],[.d (.sl ay),.d af],λa=>ES n a.1 a.2.1 a.2.2.1,none⟩
def ada:Hn SI:=(.s .z (.s (.s (.j ⟨[(20,.v .bool)],[],[0,1,2],[],1128,[]⟩ .z) .z) (.s (.f [6,7]) (.s .z (.s (.s .z (.b (.l ⟨[(33,.v af)],[(1832,.l (.st SI.strip))],[2,8,9,10,31,32],[],2152,[]⟩ 0 ⟨[],[(1832,.l (.st SI.strip))],[10],[],2152,[]⟩ .z))) .z)))))
theorem adb:aJ 122 (ac9 n) :=cq (ak (qf n) (ak (Tk n) (ak (apO n) (ak (aix n) (ak (YD n) (ak Pn aA)))))) func122 ada n
def YK:cx xx:=⟨[.d .bool,.d .bool],[.d .bool],λa=>yx a.1 a.2.1,none⟩
theorem YL:aJ 123 YK :=cq aA func123 .z 0
def af2:cx xx:=⟨[.d (.sl ay),.d (.sl ay)],[.d (.sl ay),.d af],λa=>yT n a.1 a.2.1,none⟩
theorem Tn:aJ 80 (af2 n) :=cq (ak (adb n) (ak YL aA)) func80 .z n
def alK:cx xx:=⟨[.d (.sl ay)],[.d af],λa=>Kr n a.1,none⟩
def alL:Hn SI:=(gi (.s (.s .z (.b (.l ⟨[(3,.v af),(11,.v af)],[],[9,10],[],1512,[]⟩ 0 ⟨[(3,.v af)],[],[],[],1512,[]⟩ .z))) .z))
theorem Rt:aJ 81 (alK n) :=cq (ak (qf n) (ak zR aA)) func81 alL n
def YM:cx xx:=⟨[.d gB,.d af],[.d ay,.d .bool],λa=>l8 n a.1 a.2.1,none⟩
def YN:Hn SI:=(cz (.s (.s (.j ⟨[(26,.v .bool)],[],[1,2,4,6],[1000,1064,1576],1768,[]⟩ .z) .z) .z))
theorem JH:aJ 45 (YM n) :=cq (ak (Tm n) (ak ais (ak (Tn n) (ak (Rt n) (ak zR aA))))) func45 YN n
def alM:cx xx:=⟨[],[.d .bool],λ_=>none,some (@pbG xx SI.lf SI.ff (inferInstance:Inhabited bg) wy 49 47)⟩
theorem alN:aJ 48 alM:=
 P1 (nN func48 (by kernel_rfl:Tryz.f48.body=some (Tryz.f48.body.getD .skip)) (by kernel_rfl)) (aoX (X:=xx) (ip:=SI.lf) (ik:=SI.ff) (hI:=(inferInstance:Inhabited bg)) Tryz.so48 rfl (nN func48 (by kernel_rfl:Tryz.f48.body=some (Tryz.f48.body.getD .skip)) (by kernel_rfl)) (nN func49 (by kernel_rfl:Tryz.f49.body=some (Tryz.f49.body.getD .skip)) (by kernel_rfl)) (fs:=(Tryz.prog.underlying 50).elim #[] λd=>match d with|.struct fs=>fs|_=>#[]) (by kernel_rfl) (by kernel_rfl) Sf (tm:=130) (kt:=133) (et:=3) (ei:=(R9 tab 3).get (by kernel_rfl)) (by kernel_rfl) (by kernel_rfl) (abR (mk:=(2,.i64)) Sf (by kernel_rfl)) (λ r=>by cases r<;>rfl) wy
  (aqr (ti:=3) ao2 aqw (λ x y=>ajy (X:=xx) (cs:=[.int .i64,.int .i64]) (r:=.int .i64) mF (x,y,()) (arD x y)) λa b c d e=>ajy (X:=xx) (cs:=[.sl af]) (r:=.int .i64) (FQ 10) ([a,b,c,d,e],()) (aeZ a b c d e)))
def Ru:cx xx:=⟨[.d (.sl gB)],[.fresh eO],λa=>kT n a.1,none⟩
def Rv:Hn SI:=(te (.s (.s .z (.b (.l ⟨[(3,.o 1640),(17,.v af)],[(1128,.m (.st SI.ff) af),(1320,.m af .bool),(1640,.l eO)],[4,5,15,16],[1192],1641,[(3,eO)]⟩ 0 ⟨[(3,.o 1640)],[(1128,.m (.st SI.ff) af),(1640,.l eO)],[4],[1192],1641,[]⟩ (cz (.s (.j ⟨[(3,.o 1705)],[(1128,.m (.st SI.ff) af),(1320,.m af .bool),(1705,.l eO)],[4,5,15,16,17],[1192],1706,[]⟩ (.b (.s .z (.s (.s (.j ⟨[(34,.v .bool)],[],[3,4,5,7,15,16,17],[1128,1192,1320,1640,1833],1961,[]⟩ .z) .z) (cz (.b (.l ⟨[(3,.o 2281),(38,.v af)],[(1128,.m (.st SI.ff) af),(2281,.l eO)],[4,5,7,15,16,17],[1192,1320,1833],2282,[]⟩ 2 ⟨[(3,.o 2281)],[(1128,.m (.st SI.ff) af),(2281,.l eO)],[4,5,15,16,17],[1192,1320],2282,[]⟩ (cz (.s (.j ⟨[(3,.o 2346)],[(1128,.m (.st SI.ff) af),(2346,.l eO)],[4,5,7,15,16,17,38],[1192,1320,1833],2347,[]⟩ (.b (xj (.b (.l ⟨[(3,.o 3754),(56,.v af)],[(3754,.l eO)],[4,5,7,8,15,16,17,38],[1128,1192,1320,1833],3755,[]⟩ 4 ⟨[(3,.o 3754)],[(3754,.l eO)],[4,5,7,15,16,17,38],[1128,1192,1320,1833],3755,[]⟩ .z))))) .z))))))))) .z))))) .z))
theorem wm:aJ 24 (Ru n) :=cq (ak (JH n) (ak zR (ak alN aA))) func24 Rv n
def Uq:cx xx:=⟨[.d gB,.d eO],[.d (.st SI.er),.d .bool],λa=>mQ n a.1 a.2.1,none⟩
def Ur:Hn SI:=(cz (.s (.s (.j ⟨[(54,.v .bool)],[],[3,4,6],[1064,1128,1704],1896,[]⟩ .z) .z) (.s .z (.s (.j ⟨[],[(2408,.c 9 [[.v af,.v af,.v af,.v af,.v af,.v af,.v af,.v af,.v .bool]])],[3,4,8],[1064,1128],2536,[]⟩ .z) .z))))
theorem xO:aJ 26 (Uq n) :=cq (ak (JH n) aA) func26 Ur n
def aiy:cx xx:=⟨[.d gB,.d eO],[.d (.st SI.er)],λa=>I6 n a.1 a.2.1,none⟩
theorem YO:aJ 35 (aiy n) :=cq (ak (xO n) aA) func35 .z n
def Us:cx xx:=⟨[.d (.sl ay)],[.fresh ay],λa=>BN a.1,none⟩
theorem Ut:aJ 185 Us :=cq aA func185 .z 0
def YP:cx xx:=⟨[.d (.sl af)],[.fresh af],λa=>EW a.1,none⟩
theorem YQ:aJ 186 YP :=cq aA func186 .z 0
def aiz:cx xx:=⟨[.d gB],[.d gB],λa=>Ov a.1,none⟩
theorem aiA:aJ 134 aiz :=cq (ak Ut (ak YQ aA)) func134 .z 0
def alO:cx xx:=⟨[.d (.sl gB),.d af],[.d gB,.d .bool],λa=>Ow n a.1 a.2.1,none⟩
def alP:Hn SI:=(.s .z (.s (.s .z (.b (.lx ⟨[(10,.v af)],[],[1,4,8,9],[1000],1320,[]⟩ 0 ⟨[],[],[4],[1000],1320,[]⟩ .z))) .z))
theorem alQ:aJ 86 (alO n) :=cq (ak aiA aA) func86 alP n
def Ps:cx xx:=⟨[.d (.st SI.er),.d af,.d af],[.fresh aD],λa=>oN n a.1 a.2.1 a.2.2.1,none⟩
def Pv:Hn SI:=(cz (.s (.s .z (.b (.l ⟨[(7,.o 1448),(13,.v af)],[(1448,.l aD)],[1,2,11,12],[],1449,[(7,aD)]⟩ 0 ⟨[(7,.o 1448)],[(1448,.l aD)],[],[],1449,[]⟩ (cz (.s (.j ⟨[(7,.o 1513)],[(1513,.l aD)],[1,2,11,12,13],[],1514,[]⟩ (.b (.s .z (.s (.j ⟨[(25,.v .bool)],[],[1,2,7,9,11,12,13],[1448,1705],1897,[]⟩ .z) .z)))) .z))))) .z))
theorem Bl:aJ 142 (Ps n) :=cq aA func142 Pv n
def ZL:cx xx:=⟨[.d (.st SI.er)],[.fresh aD],λa=>sW n a.1,none⟩
theorem LV:aJ 136 (ZL n) :=cq (ak (Bl n) aA) func136 .z n
def GH:cx xx:=⟨[.d aD],[.d .bool],λa=>gJ a.1,none⟩
def GI:Hn SI:=(cz (.s (.s (.j ⟨[(26,.v .bool)],[],[1],[1000],1384,[]⟩ .z) .z) (.s (.s (.j ⟨[(34,.v .bool)],[],[1],[1000],1384,[]⟩ .z) .z) .z)))
theorem lu:aJ 143 GH :=cq (ak pz aA) func143 GI 0
def YR:cx xx:=⟨[.d (.st SI.GS),.d (.st SI.GS)],[.d .bool],λa=>yA a.1 a.2.1,none⟩
theorem YS:aJ 188 YR :=cq (ak Cj aA) func188 .z 0
def Pw:cx xx:=⟨[.d aD,.ref aD],[.d .bool],λa=>oO a.1 a.2.1,none⟩
theorem Px:aJ 187 Pw :=cq (ak YS aA) func187 .z 0
def GJ:cx xx:=⟨[.d (.sl aD),.eC [aD] .bool],[.d af],λa=>qO n a.1 a.2.1,none⟩
def GK:Hn SI:=(.s .z (.s (.s .z (.b (.lx ⟨[(8,.v af)],[],[0,1,7],[],1256,[]⟩ 0 ⟨[],[],[],[],1256,[]⟩ .z))) .z))
theorem GL:aJ 158 (GJ n) :=cq aA func158 GK n
def Cn:cx xx:=⟨[.d (.sl aD),.eC [aD] .bool],[.d .bool],λa=>gG n a.1 a.2.1,none⟩
theorem rH:aJ 97 (Cn n) :=cq (ak (GL n) aA) func97 .z n
def ade:cx xx:=⟨[.d (.int .u8)],[.d .bool],λa=>EZ a.1,none⟩
theorem Py:aJ 273 ade :=cq aA func273 .z 0
def aiB:cx xx:=⟨[.d .str,.eC [.int .u8] .bool],[.d af],λa=>Ox n a.1 a.2.1,none⟩
def aiC:Hn SI:=(cz (.s (.b (.l ⟨[(5,.v af)],[],[0,1],[],1128,[]⟩ 0 ⟨[(5,.v af)],[],[],[],1128,[]⟩ (.s (.s (.j ⟨[(16,.v .bool)],[],[0,1,5],[],1128,[]⟩ .z) .z) .z))) .z))
theorem aiD:aJ 274 (aiB n) :=cq aA func274 aiC n
def af3:cx xx:=⟨[.d (.int .u8)],[.d .bool],λa=>QE a.1,none⟩
theorem af4:aJ 276 af3 :=cq aA func276 .z 0
def ZM:cx xx:=⟨[.d (.int .u8)],[.d .bool],λa=>AO a.1,none⟩
theorem ZN:aJ 275 ZM :=cq (ak Py (ak af4 aA)) func275 .z 0
def aiE:cx xx:=⟨[.d .str],[.d .bool],λa=>Oy n a.1,none⟩
def aiF:Hn SI:=(.s .z (.s (.s (.j ⟨[(15,.v .bool)],[],[0],[],1064,[]⟩ .z) .z) .z))
theorem aiG:aJ 245 (aiE n) :=cq (ak Py (ak (aiD n) (ak ZN aA))) func245 aiF n
def MI:cx xx:=⟨[.d .str,.d .str],[.d .bool],λa=>strings_Contains a.1 a.2.1,none⟩
theorem MJ:aJ 246 MI:=by
 have hcall:eG Tryz.prog 246:=⟨_,func246,by kernel_rfl,by kernel_rfl⟩;refine yn hcall (λ a r h=>?_) rfl;obtain⟨s,b,⟨⟩⟩:=a;have h':strings_Contains s b=some r:=h;unfold strings_Contains at h';cases hb:Nat.ble s.size 4000000 with
 |false=>rw[hb]at h';cases h'
 |true=>
  rw[hb]at h';have h'':some (Lib.contains s.data.toList b.data.toList)=some r:=h';injection h'' with e;subst e;have hw:=Nat.le_of_ble_eq_true hb;exact acy (g:=0) rfl hcall λm w hm=>ae2 s b m w (by omega) hm
def ZO:cx xx:=⟨[.d .str],[.d .bool],λa=>xh n a.1,none⟩
theorem ZP:aJ 189 (ZO n) :=cq (ak (aiG n) (ak MJ aA)) func189 .z n
def YT:cx xx:=⟨[.d (.st SI.er)],[.d .bool],λa=>qC n a.1,none⟩
def YU:Hn SI:=(cz (.s (.s (.j ⟨[(42,.v .bool)],[],[1,3],[1000,1192],1320,[]⟩ .z) .z) (.s (.s .z (.b (.lx ⟨[(45,.v af)],[],[1,3,43,44],[1000,1192],1512,[]⟩ 0 ⟨[],[],[1],[1000],1512,[]⟩ (cz (.s (.b (.s .z (.s (.j ⟨[(59,.v .bool)],[],[1,3,43,44,45],[1000,1192],1960,[]⟩ .z) .z))) .z))))) (.s (.s .z (.b (.lx ⟨[(64,.v af)],[],[62,63],[],1768,[]⟩ 2 ⟨[],[],[],[],1768,[]⟩ (cz (.s (.b (cz (.s (.s .z (.b (.lx ⟨[(72,.v af)],[(2088,.m .str .bool)],[7,8,62,63,64,70,71],[1960],2472,[]⟩ 4 ⟨[],[],[7,62,63,64],[1960],2472,[]⟩ (cz (.s (.b (.s .z (.s (.s (.j ⟨[(95,.v .bool)],[],[7,8,10,62,63,64,70,71,72],[1960,2088,2664],2792,[]⟩ .z) .z) .z))) .z))))) .z))) .z))))) .z))))
theorem YV:aJ 135 (YT n) :=cq (ak (LV n) (ak lu (ak (rH n) (ak Px (ak (ZP n) aA))))) func135 YU n
def MK:cx xx:=⟨[.d bL,.ref (.st SI.Entry)],[.d .bool],λa=>vN a.1 a.2.1,none⟩
theorem ML:aJ 138 MK :=cq aA func138 .z 0
def MN:cx xx:=⟨[.d (.sl bL),.eC [bL] .bool],[.d af],λa=>vO n a.1 a.2.1,none⟩
def MO:Hn SI:=(.s .z (.s (.s .z (.b (.lx ⟨[(8,.v af)],[],[0,1,7],[],1256,[]⟩ 0 ⟨[],[],[],[],1256,[]⟩ .z))) .z))
theorem MP:aJ 190 (MN n) :=cq aA func190 MO n
def GN:cx xx:=⟨[.d (.sl bL),.eC [bL] .bool],[.d .bool],λa=>nk n a.1 a.2.1,none⟩
theorem GQ:aJ 137 (GN n) :=cq (ak (MP n) aA) func137 .z n
def Uu:cx xx:=⟨[.d ic,.d gB,.d (.st SI.er)],[.d .bool],λa=>kK n a.1 a.2.1 a.2.2.1,none⟩
def Uv:Hn SI:=(.s .z (.s (.s (.j ⟨[(30,.v .bool)],[],[3,4,5],[1000,1064,1128],1256,[]⟩ .z) .z) (.s (.s .z (.b (.lx ⟨[(34,.v af)],[],[3,4,5,32,33],[1000,1064,1128,1320],1512,[]⟩ 0 ⟨[],[],[3,5],[1000,1128],1512,[]⟩ (cz (.s (.b (cz (.s (.j ⟨[(58,.v .bool)],[],[3,4,5,32,33,34],[1000,1064,1128,1320],2600,[]⟩ .z) .z))) .z))))) (.s (.s .z (.b (.lx ⟨[(63,.v af)],[],[3,61,62],[1000],1768,[]⟩ 2 ⟨[],[],[],[],1768,[]⟩ (cz (.s (.b (cz (.b (.lx ⟨[(70,.v af)],[],[3,61,62,63,68,69],[1000],2344,[]⟩ 4 ⟨[],[],[3,61,62,63],[1000],2344,[]⟩ .z)))) .z))))) .z))))
theorem Uw:aJ 87 (Uu n) :=cq (ak (YV n) (ak (qf n) (ak (LV n) (ak (Tn n) (ak (Rt n) (ak zR (ak (GQ n) (ak ML aA)))))))) func87 Uv n
def Rw:cx xx:=⟨[.d (.st SI.er)],[.fresh aD],λa=>uF n a.1,none⟩
def Rx:Hn SI:=(cz (.s (.s .z (.b (.l ⟨[(3,.o 1448),(9,.v af)],[(1448,.l aD)],[7,8],[],1449,[(3,aD)]⟩ 0 ⟨[(3,.o 1448)],[(1448,.l aD)],[],[],1449,[]⟩ .z))) .z))
theorem Ry:aJ 88 (Rw n) :=cq aA func88 Rx n
def ZQ:cx xx:=⟨[.d (.st SI.kw),.d (.st SI.er)],[.d (.st SI.li),.d af],λa=>AP n a.1 a.2.1,none⟩
theorem ZR:aJ 53 (ZQ n) :=cq (ak (alQ n) (ak (Uw n) (ak (Ry n) (ak (JF n) aA)))) func53 .z n
def MQ:cx xx:=⟨[.mut ay,.eC [ay,ay] af],[.mu ay],λa=>vP n a.1 a.2.1,none⟩
theorem MR:aJ 195 (MQ n):=by have hcall:eG Tryz.prog 195:=⟨_,func195,by kernel_rfl,by kernel_rfl⟩;refine yn hcall (λ a r h=>?_) rfl;obtain⟨l,φ,⟨⟩⟩:=a;refine aa7 (X:=xx) (i:=SI.m5) (hI:=(inferInstance:Inhabited ax)) Tryz.so195 rfl hcall Tryz.underlying90 (by kernel_rfl) (λ x t ht=>?_) h;cases x;have ht:t∈[_,_,_,_]:=ht;simp only[aR,nO,or_false]at ht;rcases ht with rfl|rfl|rfl|rfl<;>exact⟨_,rfl,trivial⟩
def DL:cx xx:=⟨[.d ay,.d ay],[.d af],λa=>jh a.1 a.2.1,none⟩
theorem DR:aJ 196 DL :=cq (ak mF aA) func196 .z 0
def Pz:cx xx:=⟨[.d aD],[.d af],λa=>lJ a.1,none⟩
def PD:Hn SI:=(.s .z (.s (.s (.j ⟨[(9,.v .bool)],[],[1],[1000],1128,[]⟩ .z) .z) .z))
theorem Bn:aJ 200 Pz :=cq (ak lu aA) func200 PD 0
def Ux:cx xx:=⟨[.d aD],[.d af],λa=>pu a.1,none⟩
theorem Gg:aJ 198 Ux :=cq (ak lu (ak zR (ak Bn aA))) func198 .z 0
def Co:cx xx:=⟨[.d aD],[.d af],λa=>om a.1,none⟩
theorem Cq:aJ 201 Co :=cq aA func201 .z 0
def DT:cx xx:=⟨[.d aD],[.d af],λa=>pI a.1,none⟩
theorem DU:aJ 202 DT :=cq aA func202 .z 0
def Uy:cx xx:=⟨[.d ay,.d af],[.d ay,.d .bool],λa=>BP a.1 a.2.1,none⟩
theorem Uz:aJ 254 Uy :=cq (ak pz aA) func254 .z 0
def Rz:cx xx:=⟨[.d (.st SI.Entry),.ref (.st SI.nr),.ref af],[.d .bool],λa=>kU a.1 a.2.1 a.2.2.1,none⟩
theorem RA:aJ 286 Rz :=cq aA func286 .z 0
def JI:cx xx:=⟨[.d (.sl (.st SI.Entry)),.eC [.st SI.Entry] .bool],[.d af],λa=>kV n a.1 a.2.1,none⟩
def JJ:Hn SI:=(.s .z (.s (.s .z (.b (.lx ⟨[(8,.v af)],[],[0,1,7],[],1256,[]⟩ 0 ⟨[],[],[],[],1256,[]⟩ .z))) .z))
theorem xC:aJ 250 (JI n) :=cq aA func250 JJ n
def ZT:cx xx:=⟨[.d ic,.d af],[.d af],λa=>AQ n a.1 a.2.1,none⟩
def ZU:Hn SI:=(cz (.s (.s .z (.b (.lx ⟨[(14,.v af)],[],[3,5,12,13],[1064,1256],1640,[]⟩ 0 ⟨[],[],[],[],1640,[]⟩ (cz (.s (.b (gi (.s (.j ⟨[(8,.v af)],[],[],[],2344,[]⟩ .z) .z))) .z))))) .z))
theorem ZV:aJ 255 (ZT n) :=cq (ak (xC n) (ak RA aA)) func255 ZU n
def PE:cx xx:=⟨[.d ic,.d aD],[.d af],λa=>jS n a.1 a.2.1,none⟩
def PG:Hn SI:=(cz (.s (.s (.j ⟨[(20,.v .bool)],[],[5,6],[],1704,[]⟩ .z) .z) .z))
theorem PI:aJ 205 (PE n) :=cq (ak (ZV n) (ak Gg aA)) func205 PG n
def GR:dp xx:=⟨[.p 0],[(0,gb),(1,.l aD)],[.v af],[(0,gb),(1,.l aD)],λv=>nu n v.1 v.2.1 v.2.2.1 v.2.2.2.1 v.2.2.2.2.1 v.2.2.2.2.2.1 v.2.2.2.2.2.2.1 v.2.2.2.2.2.2.2.1 v.2.2.2.2.2.2.2.2.1 v.2.2.2.2.2.2.2.2.2⟩
def GU:cx xx:=⟨[],[.d .bool],λ_=>none,some (GR n)⟩
theorem GV:aJ 144 (GU n) :=pc (ak (Rt n) aA) func144 .z n (by kernel_rfl) λ_=>by kernel_rfl
def DW:dp xx:=⟨[.p 0],[(0,gb),(1,.l aD)],[.v af],[(0,gb),(1,.l aD)],λv=>ji n v.1 v.2.1 v.2.2.1 v.2.2.2.1 v.2.2.2.2.1 v.2.2.2.2.2.1 v.2.2.2.2.2.2.1 v.2.2.2.2.2.2.2.1 v.2.2.2.2.2.2.2.2.1 v.2.2.2.2.2.2.2.2.2⟩
def DX:cx xx:=⟨[],[.d .bool],λ_=>none,some (DW n)⟩
def DY:Hn SI:=(gi (.s (.s .z (.b (.l ⟨[(3,.o 1960),(23,.v af)],[(1448,.l ay),(1960,.l af)],[4,21,22],[0,1],1961,[(3,af)]⟩ 0 ⟨[(3,.o 1960)],[(1448,.l ay),(1960,.l af)],[4],[0,1],1961,[]⟩ .z))) (gi (.s (.s .z (.b (.l ⟨[(7,.v af),(56,.v af)],[],[3,4,55],[0,1,1448,1960],2601,[]⟩ 2 ⟨[(7,.v af)],[],[],[0,1],2601,[]⟩ (cz (.s (.b (gi (.b (.l ⟨[(7,.v af),(9,.v af),(61,.v af)],[],[3,4,8,55,56,59,60],[0,1,1448,1960],3049,[]⟩ 4 ⟨[(7,.v af)],[],[3,4,55,56],[0,1,1448,1960],3049,[]⟩ (cz (.s (.j ⟨[(7,.v af),(9,.v af)],[],[3,4,8,55,56,59,60,61],[0,1,1448,1960],3113,[]⟩ (.b (.s .z (.s (.j ⟨[(86,.v .bool)],[],[3,4,7,8,9,11,55,56,59,60,61],[0,1,1448,1960,3241],3369,[]⟩ .z) .z)))) .z)))))) .z))))) .z))))
theorem DZ:aJ 145 (DX n) :=pc (ak (MR n) (ak DR (ak (wK n) aA))) func145 DY n (by kernel_rfl) λ_=>by kernel_rfl
def GX:dp xx:=⟨[.p 0,(.f 198 [] [])],[(0,gb),(1,.l aD)],[.v af],[(0,gb),(1,.l aD)],λv=>qP n v.1 v.2.1 v.2.2.1 v.2.2.2.1 v.2.2.2.2.1 v.2.2.2.2.2.1 v.2.2.2.2.2.2.1 v.2.2.2.2.2.2.2.1 v.2.2.2.2.2.2.2.2.1 v.2.2.2.2.2.2.2.2.2⟩
def GY:cx xx:=⟨[],[.d .bool],λ_=>none,some (GX n)⟩
def GZ:Hn SI:=(cz (.s (.s .z (.b (.l ⟨[(5,.v af),(13,.v af)],[],[1,11,12],[0,1],1512,[]⟩ 0 ⟨[(5,.v af)],[],[],[0,1],1512,[]⟩ .z))) .z))
theorem G5:aJ 197 (GY n) :=pc (ak Gg aA) func197 GZ n (by kernel_rfl) λ_=>by kernel_rfl
def D5:dp xx:=⟨[.p 0],[(0,gb),(1,.l aD)],[.v af],[(0,gb),(1,.l aD)],λv=>kZ n v.1 v.2.1 v.2.2.1 v.2.2.2.1 v.2.2.2.2.1 v.2.2.2.2.2.1 v.2.2.2.2.2.2.1 v.2.2.2.2.2.2.2.1 v.2.2.2.2.2.2.2.2.1 v.2.2.2.2.2.2.2.2.2⟩
def D6:cx xx:=⟨[],[.d .bool],λ_=>none,some (D5 n)⟩
theorem D7:aJ 146 (D6 n) :=pc (ak (G5 n) aA) func146 .z n (by kernel_rfl) λ_=>by kernel_rfl
def zT:dp xx:=⟨[.p 0,(.f 200 [] [])],[(0,gb),(1,.l aD)],[.v af],[(0,gb),(1,.l aD)],λv=>mR n v.1 v.2.1 v.2.2.1 v.2.2.2.1 v.2.2.2.2.1 v.2.2.2.2.2.1 v.2.2.2.2.2.2.1 v.2.2.2.2.2.2.2.1 v.2.2.2.2.2.2.2.2.1 v.2.2.2.2.2.2.2.2.2⟩
def zU:cx xx:=⟨[],[.d .bool],λ_=>none,some (zT n)⟩
def zV:Hn SI:=(cz (.s (.s .z (.b (.l ⟨[(5,.v af),(13,.v af)],[],[1,11,12],[0,1],1512,[]⟩ 0 ⟨[(5,.v af)],[],[],[0,1],1512,[]⟩ .z))) .z))
theorem zW:aJ 199 (zU n) :=pc (ak Bn aA) func199 zV n (by kernel_rfl) λ_=>by kernel_rfl
def Cr:dp xx:=⟨[.p 0],[(0,gb),(1,.l aD)],[.v af],[(0,gb),(1,.l aD)],λv=>j5 n v.1 v.2.1 v.2.2.1 v.2.2.2.1 v.2.2.2.2.1 v.2.2.2.2.2.1 v.2.2.2.2.2.2.1 v.2.2.2.2.2.2.2.1 v.2.2.2.2.2.2.2.2.1 v.2.2.2.2.2.2.2.2.2⟩
def Cs:cx xx:=⟨[],[.d .bool],λ_=>none,some (Cr n)⟩
theorem Ct:aJ 147 (Cs n) :=pc (ak (zW n) aA) func147 .z n (by kernel_rfl) λ_=>by kernel_rfl
def zX:dp xx:=⟨[.p 0,(.f 201 [] [])],[(0,gb),(1,.l aD)],[.v af],[(0,gb),(1,.l aD)],λv=>mU n v.1 v.2.1 v.2.2.1 v.2.2.2.1 v.2.2.2.2.1 v.2.2.2.2.2.1 v.2.2.2.2.2.2.1 v.2.2.2.2.2.2.2.1 v.2.2.2.2.2.2.2.2.1 v.2.2.2.2.2.2.2.2.2⟩
def zY:cx xx:=⟨[],[.d .bool],λ_=>none,some (zX n)⟩
def zZ:Hn SI:=(cz (.s (.s .z (.b (.l ⟨[(5,.v af),(13,.v af)],[],[1,11,12],[0,1],1512,[]⟩ 0 ⟨[(5,.v af)],[],[],[0,1],1512,[]⟩ .z))) .z))
theorem z8:aJ 199 (zY n) :=pc (ak Cq aA) func199 zZ n (by kernel_rfl) λ_=>by kernel_rfl
end
end Go.Proofs
