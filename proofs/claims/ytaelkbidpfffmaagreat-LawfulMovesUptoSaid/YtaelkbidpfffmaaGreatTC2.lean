import Derived.Test.YtaelkbidpfffmaaGreatTC1
namespace Go.Proofs
open Go.Gb Go.RowKit
open Tryz
noncomputable section
variable (n:Nat)
def yY:cW xx:=⟨[.v af,.p 0],[(0,pH),(1,.l .bool)],[.v .bool],[(0,pH),(1,.l .bool)],λv=>l8 v.1 v.2⟩
def yZ:co xx:=⟨[],[.d .bool],λ_=>none,some (yY)⟩
theorem y5:aG 175 yZ :=nq aC func175 .z 0 (by kernel_rfl) λ_=>by kernel_rfl
def FU:cW xx:=⟨[.v (.sl af),(.f 175 [] [.p 0])],[(0,pH),(1,.l .bool)],[.v af],[(0,pH),(1,.l .bool)],λv=>mJ n v.1 v.2⟩
def FV:co xx:=⟨[],[.d .bool],λ_=>none,some (FU n)⟩
def FW:Hn SI:=(.s .z (.s (.s .z (.b (.lx ⟨[(8,.v af)],[(0,pH),(1,.l .bool)],[0,1,7],[],1256,[]⟩ 0 ⟨[],[(0,pH),(1,.l .bool)],[],[],1256,[]⟩ .z))) .z))
theorem FX:aG 211 (FV n) :=nq (ak y5 aC) func211 FW n (by kernel_rfl) λ_=>by kernel_rfl
def Br:cW xx:=⟨[.v (.sl af),(.f 175 [] [.p 0])],[(0,pH),(1,.l .bool)],[.v .bool],[(0,pH),(1,.l .bool)],λv=>iC n v.1 v.2⟩
def Bt:co xx:=⟨[],[.d .bool],λ_=>none,some (Br n)⟩
theorem Bu:aG 174 (Bt n) :=nq (ak (FX n) aC) func174 .z n (by kernel_rfl) λ_=>by kernel_rfl
def Il:co xx:=⟨[.ref (.st SI.graph)],[.fresh af],λa=>nH n a.1,none⟩
def Im:Hn SI:=(gx (.s (.s .z (.b (.l ⟨[(4,.o 2024),(20,.v af)],[(1448,uC),(2024,.l af),(1384,.l .bool)],[0,3,19],[],2025,[(4,af)]⟩ 0 ⟨[(4,.o 2024)],[(2024,.l af)],[],[],2025,[]⟩ (cA (.s (.b (.s .z (.s (.s .z (.b (.l ⟨[(5,.v af),(27,.v af)],[(1448,uC),(1384,.l .bool)],[0,3,4,19,20,25,26],[2024],2537,[]⟩ 2 ⟨[(5,.v af)],[(1448,uC),(1384,.l .bool)],[0,3,4,19,20],[2024],2537,[]⟩ (cA (.s (.j ⟨[(5,.v af)],[(1448,uC),(1384,.l .bool)],[0,3,4,19,20,25,26,27],[2024],2601,[]⟩ (.b (cA (.s (.j ⟨[(66,.v .bool)],[],[0,3,4,5,6,19,20,25,26,27],[1384,1448,2024],3177,[]⟩ .z) .z)))) .z))))) .z))) .z))))) .z))
theorem Io:aG 139 (Il n) :=cq (ak (Bu n) aC) func139 Im n
def Bv:cW xx:=⟨[.p 0,.v af],[(0,qr)],[.oz 1000],[(0,qr),(1000,.l .str)],λv=>jT n v.1 v.2.1 v.2.2⟩
def Bw:co xx:=⟨[],[.d .bool],λ_=>none,some (Bv n)⟩
def Bz:Hn SI:=(tG (.b (.lx ⟨[(6,.o 1512),(7,.v af)],[(1512,.l .str)],[0,1,5],[0,1192],1513,[(6,.str)]⟩ 999999 ⟨[],[],[],[],1512,[]⟩ (.b (cA (.s (.s .z (.b (.l ⟨[(8,.v af),(34,.v af)],[],[0,1,5,6,32,33],[0,1192,2153],2921,[]⟩ 2 ⟨[(8,.v af)],[],[0,1,5,6],[0,1192,2153],2921,[]⟩ (cA (.s (.j ⟨[(8,.v af)],[],[0,1,5,6,32,33,34],[0,1192,2153],2985,[]⟩ (.b (.s .z (.s (.j ⟨[(57,.v .bool)],[],[0,1,5,6,8,10,32,33,34],[0,1192,2153],3177,[]⟩ .z) .z)))) .z))))) .z))))))
theorem BA:aG 172 (Bw n) :=nq (ak (Bq n) aC) func172 Bz n (by kernel_rfl) λ_=>by kernel_rfl
def y7:cW xx:=⟨[.p 0],[(0,qr)],[.oz 1000],[(0,qr),(1000,.l .str)],λv=>jh n v.1 v.2⟩
def y8:co xx:=⟨[],[.d .bool],λ_=>none,some (y7 n)⟩
def y9:Hn SI:=(cA (.s (.s .z (.b (.l ⟨[(3,.oz 1512),(11,.v af)],[(0,qr),(1512,.l .str)],[0,10],[],1513,[(1099511627779,.str)]⟩ 0 ⟨[(3,.oz 1512)],[(0,qr),(1512,.l .str)],[],[],1513,[]⟩ (cA (.s (.j ⟨[(3,.oz 1577)],[(0,qr),(1577,.l .str)],[0,10,11],[],1578,[]⟩ (.b (cA (.s (.s (.j ⟨[(18,.v .bool)],[],[0,3,5,10,11],[0,1512,1833],1961,[]⟩ .z) .z) (.s (.j ⟨[(40,.v .bool)],[],[0,3,5,10,11],[0,1512,1833],1961,[]⟩ .z) .z))))) .z))))) .z))
theorem za:aG 138 (y8 n) :=nq (ak (BA n) (ak (Jr n) aC)) func138 y9 n (by kernel_rfl) λ_=>by kernel_rfl
def WV:co xx:=⟨[.d (.st SI.k7)],[.fresh af,.d (.sl .str),.d af],λa=>nI n a.1,none⟩
def WW:Hn SI:=(cA (.s (.s .z (.b (.l ⟨[(15,.v af)],[(1256,.m .str .bool)],[1,5,13,14],[1000,1384],1576,[]⟩ 0 ⟨[],[(1256,.m .str .bool)],[1,5],[1000],1576,[]⟩ .z))) (.s (.s .z (.b (.lx ⟨[(25,.v af)],[(1256,.m .str .bool)],[1,5,23,24],[1000],1832,[]⟩ 2 ⟨[],[],[1],[1000],1832,[]⟩ .z))) (.s .z (.s (.s .z (.s (.j ⟨[(43,.v .bool)],[],[10,11],[1960,2152],2280,[]⟩ .z) .z)) .z)))))
theorem WX:aG 101 (WV n) :=cq (ak Nz (ak NC (ak (za n) (ak (Io n) aC)))) func101 WW n
def Js:co xx:=⟨[.d aM,.ref (.st SI.Expr)],[.d .bool],λa=>zQ a.1 a.2.1,none⟩
theorem Jt:aG 141 Js :=cq aC func141 .z 0
def Ip:co xx:=⟨[.d (.sl aM),.ea [aM] .bool],[.d af],λa=>qP n a.1 a.2.1,none⟩
def Iq:Hn SI:=(.s .z (.s (.s .z (.b (.lx ⟨[(8,.v af)],[],[0,1,7],[],1256,[]⟩ 0 ⟨[],[],[],[],1256,[]⟩ .z))) .z))
theorem Ir:aG 140 (Ip n) :=cq aC func140 Iq n
def Ju:co xx:=⟨[.d dQ,.ref (.st SI.Expr)],[.d .bool],λa=>zR a.1 a.2.1,none⟩
theorem Jv:aG 143 Ju :=cq aC func143 .z 0
def ak5:co xx:=⟨[.d .bool],[.d af],λa=>yH a.1,none⟩
theorem aea:aG 103 ak5 :=cq aC func103 .z 0
def X9:co xx:=⟨[.d af,.d af],[.d af],λa=>vY a.1 a.2.1,none⟩
def Ya:Hn SI:=(gx (.s (.j ⟨[(5,.v af)],[],[],[],1448,[]⟩ (.s .z (.s (.j ⟨[(23,.v .bool)],[],[5],[],1704,[]⟩ .z) .z))) .z))
theorem Yb:aG 144 X9 :=cq aC func144 Ya 0
def aeb:co xx:=⟨[.d af,.d af,.d af],[.d af],λa=>I8 a.1 a.2.1 a.2.2.1,none⟩
theorem aec:aG 104 aeb :=cq (ak Yb (ak aea aC)) func104 .z 0
def Jw:cW xx:=⟨[(.a [.v (.sl aU),.v (.sl aM),.v (.sl aT),.v (.sl aO),.v (.sl aX),.v (.sl aW),.v (.sl aK),.v af,.mp 0,.v (.sl .str)]),.v (.st SI.Expr)],[(0,.m .str af)],[.v af],[(0,.m .str af)],λv=>jC n v.1 v.2.1 v.2.2.1 v.2.2.2.1 v.2.2.2.2.1 v.2.2.2.2.2.1 v.2.2.2.2.2.2.1 v.2.2.2.2.2.2.2.1 v.2.2.2.2.2.2.2.2.1 v.2.2.2.2.2.2.2.2.2.1 v.2.2.2.2.2.2.2.2.2.2⟩
def Jy:co xx:=⟨[],[.d .bool],λ_=>none,some (Jw n)⟩
theorem Jz:aG 102 (Jy n) :=nq (ak (Ir n) (ak Jt (ak (wE n) (ak Jv aC)))) func102 .z n (by kernel_rfl) λ_=>by kernel_rfl
def FY:Hn SI:=(cA (.s (.s .z (.b (.l ⟨[(5,.o 1512),(11,.v af)],[(0,.m .str af),(1512,.l af)],[2,3,9,10],[1000,1064],1513,[(5,af)]⟩ 0 ⟨[(5,.o 1512)],[(0,.m .str af),(1512,.l af)],[2,3],[1000,1064],1513,[]⟩ (cA (.s (.j ⟨[(5,.o 1577)],[(0,.m .str af),(1577,.l af)],[2,3,9,10,11],[1000,1064],1578,[]⟩ (.b (.s .z (.s (.s (.j ⟨[(31,.v .bool)],[],[2,3,5,7,9,10,11],[0,1000,1064,1512,1769],1961,[]⟩ .z) .z) .z)))) .z))))) .z))
theorem EH(rc:((List fI))->((List bS))->((List dh))->((List aL))->((List fE))->((List fD))->((List bU))->(Int)->((List ByteArray))->(bD)->((List (ByteArray×Int)))->Option (Int×(List (ByteArray×Int))))(hr:aG 61 (jU rc)):aG 61 (jU (fw n rc)) :=nq (ak hr (ak (Jz n) (ak (o6 n) (ak aea (ak aec aC))))) func61 FY n (by kernel_rfl) λ_=>by kernel_rfl
theorem uj(n:Nat):∀m,aG 61 (jU (bR n m))
 | 0=>TZ (vN func61 (by kernel_rfl:Tryz.f61.body=some (Tryz.f61.body.getD .skip)) (by kernel_rfl)) (λ _ _ h=>(by cases h))
 |m+1=>EH n _ (uj n m)
def FZ:co xx:=jU (bR n n)
theorem uH:aG 61 (FZ n):=uj n n
def R3:cW xx:=⟨[.v (.st SI.k7),.v (.sl dQ),.v (.sl .str)],[],[(.a [.v (.sl aU),.v (.sl aM),.v (.sl aT),.v (.sl aO),.v (.sl aX),.v (.sl aW),.v (.sl aK),.v af,.mp 1000,.v (.sl .str)]),.o 1001],[(1000,.m .str af),(1001,.l af)],λv=>l9 n v.1 v.2.1 v.2.2⟩
def R4:co xx:=⟨[],[.d .bool],λ_=>none,some (R3 n)⟩
def R5:Hn SI:=(gx (.s (.s .z (.b (.l ⟨[(26,.v af)],[(1256,.m .str af),(1576,.m .str .bool)],[3,6,8,9,24,25],[1000,1064,1448],1896,[]⟩ 0 ⟨[],[(1256,.m .str af),(1576,.m .str .bool)],[3,6,8,9],[1000,1064,1448],1896,[]⟩ (cA (.s (.j ⟨[],[(1256,.m .str af),(1576,.m .str .bool)],[3,6,8,9,24,25,26],[1000,1064,1448],1960,[]⟩ .z) .z))))) (gx (.s (.s .z (.b (.l ⟨[(61,.v af)],[(1256,.m .str af),(2088,.l af)],[3,6,8,9,12,59,60],[1000,1064,1448,1576,2280],3112,[]⟩ 2 ⟨[],[(1256,.m .str af),(2088,.l af)],[6,8,12],[1064,1448],3112,[]⟩ (cA (.s (.j ⟨[],[(1256,.m .str af),(2088,.l af)],[3,6,8,9,12,59,60,61],[1000,1064,1448,1576,2280],3176,[]⟩ (.b (cA (.s (.j ⟨[],[(1256,.m .str af),(2088,.l af)],[3,6,8,9,12,17,18,59,60,61],[1000,1064,1448,1576,2280,3688],3816,[]⟩ .z) .z)))) .z))))) .z))))
theorem R6:aG 60 (R4 n) :=nq (ak (WX n) (ak (WQ n) (ak (uH n) aC))) func60 R5 n (by kernel_rfl) λ_=>by kernel_rfl
def ai0:co xx:=⟨[.d (.st SI.k7),.d (.sl dQ),.d (.sl .str),.d (.st SI.Expr)],[.d af],λa=>vo n a.1 a.2.1 a.2.2.1 a.2.2.2.1,none⟩
theorem ai1:aG 34 (ai0 n) :=cq (ak (WQ n) (ak (R6 n) (ak (uH n) aC))) func34 .z n
def agA:co xx:=⟨[.d (.sl ay)],[.d ay,.d .bool],λa=>MH n a.1,none⟩
def agB:Hn SI:=(.s .z (.s (.s .z (.b (.l ⟨[(3,.v .bool),(8,.v af)],[(1000,yq)],[2,6,7],[],1320,[]⟩ 0 ⟨[(3,.v .bool)],[(1000,yq)],[2],[],1320,[]⟩ (cA (.s (.j ⟨[(3,.v .bool)],[(1000,yq)],[2,6,7,8],[],1384,[]⟩ .z) .z))))) .z))
theorem agC:aG 72 (agA n) :=cq (ak pU aC) func72 agB n
def aed:co xx:=⟨[.d (.sl ay)],[.d ay,.d .bool],λa=>I9 n a.1,none⟩
def aee:Hn SI:=(.s .z (.s (.s (.j ⟨[(11,.v .bool)],[],[0,2],[1000],1128,[]⟩ .z) .z) .z))
theorem aef:aG 36 (aed n) :=cq (ak (oZ n) (ak (agC n) aC)) func36 aee n
def WY:co xx:=⟨[.d aD],[.fresh (.st SI.kO)],λa=>xg a.1,none⟩
theorem Iu:aG 25 WY :=cq aC func25 .z 0
def Iw:co xx:=⟨[.d (.sl (.st SI.gh)),.ea [.st SI.gh] .bool],[.d af],λa=>qQ n a.1 a.2.1,none⟩
def Iy:Hn SI:=(.s .z (.s (.s .z (.b (.lx ⟨[(8,.v af)],[],[0,1,7],[],1256,[]⟩ 0 ⟨[],[],[],[],1256,[]⟩ .z))) .z))
theorem Iz:aG 151 (Iw n) :=cq aC func151 Iy n
def Db:co xx:=⟨[.d (.sl (.st SI.gh)),.ea [.st SI.gh] .bool],[.d .bool],λa=>kP n a.1 a.2.1,none⟩
theorem Dc:aG 118 (Db n) :=cq (ak (Iz n) aC) func118 .z n
def WZ:co xx:=⟨[.d af,.d af,.d af],[.d .bool],λa=>nJ a.1 a.2.1 a.2.2.1,none⟩
theorem W9:aG 152 WZ :=cq aC func152 .z 0
def Yc:co xx:=⟨[.d (.st SI.gh)],[.d .bool],λa=>zT a.1,none⟩
theorem Yd:aG 120 Yc :=cq (ak W9 aC) func120 .z 0
def PK:co xx:=⟨[.d (.st SI.gh)],[.d .bool],λa=>sK a.1,none⟩
theorem PL:aG 119 PK :=cq (ak Yd aC) func119 .z 0
def Ye:co xx:=⟨[.d ay,.d (.sl (.st SI.gh))],[.d .bool],λa=>zU n a.1 a.2.1,none⟩
theorem Yf:aG 73 (Ye n) :=cq (ak pU (ak (Dc n) (ak PL aC))) func73 .z n
def ai2:co xx:=⟨[.d (.sl ay),.d (.sl ay)],[.d .bool],λa=>Sy n a.1 a.2.1,none⟩
theorem ai3:aG 81 (ai2 n) :=cq (ak (EU n) aC) func81 .z n
def agD:co xx:=⟨[.d (.sl (.st SI.kO))],[.d .bool],λa=>G9 n a.1,none⟩
def agE:Hn SI:=(cA (.s (.s .z (.b (.lx ⟨[(11,.v af)],[],[0,9,10],[],1448,[]⟩ 0 ⟨[],[],[],[],1448,[]⟩ (cA (.s (.jx ⟨[],[],[0,9,10,11],[],1512,[]⟩ (.b (.s .z (.s (.s (.j ⟨[(42,.v .bool)],[],[0,3,4,9,10,11],[1704],1896,[]⟩ .z) .z) (cA (.s (.j ⟨[(68,.v .bool)],[],[0,9,10,11],[],2472,[]⟩ .z) .z)))))) .z))))) .z))
theorem Xa:aG 43 (agD n) :=cq (ak (oZ n) (ak (ai3 n) aC)) func43 agE n
def NF:co xx:=⟨[.d ay,.d af,.d af],[.d (.st SI.mn)],λa=>wI a.1 a.2.1 a.2.2.1,none⟩
theorem NG:aG 153 NF :=cq aC func153 .z 0
def PN:co xx:=⟨[.d af,.d af],[.d af],λa=>sM a.1 a.2.1,none⟩
def PO:Hn SI:=(cA (.s (.j ⟨[(5,.v af)],[],[],[],1320,[]⟩ .z) .z))
theorem PS:aG 154 PN :=cq aC func154 PO 0
def aeg:co xx:=⟨[.d ay,.d (.sl (.st SI.gh)),.d af,.d af],[.d af],λa=>Ja n a.1 a.2.1 a.2.2.1 a.2.2.2.1,none⟩
def aeh:Hn SI:=(gx (.s (.s .z (.b (.l ⟨[(9,.v af),(19,.v af)],[],[10,17,18],[1448],1768,[]⟩ 0 ⟨[(9,.v af)],[],[],[],1768,[]⟩ .z))) .z))
theorem aei:aG 121 (aeg n) :=cq (ak NG (ak PS aC)) func121 aeh n
def Xb:co xx:=⟨[.d ay,.d (.sl (.st SI.gh)),.d (.sl ay)],[.d af],λa=>xk n a.1 a.2.1 a.2.2.1,none⟩
def Xc:Hn SI:=(cA (.s (.s .z (.b (.l ⟨[(7,.v af),(16,.v af)],[],[1,3,14,15],[1000],1384,[]⟩ 0 ⟨[(7,.v af)],[],[],[],1384,[]⟩ (cA (.s (.b (cA (.b (.l ⟨[(7,.v af),(27,.v af)],[],[1,3,9,14,15,16,25,26],[1000,1576,2024],2216,[]⟩ 2 ⟨[(7,.v af)],[],[1,3,14,15,16],[1000],2216,[]⟩ (cA (.s (.b (cA (.b (.l ⟨[(7,.v af),(38,.v af)],[],[1,3,9,11,14,15,16,25,26,27,36,37],[1000,1576,2024,2792],2984,[]⟩ 4 ⟨[(7,.v af)],[],[1,3,9,14,15,16,25,26,27],[1000,1576,2024],2984,[]⟩ .z)))) .z)))))) .z))))) .z))
theorem Xd:aG 75 (Xb n) :=cq (ak (aei n) aC) func75 Xc n
def NH:co xx:=⟨[.d (.st SI.kO),.ref ay,.ref (.sl (.st SI.gh))],[.d .bool],λa=>qI n a.1 a.2.1 a.2.2.1,none⟩
theorem NI:aG 74 (NH n) :=cq (ak (Xd n) aC) func74 .z n
def JA:co xx:=⟨[.d (.sl (.st SI.kO)),.ea [.st SI.kO] .bool],[.d af],λa=>sN n a.1 a.2.1,none⟩
def JB:Hn SI:=(.s .z (.s (.s .z (.b (.lx ⟨[(8,.v af)],[],[0,1,7],[],1256,[]⟩ 0 ⟨[],[],[],[],1256,[]⟩ .z))) .z))
theorem JC:aG 84 (JA n) :=cq aC func84 JB n
def EI:co xx:=⟨[.d (.sl (.st SI.kO)),.ea [.st SI.kO] .bool],[.d .bool],λa=>jo n a.1 a.2.1,none⟩
theorem ul:aG 45 (EI n) :=cq (ak (JC n) aC) func45 .z n
def Xe:co xx:=⟨[.d ay,.d (.sl (.st SI.gh)),.d (.sl (.st SI.kO))],[.d .bool],λa=>xq n a.1 a.2.1 a.2.2.1,none⟩
def Xf:Hn SI:=(.s .z (.s (.s (.j ⟨[(15,.v .bool)],[],[2,3,4],[1000,1064],1192,[]⟩ .z) .z) .z))
theorem Xg:aG 38 (Xe n) :=cq (ak (Yf n) (ak (Xa n) (ak (ul n) (ak (NI n) aC)))) func38 Xf n
def BB:co xx:=⟨[.d aD,.ref ay,.ref aO],[.d .bool],λa=>jV n a.1 a.2.1 a.2.2.1,none⟩
theorem BD:aG 37 (BB n) :=cq (ak Iu (ak (Xg n) aC)) func37 .z n
def K7:co xx:=⟨[.d (.st SI.j9),.ea [aD] .bool],[.d .bool],λa=>gV n a.1 a.2.1,none⟩
theorem zb:aG 22 (K7 n) :=cq (ak (qx n) aC) func22 .z n
def BF:co xx:=⟨[.d aD,.ref aO],[.d .bool],λa=>jW a.1 a.2.1,none⟩
theorem BG:aG 39 BF :=cq aC func39 .z 0
def ak6:co xx:=⟨[.d ay,.d ay],[.d af,.d af],λa=>akh a.1 a.2.1,none⟩
theorem ak7:aG 123 ak6 :=cq aC func123 .z 0
def amv:co xx:=⟨[.d ay,.d ay],[.d af],λa=>Ly a.1 a.2.1,none⟩
def amw:Hn SI:=(.s .z (.s (.s (.j ⟨[(14,.v .bool)],[],[2,3],[1000,1064],1192,[]⟩ .z) .z) .z))
theorem amx:aG 79 amv :=cq (ak pU (ak ak7 aC)) func79 amw 0
def Df:co xx:=⟨[.d dS,.ref (.st SI.j9),.ref aD,.ref aO],[.d .bool],λa=>dn a.1 a.2.1 a.2.2.1 a.2.2.2.1,none⟩
def Dg:Hn SI:=(cA (.s (.s (.j ⟨[(32,.v .bool)],[],[2,3,6],[1256],1384,[]⟩ .z) .z) (.s (.j ⟨[(7,.v .bool)],[],[2,3,6],[1256],1384,[]⟩ .z) .z)))
theorem Dh:aG 77 Df :=cq (ak pU (ak amx aC)) func77 Dg 0
def F3:co xx:=⟨[.d (.sl dS),.ea [dS] .bool],[.d af],λa=>qc n a.1 a.2.1,none⟩
def F4:Hn SI:=(.s .z (.s (.s .z (.b (.lx ⟨[(8,.v af)],[],[0,1,7],[],1256,[]⟩ 0 ⟨[],[],[],[],1256,[]⟩ .z))) .z))
theorem F5:aG 122 (F3 n) :=cq aC func122 F4 n
def BH:co xx:=⟨[.d (.sl dS),.ea [dS] .bool],[.d .bool],λa=>jX n a.1 a.2.1,none⟩
theorem BJ:aG 76 (BH n) :=cq (ak (F5 n) aC) func76 .z n
def IA:co xx:=⟨[.d (.st SI.j9),.d aO,.d aD],[.d .bool],λa=>qR n a.1 a.2.1 a.2.2.1,none⟩
theorem IB:aG 41 (IA n) :=cq (ak (BJ n) (ak Dh aC)) func41 .z n
def BK:co xx:=⟨[.d aD,.ref (.st SI.j9),.ref aO],[.d .bool],λa=>jY n a.1 a.2.1 a.2.2.1,none⟩
theorem BL:aG 40 (BK n) :=cq (ak (IB n) aC) func40 .z n
def F6:co xx:=⟨[.d (.st SI.j9),.d aO],[.d .bool],λa=>jH n a.1 a.2.1,none⟩
theorem uI:aG 21 (F6 n) :=cq (ak (abt n) (ak (ai1 n) (ak (aef n) (ak (zb n) (ak (BD n) (ak BG (ak (BL n) aC))))))) func21 .z n
def R7:co xx:=⟨[.d ay,.ref ay],[.d .bool],λa=>vv a.1 a.2.1,none⟩
theorem R8:aG 87 R7 :=cq aC func87 .z 0
def JD:co xx:=⟨[.d (.sl ay),.ea [ay] .bool],[.d af],λa=>sO n a.1 a.2.1,none⟩
def JE:Hn SI:=(.s .z (.s (.s .z (.b (.lx ⟨[(8,.v af)],[],[0,1,7],[],1256,[]⟩ 0 ⟨[],[],[],[],1256,[]⟩ .z))) .z))
theorem JF:aG 127 (JD n) :=cq aC func127 JE n
def EJ:co xx:=⟨[.d (.sl ay),.ea [ay] .bool],[.d .bool],λa=>jq n a.1 a.2.1,none⟩
theorem um:aG 85 (EJ n) :=cq (ak (JF n) aC) func85 .z n
def abv:co xx:=⟨[.d ay,.ref (.sl ay)],[.d .bool],λa=>Ed n a.1 a.2.1,none⟩
theorem abw:aG 86 (abv n) :=cq (ak (um n) (ak R8 aC)) func86 .z n
def ai4:co xx:=⟨[.d (.sl ay),.d (.sl ay)],[.d .bool],λa=>Sz n a.1 a.2.1,none⟩
theorem ai5:aG 47 (ai4 n) :=cq (ak (um n) (ak (abw n) aC)) func47 .z n
def R9:co xx:=⟨[.d (.st SI.kO),.ref dX],[.d .bool],λa=>qo n a.1 a.2.1,none⟩
theorem Sb:aG 46 (R9 n) :=cq (ak (ai5 n) aC) func46 .z n
def abx:co xx:=⟨[.d (.sl dX),.d af,.d (.sl (.st SI.kO))],[.d .bool],λa=>Ee n a.1 a.2.1 a.2.2.1,none⟩
def aby:Hn SI:=(cA (.s (.s .z (.b (.lx ⟨[(14,.v af)],[],[1,2,12,13],[],1448,[]⟩ 0 ⟨[],[],[],[],1448,[]⟩ (cA (.s (.jx ⟨[],[],[1,2,12,13,14],[],1512,[]⟩ (.b (.s .z (.s (.s (.j ⟨[(27,.v .bool)],[],[1,2,8,12,13,14],[1640],1768,[]⟩ .z) .z) .z)))) .z))))) .z))
theorem abz:aG 24 (abx n) :=cq (ak (Xa n) (ak (oZ n) (ak (ul n) (ak (Sb n) aC)))) func24 aby n
def K8:co xx:=⟨[.d aD,.ref (.st SI.jn),.ref fu],[.d .bool],λa=>mQ n a.1 a.2.1 a.2.2.1,none⟩
theorem K9:aG 23 (K8 n) :=cq (ak Iu (ak (abz n) aC)) func23 .z n
def F7:cW xx:=⟨[.v .str,.v .bool,.p 0],[(0,pH),(1,.l .str)],[],[(0,.c 1 [[.o 1000]]),(1000,.l .str)],λv=>jI n v.1 v.2.1 v.2.2⟩
def F8:co xx:=⟨[],[.d .bool],λ_=>none,some (F7 n)⟩
def F9:Hn SI:=(.s (.j ⟨[(11,.v .bool)],[],[0,2],[0,1],1000,[]⟩ .z) .z)
theorem Ga:aG 18 (F8 n) :=nq (ak (o6 n) aC) func18 F9 n (by kernel_rfl) λ_=>by kernel_rfl
def Sc:co xx:=⟨[.d (.st SI.jn),.d fu,.d af],[.fresh .str,.d af],λa=>j4 n a.1 a.2.1 a.2.2.1,none⟩
def Sd:Hn SI:=(ON (.s (.s .z (.b (.l ⟨[(31,.v af)],[(1960,.c 1 [[.o 2664]]),(2664,.l .str)],[3,4,8,10,11,29,30],[1000,1064,1640,2472],2665,[(9028160,.str)]⟩ 0 ⟨[],[(1960,.c 1 [[.o 2664]]),(2664,.l .str)],[3,4,8,10,11],[1000,1064,1640],2665,[]⟩ .z))) .z))
theorem wM:aG 8 (Sc n) :=cq (ak (J8 n) (ak (WO n) (ak (uI n) (ak (Ga n) (ak (zb n) (ak (K9 n) aC)))))) func8 Sd n
def aej:co xx:=⟨[.d (.sl .str),.d (.sl .str)],[.d .bool],λa=>xS n a.1 a.2.1,none⟩
def aek:Hn SI:=(cA (.s (.s .z (.b (.lx ⟨[(5,.v af)],[],[0,1],[],1448,[]⟩ 0 ⟨[],[],[],[],1448,[]⟩ .z))) .z))
theorem QU:aG 9 (aej n) :=cq aC func9 aek n
def Sg:co xx:=⟨[.d (.st SI.jn),.d fu,.d aO],[.d .bool],λa=>qp n a.1 a.2.1 a.2.2.1,none⟩
theorem Si:aG 11 (Sg n) :=cq (ak (J8 n) (ak (uI n) aC)) func11 .z n
def Sj:co xx:=⟨[.d (.st SI.jn),.d fu,.d af],[.d .bool],λa=>vz n a.1 a.2.1 a.2.2.1,none⟩
theorem Sk:aG 12 (Sj n) :=cq (ak (wM n) aC) func12 .z n
def ael:co xx:=⟨[],[.d .bool],λ_=>Jb n,none⟩
theorem aem:aG 4 (ael n) :=cq (ak aiT (ak (wM n) (ak (QU n) (ak (Si n) (ak (Sk n) aC))))) func4 .z n
def aen:Hn SI:=(gx (.s (.s .z (.b (.l ⟨[(7,.v af),(8,.v af)],[],[1,2,3],[1000],1384,[]⟩ 0 ⟨[(7,.v af)],[],[],[],1384,[]⟩ (.s (.s (.j ⟨[(22,.v .bool)],[],[1,2,3,7,8],[1000],1384,[]⟩ .z) .z) .z)))) .z))
theorem abA(rc:(bD)->(Int)->(Int)->Option Int)(hr:aG 26 (Ef rc)):aG 26 (Ef (zW n rc)) :=cq (ak hr aC) func26 aen n
theorem NJ(n:Nat):∀m,aG 26 (Ef (ru n m))
 | 0=>xp (vN func26 (by kernel_rfl:Tryz.f26.body=some (Tryz.f26.body.getD .skip)) (by kernel_rfl)) (λ _ _ h=>(by cases h)) rfl
 |m+1=>abA n _ (NJ n m)
def aeo:co xx:=⟨[.d (.st SI.Expr),.d af,.d af],[.d af],λa=>Cm n a.1 a.2.1 a.2.2.1,none⟩
theorem QV:aG 26 (aeo n):=NJ n n
def aep:co xx:=⟨[.d (.sl aO)],[.d .bool],λa=>Jc n a.1,none⟩
def aer:Hn SI:=(.s .z (.s (.s .z (.b (.lx ⟨[(3,.v af)],[],[0],[],1128,[]⟩ 0 ⟨[],[],[0],[],1128,[]⟩ (.s (.s (.j ⟨[(11,.v .bool)],[],[0,3],[],1128,[]⟩ .z) .z) (.s (.b (.s (.j ⟨[(38,.v .bool)],[],[0,3],[],1128,[]⟩ .z) .z)) .z))))) .z))
theorem aes:aG 27 (aep n) :=cq (ak (QV n) aC) func27 aer n
def agF:co xx:=⟨[.d (.st SI.k7)],[.d .bool],λa=>MI n a.1,none⟩
def agG:Hn SI:=(.s .z (.s (.s .z (.b (.lx ⟨[(3,.v af)],[],[1],[1000],1192,[]⟩ 0 ⟨[],[],[1],[1000],1192,[]⟩ (.s (.s (.j ⟨[(15,.v .bool)],[],[1,3],[1000],1192,[]⟩ .z) .z) .z)))) (.s (.s .z (.b (.lx ⟨[(4,.v af)],[],[1],[1000],1256,[]⟩ 2 ⟨[],[],[1],[1000],1256,[]⟩ (.s (.s (.j ⟨[(34,.v .bool)],[],[1,4],[1000],1256,[]⟩ .z) .z) .z)))) (.s (.s .z (.b (.lx ⟨[(5,.v af)],[],[1],[1000],1320,[]⟩ 4 ⟨[],[],[1],[1000],1320,[]⟩ (.s (.s (.j ⟨[(53,.v .bool)],[],[1,5],[1000],1320,[]⟩ .z) .z) .z)))) (.s (.s .z (.b (.lx ⟨[(6,.v af)],[],[1],[1000],1384,[]⟩ 6 ⟨[],[],[1],[1000],1384,[]⟩ (.s (.s (.j ⟨[(72,.v .bool)],[],[1,6],[1000],1384,[]⟩ .z) .z) .z)))) .z)))))
theorem agH:aG 13 (agF n) :=cq (ak (QV n) (ak (aes n) aC)) func13 agG n
def ai6:co xx:=⟨[.d (.st SI.jn),.d fu],[.d .bool],λa=>SA n a.1 a.2.1,none⟩
def ai7:Hn SI:=(.s .z (.s (.s .z (.b (.lx ⟨[(5,.v af)],[],[2,3],[1000,1064],1256,[]⟩ 0 ⟨[],[],[2,3],[1000,1064],1256,[]⟩ (.s (.s (.j ⟨[(16,.v .bool)],[],[2,3,5],[1000,1064],1256,[]⟩ .z) .z) .z)))) (.s (.s .z (.b (.lx ⟨[(6,.v af)],[],[2,3],[1000,1064],1320,[]⟩ 2 ⟨[],[],[2,3],[1000,1064],1320,[]⟩ (.s (.s (.j ⟨[(35,.v .bool)],[],[2,3,6],[1000,1064],1320,[]⟩ .z) .z) .z)))) (.s (.s .z (.b (.lx ⟨[(7,.v af)],[],[2,3],[1000,1064],1384,[]⟩ 4 ⟨[],[],[2,3],[1000,1064],1384,[]⟩ (.s (.s (.j ⟨[(54,.v .bool)],[],[2,3,7],[1000,1064],1384,[]⟩ .z) .z) (.s (.b (.s (.j ⟨[(74,.v .bool)],[],[2,3,7],[1000,1064],1384,[]⟩ .z) .z)) .z))))) .z))))
theorem ai8:aG 5 (ai6 n) :=cq (ak (agH n) aC) func5 ai7 n
def agI:co xx:=⟨[.d ay],[.d .bool],λa=>Hf a.1,none⟩
theorem Xh:aG 16 agI :=cq aC func16 .z 0
def aeu:co xx:=⟨[.d (.sl ay),.d af,.d af],[.fresh ay,.d .bool],λa=>xU n a.1 a.2.1 a.2.2.1,none⟩
def aev:Hn SI:=(gx (.s (.s .z (.b (.l ⟨[(8,.o 1320),(9,.v .bool),(10,.v af)],[(1320,.l ay)],[0,1,2],[],1321,[(8,ay)]⟩ 0 ⟨[(8,.o 1320),(9,.v .bool)],[(1320,.l ay)],[],[],1321,[]⟩ (.s .z (.s (.b (.s .z (.s (.j ⟨[(9,.v .bool)],[],[0,1,2,8,10,11],[1320,1833],1961,[]⟩ .z) .z))) .z))))) .z))
theorem QW:aG 14 (aeu n) :=cq (ak Xh aC) func14 aev n
def Yg:co xx:=⟨[.d (.sl aD),.d af,.d af],[.fresh aD,.d .bool],λa=>vZ n a.1 a.2.1 a.2.2.1,none⟩
def Yh:Hn SI:=(gx (.s (.s .z (.b (.l ⟨[(8,.o 1320),(9,.v .bool),(10,.v af)],[(1320,.l aD)],[0,1,2],[],1321,[(8,aD)]⟩ 0 ⟨[(8,.o 1320),(9,.v .bool)],[(1320,.l aD)],[],[],1321,[]⟩ (.s .z (.s (.b (.s .z (.s (.j ⟨[(9,.v .bool)],[],[0,1,2,8,10,11],[1320,1833],1961,[]⟩ .z) .z))) .z))))) .z))
theorem J9:aG 7 (Yg n) :=cq (ak Xh (ak (QW n) aC)) func7 Yh n
def Yi:co xx:=⟨[.d (.sl (.st SI.eK)),.d af,.d af],[.fresh (.st SI.eK),.d .bool],λa=>wh n a.1 a.2.1 a.2.2.1,none⟩
def Yj:Hn SI:=(gx (.s (.s .z (.b (.l ⟨[(8,.o 1320),(9,.v .bool),(10,.v af)],[(1320,.l (.st SI.eK))],[0,1,2],[],1321,[(8,.st SI.eK)]⟩ 0 ⟨[(8,.o 1320),(9,.v .bool)],[(1320,.l (.st SI.eK))],[],[],1321,[]⟩ (.s .z (.s (.b (.s (.j ⟨[(9,.v .bool)],[],[0,1,2,8,10],[1320],1577,[]⟩ .z) .z)) .z))))) .z))
theorem Yk:aG 15 (Yi n) :=cq aC func15 Yj n
def Yl:co xx:=⟨[.d (.st SI.jn),.d af,.d af],[.d (.st SI.jn),.d .bool],λa=>Aa n a.1 a.2.1 a.2.2.1,none⟩
def Ym:Hn SI:=(tG (.s (.s .z (.b (.l ⟨[(9,.v .bool),(10,.v af)],[(1256,Fl),(1640,.l gQ)],[1,2,3,6,8],[1000,1064],1641,[(6144584,gQ)]⟩ 0 ⟨[(9,.v .bool)],[(1256,Fl),(1640,.l gQ)],[1,2,3,6,8],[1000,1064],1641,[]⟩ (.s .z (.s (.b (cA (.s (.j ⟨[(9,.v .bool)],[],[1,2,3,6,8,10,11,12],[1000,1064,1256,1640,2281,2665],3049,[]⟩ .z) (.s (.f [2]) .z)))) .z))))) (.s .z (.s (.s .z (.b (.l ⟨[(9,.v .bool),(14,.v af)],[(1256,.c 13 [[.v (.sl aU),.v (.sl aM),.v (.sl aT),.v (.sl aO),.v (.sl aX),.v (.sl aW),.v (.sl aK),.v af,.o 1640,.o 1833,(.v (.sl (.st SI.Window))),.v (.sl dS),.v (.sl dQ)]]),(1640,.l gQ),(1833,.l dX)],[1,2,3,6,8],[1000,1064],1834,[(6144585,dX)]⟩ 2 ⟨[(9,.v .bool)],[(1256,.c 13 [[.v (.sl aU),.v (.sl aM),.v (.sl aT),.v (.sl aO),.v (.sl aX),.v (.sl aW),.v (.sl aK),.v af,.o 1640,.o 1833,(.v (.sl (.st SI.Window))),.v (.sl dS),.v (.sl dQ)]]),(1640,.l gQ),(1833,.l dX)],[1,2,3,6,8],[1000,1064],1834,[]⟩ (.s .z (.s (.b (cA (.s (.j ⟨[(9,.v .bool)],[],[1,2,3,6,8,14,15,16],[1000,1064,1256,1640,1833,2474,2858],3242,[]⟩ .z) (.s (.f [2]) .z)))) .z))))) (.s .z (.s (.s .z (.b (.l ⟨[(9,.v .bool),(18,.v af)],[(1256,.c 13 [[.v (.sl aU),.v (.sl aM),.v (.sl aT),.v (.sl aO),.v (.sl aX),.v (.sl aW),.v (.sl aK),.v af,.o 1640,.o 1833,(.v (.sl (.st SI.Window))),.o 2026,.v (.sl dQ)]]),(1640,.l gQ),(1833,.l dX),(2026,.l dS)],[1,2,3,6,8],[1000,1064],2027,[(6144587,dS)]⟩ 4 ⟨[(9,.v .bool)],[(1256,.c 13 [[.v (.sl aU),.v (.sl aM),.v (.sl aT),.v (.sl aO),.v (.sl aX),.v (.sl aW),.v (.sl aK),.v af,.o 1640,.o 1833,(.v (.sl (.st SI.Window))),.o 2026,.v (.sl dQ)]]),(1640,.l gQ),(1833,.l dX),(2026,.l dS)],[1,2,3,6,8],[1000,1064],2027,[]⟩ (.s .z (.s (.b (.s .z (.s (.j ⟨[(9,.v .bool)],[],[1,2,3,6,8,18,19],[1000,1064,1256,1640,1833,2026,2923],3307,[]⟩ .z) .z))) .z))))) (.s .z (.s (.s .z (.b (.l ⟨[(9,.v .bool),(21,.v af)],[(1256,.c 13 [[.v (.sl aU),.v (.sl aM),.o 2283,.v (.sl aO),.v (.sl aX),.v (.sl aW),.v (.sl aK),.v af,.o 1640,.o 1833,(.v (.sl (.st SI.Window))),.o 2026,.v (.sl dQ)]]),(1640,.l gQ),(1833,.l dX),(2026,.l dS),(2283,.l aT)],[1,2,3,6,8],[1000,1064],2284,[(6144578,aT)]⟩ 6 ⟨[(9,.v .bool)],[(1256,.c 13 [[.v (.sl aU),.v (.sl aM),.o 2283,.v (.sl aO),.v (.sl aX),.v (.sl aW),.v (.sl aK),.v af,.o 1640,.o 1833,(.v (.sl (.st SI.Window))),.o 2026,.v (.sl dQ)]]),(1640,.l gQ),(1833,.l dX),(2026,.l dS),(2283,.l aT)],[1,2,3,6,8],[1000,1064],2284,[]⟩ (.s .z (.s (.b (cA (.s (.j ⟨[(9,.v .bool)],[],[1,2,3,6,8,21,22,23],[1000,1064,1256,1640,1833,2026,2283,3052,3436],3820,[]⟩ .z) (.s (.f [2]) .z)))) .z))))) (.s .z (.s (.s .z (.b (.l ⟨[(9,.v .bool),(25,.v af)],[(1256,.c 13 [[.v (.sl aU),.v (.sl aM),.o 2283,.v (.sl aO),.o 2540,.v (.sl aW),.v (.sl aK),.v af,.o 1640,.o 1833,(.v (.sl (.st SI.Window))),.o 2026,.v (.sl dQ)]]),(1640,.l gQ),(1833,.l dX),(2026,.l dS),(2283,.l aT),(2540,.l aX)],[1,2,3,6,8],[1000,1064],2541,[(6144580,aX)]⟩ 8 ⟨[(9,.v .bool)],[(1256,.c 13 [[.v (.sl aU),.v (.sl aM),.o 2283,.v (.sl aO),.o 2540,.v (.sl aW),.v (.sl aK),.v af,.o 1640,.o 1833,(.v (.sl (.st SI.Window))),.o 2026,.v (.sl dQ)]]),(1640,.l gQ),(1833,.l dX),(2026,.l dS),(2283,.l aT),(2540,.l aX)],[6,8],[1064],2541,[]⟩ (.s .z (.s (.b (cA (.s (.j ⟨[(9,.v .bool)],[],[1,2,3,6,8,25,26,27],[1000,1064,1256,1640,1833,2026,2283,2540,3309,3693],4077,[]⟩ .z) (.s (.f [2]) .z)))) .z))))) .z))))))))))
theorem Yn:aG 6 (Yl n) :=cq (ak (QW n) (ak (J9 n) (ak (Yk n) aC))) func6 Ym n
def NK:co xx:=⟨[.d (.st SI.jn),.d fu,.d af,.d af,.d af],[.d .bool],λa=>qJ n a.1 a.2.1 a.2.2.1 a.2.2.2.1 a.2.2.2.2.1,none⟩
def NN:Hn SI:=(cA (.s (.s (.j ⟨[(43,.v .bool)],[],[2,3,4,5,6,11],[1000,1064],1320,[]⟩ .z) .z) (gx (.s (.s .z (.b (.l ⟨[(13,.v .bool),(15,.v af)],[(2024,.c 2 [[.v af,.o 2344]]),(2344,.l (.st SI.Phase))],[2,3,4,5,6,11,12,14],[1000,1064,1768],2345,[(9290305,.st SI.Phase)]⟩ 0 ⟨[(13,.v .bool)],[(2024,.c 2 [[.v af,.o 2344]]),(2344,.l (.st SI.Phase))],[2,5,6,11,12,14],[1000,1064,1768],2345,[]⟩ (.s .z (.s (.b (cA (.s (.j ⟨[(13,.v .bool)],[],[2,3,4,5,6,11,12,14,15,16,17],[1000,1064,1768,2024,2344,2985,3369],3753,[]⟩ .z) (.s (.f [2]) .z)))) .z))))) .z))))
theorem NP:aG 3 (NK n) :=cq (ak (aem n) (ak (ai8 n) (ak (Yn n) (ak (J9 n) (ak (wM n) (ak (QU n) aC)))))) func3 NN n
end
end Go.Proofs
