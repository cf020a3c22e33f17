import Derived.Test.YtckpncemdfkmgabGreatTC1
namespace Go.Proofs
open Go.Gb Go.RowKit
open Tryz
noncomputable section
variable (n:Nat)
def yZ:cN xx:=⟨[.v af,.p 0],[(0,qr),(1,.l .bool)],[.v .bool],[(0,qr),(1,.l .bool)],λv=>mI v.1 v.2⟩
def y5:ca xx:=⟨[],[.d .bool],λ_=>none,some (yZ)⟩
theorem y7:aH 194 y5 :=oB aB func194 .z 0 (by kernel_rfl) λ_=>by kernel_rfl
def F7:cN xx:=⟨[.v (.sl af),(.f 194 [] [.p 0])],[(0,qr),(1,.l .bool)],[.v af],[(0,qr),(1,.l .bool)],λv=>mZ n v.1 v.2⟩
def F8:ca xx:=⟨[],[.d .bool],λ_=>none,some (F7 n)⟩
def F9:Hn SI:=(.s .z (.s (.s .z (.b (.lx ⟨[(8,.v af)],[(0,qr),(1,.l .bool)],[0,1,7],[],1256,[]⟩ 0 ⟨[],[(0,qr),(1,.l .bool)],[],[],1256,[]⟩ .z))) .z))
theorem Ga:aH 231 (F8 n) :=oB (ak y7 aB) func231 F9 n (by kernel_rfl) λ_=>by kernel_rfl
def Bp:cN xx:=⟨[.v (.sl af),(.f 194 [] [.p 0])],[(0,qr),(1,.l .bool)],[.v .bool],[(0,qr),(1,.l .bool)],λv=>iO n v.1 v.2⟩
def Bq:ca xx:=⟨[],[.d .bool],λ_=>none,some (Bp n)⟩
theorem Br:aH 193 (Bq n) :=oB (ak (Ga n) aB) func193 .z n (by kernel_rfl) λ_=>by kernel_rfl
def IB:ca xx:=⟨[.ref (.st SI.graph)],[.fresh af],λa=>nP n a.1,none⟩
def IC:Hn SI:=(gR (.s (.s .z (.b (.l ⟨[(4,.o 2024),(20,.v af)],[(1448,xe),(2024,.l af),(1384,.l .bool)],[0,3,19],[],2025,[(4,af)]⟩ 0 ⟨[(4,.o 2024)],[(2024,.l af)],[],[],2025,[]⟩ (cm (.s (.b (.s .z (.s (.s .z (.b (.l ⟨[(5,.v af),(27,.v af)],[(1448,xe),(1384,.l .bool)],[0,3,4,19,20,25,26],[2024],2537,[]⟩ 2 ⟨[(5,.v af)],[(1448,xe),(1384,.l .bool)],[0,3,4,19,20],[2024],2537,[]⟩ (cm (.s (.j ⟨[(5,.v af)],[(1448,xe),(1384,.l .bool)],[0,3,4,19,20,25,26,27],[2024],2601,[]⟩ (.b (cm (.s (.j ⟨[(66,.v .bool)],[],[0,3,4,5,6,19,20,25,26,27],[1384,1448,2024],3177,[]⟩ .z) .z)))) .z))))) .z))) .z))))) .z))
theorem IE:aH 160 (IB n) :=cq (ak (Br n) aB) func160 IC n
def Bt:cN xx:=⟨[.p 0,.v af],[(0,rm)],[.oz 1000],[(0,rm),(1000,.l .str)],λv=>j5 n v.1 v.2.1 v.2.2⟩
def Bu:ca xx:=⟨[],[.d .bool],λ_=>none,some (Bt n)⟩
def Bv:Hn SI:=(xf (.b (.lx ⟨[(6,.o 1512),(7,.v af)],[(1512,.l .str)],[0,1,5],[0,1192],1513,[(6,.str)]⟩ 999999 ⟨[],[],[],[],1512,[]⟩ (.b (cm (.s (.s .z (.b (.l ⟨[(8,.v af),(34,.v af)],[],[0,1,5,6,32,33],[0,1192,2153],2921,[]⟩ 2 ⟨[(8,.v af)],[],[0,1,5,6],[0,1192,2153],2921,[]⟩ (cm (.s (.j ⟨[(8,.v af)],[],[0,1,5,6,32,33,34],[0,1192,2153],2985,[]⟩ (.b (.s .z (.s (.j ⟨[(57,.v .bool)],[],[0,1,5,6,8,10,32,33,34],[0,1192,2153],3177,[]⟩ .z) .z)))) .z))))) .z))))))
theorem Bw:aH 191 (Bu n) :=oB (ak (Bo n) aB) func191 Bv n (by kernel_rfl) λ_=>by kernel_rfl
def y8:cN xx:=⟨[.p 0],[(0,rm)],[.oz 1000],[(0,rm),(1000,.l .str)],λv=>jk n v.1 v.2⟩
def y9:ca xx:=⟨[],[.d .bool],λ_=>none,some (y8 n)⟩
def za:Hn SI:=(cm (.s (.s .z (.b (.l ⟨[(3,.oz 1512),(11,.v af)],[(0,rm),(1512,.l .str)],[0,10],[],1513,[(1099511627779,.str)]⟩ 0 ⟨[(3,.oz 1512)],[(0,rm),(1512,.l .str)],[],[],1513,[]⟩ (cm (.s (.j ⟨[(3,.oz 1577)],[(0,rm),(1577,.l .str)],[0,10,11],[],1578,[]⟩ (.b (cm (.s (.s (.j ⟨[(18,.v .bool)],[],[0,3,5,10,11],[0,1512,1833],1961,[]⟩ .z) .z) (.s (.j ⟨[(40,.v .bool)],[],[0,3,5,10,11],[0,1512,1833],1961,[]⟩ .z) .z))))) .z))))) .z))
theorem zb:aH 159 (y9 n) :=oB (ak (Bw n) (ak (JJ n) aB)) func159 za n (by kernel_rfl) λ_=>by kernel_rfl
def Xp:ca xx:=⟨[.d (.st SI.lf)],[.fresh af,.d (.sl .str),.d af],λa=>nQ n a.1,none⟩
def Xq:Hn SI:=(cm (.s (.s .z (.b (.l ⟨[(15,.v af)],[(1256,.m .str .bool)],[1,5,13,14],[1000,1384],1576,[]⟩ 0 ⟨[],[(1256,.m .str .bool)],[1,5],[1000],1576,[]⟩ .z))) (.s (.s .z (.b (.lx ⟨[(25,.v af)],[(1256,.m .str .bool)],[1,5,23,24],[1000],1832,[]⟩ 2 ⟨[],[],[1],[1000],1832,[]⟩ .z))) (.s .z (.s (.s .z (.s (.j ⟨[(43,.v .bool)],[],[10,11],[1960,2152],2280,[]⟩ .z) .z)) .z)))))
theorem Xr:aH 124 (Xp n) :=cq (ak NU (ak NW (ak (zb n) (ak (IE n) aB)))) func124 Xq n
def JK:ca xx:=⟨[.d aS,.ref (.st SI.Expr)],[.d .bool],λa=>zZ a.1 a.2.1,none⟩
theorem JL:aH 162 JK :=cq aB func162 .z 0
def IG:ca xx:=⟨[.d (.sl aS),.du [aS] .bool],[.d af],λa=>rJ n a.1 a.2.1,none⟩
def II:Hn SI:=(.s .z (.s (.s .z (.b (.lx ⟨[(8,.v af)],[],[0,1,7],[],1256,[]⟩ 0 ⟨[],[],[],[],1256,[]⟩ .z))) .z))
theorem IJ:aH 161 (IG n) :=cq aB func161 II n
def JM:ca xx:=⟨[.d gK,.ref (.st SI.Expr)],[.d .bool],λa=>z8 a.1 a.2.1,none⟩
theorem JN:aH 164 JM :=cq aB func164 .z 0
def ali:ca xx:=⟨[.d .bool],[.d af],λa=>yI a.1,none⟩
theorem aeA:aH 126 ali :=cq aB func126 .z 0
def Yy:ca xx:=⟨[.d af,.d af],[.d af],λa=>wh a.1 a.2.1,none⟩
def Yz:Hn SI:=(gR (.s (.j ⟨[(5,.v af)],[],[],[],1448,[]⟩ (.s .z (.s (.j ⟨[(23,.v .bool)],[],[5],[],1704,[]⟩ .z) .z))) .z))
theorem YA:aH 165 Yy :=cq aB func165 Yz 0
def aeB:ca xx:=⟨[.d af,.d af,.d af],[.d af],λa=>Jm a.1 a.2.1 a.2.2.1,none⟩
theorem aeC:aH 127 aeB :=cq (ak YA (ak aeA aB)) func127 .z 0
def JO:cN xx:=⟨[(.a [.v (.sl aZ),.v (.sl aS),.v (.sl bn),.v (.sl aU),.v (.sl bC),.v (.sl bB),.v (.sl aP),.v af,.mp 0,.v (.sl .str)]),.v (.st SI.Expr)],[(0,.m .str af)],[.v af],[(0,.m .str af)],λv=>jG n v.1 v.2.1 v.2.2.1 v.2.2.2.1 v.2.2.2.2.1 v.2.2.2.2.2.1 v.2.2.2.2.2.2.1 v.2.2.2.2.2.2.2.1 v.2.2.2.2.2.2.2.2.1 v.2.2.2.2.2.2.2.2.2.1 v.2.2.2.2.2.2.2.2.2.2⟩
def JP:ca xx:=⟨[],[.d .bool],λ_=>none,some (JO n)⟩
theorem JQ:aH 125 (JP n) :=oB (ak (IJ n) (ak JL (ak (wz n) (ak JN aB)))) func125 .z n (by kernel_rfl) λ_=>by kernel_rfl
def Gc:Hn SI:=(cm (.s (.s .z (.b (.l ⟨[(5,.o 1512),(11,.v af)],[(0,.m .str af),(1512,.l af)],[2,3,9,10],[1000,1064],1513,[(5,af)]⟩ 0 ⟨[(5,.o 1512)],[(0,.m .str af),(1512,.l af)],[2,3],[1000,1064],1513,[]⟩ (cm (.s (.j ⟨[(5,.o 1577)],[(0,.m .str af),(1577,.l af)],[2,3,9,10,11],[1000,1064],1578,[]⟩ (.b (.s .z (.s (.s (.j ⟨[(31,.v .bool)],[],[2,3,5,7,9,10,11],[0,1000,1064,1512,1769],1961,[]⟩ .z) .z) .z)))) .z))))) .z))
theorem EP(rc:((List gP))->((List cO))->((List fJ))->((List bP))->((List ji))->((List ic))->((List dw))->(Int)->((List ByteArray))->(bU)->((List (ByteArray×Int)))->Option (Int×(List (ByteArray×Int))))(hr:aH 86 (j6 rc)):aH 86 (j6 (fT n rc)) :=oB (ak hr (ak (JQ n) (ak (pW n) (ak aeA (ak aeC aB))))) func86 Gc n (by kernel_rfl) λ_=>by kernel_rfl
theorem uw(n:Nat):∀m,aH 86 (j6 (bR n m))
 | 0=>Q3 (pz func86 (by kernel_rfl:Tryz.f86.body=some (Tryz.f86.body.getD .skip)) (by kernel_rfl)) (λ _ _ h=>(by cases h))
 |m+1=>EP n _ (uw n m)
def Gd:ca xx:=j6 (bR n n)
theorem uM:aH 86 (Gd n):=uw n n
def SF:cN xx:=⟨[.v (.st SI.lf),.v (.sl gK),.v (.sl .str)],[],[(.a [.v (.sl aZ),.v (.sl aS),.v (.sl bn),.v (.sl aU),.v (.sl bC),.v (.sl bB),.v (.sl aP),.v af,.mp 1000,.v (.sl .str)]),.o 1001],[(1000,.m .str af),(1001,.l af)],λv=>mJ n v.1 v.2.1 v.2.2⟩
def SG:ca xx:=⟨[],[.d .bool],λ_=>none,some (SF n)⟩
def SH:Hn SI:=(gR (.s (.s .z (.b (.l ⟨[(26,.v af)],[(1256,.m .str af),(1576,.m .str .bool)],[3,6,8,9,24,25],[1000,1064,1448],1896,[]⟩ 0 ⟨[],[(1256,.m .str af),(1576,.m .str .bool)],[3,6,8,9],[1000,1064,1448],1896,[]⟩ (cm (.s (.j ⟨[],[(1256,.m .str af),(1576,.m .str .bool)],[3,6,8,9,24,25,26],[1000,1064,1448],1960,[]⟩ .z) .z))))) (gR (.s (.s .z (.b (.l ⟨[(61,.v af)],[(1256,.m .str af),(2088,.l af)],[3,6,8,9,12,59,60],[1000,1064,1448,1576,2280],3112,[]⟩ 2 ⟨[],[(1256,.m .str af),(2088,.l af)],[6,8,12],[1064,1448],3112,[]⟩ (cm (.s (.j ⟨[],[(1256,.m .str af),(2088,.l af)],[3,6,8,9,12,59,60,61],[1000,1064,1448,1576,2280],3176,[]⟩ (.b (cm (.s (.j ⟨[],[(1256,.m .str af),(2088,.l af)],[3,6,8,9,12,17,18,59,60,61],[1000,1064,1448,1576,2280,3688],3816,[]⟩ .z) .z)))) .z))))) .z))))
theorem SK:aH 85 (SG n) :=oB (ak (Xr n) (ak (Xk n) (ak (uM n) aB))) func85 SH n (by kernel_rfl) λ_=>by kernel_rfl
def ajl:ca xx:=⟨[.d (.st SI.lf),.d (.sl gK),.d (.sl .str),.d (.st SI.Expr)],[.d af],λa=>Aa n a.1 a.2.1 a.2.2.1 a.2.2.2.1,none⟩
theorem ajm:aH 54 (ajl n) :=cq (ak (Xk n) (ak (SK n) (ak (uM n) aB))) func54 .z n
def agM:ca xx:=⟨[.d (.sl aA)],[.d aA,.d .bool],λa=>MW n a.1,none⟩
def agN:Hn SI:=(.s .z (.s (.s .z (.b (.l ⟨[(3,.v .bool),(8,.v af)],[(1000,Bm)],[2,6,7],[],1320,[]⟩ 0 ⟨[(3,.v .bool)],[(1000,Bm)],[2],[],1320,[]⟩ (cm (.s (.j ⟨[(3,.v .bool)],[(1000,Bm)],[2,6,7,8],[],1384,[]⟩ .z) .z))))) .z))
theorem agO:aH 95 (agM n) :=cq (ak qj aB) func95 agN n
def aeD:ca xx:=⟨[.d (.sl aA)],[.d aA,.d .bool],λa=>Jo n a.1,none⟩
def aeE:Hn SI:=(.s .z (.s (.s (.j ⟨[(11,.v .bool)],[],[0,2],[1000],1128,[]⟩ .z) .z) .z))
theorem aeF:aH 56 (aeD n) :=cq (ak (pV n) (ak (agO n) aB)) func56 aeE n
def Xt:ca xx:=⟨[.d aF],[.fresh (.st SI.ld)],λa=>xu a.1,none⟩
theorem IK:aH 35 Xt :=cq aB func35 .z 0
def IL:ca xx:=⟨[.d (.sl (.st SI.gd)),.du [.st SI.gd] .bool],[.d af],λa=>rM n a.1 a.2.1,none⟩
def IQ:Hn SI:=(.s .z (.s (.s .z (.b (.lx ⟨[(8,.v af)],[],[0,1,7],[],1256,[]⟩ 0 ⟨[],[],[],[],1256,[]⟩ .z))) .z))
theorem IU:aH 171 (IL n) :=cq aB func171 IQ n
def Dc:ca xx:=⟨[.d (.sl (.st SI.gd)),.du [.st SI.gd] .bool],[.d .bool],λa=>kX n a.1 a.2.1,none⟩
theorem Df:aH 140 (Dc n) :=cq (ak (IU n) aB) func140 .z n
def Xu:ca xx:=⟨[.d af,.d af,.d af],[.d .bool],λa=>nR a.1 a.2.1 a.2.2.1,none⟩
theorem Xv:aH 172 Xu :=cq aB func172 .z 0
def YB:ca xx:=⟨[.d (.st SI.gd)],[.d .bool],λa=>Ac a.1,none⟩
theorem YC:aH 142 YB :=cq (ak Xv aB) func142 .z 0
def Qn:ca xx:=⟨[.d (.st SI.gd)],[.d .bool],λa=>tV a.1,none⟩
theorem Qo:aH 141 Qn :=cq (ak YC aB) func141 .z 0
def YD:ca xx:=⟨[.d aA,.d (.sl (.st SI.gd))],[.d .bool],λa=>Ad n a.1 a.2.1,none⟩
theorem YE:aH 96 (YD n) :=cq (ak qj (ak (Df n) (ak Qo aB))) func96 .z n
def ajn:ca xx:=⟨[.d (.sl aA),.d (.sl aA)],[.d .bool],λa=>Tw n a.1 a.2.1,none⟩
theorem ajo:aH 102 (ajn n) :=cq (ak (Fb n) aB) func102 .z n
def agP:ca xx:=⟨[.d (.sl (.st SI.ld))],[.d .bool],λa=>Hz n a.1,none⟩
def agQ:Hn SI:=(cm (.s (.s .z (.b (.lx ⟨[(11,.v af)],[],[0,9,10],[],1448,[]⟩ 0 ⟨[],[],[],[],1448,[]⟩ (cm (.s (.jx ⟨[],[],[0,9,10,11],[],1512,[]⟩ (.b (.s .z (.s (.s (.j ⟨[(42,.v .bool)],[],[0,3,4,9,10,11],[1704],1896,[]⟩ .z) .z) (cm (.s (.j ⟨[(68,.v .bool)],[],[0,9,10,11],[],2472,[]⟩ .z) .z)))))) .z))))) .z))
theorem Xw:aH 62 (agP n) :=cq (ak (pV n) (ak (ajo n) aB)) func62 agQ n
def N7:ca xx:=⟨[.d aA,.d af,.d af],[.d (.st SI.nr)],λa=>wH a.1 a.2.1 a.2.2.1,none⟩
theorem N8:aH 173 N7 :=cq aB func173 .z 0
def Qp:ca xx:=⟨[.d af,.d af],[.d af],λa=>tX a.1 a.2.1,none⟩
def Qq:Hn SI:=(cm (.s (.j ⟨[(5,.v af)],[],[],[],1320,[]⟩ .z) .z))
theorem Qr:aH 174 Qp :=cq aB func174 Qq 0
def aeG:ca xx:=⟨[.d aA,.d (.sl (.st SI.gd)),.d af,.d af],[.d af],λa=>Jp n a.1 a.2.1 a.2.2.1 a.2.2.2.1,none⟩
def aeH:Hn SI:=(gR (.s (.s .z (.b (.l ⟨[(9,.v af),(19,.v af)],[],[10,17,18],[1448],1768,[]⟩ 0 ⟨[(9,.v af)],[],[],[],1768,[]⟩ .z))) .z))
theorem aeI:aH 143 (aeG n) :=cq (ak N8 (ak Qr aB)) func143 aeH n
def Xx:ca xx:=⟨[.d aA,.d (.sl (.st SI.gd)),.d (.sl aA)],[.d af],λa=>xA n a.1 a.2.1 a.2.2.1,none⟩
def Xy:Hn SI:=(cm (.s (.s .z (.b (.l ⟨[(7,.v af),(16,.v af)],[],[1,3,14,15],[1000],1384,[]⟩ 0 ⟨[(7,.v af)],[],[],[],1384,[]⟩ (cm (.s (.b (cm (.b (.l ⟨[(7,.v af),(27,.v af)],[],[1,3,9,14,15,16,25,26],[1000,1576,2024],2216,[]⟩ 2 ⟨[(7,.v af)],[],[1,3,14,15,16],[1000],2216,[]⟩ (cm (.s (.b (cm (.b (.l ⟨[(7,.v af),(38,.v af)],[],[1,3,9,11,14,15,16,25,26,27,36,37],[1000,1576,2024,2792],2984,[]⟩ 4 ⟨[(7,.v af)],[],[1,3,9,14,15,16,25,26,27],[1000,1576,2024],2984,[]⟩ .z)))) .z)))))) .z))))) .z))
theorem Xz:aH 98 (Xx n) :=cq (ak (aeI n) aB) func98 Xy n
def N9:ca xx:=⟨[.d (.st SI.ld),.ref aA,.ref (.sl (.st SI.gd))],[.d .bool],λa=>rz n a.1 a.2.1 a.2.2.1,none⟩
theorem Oa:aH 97 (N9 n) :=cq (ak (Xz n) aB) func97 .z n
def JR:ca xx:=⟨[.d (.sl (.st SI.ld)),.du [.st SI.ld] .bool],[.d af],λa=>tY n a.1 a.2.1,none⟩
def JS:Hn SI:=(.s .z (.s (.s .z (.b (.lx ⟨[(8,.v af)],[],[0,1,7],[],1256,[]⟩ 0 ⟨[],[],[],[],1256,[]⟩ .z))) .z))
theorem JU:aH 105 (JR n) :=cq aB func105 JS n
def EQ:ca xx:=⟨[.d (.sl (.st SI.ld)),.du [.st SI.ld] .bool],[.d .bool],λa=>jr n a.1 a.2.1,none⟩
theorem uy:aH 64 (EQ n) :=cq (ak (JU n) aB) func64 .z n
def XA:ca xx:=⟨[.d aA,.d (.sl (.st SI.gd)),.d (.sl (.st SI.ld))],[.d .bool],λa=>xB n a.1 a.2.1 a.2.2.1,none⟩
def XB:Hn SI:=(.s .z (.s (.s (.j ⟨[(15,.v .bool)],[],[2,3,4],[1000,1064],1192,[]⟩ .z) .z) .z))
theorem XC:aH 58 (XA n) :=cq (ak (YE n) (ak (Xw n) (ak (uy n) (ak (Oa n) aB)))) func58 XB n
def Bz:ca xx:=⟨[.d aF,.ref aA,.ref aU],[.d .bool],λa=>kg n a.1 a.2.1 a.2.2.1,none⟩
theorem BA:aH 57 (Bz n) :=cq (ak IK (ak (XC n) aB)) func57 .z n
def Lh:ca xx:=⟨[.d (.st SI.kf),.du [aF] .bool],[.d .bool],λa=>iw n a.1 a.2.1,none⟩
theorem ze:aH 32 (Lh n) :=cq (ak (qV n) aB) func32 .z n
def BB:ca xx:=⟨[.d aF,.ref aU],[.d .bool],λa=>ko a.1 a.2.1,none⟩
theorem BD:aH 59 BB :=cq aB func59 .z 0
def alj:ca xx:=⟨[.d aA,.d aA],[.d af,.d af],λa=>akE a.1 a.2.1,none⟩
theorem alk:aH 145 alj :=cq aB func145 .z 0
def amA:ca xx:=⟨[.d aA,.d aA],[.d af],λa=>Su a.1 a.2.1,none⟩
def amB:Hn SI:=(.s .z (.s (.s (.j ⟨[(14,.v .bool)],[],[2,3],[1000,1064],1192,[]⟩ .z) .z) .z))
theorem amC:aH 101 amA :=cq (ak qj (ak alk aB)) func101 amB 0
def Dg:ca xx:=⟨[.d (.st SI.fY),.ref (.st SI.kf),.ref aF,.ref aU],[.d .bool],λa=>dQ a.1 a.2.1 a.2.2.1 a.2.2.2.1,none⟩
def Dh:Hn SI:=(cm (.s (.s (.j ⟨[(32,.v .bool)],[],[2,3,6],[1256],1384,[]⟩ .z) .z) (.s (.j ⟨[(7,.v .bool)],[],[2,3,6],[1256],1384,[]⟩ .z) .z)))
theorem Di:aH 100 Dg :=cq (ak qj (ak amC aB)) func100 Dh 0
def Gf:ca xx:=⟨[.d (.sl (.st SI.fY)),.du [.st SI.fY] .bool],[.d af],λa=>qE n a.1 a.2.1,none⟩
def Gg:Hn SI:=(.s .z (.s (.s .z (.b (.lx ⟨[(8,.v af)],[],[0,1,7],[],1256,[]⟩ 0 ⟨[],[],[],[],1256,[]⟩ .z))) .z))
theorem Gh:aH 144 (Gf n) :=cq aB func144 Gg n
def BF:ca xx:=⟨[.d (.sl (.st SI.fY)),.du [.st SI.fY] .bool],[.d .bool],λa=>kr n a.1 a.2.1,none⟩
theorem BG:aH 99 (BF n) :=cq (ak (Gh n) aB) func99 .z n
def IV:ca xx:=⟨[.d (.st SI.kf),.d aU,.d aF],[.d .bool],λa=>rO n a.1 a.2.1 a.2.2.1,none⟩
theorem IW:aH 61 (IV n) :=cq (ak (BG n) (ak Di aB)) func61 .z n
def BH:ca xx:=⟨[.d aF,.ref (.st SI.kf),.ref aU],[.d .bool],λa=>ku n a.1 a.2.1 a.2.2.1,none⟩
theorem BJ:aH 60 (BH n) :=cq (ak (IW n) aB) func60 .z n
def Gi:ca xx:=⟨[.d (.st SI.kf),.d aU],[.d .bool],λa=>ng n a.1 a.2.1,none⟩
theorem Gj:aH 31 (Gi n) :=cq (ak (abK n) (ak (ajm n) (ak (aeF n) (ak (ze n) (ak (BA n) (ak BD (ak (BJ n) aB))))))) func31 .z n
def SL:ca xx:=⟨[.d aA,.ref aA],[.d .bool],λa=>vD a.1 a.2.1,none⟩
theorem SQ:aH 108 SL :=cq aB func108 .z 0
def JV:ca xx:=⟨[.d (.sl aA),.du [aA] .bool],[.d af],λa=>tZ n a.1 a.2.1,none⟩
def JW:Hn SI:=(.s .z (.s (.s .z (.b (.lx ⟨[(8,.v af)],[],[0,1,7],[],1256,[]⟩ 0 ⟨[],[],[],[],1256,[]⟩ .z))) .z))
theorem JX:aH 149 (JV n) :=cq aB func149 JW n
def ER:ca xx:=⟨[.d (.sl aA),.du [aA] .bool],[.d .bool],λa=>jv n a.1 a.2.1,none⟩
theorem uz:aH 106 (ER n) :=cq (ak (JX n) aB) func106 .z n
def abM:ca xx:=⟨[.d aA,.ref (.sl aA)],[.d .bool],λa=>En n a.1 a.2.1,none⟩
theorem abN:aH 107 (abM n) :=cq (ak (uz n) (ak SQ aB)) func107 .z n
def ajp:ca xx:=⟨[.d (.sl aA),.d (.sl aA)],[.d .bool],λa=>Tx n a.1 a.2.1,none⟩
theorem ajq:aH 66 (ajp n) :=cq (ak (uz n) (ak (abN n) aB)) func66 .z n
def SS:ca xx:=⟨[.d (.st SI.ld),.ref (.st SI.eJ)],[.d .bool],λa=>qO n a.1 a.2.1,none⟩
theorem SV:aH 65 (SS n) :=cq (ak (ajq n) aB) func65 .z n
def abO:ca xx:=⟨[.d (.sl (.st SI.eJ)),.d af,.d (.sl (.st SI.ld))],[.d .bool],λa=>Eo n a.1 a.2.1 a.2.2.1,none⟩
def abP:Hn SI:=(cm (.s (.s .z (.b (.lx ⟨[(14,.v af)],[],[1,2,12,13],[],1448,[]⟩ 0 ⟨[],[],[],[],1448,[]⟩ (cm (.s (.jx ⟨[],[],[1,2,12,13,14],[],1512,[]⟩ (.b (.s .z (.s (.s (.j ⟨[(27,.v .bool)],[],[1,2,8,12,13,14],[1640],1768,[]⟩ .z) .z) .z)))) .z))))) .z))
theorem abQ:aH 34 (abO n) :=cq (ak (Xw n) (ak (pV n) (ak (uy n) (ak (SV n) aB)))) func34 abP n
def Li:ca xx:=⟨[.d aF,.ref (.st SI.ir),.ref dI],[.d .bool],λa=>nk n a.1 a.2.1 a.2.2.1,none⟩
theorem Lj:aH 33 (Li n) :=cq (ak IK (ak (abQ n) aB)) func33 .z n
def Gl:cN xx:=⟨[.v .str,.v .bool,.p 0],[(0,qr),(1,.l .str)],[],[(0,.c 1 [[.o 1000]]),(1000,.l .str)],λv=>jP n v.1 v.2.1 v.2.2⟩
def Gm:ca xx:=⟨[],[.d .bool],λ_=>none,some (Gl n)⟩
def Gn:Hn SI:=(.s (.j ⟨[(11,.v .bool)],[],[0,2],[0,1],1000,[]⟩ .z) .z)
theorem Gp:aH 28 (Gm n) :=oB (ak (pW n) aB) func28 Gn n (by kernel_rfl) λ_=>by kernel_rfl
def SY:ca xx:=⟨[.d (.st SI.ir),.d dI,.d af],[.fresh .str,.d af],λa=>qP n a.1 a.2.1 a.2.2.1,none⟩
def S9:Hn SI:=(HH (.s (.s .z (.b (.l ⟨[(31,.v af)],[(1960,.c 1 [[.o 2664]]),(2664,.l .str)],[3,4,8,10,11,29,30],[1000,1064,1640,2472],2665,[(9028160,.str)]⟩ 0 ⟨[],[(1960,.c 1 [[.o 2664]]),(2664,.l .str)],[3,4,8,10,11],[1000,1064,1640],2665,[]⟩ .z))) .z))
theorem Ff:aH 13 (SY n) :=cq (ak (Yu n) (ak (Xj n) (ak (Gj n) (ak (Gp n) (ak (ze n) (ak (Lj n) aB)))))) func13 S9 n
def Qs:ca xx:=⟨[.d dI],[.fresh aF],λa=>ny n a.1,none⟩
def Qt:Hn SI:=(cm (.s (.s .z (.b (.l ⟨[(3,.o 1448),(9,.v af)],[(1448,.l aF)],[7,8],[],1449,[(3,aF)]⟩ 0 ⟨[(3,.o 1448)],[(1448,.l aF)],[],[],1449,[]⟩ .z))) .z))
theorem Dj:aH 15 (Qs n) :=cq aB func15 Qt n
def Ta:ca xx:=⟨[.d aF],[.d af],λa=>mK a.1,none⟩
theorem rF:aH 10 Ta :=cq (ak jb aB) func10 .z 0
def YF:ca xx:=⟨[.d (.sl aF)],[.d .bool],λa=>Af n a.1,none⟩
def YG:Hn SI:=(cm (.s (.s .z (.b (.lx ⟨[(3,.v af),(8,.v af)],[],[6,7],[],1320,[]⟩ 0 ⟨[],[],[],[],1320,[]⟩ .z))) .z))
theorem YH:aH 14 (YF n) :=cq (ak rF aB) func14 YG n
def Qu:ca xx:=⟨[.d (.sl gK)],[.fresh gK],λa=>yJ a.1,none⟩
theorem Qv:aH 22 Qu :=cq aB func22 .z 0
def Td:ca xx:=⟨[.d dI,.d (.sl af)],[.d dI,.d af,.d af],λa=>gW n a.1 a.2.1,none⟩
def Te:Hn SI:=(cm (.s (.s (.j ⟨[(29,.v .bool)],[],[1,2,4],[1000,1064],1448,[]⟩ .z) .z) (.s .z (.s (.s .z (.b (.lx ⟨[(9,.v af),(10,.v af),(37,.v af)],[(1640,.c 2 [[.v af,.o 2152]]),(2152,.l (.st SI.Phase))],[1,4,8,35,36],[1064],2153,[(7717441,.st SI.Phase)]⟩ 0 ⟨[(9,.v af)],[(1640,.c 2 [[.v af,.o 2152]]),(2152,.l (.st SI.Phase))],[4,8],[1064],2153,[]⟩ (cm (.s (.b (cm (.s (.s .z (.b (.lx ⟨[(9,.v af),(10,.v af),(48,.v af)],[(2729,.c 2 [[.o 3113,.o 2601]]),(2601,.l gK),(3113,.l aF)],[1,4,8,13,35,36,37,46,47],[1064,1640,2152],3114,[(12177984,aF)]⟩ 2 ⟨[(9,.v af),(10,.v af)],[(2729,.c 2 [[.o 3113,.o 2601]]),(2601,.l gK),(3113,.l aF)],[1,4,8,13,35,36,37],[1064,1640,2152],3114,[]⟩ (cm (.s (.jx ⟨[(9,.v af),(10,.v af)],[(2729,.c 2 [[.o 3178,.o 2601]]),(2601,.l gK),(3178,.l aF)],[1,4,8,13,35,36,37,46,47,48],[1064,1640,2152],3179,[]⟩ (.b (gR (.s (.s (.j ⟨[(66,.v .bool)],[],[1,4,8,9,10,13,15,16,17,35,36,37,46,47,48],[1064,1640,2152,2601,2729,3113,3306],4138,[]⟩ .z) .z) (.s .z (.s (.j ⟨[],[(3306,.c 9 [[.v af,.v af,.v af,.v af,.v af,.v af,.v af,.v af,.v .bool]])],[1,4,8,9,10,13,15,16,17,35,36,37,46,47,48],[1064,1640,2152,2601,2729,3113],4714,[]⟩ .z) .z)))))) .z))))) .z))) .z))))) .z))))
theorem Fg:aH 9 (Td n) :=cq (ak (Dj n) (ak (Ir n) (ak Qv (ak rF (ak CJ aB))))) func9 Te n
def uD:ca xx:=⟨[.mut aJ,.d af,.d af,.du [aJ,aJ] af],[.mu aJ],λa=>dn n a.1 a.2.1 a.2.2.1 a.2.2.2.1,none⟩
def uE:Hn SI:=(.s .z (.b (.l ⟨[(8,.v af)],[(0,.l aJ)],[0,1,2,3],[],1192,[]⟩ 0 ⟨[],[(0,.l aJ)],[],[],1192,[]⟩ (.s .z (.s (.b (.s .z (.b (.l ⟨[(9,.v af)],[(0,.l aJ)],[0,1,2,3,8],[],1512,[]⟩ 2 ⟨[],[(0,.l aJ)],[0,1,2,3,8],[],1512,[]⟩ (.s (.s (.j ⟨[(34,.v .bool)],[],[0,1,2,3,8,9],[0],1512,[]⟩ .z) .z) .z))))) .z)))))
theorem uF:aH 67 (uD n) :=cq aB func67 uE n
def wL:ca xx:=⟨[.mut aJ,.d af,.d af,.d af,.du [aJ,aJ] af],[.mu aJ],λa=>dO n a.1 a.2.1 a.2.2.1 a.2.2.2.1 a.2.2.2.2.1,none⟩
def wM:Hn SI:=(.s .z (.b (.l ⟨[(10,.v af)],[(0,.l aJ)],[0,1,2,3],[],1064,[]⟩ 0 ⟨[],[(0,.l aJ)],[],[],1064,[]⟩ .z)))
theorem wN:aH 150 (wL n) :=cq aB func150 wM n
def zy:ca xx:=⟨[.mut aJ,.d af,.d af,.d af,.du [aJ,aJ] af],[.mu aJ],λa=>iy n a.1 a.2.1 a.2.2.1 a.2.2.2.1 a.2.2.2.2.1,none⟩
def zA:Hn SI:=(cm (.s (.b (.l ⟨[(10,.v af),(11,.v af)],[(0,.l aJ)],[0,2,4],[],1512,[]⟩ 0 ⟨[(10,.v af)],[(0,.l aJ)],[0,2,4],[],1512,[]⟩ .z)) .z))
theorem zB:aH 109 (zy n) :=cq (ak (wN n) aB) func109 zA n
def xI:Hn SI:=(.s (.s .z (.s (cm (.s (.b (.l ⟨[(10,.v af),(11,.v af)],[],[0,1,4],[0],1512,[]⟩ 0 ⟨[(10,.v af)],[],[0,1],[0],1512,[]⟩ .z)) (.s (.s .z (.b (.l ⟨[(13,.v af)],[(0,.l aJ)],[0,10],[],1640,[]⟩ 2 ⟨[],[(0,.l aJ)],[],[],1640,[]⟩ .z))) .z))) .z)) (.s (.s .z (.s (cm (.s (.b (.l ⟨[(14,.v af),(15,.v af)],[],[0,2,4],[0],1768,[]⟩ 4 ⟨[(14,.v af)],[],[0,2],[0],1768,[]⟩ .z)) (.s (.s .z (.b (.l ⟨[(17,.v af)],[(0,.l aJ)],[0,14],[],1896,[]⟩ 6 ⟨[],[(0,.l aJ)],[],[],1896,[]⟩ .z))) .z))) .z)) (gR (.s (.j ⟨[(20,.v af),(21,.v af)],[],[0,1,2,3,4,18,19],[0],2344,[]⟩ .z) (.s .z (.s (.b (.l ⟨[(20,.v af),(21,.v af)],[],[0,1,2,3,4,18,19,22],[0],2536,[]⟩ 8 ⟨[(20,.v af)],[],[0,1,2,3,4,18,19],[0],2536,[]⟩ .z)) (.s .z (.s (.j ⟨[],[(0,.l aJ)],[0,1,3,4,18,20,24],[],2792,[]⟩ (.s (.j ⟨[(185,.v .bool)],[],[0,1,2,3,4,18,20,24],[0],2792,[]⟩ .z) .z)) (.s (.j ⟨[],[(0,.l aJ)],[0,3,4,18,24],[],2792,[]⟩ (.s (.j ⟨[(199,.v .bool)],[],[0,1,3,4,18,20,24],[0],2792,[]⟩ .z) .z)) (.s (.j ⟨[(213,.v .bool)],[],[0,3,4,18,24],[0],2792,[]⟩ .z) .z))))))))))
theorem wO(rc:((List aD))->(Int)->(Int)->(Int)->((aD×aD×Unit)->Option Int)->Option (List aD))(hr:aH 68 (jJ rc)):aH 68 (jJ (dm n rc)) :=cq (ak (zB n) (ak hr aB)) func68 xI n
theorem oo(n:Nat):∀m,aH 68 (jJ (bW n m))
 | 0=>yd (pz func68 (by kernel_rfl:Tryz.f68.body=some (Tryz.f68.body.getD .skip)) (by kernel_rfl)) (λ _ _ h=>(by cases h)) rfl
 |m+1=>wO n _ (oo n m)
def xJ:ca xx:=⟨[.mut aJ,.d af,.d af,.d af,.du [aJ,aJ] af],[.mu aJ],λa=>fF n a.1 a.2.1 a.2.2.1 a.2.2.2.1 a.2.2.2.2.1,none⟩
theorem xK:aH 68 (xJ n):=oo n n
def zC:ca xx:=⟨[.mut aJ,.d af,.du [aJ,aJ] af],[.mu aJ],λa=>nC n a.1 a.2.1 a.2.2.1,none⟩
def zD:Hn SI:=(cm (.s (.b (.l ⟨[(7,.v af),(8,.v af)],[(0,.l aJ)],[0,1,2,6],[],1256,[]⟩ 0 ⟨[(7,.v af)],[(0,.l aJ)],[0,1,2,6],[],1256,[]⟩ .z)) (.s .z (.b (.l ⟨[(6,.v af)],[(0,.l aJ)],[0,1,2],[],1576,[]⟩ 2 ⟨[],[(0,.l aJ)],[],[],1576,[]⟩ (.s .z (.b (.s .z (.s (.b (.l ⟨[(7,.v af),(8,.v af)],[(0,.l aJ)],[0,1,2,6],[],2024,[]⟩ 4 ⟨[(7,.v af)],[(0,.l aJ)],[0,1,2,6],[],2024,[]⟩ .z)) (.s (.j ⟨[],[(0,.l aJ)],[0,1,2,6],[],2024,[]⟩ .z) .z))))))))))
theorem zF:aH 38 (zC n) :=cq (ak (uF n) (ak (xK n) aB)) func38 zD n
def zf:ca xx:=⟨[.mut aJ,.du [aJ,aJ] af],[.mu aJ],λa=>jl n a.1 a.2.1,none⟩
theorem zh:aH 17 (zf n) :=cq (ak (zF n) aB) func17 .z n
def Ob:ca xx:=⟨[.d aJ,.d aJ],[.d af],λa=>oh a.1 a.2.1,none⟩
theorem Oc:aH 18 Ob :=cq (ak l9 aB) func18 .z 0
def Tf:ca xx:=⟨[.d (.st SI.ir),.d dI,.d af],[.d .bool],λa=>mM n a.1 a.2.1 a.2.2.1,none⟩
theorem Fh:aH 7 (Tf n) :=cq (ak (Ff n) aB) func7 .z n
def JY:cN xx:=⟨[.v (.sl aF)],[],[(.f 36 [] [.p 1000])],[(1000,.c 1 [[.v (.sl aF)]])],λv=>oV v⟩
def JZ:ca xx:=⟨[],[.d .bool],λ_=>none,some (JY)⟩
theorem J2:aH 16 JZ :=oB aB func16 .z 0 (by kernel_rfl) λ_=>by kernel_rfl
theorem Dk:eT Tryz.prog 36:=pz func36 (by kernel_rfl:Tryz.f36.body=some (Tryz.f36.body.getD .skip)) (by kernel_rfl)
theorem BK(sh:Sh SI)(hh:Hn SI):E4 Tryz.prog (⟨sh,hh,36,aF,jQ n⟩:yr xx):=
 anQ (code:=RM) (n:=n) RK mixed (ak rF aB) 3 8 9 10 11 37 func36 (by kernel_rfl) rfl (by kernel_rfl) (λ l h=>Iq.2.1 (l,()) l h) (h0:=.z) (h1:=(.b (.s .z (.s (.b (.l ⟨[(4,.v af)],[(1000,.l af)],[0,1,3],[],1257,[]⟩ 2 ⟨[(4,.v af)],[(1000,.l af)],[0,1,3],[],1257,[]⟩ (.s (.s (.j ⟨[(28,.v .bool)],[],[0,1,3,4],[1000],1257,[]⟩ .z) .z) .z))) .z)))) (λ _ _=>by kernel_rfl) (λ _ _ _=>by kernel_rfl) λ_=>rfl
def Od:cN xx:=⟨[.v (.st SI.ir),.v dI,.v af],[],[(.a [.v (.sl af),.v af]),.v af],[],λv=>bT n v.1 v.2.1 v.2.2⟩
def Oe:ca xx:=⟨[],[.d .bool],λ_=>none,some (Od n)⟩
def Og:Hn SI:=(TZ (.s (.s .z (.b (.lx ⟨[(58,.v af)],[],[2,3,4,6,56,57],[0,1,2,2408],2729,[]⟩ 2 ⟨[],[],[6],[2],2729,[]⟩ .z))) .z))
def J3:yr xx:=⟨⟨[(3,.p 0),(4,.p 1),(6,.p 2),(10,.p 3)],[(0,.c 13 [[.v (.sl aZ),.v (.sl aS),.v (.sl bn),.v (.sl aU),.v (.sl bC),.v (.sl bB),.v (.sl aP),.v af,(.v (.sl (.st SI.Lot))),(.v (.sl (.st SI.eJ))),(.v (.sl (.st SI.Window))),(.v (.sl (.st SI.fY))),.v (.sl gK)]]),(1,.c 2 [[.v af,(.v (.sl (.st SI.Phase)))]]),(2,.c 2 [[.nil,.v af]]),(3,.c 1 [[.o 2408]]),(2408,.l aJ)],[2],[],2409,[(1012288,aJ),(9814592,aJ)]⟩,.z,36,aF,jQ n⟩
theorem Ap:aH 6 (Oe n) :=cqX (code:=RM) (n:=n) (i:=J3 n) RK mixed (ak (Ff n) (ak (Dj n) (ak (YH n) (ak J2 (ak (Fg n) (ak (zh n) (ak Oc (ak (Fh n) aB)))))))) (BK n _ _) Dk func6 Og (by kernel_rfl) λ_=>by kernel_rfl
def aeJ:ca xx:=⟨[],[.d .bool],λ_=>Jq n,none⟩
def aeK:Hn SI:=(TX (.s (.s (.j ⟨[(74,.v .bool)],[],[2,5,9,10],[1384,2472,3688],4648,[]⟩ .z) .z) .z))
theorem aeL:aH 4 (aeJ n) :=cq (ak abA (ak (Ap n) (ak (Fg n) (ak rF aB)))) func4 aeK n
def aeM:Hn SI:=(gR (.s (.s .z (.b (.l ⟨[(7,.v af),(8,.v af)],[],[1,2,3],[1000],1384,[]⟩ 0 ⟨[(7,.v af)],[],[],[],1384,[]⟩ (.s (.s (.j ⟨[(22,.v .bool)],[],[1,2,3,7,8],[1000],1384,[]⟩ .z) .z) .z)))) .z))
theorem abR(rc:(bU)->(Int)->(Int)->Option Int)(hr:aH 25 (Ep rc)):aH 25 (Ep (Ag n rc)) :=cq (ak hr aB) func25 aeM n
theorem Oh(n:Nat):∀m,aH 25 (Ep (sD n m))
 | 0=>yd (pz func25 (by kernel_rfl:Tryz.f25.body=some (Tryz.f25.body.getD .skip)) (by kernel_rfl)) (λ _ _ h=>(by cases h)) rfl
 |m+1=>abR n _ (Oh n m)
def aeN:ca xx:=⟨[.d (.st SI.Expr),.d af,.d af],[.d af],λa=>Cq n a.1 a.2.1 a.2.2.1,none⟩
theorem aeO:aH 25 (aeN n):=Oh n n
def agR:ca xx:=⟨[.d (.st SI.lf)],[.d .bool],λa=>MZ n a.1,none⟩
def agS:Hn SI:=(.s .z (.s (.s .z (.b (.lx ⟨[(3,.v af)],[],[1],[1000],1192,[]⟩ 0 ⟨[],[],[1],[1000],1192,[]⟩ (.s (.s (.j ⟨[(16,.v .bool)],[],[1,3],[1000],1192,[]⟩ .z) .z) (.s (.b (.s (.j ⟨[(46,.v .bool)],[],[1,3],[1000],1192,[]⟩ .z) .z)) .z))))) (.s (.s .z (.b (.lx ⟨[(4,.v af)],[],[1],[1000],1256,[]⟩ 2 ⟨[],[],[1],[1000],1256,[]⟩ (.s (.s (.j ⟨[(55,.v .bool)],[],[1,4],[1000],1256,[]⟩ .z) .z) .z)))) (.s (.s .z (.b (.lx ⟨[(5,.v af)],[],[1],[1000],1320,[]⟩ 4 ⟨[],[],[1],[1000],1320,[]⟩ (.s (.s (.j ⟨[(74,.v .bool)],[],[1,5],[1000],1320,[]⟩ .z) .z) .z)))) (.s (.s .z (.b (.lx ⟨[(6,.v af)],[],[1],[1000],1384,[]⟩ 6 ⟨[],[],[1],[1000],1384,[]⟩ (.s (.s (.j ⟨[(93,.v .bool)],[],[1,6],[1000],1384,[]⟩ .z) .z) .z)))) (.s (.s .z (.b (.lx ⟨[(7,.v af)],[],[1],[1000],1448,[]⟩ 8 ⟨[],[],[1],[1000],1448,[]⟩ (.s (.s (.j ⟨[(112,.v .bool)],[],[1,7],[1000],1448,[]⟩ .z) .z) .z)))) .z))))))
theorem agT:aH 11 (agR n) :=cq (ak (aeO n) aB) func11 agS n
def Tg:ca xx:=⟨[.d aA],[.d .bool],λa=>vF a.1,none⟩
theorem Ti:aH 115 Tg :=cq aB func115 .z 0
def XD:ca xx:=⟨[.d (.st SI.A6)],[.d .bool],λa=>Er a.1,none⟩
theorem XE:aH 74 XD :=cq (ak Ti aB) func74 .z 0
def abS:ca xx:=⟨[.d af,.d af,.d af],[.d .bool],λa=>Es a.1 a.2.1 a.2.2.1,none⟩
theorem abT:aH 75 abS :=cq aB func75 .z 0
def Oi:ca xx:=⟨[.d aF],[.d .bool],λa=>rC a.1,none⟩
theorem Oj:aH 47 Oi :=cq (ak XE (ak abT aB)) func47 .z 0
def abU:ca xx:=⟨[.d aF],[.d af],λa=>Et a.1,none⟩
theorem abV:aH 26 abU :=cq (ak Oj aB) func26 .z 0
def agU:ca xx:=⟨[.d dI],[.d af],λa=>M0 n a.1,none⟩
def agV:Hn SI:=(cm (.s (.s .z (.b (.lx ⟨[(3,.v af),(4,.v af)],[],[1],[1000],1256,[]⟩ 0 ⟨[(3,.v af)],[],[],[],1256,[]⟩ (.s .z (.s (.b (.s .z (.b (.lx ⟨[(3,.v af),(5,.v af)],[],[1,4],[1000],1640,[]⟩ 2 ⟨[(3,.v af)],[],[1,4],[1000],1640,[]⟩ .z)))) .z))))) .z))
theorem agW:aH 12 (agU n) :=cq (ak abV aB) func12 agV n
def ajr:ca xx:=⟨[.d (.st SI.ir),.d dI],[.d .bool],λa=>Ty n a.1 a.2.1,none⟩
def ajs:Hn SI:=(.s .z (.s (.s .z (.b (.lx ⟨[(5,.v af)],[],[2,3],[1000,1064],1256,[]⟩ 0 ⟨[],[],[2,3],[1000,1064],1256,[]⟩ (.s (.s (.j ⟨[(16,.v .bool)],[],[2,3,5],[1000,1064],1256,[]⟩ .z) .z) .z)))) (.s (.s .z (.b (.lx ⟨[(6,.v af)],[],[2,3],[1000,1064],1320,[]⟩ 2 ⟨[],[],[2,3],[1000,1064],1320,[]⟩ (.s (.s (.j ⟨[(35,.v .bool)],[],[2,3,6],[1000,1064],1320,[]⟩ .z) .z) .z)))) (.s (.s .z (.b (.lx ⟨[(7,.v af)],[],[2,3],[1000,1064],1384,[]⟩ 4 ⟨[],[],[2,3],[1000,1064],1384,[]⟩ (.s (.s (.j ⟨[(54,.v .bool)],[],[2,3,7],[1000,1064],1384,[]⟩ .z) .z) (.s (.b (.s (.j ⟨[(74,.v .bool)],[],[2,3,7],[1000,1064],1384,[]⟩ .z) .z)) .z))))) .z))))
theorem ajt:aH 5 (ajr n) :=cq (ak (agT n) (ak (agW n) aB)) func5 ajs n
def Ol:ca xx:=⟨[.d (.st SI.ir),.d dI,.d af,.d (.int .u8)],[.d .bool],λa=>rD n a.1 a.2.1 a.2.2.1 a.2.2.2.1,none⟩
def Om:Hn SI:=(HH (.s (.s (.j ⟨[(45,.v .bool)],[],[2,3,4,5,9,10,11],[1000,1064,2024],2536,[]⟩ .z) .z) .z))
theorem Oo:aH 3 (Ol n) :=cq (ak (aeL n) (ak (ajt n) (ak (Ap n) (ak (Fh n) aB)))) func3 Om n
end
end Go.Proofs
