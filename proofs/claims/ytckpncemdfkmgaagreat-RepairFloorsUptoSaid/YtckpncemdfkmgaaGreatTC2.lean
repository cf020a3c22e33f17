import Derived.Test.YtckpncemdfkmgaaGreatTC1
namespace Go.Proofs
open Go.Gb Go.RowKit
open Tryz
noncomputable section
variable (n:Nat)
def y7:cM xx:=⟨[.v af,.p 0],[(0,qr),(1,.l .bool)],[.v .bool],[(0,qr),(1,.l .bool)],λv=>mO v.1 v.2⟩
def y8:b8 xx:=⟨[],[.d .bool],λ_=>none,some (y7)⟩
theorem y9:aH 243 y8 :=oA aC func243 .z 0 (by kernel_rfl) λ_=>by kernel_rfl
def F7:cM xx:=⟨[.v (.sl af),(.f 243 [] [.p 0])],[(0,qr),(1,.l .bool)],[.v af],[(0,qr),(1,.l .bool)],λv=>ni n v.1 v.2⟩
def F8:b8 xx:=⟨[],[.d .bool],λ_=>none,some (F7 n)⟩
def F9:Hn SI:=(.s .z (.s (.s .z (.b (.lx ⟨[(8,.v af)],[(0,qr),(1,.l .bool)],[0,1,7],[],1256,[]⟩ 0 ⟨[],[(0,qr),(1,.l .bool)],[],[],1256,[]⟩ .z))) .z))
theorem Ga:aH 255 (F8 n) :=oA (ak y9 aC) func255 F9 n (by kernel_rfl) λ_=>by kernel_rfl
def Bq:cM xx:=⟨[.v (.sl af),(.f 243 [] [.p 0])],[(0,qr),(1,.l .bool)],[.v .bool],[(0,qr),(1,.l .bool)],λv=>iT n v.1 v.2⟩
def Br:b8 xx:=⟨[],[.d .bool],λ_=>none,some (Bq n)⟩
theorem Bt:aH 242 (Br n) :=oA (ak (Ga n) aC) func242 .z n (by kernel_rfl) λ_=>by kernel_rfl
def IC:b8 xx:=⟨[.ref (.st SI.graph)],[.fresh af],λa=>nR n a.1,none⟩
def IE:Hn SI:=(gR (.s (.s .z (.b (.l ⟨[(4,.o 2024),(20,.v af)],[(1448,xe),(2024,.l af),(1384,.l .bool)],[0,3,19],[],2025,[(4,af)]⟩ 0 ⟨[(4,.o 2024)],[(2024,.l af)],[],[],2025,[]⟩ (cg (.s (.b (.s .z (.s (.s .z (.b (.l ⟨[(5,.v af),(27,.v af)],[(1448,xe),(1384,.l .bool)],[0,3,4,19,20,25,26],[2024],2537,[]⟩ 2 ⟨[(5,.v af)],[(1448,xe),(1384,.l .bool)],[0,3,4,19,20],[2024],2537,[]⟩ (cg (.s (.j ⟨[(5,.v af)],[(1448,xe),(1384,.l .bool)],[0,3,4,19,20,25,26,27],[2024],2601,[]⟩ (.b (cg (.s (.j ⟨[(66,.v .bool)],[],[0,3,4,5,6,19,20,25,26,27],[1384,1448,2024],3177,[]⟩ .z) .z)))) .z))))) .z))) .z))))) .z))
theorem IG:aH 217 (IC n) :=cq (ak (Bt n) aC) func217 IE n
def Bu:cM xx:=⟨[.p 0,.v af],[(0,rm)],[.oz 1000],[(0,rm),(1000,.l .str)],λv=>kD n v.1 v.2.1 v.2.2⟩
def Bv:b8 xx:=⟨[],[.d .bool],λ_=>none,some (Bu n)⟩
def Bw:Hn SI:=(xf (.b (.lx ⟨[(6,.o 1512),(7,.v af)],[(1512,.l .str)],[0,1,5],[0,1192],1513,[(6,.str)]⟩ 999999 ⟨[],[],[],[],1512,[]⟩ (.b (cg (.s (.s .z (.b (.l ⟨[(8,.v af),(34,.v af)],[],[0,1,5,6,32,33],[0,1192,2153],2921,[]⟩ 2 ⟨[(8,.v af)],[],[0,1,5,6],[0,1192,2153],2921,[]⟩ (cg (.s (.j ⟨[(8,.v af)],[],[0,1,5,6,32,33,34],[0,1192,2153],2985,[]⟩ (.b (.s .z (.s (.j ⟨[(57,.v .bool)],[],[0,1,5,6,8,10,32,33,34],[0,1192,2153],3177,[]⟩ .z) .z)))) .z))))) .z))))))
theorem Bz:aH 240 (Bv n) :=oA (ak (Bp n) aC) func240 Bw n (by kernel_rfl) λ_=>by kernel_rfl
def za:cM xx:=⟨[.p 0],[(0,rm)],[.oz 1000],[(0,rm),(1000,.l .str)],λv=>jv n v.1 v.2⟩
def zb:b8 xx:=⟨[],[.d .bool],λ_=>none,some (za n)⟩
def ze:Hn SI:=(cg (.s (.s .z (.b (.l ⟨[(3,.oz 1512),(11,.v af)],[(0,rm),(1512,.l .str)],[0,10],[],1513,[(1099511627779,.str)]⟩ 0 ⟨[(3,.oz 1512)],[(0,rm),(1512,.l .str)],[],[],1513,[]⟩ (cg (.s (.j ⟨[(3,.oz 1577)],[(0,rm),(1577,.l .str)],[0,10,11],[],1578,[]⟩ (.b (cg (.s (.s (.j ⟨[(18,.v .bool)],[],[0,3,5,10,11],[0,1512,1833],1961,[]⟩ .z) .z) (.s (.j ⟨[(40,.v .bool)],[],[0,3,5,10,11],[0,1512,1833],1961,[]⟩ .z) .z))))) .z))))) .z))
theorem zf:aH 216 (zb n) :=oA (ak (Bz n) (ak (JI n) aC)) func216 ze n (by kernel_rfl) λ_=>by kernel_rfl
def XE:b8 xx:=⟨[.d (.st SI.i7)],[.fresh af,.d (.sl .str),.d af],λa=>nS n a.1,none⟩
def XF:Hn SI:=(cg (.s (.s .z (.b (.l ⟨[(15,.v af)],[(1256,.m .str .bool)],[1,5,13,14],[1000,1384],1576,[]⟩ 0 ⟨[],[(1256,.m .str .bool)],[1,5],[1000],1576,[]⟩ .z))) (.s (.s .z (.b (.lx ⟨[(25,.v af)],[(1256,.m .str .bool)],[1,5,23,24],[1000],1832,[]⟩ 2 ⟨[],[],[1],[1000],1832,[]⟩ .z))) (.s .z (.s (.s .z (.s (.j ⟨[(43,.v .bool)],[],[10,11],[1960,2152],2280,[]⟩ .z) .z)) .z)))))
theorem XG:aH 192 (XE n) :=cq (ak Oc (ak Oe (ak (zf n) (ak (IG n) aC)))) func192 XF n
def JJ:b8 xx:=⟨[.d aS,.ref (.st SI.Expr)],[.d .bool],λa=>Aa a.1 a.2.1,none⟩
theorem JK:aH 219 JJ :=cq aC func219 .z 0
def II:b8 xx:=⟨[.d (.sl aS),.dt [aS] .bool],[.d af],λa=>rJ n a.1 a.2.1,none⟩
def IJ:Hn SI:=(.s .z (.s (.s .z (.b (.lx ⟨[(8,.v af)],[],[0,1,7],[],1256,[]⟩ 0 ⟨[],[],[],[],1256,[]⟩ .z))) .z))
theorem IK:aH 218 (II n) :=cq aC func218 IJ n
def JL:b8 xx:=⟨[.d fZ,.ref (.st SI.Expr)],[.d .bool],λa=>Ab a.1 a.2.1,none⟩
theorem JM:aH 220 JL :=cq aC func220 .z 0
def alH:b8 xx:=⟨[.d .bool],[.d af],λa=>yM a.1,none⟩
theorem aeQ:aH 194 alH :=cq aC func194 .z 0
def YM:b8 xx:=⟨[.d af,.d af],[.d af],λa=>wo a.1 a.2.1,none⟩
def YN:Hn SI:=(gR (.s (.j ⟨[(5,.v af)],[],[],[],1448,[]⟩ (.s .z (.s (.j ⟨[(23,.v .bool)],[],[5],[],1704,[]⟩ .z) .z))) .z))
theorem YO:aH 221 YM :=cq aC func221 YN 0
def aeR:b8 xx:=⟨[.d af,.d af,.d af],[.d af],λa=>Jo a.1 a.2.1 a.2.2.1,none⟩
theorem aeS:aH 195 aeR :=cq (ak YO (ak aeQ aC)) func195 .z 0
def JN:cM xx:=⟨[(.a [.v (.sl aZ),.v (.sl aS),.v (.sl bn),.v (.sl aU),.v (.sl bE),.v (.sl bB),.v (.sl aP),.v af,.mp 0,.v (.sl .str)]),.v (.st SI.Expr)],[(0,.m .str af)],[.v af],[(0,.m .str af)],λv=>jL n v.1 v.2.1 v.2.2.1 v.2.2.2.1 v.2.2.2.2.1 v.2.2.2.2.2.1 v.2.2.2.2.2.2.1 v.2.2.2.2.2.2.2.1 v.2.2.2.2.2.2.2.2.1 v.2.2.2.2.2.2.2.2.2.1 v.2.2.2.2.2.2.2.2.2.2⟩
def JO:b8 xx:=⟨[],[.d .bool],λ_=>none,some (JN n)⟩
theorem JP:aH 193 (JO n) :=oA (ak (IK n) (ak JK (ak (wz n) (ak JM aC)))) func193 .z n (by kernel_rfl) λ_=>by kernel_rfl
def Gc:Hn SI:=(cg (.s (.s .z (.b (.l ⟨[(5,.o 1512),(11,.v af)],[(0,.m .str af),(1512,.l af)],[2,3,9,10],[1000,1064],1513,[(5,af)]⟩ 0 ⟨[(5,.o 1512)],[(0,.m .str af),(1512,.l af)],[2,3],[1000,1064],1513,[]⟩ (cg (.s (.j ⟨[(5,.o 1577)],[(0,.m .str af),(1577,.l af)],[2,3,9,10,11],[1000,1064],1578,[]⟩ (.b (.s .z (.s (.s (.j ⟨[(31,.v .bool)],[],[2,3,5,7,9,10,11],[0,1000,1064,1512,1769],1961,[]⟩ .z) .z) .z)))) .z))))) .z))
theorem EQ(rc:((List gT))->((List cO))->((List fG))->((List cK))->((List jr))->((List iw))->((List dD))->(Int)->((List ByteArray))->(bV)->((List (ByteArray×Int)))->Option (Int×(List (ByteArray×Int))))(hr:aH 157 (kE rc)):aH 157 (kE (fM n rc)) :=oA (ak hr (ak (JP n) (ak (pV n) (ak aeQ (ak aeS aC))))) func157 Gc n (by kernel_rfl) λ_=>by kernel_rfl
theorem um(n:Nat):∀m,aH 157 (kE (bR n m))
 | 0=>Re (pu func157 (by kernel_rfl:Tryz.f157.body=some (Tryz.f157.body.getD .skip)) (by kernel_rfl)) (λ _ _ h=>(by cases h))
 |m+1=>EQ n _ (um n m)
def Gd:b8 xx:=kE (bR n n)
theorem uK:aH 157 (Gd n):=um n n
def S9:cM xx:=⟨[.v (.st SI.i7),.v (.sl fZ),.v (.sl .str)],[],[(.a [.v (.sl aZ),.v (.sl aS),.v (.sl bn),.v (.sl aU),.v (.sl bE),.v (.sl bB),.v (.sl aP),.v af,.mp 1000,.v (.sl .str)]),.o 1001],[(1000,.m .str af),(1001,.l af)],λv=>mQ n v.1 v.2.1 v.2.2⟩
def Ta:b8 xx:=⟨[],[.d .bool],λ_=>none,some (S9 n)⟩
def Td:Hn SI:=(gR (.s (.s .z (.b (.l ⟨[(26,.v af)],[(1256,.m .str af),(1576,.m .str .bool)],[3,6,8,9,24,25],[1000,1064,1448],1896,[]⟩ 0 ⟨[],[(1256,.m .str af),(1576,.m .str .bool)],[3,6,8,9],[1000,1064,1448],1896,[]⟩ (cg (.s (.j ⟨[],[(1256,.m .str af),(1576,.m .str .bool)],[3,6,8,9,24,25,26],[1000,1064,1448],1960,[]⟩ .z) .z))))) (gR (.s (.s .z (.b (.l ⟨[(61,.v af)],[(1256,.m .str af),(2088,.l af)],[3,6,8,9,12,59,60],[1000,1064,1448,1576,2280],3112,[]⟩ 2 ⟨[],[(1256,.m .str af),(2088,.l af)],[6,8,12],[1064,1448],3112,[]⟩ (cg (.s (.j ⟨[],[(1256,.m .str af),(2088,.l af)],[3,6,8,9,12,59,60,61],[1000,1064,1448,1576,2280],3176,[]⟩ (.b (cg (.s (.j ⟨[],[(1256,.m .str af),(2088,.l af)],[3,6,8,9,12,17,18,59,60,61],[1000,1064,1448,1576,2280,3688],3816,[]⟩ .z) .z)))) .z))))) .z))))
theorem Te:aH 156 (Ta n) :=oA (ak (XG n) (ak (Xz n) (ak (uK n) aC))) func156 Td n (by kernel_rfl) λ_=>by kernel_rfl
def ajD:b8 xx:=⟨[.d (.st SI.i7),.d (.sl fZ),.d (.sl .str),.d (.st SI.Expr)],[.d af],λa=>Ac n a.1 a.2.1 a.2.2.1 a.2.2.2.1,none⟩
theorem ajE:aH 102 (ajD n) :=cq (ak (Xz n) (ak (Te n) (ak (uK n) aC))) func102 .z n
def ag2:b8 xx:=⟨[.d (.sl aB)],[.d aB,.d .bool],λa=>M0 n a.1,none⟩
def ag3:Hn SI:=(.s .z (.s (.s .z (.b (.l ⟨[(3,.v .bool),(8,.v af)],[(1000,Bm)],[2,6,7],[],1320,[]⟩ 0 ⟨[(3,.v .bool)],[(1000,Bm)],[2],[],1320,[]⟩ (cg (.s (.j ⟨[(3,.v .bool)],[(1000,Bm)],[2,6,7,8],[],1384,[]⟩ .z) .z))))) .z))
theorem ag4:aH 158 (ag2 n) :=cq (ak ql aC) func158 ag3 n
def aeT:b8 xx:=⟨[.d (.sl aB)],[.d aB,.d .bool],λa=>Jp n a.1,none⟩
def aeU:Hn SI:=(.s .z (.s (.s (.j ⟨[(11,.v .bool)],[],[0,2],[1000],1128,[]⟩ .z) .z) .z))
theorem aeV:aH 103 (aeT n) :=cq (ak (pU n) (ak (ag4 n) aC)) func103 aeU n
def XH:b8 xx:=⟨[.d aF],[.fresh (.st SI.ld)],λa=>xC a.1,none⟩
theorem IL:aH 77 XH :=cq aC func77 .z 0
def IQ:b8 xx:=⟨[.d (.sl (.st SI.gd)),.dt [.st SI.gd] .bool],[.d af],λa=>rM n a.1 a.2.1,none⟩
def IU:Hn SI:=(.s .z (.s (.s .z (.b (.lx ⟨[(8,.v af)],[],[0,1,7],[],1256,[]⟩ 0 ⟨[],[],[],[],1256,[]⟩ .z))) .z))
theorem IV:aH 222 (IQ n) :=cq aC func222 IU n
def Df:b8 xx:=⟨[.d (.sl (.st SI.gd)),.dt [.st SI.gd] .bool],[.d .bool],λa=>lF n a.1 a.2.1,none⟩
theorem Dg:aH 196 (Df n) :=cq (ak (IV n) aC) func196 .z n
def XI:b8 xx:=⟨[.d af,.d af,.d af],[.d .bool],λa=>nT a.1 a.2.1 a.2.2.1,none⟩
theorem XJ:aH 223 XI :=cq aC func223 .z 0
def YP:b8 xx:=⟨[.d (.st SI.gd)],[.d .bool],λa=>Ae a.1,none⟩
theorem YQ:aH 198 YP :=cq (ak XJ aC) func198 .z 0
def Qw:b8 xx:=⟨[.d (.st SI.gd)],[.d .bool],λa=>tO a.1,none⟩
theorem Qx:aH 197 Qw :=cq (ak YQ aC) func197 .z 0
def YR:b8 xx:=⟨[.d aB,.d (.sl (.st SI.gd))],[.d .bool],λa=>Af n a.1 a.2.1,none⟩
theorem YS:aH 159 (YR n) :=cq (ak ql (ak (Dg n) (ak Qx aC))) func159 .z n
def ajF:b8 xx:=⟨[.d (.sl aB),.d (.sl aB)],[.d .bool],λa=>TK n a.1 a.2.1,none⟩
theorem ajG:aH 165 (ajF n) :=cq (ak (Fb n) aC) func165 .z n
def ag5:b8 xx:=⟨[.d (.sl (.st SI.ld))],[.d .bool],λa=>Hz n a.1,none⟩
def ag6:Hn SI:=(cg (.s (.s .z (.b (.lx ⟨[(11,.v af)],[],[0,9,10],[],1448,[]⟩ 0 ⟨[],[],[],[],1448,[]⟩ (cg (.s (.jx ⟨[],[],[0,9,10,11],[],1512,[]⟩ (.b (.s .z (.s (.s (.j ⟨[(42,.v .bool)],[],[0,3,4,9,10,11],[1704],1896,[]⟩ .z) .z) (cg (.s (.j ⟨[(68,.v .bool)],[],[0,9,10,11],[],2472,[]⟩ .z) .z)))))) .z))))) .z))
theorem XK:aH 109 (ag5 n) :=cq (ak (pU n) (ak (ajG n) aC)) func109 ag6 n
def Oi:b8 xx:=⟨[.d aB,.d af,.d af],[.d (.st SI.np)],λa=>wH a.1 a.2.1 a.2.2.1,none⟩
theorem Oj:aH 224 Oi :=cq aC func224 .z 0
def Qy:b8 xx:=⟨[.d af,.d af],[.d af],λa=>tQ a.1 a.2.1,none⟩
def Qz:Hn SI:=(cg (.s (.j ⟨[(5,.v af)],[],[],[],1320,[]⟩ .z) .z))
theorem QA:aH 225 Qy :=cq aC func225 Qz 0
def aeW:b8 xx:=⟨[.d aB,.d (.sl (.st SI.gd)),.d af,.d af],[.d af],λa=>Jq n a.1 a.2.1 a.2.2.1 a.2.2.2.1,none⟩
def aeX:Hn SI:=(gR (.s (.s .z (.b (.l ⟨[(9,.v af),(19,.v af)],[],[10,17,18],[1448],1768,[]⟩ 0 ⟨[(9,.v af)],[],[],[],1768,[]⟩ .z))) .z))
theorem aeY:aH 199 (aeW n) :=cq (ak Oj (ak QA aC)) func199 aeX n
def XL:b8 xx:=⟨[.d aB,.d (.sl (.st SI.gd)),.d (.sl aB)],[.d af],λa=>xE n a.1 a.2.1 a.2.2.1,none⟩
def XM:Hn SI:=(cg (.s (.s .z (.b (.l ⟨[(7,.v af),(16,.v af)],[],[1,3,14,15],[1000],1384,[]⟩ 0 ⟨[(7,.v af)],[],[],[],1384,[]⟩ (cg (.s (.b (cg (.b (.l ⟨[(7,.v af),(27,.v af)],[],[1,3,9,14,15,16,25,26],[1000,1576,2024],2216,[]⟩ 2 ⟨[(7,.v af)],[],[1,3,14,15,16],[1000],2216,[]⟩ (cg (.s (.b (cg (.b (.l ⟨[(7,.v af),(38,.v af)],[],[1,3,9,11,14,15,16,25,26,27,36,37],[1000,1576,2024,2792],2984,[]⟩ 4 ⟨[(7,.v af)],[],[1,3,9,14,15,16,25,26,27],[1000,1576,2024],2984,[]⟩ .z)))) .z)))))) .z))))) .z))
theorem XO:aH 161 (XL n) :=cq (ak (aeY n) aC) func161 XM n
def Ol:b8 xx:=⟨[.d (.st SI.ld),.ref aB,.ref (.sl (.st SI.gd))],[.d .bool],λa=>rz n a.1 a.2.1 a.2.2.1,none⟩
theorem Om:aH 160 (Ol n) :=cq (ak (XO n) aC) func160 .z n
def JQ:b8 xx:=⟨[.d (.sl (.st SI.ld)),.dt [.st SI.ld] .bool],[.d af],λa=>tT n a.1 a.2.1,none⟩
def JR:Hn SI:=(.s .z (.s (.s .z (.b (.lx ⟨[(8,.v af)],[],[0,1,7],[],1256,[]⟩ 0 ⟨[],[],[],[],1256,[]⟩ .z))) .z))
theorem JS:aH 166 (JQ n) :=cq aC func166 JR n
def ER:b8 xx:=⟨[.d (.sl (.st SI.ld)),.dt [.st SI.ld] .bool],[.d .bool],λa=>jC n a.1 a.2.1,none⟩
theorem uo:aH 110 (ER n) :=cq (ak (JS n) aC) func110 .z n
def XP:b8 xx:=⟨[.d aB,.d (.sl (.st SI.gd)),.d (.sl (.st SI.ld))],[.d .bool],λa=>xG n a.1 a.2.1 a.2.2.1,none⟩
def XQ:Hn SI:=(.s .z (.s (.s (.j ⟨[(15,.v .bool)],[],[2,3,4],[1000,1064],1192,[]⟩ .z) .z) .z))
theorem XR:aH 105 (XP n) :=cq (ak (YS n) (ak (XK n) (ak (uo n) (ak (Om n) aC)))) func105 XQ n
def BA:b8 xx:=⟨[.d aF,.ref aB,.ref aU],[.d .bool],λa=>kF n a.1 a.2.1 a.2.2.1,none⟩
theorem BB:aH 104 (BA n) :=cq (ak IL (ak (XR n) aC)) func104 .z n
def Li:b8 xx:=⟨[.d (.st SI.kf),.dt [aF] .bool],[.d .bool],λa=>iB n a.1 a.2.1,none⟩
theorem zh:aH 74 (Li n) :=cq (ak (qW n) aC) func74 .z n
def BD:b8 xx:=⟨[.d aF,.ref aU],[.d .bool],λa=>kG a.1 a.2.1,none⟩
theorem BF:aH 106 BD :=cq aC func106 .z 0
def alI:b8 xx:=⟨[.d aB,.d aB],[.d af,.d af],λa=>akW a.1 a.2.1,none⟩
theorem alJ:aH 201 alI :=cq aC func201 .z 0
def amY:b8 xx:=⟨[.d aB,.d aB],[.d af],λa=>SD a.1 a.2.1,none⟩
def amZ:Hn SI:=(.s .z (.s (.s (.j ⟨[(14,.v .bool)],[],[2,3],[1000,1064],1192,[]⟩ .z) .z) .z))
theorem am0:aH 164 amY :=cq (ak ql (ak alJ aC)) func164 amZ 0
def Dh:b8 xx:=⟨[.d (.st SI.fW),.ref (.st SI.kf),.ref aF,.ref aU],[.d .bool],λa=>dS a.1 a.2.1 a.2.2.1 a.2.2.2.1,none⟩
def Di:Hn SI:=(cg (.s (.s (.j ⟨[(32,.v .bool)],[],[2,3,6],[1256],1384,[]⟩ .z) .z) (.s (.j ⟨[(7,.v .bool)],[],[2,3,6],[1256],1384,[]⟩ .z) .z)))
theorem Dj:aH 163 Dh :=cq (ak ql (ak am0 aC)) func163 Di 0
def Gf:b8 xx:=⟨[.d (.sl (.st SI.fW)),.dt [.st SI.fW] .bool],[.d af],λa=>qE n a.1 a.2.1,none⟩
def Gg:Hn SI:=(.s .z (.s (.s .z (.b (.lx ⟨[(8,.v af)],[],[0,1,7],[],1256,[]⟩ 0 ⟨[],[],[],[],1256,[]⟩ .z))) .z))
theorem Gh:aH 200 (Gf n) :=cq aC func200 Gg n
def BG:b8 xx:=⟨[.d (.sl (.st SI.fW)),.dt [.st SI.fW] .bool],[.d .bool],λa=>kH n a.1 a.2.1,none⟩
theorem BH:aH 162 (BG n) :=cq (ak (Gh n) aC) func162 .z n
def IW:b8 xx:=⟨[.d (.st SI.kf),.d aU,.d aF],[.d .bool],λa=>rO n a.1 a.2.1 a.2.2.1,none⟩
theorem IX:aH 108 (IW n) :=cq (ak (BH n) (ak Dj aC)) func108 .z n
def BJ:b8 xx:=⟨[.d aF,.ref (.st SI.kf),.ref aU],[.d .bool],λa=>kI n a.1 a.2.1 a.2.2.1,none⟩
theorem BK:aH 107 (BJ n) :=cq (ak (IX n) aC) func107 .z n
def Gi:b8 xx:=⟨[.d (.st SI.kf),.d aU],[.d .bool],λa=>nk n a.1 a.2.1,none⟩
theorem Gj:aH 73 (Gi n) :=cq (ak (N9 n) (ak (ajE n) (ak (aeV n) (ak (zh n) (ak (BB n) (ak BF (ak (BK n) aC))))))) func73 .z n
def Tf:b8 xx:=⟨[.d aB,.ref aB],[.d .bool],λa=>vE a.1 a.2.1,none⟩
theorem Tg:aH 169 Tf :=cq aC func169 .z 0
def JU:b8 xx:=⟨[.d (.sl aB),.dt [aB] .bool],[.d af],λa=>tV n a.1 a.2.1,none⟩
def JV:Hn SI:=(.s .z (.s (.s .z (.b (.lx ⟨[(8,.v af)],[],[0,1,7],[],1256,[]⟩ 0 ⟨[],[],[],[],1256,[]⟩ .z))) .z))
theorem JW:aH 202 (JU n) :=cq aC func202 JV n
def ES:b8 xx:=⟨[.d (.sl aB),.dt [aB] .bool],[.d .bool],λa=>jD n a.1 a.2.1,none⟩
theorem uq:aH 167 (ES n) :=cq (ak (JW n) aC) func167 .z n
def abZ:b8 xx:=⟨[.d aB,.ref (.sl aB)],[.d .bool],λa=>Eo n a.1 a.2.1,none⟩
theorem ab0:aH 168 (abZ n) :=cq (ak (uq n) (ak Tg aC)) func168 .z n
def ajH:b8 xx:=⟨[.d (.sl aB),.d (.sl aB)],[.d .bool],λa=>TM n a.1 a.2.1,none⟩
theorem ajI:aH 112 (ajH n) :=cq (ak (uq n) (ak (ab0 n) aC)) func112 .z n
def Ti:b8 xx:=⟨[.d (.st SI.ld),.ref (.st SI.eE)],[.d .bool],λa=>qN n a.1 a.2.1,none⟩
theorem Tj:aH 111 (Ti n) :=cq (ak (ajI n) aC) func111 .z n
def ab1:b8 xx:=⟨[.d (.sl (.st SI.eE)),.d af,.d (.sl (.st SI.ld))],[.d .bool],λa=>Ep n a.1 a.2.1 a.2.2.1,none⟩
def ab2:Hn SI:=(cg (.s (.s .z (.b (.lx ⟨[(14,.v af)],[],[1,2,12,13],[],1448,[]⟩ 0 ⟨[],[],[],[],1448,[]⟩ (cg (.s (.jx ⟨[],[],[1,2,12,13,14],[],1512,[]⟩ (.b (.s .z (.s (.s (.j ⟨[(27,.v .bool)],[],[1,2,8,12,13,14],[1640],1768,[]⟩ .z) .z) .z)))) .z))))) .z))
theorem ab3:aH 76 (ab1 n) :=cq (ak (XK n) (ak (pU n) (ak (uo n) (ak (Tj n) aC)))) func76 ab2 n
def Lj:b8 xx:=⟨[.d aF,.ref (.st SI.oB),.ref dF],[.d .bool],λa=>nC n a.1 a.2.1 a.2.2.1,none⟩
theorem Ll:aH 75 (Lj n) :=cq (ak IL (ak (ab3 n) aC)) func75 .z n
def Gl:cM xx:=⟨[.v .str,.v .bool,.p 0],[(0,qr),(1,.l .str)],[],[(0,.c 1 [[.o 1000]]),(1000,.l .str)],λv=>jX n v.1 v.2.1 v.2.2⟩
def Gm:b8 xx:=⟨[],[.d .bool],λ_=>none,some (Gl n)⟩
def Gn:Hn SI:=(.s (.j ⟨[(11,.v .bool)],[],[0,2],[0,1],1000,[]⟩ .z) .z)
theorem Gp:aH 70 (Gm n) :=oA (ak (pV n) aC) func70 Gn n (by kernel_rfl) λ_=>by kernel_rfl
def Tk:b8 xx:=⟨[.d (.st SI.oB),.d dF,.d af],[.fresh .str,.d af],λa=>qO n a.1 a.2.1 a.2.2.1,none⟩
def Tm:Hn SI:=(T2 (.s (.s .z (.b (.l ⟨[(31,.v af)],[(1960,.c 1 [[.o 2664]]),(2664,.l .str)],[3,4,8,10,11,29,30],[1000,1064,1640,2472],2665,[(9028160,.str)]⟩ 0 ⟨[],[(1960,.c 1 [[.o 2664]]),(2664,.l .str)],[3,4,8,10,11],[1000,1064,1640],2665,[]⟩ .z))) .z))
theorem Fg:aH 37 (Tk n) :=cq (ak (YI n) (ak (Xy n) (ak (Gj n) (ak (Gp n) (ak (zh n) (ak (Ll n) aC)))))) func37 Tm n
def QB:b8 xx:=⟨[.d dF],[.fresh aF],λa=>nE n a.1,none⟩
def QC:Hn SI:=(cg (.s (.s .z (.b (.l ⟨[(3,.o 1448),(9,.v af)],[(1448,.l aF)],[7,8],[],1449,[(3,aF)]⟩ 0 ⟨[(3,.o 1448)],[(1448,.l aF)],[],[],1449,[]⟩ .z))) .z))
theorem Dk:aH 24 (QB n) :=cq aC func24 QC n
def Tn:b8 xx:=⟨[.d aF],[.d af],λa=>mR a.1,none⟩
theorem rE:aH 13 Tn :=cq (ak jg aC) func13 .z 0
def YT:b8 xx:=⟨[.d (.sl aF)],[.d .bool],λa=>Ah n a.1,none⟩
def YU:Hn SI:=(cg (.s (.s .z (.b (.lx ⟨[(3,.v af),(8,.v af)],[],[6,7],[],1320,[]⟩ 0 ⟨[],[],[],[],1320,[]⟩ .z))) .z))
theorem YV:aH 38 (YT n) :=cq (ak rE aC) func38 YU n
def QD:b8 xx:=⟨[.d (.sl fZ)],[.fresh fZ],λa=>yN a.1,none⟩
theorem QE:aH 25 QD :=cq aC func25 .z 0
def Tp:b8 xx:=⟨[.d dF,.d (.sl af)],[.d dF,.d af,.d af],λa=>gD n a.1 a.2.1,none⟩
def Tq:Hn SI:=(cg (.s (.s (.j ⟨[(29,.v .bool)],[],[1,2,4],[1000,1064],1448,[]⟩ .z) .z) (.s .z (.s (.s .z (.b (.lx ⟨[(9,.v af),(10,.v af),(37,.v af)],[(1640,.c 2 [[.v af,.o 2152]]),(2152,.l (.st SI.Phase))],[1,4,8,35,36],[1064],2153,[(7717441,.st SI.Phase)]⟩ 0 ⟨[(9,.v af)],[(1640,.c 2 [[.v af,.o 2152]]),(2152,.l (.st SI.Phase))],[4,8],[1064],2153,[]⟩ (cg (.s (.b (cg (.s (.s .z (.b (.lx ⟨[(9,.v af),(10,.v af),(48,.v af)],[(2729,.c 2 [[.o 3113,.o 2601]]),(2601,.l fZ),(3113,.l aF)],[1,4,8,13,35,36,37,46,47],[1064,1640,2152],3114,[(12177984,aF)]⟩ 2 ⟨[(9,.v af),(10,.v af)],[(2729,.c 2 [[.o 3113,.o 2601]]),(2601,.l fZ),(3113,.l aF)],[1,4,8,13,35,36,37],[1064,1640,2152],3114,[]⟩ (cg (.s (.jx ⟨[(9,.v af),(10,.v af)],[(2729,.c 2 [[.o 3178,.o 2601]]),(2601,.l fZ),(3178,.l aF)],[1,4,8,13,35,36,37,46,47,48],[1064,1640,2152],3179,[]⟩ (.b (gR (.s (.s (.j ⟨[(66,.v .bool)],[],[1,4,8,9,10,13,15,16,17,35,36,37,46,47,48],[1064,1640,2152,2601,2729,3113,3306],4138,[]⟩ .z) .z) (.s .z (.s (.j ⟨[],[(3306,.c 9 [[.v af,.v af,.v af,.v af,.v af,.v af,.v af,.v af,.v .bool]])],[1,4,8,9,10,13,15,16,17,35,36,37,46,47,48],[1064,1640,2152,2601,2729,3113],4714,[]⟩ .z) .z)))))) .z))))) .z))) .z))))) .z))))
theorem wN:aH 8 (Tp n) :=cq (ak (Dk n) (ak (Iu n) (ak QE (ak rE (ak CK aC))))) func8 Tq n
def uw:b8 xx:=⟨[.mut aJ,.d af,.d af,.dt [aJ,aJ] af],[.mu aJ],λa=>dx n a.1 a.2.1 a.2.2.1 a.2.2.2.1,none⟩
def uy:Hn SI:=(.s .z (.b (.l ⟨[(8,.v af)],[(0,.l aJ)],[0,1,2,3],[],1192,[]⟩ 0 ⟨[],[(0,.l aJ)],[],[],1192,[]⟩ (.s .z (.s (.b (.s .z (.b (.l ⟨[(9,.v af)],[(0,.l aJ)],[0,1,2,3,8],[],1512,[]⟩ 2 ⟨[],[(0,.l aJ)],[0,1,2,3,8],[],1512,[]⟩ (.s (.s (.j ⟨[(34,.v .bool)],[],[0,1,2,3,8,9],[0],1512,[]⟩ .z) .z) .z))))) .z)))))
theorem uz:aH 113 (uw n) :=cq aC func113 uy n
def wO:b8 xx:=⟨[.mut aJ,.d af,.d af,.d af,.dt [aJ,aJ] af],[.mu aJ],λa=>dQ n a.1 a.2.1 a.2.2.1 a.2.2.2.1 a.2.2.2.2.1,none⟩
def wP:Hn SI:=(.s .z (.b (.l ⟨[(10,.v af)],[(0,.l aJ)],[0,1,2,3],[],1064,[]⟩ 0 ⟨[],[(0,.l aJ)],[],[],1064,[]⟩ .z)))
theorem wQ:aH 203 (wO n) :=cq aC func203 wP n
def zB:b8 xx:=⟨[.mut aJ,.d af,.d af,.d af,.dt [aJ,aJ] af],[.mu aJ],λa=>iC n a.1 a.2.1 a.2.2.1 a.2.2.2.1 a.2.2.2.2.1,none⟩
def zC:Hn SI:=(cg (.s (.b (.l ⟨[(10,.v af),(11,.v af)],[(0,.l aJ)],[0,2,4],[],1512,[]⟩ 0 ⟨[(10,.v af)],[(0,.l aJ)],[0,2,4],[],1512,[]⟩ .z)) .z))
theorem zD:aH 170 (zB n) :=cq (ak (wQ n) aC) func170 zC n
def xN:Hn SI:=(.s (.s .z (.s (cg (.s (.b (.l ⟨[(10,.v af),(11,.v af)],[],[0,1,4],[0],1512,[]⟩ 0 ⟨[(10,.v af)],[],[0,1],[0],1512,[]⟩ .z)) (.s (.s .z (.b (.l ⟨[(13,.v af)],[(0,.l aJ)],[0,10],[],1640,[]⟩ 2 ⟨[],[(0,.l aJ)],[],[],1640,[]⟩ .z))) .z))) .z)) (.s (.s .z (.s (cg (.s (.b (.l ⟨[(14,.v af),(15,.v af)],[],[0,2,4],[0],1768,[]⟩ 4 ⟨[(14,.v af)],[],[0,2],[0],1768,[]⟩ .z)) (.s (.s .z (.b (.l ⟨[(17,.v af)],[(0,.l aJ)],[0,14],[],1896,[]⟩ 6 ⟨[],[(0,.l aJ)],[],[],1896,[]⟩ .z))) .z))) .z)) (gR (.s (.j ⟨[(20,.v af),(21,.v af)],[],[0,1,2,3,4,18,19],[0],2344,[]⟩ .z) (.s .z (.s (.b (.l ⟨[(20,.v af),(21,.v af)],[],[0,1,2,3,4,18,19,22],[0],2536,[]⟩ 8 ⟨[(20,.v af)],[],[0,1,2,3,4,18,19],[0],2536,[]⟩ .z)) (.s .z (.s (.j ⟨[],[(0,.l aJ)],[0,1,3,4,18,20,24],[],2792,[]⟩ (.s (.j ⟨[(185,.v .bool)],[],[0,1,2,3,4,18,20,24],[0],2792,[]⟩ .z) .z)) (.s (.j ⟨[],[(0,.l aJ)],[0,3,4,18,24],[],2792,[]⟩ (.s (.j ⟨[(199,.v .bool)],[],[0,1,3,4,18,20,24],[0],2792,[]⟩ .z) .z)) (.s (.j ⟨[(213,.v .bool)],[],[0,3,4,18,24],[0],2792,[]⟩ .z) .z))))))))))
theorem wR(rc:((List aD))->(Int)->(Int)->(Int)->((aD×aD×Unit)->Option Int)->Option (List aD))(hr:aH 114 (jQ rc)):aH 114 (jQ (dw n rc)) :=cq (ak (zD n) (ak hr aC)) func114 xN n
theorem oq(n:Nat):∀m,aH 114 (jQ (bX n m))
 | 0=>yd (pu func114 (by kernel_rfl:Tryz.f114.body=some (Tryz.f114.body.getD .skip)) (by kernel_rfl)) (λ _ _ h=>(by cases h)) rfl
 |m+1=>wR n _ (oq n m)
def xO:b8 xx:=⟨[.mut aJ,.d af,.d af,.d af,.dt [aJ,aJ] af],[.mu aJ],λa=>fC n a.1 a.2.1 a.2.2.1 a.2.2.2.1 a.2.2.2.2.1,none⟩
theorem xP:aH 114 (xO n):=oq n n
def zF:b8 xx:=⟨[.mut aJ,.d af,.dt [aJ,aJ] af],[.mu aJ],λa=>nG n a.1 a.2.1 a.2.2.1,none⟩
def zG:Hn SI:=(cg (.s (.b (.l ⟨[(7,.v af),(8,.v af)],[(0,.l aJ)],[0,1,2,6],[],1256,[]⟩ 0 ⟨[(7,.v af)],[(0,.l aJ)],[0,1,2,6],[],1256,[]⟩ .z)) (.s .z (.b (.l ⟨[(6,.v af)],[(0,.l aJ)],[0,1,2],[],1576,[]⟩ 2 ⟨[],[(0,.l aJ)],[],[],1576,[]⟩ (.s .z (.b (.s .z (.s (.b (.l ⟨[(7,.v af),(8,.v af)],[(0,.l aJ)],[0,1,2,6],[],2024,[]⟩ 4 ⟨[(7,.v af)],[(0,.l aJ)],[0,1,2,6],[],2024,[]⟩ .z)) (.s (.j ⟨[],[(0,.l aJ)],[0,1,2,6],[],2024,[]⟩ .z) .z))))))))))
theorem zH:aH 80 (zF n) :=cq (ak (uz n) (ak (xP n) aC)) func80 zG n
def zi:b8 xx:=⟨[.mut aJ,.dt [aJ,aJ] af],[.mu aJ],λa=>jw n a.1 a.2.1,none⟩
theorem zk:aH 40 (zi n) :=cq (ak (zH n) aC) func40 .z n
def Oo:b8 xx:=⟨[.d aJ,.d aJ],[.d af],λa=>om a.1 a.2.1,none⟩
theorem Oq:aH 41 Oo :=cq (ak mD aC) func41 .z 0
def Tt:b8 xx:=⟨[.d (.st SI.oB),.d dF,.d af],[.d .bool],λa=>qP n a.1 a.2.1 a.2.2.1,none⟩
theorem Tv:aH 43 (Tt n) :=cq (ak (Fg n) aC) func43 .z n
def JX:cM xx:=⟨[.v (.sl aF)],[],[(.f 78 [] [.p 1000])],[(1000,.c 1 [[.v (.sl aF)]])],λv=>oU v⟩
def JY:b8 xx:=⟨[],[.d .bool],λ_=>none,some (JX)⟩
theorem JZ:aH 39 JY :=oA aC func39 .z 0 (by kernel_rfl) λ_=>by kernel_rfl
theorem Dl:eU Tryz.prog 78:=pu func78 (by kernel_rfl:Tryz.f78.body=some (Tryz.f78.body.getD .skip)) (by kernel_rfl)
theorem BL(sh:Sh SI)(hh:Hn SI):FF Tryz.prog (⟨sh,hh,78,aF,jY n⟩:yy xx):=
 aof (code:=SO) (n:=n) SM mixed (ak rE aC) 3 8 9 10 11 79 func78 (by kernel_rfl) rfl (by kernel_rfl) (λ l h=>Ir.2.1 (l,()) l h) (h0:=.z) (h1:=(.b (.s .z (.s (.b (.l ⟨[(4,.v af)],[(1000,.l af)],[0,1,3],[],1257,[]⟩ 2 ⟨[(4,.v af)],[(1000,.l af)],[0,1,3],[],1257,[]⟩ (.s (.s (.j ⟨[(28,.v .bool)],[],[0,1,3,4],[1000],1257,[]⟩ .z) .z) .z))) .z)))) (λ _ _=>by kernel_rfl) (λ _ _ _=>by kernel_rfl) λ_=>rfl
def Ot:cM xx:=⟨[.v (.st SI.oB),.v dF,.v af],[],[(.a [.v (.sl af),.v af]),.v af],[],λv=>jR n v.1 v.2.1 v.2.2⟩
def Ou:b8 xx:=⟨[],[.d .bool],λ_=>none,some (Ot n)⟩
def Ov:Hn SI:=(T1 (.s (.s .z (.b (.lx ⟨[(58,.v af)],[],[2,3,4,6,56,57],[0,1,2,2408],2729,[]⟩ 2 ⟨[],[],[6],[2],2729,[]⟩ .z))) .z))
def J2:yy xx:=⟨⟨[(3,.p 0),(4,.p 1),(6,.p 2),(10,.p 3)],[(0,.c 13 [[.v (.sl aZ),.v (.sl aS),.v (.sl bn),.v (.sl aU),.v (.sl bE),.v (.sl bB),.v (.sl aP),.v af,(.v (.sl (.st SI.Lot))),(.v (.sl (.st SI.eE))),(.v (.sl (.st SI.Window))),(.v (.sl (.st SI.fW))),.v (.sl fZ)]]),(1,.c 2 [[.v af,(.v (.sl (.st SI.Phase)))]]),(2,.c 2 [[.nil,.v af]]),(3,.c 1 [[.o 2408]]),(2408,.l aJ)],[2],[],2409,[(1012288,aJ),(9814592,aJ)]⟩,.z,78,aF,jY n⟩
theorem Ow:aH 12 (Ou n) :=cqX (code:=SO) (n:=n) (i:=J2 n) SM mixed (ak (Fg n) (ak (Dk n) (ak (YV n) (ak JZ (ak (wN n) (ak (zk n) (ak Oq (ak (Tv n) aC)))))))) (BL n _ _) Dl func12 Ov (by kernel_rfl) λ_=>by kernel_rfl
def aeZ:b8 xx:=⟨[],[.d .bool],λ_=>Jr n,none⟩
def ae0:Hn SI:=(T0 (.s (.s (.j ⟨[(74,.v .bool)],[],[2,5,9,10],[1384,2472,3688],4648,[]⟩ .z) .z) .z))
theorem ae1:aH 4 (aeZ n) :=cq (ak abO (ak (Ow n) (ak (wN n) (ak rE aC)))) func4 ae0 n
def ae2:Hn SI:=(gR (.s (.s .z (.b (.l ⟨[(7,.v af),(8,.v af)],[],[1,2,3],[1000],1384,[]⟩ 0 ⟨[(7,.v af)],[],[],[],1384,[]⟩ (.s (.s (.j ⟨[(22,.v .bool)],[],[1,2,3,7,8],[1000],1384,[]⟩ .z) .z) .z)))) .z))
theorem ab4(rc:(bV)->(Int)->(Int)->Option Int)(hr:aH 44 (Er rc)):aH 44 (Er (Ai n rc)) :=cq (ak hr aC) func44 ae2 n
theorem Ox(n:Nat):∀m,aH 44 (Er (sj n m))
 | 0=>yd (pu func44 (by kernel_rfl:Tryz.f44.body=some (Tryz.f44.body.getD .skip)) (by kernel_rfl)) (λ _ _ h=>(by cases h)) rfl
 |m+1=>ab4 n _ (Ox n m)
def ae3:b8 xx:=⟨[.d (.st SI.Expr),.d af,.d af],[.d af],λa=>Cr n a.1 a.2.1 a.2.2.1,none⟩
theorem ae4:aH 44 (ae3 n):=Ox n n
def ag7:b8 xx:=⟨[.d (.st SI.i7)],[.d .bool],λa=>M5 n a.1,none⟩
def ag8:Hn SI:=(.s .z (.s (.s .z (.b (.lx ⟨[(3,.v af)],[],[1],[1000],1192,[]⟩ 0 ⟨[],[],[1],[1000],1192,[]⟩ (.s (.s (.j ⟨[(16,.v .bool)],[],[1,3],[1000],1192,[]⟩ .z) .z) (.s (.b (.s (.j ⟨[(46,.v .bool)],[],[1,3],[1000],1192,[]⟩ .z) .z)) .z))))) (.s (.s .z (.b (.lx ⟨[(4,.v af)],[],[1],[1000],1256,[]⟩ 2 ⟨[],[],[1],[1000],1256,[]⟩ (.s (.s (.j ⟨[(55,.v .bool)],[],[1,4],[1000],1256,[]⟩ .z) .z) .z)))) (.s (.s .z (.b (.lx ⟨[(5,.v af)],[],[1],[1000],1320,[]⟩ 4 ⟨[],[],[1],[1000],1320,[]⟩ (.s (.s (.j ⟨[(74,.v .bool)],[],[1,5],[1000],1320,[]⟩ .z) .z) .z)))) (.s (.s .z (.b (.lx ⟨[(6,.v af)],[],[1],[1000],1384,[]⟩ 6 ⟨[],[],[1],[1000],1384,[]⟩ (.s (.s (.j ⟨[(93,.v .bool)],[],[1,6],[1000],1384,[]⟩ .z) .z) .z)))) (.s (.s .z (.b (.lx ⟨[(7,.v af)],[],[1],[1000],1448,[]⟩ 8 ⟨[],[],[1],[1000],1448,[]⟩ (.s (.s (.j ⟨[(112,.v .bool)],[],[1,7],[1000],1448,[]⟩ .z) .z) .z)))) .z))))))
theorem ag9:aH 14 (ag7 n) :=cq (ak (ae4 n) aC) func14 ag8 n
def Tw:b8 xx:=⟨[.d aB],[.d .bool],λa=>vG a.1,none⟩
theorem Tx:aH 171 Tw :=cq aC func171 .z 0
def XT:b8 xx:=⟨[.d (.st SI.Bi)],[.d .bool],λa=>Es a.1,none⟩
theorem XU:aH 115 XT :=cq (ak Tx aC) func115 .z 0
def ab5:b8 xx:=⟨[.d af,.d af,.d af],[.d .bool],λa=>Et a.1 a.2.1 a.2.2.1,none⟩
theorem ab6:aH 116 ab5 :=cq aC func116 .z 0
def Oy:b8 xx:=⟨[.d aF],[.d .bool],λa=>rC a.1,none⟩
theorem Oz:aH 82 Oy :=cq (ak XU (ak ab6 aC)) func82 .z 0
def ab7:b8 xx:=⟨[.d aF],[.d af],λa=>Eu a.1,none⟩
theorem ab8:aH 45 ab7 :=cq (ak Oz aC) func45 .z 0
def aha:b8 xx:=⟨[.d dF],[.d af],λa=>M6 n a.1,none⟩
def ahb:Hn SI:=(cg (.s (.s .z (.b (.lx ⟨[(3,.v af),(4,.v af)],[],[1],[1000],1256,[]⟩ 0 ⟨[(3,.v af)],[],[],[],1256,[]⟩ (.s .z (.s (.b (.s .z (.b (.lx ⟨[(3,.v af),(5,.v af)],[],[1,4],[1000],1640,[]⟩ 2 ⟨[(3,.v af)],[],[1,4],[1000],1640,[]⟩ .z)))) .z))))) .z))
theorem ahc:aH 15 (aha n) :=cq (ak ab8 aC) func15 ahb n
def ajJ:b8 xx:=⟨[.d (.st SI.oB),.d dF],[.d .bool],λa=>M7 n a.1 a.2.1,none⟩
def ajK:Hn SI:=(.s .z (.s (.s .z (.b (.lx ⟨[(5,.v af)],[],[2,3],[1000,1064],1256,[]⟩ 0 ⟨[],[],[2,3],[1000,1064],1256,[]⟩ (.s (.s (.j ⟨[(16,.v .bool)],[],[2,3,5],[1000,1064],1256,[]⟩ .z) .z) .z)))) (.s (.s .z (.b (.lx ⟨[(6,.v af)],[],[2,3],[1000,1064],1320,[]⟩ 2 ⟨[],[],[2,3],[1000,1064],1320,[]⟩ (.s (.s (.j ⟨[(35,.v .bool)],[],[2,3,6],[1000,1064],1320,[]⟩ .z) .z) .z)))) (.s (.s .z (.b (.lx ⟨[(7,.v af)],[],[2,3],[1000,1064],1384,[]⟩ 4 ⟨[],[],[2,3],[1000,1064],1384,[]⟩ (.s (.s (.j ⟨[(54,.v .bool)],[],[2,3,7],[1000,1064],1384,[]⟩ .z) .z) (.s (.b (.s (.j ⟨[(74,.v .bool)],[],[2,3,7],[1000,1064],1384,[]⟩ .z) .z)) .z))))) .z))))
theorem ajL:aH 5 (ajJ n) :=cq (ak (ag9 n) (ak (ahc n) aC)) func5 ajK n
def YW:b8 xx:=⟨[.d dF],[.fresh aF],λa=>HY n a.1,none⟩
def YX:Hn SI:=(cg (.s (.s .z (.b (.l ⟨[(3,.o 1256),(4,.v af)],[(1256,.l aF)],[1],[1000],1257,[(3,aF)]⟩ 0 ⟨[(3,.o 1256)],[(1256,.l aF)],[],[],1257,[]⟩ .z))) .z))
theorem YZ:aH 7 (YW n) :=cq aC func7 YX n
def ae5:b8 xx:=⟨[.d (.sl fZ)],[.d af],λa=>Cs n a.1,none⟩
def ae6:Hn SI:=(.s .z (.s (.s .z (.b (.lx ⟨[(3,.v af)],[],[0],[],1128,[]⟩ 0 ⟨[],[],[],[],1128,[]⟩ .z))) .z))
theorem ae7:aH 9 (ae5 n) :=cq aC func9 ae6 n
def Lm:b8 xx:=⟨[.d (.st SI.i7),.d (.st SI.Lot),.d dF,.d (.sl af)],[.d .bool],λa=>qg n a.1 a.2.1 a.2.2.1 a.2.2.2.1,none⟩
def Lp:Hn SI:=(cg (.s (.s (.j ⟨[(36,.v .bool)],[],[3,4,5,6,9],[1000,1064,1128],1384,[]⟩ .z) .z) (.s .z (.s (.s .z (.b (.lx ⟨[(11,.v af)],[],[3,4,5,6,9,10],[1000,1064,1128,1448],1640,[]⟩ 0 ⟨[],[],[3,4,5,6,9],[1000,1064,1128],1640,[]⟩ .z))) .z))))
theorem Lr:aH 3 (Lm n) :=cq (ak (ae1 n) (ak (ajL n) (ak (Fe n) (ak (YZ n) (ak (wN n) (ak (N9 n) (ak (ae7 n) aC))))))) func3 Lp n
end
end Go.Proofs
