import Derived.Test.YthdllpdbgdfmiaaGreatTC1
namespace Go.Proofs
open Go.Gb Go.RowKit
open Tryz
noncomputable section
variable (n:Nat)
def Cu:dp xx:=⟨[.p 0],[(0,gb),(1,.l aD)],[.v af],[(0,gb),(1,.l aD)],λv=>j6 n v.1 v.2.1 v.2.2.1 v.2.2.2.1 v.2.2.2.2.1 v.2.2.2.2.2.1 v.2.2.2.2.2.2.1 v.2.2.2.2.2.2.2.1 v.2.2.2.2.2.2.2.2.1 v.2.2.2.2.2.2.2.2.2⟩
def Cv:cx xx:=⟨[],[.d .bool],λ_=>none,some (Cu n)⟩
theorem Cw:aJ 148 (Cv n) :=pc (ak (z8 n) aA) func148 .z n (by kernel_rfl) λ_=>by kernel_rfl
def G6:dp xx:=⟨[.p 0,(.f 202 [] [])],[(0,gb),(1,.l aD)],[.v af],[(0,gb),(1,.l aD)],λv=>qQ n v.1 v.2.1 v.2.2.1 v.2.2.2.1 v.2.2.2.2.1 v.2.2.2.2.2.1 v.2.2.2.2.2.2.1 v.2.2.2.2.2.2.2.1 v.2.2.2.2.2.2.2.2.1 v.2.2.2.2.2.2.2.2.2⟩
def G7:cx xx:=⟨[],[.d .bool],λ_=>none,some (G6 n)⟩
def G8:Hn SI:=(cz (.s (.s .z (.b (.l ⟨[(5,.v af),(13,.v af)],[],[1,11,12],[0,1],1512,[]⟩ 0 ⟨[(5,.v af)],[],[],[0,1],1512,[]⟩ .z))) .z))
theorem G9:aJ 197 (G7 n) :=pc (ak DU aA) func197 G8 n (by kernel_rfl) λ_=>by kernel_rfl
def D8:dp xx:=⟨[.p 0],[(0,gb),(1,.l aD)],[.v af],[(0,gb),(1,.l aD)],λv=>lg n v.1 v.2.1 v.2.2.1 v.2.2.2.1 v.2.2.2.2.1 v.2.2.2.2.2.1 v.2.2.2.2.2.2.1 v.2.2.2.2.2.2.2.1 v.2.2.2.2.2.2.2.2.1 v.2.2.2.2.2.2.2.2.2⟩
def D9:cx xx:=⟨[],[.d .bool],λ_=>none,some (D8 n)⟩
theorem Ea:aJ 149 (D9 n) :=pc (ak (G9 n) aA) func149 .z n (by kernel_rfl) λ_=>by kernel_rfl
def Cx:dp xx:=⟨[.p 0,.v ay,.v af],[(0,gb),(1,.l aD)],[.v .bool],[(0,gb),(1,.l aD)],λv=>ko n v.1 v.2.1 v.2.2.1 v.2.2.2.1 v.2.2.2.2.1 v.2.2.2.2.2.1 v.2.2.2.2.2.2.1 v.2.2.2.2.2.2.2.1 v.2.2.2.2.2.2.2.2.1 v.2.2.2.2.2.2.2.2.2.1 v.2.2.2.2.2.2.2.2.2.2.1 v.2.2.2.2.2.2.2.2.2.2.2⟩
def Cy:cx xx:=⟨[],[.d .bool],λ_=>none,some (Cx n)⟩
def Cz:Hn SI:=(te (.s (.s .z (.b (.l ⟨[(9,.v af),(27,.v af)],[],[7,25,26],[0,1,1512],2280,[]⟩ 0 ⟨[(9,.v af)],[],[7],[0,1,1512],2280,[]⟩ (cz (.s (.j ⟨[(9,.v af)],[],[7,25,26,27],[0,1,1512],2344,[]⟩ .z) .z))))) .z))
theorem CB:aJ 203 (Cy n) :=pc (ak Uz (ak Cj (ak zR aA))) func203 Cz n (by kernel_rfl) λ_=>by kernel_rfl
def Ad:dp xx:=⟨[.p 0],[(0,gb),(1,.l aD)],[.v af],[(0,gb),(1,.l aD)],λv=>jL n v.1 v.2.1 v.2.2.1 v.2.2.2.1 v.2.2.2.2.1 v.2.2.2.2.2.1 v.2.2.2.2.2.2.1 v.2.2.2.2.2.2.2.1 v.2.2.2.2.2.2.2.2.1 v.2.2.2.2.2.2.2.2.2⟩
def Ae:cx xx:=⟨[],[.d .bool],λ_=>none,some (Ad n)⟩
def Af:Hn SI:=(cz (.s (.s .z (.b (.l ⟨[(3,.v af),(14,.v af)],[(0,gb),(1,.l aD)],[0,12,13],[],1512,[]⟩ 0 ⟨[(3,.v af)],[(0,gb),(1,.l aD)],[],[],1512,[]⟩ (cz (.s (.b (cz (.s (.b (.l ⟨[(6,.v af),(7,.v af)],[(0,gb),(1,.l aD)],[0,5,12,13,14],[1704],2024,[]⟩ 2 ⟨[(6,.v af)],[(0,gb),(1,.l aD)],[0,12,13,14],[],2024,[]⟩ .z)) .z))) .z))))) .z))
theorem Ag:aJ 150 (Ae n) :=pc (ak (CB n) aA) func150 Af n (by kernel_rfl) λ_=>by kernel_rfl
def xP:dp xx:=⟨[.v aD,.p 0],[(0,.c 1 [[.p 1]]),(1,ud),(2,.l aD)],[.v af],[(0,.c 1 [[.p 1]]),(1,ud),(2,.l aD)],λv=>kX n v.1 v.2.1 v.2.2.1 v.2.2.2.1 v.2.2.2.2.1 v.2.2.2.2.2.1 v.2.2.2.2.2.2.1 v.2.2.2.2.2.2.2.1 v.2.2.2.2.2.2.2.2.1 v.2.2.2.2.2.2.2.2.2.1 v.2.2.2.2.2.2.2.2.2.2⟩
def xQ:cx xx:=⟨[],[.d .bool],λ_=>none,some (xP n)⟩
theorem xR:aJ 204 (xQ n) :=pc (ak (PI n) aA) func204 .z n (by kernel_rfl) λ_=>by kernel_rfl
def He:dp xx:=⟨[.p 0,(.f 204 [] [.p 1])],[(0,ud),(1,.c 1 [[.p 0]]),(2,.l aD)],[.v af],[(0,ud),(1,.c 1 [[.p 0]]),(2,.l aD)],λv=>qR n v.1 v.2.1 v.2.2.1 v.2.2.2.1 v.2.2.2.2.1 v.2.2.2.2.2.1 v.2.2.2.2.2.2.1 v.2.2.2.2.2.2.2.1 v.2.2.2.2.2.2.2.2.1 v.2.2.2.2.2.2.2.2.2⟩
def Hf:cx xx:=⟨[],[.d .bool],λ_=>none,some (He n)⟩
def Hg:Hn SI:=(cz (.s (.s .z (.b (.l ⟨[(5,.v af),(13,.v af)],[(0,ud),(1,.c 1 [[.p 0]]),(2,.l aD)],[1,11,12],[],1512,[]⟩ 0 ⟨[(5,.v af)],[(0,ud),(1,.c 1 [[.p 0]]),(2,.l aD)],[],[],1512,[]⟩ .z))) .z))
theorem Hl:aJ 197 (Hf n) :=pc (ak (xR n) aA) func197 Hg n (by kernel_rfl) λ_=>by kernel_rfl
def Ah:dp xx:=⟨[.p 0],[(0,gb),(1,.l aD)],[.v af],[(0,gb),(1,.l aD)],λv=>jM n v.1 v.2.1 v.2.2.1 v.2.2.2.1 v.2.2.2.2.1 v.2.2.2.2.2.1 v.2.2.2.2.2.2.1 v.2.2.2.2.2.2.2.1 v.2.2.2.2.2.2.2.2.1 v.2.2.2.2.2.2.2.2.2⟩
def Ai:cx xx:=⟨[],[.d .bool],λ_=>none,some (Ah n)⟩
theorem Aj:aJ 151 (Ai n) :=pc (ak (Hl n) aA) func151 .z n (by kernel_rfl) λ_=>by kernel_rfl
def adf:cx xx:=⟨[.d ic,.d gB,.d (.st SI.er)],[.fresh (.st SI.Entry)],λa=>jT n a.1 a.2.1 a.2.2.1,none⟩
def adg:Hn SI:=(cz (.s (.j ⟨[],[(1384,.c 10 [[.v (.sl bC),.v (.sl aV),.v (.sl bG),.v (.sl aY),.v (.sl bL),.v (.sl bJ),.v (.sl aT),.v af,.v (.sl ay),.nil]])],[5,7],[1128],1512,[]⟩ .z) (.s (.s .z (.b (.l ⟨[(31,.v af)],[(1384,.c 10 [[.v (.sl bC),.v (.sl aV),.v (.sl bG),.v (.sl aY),.v (.sl bL),.v (.sl bJ),.v (.sl aT),.v af,.v (.sl ay),.o 1960]]),(1960,.l aD)],[7,29,30],[1768],1961,[(6668873,aD)]⟩ 0 ⟨[],[(1384,.c 10 [[.v (.sl bC),.v (.sl aV),.v (.sl bG),.v (.sl aY),.v (.sl bL),.v (.sl bJ),.v (.sl aT),.v af,.v (.sl ay),.o 1960]]),(1960,.l aD)],[7],[],1961,[]⟩ (cz (.s (.j ⟨[],[(1384,.c 10 [[.v (.sl bC),.v (.sl aV),.v (.sl bG),.v (.sl aY),.v (.sl bL),.v (.sl bJ),.v (.sl aT),.v af,.v (.sl ay),.o 2025]]),(2025,.l aD)],[7,29,30,31],[1768],2026,[]⟩ (.b (.s .z (.s (.j ⟨[(41,.v .bool)],[],[7,9,29,30,31],[1384,1768,1960,2217],2409,[]⟩ .z) .z)))) .z))))) (cz (.s (.s .z (.b (.un .z (.un .z (.un .z (.un .z (.un .z (.un .z (.un .z (.un .z (.un .z (.un .z .z)))))))))))) .z)))))
theorem adh:aJ 91 (adf n) :=cq (ak (qf n) (ak (Bl n) (ak lu (ak (GV n) (ak (DZ n) (ak (D7 n) (ak (Ct n) (ak (Cw n) (ak (Ea n) (ak (Ag n) (ak (Aj n) aA))))))))))) func91 adg n
def aiH:cx xx:=⟨[.d af],[.d af,.d .bool],λa=>zq a.1,none⟩
def aiI:Hn SI:=(.s .z (.s (.s .z (.b (.s (.j ⟨[(5,.v .bool)],[],[0,4],[],1192,[]⟩ .z) (.s .z (.s (.j ⟨[(10,.v .bool)],[],[0,4],[],1192,[]⟩ .z) .z))))) .z))
theorem aiJ:aJ 247 aiH :=cq aA func247 aiI 0
def af5:Hn SI:=(cz (.s (.s (.j ⟨[(28,.v .bool)],[],[1,2],[1000],1640,[]⟩ .z) .z) (.s .z (.s (.s .z (.b (.l ⟨[(7,.v af),(32,.v af)],[],[1,30,31],[],1960,[]⟩ 0 ⟨[(7,.v af)],[],[],[],1960,[]⟩ .z))) .z))))
theorem adi(rc:(bP)->(Int)->Option Int)(hr:aJ 191 (E5 rc)):aJ 191 (E5 (AR n rc)) :=cq (ak aiJ (ak hr aA)) func191 af5 n
theorem PK(n:Nat):∀m,aJ 191 (E5 (sZ n m))
 | 0=>yn (nN func191 (by kernel_rfl:Tryz.f191.body=some (Tryz.f191.body.getD .skip)) (by kernel_rfl)) (λ _ _ h=>(by cases h)) rfl
 |m+1=>adi n _ (PK n m)
def af6:cx xx:=⟨[.d (.st SI.Expr),.d af],[.d af],λa=>QF n a.1 a.2.1,none⟩
theorem af7:aJ 191 (af6 n):=PK n n
def aiK:cx xx:=⟨[.d (.st SI.Expr)],[.d .bool],λa=>I7 n a.1,none⟩
theorem YW:aJ 139 (aiK n) :=cq (ak (af7 n) aA) func139 .z n
def KV:cx xx:=⟨[.d aV,.ref (.st SI.Expr)],[.d .bool],λa=>AU a.1 a.2.1,none⟩
theorem KW:aJ 249 KV :=cq aA func249 .z 0
def JK:cx xx:=⟨[.d (.sl aV),.eC [aV] .bool],[.d af],λa=>sF n a.1 a.2.1,none⟩
def JL:Hn SI:=(.s .z (.s (.s .z (.b (.lx ⟨[(8,.v af)],[],[0,1,7],[],1256,[]⟩ 0 ⟨[],[],[],[],1256,[]⟩ .z))) .z))
theorem JM:aJ 248 (JK n) :=cq aA func248 JL n
def KX:cx xx:=⟨[.d (.st SI.Entry),.ref (.st SI.Expr)],[.d .bool],λa=>AX a.1 a.2.1,none⟩
theorem KY:aJ 251 KX :=cq aA func251 .z 0
def aoi:cx xx:=⟨[.d .bool],[.d af],λa=>zu a.1,none⟩
theorem af8:aJ 193 aoi :=cq aA func193 .z 0
def ZW:cx xx:=⟨[.d af,.d af],[.d af],λa=>xk a.1 a.2.1,none⟩
def ZX:Hn SI:=(gi (.s (.j ⟨[(5,.v af)],[],[],[],1448,[]⟩ (.s .z (.s (.j ⟨[(23,.v .bool)],[],[5],[],1704,[]⟩ .z) .z))) .z))
theorem ZY:aJ 252 ZW :=cq aA func252 ZX 0
def af9:cx xx:=⟨[.d af,.d af,.d af],[.d af],λa=>Kt a.1 a.2.1 a.2.2.1,none⟩
theorem aga:aJ 194 af9 :=cq (ak ZY (ak af8 aA)) func194 .z 0
def KZ:dp xx:=⟨[(.a [.v (.sl bC),.v (.sl aV),.v (.sl bG),.v (.sl aY),.v (.sl bL),.v (.sl bJ),.v (.sl aT),.v af,.mp 0,.v (.sl .str)]),.v (.st SI.Expr)],[(0,.m .str af)],[.v af],[(0,.m .str af)],λv=>jN n v.1 v.2.1 v.2.2.1 v.2.2.2.1 v.2.2.2.2.1 v.2.2.2.2.2.1 v.2.2.2.2.2.2.1 v.2.2.2.2.2.2.2.1 v.2.2.2.2.2.2.2.2.1 v.2.2.2.2.2.2.2.2.2.1 v.2.2.2.2.2.2.2.2.2.2⟩
def K3:cx xx:=⟨[],[.d .bool],λ_=>none,some (KZ n)⟩
theorem K4:aJ 192 (K3 n) :=pc (ak (JM n) (ak KW (ak (xC n) (ak KY aA)))) func192 .z n (by kernel_rfl) λ_=>by kernel_rfl
def Ho:Hn SI:=(cz (.s (.s .z (.b (.l ⟨[(5,.o 1512),(11,.v af)],[(0,.m .str af),(1512,.l af)],[2,3,9,10],[1000,1064],1513,[(5,af)]⟩ 0 ⟨[(5,.o 1512)],[(0,.m .str af),(1512,.l af)],[2,3],[1000,1064],1513,[]⟩ (cz (.s (.j ⟨[(5,.o 1577)],[(0,.m .str af),(1577,.l af)],[2,3,9,10,11],[1000,1064],1578,[]⟩ (.b (.s .z (.s (.s (.j ⟨[(31,.v .bool)],[],[2,3,5,7,9,10,11],[0,1000,1064,1512,1769],1961,[]⟩ .z) .z) .z)))) .z))))) .z))
theorem FX(rc:((List fB))->((List dJ))->((List eX))->((List cK))->((List jP))->((List iP))->((List dN))->(Int)->((List ByteArray))->(bP)->((List (ByteArray×Int)))->Option (Int×(List (ByteArray×Int))))(hr:aJ 141 (ku rc)):aJ 141 (ku (fO n rc)) :=pc (ak hr (ak (K4 n) (ak (qg n) (ak af8 (ak aga aA))))) func141 Ho n (by kernel_rfl) λ_=>by kernel_rfl
theorem uZ(n:Nat):∀m,aJ 141 (ku (bZ n m))
 | 0=>P1 (nN func141 (by kernel_rfl:Tryz.f141.body=some (Tryz.f141.body.getD .skip)) (by kernel_rfl)) (λ _ _ h=>(by cases h))
 |m+1=>FX n _ (uZ n m)
def Hq:cx xx:=ku (bZ n n)
theorem vz:aJ 141 (Hq n):=uZ n n
def UA:dp xx:=⟨[.v ic,(.v (.sl (.st SI.Entry))),.v (.sl .str)],[],[(.a [.v (.sl bC),.v (.sl aV),.v (.sl bG),.v (.sl aY),.v (.sl bL),.v (.sl bJ),.v (.sl aT),.v af,.mp 1000,.v (.sl .str)]),.o 1001],[(1000,.m .str af),(1001,.l af)],λv=>mV n v.1 v.2.1 v.2.2⟩
def UB:cx xx:=⟨[],[.d .bool],λ_=>none,some (UA n)⟩
def UC:Hn SI:=(gi (.s (.s .z (.b (.l ⟨[(26,.v af)],[(1256,.m .str af),(1576,.m .str .bool)],[3,6,8,9,24,25],[1000,1064,1448],1896,[]⟩ 0 ⟨[],[(1256,.m .str af),(1576,.m .str .bool)],[3,6,8,9],[1000,1064,1448],1896,[]⟩ (cz (.s (.j ⟨[],[(1256,.m .str af),(1576,.m .str .bool)],[3,6,8,9,24,25,26],[1000,1064,1448],1960,[]⟩ .z) .z))))) (gi (.s (.s .z (.b (.l ⟨[(61,.v af)],[(1256,.m .str af),(2088,.l af)],[3,6,8,9,12,59,60],[1000,1064,1448,1576,2280],3112,[]⟩ 2 ⟨[],[(1256,.m .str af),(2088,.l af)],[6,8,12],[1064,1448],3112,[]⟩ (cz (.s (.j ⟨[],[(1256,.m .str af),(2088,.l af)],[3,6,8,9,12,59,60,61],[1000,1064,1448,1576,2280],3176,[]⟩ (.b (cz (.s (.j ⟨[],[(1256,.m .str af),(2088,.l af)],[3,6,8,9,12,17,18,59,60,61],[1000,1064,1448,1576,2280,3688],3816,[]⟩ .z) .z)))) .z))))) .z))))
theorem UD:aJ 140 (UB n) :=pc (ak (zQ n) (ak (YW n) (ak (vz n) aA))) func140 UC n (by kernel_rfl) λ_=>by kernel_rfl
def alR:cx xx:=⟨[.d ic,.d (.sl (.st SI.Entry)),.d (.sl .str),.d (.st SI.Expr)],[.d af],λa=>yC n a.1 a.2.1 a.2.2.1 a.2.2.2.1,none⟩
theorem alS:aJ 90 (alR n) :=cq (ak (YW n) (ak (UD n) (ak (vz n) aA))) func90 .z n
def YX:cx xx:=⟨[.d aD],[.fresh (.st SI.lL)],λa=>yD a.1,none⟩
theorem JN:aJ 60 YX :=cq aA func60 .z 0
def JO:cx xx:=⟨[.d (.sl (.st SI.il)),.eC [.st SI.il] .bool],[.d af],λa=>sG n a.1 a.2.1,none⟩
def JP:Hn SI:=(.s .z (.s (.s .z (.b (.lx ⟨[(8,.v af)],[],[0,1,7],[],1256,[]⟩ 0 ⟨[],[],[],[],1256,[]⟩ .z))) .z))
theorem JQ:aJ 256 (JO n) :=cq aA func256 JP n
def Eb:cx xx:=⟨[.d (.sl (.st SI.il)),.eC [.st SI.il] .bool],[.d .bool],λa=>lq n a.1 a.2.1,none⟩
theorem Ec:aJ 206 (Eb n) :=cq (ak (JQ n) aA) func206 .z n
def YZ:cx xx:=⟨[.d af,.d af,.d af],[.d .bool],λa=>oo a.1 a.2.1 a.2.2.1,none⟩
theorem Y0:aJ 257 YZ :=cq aA func257 .z 0
def Z0:cx xx:=⟨[.d (.st SI.il)],[.d .bool],λa=>AY a.1,none⟩
theorem Z4:aJ 208 Z0 :=cq (ak Y0 aA) func208 .z 0
def RB:cx xx:=⟨[.d (.st SI.il)],[.d .bool],λa=>uG a.1,none⟩
theorem RD:aJ 207 RB :=cq (ak Z4 aA) func207 .z 0
def Z5:cx xx:=⟨[.d ay,.d (.sl (.st SI.il))],[.d .bool],λa=>AZ n a.1 a.2.1,none⟩
theorem Z6:aJ 152 (Z5 n) :=cq (ak pz (ak (Ec n) (ak RD aA))) func152 .z n
def alT:cx xx:=⟨[.d (.sl ay),.d (.sl ay)],[.d .bool],λa=>U5 n a.1 a.2.1,none⟩
theorem alU:aJ 159 (alT n) :=cq (ak (Gd n) aA) func159 .z n
def aiL:cx xx:=⟨[.d (.sl (.st SI.lL))],[.d .bool],λa=>I8 n a.1,none⟩
def aiM:Hn SI:=(cz (.s (.s .z (.b (.lx ⟨[(11,.v af)],[],[0,9,10],[],1448,[]⟩ 0 ⟨[],[],[],[],1448,[]⟩ (cz (.s (.jx ⟨[],[],[0,9,10,11],[],1512,[]⟩ (.b (.s .z (.s (.s (.j ⟨[(42,.v .bool)],[],[0,3,4,9,10,11],[1704],1896,[]⟩ .z) .z) (cz (.s (.j ⟨[(68,.v .bool)],[],[0,9,10,11],[],2472,[]⟩ .z) .z)))))) .z))))) .z))
theorem Y1:aJ 98 (aiL n) :=cq (ak (qf n) (ak (alU n) aA)) func98 aiM n
def PL:cx xx:=⟨[.d ay,.d af,.d af],[.d (.st SI.nw)],λa=>xK a.1 a.2.1 a.2.2.1,none⟩
theorem PN:aJ 258 PL :=cq aA func258 .z 0
def RF:cx xx:=⟨[.d af,.d af],[.d af],λa=>uH a.1 a.2.1,none⟩
def RG:Hn SI:=(cz (.s (.j ⟨[(5,.v af)],[],[],[],1320,[]⟩ .z) .z))
theorem RH:aJ 259 RF :=cq aA func259 RG 0
def agb:cx xx:=⟨[.d ay,.d (.sl (.st SI.il)),.d af,.d af],[.d af],λa=>Ku n a.1 a.2.1 a.2.2.1 a.2.2.2.1,none⟩
def agc:Hn SI:=(gi (.s (.s .z (.b (.l ⟨[(9,.v af),(19,.v af)],[],[10,17,18],[1448],1768,[]⟩ 0 ⟨[(9,.v af)],[],[],[],1768,[]⟩ .z))) .z))
theorem agf:aJ 209 (agb n) :=cq (ak PN (ak RH aA)) func209 agc n
def Y2:cx xx:=⟨[.d ay,.d (.sl (.st SI.il)),.d (.sl ay)],[.d af],λa=>yF n a.1 a.2.1 a.2.2.1,none⟩
def Y3:Hn SI:=(cz (.s (.s .z (.b (.l ⟨[(7,.v af),(16,.v af)],[],[1,3,14,15],[1000],1384,[]⟩ 0 ⟨[(7,.v af)],[],[],[],1384,[]⟩ (cz (.s (.b (cz (.b (.l ⟨[(7,.v af),(27,.v af)],[],[1,3,9,14,15,16,25,26],[1000,1576,2024],2216,[]⟩ 2 ⟨[(7,.v af)],[],[1,3,14,15,16],[1000],2216,[]⟩ (cz (.s (.b (cz (.b (.l ⟨[(7,.v af),(38,.v af)],[],[1,3,9,11,14,15,16,25,26,27,36,37],[1000,1576,2024,2792],2984,[]⟩ 4 ⟨[(7,.v af)],[],[1,3,9,14,15,16,25,26,27],[1000,1576,2024],2984,[]⟩ .z)))) .z)))))) .z))))) .z))
theorem Y4:aJ 154 (Y2 n) :=cq (ak (agf n) aA) func154 Y3 n
def PO:cx xx:=⟨[.d (.st SI.lL),.ref ay,.ref (.sl (.st SI.il))],[.d .bool],λa=>rV n a.1 a.2.1 a.2.2.1,none⟩
theorem PS:aJ 153 (PO n) :=cq (ak (Y4 n) aA) func153 .z n
def K5:cx xx:=⟨[.d (.sl (.st SI.lL)),.eC [.st SI.lL] .bool],[.d af],λa=>uI n a.1 a.2.1,none⟩
def K6:Hn SI:=(.s .z (.s (.s .z (.b (.lx ⟨[(8,.v af)],[],[0,1,7],[],1256,[]⟩ 0 ⟨[],[],[],[],1256,[]⟩ .z))) .z))
theorem K7:aJ 160 (K5 n) :=cq aA func160 K6 n
def FY:cx xx:=⟨[.d (.sl (.st SI.lL)),.eC [.st SI.lL] .bool],[.d .bool],λa=>jE n a.1 a.2.1,none⟩
theorem u6:aJ 99 (FY n) :=cq (ak (K7 n) aA) func99 .z n
def Y5:cx xx:=⟨[.d ay,.d (.sl (.st SI.il)),.d (.sl (.st SI.lL))],[.d .bool],λa=>yG n a.1 a.2.1 a.2.2.1,none⟩
def Y6:Hn SI:=(.s .z (.s (.s (.j ⟨[(15,.v .bool)],[],[2,3,4],[1000,1064],1192,[]⟩ .z) .z) .z))
theorem Y7:aJ 93 (Y5 n) :=cq (ak (Z6 n) (ak (Y1 n) (ak (u6 n) (ak (PS n) aA)))) func93 Y6 n
def CF:cx xx:=⟨[.d aD,.ref ay,.ref aY],[.d .bool],λa=>kz n a.1 a.2.1 a.2.2.1,none⟩
theorem CG:aJ 92 (CF n) :=cq (ak JN (ak (Y7 n) aA)) func92 .z n
def MS:cx xx:=⟨[.d (.st SI.li),.eC [aD] .bool],[.d .bool],λa=>iE n a.1 a.2.1,none⟩
theorem Aa:aJ 57 (MS n) :=cq (ak (rH n) aA) func57 .z n
def CJ:cx xx:=⟨[.d aD,.ref aY],[.d .bool],λa=>kC a.1 a.2.1,none⟩
theorem CK:aJ 94 CJ :=cq aA func94 .z 0
def aoj:cx xx:=⟨[.d ay,.d ay],[.d af,.d af],λa=>am9 a.1 a.2.1,none⟩
theorem aok:aJ 211 aoj :=cq aA func211 .z 0
def apP:cx xx:=⟨[.d ay,.d ay],[.d af],λa=>Sa a.1 a.2.1,none⟩
def apQ:Hn SI:=(.s .z (.s (.s (.j ⟨[(14,.v .bool)],[],[2,3],[1000,1064],1192,[]⟩ .z) .z) .z))
theorem apR:aJ 157 apP :=cq (ak pz (ak aok aA)) func157 apQ 0
def Ed:cx xx:=⟨[.d (.st SI.ia),.ref (.st SI.li),.ref aD,.ref aY],[.d .bool],λa=>dV a.1 a.2.1 a.2.2.1 a.2.2.2.1,none⟩
def Ee:Hn SI:=(cz (.s (.s (.j ⟨[(32,.v .bool)],[],[2,3,6],[1256],1384,[]⟩ .z) .z) (.s (.j ⟨[(7,.v .bool)],[],[2,3,6],[1256],1384,[]⟩ .z) .z)))
theorem Ef:aJ 156 Ed :=cq (ak pz (ak apR aA)) func156 Ee 0
def Hr:cx xx:=⟨[.d (.sl (.st SI.ia)),.eC [.st SI.ia] .bool],[.d af],λa=>qU n a.1 a.2.1,none⟩
def Ht:Hn SI:=(.s .z (.s (.s .z (.b (.lx ⟨[(8,.v af)],[],[0,1,7],[],1256,[]⟩ 0 ⟨[],[],[],[],1256,[]⟩ .z))) .z))
theorem Hu:aJ 210 (Hr n) :=cq aA func210 Ht n
def CO:cx xx:=⟨[.d (.sl (.st SI.ia)),.eC [.st SI.ia] .bool],[.d .bool],λa=>kD n a.1 a.2.1,none⟩
theorem CP:aJ 155 (CO n) :=cq (ak (Hu n) aA) func155 .z n
def JR:cx xx:=⟨[.d (.st SI.li),.d aY,.d aD],[.d .bool],λa=>sH n a.1 a.2.1 a.2.2.1,none⟩
theorem JS:aJ 96 (JR n) :=cq (ak (CP n) (ak Ef aA)) func96 .z n
def CQ:cx xx:=⟨[.d aD,.ref (.st SI.li),.ref aY],[.d .bool],λa=>kE n a.1 a.2.1 a.2.2.1,none⟩
theorem CR:aJ 95 (CQ n) :=cq (ak (JS n) aA) func95 .z n
def Hw:cx xx:=⟨[.d (.st SI.li),.d aY],[.d .bool],λa=>ny n a.1 a.2.1,none⟩
theorem Hy:aJ 56 (Hw n) :=cq (ak (adh n) (ak (alS n) (ak (Tm n) (ak (Aa n) (ak (CG n) (ak CK (ak (CR n) aA))))))) func56 .z n
def UE:cx xx:=⟨[.d ay,.ref ay],[.d .bool],λa=>wC a.1 a.2.1,none⟩
theorem UF:aJ 163 UE :=cq aA func163 .z 0
def K8:cx xx:=⟨[.d (.sl ay),.eC [ay] .bool],[.d af],λa=>uJ n a.1 a.2.1,none⟩
def K9:Hn SI:=(.s .z (.s (.s .z (.b (.lx ⟨[(8,.v af)],[],[0,1,7],[],1256,[]⟩ 0 ⟨[],[],[],[],1256,[]⟩ .z))) .z))
theorem La:aJ 212 (K8 n) :=cq aA func212 K9 n
def FZ:cx xx:=⟨[.d (.sl ay),.eC [ay] .bool],[.d .bool],λa=>jF n a.1 a.2.1,none⟩
theorem u7:aJ 161 (FZ n) :=cq (ak (La n) aA) func161 .z n
def adj:cx xx:=⟨[.d ay,.ref (.sl ay)],[.d .bool],λa=>Fa n a.1 a.2.1,none⟩
theorem adk:aJ 162 (adj n) :=cq (ak (u7 n) (ak UF aA)) func162 .z n
def alV:cx xx:=⟨[.d (.sl ay),.d (.sl ay)],[.d .bool],λa=>U6 n a.1 a.2.1,none⟩
theorem alW:aJ 101 (alV n) :=cq (ak (u7 n) (ak (adk n) aA)) func101 .z n
def UG:cx xx:=⟨[.d (.st SI.lL),.ref (.st SI.fR)],[.d .bool],λa=>ru n a.1 a.2.1,none⟩
theorem UH:aJ 100 (UG n) :=cq (ak (alW n) aA) func100 .z n
def adl:cx xx:=⟨[.d (.sl (.st SI.fR)),.d af,.d (.sl (.st SI.lL))],[.d .bool],λa=>Fb n a.1 a.2.1 a.2.2.1,none⟩
def adm:Hn SI:=(cz (.s (.s .z (.b (.lx ⟨[(14,.v af)],[],[1,2,12,13],[],1448,[]⟩ 0 ⟨[],[],[],[],1448,[]⟩ (cz (.s (.jx ⟨[],[],[1,2,12,13,14],[],1512,[]⟩ (.b (.s .z (.s (.s (.j ⟨[(27,.v .bool)],[],[1,2,8,12,13,14],[1640],1768,[]⟩ .z) .z) .z)))) .z))))) .z))
theorem adn:aJ 59 (adl n) :=cq (ak (Y1 n) (ak (qf n) (ak (u6 n) (ak (UH n) aA)))) func59 adm n
def MU:cx xx:=⟨[.d aD,.ref (.st SI.kw),.ref (.st SI.er)],[.d .bool],λa=>nH n a.1 a.2.1 a.2.2.1,none⟩
theorem MV:aJ 58 (MU n) :=cq (ak JN (ak (adn n) aA)) func58 .z n
def Hz:dp xx:=⟨[.v .str,.v .bool,.p 0],[(0,ri),(1,.l .str)],[],[(0,.c 1 [[.o 1000]]),(1000,.l .str)],λv=>jW n v.1 v.2.1 v.2.2⟩
def HV:cx xx:=⟨[],[.d .bool],λ_=>none,some (Hz n)⟩
def HY:Hn SI:=(.s (.j ⟨[(11,.v .bool)],[],[0,2],[0,1],1000,[]⟩ .z) .z)
theorem HZ:aJ 54 (HV n) :=pc (ak (qg n) aA) func54 HY n (by kernel_rfl) λ_=>by kernel_rfl
def UI:cx xx:=⟨[.d (.st SI.kw),.d (.st SI.er),.d af],[.fresh .str,.d af],λa=>mW n a.1 a.2.1 a.2.2.1,none⟩
def UJ:Hn SI:=(xj (.s (.s .z (.b (.l ⟨[(31,.v af)],[(1960,.c 1 [[.o 2664]]),(2664,.l .str)],[3,4,8,10,11,29,30],[1000,1064,1640,2472],2665,[(9028160,.str)]⟩ 0 ⟨[],[(1960,.c 1 [[.o 2664]]),(2664,.l .str)],[3,4,8,10,11],[1000,1064,1640],2665,[]⟩ .z))) .z))
theorem xS:aJ 27 (UI n) :=cq (ak (ZR n) (ak (zS n) (ak (Hy n) (ak (HZ n) (ak (Aa n) (ak (MV n) aA)))))) func27 UJ n
def UK:cx xx:=⟨[.d (.st SI.kw),.d (.st SI.er),.d af],[.d .bool],λa=>kL n a.1 a.2.1 a.2.2.1,none⟩
theorem Gh:aJ 52 (UK n) :=cq (ak (xS n) aA) func52 .z n
def Eg:cx xx:=⟨[.d eO,.ref (.st SI.ix),.ref gB],[.d .bool],λa=>jk n a.1 a.2.1 a.2.2.1,none⟩
theorem Eh:aJ 62 (Eg n) :=cq (ak (YO n) (ak (Gh n) aA)) func62 .z n
def JU:cx xx:=⟨[.d (.sl eO),.eC [eO] .bool],[.d af],λa=>sI n a.1 a.2.1,none⟩
def JV:Hn SI:=(.s .z (.s (.s .z (.b (.lx ⟨[(8,.v af)],[],[0,1,7],[],1256,[]⟩ 0 ⟨[],[],[],[],1256,[]⟩ .z))) .z))
theorem JW:aJ 61 (JU n) :=cq aA func61 JV n
def JX:cx xx:=⟨[.d (.st SI.ix),.d gB,.d (.sl eO)],[.d eO,.d .bool],λa=>jA n a.1 a.2.1 a.2.2.1,none⟩
theorem xD:aJ 30 (JX n) :=cq (ak (JW n) (ak (Eh n) aA)) func30 .z n
def Lb:cx xx:=⟨[.d (.st SI.ix),.d gB],[.d fA,.d .bool],λa=>mE n a.1 a.2.1,none⟩
def Lc:Hn SI:=(gi (.s (.f [3]) (cz (.s (.j ⟨[],[(1448,.c 9 [[.v af,.v af,.o 3560,.v af,.v af,.v af,.v af,.v af,.v af]]),(3560,.l .str)],[4,6],[1128],3561,[(6931010,.str)]⟩ .z) .z))))
theorem Ld:aJ 17 (Lb n) :=cq (ak (JF n) (ak (zS n) (ak (wm n) (ak (xD n) (ak (YO n) (ak (xS n) aA)))))) func17 Lc n
def agh:cx xx:=⟨[.d (.st SI.kw),.d af],[.fresh fA],λa=>gP n a.1 a.2.1,none⟩
def agi:Hn SI:=(te (.s (.s .z (.b (.l ⟨[(6,.o 2024),(21,.v af)],[(1640,.m af .bool),(2024,.l fA)],[5,7,19,20],[1320],2025,[]⟩ 0 ⟨[(6,.o 2024)],[(2024,.l fA)],[],[],2025,[]⟩ (cz (.s (.j ⟨[(6,.o 2089)],[(1640,.m af .bool),(2089,.l fA)],[5,7,19,20,21],[1320],2090,[]⟩ .z) .z))))) .z))
theorem JY:aJ 6 (agh n) :=cq (ak (FW n) (ak (Ld n) aA)) func6 agi n
def UL:cx xx:=⟨[.d gB,.ref af],[.d .bool],λa=>wE a.1 a.2.1,none⟩
theorem UM:aJ 29 UL :=cq aA func29 .z 0
def MW:cx xx:=⟨[.d (.sl gB),.eC [gB] .bool],[.d af],λa=>vQ n a.1 a.2.1,none⟩
def MX:Hn SI:=(.s .z (.s (.s .z (.b (.lx ⟨[(8,.v af)],[],[0,1,7],[],1256,[]⟩ 0 ⟨[],[],[],[],1256,[]⟩ .z))) .z))
theorem MZ:aJ 28 (MW n) :=cq aA func28 MX n
def ado:cx xx:=⟨[.d (.st SI.kw),.d af,.d af],[.d eO,.d .bool],λa=>zw n a.1 a.2.1 a.2.2.1,none⟩
theorem adp:aJ 11 (ado n) :=cq (ak (MZ n) (ak UM (ak (wm n) (ak (xD n) aA)))) func11 .z n
def RI:cx xx:=⟨[.d af,.ref af,.ke .bool,.ke af],[.mr .bool,.mr af],λa=>zx a.1 a.2.1 a.2.2.1 a.2.2.2.1,none⟩
def RJ:Hn SI:=(.s (.j ⟨[(16,.v .bool)],[],[0,2,3],[0,1],1000,[]⟩ .z) .z)
theorem RL:aJ 63 RI :=cq aA func63 RJ 0
def Z7:cx xx:=⟨[.d ic,.d af],[.d af,.d .bool],λa=>A8 n a.1 a.2.1,none⟩
def Z8:Hn SI:=(gi (.s (.s .z (.b (.l ⟨[(15,.v af)],[(1256,.c 1 [[.v af]]),(1320,.c 1 [[.v .bool]])],[6,7,8,13,14],[1064],1896,[]⟩ 0 ⟨[],[(1256,.c 1 [[.v af]]),(1320,.c 1 [[.v .bool]])],[6,7],[],1896,[]⟩ (cz (.s (.j ⟨[],[(1256,.c 1 [[.v af]]),(1320,.c 1 [[.v .bool]])],[6,7,8,13,14,15],[1064],1960,[]⟩ .z) .z))))) .z))
theorem Z9:aJ 31 (Z7 n) :=cq (ak RL aA) func31 Z8 n
def agj:cx xx:=⟨[.d (.st SI.kw),.d af,.d af],[.d af,.d .bool],λa=>Kv n a.1 a.2.1 a.2.2.1,none⟩
def agk:Hn SI:=(.s .z (.s (.s .z (.b (.lx ⟨[(8,.v af),(9,.v .bool)],[],[2,3],[1000],1384,[]⟩ 0 ⟨[],[],[],[],1384,[]⟩ (.s (.s (.j ⟨[(16,.v .bool)],[],[2,3,8],[1000],1384,[]⟩ .z) .z) .z)))) .z))
theorem agl:aJ 12 (agj n) :=cq (ak (JY n) (ak (Z9 n) aA)) func12 agk n
def agm:cx xx:=⟨[.d (.sl .str),.d (.sl .str)],[.d .bool],λa=>Kw n a.1 a.2.1,none⟩
def agn:Hn SI:=(cz (.s (.s .z (.b (.lx ⟨[(5,.v af)],[],[0,1],[],1448,[]⟩ 0 ⟨[],[],[],[],1448,[]⟩ .z))) .z))
theorem agp:aJ 32 (agm n) :=cq aA func32 agn n
def aiN:cx xx:=⟨[.d (.sl fA),.d (.sl fA)],[.d .bool],λa=>Dt n a.1 a.2.1,none⟩
def aiO:Hn SI:=(cz (.s (.s .z (.b (.lx ⟨[(5,.v af)],[],[0,1],[],1448,[]⟩ 0 ⟨[],[],[],[],1448,[]⟩ (.s .z (.s (.b (.s (.j ⟨[(80,.v .bool)],[],[0,1,5],[],1704,[]⟩ .z) .z)) .z))))) .z))
theorem aiP:aJ 13 (aiN n) :=cq (ak (agp n) aA) func13 aiO n
def agq:cx xx:=⟨[],[.d .bool],λ_=>Du n,none⟩
def agr:Hn SI:=(H2 (.s (.j ⟨[(11,.v .bool)],[],[4,5,9,10],[2344,2664,3048],4456,[]⟩ .z) (.s (.j ⟨[(12,.v .bool)],[],[11],[],4456,[]⟩ .z) .z)))
theorem ags:aJ 4 (agq n) :=cq (ak ac5 (ak aij (ak (JY n) (ak (adp n) (ak (agl n) (ak (aiP n) aA)))))) func4 agr n
def aiQ:Hn SI:=(cz (.s (.s .z (.b (.l ⟨[(3,.v af),(4,.v af)],[],[1],[1000],1256,[]⟩ 0 ⟨[(3,.v af)],[],[],[],1256,[]⟩ .z))) .z))
theorem agt(rc:(bP)->Option Int)(hr:aJ 33 (Ja rc)):aJ 33 (Ja (Fe n rc)) :=cq (ak hr aA) func33 aiQ n
theorem Tp(n:Nat):∀m,aJ 33 (Ja (vR n m))
 | 0=>yn (nN func33 (by kernel_rfl:Tryz.f33.body=some (Tryz.f33.body.getD .skip)) (by kernel_rfl)) (λ _ _ h=>(by cases h)) rfl
 |m+1=>agt n _ (Tp n m)
def aiR:cx xx:=⟨[.d (.st SI.Expr)],[.d af],λa=>Jb n a.1,none⟩
theorem aiS:aJ 33 (aiR n):=Tp n n
def aac:cx xx:=⟨[.d ic],[.d .bool],λa=>xq n a.1,none⟩
def aad:Hn SI:=(.s .z (.s (.s (.j ⟨[(35,.v .bool)],[],[1],[1000],1128,[]⟩ .z) .z) (.s (.s .z (.b (.lx ⟨[(3,.v af)],[],[1],[1000],1192,[]⟩ 0 ⟨[],[],[1],[1000],1192,[]⟩ .z))) (.s (.s .z (.b (.lx ⟨[(4,.v af)],[],[1],[1000],1256,[]⟩ 2 ⟨[],[],[1],[1000],1256,[]⟩ (.s .z (.s (.b (.s (.j ⟨[(85,.v .bool)],[],[1,4],[1000],1576,[]⟩ .z) .z)) .z))))) (.s (.s .z (.b (.lx ⟨[(5,.v af)],[],[1],[1000],1320,[]⟩ 4 ⟨[],[],[1],[1000],1320,[]⟩ .z))) (.s (.s .z (.b (.lx ⟨[(6,.v af)],[],[1],[1000],1384,[]⟩ 6 ⟨[],[],[1],[1000],1384,[]⟩ .z))) (.s (.s .z (.b (.lx ⟨[(7,.v af)],[],[1],[1000],1448,[]⟩ 8 ⟨[],[],[],[],1448,[]⟩ .z))) .z)))))))
theorem aae:aJ 14 (aac n) :=cq (ak (aiS n) aA) func14 aad n
def UN:cx xx:=⟨[.d ay],[.d .bool],λa=>wF a.1,none⟩
theorem UO:aJ 164 UN :=cq aA func164 .z 0
def adq:cx xx:=⟨[.d (.sl af)],[.fresh af],λa=>Ff n a.1,none⟩
def adr:Hn SI:=(cz (.s (.s .z (.b (.l ⟨[(3,.o 1192),(4,.v af)],[(1192,.l af)],[0],[],1193,[(3,af)]⟩ 0 ⟨[(3,.o 1192)],[(1192,.l af)],[],[],1193,[]⟩ (.s .z (.s (.j ⟨[(3,.o 1449)],[(1449,.l af)],[0,4],[],1450,[]⟩ (.b (.s .z (.s (.b (.l ⟨[(5,.v af)],[],[0,3,4],[1192],1641,[]⟩ 2 ⟨[(5,.v af)],[],[0,3,4],[1192],1641,[]⟩ (.s (.s (.j ⟨[(28,.v .bool)],[],[0,3,4,5],[1192],1641,[]⟩ .z) .z) .z))) (.s (.s (.j ⟨[(44,.v .bool)],[],[0,3,4,5],[1192],1641,[]⟩ .z) .z) (.s .z (.s (.s .z (.b (.l ⟨[(6,.v af)],[(1769,.l af)],[0,3,4,5],[],2153,[]⟩ 4 ⟨[],[(1769,.l af)],[0,3,4,5],[],2153,[]⟩ .z))) .z))))))) .z))))) .z))
theorem ads:aJ 260 (adq n) :=cq aA func260 adr n
def agu:cx xx:=⟨[.d (.sl ay),.d (.sl ay)],[.fresh af],λa=>Ky n a.1 a.2.1,none⟩
def agv:Hn SI:=(cz (.s (.s .z (.b (.l ⟨[(5,.o 1192),(6,.v af)],[(1192,.l af)],[0,1],[],1193,[(5,af)]⟩ 0 ⟨[(5,.o 1192)],[(1192,.l af)],[1],[],1193,[]⟩ .z))) (.s (.s .z (.b (.l ⟨[(5,.o 1257),(7,.v af)],[(1257,.l af)],[1],[],1258,[]⟩ 2 ⟨[(5,.o 1257)],[(1257,.l af)],[],[],1258,[]⟩ .z))) .z)))
theorem agx:aJ 213 (agu n) :=cq (ak (ads n) aA) func213 agv n
def adt:cx xx:=⟨[.d (.sl ay),.d af],[.fresh af],λa=>zy n a.1 a.2.1,none⟩
def adu:Hn SI:=(gi (.s (.s .z (.b (.l ⟨[(5,.o 1256),(6,.o 1257),(7,.v af)],[(1256,.l af),(1257,.l af)],[0,1],[],1258,[(5,af),(6,af)]⟩ 0 ⟨[(5,.o 1256),(6,.o 1257)],[(1256,.l af),(1257,.l af)],[],[],1258,[]⟩ (.s .z (.s (.j ⟨[(5,.o 1514),(6,.o 1515)],[(1514,.l af),(1515,.l af)],[0,1,7],[],1516,[]⟩ (.b (.s (.s (.j ⟨[(32,.v .bool)],[],[0,1,5,6,7],[1256,1257],1514,[]⟩ .z) .z) (gi (.s (.b (.l ⟨[(8,.v af)],[(1834,.l af),(2090,.l af)],[0,1,5,6,7],[],2218,[]⟩ 2 ⟨[(8,.v af)],[(1834,.l af),(2090,.l af)],[0,1,5,6,7],[],2218,[]⟩ (.s (.s (.j ⟨[(55,.v .bool)],[],[0,1,5,6,7,8],[1834,2090],2218,[]⟩ .z) .z) .z))) .z))))) .z))))) (.s .z (.s (.s .z (.b (.l ⟨[(9,.o 1386),(10,.v af)],[(1386,.l af)],[5,6],[1256,1257],1387,[(9,af)]⟩ 4 ⟨[(9,.o 1386)],[(1386,.l af)],[],[],1387,[]⟩ (.s .z (.s (.j ⟨[(9,.o 1643)],[(1643,.l af)],[5,6,10],[1256,1257],1644,[]⟩ (.b (.s (.s (.j ⟨[(111,.v .bool)],[],[5,6,9,10],[1256,1257,1386],1643,[]⟩ .z) .z) .z))) .z))))) .z))))
theorem adv:aJ 215 (adt n) :=cq aA func215 adu n
def aaf:cx xx:=⟨[.d (.sl af),.d (.sl af),.d af],[.fresh af],λa=>Bb n a.1 a.2.1 a.2.2.1,none⟩
def aag:Hn SI:=(xj (.s (.b (.l ⟨[(7,.o 1320),(8,.v af),(9,.v af),(10,.v .bool)],[(1320,.l af)],[0,1,2],[],1321,[(7,af)]⟩ 0 ⟨[(7,.o 1320)],[(1320,.l af)],[],[],1321,[]⟩ (.s (.s (.j ⟨[(24,.v .bool)],[],[0,1,2,7,8,9,10],[1320],1321,[]⟩ .z) .z) (.b (.s .z (.s (.j ⟨[(11,.v af)],[],[0,1,2,7,8,9,10],[1320],1385,[]⟩ (.s (.j ⟨[(49,.v .bool)],[],[0,1,2,7,8,9,10],[1320],1385,[]⟩ .z) .z)) (.s (.j ⟨[(8,.v af)],[],[0,1,2,7,9,10,11],[1320],1385,[]⟩ (.s (.j ⟨[(69,.v .bool)],[],[0,1,2,7,8,9,10,11],[1320],1385,[]⟩ .z) .z)) (.s (.j ⟨[(9,.v af)],[],[0,1,2,7,8,10,11],[1320],1385,[]⟩ (.s (.j ⟨[(83,.v .bool)],[],[0,1,2,7,8,9,10,11],[1320],1385,[]⟩ .z) .z)) (cz (.s (.j ⟨[(14,.v .bool)],[],[0,1,2,7,8,9,10,11,12,13],[1320],1897,[]⟩ .z) (.s (.j ⟨[(14,.v .bool)],[],[0,1,2,7,8,9,10,11,12,13],[1320],1897,[]⟩ .z) (.s (.j ⟨[(14,.v .bool)],[],[0,1,2,7,8,9,10,11],[1320],1897,[]⟩ .z) (.s (.j ⟨[(7,.o 1897)],[(1897,.l af)],[0,1,2,8,9,14],[],1898,[]⟩ .z) .z))))))))))))) .z))
theorem aah:aJ 214 (aaf n) :=cq aA func214 aag n
def aiT:cx xx:=⟨[.d (.sl af),.d (.sl af)],[.d .bool],λa=>Oz n a.1 a.2.1,none⟩
def aiU:Hn SI:=(cz (.s (.s .z (.b (.lx ⟨[(5,.v af)],[],[0,1],[],1448,[]⟩ 0 ⟨[],[],[],[],1448,[]⟩ .z))) .z))
theorem aiV:aJ 216 (aiT n) :=cq aA func216 aiU n
def aiW:cx xx:=⟨[.d (.sl ay),.d (.sl ay),.d af],[.fresh ay],λa=>OA n a.1 a.2.1 a.2.2.1,none⟩
def aiX:Hn SI:=(xj (.s (.s .z (.b (.l ⟨[(7,.o 1576),(9,.o 1577),(10,.v af),(11,.v af)],[(1576,.l ay),(1577,.l af)],[0,1,2,8],[1256],1578,[(7,ay),(9,af)]⟩ 0 ⟨[(7,.o 1576)],[(1576,.l ay)],[],[],1577,[]⟩ (.s .z (.s (.j ⟨[(7,.o 1898),(9,.o 1899),(10,.v af)],[(1898,.l ay),(1899,.l af)],[0,1,2,8,11],[1256],1900,[]⟩ (.b (.s .z (.s (.s (.j ⟨[(50,.v .bool)],[],[0,1,2,7,8,9,10,11,12],[1256,1576,1577,2730],2858,[]⟩ .z) (.s (.s (.s .z (.b (.l ⟨[(13,.v af)],[(1576,.l ay)],[0,1,2,7,8,9,10,11],[1256,1577],2986,[]⟩ 2 ⟨[],[(1576,.l ay)],[0,1,2,7,8,9,10,11],[1256,1577],2986,[]⟩ .z))) .z) .z)) (gi (.b (.l ⟨[(7,.o 3242),(14,.v af)],[(3242,.l ay)],[0,1,2,8,9,10,11,12],[1256,2730],3243,[]⟩ 4 ⟨[(7,.o 3242)],[(3242,.l ay)],[0,1,2,8,9,10,11],[1256,2730],3243,[]⟩ .z))))))) .z))))) .z))
theorem aiY:aJ 165 (aiW n) :=cq (ak (agx n) (ak (adv n) (ak (aah n) (ak (aiV n) aA)))) func165 aiX n
def aol:cx xx:=⟨[.d (.sl ay)],[.fresh ay,.d af],λa=>S4 n a.1,none⟩
def aom:Hn SI:=(.s .z (.s (.s .z (.b (.lx ⟨[(4,.v af)],[],[0],[],1192,[]⟩ 0 ⟨[],[],[0],[],1192,[]⟩ .z))) .z))
theorem aon:aJ 102 (aol n) :=cq (ak UO (ak (aiY n) aA)) func102 aom n
def aiZ:cx xx:=⟨[.d (.sl ay),.d (.sl ay)],[.d .bool],λa=>OC n a.1 a.2.1,none⟩
def ai0:Hn SI:=(cz (.s (.s .z (.b (.lx ⟨[(5,.v af)],[],[0,1],[],1448,[]⟩ 0 ⟨[],[],[],[],1448,[]⟩ .z))) .z))
theorem ai1:aJ 103 (aiZ n) :=cq aA func103 ai0 n
def agy:cx xx:=⟨[.d (.sl ay)],[.d .bool],λa=>KA n a.1,none⟩
theorem agz:aJ 64 (agy n) :=cq (ak (aon n) (ak (ai1 n) aA)) func64 .z n
def adw:cx xx:=⟨[.d (.sl ay)],[.d ay,.d .bool],λa=>Fh n a.1,none⟩
def adx:Hn SI:=(.s .z (.s (.s (.j ⟨[(13,.v .bool)],[],[0,2],[1000],1128,[]⟩ .z) .z) (.s .z (.s (.s .z (.b (.l ⟨[(5,.v af)],[(1320,vn)],[0,2,4],[1000],1512,[]⟩ 0 ⟨[],[(1320,vn)],[2,4],[1000],1512,[]⟩ .z))) .z))))
theorem ady:aJ 34 (adw n) :=cq (ak (agz n) aA) func34 adx n
def adz:cx xx:=⟨[.d gB],[.d .bool],λa=>Fj n a.1,none⟩
theorem adA:aJ 15 (adz n) :=cq (ak (ady n) aA) func15 .z n
def alX:cx xx:=⟨[.d (.st SI.kw)],[.d .bool],λa=>U7 n a.1,none⟩
def alY:Hn SI:=(.s .z (.s (.s (.j ⟨[(26,.v .bool)],[],[1],[1000],1128,[]⟩ .z) .z) (.s (.s .z (.b (.lx ⟨[(3,.v af)],[],[1],[1000],1192,[]⟩ 0 ⟨[],[],[1],[1000],1192,[]⟩ .z))) (.s (.s .z (.b (.lx ⟨[(4,.v af)],[],[1],[1000],1256,[]⟩ 2 ⟨[],[],[],[],1256,[]⟩ .z))) .z))))
theorem alZ:aJ 5 (alX n) :=cq (ak (aae n) (ak (adA n) aA)) func5 alY n
def ai2:cx xx:=⟨[.d ic,.d .str,.d .str],[.d .bool],λa=>OD n a.1 a.2.1 a.2.2.1,none⟩
def ai3:Hn SI:=(.s .z (.s (.s .z (.b (.lx ⟨[(7,.v af)],[],[1,2,3],[1000],1192,[]⟩ 0 ⟨[],[],[],[],1192,[]⟩ (.s .z (.s (.jx ⟨[],[],[1,2,3,7],[1000],1512,[]⟩ (.b (gi (.b (.lx ⟨[(9,.v af)],[],[1,2,3,7,8],[1000,2408],2600,[]⟩ 2 ⟨[],[],[1,2,3,7],[1000],2600,[]⟩ .z))))) .z))))) .z))
theorem ai4:aJ 19 (ai2 n) :=cq (ak Yr aA) func19 ai3 n
def aai:cx xx:=⟨[.d ic,.d (.sl fA)],[.d af,.d .bool],λa=>tu n a.1 a.2.1,none⟩
def aaj:Hn SI:=(gi (.s (.jx ⟨[(6,.v af)],[],[1,2],[1000],1832,[]⟩ (.s .z (.s (.s (.s (.j ⟨[(51,.v .bool)],[],[1,2,6],[1000],1960,[]⟩ .z) .z) (.s .z (.s (.s .z (.b (.lx ⟨[(11,.v af)],[],[1,2,6,10],[1000],2344,[]⟩ 0 ⟨[],[],[1,2,6],[1000],2344,[]⟩ .z))) .z))) .z))) (.s .z (.s (.jx ⟨[(6,.v af)],[],[],[],2472,[]⟩ (.s .z (.s (.s (.s (.j ⟨[(111,.v .bool)],[],[1,2,6],[1000],2536,[]⟩ .z) .z) (gi (.s (.s .z (.b (.l ⟨[(17,.v af),(18,.v af)],[],[1,2,6,16],[1000,3816],4072,[]⟩ 2 ⟨[(17,.v af)],[],[6],[],4072,[]⟩ (.s (.s (.j ⟨[(143,.v .bool)],[],[1,2,6,16,17,18],[1000,3816],4072,[]⟩ .z) .z) (.s (.j ⟨[(17,.v af)],[],[1,2,6,16,18],[1000,3816],4072,[]⟩ (.b (.s (.j ⟨[(191,.v .bool)],[],[1,2,6,16,17,18],[1000,3816],4072,[]⟩ .z) .z))) .z))))) .z))) .z))) .z))))
theorem aak:aJ 7 (aai n) :=cq (ak (zQ n) (ak (ai4 n) (ak (DK n) (ak (Gf n) aA)))) func7 aaj n
def PU:cx xx:=⟨[.d (.st SI.kw),.d gB,.d eO,.d af],[.d .bool],λa=>oU n a.1 a.2.1 a.2.2.1 a.2.2.2.1,none⟩
theorem PV:aJ 25 (PU n) :=cq (ak (xO n) (ak (Gh n) aA)) func25 .z n
def al0:cx xx:=⟨[.d (.st SI.kw),.d gB,.d (.sl fA),.d af],[.d .bool],λa=>U8 n a.1 a.2.1 a.2.2.1 a.2.2.2.1,none⟩
def al1:Hn SI:=(te (.s (.f [3]) (.s .z (.s (.s .z (.b (.l ⟨[(11,.v .bool),(12,.v af)],[],[2,3,4,5,10],[1000,1064,1320],2664,[]⟩ 0 ⟨[(11,.v .bool)],[],[2,3,4,5,10],[1000,1064,1320],2664,[]⟩ (.s (.s (.j ⟨[(62,.v .bool)],[],[2,3,4,5,10,11,12],[1000,1064,1320],2664,[]⟩ .z) .z) .z)))) (.s .z (.s (.s (.j ⟨[(107,.v .bool)],[],[2,3,4,5,10],[1000,1064,1320],2728,[]⟩ .z) .z) (gi (.s (.j ⟨[(17,.v .bool)],[],[2,10,14,15,16],[1320,3816],4200,[]⟩ .z) (.s (.s .z (.b (.l ⟨[(17,.v .bool),(18,.v af)],[],[2,10,14,15,16],[1320,3816],4264,[]⟩ 2 ⟨[(17,.v .bool)],[],[2,10,14,16],[1320],4264,[]⟩ (.s (.s (.j ⟨[(145,.v .bool)],[],[2,10,14,15,16,17,18],[1320,3816],4264,[]⟩ .z) .z) .z)))) .z)))))))))
theorem al2:aJ 8 (al0 n) :=cq (ak (JF n) (ak (zS n) (ak (wm n) (ak (PV n) (ak (xO n) (ak (xS n) aA)))))) func8 al1 n
def PW:cx xx:=⟨[.d (.st SI.kw),.d af],[.d .bool],λa=>rW n a.1 a.2.1,none⟩
def PX:Hn SI:=(cz (.s (.s (.j ⟨[(33,.v .bool)],[],[1,2,5],[1000],1256,[]⟩ .z) .z) (.s (.f [3]) (cz (.s (.s .z (.b (.lx ⟨[(7,.v af),(9,.v af)],[],[1,2,5,6],[1000],2280,[]⟩ 0 ⟨[(7,.v af)],[],[5,6],[],2280,[]⟩ (.s .z (.s (.b (.s .z (.s (.j ⟨[(7,.v af),(10,.v (.sl fA))],[],[1,2,5,6,9],[1000],2920,[]⟩ (.s (.j ⟨[(91,.v .bool)],[],[1,2,5,6,7,9,10],[1000],2920,[]⟩ .z) .z)) .z))) .z))))) .z)))))
theorem PY:aJ 3 (PW n) :=cq (ak (ags n) (ak (alZ n) (ak (JY n) (ak (aak n) (ak (al2 n) aA))))) func3 PX n
end
end Go.Proofs
