import Derived.Test.YtdgllbifeebppaaGreatTC1
namespace Go.Proofs
open Go.Gb Go.RowKit
open Tryz
noncomputable section
variable (n:Nat)
def Ca:dg xx:=⟨[.p 0],[(0,fp),(1,.l aG)],[.v ah],[(0,fp),(1,.l aG)],λv=>jG n v.1 v.2.1 v.2.2.1 v.2.2.2.1 v.2.2.2.2.1 v.2.2.2.2.2.1 v.2.2.2.2.2.2.1 v.2.2.2.2.2.2.2.1 v.2.2.2.2.2.2.2.2.1 v.2.2.2.2.2.2.2.2.2⟩
def Cb:co xx:=⟨[],[.d .bool],λ_=>none,some (Ca n)⟩
theorem Cc:aJ 140 (Cb n) :=oA (au (zI n) aB) func140 .z n (by kernel_rfl) λ_=>by kernel_rfl
def Gy:dg xx:=⟨[.p 0,(.f 198 [] [])],[(0,fp),(1,.l aG)],[.v ah],[(0,fp),(1,.l aG)],λv=>qy n v.1 v.2.1 v.2.2.1 v.2.2.2.1 v.2.2.2.2.1 v.2.2.2.2.2.1 v.2.2.2.2.2.2.1 v.2.2.2.2.2.2.2.1 v.2.2.2.2.2.2.2.2.1 v.2.2.2.2.2.2.2.2.2⟩
def Gz:co xx:=⟨[],[.d .bool],λ_=>none,some (Gy n)⟩
def GA:Hn SI:=(cy (.s (.s .z (.b (.l ⟨[(5,.v ah),(13,.v ah)],[],[1,11,12],[0,1],1512,[]⟩ 0 ⟨[(5,.v ah)],[],[],[0,1],1512,[]⟩ .z))) .z))
theorem GD:aJ 193 (Gz n) :=oA (au Dr aB) func193 GA n (by kernel_rfl) λ_=>by kernel_rfl
def DF:dg xx:=⟨[.p 0],[(0,fp),(1,.l aG)],[.v ah],[(0,fp),(1,.l aG)],λv=>kF n v.1 v.2.1 v.2.2.1 v.2.2.2.1 v.2.2.2.2.1 v.2.2.2.2.2.1 v.2.2.2.2.2.2.1 v.2.2.2.2.2.2.2.1 v.2.2.2.2.2.2.2.2.1 v.2.2.2.2.2.2.2.2.2⟩
def DI:co xx:=⟨[],[.d .bool],λ_=>none,some (DF n)⟩
theorem DJ:aJ 141 (DI n) :=oA (au (GD n) aB) func141 .z n (by kernel_rfl) λ_=>by kernel_rfl
def Ce:dg xx:=⟨[.p 0,.v ay,.v ah],[(0,fp),(1,.l aG)],[.v .bool],[(0,fp),(1,.l aG)],λv=>jI n v.1 v.2.1 v.2.2.1 v.2.2.2.1 v.2.2.2.2.1 v.2.2.2.2.2.1 v.2.2.2.2.2.2.1 v.2.2.2.2.2.2.2.1 v.2.2.2.2.2.2.2.2.1 v.2.2.2.2.2.2.2.2.2.1 v.2.2.2.2.2.2.2.2.2.2.1 v.2.2.2.2.2.2.2.2.2.2.2⟩
def Cf:co xx:=⟨[],[.d .bool],λ_=>none,some (Ce n)⟩
def Cg:Hn SI:=(sR (.s (.s .z (.b (.l ⟨[(9,.v ah),(27,.v ah)],[],[7,25,26],[0,1,1512],2280,[]⟩ 0 ⟨[(9,.v ah)],[],[7],[0,1,1512],2280,[]⟩ (cy (.s (.j ⟨[(9,.v ah)],[],[7,25,26,27],[0,1,1512],2344,[]⟩ .z) .z))))) .z))
theorem Ch:aJ 199 (Cf n) :=oA (au TP (au BL (au zy aB))) func199 Cg n (by kernel_rfl) λ_=>by kernel_rfl
def zP:dg xx:=⟨[.p 0],[(0,fp),(1,.l aG)],[.v ah],[(0,fp),(1,.l aG)],λv=>jg n v.1 v.2.1 v.2.2.1 v.2.2.2.1 v.2.2.2.2.1 v.2.2.2.2.2.1 v.2.2.2.2.2.2.1 v.2.2.2.2.2.2.2.1 v.2.2.2.2.2.2.2.2.1 v.2.2.2.2.2.2.2.2.2⟩
def zQ:co xx:=⟨[],[.d .bool],λ_=>none,some (zP n)⟩
def zR:Hn SI:=(cy (.s (.s .z (.b (.l ⟨[(3,.v ah),(14,.v ah)],[(0,fp),(1,.l aG)],[0,12,13],[],1512,[]⟩ 0 ⟨[(3,.v ah)],[(0,fp),(1,.l aG)],[],[],1512,[]⟩ (cy (.s (.b (cy (.s (.b (.l ⟨[(6,.v ah),(7,.v ah)],[(0,fp),(1,.l aG)],[0,5,12,13,14],[1704],2024,[]⟩ 2 ⟨[(6,.v ah)],[(0,fp),(1,.l aG)],[0,12,13,14],[],2024,[]⟩ .z)) .z))) .z))))) .z))
theorem zS:aJ 142 (zQ n) :=oA (au (Ch n) aB) func142 zR n (by kernel_rfl) λ_=>by kernel_rfl
def wY:dg xx:=⟨[.v aG,.p 0],[(0,.c 1 [[.p 1]]),(1,tR),(2,.l aG)],[.v ah],[(0,.c 1 [[.p 1]]),(1,tR),(2,.l aG)],λv=>kr n v.1 v.2.1 v.2.2.1 v.2.2.2.1 v.2.2.2.2.1 v.2.2.2.2.2.1 v.2.2.2.2.2.2.1 v.2.2.2.2.2.2.2.1 v.2.2.2.2.2.2.2.2.1 v.2.2.2.2.2.2.2.2.2.1 v.2.2.2.2.2.2.2.2.2.2⟩
def wZ:co xx:=⟨[],[.d .bool],λ_=>none,some (wY n)⟩
theorem xg:aJ 200 (wZ n) :=oA (au (O8 n) aB) func200 .z n (by kernel_rfl) λ_=>by kernel_rfl
def GH:dg xx:=⟨[.p 0,(.f 200 [] [.p 1])],[(0,tR),(1,.c 1 [[.p 0]]),(2,.l aG)],[.v ah],[(0,tR),(1,.c 1 [[.p 0]]),(2,.l aG)],λv=>qz n v.1 v.2.1 v.2.2.1 v.2.2.2.1 v.2.2.2.2.1 v.2.2.2.2.2.1 v.2.2.2.2.2.2.1 v.2.2.2.2.2.2.2.1 v.2.2.2.2.2.2.2.2.1 v.2.2.2.2.2.2.2.2.2⟩
def GI:co xx:=⟨[],[.d .bool],λ_=>none,some (GH n)⟩
def GJ:Hn SI:=(cy (.s (.s .z (.b (.l ⟨[(5,.v ah),(13,.v ah)],[(0,tR),(1,.c 1 [[.p 0]]),(2,.l aG)],[1,11,12],[],1512,[]⟩ 0 ⟨[(5,.v ah)],[(0,tR),(1,.c 1 [[.p 0]]),(2,.l aG)],[],[],1512,[]⟩ .z))) .z))
theorem GK:aJ 193 (GI n) :=oA (au (xg n) aB) func193 GJ n (by kernel_rfl) λ_=>by kernel_rfl
def zT:dg xx:=⟨[.p 0],[(0,fp),(1,.l aG)],[.v ah],[(0,fp),(1,.l aG)],λv=>jh n v.1 v.2.1 v.2.2.1 v.2.2.2.1 v.2.2.2.2.1 v.2.2.2.2.2.1 v.2.2.2.2.2.2.1 v.2.2.2.2.2.2.2.1 v.2.2.2.2.2.2.2.2.1 v.2.2.2.2.2.2.2.2.2⟩
def zU:co xx:=⟨[],[.d .bool],λ_=>none,some (zT n)⟩
theorem zV:aJ 143 (zU n) :=oA (au (GK n) aB) func143 .z n (by kernel_rfl) λ_=>by kernel_rfl
def acE:co xx:=⟨[.d iO,.d gG,.d (.st SI.ef)],[.fresh (.st SI.Entry)],λa=>ku n a.1 a.2.1 a.2.2.1,none⟩
def acF:Hn SI:=(cy (.s (.j ⟨[],[(1384,.c 10 [[.v (.sl bE),.v (.sl bg),.v (.sl bH),.v (.sl bn),.v (.sl bL),.v (.sl bI),.v (.sl aZ),.v ah,.v (.sl ay),.nil]])],[5,7],[1128],1512,[]⟩ .z) (.s (.s .z (.b (.l ⟨[(31,.v ah)],[(1384,.c 10 [[.v (.sl bE),.v (.sl bg),.v (.sl bH),.v (.sl bn),.v (.sl bL),.v (.sl bI),.v (.sl aZ),.v ah,.v (.sl ay),.o 1960]]),(1960,.l aG)],[7,29,30],[1768],1961,[(6668873,aG)]⟩ 0 ⟨[],[(1384,.c 10 [[.v (.sl bE),.v (.sl bg),.v (.sl bH),.v (.sl bn),.v (.sl bL),.v (.sl bI),.v (.sl aZ),.v ah,.v (.sl ay),.o 1960]]),(1960,.l aG)],[7],[],1961,[]⟩ (cy (.s (.j ⟨[],[(1384,.c 10 [[.v (.sl bE),.v (.sl bg),.v (.sl bH),.v (.sl bn),.v (.sl bL),.v (.sl bI),.v (.sl aZ),.v ah,.v (.sl ay),.o 2025]]),(2025,.l aG)],[7,29,30,31],[1768],2026,[]⟩ (.b (.s .z (.s (.j ⟨[(41,.v .bool)],[],[7,9,29,30,31],[1384,1768,1960,2217],2409,[]⟩ .z) .z)))) .z))))) (cy (.s (.s .z (.b (.un .z (.un .z (.un .z (.un .z (.un .z (.un .z (.un .z (.un .z (.un .z (.un .z .z)))))))))))) .z)))))
theorem acG:aJ 85 (acE n) :=cq (au (pO n) (au (AU n) (au kH (au (Gt n) (au (Dw n) (au (Dz n) (au (BZ n) (au (Cc n) (au (DJ n) (au (zS n) (au (zV n) aB))))))))))) func85 acF n
def ahP:co xx:=⟨[.d ah],[.d ah,.d .bool],λa=>yT a.1,none⟩
def ahQ:Hn SI:=(.s .z (.s (.s .z (.b (.s (.j ⟨[(5,.v .bool)],[],[0,4],[],1192,[]⟩ .z) (.s .z (.s (.j ⟨[(10,.v .bool)],[],[0,4],[],1192,[]⟩ .z) .z))))) .z))
theorem ahR:aJ 233 ahP :=cq aB func233 ahQ 0
def afr:Hn SI:=(cy (.s (.s (.j ⟨[(28,.v .bool)],[],[1,2],[1000],1640,[]⟩ .z) .z) (.s .z (.s (.s .z (.b (.l ⟨[(7,.v ah),(32,.v ah)],[],[1,30,31],[],1960,[]⟩ 0 ⟨[(7,.v ah)],[],[],[],1960,[]⟩ .z))) .z))))
theorem acH(rc:(cu)->(Int)->J Int)(hr:aJ 187 (EH rc)):aJ 187 (EH (Ap n rc)) :=cq (au ahR (au hr aB)) func187 afr n
theorem O9(n:Nat):∀m,aJ 187 (EH (sF n m))
 | 0=>An (ni func187 (by kernel_rfl:Tryz.f187.body=some (Tryz.f187.body.getD .skip)) (by kernel_rfl)) (λ _ _ h=>(by cases h)) rfl
 |m+1=>acH n _ (O9 n m)
def afs:co xx:=⟨[.d (.st SI.Expr),.d ah],[.d ah],λa=>Qe n a.1 a.2.1,none⟩
theorem aft:aJ 187 (afs n):=O9 n n
def ahS:co xx:=⟨[.d (.st SI.Expr)],[.d .bool],λa=>Ir n a.1,none⟩
theorem Yc:aJ 131 (ahS n) :=cq (au (aft n) aB) func131 .z n
def Kv:co xx:=⟨[.d bg,.ref (.st SI.Expr)],[.d .bool],λa=>Aq a.1 a.2.1,none⟩
theorem Kw:aJ 235 Kv :=cq aB func235 .z 0
def Jl:co xx:=⟨[.d (.sl bg),.ek [bg] .bool],[.d ah],λa=>rJ n a.1 a.2.1,none⟩
def Jm:Hn SI:=(.s .z (.s (.s .z (.b (.lx ⟨[(8,.v ah)],[],[0,1,7],[],1256,[]⟩ 0 ⟨[],[],[],[],1256,[]⟩ .z))) .z))
theorem Jo:aJ 234 (Jl n) :=cq aB func234 Jm n
def Ky:co xx:=⟨[.d (.st SI.Entry),.ref (.st SI.Expr)],[.d .bool],λa=>Ar a.1 a.2.1,none⟩
theorem Kz:aJ 237 Ky :=cq aB func237 .z 0
def anm:co xx:=⟨[.d .bool],[.d ah],λa=>yU a.1,none⟩
theorem afu:aJ 189 anm :=cq aB func189 .z 0
def Zh:co xx:=⟨[.d ah,.d ah],[.d ah],λa=>wI a.1 a.2.1,none⟩
def Zi:Hn SI:=(gp (.s (.j ⟨[(5,.v ah)],[],[],[],1448,[]⟩ (.s .z (.s (.j ⟨[(23,.v .bool)],[],[5],[],1704,[]⟩ .z) .z))) .z))
theorem Zj:aJ 238 Zh :=cq aB func238 Zi 0
def afv:co xx:=⟨[.d ah,.d ah,.d ah],[.d ah],λa=>JY a.1 a.2.1 a.2.2.1,none⟩
theorem afw:aJ 190 afv :=cq (au Zj (au afu aB)) func190 .z 0
def KA:dg xx:=⟨[(.a [.v (.sl bE),.v (.sl bg),.v (.sl bH),.v (.sl bn),.v (.sl bL),.v (.sl bI),.v (.sl aZ),.v ah,.mp 0,.v (.sl .str)]),.v (.st SI.Expr)],[(0,.m .str ah)],[.v ah],[(0,.m .str ah)],λv=>ji n v.1 v.2.1 v.2.2.1 v.2.2.2.1 v.2.2.2.2.1 v.2.2.2.2.2.1 v.2.2.2.2.2.2.1 v.2.2.2.2.2.2.2.1 v.2.2.2.2.2.2.2.2.1 v.2.2.2.2.2.2.2.2.2.1 v.2.2.2.2.2.2.2.2.2.2⟩
def KC:co xx:=⟨[],[.d .bool],λ_=>none,some (KA n)⟩
theorem KD:aJ 188 (KC n) :=oA (au (Jo n) (au Kw (au (wP n) (au Kz aB)))) func188 .z n (by kernel_rfl) λ_=>by kernel_rfl
def GL:Hn SI:=(cy (.s (.s .z (.b (.l ⟨[(5,.o 1512),(11,.v ah)],[(0,.m .str ah),(1512,.l ah)],[2,3,9,10],[1000,1064],1513,[(5,ah)]⟩ 0 ⟨[(5,.o 1512)],[(0,.m .str ah),(1512,.l ah)],[2,3],[1000,1064],1513,[]⟩ (cy (.s (.j ⟨[(5,.o 1577)],[(0,.m .str ah),(1577,.l ah)],[2,3,9,10,11],[1000,1064],1578,[]⟩ (.b (.s .z (.s (.s (.j ⟨[(31,.v .bool)],[],[2,3,5,7,9,10,11],[0,1000,1064,1512,1769],1961,[]⟩ .z) .z) .z)))) .z))))) .z))
theorem Fw(rc:((List eu))->((List cZ))->((List dL))->((List bP))->((List gq))->((List fu))->((List cB))->(Int)->((List ByteArray))->(cu)->((List (ByteArray×Int)))->J (Int×(List (ByteArray×Int))))(hr:aJ 133 (jK rc)):aJ 133 (jK (fF n rc)) :=oA (au hr (au (KD n) (au (pQ n) (au afu (au afw aB))))) func133 GL n (by kernel_rfl) λ_=>by kernel_rfl
theorem uE(n:Nat):∀m,aJ 133 (jK (cK n m))
 | 0=>MY (ni func133 (by kernel_rfl:Tryz.f133.body=some (Tryz.f133.body.getD .skip)) (by kernel_rfl)) (λ _ _ h=>(by cases h))
 |m+1=>Fw n _ (uE n m)
def GN:co xx:=jK (cK n n)
theorem uL:aJ 133 (GN n):=uE n n
def TQ:dg xx:=⟨[.v iO,(.v (.sl (.st SI.Entry))),.v (.sl .str)],[],[(.a [.v (.sl bE),.v (.sl bg),.v (.sl bH),.v (.sl bn),.v (.sl bL),.v (.sl bI),.v (.sl aZ),.v ah,.mp 1000,.v (.sl .str)]),.o 1001],[(1000,.m .str ah),(1001,.l ah)],λv=>mF n v.1 v.2.1 v.2.2⟩
def TS:co xx:=⟨[],[.d .bool],λ_=>none,some (TQ n)⟩
def TU:Hn SI:=(gp (.s (.s .z (.b (.l ⟨[(26,.v ah)],[(1256,.m .str ah),(1576,.m .str .bool)],[3,6,8,9,24,25],[1000,1064,1448],1896,[]⟩ 0 ⟨[],[(1256,.m .str ah),(1576,.m .str .bool)],[3,6,8,9],[1000,1064,1448],1896,[]⟩ (cy (.s (.j ⟨[],[(1256,.m .str ah),(1576,.m .str .bool)],[3,6,8,9,24,25,26],[1000,1064,1448],1960,[]⟩ .z) .z))))) (gp (.s (.s .z (.b (.l ⟨[(61,.v ah)],[(1256,.m .str ah),(2088,.l ah)],[3,6,8,9,12,59,60],[1000,1064,1448,1576,2280],3112,[]⟩ 2 ⟨[],[(1256,.m .str ah),(2088,.l ah)],[6,8,12],[1064,1448],3112,[]⟩ (cy (.s (.j ⟨[],[(1256,.m .str ah),(2088,.l ah)],[3,6,8,9,12,59,60,61],[1000,1064,1448,1576,2280],3176,[]⟩ (.b (cy (.s (.j ⟨[],[(1256,.m .str ah),(2088,.l ah)],[3,6,8,9,12,17,18,59,60,61],[1000,1064,1448,1576,2280,3688],3816,[]⟩ .z) .z)))) .z))))) .z))))
theorem TW:aJ 132 (TS n) :=oA (au (Jd n) (au (Yc n) (au (uL n) aB))) func132 TU n (by kernel_rfl) λ_=>by kernel_rfl
def akQ:co xx:=⟨[.d iO,.d (.sl (.st SI.Entry)),.d (.sl .str),.d (.st SI.Expr)],[.d ah],λa=>xN n a.1 a.2.1 a.2.2.1 a.2.2.2.1,none⟩
theorem akR:aJ 84 (akQ n) :=cq (au (Yc n) (au (TW n) (au (uL n) aB))) func84 .z n
def Yd:co xx:=⟨[.d aG],[.fresh (.st SI.ll)],λa=>xO a.1,none⟩
theorem Jp:aJ 58 Yd :=cq aB func58 .z 0
def Jq:co xx:=⟨[.d (.sl (.st SI.gA)),.ek [.st SI.gA] .bool],[.d ah],λa=>rM n a.1 a.2.1,none⟩
def Jr:Hn SI:=(.s .z (.s (.s .z (.b (.lx ⟨[(8,.v ah)],[],[0,1,7],[],1256,[]⟩ 0 ⟨[],[],[],[],1256,[]⟩ .z))) .z))
theorem Js:aJ 242 (Jq n) :=cq aB func242 Jr n
def DK:co xx:=⟨[.d (.sl (.st SI.gA)),.ek [.st SI.gA] .bool],[.d .bool],λa=>kG n a.1 a.2.1,none⟩
theorem DL:aJ 202 (DK n) :=cq (au (Js n) aB) func202 .z n
def Ye:co xx:=⟨[.d ah,.d ah,.d ah],[.d .bool],λa=>nO a.1 a.2.1 a.2.2.1,none⟩
theorem Yf:aJ 243 Ye :=cq aB func243 .z 0
def Zk:co xx:=⟨[.d (.st SI.gA)],[.d .bool],λa=>Au a.1,none⟩
theorem Zl:aJ 204 Zk :=cq (au Yf aB) func204 .z 0
def Q0:co xx:=⟨[.d (.st SI.gA)],[.d .bool],λa=>tQ a.1,none⟩
theorem Q5:aJ 203 Q0 :=cq (au Zl aB) func203 .z 0
def Zm:co xx:=⟨[.d ay,.d (.sl (.st SI.gA))],[.d .bool],λa=>Av n a.1 a.2.1,none⟩
theorem Zn:aJ 144 (Zm n) :=cq (au oI (au (DL n) (au Q5 aB))) func144 .z n
def akS:co xx:=⟨[.d (.sl ay),.d (.sl ay)],[.d .bool],λa=>Ux n a.1 a.2.1,none⟩
theorem akT:aJ 151 (akS n) :=cq (au (FT n) aB) func151 .z n
def ahT:co xx:=⟨[.d (.sl (.st SI.ll))],[.d .bool],λa=>Iu n a.1,none⟩
def ahU:Hn SI:=(cy (.s (.s .z (.b (.lx ⟨[(11,.v ah)],[],[0,9,10],[],1448,[]⟩ 0 ⟨[],[],[],[],1448,[]⟩ (cy (.s (.jx ⟨[],[],[0,9,10,11],[],1512,[]⟩ (.b (.s .z (.s (.s (.j ⟨[(42,.v .bool)],[],[0,3,4,9,10,11],[1704],1896,[]⟩ .z) .z) (cy (.s (.j ⟨[(68,.v .bool)],[],[0,9,10,11],[],2472,[]⟩ .z) .z)))))) .z))))) .z))
theorem Yg:aJ 92 (ahT n) :=cq (au (pO n) (au (akT n) aB)) func92 ahU n
def Pb:co xx:=⟨[.d ay,.d ah,.d ah],[.d (.st SI.m9)],λa=>wX a.1 a.2.1 a.2.2.1,none⟩
theorem Pd:aJ 244 Pb :=cq aB func244 .z 0
def Q6:co xx:=⟨[.d ah,.d ah],[.d ah],λa=>tT a.1 a.2.1,none⟩
def Q7:Hn SI:=(cy (.s (.j ⟨[(5,.v ah)],[],[],[],1320,[]⟩ .z) .z))
theorem Q8:aJ 245 Q6 :=cq aB func245 Q7 0
def afx:co xx:=⟨[.d ay,.d (.sl (.st SI.gA)),.d ah,.d ah],[.d ah],λa=>JZ n a.1 a.2.1 a.2.2.1 a.2.2.2.1,none⟩
def afy:Hn SI:=(gp (.s (.s .z (.b (.l ⟨[(9,.v ah),(19,.v ah)],[],[10,17,18],[1448],1768,[]⟩ 0 ⟨[(9,.v ah)],[],[],[],1768,[]⟩ .z))) .z))
theorem afz:aJ 205 (afx n) :=cq (au Pd (au Q8 aB)) func205 afy n
def Yh:co xx:=⟨[.d ay,.d (.sl (.st SI.gA)),.d (.sl ay)],[.d ah],λa=>xQ n a.1 a.2.1 a.2.2.1,none⟩
def Yi:Hn SI:=(cy (.s (.s .z (.b (.l ⟨[(7,.v ah),(16,.v ah)],[],[1,3,14,15],[1000],1384,[]⟩ 0 ⟨[(7,.v ah)],[],[],[],1384,[]⟩ (cy (.s (.b (cy (.b (.l ⟨[(7,.v ah),(27,.v ah)],[],[1,3,9,14,15,16,25,26],[1000,1576,2024],2216,[]⟩ 2 ⟨[(7,.v ah)],[],[1,3,14,15,16],[1000],2216,[]⟩ (cy (.s (.b (cy (.b (.l ⟨[(7,.v ah),(38,.v ah)],[],[1,3,9,11,14,15,16,25,26,27,36,37],[1000,1576,2024,2792],2984,[]⟩ 4 ⟨[(7,.v ah)],[],[1,3,9,14,15,16,25,26,27],[1000,1576,2024],2984,[]⟩ .z)))) .z)))))) .z))))) .z))
theorem Yj:aJ 146 (Yh n) :=cq (au (afz n) aB) func146 Yi n
def Pe:co xx:=⟨[.d (.st SI.ll),.ref ay,.ref (.sl (.st SI.gA))],[.d .bool],λa=>rz n a.1 a.2.1 a.2.2.1,none⟩
theorem Pf:aJ 145 (Pe n) :=cq (au (Yj n) aB) func145 .z n
def KE:co xx:=⟨[.d (.sl (.st SI.ll)),.ek [.st SI.ll] .bool],[.d ah],λa=>tV n a.1 a.2.1,none⟩
def KF:Hn SI:=(.s .z (.s (.s .z (.b (.lx ⟨[(8,.v ah)],[],[0,1,7],[],1256,[]⟩ 0 ⟨[],[],[],[],1256,[]⟩ .z))) .z))
theorem KG:aJ 152 (KE n) :=cq aB func152 KF n
def Fx:co xx:=⟨[.d (.sl (.st SI.ll)),.ek [.st SI.ll] .bool],[.d .bool],λa=>iX n a.1 a.2.1,none⟩
theorem uF:aJ 93 (Fx n) :=cq (au (KG n) aB) func93 .z n
def Yk:co xx:=⟨[.d ay,.d (.sl (.st SI.gA)),.d (.sl (.st SI.ll))],[.d .bool],λa=>xR n a.1 a.2.1 a.2.2.1,none⟩
def Yl:Hn SI:=(.s .z (.s (.s (.j ⟨[(15,.v .bool)],[],[2,3,4],[1000,1064],1192,[]⟩ .z) .z) .z))
theorem Ym:aJ 87 (Yk n) :=cq (au (Zn n) (au (Yg n) (au (uF n) (au (Pf n) aB)))) func87 Yl n
def Ci:co xx:=⟨[.d aG,.ref ay,.ref bn],[.d .bool],λa=>jL n a.1 a.2.1 a.2.2.1,none⟩
theorem Cj:aJ 86 (Ci n) :=cq (au Jp (au (Ym n) aB)) func86 .z n
def Mh:co xx:=⟨[.d (.st SI.ky),.ek [aG] .bool],[.d .bool],λa=>gK n a.1 a.2.1,none⟩
theorem zJ:aJ 55 (Mh n) :=cq (au (qV n) aB) func55 .z n
def Ck:co xx:=⟨[.d aG,.ref bn],[.d .bool],λa=>jM a.1 a.2.1,none⟩
theorem Cm:aJ 88 Ck :=cq aB func88 .z 0
def ano:co xx:=⟨[.d ay,.d ay],[.d ah,.d ah],λa=>al9 a.1 a.2.1,none⟩
theorem anp:aJ 207 ano :=cq aB func207 .z 0
def aoX:co xx:=⟨[.d ay,.d ay],[.d ah],λa=>ON a.1 a.2.1,none⟩
def aoY:Hn SI:=(.s .z (.s (.s (.j ⟨[(14,.v .bool)],[],[2,3],[1000,1064],1192,[]⟩ .z) .z) .z))
theorem aoZ:aJ 149 aoX :=cq (au oI (au anp aB)) func149 aoY 0
def DR:co xx:=⟨[.d (.st SI.gj),.ref (.st SI.ky),.ref aG,.ref bn],[.d .bool],λa=>dV a.1 a.2.1 a.2.2.1 a.2.2.2.1,none⟩
def DT:Hn SI:=(cy (.s (.s (.j ⟨[(32,.v .bool)],[],[2,3,6],[1256],1384,[]⟩ .z) .z) (.s (.j ⟨[(7,.v .bool)],[],[2,3,6],[1256],1384,[]⟩ .z) .z)))
theorem DU:aJ 148 DR :=cq (au oI (au aoZ aB)) func148 DT 0
def GQ:co xx:=⟨[.d (.sl (.st SI.gj)),.ek [.st SI.gj] .bool],[.d ah],λa=>qC n a.1 a.2.1,none⟩
def GR:Hn SI:=(.s .z (.s (.s .z (.b (.lx ⟨[(8,.v ah)],[],[0,1,7],[],1256,[]⟩ 0 ⟨[],[],[],[],1256,[]⟩ .z))) .z))
theorem GU:aJ 206 (GQ n) :=cq aB func206 GR n
def Cn:co xx:=⟨[.d (.sl (.st SI.gj)),.ek [.st SI.gj] .bool],[.d .bool],λa=>jN n a.1 a.2.1,none⟩
theorem Co:aJ 147 (Cn n) :=cq (au (GU n) aB) func147 .z n
def Jt:co xx:=⟨[.d (.st SI.ky),.d bn,.d aG],[.d .bool],λa=>rO n a.1 a.2.1 a.2.2.1,none⟩
theorem Ju:aJ 90 (Jt n) :=cq (au (Co n) (au DU aB)) func90 .z n
def Cq:co xx:=⟨[.d aG,.ref (.st SI.ky),.ref bn],[.d .bool],λa=>jO n a.1 a.2.1 a.2.2.1,none⟩
theorem Cr:aJ 89 (Cq n) :=cq (au (Ju n) aB) func89 .z n
def GV:co xx:=⟨[.d (.st SI.ky),.d bn],[.d .bool],λa=>mR n a.1 a.2.1,none⟩
theorem GX:aJ 54 (GV n) :=cq (au (acG n) (au (akR n) (au (Si n) (au (zJ n) (au (Cj n) (au Cm (au (Cr n) aB))))))) func54 .z n
def TY:co xx:=⟨[.d ay,.ref ay],[.d .bool],λa=>vK a.1 a.2.1,none⟩
theorem T9:aJ 155 TY :=cq aB func155 .z 0
def KH:co xx:=⟨[.d (.sl ay),.ek [ay] .bool],[.d ah],λa=>tX n a.1 a.2.1,none⟩
def KI:Hn SI:=(.s .z (.s (.s .z (.b (.lx ⟨[(8,.v ah)],[],[0,1,7],[],1256,[]⟩ 0 ⟨[],[],[],[],1256,[]⟩ .z))) .z))
theorem KJ:aJ 208 (KH n) :=cq aB func208 KI n
def Fy:co xx:=⟨[.d (.sl ay),.ek [ay] .bool],[.d .bool],λa=>iY n a.1 a.2.1,none⟩
theorem uG:aJ 153 (Fy n) :=cq (au (KJ n) aB) func153 .z n
def acI:co xx:=⟨[.d ay,.ref (.sl ay)],[.d .bool],λa=>EK n a.1 a.2.1,none⟩
theorem acJ:aJ 154 (acI n) :=cq (au (uG n) (au T9 aB)) func154 .z n
def akU:co xx:=⟨[.d (.sl ay),.d (.sl ay)],[.d .bool],λa=>Uy n a.1 a.2.1,none⟩
theorem akV:aJ 95 (akU n) :=cq (au (uG n) (au (acJ n) aB)) func95 .z n
def Ua:co xx:=⟨[.d (.st SI.ll),.ref (.st SI.fj)],[.d .bool],λa=>qL n a.1 a.2.1,none⟩
theorem Ub:aJ 94 (Ua n) :=cq (au (akV n) aB) func94 .z n
def acK:co xx:=⟨[.d (.sl (.st SI.fj)),.d ah,.d (.sl (.st SI.ll))],[.d .bool],λa=>EL n a.1 a.2.1 a.2.2.1,none⟩
def acL:Hn SI:=(cy (.s (.s .z (.b (.lx ⟨[(14,.v ah)],[],[1,2,12,13],[],1448,[]⟩ 0 ⟨[],[],[],[],1448,[]⟩ (cy (.s (.jx ⟨[],[],[1,2,12,13,14],[],1512,[]⟩ (.b (.s .z (.s (.s (.j ⟨[(27,.v .bool)],[],[1,2,8,12,13,14],[1640],1768,[]⟩ .z) .z) .z)))) .z))))) .z))
theorem acM:aJ 57 (acK n) :=cq (au (Yg n) (au (pO n) (au (uF n) (au (Ub n) aB)))) func57 acL n
def Mi:co xx:=⟨[.d aG,.ref (.st SI.il),.ref (.st SI.ef)],[.d .bool],λa=>mY n a.1 a.2.1 a.2.2.1,none⟩
theorem Mj:aJ 56 (Mi n) :=cq (au Jp (au (acM n) aB)) func56 .z n
def GY:dg xx:=⟨[.v .str,.v .bool,.p 0],[(0,qr),(1,.l .str)],[],[(0,.c 1 [[.o 1000]]),(1000,.l .str)],λv=>jr n v.1 v.2.1 v.2.2⟩
def GZ:co xx:=⟨[],[.d .bool],λ_=>none,some (GY n)⟩
def G5:Hn SI:=(.s (.j ⟨[(11,.v .bool)],[],[0,2],[0,1],1000,[]⟩ .z) .z)
theorem G6:aJ 52 (GZ n) :=oA (au (pQ n) aB) func52 G5 n (by kernel_rfl) λ_=>by kernel_rfl
def Uc:co xx:=⟨[.d (.st SI.il),.d (.st SI.ef),.d ah],[.fresh .str,.d ah],λa=>oH n a.1 a.2.1 a.2.2.1,none⟩
def Ud:Hn SI:=(wx (.s (.s .z (.b (.l ⟨[(31,.v ah)],[(1960,.c 1 [[.o 2664]]),(2664,.l .str)],[3,4,8,10,11,29,30],[1000,1064,1640,2472],2665,[(9028160,.str)]⟩ 0 ⟨[],[(1960,.c 1 [[.o 2664]]),(2664,.l .str)],[3,4,8,10,11],[1000,1064,1640],2665,[]⟩ .z))) .z))
theorem FV:aJ 30 (Uc n) :=cq (au (Zd n) (au (Jh n) (au (GX n) (au (G6 n) (au (zJ n) (au (Mj n) aB)))))) func30 Ud n
def Ue:co xx:=⟨[.d (.st SI.il),.d (.st SI.ef),.d ah],[.d .bool],λa=>mG n a.1 a.2.1 a.2.2.1,none⟩
theorem Uf:aJ 34 (Ue n) :=cq (au (FV n) aB) func34 .z n
def DW:co xx:=⟨[.d eH,.ref (.st SI.ii),.ref gG],[.d .bool],λa=>iK n a.1 a.2.1 a.2.2.1,none⟩
theorem DX:aJ 33 (DW n) :=cq (au (X4 n) (au (Uf n) aB)) func33 .z n
def Jv:co xx:=⟨[.d (.sl eH),.ek [eH] .bool],[.d ah],λa=>rP n a.1 a.2.1,none⟩
def Jw:Hn SI:=(.s .z (.s (.s .z (.b (.lx ⟨[(8,.v ah)],[],[0,1,7],[],1256,[]⟩ 0 ⟨[],[],[],[],1256,[]⟩ .z))) .z))
theorem Jy:aJ 32 (Jv n) :=cq aB func32 Jw n
def Jz:co xx:=⟨[.d (.st SI.ii),.d gG,.d (.sl eH)],[.d eH,.d .bool],λa=>iQ n a.1 a.2.1 a.2.2.1,none⟩
theorem wQ:aJ 22 (Jz n) :=cq (au (Jy n) (au (DX n) aB)) func22 .z n
def KL:co xx:=⟨[.d (.st SI.ii),.d gG],[.d (.st SI.Finding),.d .bool],λa=>lU n a.1 a.2.1,none⟩
def KM:Hn SI:=(gp (.s (.f [3]) (cy (.s (.j ⟨[],[(1448,.c 9 [[.v ah,.v ah,.o 3560,.v ah,.v ah,.v ah,.v ah,.v ah,.v ah]]),(3560,.l .str)],[4,6],[1128],3561,[(6931010,.str)]⟩ .z) .z))))
theorem KN:aJ 17 (KL n) :=cq (au (Sg n) (au (Jh n) (au (Dm n) (au (wQ n) (au (X4 n) (au (FV n) aB)))))) func17 KM n
def afA:co xx:=⟨[.d (.st SI.il),.d ah],[.fresh (.st SI.Finding)],λa=>fE n a.1 a.2.1,none⟩
def afB:Hn SI:=(sR (.s (.s .z (.b (.l ⟨[(6,.o 2024),(21,.v ah)],[(1640,.m ah .bool),(2024,.l (.st SI.Finding))],[5,7,19,20],[1320],2025,[]⟩ 0 ⟨[(6,.o 2024)],[(2024,.l (.st SI.Finding))],[],[],2025,[]⟩ (cy (.s (.j ⟨[(6,.o 2089)],[(1640,.m ah .bool),(2089,.l (.st SI.Finding))],[5,7,19,20,21],[1320],2090,[]⟩ .z) .z))))) .z))
theorem JA:aJ 7 (afA n) :=cq (au (Fv n) (au (KN n) aB)) func7 afB n
def Ug:co xx:=⟨[.d gG,.ref ah],[.d .bool],λa=>vM a.1 a.2.1,none⟩
theorem Uh:aJ 21 Ug :=cq aB func21 .z 0
def Mk:co xx:=⟨[.d (.sl gG),.ek [gG] .bool],[.d ah],λa=>ve n a.1 a.2.1,none⟩
def Ml:Hn SI:=(.s .z (.s (.s .z (.b (.lx ⟨[(8,.v ah)],[],[0,1,7],[],1256,[]⟩ 0 ⟨[],[],[],[],1256,[]⟩ .z))) .z))
theorem Mq:aJ 20 (Mk n) :=cq aB func20 Ml n
def acN:co xx:=⟨[.d (.st SI.il),.d ah,.d ah],[.d eH,.d .bool],λa=>yV n a.1 a.2.1 a.2.2.1,none⟩
theorem acO:aJ 11 (acN n) :=cq (au (Mq n) (au Uh (au (Dm n) (au (wQ n) aB)))) func11 .z n
def Q9:co xx:=⟨[.d ah,.ref ah,.js .bool,.js ah],[.mr .bool,.mr ah],λa=>pG a.1 a.2.1 a.2.2.1 a.2.2.2.1,none⟩
def Ra:Hn SI:=(.s (.j ⟨[(16,.v .bool)],[],[0,2,3],[0,1],1000,[]⟩ .z) .z)
theorem Rb:aJ 18 Q9 :=cq aB func18 Ra 0
def Zo:co xx:=⟨[.d iO,.d ah],[.d ah,.d .bool],λa=>lV n a.1 a.2.1,none⟩
def Zp:Hn SI:=(gp (.s (.s .z (.b (.l ⟨[(15,.v ah)],[(1256,.c 1 [[.v ah]]),(1320,.c 1 [[.v .bool]])],[6,7,8,13,14],[1064],1896,[]⟩ 0 ⟨[],[(1256,.c 1 [[.v ah]]),(1320,.c 1 [[.v .bool]])],[6,7],[],1896,[]⟩ (cy (.s (.j ⟨[],[(1256,.c 1 [[.v ah]]),(1320,.c 1 [[.v .bool]])],[6,7,8,13,14,15],[1064],1960,[]⟩ .z) .z))))) .z))
theorem Lf:aJ 8 (Zo n) :=cq (au Rb aB) func8 Zp n
def afC:co xx:=⟨[.d (.st SI.il),.d ah,.d ah],[.d ah,.d .bool],λa=>vg n a.1 a.2.1 a.2.2.1,none⟩
def afD:Hn SI:=(.s .z (.s (.s .z (.b (.lx ⟨[(8,.v ah),(9,.v .bool)],[],[2,3],[1000],1384,[]⟩ 0 ⟨[],[],[],[],1384,[]⟩ (.s (.s (.j ⟨[(16,.v .bool)],[],[2,3,8],[1000],1384,[]⟩ .z) .z) .z)))) .z))
theorem Sk:aJ 10 (afC n) :=cq (au (JA n) (au (Lf n) aB)) func10 afD n
def afE:co xx:=⟨[.d (.sl .str),.d (.sl .str)],[.d .bool],λa=>J2 n a.1 a.2.1,none⟩
def afF:Hn SI:=(cy (.s (.s .z (.b (.lx ⟨[(5,.v ah)],[],[0,1],[],1448,[]⟩ 0 ⟨[],[],[],[],1448,[]⟩ .z))) .z))
theorem afG:aJ 19 (afE n) :=cq aB func19 afF n
def ahV:co xx:=⟨[.d (.sl (.st SI.Finding)),.d (.sl (.st SI.Finding))],[.d .bool],λa=>yX n a.1 a.2.1,none⟩
def ahW:Hn SI:=(cy (.s (.s .z (.b (.lx ⟨[(5,.v ah)],[],[0,1],[],1448,[]⟩ 0 ⟨[],[],[],[],1448,[]⟩ (.s .z (.s (.b (.s (.j ⟨[(80,.v .bool)],[],[0,1,5],[],1704,[]⟩ .z) .z)) .z))))) .z))
theorem Yn:aJ 9 (ahV n) :=cq (au (afG n) aB) func9 ahW n
def afH:co xx:=⟨[],[.d .bool],λ_=>C9 n,none⟩
def afI:Hn SI:=(Hi (.s (.j ⟨[(11,.v .bool)],[],[4,5,9,10],[2344,2664,3048],4456,[]⟩ .z) (.s (.j ⟨[(12,.v .bool)],[],[11],[],4456,[]⟩ .z) .z)))
theorem afJ:aJ 5 (afH n) :=cq (au acv (au ahr (au (JA n) (au (acO n) (au (Sk n) (au (Yn n) aB)))))) func5 afI n
def ahX:Hn SI:=(cy (.s (.s .z (.b (.l ⟨[(3,.v ah),(4,.v ah)],[],[1],[1000],1256,[]⟩ 0 ⟨[(3,.v ah)],[],[],[],1256,[]⟩ .z))) .z))
theorem afK(rc:(cu)->J Int)(hr:aJ 24 (Iy rc)):aJ 24 (Iy (EM n rc)) :=cq (au hr aB) func24 ahX n
theorem Sl(n:Nat):∀m,aJ 24 (Iy (vk n m))
 | 0=>An (ni func24 (by kernel_rfl:Tryz.f24.body=some (Tryz.f24.body.getD .skip)) (by kernel_rfl)) (λ _ _ h=>(by cases h)) rfl
 |m+1=>afK n _ (Sl n m)
def ahY:co xx:=⟨[.d (.st SI.Expr)],[.d ah],λa=>Iz n a.1,none⟩
theorem ahZ:aJ 24 (ahY n):=Sl n n
def Zq:co xx:=⟨[.d iO],[.d .bool],λa=>wJ n a.1,none⟩
def Zr:Hn SI:=(.s .z (.s (.s (.j ⟨[(35,.v .bool)],[],[1],[1000],1128,[]⟩ .z) .z) (.s (.s .z (.b (.lx ⟨[(3,.v ah)],[],[1],[1000],1192,[]⟩ 0 ⟨[],[],[1],[1000],1192,[]⟩ .z))) (.s (.s .z (.b (.lx ⟨[(4,.v ah)],[],[1],[1000],1256,[]⟩ 2 ⟨[],[],[1],[1000],1256,[]⟩ (.s .z (.s (.b (.s (.j ⟨[(85,.v .bool)],[],[1,4],[1000],1576,[]⟩ .z) .z)) .z))))) (.s (.s .z (.b (.lx ⟨[(5,.v ah)],[],[1],[1000],1320,[]⟩ 4 ⟨[],[],[1],[1000],1320,[]⟩ .z))) (.s (.s .z (.b (.lx ⟨[(6,.v ah)],[],[1],[1000],1384,[]⟩ 6 ⟨[],[],[1],[1000],1384,[]⟩ .z))) (.s (.s .z (.b (.lx ⟨[(7,.v ah)],[],[1],[1000],1448,[]⟩ 8 ⟨[],[],[],[],1448,[]⟩ .z))) .z)))))))
theorem Zt:aJ 14 (Zq n) :=cq (au (ahZ n) aB) func14 Zr n
def Ui:co xx:=⟨[.d ay],[.d .bool],λa=>vN a.1,none⟩
theorem Uj:aJ 110 Ui :=cq aB func110 .z 0
def acP:co xx:=⟨[.d (.sl ah)],[.fresh ah],λa=>EN n a.1,none⟩
def acQ:Hn SI:=(cy (.s (.s .z (.b (.l ⟨[(3,.o 1192),(4,.v ah)],[(1192,.l ah)],[0],[],1193,[(3,ah)]⟩ 0 ⟨[(3,.o 1192)],[(1192,.l ah)],[],[],1193,[]⟩ (.s .z (.s (.j ⟨[(3,.o 1449)],[(1449,.l ah)],[0,4],[],1450,[]⟩ (.b (.s .z (.s (.b (.l ⟨[(5,.v ah)],[],[0,3,4],[1192],1641,[]⟩ 2 ⟨[(5,.v ah)],[],[0,3,4],[1192],1641,[]⟩ (.s (.s (.j ⟨[(28,.v .bool)],[],[0,3,4,5],[1192],1641,[]⟩ .z) .z) .z))) (.s (.s (.j ⟨[(44,.v .bool)],[],[0,3,4,5],[1192],1641,[]⟩ .z) .z) (.s .z (.s (.s .z (.b (.l ⟨[(6,.v ah)],[(1769,.l ah)],[0,3,4,5],[],2153,[]⟩ 4 ⟨[],[(1769,.l ah)],[0,3,4,5],[],2153,[]⟩ .z))) .z))))))) .z))))) .z))
theorem acR:aJ 217 (acP n) :=cq aB func217 acQ n
def afL:co xx:=⟨[.d (.sl ay),.d (.sl ay)],[.fresh ah],λa=>J3 n a.1 a.2.1,none⟩
def afM:Hn SI:=(cy (.s (.s .z (.b (.l ⟨[(5,.o 1192),(6,.v ah)],[(1192,.l ah)],[0,1],[],1193,[(5,ah)]⟩ 0 ⟨[(5,.o 1192)],[(1192,.l ah)],[1],[],1193,[]⟩ .z))) (.s (.s .z (.b (.l ⟨[(5,.o 1257),(7,.v ah)],[(1257,.l ah)],[1],[],1258,[]⟩ 2 ⟨[(5,.o 1257)],[(1257,.l ah)],[],[],1258,[]⟩ .z))) .z)))
theorem afN:aJ 166 (afL n) :=cq (au (acR n) aB) func166 afM n
def acS:co xx:=⟨[.d (.sl ay),.d ah],[.fresh ah],λa=>yY n a.1 a.2.1,none⟩
def acT:Hn SI:=(gp (.s (.s .z (.b (.l ⟨[(5,.o 1256),(6,.o 1257),(7,.v ah)],[(1256,.l ah),(1257,.l ah)],[0,1],[],1258,[(5,ah),(6,ah)]⟩ 0 ⟨[(5,.o 1256),(6,.o 1257)],[(1256,.l ah),(1257,.l ah)],[],[],1258,[]⟩ (.s .z (.s (.j ⟨[(5,.o 1514),(6,.o 1515)],[(1514,.l ah),(1515,.l ah)],[0,1,7],[],1516,[]⟩ (.b (.s (.s (.j ⟨[(32,.v .bool)],[],[0,1,5,6,7],[1256,1257],1514,[]⟩ .z) .z) (gp (.s (.b (.l ⟨[(8,.v ah)],[(1834,.l ah),(2090,.l ah)],[0,1,5,6,7],[],2218,[]⟩ 2 ⟨[(8,.v ah)],[(1834,.l ah),(2090,.l ah)],[0,1,5,6,7],[],2218,[]⟩ (.s (.s (.j ⟨[(55,.v .bool)],[],[0,1,5,6,7,8],[1834,2090],2218,[]⟩ .z) .z) .z))) .z))))) .z))))) (.s .z (.s (.s .z (.b (.l ⟨[(9,.o 1386),(10,.v ah)],[(1386,.l ah)],[5,6],[1256,1257],1387,[(9,ah)]⟩ 4 ⟨[(9,.o 1386)],[(1386,.l ah)],[],[],1387,[]⟩ (.s .z (.s (.j ⟨[(9,.o 1643)],[(1643,.l ah)],[5,6,10],[1256,1257],1644,[]⟩ (.b (.s (.s (.j ⟨[(111,.v .bool)],[],[5,6,9,10],[1256,1257,1386],1643,[]⟩ .z) .z) .z))) .z))))) .z))))
theorem acU:aJ 168 (acS n) :=cq aB func168 acT n
def Zu:co xx:=⟨[.d (.sl ah),.d (.sl ah),.d ah],[.fresh ah],λa=>AA n a.1 a.2.1 a.2.2.1,none⟩
def Zv:Hn SI:=(wx (.s (.b (.l ⟨[(7,.o 1320),(8,.v ah),(9,.v ah),(10,.v .bool)],[(1320,.l ah)],[0,1,2],[],1321,[(7,ah)]⟩ 0 ⟨[(7,.o 1320)],[(1320,.l ah)],[],[],1321,[]⟩ (.s (.s (.j ⟨[(24,.v .bool)],[],[0,1,2,7,8,9,10],[1320],1321,[]⟩ .z) .z) (.b (.s .z (.s (.j ⟨[(11,.v ah)],[],[0,1,2,7,8,9,10],[1320],1385,[]⟩ (.s (.j ⟨[(49,.v .bool)],[],[0,1,2,7,8,9,10],[1320],1385,[]⟩ .z) .z)) (.s (.j ⟨[(8,.v ah)],[],[0,1,2,7,9,10,11],[1320],1385,[]⟩ (.s (.j ⟨[(69,.v .bool)],[],[0,1,2,7,8,9,10,11],[1320],1385,[]⟩ .z) .z)) (.s (.j ⟨[(9,.v ah)],[],[0,1,2,7,8,10,11],[1320],1385,[]⟩ (.s (.j ⟨[(83,.v .bool)],[],[0,1,2,7,8,9,10,11],[1320],1385,[]⟩ .z) .z)) (cy (.s (.j ⟨[(14,.v .bool)],[],[0,1,2,7,8,9,10,11,12,13],[1320],1897,[]⟩ .z) (.s (.j ⟨[(14,.v .bool)],[],[0,1,2,7,8,9,10,11,12,13],[1320],1897,[]⟩ .z) (.s (.j ⟨[(14,.v .bool)],[],[0,1,2,7,8,9,10,11],[1320],1897,[]⟩ .z) (.s (.j ⟨[(7,.o 1897)],[(1897,.l ah)],[0,1,2,8,9,14],[],1898,[]⟩ .z) .z))))))))))))) .z))
theorem Zw:aJ 167 (Zu n) :=cq aB func167 Zv n
def ah0:co xx:=⟨[.d (.sl ah),.d (.sl ah)],[.d .bool],λa=>NY n a.1 a.2.1,none⟩
def ah1:Hn SI:=(cy (.s (.s .z (.b (.lx ⟨[(5,.v ah)],[],[0,1],[],1448,[]⟩ 0 ⟨[],[],[],[],1448,[]⟩ .z))) .z))
theorem ah2:aJ 169 (ah0 n) :=cq aB func169 ah1 n
def ah3:co xx:=⟨[.d (.sl ay),.d (.sl ay),.d ah],[.fresh ay],λa=>NZ n a.1 a.2.1 a.2.2.1,none⟩
def ah4:Hn SI:=(wx (.s (.s .z (.b (.l ⟨[(7,.o 1576),(9,.o 1577),(10,.v ah),(11,.v ah)],[(1576,.l ay),(1577,.l ah)],[0,1,2,8],[1256],1578,[(7,ay),(9,ah)]⟩ 0 ⟨[(7,.o 1576)],[(1576,.l ay)],[],[],1577,[]⟩ (.s .z (.s (.j ⟨[(7,.o 1898),(9,.o 1899),(10,.v ah)],[(1898,.l ay),(1899,.l ah)],[0,1,2,8,11],[1256],1900,[]⟩ (.b (.s .z (.s (.s (.j ⟨[(50,.v .bool)],[],[0,1,2,7,8,9,10,11,12],[1256,1576,1577,2730],2858,[]⟩ .z) (.s (.s (.s .z (.b (.l ⟨[(13,.v ah)],[(1576,.l ay)],[0,1,2,7,8,9,10,11],[1256,1577],2986,[]⟩ 2 ⟨[],[(1576,.l ay)],[0,1,2,7,8,9,10,11],[1256,1577],2986,[]⟩ .z))) .z) .z)) (gp (.b (.l ⟨[(7,.o 3242),(14,.v ah)],[(3242,.l ay)],[0,1,2,8,9,10,11,12],[1256,2730],3243,[]⟩ 4 ⟨[(7,.o 3242)],[(3242,.l ay)],[0,1,2,8,9,10,11],[1256,2730],3243,[]⟩ .z))))))) .z))))) .z))
theorem ah5:aJ 111 (ah3 n) :=cq (au (afN n) (au (acU n) (au (Zw n) (au (ah2 n) aB)))) func111 ah4 n
def anq:co xx:=⟨[.d (.sl ay)],[.fresh ay,.d ah],λa=>PH n a.1,none⟩
def anr:Hn SI:=(.s .z (.s (.s .z (.b (.lx ⟨[(4,.v ah)],[],[0],[],1192,[]⟩ 0 ⟨[],[],[0],[],1192,[]⟩ .z))) .z))
theorem ant:aJ 68 (anq n) :=cq (au Uj (au (ah5 n) aB)) func68 anr n
def ah6:co xx:=⟨[.d (.sl ay),.d (.sl ay)],[.d .bool],λa=>N7 n a.1 a.2.1,none⟩
def ah7:Hn SI:=(cy (.s (.s .z (.b (.lx ⟨[(5,.v ah)],[],[0,1],[],1448,[]⟩ 0 ⟨[],[],[],[],1448,[]⟩ .z))) .z))
theorem ah8:aJ 69 (ah6 n) :=cq aB func69 ah7 n
def afO:co xx:=⟨[.d (.sl ay)],[.d .bool],λa=>J5 n a.1,none⟩
theorem afP:aJ 42 (afO n) :=cq (au (ant n) (au (ah8 n) aB)) func42 .z n
def acV:co xx:=⟨[.d (.sl ay)],[.d ay,.d .bool],λa=>EP n a.1,none⟩
def acW:Hn SI:=(.s .z (.s (.s (.j ⟨[(13,.v .bool)],[],[0,2],[1000],1128,[]⟩ .z) .z) (.s .z (.s (.s .z (.b (.l ⟨[(5,.v ah)],[(1320,u9)],[0,2,4],[1000],1512,[]⟩ 0 ⟨[],[(1320,u9)],[2,4],[1000],1512,[]⟩ .z))) .z))))
theorem acX:aJ 25 (acV n) :=cq (au (afP n) aB) func25 acW n
def acY:co xx:=⟨[.d gG],[.d .bool],λa=>EQ n a.1,none⟩
theorem acZ:aJ 15 (acY n) :=cq (au (acX n) aB) func15 .z n
def akW:co xx:=⟨[.d (.st SI.il)],[.d .bool],λa=>Uz n a.1,none⟩
def akX:Hn SI:=(.s .z (.s (.s (.j ⟨[(26,.v .bool)],[],[1],[1000],1128,[]⟩ .z) .z) (.s (.s .z (.b (.lx ⟨[(3,.v ah)],[],[1],[1000],1192,[]⟩ 0 ⟨[],[],[1],[1000],1192,[]⟩ .z))) (.s (.s .z (.b (.lx ⟨[(4,.v ah)],[],[1],[1000],1256,[]⟩ 2 ⟨[],[],[],[],1256,[]⟩ .z))) .z))))
theorem akY:aJ 6 (akW n) :=cq (au (Zt n) (au (acZ n) aB)) func6 akX n
def Yo:co xx:=⟨[.d (.st SI.il),.d ah,.d ah],[.d .bool],λa=>um n a.1 a.2.1 a.2.2.1,none⟩
def Yp:Hn SI:=(cy (.s (.s (.j ⟨[(33,.v .bool)],[],[1,2,3,7],[1000],1256,[]⟩ .z) .z) (gp (.s (.j ⟨[(11,.v ah)],[],[1,2,3,7,8],[1000,1384],2152,[]⟩ .z) (sR (.s (.s (.j ⟨[(106,.v .bool)],[],[1,3,7,8,12],[1000,1384],3432,[]⟩ .z) .z) .z))))))
theorem Yq:aJ 3 (Yo n) :=cq (au (afJ n) (au (akY n) (au (JA n) (au (Lf n) (au (Yn n) (au (Sk n) aB)))))) func3 Yp n
end
end Go.Proofs
