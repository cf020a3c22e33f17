import Derived.Test.YtnkhciolifefdaaGreatTC1
namespace Go.Proofs
open Go.Gb Go.RowKit
open Tryz
noncomputable section
variable (n:Nat)
def Ce:dg xx:=⟨[.p 0],[(0,ft),(1,.l aI)],[.v ah],[(0,ft),(1,.l aI)],λv=>jM n v.1 v.2.1 v.2.2.1 v.2.2.2.1 v.2.2.2.2.1 v.2.2.2.2.2.1 v.2.2.2.2.2.2.1 v.2.2.2.2.2.2.2.1 v.2.2.2.2.2.2.2.2.1 v.2.2.2.2.2.2.2.2.2⟩
def Cf:cp xx:=⟨[],[.d .bool],λ_=>none,some (Ce n)⟩
theorem Cg:aL 140 (Cf n) :=oE (au (zL n) aD) func140 .z n (by kernel_rfl) λ_=>by kernel_rfl
def GQ:dg xx:=⟨[.p 0,(.f 197 [] [])],[(0,ft),(1,.l aI)],[.v ah],[(0,ft),(1,.l aI)],λv=>qE n v.1 v.2.1 v.2.2.1 v.2.2.2.1 v.2.2.2.2.1 v.2.2.2.2.2.1 v.2.2.2.2.2.2.1 v.2.2.2.2.2.2.2.1 v.2.2.2.2.2.2.2.2.1 v.2.2.2.2.2.2.2.2.2⟩
def GR:cp xx:=⟨[],[.d .bool],λ_=>none,some (GQ n)⟩
def GU:Hn SI:=(cy (.s (.s .z (.b (.l ⟨[(5,.v ah),(13,.v ah)],[],[1,11,12],[0,1],1512,[]⟩ 0 ⟨[(5,.v ah)],[],[],[0,1],1512,[]⟩ .z))) .z))
theorem GV:aL 192 (GR n) :=oE (au Dx aD) func192 GU n (by kernel_rfl) λ_=>by kernel_rfl
def DR:dg xx:=⟨[.p 0],[(0,ft),(1,.l aI)],[.v ah],[(0,ft),(1,.l aI)],λv=>kL n v.1 v.2.1 v.2.2.1 v.2.2.2.1 v.2.2.2.2.1 v.2.2.2.2.2.1 v.2.2.2.2.2.2.1 v.2.2.2.2.2.2.2.1 v.2.2.2.2.2.2.2.2.1 v.2.2.2.2.2.2.2.2.2⟩
def DT:cp xx:=⟨[],[.d .bool],λ_=>none,some (DR n)⟩
theorem DU:aL 141 (DT n) :=oE (au (GV n) aD) func141 .z n (by kernel_rfl) λ_=>by kernel_rfl
def Ch:dg xx:=⟨[.p 0,.v aB,.v ah],[(0,ft),(1,.l aI)],[.v .bool],[(0,ft),(1,.l aI)],λv=>jO n v.1 v.2.1 v.2.2.1 v.2.2.2.1 v.2.2.2.2.1 v.2.2.2.2.2.1 v.2.2.2.2.2.2.1 v.2.2.2.2.2.2.2.1 v.2.2.2.2.2.2.2.2.1 v.2.2.2.2.2.2.2.2.2.1 v.2.2.2.2.2.2.2.2.2.2.1 v.2.2.2.2.2.2.2.2.2.2.2⟩
def Ci:cp xx:=⟨[],[.d .bool],λ_=>none,some (Ch n)⟩
def Cj:Hn SI:=(tR (.s (.s .z (.b (.l ⟨[(9,.v ah),(27,.v ah)],[],[7,25,26],[0,1,1512],2280,[]⟩ 0 ⟨[(9,.v ah)],[],[7],[0,1,1512],2280,[]⟩ (cy (.s (.j ⟨[(9,.v ah)],[],[7,25,26,27],[0,1,1512],2344,[]⟩ .z) .z))))) .z))
theorem Ck:aL 198 (Ci n) :=oE (au TY (au BQ (au zC aD))) func198 Cj n (by kernel_rfl) λ_=>by kernel_rfl
def zR:dg xx:=⟨[.p 0],[(0,ft),(1,.l aI)],[.v ah],[(0,ft),(1,.l aI)],λv=>jl n v.1 v.2.1 v.2.2.1 v.2.2.2.1 v.2.2.2.2.1 v.2.2.2.2.2.1 v.2.2.2.2.2.2.1 v.2.2.2.2.2.2.2.1 v.2.2.2.2.2.2.2.2.1 v.2.2.2.2.2.2.2.2.2⟩
def zS:cp xx:=⟨[],[.d .bool],λ_=>none,some (zR n)⟩
def zT:Hn SI:=(cy (.s (.s .z (.b (.l ⟨[(3,.v ah),(14,.v ah)],[(0,ft),(1,.l aI)],[0,12,13],[],1512,[]⟩ 0 ⟨[(3,.v ah)],[(0,ft),(1,.l aI)],[],[],1512,[]⟩ (cy (.s (.b (cy (.s (.b (.l ⟨[(6,.v ah),(7,.v ah)],[(0,ft),(1,.l aI)],[0,5,12,13,14],[1704],2024,[]⟩ 2 ⟨[(6,.v ah)],[(0,ft),(1,.l aI)],[0,12,13,14],[],2024,[]⟩ .z)) .z))) .z))))) .z))
theorem zU:aL 142 (zS n) :=oE (au (Ck n) aD) func142 zT n (by kernel_rfl) λ_=>by kernel_rfl
def xB:dg xx:=⟨[.v aI,.p 0],[(0,.c 1 [[.p 1]]),(1,tP),(2,.l aI)],[.v ah],[(0,.c 1 [[.p 1]]),(1,tP),(2,.l aI)],λv=>kG n v.1 v.2.1 v.2.2.1 v.2.2.2.1 v.2.2.2.2.1 v.2.2.2.2.2.1 v.2.2.2.2.2.2.1 v.2.2.2.2.2.2.2.1 v.2.2.2.2.2.2.2.2.1 v.2.2.2.2.2.2.2.2.2.1 v.2.2.2.2.2.2.2.2.2.2⟩
def xC:cp xx:=⟨[],[.d .bool],λ_=>none,some (xB n)⟩
theorem xD:aL 199 (xC n) :=oE (au (Pg n) aD) func199 .z n (by kernel_rfl) λ_=>by kernel_rfl
def GX:dg xx:=⟨[.p 0,(.f 199 [] [.p 1])],[(0,tP),(1,.c 1 [[.p 0]]),(2,.l aI)],[.v ah],[(0,tP),(1,.c 1 [[.p 0]]),(2,.l aI)],λv=>qF n v.1 v.2.1 v.2.2.1 v.2.2.2.1 v.2.2.2.2.1 v.2.2.2.2.2.1 v.2.2.2.2.2.2.1 v.2.2.2.2.2.2.2.1 v.2.2.2.2.2.2.2.2.1 v.2.2.2.2.2.2.2.2.2⟩
def GY:cp xx:=⟨[],[.d .bool],λ_=>none,some (GX n)⟩
def GZ:Hn SI:=(cy (.s (.s .z (.b (.l ⟨[(5,.v ah),(13,.v ah)],[(0,tP),(1,.c 1 [[.p 0]]),(2,.l aI)],[1,11,12],[],1512,[]⟩ 0 ⟨[(5,.v ah)],[(0,tP),(1,.c 1 [[.p 0]]),(2,.l aI)],[],[],1512,[]⟩ .z))) .z))
theorem G5:aL 192 (GY n) :=oE (au (xD n) aD) func192 GZ n (by kernel_rfl) λ_=>by kernel_rfl
def zV:dg xx:=⟨[.p 0],[(0,ft),(1,.l aI)],[.v ah],[(0,ft),(1,.l aI)],λv=>jm n v.1 v.2.1 v.2.2.1 v.2.2.2.1 v.2.2.2.2.1 v.2.2.2.2.2.1 v.2.2.2.2.2.2.1 v.2.2.2.2.2.2.2.1 v.2.2.2.2.2.2.2.2.1 v.2.2.2.2.2.2.2.2.2⟩
def zW:cp xx:=⟨[],[.d .bool],λ_=>none,some (zV n)⟩
theorem zX:aL 143 (zW n) :=oE (au (G5 n) aD) func143 .z n (by kernel_rfl) λ_=>by kernel_rfl
def acG:cp xx:=⟨[.d iQ,.d fM,.d (.st SI.ej)],[.fresh (.st SI.Entry)],λa=>kH n a.1 a.2.1 a.2.2.1,none⟩
def acH:Hn SI:=(cy (.s (.j ⟨[],[(1384,.c 10 [[.v (.sl bH),.v (.sl bB),.v (.sl bJ),.v (.sl bC),.v (.sl bR),.v (.sl bL),.v (.sl bg),.v ah,.v (.sl aB),.nil]])],[5,7],[1128],1512,[]⟩ .z) (.s (.s .z (.b (.l ⟨[(31,.v ah)],[(1384,.c 10 [[.v (.sl bH),.v (.sl bB),.v (.sl bJ),.v (.sl bC),.v (.sl bR),.v (.sl bL),.v (.sl bg),.v ah,.v (.sl aB),.o 1960]]),(1960,.l aI)],[7,29,30],[1768],1961,[(6668873,aI)]⟩ 0 ⟨[],[(1384,.c 10 [[.v (.sl bH),.v (.sl bB),.v (.sl bJ),.v (.sl bC),.v (.sl bR),.v (.sl bL),.v (.sl bg),.v ah,.v (.sl aB),.o 1960]]),(1960,.l aI)],[7],[],1961,[]⟩ (cy (.s (.j ⟨[],[(1384,.c 10 [[.v (.sl bH),.v (.sl bB),.v (.sl bJ),.v (.sl bC),.v (.sl bR),.v (.sl bL),.v (.sl bg),.v ah,.v (.sl aB),.o 2025]]),(2025,.l aI)],[7,29,30,31],[1768],2026,[]⟩ (.b (.s .z (.s (.j ⟨[(41,.v .bool)],[],[7,9,29,30,31],[1384,1768,1960,2217],2409,[]⟩ .z) .z)))) .z))))) (cy (.s (.s .z (.b (.un .z (.un .z (.un .z (.un .z (.un .z (.un .z (.un .z (.un .z (.un .z (.un .z .z)))))))))))) .z)))))
theorem acI:aL 92 (acG n) :=cq (au (pQ n) (au (AZ n) (au kN (au (GI n) (au (DI n) (au (DL n) (au (Cc n) (au (Cg n) (au (DU n) (au (zU n) (au (zX n) aD))))))))))) func92 acH n
def ahV:cp xx:=⟨[.d ah],[.d ah,.d .bool],λa=>y8 a.1,none⟩
def ahW:Hn SI:=(.s .z (.s (.s .z (.b (.s (.j ⟨[(5,.v .bool)],[],[0,4],[],1192,[]⟩ .z) (.s .z (.s (.j ⟨[(10,.v .bool)],[],[0,4],[],1192,[]⟩ .z) .z))))) .z))
theorem ahX:aL 228 ahV :=cq aD func228 ahW 0
def aft:Hn SI:=(cy (.s (.s (.j ⟨[(28,.v .bool)],[],[1,2],[1000],1640,[]⟩ .z) .z) (.s .z (.s (.s .z (.b (.l ⟨[(7,.v ah),(32,.v ah)],[],[1,30,31],[],1960,[]⟩ 0 ⟨[(7,.v ah)],[],[],[],1960,[]⟩ .z))) .z))))
theorem acJ(rc:(cK)->(Int)->J Int)(hr:aL 186 (EM rc)):aL 186 (EM (Ar n rc)) :=cq (au ahX (au hr aD)) func186 aft n
theorem Ph(n:Nat):∀m,aL 186 (EM (sM n m))
 | 0=>z7 (nu func186 (by kernel_rfl:Tryz.f186.body=some (Tryz.f186.body.getD .skip)) (by kernel_rfl)) (λ _ _ h=>(by cases h)) rfl
 |m+1=>acJ n _ (Ph n m)
def afu:cp xx:=⟨[.d (.st SI.Expr),.d ah],[.d ah],λa=>Qm n a.1 a.2.1,none⟩
theorem afv:aL 186 (afu n):=Ph n n
def ahY:cp xx:=⟨[.d (.st SI.Expr)],[.d .bool],λa=>IK n a.1,none⟩
theorem Yk:aL 131 (ahY n) :=cq (au (afv n) aD) func131 .z n
def KN:cp xx:=⟨[.d bB,.ref (.st SI.Expr)],[.d .bool],λa=>Au a.1 a.2.1,none⟩
theorem KO:aL 230 KN :=cq aD func230 .z 0
def JC:cp xx:=⟨[.d (.sl bB),.eo [bB] .bool],[.d ah],λa=>rR n a.1 a.2.1,none⟩
def JD:Hn SI:=(.s .z (.s (.s .z (.b (.lx ⟨[(8,.v ah)],[],[0,1,7],[],1256,[]⟩ 0 ⟨[],[],[],[],1256,[]⟩ .z))) .z))
theorem JE:aL 229 (JC n) :=cq aD func229 JD n
def KP:cp xx:=⟨[.d (.st SI.Entry),.ref (.st SI.Expr)],[.d .bool],λa=>Av a.1 a.2.1,none⟩
theorem KQ:aL 232 KP :=cq aD func232 .z 0
def anm:cp xx:=⟨[.d .bool],[.d ah],λa=>y9 a.1,none⟩
theorem afw:aL 188 anm :=cq aD func188 .z 0
def Zn:cp xx:=⟨[.d ah,.d ah],[.d ah],λa=>wN a.1 a.2.1,none⟩
def Zo:Hn SI:=(gC (.s (.j ⟨[(5,.v ah)],[],[],[],1448,[]⟩ (.s .z (.s (.j ⟨[(23,.v .bool)],[],[5],[],1704,[]⟩ .z) .z))) .z))
theorem Zp:aL 233 Zn :=cq aD func233 Zo 0
def afx:cp xx:=⟨[.d ah,.d ah,.d ah],[.d ah],λa=>Kh a.1 a.2.1 a.2.2.1,none⟩
theorem afy:aL 189 afx :=cq (au Zp (au afw aD)) func189 .z 0
def KR:dg xx:=⟨[(.a [.v (.sl bH),.v (.sl bB),.v (.sl bJ),.v (.sl bC),.v (.sl bR),.v (.sl bL),.v (.sl bg),.v ah,.mp 0,.v (.sl .str)]),.v (.st SI.Expr)],[(0,.m .str ah)],[.v ah],[(0,.m .str ah)],λv=>jo n v.1 v.2.1 v.2.2.1 v.2.2.2.1 v.2.2.2.2.1 v.2.2.2.2.2.1 v.2.2.2.2.2.2.1 v.2.2.2.2.2.2.2.1 v.2.2.2.2.2.2.2.2.1 v.2.2.2.2.2.2.2.2.2.1 v.2.2.2.2.2.2.2.2.2.2⟩
def KS:cp xx:=⟨[],[.d .bool],λ_=>none,some (KR n)⟩
theorem KT:aL 187 (KS n) :=oE (au (JE n) (au KO (au (wW n) (au KQ aD)))) func187 .z n (by kernel_rfl) λ_=>by kernel_rfl
def G6:Hn SI:=(cy (.s (.s .z (.b (.l ⟨[(5,.o 1512),(11,.v ah)],[(0,.m .str ah),(1512,.l ah)],[2,3,9,10],[1000,1064],1513,[(5,ah)]⟩ 0 ⟨[(5,.o 1512)],[(0,.m .str ah),(1512,.l ah)],[2,3],[1000,1064],1513,[]⟩ (cy (.s (.j ⟨[(5,.o 1577)],[(0,.m .str ah),(1577,.l ah)],[2,3,9,10,11],[1000,1064],1578,[]⟩ (.b (.s .z (.s (.s (.j ⟨[(31,.v .bool)],[],[2,3,5,7,9,10,11],[0,1000,1064,1512,1769],1961,[]⟩ .z) .z) .z)))) .z))))) .z))
theorem FH(rc:((List eT))->((List dx))->((List dN))->((List bK))->((List gD))->((List fA))->((List cZ))->(Int)->((List ByteArray))->(cK)->((List (ByteArray×Int)))->J (Int×(List (ByteArray×Int))))(hr:aL 133 (jQ rc)):aL 133 (jQ (fH n rc)) :=oE (au hr (au (KT n) (au (pR n) (au afw (au afy aD))))) func133 G6 n (by kernel_rfl) λ_=>by kernel_rfl
theorem uL(n:Nat):∀m,aL 133 (jQ (dh n m))
 | 0=>M2 (nu func133 (by kernel_rfl:Tryz.f133.body=some (Tryz.f133.body.getD .skip)) (by kernel_rfl)) (λ _ _ h=>(by cases h))
 |m+1=>FH n _ (uL n m)
def G7:cp xx:=jQ (dh n n)
theorem uS:aL 133 (G7 n):=uL n n
def T9:dg xx:=⟨[.v iQ,(.v (.sl (.st SI.Entry))),.v (.sl .str)],[],[(.a [.v (.sl bH),.v (.sl bB),.v (.sl bJ),.v (.sl bC),.v (.sl bR),.v (.sl bL),.v (.sl bg),.v ah,.mp 1000,.v (.sl .str)]),.o 1001],[(1000,.m .str ah),(1001,.l ah)],λv=>mH n v.1 v.2.1 v.2.2⟩
def Ua:cp xx:=⟨[],[.d .bool],λ_=>none,some (T9 n)⟩
def Ub:Hn SI:=(gC (.s (.s .z (.b (.l ⟨[(26,.v ah)],[(1256,.m .str ah),(1576,.m .str .bool)],[3,6,8,9,24,25],[1000,1064,1448],1896,[]⟩ 0 ⟨[],[(1256,.m .str ah),(1576,.m .str .bool)],[3,6,8,9],[1000,1064,1448],1896,[]⟩ (cy (.s (.j ⟨[],[(1256,.m .str ah),(1576,.m .str .bool)],[3,6,8,9,24,25,26],[1000,1064,1448],1960,[]⟩ .z) .z))))) (gC (.s (.s .z (.b (.l ⟨[(61,.v ah)],[(1256,.m .str ah),(2088,.l ah)],[3,6,8,9,12,59,60],[1000,1064,1448,1576,2280],3112,[]⟩ 2 ⟨[],[(1256,.m .str ah),(2088,.l ah)],[6,8,12],[1064,1448],3112,[]⟩ (cy (.s (.j ⟨[],[(1256,.m .str ah),(2088,.l ah)],[3,6,8,9,12,59,60,61],[1000,1064,1448,1576,2280],3176,[]⟩ (.b (cy (.s (.j ⟨[],[(1256,.m .str ah),(2088,.l ah)],[3,6,8,9,12,17,18,59,60,61],[1000,1064,1448,1576,2280,3688],3816,[]⟩ .z) .z)))) .z))))) .z))))
theorem Uc:aL 132 (Ua n) :=oE (au (Jt n) (au (Yk n) (au (uS n) aD))) func132 Ub n (by kernel_rfl) λ_=>by kernel_rfl
def akW:cp xx:=⟨[.d iQ,.d (.sl (.st SI.Entry)),.d (.sl .str),.d (.st SI.Expr)],[.d ah],λa=>xX n a.1 a.2.1 a.2.2.1 a.2.2.2.1,none⟩
theorem akX:aL 91 (akW n) :=cq (au (Yk n) (au (Uc n) (au (uS n) aD))) func91 .z n
def Yl:cp xx:=⟨[.d aI],[.fresh (.st SI.ll)],λa=>xY a.1,none⟩
theorem JF:aL 61 Yl :=cq aD func61 .z 0
def JG:cp xx:=⟨[.d (.sl (.st SI.gz)),.eo [.st SI.gz] .bool],[.d ah],λa=>rT n a.1 a.2.1,none⟩
def JH:Hn SI:=(.s .z (.s (.s .z (.b (.lx ⟨[(8,.v ah)],[],[0,1,7],[],1256,[]⟩ 0 ⟨[],[],[],[],1256,[]⟩ .z))) .z))
theorem JI:aL 237 (JG n) :=cq aD func237 JH n
def DW:cp xx:=⟨[.d (.sl (.st SI.gz)),.eo [.st SI.gz] .bool],[.d .bool],λa=>kM n a.1 a.2.1,none⟩
theorem DX:aL 201 (DW n) :=cq (au (JI n) aD) func201 .z n
def Ym:cp xx:=⟨[.d ah,.d ah,.d ah],[.d .bool],λa=>nQ a.1 a.2.1 a.2.2.1,none⟩
theorem Yn:aL 238 Ym :=cq aD func238 .z 0
def Zq:cp xx:=⟨[.d (.st SI.gz)],[.d .bool],λa=>Aw a.1,none⟩
theorem Zr:aL 203 Zq :=cq (au Yn aD) func203 .z 0
def Rc:cp xx:=⟨[.d (.st SI.gz)],[.d .bool],λa=>uf a.1,none⟩
theorem Rf:aL 202 Rc :=cq (au Zr aD) func202 .z 0
def Zt:cp xx:=⟨[.d aB,.d (.sl (.st SI.gz))],[.d .bool],λa=>Ay n a.1 a.2.1,none⟩
theorem Zu:aL 144 (Zt n) :=cq (au oP (au (DX n) (au Rf aD))) func144 .z n
def akY:cp xx:=⟨[.d (.sl aB),.d (.sl aB)],[.d .bool],λa=>UE n a.1 a.2.1,none⟩
theorem akZ:aL 151 (akY n) :=cq (au (F3 n) aD) func151 .z n
def ahZ:cp xx:=⟨[.d (.sl (.st SI.ll))],[.d .bool],λa=>IL n a.1,none⟩
def ah0:Hn SI:=(cy (.s (.s .z (.b (.lx ⟨[(11,.v ah)],[],[0,9,10],[],1448,[]⟩ 0 ⟨[],[],[],[],1448,[]⟩ (cy (.s (.jx ⟨[],[],[0,9,10,11],[],1512,[]⟩ (.b (.s .z (.s (.s (.j ⟨[(42,.v .bool)],[],[0,3,4,9,10,11],[1704],1896,[]⟩ .z) .z) (cy (.s (.j ⟨[(68,.v .bool)],[],[0,9,10,11],[],2472,[]⟩ .z) .z)))))) .z))))) .z))
theorem Yo:aL 99 (ahZ n) :=cq (au (pQ n) (au (akZ n) aD)) func99 ah0 n
def Pj:cp xx:=⟨[.d aB,.d ah,.d ah],[.d (.st SI.nb)],λa=>xu a.1 a.2.1 a.2.2.1,none⟩
theorem Pk:aL 239 Pj :=cq aD func239 .z 0
def Rh:cp xx:=⟨[.d ah,.d ah],[.d ah],λa=>ug a.1 a.2.1,none⟩
def Ri:Hn SI:=(cy (.s (.j ⟨[(5,.v ah)],[],[],[],1320,[]⟩ .z) .z))
theorem Rj:aL 240 Rh :=cq aD func240 Ri 0
def afz:cp xx:=⟨[.d aB,.d (.sl (.st SI.gz)),.d ah,.d ah],[.d ah],λa=>Ki n a.1 a.2.1 a.2.2.1 a.2.2.2.1,none⟩
def afA:Hn SI:=(gC (.s (.s .z (.b (.l ⟨[(9,.v ah),(19,.v ah)],[],[10,17,18],[1448],1768,[]⟩ 0 ⟨[(9,.v ah)],[],[],[],1768,[]⟩ .z))) .z))
theorem afB:aL 204 (afz n) :=cq (au Pk (au Rj aD)) func204 afA n
def Yp:cp xx:=⟨[.d aB,.d (.sl (.st SI.gz)),.d (.sl aB)],[.d ah],λa=>yc n a.1 a.2.1 a.2.2.1,none⟩
def Yq:Hn SI:=(cy (.s (.s .z (.b (.l ⟨[(7,.v ah),(16,.v ah)],[],[1,3,14,15],[1000],1384,[]⟩ 0 ⟨[(7,.v ah)],[],[],[],1384,[]⟩ (cy (.s (.b (cy (.b (.l ⟨[(7,.v ah),(27,.v ah)],[],[1,3,9,14,15,16,25,26],[1000,1576,2024],2216,[]⟩ 2 ⟨[(7,.v ah)],[],[1,3,14,15,16],[1000],2216,[]⟩ (cy (.s (.b (cy (.b (.l ⟨[(7,.v ah),(38,.v ah)],[],[1,3,9,11,14,15,16,25,26,27,36,37],[1000,1576,2024,2792],2984,[]⟩ 4 ⟨[(7,.v ah)],[],[1,3,9,14,15,16,25,26,27],[1000,1576,2024],2984,[]⟩ .z)))) .z)))))) .z))))) .z))
theorem Yr:aL 146 (Yp n) :=cq (au (afB n) aD) func146 Yq n
def Pm:cp xx:=⟨[.d (.st SI.ll),.ref aB,.ref (.sl (.st SI.gz))],[.d .bool],λa=>rF n a.1 a.2.1 a.2.2.1,none⟩
theorem Pn:aL 145 (Pm n) :=cq (au (Yr n) aD) func145 .z n
def KU:cp xx:=⟨[.d (.sl (.st SI.ll)),.eo [.st SI.ll] .bool],[.d ah],λa=>uh n a.1 a.2.1,none⟩
def KV:Hn SI:=(.s .z (.s (.s .z (.b (.lx ⟨[(8,.v ah)],[],[0,1,7],[],1256,[]⟩ 0 ⟨[],[],[],[],1256,[]⟩ .z))) .z))
theorem KW:aL 152 (KU n) :=cq aD func152 KV n
def FI:cp xx:=⟨[.d (.sl (.st SI.ll)),.eo [.st SI.ll] .bool],[.d .bool],λa=>ja n a.1 a.2.1,none⟩
theorem uM:aL 100 (FI n) :=cq (au (KW n) aD) func100 .z n
def Yt:cp xx:=⟨[.d aB,.d (.sl (.st SI.gz)),.d (.sl (.st SI.ll))],[.d .bool],λa=>yg n a.1 a.2.1 a.2.2.1,none⟩
def Yu:Hn SI:=(.s .z (.s (.s (.j ⟨[(15,.v .bool)],[],[2,3,4],[1000,1064],1192,[]⟩ .z) .z) .z))
theorem Yv:aL 94 (Yt n) :=cq (au (Zu n) (au (Yo n) (au (uM n) (au (Pn n) aD)))) func94 Yu n
def Cm:cp xx:=⟨[.d aI,.ref aB,.ref bC],[.d .bool],λa=>jR n a.1 a.2.1 a.2.2.1,none⟩
theorem Cn:aL 93 (Cm n) :=cq (au JF (au (Yv n) aD)) func93 .z n
def ME:cp xx:=⟨[.d (.st SI.ky),.eo [aI] .bool],[.d .bool],λa=>gP n a.1 a.2.1,none⟩
theorem zM:aL 58 (ME n) :=cq (au (qZ n) aD) func58 .z n
def Co:cp xx:=⟨[.d aI,.ref bC],[.d .bool],λa=>jS a.1 a.2.1,none⟩
theorem Cq:aL 95 Co :=cq aD func95 .z 0
def ano:cp xx:=⟨[.d aB,.d aB],[.d ah,.d ah],λa=>amf a.1 a.2.1,none⟩
theorem anp:aL 206 ano :=cq aD func206 .z 0
def aoV:cp xx:=⟨[.d aB,.d aB],[.d ah],λa=>OS a.1 a.2.1,none⟩
def aoW:Hn SI:=(.s .z (.s (.s (.j ⟨[(14,.v .bool)],[],[2,3],[1000,1064],1192,[]⟩ .z) .z) .z))
theorem aoX:aL 149 aoV :=cq (au oP (au anp aD)) func149 aoW 0
def DY:cp xx:=⟨[.d (.st SI.gj),.ref (.st SI.ky),.ref aI,.ref bC],[.d .bool],λa=>dY a.1 a.2.1 a.2.2.1 a.2.2.2.1,none⟩
def DZ:Hn SI:=(cy (.s (.s (.j ⟨[(32,.v .bool)],[],[2,3,6],[1256],1384,[]⟩ .z) .z) (.s (.j ⟨[(7,.v .bool)],[],[2,3,6],[1256],1384,[]⟩ .z) .z)))
theorem D5:aL 148 DY :=cq (au oP (au aoX aD)) func148 DZ 0
def G8:cp xx:=⟨[.d (.sl (.st SI.gj)),.eo [.st SI.gj] .bool],[.d ah],λa=>qG n a.1 a.2.1,none⟩
def G9:Hn SI:=(.s .z (.s (.s .z (.b (.lx ⟨[(8,.v ah)],[],[0,1,7],[],1256,[]⟩ 0 ⟨[],[],[],[],1256,[]⟩ .z))) .z))
theorem He:aL 205 (G8 n) :=cq aD func205 G9 n
def Cr:cp xx:=⟨[.d (.sl (.st SI.gj)),.eo [.st SI.gj] .bool],[.d .bool],λa=>jT n a.1 a.2.1,none⟩
theorem Cs:aL 147 (Cr n) :=cq (au (He n) aD) func147 .z n
def JJ:cp xx:=⟨[.d (.st SI.ky),.d bC,.d aI],[.d .bool],λa=>rU n a.1 a.2.1 a.2.2.1,none⟩
theorem JK:aL 97 (JJ n) :=cq (au (Cs n) (au D5 aD)) func97 .z n
def Ct:cp xx:=⟨[.d aI,.ref (.st SI.ky),.ref bC],[.d .bool],λa=>jU n a.1 a.2.1 a.2.2.1,none⟩
theorem Cu:aL 96 (Ct n) :=cq (au (JK n) aD) func96 .z n
def Hf:cp xx:=⟨[.d (.st SI.ky),.d bC],[.d .bool],λa=>mU n a.1 a.2.1,none⟩
theorem Hg:aL 57 (Hf n) :=cq (au (acI n) (au (akX n) (au (Sq n) (au (zM n) (au (Cn n) (au Cq (au (Cu n) aD))))))) func57 .z n
def Ud:cp xx:=⟨[.d aB,.ref aB],[.d .bool],λa=>vN a.1 a.2.1,none⟩
theorem Ue:aL 155 Ud :=cq aD func155 .z 0
def KX:cp xx:=⟨[.d (.sl aB),.eo [aB] .bool],[.d ah],λa=>uj n a.1 a.2.1,none⟩
def KY:Hn SI:=(.s .z (.s (.s .z (.b (.lx ⟨[(8,.v ah)],[],[0,1,7],[],1256,[]⟩ 0 ⟨[],[],[],[],1256,[]⟩ .z))) .z))
theorem KZ:aL 207 (KX n) :=cq aD func207 KY n
def FJ:cp xx:=⟨[.d (.sl aB),.eo [aB] .bool],[.d .bool],λa=>jb n a.1 a.2.1,none⟩
theorem uN:aL 153 (FJ n) :=cq (au (KZ n) aD) func153 .z n
def acK:cp xx:=⟨[.d aB,.ref (.sl aB)],[.d .bool],λa=>EP n a.1 a.2.1,none⟩
theorem acL:aL 154 (acK n) :=cq (au (uN n) (au Ue aD)) func154 .z n
def ak0:cp xx:=⟨[.d (.sl aB),.d (.sl aB)],[.d .bool],λa=>UF n a.1 a.2.1,none⟩
theorem ak1:aL 102 (ak0 n) :=cq (au (uN n) (au (acL n) aD)) func102 .z n
def Uf:cp xx:=⟨[.d (.st SI.ll),.ref (.st SI.fm)],[.d .bool],λa=>qQ n a.1 a.2.1,none⟩
theorem Ug:aL 101 (Uf n) :=cq (au (ak1 n) aD) func101 .z n
def acM:cp xx:=⟨[.d (.sl (.st SI.fm)),.d ah,.d (.sl (.st SI.ll))],[.d .bool],λa=>EQ n a.1 a.2.1 a.2.2.1,none⟩
def acN:Hn SI:=(cy (.s (.s .z (.b (.lx ⟨[(14,.v ah)],[],[1,2,12,13],[],1448,[]⟩ 0 ⟨[],[],[],[],1448,[]⟩ (cy (.s (.jx ⟨[],[],[1,2,12,13,14],[],1512,[]⟩ (.b (.s .z (.s (.s (.j ⟨[(27,.v .bool)],[],[1,2,8,12,13,14],[1640],1768,[]⟩ .z) .z) .z)))) .z))))) .z))
theorem acO:aL 60 (acM n) :=cq (au (Yo n) (au (pQ n) (au (uM n) (au (Ug n) aD)))) func60 acN n
def MF:cp xx:=⟨[.d aI,.ref (.st SI.kf),.ref (.st SI.ej)],[.d .bool],λa=>mZ n a.1 a.2.1 a.2.2.1,none⟩
theorem MH:aL 59 (MF n) :=cq (au JF (au (acO n) aD)) func59 .z n
def Hl:dg xx:=⟨[.v .str,.v .bool,.p 0],[(0,qu),(1,.l .str)],[],[(0,.c 1 [[.o 1000]]),(1000,.l .str)],λv=>jC n v.1 v.2.1 v.2.2⟩
def Ho:cp xx:=⟨[],[.d .bool],λ_=>none,some (Hl n)⟩
def Hq:Hn SI:=(.s (.j ⟨[(11,.v .bool)],[],[0,2],[0,1],1000,[]⟩ .z) .z)
theorem Hr:aL 55 (Ho n) :=oE (au (pR n) aD) func55 Hq n (by kernel_rfl) λ_=>by kernel_rfl
def Uh:cp xx:=⟨[.d (.st SI.kf),.d (.st SI.ej),.d ah],[.fresh .str,.d ah],λa=>oO n a.1 a.2.1 a.2.2.1,none⟩
def Ui:Hn SI:=(wA (.s (.s .z (.b (.l ⟨[(31,.v ah)],[(1960,.c 1 [[.o 2664]]),(2664,.l .str)],[3,4,8,10,11,29,30],[1000,1064,1640,2472],2665,[(9028160,.str)]⟩ 0 ⟨[],[(1960,.c 1 [[.o 2664]]),(2664,.l .str)],[3,4,8,10,11],[1000,1064,1640],2665,[]⟩ .z))) .z))
theorem F5:aL 39 (Uh n) :=cq (au (Zj n) (au (Jy n) (au (Hg n) (au (Hr n) (au (zM n) (au (MH n) aD)))))) func39 Ui n
def Uj:cp xx:=⟨[.d (.st SI.kf),.d (.st SI.ej),.d ah],[.d .bool],λa=>jY n a.1 a.2.1 a.2.2.1,none⟩
theorem F6:aL 22 (Uj n) :=cq (au (F5 n) aD) func22 .z n
def D6:cp xx:=⟨[.d dR,.ref (.st SI.ij),.ref fM],[.d .bool],λa=>iM n a.1 a.2.1 a.2.2.1,none⟩
theorem D7:aL 37 (D6 n) :=cq (au (Yc n) (au (F6 n) aD)) func37 .z n
def JL:cp xx:=⟨[.d (.sl dR),.eo [dR] .bool],[.d ah],λa=>rV n a.1 a.2.1,none⟩
def JM:Hn SI:=(.s .z (.s (.s .z (.b (.lx ⟨[(8,.v ah)],[],[0,1,7],[],1256,[]⟩ 0 ⟨[],[],[],[],1256,[]⟩ .z))) .z))
theorem JN:aL 36 (JL n) :=cq aD func36 JM n
def JO:cp xx:=⟨[.d (.st SI.ij),.d fM,.d (.sl dR)],[.d dR,.d .bool],λa=>iT n a.1 a.2.1 a.2.2.1,none⟩
theorem wX:aL 20 (JO n) :=cq (au (JN n) (au (D7 n) aD)) func20 .z n
def K3:cp xx:=⟨[.d (.st SI.ij),.d fM],[.d (.st SI.Finding),.d .bool],λa=>l5 n a.1 a.2.1,none⟩
def K4:Hn SI:=(gC (.s (.f [3]) (cy (.s (.j ⟨[],[(1448,.c 9 [[.v ah,.v ah,.o 3560,.v ah,.v ah,.v ah,.v ah,.v ah,.v ah]]),(3560,.l .str)],[4,6],[1128],3561,[(6931010,.str)]⟩ .z) .z))))
theorem K5:aL 31 (K3 n) :=cq (au (Sn n) (au (Jy n) (au (vG n) (au (wX n) (au (Yc n) (au (F5 n) aD)))))) func31 K4 n
def afC:cp xx:=⟨[.d (.st SI.kf),.d ah],[.fresh (.st SI.Finding)],λa=>iB n a.1 a.2.1,none⟩
def afD:Hn SI:=(tR (.s (.s .z (.b (.l ⟨[(6,.o 2024),(21,.v ah)],[(1640,.m ah .bool),(2024,.l (.st SI.Finding))],[5,7,19,20],[1320],2025,[]⟩ 0 ⟨[(6,.o 2024)],[(2024,.l (.st SI.Finding))],[],[],2025,[]⟩ (cy (.s (.j ⟨[(6,.o 2089)],[(1640,.m ah .bool),(2089,.l (.st SI.Finding))],[5,7,19,20,21],[1320],2090,[]⟩ .z) .z))))) .z))
theorem Sv:aL 13 (afC n) :=cq (au (FE n) (au (K5 n) aD)) func13 afD n
def Uk:cp xx:=⟨[.d fM,.ref ah],[.d .bool],λa=>vP a.1 a.2.1,none⟩
theorem Ul:aL 19 Uk :=cq aD func19 .z 0
def MI:cp xx:=⟨[.d (.sl fM),.eo [fM] .bool],[.d ah],λa=>vw n a.1 a.2.1,none⟩
def MJ:Hn SI:=(.s .z (.s (.s .z (.b (.lx ⟨[(8,.v ah)],[],[0,1,7],[],1256,[]⟩ 0 ⟨[],[],[],[],1256,[]⟩ .z))) .z))
theorem MK:aL 18 (MI n) :=cq aD func18 MJ n
def acP:cp xx:=⟨[.d (.st SI.kf),.d ah,.d ah],[.d dR,.d .bool],λa=>jw n a.1 a.2.1 a.2.2.1,none⟩
theorem Po:aL 6 (acP n) :=cq (au (MK n) (au Ul (au (vG n) (au (wX n) aD)))) func6 .z n
def Rk:cp xx:=⟨[.d ah,.ref ah,.js .bool,.js ah],[.mr .bool,.mr ah],λa=>za a.1 a.2.1 a.2.2.1 a.2.2.2.1,none⟩
def Rl:Hn SI:=(.s (.j ⟨[(16,.v .bool)],[],[0,2,3],[0,1],1000,[]⟩ .z) .z)
theorem Rm:aL 52 Rk :=cq aD func52 Rl 0
def Zv:cp xx:=⟨[.d iQ,.d ah],[.d ah,.d .bool],λa=>AA n a.1 a.2.1,none⟩
def Zw:Hn SI:=(gC (.s (.s .z (.b (.l ⟨[(15,.v ah)],[(1256,.c 1 [[.v ah]]),(1320,.c 1 [[.v .bool]])],[6,7,8,13,14],[1064],1896,[]⟩ 0 ⟨[],[(1256,.c 1 [[.v ah]]),(1320,.c 1 [[.v .bool]])],[6,7],[],1896,[]⟩ (cy (.s (.j ⟨[],[(1256,.c 1 [[.v ah]]),(1320,.c 1 [[.v .bool]])],[6,7,8,13,14,15],[1064],1960,[]⟩ .z) .z))))) .z))
theorem Zx:aL 32 (Zv n) :=cq (au Rm aD) func32 Zw n
def afE:cp xx:=⟨[.d (.st SI.kf),.d ah,.d ah],[.d ah,.d .bool],λa=>Kj n a.1 a.2.1 a.2.2.1,none⟩
def afF:Hn SI:=(.s .z (.s (.s .z (.b (.lx ⟨[(8,.v ah),(9,.v .bool)],[],[2,3],[1000],1384,[]⟩ 0 ⟨[],[],[],[],1384,[]⟩ (.s (.s (.j ⟨[(16,.v .bool)],[],[2,3,8],[1000],1384,[]⟩ .z) .z) .z)))) .z))
theorem afG:aL 14 (afE n) :=cq (au (Sv n) (au (Zx n) aD)) func14 afF n
def afH:cp xx:=⟨[.d (.sl .str),.d (.sl .str)],[.d .bool],λa=>Kk n a.1 a.2.1,none⟩
def afI:Hn SI:=(cy (.s (.s .z (.b (.lx ⟨[(5,.v ah)],[],[0,1],[],1448,[]⟩ 0 ⟨[],[],[],[],1448,[]⟩ .z))) .z))
theorem afJ:aL 33 (afH n) :=cq aD func33 afI n
def ah1:cp xx:=⟨[.d (.sl (.st SI.Finding)),.d (.sl (.st SI.Finding))],[.d .bool],λa=>Df n a.1 a.2.1,none⟩
def ah2:Hn SI:=(cy (.s (.s .z (.b (.lx ⟨[(5,.v ah)],[],[0,1],[],1448,[]⟩ 0 ⟨[],[],[],[],1448,[]⟩ (.s .z (.s (.b (.s (.j ⟨[(80,.v .bool)],[],[0,1,5],[],1704,[]⟩ .z) .z)) .z))))) .z))
theorem ah3:aL 15 (ah1 n) :=cq (au (afJ n) aD) func15 ah2 n
def afK:cp xx:=⟨[],[.d .bool],λ_=>Dg n,none⟩
def afL:Hn SI:=(Hh (.s (.j ⟨[(11,.v .bool)],[],[4,5,9,10],[2344,2664,3048],4456,[]⟩ .z) (.s (.j ⟨[(12,.v .bool)],[],[11],[],4456,[]⟩ .z) .z)))
theorem afM:aL 4 (afK n) :=cq (au acy (au ahx (au (Sv n) (au (Po n) (au (afG n) (au (ah3 n) aD)))))) func4 afL n
def ah4:Hn SI:=(cy (.s (.s .z (.b (.l ⟨[(3,.v ah),(4,.v ah)],[],[1],[1000],1256,[]⟩ 0 ⟨[(3,.v ah)],[],[],[],1256,[]⟩ .z))) .z))
theorem afN(rc:(cK)->J Int)(hr:aL 34 (IU rc)):aL 34 (IU (ER n rc)) :=cq (au hr aD) func34 ah4 n
theorem Sw(n:Nat):∀m,aL 34 (IU (vz n m))
 | 0=>z7 (nu func34 (by kernel_rfl:Tryz.f34.body=some (Tryz.f34.body.getD .skip)) (by kernel_rfl)) (λ _ _ h=>(by cases h)) rfl
 |m+1=>afN n _ (Sw n m)
def ah5:cp xx:=⟨[.d (.st SI.Expr)],[.d ah],λa=>IV n a.1,none⟩
theorem ah6:aL 34 (ah5 n):=Sw n n
def Zy:cp xx:=⟨[.d iQ],[.d .bool],λa=>wO n a.1,none⟩
def Zz:Hn SI:=(.s .z (.s (.s (.j ⟨[(35,.v .bool)],[],[1],[1000],1128,[]⟩ .z) .z) (.s (.s .z (.b (.lx ⟨[(3,.v ah)],[],[1],[1000],1192,[]⟩ 0 ⟨[],[],[1],[1000],1192,[]⟩ .z))) (.s (.s .z (.b (.lx ⟨[(4,.v ah)],[],[1],[1000],1256,[]⟩ 2 ⟨[],[],[1],[1000],1256,[]⟩ (.s .z (.s (.b (.s (.j ⟨[(85,.v .bool)],[],[1,4],[1000],1576,[]⟩ .z) .z)) .z))))) (.s (.s .z (.b (.lx ⟨[(5,.v ah)],[],[1],[1000],1320,[]⟩ 4 ⟨[],[],[1],[1000],1320,[]⟩ .z))) (.s (.s .z (.b (.lx ⟨[(6,.v ah)],[],[1],[1000],1384,[]⟩ 6 ⟨[],[],[1],[1000],1384,[]⟩ .z))) (.s (.s .z (.b (.lx ⟨[(7,.v ah)],[],[1],[1000],1448,[]⟩ 8 ⟨[],[],[],[],1448,[]⟩ .z))) .z)))))))
theorem ZA:aL 16 (Zy n) :=cq (au (ah6 n) aD) func16 Zz n
def Um:cp xx:=⟨[.d aB],[.d .bool],λa=>vQ a.1,none⟩
theorem Un:aL 124 Um :=cq aD func124 .z 0
def acQ:cp xx:=⟨[.d (.sl ah)],[.fresh ah],λa=>ES n a.1,none⟩
def acR:Hn SI:=(cy (.s (.s .z (.b (.l ⟨[(3,.o 1192),(4,.v ah)],[(1192,.l ah)],[0],[],1193,[(3,ah)]⟩ 0 ⟨[(3,.o 1192)],[(1192,.l ah)],[],[],1193,[]⟩ (.s .z (.s (.j ⟨[(3,.o 1449)],[(1449,.l ah)],[0,4],[],1450,[]⟩ (.b (.s .z (.s (.b (.l ⟨[(5,.v ah)],[],[0,3,4],[1192],1641,[]⟩ 2 ⟨[(5,.v ah)],[],[0,3,4],[1192],1641,[]⟩ (.s (.s (.j ⟨[(28,.v .bool)],[],[0,3,4,5],[1192],1641,[]⟩ .z) .z) .z))) (.s (.s (.j ⟨[(44,.v .bool)],[],[0,3,4,5],[1192],1641,[]⟩ .z) .z) (.s .z (.s (.s .z (.b (.l ⟨[(6,.v ah)],[(1769,.l ah)],[0,3,4,5],[],2153,[]⟩ 4 ⟨[],[(1769,.l ah)],[0,3,4,5],[],2153,[]⟩ .z))) .z))))))) .z))))) .z))
theorem acS:aL 225 (acQ n) :=cq aD func225 acR n
def afO:cp xx:=⟨[.d (.sl aB),.d (.sl aB)],[.fresh ah],λa=>Kl n a.1 a.2.1,none⟩
def afP:Hn SI:=(cy (.s (.s .z (.b (.l ⟨[(5,.o 1192),(6,.v ah)],[(1192,.l ah)],[0,1],[],1193,[(5,ah)]⟩ 0 ⟨[(5,.o 1192)],[(1192,.l ah)],[1],[],1193,[]⟩ .z))) (.s (.s .z (.b (.l ⟨[(5,.o 1257),(7,.v ah)],[(1257,.l ah)],[1],[],1258,[]⟩ 2 ⟨[(5,.o 1257)],[(1257,.l ah)],[],[],1258,[]⟩ .z))) .z)))
theorem afQ:aL 176 (afO n) :=cq (au (acS n) aD) func176 afP n
def acT:cp xx:=⟨[.d (.sl aB),.d ah],[.fresh ah],λa=>zb n a.1 a.2.1,none⟩
def acU:Hn SI:=(gC (.s (.s .z (.b (.l ⟨[(5,.o 1256),(6,.o 1257),(7,.v ah)],[(1256,.l ah),(1257,.l ah)],[0,1],[],1258,[(5,ah),(6,ah)]⟩ 0 ⟨[(5,.o 1256),(6,.o 1257)],[(1256,.l ah),(1257,.l ah)],[],[],1258,[]⟩ (.s .z (.s (.j ⟨[(5,.o 1514),(6,.o 1515)],[(1514,.l ah),(1515,.l ah)],[0,1,7],[],1516,[]⟩ (.b (.s (.s (.j ⟨[(32,.v .bool)],[],[0,1,5,6,7],[1256,1257],1514,[]⟩ .z) .z) (gC (.s (.b (.l ⟨[(8,.v ah)],[(1834,.l ah),(2090,.l ah)],[0,1,5,6,7],[],2218,[]⟩ 2 ⟨[(8,.v ah)],[(1834,.l ah),(2090,.l ah)],[0,1,5,6,7],[],2218,[]⟩ (.s (.s (.j ⟨[(55,.v .bool)],[],[0,1,5,6,7,8],[1834,2090],2218,[]⟩ .z) .z) .z))) .z))))) .z))))) (.s .z (.s (.s .z (.b (.l ⟨[(9,.o 1386),(10,.v ah)],[(1386,.l ah)],[5,6],[1256,1257],1387,[(9,ah)]⟩ 4 ⟨[(9,.o 1386)],[(1386,.l ah)],[],[],1387,[]⟩ (.s .z (.s (.j ⟨[(9,.o 1643)],[(1643,.l ah)],[5,6,10],[1256,1257],1644,[]⟩ (.b (.s (.s (.j ⟨[(111,.v .bool)],[],[5,6,9,10],[1256,1257,1386],1643,[]⟩ .z) .z) .z))) .z))))) .z))))
theorem acV:aL 178 (acT n) :=cq aD func178 acU n
def ZB:cp xx:=⟨[.d (.sl ah),.d (.sl ah),.d ah],[.fresh ah],λa=>AL n a.1 a.2.1 a.2.2.1,none⟩
def ZC:Hn SI:=(wA (.s (.b (.l ⟨[(7,.o 1320),(8,.v ah),(9,.v ah),(10,.v .bool)],[(1320,.l ah)],[0,1,2],[],1321,[(7,ah)]⟩ 0 ⟨[(7,.o 1320)],[(1320,.l ah)],[],[],1321,[]⟩ (.s (.s (.j ⟨[(24,.v .bool)],[],[0,1,2,7,8,9,10],[1320],1321,[]⟩ .z) .z) (.b (.s .z (.s (.j ⟨[(11,.v ah)],[],[0,1,2,7,8,9,10],[1320],1385,[]⟩ (.s (.j ⟨[(49,.v .bool)],[],[0,1,2,7,8,9,10],[1320],1385,[]⟩ .z) .z)) (.s (.j ⟨[(8,.v ah)],[],[0,1,2,7,9,10,11],[1320],1385,[]⟩ (.s (.j ⟨[(69,.v .bool)],[],[0,1,2,7,8,9,10,11],[1320],1385,[]⟩ .z) .z)) (.s (.j ⟨[(9,.v ah)],[],[0,1,2,7,8,10,11],[1320],1385,[]⟩ (.s (.j ⟨[(83,.v .bool)],[],[0,1,2,7,8,9,10,11],[1320],1385,[]⟩ .z) .z)) (cy (.s (.j ⟨[(14,.v .bool)],[],[0,1,2,7,8,9,10,11,12,13],[1320],1897,[]⟩ .z) (.s (.j ⟨[(14,.v .bool)],[],[0,1,2,7,8,9,10,11,12,13],[1320],1897,[]⟩ .z) (.s (.j ⟨[(14,.v .bool)],[],[0,1,2,7,8,9,10,11],[1320],1897,[]⟩ .z) (.s (.j ⟨[(7,.o 1897)],[(1897,.l ah)],[0,1,2,8,9,14],[],1898,[]⟩ .z) .z))))))))))))) .z))
theorem ZE:aL 177 (ZB n) :=cq aD func177 ZC n
def ah7:cp xx:=⟨[.d (.sl ah),.d (.sl ah)],[.d .bool],λa=>Og n a.1 a.2.1,none⟩
def ah8:Hn SI:=(cy (.s (.s .z (.b (.lx ⟨[(5,.v ah)],[],[0,1],[],1448,[]⟩ 0 ⟨[],[],[],[],1448,[]⟩ .z))) .z))
theorem ah9:aL 179 (ah7 n) :=cq aD func179 ah8 n
def aia:cp xx:=⟨[.d (.sl aB),.d (.sl aB),.d ah],[.fresh aB],λa=>Oh n a.1 a.2.1 a.2.2.1,none⟩
def aib:Hn SI:=(wA (.s (.s .z (.b (.l ⟨[(7,.o 1576),(9,.o 1577),(10,.v ah),(11,.v ah)],[(1576,.l aB),(1577,.l ah)],[0,1,2,8],[1256],1578,[(7,aB),(9,ah)]⟩ 0 ⟨[(7,.o 1576)],[(1576,.l aB)],[],[],1577,[]⟩ (.s .z (.s (.j ⟨[(7,.o 1898),(9,.o 1899),(10,.v ah)],[(1898,.l aB),(1899,.l ah)],[0,1,2,8,11],[1256],1900,[]⟩ (.b (.s .z (.s (.s (.j ⟨[(50,.v .bool)],[],[0,1,2,7,8,9,10,11,12],[1256,1576,1577,2730],2858,[]⟩ .z) (.s (.s (.s .z (.b (.l ⟨[(13,.v ah)],[(1576,.l aB)],[0,1,2,7,8,9,10,11],[1256,1577],2986,[]⟩ 2 ⟨[],[(1576,.l aB)],[0,1,2,7,8,9,10,11],[1256,1577],2986,[]⟩ .z))) .z) .z)) (gC (.b (.l ⟨[(7,.o 3242),(14,.v ah)],[(3242,.l aB)],[0,1,2,8,9,10,11,12],[1256,2730],3243,[]⟩ 4 ⟨[(7,.o 3242)],[(3242,.l aB)],[0,1,2,8,9,10,11],[1256,2730],3243,[]⟩ .z))))))) .z))))) .z))
theorem aic:aL 125 (aia n) :=cq (au (afQ n) (au (acV n) (au (ZE n) (au (ah9 n) aD)))) func125 aib n
def anq:cp xx:=⟨[.d (.sl aB)],[.fresh aB,.d ah],λa=>PM n a.1,none⟩
def anr:Hn SI:=(.s .z (.s (.s .z (.b (.lx ⟨[(4,.v ah)],[],[0],[],1192,[]⟩ 0 ⟨[],[],[0],[],1192,[]⟩ .z))) .z))
theorem ant:aL 85 (anq n) :=cq (au Un (au (aic n) aD)) func85 anr n
def aid:cp xx:=⟨[.d (.sl aB),.d (.sl aB)],[.d .bool],λa=>Oi n a.1 a.2.1,none⟩
def aie:Hn SI:=(cy (.s (.s .z (.b (.lx ⟨[(5,.v ah)],[],[0,1],[],1448,[]⟩ 0 ⟨[],[],[],[],1448,[]⟩ .z))) .z))
theorem aif:aL 86 (aid n) :=cq aD func86 aie n
def afR:cp xx:=⟨[.d (.sl aB)],[.d .bool],λa=>Kn n a.1,none⟩
theorem afS:aL 53 (afR n) :=cq (au (ant n) (au (aif n) aD)) func53 .z n
def acW:cp xx:=⟨[.d (.sl aB)],[.d aB,.d .bool],λa=>EW n a.1,none⟩
def acX:Hn SI:=(.s .z (.s (.s (.j ⟨[(13,.v .bool)],[],[0,2],[1000],1128,[]⟩ .z) .z) (.s .z (.s (.s .z (.b (.l ⟨[(5,.v ah)],[(1320,u9)],[0,2,4],[1000],1512,[]⟩ 0 ⟨[],[(1320,u9)],[2,4],[1000],1512,[]⟩ .z))) .z))))
theorem acY:aL 35 (acW n) :=cq (au (afS n) aD) func35 acX n
def acZ:cp xx:=⟨[.d fM],[.d .bool],λa=>EX n a.1,none⟩
theorem ac0:aL 17 (acZ n) :=cq (au (acY n) aD) func17 .z n
def ak2:cp xx:=⟨[.d (.st SI.kf)],[.d .bool],λa=>UG n a.1,none⟩
def ak3:Hn SI:=(.s .z (.s (.s (.j ⟨[(26,.v .bool)],[],[1],[1000],1128,[]⟩ .z) .z) (.s (.s .z (.b (.lx ⟨[(3,.v ah)],[],[1],[1000],1192,[]⟩ 0 ⟨[],[],[1],[1000],1192,[]⟩ .z))) (.s (.s .z (.b (.lx ⟨[(4,.v ah)],[],[1],[1000],1256,[]⟩ 2 ⟨[],[],[],[],1256,[]⟩ .z))) .z))))
theorem ak4:aL 5 (ak2 n) :=cq (au (ZA n) (au (ac0 n) aD)) func5 ak3 n
def Pp:cp xx:=⟨[.d (.st SI.kf),.d fM,.d dR,.d ah],[.d .bool],λa=>oq n a.1 a.2.1 a.2.2.1 a.2.2.2.1,none⟩
theorem Pq:aL 7 (Pp n) :=cq (au (xA n) (au (F6 n) aD)) func7 .z n
def aii:cp xx:=⟨[.d fM,.d dR],[.d ah],λa=>wR n a.1 a.2.1,none⟩
def aij:Hn SI:=(cy (.s (.s (.j ⟨[(30,.v .bool)],[],[5],[1576],1768,[]⟩ .z) .z) .z))
theorem aik:aL 10 (aii n) :=cq (au (xA n) aD) func10 aij n
def ail:cp xx:=⟨[.d dR,.d ah,.d dR,.d ah],[.d .bool],λa=>IW a.1 a.2.1 a.2.2.1 a.2.2.2.1,none⟩
theorem aim:aL 9 ail :=cq aD func9 .z 0
def Uo:cp xx:=⟨[.d (.st SI.kf),.d ah,.d ah],[.d .bool],λa=>vT n a.1 a.2.1 a.2.2.1,none⟩
def Uq:Hn SI:=(cy (.s (.s (.j ⟨[(27,.v .bool)],[],[1,2,3,7],[1000],1256,[]⟩ .z) .z) (cy (.s (.s (.j ⟨[(58,.v .bool)],[],[1,2,3,7,8,9,10],[1000,1512,2152],2344,[]⟩ .z) .z) (cy (.s (.s .z (.b (.lx ⟨[(12,.v .bool),(13,.v ah)],[],[1,2,3,7,8,9,10,11],[1000,1512,2152,2472],2728,[]⟩ 0 ⟨[(12,.v .bool)],[],[1,2,3,7,8,9,10],[1000,1512,2152],2728,[]⟩ (.s (.s (.j ⟨[(69,.v .bool)],[],[1,2,3,7,8,9,10,11,12,13],[1000,1512,2152,2472],2728,[]⟩ .z) .z) (.s (.b (.s (.j ⟨[(12,.v .bool)],[],[1,2,3,7,8,9,10,11,13],[1000,1512,2152,2472],2728,[]⟩ .z) (.s (.j ⟨[(92,.v .bool)],[],[1,2,3,7,8,9,10,11,12,13],[1000,1512,2152,2472],2728,[]⟩ .z) .z))) .z))))) .z))))))
theorem Ur:aL 3 (Uo n) :=cq (au (afM n) (au (ak4 n) (au (Po n) (au (Pq n) (au (vG n) (au (aik n) (au aim aD))))))) func3 Uq n
end
end Go.Proofs
