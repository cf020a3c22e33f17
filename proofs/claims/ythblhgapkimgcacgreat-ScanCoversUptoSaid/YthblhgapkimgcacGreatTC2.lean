import Derived.Test.YthblhgapkimgcacGreatTC1
namespace Go.Proofs
open Go.Gb Go.RowKit
open Tryz
noncomputable section
variable (n:Nat)
def BZ:df xx:=⟨[.p 0],[(0,fy),(1,.l aG)],[.v ah],[(0,fy),(1,.l aG)],λv=>jH n v.1 v.2.1 v.2.2.1 v.2.2.2.1 v.2.2.2.2.1 v.2.2.2.2.2.1 v.2.2.2.2.2.2.1 v.2.2.2.2.2.2.2.1 v.2.2.2.2.2.2.2.2.1 v.2.2.2.2.2.2.2.2.2⟩
def Ca:cp xx:=⟨[],[.d .bool],λ_=>none,some (BZ n)⟩
theorem Cb:aJ 139 (Ca n) :=oA (au (zF n) aB) func139 .z n (by kernel_rfl) λ_=>by kernel_rfl
def GH:df xx:=⟨[.p 0,(.f 197 [] [])],[(0,fy),(1,.l aG)],[.v ah],[(0,fy),(1,.l aG)],λv=>qy n v.1 v.2.1 v.2.2.1 v.2.2.2.1 v.2.2.2.2.1 v.2.2.2.2.2.1 v.2.2.2.2.2.2.1 v.2.2.2.2.2.2.2.1 v.2.2.2.2.2.2.2.2.1 v.2.2.2.2.2.2.2.2.2⟩
def GI:cp xx:=⟨[],[.d .bool],λ_=>none,some (GH n)⟩
def GJ:Hn SI:=(cy (.s (.s .z (.b (.l ⟨[(5,.v ah),(13,.v ah)],[],[1,11,12],[0,1],1512,[]⟩ 0 ⟨[(5,.v ah)],[],[],[0,1],1512,[]⟩ .z))) .z))
theorem GK:aJ 192 (GI n) :=oA (au Du aB) func192 GJ n (by kernel_rfl) λ_=>by kernel_rfl
def DJ:df xx:=⟨[.p 0],[(0,fy),(1,.l aG)],[.v ah],[(0,fy),(1,.l aG)],λv=>kF n v.1 v.2.1 v.2.2.1 v.2.2.2.1 v.2.2.2.2.1 v.2.2.2.2.2.1 v.2.2.2.2.2.2.1 v.2.2.2.2.2.2.2.1 v.2.2.2.2.2.2.2.2.1 v.2.2.2.2.2.2.2.2.2⟩
def DK:cp xx:=⟨[],[.d .bool],λ_=>none,some (DJ n)⟩
theorem DL:aJ 140 (DK n) :=oA (au (GK n) aB) func140 .z n (by kernel_rfl) λ_=>by kernel_rfl
def Cc:df xx:=⟨[.p 0,.v ay,.v ah],[(0,fy),(1,.l aG)],[.v .bool],[(0,fy),(1,.l aG)],λv=>jJ n v.1 v.2.1 v.2.2.1 v.2.2.2.1 v.2.2.2.2.1 v.2.2.2.2.2.1 v.2.2.2.2.2.2.1 v.2.2.2.2.2.2.2.1 v.2.2.2.2.2.2.2.2.1 v.2.2.2.2.2.2.2.2.2.1 v.2.2.2.2.2.2.2.2.2.2.1 v.2.2.2.2.2.2.2.2.2.2.2⟩
def Ce:cp xx:=⟨[],[.d .bool],λ_=>none,some (Cc n)⟩
def Cf:Hn SI:=(sE (.s (.s .z (.b (.l ⟨[(9,.v ah),(27,.v ah)],[],[7,25,26],[0,1,1512],2280,[]⟩ 0 ⟨[(9,.v ah)],[],[7],[0,1,1512],2280,[]⟩ (cy (.s (.j ⟨[(9,.v ah)],[],[7,25,26,27],[0,1,1512],2344,[]⟩ .z) .z))))) .z))
theorem Cg:aJ 198 (Ce n) :=oA (au Ua (au BK (au zu aB))) func198 Cf n (by kernel_rfl) λ_=>by kernel_rfl
def zM:df xx:=⟨[.p 0],[(0,fy),(1,.l aG)],[.v ah],[(0,fy),(1,.l aG)],λv=>jg n v.1 v.2.1 v.2.2.1 v.2.2.2.1 v.2.2.2.2.1 v.2.2.2.2.2.1 v.2.2.2.2.2.2.1 v.2.2.2.2.2.2.2.1 v.2.2.2.2.2.2.2.2.1 v.2.2.2.2.2.2.2.2.2⟩
def zN:cp xx:=⟨[],[.d .bool],λ_=>none,some (zM n)⟩
def zO:Hn SI:=(cy (.s (.s .z (.b (.l ⟨[(3,.v ah),(14,.v ah)],[(0,fy),(1,.l aG)],[0,12,13],[],1512,[]⟩ 0 ⟨[(3,.v ah)],[(0,fy),(1,.l aG)],[],[],1512,[]⟩ (cy (.s (.b (cy (.s (.b (.l ⟨[(6,.v ah),(7,.v ah)],[(0,fy),(1,.l aG)],[0,5,12,13,14],[1704],2024,[]⟩ 2 ⟨[(6,.v ah)],[(0,fy),(1,.l aG)],[0,12,13,14],[],2024,[]⟩ .z)) .z))) .z))))) .z))
theorem zP:aJ 141 (zN n) :=oA (au (Cg n) aB) func141 zO n (by kernel_rfl) λ_=>by kernel_rfl
def xk:df xx:=⟨[.v aG,.p 0],[(0,.c 1 [[.p 1]]),(1,tM),(2,.l aG)],[.v ah],[(0,.c 1 [[.p 1]]),(1,tM),(2,.l aG)],λv=>kz n v.1 v.2.1 v.2.2.1 v.2.2.2.1 v.2.2.2.2.1 v.2.2.2.2.2.1 v.2.2.2.2.2.2.1 v.2.2.2.2.2.2.2.1 v.2.2.2.2.2.2.2.2.1 v.2.2.2.2.2.2.2.2.2.1 v.2.2.2.2.2.2.2.2.2.2⟩
def xq:cp xx:=⟨[],[.d .bool],λ_=>none,some (xk n)⟩
theorem xu:aJ 199 (xq n) :=oA (au (O9 n) aB) func199 .z n (by kernel_rfl) λ_=>by kernel_rfl
def GL:df xx:=⟨[.p 0,(.f 199 [] [.p 1])],[(0,tM),(1,.c 1 [[.p 0]]),(2,.l aG)],[.v ah],[(0,tM),(1,.c 1 [[.p 0]]),(2,.l aG)],λv=>qz n v.1 v.2.1 v.2.2.1 v.2.2.2.1 v.2.2.2.2.1 v.2.2.2.2.2.1 v.2.2.2.2.2.2.1 v.2.2.2.2.2.2.2.1 v.2.2.2.2.2.2.2.2.1 v.2.2.2.2.2.2.2.2.2⟩
def GN:cp xx:=⟨[],[.d .bool],λ_=>none,some (GL n)⟩
def GQ:Hn SI:=(cy (.s (.s .z (.b (.l ⟨[(5,.v ah),(13,.v ah)],[(0,tM),(1,.c 1 [[.p 0]]),(2,.l aG)],[1,11,12],[],1512,[]⟩ 0 ⟨[(5,.v ah)],[(0,tM),(1,.c 1 [[.p 0]]),(2,.l aG)],[],[],1512,[]⟩ .z))) .z))
theorem GR:aJ 192 (GN n) :=oA (au (xu n) aB) func192 GQ n (by kernel_rfl) λ_=>by kernel_rfl
def zQ:df xx:=⟨[.p 0],[(0,fy),(1,.l aG)],[.v ah],[(0,fy),(1,.l aG)],λv=>jh n v.1 v.2.1 v.2.2.1 v.2.2.2.1 v.2.2.2.2.1 v.2.2.2.2.2.1 v.2.2.2.2.2.2.1 v.2.2.2.2.2.2.2.1 v.2.2.2.2.2.2.2.2.1 v.2.2.2.2.2.2.2.2.2⟩
def zR:cp xx:=⟨[],[.d .bool],λ_=>none,some (zQ n)⟩
theorem zS:aJ 142 (zR n) :=oA (au (GR n) aB) func142 .z n (by kernel_rfl) λ_=>by kernel_rfl
def acI:cp xx:=⟨[.d iM,.d gG,.d (.st SI.ef)],[.fresh (.st SI.Entry)],λa=>jm n a.1 a.2.1 a.2.2.1,none⟩
def acJ:Hn SI:=(cy (.s (.j ⟨[],[(1384,.c 10 [[.v (.sl bE),.v (.sl bg),.v (.sl bH),.v (.sl bq),.v (.sl bO),.v (.sl bK),.v (.sl aY),.v ah,.v (.sl ay),.nil]])],[5,7],[1128],1512,[]⟩ .z) (.s (.s .z (.b (.l ⟨[(31,.v ah)],[(1384,.c 10 [[.v (.sl bE),.v (.sl bg),.v (.sl bH),.v (.sl bq),.v (.sl bO),.v (.sl bK),.v (.sl aY),.v ah,.v (.sl ay),.o 1960]]),(1960,.l aG)],[7,29,30],[1768],1961,[(6668873,aG)]⟩ 0 ⟨[],[(1384,.c 10 [[.v (.sl bE),.v (.sl bg),.v (.sl bH),.v (.sl bq),.v (.sl bO),.v (.sl bK),.v (.sl aY),.v ah,.v (.sl ay),.o 1960]]),(1960,.l aG)],[7],[],1961,[]⟩ (cy (.s (.j ⟨[],[(1384,.c 10 [[.v (.sl bE),.v (.sl bg),.v (.sl bH),.v (.sl bq),.v (.sl bO),.v (.sl bK),.v (.sl aY),.v ah,.v (.sl ay),.o 2025]]),(2025,.l aG)],[7,29,30,31],[1768],2026,[]⟩ (.b (.s .z (.s (.j ⟨[(41,.v .bool)],[],[7,9,29,30,31],[1384,1768,1960,2217],2409,[]⟩ .z) .z)))) .z))))) (cy (.s (.s .z (.b (.un .z (.un .z (.un .z (.un .z (.un .z (.un .z (.un .z (.un .z (.un .z (.un .z .z)))))))))))) .z)))))
theorem acK:aJ 84 (acI n) :=cq (au (pM n) (au (AR n) (au kH (au (Gx n) (au (Dy n) (au (DI n) (au (BX n) (au (Cb n) (au (DL n) (au (zP n) (au (zS n) aB))))))))))) func84 acJ n
def ahT:cp xx:=⟨[.d ah],[.d ah,.d .bool],λa=>yV a.1,none⟩
def ahU:Hn SI:=(.s .z (.s (.s .z (.b (.s (.j ⟨[(5,.v .bool)],[],[0,4],[],1192,[]⟩ .z) (.s .z (.s (.j ⟨[(10,.v .bool)],[],[0,4],[],1192,[]⟩ .z) .z))))) .z))
theorem ahV:aJ 232 ahT :=cq aB func232 ahU 0
def afw:Hn SI:=(cy (.s (.s (.j ⟨[(28,.v .bool)],[],[1,2],[1000],1640,[]⟩ .z) .z) (.s .z (.s (.s .z (.b (.l ⟨[(7,.v ah),(32,.v ah)],[],[1,30,31],[],1960,[]⟩ 0 ⟨[(7,.v ah)],[],[],[],1960,[]⟩ .z))) .z))))
theorem acL(rc:(cB)->(Int)->J Int)(hr:aJ 186 (EJ rc)):aJ 186 (EJ (Al n rc)) :=cq (au ahV (au hr aB)) func186 afw n
theorem Pb(n:Nat):∀m,aJ 186 (EJ (sH n m))
 | 0=>zz (nk func186 (by kernel_rfl:Tryz.f186.body=some (Tryz.f186.body.getD .skip)) (by kernel_rfl)) (λ _ _ h=>(by cases h)) rfl
 |m+1=>acL n _ (Pb n m)
def afx:cp xx:=⟨[.d (.st SI.Expr),.d ah],[.d ah],λa=>Qg n a.1 a.2.1,none⟩
theorem afy:aJ 186 (afx n):=Pb n n
def ahW:cp xx:=⟨[.d (.st SI.Expr)],[.d .bool],λa=>C8 n a.1,none⟩
theorem Yo:aJ 130 (ahW n) :=cq (au (afy n) aB) func130 .z n
def Kz:cp xx:=⟨[.d bg,.ref (.st SI.Expr)],[.d .bool],λa=>Am a.1 a.2.1,none⟩
theorem KA:aJ 234 Kz :=cq aB func234 .z 0
def Jp:cp xx:=⟨[.d (.sl bg),.ek [bg] .bool],[.d ah],λa=>rM n a.1 a.2.1,none⟩
def Jq:Hn SI:=(.s .z (.s (.s .z (.b (.lx ⟨[(8,.v ah)],[],[0,1,7],[],1256,[]⟩ 0 ⟨[],[],[],[],1256,[]⟩ .z))) .z))
theorem Jr:aJ 233 (Jp n) :=cq aB func233 Jq n
def KC:cp xx:=⟨[.d (.st SI.Entry),.ref (.st SI.Expr)],[.d .bool],λa=>Ao a.1 a.2.1,none⟩
theorem KD:aJ 236 KC :=cq aB func236 .z 0
def ank:cp xx:=⟨[.d .bool],[.d ah],λa=>yX a.1,none⟩
theorem afz:aJ 188 ank :=cq aB func188 .z 0
def Zo:cp xx:=⟨[.d ah,.d ah],[.d ah],λa=>wL a.1 a.2.1,none⟩
def Zp:Hn SI:=(gA (.s (.j ⟨[(5,.v ah)],[],[],[],1448,[]⟩ (.s .z (.s (.j ⟨[(23,.v .bool)],[],[5],[],1704,[]⟩ .z) .z))) .z))
theorem Zq:aJ 237 Zo :=cq aB func237 Zp 0
def afA:cp xx:=⟨[.d ah,.d ah,.d ah],[.d ah],λa=>J3 a.1 a.2.1 a.2.2.1,none⟩
theorem afB:aJ 189 afA :=cq (au Zq (au afz aB)) func189 .z 0
def KE:df xx:=⟨[(.a [.v (.sl bE),.v (.sl bg),.v (.sl bH),.v (.sl bq),.v (.sl bO),.v (.sl bK),.v (.sl aY),.v ah,.mp 0,.v (.sl .str)]),.v (.st SI.Expr)],[(0,.m .str ah)],[.v ah],[(0,.m .str ah)],λv=>ji n v.1 v.2.1 v.2.2.1 v.2.2.2.1 v.2.2.2.2.1 v.2.2.2.2.2.1 v.2.2.2.2.2.2.1 v.2.2.2.2.2.2.2.1 v.2.2.2.2.2.2.2.2.1 v.2.2.2.2.2.2.2.2.2.1 v.2.2.2.2.2.2.2.2.2.2⟩
def KF:cp xx:=⟨[],[.d .bool],λ_=>none,some (KE n)⟩
theorem KG:aJ 187 (KF n) :=oA (au (Jr n) (au KA (au (wS n) (au KD aB)))) func187 .z n (by kernel_rfl) λ_=>by kernel_rfl
def GU:Hn SI:=(cy (.s (.s .z (.b (.l ⟨[(5,.o 1512),(11,.v ah)],[(0,.m .str ah),(1512,.l ah)],[2,3,9,10],[1000,1064],1513,[(5,ah)]⟩ 0 ⟨[(5,.o 1512)],[(0,.m .str ah),(1512,.l ah)],[2,3],[1000,1064],1513,[]⟩ (cy (.s (.j ⟨[(5,.o 1577)],[(0,.m .str ah),(1577,.l ah)],[2,3,9,10,11],[1000,1064],1578,[]⟩ (.b (.s .z (.s (.s (.j ⟨[(31,.v .bool)],[],[2,3,5,7,9,10,11],[0,1000,1064,1512,1769],1961,[]⟩ .z) .z) .z)))) .z))))) .z))
theorem Fy(rc:((List eu))->((List dh))->((List dJ))->((List bI))->((List gq))->((List fq))->((List cu))->(Int)->((List ByteArray))->(cB)->((List (ByteArray×Int)))->J (Int×(List (ByteArray×Int))))(hr:aJ 132 (jL rc)):aJ 132 (jL (fF n rc)) :=oA (au hr (au (KG n) (au (pO n) (au afz (au afB aB))))) func132 GU n (by kernel_rfl) λ_=>by kernel_rfl
theorem uI(n:Nat):∀m,aJ 132 (jL (cO n m))
 | 0=>MY (nk func132 (by kernel_rfl:Tryz.f132.body=some (Tryz.f132.body.getD .skip)) (by kernel_rfl)) (λ _ _ h=>(by cases h))
 |m+1=>Fy n _ (uI n m)
def GV:cp xx:=jL (cO n n)
theorem uP:aJ 132 (GV n):=uI n n
def Ub:df xx:=⟨[.v iM,(.v (.sl (.st SI.Entry))),.v (.sl .str)],[],[(.a [.v (.sl bE),.v (.sl bg),.v (.sl bH),.v (.sl bq),.v (.sl bO),.v (.sl bK),.v (.sl aY),.v ah,.mp 1000,.v (.sl .str)]),.o 1001],[(1000,.m .str ah),(1001,.l ah)],λv=>mE n v.1 v.2.1 v.2.2⟩
def Uc:cp xx:=⟨[],[.d .bool],λ_=>none,some (Ub n)⟩
def Ud:Hn SI:=(gA (.s (.s .z (.b (.l ⟨[(26,.v ah)],[(1256,.m .str ah),(1576,.m .str .bool)],[3,6,8,9,24,25],[1000,1064,1448],1896,[]⟩ 0 ⟨[],[(1256,.m .str ah),(1576,.m .str .bool)],[3,6,8,9],[1000,1064,1448],1896,[]⟩ (cy (.s (.j ⟨[],[(1256,.m .str ah),(1576,.m .str .bool)],[3,6,8,9,24,25,26],[1000,1064,1448],1960,[]⟩ .z) .z))))) (gA (.s (.s .z (.b (.l ⟨[(61,.v ah)],[(1256,.m .str ah),(2088,.l ah)],[3,6,8,9,12,59,60],[1000,1064,1448,1576,2280],3112,[]⟩ 2 ⟨[],[(1256,.m .str ah),(2088,.l ah)],[6,8,12],[1064,1448],3112,[]⟩ (cy (.s (.j ⟨[],[(1256,.m .str ah),(2088,.l ah)],[3,6,8,9,12,59,60,61],[1000,1064,1448,1576,2280],3176,[]⟩ (.b (cy (.s (.j ⟨[],[(1256,.m .str ah),(2088,.l ah)],[3,6,8,9,12,17,18,59,60,61],[1000,1064,1448,1576,2280,3688],3816,[]⟩ .z) .z)))) .z))))) .z))))
theorem Ue:aJ 131 (Uc n) :=oA (au (Jg n) (au (Yo n) (au (uP n) aB))) func131 Ud n (by kernel_rfl) λ_=>by kernel_rfl
def akQ:cp xx:=⟨[.d iM,.d (.sl (.st SI.Entry)),.d (.sl .str),.d (.st SI.Expr)],[.d ah],λa=>tV n a.1 a.2.1 a.2.2.1 a.2.2.2.1,none⟩
theorem akR:aJ 83 (akQ n) :=cq (au (Yo n) (au (Ue n) (au (uP n) aB))) func83 .z n
def Yp:cp xx:=⟨[.d aG],[.fresh (.st SI.lj)],λa=>xR a.1,none⟩
theorem Js:aJ 57 Yp :=cq aB func57 .z 0
def Jt:cp xx:=⟨[.d (.sl (.st SI.gO)),.ek [.st SI.gO] .bool],[.d ah],λa=>rO n a.1 a.2.1,none⟩
def Ju:Hn SI:=(.s .z (.s (.s .z (.b (.lx ⟨[(8,.v ah)],[],[0,1,7],[],1256,[]⟩ 0 ⟨[],[],[],[],1256,[]⟩ .z))) .z))
theorem Jv:aJ 241 (Jt n) :=cq aB func241 Ju n
def DR:cp xx:=⟨[.d (.sl (.st SI.gO)),.ek [.st SI.gO] .bool],[.d .bool],λa=>kG n a.1 a.2.1,none⟩
theorem DT:aJ 201 (DR n) :=cq (au (Jv n) aB) func201 .z n
def Yq:cp xx:=⟨[.d ah,.d ah,.d ah],[.d .bool],λa=>nP a.1 a.2.1 a.2.2.1,none⟩
theorem Yr:aJ 242 Yq :=cq aB func242 .z 0
def Zr:cp xx:=⟨[.d (.st SI.gO)],[.d .bool],λa=>Ap a.1,none⟩
theorem Zt:aJ 203 Zr :=cq (au Yr aB) func203 .z 0
def Q7:cp xx:=⟨[.d (.st SI.gO)],[.d .bool],λa=>tX a.1,none⟩
theorem Q8:aJ 202 Q7 :=cq (au Zt aB) func202 .z 0
def Zu:cp xx:=⟨[.d ay,.d (.sl (.st SI.gO))],[.d .bool],λa=>Aq n a.1 a.2.1,none⟩
theorem Zv:aJ 143 (Zu n) :=cq (au oJ (au (DT n) (au Q8 aB))) func143 .z n
def akS:cp xx:=⟨[.d (.sl ay),.d (.sl ay)],[.d .bool],λa=>UE n a.1 a.2.1,none⟩
theorem akT:aJ 150 (akS n) :=cq (au (FW n) aB) func150 .z n
def ahX:cp xx:=⟨[.d (.sl (.st SI.lj))],[.d .bool],λa=>Iz n a.1,none⟩
def ahY:Hn SI:=(cy (.s (.s .z (.b (.lx ⟨[(11,.v ah)],[],[0,9,10],[],1448,[]⟩ 0 ⟨[],[],[],[],1448,[]⟩ (cy (.s (.jx ⟨[],[],[0,9,10,11],[],1512,[]⟩ (.b (.s .z (.s (.s (.j ⟨[(42,.v .bool)],[],[0,3,4,9,10,11],[1704],1896,[]⟩ .z) .z) (cy (.s (.j ⟨[(68,.v .bool)],[],[0,9,10,11],[],2472,[]⟩ .z) .z)))))) .z))))) .z))
theorem Yt:aJ 91 (ahX n) :=cq (au (pM n) (au (akT n) aB)) func91 ahY n
def Pd:cp xx:=⟨[.d ay,.d ah,.d ah],[.d (.st SI.m8)],λa=>xg a.1 a.2.1 a.2.2.1,none⟩
theorem Pe:aJ 243 Pd :=cq aB func243 .z 0
def Q9:cp xx:=⟨[.d ah,.d ah],[.d ah],λa=>tY a.1 a.2.1,none⟩
def Ra:Hn SI:=(cy (.s (.j ⟨[(5,.v ah)],[],[],[],1320,[]⟩ .z) .z))
theorem Rb:aJ 244 Q9 :=cq aB func244 Ra 0
def afC:cp xx:=⟨[.d ay,.d (.sl (.st SI.gO)),.d ah,.d ah],[.d ah],λa=>J4 n a.1 a.2.1 a.2.2.1 a.2.2.2.1,none⟩
def afD:Hn SI:=(gA (.s (.s .z (.b (.l ⟨[(9,.v ah),(19,.v ah)],[],[10,17,18],[1448],1768,[]⟩ 0 ⟨[(9,.v ah)],[],[],[],1768,[]⟩ .z))) .z))
theorem afE:aJ 204 (afC n) :=cq (au Pe (au Rb aB)) func204 afD n
def Yu:cp xx:=⟨[.d ay,.d (.sl (.st SI.gO)),.d (.sl ay)],[.d ah],λa=>xU n a.1 a.2.1 a.2.2.1,none⟩
def Yv:Hn SI:=(cy (.s (.s .z (.b (.l ⟨[(7,.v ah),(16,.v ah)],[],[1,3,14,15],[1000],1384,[]⟩ 0 ⟨[(7,.v ah)],[],[],[],1384,[]⟩ (cy (.s (.b (cy (.b (.l ⟨[(7,.v ah),(27,.v ah)],[],[1,3,9,14,15,16,25,26],[1000,1576,2024],2216,[]⟩ 2 ⟨[(7,.v ah)],[],[1,3,14,15,16],[1000],2216,[]⟩ (cy (.s (.b (cy (.b (.l ⟨[(7,.v ah),(38,.v ah)],[],[1,3,9,11,14,15,16,25,26,27,36,37],[1000,1576,2024,2792],2984,[]⟩ 4 ⟨[(7,.v ah)],[],[1,3,9,14,15,16,25,26,27],[1000,1576,2024],2984,[]⟩ .z)))) .z)))))) .z))))) .z))
theorem Yw:aJ 145 (Yu n) :=cq (au (afE n) aB) func145 Yv n
def Pf:cp xx:=⟨[.d (.st SI.lj),.ref ay,.ref (.sl (.st SI.gO))],[.d .bool],λa=>rz n a.1 a.2.1 a.2.2.1,none⟩
theorem Pg:aJ 144 (Pf n) :=cq (au (Yw n) aB) func144 .z n
def KH:cp xx:=⟨[.d (.sl (.st SI.lj)),.ek [.st SI.lj] .bool],[.d ah],λa=>tZ n a.1 a.2.1,none⟩
def KI:Hn SI:=(.s .z (.s (.s .z (.b (.lx ⟨[(8,.v ah)],[],[0,1,7],[],1256,[]⟩ 0 ⟨[],[],[],[],1256,[]⟩ .z))) .z))
theorem KJ:aJ 151 (KH n) :=cq aB func151 KI n
def Fz:cp xx:=⟨[.d (.sl (.st SI.lj)),.ek [.st SI.lj] .bool],[.d .bool],λa=>iX n a.1 a.2.1,none⟩
theorem uJ:aJ 92 (Fz n) :=cq (au (KJ n) aB) func92 .z n
def Yx:cp xx:=⟨[.d ay,.d (.sl (.st SI.gO)),.d (.sl (.st SI.lj))],[.d .bool],λa=>xV n a.1 a.2.1 a.2.2.1,none⟩
def Yy:Hn SI:=(.s .z (.s (.s (.j ⟨[(15,.v .bool)],[],[2,3,4],[1000,1064],1192,[]⟩ .z) .z) .z))
theorem Yz:aJ 86 (Yx n) :=cq (au (Zv n) (au (Yt n) (au (uJ n) (au (Pg n) aB)))) func86 Yy n
def Ch:cp xx:=⟨[.d aG,.ref ay,.ref bq],[.d .bool],λa=>jM n a.1 a.2.1 a.2.2.1,none⟩
theorem Ci:aJ 85 (Ch n) :=cq (au Js (au (Yz n) aB)) func85 .z n
def Mi:cp xx:=⟨[.d (.st SI.kA),.ek [aG] .bool],[.d .bool],λa=>gK n a.1 a.2.1,none⟩
theorem zG:aJ 54 (Mi n) :=cq (au (qV n) aB) func54 .z n
def Cj:cp xx:=⟨[.d aG,.ref bq],[.d .bool],λa=>jN a.1 a.2.1,none⟩
theorem Ck:aJ 87 Cj :=cq aB func87 .z 0
def anl:cp xx:=⟨[.d ay,.d ay],[.d ah,.d ah],λa=>al8 a.1 a.2.1,none⟩
theorem anm:aJ 206 anl :=cq aB func206 .z 0
def aoV:cp xx:=⟨[.d ay,.d ay],[.d ah],λa=>OK a.1 a.2.1,none⟩
def aoW:Hn SI:=(.s .z (.s (.s (.j ⟨[(14,.v .bool)],[],[2,3],[1000,1064],1192,[]⟩ .z) .z) .z))
theorem aoX:aJ 148 aoV :=cq (au oJ (au anm aB)) func148 aoW 0
def DU:cp xx:=⟨[.d (.st SI.gz),.ref (.st SI.kA),.ref aG,.ref bq],[.d .bool],λa=>dV a.1 a.2.1 a.2.2.1 a.2.2.2.1,none⟩
def DW:Hn SI:=(cy (.s (.s (.j ⟨[(32,.v .bool)],[],[2,3,6],[1256],1384,[]⟩ .z) .z) (.s (.j ⟨[(7,.v .bool)],[],[2,3,6],[1256],1384,[]⟩ .z) .z)))
theorem DX:aJ 147 DU :=cq (au oJ (au aoX aB)) func147 DW 0
def GX:cp xx:=⟨[.d (.sl (.st SI.gz)),.ek [.st SI.gz] .bool],[.d ah],λa=>qC n a.1 a.2.1,none⟩
def GY:Hn SI:=(.s .z (.s (.s .z (.b (.lx ⟨[(8,.v ah)],[],[0,1,7],[],1256,[]⟩ 0 ⟨[],[],[],[],1256,[]⟩ .z))) .z))
theorem GZ:aJ 205 (GX n) :=cq aB func205 GY n
def Cm:cp xx:=⟨[.d (.sl (.st SI.gz)),.ek [.st SI.gz] .bool],[.d .bool],λa=>jO n a.1 a.2.1,none⟩
theorem Cn:aJ 146 (Cm n) :=cq (au (GZ n) aB) func146 .z n
def Jw:cp xx:=⟨[.d (.st SI.kA),.d bq,.d aG],[.d .bool],λa=>rP n a.1 a.2.1 a.2.2.1,none⟩
theorem Jy:aJ 89 (Jw n) :=cq (au (Cn n) (au DX aB)) func89 .z n
def Co:cp xx:=⟨[.d aG,.ref (.st SI.kA),.ref bq],[.d .bool],λa=>jP n a.1 a.2.1 a.2.2.1,none⟩
theorem Cq:aJ 88 (Co n) :=cq (au (Jy n) aB) func88 .z n
def G5:cp xx:=⟨[.d (.st SI.kA),.d bq],[.d .bool],λa=>mQ n a.1 a.2.1,none⟩
theorem G6:aJ 53 (G5 n) :=cq (au (acK n) (au (akR n) (au (Sq n) (au (zG n) (au (Ci n) (au Ck (au (Cq n) aB))))))) func53 .z n
def Uf:cp xx:=⟨[.d ay,.ref ay],[.d .bool],λa=>vN a.1 a.2.1,none⟩
theorem Ug:aJ 154 Uf :=cq aB func154 .z 0
def KL:cp xx:=⟨[.d (.sl ay),.ek [ay] .bool],[.d ah],λa=>uf n a.1 a.2.1,none⟩
def KM:Hn SI:=(.s .z (.s (.s .z (.b (.lx ⟨[(8,.v ah)],[],[0,1,7],[],1256,[]⟩ 0 ⟨[],[],[],[],1256,[]⟩ .z))) .z))
theorem KN:aJ 207 (KL n) :=cq aB func207 KM n
def FB:cp xx:=⟨[.d (.sl ay),.ek [ay] .bool],[.d .bool],λa=>iY n a.1 a.2.1,none⟩
theorem uK:aJ 152 (FB n) :=cq (au (KN n) aB) func152 .z n
def acM:cp xx:=⟨[.d ay,.ref (.sl ay)],[.d .bool],λa=>EM n a.1 a.2.1,none⟩
theorem acN:aJ 153 (acM n) :=cq (au (uK n) (au Ug aB)) func153 .z n
def akU:cp xx:=⟨[.d (.sl ay),.d (.sl ay)],[.d .bool],λa=>UF n a.1 a.2.1,none⟩
theorem akV:aJ 94 (akU n) :=cq (au (uK n) (au (acN n) aB)) func94 .z n
def Uh:cp xx:=⟨[.d (.st SI.lj),.ref (.st SI.fm)],[.d .bool],λa=>qL n a.1 a.2.1,none⟩
theorem Ui:aJ 93 (Uh n) :=cq (au (akV n) aB) func93 .z n
def acO:cp xx:=⟨[.d (.sl (.st SI.fm)),.d ah,.d (.sl (.st SI.lj))],[.d .bool],λa=>EN n a.1 a.2.1 a.2.2.1,none⟩
def acP:Hn SI:=(cy (.s (.s .z (.b (.lx ⟨[(14,.v ah)],[],[1,2,12,13],[],1448,[]⟩ 0 ⟨[],[],[],[],1448,[]⟩ (cy (.s (.jx ⟨[],[],[1,2,12,13,14],[],1512,[]⟩ (.b (.s .z (.s (.s (.j ⟨[(27,.v .bool)],[],[1,2,8,12,13,14],[1640],1768,[]⟩ .z) .z) .z)))) .z))))) .z))
theorem acQ:aJ 56 (acO n) :=cq (au (Yt n) (au (pM n) (au (uJ n) (au (Ui n) aB)))) func56 acP n
def Mj:cp xx:=⟨[.d aG,.ref (.st SI.kw),.ref (.st SI.ef)],[.d .bool],λa=>mY n a.1 a.2.1 a.2.2.1,none⟩
theorem Mk:aJ 55 (Mj n) :=cq (au Js (au (acQ n) aB)) func55 .z n
def G7:df xx:=⟨[.v .str,.v .bool,.p 0],[(0,qr),(1,.l .str)],[],[(0,.c 1 [[.o 1000]]),(1000,.l .str)],λv=>jv n v.1 v.2.1 v.2.2⟩
def G8:cp xx:=⟨[],[.d .bool],λ_=>none,some (G7 n)⟩
def G9:Hn SI:=(.s (.j ⟨[(11,.v .bool)],[],[0,2],[0,1],1000,[]⟩ .z) .z)
theorem He:aJ 51 (G8 n) :=oA (au (pO n) aB) func51 G9 n (by kernel_rfl) λ_=>by kernel_rfl
def Uj:cp xx:=⟨[.d (.st SI.kw),.d (.st SI.ef),.d ah],[.fresh .str,.d ah],λa=>oI n a.1 a.2.1 a.2.2.1,none⟩
def Uk:Hn SI:=(wx (.s (.s .z (.b (.l ⟨[(31,.v ah)],[(1960,.c 1 [[.o 2664]]),(2664,.l .str)],[3,4,8,10,11,29,30],[1000,1064,1640,2472],2665,[(9028160,.str)]⟩ 0 ⟨[],[(1960,.c 1 [[.o 2664]]),(2664,.l .str)],[3,4,8,10,11],[1000,1064,1640],2665,[]⟩ .z))) .z))
theorem FY:aJ 28 (Uj n) :=cq (au (Zk n) (au (Jk n) (au (G6 n) (au (He n) (au (zG n) (au (Mk n) aB)))))) func28 Uk n
def Ul:cp xx:=⟨[.d (.st SI.kw),.d (.st SI.ef),.d ah],[.d .bool],λa=>mF n a.1 a.2.1 a.2.2.1,none⟩
theorem Um:aJ 32 (Ul n) :=cq (au (FY n) aB) func32 .z n
def DY:cp xx:=⟨[.d eO,.ref (.st SI.io),.ref gG],[.d .bool],λa=>iH n a.1 a.2.1 a.2.2.1,none⟩
theorem DZ:aJ 31 (DY n) :=cq (au (Yg n) (au (Um n) aB)) func31 .z n
def Jz:cp xx:=⟨[.d (.sl eO),.ek [eO] .bool],[.d ah],λa=>rQ n a.1 a.2.1,none⟩
def JA:Hn SI:=(.s .z (.s (.s .z (.b (.lx ⟨[(8,.v ah)],[],[0,1,7],[],1256,[]⟩ 0 ⟨[],[],[],[],1256,[]⟩ .z))) .z))
theorem JB:aJ 30 (Jz n) :=cq aB func30 JA n
def JC:cp xx:=⟨[.d (.st SI.io),.d gG,.d (.sl eO)],[.d eO,.d .bool],λa=>iP n a.1 a.2.1 a.2.2.1,none⟩
theorem wT:aJ 18 (JC n) :=cq (au (JB n) (au (DZ n) aB)) func18 .z n
def KO:cp xx:=⟨[.d (.st SI.io),.d gG],[.d (.st SI.Finding),.d .bool],λa=>lU n a.1 a.2.1,none⟩
def KP:Hn SI:=(gA (.s (.f [3]) (cy (.s (.j ⟨[],[(1448,.c 9 [[.v ah,.v ah,.o 3560,.v ah,.v ah,.v ah,.v ah,.v ah,.v ah]]),(3560,.l .str)],[4,6],[1128],3561,[(6931010,.str)]⟩ .z) .z))))
theorem KQ:aJ 15 (KO n) :=cq (au (Sn n) (au (Jk n) (au (Dp n) (au (wT n) (au (Yg n) (au (FY n) aB)))))) func15 KP n
def afF:cp xx:=⟨[.d (.st SI.kw),.d ah],[.fresh (.st SI.Finding)],λa=>fO n a.1 a.2.1,none⟩
def afG:Hn SI:=(sE (.s (.s .z (.b (.l ⟨[(6,.o 2024),(21,.v ah)],[(1640,.m ah .bool),(2024,.l (.st SI.Finding))],[5,7,19,20],[1320],2025,[]⟩ 0 ⟨[(6,.o 2024)],[(2024,.l (.st SI.Finding))],[],[],2025,[]⟩ (cy (.s (.j ⟨[(6,.o 2089)],[(1640,.m ah .bool),(2089,.l (.st SI.Finding))],[5,7,19,20,21],[1320],2090,[]⟩ .z) .z))))) .z))
theorem JD:aJ 6 (afF n) :=cq (au (Fx n) (au (KQ n) aB)) func6 afG n
def Un:cp xx:=⟨[.d gG,.ref ah],[.d .bool],λa=>vP a.1 a.2.1,none⟩
theorem Uo:aJ 17 Un :=cq aB func17 .z 0
def Ml:cp xx:=⟨[.d (.sl gG),.ek [gG] .bool],[.d ah],λa=>vv n a.1 a.2.1,none⟩
def Mq:Hn SI:=(.s .z (.s (.s .z (.b (.lx ⟨[(8,.v ah)],[],[0,1,7],[],1256,[]⟩ 0 ⟨[],[],[],[],1256,[]⟩ .z))) .z))
theorem Mr:aJ 16 (Ml n) :=cq aB func16 Mq n
def acR:cp xx:=⟨[.d (.st SI.kw),.d ah,.d ah],[.d eO,.d .bool],λa=>rR n a.1 a.2.1 a.2.2.1,none⟩
theorem Ph:aJ 7 (acR n) :=cq (au (Mr n) (au Uo (au (Dp n) (au (wT n) aB)))) func7 .z n
def Rc:cp xx:=⟨[.d ah,.ref ah,.jz .bool,.jz ah],[.mr .bool,.mr ah],λa=>yY a.1 a.2.1 a.2.2.1 a.2.2.2.1,none⟩
def Rf:Hn SI:=(.s (.j ⟨[(16,.v .bool)],[],[0,2,3],[0,1],1000,[]⟩ .z) .z)
theorem Rh:aJ 40 Rc :=cq aB func40 Rf 0
def Zw:cp xx:=⟨[.d iM,.d ah],[.d ah,.d .bool],λa=>Au n a.1 a.2.1,none⟩
def Zx:Hn SI:=(gA (.s (.s .z (.b (.l ⟨[(15,.v ah)],[(1256,.c 1 [[.v ah]]),(1320,.c 1 [[.v .bool]])],[6,7,8,13,14],[1064],1896,[]⟩ 0 ⟨[],[(1256,.c 1 [[.v ah]]),(1320,.c 1 [[.v .bool]])],[6,7],[],1896,[]⟩ (cy (.s (.j ⟨[],[(1256,.c 1 [[.v ah]]),(1320,.c 1 [[.v .bool]])],[6,7,8,13,14,15],[1064],1960,[]⟩ .z) .z))))) .z))
theorem Zy:aJ 20 (Zw n) :=cq (au Rh aB) func20 Zx n
def afH:cp xx:=⟨[.d (.st SI.kw),.d ah,.d ah],[.d ah,.d .bool],λa=>J5 n a.1 a.2.1 a.2.2.1,none⟩
def afI:Hn SI:=(.s .z (.s (.s .z (.b (.lx ⟨[(8,.v ah),(9,.v .bool)],[],[2,3],[1000],1384,[]⟩ 0 ⟨[],[],[],[],1384,[]⟩ (.s (.s (.j ⟨[(16,.v .bool)],[],[2,3,8],[1000],1384,[]⟩ .z) .z) .z)))) .z))
theorem afJ:aJ 10 (afH n) :=cq (au (JD n) (au (Zy n) aB)) func10 afI n
def afK:cp xx:=⟨[.d (.sl .str),.d (.sl .str)],[.d .bool],λa=>J6 n a.1 a.2.1,none⟩
def afL:Hn SI:=(cy (.s (.s .z (.b (.lx ⟨[(5,.v ah)],[],[0,1],[],1448,[]⟩ 0 ⟨[],[],[],[],1448,[]⟩ .z))) .z))
theorem afM:aJ 21 (afK n) :=cq aB func21 afL n
def ahZ:cp xx:=⟨[.d (.sl (.st SI.Finding)),.d (.sl (.st SI.Finding))],[.d .bool],λa=>C9 n a.1 a.2.1,none⟩
def ah0:Hn SI:=(cy (.s (.s .z (.b (.lx ⟨[(5,.v ah)],[],[0,1],[],1448,[]⟩ 0 ⟨[],[],[],[],1448,[]⟩ (.s .z (.s (.b (.s (.j ⟨[(80,.v .bool)],[],[0,1,5],[],1704,[]⟩ .z) .z)) .z))))) .z))
theorem ah1:aJ 11 (ahZ n) :=cq (au (afM n) aB) func11 ah0 n
def afN:cp xx:=⟨[],[.d .bool],λ_=>Da n,none⟩
def afO:Hn SI:=(Hd (.s (.j ⟨[(11,.v .bool)],[],[4,5,9,10],[2344,2664,3048],4456,[]⟩ .z) (.s (.j ⟨[(12,.v .bool)],[],[11],[],4456,[]⟩ .z) .z)))
theorem afP:aJ 4 (afN n) :=cq (au acA (au ahv (au (JD n) (au (Ph n) (au (afJ n) (au (ah1 n) aB)))))) func4 afO n
def ah2:Hn SI:=(cy (.s (.s .z (.b (.l ⟨[(3,.v ah),(4,.v ah)],[],[1],[1000],1256,[]⟩ 0 ⟨[(3,.v ah)],[],[],[],1256,[]⟩ .z))) .z))
theorem afQ(rc:(cB)->J Int)(hr:aJ 22 (IB rc)):aJ 22 (IB (EO n rc)) :=cq (au hr aB) func22 ah2 n
theorem Sv(n:Nat):∀m,aJ 22 (IB (vw n m))
 | 0=>zz (nk func22 (by kernel_rfl:Tryz.f22.body=some (Tryz.f22.body.getD .skip)) (by kernel_rfl)) (λ _ _ h=>(by cases h)) rfl
 |m+1=>afQ n _ (Sv n m)
def ah3:cp xx:=⟨[.d (.st SI.Expr)],[.d ah],λa=>IC n a.1,none⟩
theorem ah4:aJ 22 (ah3 n):=Sv n n
def Zz:cp xx:=⟨[.d iM],[.d .bool],λa=>wM n a.1,none⟩
def ZA:Hn SI:=(.s .z (.s (.s (.j ⟨[(35,.v .bool)],[],[1],[1000],1128,[]⟩ .z) .z) (.s (.s .z (.b (.lx ⟨[(3,.v ah)],[],[1],[1000],1192,[]⟩ 0 ⟨[],[],[1],[1000],1192,[]⟩ .z))) (.s (.s .z (.b (.lx ⟨[(4,.v ah)],[],[1],[1000],1256,[]⟩ 2 ⟨[],[],[1],[1000],1256,[]⟩ (.s .z (.s (.b (.s (.j ⟨[(85,.v .bool)],[],[1,4],[1000],1576,[]⟩ .z) .z)) .z))))) (.s (.s .z (.b (.lx ⟨[(5,.v ah)],[],[1],[1000],1320,[]⟩ 4 ⟨[],[],[1],[1000],1320,[]⟩ .z))) (.s (.s .z (.b (.lx ⟨[(6,.v ah)],[],[1],[1000],1384,[]⟩ 6 ⟨[],[],[1],[1000],1384,[]⟩ .z))) (.s (.s .z (.b (.lx ⟨[(7,.v ah)],[],[1],[1000],1448,[]⟩ 8 ⟨[],[],[],[],1448,[]⟩ .z))) .z)))))))
theorem ZB:aJ 12 (Zz n) :=cq (au (ah4 n) aB) func12 ZA n
def Uq:cp xx:=⟨[.d ay],[.d .bool],λa=>vQ a.1,none⟩
theorem Ur:aJ 109 Uq :=cq aB func109 .z 0
def acS:cp xx:=⟨[.d (.sl ah)],[.fresh ah],λa=>EP n a.1,none⟩
def acT:Hn SI:=(cy (.s (.s .z (.b (.l ⟨[(3,.o 1192),(4,.v ah)],[(1192,.l ah)],[0],[],1193,[(3,ah)]⟩ 0 ⟨[(3,.o 1192)],[(1192,.l ah)],[],[],1193,[]⟩ (.s .z (.s (.j ⟨[(3,.o 1449)],[(1449,.l ah)],[0,4],[],1450,[]⟩ (.b (.s .z (.s (.b (.l ⟨[(5,.v ah)],[],[0,3,4],[1192],1641,[]⟩ 2 ⟨[(5,.v ah)],[],[0,3,4],[1192],1641,[]⟩ (.s (.s (.j ⟨[(28,.v .bool)],[],[0,3,4,5],[1192],1641,[]⟩ .z) .z) .z))) (.s (.s (.j ⟨[(44,.v .bool)],[],[0,3,4,5],[1192],1641,[]⟩ .z) .z) (.s .z (.s (.s .z (.b (.l ⟨[(6,.v ah)],[(1769,.l ah)],[0,3,4,5],[],2153,[]⟩ 4 ⟨[],[(1769,.l ah)],[0,3,4,5],[],2153,[]⟩ .z))) .z))))))) .z))))) .z))
theorem acU:aJ 216 (acS n) :=cq aB func216 acT n
def afR:cp xx:=⟨[.d (.sl ay),.d (.sl ay)],[.fresh ah],λa=>J7 n a.1 a.2.1,none⟩
def afS:Hn SI:=(cy (.s (.s .z (.b (.l ⟨[(5,.o 1192),(6,.v ah)],[(1192,.l ah)],[0,1],[],1193,[(5,ah)]⟩ 0 ⟨[(5,.o 1192)],[(1192,.l ah)],[1],[],1193,[]⟩ .z))) (.s (.s .z (.b (.l ⟨[(5,.o 1257),(7,.v ah)],[(1257,.l ah)],[1],[],1258,[]⟩ 2 ⟨[(5,.o 1257)],[(1257,.l ah)],[],[],1258,[]⟩ .z))) .z)))
theorem afT:aJ 165 (afR n) :=cq (au (acU n) aB) func165 afS n
def acV:cp xx:=⟨[.d (.sl ay),.d ah],[.fresh ah],λa=>yZ n a.1 a.2.1,none⟩
def acW:Hn SI:=(gA (.s (.s .z (.b (.l ⟨[(5,.o 1256),(6,.o 1257),(7,.v ah)],[(1256,.l ah),(1257,.l ah)],[0,1],[],1258,[(5,ah),(6,ah)]⟩ 0 ⟨[(5,.o 1256),(6,.o 1257)],[(1256,.l ah),(1257,.l ah)],[],[],1258,[]⟩ (.s .z (.s (.j ⟨[(5,.o 1514),(6,.o 1515)],[(1514,.l ah),(1515,.l ah)],[0,1,7],[],1516,[]⟩ (.b (.s (.s (.j ⟨[(32,.v .bool)],[],[0,1,5,6,7],[1256,1257],1514,[]⟩ .z) .z) (gA (.s (.b (.l ⟨[(8,.v ah)],[(1834,.l ah),(2090,.l ah)],[0,1,5,6,7],[],2218,[]⟩ 2 ⟨[(8,.v ah)],[(1834,.l ah),(2090,.l ah)],[0,1,5,6,7],[],2218,[]⟩ (.s (.s (.j ⟨[(55,.v .bool)],[],[0,1,5,6,7,8],[1834,2090],2218,[]⟩ .z) .z) .z))) .z))))) .z))))) (.s .z (.s (.s .z (.b (.l ⟨[(9,.o 1386),(10,.v ah)],[(1386,.l ah)],[5,6],[1256,1257],1387,[(9,ah)]⟩ 4 ⟨[(9,.o 1386)],[(1386,.l ah)],[],[],1387,[]⟩ (.s .z (.s (.j ⟨[(9,.o 1643)],[(1643,.l ah)],[5,6,10],[1256,1257],1644,[]⟩ (.b (.s (.s (.j ⟨[(111,.v .bool)],[],[5,6,9,10],[1256,1257,1386],1643,[]⟩ .z) .z) .z))) .z))))) .z))))
theorem acX:aJ 167 (acV n) :=cq aB func167 acW n
def ZC:cp xx:=⟨[.d (.sl ah),.d (.sl ah),.d ah],[.fresh ah],λa=>Ay n a.1 a.2.1 a.2.2.1,none⟩
def ZE:Hn SI:=(wx (.s (.b (.l ⟨[(7,.o 1320),(8,.v ah),(9,.v ah),(10,.v .bool)],[(1320,.l ah)],[0,1,2],[],1321,[(7,ah)]⟩ 0 ⟨[(7,.o 1320)],[(1320,.l ah)],[],[],1321,[]⟩ (.s (.s (.j ⟨[(24,.v .bool)],[],[0,1,2,7,8,9,10],[1320],1321,[]⟩ .z) .z) (.b (.s .z (.s (.j ⟨[(11,.v ah)],[],[0,1,2,7,8,9,10],[1320],1385,[]⟩ (.s (.j ⟨[(49,.v .bool)],[],[0,1,2,7,8,9,10],[1320],1385,[]⟩ .z) .z)) (.s (.j ⟨[(8,.v ah)],[],[0,1,2,7,9,10,11],[1320],1385,[]⟩ (.s (.j ⟨[(69,.v .bool)],[],[0,1,2,7,8,9,10,11],[1320],1385,[]⟩ .z) .z)) (.s (.j ⟨[(9,.v ah)],[],[0,1,2,7,8,10,11],[1320],1385,[]⟩ (.s (.j ⟨[(83,.v .bool)],[],[0,1,2,7,8,9,10,11],[1320],1385,[]⟩ .z) .z)) (cy (.s (.j ⟨[(14,.v .bool)],[],[0,1,2,7,8,9,10,11,12,13],[1320],1897,[]⟩ .z) (.s (.j ⟨[(14,.v .bool)],[],[0,1,2,7,8,9,10,11,12,13],[1320],1897,[]⟩ .z) (.s (.j ⟨[(14,.v .bool)],[],[0,1,2,7,8,9,10,11],[1320],1897,[]⟩ .z) (.s (.j ⟨[(7,.o 1897)],[(1897,.l ah)],[0,1,2,8,9,14],[],1898,[]⟩ .z) .z))))))))))))) .z))
theorem ZF:aJ 166 (ZC n) :=cq aB func166 ZE n
def ah5:cp xx:=⟨[.d (.sl ah),.d (.sl ah)],[.d .bool],λa=>NZ n a.1 a.2.1,none⟩
def ah6:Hn SI:=(cy (.s (.s .z (.b (.lx ⟨[(5,.v ah)],[],[0,1],[],1448,[]⟩ 0 ⟨[],[],[],[],1448,[]⟩ .z))) .z))
theorem ah7:aJ 168 (ah5 n) :=cq aB func168 ah6 n
def ah8:cp xx:=⟨[.d (.sl ay),.d (.sl ay),.d ah],[.fresh ay],λa=>N7 n a.1 a.2.1 a.2.2.1,none⟩
def ah9:Hn SI:=(wx (.s (.s .z (.b (.l ⟨[(7,.o 1576),(9,.o 1577),(10,.v ah),(11,.v ah)],[(1576,.l ay),(1577,.l ah)],[0,1,2,8],[1256],1578,[(7,ay),(9,ah)]⟩ 0 ⟨[(7,.o 1576)],[(1576,.l ay)],[],[],1577,[]⟩ (.s .z (.s (.j ⟨[(7,.o 1898),(9,.o 1899),(10,.v ah)],[(1898,.l ay),(1899,.l ah)],[0,1,2,8,11],[1256],1900,[]⟩ (.b (.s .z (.s (.s (.j ⟨[(50,.v .bool)],[],[0,1,2,7,8,9,10,11,12],[1256,1576,1577,2730],2858,[]⟩ .z) (.s (.s (.s .z (.b (.l ⟨[(13,.v ah)],[(1576,.l ay)],[0,1,2,7,8,9,10,11],[1256,1577],2986,[]⟩ 2 ⟨[],[(1576,.l ay)],[0,1,2,7,8,9,10,11],[1256,1577],2986,[]⟩ .z))) .z) .z)) (gA (.b (.l ⟨[(7,.o 3242),(14,.v ah)],[(3242,.l ay)],[0,1,2,8,9,10,11,12],[1256,2730],3243,[]⟩ 4 ⟨[(7,.o 3242)],[(3242,.l ay)],[0,1,2,8,9,10,11],[1256,2730],3243,[]⟩ .z))))))) .z))))) .z))
theorem aia:aJ 110 (ah8 n) :=cq (au (afT n) (au (acX n) (au (ZF n) (au (ah7 n) aB)))) func110 ah9 n
def ano:cp xx:=⟨[.d (.sl ay)],[.fresh ay,.d ah],λa=>PF n a.1,none⟩
def anp:Hn SI:=(.s .z (.s (.s .z (.b (.lx ⟨[(4,.v ah)],[],[0],[],1192,[]⟩ 0 ⟨[],[],[0],[],1192,[]⟩ .z))) .z))
theorem anq:aJ 67 (ano n) :=cq (au Ur (au (aia n) aB)) func67 anp n
def aib:cp xx:=⟨[.d (.sl ay),.d (.sl ay)],[.d .bool],λa=>N8 n a.1 a.2.1,none⟩
def aic:Hn SI:=(cy (.s (.s .z (.b (.lx ⟨[(5,.v ah)],[],[0,1],[],1448,[]⟩ 0 ⟨[],[],[],[],1448,[]⟩ .z))) .z))
theorem aid:aJ 68 (aib n) :=cq aB func68 aic n
def afU:cp xx:=⟨[.d (.sl ay)],[.d .bool],λa=>J9 n a.1,none⟩
theorem afV:aJ 41 (afU n) :=cq (au (anq n) (au (aid n) aB)) func41 .z n
def acY:cp xx:=⟨[.d (.sl ay)],[.d ay,.d .bool],λa=>ER n a.1,none⟩
def acZ:Hn SI:=(.s .z (.s (.s (.j ⟨[(13,.v .bool)],[],[0,2],[1000],1128,[]⟩ .z) .z) (.s .z (.s (.s .z (.b (.l ⟨[(5,.v ah)],[(1320,ux)],[0,2,4],[1000],1512,[]⟩ 0 ⟨[],[(1320,ux)],[2,4],[1000],1512,[]⟩ .z))) .z))))
theorem ac0:aJ 23 (acY n) :=cq (au (afV n) aB) func23 acZ n
def ac1:cp xx:=⟨[.d gG],[.d .bool],λa=>ES n a.1,none⟩
theorem ac2:aJ 13 (ac1 n) :=cq (au (ac0 n) aB) func13 .z n
def akW:cp xx:=⟨[.d (.st SI.kw)],[.d .bool],λa=>UG n a.1,none⟩
def akX:Hn SI:=(.s .z (.s (.s (.j ⟨[(26,.v .bool)],[],[1],[1000],1128,[]⟩ .z) .z) (.s (.s .z (.b (.lx ⟨[(3,.v ah)],[],[1],[1000],1192,[]⟩ 0 ⟨[],[],[1],[1000],1192,[]⟩ .z))) (.s (.s .z (.b (.lx ⟨[(4,.v ah)],[],[1],[1000],1256,[]⟩ 2 ⟨[],[],[],[],1256,[]⟩ .z))) .z))))
theorem akY:aJ 5 (akW n) :=cq (au (ZB n) (au (ac2 n) aB)) func5 akX n
def Ri:cp xx:=⟨[.d (.st SI.kw),.d ah],[.d .bool],λa=>uw n a.1 a.2.1,none⟩
def Rj:Hn SI:=(cy (.s (.s (.j ⟨[(31,.v .bool)],[],[1,2,5],[1000],1256,[]⟩ .z) .z) (sE (.s (.s .z (.b (.lx ⟨[(9,.v ah)],[],[1,2,5,7,8],[1000,2344,2600],2792,[]⟩ 0 ⟨[],[],[5,7,8],[2344,2600],2792,[]⟩ (.s .z (.s (.b (gA (.s (.j ⟨[(77,.v .bool)],[],[1,2,5,7,8,9],[1000,2344,2600],4328,[]⟩ .z) .z))) .z))))) (.s (.s .z (.b (.lx ⟨[(13,.v ah)],[],[5,7,8],[2344,2600],2856,[]⟩ 2 ⟨[],[],[5],[],2856,[]⟩ (.s .z (.s (.b (cy (.s (.s .z (.b (.l ⟨[(15,.v .bool),(16,.v ah)],[],[5,7,8,13,14],[2344,2600,3368],3816,[]⟩ 4 ⟨[(15,.v .bool)],[],[5,7,8,13],[2344,2600],3816,[]⟩ (.s .z (.s (.j ⟨[(15,.v .bool)],[],[5,7,8,13,14,16],[2344,2600,3368],4072,[]⟩ .z) .z))))) .z))) .z))))) .z)))))
theorem Rk:aJ 3 (Ri n) :=cq (au (afP n) (au (akY n) (au (JD n) (au (Ph n) aB)))) func3 Rj n
end
end Go.Proofs
