import Derived.Test.YthkmffljjjfbjaaGreatTC1
namespace Go.Proofs
open Go.Gb Go.RowKit
open Tryz
noncomputable section
variable (n:Nat)
def xq:cN xx:=⟨[.v ai,.p 0],[(0,pg),(1,.l .bool)],[.v .bool],[(0,pg),(1,.l .bool)],λv=>lg v.1 v.2⟩
def xu:ca xx:=⟨[],[.d .bool],λ_=>none,some (xq)⟩
theorem xw:aK 170 xu :=mT aD func170 .z 0 (by kernel_rfl) λ_=>by kernel_rfl
def Eg:cN xx:=⟨[.v (.sl ai),(.f 170 [] [.p 0])],[(0,pg),(1,.l .bool)],[.v ai],[(0,pg),(1,.l .bool)],λv=>lK n v.1 v.2⟩
def Eh:ca xx:=⟨[],[.d .bool],λ_=>none,some (Eg n)⟩
def Ei:Hn SI:=(.s .z (.s (.s .z (.b (.lx ⟨[(8,.v ai)],[(0,pg),(1,.l .bool)],[0,1,7],[],1256,[]⟩ 0 ⟨[],[(0,pg),(1,.l .bool)],[],[],1256,[]⟩ .z))) .z))
theorem Ej:aK 206 (Eh n) :=mT (au xw aD) func206 Ei n (by kernel_rfl) λ_=>by kernel_rfl
def zP:cN xx:=⟨[.v (.sl ai),(.f 170 [] [.p 0])],[(0,pg),(1,.l .bool)],[.v .bool],[(0,pg),(1,.l .bool)],λv=>gL n v.1 v.2⟩
def zQ:ca xx:=⟨[],[.d .bool],λ_=>none,some (zP n)⟩
theorem zR:aK 169 (zQ n) :=mT (au (Ej n) aD) func169 .z n (by kernel_rfl) λ_=>by kernel_rfl
def FU:ca xx:=⟨[.ref (.st SI.graph)],[.fresh ai],λa=>mF n a.1,none⟩
def FV:Hn SI:=(hZ (.s (.s .z (.b (.l ⟨[(4,.o 2024),(20,.v ai)],[(1448,tI),(2024,.l ai),(1384,.l .bool)],[0,3,19],[],2025,[(4,ai)]⟩ 0 ⟨[(4,.o 2024)],[(2024,.l ai)],[],[],2025,[]⟩ (cj (.s (.b (.s .z (.s (.s .z (.b (.l ⟨[(5,.v ai),(27,.v ai)],[(1448,tI),(1384,.l .bool)],[0,3,4,19,20,25,26],[2024],2537,[]⟩ 2 ⟨[(5,.v ai)],[(1448,tI),(1384,.l .bool)],[0,3,4,19,20],[2024],2537,[]⟩ (cj (.s (.j ⟨[(5,.v ai)],[(1448,tI),(1384,.l .bool)],[0,3,4,19,20,25,26,27],[2024],2601,[]⟩ (.b (cj (.s (.j ⟨[(66,.v .bool)],[],[0,3,4,5,6,19,20,25,26,27],[1384,1448,2024],3177,[]⟩ .z) .z)))) .z))))) .z))) .z))))) .z))
theorem FW:aK 134 (FU n) :=cq (au (zR n) aD) func134 FV n
def zS:cN xx:=⟨[.p 0,.v ai],[(0,pP)],[.oz 1000],[(0,pP),(1000,.l .str)],λv=>jo n v.1 v.2.1 v.2.2⟩
def zT:ca xx:=⟨[],[.d .bool],λ_=>none,some (zS n)⟩
def zU:Hn SI:=(tM (.b (.lx ⟨[(6,.o 1512),(7,.v ai)],[(1512,.l .str)],[0,1,5],[0,1192],1513,[(6,.str)]⟩ 999999 ⟨[],[],[],[],1512,[]⟩ (.b (cj (.s (.s .z (.b (.l ⟨[(8,.v ai),(34,.v ai)],[],[0,1,5,6,32,33],[0,1192,2153],2921,[]⟩ 2 ⟨[(8,.v ai)],[],[0,1,5,6],[0,1192,2153],2921,[]⟩ (cj (.s (.j ⟨[(8,.v ai)],[],[0,1,5,6,32,33,34],[0,1192,2153],2985,[]⟩ (.b (.s .z (.s (.j ⟨[(57,.v .bool)],[],[0,1,5,6,8,10,32,33,34],[0,1192,2153],3177,[]⟩ .z) .z)))) .z))))) .z))))))
theorem zV:aK 167 (zT n) :=mT (au (zO n) aD) func167 zU n (by kernel_rfl) λ_=>by kernel_rfl
def xA:cN xx:=⟨[.p 0],[(0,pP)],[.oz 1000],[(0,pP),(1000,.l .str)],λv=>iB n v.1 v.2⟩
def xB:ca xx:=⟨[],[.d .bool],λ_=>none,some (xA n)⟩
def xC:Hn SI:=(cj (.s (.s .z (.b (.l ⟨[(3,.oz 1512),(11,.v ai)],[(0,pP),(1512,.l .str)],[0,10],[],1513,[(1099511627779,.str)]⟩ 0 ⟨[(3,.oz 1512)],[(0,pP),(1512,.l .str)],[],[],1513,[]⟩ (cj (.s (.j ⟨[(3,.oz 1577)],[(0,pP),(1577,.l .str)],[0,10,11],[],1578,[]⟩ (.b (cj (.s (.s (.j ⟨[(18,.v .bool)],[],[0,3,5,10,11],[0,1512,1833],1961,[]⟩ .z) .z) (.s (.j ⟨[(40,.v .bool)],[],[0,3,5,10,11],[0,1512,1833],1961,[]⟩ .z) .z))))) .z))))) .z))
theorem xD:aK 133 (xB n) :=mT (au (zV n) (au (G8 n) aD)) func133 xC n (by kernel_rfl) λ_=>by kernel_rfl
def Uv:ca xx:=⟨[.d (.st SI.kf)],[.fresh ai,.d (.sl .str),.d ai],λa=>mG n a.1,none⟩
def Uw:Hn SI:=(cj (.s (.s .z (.b (.l ⟨[(15,.v ai)],[(1256,.m .str .bool)],[1,5,13,14],[1000,1384],1576,[]⟩ 0 ⟨[],[(1256,.m .str .bool)],[1,5],[1000],1576,[]⟩ .z))) (.s (.s .z (.b (.lx ⟨[(25,.v ai)],[(1256,.m .str .bool)],[1,5,23,24],[1000],1832,[]⟩ 2 ⟨[],[],[1],[1000],1832,[]⟩ .z))) (.s .z (.s (.s .z (.s (.j ⟨[(43,.v .bool)],[],[10,11],[1960,2152],2280,[]⟩ .z) .z)) .z)))))
theorem Ux:aK 96 (Uv n) :=cq (au Lj (au Lm (au (xD n) (au (FW n) aD)))) func96 Uw n
def G9:ca xx:=⟨[.d aX,.ref (.st SI.Expr)],[.d .bool],λa=>yD a.1 a.2.1,none⟩
theorem He:aK 136 G9 :=cq aD func136 .z 0
def FX:ca xx:=⟨[.d (.sl aX),.du [aX] .bool],[.d ai],λa=>qg n a.1 a.2.1,none⟩
def FY:Hn SI:=(.s .z (.s (.s .z (.b (.lx ⟨[(8,.v ai)],[],[0,1,7],[],1256,[]⟩ 0 ⟨[],[],[],[],1256,[]⟩ .z))) .z))
theorem FZ:aK 135 (FX n) :=cq aD func135 FY n
def Hf:ca xx:=⟨[.d (.st SI.Entry),.ref (.st SI.Expr)],[.d .bool],λa=>yE a.1 a.2.1,none⟩
theorem Hg:aK 138 Hf :=cq aD func138 .z 0
def ahR:ca xx:=⟨[.d .bool],[.d ai],λa=>wP a.1,none⟩
theorem abu:aK 98 ahR :=cq aD func98 .z 0
def VE:ca xx:=⟨[.d ai,.d ai],[.d ai],λa=>uG a.1 a.2.1,none⟩
def VF:Hn SI:=(hZ (.s (.j ⟨[(5,.v ai)],[],[],[],1448,[]⟩ (.s .z (.s (.j ⟨[(23,.v .bool)],[],[5],[],1704,[]⟩ .z) .z))) .z))
theorem VG:aK 139 VE :=cq aD func139 VF 0
def abv:ca xx:=⟨[.d ai,.d ai,.d ai],[.d ai],λa=>Gv a.1 a.2.1 a.2.2.1,none⟩
theorem abw:aK 99 abv :=cq (au VG (au abu aD)) func99 .z 0
def Hl:cN xx:=⟨[(.a [.v (.sl bg),.v (.sl aX),.v (.sl bA),.v (.sl aW),.v (.sl bE),.v (.sl bB),.v (.sl aU),.v ai,.mp 0,.v (.sl .str)]),.v (.st SI.Expr)],[(0,.m .str ai)],[.v ai],[(0,.m .str ai)],λv=>iR n v.1 v.2.1 v.2.2.1 v.2.2.2.1 v.2.2.2.2.1 v.2.2.2.2.2.1 v.2.2.2.2.2.2.1 v.2.2.2.2.2.2.2.1 v.2.2.2.2.2.2.2.2.1 v.2.2.2.2.2.2.2.2.2.1 v.2.2.2.2.2.2.2.2.2.2⟩
def Ho:ca xx:=⟨[],[.d .bool],λ_=>none,some (Hl n)⟩
theorem Hq:aK 97 (Ho n) :=mT (au (FZ n) (au He (au (uJ n) (au Hg aD)))) func97 .z n (by kernel_rfl) λ_=>by kernel_rfl
def El:Hn SI:=(cj (.s (.s .z (.b (.l ⟨[(5,.o 1512),(11,.v ai)],[(0,.m .str ai),(1512,.l ai)],[2,3,9,10],[1000,1064],1513,[(5,ai)]⟩ 0 ⟨[(5,.o 1512)],[(0,.m .str ai),(1512,.l ai)],[2,3],[1000,1064],1513,[]⟩ (cj (.s (.j ⟨[(5,.o 1577)],[(0,.m .str ai),(1577,.l ai)],[2,3,9,10,11],[1000,1064],1578,[]⟩ (.b (.s .z (.s (.s (.j ⟨[(31,.v .bool)],[],[2,3,5,7,9,10,11],[0,1000,1064,1512,1769],1961,[]⟩ .z) .z) .z)))) .z))))) .z))
theorem CR(rc:((List eH))->((List bS))->((List dH))->((List aO))->((List fM))->((List eD))->((List bO))->(Int)->((List ByteArray))->(bH)->((List (ByteArray×Int)))->Option (Int×(List (ByteArray×Int))))(hr:aK 56 (jq rc)):aK 56 (jq (eO n rc)) :=mT (au hr (au (Hq n) (au (nX n) (au abu (au abw aD))))) func56 El n (by kernel_rfl) λ_=>by kernel_rfl
theorem rR(n:Nat):∀m,aK 56 (jq (bQ n m))
 | 0=>NX (uj func56 (by kernel_rfl:Tryz.f56.body=some (Tryz.f56.body.getD .skip)) (by kernel_rfl)) (λ _ _ h=>(by cases h))
 |m+1=>CR n _ (rR n m)
def Em:ca xx:=jq (bQ n n)
theorem rZ:aK 56 (Em n):=rR n n
def PW:cN xx:=⟨[.v (.st SI.kf),(.v (.sl (.st SI.Entry))),.v (.sl .str)],[],[(.a [.v (.sl bg),.v (.sl aX),.v (.sl bA),.v (.sl aW),.v (.sl bE),.v (.sl bB),.v (.sl aU),.v ai,.mp 1000,.v (.sl .str)]),.o 1001],[(1000,.m .str ai),(1001,.l ai)],λv=>lq n v.1 v.2.1 v.2.2⟩
def PX:ca xx:=⟨[],[.d .bool],λ_=>none,some (PW n)⟩
def PY:Hn SI:=(hZ (.s (.s .z (.b (.l ⟨[(26,.v ai)],[(1256,.m .str ai),(1576,.m .str .bool)],[3,6,8,9,24,25],[1000,1064,1448],1896,[]⟩ 0 ⟨[],[(1256,.m .str ai),(1576,.m .str .bool)],[3,6,8,9],[1000,1064,1448],1896,[]⟩ (cj (.s (.j ⟨[],[(1256,.m .str ai),(1576,.m .str .bool)],[3,6,8,9,24,25,26],[1000,1064,1448],1960,[]⟩ .z) .z))))) (hZ (.s (.s .z (.b (.l ⟨[(61,.v ai)],[(1256,.m .str ai),(2088,.l ai)],[3,6,8,9,12,59,60],[1000,1064,1448,1576,2280],3112,[]⟩ 2 ⟨[],[(1256,.m .str ai),(2088,.l ai)],[6,8,12],[1064,1448],3112,[]⟩ (cj (.s (.j ⟨[],[(1256,.m .str ai),(2088,.l ai)],[3,6,8,9,12,59,60,61],[1000,1064,1448,1576,2280],3176,[]⟩ (.b (cj (.s (.j ⟨[],[(1256,.m .str ai),(2088,.l ai)],[3,6,8,9,12,17,18,59,60,61],[1000,1064,1448,1576,2280,3688],3816,[]⟩ .z) .z)))) .z))))) .z))))
theorem PZ:aK 55 (PX n) :=mT (au (Ux n) (au (Uq n) (au (rZ n) aD))) func55 PY n (by kernel_rfl) λ_=>by kernel_rfl
def afP:ca xx:=⟨[.d (.st SI.kf),.d (.sl (.st SI.Entry)),.d (.sl .str),.d (.st SI.Expr)],[.d ai],λa=>yF n a.1 a.2.1 a.2.2.1 a.2.2.2.1,none⟩
theorem afQ:aK 29 (afP n) :=cq (au (Uq n) (au (PZ n) (au (rZ n) aD))) func29 .z n
def adG:ca xx:=⟨[.d (.sl aA)],[.d aA,.d .bool],λa=>Kw n a.1,none⟩
def adH:Hn SI:=(.s .z (.s (.s .z (.b (.l ⟨[(3,.v .bool),(8,.v ai)],[(1000,wi)],[2,6,7],[],1320,[]⟩ 0 ⟨[(3,.v .bool)],[(1000,wi)],[2],[],1320,[]⟩ (cj (.s (.j ⟨[(3,.v .bool)],[(1000,wi)],[2,6,7,8],[],1384,[]⟩ .z) .z))))) .z))
theorem adI:aK 67 (adG n) :=cq (au oI aD) func67 adH n
def abx:ca xx:=⟨[.d (.sl aA)],[.d aA,.d .bool],λa=>Gw n a.1,none⟩
def aby:Hn SI:=(.s .z (.s (.s (.j ⟨[(11,.v .bool)],[],[0,2],[1000],1128,[]⟩ .z) .z) .z))
theorem abz:aK 31 (abx n) :=cq (au (nW n) (au (adI n) aD)) func31 aby n
def Uy:ca xx:=⟨[.d aI],[.fresh (.st SI.ke)],λa=>vF a.1,none⟩
theorem F3:aK 20 Uy :=cq aD func20 .z 0
def F4:ca xx:=⟨[.d (.sl (.st SI.fS)),.du [.st SI.fS] .bool],[.d ai],λa=>qh n a.1 a.2.1,none⟩
def F5:Hn SI:=(.s .z (.s (.s .z (.b (.lx ⟨[(8,.v ai)],[],[0,1,7],[],1256,[]⟩ 0 ⟨[],[],[],[],1256,[]⟩ .z))) .z))
theorem F6:aK 146 (F4 n) :=cq aD func146 F5 n
def Bo:ca xx:=⟨[.d (.sl (.st SI.fS)),.du [.st SI.fS] .bool],[.d .bool],λa=>jX n a.1 a.2.1,none⟩
theorem Bp:aK 113 (Bo n) :=cq (au (F6 n) aD) func113 .z n
def Uz:ca xx:=⟨[.d ai,.d ai,.d ai],[.d .bool],λa=>mH a.1 a.2.1 a.2.2.1,none⟩
theorem UA:aK 147 Uz :=cq aD func147 .z 0
def VH:ca xx:=⟨[.d (.st SI.fS)],[.d .bool],λa=>yH a.1,none⟩
theorem VI:aK 115 VH :=cq (au UA aD) func115 .z 0
def Nz:ca xx:=⟨[.d (.st SI.fS)],[.d .bool],λa=>rz a.1,none⟩
theorem NA:aK 114 Nz :=cq (au VI aD) func114 .z 0
def VJ:ca xx:=⟨[.d aA,.d (.sl (.st SI.fS))],[.d .bool],λa=>yI n a.1 a.2.1,none⟩
theorem VK:aK 68 (VJ n) :=cq (au oI (au (Bp n) (au NA aD))) func68 .z n
def afR:ca xx:=⟨[.d (.sl aA),.d (.sl aA)],[.d .bool],λa=>Qm n a.1 a.2.1,none⟩
theorem afS:aK 76 (afR n) :=cq (au (Di n) aD) func76 .z n
def adJ:ca xx:=⟨[.d (.sl (.st SI.ke))],[.d .bool],λa=>Fj n a.1,none⟩
def adK:Hn SI:=(cj (.s (.s .z (.b (.lx ⟨[(11,.v ai)],[],[0,9,10],[],1448,[]⟩ 0 ⟨[],[],[],[],1448,[]⟩ (cj (.s (.jx ⟨[],[],[0,9,10,11],[],1512,[]⟩ (.b (.s .z (.s (.s (.j ⟨[(42,.v .bool)],[],[0,3,4,9,10,11],[1704],1896,[]⟩ .z) .z) (cj (.s (.j ⟨[(68,.v .bool)],[],[0,9,10,11],[],2472,[]⟩ .z) .z)))))) .z))))) .z))
theorem UB:aK 38 (adJ n) :=cq (au (nW n) (au (afS n) aD)) func38 adK n
def Ls:ca xx:=⟨[.d aA,.d ai,.d ai],[.d (.st SI.lR)],λa=>uQ a.1 a.2.1 a.2.2.1,none⟩
theorem Lu:aK 148 Ls :=cq aD func148 .z 0
def NC:ca xx:=⟨[.d ai,.d ai],[.d ai],λa=>rC a.1 a.2.1,none⟩
def ND:Hn SI:=(cj (.s (.j ⟨[(5,.v ai)],[],[],[],1320,[]⟩ .z) .z))
theorem NE:aK 149 NC :=cq aD func149 ND 0
def abA:ca xx:=⟨[.d aA,.d (.sl (.st SI.fS)),.d ai,.d ai],[.d ai],λa=>Gx n a.1 a.2.1 a.2.2.1 a.2.2.2.1,none⟩
def abB:Hn SI:=(hZ (.s (.s .z (.b (.l ⟨[(9,.v ai),(19,.v ai)],[],[10,17,18],[1448],1768,[]⟩ 0 ⟨[(9,.v ai)],[],[],[],1768,[]⟩ .z))) .z))
theorem abC:aK 116 (abA n) :=cq (au Lu (au NE aD)) func116 abB n
def UC:ca xx:=⟨[.d aA,.d (.sl (.st SI.fS)),.d (.sl aA)],[.d ai],λa=>vH n a.1 a.2.1 a.2.2.1,none⟩
def UD:Hn SI:=(cj (.s (.s .z (.b (.l ⟨[(7,.v ai),(16,.v ai)],[],[1,3,14,15],[1000],1384,[]⟩ 0 ⟨[(7,.v ai)],[],[],[],1384,[]⟩ (cj (.s (.b (cj (.b (.l ⟨[(7,.v ai),(27,.v ai)],[],[1,3,9,14,15,16,25,26],[1000,1576,2024],2216,[]⟩ 2 ⟨[(7,.v ai)],[],[1,3,14,15,16],[1000],2216,[]⟩ (cj (.s (.b (cj (.b (.l ⟨[(7,.v ai),(38,.v ai)],[],[1,3,9,11,14,15,16,25,26,27,36,37],[1000,1576,2024,2792],2984,[]⟩ 4 ⟨[(7,.v ai)],[],[1,3,9,14,15,16,25,26,27],[1000,1576,2024],2984,[]⟩ .z)))) .z)))))) .z))))) .z))
theorem UE:aK 70 (UC n) :=cq (au (abC n) aD) func70 UD n
def Lv:ca xx:=⟨[.d (.st SI.ke),.ref aA,.ref (.sl (.st SI.fS))],[.d .bool],λa=>p8 n a.1 a.2.1 a.2.2.1,none⟩
theorem Lx:aK 69 (Lv n) :=cq (au (UE n) aD) func69 .z n
def Hr:ca xx:=⟨[.d (.sl (.st SI.ke)),.du [.st SI.ke] .bool],[.d ai],λa=>rD n a.1 a.2.1,none⟩
def Ht:Hn SI:=(.s .z (.s (.s .z (.b (.lx ⟨[(8,.v ai)],[],[0,1,7],[],1256,[]⟩ 0 ⟨[],[],[],[],1256,[]⟩ .z))) .z))
theorem Hu:aK 79 (Hr n) :=cq aD func79 Ht n
def CU:ca xx:=⟨[.d (.sl (.st SI.ke)),.du [.st SI.ke] .bool],[.d .bool],λa=>iG n a.1 a.2.1,none⟩
theorem rT:aK 40 (CU n) :=cq (au (Hu n) aD) func40 .z n
def UF:ca xx:=⟨[.d aA,.d (.sl (.st SI.fS)),.d (.sl (.st SI.ke))],[.d .bool],λa=>vI n a.1 a.2.1 a.2.2.1,none⟩
def UG:Hn SI:=(.s .z (.s (.s (.j ⟨[(15,.v .bool)],[],[2,3,4],[1000,1064],1192,[]⟩ .z) .z) .z))
theorem UH:aK 33 (UF n) :=cq (au (VK n) (au (UB n) (au (rT n) (au (Lx n) aD)))) func33 UG n
def zW:ca xx:=⟨[.d aI,.ref aA,.ref aW],[.d .bool],λa=>jr n a.1 a.2.1 a.2.2.1,none⟩
theorem zX:aK 32 (zW n) :=cq (au F3 (au (UH n) aD)) func32 .z n
def Jp:ca xx:=⟨[.d (.st SI.i8),.du [aI] .bool],[.d .bool],λa=>gm n a.1 a.2.1,none⟩
theorem xE:aK 17 (Jp n) :=cq (au (pK n) aD) func17 .z n
def zY:ca xx:=⟨[.d aI,.ref aW],[.d .bool],λa=>jv a.1 a.2.1,none⟩
theorem zZ:aK 34 zY :=cq aD func34 .z 0
def ahS:ca xx:=⟨[.d aA,.d aA],[.d ai,.d ai],λa=>US a.1 a.2.1,none⟩
theorem ahT:aK 118 ahS :=cq aD func118 .z 0
def aiZ:ca xx:=⟨[.d aA,.d aA],[.d ai],λa=>HB a.1 a.2.1,none⟩
def ai0:Hn SI:=(.s .z (.s (.s (.j ⟨[(14,.v .bool)],[],[2,3],[1000,1064],1192,[]⟩ .z) .z) .z))
theorem ai1:aK 74 aiZ :=cq (au oI (au ahT aD)) func74 ai0 0
def Bq:ca xx:=⟨[.d (.st SI.ft),.ref (.st SI.i8),.ref aI,.ref aW],[.d .bool],λa=>dJ a.1 a.2.1 a.2.2.1 a.2.2.2.1,none⟩
def Br:Hn SI:=(cj (.s (.s (.j ⟨[(32,.v .bool)],[],[2,3,6],[1256],1384,[]⟩ .z) .z) (.s (.j ⟨[(7,.v .bool)],[],[2,3,6],[1256],1384,[]⟩ .z) .z)))
theorem Bt:aK 72 Bq :=cq (au oI (au ai1 aD)) func72 Br 0
def En:ca xx:=⟨[.d (.sl (.st SI.ft)),.du [.st SI.ft] .bool],[.d ai],λa=>o7 n a.1 a.2.1,none⟩
def Eo:Hn SI:=(.s .z (.s (.s .z (.b (.lx ⟨[(8,.v ai)],[],[0,1,7],[],1256,[]⟩ 0 ⟨[],[],[],[],1256,[]⟩ .z))) .z))
theorem Ep:aK 117 (En n) :=cq aD func117 Eo n
def z8:ca xx:=⟨[.d (.sl (.st SI.ft)),.du [.st SI.ft] .bool],[.d .bool],λa=>jw n a.1 a.2.1,none⟩
theorem Aa:aK 71 (z8 n) :=cq (au (Ep n) aD) func71 .z n
def F7:ca xx:=⟨[.d (.st SI.i8),.d aW,.d aI],[.d .bool],λa=>qi n a.1 a.2.1 a.2.2.1,none⟩
theorem F8:aK 36 (F7 n) :=cq (au (Aa n) (au Bt aD)) func36 .z n
def Ab:ca xx:=⟨[.d aI,.ref (.st SI.i8),.ref aW],[.d .bool],λa=>jy n a.1 a.2.1 a.2.2.1,none⟩
theorem Ac:aK 35 (Ab n) :=cq (au (F8 n) aD) func35 .z n
def Er:ca xx:=⟨[.d (.st SI.i8),.d aW],[.d .bool],λa=>iZ n a.1 a.2.1,none⟩
theorem sj:aK 16 (Er n) :=cq (au (YS n) (au (afQ n) (au (abz n) (au (xE n) (au (zX n) (au zZ (au (Ac n) aD))))))) func16 .z n
def P5:ca xx:=⟨[.d aA,.ref aA],[.d .bool],λa=>tK a.1 a.2.1,none⟩
theorem P6:aK 82 P5 :=cq aD func82 .z 0
def Hw:ca xx:=⟨[.d (.sl aA),.du [aA] .bool],[.d ai],λa=>rE n a.1 a.2.1,none⟩
def Hy:Hn SI:=(.s .z (.s (.s .z (.b (.lx ⟨[(8,.v ai)],[],[0,1,7],[],1256,[]⟩ 0 ⟨[],[],[],[],1256,[]⟩ .z))) .z))
theorem Hz:aK 122 (Hw n) :=cq aD func122 Hy n
def CV:ca xx:=⟨[.d (.sl aA),.du [aA] .bool],[.d .bool],λa=>iH n a.1 a.2.1,none⟩
theorem rU:aK 80 (CV n) :=cq (au (Hz n) aD) func80 .z n
def YU:ca xx:=⟨[.d aA,.ref (.sl aA)],[.d .bool],λa=>Cr n a.1 a.2.1,none⟩
theorem YV:aK 81 (YU n) :=cq (au (rU n) (au P6 aD)) func81 .z n
def afT:ca xx:=⟨[.d (.sl aA),.d (.sl aA)],[.d .bool],λa=>Qn n a.1 a.2.1,none⟩
theorem afU:aK 42 (afT n) :=cq (au (rU n) (au (YV n) aD)) func42 .z n
def P7:ca xx:=⟨[.d (.st SI.ke),.ref (.st SI.eR)],[.d .bool],λa=>pG n a.1 a.2.1,none⟩
theorem P8:aK 41 (P7 n) :=cq (au (afU n) aD) func41 .z n
def YW:ca xx:=⟨[.d (.sl (.st SI.eR)),.d ai,.d (.sl (.st SI.ke))],[.d .bool],λa=>Cs n a.1 a.2.1 a.2.2.1,none⟩
def YX:Hn SI:=(cj (.s (.s .z (.b (.lx ⟨[(14,.v ai)],[],[1,2,12,13],[],1448,[]⟩ 0 ⟨[],[],[],[],1448,[]⟩ (cj (.s (.jx ⟨[],[],[1,2,12,13,14],[],1512,[]⟩ (.b (.s .z (.s (.s (.j ⟨[(27,.v .bool)],[],[1,2,8,12,13,14],[1640],1768,[]⟩ .z) .z) .z)))) .z))))) .z))
theorem YZ:aK 19 (YW n) :=cq (au (UB n) (au (nW n) (au (rT n) (au (P8 n) aD)))) func19 YX n
def Jq:ca xx:=⟨[.d aI,.ref (.st SI.iS),.ref eG],[.d .bool],λa=>lW n a.1 a.2.1 a.2.2.1,none⟩
theorem Jr:aK 18 (Jq n) :=cq (au F3 (au (YZ n) aD)) func18 .z n
def Es:cN xx:=⟨[.v .str,.v .bool,.p 0],[(0,pg),(1,.l .str)],[],[(0,.c 1 [[.o 1000]]),(1000,.l .str)],λv=>ja n v.1 v.2.1 v.2.2⟩
def Et:ca xx:=⟨[],[.d .bool],λ_=>none,some (Es n)⟩
def Eu:Hn SI:=(.s (.j ⟨[(11,.v .bool)],[],[0,2],[0,1],1000,[]⟩ .z) .z)
theorem Ew:aK 13 (Et n) :=mT (au (nX n) aD) func13 Eu n (by kernel_rfl) λ_=>by kernel_rfl
def P9:ca xx:=⟨[.d (.st SI.iS),.d eG,.d ai],[.fresh .str,.d ai],λa=>fq n a.1 a.2.1 a.2.2.1,none⟩
def Qa:Hn SI:=(Cd (.s (.s .z (.b (.l ⟨[(31,.v ai)],[(1960,.c 1 [[.o 2664]]),(2664,.l .str)],[3,4,8,10,11,29,30],[1000,1064,1640,2472],2665,[(9028160,.str)]⟩ 0 ⟨[],[(1960,.c 1 [[.o 2664]]),(2664,.l .str)],[3,4,8,10,11],[1000,1064,1640],2665,[]⟩ .z))) .z))
theorem uU:aK 6 (P9 n) :=cq (au (Iu n) (au (Uo n) (au (sj n) (au (Ew n) (au (xE n) (au (Jr n) aD)))))) func6 Qa n
def abD:ca xx:=⟨[.d (.sl .str),.d (.sl .str)],[.d .bool],λa=>AB n a.1 a.2.1,none⟩
def abE:Hn SI:=(cj (.s (.s .z (.b (.lx ⟨[(5,.v ai)],[],[0,1],[],1448,[]⟩ 0 ⟨[],[],[],[],1448,[]⟩ .z))) .z))
theorem abF:aK 9 (abD n) :=cq aD func9 abE n
def Qb:ca xx:=⟨[.d (.st SI.iS),.d eG,.d aW],[.d .bool],λa=>fu n a.1 a.2.1 a.2.2.1,none⟩
theorem Dk:aK 7 (Qb n) :=cq (au (Iu n) (au (sj n) aD)) func7 .z n
def Qc:ca xx:=⟨[.d (.st SI.iS),.d eG,.d ai],[.d .bool],λa=>tN n a.1 a.2.1 a.2.2.1,none⟩
theorem Qd:aK 10 (Qc n) :=cq (au (uU n) aD) func10 .z n
def abG:ca xx:=⟨[],[.d .bool],λ_=>Gy n,none⟩
theorem abH:aK 4 (abG n) :=cq (au afI (au (uU n) (au (abF n) (au (Dk n) (au (Qd n) aD))))) func4 .z n
def abI:Hn SI:=(hZ (.s (.s .z (.b (.l ⟨[(7,.v ai),(8,.v ai)],[],[1,2,3],[1000],1384,[]⟩ 0 ⟨[(7,.v ai)],[],[],[],1384,[]⟩ (.s (.s (.j ⟨[(22,.v .bool)],[],[1,2,3,7,8],[1000],1384,[]⟩ .z) .z) .z)))) .z))
theorem Y0(rc:(bH)->(Int)->(Int)->Option Int)(hr:aK 21 (Ct rc)):aK 21 (Ct (yK n rc)) :=cq (au hr aD) func21 abI n
theorem LA(n:Nat):∀m,aK 21 (Ct (qF n m))
 | 0=>vu (uj func21 (by kernel_rfl:Tryz.f21.body=some (Tryz.f21.body.getD .skip)) (by kernel_rfl)) (λ _ _ h=>(by cases h)) rfl
 |m+1=>Y0 n _ (LA n m)
def abJ:ca xx:=⟨[.d (.st SI.Expr),.d ai,.d ai],[.d ai],λa=>AJ n a.1 a.2.1 a.2.2.1,none⟩
theorem OI:aK 21 (abJ n):=LA n n
def abK:ca xx:=⟨[.d (.sl aW)],[.d .bool],λa=>Gz n a.1,none⟩
def abL:Hn SI:=(.s .z (.s (.s .z (.b (.lx ⟨[(3,.v ai)],[],[0],[],1128,[]⟩ 0 ⟨[],[],[0],[],1128,[]⟩ (.s (.s (.j ⟨[(11,.v .bool)],[],[0,3],[],1128,[]⟩ .z) .z) (.s (.b (.s (.j ⟨[(38,.v .bool)],[],[0,3],[],1128,[]⟩ .z) .z)) .z))))) .z))
theorem abM:aK 22 (abK n) :=cq (au (OI n) aD) func22 abL n
def adL:ca xx:=⟨[.d (.st SI.kf)],[.d .bool],λa=>Ky n a.1,none⟩
def adM:Hn SI:=(.s .z (.s (.s .z (.b (.lx ⟨[(3,.v ai)],[],[1],[1000],1192,[]⟩ 0 ⟨[],[],[1],[1000],1192,[]⟩ (.s (.s (.j ⟨[(15,.v .bool)],[],[1,3],[1000],1192,[]⟩ .z) .z) .z)))) (.s (.s .z (.b (.lx ⟨[(4,.v ai)],[],[1],[1000],1256,[]⟩ 2 ⟨[],[],[1],[1000],1256,[]⟩ (.s (.s (.j ⟨[(34,.v .bool)],[],[1,4],[1000],1256,[]⟩ .z) .z) .z)))) (.s (.s .z (.b (.lx ⟨[(5,.v ai)],[],[1],[1000],1320,[]⟩ 4 ⟨[],[],[1],[1000],1320,[]⟩ (.s (.s (.j ⟨[(53,.v .bool)],[],[1,5],[1000],1320,[]⟩ .z) .z) .z)))) (.s (.s .z (.b (.lx ⟨[(6,.v ai)],[],[1],[1000],1384,[]⟩ 6 ⟨[],[],[1],[1000],1384,[]⟩ (.s (.s (.j ⟨[(72,.v .bool)],[],[1,6],[1000],1384,[]⟩ .z) .z) .z)))) .z)))))
theorem adN:aK 11 (adL n) :=cq (au (OI n) (au (abM n) aD)) func11 adM n
def afV:ca xx:=⟨[.d (.st SI.iS),.d eG],[.d .bool],λa=>Qo n a.1 a.2.1,none⟩
def afW:Hn SI:=(.s .z (.s (.s .z (.b (.lx ⟨[(5,.v ai)],[],[2,3],[1000,1064],1256,[]⟩ 0 ⟨[],[],[2,3],[1000,1064],1256,[]⟩ (.s (.s (.j ⟨[(16,.v .bool)],[],[2,3,5],[1000,1064],1256,[]⟩ .z) .z) .z)))) (.s (.s .z (.b (.lx ⟨[(6,.v ai)],[],[2,3],[1000,1064],1320,[]⟩ 2 ⟨[],[],[2,3],[1000,1064],1320,[]⟩ (.s (.s (.j ⟨[(35,.v .bool)],[],[2,3,6],[1000,1064],1320,[]⟩ .z) .z) .z)))) (.s (.s .z (.b (.lx ⟨[(7,.v ai)],[],[2,3],[1000,1064],1384,[]⟩ 4 ⟨[],[],[2,3],[1000,1064],1384,[]⟩ (.s (.s (.j ⟨[(54,.v .bool)],[],[2,3,7],[1000,1064],1384,[]⟩ .z) .z) (.s (.b (.s (.j ⟨[(74,.v .bool)],[],[2,3,7],[1000,1064],1384,[]⟩ .z) .z)) .z))))) .z))))
theorem afX:aK 5 (afV n) :=cq (au (adN n) aD) func5 afW n
def LB:ca xx:=⟨[.d (.st SI.iS),.d eG,.d ai,.d ai,.d ai],[.d .bool],λa=>p9 n a.1 a.2.1 a.2.2.1 a.2.2.2.1 a.2.2.2.2.1,none⟩
def LC:Hn SI:=(cj (.s (.s (.j ⟨[(54,.v .bool)],[],[2,3,4,5,6,11],[1000,1064],1320,[]⟩ .z) .z) (HU (.s (.f [1008]) (.s .z (.pl 3752 .z (Cd (.s (.s (.j ⟨[(158,.v .bool)],[],[5,6,11,13,14],[1000,1064,1832,2152,3432,3752],7784,[]⟩ .z) .z) (.s (.s .z (.b (.lx ⟨[(22,.v ai)],[],[5,6,11,13,14],[1000,1064,1832,2152,3432,3752],7848,[]⟩ 0 ⟨[],[],[11],[],7848,[]⟩ (.s .z (.s (.jx ⟨[],[],[5,6,11,13,14,22],[1000,1064,1832,2152,3432,3752],8232,[]⟩ (.b (cj (.s (.j ⟨[(192,.v .bool)],[],[5,6,11,13,14,22],[1000,1064,1832,2152,3432,3752],8936,[]⟩ .z) .z)))) .z))))) .z)))))))))
theorem LD:aK 3 (LB n) :=cq (au (abH n) (au (afX n) (au (uU n) (au (Dk n) aD)))) func3 LC n
end
end Go.Proofs
