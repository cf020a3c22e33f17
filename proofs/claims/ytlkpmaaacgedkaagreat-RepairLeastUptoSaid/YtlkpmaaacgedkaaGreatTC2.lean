import Derived.Test.YtlkpmaaacgedkaaGreatTC1
namespace Go.Proofs
open Go.Gb Go.RowKit
open Tryz
noncomputable section
variable (n:Nat)
def y9:cM xx:=⟨[.v af,.p 0],[(0,qr),(1,.l .bool)],[.v .bool],[(0,qr),(1,.l .bool)],λv=>mH v.1 v.2⟩
def za:b7 xx:=⟨[],[.d .bool],λ_=>none,some (y9)⟩
theorem zb:aH 193 za :=oA aB func193 .z 0 (by kernel_rfl) λ_=>by kernel_rfl
def Ga:cM xx:=⟨[.v (.sl af),(.f 193 [] [.p 0])],[(0,qr),(1,.l .bool)],[.v af],[(0,qr),(1,.l .bool)],λv=>mW n v.1 v.2⟩
def Gc:b7 xx:=⟨[],[.d .bool],λ_=>none,some (Ga n)⟩
def Gd:Hn SI:=(.s .z (.s (.s .z (.b (.lx ⟨[(8,.v af)],[(0,qr),(1,.l .bool)],[0,1,7],[],1256,[]⟩ 0 ⟨[],[(0,qr),(1,.l .bool)],[],[],1256,[]⟩ .z))) .z))
theorem Gf:aH 232 (Gc n) :=oA (ak zb aB) func232 Gd n (by kernel_rfl) λ_=>by kernel_rfl
def Bz:cM xx:=⟨[.v (.sl af),(.f 193 [] [.p 0])],[(0,qr),(1,.l .bool)],[.v .bool],[(0,qr),(1,.l .bool)],λv=>iG n v.1 v.2⟩
def BA:b7 xx:=⟨[],[.d .bool],λ_=>none,some (Bz n)⟩
theorem BB:aH 192 (BA n) :=oA (ak (Gf n) aB) func192 .z n (by kernel_rfl) λ_=>by kernel_rfl
def IJ:b7 xx:=⟨[.ref (.st SI.graph)],[.fresh af],λa=>nM n a.1,none⟩
def IK:Hn SI:=(gx (.s (.s .z (.b (.l ⟨[(4,.o 2024),(20,.v af)],[(1448,xd),(2024,.l af),(1384,.l .bool)],[0,3,19],[],2025,[(4,af)]⟩ 0 ⟨[(4,.o 2024)],[(2024,.l af)],[],[],2025,[]⟩ (cd (.s (.b (.s .z (.s (.s .z (.b (.l ⟨[(5,.v af),(27,.v af)],[(1448,xd),(1384,.l .bool)],[0,3,4,19,20,25,26],[2024],2537,[]⟩ 2 ⟨[(5,.v af)],[(1448,xd),(1384,.l .bool)],[0,3,4,19,20],[2024],2537,[]⟩ (cd (.s (.j ⟨[(5,.v af)],[(1448,xd),(1384,.l .bool)],[0,3,4,19,20,25,26,27],[2024],2601,[]⟩ (.b (cd (.s (.j ⟨[(66,.v .bool)],[],[0,3,4,5,6,19,20,25,26,27],[1384,1448,2024],3177,[]⟩ .z) .z)))) .z))))) .z))) .z))))) .z))
theorem IL:aH 162 (IJ n) :=cq (ak (BB n) aB) func162 IK n
def BD:cM xx:=⟨[.p 0,.v af],[(0,rx)],[.oz 1000],[(0,rx),(1000,.l .str)],λv=>jY n v.1 v.2.1 v.2.2⟩
def BF:b7 xx:=⟨[],[.d .bool],λ_=>none,some (BD n)⟩
def BG:Hn SI:=(xe (.b (.lx ⟨[(6,.o 1512),(7,.v af)],[(1512,.l .str)],[0,1,5],[0,1192],1513,[(6,.str)]⟩ 999999 ⟨[],[],[],[],1512,[]⟩ (.b (cd (.s (.s .z (.b (.l ⟨[(8,.v af),(34,.v af)],[],[0,1,5,6,32,33],[0,1192,2153],2921,[]⟩ 2 ⟨[(8,.v af)],[],[0,1,5,6],[0,1192,2153],2921,[]⟩ (cd (.s (.j ⟨[(8,.v af)],[],[0,1,5,6,32,33,34],[0,1192,2153],2985,[]⟩ (.b (.s .z (.s (.j ⟨[(57,.v .bool)],[],[0,1,5,6,8,10,32,33,34],[0,1192,2153],3177,[]⟩ .z) .z)))) .z))))) .z))))))
theorem BH:aH 190 (BF n) :=oA (ak (Bw n) aB) func190 BG n (by kernel_rfl) λ_=>by kernel_rfl
def ze:cM xx:=⟨[.p 0],[(0,rx)],[.oz 1000],[(0,rx),(1000,.l .str)],λv=>je n v.1 v.2⟩
def zf:b7 xx:=⟨[],[.d .bool],λ_=>none,some (ze n)⟩
def zh:Hn SI:=(cd (.s (.s .z (.b (.l ⟨[(3,.oz 1512),(11,.v af)],[(0,rx),(1512,.l .str)],[0,10],[],1513,[(1099511627779,.str)]⟩ 0 ⟨[(3,.oz 1512)],[(0,rx),(1512,.l .str)],[],[],1513,[]⟩ (cd (.s (.j ⟨[(3,.oz 1577)],[(0,rx),(1577,.l .str)],[0,10,11],[],1578,[]⟩ (.b (cd (.s (.s (.j ⟨[(18,.v .bool)],[],[0,3,5,10,11],[0,1512,1833],1961,[]⟩ .z) .z) (.s (.j ⟨[(40,.v .bool)],[],[0,3,5,10,11],[0,1512,1833],1961,[]⟩ .z) .z))))) .z))))) .z))
theorem zi:aH 161 (zf n) :=oA (ak (BH n) (ak (JK n) aB)) func161 zh n (by kernel_rfl) λ_=>by kernel_rfl
def Xu:b7 xx:=⟨[.d (.st SI.ld)],[.fresh af,.d (.sl .str),.d af],λa=>nN n a.1,none⟩
def Xv:Hn SI:=(cd (.s (.s .z (.b (.l ⟨[(15,.v af)],[(1256,.m .str .bool)],[1,5,13,14],[1000,1384],1576,[]⟩ 0 ⟨[],[(1256,.m .str .bool)],[1,5],[1000],1576,[]⟩ .z))) (.s (.s .z (.b (.lx ⟨[(25,.v af)],[(1256,.m .str .bool)],[1,5,23,24],[1000],1832,[]⟩ 2 ⟨[],[],[1],[1000],1832,[]⟩ .z))) (.s .z (.s (.s .z (.s (.j ⟨[(43,.v .bool)],[],[10,11],[1960,2152],2280,[]⟩ .z) .z)) .z)))))
theorem Xw:aH 121 (Xu n) :=cq (ak NW (ak NZ (ak (zi n) (ak (IL n) aB)))) func121 Xv n
def JL:b7 xx:=⟨[.d aS,.ref (.st SI.Expr)],[.d .bool],λa=>Ac a.1 a.2.1,none⟩
theorem JM:aH 164 JL :=cq aB func164 .z 0
def IQ:b7 xx:=⟨[.d (.sl aS),.du [aS] .bool],[.d af],λa=>rF n a.1 a.2.1,none⟩
def IU:Hn SI:=(.s .z (.s (.s .z (.b (.lx ⟨[(8,.v af)],[],[0,1,7],[],1256,[]⟩ 0 ⟨[],[],[],[],1256,[]⟩ .z))) .z))
theorem IV:aH 163 (IQ n) :=cq aB func163 IU n
def JN:b7 xx:=⟨[.d gF,.ref (.st SI.Expr)],[.d .bool],λa=>Ad a.1 a.2.1,none⟩
theorem JO:aH 166 JN :=cq aB func166 .z 0
def alm:b7 xx:=⟨[.d .bool],[.d af],λa=>yK a.1,none⟩
theorem aex:aH 123 alm :=cq aB func123 .z 0
def YE:b7 xx:=⟨[.d af,.d af],[.d af],λa=>wB a.1 a.2.1,none⟩
def YF:Hn SI:=(gx (.s (.j ⟨[(5,.v af)],[],[],[],1448,[]⟩ (.s .z (.s (.j ⟨[(23,.v .bool)],[],[5],[],1704,[]⟩ .z) .z))) .z))
theorem YG:aH 167 YE :=cq aB func167 YF 0
def aey:b7 xx:=⟨[.d af,.d af,.d af],[.d af],λa=>Jr a.1 a.2.1 a.2.2.1,none⟩
theorem aez:aH 124 aey :=cq (ak YG (ak aex aB)) func124 .z 0
def JP:cM xx:=⟨[(.a [.v (.sl aZ),.v (.sl aS),.v (.sl bg),.v (.sl aV),.v (.sl bB),.v (.sl bq),.v (.sl aP),.v af,.mp 0,.v (.sl .str)]),.v (.st SI.Expr)],[(0,.m .str af)],[.v af],[(0,.m .str af)],λv=>jC n v.1 v.2.1 v.2.2.1 v.2.2.2.1 v.2.2.2.2.1 v.2.2.2.2.2.1 v.2.2.2.2.2.2.1 v.2.2.2.2.2.2.2.1 v.2.2.2.2.2.2.2.2.1 v.2.2.2.2.2.2.2.2.2.1 v.2.2.2.2.2.2.2.2.2.2⟩
def JQ:b7 xx:=⟨[],[.d .bool],λ_=>none,some (JP n)⟩
theorem JR:aH 122 (JQ n) :=oA (ak (IV n) (ak JM (ak (wD n) (ak JO aB)))) func122 .z n (by kernel_rfl) λ_=>by kernel_rfl
def Gg:Hn SI:=(cd (.s (.s .z (.b (.l ⟨[(5,.o 1512),(11,.v af)],[(0,.m .str af),(1512,.l af)],[2,3,9,10],[1000,1064],1513,[(5,af)]⟩ 0 ⟨[(5,.o 1512)],[(0,.m .str af),(1512,.l af)],[2,3],[1000,1064],1513,[]⟩ (cd (.s (.j ⟨[(5,.o 1577)],[(0,.m .str af),(1577,.l af)],[2,3,9,10,11],[1000,1064],1578,[]⟩ (.b (.s .z (.s (.s (.j ⟨[(31,.v .bool)],[],[2,3,5,7,9,10,11],[0,1000,1064,1512,1769],1961,[]⟩ .z) .z) .z)))) .z))))) .z))
theorem EU(rc:((List gI))->((List cB))->((List fD))->((List cu))->((List jd))->((List gU))->((List dn))->(Int)->((List ByteArray))->(bR)->((List (ByteArray×Int)))->Option (Int×(List (ByteArray×Int))))(hr:aH 82 (jZ rc)):aH 82 (jZ (fI n rc)) :=oA (ak hr (ak (JR n) (ak (pW n) (ak aex (ak aez aB))))) func82 Gg n (by kernel_rfl) λ_=>by kernel_rfl
theorem ug(n:Nat):∀m,aH 82 (jZ (bQ n m))
 | 0=>QQ (pz func82 (by kernel_rfl:Tryz.f82.body=some (Tryz.f82.body.getD .skip)) (by kernel_rfl)) (λ _ _ h=>(by cases h))
 |m+1=>EU n _ (ug n m)
def Gh:b7 xx:=jZ (bQ n n)
theorem uJ:aH 82 (Gh n):=ug n n
def SK:cM xx:=⟨[.v (.st SI.ld),.v (.sl gF),.v (.sl .str)],[],[(.a [.v (.sl aZ),.v (.sl aS),.v (.sl bg),.v (.sl aV),.v (.sl bB),.v (.sl bq),.v (.sl aP),.v af,.mp 1000,.v (.sl .str)]),.o 1001],[(1000,.m .str af),(1001,.l af)],λv=>mI n v.1 v.2.1 v.2.2⟩
def SL:b7 xx:=⟨[],[.d .bool],λ_=>none,some (SK n)⟩
def SQ:Hn SI:=(gx (.s (.s .z (.b (.l ⟨[(26,.v af)],[(1256,.m .str af),(1576,.m .str .bool)],[3,6,8,9,24,25],[1000,1064,1448],1896,[]⟩ 0 ⟨[],[(1256,.m .str af),(1576,.m .str .bool)],[3,6,8,9],[1000,1064,1448],1896,[]⟩ (cd (.s (.j ⟨[],[(1256,.m .str af),(1576,.m .str .bool)],[3,6,8,9,24,25,26],[1000,1064,1448],1960,[]⟩ .z) .z))))) (gx (.s (.s .z (.b (.l ⟨[(61,.v af)],[(1256,.m .str af),(2088,.l af)],[3,6,8,9,12,59,60],[1000,1064,1448,1576,2280],3112,[]⟩ 2 ⟨[],[(1256,.m .str af),(2088,.l af)],[6,8,12],[1064,1448],3112,[]⟩ (cd (.s (.j ⟨[],[(1256,.m .str af),(2088,.l af)],[3,6,8,9,12,59,60,61],[1000,1064,1448,1576,2280],3176,[]⟩ (.b (cd (.s (.j ⟨[],[(1256,.m .str af),(2088,.l af)],[3,6,8,9,12,17,18,59,60,61],[1000,1064,1448,1576,2280,3688],3816,[]⟩ .z) .z)))) .z))))) .z))))
theorem SS:aH 81 (SL n) :=oA (ak (Xw n) (ak (Xo n) (ak (uJ n) aB))) func81 SQ n (by kernel_rfl) λ_=>by kernel_rfl
def ajs:b7 xx:=⟨[.d (.st SI.ld),.d (.sl gF),.d (.sl .str),.d (.st SI.Expr)],[.d af],λa=>Ae n a.1 a.2.1 a.2.2.1 a.2.2.2.1,none⟩
theorem ajt:aH 49 (ajs n) :=cq (ak (Xo n) (ak (SS n) (ak (uJ n) aB))) func49 .z n
def agK:b7 xx:=⟨[.d (.sl aA)],[.d aA,.d .bool],λa=>MX n a.1,none⟩
def agL:Hn SI:=(.s .z (.s (.s .z (.b (.l ⟨[(3,.v .bool),(8,.v af)],[(1000,A5)],[2,6,7],[],1320,[]⟩ 0 ⟨[(3,.v .bool)],[(1000,A5)],[2],[],1320,[]⟩ (cd (.s (.j ⟨[(3,.v .bool)],[(1000,A5)],[2,6,7,8],[],1384,[]⟩ .z) .z))))) .z))
theorem agM:aH 92 (agK n) :=cq (ak qj aB) func92 agL n
def aeA:b7 xx:=⟨[.d (.sl aA)],[.d aA,.d .bool],λa=>Js n a.1,none⟩
def aeB:Hn SI:=(.s .z (.s (.s (.j ⟨[(11,.v .bool)],[],[0,2],[1000],1128,[]⟩ .z) .z) .z))
theorem aeC:aH 51 (aeA n) :=cq (ak (pV n) (ak (agM n) aB)) func51 aeB n
def Xx:b7 xx:=⟨[.d aF],[.fresh (.st SI.k9)],λa=>xC a.1,none⟩
theorem IW:aH 31 Xx :=cq aB func31 .z 0
def IX:b7 xx:=⟨[.d (.sl (.st SI.gc)),.du [.st SI.gc] .bool],[.d af],λa=>rG n a.1 a.2.1,none⟩
def IY:Hn SI:=(.s .z (.s (.s .z (.b (.lx ⟨[(8,.v af)],[],[0,1,7],[],1256,[]⟩ 0 ⟨[],[],[],[],1256,[]⟩ .z))) .z))
theorem IZ:aH 173 (IX n) :=cq aB func173 IY n
def Dk:b7 xx:=⟨[.d (.sl (.st SI.gc)),.du [.st SI.gc] .bool],[.d .bool],λa=>kW n a.1 a.2.1,none⟩
theorem Dl:aH 137 (Dk n) :=cq (ak (IZ n) aB) func137 .z n
def Xy:b7 xx:=⟨[.d af,.d af,.d af],[.d .bool],λa=>nO a.1 a.2.1 a.2.2.1,none⟩
theorem Xz:aH 174 Xy :=cq aB func174 .z 0
def YH:b7 xx:=⟨[.d (.st SI.gc)],[.d .bool],λa=>Ag a.1,none⟩
theorem YI:aH 139 YH :=cq (ak Xz aB) func139 .z 0
def Qq:b7 xx:=⟨[.d (.st SI.gc)],[.d .bool],λa=>tK a.1,none⟩
theorem Qr:aH 138 Qq :=cq (ak YI aB) func138 .z 0
def YJ:b7 xx:=⟨[.d aA,.d (.sl (.st SI.gc))],[.d .bool],λa=>Ah n a.1 a.2.1,none⟩
theorem YK:aH 93 (YJ n) :=cq (ak qj (ak (Dl n) (ak Qr aB))) func93 .z n
def aju:b7 xx:=⟨[.d (.sl aA),.d (.sl aA)],[.d .bool],λa=>Tz n a.1 a.2.1,none⟩
theorem ajv:aH 100 (aju n) :=cq (ak (Fh n) aB) func100 .z n
def agN:b7 xx:=⟨[.d (.sl (.st SI.k9))],[.d .bool],λa=>HZ n a.1,none⟩
def agO:Hn SI:=(cd (.s (.s .z (.b (.lx ⟨[(11,.v af)],[],[0,9,10],[],1448,[]⟩ 0 ⟨[],[],[],[],1448,[]⟩ (cd (.s (.jx ⟨[],[],[0,9,10,11],[],1512,[]⟩ (.b (.s .z (.s (.s (.j ⟨[(42,.v .bool)],[],[0,3,4,9,10,11],[1704],1896,[]⟩ .z) .z) (cd (.s (.j ⟨[(68,.v .bool)],[],[0,9,10,11],[],2472,[]⟩ .z) .z)))))) .z))))) .z))
theorem XA:aH 58 (agN n) :=cq (ak (pV n) (ak (ajv n) aB)) func58 agO n
def N9:b7 xx:=⟨[.d aA,.d af,.d af],[.d (.st SI.np)],λa=>wJ a.1 a.2.1 a.2.2.1,none⟩
theorem Oa:aH 175 N9 :=cq aB func175 .z 0
def Qs:b7 xx:=⟨[.d af,.d af],[.d af],λa=>tL a.1 a.2.1,none⟩
def Qt:Hn SI:=(cd (.s (.j ⟨[(5,.v af)],[],[],[],1320,[]⟩ .z) .z))
theorem Qu:aH 176 Qs :=cq aB func176 Qt 0
def aeD:b7 xx:=⟨[.d aA,.d (.sl (.st SI.gc)),.d af,.d af],[.d af],λa=>Jt n a.1 a.2.1 a.2.2.1 a.2.2.2.1,none⟩
def aeE:Hn SI:=(gx (.s (.s .z (.b (.l ⟨[(9,.v af),(19,.v af)],[],[10,17,18],[1448],1768,[]⟩ 0 ⟨[(9,.v af)],[],[],[],1768,[]⟩ .z))) .z))
theorem aeF:aH 140 (aeD n) :=cq (ak Oa (ak Qu aB)) func140 aeE n
def XB:b7 xx:=⟨[.d aA,.d (.sl (.st SI.gc)),.d (.sl aA)],[.d af],λa=>xE n a.1 a.2.1 a.2.2.1,none⟩
def XC:Hn SI:=(cd (.s (.s .z (.b (.l ⟨[(7,.v af),(16,.v af)],[],[1,3,14,15],[1000],1384,[]⟩ 0 ⟨[(7,.v af)],[],[],[],1384,[]⟩ (cd (.s (.b (cd (.b (.l ⟨[(7,.v af),(27,.v af)],[],[1,3,9,14,15,16,25,26],[1000,1576,2024],2216,[]⟩ 2 ⟨[(7,.v af)],[],[1,3,14,15,16],[1000],2216,[]⟩ (cd (.s (.b (cd (.b (.l ⟨[(7,.v af),(38,.v af)],[],[1,3,9,11,14,15,16,25,26,27,36,37],[1000,1576,2024,2792],2984,[]⟩ 4 ⟨[(7,.v af)],[],[1,3,9,14,15,16,25,26,27],[1000,1576,2024],2984,[]⟩ .z)))) .z)))))) .z))))) .z))
theorem XD:aH 95 (XB n) :=cq (ak (aeF n) aB) func95 XC n
def Ob:b7 xx:=⟨[.d (.st SI.k9),.ref aA,.ref (.sl (.st SI.gc))],[.d .bool],λa=>rf n a.1 a.2.1 a.2.2.1,none⟩
theorem Oc:aH 94 (Ob n) :=cq (ak (XD n) aB) func94 .z n
def JS:b7 xx:=⟨[.d (.sl (.st SI.k9)),.du [.st SI.k9] .bool],[.d af],λa=>tN n a.1 a.2.1,none⟩
def JU:Hn SI:=(.s .z (.s (.s .z (.b (.lx ⟨[(8,.v af)],[],[0,1,7],[],1256,[]⟩ 0 ⟨[],[],[],[],1256,[]⟩ .z))) .z))
theorem JV:aH 103 (JS n) :=cq aB func103 JU n
def EW:b7 xx:=⟨[.d (.sl (.st SI.k9)),.du [.st SI.k9] .bool],[.d .bool],λa=>jl n a.1 a.2.1,none⟩
theorem uh:aH 60 (EW n) :=cq (ak (JV n) aB) func60 .z n
def XE:b7 xx:=⟨[.d aA,.d (.sl (.st SI.gc)),.d (.sl (.st SI.k9))],[.d .bool],λa=>xG n a.1 a.2.1 a.2.2.1,none⟩
def XF:Hn SI:=(.s .z (.s (.s (.j ⟨[(15,.v .bool)],[],[2,3,4],[1000,1064],1192,[]⟩ .z) .z) .z))
theorem XG:aH 53 (XE n) :=cq (ak (YK n) (ak (XA n) (ak (uh n) (ak (Oc n) aB)))) func53 XF n
def BJ:b7 xx:=⟨[.d aF,.ref aA,.ref aV],[.d .bool],λa=>j5 n a.1 a.2.1 a.2.2.1,none⟩
theorem BK:aH 52 (BJ n) :=cq (ak IW (ak (XG n) aB)) func52 .z n
def Lh:b7 xx:=⟨[.d (.st SI.ka),.du [aF] .bool],[.d .bool],λa=>gX n a.1 a.2.1,none⟩
theorem zk:aH 28 (Lh n) :=cq (ak (qQ n) aB) func28 .z n
def BL:b7 xx:=⟨[.d aF,.ref aV],[.d .bool],λa=>j6 a.1 a.2.1,none⟩
theorem BM:aH 54 BL :=cq aB func54 .z 0
def aln:b7 xx:=⟨[.d aA,.d aA],[.d af,.d af],λa=>akL a.1 a.2.1,none⟩
theorem alo:aH 142 aln :=cq aB func142 .z 0
def amD:b7 xx:=⟨[.d aA,.d aA],[.d af],λa=>Sp a.1 a.2.1,none⟩
def amE:Hn SI:=(.s .z (.s (.s (.j ⟨[(14,.v .bool)],[],[2,3],[1000,1064],1192,[]⟩ .z) .z) .z))
theorem amF:aH 98 amD :=cq (ak qj (ak alo aB)) func98 amE 0
def Dm:b7 xx:=⟨[.d (.st SI.fS),.ref (.st SI.ka),.ref aF,.ref aV],[.d .bool],λa=>dP a.1 a.2.1 a.2.2.1 a.2.2.2.1,none⟩
def Dn:Hn SI:=(cd (.s (.s (.j ⟨[(32,.v .bool)],[],[2,3,6],[1256],1384,[]⟩ .z) .z) (.s (.j ⟨[(7,.v .bool)],[],[2,3,6],[1256],1384,[]⟩ .z) .z)))
theorem Dp:aH 97 Dm :=cq (ak qj (ak amF aB)) func97 Dn 0
def Gi:b7 xx:=⟨[.d (.sl (.st SI.fS)),.du [.st SI.fS] .bool],[.d af],λa=>qE n a.1 a.2.1,none⟩
def Gj:Hn SI:=(.s .z (.s (.s .z (.b (.lx ⟨[(8,.v af)],[],[0,1,7],[],1256,[]⟩ 0 ⟨[],[],[],[],1256,[]⟩ .z))) .z))
theorem Gl:aH 141 (Gi n) :=cq aB func141 Gj n
def BN:b7 xx:=⟨[.d (.sl (.st SI.fS)),.du [.st SI.fS] .bool],[.d .bool],λa=>kg n a.1 a.2.1,none⟩
theorem BP:aH 96 (BN n) :=cq (ak (Gl n) aB) func96 .z n
def I6:b7 xx:=⟨[.d (.st SI.ka),.d aV,.d aF],[.d .bool],λa=>rH n a.1 a.2.1 a.2.2.1,none⟩
theorem I7:aH 56 (I6 n) :=cq (ak (BP n) (ak Dp aB)) func56 .z n
def BQ:b7 xx:=⟨[.d aF,.ref (.st SI.ka),.ref aV],[.d .bool],λa=>ko n a.1 a.2.1 a.2.2.1,none⟩
theorem BR:aH 55 (BQ n) :=cq (ak (I7 n) aB) func55 .z n
def Gm:b7 xx:=⟨[.d (.st SI.ka),.d aV],[.d .bool],λa=>mX n a.1 a.2.1,none⟩
theorem Gn:aH 27 (Gm n) :=cq (ak (abM n) (ak (ajt n) (ak (aeC n) (ak (zk n) (ak (BK n) (ak BM (ak (BR n) aB))))))) func27 .z n
def SV:b7 xx:=⟨[.d aA,.ref aA],[.d .bool],λa=>vG a.1 a.2.1,none⟩
theorem SY:aH 106 SV :=cq aB func106 .z 0
def JW:b7 xx:=⟨[.d (.sl aA),.du [aA] .bool],[.d af],λa=>tO n a.1 a.2.1,none⟩
def JX:Hn SI:=(.s .z (.s (.s .z (.b (.lx ⟨[(8,.v af)],[],[0,1,7],[],1256,[]⟩ 0 ⟨[],[],[],[],1256,[]⟩ .z))) .z))
theorem JY:aH 146 (JW n) :=cq aB func146 JX n
def EX:b7 xx:=⟨[.d (.sl aA),.du [aA] .bool],[.d .bool],λa=>jm n a.1 a.2.1,none⟩
theorem uj:aH 104 (EX n) :=cq (ak (JY n) aB) func104 .z n
def abO:b7 xx:=⟨[.d aA,.ref (.sl aA)],[.d .bool],λa=>Eu n a.1 a.2.1,none⟩
theorem abP:aH 105 (abO n) :=cq (ak (uj n) (ak SY aB)) func105 .z n
def ajw:b7 xx:=⟨[.d (.sl aA),.d (.sl aA)],[.d .bool],λa=>TA n a.1 a.2.1,none⟩
theorem ajx:aH 62 (ajw n) :=cq (ak (uj n) (ak (abP n) aB)) func62 .z n
def S9:b7 xx:=⟨[.d (.st SI.k9),.ref (.st SI.eE)],[.d .bool],λa=>qM n a.1 a.2.1,none⟩
theorem Ta:aH 61 (S9 n) :=cq (ak (ajx n) aB) func61 .z n
def abQ:b7 xx:=⟨[.d (.sl (.st SI.eE)),.d af,.d (.sl (.st SI.k9))],[.d .bool],λa=>Ew n a.1 a.2.1 a.2.2.1,none⟩
def abR:Hn SI:=(cd (.s (.s .z (.b (.lx ⟨[(14,.v af)],[],[1,2,12,13],[],1448,[]⟩ 0 ⟨[],[],[],[],1448,[]⟩ (cd (.s (.jx ⟨[],[],[1,2,12,13,14],[],1512,[]⟩ (.b (.s .z (.s (.s (.j ⟨[(27,.v .bool)],[],[1,2,8,12,13,14],[1640],1768,[]⟩ .z) .z) .z)))) .z))))) .z))
theorem abS:aH 30 (abQ n) :=cq (ak (XA n) (ak (pV n) (ak (uh n) (ak (Ta n) aB)))) func30 abR n
def Li:b7 xx:=⟨[.d aF,.ref (.st SI.j7),.ref cK],[.d .bool],λa=>mZ n a.1 a.2.1 a.2.2.1,none⟩
theorem Lj:aH 29 (Li n) :=cq (ak IW (ak (abS n) aB)) func29 .z n
def Gp:cM xx:=⟨[.v .str,.v .bool,.p 0],[(0,qr),(1,.l .str)],[],[(0,.c 1 [[.o 1000]]),(1000,.l .str)],λv=>jM n v.1 v.2.1 v.2.2⟩
def Gq:b7 xx:=⟨[],[.d .bool],λ_=>none,some (Gp n)⟩
def Gr:Hn SI:=(.s (.j ⟨[(11,.v .bool)],[],[0,2],[0,1],1000,[]⟩ .z) .z)
theorem Gs:aH 24 (Gq n) :=oA (ak (pW n) aB) func24 Gr n (by kernel_rfl) λ_=>by kernel_rfl
def Td:b7 xx:=⟨[.d (.st SI.j7),.d cK,.d af],[.fresh .str,.d af],λa=>oF n a.1 a.2.1 a.2.2.1,none⟩
def Te:Hn SI:=(HH (.s (.s .z (.b (.l ⟨[(31,.v af)],[(1960,.c 1 [[.o 2664]]),(2664,.l .str)],[3,4,8,10,11,29,30],[1000,1064,1640,2472],2665,[(9028160,.str)]⟩ 0 ⟨[],[(1960,.c 1 [[.o 2664]]),(2664,.l .str)],[3,4,8,10,11],[1000,1064,1640],2665,[]⟩ .z))) .z))
theorem wN:aH 7 (Td n) :=cq (ak (YA n) (ak (Xn n) (ak (Gn n) (ak (Gs n) (ak (zk n) (ak (Lj n) aB)))))) func7 Te n
def Qv:b7 xx:=⟨[.d cK],[.fresh aF],λa=>ni n a.1,none⟩
def Qw:Hn SI:=(cd (.s (.s .z (.b (.l ⟨[(3,.o 1448),(9,.v af)],[(1448,.l aF)],[7,8],[],1449,[(3,aF)]⟩ 0 ⟨[(3,.o 1448)],[(1448,.l aF)],[],[],1449,[]⟩ .z))) .z))
theorem Dq:aH 18 (Qv n) :=cq aB func18 Qw n
def Tf:b7 xx:=⟨[.d aF],[.d af],λa=>mJ a.1,none⟩
theorem rC:aH 14 Tf :=cq (ak iX aB) func14 .z 0
def YL:b7 xx:=⟨[.d (.sl aF)],[.d .bool],λa=>Aj n a.1,none⟩
def YM:Hn SI:=(cd (.s (.s .z (.b (.lx ⟨[(3,.v af),(8,.v af)],[],[6,7],[],1320,[]⟩ 0 ⟨[],[],[],[],1320,[]⟩ .z))) .z))
theorem YN:aH 17 (YL n) :=cq (ak rC aB) func17 YM n
def Qx:b7 xx:=⟨[.d (.sl gF)],[.fresh gF],λa=>yL a.1,none⟩
theorem Qy:aH 33 Qx :=cq aB func33 .z 0
def Tg:b7 xx:=⟨[.d cK,.d (.sl af)],[.d cK,.d af,.d af],λa=>eU n a.1 a.2.1,none⟩
def Ti:Hn SI:=(cd (.s (.s (.j ⟨[(29,.v .bool)],[],[1,2,4],[1000,1064],1448,[]⟩ .z) .z) (.s .z (.s (.s .z (.b (.lx ⟨[(9,.v af),(10,.v af),(37,.v af)],[(1640,.c 2 [[.v af,.o 2152]]),(2152,.l (.st SI.Phase))],[1,4,8,35,36],[1064],2153,[(7717441,.st SI.Phase)]⟩ 0 ⟨[(9,.v af)],[(1640,.c 2 [[.v af,.o 2152]]),(2152,.l (.st SI.Phase))],[4,8],[1064],2153,[]⟩ (cd (.s (.b (cd (.s (.s .z (.b (.lx ⟨[(9,.v af),(10,.v af),(48,.v af)],[(2729,.c 2 [[.o 3113,.o 2601]]),(2601,.l gF),(3113,.l aF)],[1,4,8,13,35,36,37,46,47],[1064,1640,2152],3114,[(12177984,aF)]⟩ 2 ⟨[(9,.v af),(10,.v af)],[(2729,.c 2 [[.o 3113,.o 2601]]),(2601,.l gF),(3113,.l aF)],[1,4,8,13,35,36,37],[1064,1640,2152],3114,[]⟩ (cd (.s (.jx ⟨[(9,.v af),(10,.v af)],[(2729,.c 2 [[.o 3178,.o 2601]]),(2601,.l gF),(3178,.l aF)],[1,4,8,13,35,36,37,46,47,48],[1064,1640,2152],3179,[]⟩ (.b (gx (.s (.s (.j ⟨[(66,.v .bool)],[],[1,4,8,9,10,13,15,16,17,35,36,37,46,47,48],[1064,1640,2152,2601,2729,3113,3306],4138,[]⟩ .z) .z) (.s .z (.s (.j ⟨[],[(3306,.c 9 [[.v af,.v af,.v af,.v af,.v af,.v af,.v af,.v af,.v .bool]])],[1,4,8,9,10,13,15,16,17,35,36,37,46,47,48],[1064,1640,2152,2601,2729,3113],4714,[]⟩ .z) .z)))))) .z))))) .z))) .z))))) .z))))
theorem wO:aH 10 (Tg n) :=cq (ak (Dq n) (ak (IA n) (ak Qy (ak rC (ak CU aB))))) func10 Ti n
def ul:b7 xx:=⟨[.mut aJ,.d af,.d af,.du [aJ,aJ] af],[.mu aJ],λa=>dm n a.1 a.2.1 a.2.2.1 a.2.2.2.1,none⟩
def um:Hn SI:=(.s .z (.b (.l ⟨[(8,.v af)],[(0,.l aJ)],[0,1,2,3],[],1192,[]⟩ 0 ⟨[],[(0,.l aJ)],[],[],1192,[]⟩ (.s .z (.s (.b (.s .z (.b (.l ⟨[(9,.v af)],[(0,.l aJ)],[0,1,2,3,8],[],1512,[]⟩ 2 ⟨[],[(0,.l aJ)],[0,1,2,3,8],[],1512,[]⟩ (.s (.s (.j ⟨[(34,.v .bool)],[],[0,1,2,3,8,9],[0],1512,[]⟩ .z) .z) .z))))) .z)))))
theorem uo:aH 70 (ul n) :=cq aB func70 um n
def wP:b7 xx:=⟨[.mut aJ,.d af,.d af,.d af,.du [aJ,aJ] af],[.mu aJ],λa=>dN n a.1 a.2.1 a.2.2.1 a.2.2.2.1 a.2.2.2.2.1,none⟩
def wQ:Hn SI:=(.s .z (.b (.l ⟨[(10,.v af)],[(0,.l aJ)],[0,1,2,3],[],1064,[]⟩ 0 ⟨[],[(0,.l aJ)],[],[],1064,[]⟩ .z)))
theorem wR:aH 153 (wP n) :=cq aB func153 wQ n
def zD:b7 xx:=⟨[.mut aJ,.d af,.d af,.d af,.du [aJ,aJ] af],[.mu aJ],λa=>gY n a.1 a.2.1 a.2.2.1 a.2.2.2.1 a.2.2.2.2.1,none⟩
def zF:Hn SI:=(cd (.s (.b (.l ⟨[(10,.v af),(11,.v af)],[(0,.l aJ)],[0,2,4],[],1512,[]⟩ 0 ⟨[(10,.v af)],[(0,.l aJ)],[0,2,4],[],1512,[]⟩ .z)) .z))
theorem zG:aH 112 (zD n) :=cq (ak (wR n) aB) func112 zF n
def xL:Hn SI:=(.s (.s .z (.s (cd (.s (.b (.l ⟨[(10,.v af),(11,.v af)],[],[0,1,4],[0],1512,[]⟩ 0 ⟨[(10,.v af)],[],[0,1],[0],1512,[]⟩ .z)) (.s (.s .z (.b (.l ⟨[(13,.v af)],[(0,.l aJ)],[0,10],[],1640,[]⟩ 2 ⟨[],[(0,.l aJ)],[],[],1640,[]⟩ .z))) .z))) .z)) (.s (.s .z (.s (cd (.s (.b (.l ⟨[(14,.v af),(15,.v af)],[],[0,2,4],[0],1768,[]⟩ 4 ⟨[(14,.v af)],[],[0,2],[0],1768,[]⟩ .z)) (.s (.s .z (.b (.l ⟨[(17,.v af)],[(0,.l aJ)],[0,14],[],1896,[]⟩ 6 ⟨[],[(0,.l aJ)],[],[],1896,[]⟩ .z))) .z))) .z)) (gx (.s (.j ⟨[(20,.v af),(21,.v af)],[],[0,1,2,3,4,18,19],[0],2344,[]⟩ .z) (.s .z (.s (.b (.l ⟨[(20,.v af),(21,.v af)],[],[0,1,2,3,4,18,19,22],[0],2536,[]⟩ 8 ⟨[(20,.v af)],[],[0,1,2,3,4,18,19],[0],2536,[]⟩ .z)) (.s .z (.s (.j ⟨[],[(0,.l aJ)],[0,1,3,4,18,20,24],[],2792,[]⟩ (.s (.j ⟨[(185,.v .bool)],[],[0,1,2,3,4,18,20,24],[0],2792,[]⟩ .z) .z)) (.s (.j ⟨[],[(0,.l aJ)],[0,3,4,18,24],[],2792,[]⟩ (.s (.j ⟨[(199,.v .bool)],[],[0,1,3,4,18,20,24],[0],2792,[]⟩ .z) .z)) (.s (.j ⟨[(213,.v .bool)],[],[0,3,4,18,24],[0],2792,[]⟩ .z) .z))))))))))
theorem wS(rc:((List aC))->(Int)->(Int)->(Int)->((aC×aC×Unit)->Option Int)->Option (List aC))(hr:aH 71 (jF rc)):aH 71 (jF (dh n rc)) :=cq (ak (zG n) (ak hr aB)) func71 xL n
theorem oh(n:Nat):∀m,aH 71 (jF (bU n m))
 | 0=>xF (pz func71 (by kernel_rfl:Tryz.f71.body=some (Tryz.f71.body.getD .skip)) (by kernel_rfl)) (λ _ _ h=>(by cases h)) rfl
 |m+1=>wS n _ (oh n m)
def xM:b7 xx:=⟨[.mut aJ,.d af,.d af,.d af,.du [aJ,aJ] af],[.mu aJ],λa=>fw n a.1 a.2.1 a.2.2.1 a.2.2.2.1 a.2.2.2.2.1,none⟩
theorem xN:aH 71 (xM n):=oh n n
def zH:b7 xx:=⟨[.mut aJ,.d af,.du [aJ,aJ] af],[.mu aJ],λa=>nk n a.1 a.2.1 a.2.2.1,none⟩
def zI:Hn SI:=(cd (.s (.b (.l ⟨[(7,.v af),(8,.v af)],[(0,.l aJ)],[0,1,2,6],[],1256,[]⟩ 0 ⟨[(7,.v af)],[(0,.l aJ)],[0,1,2,6],[],1256,[]⟩ .z)) (.s .z (.b (.l ⟨[(6,.v af)],[(0,.l aJ)],[0,1,2],[],1576,[]⟩ 2 ⟨[],[(0,.l aJ)],[],[],1576,[]⟩ (.s .z (.b (.s .z (.s (.b (.l ⟨[(7,.v af),(8,.v af)],[(0,.l aJ)],[0,1,2,6],[],2024,[]⟩ 4 ⟨[(7,.v af)],[(0,.l aJ)],[0,1,2,6],[],2024,[]⟩ .z)) (.s (.j ⟨[],[(0,.l aJ)],[0,1,2,6],[],2024,[]⟩ .z) .z))))))))))
theorem zJ:aH 41 (zH n) :=cq (ak (uo n) (ak (xN n) aB)) func41 zI n
def zl:b7 xx:=⟨[.mut aJ,.du [aJ,aJ] af],[.mu aJ],λa=>jf n a.1 a.2.1,none⟩
theorem zm:aH 20 (zl n) :=cq (ak (zJ n) aB) func20 .z n
def Od:b7 xx:=⟨[.d aJ,.d aJ],[.d af],λa=>nZ a.1 a.2.1,none⟩
theorem Oe:aH 21 Od :=cq (ak l8 aB) func21 .z 0
def Tj:b7 xx:=⟨[.d (.st SI.j7),.d cK,.d af],[.d .bool],λa=>kz n a.1 a.2.1 a.2.2.1,none⟩
theorem Fp:aH 11 (Tj n) :=cq (ak (wN n) aB) func11 .z n
def JZ:cM xx:=⟨[.v (.sl aF)],[],[(.f 39 [] [.p 1000])],[(1000,.c 1 [[.v (.sl aF)]])],λv=>oU v⟩
def J2:b7 xx:=⟨[],[.d .bool],λ_=>none,some (JZ)⟩
theorem J3:aH 19 J2 :=oA aB func19 .z 0 (by kernel_rfl) λ_=>by kernel_rfl
theorem Dr:eD Tryz.prog 39:=pz func39 (by kernel_rfl:Tryz.f39.body=some (Tryz.f39.body.getD .skip)) (by kernel_rfl)
theorem BU(sh:Sh SI)(hh:Hn SI):E1 Tryz.prog (⟨sh,hh,39,aF,jN n⟩:yp xx):=
 anT (code:=Sx) (n:=n) Su mixed (ak rC aB) 3 8 9 10 11 40 func39 (by kernel_rfl) rfl (by kernel_rfl) (λ l h=>Iz.2.1 (l,()) l h) (h0:=.z) (h1:=(.b (.s .z (.s (.b (.l ⟨[(4,.v af)],[(1000,.l af)],[0,1,3],[],1257,[]⟩ 2 ⟨[(4,.v af)],[(1000,.l af)],[0,1,3],[],1257,[]⟩ (.s (.s (.j ⟨[(28,.v .bool)],[],[0,1,3,4],[1000],1257,[]⟩ .z) .z) .z))) .z)))) (λ _ _=>by kernel_rfl) (λ _ _ _=>by kernel_rfl) λ_=>rfl
def Og:cM xx:=⟨[.v (.st SI.j7),.v cK,.v af],[],[(.a [.v (.sl af),.v af]),.v af],[],λv=>iO n v.1 v.2.1 v.2.2⟩
def Oh:b7 xx:=⟨[],[.d .bool],λ_=>none,some (Og n)⟩
def Oi:Hn SI:=(TX (.s (.s .z (.b (.lx ⟨[(58,.v af)],[],[2,3,4,6,56,57],[0,1,2,2408],2729,[]⟩ 2 ⟨[],[],[6],[2],2729,[]⟩ .z))) .z))
def J4:yp xx:=⟨⟨[(3,.p 0),(4,.p 1),(6,.p 2),(10,.p 3)],[(0,.c 13 [[.v (.sl aZ),.v (.sl aS),.v (.sl bg),.v (.sl aV),.v (.sl bB),.v (.sl bq),.v (.sl aP),.v af,(.v (.sl (.st SI.Lot))),(.v (.sl (.st SI.eE))),(.v (.sl (.st SI.Window))),(.v (.sl (.st SI.fS))),.v (.sl gF)]]),(1,.c 2 [[.v af,(.v (.sl (.st SI.Phase)))]]),(2,.c 2 [[.nil,.v af]]),(3,.c 1 [[.o 2408]]),(2408,.l aJ)],[2],[],2409,[(1012288,aJ),(9814592,aJ)]⟩,.z,39,aF,jN n⟩
theorem Ay:aH 6 (Oh n) :=cqX (code:=Sx) (n:=n) (i:=J4 n) Su mixed (ak (wN n) (ak (Dq n) (ak (YN n) (ak J3 (ak (wO n) (ak (zm n) (ak Oe (ak (Fp n) aB)))))))) (BU n _ _) Dr func6 Oi (by kernel_rfl) λ_=>by kernel_rfl
def aeG:b7 xx:=⟨[],[.d .bool],λ_=>Ju n,none⟩
def aeH:Hn SI:=(TO (.s (.s (.j ⟨[(74,.v .bool)],[],[2,5,9,10],[1384,2472,3688],4648,[]⟩ .z) .z) .z))
theorem aeI:aH 4 (aeG n) :=cq (ak abC (ak (Ay n) (ak (wO n) (ak rC aB)))) func4 aeH n
def aeJ:Hn SI:=(gx (.s (.s .z (.b (.l ⟨[(7,.v af),(8,.v af)],[],[1,2,3],[1000],1384,[]⟩ 0 ⟨[(7,.v af)],[],[],[],1384,[]⟩ (.s (.s (.j ⟨[(22,.v .bool)],[],[1,2,3,7,8],[1000],1384,[]⟩ .z) .z) .z)))) .z))
theorem abT(rc:(bR)->(Int)->(Int)->Option Int)(hr:aH 38 (Ey rc)):aH 38 (Ey (Ak n rc)) :=cq (ak hr aB) func38 aeJ n
theorem Oj(n:Nat):∀m,aH 38 (Ey (rX n m))
 | 0=>xF (pz func38 (by kernel_rfl:Tryz.f38.body=some (Tryz.f38.body.getD .skip)) (by kernel_rfl)) (λ _ _ h=>(by cases h)) rfl
 |m+1=>abT n _ (Oj n m)
def aeK:b7 xx:=⟨[.d (.st SI.Expr),.d af,.d af],[.d af],λa=>Cw n a.1 a.2.1 a.2.2.1,none⟩
theorem aeL:aH 38 (aeK n):=Oj n n
def agP:b7 xx:=⟨[.d (.st SI.ld)],[.d .bool],λa=>M0 n a.1,none⟩
def agQ:Hn SI:=(.s .z (.s (.s .z (.b (.lx ⟨[(3,.v af)],[],[1],[1000],1192,[]⟩ 0 ⟨[],[],[1],[1000],1192,[]⟩ (.s (.s (.j ⟨[(16,.v .bool)],[],[1,3],[1000],1192,[]⟩ .z) .z) (.s (.b (.s (.j ⟨[(46,.v .bool)],[],[1,3],[1000],1192,[]⟩ .z) .z)) .z))))) (.s (.s .z (.b (.lx ⟨[(4,.v af)],[],[1],[1000],1256,[]⟩ 2 ⟨[],[],[1],[1000],1256,[]⟩ (.s (.s (.j ⟨[(55,.v .bool)],[],[1,4],[1000],1256,[]⟩ .z) .z) .z)))) (.s (.s .z (.b (.lx ⟨[(5,.v af)],[],[1],[1000],1320,[]⟩ 4 ⟨[],[],[1],[1000],1320,[]⟩ (.s (.s (.j ⟨[(74,.v .bool)],[],[1,5],[1000],1320,[]⟩ .z) .z) .z)))) (.s (.s .z (.b (.lx ⟨[(6,.v af)],[],[1],[1000],1384,[]⟩ 6 ⟨[],[],[1],[1000],1384,[]⟩ (.s (.s (.j ⟨[(93,.v .bool)],[],[1,6],[1000],1384,[]⟩ .z) .z) .z)))) (.s (.s .z (.b (.lx ⟨[(7,.v af)],[],[1],[1000],1448,[]⟩ 8 ⟨[],[],[1],[1000],1448,[]⟩ (.s (.s (.j ⟨[(112,.v .bool)],[],[1,7],[1000],1448,[]⟩ .z) .z) .z)))) .z))))))
theorem agR:aH 15 (agP n) :=cq (ak (aeL n) aB) func15 agQ n
def Tk:b7 xx:=⟨[.d aA],[.d .bool],λa=>vI a.1,none⟩
theorem Tm:aH 152 Tk :=cq aB func152 .z 0
def XH:b7 xx:=⟨[.d (.st SI.A4)],[.d .bool],λa=>Ez a.1,none⟩
theorem XI:aH 110 XH :=cq (ak Tm aB) func110 .z 0
def abU:b7 xx:=⟨[.d af,.d af,.d af],[.d .bool],λa=>EA a.1 a.2.1 a.2.2.1,none⟩
theorem abV:aH 111 abU :=cq aB func111 .z 0
def Ol:b7 xx:=⟨[.d aF],[.d .bool],λa=>rq a.1,none⟩
theorem Om:aH 68 Ol :=cq (ak XI (ak abV aB)) func68 .z 0
def abW:b7 xx:=⟨[.d aF],[.d af],λa=>yM a.1,none⟩
theorem Oo:aH 35 abW :=cq (ak Om aB) func35 .z 0
def agS:b7 xx:=⟨[.d cK],[.d af],λa=>M4 n a.1,none⟩
def agT:Hn SI:=(cd (.s (.s .z (.b (.lx ⟨[(3,.v af),(4,.v af)],[],[1],[1000],1256,[]⟩ 0 ⟨[(3,.v af)],[],[],[],1256,[]⟩ (.s .z (.s (.b (.s .z (.b (.lx ⟨[(3,.v af),(5,.v af)],[],[1,4],[1000],1640,[]⟩ 2 ⟨[(3,.v af)],[],[1,4],[1000],1640,[]⟩ .z)))) .z))))) .z))
theorem agU:aH 16 (agS n) :=cq (ak Oo aB) func16 agT n
def ajy:b7 xx:=⟨[.d (.st SI.j7),.d cK],[.d .bool],λa=>TB n a.1 a.2.1,none⟩
def ajz:Hn SI:=(.s .z (.s (.s .z (.b (.lx ⟨[(5,.v af)],[],[2,3],[1000,1064],1256,[]⟩ 0 ⟨[],[],[2,3],[1000,1064],1256,[]⟩ (.s (.s (.j ⟨[(16,.v .bool)],[],[2,3,5],[1000,1064],1256,[]⟩ .z) .z) .z)))) (.s (.s .z (.b (.lx ⟨[(6,.v af)],[],[2,3],[1000,1064],1320,[]⟩ 2 ⟨[],[],[2,3],[1000,1064],1320,[]⟩ (.s (.s (.j ⟨[(35,.v .bool)],[],[2,3,6],[1000,1064],1320,[]⟩ .z) .z) .z)))) (.s (.s .z (.b (.lx ⟨[(7,.v af)],[],[2,3],[1000,1064],1384,[]⟩ 4 ⟨[],[],[2,3],[1000,1064],1384,[]⟩ (.s (.s (.j ⟨[(54,.v .bool)],[],[2,3,7],[1000,1064],1384,[]⟩ .z) .z) (.s (.b (.s (.j ⟨[(74,.v .bool)],[],[2,3,7],[1000,1064],1384,[]⟩ .z) .z)) .z))))) .z))))
theorem ajA:aH 5 (ajy n) :=cq (ak (agR n) (ak (agU n) aB)) func5 ajz n
def YO:b7 xx:=⟨[.d cK],[.fresh aF],λa=>Ao n a.1,none⟩
def YP:Hn SI:=(cd (.s (.s .z (.b (.l ⟨[(3,.o 1256),(4,.v af)],[(1256,.l aF)],[1],[1000],1257,[(3,aF)]⟩ 0 ⟨[(3,.o 1256)],[(1256,.l aF)],[],[],1257,[]⟩ .z))) .z))
theorem Kw:aH 8 (YO n) :=cq aB func8 YP n
def agV:b7 xx:=⟨[.d aJ,.d aJ],[.d .bool],λa=>M5 n a.1 a.2.1,none⟩
def agW:Hn SI:=(.s .z (.s (.s (.j ⟨[(19,.v .bool)],[],[2,3],[1000,1064],1192,[]⟩ .z) .z) (.s (.s .z (.b (.lx ⟨[(5,.v af)],[],[2,3],[1000,1064],1256,[]⟩ 0 ⟨[],[],[],[],1256,[]⟩ .z))) .z)))
theorem agX:aH 9 (agV n) :=cq aB func9 agW n
def agY:b7 xx:=⟨[.d cK,.d (.sl af)],[.fresh af],λa=>H7 n a.1 a.2.1,none⟩
def agZ:Hn SI:=(gx (.s (.s .z (.b (.lx ⟨[(7,.v af)],[(1448,.l af)],[5,6],[1192],1832,[]⟩ 0 ⟨[],[],[],[],1832,[]⟩ .z))) .z))
theorem ag0:aH 12 (agY n) :=cq (ak (Kw n) (ak Oo aB)) func12 agZ n
def Oq:b7 xx:=⟨[.d (.st SI.j7),.d cK,.d af],[.d .bool],λa=>ru n a.1 a.2.1 a.2.2.1,none⟩
def Ot:Hn SI:=(HH (.s (.s (.j ⟨[(49,.v .bool)],[],[2,3,4,7,8,9,11],[1000,1064,2024],2792,[]⟩ .z) .z) (cd (.s (.f [4]) (.s (.b (.lx ⟨[(12,.v .bool),(13,.v .bool),(14,.v (.sl af))],[],[2,3,4,7,8,9],[1000,1064,2024],3240,[]⟩ 0 ⟨[(13,.v .bool)],[],[7,9],[],3240,[]⟩ (.s .z (.b (cd (.s (.j ⟨[(19,.v .bool)],[],[2,3,4,7,8,9,12,13,14,15,17],[1000,1064,2024],4584,[]⟩ .z) (.s (.j ⟨[(12,.v .bool),(13,.v .bool)],[],[2,3,4,7,8,9,14,15,17,19],[1000,1064,2024],4584,[]⟩ .z) (.s (.s (.j ⟨[(119,.v .bool)],[],[2,3,4,7,8,9,12,13,14],[1000,1064,2024],4584,[]⟩ .z) .z) (.f [3]))))))))) .z)))))
theorem Ou:aH 3 (Oq n) :=cq (ak (aeI n) (ak (ajA n) (ak (Ay n) (ak (wN n) (ak (Kw n) (ak (agX n) (ak (wO n) (ak (Fp n) (ak (ag0 n) aB))))))))) func3 Ot n
end
end Go.Proofs
