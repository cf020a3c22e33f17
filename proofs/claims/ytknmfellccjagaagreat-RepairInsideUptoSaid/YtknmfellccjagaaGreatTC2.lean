import Derived.Test.YtknmfellccjagaaGreatTC1
namespace Go.Proofs
open Go.Gb Go.RowKit
open Tryz
noncomputable section
variable (n:Nat)
def zY:cQ xx:=⟨[.v af,.p 0],[(0,rI),(1,.l .bool)],[.v .bool],[(0,rI),(1,.l .bool)],λv=>nu v.1 v.2⟩
def zZ:ci xx:=tzG (zY)
theorem z8:aH 245 zZ :=oB aC func245 .z 0
def Ht:cQ xx:=⟨[.v (.sl af),(.f 245 [] [.p 0])],[(0,rI),(1,.l .bool)],[.v af],[(0,rI),(1,.l .bool)],λv=>nM n v.1 v.2⟩
def Hu:ci xx:=tzG (Ht n)
def Hw:Hn SI:=(.s .z (.s (.s .z (.b (.lx ⟨[(8,.v af)],[(0,rI),(1,.l .bool)],[0,1,7],[],1256,[]⟩ 0 ⟨[],[(0,rI),(1,.l .bool)],[],[],1256,[]⟩ .z))) .z))
theorem Hy:aH 266 (Hu n) :=oB (ak z8 aC) func266 Hw n
def CF:cQ xx:=⟨[.v (.sl af),(.f 245 [] [.p 0])],[(0,rI),(1,.l .bool)],[.v .bool],[(0,rI),(1,.l .bool)],λv=>iZ n v.1 v.2⟩
def CG:ci xx:=tzG (CF n)
theorem CJ:aH 244 (CG n) :=oB (ak (Hy n) aC) func244 .z n
def JR:ci xx:=⟨[.ref (.st SI.graph)],[.fresh af],λa=>oK n a.1,none⟩
def JS:Hn SI:=(ik (.s (.s .z (.b (.l ⟨[(4,.o 2024),(20,.v af)],[(1448,zc),(2024,.l af),(1384,.l .bool)],[0,3,19],[],2025,[(4,af)]⟩ 0 ⟨[(4,.o 2024)],[(2024,.l af)],[],[],2025,[]⟩ (cj (.s (.b (.s .z (.s (.s .z (.b (.l ⟨[(5,.v af),(27,.v af)],[(1448,zc),(1384,.l .bool)],[0,3,4,19,20,25,26],[2024],2537,[]⟩ 2 ⟨[(5,.v af)],[(1448,zc),(1384,.l .bool)],[0,3,4,19,20],[2024],2537,[]⟩ (cj (.s (.j ⟨[(5,.v af)],[(1448,zc),(1384,.l .bool)],[0,3,4,19,20,25,26,27],[2024],2601,[]⟩ (.b (cj (.s (.j ⟨[(66,.v .bool)],[],[0,3,4,5,6,19,20,25,26,27],[1384,1448,2024],3177,[]⟩ .z) .z)))) .z))))) .z))) .z))))) .z))
theorem JU:aH 216 (JR n) :=cq (ak (CJ n) aC) func216 JS n
def CK:cQ xx:=⟨[.p 0,.v af],[(0,sx)],[.oz 1000],[(0,sx),(1000,.l .str)],λv=>kI n v.1 v.2.1 v.2.2⟩
def CO:ci xx:=tzG (CK n)
def CP:Hn SI:=(wA (.b (.lx ⟨[(6,.o 1512),(7,.v af)],[(1512,.l .str)],[0,1,5],[0,1192],1513,[(6,.str)]⟩ 999999 ⟨[],[],[],[],1512,[]⟩ (.b (cj (.s (.s .z (.b (.l ⟨[(8,.v af),(34,.v af)],[],[0,1,5,6,32,33],[0,1192,2153],2921,[]⟩ 2 ⟨[(8,.v af)],[],[0,1,5,6],[0,1192,2153],2921,[]⟩ (cj (.s (.j ⟨[(8,.v af)],[],[0,1,5,6,32,33,34],[0,1192,2153],2985,[]⟩ (.b (.s .z (.s (.j ⟨[(57,.v .bool)],[],[0,1,5,6,8,10,32,33,34],[0,1192,2153],3177,[]⟩ .z) .z)))) .z))))) .z))))))
theorem CQ:aH 242 (CO n) :=oB (ak (CB n) aC) func242 CP n
def Aa:cQ xx:=⟨[.p 0],[(0,sx)],[.oz 1000],[(0,sx),(1000,.l .str)],λv=>jF n v.1 v.2⟩
def Ab:ci xx:=tzG (Aa n)
def Ac:Hn SI:=(cj (.s (.s .z (.b (.l ⟨[(3,.oz 1512),(11,.v af)],[(0,sx),(1512,.l .str)],[0,10],[],1513,[(1099511627779,.str)]⟩ 0 ⟨[(3,.oz 1512)],[(0,sx),(1512,.l .str)],[],[],1513,[]⟩ (cj (.s (.j ⟨[(3,.oz 1577)],[(0,sx),(1577,.l .str)],[0,10,11],[],1578,[]⟩ (.b (cj (.s (.s (.j ⟨[(18,.v .bool)],[],[0,3,5,10,11],[0,1512,1833],1961,[]⟩ .z) .z) (.s (.j ⟨[(40,.v .bool)],[],[0,3,5,10,11],[0,1512,1833],1961,[]⟩ .z) .z))))) .z))))) .z))
theorem Ad:aH 215 (Ab n) :=oB (ak (CQ n) (ak (KN n) aC)) func215 Ac n
def Zw:ci xx:=⟨[.d (.st SI.lP)],[.fresh af,.d (.sl .str),.d af],λa=>oL n a.1,none⟩
def Zx:Hn SI:=(cj (.s (.s .z (.b (.l ⟨[(15,.v af)],[(1256,.m .str .bool)],[1,5,13,14],[1000,1384],1576,[]⟩ 0 ⟨[],[(1256,.m .str .bool)],[1,5],[1000],1576,[]⟩ .z))) (.s (.s .z (.b (.lx ⟨[(25,.v af)],[(1256,.m .str .bool)],[1,5,23,24],[1000],1832,[]⟩ 2 ⟨[],[],[1],[1000],1832,[]⟩ .z))) (.s .z (.s (.s .z (.s (.j ⟨[(43,.v .bool)],[],[10,11],[1960,2152],2280,[]⟩ .z) .z)) .z)))))
theorem Zy:aH 179 (Zw n) :=cq (ak PW (ak PY (ak (Ad n) (ak (JU n) aC)))) func179 Zx n
def KO:ci xx:=⟨[.d aW,.ref (.st SI.Expr)],[.d .bool],λa=>Bj a.1 a.2.1,none⟩
theorem KP:aH 218 KO :=cq aC func218 .z 0
def JV:ci xx:=⟨[.d (.sl aW),.d7 [aW] .bool],[.d af],λa=>tF n a.1 a.2.1,none⟩
def JW:Hn SI:=(.s .z (.s (.s .z (.b (.lx ⟨[(8,.v af)],[],[0,1,7],[],1256,[]⟩ 0 ⟨[],[],[],[],1256,[]⟩ .z))) .z))
theorem JX:aH 217 (JV n) :=cq aC func217 JW n
def KQ:ci xx:=⟨[.d fU,.ref (.st SI.Expr)],[.d .bool],λa=>Bl a.1 a.2.1,none⟩
theorem KR:aH 220 KQ :=cq aC func220 .z 0
def an0:ci xx:=⟨[.d .bool],[.d af],λa=>zL a.1,none⟩
theorem agX:aH 181 an0 :=cq aC func181 .z 0
def aaG:ci xx:=⟨[.d af,.d af],[.d af],λa=>xG a.1 a.2.1,none⟩
def aaH:Hn SI:=(ik (.s (.j ⟨[(5,.v af)],[],[],[],1448,[]⟩ (.s .z (.s (.j ⟨[(23,.v .bool)],[],[5],[],1704,[]⟩ .z) .z))) .z))
theorem aaI:aH 221 aaG :=cq aC func221 aaH 0
def agY:ci xx:=⟨[.d af,.d af,.d af],[.d af],λa=>Kt a.1 a.2.1 a.2.2.1,none⟩
theorem agZ:aH 182 agY :=cq (ak aaI (ak agX aC)) func182 .z 0
def KS:cQ xx:=⟨[(.a [.v (.sl bE),.v (.sl aW),.v (.sl bH),.v (.sl aZ),.v (.sl bJ),.v (.sl bI),.v (.sl aS),.v af,.mp 0,.v (.sl .str)]),.v (.st SI.Expr)],[(0,.m .str af)],[.v af],[(0,.m .str af)],λ(qa,qb,qc,qd,qe,qf,qg,qh,qi,qj,qk)=>jT n qa qb qc qd qe qf qg qh qi qj qk⟩
def KT:ci xx:=tzG (KS n)
theorem KU:aH 180 (KT n) :=oB (ak (JX n) (ak KP (ak (xL n) (ak KR aC)))) func180 .z n
def Hz:Hn SI:=(cj (.s (.s .z (.b (.l ⟨[(5,.o 1512),(11,.v af)],[(0,.m .str af),(1512,.l af)],[2,3,9,10],[1000,1064],1513,[(5,af)]⟩ 0 ⟨[(5,.o 1512)],[(0,.m .str af),(1512,.l af)],[2,3],[1000,1064],1513,[]⟩ (cj (.s (.j ⟨[(5,.o 1577)],[(0,.m .str af),(1577,.l af)],[2,3,9,10,11],[1000,1064],1578,[]⟩ (.b (.s .z (.s (.s (.j ⟨[(31,.v .bool)],[],[2,3,5,7,9,10,11],[0,1000,1064,1512,1769],1961,[]⟩ .z) .z) .z)))) .z))))) .z))
theorem F6(rc:((List gZ))->((List dD))->((List fO))->((List dw))->((List jE))->((List iD))->((List dI))->(Int)->((List ByteArray))->(bZ)->((List (ByteArray×Int)))->J (Int×(List (ByteArray×Int))))(hr:aH 129 (kJ rc)):aH 129 (kJ (fZ n rc)) :=oB (ak hr (ak (KU n) (ak (qL n) (ak agX (ak agZ aC))))) func129 Hz n
theorem vo(n:Nat):∀m,aH 129 (kJ (bX n m))
 | 0=>S0 (qp func129 (by kernel_rfl:Tryz.f129.body=some (Tryz.f129.body.getD .skip)) (by kernel_rfl)) (λ _ _ h=>(by cases h))
 |m+1=>F6 n _ (vo n m)
def HV:ci xx:=kJ (bX n n)
theorem vL:aH 129 (HV n):=vo n n
def Vd:cQ xx:=⟨[.v (.st SI.lP),.v (.sl fU),.v (.sl .str)],[],[(.a [.v (.sl bE),.v (.sl aW),.v (.sl bH),.v (.sl aZ),.v (.sl bJ),.v (.sl bI),.v (.sl aS),.v af,.mp 1000,.v (.sl .str)]),.o 1001],[(1000,.m .str af),(1001,.l af)],λv=>ny n v.1 v.2.1 v.2.2⟩
def Ve:ci xx:=tzG (Vd n)
def Vf:Hn SI:=(ik (.s (.s .z (.b (.l ⟨[(26,.v af)],[(1256,.m .str af),(1576,.m .str .bool)],[3,6,8,9,24,25],[1000,1064,1448],1896,[]⟩ 0 ⟨[],[(1256,.m .str af),(1576,.m .str .bool)],[3,6,8,9],[1000,1064,1448],1896,[]⟩ (cj (.s (.j ⟨[],[(1256,.m .str af),(1576,.m .str .bool)],[3,6,8,9,24,25,26],[1000,1064,1448],1960,[]⟩ .z) .z))))) (ik (.s (.s .z (.b (.l ⟨[(61,.v af)],[(1256,.m .str af),(2088,.l af)],[3,6,8,9,12,59,60],[1000,1064,1448,1576,2280],3112,[]⟩ 2 ⟨[],[(1256,.m .str af),(2088,.l af)],[6,8,12],[1064,1448],3112,[]⟩ (cj (.s (.j ⟨[],[(1256,.m .str af),(2088,.l af)],[3,6,8,9,12,59,60,61],[1000,1064,1448,1576,2280],3176,[]⟩ (.b (cj (.s (.j ⟨[],[(1256,.m .str af),(2088,.l af)],[3,6,8,9,12,17,18,59,60,61],[1000,1064,1448,1576,2280,3688],3816,[]⟩ .z) .z)))) .z))))) .z))))
theorem Vg:aH 128 (Ve n) :=oB (ak (Zy n) (ak (Zq n) (ak (vL n) aC))) func128 Vf n
def alR:ci xx:=⟨[.d (.st SI.lP),.d (.sl fU),.d (.sl .str),.d (.st SI.Expr)],[.d af],λa=>Bn n a.1 a.2.1 a.2.2.1 a.2.2.2.1,none⟩
theorem alS:aH 93 (alR n) :=cq (ak (Zq n) (ak (Vg n) (ak (vL n) aC))) func93 .z n
def ai3:ci xx:=⟨[.d (.sl aA)],[.d aA,.d .bool],λa=>OA n a.1,none⟩
def ai4:Hn SI:=(.s .z (.s (.s .z (.b (.l ⟨[(3,.v .bool),(8,.v af)],[(1000,C4)],[2,6,7],[],1320,[]⟩ 0 ⟨[(3,.v .bool)],[(1000,C4)],[2],[],1320,[]⟩ (cj (.s (.j ⟨[(3,.v .bool)],[(1000,C4)],[2,6,7,8],[],1384,[]⟩ .z) .z))))) .z))
theorem ai5:aH 138 (ai3 n) :=cq (ak pQ aC) func138 ai4 n
def ag0:ci xx:=⟨[.d (.sl aA)],[.d aA,.d .bool],λa=>Ku n a.1,none⟩
def ag1:Hn SI:=(.s .z (.s (.s (.j ⟨[(11,.v .bool)],[],[0,2],[1000],1128,[]⟩ .z) .z) .z))
theorem ag2:aH 95 (ag0 n) :=cq (ak (qK n) (ak (ai5 n) aC)) func95 ag1 n
def Zz:ci xx:=⟨[.d aF],[.fresh bU],λa=>yN a.1,none⟩
theorem JY:aH 67 Zz :=cq aC func67 .z 0
def JZ:ci xx:=⟨[.d (.sl (.st SI.ia)),.d7 [.st SI.ia] .bool],[.d af],λa=>tH n a.1 a.2.1,none⟩
def J2:Hn SI:=(.s .z (.s (.s .z (.b (.lx ⟨[(8,.v af)],[],[0,1,7],[],1256,[]⟩ 0 ⟨[],[],[],[],1256,[]⟩ .z))) .z))
theorem J3:aH 225 (JZ n) :=cq aC func225 J2 n
def Em:ci xx:=⟨[.d (.sl (.st SI.ia)),.d7 [.st SI.ia] .bool],[.d .bool],λa=>lQ n a.1 a.2.1,none⟩
theorem En:aH 194 (Em n) :=cq (ak (J3 n) aC) func194 .z n
def ZA:ci xx:=⟨[.d af,.d af,.d af],[.d .bool],λa=>oM a.1 a.2.1 a.2.2.1,none⟩
theorem ZB:aH 226 ZA :=cq aC func226 .z 0
def aaJ:ci xx:=⟨[.d (.st SI.ia)],[.d .bool],λa=>Bp a.1,none⟩
theorem aaK:aH 196 aaJ :=cq (ak ZB aC) func196 .z 0
def Sg:ci xx:=⟨[.d (.st SI.ia)],[.d .bool],λa=>uR a.1,none⟩
theorem Si:aH 195 Sg :=cq (ak aaK aC) func195 .z 0
def aaL:ci xx:=⟨[.d aA,.d (.sl (.st SI.ia))],[.d .bool],λa=>Bq n a.1 a.2.1,none⟩
theorem aaM:aH 139 (aaL n) :=cq (ak pQ (ak (En n) (ak Si aC))) func139 .z n
def alT:ci xx:=⟨[.d (.sl aA),.d (.sl aA)],[.d .bool],λa=>OC n a.1 a.2.1,none⟩
theorem acf:aH 78 (alT n) :=cq (ak (Gm n) aC) func78 .z n
def ai6:ci xx:=⟨[.d (.sl bU)],[.d .bool],λa=>zM n a.1,none⟩
def ai7:Hn SI:=(cj (.s (.s .z (.b (.lx ⟨[(11,.v af)],[],[0,9,10],[],1448,[]⟩ 0 ⟨[],[],[],[],1448,[]⟩ (cj (.s (.jx ⟨[],[],[0,9,10,11],[],1512,[]⟩ (.b (.s .z (.s (.s (.j ⟨[(42,.v .bool)],[],[0,3,4,9,10,11],[1704],1896,[]⟩ .z) .z) (cj (.s (.j ⟨[(68,.v .bool)],[],[0,9,10,11],[],2472,[]⟩ .z) .z)))))) .z))))) .z))
theorem MZ:aH 55 (ai6 n) :=cq (ak (qK n) (ak (acf n) aC)) func55 ai7 n
def P6:ci xx:=⟨[.d aA,.d af,.d af],[.d (.st SI.ox)],λa=>xU a.1 a.2.1 a.2.2.1,none⟩
theorem P7:aH 227 P6 :=cq aC func227 .z 0
def Sj:ci xx:=⟨[.d af,.d af],[.d af],λa=>uS a.1 a.2.1,none⟩
def Sk:Hn SI:=(cj (.s (.j ⟨[(5,.v af)],[],[],[],1320,[]⟩ .z) .z))
theorem Sl:aH 228 Sj :=cq aC func228 Sk 0
def ag3:ci xx:=⟨[.d aA,.d (.sl (.st SI.ia)),.d af,.d af],[.d af],λa=>Kv n a.1 a.2.1 a.2.2.1 a.2.2.2.1,none⟩
def ag4:Hn SI:=(ik (.s (.s .z (.b (.l ⟨[(9,.v af),(19,.v af)],[],[10,17,18],[1448],1768,[]⟩ 0 ⟨[(9,.v af)],[],[],[],1768,[]⟩ .z))) .z))
theorem ag5:aH 197 (ag3 n) :=cq (ak P7 (ak Sl aC)) func197 ag4 n
def ZC:ci xx:=⟨[.d aA,.d (.sl (.st SI.ia)),.d (.sl aA)],[.d af],λa=>yP n a.1 a.2.1 a.2.2.1,none⟩
def ZE:Hn SI:=(cj (.s (.s .z (.b (.l ⟨[(7,.v af),(16,.v af)],[],[1,3,14,15],[1000],1384,[]⟩ 0 ⟨[(7,.v af)],[],[],[],1384,[]⟩ (cj (.s (.b (cj (.b (.l ⟨[(7,.v af),(27,.v af)],[],[1,3,9,14,15,16,25,26],[1000,1576,2024],2216,[]⟩ 2 ⟨[(7,.v af)],[],[1,3,14,15,16],[1000],2216,[]⟩ (cj (.s (.b (cj (.b (.l ⟨[(7,.v af),(38,.v af)],[],[1,3,9,11,14,15,16,25,26,27,36,37],[1000,1576,2024,2792],2984,[]⟩ 4 ⟨[(7,.v af)],[],[1,3,9,14,15,16,25,26,27],[1000,1576,2024],2984,[]⟩ .z)))) .z)))))) .z))))) .z))
theorem ZF:aH 141 (ZC n) :=cq (ak (ag5 n) aC) func141 ZE n
def P8:ci xx:=⟨[.d bU,.ref aA,.ref (.sl (.st SI.ia))],[.d .bool],λa=>sU n a.1 a.2.1 a.2.2.1,none⟩
theorem P9:aH 140 (P8 n) :=cq (ak (ZF n) aC) func140 .z n
def KV:ci xx:=⟨[.d (.sl bU),.d7 [bU] .bool],[.d af],λa=>uT n a.1 a.2.1,none⟩
def KW:Hn SI:=(.s .z (.s (.s .z (.b (.lx ⟨[(8,.v af)],[],[0,1,7],[],1256,[]⟩ 0 ⟨[],[],[],[],1256,[]⟩ .z))) .z))
theorem KX:aH 145 (KV n) :=cq aC func145 KW n
def F7:ci xx:=⟨[.d (.sl bU),.d7 [bU] .bool],[.d .bool],λa=>jK n a.1 a.2.1,none⟩
theorem vv:aH 101 (F7 n) :=cq (ak (KX n) aC) func101 .z n
def ZG:ci xx:=⟨[.d aA,.d (.sl (.st SI.ia)),.d (.sl bU)],[.d .bool],λa=>yQ n a.1 a.2.1 a.2.2.1,none⟩
def ZH:Hn SI:=(.s .z (.s (.s (.j ⟨[(15,.v .bool)],[],[2,3,4],[1000,1064],1192,[]⟩ .z) .z) .z))
theorem ZI:aH 97 (ZG n) :=cq (ak (aaM n) (ak (MZ n) (ak (vv n) (ak (P9 n) aC)))) func97 ZH n
def CR:ci xx:=⟨[.d aF,.ref aA,.ref aZ],[.d .bool],λa=>kK n a.1 a.2.1 a.2.2.1,none⟩
theorem CU:aH 96 (CR n) :=cq (ak JY (ak (ZI n) aC)) func96 .z n
def M0:ci xx:=⟨[.d (.st SI.lf),.d7 [aF] .bool],[.d .bool],λa=>iJ n a.1 a.2.1,none⟩
theorem Ae:aH 64 (M0 n) :=cq (ak (sH n) aC) func64 .z n
def CV:ci xx:=⟨[.d aF,.ref aZ],[.d .bool],λa=>kL a.1 a.2.1,none⟩
theorem CW:aH 98 CV :=cq aC func98 .z 0
def an1:ci xx:=⟨[.d aA,.d aA],[.d af,.d af],λa=>ana a.1 a.2.1,none⟩
theorem an2:aH 199 an1 :=cq aC func199 .z 0
def apl:ci xx:=⟨[.d aA,.d aA],[.d af],λa=>V0 a.1 a.2.1,none⟩
def apm:Hn SI:=(.s .z (.s (.s (.j ⟨[(14,.v .bool)],[],[2,3],[1000,1064],1192,[]⟩ .z) .z) .z))
theorem apn:aH 144 apl :=cq (ak pQ (ak an2 aC)) func144 apm 0
def Eo:ci xx:=⟨[.d (.st SI.gE),.ref (.st SI.lf),.ref aF,.ref aZ],[.d .bool],λa=>d9 a.1 a.2.1 a.2.2.1 a.2.2.2.1,none⟩
def Ep:Hn SI:=(cj (.s (.s (.j ⟨[(32,.v .bool)],[],[2,3,6],[1256],1384,[]⟩ .z) .z) (.s (.j ⟨[(7,.v .bool)],[],[2,3,6],[1256],1384,[]⟩ .z) .z)))
theorem Er:aH 143 Eo :=cq (ak pQ (ak apn aC)) func143 Ep 0
def HY:ci xx:=⟨[.d (.sl (.st SI.gE)),.d7 [.st SI.gE] .bool],[.d af],λa=>rM n a.1 a.2.1,none⟩
def HZ:Hn SI:=(.s .z (.s (.s .z (.b (.lx ⟨[(8,.v af)],[],[0,1,7],[],1256,[]⟩ 0 ⟨[],[],[],[],1256,[]⟩ .z))) .z))
theorem H6:aH 198 (HY n) :=cq aC func198 HZ n
def CX:ci xx:=⟨[.d (.sl (.st SI.gE)),.d7 [.st SI.gE] .bool],[.d .bool],λa=>kM n a.1 a.2.1,none⟩
theorem CY:aH 142 (CX n) :=cq (ak (H6 n) aC) func142 .z n
def J4:ci xx:=⟨[.d (.st SI.lf),.d aZ,.d aF],[.d .bool],λa=>tJ n a.1 a.2.1 a.2.2.1,none⟩
theorem J5:aH 100 (J4 n) :=cq (ak (CY n) (ak Er aC)) func100 .z n
def CZ:ci xx:=⟨[.d aF,.ref (.st SI.lf),.ref aZ],[.d .bool],λa=>kN n a.1 a.2.1 a.2.2.1,none⟩
theorem C8:aH 99 (CZ n) :=cq (ak (J5 n) aC) func99 .z n
def H7:ci xx:=⟨[.d (.st SI.lf),.d aZ],[.d .bool],λa=>nN n a.1 a.2.1,none⟩
theorem H8:aH 63 (H7 n) :=cq (ak (ad2 n) (ak (alS n) (ak (ag2 n) (ak (Ae n) (ak (CU n) (ak CW (ak (C8 n) aC))))))) func63 .z n
def Vh:ci xx:=⟨[.d aA,.ref aA],[.d .bool],λa=>wM a.1 a.2.1,none⟩
theorem Vi:aH 148 Vh :=cq aC func148 .z 0
def KY:ci xx:=⟨[.d (.sl aA),.d7 [aA] .bool],[.d af],λa=>uU n a.1 a.2.1,none⟩
def KZ:Hn SI:=(.s .z (.s (.s .z (.b (.lx ⟨[(8,.v af)],[],[0,1,7],[],1256,[]⟩ 0 ⟨[],[],[],[],1256,[]⟩ .z))) .z))
theorem K3:aH 200 (KY n) :=cq aC func200 KZ n
def F8:ci xx:=⟨[.d (.sl aA),.d7 [aA] .bool],[.d .bool],λa=>jL n a.1 a.2.1,none⟩
theorem vw:aH 146 (F8 n) :=cq (ak (K3 n) aC) func146 .z n
def ad4:ci xx:=⟨[.d aA,.ref (.sl aA)],[.d .bool],λa=>Fx n a.1 a.2.1,none⟩
theorem ad5:aH 147 (ad4 n) :=cq (ak (vw n) (ak Vi aC)) func147 .z n
def alU:ci xx:=⟨[.d (.sl aA),.d (.sl aA)],[.d .bool],λa=>VJ n a.1 a.2.1,none⟩
theorem alV:aH 103 (alU n) :=cq (ak (vw n) (ak (ad5 n) aC)) func103 .z n
def Vj:ci xx:=⟨[.d bU,.ref (.st SI.eW)],[.d .bool],λa=>rX n a.1 a.2.1,none⟩
theorem Vk:aH 102 (Vj n) :=cq (ak (alV n) aC) func102 .z n
def ad6:ci xx:=⟨[.d (.sl (.st SI.eW)),.d af,.d (.sl bU)],[.d .bool],λa=>Fy n a.1 a.2.1 a.2.2.1,none⟩
def ad7:Hn SI:=(cj (.s (.s .z (.b (.lx ⟨[(14,.v af)],[],[1,2,12,13],[],1448,[]⟩ 0 ⟨[],[],[],[],1448,[]⟩ (cj (.s (.jx ⟨[],[],[1,2,12,13,14],[],1512,[]⟩ (.b (.s .z (.s (.s (.j ⟨[(27,.v .bool)],[],[1,2,8,12,13,14],[1640],1768,[]⟩ .z) .z) .z)))) .z))))) .z))
theorem ad8:aH 66 (ad6 n) :=cq (ak (MZ n) (ak (qK n) (ak (vv n) (ak (Vk n) aC)))) func66 ad7 n
def M4:ci xx:=⟨[.d aF,.ref (.st SI.pg),.ref dm],[.d .bool],λa=>nQ n a.1 a.2.1 a.2.2.1,none⟩
theorem M5:aH 65 (M4 n) :=cq (ak JY (ak (ad8 n) aC)) func65 .z n
def H9:cQ xx:=⟨[.v .str,.v .bool,.p 0],[(0,rI),(1,.l .str)],[],[(0,.c 1 [[.o 1000]]),(1000,.l .str)],λv=>kg n v.1 v.2.1 v.2.2⟩
def Ia:ci xx:=tzG (H9 n)
def Ib:Hn SI:=(.s (.j ⟨[(11,.v .bool)],[],[0,2],[0,1],1000,[]⟩ .z) .z)
theorem Ic:aH 60 (Ia n) :=oB (ak (qL n) aC) func60 Ib n
def Vl:ci xx:=⟨[.d (.st SI.pg),.d dm,.d af],[.fresh .str,.d af],λa=>rY n a.1 a.2.1 a.2.2.1,none⟩
def Vm:Hn SI:=(X2 (.s (.s .z (.b (.l ⟨[(31,.v af)],[(1960,.c 1 [[.o 2664]]),(2664,.l .str)],[3,4,8,10,11,29,30],[1000,1064,1640,2472],2665,[(9028160,.str)]⟩ 0 ⟨[],[(1960,.c 1 [[.o 2664]]),(2664,.l .str)],[3,4,8,10,11],[1000,1064,1640],2665,[]⟩ .z))) .z))
theorem Gp:aH 36 (Vl n) :=cq (ak (aaC n) (ak (Zp n) (ak (H8 n) (ak (Ic n) (ak (Ae n) (ak (M5 n) aC)))))) func36 Vm n
def Sm:ci xx:=⟨[.d dm],[.fresh aF],λa=>nS n a.1,none⟩
def Sn:Hn SI:=(cj (.s (.s .z (.b (.l ⟨[(3,.o 1448),(9,.v af)],[(1448,.l aF)],[7,8],[],1449,[(3,aF)]⟩ 0 ⟨[(3,.o 1448)],[(1448,.l aF)],[],[],1449,[]⟩ .z))) .z))
theorem Es:aH 17 (Sm n) :=cq aC func17 Sn n
def Vn:ci xx:=⟨[.d aF],[.d af],λa=>nC a.1,none⟩
theorem tq:aH 14 Vn :=cq (ak jl aC) func14 .z 0
def aaN:ci xx:=⟨[.d (.sl aF)],[.d .bool],λa=>Bt n a.1,none⟩
def aaO:Hn SI:=(cj (.s (.s .z (.b (.lx ⟨[(3,.v af),(8,.v af)],[],[6,7],[],1320,[]⟩ 0 ⟨[],[],[],[],1320,[]⟩ .z))) .z))
theorem aaP:aH 37 (aaN n) :=cq (ak tq aC) func37 aaO n
def Sq:ci xx:=⟨[.d (.sl fU)],[.fresh fU],λa=>zN a.1,none⟩
theorem Sr:aH 18 Sq :=cq aC func18 .z 0
def Vo:ci xx:=⟨[.d dm,.d (.sl af)],[.d dm,.d af,.d af],λa=>gK n a.1 a.2.1,none⟩
def Vp:Hn SI:=(cj (.s (.s (.j ⟨[(29,.v .bool)],[],[1,2,4],[1000,1064],1448,[]⟩ .z) .z) (.s .z (.s (.s .z (.b (.lx ⟨[(9,.v af),(10,.v af),(37,.v af)],[(1640,.c 2 [[.v af,.o 2152]]),(2152,.l (.st SI.Phase))],[1,4,8,35,36],[1064],2153,[(7717441,.st SI.Phase)]⟩ 0 ⟨[(9,.v af)],[(1640,.c 2 [[.v af,.o 2152]]),(2152,.l (.st SI.Phase))],[4,8],[1064],2153,[]⟩ (cj (.s (.b (cj (.s (.s .z (.b (.lx ⟨[(9,.v af),(10,.v af),(48,.v af)],[(2729,.c 2 [[.o 3113,.o 2601]]),(2601,.l fU),(3113,.l aF)],[1,4,8,13,35,36,37,46,47],[1064,1640,2152],3114,[(12177984,aF)]⟩ 2 ⟨[(9,.v af),(10,.v af)],[(2729,.c 2 [[.o 3113,.o 2601]]),(2601,.l fU),(3113,.l aF)],[1,4,8,13,35,36,37],[1064,1640,2152],3114,[]⟩ (cj (.s (.jx ⟨[(9,.v af),(10,.v af)],[(2729,.c 2 [[.o 3178,.o 2601]]),(2601,.l fU),(3178,.l aF)],[1,4,8,13,35,36,37,46,47,48],[1064,1640,2152],3179,[]⟩ (.b (ik (.s (.s (.j ⟨[(66,.v .bool)],[],[1,4,8,9,10,13,15,16,17,35,36,37,46,47,48],[1064,1640,2152,2601,2729,3113,3306],4138,[]⟩ .z) .z) (.s .z (.s (.j ⟨[],[(3306,.c 9 [[.v af,.v af,.v af,.v af,.v af,.v af,.v af,.v af,.v .bool]])],[1,4,8,9,10,13,15,16,17,35,36,37,46,47,48],[1064,1640,2152,2601,2729,3113],4714,[]⟩ .z) .z)))))) .z))))) .z))) .z))))) .z))))
theorem yc:aH 6 (Vo n) :=cq (ak (Es n) (ak (vg n) (ak Sr (ak tq (ak D5 aC))))) func6 Vp n
def vz:ci xx:=⟨[.mut aM,.d af,.d af,.d7 [aM,aM] af],[.mu aM],λa=>dH n a.1 a.2.1 a.2.2.1 a.2.2.2.1,none⟩
def vB:Hn SI:=(.s .z (.b (.l ⟨[(8,.v af)],[(0,.l aM)],[0,1,2,3],[],1192,[]⟩ 0 ⟨[],[(0,.l aM)],[],[],1192,[]⟩ (.s .z (.s (.b (.s .z (.b (.l ⟨[(9,.v af)],[(0,.l aM)],[0,1,2,3,8],[],1512,[]⟩ 2 ⟨[],[(0,.l aM)],[0,1,2,3,8],[],1512,[]⟩ (.s (.s (.j ⟨[(34,.v .bool)],[],[0,1,2,3,8,9],[0],1512,[]⟩ .z) .z) .z))))) .z)))))
theorem vC:aH 104 (vz n) :=cq aC func104 vB n
def yg:ci xx:=⟨[.mut aM,.d af,.d af,.d af,.d7 [aM,aM] af],[.mu aM],λ(qa,qb,qc,qd,qe,_)=>dX n qa qb qc qd qe,none⟩
def yh:Hn SI:=(.s .z (.b (.l ⟨[(10,.v af)],[(0,.l aM)],[0,1,2,3],[],1064,[]⟩ 0 ⟨[],[(0,.l aM)],[],[],1064,[]⟩ .z)))
theorem yj:aH 201 (yg n) :=cq aC func201 yh n
def Ay:ci xx:=⟨[.mut aM,.d af,.d af,.d af,.d7 [aM,aM] af],[.mu aM],λ(qa,qb,qc,qd,qe,_)=>iK n qa qb qc qd qe,none⟩
def Az:Hn SI:=(cj (.s (.b (.l ⟨[(10,.v af),(11,.v af)],[(0,.l aM)],[0,2,4],[],1512,[]⟩ 0 ⟨[(10,.v af)],[(0,.l aM)],[0,2,4],[],1512,[]⟩ .z)) .z))
theorem AA:aH 149 (Ay n) :=cq (ak (yj n) aC) func149 Az n
def y5:Hn SI:=(.s (.s .z (.s (cj (.s (.b (.l ⟨[(10,.v af),(11,.v af)],[],[0,1,4],[0],1512,[]⟩ 0 ⟨[(10,.v af)],[],[0,1],[0],1512,[]⟩ .z)) (.s (.s .z (.b (.l ⟨[(13,.v af)],[(0,.l aM)],[0,10],[],1640,[]⟩ 2 ⟨[],[(0,.l aM)],[],[],1640,[]⟩ .z))) .z))) .z)) (.s (.s .z (.s (cj (.s (.b (.l ⟨[(14,.v af),(15,.v af)],[],[0,2,4],[0],1768,[]⟩ 4 ⟨[(14,.v af)],[],[0,2],[0],1768,[]⟩ .z)) (.s (.s .z (.b (.l ⟨[(17,.v af)],[(0,.l aM)],[0,14],[],1896,[]⟩ 6 ⟨[],[(0,.l aM)],[],[],1896,[]⟩ .z))) .z))) .z)) (ik (.s (.j ⟨[(20,.v af),(21,.v af)],[],[0,1,2,3,4,18,19],[0],2344,[]⟩ .z) (.s .z (.s (.b (.l ⟨[(20,.v af),(21,.v af)],[],[0,1,2,3,4,18,19,22],[0],2536,[]⟩ 8 ⟨[(20,.v af)],[],[0,1,2,3,4,18,19],[0],2536,[]⟩ .z)) (.s .z (.s (.j ⟨[],[(0,.l aM)],[0,1,3,4,18,20,24],[],2792,[]⟩ (.s (.j ⟨[(185,.v .bool)],[],[0,1,2,3,4,18,20,24],[0],2792,[]⟩ .z) .z)) (.s (.j ⟨[],[(0,.l aM)],[0,3,4,18,24],[],2792,[]⟩ (.s (.j ⟨[(199,.v .bool)],[],[0,1,3,4,18,20,24],[0],2792,[]⟩ .z) .z)) (.s (.j ⟨[(213,.v .bool)],[],[0,3,4,18,24],[0],2792,[]⟩ .z) .z))))))))))
theorem yu(rc:((List aD))->(Int)->(Int)->(Int)->((aD×aD×Unit)->J Int)->J (List aD))(hr:aH 105 (jX rc)):aH 105 (jX (dG n rc)) :=cq (ak (AA n) (ak hr aC)) func105 y5 n
theorem pu(n:Nat):∀m,aH 105 (jX (cK n m))
 | 0=>At (qp func105 (by kernel_rfl:Tryz.f105.body=some (Tryz.f105.body.getD .skip)) (by kernel_rfl)) (λ _ _ h=>(by cases h)) rfl
 |m+1=>yu n _ (pu n m)
def y7:ci xx:=⟨[.mut aM,.d af,.d af,.d af,.d7 [aM,aM] af],[.mu aM],λ(qa,qb,qc,qd,qe,_)=>fG n qa qb qc qd qe,none⟩
theorem y8:aH 105 (y7 n):=pu n n
def AB:ci xx:=⟨[.mut aM,.d af,.d7 [aM,aM] af],[.mu aM],λa=>nT n a.1 a.2.1 a.2.2.1,none⟩
def AJ:Hn SI:=(cj (.s (.b (.l ⟨[(7,.v af),(8,.v af)],[(0,.l aM)],[0,1,2,6],[],1256,[]⟩ 0 ⟨[(7,.v af)],[(0,.l aM)],[0,1,2,6],[],1256,[]⟩ .z)) (.s .z (.b (.l ⟨[(6,.v af)],[(0,.l aM)],[0,1,2],[],1576,[]⟩ 2 ⟨[],[(0,.l aM)],[],[],1576,[]⟩ (.s .z (.b (.s .z (.s (.b (.l ⟨[(7,.v af),(8,.v af)],[(0,.l aM)],[0,1,2,6],[],2024,[]⟩ 4 ⟨[(7,.v af)],[(0,.l aM)],[0,1,2,6],[],2024,[]⟩ .z)) (.s (.j ⟨[],[(0,.l aM)],[0,1,2,6],[],2024,[]⟩ .z) .z))))))))))
theorem AL:aH 70 (AB n) :=cq (ak (vC n) (ak (y8 n) aC)) func70 AJ n
def Af:ci xx:=⟨[.mut aM,.d7 [aM,aM] af],[.mu aM],λa=>jG n a.1 a.2.1,none⟩
theorem Ag:aH 39 (Af n) :=cq (ak (AL n) aC) func39 .z n
def Qa:ci xx:=⟨[.d aM,.d aM],[.d af],λa=>o7 a.1 a.2.1,none⟩
theorem Qb:aH 40 Qa :=cq (ak mU aC) func40 .z 0
def Vq:ci xx:=⟨[.d (.st SI.pg),.d dm,.d af],[.d .bool],λa=>rZ n a.1 a.2.1 a.2.2.1,none⟩
theorem Vr:aH 42 (Vq n) :=cq (ak (Gp n) aC) func42 .z n
def K4:cQ xx:=⟨[.v (.sl aF)],[],[(.f 68 [] [.p 1000])],[(1000,.c 1 [[.v (.sl aF)]])],λv=>qa v⟩
def K5:ci xx:=tzG (K4)
theorem K6:aH 38 K5 :=oB aC func38 .z 0
theorem Et:eZ Tryz.prog 68:=qp func68 (by kernel_rfl:Tryz.f68.body=some (Tryz.f68.body.getD .skip)) (by kernel_rfl)
theorem C9(sh:Sh SI)(hh:Hn SI):Hc Tryz.prog (⟨sh,hh,68,aF,ko n⟩:A0 xx):=
 aqG (code:=US) (n:=n) UP mixed (ak tq aC) 3 8 9 10 11 69 func68 (by kernel_rfl) rfl (by kernel_rfl) (λ l h=>JL.2.1 (l,()) l h) (h0:=.z) (h1:=(.b (.s .z (.s (.b (.l ⟨[(4,.v af)],[(1000,.l af)],[0,1,3],[],1257,[]⟩ 2 ⟨[(4,.v af)],[(1000,.l af)],[0,1,3],[],1257,[]⟩ (.s (.s (.j ⟨[(28,.v .bool)],[],[0,1,3,4],[1000],1257,[]⟩ .z) .z) .z))) .z)))) (λ _ _=>by kernel_rfl) (λ _ _ _=>by kernel_rfl) λ_=>rfl
def Qc:cQ xx:=⟨[.v (.st SI.pg),.v dm,.v af],[],[(.a [.v (.sl af),.v af]),.v af],[],λv=>jY n v.1 v.2.1 v.2.2⟩
def Qd:ci xx:=tzG (Qc n)
def Qe:Hn SI:=(X1 (.s (.s .z (.b (.lx ⟨[(58,.v af)],[],[2,3,4,6,56,57],[0,1,2,2408],2729,[]⟩ 2 ⟨[],[],[6],[2],2729,[]⟩ .z))) .z))
def K7:A0 xx:=⟨⟨[(3,.p 0),(4,.p 1),(6,.p 2),(10,.p 3)],[(0,.c 13 [[.v (.sl bE),.v (.sl aW),.v (.sl bH),.v (.sl aZ),.v (.sl bJ),.v (.sl bI),.v (.sl aS),.v af,(.v (.sl (.st SI.Lot))),(.v (.sl (.st SI.eW))),(.v (.sl (.st SI.Window))),(.v (.sl (.st SI.gE))),.v (.sl fU)]]),(1,.c 2 [[.v af,(.v (.sl (.st SI.Phase)))]]),(2,.c 2 [[.nil,.v af]]),(3,.c 1 [[.o 2408]]),(2408,.l aM)],[2],[],2409,[(1012288,aM),(9814592,aM)]⟩,.z,68,aF,ko n⟩
theorem Qf:aH 13 (Qd n) :=cqX (code:=US) (n:=n) (i:=K7 n) UP mixed (ak (Gp n) (ak (Es n) (ak (aaP n) (ak K6 (ak (yc n) (ak (Ag n) (ak Qb (ak (Vr n) aC)))))))) (C9 n _ _) Et func13 Qe (by kernel_rfl) λ_=>by kernel_rfl
def ag6:ci xx:=⟨[],[.d .bool],λ_=>Kw n,none⟩
def ag7:Hn SI:=(XX (.s (.s (.j ⟨[(74,.v .bool)],[],[2,5,9,10],[1384,2472,3688],4648,[]⟩ .z) .z) .z))
theorem ag8:aH 4 (ag6 n) :=cq (ak adS (ak (Qf n) (ak (yc n) (ak tq aC)))) func4 ag7 n
def ag9:Hn SI:=(ik (.s (.s .z (.b (.l ⟨[(7,.v af),(8,.v af)],[],[1,2,3],[1000],1384,[]⟩ 0 ⟨[(7,.v af)],[],[],[],1384,[]⟩ (.s (.s (.j ⟨[(22,.v .bool)],[],[1,2,3,7,8],[1000],1384,[]⟩ .z) .z) .z)))) .z))
theorem ad9(rc:(bZ)->(Int)->(Int)->J Int)(hr:aH 43 (Fz rc)):aH 43 (Fz (Bu n rc)) :=cq (ak hr aC) func43 ag9 n
theorem Qg(n:Nat):∀m,aH 43 (Fz (tZ n m))
 | 0=>At (qp func43 (by kernel_rfl:Tryz.f43.body=some (Tryz.f43.body.getD .skip)) (by kernel_rfl)) (λ _ _ h=>(by cases h)) rfl
 |m+1=>ad9 n _ (Qg n m)
def aha:ci xx:=⟨[.d (.st SI.Expr),.d af,.d af],[.d af],λa=>Dz n a.1 a.2.1 a.2.2.1,none⟩
theorem ahb:aH 43 (aha n):=Qg n n
def ai8:ci xx:=⟨[.d (.st SI.lP)],[.d .bool],λa=>OE n a.1,none⟩
def ai9:Hn SI:=(.s .z (.s (.s .z (.b (.lx ⟨[(3,.v af)],[],[1],[1000],1192,[]⟩ 0 ⟨[],[],[1],[1000],1192,[]⟩ (.s (.s (.j ⟨[(16,.v .bool)],[],[1,3],[1000],1192,[]⟩ .z) .z) (.s (.b (.s (.j ⟨[(46,.v .bool)],[],[1,3],[1000],1192,[]⟩ .z) .z)) .z))))) (.s (.s .z (.b (.lx ⟨[(4,.v af)],[],[1],[1000],1256,[]⟩ 2 ⟨[],[],[1],[1000],1256,[]⟩ (.s (.s (.j ⟨[(55,.v .bool)],[],[1,4],[1000],1256,[]⟩ .z) .z) .z)))) (.s (.s .z (.b (.lx ⟨[(5,.v af)],[],[1],[1000],1320,[]⟩ 4 ⟨[],[],[1],[1000],1320,[]⟩ (.s (.s (.j ⟨[(74,.v .bool)],[],[1,5],[1000],1320,[]⟩ .z) .z) .z)))) (.s (.s .z (.b (.lx ⟨[(6,.v af)],[],[1],[1000],1384,[]⟩ 6 ⟨[],[],[1],[1000],1384,[]⟩ (.s (.s (.j ⟨[(93,.v .bool)],[],[1,6],[1000],1384,[]⟩ .z) .z) .z)))) (.s (.s .z (.b (.lx ⟨[(7,.v af)],[],[1],[1000],1448,[]⟩ 8 ⟨[],[],[1],[1000],1448,[]⟩ (.s (.s (.j ⟨[(112,.v .bool)],[],[1,7],[1000],1448,[]⟩ .z) .z) .z)))) .z))))))
theorem aja:aH 15 (ai8 n) :=cq (ak (ahb n) aC) func15 ai9 n
def Vs:ci xx:=⟨[.d aA],[.d .bool],λa=>wO a.1,none⟩
theorem Vt:aH 150 Vs :=cq aC func150 .z 0
def ZJ:ci xx:=⟨[.d (.st SI.wc)],[.d .bool],λa=>FB a.1,none⟩
theorem ZK:aH 106 ZJ :=cq (ak Vt aC) func106 .z 0
def aea:ci xx:=⟨[.d af,.d af,.d af],[.d .bool],λa=>FC a.1 a.2.1 a.2.2.1,none⟩
theorem aeb:aH 107 aea :=cq aC func107 .z 0
def Qh:ci xx:=⟨[.d aF],[.d .bool],λa=>sV a.1,none⟩
theorem Qi:aH 72 Qh :=cq (ak ZK (ak aeb aC)) func72 .z 0
def aec:ci xx:=⟨[.d aF],[.d af],λa=>FD a.1,none⟩
theorem aed:aH 44 aec :=cq (ak Qi aC) func44 .z 0
def ajb:ci xx:=⟨[.d dm],[.d af],λa=>OG n a.1,none⟩
def ajc:Hn SI:=(cj (.s (.s .z (.b (.lx ⟨[(3,.v af),(4,.v af)],[],[1],[1000],1256,[]⟩ 0 ⟨[(3,.v af)],[],[],[],1256,[]⟩ (.s .z (.s (.b (.s .z (.b (.lx ⟨[(3,.v af),(5,.v af)],[],[1,4],[1000],1640,[]⟩ 2 ⟨[(3,.v af)],[],[1,4],[1000],1640,[]⟩ .z)))) .z))))) .z))
theorem ajd:aH 16 (ajb n) :=cq (ak aed aC) func16 ajc n
def alW:ci xx:=⟨[.d (.st SI.pg),.d dm],[.d .bool],λa=>VK n a.1 a.2.1,none⟩
def alX:Hn SI:=(.s .z (.s (.s .z (.b (.lx ⟨[(5,.v af)],[],[2,3],[1000,1064],1256,[]⟩ 0 ⟨[],[],[2,3],[1000,1064],1256,[]⟩ (.s (.s (.j ⟨[(16,.v .bool)],[],[2,3,5],[1000,1064],1256,[]⟩ .z) .z) .z)))) (.s (.s .z (.b (.lx ⟨[(6,.v af)],[],[2,3],[1000,1064],1320,[]⟩ 2 ⟨[],[],[2,3],[1000,1064],1320,[]⟩ (.s (.s (.j ⟨[(35,.v .bool)],[],[2,3,6],[1000,1064],1320,[]⟩ .z) .z) .z)))) (.s (.s .z (.b (.lx ⟨[(7,.v af)],[],[2,3],[1000,1064],1384,[]⟩ 4 ⟨[],[],[2,3],[1000,1064],1384,[]⟩ (.s (.s (.j ⟨[(54,.v .bool)],[],[2,3,7],[1000,1064],1384,[]⟩ .z) .z) (.s (.b (.s (.j ⟨[(74,.v .bool)],[],[2,3,7],[1000,1064],1384,[]⟩ .z) .z)) .z))))) .z))))
theorem alY:aH 5 (alW n) :=cq (ak (aja n) (ak (ajd n) aC)) func5 alX n
def aee:ci xx:=⟨[.d (.sl (.sl bU))],[.fresh af],λa=>tK n a.1,none⟩
def aef:Hn SI:=(cj (.s (.s .z (.b (.l ⟨[(3,.o 1320),(10,.v af)],[(1320,.l af)],[8,9],[],1321,[(3,af)]⟩ 0 ⟨[(3,.o 1320)],[(1320,.l af)],[],[],1321,[]⟩ (cj (.s (.b (cj (.b (.l ⟨[(3,.o 1769),(16,.v af)],[(1769,.l af)],[8,9,10,14,15],[],1770,[]⟩ 2 ⟨[(3,.o 1769)],[(1769,.l af)],[8,9,10],[],1770,[]⟩ .z)))) .z))))) .z))
theorem Qj:aH 47 (aee n) :=cq (ak (sI n) (ak (rq n) aC)) func47 aef n
def an3:ci xx:=⟨[.mut bU,.d bU],[.fresh bU,.mv],λa=>Rb n a.1 a.2.1,none⟩
def an4:Hn SI:=(cj (.s (.s .z (.s (.j ⟨[(35,.v .bool)],[],[0,3,5],[0,1000],1640,[]⟩ .z) .z)) .z))
theorem ahc:aH 49 (an3 n) :=cq (ak (acf n) aC) func49 an4 n
def alZ:ci xx:=⟨[.d (.sl bU)],[.d (.sl bU),.d af],λa=>VL a.1,none⟩
theorem acg:aH 50 alZ :=cq aC func50 .z 0
def apo:ci xx:=⟨[.d (.sl (.st SI.wc))],[.d (.sl bU),.d af],λa=>Q3 n a.1,none⟩
def apq:Hn SI:=(cj (.s (.s .z (.b (.lx ⟨[(4,.o 1384),(17,.v af)],[(1384,.l bU)],[0,15,16],[],1385,[(4,bU)]⟩ 0 ⟨[(4,.o 1384)],[(1384,.l bU)],[0],[],1385,[]⟩ (cj (.s (.b (.s .z (.s (.s (.j ⟨[(41,.v .bool)],[],[0,4,6,15,16,17],[1384,1577],1705,[]⟩ .z) .z) .z))) .z))))) (ik (.s (.s .z (.b (.lx ⟨[(8,.o 1961),(9,.v af)],[(1961,.l bU)],[0,7],[1705],1962,[(8,bU)]⟩ 2 ⟨[(8,.o 1961)],[(1961,.l bU)],[],[],1962,[]⟩ (.s .z (.s (.b (.s .z (.s (.s .z (.b (.l ⟨[(10,.o 2474),(65,.v af)],[(2474,.l aA)],[0,7,8,9,63,64],[1705,1961],2475,[(10,aA)]⟩ 4 ⟨[(10,.o 2474)],[(2474,.l aA)],[0,7,8,9],[1705,1961],2475,[]⟩ (cj (.s (.j ⟨[(10,.o 2539)],[(2539,.l aA)],[0,7,8,9,63,64,65],[1705,1961],2540,[]⟩ (.b (.s .z (.s (.j ⟨[(85,.v .bool)],[],[0,7,8,9,10,12,63,64,65],[1705,1961,2474,2667],2795,[]⟩ .z) .z)))) .z))))) .z))) .z))))) .z))))
theorem apr:aH 21 (apo n) :=cq (ak pQ (ak (Qj n) (ak (akn n) (ak (ahc n) (ak acg aC))))) func21 apq n
def Vu:ci xx:=⟨[.d dm,.d af,.d af],[.d (.sl bU),.d af],λa=>pM n a.1 a.2.1 a.2.2.1,none⟩
def Vv:Hn SI:=(ik (.s (.s .z (.b (.l ⟨[(8,.o 1832),(19,.v af)],[(1832,.l (.st SI.wc))],[17,18],[1640],1833,[(8,.st SI.wc)]⟩ 0 ⟨[(8,.o 1832)],[(1832,.l (.st SI.wc))],[],[],1833,[]⟩ .z))) .z))
theorem Vw:aH 7 (Vu n) :=cq (ak (vg n) (ak (u7 n) (ak (apr n) aC))) func7 Vv n
def aps:ci xx:=⟨[.d (.sl bU),.d af],[.d (.sl aA)],λa=>Q2 n a.1 a.2.1,none⟩
def apt:Hn SI:=(.s .z (.s (.s .z (.b (.lx ⟨[(9,.v af)],[],[1,7,8],[],1256,[]⟩ 0 ⟨[],[],[],[],1256,[]⟩ (cj (.s (.b (.s .z (.s (.j ⟨[(22,.v .bool)],[],[1,6,7,8,9],[1448],1576,[]⟩ .z) .z))) .z))))) .z))
theorem apu:aH 56 (aps n) :=cq aC func56 apt n
def aaQ:ci xx:=⟨[.d .bool,.d .bool],[.d .bool],λa=>Bz a.1 a.2.1,none⟩
theorem aaR:aH 58 aaQ :=cq aC func58 .z 0
def aje:ci xx:=⟨[.d (.sl aA),.d (.sl aA)],[.d (.sl aA),.d af],λa=>Jk n a.1 a.2.1,none⟩
theorem ajf:aH 29 (aje n) :=cq (ak (Px n) (ak aaR aC)) func29 .z n
def Vx:cQ xx:=⟨[.v (.sl bU),.v (.sl bU),(.f 29 [] [])],[],[.v (.sl bU),.v af],[],λv=>BX n v.1 v.2⟩
def Vy:ci xx:=tzG (Vx n)
def Vz:Hn SI:=(.s .z (.s (.s (.j ⟨[(20,.v .bool)],[],[0,1,2],[],1128,[]⟩ .z) .z) (.s (.f [4]) (.s .z (.s (.s .z (.b (.lx ⟨[(9,.o 1576),(10,.v af)],[(1576,.l bU)],[0,1,2,8],[],1577,[(9,bU)]⟩ 0 ⟨[(9,.o 1576)],[(1576,.l bU)],[],[],1577,[]⟩ .z))) .z)))))
theorem VA:aH 28 (Vy n) :=oB (ak (MZ n) (ak (Qj n) (ak (apu n) (ak (ajf n) (ak (ahc n) (ak acg aC)))))) func28 Vz n
def ajg:ci xx:=⟨[.d (.sl bU),.d (.sl bU)],[.d (.sl bU),.d af],λa=>Jl n a.1 a.2.1,none⟩
theorem ajh:aH 9 (ajg n) :=cq (ak (VA n) aC) func9 .z n
def Ah:ci xx:=⟨[.d (.sl (.st SI.Phase)),.d (.sl (.st SI.Phase)),.d7 [.st SI.Phase,.st SI.Phase] .bool],[.d .bool],λa=>nD n a.1 a.2.1 a.2.2.1,none⟩
def Ai:Hn SI:=(cj (.s (.s .z (.b (.lx ⟨[(17,.v af)],[],[1,2,15,16],[],1576,[]⟩ 0 ⟨[],[],[],[],1576,[]⟩ .z))) .z))
theorem Aj:aH 30 (Ah n) :=cq aC func30 Ai n
def Qk:ci xx:=⟨[.d (.sl aF),.d (.sl aF)],[.d .bool],λa=>sW n a.1 a.2.1,none⟩
def Ql:Hn SI:=(cj (.s (.s .z (.b (.lx ⟨[(13,.v af)],[],[0,1,12],[],1576,[]⟩ 0 ⟨[],[],[],[],1576,[]⟩ .z))) .z))
theorem Qm:aH 32 (Qk n) :=cq aC func32 Ql n
def Sv:ci xx:=⟨[.d (.sl fU),.d (.sl fU)],[.d .bool],λa=>uW n a.1 a.2.1,none⟩
def Sw:Hn SI:=(cj (.s (.s .z (.b (.lx ⟨[(13,.v af)],[],[0,1,12],[],1576,[]⟩ 0 ⟨[],[],[],[],1576,[]⟩ .z))) .z))
theorem Sy:aH 33 (Sv n) :=cq aC func33 Sw n
def Qn:ci xx:=⟨[.d (.st SI.Phase),.d (.st SI.Phase)],[.d .bool],λa=>sZ n a.1 a.2.1,none⟩
theorem Qo:aH 31 (Qn n) :=cq (ak (Qm n) (ak (Sy n) aC)) func31 .z n
def ZL:ci xx:=⟨[.d dm,.d dm],[.d .bool],λa=>yR n a.1 a.2.1,none⟩
theorem ZM:aH 10 (ZL n) :=cq (ak (Aj n) (ak (Qo n) aC)) func10 .z n
def aji:ci xx:=⟨[.d (.sl aA),.d (.sl aA)],[.d .bool],λa=>OL n a.1 a.2.1,none⟩
def ajj:Hn SI:=(cj (.s (.s .z (.b (.lx ⟨[(5,.v af)],[],[0,1],[],1448,[]⟩ 0 ⟨[],[],[],[],1448,[]⟩ .z))) .z))
theorem ajk:aH 34 (aji n) :=cq aC func34 ajj n
def ajl:ci xx:=⟨[.d (.sl bU),.d (.sl bU)],[.d .bool],λa=>OM n a.1 a.2.1,none⟩
def ajm:Hn SI:=(cj (.s (.s .z (.b (.lx ⟨[(5,.v af)],[],[0,1],[],1448,[]⟩ 0 ⟨[],[],[],[],1448,[]⟩ (.s .z (.s (.b (.s (.j ⟨[(54,.v .bool)],[],[0,1,5],[],1704,[]⟩ .z) .z)) .z))))) .z))
theorem ajn:aH 11 (ajl n) :=cq (ak (ajk n) aC) func11 ajm n
def M6:ci xx:=⟨[.d dm,.d (.sl af)],[.d .bool],λa=>q8 n a.1 a.2.1,none⟩
def M7:Hn SI:=(cj (.s (.s (.j ⟨[(24,.v .bool)],[],[1,2,5],[1000],1256,[]⟩ .z) .z) (wA (.s (.s (.j ⟨[(70,.v .bool)],[],[2,5,6,7,9,11],[1000,1704],3368,[]⟩ .z) .z) .z))))
theorem M8:aH 3 (M6 n) :=cq (ak (ag8 n) (ak (alY n) (ak (yc n) (ak (Vw n) (ak (vg n) (ak (ajh n) (ak (ZM n) (ak (ajn n) aC)))))))) func3 M7 n
end
end Go.Proofs
