import Derived.Test.YtbdekfpclohfnaaGreatTC1
namespace Go.Proofs
open Go.Gb Go.RowKit
open Tryz
noncomputable section
variable (n:Nat)
def HV:bt xx:=⟨[],[.d .bool],λ_=>none,some (Hz n)⟩
def HY:Hn SI:=(cW (.s (.s .z (.b (.l ⟨[(3,.o 1960),(23,.v af)],[(1448,.l ax),(1960,.l af)],[4,21,22],[0,1],1961,[(3,af)]⟩ 0 ⟨[(3,.o 1960)],[(1448,.l ax),(1960,.l af)],[4],[0,1],1961,[]⟩ .z))) (cW (.s (.s .z (.b (.l ⟨[(7,.v af),(56,.v af)],[],[3,4,55],[0,1,1448,1960],2601,[]⟩ 2 ⟨[(7,.v af)],[],[],[0,1],2601,[]⟩ (b7 (.s (.b (cW (.b (.l ⟨[(7,.v af),(9,.v af),(61,.v af)],[],[3,4,8,55,56,59,60],[0,1,1448,1960],3049,[]⟩ 4 ⟨[(7,.v af)],[],[3,4,55,56],[0,1,1448,1960],3049,[]⟩ (b7 (.s (.j ⟨[(7,.v af),(9,.v af)],[],[3,4,8,55,56,59,60,61],[0,1,1448,1960],3113,[]⟩ (.b (.s .z (.s (.j ⟨[(86,.v .bool)],[],[3,4,7,8,9,11,55,56,59,60,61],[0,1,1448,1960,3241],3369,[]⟩ .z) .z)))) .z)))))) .z))))) .z))))
theorem HZ:aI 110 (HV n) :=ml (au (Pz n) (au Hu (au (FB n) aA))) func110 HY n (by kernel_rfl) λ_=>by kernel_rfl
def Kw:cM xx:=⟨[.p 0,(.f 151 [] [])],[(0,ef),(1,.l aL)],[.v af],[(0,ef),(1,.l aL)],λv=>qM n v.1 v.2.1 v.2.2.1 v.2.2.2.1 v.2.2.2.2.1 v.2.2.2.2.2.1 v.2.2.2.2.2.2.1 v.2.2.2.2.2.2.2.1 v.2.2.2.2.2.2.2.2.1 v.2.2.2.2.2.2.2.2.2⟩
def Ky:bt xx:=⟨[],[.d .bool],λ_=>none,some (Kw n)⟩
def Kz:Hn SI:=(b7 (.s (.s .z (.b (.l ⟨[(5,.v af),(13,.v af)],[],[1,11,12],[0,1],1512,[]⟩ 0 ⟨[(5,.v af)],[],[],[0,1],1512,[]⟩ .z))) .z))
theorem KA:aI 150 (Ky n) :=ml (au J7 aA) func150 Kz n (by kernel_rfl) λ_=>by kernel_rfl
def H6:cM xx:=⟨[.p 0],[(0,ef),(1,.l aL)],[.v af],[(0,ef),(1,.l aL)],λv=>kH n v.1 v.2.1 v.2.2.1 v.2.2.2.1 v.2.2.2.2.1 v.2.2.2.2.2.1 v.2.2.2.2.2.2.1 v.2.2.2.2.2.2.2.1 v.2.2.2.2.2.2.2.2.1 v.2.2.2.2.2.2.2.2.2⟩
def H7:bt xx:=⟨[],[.d .bool],λ_=>none,some (H6 n)⟩
theorem H8:aI 111 (H7 n) :=ml (au (KA n) aA) func111 .z n (by kernel_rfl) λ_=>by kernel_rfl
def Cy:cM xx:=⟨[.p 0,(.f 153 [] [])],[(0,ef),(1,.l aL)],[.v af],[(0,ef),(1,.l aL)],λv=>lZ n v.1 v.2.1 v.2.2.1 v.2.2.2.1 v.2.2.2.2.1 v.2.2.2.2.2.1 v.2.2.2.2.2.2.1 v.2.2.2.2.2.2.2.1 v.2.2.2.2.2.2.2.2.1 v.2.2.2.2.2.2.2.2.2⟩
def Cz:bt xx:=⟨[],[.d .bool],λ_=>none,some (Cy n)⟩
def CB:Hn SI:=(b7 (.s (.s .z (.b (.l ⟨[(5,.v af),(13,.v af)],[],[1,11,12],[0,1],1512,[]⟩ 0 ⟨[(5,.v af)],[],[],[0,1],1512,[]⟩ .z))) .z))
theorem CF:aI 152 (Cz n) :=ml (au EL aA) func152 CB n (by kernel_rfl) λ_=>by kernel_rfl
def FM:cM xx:=⟨[.p 0],[(0,ef),(1,.l aL)],[.v af],[(0,ef),(1,.l aL)],λv=>jN n v.1 v.2.1 v.2.2.1 v.2.2.2.1 v.2.2.2.2.1 v.2.2.2.2.2.1 v.2.2.2.2.2.2.1 v.2.2.2.2.2.2.2.1 v.2.2.2.2.2.2.2.2.1 v.2.2.2.2.2.2.2.2.2⟩
def FN:bt xx:=⟨[],[.d .bool],λ_=>none,some (FM n)⟩
theorem FO:aI 112 (FN n) :=ml (au (CF n) aA) func112 .z n (by kernel_rfl) λ_=>by kernel_rfl
def CG:cM xx:=⟨[.p 0,(.f 154 [] [])],[(0,ef),(1,.l aL)],[.v af],[(0,ef),(1,.l aL)],λv=>l5 n v.1 v.2.1 v.2.2.1 v.2.2.2.1 v.2.2.2.2.1 v.2.2.2.2.2.1 v.2.2.2.2.2.2.1 v.2.2.2.2.2.2.2.1 v.2.2.2.2.2.2.2.2.1 v.2.2.2.2.2.2.2.2.2⟩
def CJ:bt xx:=⟨[],[.d .bool],λ_=>none,some (CG n)⟩
def CK:Hn SI:=(b7 (.s (.s .z (.b (.l ⟨[(5,.v af),(13,.v af)],[],[1,11,12],[0,1],1512,[]⟩ 0 ⟨[(5,.v af)],[],[],[0,1],1512,[]⟩ .z))) .z))
theorem CO:aI 152 (CJ n) :=ml (au FL aA) func152 CK n (by kernel_rfl) λ_=>by kernel_rfl
def FP:cM xx:=⟨[.p 0],[(0,ef),(1,.l aL)],[.v af],[(0,ef),(1,.l aL)],λv=>jO n v.1 v.2.1 v.2.2.1 v.2.2.2.1 v.2.2.2.2.1 v.2.2.2.2.2.1 v.2.2.2.2.2.2.1 v.2.2.2.2.2.2.2.1 v.2.2.2.2.2.2.2.2.1 v.2.2.2.2.2.2.2.2.2⟩
def FQ:bt xx:=⟨[],[.d .bool],λ_=>none,some (FP n)⟩
theorem FR:aI 113 (FQ n) :=ml (au (CO n) aA) func113 .z n (by kernel_rfl) λ_=>by kernel_rfl
def KC:cM xx:=⟨[.p 0,(.f 155 [] [])],[(0,ef),(1,.l aL)],[.v af],[(0,ef),(1,.l aL)],λv=>qN n v.1 v.2.1 v.2.2.1 v.2.2.2.1 v.2.2.2.2.1 v.2.2.2.2.2.1 v.2.2.2.2.2.2.1 v.2.2.2.2.2.2.2.1 v.2.2.2.2.2.2.2.2.1 v.2.2.2.2.2.2.2.2.2⟩
def KD:bt xx:=⟨[],[.d .bool],λ_=>none,some (KC n)⟩
def KE:Hn SI:=(b7 (.s (.s .z (.b (.l ⟨[(5,.v af),(13,.v af)],[],[1,11,12],[0,1],1512,[]⟩ 0 ⟨[(5,.v af)],[],[],[0,1],1512,[]⟩ .z))) .z))
theorem KF:aI 150 (KD n) :=ml (au Hy aA) func150 KE n (by kernel_rfl) λ_=>by kernel_rfl
def H9:cM xx:=⟨[.p 0],[(0,ef),(1,.l aL)],[.v af],[(0,ef),(1,.l aL)],λv=>kI n v.1 v.2.1 v.2.2.1 v.2.2.2.1 v.2.2.2.2.1 v.2.2.2.2.2.1 v.2.2.2.2.2.2.1 v.2.2.2.2.2.2.2.1 v.2.2.2.2.2.2.2.2.1 v.2.2.2.2.2.2.2.2.2⟩
def Ia:bt xx:=⟨[],[.d .bool],λ_=>none,some (H9 n)⟩
theorem Ib:aI 114 (Ia n) :=ml (au (KF n) aA) func114 .z n (by kernel_rfl) λ_=>by kernel_rfl
def FT:cM xx:=⟨[.p 0,.v ax,.v af],[(0,ef),(1,.l aL)],[.v .bool],[(0,ef),(1,.l aL)],λv=>jQ n v.1 v.2.1 v.2.2.1 v.2.2.2.1 v.2.2.2.2.1 v.2.2.2.2.2.1 v.2.2.2.2.2.2.1 v.2.2.2.2.2.2.2.1 v.2.2.2.2.2.2.2.2.1 v.2.2.2.2.2.2.2.2.2.1 v.2.2.2.2.2.2.2.2.2.2.1 v.2.2.2.2.2.2.2.2.2.2.2⟩
def FU:bt xx:=⟨[],[.d .bool],λ_=>none,some (FT n)⟩
def FV:Hn SI:=(ii (.s (.s .z (.b (.l ⟨[(9,.v af),(27,.v af)],[],[7,25,26],[0,1,1512],2280,[]⟩ 0 ⟨[(9,.v af)],[],[7],[0,1,1512],2280,[]⟩ (b7 (.s (.j ⟨[(9,.v af)],[],[7,25,26,27],[0,1,1512],2344,[]⟩ .z) .z))))) .z))
theorem FW:aI 156 (FU n) :=ml (au V9 (au aaS (au ZM aA))) func156 FV n (by kernel_rfl) λ_=>by kernel_rfl
def Du:cM xx:=⟨[.p 0],[(0,ef),(1,.l aL)],[.v af],[(0,ef),(1,.l aL)],λv=>jw n v.1 v.2.1 v.2.2.1 v.2.2.2.1 v.2.2.2.2.1 v.2.2.2.2.2.1 v.2.2.2.2.2.2.1 v.2.2.2.2.2.2.2.1 v.2.2.2.2.2.2.2.2.1 v.2.2.2.2.2.2.2.2.2⟩
def Dv:bt xx:=⟨[],[.d .bool],λ_=>none,some (Du n)⟩
def Dw:Hn SI:=(b7 (.s (.s .z (.b (.l ⟨[(3,.v af),(14,.v af)],[(0,ef),(1,.l aL)],[0,12,13],[],1512,[]⟩ 0 ⟨[(3,.v af)],[(0,ef),(1,.l aL)],[],[],1512,[]⟩ (b7 (.s (.b (b7 (.s (.b (.l ⟨[(6,.v af),(7,.v af)],[(0,ef),(1,.l aL)],[0,5,12,13,14],[1704],2024,[]⟩ 2 ⟨[(6,.v af)],[(0,ef),(1,.l aL)],[0,12,13,14],[],2024,[]⟩ .z)) .z))) .z))))) .z))
theorem Dx:aI 115 (Dv n) :=ml (au (FW n) aA) func115 Dw n (by kernel_rfl) λ_=>by kernel_rfl
def zV:cM xx:=⟨[.v aL,.p 0],[(0,.c 1 [[.p 1]]),(1,p0),(2,.l aL)],[.v af],[(0,.c 1 [[.p 1]]),(1,p0),(2,.l aL)],λv=>kz n v.1 v.2.1 v.2.2.1 v.2.2.2.1 v.2.2.2.2.1 v.2.2.2.2.2.1 v.2.2.2.2.2.2.1 v.2.2.2.2.2.2.2.1 v.2.2.2.2.2.2.2.2.1 v.2.2.2.2.2.2.2.2.2.1 v.2.2.2.2.2.2.2.2.2.2⟩
def zW:bt xx:=⟨[],[.d .bool],λ_=>none,some (zV n)⟩
theorem zX:aI 157 (zW n) :=ml (au (R4 n) aA) func157 .z n (by kernel_rfl) λ_=>by kernel_rfl
def KG:cM xx:=⟨[.p 0,(.f 157 [] [.p 1])],[(0,p0),(1,.c 1 [[.p 0]]),(2,.l aL)],[.v af],[(0,p0),(1,.c 1 [[.p 0]]),(2,.l aL)],λv=>qO n v.1 v.2.1 v.2.2.1 v.2.2.2.1 v.2.2.2.2.1 v.2.2.2.2.2.1 v.2.2.2.2.2.2.1 v.2.2.2.2.2.2.2.1 v.2.2.2.2.2.2.2.2.1 v.2.2.2.2.2.2.2.2.2⟩
def KH:bt xx:=⟨[],[.d .bool],λ_=>none,some (KG n)⟩
def KI:Hn SI:=(b7 (.s (.s .z (.b (.l ⟨[(5,.v af),(13,.v af)],[(0,p0),(1,.c 1 [[.p 0]]),(2,.l aL)],[1,11,12],[],1512,[]⟩ 0 ⟨[(5,.v af)],[(0,p0),(1,.c 1 [[.p 0]]),(2,.l aL)],[],[],1512,[]⟩ .z))) .z))
theorem KJ:aI 150 (KH n) :=ml (au (zX n) aA) func150 KI n (by kernel_rfl) λ_=>by kernel_rfl
def Dy:cM xx:=⟨[.p 0],[(0,ef),(1,.l aL)],[.v af],[(0,ef),(1,.l aL)],λv=>jy n v.1 v.2.1 v.2.2.1 v.2.2.2.1 v.2.2.2.2.1 v.2.2.2.2.2.1 v.2.2.2.2.2.2.1 v.2.2.2.2.2.2.2.1 v.2.2.2.2.2.2.2.2.1 v.2.2.2.2.2.2.2.2.2⟩
def Dz:bt xx:=⟨[],[.d .bool],λ_=>none,some (Dy n)⟩
theorem DF:aI 116 (Dz n) :=ml (au (KJ n) aA) func116 .z n (by kernel_rfl) λ_=>by kernel_rfl
def aed:bt xx:=⟨[.d (.st SI.i9),.d jd,.d eH],[.fresh (.st SI.Entry)],λa=>IW n a.1 a.2.1 a.2.2.1,none⟩
def aee:Hn SI:=(b7 (.s (.j ⟨[],[(1384,.c 10 [[.v (.sl bX),.v (.sl bE),.v (.sl bK),.v (.sl bC),.v (.sl bY),.v (.sl bL),.v (.sl bq),.v af,.v (.sl ax),.nil]])],[5,7],[1128],1512,[]⟩ .z) (.s (.s .z (.b (.l ⟨[(31,.v af)],[(1384,B4),(1960,.l aL)],[7,29,30],[1768],1961,[(6668873,aL)]⟩ 0 ⟨[],[(1384,B4),(1960,.l aL)],[7],[],1961,[]⟩ (b7 (.s (.j ⟨[],[(1384,.c 10 [[.v (.sl bX),.v (.sl bE),.v (.sl bK),.v (.sl bC),.v (.sl bY),.v (.sl bL),.v (.sl bq),.v af,.v (.sl ax),.o 2025]]),(2025,.l aL)],[7,29,30,31],[1768],2026,[]⟩ (.b (.s .z (.s (.j ⟨[(41,.v .bool)],[],[7,9,29,30,31],[1384,1768,1960,2217],2409,[]⟩ .z) .z)))) .z))))) (b7 (.s (.s .z (.b (.un .z (.un .z (.un .z (.un .z (.un .z (.un .z (.un .z (.un .z (.un .z (.un .z .z)))))))))))) .z)))))
theorem aef:aI 66 (aed n) :=cq (au (Px n) (au (RS n) (au oG (au (Kv n) (au (HZ n) (au (H8 n) (au (FO n) (au (FR n) (au (Ib n) (au (Dx n) (au (DF n) aA))))))))))) func66 aee n
def PD:bt xx:=⟨[.d (.st SI.eS),.d jd,.d eH],[.d af],λa=>qb n a.1 a.2.1 a.2.2.1,none⟩
def PE:Hn SI:=(.s .z (.s (.s .z (.b (.lx ⟨[(15,.v af)],[],[13,14],[1512],1704,[]⟩ 0 ⟨[],[],[],[],1704,[]⟩ .z))) .z))
theorem PG:aI 33 (PD n) :=cq (au (aef n) aA) func33 PE n
def KL:bt xx:=⟨[.ref (.st SI.eS),.ref jd,.ref eH],[.d af],λa=>mh n a.1 a.2.1 a.2.2.1,none⟩
theorem KM:aI 32 (KL n) :=cq (au (PG n) aA) func32 .z n
def anZ:bt xx:=⟨[.d ax,.d ax],[.d af,.d af],λa=>V0 a.1 a.2.1,none⟩
theorem an0:aI 159 anZ :=cq aA func159 .z 0
def ao6:bt xx:=⟨[.d ax,.d ax],[.d af],λa=>Hk a.1 a.2.1,none⟩
def ao7:Hn SI:=(.s .z (.s (.s (.j ⟨[(14,.v .bool)],[],[2,3],[1000,1064],1192,[]⟩ .z) .z) .z))
theorem ao8:aI 117 ao6 :=cq (au Bd (au an0 aA)) func117 ao7 0
def an1:bt xx:=⟨[.d (.sl ax),.d (.sl ax)],[.d af,.d .bool],λa=>YN n a.1 a.2.1,none⟩
def an2:Hn SI:=(.s .z (.s (.s (.j ⟨[(28,.v .bool)],[],[0,1],[],1128,[]⟩ .z) .z) (.s .z (.s (.s .z (.b (.l ⟨[(6,.v af),(31,.v af)],[],[1,29,30],[],1384,[]⟩ 0 ⟨[(6,.v af)],[],[],[],1384,[]⟩ (b7 (.s (.b (b7 (.b (.l ⟨[(6,.v af),(37,.v af)],[],[1,8,29,30,31,35,36],[1576],1896,[]⟩ 2 ⟨[(6,.v af)],[],[1,29,30,31],[],1896,[]⟩ .z)))) .z))))) .z))))
theorem an3:aI 67 (an1 n) :=cq (au (Px n) (au ao8 aA)) func67 an2 n
def alL:bt xx:=⟨[.d (.sl jd),.d af,.d af],[.fresh af],λa=>WI n a.1 a.2.1 a.2.2.1,none⟩
def alM:Hn SI:=(ii (.s (.s .z (.b (.l ⟨[(9,.o 2024),(27,.v af)],[(2024,.l (.sl ax))],[0,1,2,7,25,26],[1448],2025,[(9,.sl ax)]⟩ 0 ⟨[(9,.o 2024)],[(2024,.l (.sl ax))],[0,1,2,7],[1448],2025,[]⟩ .z))) (.s .z (.s (.s .z (.b (.l ⟨[(12,.o 2281),(39,.v af)],[(2281,.l af)],[0,1,2,7,37,38],[1448,2024],2282,[(12,af)]⟩ 2 ⟨[(12,.o 2281)],[(2281,.l af)],[],[],2282,[]⟩ (b7 (.s (.j ⟨[(12,.o 2346)],[(2346,.l af)],[0,1,2,7,37,38,39],[1448,2024],2347,[]⟩ (.b (b7 (.s (.j ⟨[(65,.v .bool)],[],[0,1,2,7,12,13,37,38,39],[1448,2024,2281],3242,[]⟩ .z) .z)))) .z))))) .z))))
theorem alN:aI 35 (alL n) :=cq (au (acK n) (au (an3 n) (au (FB n) (au (He n) aA)))) func35 alM n
def KN:bt xx:=⟨[.ref (.st SI.eS),.ref eH],[.d af],λa=>mq n a.1 a.2.1,none⟩
theorem KO:aI 34 (KN n) :=cq (au (alN n) aA) func34 .z n
def KP:bt xx:=⟨[.ref jd],[.d af],λa=>qP a.1,none⟩
theorem KQ:aI 36 KP :=cq aA func36 .z 0
def PI:bt xx:=⟨[.d (.st SI.eS),.d eH,.d (.sl .str)],[.fresh af],λa=>mJ n a.1 a.2.1 a.2.2.1,none⟩
def PK:Hn SI:=(ii (.s (.s .z (.b (.un .z (.un .z (.un .z (.un .z (.un .z .z))))))) .z))
theorem CP:aI 11 (PI n) :=cq (au (acK n) (au (Ko n) (au (KM n) (au (KO n) (au KQ aA))))) func11 PK n
def R5:bt xx:=⟨[.d (.st SI.eS),.d (.sl cO),.d eH,.d (.sl .str)],[.fresh af],λa=>jE n a.1 a.2.1 a.2.2.1 a.2.2.2.1,none⟩
def R6:Hn SI:=(ii (.s (.s .z (.b (.l ⟨[(27,.v af)],[(1832,.l af)],[9,10,25,26],[1576],2152,[]⟩ 0 ⟨[],[(1832,.l af)],[10],[],2152,[]⟩ (b7 (.s (.b (cW (.s (.j ⟨[(14,.v af)],[],[9,10,11,25,26,27],[1576,1832],3368,[]⟩ .z) .z))) .z))))) .z))
theorem EM:aI 8 (R5 n) :=cq (au (ZF n) (au (CP n) aA)) func8 R6 n
def aaW:bt xx:=⟨[.d (.st SI.cP),.d af],[.d (.st SI.fi)],λa=>yL n a.1 a.2.1,none⟩
def aaX:Hn SI:=(b7 (.s (.s .z (.b (.l ⟨[(9,.v af)],[(1128,.l af)],[1,2,4,5],[1000,1064],1256,[]⟩ 0 ⟨[],[(1128,.l af)],[1,2,4,5],[1000,1064],1256,[]⟩ .z))) (.s .z (.s (.s .z (.b (.l ⟨[(17,.v af)],[(1128,.l af)],[1,2,4,5],[1000,1064],1512,[]⟩ 2 ⟨[],[(1128,.l af)],[4,5],[1064],1512,[]⟩ (b7 (.s (.b (.s .z (.b (.l ⟨[(7,.v af)],[(1128,.l af)],[1,2,4,5,17],[1000,1064],1704,[]⟩ 4 ⟨[],[(1128,.l af)],[1,2,4,5,17],[1000,1064],1704,[]⟩ (.s .z (.s (.b (.s .z (.b (.l ⟨[(8,.v af)],[(1128,.l af)],[1,2,4,5,7,17],[1000,1064],1960,[]⟩ 6 ⟨[],[(1128,.l af)],[1,2,4,5,7,17],[1000,1064],1960,[]⟩ (.s .z (.s (.j ⟨[],[(1128,.l af)],[1,2,4,5,7,8,17],[1000,1064],2088,[]⟩ (.b (.s (.j ⟨[(38,.v .bool)],[],[1,2,4,5,7,8,17],[1000,1064,1128],2088,[]⟩ .z) .z))) .z)))))) .z)))))) .z))))) .z))))
theorem aaY:aI 200 (aaW n) :=cq aA func200 aaX n
def Wd:bt xx:=⟨[.d (.st SI.cP)],[.fresh af],λa=>xQ n a.1,none⟩
def Wh:Hn SI:=(b7 (.s (.s .z (.b (.l ⟨[(3,.v af),(4,.v af),(11,.v af)],[],[1],[1000],1320,[]⟩ 0 ⟨[(3,.v af),(4,.v af)],[],[1],[1000],1320,[]⟩ (b7 (.s (.b (cW (.b (.l ⟨[(3,.v af),(4,.v af),(7,.v af)],[],[1,5,6,11],[1000,1704],1960,[]⟩ 2 ⟨[(3,.v af),(4,.v af)],[],[1,11],[1000],1960,[]⟩ (.s .z (.s (.j ⟨[(3,.v af),(4,.v af)],[],[1,5,6,7,11],[1000,1704],2088,[]⟩ (.b (.s (.j ⟨[(34,.v .bool)],[],[1,3,4,5,6,7,11],[1000,1704],2088,[]⟩ .z) .z))) .z)))))) .z))))) (b7 (.s (.b (.l ⟨[(9,.o 1960)],[(1960,.l af)],[1,3,4,8],[1000,1768],1961,[]⟩ 4 ⟨[(9,.o 1960)],[(1960,.l af)],[],[],1961,[]⟩ (.s .z (.b (.s .z (.b (.l ⟨[(9,.o 1960),(10,.v af)],[(1960,.l af)],[1,3,4,8],[1000,1768],2345,[]⟩ 6 ⟨[(9,.o 2345)],[(2345,.l af)],[1,3,4,8],[1000,1768],2346,[]⟩ (.s (.b (.s (.j ⟨[(74,.v .bool)],[],[1,3,4,8,9,10],[1000,1768,1960],2345,[]⟩ .z) .z)) .z)))))))) .z))))
theorem Wi:aI 178 (Wd n) :=cq (au (aaY n) aA) func178 Wh n
def Wj:bt xx:=⟨[.d (.sl .bool)],[.fresh .bool],λa=>Fg a.1,none⟩
theorem Wl:aI 179 Wj :=cq aA func179 .z 0
def Ur:bt xx:=⟨[.d cO],[.fresh (.sl .bool),.d (.sl af),.d af],λa=>uX n a.1,none⟩
def Us:Hn SI:=(ii (.s (.s .z (.b (.l ⟨[(7,.o 2472),(26,.v af)],[(2472,.l (.sl .bool))],[1,5,25],[1000,1576],2473,[(7,.sl .bool)]⟩ 1 ⟨[(7,.o 2472)],[(2472,.l (.sl .bool))],[],[],2473,[]⟩ .z))) .z))
theorem Ut:aI 131 (Ur n) :=cq (au (J5 n) (au (Ml n) (au (Mq n) (au (Wi n) (au Wl aA))))) func131 Us n
def Uu:bt xx:=⟨[.d (.sl cO)],[.fresh (.sl (.sl .bool)),.d .bool],λa=>uY n a.1,none⟩
def Uv:Hn SI:=(cW (.s (.s .z (.b (.lx ⟨[(4,.o 1576),(15,.v af)],[(1576,.l (.sl (.sl .bool)))],[13,14],[],1577,[(4,.sl (.sl .bool))]⟩ 0 ⟨[(4,.o 1576)],[(1576,.l (.sl (.sl .bool)))],[],[],1577,[]⟩ .z))) .z))
theorem Uw:aI 99 (Uu n) :=cq (au (Ut n) aA) func99 Uv n
def AP:bt xx:=⟨[.d (.sl (.sl (.sl .bool))),.d (.sl af)],[.d .bool],λa=>dY n a.1 a.2.1,none⟩
def AQ:Hn SI:=(b7 (.s (.s .z (.b (.lx ⟨[(14,.v af)],[],[0,12,13],[],1576,[]⟩ 0 ⟨[],[],[],[],1576,[]⟩ (b7 (.s (.b (.s .z (.s (.j ⟨[(29,.v .bool)],[],[0,12,13,14],[],1960,[]⟩ .z) .z))) .z))))) .z))
theorem jS:aI 82 (AP n) :=cq aA func82 AQ n
def R7:bt xx:=⟨[.d (.sl cO),.d (.sl bA)],[.fresh (.sl (.sl .bool)),.d .bool],λa=>nT n a.1 a.2.1,none⟩
def R8:Hn SI:=(cW (.s (.s .z (.b (.lx ⟨[(19,.v af)],[(1576,.m af .bool)],[1,6,7,8,17,18],[1192],1896,[]⟩ 0 ⟨[],[],[1,6,7],[1192],1896,[]⟩ (b7 (.s (.b (.s .z (.s (.s (.j ⟨[(37,.v .bool)],[],[1,6,7,8,10,17,18,19],[1192,1576,2088],2216,[]⟩ .z) .z) .z))) .z))))) .z))
theorem EN:aI 55 (R7 n) :=cq (au (Uw n) (au (jS n) aA)) func55 R8 n
def DI:bt xx:=⟨[.d (.sl (.sl (.sl .bool))),.d (.sl af),.d (.sl af)],[.fresh af],λa=>gW n a.1 a.2.1 a.2.2.1,none⟩
def DJ:Hn SI:=(b7 (.s (.s .z (.b (.l ⟨[(7,.o 1320),(11,.v af)],[(1320,.l af)],[0,1,2,10],[],1321,[(7,af)]⟩ 0 ⟨[(7,.o 1320)],[(1320,.l af)],[],[],1321,[]⟩ (b7 (.s (.j ⟨[(7,.o 1385)],[(1385,.l af)],[0,1,2,10,11],[],1386,[]⟩ .z) .z))))) .z))
theorem DK:aI 58 (DI n) :=cq aA func58 DJ n
def FX:bt xx:=⟨[.d (.sl (.sl (.sl .bool))),.d bA,.d (.sl af)],[.fresh af],λa=>iF n a.1 a.2.1 a.2.2.1,none⟩
theorem rX:aI 87 (FX n) :=cq (au (DK n) aA) func87 .z n
def DL:bt xx:=⟨[.d (.sl (.sl (.sl .bool))),.d (.sl bA),.d (.sl af)],[.d af,.fresh af],λa=>jA n a.1 a.2.1 a.2.2.1,none⟩
def DR:Hn SI:=(cW (.s (.s .z (.b (.l ⟨[(8,.o 1512),(15,.v af)],[(1192,.m .bool .bool),(1512,.l af)],[0,2,9,13,14],[],1513,[(8,af)]⟩ 0 ⟨[(8,.o 1512)],[(1192,.m .bool .bool),(1512,.l af)],[9],[],1513,[]⟩ (b7 (.s (.j ⟨[(8,.o 1577)],[(1192,.m .bool .bool),(1577,.l af)],[0,2,9,13,14,15],[],1578,[]⟩ .z) .z))))) (.s (.b (.s (.j ⟨[(34,.v .bool)],[],[8,9],[1192,1512],1513,[]⟩ .z) .z)) .z)))
theorem DT:aI 83 (DL n) :=cq (au (rX n) aA) func83 DR n
def PL:bt xx:=⟨[.d (.sl cO),.d (.sl bA),.d (.sl af)],[.d af,.fresh af,.d af],λa=>qh n a.1 a.2.1 a.2.2.1,none⟩
def PN:Hn SI:=(b7 (.s (.s (.j ⟨[(26,.v .bool)],[],[1,2,9],[1320],1704,[]⟩ .z) .z) .z))
theorem PO:aI 44 (PL n) :=cq (au (EN n) (au (jS n) (au (DT n) aA))) func44 PN n
def Wm:bt xx:=⟨[.d (.sl bA)],[.fresh bA],λa=>Fh a.1,none⟩
theorem Wn:aI 84 Wm :=cq aA func84 .z 0
def Ux:bt xx:=⟨[.d (.sl bA)],[.fresh bA],λa=>mK n a.1,none⟩
def Uy:Hn SI:=(b7 (.s (.s .z (.b (.l ⟨[(9,.v af)],[(1128,.l bA)],[3,8],[],1448,[]⟩ 0 ⟨[],[(1128,.l bA)],[3],[],1448,[]⟩ .z))) .z))
theorem Uz:aI 45 (Ux n) :=cq (au Wn (au vF aA)) func45 Uy n
def PS:bt xx:=⟨[.d bA,.ref bA],[.d .bool],λa=>Gw a.1 a.2.1,none⟩
theorem PU:aI 86 PS :=cq aA func86 .z 0
def NC:bt xx:=⟨[.d (.sl bA),.c6 [bA] .bool],[.d af],λa=>uZ n a.1 a.2.1,none⟩
def ND:Hn SI:=(.s .z (.s (.s .z (.b (.lx ⟨[(8,.v af)],[],[0,1,7],[],1256,[]⟩ 0 ⟨[],[],[],[],1256,[]⟩ .z))) .z))
theorem NE:aI 56 (NC n) :=cq aA func56 ND n
def JD:bt xx:=⟨[.d (.sl bA),.c6 [bA] .bool],[.d .bool],λa=>lu n a.1 a.2.1,none⟩
theorem JE:aI 85 (JD n) :=cq (au (NE n) aA) func85 .z n
def R9:bt xx:=⟨[.d bA],[.d bA],λa=>nU a.1,none⟩
theorem Sb:aI 88 R9 :=cq (au vF aA) func88 .z 0
def Wo:bt xx:=⟨[.d (.sl cO),.d (.sl bA),.d bA],[.fresh bA,.d af],λa=>xR n a.1 a.2.1 a.2.2.1,none⟩
def Wp:Hn SI:=(b7 (.s (.b (.s (.j ⟨[(19,.v .bool)],[],[1,5,8],[1000,1320],1704,[]⟩ .z) .z)) (.s .z (.s (.s .z (.b (.lx ⟨[(10,.o 2472),(39,.v af)],[(2472,.l bA)],[5,8,37,38],[1000,1320],2473,[(10,bA)]⟩ 1 ⟨[(10,.o 2472)],[(2472,.l bA)],[5],[1000],2473,[]⟩ (b7 (.s (.b (.s .z (.s (.s (.j ⟨[(56,.v .bool)],[],[5,8,10,12,37,38,39],[1000,1320,2472,2665],2793,[]⟩ .z) .z) .z))) .z))))) .z))))
theorem Wq:aI 46 (Wo n) :=cq (au (EN n) (au (jS n) (au (JE n) (au PU (au (rX n) (au Sb aA)))))) func46 Wp n
def Sc:bt xx:=⟨[.d (.sl cO),.d (.sl bA),.d af,.d (.sl af),.d .bool],[.d .bool,.fresh bA,.d af],λa=>gG n a.1 a.2.1 a.2.2.1 a.2.2.2.1 a.2.2.2.2.1,none⟩
def Sd:Hn SI:=(ii (.s (.j ⟨[(16,.v .bool)],[],[0,1,2,3],[],2408,[]⟩ .z) .z))
theorem EO:aI 15 (Sc n) :=cq (au (PO n) (au (Uz n) (au vF (au (Wq n) aA)))) func15 Sd n
def ZN:bt xx:=⟨[.d (.sl af),.d (.sl af)],[.d .bool],λa=>nJ n a.1 a.2.1,none⟩
def ZO:Hn SI:=(b7 (.s (.s .z (.b (.lx ⟨[(5,.v af)],[],[0,1],[],1448,[]⟩ 0 ⟨[],[],[],[],1448,[]⟩ .z))) .z))
theorem Mv:aI 10 (ZN n) :=cq aA func10 ZO n
def Sg:bt xx:=⟨[.d bC,.ref .str],[.d .bool],λa=>nV a.1 a.2.1,none⟩
theorem EP:aI 41 Sg :=cq aA func41 .z 0
def NF:bt xx:=⟨[.d (.sl bC),.c6 [bC] .bool],[.d af],λa=>u6 n a.1 a.2.1,none⟩
def NG:Hn SI:=(.s .z (.s (.s .z (.b (.lx ⟨[(8,.v af)],[],[0,1,7],[],1256,[]⟩ 0 ⟨[],[],[],[],1256,[]⟩ .z))) .z))
theorem NH:aI 81 (NF n) :=cq aA func81 NG n
def JF:bt xx:=⟨[.d (.sl bC),.c6 [bC] .bool],[.d .bool],λa=>lC n a.1 a.2.1,none⟩
theorem JG:aI 43 (JF n) :=cq (au (NH n) aA) func43 .z n
def Mw:cM xx:=⟨[.v bC,.p 0],[(0,.c 1 [[(.f 41 [] [.p 1])]]),(1,nF)],[.v .bool],[(0,.c 1 [[(.f 41 [] [.p 1])]]),(1,nF)],λv=>nK v.1 v.2⟩
def MB:bt xx:=⟨[],[.d .bool],λ_=>none,some (Mw)⟩
theorem MC:aI 42 MB :=ml (au EP aA) func42 .z 0 (by kernel_rfl) λ_=>by kernel_rfl
def JH:cM xx:=⟨[.v (.sl bC),(.f 42 [] [.p 0])],[(0,.c 1 [[(.f 41 [] [.p 1])]]),(1,nF)],[.v af],[(0,.c 1 [[(.f 41 [] [.p 1])]]),(1,nF)],λv=>pq n v.1 v.2⟩
def JI:bt xx:=⟨[],[.d .bool],λ_=>none,some (JH n)⟩
def JJ:Hn SI:=(.s .z (.s (.s .z (.b (.lx ⟨[(8,.v af)],[(0,.c 1 [[(.f 41 [] [.p 1])]]),(1,nF)],[0,1,7],[],1256,[]⟩ 0 ⟨[],[(0,.c 1 [[(.f 41 [] [.p 1])]]),(1,nF)],[],[],1256,[]⟩ .z))) .z))
theorem JK:aI 81 (JI n) :=ml (au MC aA) func81 JJ n (by kernel_rfl) λ_=>by kernel_rfl
def DU:cM xx:=⟨[.v (.sl bC),(.f 42 [] [.p 0])],[(0,.c 1 [[(.f 41 [] [.p 1])]]),(1,nF)],[.v .bool],[(0,.c 1 [[(.f 41 [] [.p 1])]]),(1,nF)],λv=>jC n v.1 v.2⟩
def DW:bt xx:=⟨[],[.d .bool],λ_=>none,some (DU n)⟩
theorem DX:aI 43 (DW n) :=ml (au (JK n) aA) func43 .z n (by kernel_rfl) λ_=>by kernel_rfl
def ZP:bt xx:=⟨[.d (.st SI.i9),.d (.sl .str)],[.d .bool],λa=>nL n a.1 a.2.1,none⟩
def ZQ:Hn SI:=(.s .z (.s (.s .z (.b (.lx ⟨[(11,.v af)],[],[1,2,9,10],[1000],1320,[]⟩ 0 ⟨[],[],[1],[],1320,[]⟩ (b7 (.s (.b (cW (.s (.j ⟨[(27,.v .bool)],[],[1,2,9,10,11],[1000],1960,[]⟩ .z) .z))) .z))))) .z))
theorem ME:aI 13 (ZP n) :=cq (au (aqM (JG n) (DX n)) (au EP aA)) func13 ZQ n
def agR:bt xx:=⟨[],[.d .bool],λ_=>M0 n,none⟩
def agS:Hn SI:=(.s .z (.s (.f [3]) (ii (.s (.f [8]) (.s (.f [9]) (.s (.f [9]) (.s .z (.s (.j ⟨[(18,.v .bool)],[],[5,7,10,13,16],[2792,5160],5672,[]⟩ .z) .z))))))))
theorem agT:aI 5 (agR n) :=cq (au aiZ (au (EM n) (au (EO n) (au (Mv n) (au (ME n) aA))))) func5 agS n
def alO:bt xx:=⟨[.d (.st SI.eS)],[.d .bool],λa=>WJ n a.1,none⟩
def alP:Hn SI:=(b7 (.s (.s (.j ⟨[(48,.v .bool)],[],[1,3],[1000,1256],1384,[]⟩ .z) .z) (.s (.s .z (.b (.lx ⟨[(4,.v af)],[],[1,3],[1000,1256],1448,[]⟩ 0 ⟨[],[],[1],[1000],1448,[]⟩ (.s .z (.s (.b (.s (.j ⟨[(73,.v .bool)],[],[1,3,4],[1000,1256],1768,[]⟩ .z) .z)) .z))))) (.s (.s .z (.b (.lx ⟨[(5,.v af)],[],[1],[1000],1512,[]⟩ 2 ⟨[],[],[1],[1000],1512,[]⟩ .z))) (.s (.s .z (.b (.lx ⟨[(6,.v af)],[],[1],[1000],1576,[]⟩ 4 ⟨[],[],[],[],1576,[]⟩ .z))) .z)))))
theorem alQ:aI 24 (alO n) :=cq aA func24 alP n
def Si:bt xx:=⟨[.d (.sl eH)],[.d .bool],λa=>nW n a.1,none⟩
def Sj:Hn SI:=(.s .z (.s (.s .z (.b (.lx ⟨[(3,.v af)],[],[0],[],1128,[]⟩ 0 ⟨[],[],[0],[],1128,[]⟩ (.s .z (.s (.b (.s (.s .z (.b (.lx ⟨[(4,.v af)],[],[0,3],[],1448,[]⟩ 2 ⟨[],[],[0,3],[],1448,[]⟩ (.s .z (.s (.b (.s (.j ⟨[(44,.v .bool)],[],[0,3,4],[],1960,[]⟩ .z) .z)) .z))))) .z)) .z))))) .z))
theorem Sk:aI 59 (Si n) :=cq aA func59 Sj n
def alR:bt xx:=⟨[.d (.st SI.i9),.d (.st SI.gE),.d (.sl (.st SI.Act))],[.d .bool],λa=>WK n a.1 a.2.1 a.2.2.1,none⟩
def alS:Hn SI:=(.s .z (.s (.s .z (.b (.lx ⟨[(7,.v af)],[],[2,3,4],[1000,1064],1256,[]⟩ 0 ⟨[],[],[2,3,4],[1000,1064],1256,[]⟩ .z))) .z))
theorem alT:aI 25 (alR n) :=cq (au (Sk n) aA) func25 alS n
def alU:bt xx:=⟨[.d (.st SI.eS),.d eH,.d (.sl .str)],[.d .bool],λa=>WL n a.1 a.2.1 a.2.2.1,none⟩
theorem alV:aI 6 (alU n) :=cq (au (alQ n) (au (alT n) aA)) func6 .z n
def ZR:bt xx:=⟨[.d (.sl cO),.d (.sl bA)],[.d .bool],λa=>Ak n a.1 a.2.1,none⟩
def ZT:Hn SI:=(.s .z (.s (.s .z (.b (.lx ⟨[(5,.v af)],[],[0,1],[],1128,[]⟩ 0 ⟨[],[],[0,1],[],1128,[]⟩ .z))) (.s (.s .z (.b (.lx ⟨[(6,.v af)],[],[0,1],[],1192,[]⟩ 2 ⟨[],[],[0,1],[],1192,[]⟩ .z))) .z)))
theorem ZU:aI 7 (ZR n) :=cq aA func7 ZT n
def agU:bt xx:=⟨[.d cO],[.d .bool],λa=>Gx n a.1,none⟩
def agV:Hn SI:=(.s .z (.s (.s (.j ⟨[(19,.v .bool)],[],[1],[1000],1128,[]⟩ .z) .z) (.s (.s .z (.b (.lx ⟨[(3,.v af)],[],[1],[1000],1192,[]⟩ 0 ⟨[],[],[],[],1192,[]⟩ (.s .z (.s (.b (b7 (.s (.j ⟨[(56,.v .bool)],[],[1,3],[1000],2408,[]⟩ .z) .z))) .z))))) .z)))
theorem Vs:aI 60 (agU n) :=cq aA func60 agV n
def alW:bt xx:=⟨[.d cO,.d af,.d af],[.d .bool],λa=>QW n a.1 a.2.1 a.2.2.1,none⟩
def alX:Hn SI:=(.s .z (.s (.s .z (.b (.lx ⟨[(7,.v af)],[],[1,2,3],[1000],1192,[]⟩ 0 ⟨[],[],[],[],1192,[]⟩ (.s .z (.s (.b (.s (.j ⟨[(32,.v .bool)],[],[1,2,3,7],[1000],1512,[]⟩ .z) .z)) .z))))) .z))
theorem acL:aI 101 (alW n) :=cq aA func101 alX n
def alY:bt xx:=⟨[.d cO,.d af,.d af,.d af],[.d af],λa=>IY n a.1 a.2.1 a.2.2.1 a.2.2.2.1,none⟩
def alZ:Hn SI:=(cW (.s (.s .z (.b (.lx ⟨[(10,.o 1640),(11,.v af)],[(1256,.l .bool),(1640,.l af)],[2,3,4,9],[1000],1641,[]⟩ 0 ⟨[],[],[],[],1640,[]⟩ (.s .z (.s (.b (.s .z (.s (.s .z (.b (.lx ⟨[(12,.o 2025),(13,.v af)],[(1256,.l .bool),(2025,.l af)],[2,3,4,9,10,11],[1000,1640],2026,[(12,af)]⟩ 2 ⟨[(12,.o 2025)],[(1256,.l .bool),(2025,.l af)],[2,3,4,9,11],[1000],2026,[]⟩ (.s .z (.s (.b (.s .z (.b (.lx ⟨[(12,.o 2410),(14,.v af)],[(1256,.l .bool),(2410,.l af)],[2,3,4,9,10,11,13],[1000,1640],2411,[]⟩ 4 ⟨[(12,.o 2410)],[(1256,.l .bool),(2410,.l af)],[2,3,4,9,10,11,13],[1000,1640],2411,[]⟩ (.s .z (.s (.jx ⟨[(12,.o 2667)],[(1256,.l .bool),(2667,.l af)],[2,3,4,9,10,11,13,14],[1000,1640],2668,[]⟩ .z) .z)))))) .z))))) .z))) .z))))) .z))
theorem acM:aI 100 (alY n) :=cq (au (acL n) aA) func100 alZ n
def aeg:bt xx:=⟨[.d cO],[.fresh af],λa=>BO n a.1,none⟩
def aeh:Hn SI:=(cW (.s (.s .z (.b (.l ⟨[(3,.v af),(4,.v af),(5,.v af)],[],[1],[1000],1320,[]⟩ 0 ⟨[(3,.v af),(4,.v af)],[],[1],[1000],1320,[]⟩ (.s .z (.s (.j ⟨[(3,.v af),(4,.v af)],[],[1,5],[1000],1576,[]⟩ (.b (.s .z (.s (.j ⟨[(31,.v .bool)],[],[1,3,4,5,6],[1000],1960,[]⟩ .z) .z)))) .z))))) (b7 (.s (.b (.l ⟨[(7,.o 1640)],[(1640,.l af)],[1,3,4],[1000],1641,[]⟩ 2 ⟨[(7,.o 1640)],[(1640,.l af)],[],[],1641,[]⟩ (.s .z (.b (b7 (.b (.l ⟨[(7,.o 1640),(9,.v af)],[(1640,.l af)],[1,3,4,8],[1000],2537,[]⟩ 4 ⟨[(7,.o 2537)],[(2537,.l af)],[1,3,4],[1000],2538,[]⟩ (.s .z (.s (.b (.s (.j ⟨[(71,.v .bool)],[],[1,3,4,7,8,9],[1000,1640],2793,[]⟩ .z) .z)) .z))))))))) .z))))
theorem Sl:aI 61 (aeg n) :=cq (au (acM n) (au (acL n) aA)) func61 aeh n
def agW:bt xx:=⟨[.d (.sl cO)],[.d .bool],λa=>Gy n a.1,none⟩
def agX:Hn SI:=(.s .z (.s (.s .z (.b (.lx ⟨[(3,.v af)],[],[0],[],1128,[]⟩ 0 ⟨[],[],[0],[],1128,[]⟩ (.s .z (.s (.b (.s (.j ⟨[(24,.v .bool)],[],[0,3],[],1384,[]⟩ .z) .z)) .z))))) .z))
theorem Vt:aI 26 (agW n) :=cq (au (Vs n) (au (Sl n) aA)) func26 agX n
def al0:bt xx:=⟨[.d (.sl .str),.d .str],[.d .bool],λa=>WM n a.1 a.2.1,none⟩
def al1:Hn SI:=(.s .z (.s (.s .z (.b (.lx ⟨[(5,.v af)],[],[0,1],[],1128,[]⟩ 0 ⟨[],[],[],[],1128,[]⟩ .z))) .z))
theorem al2:aI 37 (al0 n) :=cq aA func37 al1 n
def ai7:bt xx:=⟨[.d jd],[.d jd],λa=>QX a.1,none⟩
theorem ai8:aI 70 ai7 :=cq aA func70 .z 0
def ai9:bt xx:=⟨[.d (.sl jd),.d af],[.d jd,.d .bool],λa=>LM n a.1 a.2.1,none⟩
def aja:Hn SI:=(.s .z (.s (.s .z (.b (.lx ⟨[(6,.v af)],[],[0,1,4],[1000],1192,[]⟩ 0 ⟨[],[],[4],[1000],1192,[]⟩ .z))) .z))
theorem ZV:aI 38 (ai9 n) :=cq (au ai8 aA) func38 aja n
def aaZ:bt xx:=⟨[.d eH,.d af,.d af],[.fresh aL],λa=>Ej n a.1 a.2.1 a.2.2.1,none⟩
def aa0:Hn SI:=(b7 (.s (.s .z (.b (.l ⟨[(7,.o 1256),(8,.v af)],[(1256,.l aL)],[1,2,3],[1000],1257,[(7,aL)]⟩ 0 ⟨[(7,.o 1256)],[(1256,.l aL)],[],[],1257,[]⟩ (.s .z (.s (.j ⟨[(7,.o 1577)],[(1577,.l aL)],[1,2,3,8],[1000],1578,[]⟩ (.b (.s (.j ⟨[(23,.v .bool)],[],[1,2,3,7,8],[1000,1256],1577,[]⟩ .z) .z))) .z))))) .z))
theorem aa1:aI 119 (aaZ n) :=cq aA func119 aa0 n
def Ws:bt xx:=⟨[.d ax],[.d .bool],λa=>rO a.1,none⟩
theorem J8:aI 198 Ws :=cq aA func198 .z 0
def ZW:bt xx:=⟨[.d (.st SI.BT)],[.d .bool],λa=>I4 a.1,none⟩
theorem ZX:aI 169 ZW :=cq (au J8 aA) func169 .z 0
def aei:bt xx:=⟨[.d af,.d af,.d af],[.d .bool],λa=>I5 a.1 a.2.1 a.2.2.1,none⟩
theorem aej:aI 170 aei :=cq aA func170 .z 0
def Sm:bt xx:=⟨[.d aL],[.d .bool],λa=>kT a.1,none⟩
theorem vN:aI 120 Sm :=cq (au ZX (au aej aA)) func120 .z 0
def aa2:bt xx:=⟨[.d eH],[.fresh aL],λa=>El n a.1,none⟩
def aa3:Hn SI:=(cW (.s (.s .z (.b (.l ⟨[(4,.o 1640),(5,.v af)],[(1640,.l aL)],[3],[1384],1641,[(4,aL)]⟩ 0 ⟨[(4,.o 1640)],[(1640,.l aL)],[],[],1641,[]⟩ (.s (.s (.j ⟨[(18,.v .bool)],[],[3,4,5],[1384,1640],1641,[]⟩ .z) .z) (.s (.j ⟨[(4,.o 1641)],[(1641,.l aL)],[3,5],[1384],1642,[]⟩ .z) .z))))) .z))
theorem aa4:aI 71 (aa2 n) :=cq (au (aa1 n) (au vN aA)) func71 aa3 n
def agY:bt xx:=⟨[.d ax],[.d af],λa=>M4 a.1,none⟩
theorem Vu:aI 77 agY :=cq aA func77 .z 0
def aa5:bt xx:=⟨[.d aL],[.d af],λa=>yM a.1,none⟩
def aa6:Hn SI:=(.s .z (.s (.s (.j ⟨[(9,.v .bool)],[],[1],[1000],1128,[]⟩ .z) .z) .z))
theorem Ox:aI 73 aa5 :=cq (au vN aA) func73 aa6 0
def agZ:bt xx:=⟨[.d aL],[.d af],λa=>Gz a.1,none⟩
theorem Vv:aI 72 agZ :=cq (au vN (au Vu (au Ox aA))) func72 .z 0
def al3:bt xx:=⟨[.d af],[.d .str],λa=>WN a.1,none⟩
theorem al4:aI 171 al3 :=cq aA func171 .z 0
def al5:bt xx:=⟨[.d (.st SI.i9),.d af],[.d af],λa=>WO n a.1 a.2.1,none⟩
def al6:Hn SI:=(.s .z (.s (.s .z (.b (.lx ⟨[(5,.v af)],[],[1,2],[1000],1192,[]⟩ 0 ⟨[],[],[],[],1192,[]⟩ (.s .z (.s (.b (b7 (.s (.s .z (.b (.lx ⟨[(7,.v af)],[],[1,6],[2280],2472,[]⟩ 2 ⟨[],[],[6],[2280],2472,[]⟩ .z))) .z))) .z))))) .z))
theorem al7:aI 121 (al5 n) :=cq (au al4 aA) func121 al6 n
def aa7:bt xx:=⟨[.d (.st SI.i9),.d aL],[.d af],λa=>Em n a.1 a.2.1,none⟩
def aa8:Hn SI:=(cW (.s (.s (.j ⟨[(18,.v .bool)],[],[5,6],[],1704,[]⟩ .z) .z) .z))
theorem aa9:aI 74 (aa7 n) :=cq (au (al7 n) (au Vv aA)) func74 aa8 n
def aek:bt xx:=⟨[.d (.sl af)],[.fresh af],λa=>I6 n a.1,none⟩
def ael:Hn SI:=(b7 (.s (.s .z (.b (.l ⟨[(3,.o 1192),(4,.v af)],[(1192,.l af)],[0],[],1193,[(3,af)]⟩ 0 ⟨[(3,.o 1192)],[(1192,.l af)],[],[],1193,[]⟩ (.s .z (.s (.j ⟨[(3,.o 1449)],[(1449,.l af)],[0,4],[],1450,[]⟩ (.b (.s .z (.s (.b (.l ⟨[(5,.v af)],[],[0,3,4],[1192],1641,[]⟩ 2 ⟨[(5,.v af)],[],[0,3,4],[1192],1641,[]⟩ (.s (.s (.j ⟨[(28,.v .bool)],[],[0,3,4,5],[1192],1641,[]⟩ .z) .z) .z))) (.s (.s (.j ⟨[(44,.v .bool)],[],[0,3,4,5],[1192],1641,[]⟩ .z) .z) (.s .z (.s (.s .z (.b (.l ⟨[(6,.v af)],[(1769,.l af)],[0,3,4,5],[],2153,[]⟩ 4 ⟨[],[(1769,.l af)],[0,3,4,5],[],2153,[]⟩ .z))) .z))))))) .z))))) .z))
theorem aem:aI 174 (aek n) :=cq aA func174 ael n
def ag0:bt xx:=⟨[.d (.sl ax),.d (.sl ax)],[.fresh af],λa=>M5 n a.1 a.2.1,none⟩
def ag1:Hn SI:=(b7 (.s (.s .z (.b (.l ⟨[(5,.o 1192),(6,.v af)],[(1192,.l af)],[0,1],[],1193,[(5,af)]⟩ 0 ⟨[(5,.o 1192)],[(1192,.l af)],[1],[],1193,[]⟩ .z))) (.s (.s .z (.b (.l ⟨[(5,.o 1257),(7,.v af)],[(1257,.l af)],[1],[],1258,[]⟩ 2 ⟨[(5,.o 1257)],[(1257,.l af)],[],[],1258,[]⟩ .z))) .z)))
theorem ag2:aI 123 (ag0 n) :=cq (au (aem n) aA) func123 ag1 n
def aen:bt xx:=⟨[.d (.sl ax),.d af],[.fresh af],λa=>sZ n a.1 a.2.1,none⟩
def aeo:Hn SI:=(cW (.s (.s .z (.b (.l ⟨[(5,.o 1256),(6,.o 1257),(7,.v af)],[(1256,.l af),(1257,.l af)],[0,1],[],1258,[(5,af),(6,af)]⟩ 0 ⟨[(5,.o 1256),(6,.o 1257)],[(1256,.l af),(1257,.l af)],[],[],1258,[]⟩ (.s .z (.s (.j ⟨[(5,.o 1514),(6,.o 1515)],[(1514,.l af),(1515,.l af)],[0,1,7],[],1516,[]⟩ (.b (.s (.s (.j ⟨[(32,.v .bool)],[],[0,1,5,6,7],[1256,1257],1514,[]⟩ .z) .z) (cW (.s (.b (.l ⟨[(8,.v af)],[(1834,.l af),(2090,.l af)],[0,1,5,6,7],[],2218,[]⟩ 2 ⟨[(8,.v af)],[(1834,.l af),(2090,.l af)],[0,1,5,6,7],[],2218,[]⟩ (.s (.s (.j ⟨[(55,.v .bool)],[],[0,1,5,6,7,8],[1834,2090],2218,[]⟩ .z) .z) .z))) .z))))) .z))))) (.s .z (.s (.s .z (.b (.l ⟨[(9,.o 1386),(10,.v af)],[(1386,.l af)],[5,6],[1256,1257],1387,[(9,af)]⟩ 4 ⟨[(9,.o 1386)],[(1386,.l af)],[],[],1387,[]⟩ (.s .z (.s (.j ⟨[(9,.o 1643)],[(1643,.l af)],[5,6,10],[1256,1257],1644,[]⟩ (.b (.s (.s (.j ⟨[(111,.v .bool)],[],[5,6,9,10],[1256,1257,1386],1643,[]⟩ .z) .z) .z))) .z))))) .z))))
theorem aep:aI 125 (aen n) :=cq aA func125 aeo n
def abb:bt xx:=⟨[.d (.sl af),.d (.sl af),.d af],[.fresh af],λa=>En n a.1 a.2.1 a.2.2.1,none⟩
def abd:Hn SI:=(vh (.s (.b (.l ⟨[(7,.o 1320),(8,.v af),(9,.v af),(10,.v .bool)],[(1320,.l af)],[0,1,2],[],1321,[(7,af)]⟩ 0 ⟨[(7,.o 1320)],[(1320,.l af)],[],[],1321,[]⟩ (.s (.s (.j ⟨[(24,.v .bool)],[],[0,1,2,7,8,9,10],[1320],1321,[]⟩ .z) .z) (.b (.s .z (.s (.j ⟨[(11,.v af)],[],[0,1,2,7,8,9,10],[1320],1385,[]⟩ (.s (.j ⟨[(49,.v .bool)],[],[0,1,2,7,8,9,10],[1320],1385,[]⟩ .z) .z)) (.s (.j ⟨[(8,.v af)],[],[0,1,2,7,9,10,11],[1320],1385,[]⟩ (.s (.j ⟨[(69,.v .bool)],[],[0,1,2,7,8,9,10,11],[1320],1385,[]⟩ .z) .z)) (.s (.j ⟨[(9,.v af)],[],[0,1,2,7,8,10,11],[1320],1385,[]⟩ (.s (.j ⟨[(83,.v .bool)],[],[0,1,2,7,8,9,10,11],[1320],1385,[]⟩ .z) .z)) (b7 (.s (.j ⟨[(14,.v .bool)],[],[0,1,2,7,8,9,10,11,12,13],[1320],1897,[]⟩ .z) (.s (.j ⟨[(14,.v .bool)],[],[0,1,2,7,8,9,10,11,12,13],[1320],1897,[]⟩ .z) (.s (.j ⟨[(14,.v .bool)],[],[0,1,2,7,8,9,10,11],[1320],1897,[]⟩ .z) (.s (.j ⟨[(7,.o 1897)],[(1897,.l af)],[0,1,2,8,9,14],[],1898,[]⟩ .z) .z))))))))))))) .z))
theorem abe:aI 124 (abb n) :=cq aA func124 abd n
def ajb:bt xx:=⟨[.d (.sl af),.d (.sl af)],[.d .bool],λa=>LP n a.1 a.2.1,none⟩
def ajc:Hn SI:=(b7 (.s (.s .z (.b (.lx ⟨[(5,.v af)],[],[0,1],[],1448,[]⟩ 0 ⟨[],[],[],[],1448,[]⟩ .z))) .z))
theorem ajd:aI 126 (ajb n) :=cq aA func126 ajc n
def aje:bt xx:=⟨[.d (.sl ax),.d (.sl ax),.d af],[.fresh ax],λa=>yP n a.1 a.2.1 a.2.2.1,none⟩
def ajf:Hn SI:=(vh (.s (.s .z (.b (.l ⟨[(7,.o 1576),(9,.o 1577),(10,.v af),(11,.v af)],[(1576,.l ax),(1577,.l af)],[0,1,2,8],[1256],1578,[(7,ax),(9,af)]⟩ 0 ⟨[(7,.o 1576)],[(1576,.l ax)],[],[],1577,[]⟩ (.s .z (.s (.j ⟨[(7,.o 1898),(9,.o 1899),(10,.v af)],[(1898,.l ax),(1899,.l af)],[0,1,2,8,11],[1256],1900,[]⟩ (.b (.s .z (.s (.s (.j ⟨[(50,.v .bool)],[],[0,1,2,7,8,9,10,11,12],[1256,1576,1577,2730],2858,[]⟩ .z) (.s (.s (.s .z (.b (.l ⟨[(13,.v af)],[(1576,.l ax)],[0,1,2,7,8,9,10,11],[1256,1577],2986,[]⟩ 2 ⟨[],[(1576,.l ax)],[0,1,2,7,8,9,10,11],[1256,1577],2986,[]⟩ .z))) .z) .z)) (cW (.b (.l ⟨[(7,.o 3242),(14,.v af)],[(3242,.l ax)],[0,1,2,8,9,10,11,12],[1256,2730],3243,[]⟩ 4 ⟨[(7,.o 3242)],[(3242,.l ax)],[0,1,2,8,9,10,11],[1256,2730],3243,[]⟩ .z))))))) .z))))) .z))
theorem PV:aI 76 (aje n) :=cq (au (ag2 n) (au (aep n) (au (abe n) (au (ajd n) aA)))) func76 ajf n
def an4:bt xx:=⟨[.d (.sl ax)],[.fresh ax,.d af],λa=>HQ n a.1,none⟩
def an5:Hn SI:=(.s .z (.s (.s .z (.b (.lx ⟨[(4,.v af)],[],[0],[],1192,[]⟩ 0 ⟨[],[],[0],[],1192,[]⟩ .z))) .z))
theorem an6:aI 172 (an4 n) :=cq (au J8 (au (PV n) aA)) func172 an5 n
def ajg:bt xx:=⟨[.d (.sl ax),.d (.sl ax)],[.d .bool],λa=>QY n a.1 a.2.1,none⟩
def ajh:Hn SI:=(b7 (.s (.s .z (.b (.lx ⟨[(5,.v af)],[],[0,1],[],1448,[]⟩ 0 ⟨[],[],[],[],1448,[]⟩ .z))) .z))
theorem aji:aI 173 (ajg n) :=cq aA func173 ajh n
def ag3:bt xx:=⟨[.d (.sl ax)],[.d .bool],λa=>wU n a.1,none⟩
theorem MF:aI 122 (ag3 n) :=cq (au (an6 n) (au (aji n) aA)) func122 .z n
def abf:bt xx:=⟨[.d (.sl ax),.d ax],[.d af],λa=>Ep n a.1 a.2.1,none⟩
def abg:Hn SI:=(ii (.s (.s .z (.b (.l ⟨[(5,.v af),(7,.v af)],[],[3,6],[1000,2280],2472,[]⟩ 0 ⟨[(5,.v af)],[],[],[],2472,[]⟩ .z))) .z))
theorem abh:aI 75 (abf n) :=cq (au (MF n) (au (PV n) aA)) func75 abg n
def ajj:bt xx:=⟨[.d (.sl ax)],[.d af],λa=>QZ n a.1,none⟩
def ajk:Hn SI:=(cW (.s (.s .z (.b (.l ⟨[(3,.v af),(4,.v af)],[],[0],[],1384,[]⟩ 0 ⟨[(3,.v af)],[],[],[],1384,[]⟩ .z))) .z))
theorem ajl:aI 78 (ajj n) :=cq (au (MF n) aA) func78 ajk n
def an7:bt xx:=⟨[.d (.st SI.i9),.d jd,.d eH],[.fresh (.st SI.Entry)],λa=>HP n a.1 a.2.1 a.2.2.1,none⟩
def an8:Hn SI:=(Is (.s (.s .z (.b (.l ⟨[(8,.o 1960),(9,.v af),(10,.v af),(11,.v af),(12,.v af),(13,.v af),(14,.v af),(15,.v af)],[(1960,.l ax)],[3,4,7],[1000,1064,1320],1961,[(8,ax)]⟩ 0 ⟨[(8,.o 1960),(9,.v af),(10,.v af),(11,.v af),(12,.v af),(13,.v af),(14,.v af)],[(1960,.l ax)],[4],[1064],1961,[]⟩ .z))) (b7 (.s (.s .z (.b (.l ⟨[(17,.v af),(18,.v af)],[],[4,9,10,11,12,13,14,16],[1064,2025],2281,[]⟩ 2 ⟨[(17,.v af)],[],[4,9,10,11,12,13,14],[1064],2281,[]⟩ .z))) .z))))
theorem an9:aI 39 (an7 n) :=cq (au (aa4 n) (au Vv (au Ox (au (aa9 n) (au (abh n) (au (PV n) (au Vu (au (ajl n) aA)))))))) func39 an8 n
def ajm:bt xx:=⟨[.d af,.d af],[.d .bool],λa=>Q0 a.1 a.2.1,none⟩
theorem ajn:aI 199 ajm :=cq aA func199 .z 0
def ag4:bt xx:=⟨[.d ax],[.d .bool],λa=>GD a.1,none⟩
theorem ag5:aI 175 ag4 :=cq (au ajn aA) func175 .z 0
def ag6:bt xx:=⟨[.d af,.d af,.d af,.d af],[.d af],λa=>GH a.1 a.2.1 a.2.2.1 a.2.2.2.1,none⟩
theorem ag7:aI 176 ag6 :=cq aA func176 .z 0
def al8:bt xx:=⟨[.d ax,.d ax],[.d af],λa=>WQ a.1 a.2.1,none⟩
def al9:Hn SI:=(.s .z (.s (.s (.j ⟨[(12,.v .bool)],[],[2,3],[1000,1064],1192,[]⟩ .z) .z) .z))
theorem ama:aI 127 al8 :=cq (au ag5 (au ag7 aA)) func127 al9 0
def amb:bt xx:=⟨[.d (.sl ax),.d (.sl ax)],[.d af,.d .bool],λa=>Q5 n a.1 a.2.1,none⟩
def amc:Hn SI:=(.s .z (.s (.s (.j ⟨[(26,.v .bool)],[],[0,1],[],1128,[]⟩ .z) .z) (.s .z (.s (.s .z (.b (.l ⟨[(6,.v af),(7,.v af)],[],[0,1],[],1256,[]⟩ 0 ⟨[(6,.v af)],[],[],[],1256,[]⟩ (.s .z (.s (.b (.s .z (.b (.l ⟨[(6,.v af),(8,.v af)],[],[0,1,7],[],1576,[]⟩ 2 ⟨[(6,.v af)],[],[0,1,7],[],1576,[]⟩ .z)))) .z))))) .z))))
theorem amd:aI 79 (amb n) :=cq (au (MF n) (au ama aA)) func79 amc n
def ame:bt xx:=⟨[.d (.sl af),.d af],[.d .bool],λa=>WR n a.1 a.2.1,none⟩
def amf:Hn SI:=(.s .z (.s (.s .z (.b (.lx ⟨[(5,.v af)],[],[0,1],[],1128,[]⟩ 0 ⟨[],[],[],[],1128,[]⟩ .z))) .z))
theorem amg:aI 128 (ame n) :=cq aA func128 amf n
def ajo:bt xx:=⟨[.d (.sl af),.d af],[.d (.sl af)],λa=>Q6 n a.1 a.2.1,none⟩
def ajp:Hn SI:=(cW (.s (.b (.l ⟨[(5,.v af)],[],[0,1],[],1320,[]⟩ 0 ⟨[(5,.v af)],[],[0,1],[],1320,[]⟩ (.s (.s (.j ⟨[(22,.v .bool)],[],[0,1,5],[],1320,[]⟩ .z) .z) .z))) .z))
theorem ajq:aI 80 (ajo n) :=cq (au (amg n) aA) func80 ajp n
def ajr:bt xx:=⟨[.d (.sl jd),.d af,.d af],[.d (.sl af)],λa=>Q7 n a.1 a.2.1 a.2.2.1,none⟩
def ajs:Hn SI:=(ii (.s (.s .z (.b (.l ⟨[(9,.v (.sl af)),(10,.v af)],[],[0,1,2,7],[1448],1896,[]⟩ 0 ⟨[(9,.v (.sl af))],[],[],[],1896,[]⟩ (.s .z (.s (.j ⟨[(9,.v (.sl af))],[],[0,1,2,7,10],[1448],2152,[]⟩ (.b (.s .z (.s (.j ⟨[(52,.v .bool)],[],[0,1,2,7,9,10],[1448],2984,[]⟩ .z) .z)))) .z))))) .z))
theorem ajt:aI 40 (ajr n) :=cq (au (ZV n) (au (amd n) (au (ajq n) aA))) func40 ajs n
def abj:bt xx:=⟨[.d (.st SI.eS),.d eH,.d (.sl .str)],[.fresh af],λa=>yQ n a.1 a.2.1 a.2.2.1,none⟩
def abk:Hn SI:=(b7 (.s (.s .z (.b (.l ⟨[(7,.v af),(8,.v af)],[],[2,3,4],[1000,1064],1320,[]⟩ 0 ⟨[(7,.v af)],[],[3,4],[1000,1064],1320,[]⟩ (.s .z (.s (.j ⟨[(7,.v af)],[],[2,3,4,8],[1000,1064],1576,[]⟩ .z) .z))))) (cW (.s (.s .z (.b (.l ⟨[(11,.v af),(13,.v af)],[],[3,4,7,9,12],[1000,1064,1832,2344],2536,[]⟩ 2 ⟨[(11,.v af)],[],[3,4,7,9],[1000,1064,1832],2536,[]⟩ (.s .z (.s (.j ⟨[(11,.v af)],[],[3,4,7,9,12,13],[1000,1064,1832,2344],2792,[]⟩ .z) .z))))) .z))))
theorem Oy:aI 12 (abj n) :=cq (au (al2 n) (au (ZV n) (au (an9 n) (au (ajt n) aA)))) func12 abk n
def aer:bt xx:=⟨[.d (.st SI.eS),.d (.sl cO),.d eH,.d (.sl .str)],[.fresh af],λa=>I8 n a.1 a.2.1 a.2.2.1 a.2.2.2.1,none⟩
def aes:Hn SI:=(ii (.s (.s .z (.b (.l ⟨[(10,.o 1832),(11,.v af)],[(1832,.l af)],[1,9],[1576],1833,[(10,af)]⟩ 0 ⟨[(10,.o 1832)],[(1832,.l af)],[],[],1833,[]⟩ (.s .z (.s (.b (b7 (.s (.j ⟨[(13,.v af)],[],[1,9,10,11],[1576,1832],3049,[]⟩ .z) .z))) .z))))) .z))
theorem aeu:aI 9 (aer n) :=cq (au (Vt n) (au (Oy n) aA)) func9 aes n
def amh:bt xx:=⟨[.d (.st SI.i9),.d (.sl .str)],[.d .bool],λa=>WS n a.1 a.2.1,none⟩
def ami:Hn SI:=(.s .z (.s (.s .z (.b (.lx ⟨[(5,.v af)],[],[1,2],[1000],1192,[]⟩ 0 ⟨[],[],[1],[],1192,[]⟩ (.s .z (.s (.b (.s .z (.s (.s .z (.b (.lx ⟨[(6,.v .bool),(7,.v af)],[],[1,2,5],[1000],1576,[]⟩ 2 ⟨[(6,.v .bool)],[],[1,2,5],[1000],1576,[]⟩ (.s .z (.s (.jx ⟨[(6,.v .bool)],[],[1,2,5,7],[1000],1896,[]⟩ .z) .z))))) .z))) .z))))) .z))
theorem amj:aI 14 (amh n) :=cq aA func14 ami n
def aev:bt xx:=⟨[.d (.sl cO),.d (.sl af)],[.d .bool],λa=>tq n a.1 a.2.1,none⟩
def aew:Hn SI:=(b7 (.s (.s .z (.b (.lx ⟨[(5,.v af)],[],[0,1],[],1448,[]⟩ 0 ⟨[],[],[],[],1448,[]⟩ (.s .z (.s (.b (.s (.j ⟨[(33,.v .bool)],[],[0,1,5],[],1704,[]⟩ .z) .z)) .z))))) .z))
theorem JL:aI 90 (aev n) :=cq aA func90 aew n
def ag8:bt xx:=⟨[.d (.sl cO),.d (.sl bA)],[.d .bool],λa=>GI n a.1 a.2.1,none⟩
def ag9:Hn SI:=(.s .z (.s (.s (.j ⟨[(14,.v .bool)],[],[0,1],[],1064,[]⟩ .z) .z) (.s (.s .z (.b (.lx ⟨[(5,.v af)],[],[0,1],[],1128,[]⟩ 0 ⟨[],[],[],[],1128,[]⟩ (.s .z (.s (.b (b7 (.b (.lx ⟨[(6,.v af)],[],[0,1,5],[],1960,[]⟩ 2 ⟨[],[],[0,1,5],[],1960,[]⟩ .z)))) .z))))) .z)))
theorem Vw:aI 89 (ag8 n) :=cq (au (Vt n) (au (JL n) aA)) func89 ag9 n
def aex:bt xx:=⟨[.d cO,.d af,.d af],[.d .bool],λa=>Ja n a.1 a.2.1 a.2.2.1,none⟩
theorem aey:aI 177 (aex n) :=cq (au (acM n) aA) func177 .z n
def abl:bt xx:=⟨[.d cO],[.fresh (.sl .bool),.d (.sl af),.d af],λa=>Et n a.1,none⟩
def abm:Hn SI:=(vh (.s (.s .z (.b (.l ⟨[(6,.o 1960),(7,.v af)],[(1960,.l (.sl .bool))],[1],[1000],1961,[(6,.sl .bool)]⟩ 0 ⟨[(6,.o 1960)],[(1960,.l (.sl .bool))],[],[],1961,[]⟩ (.s .z (.s (.b (.s .z (.s (.s .z (.b (.l ⟨[(8,.o 2345),(9,.v af)],[(2345,.l .bool)],[1,6,7],[1000,1960],2346,[(8,.bool)]⟩ 2 ⟨[(8,.o 2345)],[(2345,.l .bool)],[1,6,7],[1000,1960],2346,[]⟩ .z))) .z))) .z))))) .z))
theorem abn:aI 129 (abl n) :=cq (au (Vs n) (au (Sl n) (au (aey n) aA))) func129 abm n
def ZY:bt xx:=⟨[.d (.sl cO)],[.fresh (.sl (.sl .bool))],λa=>vw n a.1,none⟩
def Z0:Hn SI:=(b7 (.s (.s .z (.b (.l ⟨[(3,.o 1192),(4,.v af)],[(1192,.l (.sl (.sl .bool)))],[0],[],1193,[(3,.sl (.sl .bool))]⟩ 0 ⟨[(3,.o 1192)],[(1192,.l (.sl (.sl .bool)))],[],[],1193,[]⟩ .z))) .z))
theorem MH:aI 92 (ZY n) :=cq (au (abn n) aA) func92 Z0 n
def aez:bt xx:=⟨[.d (.sl (.sl (.sl .bool))),.d (.sl af),.d (.sl af)],[.fresh af],λa=>BV n a.1 a.2.1 a.2.2.1,none⟩
def aeA:Hn SI:=(b7 (.s (.s .z (.b (.l ⟨[(7,.o 1192),(8,.v af)],[(1192,.l af)],[0,1,2],[],1193,[(7,af)]⟩ 0 ⟨[(7,.o 1192)],[(1192,.l af)],[],[],1193,[]⟩ (.s .z (.s (.j ⟨[(7,.o 1449)],[(1449,.l af)],[0,1,2,8],[],1450,[]⟩ .z) .z))))) .z))
theorem aeB:aI 130 (aez n) :=cq aA func130 aeA n
def abo:bt xx:=⟨[.d (.sl (.sl (.sl .bool))),.d bA,.d (.sl af)],[.fresh af],λa=>yR n a.1 a.2.1 a.2.2.1,none⟩
theorem Oz:aI 93 (abo n) :=cq (au (aeB n) aA) func93 .z n
def aeC:bt xx:=⟨[.d (.sl (.sl (.sl .bool))),.d (.sl bA),.d (.sl af),.d af],[.d af,.fresh af],λa=>Jb n a.1 a.2.1 a.2.2.1 a.2.2.2.1,none⟩
def aeD:Hn SI:=(cW (.s (.s .z (.b (.l ⟨[(10,.o 1320),(11,.v af),(12,.v af)],[(1320,.l af)],[0,1,2,3],[],1321,[(10,af)]⟩ 0 ⟨[(10,.o 1320),(11,.v af)],[(1320,.l af)],[],[],1321,[]⟩ (.s .z (.s (.j ⟨[(10,.o 1577),(11,.v af)],[(1577,.l af)],[0,1,2,3,12],[],1578,[]⟩ (.b (.s (.s (.j ⟨[(32,.v .bool)],[],[0,1,2,3,10,11,12],[1320],1577,[]⟩ .z) .z) .z))) .z))))) .z))
theorem aeE:aI 91 (aeC n) :=cq (au (Oz n) aA) func91 aeD n
def aeF:bt xx:=⟨[.d (.sl cO),.d (.sl bA),.d (.sl af)],[.d af,.fresh af,.d af],λa=>Jc n a.1 a.2.1 a.2.2.1,none⟩
def aeG:Hn SI:=(.s .z (.s (.s (.j ⟨[(20,.v .bool)],[],[0,1,2],[],1192,[]⟩ .z) .z) .z))
theorem aeH:aI 48 (aeF n) :=cq (au (Vw n) (au (JL n) (au (MH n) (au (aeE n) aA)))) func48 aeG n
def aeI:bt xx:=⟨[.d (.sl bA)],[.fresh bA],λa=>tu n a.1,none⟩
def aeJ:Hn SI:=(b7 (.s (.s .z (.b (.l ⟨[(3,.o 1192),(4,.v af)],[(1192,.l bA)],[0],[],1193,[(3,bA)]⟩ 0 ⟨[(3,.o 1192)],[(1192,.l bA)],[],[],1193,[]⟩ .z))) .z))
theorem aeK:aI 49 (aeI n) :=cq aA func49 aeJ n
def aha:bt xx:=⟨[.d (.sl bA)],[.fresh bA],λa=>wV n a.1,none⟩
def ahb:Hn SI:=(b7 (.s (.s .z (.b (.l ⟨[(3,.o 1192),(4,.v af)],[(1192,.l bA)],[0],[],1193,[(3,bA)]⟩ 0 ⟨[(3,.o 1192)],[(1192,.l bA)],[],[],1193,[]⟩ .z))) .z))
theorem ahc:aI 94 (aha n) :=cq aA func94 ahb n
def amk:bt xx:=⟨[.d (.sl cO),.d (.sl bA),.d bA],[.fresh bA,.d af],λa=>WT n a.1 a.2.1 a.2.2.1,none⟩
def aml:Hn SI:=(.s .z (.s (.s (.j ⟨[(21,.v .bool)],[],[0,1,5],[1000],1192,[]⟩ .z) .z) (.s (.s .z (.b (.lx ⟨[(8,.v af)],[],[0,1,5],[1000],1256,[]⟩ 0 ⟨[],[],[0,1,5],[1000],1256,[]⟩ .z))) (b7 (.s (.s .z (.b (.lx ⟨[(10,.v af)],[],[1,5,9],[1000,1512],1704,[]⟩ 2 ⟨[],[],[1,5],[1000],1704,[]⟩ (.s .z (.s (.b (.s (.j ⟨[(66,.v .bool)],[],[1,5,9,10],[1000,1512],1960,[]⟩ .z) .z)) .z))))) .z)))))
theorem amm:aI 50 (amk n) :=cq (au (Vw n) (au (JL n) (au (MH n) (au (Oz n) (au (ahc n) aA))))) func50 aml n
def aeL:bt xx:=⟨[.d (.sl cO),.d (.sl bA),.d af,.d (.sl af),.d .bool],[.d .bool,.fresh bA,.d af],λa=>BX n a.1 a.2.1 a.2.2.1 a.2.2.2.1 a.2.2.2.2.1,none⟩
def aeM:Hn SI:=(ii (.s (.j ⟨[(16,.v .bool)],[],[0,1,2,3],[],2152,[]⟩ .z) .z))
theorem aeN:aI 16 (aeL n) :=cq (au (aeH n) (au (aeK n) (au (amm n) aA))) func16 aeM n
def aju:bt xx:=⟨[.d (.sl af),.d (.sl af)],[.d .bool],λa=>Q8 n a.1 a.2.1,none⟩
def ajv:Hn SI:=(b7 (.s (.s .z (.b (.lx ⟨[(5,.v af)],[],[0,1],[],1448,[]⟩ 0 ⟨[],[],[],[],1448,[]⟩ .z))) .z))
theorem ajw:aI 51 (aju n) :=cq aA func51 ajv n
def ajx:bt xx:=⟨[.d (.sl bA),.d (.sl bA)],[.d .bool],λa=>LU n a.1 a.2.1,none⟩
def ajy:Hn SI:=(b7 (.s (.s .z (.b (.lx ⟨[(5,.v af)],[],[0,1],[],1448,[]⟩ 0 ⟨[],[],[],[],1448,[]⟩ (.s .z (.s (.b (.s (.j ⟨[(54,.v .bool)],[],[0,1,5],[],1704,[]⟩ .z) .z)) .z))))) .z))
theorem ajz:aI 17 (ajx n) :=cq (au (ajw n) aA) func17 ajy n
def NI:bt xx:=⟨[.d (.st SI.eS),.d eH,.d (.sl .str),.d (.sl cO),.d (.sl bA),.d (.st SI.Ask)],[.d .bool],λa=>oL n a.1 a.2.1 a.2.2.1 a.2.2.2.1 a.2.2.2.2.1 a.2.2.2.2.2.1,none⟩
def NJ:Hn SI:=(b7 (.s (.s (.j ⟨[(45,.v .bool)],[],[2,3,4,6,7,11,13],[1000,1064,1128],1384,[]⟩ .z) .z) (.s .z (.s (.f [5]) (.s (.s (.j ⟨[(83,.v .bool)],[],[3,4,11,13,15],[1128],2152,[]⟩ .z) .z) .z)))))
theorem NK:aI 3 (NI n) :=cq (au (agT n) (au (alV n) (au (ZU n) (au (EM n) (au (aeu n) (au (Mv n) (au (CP n) (au (Oy n) (au (ME n) (au (amj n) (au (EO n) (au (aeN n) (au (ajz n) aA))))))))))))) func3 NJ n
end
end Go.Proofs
