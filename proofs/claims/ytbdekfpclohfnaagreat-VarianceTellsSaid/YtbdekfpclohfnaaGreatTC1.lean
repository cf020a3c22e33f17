import Derived.Test.YtbdekfpclohfnaaGreatS4
namespace Go.Proofs
open Go.Gb Go.RowKit
abbrev ef:OP SI:=.c 10 [[.v (.sl bX),.v (.sl bE),.v (.sl bK),.v (.sl bC),.v (.sl bY),.v (.sl bL),.v (.sl bq),.v af,.v (.sl ax),.o 1]]
abbrev oc:OP SI:=.c 1 [[.v af]]
abbrev nF:OP SI:=.c 1 [[.v .str]]
abbrev p0:OP SI:=.c 10 [[.v (.sl bX),.v (.sl bE),.v (.sl bK),.v (.sl bC),.v (.sl bY),.v (.sl bL),.v (.sl bq),.v af,.v (.sl ax),.o 2]]
abbrev qS:OP SI:=.c 1 [[.v (.sl .str)]]
abbrev s5:OP SI:=.c 1 [[.v (.int .u64)]]
abbrev B4:OP SI:=.c 10 [[.v (.sl bX),.v (.sl bE),.v (.sl bK),.v (.sl bC),.v (.sl bY),.v (.sl bL),.v (.sl bq),.v af,.v (.sl ax),.o 1960]]
abbrev b7(a:Hn SI):Hn SI:=.s .z (.s .z a)
abbrev cW(a:Hn SI):Hn SI:=.s .z (.s .z (.s .z a))
abbrev ii(a:Hn SI):Hn SI:=.s .z (.s .z (.s .z (.s .z a)))
abbrev vh(a:Hn SI):Hn SI:=.s .z (.s .z (.s .z (.s .z (.s .z a))))
abbrev s7(a:Hn SI):Hn SI:=.s .z (.s .z (.s .z (.s .z (.s .z (.s .z a)))))
abbrev Is(a:Hn SI):Hn SI:=.s .z (.s .z (.s .z (.s .z (.s .z (.s .z (.s .z (.s .z (.s .z a))))))))
open Tryz
noncomputable section
variable (n:Nat)
def aiY:bt xx:=⟨[],[.d cO],λ_=>QL,none⟩
theorem aiZ:aI 23 aiY :=cq aA func23 .z 0
def Zv:bt xx:=⟨[.d cO],[.d .bool],λa=>uJ n a.1,none⟩
def Zw:Hn SI:=(.s .z (.s (.s (.j ⟨[(18,.v .bool)],[],[1],[1000],1128,[]⟩ .z) .z) (.s (.s .z (.b (.lx ⟨[(22,.v af)],[],[1,20,21],[1000],1384,[]⟩ 0 ⟨[],[],[],[],1384,[]⟩ (b7 (.s (.b (.s .z (.s (.j ⟨[(41,.v .bool)],[],[1,20,21,22],[1000],1704,[]⟩ .z) .z))) .z))))) .z)))
theorem Ml:aI 95 (Zv n) :=cq aA func95 Zw n
def Zx:bt xx:=⟨[.d cO],[.d (.st SI.cP)],λa=>uK n a.1,none⟩
def Zy:Hn SI:=(b7 (.s (.s .z (.b (.l ⟨[(9,.v af)],[(1128,.l .bool)],[2,3,7,8],[1064],1448,[]⟩ 0 ⟨[],[(1128,.l .bool)],[2,3],[1064],1448,[]⟩ .z))) .z))
theorem Mq:aI 97 (Zx n) :=cq aA func97 Zy n
def Zz:bt xx:=⟨[.d (.st SI.cP)],[.d (.st SI.cP)],λa=>uL n a.1,none⟩
def ZA:Hn SI:=(.s .z (.s (.s .z (.b (.l ⟨[(3,.p 1320)],[(1000,.l .bool),(1320,.l .bool)],[1,2],[1064],1321,[]⟩ 0 ⟨[],[(1000,.l .bool)],[1,2],[1064],1320,[]⟩ (.s .z (.s (.b (b7 (.b (.l ⟨[(12,.v af)],[(1000,.l .bool)],[1,2,3],[1064,1320],1705,[]⟩ 2 ⟨[],[(1000,.l .bool)],[1,2,3],[1064,1320],1705,[]⟩ (b7 (.s (.b (b7 (.b (.l ⟨[(15,.v af)],[(1000,.l .bool)],[1,2,3,4,12],[1064,1320],1961,[]⟩ 4 ⟨[],[(1000,.l .bool)],[1,2,3,12],[1064,1320],1961,[]⟩ (b7 (.s (.b (b7 (.b (.l ⟨[(18,.v af)],[(1000,.l .bool)],[1,2,3,4,5,12,15],[1064,1320],2217,[]⟩ 6 ⟨[],[(1000,.l .bool)],[1,2,3,4,12,15],[1064,1320],2217,[]⟩ (b7 (.s (.j ⟨[],[(1000,.l .bool)],[1,2,3,4,5,12,15,18],[1064,1320],2281,[]⟩ .z) .z)))))) .z)))))) .z)))))) .z))))) .z))
theorem ZB:aI 96 (Zz n) :=cq aA func96 ZA n
def VP:bt xx:=⟨[.d cO],[.d (.st SI.cP),.d .bool],λa=>rD n a.1,none⟩
def VQ:Hn SI:=(cW (.s (.s .z (.b (.lx ⟨[(14,.v af)],[],[1,2,4],[1000,1064,1576],1768,[]⟩ 0 ⟨[],[],[1,2,4],[1000,1064,1576],1768,[]⟩ .z))) (.s (.s .z (.b (.l ⟨[(26,.v af)],[(1576,.l .bool)],[2,4,25],[1064],1960,[]⟩ 2 ⟨[],[(1576,.l .bool)],[2,4],[1064],1960,[]⟩ .z))) .z)))
theorem J5:aI 52 (VP n) :=cq (au (Ml n) (au (Mq n) (au (ZB n) aA))) func52 VQ n
def ZC:bt xx:=⟨[.d (.sl cO)],[.d .bool],λa=>Ae n a.1,none⟩
def ZE:Hn SI:=(.s .z (.s (.s .z (.b (.lx ⟨[(9,.v af)],[],[0,7,8],[],1256,[]⟩ 0 ⟨[],[],[0],[],1256,[]⟩ .z))) .z))
theorem ZF:aI 19 (ZC n) :=cq (au (J5 n) aA) func19 ZE n
def VU:bt xx:=⟨[.d (.sl ax)],[.fresh ax],λa=>Fa a.1,none⟩
theorem VW:aI 102 VU :=cq aA func102 .z 0
def ZG:bt xx:=⟨[.d (.sl af)],[.fresh af],λa=>nC a.1,none⟩
theorem vF:aI 47 ZG :=cq aA func47 .z 0
def ai0:bt xx:=⟨[.d jd],[.d jd],λa=>QM a.1,none⟩
theorem ai1:aI 62 ai0 :=cq (au VW (au vF aA)) func62 .z 0
def alF:bt xx:=⟨[.d (.sl jd),.d af],[.d jd,.d .bool],λa=>MW n a.1 a.2.1,none⟩
def alG:Hn SI:=(.s .z (.s (.s .z (.b (.lx ⟨[(10,.v af)],[],[1,4,8,9],[1000],1320,[]⟩ 0 ⟨[],[],[4],[1000],1320,[]⟩ .z))) .z))
theorem acK:aI 27 (alF n) :=cq (au ai1 aA) func27 alG n
def ad8:bt xx:=⟨[.d (.int .u64)],[.d af],λa=>bits_Len64 a.1,none⟩
def ad9:Hn SI:=(.s .z (.s (.j ⟨[(0,.v (.int .u64)),(2,.v af)],[],[],[],1064,[]⟩ .z) (.s (.j ⟨[(0,.v (.int .u64)),(2,.v af)],[],[],[],1064,[]⟩ .z) (.s (.j ⟨[(0,.v (.int .u64)),(2,.v af)],[],[],[],1064,[]⟩ .z) .z))))
theorem aea:aI 142 ad8 :=cq aA func142 ad9 0
def ai2:bt xx:=⟨[.d (.int .u64)],[.d af],λa=>bits_Len a.1,none⟩
theorem Cn:aI 105 ai2 :=cq (au aea aA) func105 .z 0
def Pp:bt xx:=⟨[.d .str],[.d .bool],λa=>cmp_isNaN_string a.1,none⟩
theorem Pq:aI 185 Pp :=cq aA func185 .z 0
def RN:bt xx:=⟨[.d .str,.d .str],[.d .bool],λa=>cmp_Less_string a.1 a.2.1,none⟩
theorem iI:aI 138 RN :=cq (au Pq aA) func138 .z 0
def vG:bt xx:=⟨[.mut .str,.d af,.d af],[.mu .str],λa=>wQ n a.1 a.2.1 a.2.2.1,none⟩
def vH:Hn SI:=(.s .z (.b (.l ⟨[(6,.v af)],[(0,.l .str)],[0,1,2],[],1192,[]⟩ 0 ⟨[],[(0,.l .str)],[],[],1192,[]⟩ (.s .z (.s (.b (.s .z (.b (.l ⟨[(7,.v af)],[(0,.l .str)],[0,1,2,6],[],1512,[]⟩ 2 ⟨[],[(0,.l .str)],[0,1,2,6],[],1512,[]⟩ (.s (.s (.j ⟨[(30,.v .bool)],[],[0,1,2,6,7],[0],1512,[]⟩ .z) .z) .z))))) .z)))))
theorem vI:aI 132 (vG n) :=cq (au iI aA) func132 vH n
def Au:bt xx:=⟨[.mut .str,.d af,.d af,.d af],[.mu .str],λa=>CV n a.1 a.2.1 a.2.2.1 a.2.2.2.1,none⟩
def Av:Hn SI:=(.s .z (.b (.lx ⟨[(8,.v af)],[(0,.l .str)],[0,2,3],[],1128,[]⟩ 0 ⟨[],[(0,.l .str)],[],[],1128,[]⟩ (.b (b7 (.s (.j ⟨[(9,.v af)],[],[0,2,3,8],[0],1576,[]⟩ (.s (.j ⟨[(36,.v .bool)],[],[0,2,3,8,9],[0],1576,[]⟩ .z) .z)) .z))))))
theorem Aw:aI 180 (Au n) :=cq (au iI aA) func180 Av n
def Ay:bt xx:=⟨[.mut .str,.d af,.d af],[.mu .str],λa=>CW n a.1 a.2.1 a.2.2.1,none⟩
def Az:Hn SI:=(cW (.s (.s .z (.b (.l ⟨[(9,.v af)],[(0,.l .str)],[0,6,7,8],[],1704,[]⟩ 0 ⟨[],[(0,.l .str)],[0,6,7,8],[],1704,[]⟩ .z))) (.s .z (.b (.l ⟨[(10,.v af)],[(0,.l .str)],[0,6,7],[],1896,[]⟩ 2 ⟨[],[(0,.l .str)],[],[],1896,[]⟩ .z)))))
theorem AA:aI 133 (Ay n) :=cq (au (Aw n) aA) func133 Az n
def Nw:bt xx:=⟨[.d af],[.d (.int .u64)],λa=>aY a.1,none⟩
theorem mF:aI 181 Nw :=cq (au Cn aA) func181 .z 0
def Ps:bt xx:=⟨[.d6 (.int .u64)],[.d (.int .u64),.mr (.int .u64)],λa=>bg a.1,none⟩
theorem nP:aI 182 Ps :=cq aA func182 .z 0
def vJ:bt xx:=⟨[.mut .str,.d af,.d af],[.mu .str],λa=>wR n a.1 a.2.1 a.2.2.1,none⟩
def vK:Hn SI:=(b7 (.s (cW (.b (.l ⟨[(9,.v af)],[(0,.l .str),(1512,s5)],[0,1,6,7,8],[],2280,[]⟩ 0 ⟨[],[(0,.l .str)],[],[],2280,[]⟩ (.s .z (.s (.b (.s .z (.s (.j ⟨[(10,.v af)],[],[0,1,6,7,8,9],[0,1512],3176,[]⟩ .z) .z))) .z))))) .z))
theorem vL:aI 134 (vJ n) :=cq (au mF (au nP aA)) func134 vK n
def CY:bt xx:=⟨[.d (.sl .str),.d af,.d af,.d6 af],[.d af,.d af,.mr af],λa=>Gm a.1 a.2.1 a.2.2.1 a.2.2.2.1,none⟩
theorem CZ:aI 201 CY :=cq (au iI aA) func201 .z 0
def C8:bt xx:=⟨[.d (.sl .str),.d af,.d af,.d af,.d6 af],[.d af,.mr af],λa=>Gn a.1 a.2.1 a.2.2.1 a.2.2.2.1 a.2.2.2.2.1,none⟩
theorem qC:aI 184 C8 :=cq (au CZ aA) func184 .z 0
def ul:bt xx:=⟨[.d (.sl .str),.d af,.d6 af],[.d af,.mr af],λa=>vP a.1 a.2.1 a.2.2.1,none⟩
theorem um:aI 183 ul :=cq (au qC aA) func183 .z 0
def wX:bt xx:=⟨[.d (.sl .str),.d af,.d af],[.d af,.d af],λa=>zo a.1 a.2.1 a.2.2.1,none⟩
def wY:Hn SI:=(s7 (.s (.j ⟨[(11,.v af)],[(1384,oc)],[9],[],2600,[]⟩ (.s .z (.s (.s (.j ⟨[(10,.v af),(11,.v af),(12,.v af)],[(1384,oc)],[0,9],[],2728,[]⟩ .z) .z) .z))) .z))
theorem wZ:aI 135 wX :=cq (au um (au qC aA)) func135 wY 0
def vR:bt xx:=⟨[.mut .str,.d af,.d af],[.mu .str],λa=>yE n a.1 a.2.1 a.2.2.1,none⟩
def vS:Hn SI:=(b7 (.b (.l ⟨[(6,.v af),(7,.v af)],[(0,.l .str)],[0],[],1320,[]⟩ 0 ⟨[],[(0,.l .str)],[],[],1320,[]⟩ .z)))
theorem vT:aI 136 (vR n) :=cq aA func136 vS n
def oO:bt xx:=⟨[.mut .str,.d af,.d af],[.d .bool,.mu .str],λa=>p8 n a.1 a.2.1 a.2.2.1,none⟩
def oP:Hn SI:=(b7 (.s (.s .z (.b (.lx ⟨[(7,.v af),(8,.v af)],[(0,.l .str)],[0,1,2],[],1320,[]⟩ 0 ⟨[],[(0,.l .str)],[],[],1320,[]⟩ (.s .z (.s (.jx ⟨[(7,.v af)],[(0,.l .str)],[0,1,2,8],[],1448,[]⟩ (.b (.s (.b (.l ⟨[(7,.v af)],[],[0,1,2,8],[0],1448,[]⟩ 2 ⟨[(7,.v af)],[],[0,1,2,8],[0],1448,[]⟩ (.s (.s (.j ⟨[(32,.v .bool)],[],[0,1,2,7,8],[0],1448,[]⟩ .z) .z) .z))) (cW (.s (.j ⟨[],[(0,.l .str)],[0,1,2,7,8],[],3048,[]⟩ (.s .z (.s (.s .z (.b (.l ⟨[(9,.v af)],[(0,.l .str)],[0,1,2,7,8],[],3496,[]⟩ 4 ⟨[],[(0,.l .str)],[0,1,2,7,8],[],3496,[]⟩ .z))) .z))) (.s .z (.s (.s .z (.b (.l ⟨[(10,.v af)],[(0,.l .str)],[0,1,2,7,8],[],3496,[]⟩ 6 ⟨[],[(0,.l .str)],[0,1,2,7,8],[],3496,[]⟩ .z))) .z))))))) .z))))) .z))
theorem oQ:aI 137 (oO n) :=cq (au iI aA) func137 oP n
def uo:bt xx:=⟨[.mut .str,.d af,.d af,.d af],[.d af,.mu .str],λa=>vQ n a.1 a.2.1 a.2.2.1 a.2.2.2.1,none⟩
def uw:Hn SI:=(cW (.s (.b (.l ⟨[(9,.v af),(10,.v af)],[(0,.l .str)],[0,1],[],2472,[]⟩ 0 ⟨[(9,.v af)],[(0,.l .str)],[],[],2472,[]⟩ (.b (.s (.b (.l ⟨[(9,.v af)],[],[0,1,10],[0],2472,[]⟩ 2 ⟨[(9,.v af)],[],[0,1,10],[0],2472,[]⟩ (.s (.s (.j ⟨[(43,.v .bool)],[],[0,1,9,10],[0],2472,[]⟩ .z) .z) .z))) (.s (.b (.l ⟨[(10,.v af)],[],[0,1,9],[0],2472,[]⟩ 4 ⟨[(10,.v af)],[],[0,1,9],[0],2472,[]⟩ (.s (.s (.j ⟨[(59,.v .bool)],[],[0,1,9,10],[0],2472,[]⟩ .z) .z) .z))) .z))))) .z))
theorem uy:aI 139 (uo n) :=cq (au iI aA) func139 uw n
def zH:bt xx:=⟨[.mut .str,.d af,.d af,.d af],[.d af,.d .bool,.mu .str],λa=>BG n a.1 a.2.1 a.2.2.1 a.2.2.2.1,none⟩
def zI:Hn SI:=(cW (.s (.b (.l ⟨[(10,.v af)],[],[0,1,11],[0],2536,[]⟩ 0 ⟨[(10,.v af)],[],[0,1,11],[0],2536,[]⟩ (.s (.s (.j ⟨[(43,.v .bool)],[],[0,1,10,11],[0],2536,[]⟩ .z) .z) .z))) (.s (.b (.l ⟨[(11,.v af)],[],[0,1,10],[0],2536,[]⟩ 2 ⟨[(11,.v af)],[],[0,1,10],[0],2536,[]⟩ (.s (.s (.j ⟨[(60,.v .bool)],[],[0,1,10,11],[0],2536,[]⟩ .z) .z) .z))) (ii (.s (.b (.l ⟨[(10,.v af),(11,.v af)],[(0,.l .str)],[0,1],[],4136,[]⟩ 4 ⟨[(11,.v af)],[(0,.l .str)],[0,1],[],4136,[]⟩ (.b (.s (.b (.l ⟨[(10,.v af)],[],[0,1,11],[0],4136,[]⟩ 6 ⟨[(10,.v af)],[],[0,1,11],[0],4136,[]⟩ (.s (.s (.j ⟨[(112,.v .bool)],[],[0,1,10,11],[0],4136,[]⟩ .z) .z) .z))) (.s (.b (.l ⟨[(11,.v af)],[],[0,1,10],[0],4136,[]⟩ 8 ⟨[(11,.v af)],[],[0,1,10],[0],4136,[]⟩ (.s (.s (.j ⟨[(129,.v .bool)],[],[0,1,10,11],[0],4136,[]⟩ .z) .z) .z))) .z))))) .z)))))
theorem zJ:aI 140 (zH n) :=cq (au iI aA) func140 zI n
def Co:Hn SI:=(b7 (.b (.lx ⟨[(1,.v af),(2,.v af),(3,.v af),(8,.v .bool),(9,.v .bool)],[(0,.l .str)],[0],[],1128,[]⟩ 999999 ⟨[],[],[],[],1128,[]⟩ (.b (cW (.s (.j ⟨[(3,.v af)],[(0,.l .str)],[0,1,2,8,9,10],[],1640,[]⟩ .z) (.s .z (.s (.j ⟨[(11,.v af),(12,.v af)],[(0,.l .str)],[0,1,2,3,8,9,10],[],2216,[]⟩ .z) (.s (.jx ⟨[],[(0,.l .str)],[0,1,2,3,8,9,10,11],[],2216,[]⟩ (.s (.j ⟨[(68,.v .bool)],[],[0,1,2,3,8,9,10,11],[0],2216,[]⟩ .z) .z)) (.s (.s (.j ⟨[(87,.v .bool)],[],[0,1,2,3,8,9,10,11],[0],2216,[]⟩ .z) .z) .z))))))))))
theorem AB(rc:((List ByteArray))->(Int)->(Int)->(Int)->Option (List ByteArray))(hr:aI 104 (jL rc)):aI 104 (jL (ko n rc)) :=cq (au (vI n) (au (AA n) (au (vL n) (au wZ (au (vT n) (au (oQ n) (au iI (au (uy n) (au (zJ n) (au hr aA)))))))))) func104 Co n
theorem oN(n:Nat):∀m,aI 104 (jL (fM n m))
 | 0=>Ek (mO func104 (by kernel_rfl:Tryz.f104.body=some (Tryz.f104.body.getD .skip)) (by kernel_rfl)) (λ _ _ h=>(by cases h)) rfl
 |m+1=>AB n _ (oN n m)
def Cq:bt xx:=⟨[.mut .str,.d af,.d af,.d af],[.mu .str],λa=>lX n a.1 a.2.1 a.2.2.1 a.2.2.2.1,none⟩
theorem Cr:aI 104 (Cq n):=oN n n
def Uh:bt xx:=⟨[.mut .str],[.mu .str],λa=>uM n a.1,none⟩
theorem Ui:aI 64 (Uh n) :=cq (au Cn (au (Cr n) aA)) func64 .z n
def Ny:bt xx:=⟨[.mut .str],[.whole 0,.mu .str],λa=>oH n a.1,none⟩
def Nz:Hn SI:=(b7 (.s (.s .z (.b (.lx ⟨[(3,.v af)],[],[0],[0],1320,[]⟩ 0 ⟨[],[],[0],[0],1320,[]⟩ (.s .z (.s (.b (.s .z (.s (.s .z (.s (.s .z (.b (.l ⟨[(3,.v af),(5,.v af)],[(0,.l .str)],[0,4],[],2536,[]⟩ 2 ⟨[(3,.v af)],[(0,.l .str)],[0],[],2536,[]⟩ (.s .z (.s (.j ⟨[(3,.v af)],[(0,.l .str)],[0,4,5],[],2792,[]⟩ .z) .z))))) .z)) .z))) .z))))) .z))
theorem NA:aI 29 (Ny n) :=cq aA func29 Nz n
def Kh:cM xx:=⟨[.v (.sl .str)],[],[(.f 65 [] [.p 1000])],[(1000,qS)],λv=>qK v⟩
def Ki:bt xx:=⟨[],[.d .bool],λ_=>none,some (Kh)⟩
theorem Kj:aI 31 Ki :=ml aA func31 .z 0 (by kernel_rfl) λ_=>by kernel_rfl
def aqa:bt xx:=⟨[],[.d .bool],λ_=>none,some (TO .str 65)⟩
theorem aqb:aI 103 aqa:=TX (mO func103 (by kernel_rfl:Tryz.f103.body=some (Tryz.f103.body.getD .skip)) (by kernel_rfl)) (am0 (λ _=>rfl) (λ _=>trivial) (mO func103 (by kernel_rfl:Tryz.f103.body=some (Tryz.f103.body.getD .skip)) (by kernel_rfl)) pe)
def Jw:cM xx:=⟨[(.f 65 [] [.p 0])],[(0,qS)],[.o 1000],[(0,qS),(1000,.l .str)],λv=>o9 v⟩
def Jy:bt xx:=⟨[],[.d .bool],λ_=>none,some (Jw)⟩
theorem Jz:aI 63 Jy :=ml (au aqb aA) func63 .z 0 (by kernel_rfl) λ_=>by kernel_rfl
def Kk:cM xx:=⟨[(.f 65 [] [.p 0])],[(0,qS)],[.o 1000],[(0,qS),(1000,.l .str)],λv=>qL n v⟩
def Kl:bt xx:=⟨[],[.d .bool],λ_=>none,some (Kk n)⟩
theorem Km:aI 30 (Kl n) :=ml (au Jz (au (Ui n) aA)) func30 .z n (by kernel_rfl) λ_=>by kernel_rfl
def Kn:bt xx:=⟨[.ref (.sl .str)],[.d af],λa=>l9 n a.1,none⟩
theorem Ko:aI 28 (Kn n) :=cq (au Kj (au (Km n) (au (NA n) aA))) func28 .z n
def alH:bt xx:=⟨[.d ax],[.d .bool],λa=>uN a.1,none⟩
theorem Bd:aI 145 alH :=cq aA func145 .z 0
def ZH:bt xx:=⟨[.nil,.d af],[.fresh ax],λa=>QN a.1 a.2.1,none⟩
theorem ZI:aI 217 ZH :=cq aA func217 .z 0
def Uj:bt xx:=⟨[.d (.sl (.sl ax))],[.fresh ax],λa=>BH n a.1,none⟩
def Uk:Hn SI:=(b7 (.s (.s .z (.b (.l ⟨[(3,.v af),(11,.v af)],[],[0,9,10],[],1320,[]⟩ 0 ⟨[(3,.v af)],[],[0],[],1320,[]⟩ .z))) (.s .z (.s (.s .z (.b (.l ⟨[(6,.o 1704),(27,.v af)],[(1704,.l ax)],[25,26],[],1705,[]⟩ 2 ⟨[(6,.o 1704)],[(1704,.l ax)],[],[],1705,[]⟩ .z))) .z))))
theorem Ul:aI 203 (Uj n) :=cq (au ZI aA) func203 Uk n
def VX:bt xx:=⟨[.d af],[.d .bool],λa=>cmp_isNaN_int a.1,none⟩
theorem J6:aI 191 VX :=cq aA func191 .z 0
def ZJ:bt xx:=⟨[.d af,.d af],[.d .bool],λa=>cmp_Less_int a.1 a.2.1,none⟩
theorem kG:aI 166 ZJ :=cq (au J6 aA) func166 .z 0
def yX:bt xx:=⟨[.mut af,.d af,.d af],[.mu af],λa=>Af n a.1 a.2.1 a.2.2.1,none⟩
def yY:Hn SI:=(.s .z (.b (.l ⟨[(6,.v af)],[(0,.l af)],[0,1,2],[],1192,[]⟩ 0 ⟨[],[(0,.l af)],[],[],1192,[]⟩ (.s .z (.s (.b (.s .z (.b (.l ⟨[(7,.v af)],[(0,.l af)],[0,1,2,6],[],1512,[]⟩ 2 ⟨[],[(0,.l af)],[0,1,2,6],[],1512,[]⟩ (.s (.s (.j ⟨[(30,.v .bool)],[],[0,1,2,6,7],[0],1512,[]⟩ .z) .z) .z))))) .z)))))
theorem yZ:aI 160 (yX n) :=cq (au kG aA) func160 yY n
def Fs:bt xx:=⟨[.mut af,.d af,.d af,.d af],[.mu af],λa=>IL n a.1 a.2.1 a.2.2.1 a.2.2.2.1,none⟩
def Fu:Hn SI:=(.s .z (.b (.lx ⟨[(8,.v af)],[(0,.l af)],[0,2,3],[],1128,[]⟩ 0 ⟨[],[(0,.l af)],[],[],1128,[]⟩ (.b (b7 (.s (.j ⟨[(9,.v af)],[],[0,2,3,8],[0],1576,[]⟩ (.s (.j ⟨[(36,.v .bool)],[],[0,2,3,8,9],[0],1576,[]⟩ .z) .z)) .z))))))
theorem Fv:aI 195 (Fs n) :=cq (au kG aA) func195 Fu n
def Fw:bt xx:=⟨[.mut af,.d af,.d af],[.mu af],λa=>IQ n a.1 a.2.1 a.2.2.1,none⟩
def Fx:Hn SI:=(cW (.s (.s .z (.b (.l ⟨[(9,.v af)],[(0,.l af)],[0,6,7,8],[],1704,[]⟩ 0 ⟨[],[(0,.l af)],[0,6,7,8],[],1704,[]⟩ .z))) (.s .z (.b (.l ⟨[(10,.v af)],[(0,.l af)],[0,6,7],[],1896,[]⟩ 2 ⟨[],[(0,.l af)],[],[],1896,[]⟩ .z)))))
theorem Fy:aI 161 (Fw n) :=cq (au (Fv n) aA) func161 Fx n
def y5:bt xx:=⟨[.mut af,.d af,.d af],[.mu af],λa=>Ag n a.1 a.2.1 a.2.2.1,none⟩
def y7:Hn SI:=(b7 (.s (cW (.b (.l ⟨[(9,.v af)],[(0,.l af),(1512,s5)],[0,1,6,7,8],[],2280,[]⟩ 0 ⟨[],[(0,.l af)],[],[],2280,[]⟩ (.s .z (.s (.b (.s .z (.s (.j ⟨[(10,.v af)],[],[0,1,6,7,8,9],[0,1512],3176,[]⟩ .z) .z))) .z))))) .z))
theorem y8:aI 162 (y5 n) :=cq (au mF (au nP aA)) func162 y7 n
def JA:bt xx:=⟨[.d (.sl af),.d af,.d af,.d6 af],[.d af,.d af,.mr af],λa=>LF a.1 a.2.1 a.2.2.1 a.2.2.2.1,none⟩
theorem JB:aI 216 JA :=cq (au kG aA) func216 .z 0
def JC:bt xx:=⟨[.d (.sl af),.d af,.d af,.d af,.d6 af],[.d af,.mr af],λa=>LG a.1 a.2.1 a.2.2.1 a.2.2.2.1 a.2.2.2.2.1,none⟩
theorem vM:aI 197 JC :=cq (au JB aA) func197 .z 0
def xg:bt xx:=⟨[.d (.sl af),.d af,.d6 af],[.d af,.mr af],λa=>zq a.1 a.2.1 a.2.2.1,none⟩
theorem xh:aI 196 xg :=cq (au vM aA) func196 .z 0
def AJ:bt xx:=⟨[.d (.sl af),.d af,.d af],[.d af,.d af],λa=>CX a.1 a.2.1 a.2.2.1,none⟩
def AL:Hn SI:=(s7 (.s (.j ⟨[(11,.v af)],[(1384,oc)],[9],[],2600,[]⟩ (.s .z (.s (.s (.j ⟨[(10,.v af),(11,.v af),(12,.v af)],[(1384,oc)],[0,9],[],2728,[]⟩ .z) .z) .z))) .z))
theorem AO:aI 163 AJ :=cq (au xh (au vM aA)) func163 AL 0
def zK:bt xx:=⟨[.mut af,.d af,.d af],[.mu af],λa=>BI n a.1 a.2.1 a.2.2.1,none⟩
def zL:Hn SI:=(b7 (.b (.l ⟨[(6,.v af),(7,.v af)],[(0,.l af)],[0],[],1320,[]⟩ 0 ⟨[],[(0,.l af)],[],[],1320,[]⟩ .z)))
theorem zM:aI 164 (zK n) :=cq aA func164 zL n
def qU:bt xx:=⟨[.mut af,.d af,.d af],[.d .bool,.mu af],λa=>sV n a.1 a.2.1 a.2.2.1,none⟩
def qV:Hn SI:=(b7 (.s (.s .z (.b (.lx ⟨[(7,.v af),(8,.v af)],[(0,.l af)],[0,1,2],[],1320,[]⟩ 0 ⟨[],[(0,.l af)],[],[],1320,[]⟩ (.s .z (.s (.jx ⟨[(7,.v af)],[(0,.l af)],[0,1,2,8],[],1448,[]⟩ (.b (.s (.b (.l ⟨[(7,.v af)],[],[0,1,2,8],[0],1448,[]⟩ 2 ⟨[(7,.v af)],[],[0,1,2,8],[0],1448,[]⟩ (.s (.s (.j ⟨[(32,.v .bool)],[],[0,1,2,7,8],[0],1448,[]⟩ .z) .z) .z))) (cW (.s (.j ⟨[],[(0,.l af)],[0,1,2,7,8],[],3048,[]⟩ (.s .z (.s (.s .z (.b (.l ⟨[(9,.v af)],[(0,.l af)],[0,1,2,7,8],[],3496,[]⟩ 4 ⟨[],[(0,.l af)],[0,1,2,7,8],[],3496,[]⟩ .z))) .z))) (.s .z (.s (.s .z (.b (.l ⟨[(10,.v af)],[(0,.l af)],[0,1,2,7,8],[],3496,[]⟩ 6 ⟨[],[(0,.l af)],[0,1,2,7,8],[],3496,[]⟩ .z))) .z))))))) .z))))) .z))
theorem qW:aI 165 (qU n) :=cq (au kG aA) func165 qV n
def xk:bt xx:=⟨[.mut af,.d af,.d af,.d af],[.d af,.mu af],λa=>zu n a.1 a.2.1 a.2.2.1 a.2.2.2.1,none⟩
def xq:Hn SI:=(cW (.s (.b (.l ⟨[(9,.v af),(10,.v af)],[(0,.l af)],[0,1],[],2472,[]⟩ 0 ⟨[(9,.v af)],[(0,.l af)],[],[],2472,[]⟩ (.b (.s (.b (.l ⟨[(9,.v af)],[],[0,1,10],[0],2472,[]⟩ 2 ⟨[(9,.v af)],[],[0,1,10],[0],2472,[]⟩ (.s (.s (.j ⟨[(43,.v .bool)],[],[0,1,9,10],[0],2472,[]⟩ .z) .z) .z))) (.s (.b (.l ⟨[(10,.v af)],[],[0,1,9],[0],2472,[]⟩ 4 ⟨[(10,.v af)],[],[0,1,9],[0],2472,[]⟩ (.s (.s (.j ⟨[(59,.v .bool)],[],[0,1,9,10],[0],2472,[]⟩ .z) .z) .z))) .z))))) .z))
theorem xu:aI 167 (xk n) :=cq (au kG aA) func167 xq n
def C9:bt xx:=⟨[.mut af,.d af,.d af,.d af],[.d af,.d .bool,.mu af],λa=>Gp n a.1 a.2.1 a.2.2.1 a.2.2.2.1,none⟩
def Da:Hn SI:=(cW (.s (.b (.l ⟨[(10,.v af)],[],[0,1,11],[0],2536,[]⟩ 0 ⟨[(10,.v af)],[],[0,1,11],[0],2536,[]⟩ (.s (.s (.j ⟨[(43,.v .bool)],[],[0,1,10,11],[0],2536,[]⟩ .z) .z) .z))) (.s (.b (.l ⟨[(11,.v af)],[],[0,1,10],[0],2536,[]⟩ 2 ⟨[(11,.v af)],[],[0,1,10],[0],2536,[]⟩ (.s (.s (.j ⟨[(60,.v .bool)],[],[0,1,10,11],[0],2536,[]⟩ .z) .z) .z))) (ii (.s (.b (.l ⟨[(10,.v af),(11,.v af)],[(0,.l af)],[0,1],[],4136,[]⟩ 4 ⟨[(11,.v af)],[(0,.l af)],[0,1],[],4136,[]⟩ (.b (.s (.b (.l ⟨[(10,.v af)],[],[0,1,11],[0],4136,[]⟩ 6 ⟨[(10,.v af)],[],[0,1,11],[0],4136,[]⟩ (.s (.s (.j ⟨[(112,.v .bool)],[],[0,1,10,11],[0],4136,[]⟩ .z) .z) .z))) (.s (.b (.l ⟨[(11,.v af)],[],[0,1,10],[0],4136,[]⟩ 8 ⟨[(11,.v af)],[],[0,1,10],[0],4136,[]⟩ (.s (.s (.j ⟨[(129,.v .bool)],[],[0,1,10,11],[0],4136,[]⟩ .z) .z) .z))) .z))))) .z)))))
theorem Db:aI 168 (C9 n) :=cq (au kG aA) func168 Da n
def G7:Hn SI:=(b7 (.b (.lx ⟨[(1,.v af),(2,.v af),(3,.v af),(8,.v .bool),(9,.v .bool)],[(0,.l af)],[0],[],1128,[]⟩ 999999 ⟨[],[],[],[],1128,[]⟩ (.b (cW (.s (.j ⟨[(3,.v af)],[(0,.l af)],[0,1,2,8,9,10],[],1640,[]⟩ .z) (.s .z (.s (.j ⟨[(11,.v af),(12,.v af)],[(0,.l af)],[0,1,2,3,8,9,10],[],2216,[]⟩ .z) (.s (.jx ⟨[],[(0,.l af)],[0,1,2,3,8,9,10,11],[],2216,[]⟩ (.s (.j ⟨[(68,.v .bool)],[],[0,1,2,3,8,9,10,11],[0],2216,[]⟩ .z) .z)) (.s (.s (.j ⟨[(87,.v .bool)],[],[0,1,2,3,8,9,10,11],[0],2216,[]⟩ .z) .z) .z))))))))))
theorem Fz(rc:((List Int))->(Int)->(Int)->(Int)->Option (List Int))(hr:aI 118 (lY rc)):aI 118 (lY (mI n rc)) :=cq (au (yZ n) (au (Fy n) (au (y8 n) (au AO (au (zM n) (au (qW n) (au kG (au (xu n) (au (Db n) (au hr aA)))))))))) func118 G7 n
theorem rW(n:Nat):∀m,aI 118 (lY (gV n m))
 | 0=>Ek (mO func118 (by kernel_rfl:Tryz.f118.body=some (Tryz.f118.body.getD .skip)) (by kernel_rfl)) (λ _ _ h=>(by cases h)) rfl
 |m+1=>Fz n _ (rW n m)
def G8:bt xx:=⟨[.mut af,.d af,.d af,.d af],[.mu af],λa=>oD n a.1 a.2.1 a.2.2.1 a.2.2.2.1,none⟩
theorem G9:aI 118 (G8 n):=rW n n
def aaP:bt xx:=⟨[.mut af],[.mu af],λa=>tV n a.1,none⟩
theorem FB:aI 68 (aaP n) :=cq (au Cn (au (G9 n) aA)) func68 .z n
def Um:bt xx:=⟨[.mut af],[.whole 0,.mu af],λa=>uO n a.1,none⟩
def Un:Hn SI:=(b7 (.s (.s .z (.b (.lx ⟨[(3,.v af)],[],[0],[0],1320,[]⟩ 0 ⟨[],[],[0],[0],1320,[]⟩ (.s .z (.s (.b (.s .z (.s (.s .z (.s (.s .z (.b (.l ⟨[(3,.v af),(5,.v af)],[(0,.l af)],[0,4],[],2536,[]⟩ 2 ⟨[(3,.v af)],[(0,.l af)],[0],[],2536,[]⟩ (.s .z (.s (.j ⟨[(3,.v af)],[(0,.l af)],[0,4,5],[],2792,[]⟩ .z) .z))))) .z)) .z))) .z))))) .z))
theorem He:aI 69 (Um n) :=cq aA func69 Un n
def xw:bt xx:=⟨[.mut (.st SI.span),.d af,.d af,.c6 [.st SI.span,.st SI.span] af],[.mu (.st SI.span)],λa=>zw n a.1 a.2.1 a.2.2.1 a.2.2.2.1,none⟩
def xA:Hn SI:=(.s .z (.b (.l ⟨[(8,.v af)],[(0,.l (.st SI.span))],[0,1,2,3],[],1192,[]⟩ 0 ⟨[],[(0,.l (.st SI.span))],[],[],1192,[]⟩ (.s .z (.s (.b (.s .z (.b (.l ⟨[(9,.v af)],[(0,.l (.st SI.span))],[0,1,2,3,8],[],1512,[]⟩ 2 ⟨[],[(0,.l (.st SI.span))],[0,1,2,3,8],[],1512,[]⟩ (.s (.s (.j ⟨[(34,.v .bool)],[],[0,1,2,3,8,9],[0],1512,[]⟩ .z) .z) .z))))) .z)))))
theorem xB:aI 225 (xw n) :=cq aA func225 xA n
def Dc:bt xx:=⟨[.mut (.st SI.span),.d af,.d af,.d af,.c6 [.st SI.span,.st SI.span] af],[.mu (.st SI.span)],λa=>Gq n a.1 a.2.1 a.2.2.1 a.2.2.2.1 a.2.2.2.2.1,none⟩
def Df:Hn SI:=(.s .z (.b (.lx ⟨[(10,.v af)],[(0,.l (.st SI.span))],[0,2,3,4],[],1128,[]⟩ 0 ⟨[],[(0,.l (.st SI.span))],[],[],1128,[]⟩ (.b (b7 (.s (.j ⟨[(11,.v af)],[],[0,2,3,4,10],[0],1576,[]⟩ (.s (.j ⟨[(40,.v .bool)],[],[0,2,3,4,10,11],[0],1576,[]⟩ .z) .z)) .z))))))
theorem Dg:aI 233 (Dc n) :=cq aA func233 Df n
def Dh:bt xx:=⟨[.mut (.st SI.span),.d af,.d af,.c6 [.st SI.span,.st SI.span] af],[.mu (.st SI.span)],λa=>Gr n a.1 a.2.1 a.2.2.1 a.2.2.2.1,none⟩
def Di:Hn SI:=(cW (.s (.s .z (.b (.l ⟨[(11,.v af)],[(0,.l (.st SI.span))],[0,3,8,9,10],[],1704,[]⟩ 0 ⟨[],[(0,.l (.st SI.span))],[0,3,8,9,10],[],1704,[]⟩ .z))) (.s .z (.b (.l ⟨[(12,.v af)],[(0,.l (.st SI.span))],[0,3,8,9],[],1896,[]⟩ 2 ⟨[],[(0,.l (.st SI.span))],[],[],1896,[]⟩ .z)))))
theorem Dj:aI 226 (Dh n) :=cq (au (Dg n) aA) func226 Di n
def xC:bt xx:=⟨[.mut (.st SI.span),.d af,.d af,.c6 [.st SI.span,.st SI.span] af],[.mu (.st SI.span)],λa=>zx n a.1 a.2.1 a.2.2.1 a.2.2.2.1,none⟩
def xD:Hn SI:=(b7 (.s (cW (.b (.l ⟨[(11,.v af)],[(0,.l (.st SI.span)),(1512,s5)],[0,1,8,9,10],[],2280,[]⟩ 0 ⟨[],[(0,.l (.st SI.span))],[],[],2280,[]⟩ (.s .z (.s (.b (.s .z (.s (.j ⟨[(12,.v af)],[],[0,1,8,9,10,11],[0,1512],3176,[]⟩ .z) .z))) .z))))) .z))
theorem xE:aI 227 (xC n) :=cq (au mF (au nP aA)) func227 xD n
def Hf:bt xx:=⟨[.d (.sl (.st SI.span)),.d af,.d af,.d6 af,.c6 [.st SI.span,.st SI.span] af],[.d af,.d af,.mr af],λa=>Ka a.1 a.2.1 a.2.2.1 a.2.2.2.1 a.2.2.2.2.1,none⟩
theorem Hg:aI 236 Hf :=cq aA func236 .z 0
def Hl:bt xx:=⟨[.d (.sl (.st SI.span)),.d af,.d af,.d af,.d6 af,.c6 [.st SI.span,.st SI.span] af],[.d af,.mr af],λa=>Kb a.1 a.2.1 a.2.2.1 a.2.2.2.1 a.2.2.2.2.1 a.2.2.2.2.2.1,none⟩
theorem tZ:aI 235 Hl :=cq (au Hg aA) func235 .z 0
def vU:bt xx:=⟨[.d (.sl (.st SI.span)),.d af,.d6 af,.c6 [.st SI.span,.st SI.span] af],[.d af,.mr af],λa=>yF a.1 a.2.1 a.2.2.1 a.2.2.2.1,none⟩
theorem vV:aI 234 vU :=cq (au tZ aA) func234 .z 0
def zN:bt xx:=⟨[.d (.sl (.st SI.span)),.d af,.d af,.c6 [.st SI.span,.st SI.span] af],[.d af,.d af],λa=>BJ a.1 a.2.1 a.2.2.1 a.2.2.2.1,none⟩
def zO:Hn SI:=(s7 (.s (.j ⟨[(13,.v af)],[(1384,oc)],[11],[],2600,[]⟩ (.s .z (.s (.s (.j ⟨[(12,.v af),(13,.v af),(14,.v af)],[(1384,oc)],[0,3,11],[],2728,[]⟩ .z) .z) .z))) .z))
theorem zP:aI 228 zN :=cq (au vV (au tZ aA)) func228 zO 0
def y9:bt xx:=⟨[.mut (.st SI.span),.d af,.d af,.c6 [.st SI.span,.st SI.span] af],[.mu (.st SI.span)],λa=>Ah n a.1 a.2.1 a.2.2.1 a.2.2.2.1,none⟩
def za:Hn SI:=(b7 (.b (.l ⟨[(8,.v af),(9,.v af)],[(0,.l (.st SI.span))],[0],[],1320,[]⟩ 0 ⟨[],[(0,.l (.st SI.span))],[],[],1320,[]⟩ .z)))
theorem zb:aI 229 (y9 n) :=cq aA func229 za n
def qm:bt xx:=⟨[.mut (.st SI.span),.d af,.d af,.c6 [.st SI.span,.st SI.span] af],[.d .bool,.mu (.st SI.span)],λa=>rE n a.1 a.2.1 a.2.2.1 a.2.2.2.1,none⟩
def qo:Hn SI:=(b7 (.s (.s .z (.b (.lx ⟨[(9,.v af),(10,.v af)],[(0,.l (.st SI.span))],[0,1,2,3],[],1320,[]⟩ 0 ⟨[],[(0,.l (.st SI.span))],[],[],1320,[]⟩ (.s .z (.s (.jx ⟨[(9,.v af)],[(0,.l (.st SI.span))],[0,1,2,3,10],[],1448,[]⟩ (.b (.s (.b (.l ⟨[(9,.v af)],[],[0,1,2,3,10],[0],1448,[]⟩ 2 ⟨[(9,.v af)],[],[0,1,2,3,10],[0],1448,[]⟩ (.s (.s (.j ⟨[(36,.v .bool)],[],[0,1,2,3,9,10],[0],1448,[]⟩ .z) .z) .z))) (cW (.s (.j ⟨[],[(0,.l (.st SI.span))],[0,1,2,3,9,10],[],3048,[]⟩ (.s .z (.s (.s .z (.b (.l ⟨[(11,.v af)],[(0,.l (.st SI.span))],[0,1,2,3,9,10],[],3496,[]⟩ 4 ⟨[],[(0,.l (.st SI.span))],[0,1,2,3,9,10],[],3496,[]⟩ .z))) .z))) (.s .z (.s (.s .z (.b (.l ⟨[(12,.v af)],[(0,.l (.st SI.span))],[0,1,2,3,9,10],[],3496,[]⟩ 6 ⟨[],[(0,.l (.st SI.span))],[0,1,2,3,9,10],[],3496,[]⟩ .z))) .z))))))) .z))))) .z))
theorem qp:aI 230 (qm n) :=cq aA func230 qo n
def vW:bt xx:=⟨[.mut (.st SI.span),.d af,.d af,.d af,.c6 [.st SI.span,.st SI.span] af],[.d af,.mu (.st SI.span)],λa=>yG n a.1 a.2.1 a.2.2.1 a.2.2.2.1 a.2.2.2.2.1,none⟩
def vX:Hn SI:=(cW (.s (.b (.l ⟨[(11,.v af),(12,.v af)],[(0,.l (.st SI.span))],[0,1,4],[],2472,[]⟩ 0 ⟨[(11,.v af)],[(0,.l (.st SI.span))],[],[],2472,[]⟩ (.b (.s (.b (.l ⟨[(11,.v af)],[],[0,1,4,12],[0],2472,[]⟩ 2 ⟨[(11,.v af)],[],[0,1,4,12],[0],2472,[]⟩ (.s (.s (.j ⟨[(47,.v .bool)],[],[0,1,4,11,12],[0],2472,[]⟩ .z) .z) .z))) (.s (.b (.l ⟨[(12,.v af)],[],[0,1,4,11],[0],2472,[]⟩ 4 ⟨[(12,.v af)],[],[0,1,4,11],[0],2472,[]⟩ (.s (.s (.j ⟨[(65,.v .bool)],[],[0,1,4,11,12],[0],2472,[]⟩ .z) .z) .z))) .z))))) .z))
theorem vY:aI 231 (vW n) :=cq aA func231 vX n
def Cs:bt xx:=⟨[.mut (.st SI.span),.d af,.d af,.d af,.c6 [.st SI.span,.st SI.span] af],[.d af,.d .bool,.mu (.st SI.span)],λa=>Fb n a.1 a.2.1 a.2.2.1 a.2.2.2.1 a.2.2.2.2.1,none⟩
def Ct:Hn SI:=(cW (.s (.b (.l ⟨[(12,.v af)],[],[0,1,4,13],[0],2536,[]⟩ 0 ⟨[(12,.v af)],[],[0,1,4,13],[0],2536,[]⟩ (.s (.s (.j ⟨[(47,.v .bool)],[],[0,1,4,12,13],[0],2536,[]⟩ .z) .z) .z))) (.s (.b (.l ⟨[(13,.v af)],[],[0,1,4,12],[0],2536,[]⟩ 2 ⟨[(13,.v af)],[],[0,1,4,12],[0],2536,[]⟩ (.s (.s (.j ⟨[(66,.v .bool)],[],[0,1,4,12,13],[0],2536,[]⟩ .z) .z) .z))) (ii (.s (.b (.l ⟨[(12,.v af),(13,.v af)],[(0,.l (.st SI.span))],[0,1,4],[],4136,[]⟩ 4 ⟨[(13,.v af)],[(0,.l (.st SI.span))],[0,1],[],4136,[]⟩ (.b (.s (.b (.l ⟨[(12,.v af)],[],[0,1,4,13],[0],4136,[]⟩ 6 ⟨[(12,.v af)],[],[0,1,4,13],[0],4136,[]⟩ (.s (.s (.j ⟨[(120,.v .bool)],[],[0,1,4,12,13],[0],4136,[]⟩ .z) .z) .z))) (.s (.b (.l ⟨[(13,.v af)],[],[0,1,4,12],[0],4136,[]⟩ 8 ⟨[(13,.v af)],[],[0,1,4,12],[0],4136,[]⟩ (.s (.s (.j ⟨[(139,.v .bool)],[],[0,1,4,12,13],[0],4136,[]⟩ .z) .z) .z))) .z))))) .z)))))
theorem Cu:aI 232 (Cs n) :=cq aA func232 Ct n
def FC:Hn SI:=(b7 (.b (.lx ⟨[(1,.v af),(2,.v af),(3,.v af),(10,.v .bool),(11,.v .bool)],[(0,.l (.st SI.span))],[0,4],[],1128,[]⟩ 999999 ⟨[],[],[],[],1128,[]⟩ (.b (cW (.s (.j ⟨[(3,.v af)],[(0,.l (.st SI.span))],[0,1,2,4,10,11,12],[],1640,[]⟩ .z) (.s .z (.s (.j ⟨[(13,.v af),(14,.v af)],[(0,.l (.st SI.span))],[0,1,2,3,4,10,11,12],[],2280,[]⟩ .z) (.s (.jx ⟨[],[(0,.l (.st SI.span))],[0,1,2,3,4,10,11,12,13],[],2280,[]⟩ (.s (.j ⟨[(75,.v .bool)],[],[0,1,2,3,4,10,11,12,13],[0],2280,[]⟩ .z) .z)) (.s (.s (.j ⟨[(97,.v .bool)],[],[0,1,2,3,4,10,11,12,13],[0],2280,[]⟩ .z) .z) .z))))))))))
theorem Dk(rc:((List aJ))->(Int)->(Int)->(Int)->((aJ×aJ×Unit)->Option Int)->Option (List aJ))(hr:aI 223 (kL rc)):aI 223 (kL (jg n rc)) :=cq (au (xB n) (au (Dj n) (au (xE n) (au zP (au (zb n) (au (qp n) (au (vY n) (au (Cu n) (au hr aA))))))))) func223 FC n
theorem qD(n:Nat):∀m,aI 223 (kL (eT n m))
 | 0=>Ek (mO func223 (by kernel_rfl:Tryz.f223.body=some (Tryz.f223.body.getD .skip)) (by kernel_rfl)) (λ _ _ h=>(by cases h)) rfl
 |m+1=>Dk n _ (qD n m)
def FD:bt xx:=⟨[.mut (.st SI.span),.d af,.d af,.d af,.c6 [.st SI.span,.st SI.span] af],[.mu (.st SI.span)],λa=>nD n a.1 a.2.1 a.2.2.1 a.2.2.2.1 a.2.2.2.2.1,none⟩
theorem FE:aI 223 (FD n):=qD n n
def Pv:bt xx:=⟨[.mut (.st SI.span),.c6 [.st SI.span,.st SI.span] af],[.mu (.st SI.span)],λa=>p9 n a.1 a.2.1,none⟩
theorem Pw:aI 218 (Pv n) :=cq (au Cn (au (FE n) aA)) func218 .z n
def RO:bt xx:=⟨[.d af,.d af],[.d af],λa=>cmp_Compare_int a.1 a.2.1,none⟩
theorem EK:aI 149 RO :=cq (au J6 aA) func149 .z 0
def ZK:bt xx:=⟨[.d (.st SI.span),.d (.st SI.span)],[.d af],λa=>Ai a.1 a.2.1,none⟩
theorem ZL:aI 219 ZK :=cq (au EK aA) func219 .z 0
def agK:bt xx:=⟨[.d (.sl ax),.d af],[.fresh (.st SI.span)],λa=>MX n a.1 a.2.1,none⟩
def agL:Hn SI:=(b7 (.s (.s .z (.b (.l ⟨[(5,.o 1320),(14,.v af)],[(1320,.l (.st SI.span))],[1,12,13],[],1321,[(5,.st SI.span)]⟩ 0 ⟨[(5,.o 1320)],[(1320,.l (.st SI.span))],[],[],1321,[]⟩ (b7 (.s (.j ⟨[(5,.o 1385)],[(1385,.l (.st SI.span))],[1,12,13,14],[],1386,[]⟩ (.b (.s .z (.s (.j ⟨[(27,.v .bool)],[],[1,5,7,12,13,14],[1320,1513],1641,[]⟩ .z) .z)))) .z))))) (b7 (.s (.s .z (.b (.l ⟨[(8,.o 1705),(41,.v af)],[(1705,.l (.st SI.span))],[39,40],[1320],1706,[(8,.st SI.span)]⟩ 2 ⟨[(8,.o 1705)],[(1705,.l (.st SI.span))],[],[],1706,[]⟩ (b7 (.s (.j ⟨[(8,.o 1770)],[(1770,.l (.st SI.span))],[39,40,41],[1320],1771,[]⟩ (.b (b7 (.s (.j ⟨[(59,.v .bool)],[],[8,10,11,39,40,41],[1320,1705,1898],2218,[]⟩ .z) .z)))) .z))))) .z))))
theorem agM:aI 204 (agK n) :=cq (au (Pw n) (au ZL aA)) func204 agL n
def agN:bt xx:=⟨[.d (.sl (.sl ax))],[.fresh (.st SI.strip)],λa=>MZ n a.1,none⟩
def agO:Hn SI:=(cW (.s (.s .z (.b (.l ⟨[(4,.o 1512),(13,.v af)],[(1512,.l af)],[3,11,12],[1128],1513,[(4,af)]⟩ 0 ⟨[(4,.o 1512)],[(1512,.l af)],[3],[1128],1513,[]⟩ .z))) (cW (.s (.s .z (.b (.l ⟨[(7,.o 1961),(8,.v af)],[(1961,.l (.st SI.strip))],[3,4],[1128,1512],1962,[(7,.st SI.strip)]⟩ 2 ⟨[(7,.o 1961)],[(1961,.l (.st SI.strip))],[],[],1962,[]⟩ .z))) .z))))
theorem agP:aI 188 (agN n) :=cq (au (Ul n) (au (FB n) (au (He n) (au (agM n) aA)))) func188 agO n
def VY:bt xx:=⟨[.d (.sl (.st SI.span)),.d (.sl (.st SI.span))],[.d .bool],λa=>xP n a.1 a.2.1,none⟩
def VZ:Hn SI:=(b7 (.s (.s .z (.b (.lx ⟨[(13,.v af)],[],[0,1,12],[],1576,[]⟩ 0 ⟨[],[],[],[],1576,[]⟩ .z))) .z))
theorem V3:aI 202 (VY n) :=cq aA func202 VZ n
def ai3:bt xx:=⟨[.d (.sl (.st SI.strip))],[.fresh ax],λa=>QU n a.1,none⟩
def ai4:Hn SI:=(b7 (.s (.s .z (.b (.l ⟨[(3,.o 1192),(4,.v af)],[(1192,.l ax)],[0],[],1193,[(3,ax)]⟩ 0 ⟨[(3,.o 1192)],[(1192,.l ax)],[],[],1193,[]⟩ (.s .z (.b (.s .z (.s (.b (.l ⟨[(5,.v af)],[],[0,3,4],[1192],1641,[]⟩ 2 ⟨[(5,.v af)],[],[0,3,4],[1192],1641,[]⟩ (.s (.s (.j ⟨[(30,.v .bool)],[],[0,3,4,5],[1192],1641,[]⟩ .z) .z) .z))) (.s (.s .z (.b (.l ⟨[(3,.o 2089),(39,.v af)],[(2089,.l ax)],[0,4,5,37,38],[],2090,[]⟩ 4 ⟨[(3,.o 2089)],[(2089,.l ax)],[0,5],[],2090,[]⟩ .z))) .z)))))))) .z))
theorem ai5:aI 187 (ai3 n) :=cq (au (V3 n) aA) func187 ai4 n
def aeb:bt xx:=⟨[.d (.sl ax)],[.d (.sl ax),.d af],λa=>O3 a.1,none⟩
theorem aec:aI 186 aeb :=cq aA func186 .z 0
def ao3:bt xx:=⟨[.d (.sl ax)],[.d (.sl ax),.d af],λa=>Hm n a.1,none⟩
def ao4:Hn SI:=(.s .z (.s (.s .z (.b (.lx ⟨[(8,.v af)],[],[0,6,7],[],1320,[]⟩ 0 ⟨[],[],[0],[],1320,[]⟩ .z))) .z))
theorem ao5:aI 143 (ao3 n) :=cq (au Bd (au (agP n) (au (ai5 n) (au aec aA)))) func143 ao4 n
def V4:bt xx:=⟨[.d (.sl ax),.d (.sl ax)],[.d .bool],λa=>rF n a.1 a.2.1,none⟩
def V5:Hn SI:=(b7 (.s (.s .z (.b (.lx ⟨[(13,.v af)],[],[0,1,12],[],1576,[]⟩ 0 ⟨[],[],[],[],1576,[]⟩ .z))) .z))
theorem V6:aI 144 (V4 n) :=cq aA func144 V5 n
def ai6:bt xx:=⟨[.d (.sl ax)],[.d .bool],λa=>BK n a.1,none⟩
theorem Px:aI 106 (ai6 n) :=cq (au (ao5 n) (au (V6 n) aA)) func106 .z n
def RP:bt xx:=⟨[.d eH,.d af,.d af],[.fresh aL],λa=>sH n a.1 a.2.1 a.2.2.1,none⟩
def RQ:Hn SI:=(b7 (.s (.s .z (.b (.l ⟨[(7,.o 1448),(13,.v af)],[(1448,.l aL)],[1,2,11,12],[],1449,[(7,aL)]⟩ 0 ⟨[(7,.o 1448)],[(1448,.l aL)],[],[],1449,[]⟩ (b7 (.s (.j ⟨[(7,.o 1513)],[(1513,.l aL)],[1,2,11,12,13],[],1514,[]⟩ (.b (.s .z (.s (.j ⟨[(25,.v .bool)],[],[1,2,7,9,11,12,13],[1448,1705],1897,[]⟩ .z) .z)))) .z))))) .z))
theorem RS:aI 107 (RP n) :=cq aA func107 RQ n
def Kq:bt xx:=⟨[.d aL],[.d .bool],λa=>iL a.1,none⟩
def Kr:Hn SI:=(b7 (.s (.s (.j ⟨[(26,.v .bool)],[],[1],[1000],1384,[]⟩ .z) .z) (.s (.s (.j ⟨[(34,.v .bool)],[],[1],[1000],1384,[]⟩ .z) .z) .z)))
theorem oG:aI 108 Kq :=cq (au Bd aA) func108 Kr 0
def agQ:bt xx:=⟨[.d ax],[.d ax,.d .bool],λa=>A8 a.1,none⟩
theorem Vr:aI 205 agQ :=cq (au Bd aA) func205 .z 0
def anY:bt xx:=⟨[.d ax],[.d af],λa=>IU a.1,none⟩
theorem ZM:aI 189 anY :=cq (au Vr aA) func189 .z 0
def alI:bt xx:=⟨[.d (.sl ax)],[.d af],λa=>WH n a.1,none⟩
def alJ:Hn SI:=(cW (.s (.s .z (.b (.l ⟨[(3,.v af),(11,.v af)],[],[9,10],[],1512,[]⟩ 0 ⟨[(3,.v af)],[],[],[],1512,[]⟩ .z))) .z))
theorem alK:aI 146 (alI n) :=cq (au (Px n) (au ZM aA)) func146 alJ n
def xG:bt xx:=⟨[.mut ax,.d af,.d af,.c6 [ax,ax] af],[.mu ax],λa=>zy n a.1 a.2.1 a.2.2.1 a.2.2.2.1,none⟩
def xH:Hn SI:=(.s .z (.b (.l ⟨[(8,.v af)],[(0,.l ax)],[0,1,2,3],[],1192,[]⟩ 0 ⟨[],[(0,.l ax)],[],[],1192,[]⟩ (.s .z (.s (.b (.s .z (.b (.l ⟨[(9,.v af)],[(0,.l ax)],[0,1,2,3,8],[],1512,[]⟩ 2 ⟨[],[(0,.l ax)],[0,1,2,3,8],[],1512,[]⟩ (.s (.s (.j ⟨[(34,.v .bool)],[],[0,1,2,3,8,9],[0],1512,[]⟩ .z) .z) .z))))) .z)))))
theorem xI:aI 206 (xG n) :=cq aA func206 xH n
def Dl:bt xx:=⟨[.mut ax,.d af,.d af,.d af,.c6 [ax,ax] af],[.mu ax],λa=>Gs n a.1 a.2.1 a.2.2.1 a.2.2.2.1 a.2.2.2.2.1,none⟩
def Dm:Hn SI:=(.s .z (.b (.lx ⟨[(10,.v af)],[(0,.l ax)],[0,2,3,4],[],1128,[]⟩ 0 ⟨[],[(0,.l ax)],[],[],1128,[]⟩ (.b (b7 (.s (.j ⟨[(11,.v af)],[],[0,2,3,4,10],[0],1576,[]⟩ (.s (.j ⟨[(40,.v .bool)],[],[0,2,3,4,10,11],[0],1576,[]⟩ .z) .z)) .z))))))
theorem Dn:aI 220 (Dl n) :=cq aA func220 Dm n
def Dp:bt xx:=⟨[.mut ax,.d af,.d af,.c6 [ax,ax] af],[.mu ax],λa=>Gt n a.1 a.2.1 a.2.2.1 a.2.2.2.1,none⟩
def Dq:Hn SI:=(cW (.s (.s .z (.b (.l ⟨[(11,.v af)],[(0,.l ax)],[0,3,8,9,10],[],1704,[]⟩ 0 ⟨[],[(0,.l ax)],[0,3,8,9,10],[],1704,[]⟩ .z))) (.s .z (.b (.l ⟨[(12,.v af)],[(0,.l ax)],[0,3,8,9],[],1896,[]⟩ 2 ⟨[],[(0,.l ax)],[],[],1896,[]⟩ .z)))))
theorem Dr:aI 207 (Dp n) :=cq (au (Dn n) aA) func207 Dq n
def xJ:bt xx:=⟨[.mut ax,.d af,.d af,.c6 [ax,ax] af],[.mu ax],λa=>zA n a.1 a.2.1 a.2.2.1 a.2.2.2.1,none⟩
def xK:Hn SI:=(b7 (.s (cW (.b (.l ⟨[(11,.v af)],[(0,.l ax),(1512,s5)],[0,1,8,9,10],[],2280,[]⟩ 0 ⟨[],[(0,.l ax)],[],[],2280,[]⟩ (.s .z (.s (.b (.s .z (.s (.j ⟨[(12,.v af)],[],[0,1,8,9,10,11],[0,1512],3176,[]⟩ .z) .z))) .z))))) .z))
theorem xL:aI 208 (xJ n) :=cq (au mF (au nP aA)) func208 xK n
def Ho:bt xx:=⟨[.d (.sl ax),.d af,.d af,.d6 af,.c6 [ax,ax] af],[.d af,.d af,.mr af],λa=>Kc a.1 a.2.1 a.2.2.1 a.2.2.2.1 a.2.2.2.2.1,none⟩
theorem Hq:aI 224 Ho :=cq aA func224 .z 0
def Hr:bt xx:=⟨[.d (.sl ax),.d af,.d af,.d af,.d6 af,.c6 [ax,ax] af],[.d af,.mr af],λa=>Ke a.1 a.2.1 a.2.2.1 a.2.2.2.1 a.2.2.2.2.1 a.2.2.2.2.2.1,none⟩
theorem uf:aI 222 Hr :=cq (au Hq aA) func222 .z 0
def vZ:bt xx:=⟨[.d (.sl ax),.d af,.d6 af,.c6 [ax,ax] af],[.d af,.mr af],λa=>yJ a.1 a.2.1 a.2.2.1 a.2.2.2.1,none⟩
theorem wh:aI 221 vZ :=cq (au uf aA) func221 .z 0
def zQ:bt xx:=⟨[.d (.sl ax),.d af,.d af,.c6 [ax,ax] af],[.d af,.d af],λa=>BL a.1 a.2.1 a.2.2.1 a.2.2.2.1,none⟩
def zR:Hn SI:=(s7 (.s (.j ⟨[(13,.v af)],[(1384,oc)],[11],[],2600,[]⟩ (.s .z (.s (.s (.j ⟨[(12,.v af),(13,.v af),(14,.v af)],[(1384,oc)],[0,3,11],[],2728,[]⟩ .z) .z) .z))) .z))
theorem zT:aI 209 zQ :=cq (au wh (au uf aA)) func209 zR 0
def ze:bt xx:=⟨[.mut ax,.d af,.d af,.c6 [ax,ax] af],[.mu ax],λa=>Aj n a.1 a.2.1 a.2.2.1 a.2.2.2.1,none⟩
def zf:Hn SI:=(b7 (.b (.l ⟨[(8,.v af),(9,.v af)],[(0,.l ax)],[0],[],1320,[]⟩ 0 ⟨[],[(0,.l ax)],[],[],1320,[]⟩ .z)))
theorem zh:aI 210 (ze n) :=cq aA func210 zf n
def qw:bt xx:=⟨[.mut ax,.d af,.d af,.c6 [ax,ax] af],[.d .bool,.mu ax],λa=>rG n a.1 a.2.1 a.2.2.1 a.2.2.2.1,none⟩
def qx:Hn SI:=(b7 (.s (.s .z (.b (.lx ⟨[(9,.v af),(10,.v af)],[(0,.l ax)],[0,1,2,3],[],1320,[]⟩ 0 ⟨[],[(0,.l ax)],[],[],1320,[]⟩ (.s .z (.s (.jx ⟨[(9,.v af)],[(0,.l ax)],[0,1,2,3,10],[],1448,[]⟩ (.b (.s (.b (.l ⟨[(9,.v af)],[],[0,1,2,3,10],[0],1448,[]⟩ 2 ⟨[(9,.v af)],[],[0,1,2,3,10],[0],1448,[]⟩ (.s (.s (.j ⟨[(36,.v .bool)],[],[0,1,2,3,9,10],[0],1448,[]⟩ .z) .z) .z))) (cW (.s (.j ⟨[],[(0,.l ax)],[0,1,2,3,9,10],[],3048,[]⟩ (.s .z (.s (.s .z (.b (.l ⟨[(11,.v af)],[(0,.l ax)],[0,1,2,3,9,10],[],3496,[]⟩ 4 ⟨[],[(0,.l ax)],[0,1,2,3,9,10],[],3496,[]⟩ .z))) .z))) (.s .z (.s (.s .z (.b (.l ⟨[(12,.v af)],[(0,.l ax)],[0,1,2,3,9,10],[],3496,[]⟩ 6 ⟨[],[(0,.l ax)],[0,1,2,3,9,10],[],3496,[]⟩ .z))) .z))))))) .z))))) .z))
theorem qy:aI 211 (qw n) :=cq aA func211 qx n
def wm:bt xx:=⟨[.mut ax,.d af,.d af,.d af,.c6 [ax,ax] af],[.d af,.mu ax],λa=>yK n a.1 a.2.1 a.2.2.1 a.2.2.2.1 a.2.2.2.2.1,none⟩
def wo:Hn SI:=(cW (.s (.b (.l ⟨[(11,.v af),(12,.v af)],[(0,.l ax)],[0,1,4],[],2472,[]⟩ 0 ⟨[(11,.v af)],[(0,.l ax)],[],[],2472,[]⟩ (.b (.s (.b (.l ⟨[(11,.v af)],[],[0,1,4,12],[0],2472,[]⟩ 2 ⟨[(11,.v af)],[],[0,1,4,12],[0],2472,[]⟩ (.s (.s (.j ⟨[(47,.v .bool)],[],[0,1,4,11,12],[0],2472,[]⟩ .z) .z) .z))) (.s (.b (.l ⟨[(12,.v af)],[],[0,1,4,11],[0],2472,[]⟩ 4 ⟨[(12,.v af)],[],[0,1,4,11],[0],2472,[]⟩ (.s (.s (.j ⟨[(65,.v .bool)],[],[0,1,4,11,12],[0],2472,[]⟩ .z) .z) .z))) .z))))) .z))
theorem wu:aI 212 (wm n) :=cq aA func212 wo n
def Cv:bt xx:=⟨[.mut ax,.d af,.d af,.d af,.c6 [ax,ax] af],[.d af,.d .bool,.mu ax],λa=>Fe n a.1 a.2.1 a.2.2.1 a.2.2.2.1 a.2.2.2.2.1,none⟩
def Cw:Hn SI:=(cW (.s (.b (.l ⟨[(12,.v af)],[],[0,1,4,13],[0],2536,[]⟩ 0 ⟨[(12,.v af)],[],[0,1,4,13],[0],2536,[]⟩ (.s (.s (.j ⟨[(47,.v .bool)],[],[0,1,4,12,13],[0],2536,[]⟩ .z) .z) .z))) (.s (.b (.l ⟨[(13,.v af)],[],[0,1,4,12],[0],2536,[]⟩ 2 ⟨[(13,.v af)],[],[0,1,4,12],[0],2536,[]⟩ (.s (.s (.j ⟨[(66,.v .bool)],[],[0,1,4,12,13],[0],2536,[]⟩ .z) .z) .z))) (ii (.s (.b (.l ⟨[(12,.v af),(13,.v af)],[(0,.l ax)],[0,1,4],[],4136,[]⟩ 4 ⟨[(13,.v af)],[(0,.l ax)],[0,1],[],4136,[]⟩ (.b (.s (.b (.l ⟨[(12,.v af)],[],[0,1,4,13],[0],4136,[]⟩ 6 ⟨[(12,.v af)],[],[0,1,4,13],[0],4136,[]⟩ (.s (.s (.j ⟨[(120,.v .bool)],[],[0,1,4,12,13],[0],4136,[]⟩ .z) .z) .z))) (.s (.b (.l ⟨[(13,.v af)],[],[0,1,4,12],[0],4136,[]⟩ 8 ⟨[(13,.v af)],[],[0,1,4,12],[0],4136,[]⟩ (.s (.s (.j ⟨[(139,.v .bool)],[],[0,1,4,12,13],[0],4136,[]⟩ .z) .z) .z))) .z))))) .z)))))
theorem Cx:aI 213 (Cv n) :=cq aA func213 Cw n
def FH:Hn SI:=(b7 (.b (.lx ⟨[(1,.v af),(2,.v af),(3,.v af),(10,.v .bool),(11,.v .bool)],[(0,.l ax)],[0,4],[],1128,[]⟩ 999999 ⟨[],[],[],[],1128,[]⟩ (.b (cW (.s (.j ⟨[(3,.v af)],[(0,.l ax)],[0,1,2,4,10,11,12],[],1640,[]⟩ .z) (.s .z (.s (.j ⟨[(13,.v af),(14,.v af)],[(0,.l ax)],[0,1,2,3,4,10,11,12],[],2280,[]⟩ .z) (.s (.jx ⟨[],[(0,.l ax)],[0,1,2,3,4,10,11,12,13],[],2280,[]⟩ (.s (.j ⟨[(75,.v .bool)],[],[0,1,2,3,4,10,11,12,13],[0],2280,[]⟩ .z) .z)) (.s (.s (.j ⟨[(97,.v .bool)],[],[0,1,2,3,4,10,11,12,13],[0],2280,[]⟩ .z) .z) .z))))))))))
theorem Dt(rc:((List ay))->(Int)->(Int)->(Int)->((ay×ay×Unit)->Option Int)->Option (List ay))(hr:aI 190 (kM rc)):aI 190 (kM (jh n rc)) :=cq (au (xI n) (au (Dr n) (au (xL n) (au zT (au (zh n) (au (qy n) (au (wu n) (au (Cx n) (au hr aA))))))))) func190 FH n
theorem qE(n:Nat):∀m,aI 190 (kM (eU n m))
 | 0=>Ek (mO func190 (by kernel_rfl:Tryz.f190.body=some (Tryz.f190.body.getD .skip)) (by kernel_rfl)) (λ _ _ h=>(by cases h)) rfl
 |m+1=>Dt n _ (qE n m)
def FI:bt xx:=⟨[.mut ax,.d af,.d af,.d af,.c6 [ax,ax] af],[.mu ax],λa=>nG n a.1 a.2.1 a.2.2.1 a.2.2.2.1 a.2.2.2.2.1,none⟩
theorem FJ:aI 190 (FI n):=qE n n
def Py:bt xx:=⟨[.mut ax,.c6 [ax,ax] af],[.mu ax],λa=>qa n a.1 a.2.1,none⟩
theorem Pz:aI 147 (Py n) :=cq (au Cn (au (FJ n) aA)) func147 .z n
def Ht:bt xx:=⟨[.d ax,.d ax],[.d af],λa=>iV a.1 a.2.1,none⟩
theorem Hu:aI 148 Ht :=cq (au EK aA) func148 .z 0
def RU:bt xx:=⟨[.d aL],[.d af],λa=>kS a.1,none⟩
def RX:Hn SI:=(.s .z (.s (.s (.j ⟨[(9,.v .bool)],[],[1],[1000],1128,[]⟩ .z) .z) .z))
theorem EL:aI 153 RU :=cq (au oG aA) func153 RX 0
def V7:bt xx:=⟨[.d aL],[.d af],λa=>oo a.1,none⟩
theorem J7:aI 151 V7 :=cq (au oG (au ZM (au EL aA))) func151 .z 0
def FK:bt xx:=⟨[.d aL],[.d af],λa=>nH a.1,none⟩
theorem FL:aI 154 FK :=cq aA func154 .z 0
def Hw:bt xx:=⟨[.d aL],[.d af],λa=>oF a.1,none⟩
theorem Hy:aI 155 Hw :=cq aA func155 .z 0
def V8:bt xx:=⟨[.d ax,.d af],[.d ax,.d .bool],λa=>Ff a.1 a.2.1,none⟩
theorem V9:aI 192 V8 :=cq (au Bd aA) func192 .z 0
def aaQ:bt xx:=⟨[.d ax,.d ax],[.d ax,.d .bool],λa=>Eg a.1 a.2.1,none⟩
def aaR:Hn SI:=(.s .z (.s (.s (.j ⟨[(13,.v .bool)],[],[2,3,4],[1000,1064,1128],1256,[]⟩ .z) .z) .z))
theorem aaS:aI 193 aaQ :=cq (au Bd (au Vr aA)) func193 aaR 0
def Uo:bt xx:=⟨[.d (.st SI.Entry),.ref (.st SI.j7),.ref af],[.d .bool],λa=>kr a.1 a.2.1 a.2.2.1,none⟩
theorem Uq:aI 215 Uo :=cq aA func215 .z 0
def Mr:bt xx:=⟨[.d (.sl (.st SI.Entry)),.c6 [.st SI.Entry] .bool],[.d af],λa=>sW n a.1 a.2.1,none⟩
def Ms:Hn SI:=(.s .z (.s (.s .z (.b (.lx ⟨[(8,.v af)],[],[0,1,7],[],1256,[]⟩ 0 ⟨[],[],[],[],1256,[]⟩ .z))) .z))
theorem Mt:aI 214 (Mr n) :=cq aA func214 Ms n
def aaT:bt xx:=⟨[.d (.st SI.i9),.d af],[.d af],λa=>Eh n a.1 a.2.1,none⟩
def aaU:Hn SI:=(b7 (.s (.s .z (.b (.lx ⟨[(14,.v af)],[],[3,5,12,13],[1064,1256],1640,[]⟩ 0 ⟨[],[],[],[],1640,[]⟩ (b7 (.s (.b (cW (.s (.j ⟨[(8,.v af)],[],[],[],2344,[]⟩ .z) .z))) .z))))) .z))
theorem aaV:aI 194 (aaT n) :=cq (au (Mt n) (au Uq aA)) func194 aaU n
def RY:bt xx:=⟨[.d (.st SI.i9),.d aL],[.d af],λa=>nS n a.1 a.2.1,none⟩
def RZ:Hn SI:=(b7 (.s (.s (.j ⟨[(20,.v .bool)],[],[5,6],[],1704,[]⟩ .z) .z) .z))
theorem R4:aI 158 (RY n) :=cq (au (aaV n) (au J7 aA)) func158 RZ n
def Kt:cM xx:=⟨[.p 0],[(0,ef),(1,.l aL)],[.v af],[(0,ef),(1,.l aL)],λv=>mg n v.1 v.2.1 v.2.2.1 v.2.2.2.1 v.2.2.2.2.1 v.2.2.2.2.2.1 v.2.2.2.2.2.2.1 v.2.2.2.2.2.2.2.1 v.2.2.2.2.2.2.2.2.1 v.2.2.2.2.2.2.2.2.2⟩
def Ku:bt xx:=⟨[],[.d .bool],λ_=>none,some (Kt n)⟩
theorem Kv:aI 109 (Ku n) :=ml (au (alK n) aA) func109 .z n (by kernel_rfl) λ_=>by kernel_rfl
def Hz:cM xx:=⟨[.p 0],[(0,ef),(1,.l aL)],[.v af],[(0,ef),(1,.l aL)],λv=>iW n v.1 v.2.1 v.2.2.1 v.2.2.2.1 v.2.2.2.2.1 v.2.2.2.2.2.1 v.2.2.2.2.2.2.1 v.2.2.2.2.2.2.2.1 v.2.2.2.2.2.2.2.2.1 v.2.2.2.2.2.2.2.2.2⟩
end
end Go.Proofs
