import Derived.Test.YtdpcmnckfpgejaaGreatS2
namespace Go.Proofs
open Go.Gb Go.RowKit
abbrev ff:OP SI:=.c 10 [[.v (.sl bq),.v (.sl bg),.v (.sl bC),.v (.sl bf),.v (.sl bG),.v (.sl bD),.v (.sl aX),.v af,.v (.sl ax),.o 1]]
abbrev pZ:OP SI:=.c 1 [[.o 1]]
abbrev ra:OP SI:=.c 2 [[.v (.sl bq),(.v (.sl (.sl af)))]]
abbrev td:OP SI:=.c 1 [[.v af]]
abbrev tc:OP SI:=.c 10 [[.v (.sl bq),.v (.sl bg),.v (.sl bC),.v (.sl bf),.v (.sl bG),.v (.sl bD),.v (.sl aX),.v af,.v (.sl ax),.o 2]]
abbrev tD:OP SI:=.c 2 [[.v af,.v af]]
abbrev uC:OP SI:=.c 1 [[.o 1384]]
abbrev ye:OP SI:=.c 1 [[.v (.int .u64)]]
abbrev yd:OP SI:=.c 4 [[.v af,.v af,.v af,.v af]]
abbrev Fc:OP SI:=.c 10 [[.v (.sl bq),.v (.sl bg),.v (.sl bC),.v (.sl bf),.v (.sl bG),.v (.sl bD),.v (.sl aX),.v af,.v (.sl ax),.o 1960]]
abbrev co(a:Hn SI):Hn SI:=.s .z (.s .z a)
abbrev d7(a:Hn SI):Hn SI:=.s .z (.s .z (.s .z a))
abbrev rL(a:Hn SI):Hn SI:=.s .z (.s .z (.s .z (.s .z a)))
abbrev Nx(a:Hn SI):Hn SI:=.s .z (.s .z (.s .z (.s .z (.s .z a))))
abbrev u9(a:Hn SI):Hn SI:=.s .z (.s .z (.s .z (.s .z (.s .z (.s .z a)))))
open Tryz
noncomputable section
variable (n:Nat)
def ajE:b9 xx:=⟨[.d af],[.d (.st SI.Expr)],λa=>V0 a.1,none⟩
theorem ajF:aH 11 ajE :=cq aB func11 .z 0
def UB:b9 xx:=⟨[.d (.sl ax)],[.fresh ax],λa=>Dw a.1,none⟩
theorem UC:aH 84 UB :=cq aB func84 .z 0
def Yy:b9 xx:=⟨[.d (.sl af)],[.fresh af],λa=>GV a.1,none⟩
theorem Yz:aH 85 Yy :=cq aB func85 .z 0
def ahb:b9 xx:=⟨[.d (.st SI.Lot)],[.d (.st SI.Lot)],λa=>Pk a.1,none⟩
theorem ahc:aH 44 ahb :=cq (au UC (au Yz aB)) func44 .z 0
def ajG:b9 xx:=⟨[.d (.sl (.st SI.Lot)),.d af],[.d (.st SI.Lot),.d .bool],λa=>Pm n a.1 a.2.1,none⟩
def ajH:Hn SI:=(.s .z (.s (.s .z (.b (.lx ⟨[(10,.v af)],[],[1,4,8,9],[1000],1320,[]⟩ 0 ⟨[],[],[4],[1000],1320,[]⟩ .z))) .z))
theorem ajI:aH 24 (ajG n) :=cq (au ahc aB) func24 ajH n
def Qh:b9 xx:=⟨[.d fB,.d af,.d af],[.fresh aI],λa=>oD n a.1 a.2.1 a.2.2.1,none⟩
def Qi:Hn SI:=(co (.s (.s .z (.b (.l ⟨[(7,.o 1448),(13,.v af)],[(1448,.l aI)],[1,2,11,12],[],1449,[(7,aI)]⟩ 0 ⟨[(7,.o 1448)],[(1448,.l aI)],[],[],1449,[]⟩ (co (.s (.j ⟨[(7,.o 1513)],[(1513,.l aI)],[1,2,11,12,13],[],1514,[]⟩ (.b (.s .z (.s (.j ⟨[(25,.v .bool)],[],[1,2,7,9,11,12,13],[1448,1705],1897,[]⟩ .z) .z)))) .z))))) .z))
theorem Dc:aH 58 (Qh n) :=cq aB func58 Qi n
def ZY:b9 xx:=⟨[.d fB],[.fresh aI],λa=>xD n a.1,none⟩
theorem M7:aH 46 (ZY n) :=cq (au (Dc n) aB) func46 .z n
def ajJ:b9 xx:=⟨[.d ax],[.d .bool],λa=>pu a.1,none⟩
theorem qx:aH 74 ajJ :=cq aB func74 .z 0
def I9:b9 xx:=⟨[.d aI],[.d .bool],λa=>gm a.1,none⟩
def Ja:Hn SI:=(co (.s (.s (.j ⟨[(26,.v .bool)],[],[1],[1000],1384,[]⟩ .z) .z) (.s (.s (.j ⟨[(34,.v .bool)],[],[1],[1000],1384,[]⟩ .z) .z) .z)))
theorem kT:aH 59 I9 :=cq (au qx aB) func59 Ja 0
def ae8:b9 xx:=⟨[.d ax],[.d ax,.d .bool],λa=>z8 a.1,none⟩
theorem Ub:aH 91 ae8 :=cq (au qx aB) func91 .z 0
def Z0:b9 xx:=⟨[.d ax,.d ax],[.d ax,.d .bool],λa=>tN a.1 a.2.1,none⟩
def Z4:Hn SI:=(.s .z (.s (.s (.j ⟨[(13,.v .bool)],[],[2,3,4],[1000,1064,1128],1256,[]⟩ .z) .z) .z))
theorem DT:aH 124 Z0 :=cq (au qx (au Ub aB)) func124 Z4 0
def YA:b9 xx:=⟨[.d (.st SI.CD),.d (.st SI.CD)],[.d .bool],λa=>zi a.1 a.2.1,none⟩
theorem YB:aH 87 YA :=cq (au DT aB) func87 .z 0
def Qj:b9 xx:=⟨[.d aI,.ref aI],[.d .bool],λa=>rX a.1 a.2.1,none⟩
theorem Qk:aH 86 Qj :=cq (au YB aB) func86 .z 0
def Jb:b9 xx:=⟨[.d (.sl aI),.cV [aI] .bool],[.d af],λa=>qP n a.1 a.2.1,none⟩
def Jc:Hn SI:=(.s .z (.s (.s .z (.b (.lx ⟨[(8,.v af)],[],[0,1,7],[],1256,[]⟩ 0 ⟨[],[],[],[],1256,[]⟩ .z))) .z))
theorem Jd:aH 76 (Jb n) :=cq aB func76 Jc n
def DU:b9 xx:=⟨[.d (.sl aI),.cV [aI] .bool],[.d .bool],λa=>fP n a.1 a.2.1,none⟩
theorem rR:aH 38 (DU n) :=cq (au (Jd n) aB) func38 .z n
def acV:b9 xx:=⟨[.d (.int .u8)],[.d .bool],λa=>GZ a.1,none⟩
theorem Ql:aH 155 acV :=cq aB func155 .z 0
def ahd:b9 xx:=⟨[.d .str,.cV [.int .u8] .bool],[.d af],λa=>Pn n a.1 a.2.1,none⟩
def ahe:Hn SI:=(co (.s (.b (.l ⟨[(5,.v af)],[],[0,1],[],1128,[]⟩ 0 ⟨[(5,.v af)],[],[],[],1128,[]⟩ (.s (.s (.j ⟨[(16,.v .bool)],[],[0,1,5],[],1128,[]⟩ .z) .z) .z))) .z))
theorem ahf:aH 156 (ahd n) :=cq aB func156 ahe n
def ae9:b9 xx:=⟨[.d (.int .u8)],[.d .bool],λa=>Rz a.1,none⟩
theorem afa:aH 158 ae9 :=cq aB func158 .z 0
def Z5:b9 xx:=⟨[.d (.int .u8)],[.d .bool],λa=>CF a.1,none⟩
theorem Z6:aH 157 Z5 :=cq (au Ql (au afa aB)) func157 .z 0
def ahg:b9 xx:=⟨[.d .str],[.d .bool],λa=>Po n a.1,none⟩
def ahh:Hn SI:=(.s .z (.s (.s (.j ⟨[(15,.v .bool)],[],[0],[],1064,[]⟩ .z) .z) .z))
theorem ahi:aH 125 (ahg n) :=cq (au Ql (au (ahf n) (au Z6 aB))) func125 ahh n
def NJ:b9 xx:=⟨[.d .str,.d .str],[.d .bool],λa=>strings_Contains a.1 a.2.1,none⟩
theorem NK:aH 126 NJ:=by
 have hcall:iM Tryz.prog 126:=⟨_,func126,by kernel_rfl,by kernel_rfl⟩;refine xi hcall (λ a r h=>?_) rfl;obtain⟨s,b,⟨⟩⟩:=a;have h':strings_Contains s b=some r:=h;unfold strings_Contains at h';cases hb:Nat.ble s.size 4000000 with
 |false=>rw[hb]at h';cases h'
 |true=>
  rw[hb]at h';have h'':some (Lib.contains s.data.toList b.data.toList)=some r:=h';injection h'' with e;subst e;have hw:=Nat.le_of_ble_eq_true hb;exact acu (g:=0) rfl hcall λm w hm=>aeu s b m w (by omega) hm
def Z7:b9 xx:=⟨[.d .str],[.d .bool],λa=>xE n a.1,none⟩
theorem Z8:aH 88 (Z7 n) :=cq (au (ahi n) (au NK aB)) func88 .z n
def YC:b9 xx:=⟨[.d fB],[.d .bool],λa=>zk n a.1,none⟩
def YD:Hn SI:=(co (.s (.s (.j ⟨[(42,.v .bool)],[],[1,3],[1000,1192],1320,[]⟩ .z) .z) (.s (.s .z (.b (.lx ⟨[(45,.v af)],[],[1,3,43,44],[1000,1192],1512,[]⟩ 0 ⟨[],[],[1],[1000],1512,[]⟩ (co (.s (.b (.s .z (.s (.j ⟨[(59,.v .bool)],[],[1,3,43,44,45],[1000,1192],1960,[]⟩ .z) .z))) .z))))) (.s (.s .z (.b (.lx ⟨[(64,.v af)],[],[62,63],[],1768,[]⟩ 2 ⟨[],[],[],[],1768,[]⟩ (co (.s (.b (co (.s (.s .z (.b (.lx ⟨[(72,.v af)],[(2088,.m .str .bool)],[7,8,62,63,64,70,71],[1960],2472,[]⟩ 4 ⟨[],[],[7,62,63,64],[1960],2472,[]⟩ (co (.s (.b (.s .z (.s (.s (.j ⟨[(95,.v .bool)],[],[7,8,10,62,63,64,70,71,72],[1960,2088,2664],2792,[]⟩ .z) .z) .z))) .z))))) .z))) .z))))) .z))))
theorem YE:aH 45 (YC n) :=cq (au (M7 n) (au kT (au (rR n) (au Qk (au (Z8 n) aB))))) func45 YD n
def YF:b9 xx:=⟨[.nil,.d af],[.fresh ax],λa=>Pp a.1 a.2.1,none⟩
theorem YG:aH 192 YF :=cq aB func192 .z 0
def R6:b9 xx:=⟨[.d (.sl (.sl ax))],[.fresh ax],λa=>Ay n a.1,none⟩
def R7:Hn SI:=(co (.s (.s .z (.b (.l ⟨[(3,.v af),(11,.v af)],[],[0,9,10],[],1320,[]⟩ 0 ⟨[(3,.v af)],[],[0],[],1320,[]⟩ .z))) (.s .z (.s (.s .z (.b (.l ⟨[(6,.o 1704),(27,.v af)],[(1704,.l ax)],[25,26],[],1705,[]⟩ 2 ⟨[(6,.o 1704)],[(1704,.l ax)],[],[],1705,[]⟩ .z))) .z))))
theorem R8:aH 152 (R6 n) :=cq (au YG aB) func152 R7 n
def acW:b9 xx:=⟨[.d (.int .u64)],[.d af],λa=>bits_Len64 a.1,none⟩
def acX:Hn SI:=(.s .z (.s (.j ⟨[(0,.v (.int .u64)),(2,.v af)],[],[],[],1064,[]⟩ .z) (.s (.j ⟨[(0,.v (.int .u64)),(2,.v af)],[],[],[],1064,[]⟩ .z) (.s (.j ⟨[(0,.v (.int .u64)),(2,.v af)],[],[],[],1064,[]⟩ .z) .z))))
theorem acY:aH 181 acW :=cq aB func181 acX 0
def ahj:b9 xx:=⟨[.d (.int .u64)],[.d af],λa=>bits_Len a.1,none⟩
theorem Ib:aH 142 ahj :=cq (au acY aB) func142 .z 0
def UD:b9 xx:=⟨[.d af],[.d .bool],λa=>cmp_isNaN_int a.1,none⟩
theorem IB:aH 143 UD :=cq aB func143 .z 0
def YH:b9 xx:=⟨[.d af,.d af],[.d .bool],λa=>cmp_Less_int a.1 a.2.1,none⟩
theorem kN:aH 188 YH :=cq (au IB aB) func188 .z 0
def xS:b9 xx:=⟨[.mut af,.d af,.d af],[.mu af],λa=>zl n a.1 a.2.1 a.2.2.1,none⟩
def xU:Hn SI:=(.s .z (.b (.l ⟨[(6,.v af)],[(0,.l af)],[0,1,2],[],1192,[]⟩ 0 ⟨[],[(0,.l af)],[],[],1192,[]⟩ (.s .z (.s (.b (.s .z (.b (.l ⟨[(7,.v af)],[(0,.l af)],[0,1,2,6],[],1512,[]⟩ 2 ⟨[],[(0,.l af)],[0,1,2,6],[],1512,[]⟩ (.s (.s (.j ⟨[(30,.v .bool)],[],[0,1,2,6,7],[0],1512,[]⟩ .z) .z) .z))))) .z)))))
theorem xV:aH 182 (xS n) :=cq (au kN aB) func182 xU n
def DW:b9 xx:=⟨[.mut af,.d af,.d af,.d af],[.mu af],λa=>G5 n a.1 a.2.1 a.2.2.1 a.2.2.2.1,none⟩
def DX:Hn SI:=(.s .z (.b (.lx ⟨[(8,.v af)],[(0,.l af)],[0,2,3],[],1128,[]⟩ 0 ⟨[],[(0,.l af)],[],[],1128,[]⟩ (.b (co (.s (.j ⟨[(9,.v af)],[],[0,2,3,8],[0],1576,[]⟩ (.s (.j ⟨[(36,.v .bool)],[],[0,2,3,8,9],[0],1576,[]⟩ .z) .z)) .z))))))
theorem DY:aH 213 (DW n) :=cq (au kN aB) func213 DX n
def DZ:b9 xx:=⟨[.mut af,.d af,.d af],[.mu af],λa=>G6 n a.1 a.2.1 a.2.2.1,none⟩
def D5:Hn SI:=(d7 (.s (.s .z (.b (.l ⟨[(9,.v af)],[(0,.l af)],[0,6,7,8],[],1704,[]⟩ 0 ⟨[],[(0,.l af)],[0,6,7,8],[],1704,[]⟩ .z))) (.s .z (.b (.l ⟨[(10,.v af)],[(0,.l af)],[0,6,7],[],1896,[]⟩ 2 ⟨[],[(0,.l af)],[],[],1896,[]⟩ .z)))))
theorem D6:aH 183 (DZ n) :=cq (au (DY n) aB) func183 D5 n
def Mk:b9 xx:=⟨[.d af],[.d (.int .u64)],λa=>bA a.1,none⟩
theorem qY:aH 209 Mk :=cq (au Ib aB) func209 .z 0
def NN:b9 xx:=⟨[.fm (.int .u64)],[.d (.int .u64),.mr (.int .u64)],λa=>bH a.1,none⟩
theorem sZ:aH 210 NN :=cq aB func210 .z 0
def xW:b9 xx:=⟨[.mut af,.d af,.d af],[.mu af],λa=>zm n a.1 a.2.1 a.2.2.1,none⟩
def xX:Hn SI:=(co (.s (d7 (.b (.l ⟨[(9,.v af)],[(0,.l af),(1512,ye)],[0,1,6,7,8],[],2280,[]⟩ 0 ⟨[],[(0,.l af)],[],[],2280,[]⟩ (.s .z (.s (.b (.s .z (.s (.j ⟨[(10,.v af)],[],[0,1,6,7,8,9],[0,1512],3176,[]⟩ .z) .z))) .z))))) .z))
theorem xY:aH 184 (xW n) :=cq (au qY (au sZ aB)) func184 xX n
def Ic:b9 xx:=⟨[.d (.sl af),.d af,.d af,.fm af],[.d af,.d af,.mr af],λa=>Ku a.1 a.2.1 a.2.2.1 a.2.2.2.1,none⟩
theorem Ie:aH 229 Ic :=cq (au kN aB) func229 .z 0
def Ig:b9 xx:=⟨[.d (.sl af),.d af,.d af,.d af,.fm af],[.d af,.mr af],λa=>Kv a.1 a.2.1 a.2.2.1 a.2.2.2.1 a.2.2.2.2.1,none⟩
theorem uY:aH 215 Ig :=cq (au Ie aB) func215 .z 0
def vV:b9 xx:=⟨[.d (.sl af),.d af,.fm af],[.d af,.mr af],λa=>yC a.1 a.2.1 a.2.2.1,none⟩
theorem vW:aH 214 vV :=cq (au uY aB) func214 .z 0
def zM:b9 xx:=⟨[.d (.sl af),.d af,.d af],[.d af,.d af],λa=>BB a.1 a.2.1 a.2.2.1,none⟩
def zN:Hn SI:=(u9 (.s (.j ⟨[(11,.v af)],[(1384,td)],[9],[],2600,[]⟩ (.s .z (.s (.s (.j ⟨[(10,.v af),(11,.v af),(12,.v af)],[(1384,td)],[0,9],[],2728,[]⟩ .z) .z) .z))) .z))
theorem zO:aH 185 zM :=cq (au vW (au uY aB)) func185 zN 0
def yK:b9 xx:=⟨[.mut af,.d af,.d af],[.mu af],λa=>Az n a.1 a.2.1 a.2.2.1,none⟩
def yL:Hn SI:=(co (.b (.l ⟨[(6,.v af),(7,.v af)],[(0,.l af)],[0],[],1320,[]⟩ 0 ⟨[],[(0,.l af)],[],[],1320,[]⟩ .z)))
theorem yM:aH 186 (yK n) :=cq aB func186 yL n
def qZ:b9 xx:=⟨[.mut af,.d af,.d af],[.d .bool,.mu af],λa=>sO n a.1 a.2.1 a.2.2.1,none⟩
def q8:Hn SI:=(co (.s (.s .z (.b (.lx ⟨[(7,.v af),(8,.v af)],[(0,.l af)],[0,1,2],[],1320,[]⟩ 0 ⟨[],[(0,.l af)],[],[],1320,[]⟩ (.s .z (.s (.jx ⟨[(7,.v af)],[(0,.l af)],[0,1,2,8],[],1448,[]⟩ (.b (.s (.b (.l ⟨[(7,.v af)],[],[0,1,2,8],[0],1448,[]⟩ 2 ⟨[(7,.v af)],[],[0,1,2,8],[0],1448,[]⟩ (.s (.s (.j ⟨[(32,.v .bool)],[],[0,1,2,7,8],[0],1448,[]⟩ .z) .z) .z))) (d7 (.s (.j ⟨[],[(0,.l af)],[0,1,2,7,8],[],3048,[]⟩ (.s .z (.s (.s .z (.b (.l ⟨[(9,.v af)],[(0,.l af)],[0,1,2,7,8],[],3496,[]⟩ 4 ⟨[],[(0,.l af)],[0,1,2,7,8],[],3496,[]⟩ .z))) .z))) (.s .z (.s (.s .z (.b (.l ⟨[(10,.v af)],[(0,.l af)],[0,1,2,7,8],[],3496,[]⟩ 6 ⟨[],[(0,.l af)],[0,1,2,7,8],[],3496,[]⟩ .z))) .z))))))) .z))))) .z))
theorem q9:aH 187 (qZ n) :=cq (au kN aB) func187 q8 n
def vX:b9 xx:=⟨[.mut af,.d af,.d af,.d af],[.d af,.mu af],λa=>yD n a.1 a.2.1 a.2.2.1 a.2.2.2.1,none⟩
def vY:Hn SI:=(d7 (.s (.b (.l ⟨[(9,.v af),(10,.v af)],[(0,.l af)],[0,1],[],2472,[]⟩ 0 ⟨[(9,.v af)],[(0,.l af)],[],[],2472,[]⟩ (.b (.s (.b (.l ⟨[(9,.v af)],[],[0,1,10],[0],2472,[]⟩ 2 ⟨[(9,.v af)],[],[0,1,10],[0],2472,[]⟩ (.s (.s (.j ⟨[(43,.v .bool)],[],[0,1,9,10],[0],2472,[]⟩ .z) .z) .z))) (.s (.b (.l ⟨[(10,.v af)],[],[0,1,9],[0],2472,[]⟩ 4 ⟨[(10,.v af)],[],[0,1,9],[0],2472,[]⟩ (.s (.s (.j ⟨[(59,.v .bool)],[],[0,1,9,10],[0],2472,[]⟩ .z) .z) .z))) .z))))) .z))
theorem vZ:aH 189 (vX n) :=cq (au kN aB) func189 vY n
def BF:b9 xx:=⟨[.mut af,.d af,.d af,.d af],[.d af,.d .bool,.mu af],λa=>Fq n a.1 a.2.1 a.2.2.1 a.2.2.2.1,none⟩
def BG:Hn SI:=(d7 (.s (.b (.l ⟨[(10,.v af)],[],[0,1,11],[0],2536,[]⟩ 0 ⟨[(10,.v af)],[],[0,1,11],[0],2536,[]⟩ (.s (.s (.j ⟨[(43,.v .bool)],[],[0,1,10,11],[0],2536,[]⟩ .z) .z) .z))) (.s (.b (.l ⟨[(11,.v af)],[],[0,1,10],[0],2536,[]⟩ 2 ⟨[(11,.v af)],[],[0,1,10],[0],2536,[]⟩ (.s (.s (.j ⟨[(60,.v .bool)],[],[0,1,10,11],[0],2536,[]⟩ .z) .z) .z))) (rL (.s (.b (.l ⟨[(10,.v af),(11,.v af)],[(0,.l af)],[0,1],[],4136,[]⟩ 4 ⟨[(11,.v af)],[(0,.l af)],[0,1],[],4136,[]⟩ (.b (.s (.b (.l ⟨[(10,.v af)],[],[0,1,11],[0],4136,[]⟩ 6 ⟨[(10,.v af)],[],[0,1,11],[0],4136,[]⟩ (.s (.s (.j ⟨[(112,.v .bool)],[],[0,1,10,11],[0],4136,[]⟩ .z) .z) .z))) (.s (.b (.l ⟨[(11,.v af)],[],[0,1,10],[0],4136,[]⟩ 8 ⟨[(11,.v af)],[],[0,1,10],[0],4136,[]⟩ (.s (.s (.j ⟨[(129,.v .bool)],[],[0,1,10,11],[0],4136,[]⟩ .z) .z) .z))) .z))))) .z)))))
theorem BH:aH 190 (BF n) :=cq (au kN aB) func190 BG n
def FL:Hn SI:=(co (.b (.lx ⟨[(1,.v af),(2,.v af),(3,.v af),(8,.v .bool),(9,.v .bool)],[(0,.l af)],[0],[],1128,[]⟩ 999999 ⟨[],[],[],[],1128,[]⟩ (.b (d7 (.s (.j ⟨[(3,.v af)],[(0,.l af)],[0,1,2,8,9,10],[],1640,[]⟩ .z) (.s .z (.s (.j ⟨[(11,.v af),(12,.v af)],[(0,.l af)],[0,1,2,3,8,9,10],[],2216,[]⟩ .z) (.s (.jx ⟨[],[(0,.l af)],[0,1,2,3,8,9,10,11],[],2216,[]⟩ (.s (.j ⟨[(68,.v .bool)],[],[0,1,2,3,8,9,10,11],[0],2216,[]⟩ .z) .z)) (.s (.s (.j ⟨[(87,.v .bool)],[],[0,1,2,3,8,9,10,11],[0],2216,[]⟩ .z) .z) .z))))))))))
theorem D7(rc:((List Int))->(Int)->(Int)->(Int)->Option (List Int))(hr:aH 144 (mQ rc)):aH 144 (mQ (nG n rc)) :=cq (au (xV n) (au (D6 n) (au (xY n) (au zO (au (yM n) (au (q9 n) (au kN (au (vZ n) (au (BH n) (au hr aB)))))))))) func144 FL n
theorem rT(n:Nat):∀m,aH 144 (mQ (gM n m))
 | 0=>xi (nL func144 (by kernel_rfl:Tryz.f144.body=some (Tryz.f144.body.getD .skip)) (by kernel_rfl)) (λ _ _ h=>(by cases h)) rfl
 |m+1=>D7 n _ (rT n m)
def FM:b9 xx:=⟨[.mut af,.d af,.d af,.d af],[.mu af],λa=>o6 n a.1 a.2.1 a.2.2.1 a.2.2.2.1,none⟩
theorem FN:aH 144 (FM n):=rT n n
def Z9:b9 xx:=⟨[.mut af],[.mu af],λa=>nM n a.1,none⟩
theorem wV:aH 104 (Z9 n) :=cq (au Ib (au (FN n) aB)) func104 .z n
def R9:b9 xx:=⟨[.mut af],[.whole 0,.mu af],λa=>pU n a.1,none⟩
def Sb:Hn SI:=(co (.s (.s .z (.b (.lx ⟨[(3,.v af)],[],[0],[0],1320,[]⟩ 0 ⟨[],[],[0],[0],1320,[]⟩ (.s .z (.s (.b (.s .z (.s (.s .z (.s (.s .z (.b (.l ⟨[(3,.v af),(5,.v af)],[(0,.l af)],[0,4],[],2536,[]⟩ 2 ⟨[(3,.v af)],[(0,.l af)],[0],[],2536,[]⟩ (.s .z (.s (.j ⟨[(3,.v af)],[(0,.l af)],[0,4,5],[],2792,[]⟩ .z) .z))))) .z)) .z))) .z))))) .z))
theorem wh:aH 153 (R9 n) :=cq aB func153 Sb n
def wm:b9 xx:=⟨[.mut (.st SI.span),.d af,.d af,.cV [.st SI.span,.st SI.span] af],[.mu (.st SI.span)],λa=>yE n a.1 a.2.1 a.2.2.1 a.2.2.2.1,none⟩
def wo:Hn SI:=(.s .z (.b (.l ⟨[(8,.v af)],[(0,.l (.st SI.span))],[0,1,2,3],[],1192,[]⟩ 0 ⟨[],[(0,.l (.st SI.span))],[],[],1192,[]⟩ (.s .z (.s (.b (.s .z (.b (.l ⟨[(9,.v af)],[(0,.l (.st SI.span))],[0,1,2,3,8],[],1512,[]⟩ 2 ⟨[],[(0,.l (.st SI.span))],[0,1,2,3,8],[],1512,[]⟩ (.s (.s (.j ⟨[(34,.v .bool)],[],[0,1,2,3,8,9],[0],1512,[]⟩ .z) .z) .z))))) .z)))))
theorem wu:aH 230 (wm n) :=cq aB func230 wo n
def BJ:b9 xx:=⟨[.mut (.st SI.span),.d af,.d af,.d af,.cV [.st SI.span,.st SI.span] af],[.mu (.st SI.span)],λa=>Fs n a.1 a.2.1 a.2.2.1 a.2.2.2.1 a.2.2.2.2.1,none⟩
def BK:Hn SI:=(.s .z (.b (.lx ⟨[(10,.v af)],[(0,.l (.st SI.span))],[0,2,3,4],[],1128,[]⟩ 0 ⟨[],[(0,.l (.st SI.span))],[],[],1128,[]⟩ (.b (co (.s (.j ⟨[(11,.v af)],[],[0,2,3,4,10],[0],1576,[]⟩ (.s (.j ⟨[(40,.v .bool)],[],[0,2,3,4,10,11],[0],1576,[]⟩ .z) .z)) .z))))))
theorem BL:aH 244 (BJ n) :=cq aB func244 BK n
def BM:b9 xx:=⟨[.mut (.st SI.span),.d af,.d af,.cV [.st SI.span,.st SI.span] af],[.mu (.st SI.span)],λa=>Fu n a.1 a.2.1 a.2.2.1 a.2.2.2.1,none⟩
def BN:Hn SI:=(d7 (.s (.s .z (.b (.l ⟨[(11,.v af)],[(0,.l (.st SI.span))],[0,3,8,9,10],[],1704,[]⟩ 0 ⟨[],[(0,.l (.st SI.span))],[0,3,8,9,10],[],1704,[]⟩ .z))) (.s .z (.b (.l ⟨[(12,.v af)],[(0,.l (.st SI.span))],[0,3,8,9],[],1896,[]⟩ 2 ⟨[],[(0,.l (.st SI.span))],[],[],1896,[]⟩ .z)))))
theorem BP:aH 231 (BM n) :=cq (au (BL n) aB) func231 BN n
def wz:b9 xx:=⟨[.mut (.st SI.span),.d af,.d af,.cV [.st SI.span,.st SI.span] af],[.mu (.st SI.span)],λa=>yF n a.1 a.2.1 a.2.2.1 a.2.2.2.1,none⟩
def wB:Hn SI:=(co (.s (d7 (.b (.l ⟨[(11,.v af)],[(0,.l (.st SI.span)),(1512,ye)],[0,1,8,9,10],[],2280,[]⟩ 0 ⟨[],[(0,.l (.st SI.span))],[],[],2280,[]⟩ (.s .z (.s (.b (.s .z (.s (.j ⟨[(12,.v af)],[],[0,1,8,9,10,11],[0,1512],3176,[]⟩ .z) .z))) .z))))) .z))
theorem wC:aH 232 (wz n) :=cq (au qY (au sZ aB)) func232 wB n
def FO:b9 xx:=⟨[.d (.sl (.st SI.span)),.d af,.d af,.fm af,.cV [.st SI.span,.st SI.span] af],[.d af,.d af,.mr af],λa=>IK a.1 a.2.1 a.2.2.1 a.2.2.2.1 a.2.2.2.2.1,none⟩
theorem FP:aH 258 FO :=cq aB func258 .z 0
def FQ:b9 xx:=⟨[.d (.sl (.st SI.span)),.d af,.d af,.d af,.fm af,.cV [.st SI.span,.st SI.span] af],[.d af,.mr af],λa=>IL a.1 a.2.1 a.2.2.1 a.2.2.2.1 a.2.2.2.2.1 a.2.2.2.2.2.1,none⟩
theorem tZ:aH 246 FQ :=cq (au FP aB) func246 .z 0
def vg:b9 xx:=⟨[.d (.sl (.st SI.span)),.d af,.fm af,.cV [.st SI.span,.st SI.span] af],[.d af,.mr af],λa=>xG a.1 a.2.1 a.2.2.1 a.2.2.2.1,none⟩
theorem vk:aH 245 vg :=cq (au tZ aB) func245 .z 0
def yN:b9 xx:=⟨[.d (.sl (.st SI.span)),.d af,.d af,.cV [.st SI.span,.st SI.span] af],[.d af,.d af],λa=>AA a.1 a.2.1 a.2.2.1 a.2.2.2.1,none⟩
def yO:Hn SI:=(u9 (.s (.j ⟨[(13,.v af)],[(1384,td)],[11],[],2600,[]⟩ (.s .z (.s (.s (.j ⟨[(12,.v af),(13,.v af),(14,.v af)],[(1384,td)],[0,3,11],[],2728,[]⟩ .z) .z) .z))) .z))
theorem yP:aH 233 yN :=cq (au vk (au tZ aB)) func233 yO 0
def xZ:b9 xx:=⟨[.mut (.st SI.span),.d af,.d af,.cV [.st SI.span,.st SI.span] af],[.mu (.st SI.span)],λa=>zn n a.1 a.2.1 a.2.2.1 a.2.2.2.1,none⟩
def yc:Hn SI:=(co (.b (.l ⟨[(8,.v af),(9,.v af)],[(0,.l (.st SI.span))],[0],[],1320,[]⟩ 0 ⟨[],[(0,.l (.st SI.span))],[],[],1320,[]⟩ .z)))
theorem yg:aH 234 (xZ n) :=cq aB func234 yc n
def qy:b9 xx:=⟨[.mut (.st SI.span),.d af,.d af,.cV [.st SI.span,.st SI.span] af],[.d .bool,.mu (.st SI.span)],λa=>rE n a.1 a.2.1 a.2.2.1 a.2.2.2.1,none⟩
def qz:Hn SI:=(co (.s (.s .z (.b (.lx ⟨[(9,.v af),(10,.v af)],[(0,.l (.st SI.span))],[0,1,2,3],[],1320,[]⟩ 0 ⟨[],[(0,.l (.st SI.span))],[],[],1320,[]⟩ (.s .z (.s (.jx ⟨[(9,.v af)],[(0,.l (.st SI.span))],[0,1,2,3,10],[],1448,[]⟩ (.b (.s (.b (.l ⟨[(9,.v af)],[],[0,1,2,3,10],[0],1448,[]⟩ 2 ⟨[(9,.v af)],[],[0,1,2,3,10],[0],1448,[]⟩ (.s (.s (.j ⟨[(36,.v .bool)],[],[0,1,2,3,9,10],[0],1448,[]⟩ .z) .z) .z))) (d7 (.s (.j ⟨[],[(0,.l (.st SI.span))],[0,1,2,3,9,10],[],3048,[]⟩ (.s .z (.s (.s .z (.b (.l ⟨[(11,.v af)],[(0,.l (.st SI.span))],[0,1,2,3,9,10],[],3496,[]⟩ 4 ⟨[],[(0,.l (.st SI.span))],[0,1,2,3,9,10],[],3496,[]⟩ .z))) .z))) (.s .z (.s (.s .z (.b (.l ⟨[(12,.v af)],[(0,.l (.st SI.span))],[0,1,2,3,9,10],[],3496,[]⟩ 6 ⟨[],[(0,.l (.st SI.span))],[0,1,2,3,9,10],[],3496,[]⟩ .z))) .z))))))) .z))))) .z))
theorem qC:aH 235 (qy n) :=cq aB func235 qz n
def vo:b9 xx:=⟨[.mut (.st SI.span),.d af,.d af,.d af,.cV [.st SI.span,.st SI.span] af],[.d af,.mu (.st SI.span)],λa=>xH n a.1 a.2.1 a.2.2.1 a.2.2.2.1 a.2.2.2.2.1,none⟩
def vv:Hn SI:=(d7 (.s (.b (.l ⟨[(11,.v af),(12,.v af)],[(0,.l (.st SI.span))],[0,1,4],[],2472,[]⟩ 0 ⟨[(11,.v af)],[(0,.l (.st SI.span))],[],[],2472,[]⟩ (.b (.s (.b (.l ⟨[(11,.v af)],[],[0,1,4,12],[0],2472,[]⟩ 2 ⟨[(11,.v af)],[],[0,1,4,12],[0],2472,[]⟩ (.s (.s (.j ⟨[(47,.v .bool)],[],[0,1,4,11,12],[0],2472,[]⟩ .z) .z) .z))) (.s (.b (.l ⟨[(12,.v af)],[],[0,1,4,11],[0],2472,[]⟩ 4 ⟨[(12,.v af)],[],[0,1,4,11],[0],2472,[]⟩ (.s (.s (.j ⟨[(65,.v .bool)],[],[0,1,4,11,12],[0],2472,[]⟩ .z) .z) .z))) .z))))) .z))
theorem vw:aH 236 (vo n) :=cq aB func236 vv n
def A7:b9 xx:=⟨[.mut (.st SI.span),.d af,.d af,.d af,.cV [.st SI.span,.st SI.span] af],[.d af,.d .bool,.mu (.st SI.span)],λa=>Dx n a.1 a.2.1 a.2.2.1 a.2.2.2.1 a.2.2.2.2.1,none⟩
def A8:Hn SI:=(d7 (.s (.b (.l ⟨[(12,.v af)],[],[0,1,4,13],[0],2536,[]⟩ 0 ⟨[(12,.v af)],[],[0,1,4,13],[0],2536,[]⟩ (.s (.s (.j ⟨[(47,.v .bool)],[],[0,1,4,12,13],[0],2536,[]⟩ .z) .z) .z))) (.s (.b (.l ⟨[(13,.v af)],[],[0,1,4,12],[0],2536,[]⟩ 2 ⟨[(13,.v af)],[],[0,1,4,12],[0],2536,[]⟩ (.s (.s (.j ⟨[(66,.v .bool)],[],[0,1,4,12,13],[0],2536,[]⟩ .z) .z) .z))) (rL (.s (.b (.l ⟨[(12,.v af),(13,.v af)],[(0,.l (.st SI.span))],[0,1,4],[],4136,[]⟩ 4 ⟨[(13,.v af)],[(0,.l (.st SI.span))],[0,1],[],4136,[]⟩ (.b (.s (.b (.l ⟨[(12,.v af)],[],[0,1,4,13],[0],4136,[]⟩ 6 ⟨[(12,.v af)],[],[0,1,4,13],[0],4136,[]⟩ (.s (.s (.j ⟨[(120,.v .bool)],[],[0,1,4,12,13],[0],4136,[]⟩ .z) .z) .z))) (.s (.b (.l ⟨[(13,.v af)],[],[0,1,4,12],[0],4136,[]⟩ 8 ⟨[(13,.v af)],[],[0,1,4,12],[0],4136,[]⟩ (.s (.s (.j ⟨[(139,.v .bool)],[],[0,1,4,12,13],[0],4136,[]⟩ .z) .z) .z))) .z))))) .z)))))
theorem A9:aH 237 (A7 n) :=cq aB func237 A8 n
def D8:Hn SI:=(co (.b (.lx ⟨[(1,.v af),(2,.v af),(3,.v af),(10,.v .bool),(11,.v .bool)],[(0,.l (.st SI.span))],[0,4],[],1128,[]⟩ 999999 ⟨[],[],[],[],1128,[]⟩ (.b (d7 (.s (.j ⟨[(3,.v af)],[(0,.l (.st SI.span))],[0,1,2,4,10,11,12],[],1640,[]⟩ .z) (.s .z (.s (.j ⟨[(13,.v af),(14,.v af)],[(0,.l (.st SI.span))],[0,1,2,3,4,10,11,12],[],2280,[]⟩ .z) (.s (.jx ⟨[],[(0,.l (.st SI.span))],[0,1,2,3,4,10,11,12,13],[],2280,[]⟩ (.s (.j ⟨[(75,.v .bool)],[],[0,1,2,3,4,10,11,12,13],[0],2280,[]⟩ .z) .z)) (.s (.s (.j ⟨[(97,.v .bool)],[],[0,1,2,3,4,10,11,12,13],[0],2280,[]⟩ .z) .z) .z))))))))))
theorem BQ(rc:((List aD))->(Int)->(Int)->(Int)->((aD×aD×Unit)->Option Int)->Option (List aD))(hr:aH 216 (kY rc)):aH 216 (kY (ja n rc)) :=cq (au (wu n) (au (BP n) (au (wC n) (au yP (au (yg n) (au (qC n) (au (vw n) (au (A9 n) (au hr aB))))))))) func216 D8 n
theorem qJ(n:Nat):∀m,aH 216 (kY (eu n m))
 | 0=>xi (nL func216 (by kernel_rfl:Tryz.f216.body=some (Tryz.f216.body.getD .skip)) (by kernel_rfl)) (λ _ _ h=>(by cases h)) rfl
 |m+1=>BQ n _ (qJ n m)
def D9:b9 xx:=⟨[.mut (.st SI.span),.d af,.d af,.d af,.cV [.st SI.span,.st SI.span] af],[.mu (.st SI.span)],λa=>nW n a.1 a.2.1 a.2.2.1 a.2.2.2.1 a.2.2.2.2.1,none⟩
theorem Ea:aH 216 (D9 n):=qJ n n
def NP:b9 xx:=⟨[.mut (.st SI.span),.cV [.st SI.span,.st SI.span] af],[.mu (.st SI.span)],λa=>qg n a.1 a.2.1,none⟩
theorem NQ:aH 193 (NP n) :=cq (au Ib (au (Ea n) aB)) func193 .z n
def Qm:b9 xx:=⟨[.d af,.d af],[.d af],λa=>cmp_Compare_int a.1 a.2.1,none⟩
theorem pF:aH 103 Qm :=cq (au IB aB) func103 .z 0
def YI:b9 xx:=⟨[.d (.st SI.span),.d (.st SI.span)],[.d af],λa=>zo a.1 a.2.1,none⟩
theorem YJ:aH 194 YI :=cq (au pF aB) func194 .z 0
def afb:b9 xx:=⟨[.d (.sl ax),.d af],[.fresh (.st SI.span)],λa=>LG n a.1 a.2.1,none⟩
def afc:Hn SI:=(co (.s (.s .z (.b (.l ⟨[(5,.o 1320),(14,.v af)],[(1320,.l (.st SI.span))],[1,12,13],[],1321,[(5,.st SI.span)]⟩ 0 ⟨[(5,.o 1320)],[(1320,.l (.st SI.span))],[],[],1321,[]⟩ (co (.s (.j ⟨[(5,.o 1385)],[(1385,.l (.st SI.span))],[1,12,13,14],[],1386,[]⟩ (.b (.s .z (.s (.j ⟨[(27,.v .bool)],[],[1,5,7,12,13,14],[1320,1513],1641,[]⟩ .z) .z)))) .z))))) (co (.s (.s .z (.b (.l ⟨[(8,.o 1705),(41,.v af)],[(1705,.l (.st SI.span))],[39,40],[1320],1706,[(8,.st SI.span)]⟩ 2 ⟨[(8,.o 1705)],[(1705,.l (.st SI.span))],[],[],1706,[]⟩ (co (.s (.j ⟨[(8,.o 1770)],[(1770,.l (.st SI.span))],[39,40,41],[1320],1771,[]⟩ (.b (co (.s (.j ⟨[(59,.v .bool)],[],[8,10,11,39,40,41],[1320,1705,1898],2218,[]⟩ .z) .z)))) .z))))) .z))))
theorem afd:aH 154 (afb n) :=cq (au (NQ n) (au YJ aB)) func154 afc n
def afe:b9 xx:=⟨[.d (.sl (.sl ax))],[.fresh (.st SI.strip)],λa=>oO n a.1,none⟩
def aff:Hn SI:=(d7 (.s (.s .z (.b (.l ⟨[(4,.o 1512),(13,.v af)],[(1512,.l af)],[3,11,12],[1128],1513,[(4,af)]⟩ 0 ⟨[(4,.o 1512)],[(1512,.l af)],[3],[1128],1513,[]⟩ .z))) (d7 (.s (.s .z (.b (.l ⟨[(7,.o 1961),(8,.v af)],[(1961,.l (.st SI.strip))],[3,4],[1128,1512],1962,[(7,.st SI.strip)]⟩ 2 ⟨[(7,.o 1961)],[(1961,.l (.st SI.strip))],[],[],1962,[]⟩ .z))) .z))))
theorem Uc:aH 122 (afe n) :=cq (au (R8 n) (au (wV n) (au (wh n) (au (afd n) aB)))) func122 aff n
def UE:b9 xx:=⟨[.d (.sl (.st SI.span)),.d (.sl (.st SI.span))],[.d .bool],λa=>wN n a.1 a.2.1,none⟩
def UF:Hn SI:=(co (.s (.s .z (.b (.lx ⟨[(13,.v af)],[],[0,1,12],[],1576,[]⟩ 0 ⟨[],[],[],[],1576,[]⟩ .z))) .z))
theorem UG:aH 151 (UE n) :=cq aB func151 UF n
def ahk:b9 xx:=⟨[.d (.sl (.st SI.strip))],[.fresh ax],λa=>Kw n a.1,none⟩
def ahl:Hn SI:=(co (.s (.s .z (.b (.l ⟨[(3,.o 1192),(4,.v af)],[(1192,.l ax)],[0],[],1193,[(3,ax)]⟩ 0 ⟨[(3,.o 1192)],[(1192,.l ax)],[],[],1193,[]⟩ (.s .z (.b (.s .z (.s (.b (.l ⟨[(5,.v af)],[],[0,3,4],[1192],1641,[]⟩ 2 ⟨[(5,.v af)],[],[0,3,4],[1192],1641,[]⟩ (.s (.s (.j ⟨[(30,.v .bool)],[],[0,3,4,5],[1192],1641,[]⟩ .z) .z) .z))) (.s (.s .z (.b (.l ⟨[(3,.o 2089),(39,.v af)],[(2089,.l ax)],[0,4,5,37,38],[],2090,[]⟩ 4 ⟨[(3,.o 2089)],[(2089,.l ax)],[0,5],[],2090,[]⟩ .z))) .z)))))))) .z))
theorem YK:aH 121 (ahk n) :=cq (au (UG n) aB) func121 ahl n
def acZ:b9 xx:=⟨[.d (.sl ax)],[.d (.sl ax),.d af],λa=>AB a.1,none⟩
theorem Qn:aH 120 acZ :=cq aB func120 .z 0
def amE:b9 xx:=⟨[.d (.sl ax)],[.d (.sl ax),.d af],λa=>LN n a.1,none⟩
def amF:Hn SI:=(.s .z (.s (.s .z (.b (.lx ⟨[(8,.v af)],[],[0,6,7],[],1320,[]⟩ 0 ⟨[],[],[0],[],1320,[]⟩ .z))) .z))
theorem amG:aH 78 (amE n) :=cq (au qx (au (Uc n) (au (YK n) (au Qn aB)))) func78 amF n
def UH:b9 xx:=⟨[.d (.sl ax),.d (.sl ax)],[.d .bool],λa=>oP n a.1 a.2.1,none⟩
def UI:Hn SI:=(co (.s (.s .z (.b (.lx ⟨[(13,.v af)],[],[0,1,12],[],1576,[]⟩ 0 ⟨[],[],[],[],1576,[]⟩ .z))) .z))
theorem IC:aH 79 (UH n) :=cq aB func79 UI n
def ahm:b9 xx:=⟨[.d (.sl ax)],[.d .bool],λa=>oF n a.1,none⟩
theorem pY:aH 40 (ahm n) :=cq (au (amG n) (au (IC n) aB)) func40 .z n
def vz:b9 xx:=⟨[.d (.sl (.st SI.strip)),.d af,.cV [.st SI.strip,af] af],[.d af,.d .bool],λa=>jg n a.1 a.2.1 a.2.2.1,none⟩
def vB:Hn SI:=(d7 (.s (.b (.l ⟨[(9,.v af),(10,.v af)],[],[0,1,2,8],[],1512,[]⟩ 0 ⟨[(9,.v af)],[],[0,1,2,8],[],1512,[]⟩ .z)) .z))
theorem vC:aH 162 (vz n) :=cq aB func162 vB n
def ahn:b9 xx:=⟨[.d (.st SI.strip),.d af],[.d af],λa=>xK a.1 a.2.1,none⟩
theorem aho:aH 163 ahn :=cq aB func163 .z 0
def amH:b9 xx:=⟨[.d (.sl (.st SI.strip)),.d af],[.d (.sl (.st SI.span))],λa=>XW n a.1 a.2.1,none⟩
def amI:Hn SI:=(co (.s (.s (.j ⟨[(25,.v .bool)],[],[0,5],[],1576,[]⟩ .z) .z) .z))
theorem amJ:aH 128 (amH n) :=cq (au (vC n) (au aho aB)) func128 amI n
def YL:b9 xx:=⟨[.nil,.d af],[.fresh (.st SI.span)],λa=>Py a.1 a.2.1,none⟩
theorem YM:aH 196 YL :=cq aB func196 .z 0
def Sc:b9 xx:=⟨[.d (.sl (.sl (.st SI.span)))],[.fresh (.st SI.span)],λa=>AJ n a.1,none⟩
def Sd:Hn SI:=(co (.s (.s .z (.b (.l ⟨[(3,.v af),(11,.v af)],[],[0,9,10],[],1320,[]⟩ 0 ⟨[(3,.v af)],[],[0],[],1320,[]⟩ .z))) (.s .z (.s (.s .z (.b (.l ⟨[(6,.o 1704),(27,.v af)],[(1704,.l (.st SI.span))],[25,26],[],1705,[]⟩ 2 ⟨[(6,.o 1704)],[(1704,.l (.st SI.span))],[],[],1705,[]⟩ .z))) .z))))
theorem Sg:aH 160 (Sc n) :=cq (au YM aB) func160 Sd n
def wD:b9 xx:=⟨[.d (.sl (.st SI.span)),.d af,.cV [.st SI.span,af] af],[.d af,.d .bool],λa=>jC n a.1 a.2.1 a.2.2.1,none⟩
def wE:Hn SI:=(d7 (.s (.b (.l ⟨[(9,.v af),(10,.v af)],[],[0,1,2,8],[],1512,[]⟩ 0 ⟨[(9,.v af)],[],[0,1,2,8],[],1512,[]⟩ .z)) .z))
theorem wF:aH 197 (wD n) :=cq aB func197 wE n
def YN:b9 xx:=⟨[.d (.st SI.span),.d af],[.d af],λa=>l5 a.1 a.2.1,none⟩
theorem YO:aH 198 YN :=cq aB func198 .z 0
def afg:b9 xx:=⟨[.d (.sl (.st SI.span)),.d af],[.d .bool],λa=>Fv n a.1 a.2.1,none⟩
theorem afh:aH 161 (afg n) :=cq (au (wF n) (au YO aB)) func161 .z n
def ahp:b9 xx:=⟨[.d (.sl (.st SI.span)),.d (.sl (.st SI.span)),.cV [.bool,.bool] .bool],[.fresh (.st SI.span)],λa=>Ky n a.1 a.2.1 a.2.2.1,none⟩
def ahq:Hn SI:=(co (.s (.s .z (.b (.l ⟨[(7,.o 1512),(19,.v af)],[(1512,.l af)],[0,1,2,17,18],[1320],1513,[(7,af)]⟩ 0 ⟨[(7,.o 1512)],[(1512,.l af)],[0,1,2],[],1513,[]⟩ .z))) (d7 (.s (.s .z (.b (.l ⟨[(10,.o 1961),(11,.v af)],[(1961,.l (.st SI.span))],[0,1,2,7],[1512],1962,[(10,.st SI.span)]⟩ 2 ⟨[(10,.o 1961)],[(1961,.l (.st SI.span))],[],[],1962,[]⟩ (.s .z (.s (.j ⟨[(10,.o 2218)],[(2218,.l (.st SI.span))],[0,1,2,7,11],[1512],2219,[]⟩ (.b (d7 (.s (.j ⟨[(68,.v .bool)],[],[0,1,2,7,10,11,12,13],[1512,1961],3370,[]⟩ .z) .z)))) .z))))) .z))))
theorem ahr:aH 127 (ahp n) :=cq (au (Sg n) (au (wV n) (au (wh n) (au (afh n) aB)))) func127 ahq n
def ac0:b9 xx:=⟨[.d (.sl ax),.d (.sl ax),.cV [.bool,.bool] .bool],[.d (.sl ax),.d af],λa=>G7 n a.1 a.2.1 a.2.2.1,none⟩
def ac1:Hn SI:=(.s .z (.s (.s (.j ⟨[(20,.v .bool)],[],[0,1,2],[],1128,[]⟩ .z) .z) (.s (.f [6,7]) (.s .z (.s (.s .z (.b (.l ⟨[(33,.v af)],[(1832,.l (.st SI.strip))],[2,8,9,10,31,32],[],2152,[]⟩ 0 ⟨[],[(1832,.l (.st SI.strip))],[10],[],2152,[]⟩ .z))) .z)))))
theorem ac2:aH 89 (ac0 n) :=cq (au (pY n) (au (Uc n) (au (amJ n) (au (ahr n) (au (YK n) (au Qn aB)))))) func89 ac1 n
def YP:b9 xx:=⟨[.d .bool,.d .bool],[.d .bool],λa=>zq a.1 a.2.1,none⟩
theorem YQ:aH 90 YP :=cq aB func90 .z 0
def afi:b9 xx:=⟨[.d (.sl ax),.d (.sl ax)],[.d (.sl ax),.d af],λa=>LJ n a.1 a.2.1,none⟩
theorem afj:aH 47 (afi n) :=cq (au (ac2 n) (au YQ aB)) func47 .z n
def alF:b9 xx:=⟨[.d ax],[.d af],λa=>AL a.1,none⟩
theorem KY:aH 49 alF :=cq (au Ub aB) func49 .z 0
def ajK:b9 xx:=⟨[.d (.sl ax)],[.d af],λa=>PE n a.1,none⟩
def ajL:Hn SI:=(d7 (.s (.s .z (.b (.l ⟨[(3,.v af),(11,.v af)],[],[9,10],[],1512,[]⟩ 0 ⟨[(3,.v af)],[],[],[],1512,[]⟩ .z))) .z))
theorem abt:aH 48 (ajK n) :=cq (au (pY n) (au KY aB)) func48 ajL n
def NR:b9 xx:=⟨[.d bG,.ref (.st SI.Entry)],[.d .bool],λa=>vT a.1 a.2.1,none⟩
theorem NS:aH 51 NR :=cq aB func51 .z 0
def NT:b9 xx:=⟨[.d (.sl bG),.cV [bG] .bool],[.d af],λa=>vU n a.1 a.2.1,none⟩
def NU:Hn SI:=(.s .z (.s (.s .z (.b (.lx ⟨[(8,.v af)],[],[0,1,7],[],1256,[]⟩ 0 ⟨[],[],[],[],1256,[]⟩ .z))) .z))
theorem NV:aH 92 (NT n) :=cq aB func92 NU n
def Je:b9 xx:=⟨[.d (.sl bG),.cV [bG] .bool],[.d .bool],λa=>ni n a.1 a.2.1,none⟩
theorem Jf:aH 50 (Je n) :=cq (au (NV n) aB) func50 .z n
def UJ:b9 xx:=⟨[.d (.st SI.lf),.d (.st SI.Lot),.d fB],[.d .bool],λa=>oQ n a.1 a.2.1 a.2.2.1,none⟩
def UK:Hn SI:=(.s .z (.s (.s (.j ⟨[(30,.v .bool)],[],[3,4,5],[1000,1064,1128],1256,[]⟩ .z) .z) (.s (.s .z (.b (.lx ⟨[(34,.v af)],[],[3,4,5,32,33],[1000,1064,1128,1320],1512,[]⟩ 0 ⟨[],[],[3,5],[1000,1128],1512,[]⟩ (co (.s (.b (co (.s (.j ⟨[(58,.v .bool)],[],[3,4,5,32,33,34],[1000,1064,1128,1320],2600,[]⟩ .z) .z))) .z))))) (.s (.s .z (.b (.lx ⟨[(63,.v af)],[],[3,61,62],[1000],1768,[]⟩ 2 ⟨[],[],[],[],1768,[]⟩ (co (.s (.b (co (.b (.lx ⟨[(70,.v af)],[],[3,61,62,63,68,69],[1000],2344,[]⟩ 4 ⟨[],[],[3,61,62,63],[1000],2344,[]⟩ .z)))) .z))))) .z))))
theorem UL:aH 25 (UJ n) :=cq (au (YE n) (au (pY n) (au (M7 n) (au (afj n) (au (abt n) (au KY (au (Jf n) (au NS aB)))))))) func25 UK n
def Si:b9 xx:=⟨[.d fB],[.fresh aI],λa=>uJ n a.1,none⟩
def Sj:Hn SI:=(co (.s (.s .z (.b (.l ⟨[(3,.o 1448),(9,.v af)],[(1448,.l aI)],[7,8],[],1449,[(3,aI)]⟩ 0 ⟨[(3,.o 1448)],[(1448,.l aI)],[],[],1449,[]⟩ .z))) .z))
theorem Sk:aH 26 (Si n) :=cq aB func26 Sj n
def Sl:b9 xx:=⟨[.d (.sl (.st SI.iv))],[.fresh (.st SI.side)],λa=>pV n a.1,none⟩
def Sm:Hn SI:=(co (.s (.s .z (.b (.l ⟨[(10,.v af)],[(1192,.l (.st SI.side))],[0,3,9],[],1512,[]⟩ 0 ⟨[],[(1192,.l (.st SI.side))],[3],[],1512,[]⟩ .z))) .z))
theorem FR:aH 165 (Sl n) :=cq aB func165 Sm n
def Sn:b9 xx:=⟨[.d (.st SI.iv)],[.d .bool],λa=>uK a.1,none⟩
theorem Sq:aH 199 Sn :=cq aB func199 .z 0
def Ih:b9 xx:=⟨[.d (.st SI.side)],[.d .bool],λa=>gP a.1,none⟩
theorem uZ:aH 166 Ih :=cq aB func166 .z 0
def ac3:b9 xx:=⟨[.d (.sl af)],[.d af],λa=>sP n a.1,none⟩
def ac4:Hn SI:=(co (.s (.s .z (.b (.lx ⟨[(8,.v af)],[],[3,6,7],[],1320,[]⟩ 0 ⟨[],[],[3],[],1320,[]⟩ .z))) .z))
theorem Qo:aH 129 (ac3 n) :=cq aB func129 ac4 n
def Qp:b9 xx:=⟨[.d (.st SI.iv),.d (.st SI.iv)],[.d af],λa=>rY n a.1 a.2.1,none⟩
theorem Qq:aH 200 (Qp n) :=cq (au pF (au (Qo n) aB)) func200 .z n
def Ii:b9 xx:=⟨[.d (.st SI.side),.d (.st SI.side)],[.d .bool],λa=>l6 a.1 a.2.1,none⟩
theorem Ij:aH 201 Ii :=cq aB func201 .z 0
def UM:b9 xx:=⟨[.d (.sl (.st SI.iv))],[.d .bool],λa=>wP n a.1,none⟩
def UN:Hn SI:=(.s .z (.s (.s (.j ⟨[(16,.v .bool)],[],[0],[],1064,[]⟩ .z) .z) (.s .z (.s (.s .z (.b (.lx ⟨[(21,.v af)],[],[0,3,19,20],[1128],1448,[]⟩ 0 ⟨[],[],[3],[1128],1448,[]⟩ (co (.s (.b (co (.s (.s (.j ⟨[(61,.v .bool)],[],[0,3,4,19,20,21],[1128],2536,[]⟩ .z) .z) (.s (.j ⟨[(74,.v .bool)],[],[0,3,19,20,21],[1128],2536,[]⟩ .z) .z)))) .z))))) (.s (.s .z (.b (.lx ⟨[(78,.v af)],[],[3,77],[1128],1640,[]⟩ 2 ⟨[],[],[3],[1128],1640,[]⟩ (co (.s (.b (co (.b (.lx ⟨[(8,.v af)],[],[3,7,77,78],[1128],2024,[]⟩ 4 ⟨[],[],[3,77,78],[1128],2024,[]⟩ (.s .z (.s (.b (.s (.j ⟨[(106,.v .bool)],[],[3,7,8,77,78],[1128],2280,[]⟩ .z) .z)) .z)))))) .z))))) .z)))))
theorem UO:aH 164 (UM n) :=cq (au (FR n) (au Sq (au uZ (au (Qq n) (au Ij aB))))) func164 UN n
def Sr:b9 xx:=⟨[.d (.sl (.st SI.iv))],[.fresh ax,.d af],λa=>uL n a.1,none⟩
def Sv:Hn SI:=(d7 (.s (.s .z (.b (.l ⟨[(4,.o 1576),(19,.v af)],[(1576,.l af)],[0,17,18],[],1577,[(4,af)]⟩ 0 ⟨[(4,.o 1576)],[(1576,.l af)],[0],[],1577,[]⟩ .z))) (rL (.s (.s .z (.b (.l ⟨[(8,.o 2409),(38,.v af)],[(2409,.l ax)],[4,7,37],[1576,1961],2410,[(8,ax)]⟩ 2 ⟨[(8,.o 2409)],[(2409,.l ax)],[],[],2410,[]⟩ (co (.s (.b (co (.s (.s .z (.b (.l ⟨[(10,.o 2858),(43,.v af)],[(2858,.l af)],[4,7,8,9,37,38,41,42],[1576,1961,2409],2859,[(10,af)]⟩ 4 ⟨[(10,.o 2858)],[(2858,.l af)],[4,7,8,9,37,38],[1576,1961,2409],2859,[]⟩ (co (.s (.j ⟨[(10,.o 2923)],[(2923,.l af)],[4,7,8,9,37,38,41,42,43],[1576,1961,2409],2924,[]⟩ (.b (.s .z (.s (.j ⟨[(77,.v .bool)],[],[4,7,8,9,10,12,37,38,41,42,43],[1576,1961,2409,2858,3051],3179,[]⟩ .z) .z)))) .z))))) (co (.b (.l ⟨[(8,.o 3051),(13,.v af)],[(3051,.l ax)],[4,7,9,10,37,38],[1576,1961,2858],3052,[]⟩ 6 ⟨[(8,.o 3051)],[(3051,.l ax)],[4,7,37,38],[1576,1961],3052,[]⟩ .z)))))) .z))))) .z))))
theorem Sw:aH 130 (Sr n) :=cq (au (UO n) (au (wV n) (au (wh n) (au (FR n) (au uZ aB))))) func130 Sv n
def YR:b9 xx:=⟨[.d bC],[.fresh ax],λa=>zu n a.1,none⟩
theorem YS:aH 94 (YR n) :=cq (au (Sw n) aB) func94 .z n
def UQ:b9 xx:=⟨[.d (.sl ax),.d (.sl ax)],[.d af,.d (.st SI.iv)],λa=>wQ n a.1 a.2.1,none⟩
def UR:Hn SI:=(co (.s (.s .z (.b (.l ⟨[(6,.v af),(18,.v af)],[(1192,tD)],[1,5,7,16,17],[1064],1576,[]⟩ 0 ⟨[(6,.v af)],[(1192,tD)],[5,7],[1064],1576,[]⟩ (co (.s (.b (co (.b (.l ⟨[(6,.v af),(24,.v af)],[(1192,tD)],[1,5,7,9,16,17,18,22,23],[1064,1768],2088,[]⟩ 2 ⟨[(6,.v af)],[(1192,tD)],[1,5,7,16,17,18],[1064],2088,[]⟩ (co (.s (.j ⟨[(6,.v af)],[(1192,tD)],[1,5,7,9,16,17,18,22,23,24],[1064,1768],2152,[]⟩ .z) .z)))))) .z))))) .z))
theorem UU:aH 93 (UQ n) :=cq (au DT (au KY (au pF (au (Qo n) aB)))) func93 UR n
def UW:b9 xx:=⟨[.d (.st SI.lf),.d (.sl ax)],[.fresh af],λa=>wR n a.1 a.2.1,none⟩
def UX:Hn SI:=(d7 (.s (.s .z (.b (.l ⟨[(5,.o 1640),(16,.v af)],[(1640,.l af)],[1,14,15],[],1641,[(5,af)]⟩ 0 ⟨[(5,.o 1640)],[(1640,.l af)],[],[],1641,[]⟩ .z))) .z))
theorem UY:aH 52 (UW n) :=cq (au (pY n) (au (YS n) (au (UU n) aB))) func52 UX n
def afk:b9 xx:=⟨[.d (.st SI.lf),.d (.sl ax)],[.fresh .str],λa=>Fw n a.1 a.2.1,none⟩
def afl:Hn SI:=(d7 (.s (.s .z (.b (.l ⟨[(6,.v af),(17,.v af)],[],[2,5,15,16],[1000,1256],1640,[]⟩ 0 ⟨[(6,.v af)],[],[2,5],[1000,1256],1640,[]⟩ (co (.s (.j ⟨[(6,.v af)],[],[2,5,15,16,17],[1000,1256],1704,[]⟩ (.b (.s .z (.s (.j ⟨[(44,.v .bool)],[],[2,5,6,7,15,16,17],[1000,1256],2024,[]⟩ .z) .z)))) .z))))) (.s .z (.s (.s .z (.b (.l ⟨[(9,.o 1896),(49,.v af)],[(1896,.l .str)],[2,6,47,48],[1000,1256],1897,[(9,.str)]⟩ 2 ⟨[(9,.o 1896)],[(1896,.l .str)],[],[],1897,[]⟩ (co (.s (.j ⟨[(9,.o 1961)],[(1961,.l .str)],[2,6,47,48,49],[1000,1256],1962,[]⟩ (.b (.s .z (.s (.j ⟨[(68,.v .bool)],[],[2,6,9,10,47,48,49],[1000,1256,1896],2281,[]⟩ .z) .z)))) .z))))) .z))))
theorem afm:aH 27 (afk n) :=cq (au (UY n) aB) func27 afl n
def aac:b9 xx:=⟨[.d (.st SI.ju),.d fB],[.d (.st SI.j9),.d af],λa=>xN n a.1 a.2.1,none⟩
theorem M8:aH 13 (aac n) :=cq (au (ajI n) (au (UL n) (au (Sk n) (au (afm n) aB)))) func13 .z n
def Qr:b9 xx:=⟨[.d (.sl .str),.d .str],[.d af],λa=>rZ n a.1 a.2.1,none⟩
def Qs:Hn SI:=(.s .z (.s (.s .z (.b (.lx ⟨[(8,.v af)],[],[0,1,7],[],1256,[]⟩ 0 ⟨[],[],[],[],1256,[]⟩ .z))) .z))
theorem Qt:aH 28 (Qr n) :=cq aB func28 Qs n
def KZ:b9 xx:=⟨[.d (.sl .str),.d .str],[.d .bool],λa=>fK n a.1 a.2.1,none⟩
theorem p8:aH 15 (KZ n) :=cq (au (Qt n) aB) func15 .z n
def NW:b9 xx:=⟨[.d .str,.ref (.sl .str)],[.d .bool],λa=>ko n a.1 a.2.1,none⟩
theorem NY:aH 53 (NW n) :=cq (au (p8 n) aB) func53 .z n
def Jg:b9 xx:=⟨[.d (.sl .str),.cV [.str] .bool],[.d af],λa=>qQ n a.1 a.2.1,none⟩
def Jh:Hn SI:=(.s .z (.s (.s .z (.b (.lx ⟨[(8,.v af)],[],[0,1,7],[],1256,[]⟩ 0 ⟨[],[],[],[],1256,[]⟩ .z))) .z))
theorem Ji:aH 95 (Jg n) :=cq aB func95 Jh n
def Eb:b9 xx:=⟨[.d (.sl .str),.cV [.str] .bool],[.d .bool],λa=>fQ n a.1 a.2.1,none⟩
theorem Ec:aH 54 (Eb n) :=cq (au (Ji n) aB) func54 .z n
def UZ:b9 xx:=⟨[.d bf,.d (.sl .str)],[.d .bool],λa=>rG n a.1 a.2.1,none⟩
theorem U0:aH 29 (UZ n) :=cq (au (Ec n) (au (NY n) aB)) func29 .z n
def YT:b9 xx:=⟨[.d (.st SI.lf),.d (.sl .str),.d af],[.fresh af],λa=>uM n a.1 a.2.1 a.2.2.1,none⟩
def YU:Hn SI:=(co (.s (.s .z (.b (.l ⟨[(7,.o 1448),(13,.v af)],[(1448,.l af)],[1,2,11,12],[],1449,[(7,af)]⟩ 0 ⟨[(7,.o 1448)],[(1448,.l af)],[],[],1449,[]⟩ (co (.s (.j ⟨[(7,.o 1513)],[(1513,.l af)],[1,2,11,12,13],[],1514,[]⟩ (.b (.s .z (.s (.j ⟨[(37,.v .bool)],[],[1,2,7,8,11,12,13],[1448],1897,[]⟩ .z) .z)))) .z))))) .z))
theorem YV:aH 16 (YT n) :=cq (au (U0 n) aB) func16 YU n
def wG:b9 xx:=⟨[.mut ax,.d af,.d af,.cV [ax,ax] af],[.mu ax],λa=>yG n a.1 a.2.1 a.2.2.1 a.2.2.2.1,none⟩
def wH:Hn SI:=(.s .z (.b (.l ⟨[(8,.v af)],[(0,.l ax)],[0,1,2,3],[],1192,[]⟩ 0 ⟨[],[(0,.l ax)],[],[],1192,[]⟩ (.s .z (.s (.b (.s .z (.b (.l ⟨[(9,.v af)],[(0,.l ax)],[0,1,2,3,8],[],1512,[]⟩ 2 ⟨[],[(0,.l ax)],[0,1,2,3,8],[],1512,[]⟩ (.s (.s (.j ⟨[(34,.v .bool)],[],[0,1,2,3,8,9],[0],1512,[]⟩ .z) .z) .z))))) .z)))))
theorem wI:aH 172 (wG n) :=cq aB func172 wH n
def BR:b9 xx:=⟨[.mut ax,.d af,.d af,.d af,.cV [ax,ax] af],[.mu ax],λa=>Fx n a.1 a.2.1 a.2.2.1 a.2.2.2.1 a.2.2.2.2.1,none⟩
def BU:Hn SI:=(.s .z (.b (.lx ⟨[(10,.v af)],[(0,.l ax)],[0,2,3,4],[],1128,[]⟩ 0 ⟨[],[(0,.l ax)],[],[],1128,[]⟩ (.b (co (.s (.j ⟨[(11,.v af)],[],[0,2,3,4,10],[0],1576,[]⟩ (.s (.j ⟨[(40,.v .bool)],[],[0,2,3,4,10,11],[0],1576,[]⟩ .z) .z)) .z))))))
theorem BV:aH 208 (BR n) :=cq aB func208 BU n
def BX:b9 xx:=⟨[.mut ax,.d af,.d af,.cV [ax,ax] af],[.mu ax],λa=>Fy n a.1 a.2.1 a.2.2.1 a.2.2.2.1,none⟩
def BZ:Hn SI:=(d7 (.s (.s .z (.b (.l ⟨[(11,.v af)],[(0,.l ax)],[0,3,8,9,10],[],1704,[]⟩ 0 ⟨[],[(0,.l ax)],[0,3,8,9,10],[],1704,[]⟩ .z))) (.s .z (.b (.l ⟨[(12,.v af)],[(0,.l ax)],[0,3,8,9],[],1896,[]⟩ 2 ⟨[],[(0,.l ax)],[],[],1896,[]⟩ .z)))))
theorem Ca:aH 173 (BX n) :=cq (au (BV n) aB) func173 BZ n
def wJ:b9 xx:=⟨[.mut ax,.d af,.d af,.cV [ax,ax] af],[.mu ax],λa=>yH n a.1 a.2.1 a.2.2.1 a.2.2.2.1,none⟩
def wK:Hn SI:=(co (.s (d7 (.b (.l ⟨[(11,.v af)],[(0,.l ax),(1512,ye)],[0,1,8,9,10],[],2280,[]⟩ 0 ⟨[],[(0,.l ax)],[],[],2280,[]⟩ (.s .z (.s (.b (.s .z (.s (.j ⟨[(12,.v af)],[],[0,1,8,9,10,11],[0,1512],3176,[]⟩ .z) .z))) .z))))) .z))
theorem wL:aH 174 (wJ n) :=cq (au qY (au sZ aB)) func174 wK n
def FT:b9 xx:=⟨[.d (.sl ax),.d af,.d af,.fm af,.cV [ax,ax] af],[.d af,.d af,.mr af],λa=>IQ a.1 a.2.1 a.2.2.1 a.2.2.2.1 a.2.2.2.2.1,none⟩
theorem FU:aH 228 FT :=cq aB func228 .z 0
def FV:b9 xx:=⟨[.d (.sl ax),.d af,.d af,.d af,.fm af,.cV [ax,ax] af],[.d af,.mr af],λa=>IU a.1 a.2.1 a.2.2.1 a.2.2.2.1 a.2.2.2.2.1 a.2.2.2.2.2.1,none⟩
theorem uf:aH 212 FV :=cq (au FU aB) func212 .z 0
def vD:b9 xx:=⟨[.d (.sl ax),.d af,.fm af,.cV [ax,ax] af],[.d af,.mr af],λa=>xO a.1 a.2.1 a.2.2.1 a.2.2.2.1,none⟩
theorem vE:aH 211 vD :=cq (au uf aB) func211 .z 0
def yQ:b9 xx:=⟨[.d (.sl ax),.d af,.d af,.cV [ax,ax] af],[.d af,.d af],λa=>AO a.1 a.2.1 a.2.2.1 a.2.2.2.1,none⟩
def yR:Hn SI:=(u9 (.s (.j ⟨[(13,.v af)],[(1384,td)],[11],[],2600,[]⟩ (.s .z (.s (.s (.j ⟨[(12,.v af),(13,.v af),(14,.v af)],[(1384,td)],[0,3,11],[],2728,[]⟩ .z) .z) .z))) .z))
theorem yS:aH 175 yQ :=cq (au vE (au uf aB)) func175 yR 0
def yh:b9 xx:=⟨[.mut ax,.d af,.d af,.cV [ax,ax] af],[.mu ax],λa=>zx n a.1 a.2.1 a.2.2.1 a.2.2.2.1,none⟩
def yj:Hn SI:=(co (.b (.l ⟨[(8,.v af),(9,.v af)],[(0,.l ax)],[0],[],1320,[]⟩ 0 ⟨[],[(0,.l ax)],[],[],1320,[]⟩ .z)))
theorem yu:aH 176 (yh n) :=cq aB func176 yj n
def qD:b9 xx:=⟨[.mut ax,.d af,.d af,.cV [ax,ax] af],[.d .bool,.mu ax],λa=>rH n a.1 a.2.1 a.2.2.1 a.2.2.2.1,none⟩
def qE:Hn SI:=(co (.s (.s .z (.b (.lx ⟨[(9,.v af),(10,.v af)],[(0,.l ax)],[0,1,2,3],[],1320,[]⟩ 0 ⟨[],[(0,.l ax)],[],[],1320,[]⟩ (.s .z (.s (.jx ⟨[(9,.v af)],[(0,.l ax)],[0,1,2,3,10],[],1448,[]⟩ (.b (.s (.b (.l ⟨[(9,.v af)],[],[0,1,2,3,10],[0],1448,[]⟩ 2 ⟨[(9,.v af)],[],[0,1,2,3,10],[0],1448,[]⟩ (.s (.s (.j ⟨[(36,.v .bool)],[],[0,1,2,3,9,10],[0],1448,[]⟩ .z) .z) .z))) (d7 (.s (.j ⟨[],[(0,.l ax)],[0,1,2,3,9,10],[],3048,[]⟩ (.s .z (.s (.s .z (.b (.l ⟨[(11,.v af)],[(0,.l ax)],[0,1,2,3,9,10],[],3496,[]⟩ 4 ⟨[],[(0,.l ax)],[0,1,2,3,9,10],[],3496,[]⟩ .z))) .z))) (.s .z (.s (.s .z (.b (.l ⟨[(12,.v af)],[(0,.l ax)],[0,1,2,3,9,10],[],3496,[]⟩ 6 ⟨[],[(0,.l ax)],[0,1,2,3,9,10],[],3496,[]⟩ .z))) .z))))))) .z))))) .z))
theorem qF:aH 177 (qD n) :=cq aB func177 qE n
def vF:b9 xx:=⟨[.mut ax,.d af,.d af,.d af,.cV [ax,ax] af],[.d af,.mu ax],λa=>xP n a.1 a.2.1 a.2.2.1 a.2.2.2.1 a.2.2.2.2.1,none⟩
def vG:Hn SI:=(d7 (.s (.b (.l ⟨[(11,.v af),(12,.v af)],[(0,.l ax)],[0,1,4],[],2472,[]⟩ 0 ⟨[(11,.v af)],[(0,.l ax)],[],[],2472,[]⟩ (.b (.s (.b (.l ⟨[(11,.v af)],[],[0,1,4,12],[0],2472,[]⟩ 2 ⟨[(11,.v af)],[],[0,1,4,12],[0],2472,[]⟩ (.s (.s (.j ⟨[(47,.v .bool)],[],[0,1,4,11,12],[0],2472,[]⟩ .z) .z) .z))) (.s (.b (.l ⟨[(12,.v af)],[],[0,1,4,11],[0],2472,[]⟩ 4 ⟨[(12,.v af)],[],[0,1,4,11],[0],2472,[]⟩ (.s (.s (.j ⟨[(65,.v .bool)],[],[0,1,4,11,12],[0],2472,[]⟩ .z) .z) .z))) .z))))) .z))
theorem vH:aH 178 (vF n) :=cq aB func178 vG n
def Ba:b9 xx:=⟨[.mut ax,.d af,.d af,.d af,.cV [ax,ax] af],[.d af,.d .bool,.mu ax],λa=>Dy n a.1 a.2.1 a.2.2.1 a.2.2.2.1 a.2.2.2.2.1,none⟩
def Bb:Hn SI:=(d7 (.s (.b (.l ⟨[(12,.v af)],[],[0,1,4,13],[0],2536,[]⟩ 0 ⟨[(12,.v af)],[],[0,1,4,13],[0],2536,[]⟩ (.s (.s (.j ⟨[(47,.v .bool)],[],[0,1,4,12,13],[0],2536,[]⟩ .z) .z) .z))) (.s (.b (.l ⟨[(13,.v af)],[],[0,1,4,12],[0],2536,[]⟩ 2 ⟨[(13,.v af)],[],[0,1,4,12],[0],2536,[]⟩ (.s (.s (.j ⟨[(66,.v .bool)],[],[0,1,4,12,13],[0],2536,[]⟩ .z) .z) .z))) (rL (.s (.b (.l ⟨[(12,.v af),(13,.v af)],[(0,.l ax)],[0,1,4],[],4136,[]⟩ 4 ⟨[(13,.v af)],[(0,.l ax)],[0,1],[],4136,[]⟩ (.b (.s (.b (.l ⟨[(12,.v af)],[],[0,1,4,13],[0],4136,[]⟩ 6 ⟨[(12,.v af)],[],[0,1,4,13],[0],4136,[]⟩ (.s (.s (.j ⟨[(120,.v .bool)],[],[0,1,4,12,13],[0],4136,[]⟩ .z) .z) .z))) (.s (.b (.l ⟨[(13,.v af)],[],[0,1,4,12],[0],4136,[]⟩ 8 ⟨[(13,.v af)],[],[0,1,4,12],[0],4136,[]⟩ (.s (.s (.j ⟨[(139,.v .bool)],[],[0,1,4,12,13],[0],4136,[]⟩ .z) .z) .z))) .z))))) .z)))))
theorem Bc:aH 179 (Ba n) :=cq aB func179 Bb n
def Ed:Hn SI:=(co (.b (.lx ⟨[(1,.v af),(2,.v af),(3,.v af),(10,.v .bool),(11,.v .bool)],[(0,.l ax)],[0,4],[],1128,[]⟩ 999999 ⟨[],[],[],[],1128,[]⟩ (.b (d7 (.s (.j ⟨[(3,.v af)],[(0,.l ax)],[0,1,2,4,10,11,12],[],1640,[]⟩ .z) (.s .z (.s (.j ⟨[(13,.v af),(14,.v af)],[(0,.l ax)],[0,1,2,3,4,10,11,12],[],2280,[]⟩ .z) (.s (.jx ⟨[],[(0,.l ax)],[0,1,2,3,4,10,11,12,13],[],2280,[]⟩ (.s (.j ⟨[(75,.v .bool)],[],[0,1,2,3,4,10,11,12,13],[0],2280,[]⟩ .z) .z)) (.s (.s (.j ⟨[(97,.v .bool)],[],[0,1,2,3,4,10,11,12,13],[0],2280,[]⟩ .z) .z) .z))))))))))
theorem Cb(rc:((List ay))->(Int)->(Int)->(Int)->((ay×ay×Unit)->Option Int)->Option (List ay))(hr:aH 141 (kZ rc)):aH 141 (kZ (jb n rc)) :=cq (au (wI n) (au (Ca n) (au (wL n) (au yS (au (yu n) (au (qF n) (au (vH n) (au (Bc n) (au hr aB))))))))) func141 Ed n
theorem qK(n:Nat):∀m,aH 141 (kZ (eD n m))
 | 0=>xi (nL func141 (by kernel_rfl:Tryz.f141.body=some (Tryz.f141.body.getD .skip)) (by kernel_rfl)) (λ _ _ h=>(by cases h)) rfl
 |m+1=>Cb n _ (qK n m)
def Ee:b9 xx:=⟨[.mut ax,.d af,.d af,.d af,.cV [ax,ax] af],[.mu ax],λa=>nY n a.1 a.2.1 a.2.2.1 a.2.2.2.1 a.2.2.2.2.1,none⟩
theorem Ef:aH 141 (Ee n):=qK n n
def NZ:b9 xx:=⟨[.mut ax,.cV [ax,ax] af],[.mu ax],λa=>qp n a.1 a.2.1,none⟩
theorem N7:aH 101 (NZ n) :=cq (au Ib (au (Ef n) aB)) func101 .z n
def FW:b9 xx:=⟨[.d ax,.d ax],[.d af],λa=>iO a.1 a.2.1,none⟩
theorem FX:aH 102 FW :=cq (au pF aB) func102 .z 0
def Qu:b9 xx:=⟨[.d aI],[.d af],λa=>lH a.1,none⟩
def Qv:Hn SI:=(.s .z (.s (.s (.j ⟨[(9,.v .bool)],[],[1],[1000],1128,[]⟩ .z) .z) .z))
theorem Df:aH 108 Qu :=cq (au kT aB) func108 Qv 0
def U1:b9 xx:=⟨[.d aI],[.d af],λa=>oU a.1,none⟩
theorem IE:aH 106 U1 :=cq (au kT (au KY (au Df aB))) func106 .z 0
end
end Go.Proofs
