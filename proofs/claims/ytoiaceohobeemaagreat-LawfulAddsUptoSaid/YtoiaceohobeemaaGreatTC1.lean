import Derived.Test.YtoiaceohobeemaaGreatS2
namespace Go.Proofs
open Go.Gb Go.RowKit
abbrev fg:OP SI:=.c 10 [[.v (.sl bq),.v (.sl bg),.v (.sl bC),.v (.sl bf),.v (.sl bH),.v (.sl bD),.v (.sl aZ),.v af,.v (.sl ax),.o 1]]
abbrev p0:OP SI:=.c 1 [[.o 1]]
abbrev ra:OP SI:=.c 2 [[.v (.sl bq),(.v (.sl (.sl af)))]]
abbrev tc:OP SI:=.c 1 [[.v af]]
abbrev ta:OP SI:=.c 10 [[.v (.sl bq),.v (.sl bg),.v (.sl bC),.v (.sl bf),.v (.sl bH),.v (.sl bD),.v (.sl aZ),.v af,.v (.sl ax),.o 2]]
abbrev tE:OP SI:=.c 2 [[.v af,.v af]]
abbrev vd:OP SI:=.c 1 [[.o 1384]]
abbrev yf:OP SI:=.c 1 [[.v (.int .u64)]]
abbrev ye:OP SI:=.c 4 [[.v af,.v af,.v af,.v af]]
abbrev Fm:OP SI:=.c 10 [[.v (.sl bq),.v (.sl bg),.v (.sl bC),.v (.sl bf),.v (.sl bH),.v (.sl bD),.v (.sl aZ),.v af,.v (.sl ax),.o 1960]]
abbrev cg(a:Hn SI):Hn SI:=.s .z (.s .z a)
abbrev ef(a:Hn SI):Hn SI:=.s .z (.s .z (.s .z a))
abbrev rb(a:Hn SI):Hn SI:=.s .z (.s .z (.s .z (.s .z a)))
abbrev FA(a:Hn SI):Hn SI:=.s .z (.s .z (.s .z (.s .z (.s .z a))))
abbrev yi(a:Hn SI):Hn SI:=.s .z (.s .z (.s .z (.s .z (.s .z (.s .z a)))))
open Tryz
noncomputable section
variable (n:Nat)
def ajT:bz xx:=⟨[.d af],[.d (.st SI.Expr)],λa=>Wr a.1,none⟩
theorem ajU:aH 11 ajT :=cq aB func11 .z 0
def UJ:bz xx:=⟨[.d (.sl ax)],[.fresh ax],λa=>DI a.1,none⟩
theorem UK:aH 84 UJ :=cq aB func84 .z 0
def YI:bz xx:=⟨[.d (.sl af)],[.fresh af],λa=>G7 a.1,none⟩
theorem YJ:aH 85 YI :=cq aB func85 .z 0
def ahn:bz xx:=⟨[.d (.st SI.Lot)],[.d (.st SI.Lot)],λa=>Px a.1,none⟩
theorem aho:aH 44 ahn :=cq (au UK (au YJ aB)) func44 .z 0
def ajV:bz xx:=⟨[.d (.sl (.st SI.Lot)),.d af],[.d (.st SI.Lot),.d .bool],λa=>Py n a.1 a.2.1,none⟩
def ajW:Hn SI:=(.s .z (.s (.s .z (.b (.lx ⟨[(10,.v af)],[],[1,4,8,9],[1000],1320,[]⟩ 0 ⟨[],[],[4],[1000],1320,[]⟩ .z))) .z))
theorem ajX:aH 24 (ajV n) :=cq (au aho aB) func24 ajW n
def Qq:bz xx:=⟨[.d fB,.d af,.d af],[.fresh aI],λa=>oG n a.1 a.2.1 a.2.2.1,none⟩
def Qr:Hn SI:=(cg (.s (.s .z (.b (.l ⟨[(7,.o 1448),(13,.v af)],[(1448,.l aI)],[1,2,11,12],[],1449,[(7,aI)]⟩ 0 ⟨[(7,.o 1448)],[(1448,.l aI)],[],[],1449,[]⟩ (cg (.s (.j ⟨[(7,.o 1513)],[(1513,.l aI)],[1,2,11,12,13],[],1514,[]⟩ (.b (.s .z (.s (.j ⟨[(25,.v .bool)],[],[1,2,7,9,11,12,13],[1448,1705],1897,[]⟩ .z) .z)))) .z))))) .z))
theorem Dj:aH 58 (Qq n) :=cq aB func58 Qr n
def aaf:bz xx:=⟨[.d fB],[.fresh aI],λa=>xK n a.1,none⟩
theorem Nh:aH 46 (aaf n) :=cq (au (Dj n) aB) func46 .z n
def ajY:bz xx:=⟨[.d ax],[.d .bool],λa=>pu a.1,none⟩
theorem qy:aH 74 ajY :=cq aB func74 .z 0
def Jf:bz xx:=⟨[.d aI],[.d .bool],λa=>gq a.1,none⟩
def Jg:Hn SI:=(cg (.s (.s (.j ⟨[(26,.v .bool)],[],[1],[1000],1384,[]⟩ .z) .z) (.s (.s (.j ⟨[(34,.v .bool)],[],[1],[1000],1384,[]⟩ .z) .z) .z)))
theorem kW:aH 59 Jf :=cq (au qy aB) func59 Jg 0
def afl:bz xx:=⟨[.d ax],[.d ax,.d .bool],λa=>Ag a.1,none⟩
theorem Ui:aH 91 afl :=cq (au qy aB) func91 .z 0
def aag:bz xx:=⟨[.d ax,.d ax],[.d ax,.d .bool],λa=>tQ a.1 a.2.1,none⟩
def aah:Hn SI:=(.s .z (.s (.s (.j ⟨[(13,.v .bool)],[],[2,3,4],[1000,1064,1128],1256,[]⟩ .z) .z) .z))
theorem D5:aH 124 aag :=cq (au qy (au Ui aB)) func124 aah 0
def YK:bz xx:=⟨[.d (.st SI.CI),.d (.st SI.CI)],[.d .bool],λa=>zu a.1 a.2.1,none⟩
theorem YL:aH 87 YK :=cq (au D5 aB) func87 .z 0
def Qs:bz xx:=⟨[.d aI,.ref aI],[.d .bool],λa=>rZ a.1 a.2.1,none⟩
theorem Qt:aH 86 Qs :=cq (au YL aB) func86 .z 0
def Jh:bz xx:=⟨[.d (.sl aI),.cT [aI] .bool],[.d af],λa=>qR n a.1 a.2.1,none⟩
def Ji:Hn SI:=(.s .z (.s (.s .z (.b (.lx ⟨[(8,.v af)],[],[0,1,7],[],1256,[]⟩ 0 ⟨[],[],[],[],1256,[]⟩ .z))) .z))
theorem Jj:aH 76 (Jh n) :=cq aB func76 Ji n
def D6:bz xx:=⟨[.d (.sl aI),.cT [aI] .bool],[.d .bool],λa=>fT n a.1 a.2.1,none⟩
theorem rU:aH 38 (D6 n) :=cq (au (Jj n) aB) func38 .z n
def ac4:bz xx:=⟨[.d (.int .u8)],[.d .bool],λa=>He a.1,none⟩
theorem Qu:aH 155 ac4 :=cq aB func155 .z 0
def ahp:bz xx:=⟨[.d .str,.cT [.int .u8] .bool],[.d af],λa=>Pz n a.1 a.2.1,none⟩
def ahq:Hn SI:=(cg (.s (.b (.l ⟨[(5,.v af)],[],[0,1],[],1128,[]⟩ 0 ⟨[(5,.v af)],[],[],[],1128,[]⟩ (.s (.s (.j ⟨[(16,.v .bool)],[],[0,1,5],[],1128,[]⟩ .z) .z) .z))) .z))
theorem ahr:aH 156 (ahp n) :=cq aB func156 ahq n
def afm:bz xx:=⟨[.d (.int .u8)],[.d .bool],λa=>RG a.1,none⟩
theorem afn:aH 158 afm :=cq aB func158 .z 0
def aai:bz xx:=⟨[.d (.int .u8)],[.d .bool],λa=>CP a.1,none⟩
theorem aaj:aH 157 aai :=cq (au Qu (au afn aB)) func157 .z 0
def ahs:bz xx:=⟨[.d .str],[.d .bool],λa=>PD n a.1,none⟩
def aht:Hn SI:=(.s .z (.s (.s (.j ⟨[(15,.v .bool)],[],[0],[],1064,[]⟩ .z) .z) .z))
theorem ahu:aH 125 (ahs n) :=cq (au Qu (au (ahr n) (au aaj aB))) func125 aht n
def NV:bz xx:=⟨[.d .str,.d .str],[.d .bool],λa=>strings_Contains a.1 a.2.1,none⟩
theorem NW:aH 126 NV:=by
 have hcall:iO Tryz.prog 126:=⟨_,func126,by kernel_rfl,by kernel_rfl⟩;refine xi hcall (λ a r h=>?_) rfl;obtain⟨s,b,⟨⟩⟩:=a;have h':strings_Contains s b=some r:=h;unfold strings_Contains at h';cases hb:Nat.ble s.size 4000000 with
 |false=>rw[hb]at h';cases h'
 |true=>
  rw[hb]at h';have h'':some (Lib.contains s.data.toList b.data.toList)=some r:=h';injection h'' with e;subst e;have hw:=Nat.le_of_ble_eq_true hb;exact acH (g:=0) rfl hcall λm w hm=>aeD s b m w (by omega) hm
def aak:bz xx:=⟨[.d .str],[.d .bool],λa=>xL n a.1,none⟩
theorem aal:aH 88 (aak n) :=cq (au (ahu n) (au NW aB)) func88 .z n
def YM:bz xx:=⟨[.d fB],[.d .bool],λa=>zw n a.1,none⟩
def YN:Hn SI:=(cg (.s (.s (.j ⟨[(42,.v .bool)],[],[1,3],[1000,1192],1320,[]⟩ .z) .z) (.s (.s .z (.b (.lx ⟨[(45,.v af)],[],[1,3,43,44],[1000,1192],1512,[]⟩ 0 ⟨[],[],[1],[1000],1512,[]⟩ (cg (.s (.b (.s .z (.s (.j ⟨[(59,.v .bool)],[],[1,3,43,44,45],[1000,1192],1960,[]⟩ .z) .z))) .z))))) (.s (.s .z (.b (.lx ⟨[(64,.v af)],[],[62,63],[],1768,[]⟩ 2 ⟨[],[],[],[],1768,[]⟩ (cg (.s (.b (cg (.s (.s .z (.b (.lx ⟨[(72,.v af)],[(2088,.m .str .bool)],[7,8,62,63,64,70,71],[1960],2472,[]⟩ 4 ⟨[],[],[7,62,63,64],[1960],2472,[]⟩ (cg (.s (.b (.s .z (.s (.s (.j ⟨[(95,.v .bool)],[],[7,8,10,62,63,64,70,71,72],[1960,2088,2664],2792,[]⟩ .z) .z) .z))) .z))))) .z))) .z))))) .z))))
theorem YO:aH 45 (YM n) :=cq (au (Nh n) (au kW (au (rU n) (au Qt (au (aal n) aB))))) func45 YN n
def YP:bz xx:=⟨[.nil,.d af],[.fresh ax],λa=>PE a.1 a.2.1,none⟩
theorem YQ:aH 192 YP :=cq aB func192 .z 0
def Sb:bz xx:=⟨[.d (.sl (.sl ax))],[.fresh ax],λa=>AO n a.1,none⟩
def Sc:Hn SI:=(cg (.s (.s .z (.b (.l ⟨[(3,.v af),(11,.v af)],[],[0,9,10],[],1320,[]⟩ 0 ⟨[(3,.v af)],[],[0],[],1320,[]⟩ .z))) (.s .z (.s (.s .z (.b (.l ⟨[(6,.o 1704),(27,.v af)],[(1704,.l ax)],[25,26],[],1705,[]⟩ 2 ⟨[(6,.o 1704)],[(1704,.l ax)],[],[],1705,[]⟩ .z))) .z))))
theorem Sd:aH 152 (Sb n) :=cq (au YQ aB) func152 Sc n
def ac5:bz xx:=⟨[.d (.int .u64)],[.d af],λa=>bits_Len64 a.1,none⟩
def ac6:Hn SI:=(.s .z (.s (.j ⟨[(0,.v (.int .u64)),(2,.v af)],[],[],[],1064,[]⟩ .z) (.s (.j ⟨[(0,.v (.int .u64)),(2,.v af)],[],[],[],1064,[]⟩ .z) (.s (.j ⟨[(0,.v (.int .u64)),(2,.v af)],[],[],[],1064,[]⟩ .z) .z))))
theorem ac7:aH 181 ac5 :=cq aB func181 ac6 0
def ahv:bz xx:=⟨[.d (.int .u64)],[.d af],λa=>bits_Len a.1,none⟩
theorem Ij:aH 142 ahv :=cq (au ac7 aB) func142 .z 0
def UL:bz xx:=⟨[.d af],[.d .bool],λa=>cmp_isNaN_int a.1,none⟩
theorem IL:aH 143 UL :=cq aB func143 .z 0
def YR:bz xx:=⟨[.d af,.d af],[.d .bool],λa=>cmp_Less_int a.1 a.2.1,none⟩
theorem kR:aH 188 YR :=cq (au IL aB) func188 .z 0
def xZ:bz xx:=⟨[.mut af,.d af,.d af],[.mu af],λa=>zx n a.1 a.2.1 a.2.2.1,none⟩
def yc:Hn SI:=(.s .z (.b (.l ⟨[(6,.v af)],[(0,.l af)],[0,1,2],[],1192,[]⟩ 0 ⟨[],[(0,.l af)],[],[],1192,[]⟩ (.s .z (.s (.b (.s .z (.b (.l ⟨[(7,.v af)],[(0,.l af)],[0,1,2,6],[],1512,[]⟩ 2 ⟨[],[(0,.l af)],[0,1,2,6],[],1512,[]⟩ (.s (.s (.j ⟨[(30,.v .bool)],[],[0,1,2,6,7],[0],1512,[]⟩ .z) .z) .z))))) .z)))))
theorem yg:aH 182 (xZ n) :=cq (au kR aB) func182 yc n
def D7:bz xx:=⟨[.mut af,.d af,.d af,.d af],[.mu af],λa=>Hf n a.1 a.2.1 a.2.2.1 a.2.2.2.1,none⟩
def D8:Hn SI:=(.s .z (.b (.lx ⟨[(8,.v af)],[(0,.l af)],[0,2,3],[],1128,[]⟩ 0 ⟨[],[(0,.l af)],[],[],1128,[]⟩ (.b (cg (.s (.j ⟨[(9,.v af)],[],[0,2,3,8],[0],1576,[]⟩ (.s (.j ⟨[(36,.v .bool)],[],[0,2,3,8,9],[0],1576,[]⟩ .z) .z)) .z))))))
theorem D9:aH 213 (D7 n) :=cq (au kR aB) func213 D8 n
def Ea:bz xx:=⟨[.mut af,.d af,.d af],[.mu af],λa=>Hg n a.1 a.2.1 a.2.2.1,none⟩
def Eb:Hn SI:=(ef (.s (.s .z (.b (.l ⟨[(9,.v af)],[(0,.l af)],[0,6,7,8],[],1704,[]⟩ 0 ⟨[],[(0,.l af)],[0,6,7,8],[],1704,[]⟩ .z))) (.s .z (.b (.l ⟨[(10,.v af)],[(0,.l af)],[0,6,7],[],1896,[]⟩ 2 ⟨[],[(0,.l af)],[],[],1896,[]⟩ .z)))))
theorem Ec:aH 183 (Ea n) :=cq (au (D9 n) aB) func183 Eb n
def Mw:bz xx:=⟨[.d af],[.d (.int .u64)],λa=>bA a.1,none⟩
theorem q8:aH 209 Mw :=cq (au Ij aB) func209 .z 0
def NY:bz xx:=⟨[.fp (.int .u64)],[.d (.int .u64),.mr (.int .u64)],λa=>bI a.1,none⟩
theorem tq:aH 210 NY :=cq aB func210 .z 0
def yh:bz xx:=⟨[.mut af,.d af,.d af],[.mu af],λa=>zy n a.1 a.2.1 a.2.2.1,none⟩
def yj:Hn SI:=(cg (.s (ef (.b (.l ⟨[(9,.v af)],[(0,.l af),(1512,yf)],[0,1,6,7,8],[],2280,[]⟩ 0 ⟨[],[(0,.l af)],[],[],2280,[]⟩ (.s .z (.s (.b (.s .z (.s (.j ⟨[(10,.v af)],[],[0,1,6,7,8,9],[0,1512],3176,[]⟩ .z) .z))) .z))))) .z))
theorem yu:aH 184 (yh n) :=cq (au q8 (au tq aB)) func184 yj n
def Ik:bz xx:=⟨[.d (.sl af),.d af,.d af,.fp af],[.d af,.d af,.mr af],λa=>KC a.1 a.2.1 a.2.2.1 a.2.2.2.1,none⟩
theorem Il:aH 229 Ik :=cq (au kR aB) func229 .z 0
def Im:bz xx:=⟨[.d (.sl af),.d af,.d af,.d af,.fp af],[.d af,.mr af],λa=>KD a.1 a.2.1 a.2.2.1 a.2.2.2.1 a.2.2.2.2.1,none⟩
theorem ve:aH 215 Im :=cq (au Il aB) func215 .z 0
def wh:bz xx:=⟨[.d (.sl af),.d af,.fp af],[.d af,.mr af],λa=>yJ a.1 a.2.1 a.2.2.1,none⟩
theorem wm:aH 214 wh :=cq (au ve aB) func214 .z 0
def zW:bz xx:=⟨[.d (.sl af),.d af,.d af],[.d af,.d af],λa=>BK a.1 a.2.1 a.2.2.1,none⟩
def zX:Hn SI:=(yi (.s (.j ⟨[(11,.v af)],[(1384,tc)],[9],[],2600,[]⟩ (.s .z (.s (.s (.j ⟨[(10,.v af),(11,.v af),(12,.v af)],[(1384,tc)],[0,9],[],2728,[]⟩ .z) .z) .z))) .z))
theorem zY:aH 185 zW :=cq (au wm (au ve aB)) func185 zX 0
def yR:bz xx:=⟨[.mut af,.d af,.d af],[.mu af],λa=>AP n a.1 a.2.1 a.2.2.1,none⟩
def yS:Hn SI:=(cg (.b (.l ⟨[(6,.v af),(7,.v af)],[(0,.l af)],[0],[],1320,[]⟩ 0 ⟨[],[(0,.l af)],[],[],1320,[]⟩ .z)))
theorem yT:aH 186 (yR n) :=cq aB func186 yS n
def q9:bz xx:=⟨[.mut af,.d af,.d af],[.d .bool,.mu af],λa=>sP n a.1 a.2.1 a.2.2.1,none⟩
def rf:Hn SI:=(cg (.s (.s .z (.b (.lx ⟨[(7,.v af),(8,.v af)],[(0,.l af)],[0,1,2],[],1320,[]⟩ 0 ⟨[],[(0,.l af)],[],[],1320,[]⟩ (.s .z (.s (.jx ⟨[(7,.v af)],[(0,.l af)],[0,1,2,8],[],1448,[]⟩ (.b (.s (.b (.l ⟨[(7,.v af)],[],[0,1,2,8],[0],1448,[]⟩ 2 ⟨[(7,.v af)],[],[0,1,2,8],[0],1448,[]⟩ (.s (.s (.j ⟨[(32,.v .bool)],[],[0,1,2,7,8],[0],1448,[]⟩ .z) .z) .z))) (ef (.s (.j ⟨[],[(0,.l af)],[0,1,2,7,8],[],3048,[]⟩ (.s .z (.s (.s .z (.b (.l ⟨[(9,.v af)],[(0,.l af)],[0,1,2,7,8],[],3496,[]⟩ 4 ⟨[],[(0,.l af)],[0,1,2,7,8],[],3496,[]⟩ .z))) .z))) (.s .z (.s (.s .z (.b (.l ⟨[(10,.v af)],[(0,.l af)],[0,1,2,7,8],[],3496,[]⟩ 6 ⟨[],[(0,.l af)],[0,1,2,7,8],[],3496,[]⟩ .z))) .z))))))) .z))))) .z))
theorem rq:aH 187 (q9 n) :=cq (au kR aB) func187 rf n
def wo:bz xx:=⟨[.mut af,.d af,.d af,.d af],[.d af,.mu af],λa=>yK n a.1 a.2.1 a.2.2.1 a.2.2.2.1,none⟩
def wu:Hn SI:=(ef (.s (.b (.l ⟨[(9,.v af),(10,.v af)],[(0,.l af)],[0,1],[],2472,[]⟩ 0 ⟨[(9,.v af)],[(0,.l af)],[],[],2472,[]⟩ (.b (.s (.b (.l ⟨[(9,.v af)],[],[0,1,10],[0],2472,[]⟩ 2 ⟨[(9,.v af)],[],[0,1,10],[0],2472,[]⟩ (.s (.s (.j ⟨[(43,.v .bool)],[],[0,1,9,10],[0],2472,[]⟩ .z) .z) .z))) (.s (.b (.l ⟨[(10,.v af)],[],[0,1,9],[0],2472,[]⟩ 4 ⟨[(10,.v af)],[],[0,1,9],[0],2472,[]⟩ (.s (.s (.j ⟨[(59,.v .bool)],[],[0,1,9,10],[0],2472,[]⟩ .z) .z) .z))) .z))))) .z))
theorem wz:aH 189 (wo n) :=cq (au kR aB) func189 wu n
def BM:bz xx:=⟨[.mut af,.d af,.d af,.d af],[.d af,.d .bool,.mu af],λa=>Fy n a.1 a.2.1 a.2.2.1 a.2.2.2.1,none⟩
def BN:Hn SI:=(ef (.s (.b (.l ⟨[(10,.v af)],[],[0,1,11],[0],2536,[]⟩ 0 ⟨[(10,.v af)],[],[0,1,11],[0],2536,[]⟩ (.s (.s (.j ⟨[(43,.v .bool)],[],[0,1,10,11],[0],2536,[]⟩ .z) .z) .z))) (.s (.b (.l ⟨[(11,.v af)],[],[0,1,10],[0],2536,[]⟩ 2 ⟨[(11,.v af)],[],[0,1,10],[0],2536,[]⟩ (.s (.s (.j ⟨[(60,.v .bool)],[],[0,1,10,11],[0],2536,[]⟩ .z) .z) .z))) (rb (.s (.b (.l ⟨[(10,.v af),(11,.v af)],[(0,.l af)],[0,1],[],4136,[]⟩ 4 ⟨[(11,.v af)],[(0,.l af)],[0,1],[],4136,[]⟩ (.b (.s (.b (.l ⟨[(10,.v af)],[],[0,1,11],[0],4136,[]⟩ 6 ⟨[(10,.v af)],[],[0,1,11],[0],4136,[]⟩ (.s (.s (.j ⟨[(112,.v .bool)],[],[0,1,10,11],[0],4136,[]⟩ .z) .z) .z))) (.s (.b (.l ⟨[(11,.v af)],[],[0,1,10],[0],4136,[]⟩ 8 ⟨[(11,.v af)],[],[0,1,10],[0],4136,[]⟩ (.s (.s (.j ⟨[(129,.v .bool)],[],[0,1,10,11],[0],4136,[]⟩ .z) .z) .z))) .z))))) .z)))))
theorem BP:aH 190 (BM n) :=cq (au kR aB) func190 BN n
def FQ:Hn SI:=(cg (.b (.lx ⟨[(1,.v af),(2,.v af),(3,.v af),(8,.v .bool),(9,.v .bool)],[(0,.l af)],[0],[],1128,[]⟩ 999999 ⟨[],[],[],[],1128,[]⟩ (.b (ef (.s (.j ⟨[(3,.v af)],[(0,.l af)],[0,1,2,8,9,10],[],1640,[]⟩ .z) (.s .z (.s (.j ⟨[(11,.v af),(12,.v af)],[(0,.l af)],[0,1,2,3,8,9,10],[],2216,[]⟩ .z) (.s (.jx ⟨[],[(0,.l af)],[0,1,2,3,8,9,10,11],[],2216,[]⟩ (.s (.j ⟨[(68,.v .bool)],[],[0,1,2,3,8,9,10,11],[0],2216,[]⟩ .z) .z)) (.s (.s (.j ⟨[(87,.v .bool)],[],[0,1,2,3,8,9,10,11],[0],2216,[]⟩ .z) .z) .z))))))))))
theorem Ed(rc:((List Int))->(Int)->(Int)->(Int)->Option (List Int))(hr:aH 144 (mV rc)):aH 144 (mV (nK n rc)) :=cq (au (yg n) (au (Ec n) (au (yu n) (au zY (au (yT n) (au (rq n) (au kR (au (wz n) (au (BP n) (au hr aB)))))))))) func144 FQ n
theorem rV(n:Nat):∀m,aH 144 (mV (gT n m))
 | 0=>xi (nP func144 (by kernel_rfl:Tryz.f144.body=some (Tryz.f144.body.getD .skip)) (by kernel_rfl)) (λ _ _ h=>(by cases h)) rfl
 |m+1=>Ed n _ (rV n m)
def FR:bz xx:=⟨[.mut af,.d af,.d af,.d af],[.mu af],λa=>o7 n a.1 a.2.1 a.2.2.1 a.2.2.2.1,none⟩
theorem FT:aH 144 (FR n):=rV n n
def aam:bz xx:=⟨[.mut af],[.mu af],λa=>nQ n a.1,none⟩
theorem xh:aH 104 (aam n) :=cq (au Ij (au (FT n) aB)) func104 .z n
def Sg:bz xx:=⟨[.mut af],[.whole 0,.mu af],λa=>pU n a.1,none⟩
def Si:Hn SI:=(cg (.s (.s .z (.b (.lx ⟨[(3,.v af)],[],[0],[0],1320,[]⟩ 0 ⟨[],[],[0],[0],1320,[]⟩ (.s .z (.s (.b (.s .z (.s (.s .z (.s (.s .z (.b (.l ⟨[(3,.v af),(5,.v af)],[(0,.l af)],[0,4],[],2536,[]⟩ 2 ⟨[(3,.v af)],[(0,.l af)],[0],[],2536,[]⟩ (.s .z (.s (.j ⟨[(3,.v af)],[(0,.l af)],[0,4,5],[],2792,[]⟩ .z) .z))))) .z)) .z))) .z))))) .z))
theorem wB:aH 153 (Sg n) :=cq aB func153 Si n
def wC:bz xx:=⟨[.mut (.st SI.span),.d af,.d af,.cT [.st SI.span,.st SI.span] af],[.mu (.st SI.span)],λa=>yL n a.1 a.2.1 a.2.2.1 a.2.2.2.1,none⟩
def wD:Hn SI:=(.s .z (.b (.l ⟨[(8,.v af)],[(0,.l (.st SI.span))],[0,1,2,3],[],1192,[]⟩ 0 ⟨[],[(0,.l (.st SI.span))],[],[],1192,[]⟩ (.s .z (.s (.b (.s .z (.b (.l ⟨[(9,.v af)],[(0,.l (.st SI.span))],[0,1,2,3,8],[],1512,[]⟩ 2 ⟨[],[(0,.l (.st SI.span))],[0,1,2,3,8],[],1512,[]⟩ (.s (.s (.j ⟨[(34,.v .bool)],[],[0,1,2,3,8,9],[0],1512,[]⟩ .z) .z) .z))))) .z)))))
theorem wE:aH 230 (wC n) :=cq aB func230 wD n
def BQ:bz xx:=⟨[.mut (.st SI.span),.d af,.d af,.d af,.cT [.st SI.span,.st SI.span] af],[.mu (.st SI.span)],λa=>Fz n a.1 a.2.1 a.2.2.1 a.2.2.2.1 a.2.2.2.2.1,none⟩
def BR:Hn SI:=(.s .z (.b (.lx ⟨[(10,.v af)],[(0,.l (.st SI.span))],[0,2,3,4],[],1128,[]⟩ 0 ⟨[],[(0,.l (.st SI.span))],[],[],1128,[]⟩ (.b (cg (.s (.j ⟨[(11,.v af)],[],[0,2,3,4,10],[0],1576,[]⟩ (.s (.j ⟨[(40,.v .bool)],[],[0,2,3,4,10,11],[0],1576,[]⟩ .z) .z)) .z))))))
theorem BU:aH 244 (BQ n) :=cq aB func244 BR n
def BV:bz xx:=⟨[.mut (.st SI.span),.d af,.d af,.cT [.st SI.span,.st SI.span] af],[.mu (.st SI.span)],λa=>FB n a.1 a.2.1 a.2.2.1 a.2.2.2.1,none⟩
def BX:Hn SI:=(ef (.s (.s .z (.b (.l ⟨[(11,.v af)],[(0,.l (.st SI.span))],[0,3,8,9,10],[],1704,[]⟩ 0 ⟨[],[(0,.l (.st SI.span))],[0,3,8,9,10],[],1704,[]⟩ .z))) (.s .z (.b (.l ⟨[(12,.v af)],[(0,.l (.st SI.span))],[0,3,8,9],[],1896,[]⟩ 2 ⟨[],[(0,.l (.st SI.span))],[],[],1896,[]⟩ .z)))))
theorem BZ:aH 231 (BV n) :=cq (au (BU n) aB) func231 BX n
def wF:bz xx:=⟨[.mut (.st SI.span),.d af,.d af,.cT [.st SI.span,.st SI.span] af],[.mu (.st SI.span)],λa=>yM n a.1 a.2.1 a.2.2.1 a.2.2.2.1,none⟩
def wG:Hn SI:=(cg (.s (ef (.b (.l ⟨[(11,.v af)],[(0,.l (.st SI.span)),(1512,yf)],[0,1,8,9,10],[],2280,[]⟩ 0 ⟨[],[(0,.l (.st SI.span))],[],[],2280,[]⟩ (.s .z (.s (.b (.s .z (.s (.j ⟨[(12,.v af)],[],[0,1,8,9,10,11],[0,1512],3176,[]⟩ .z) .z))) .z))))) .z))
theorem wH:aH 232 (wF n) :=cq (au q8 (au tq aB)) func232 wG n
def FU:bz xx:=⟨[.d (.sl (.st SI.span)),.d af,.d af,.fp af,.cT [.st SI.span,.st SI.span] af],[.d af,.d af,.mr af],λa=>IX a.1 a.2.1 a.2.2.1 a.2.2.2.1 a.2.2.2.2.1,none⟩
theorem FV:aH 258 FU :=cq aB func258 .z 0
def FW:bz xx:=⟨[.d (.sl (.st SI.span)),.d af,.d af,.d af,.fp af,.cT [.st SI.span,.st SI.span] af],[.d af,.mr af],λa=>IY a.1 a.2.1 a.2.2.1 a.2.2.2.1 a.2.2.2.2.1 a.2.2.2.2.2.1,none⟩
theorem ug:aH 246 FW :=cq (au FV aB) func246 .z 0
def vw:bz xx:=⟨[.d (.sl (.st SI.span)),.d af,.fp af,.cT [.st SI.span,.st SI.span] af],[.d af,.mr af],λa=>xM a.1 a.2.1 a.2.2.1 a.2.2.2.1,none⟩
theorem vz:aH 245 vw :=cq (au ug aB) func245 .z 0
def yU:bz xx:=⟨[.d (.sl (.st SI.span)),.d af,.d af,.cT [.st SI.span,.st SI.span] af],[.d af,.d af],λa=>AQ a.1 a.2.1 a.2.2.1 a.2.2.2.1,none⟩
def yV:Hn SI:=(yi (.s (.j ⟨[(13,.v af)],[(1384,tc)],[11],[],2600,[]⟩ (.s .z (.s (.s (.j ⟨[(12,.v af),(13,.v af),(14,.v af)],[(1384,tc)],[0,3,11],[],2728,[]⟩ .z) .z) .z))) .z))
theorem yX:aH 233 yU :=cq (au vz (au ug aB)) func233 yV 0
def yw:bz xx:=⟨[.mut (.st SI.span),.d af,.d af,.cT [.st SI.span,.st SI.span] af],[.mu (.st SI.span)],λa=>zA n a.1 a.2.1 a.2.2.1 a.2.2.2.1,none⟩
def yx:Hn SI:=(cg (.b (.l ⟨[(8,.v af),(9,.v af)],[(0,.l (.st SI.span))],[0],[],1320,[]⟩ 0 ⟨[],[(0,.l (.st SI.span))],[],[],1320,[]⟩ .z)))
theorem yA:aH 234 (yw n) :=cq aB func234 yx n
def qz:bz xx:=⟨[.mut (.st SI.span),.d af,.d af,.cT [.st SI.span,.st SI.span] af],[.d .bool,.mu (.st SI.span)],λa=>rG n a.1 a.2.1 a.2.2.1 a.2.2.2.1,none⟩
def qC:Hn SI:=(cg (.s (.s .z (.b (.lx ⟨[(9,.v af),(10,.v af)],[(0,.l (.st SI.span))],[0,1,2,3],[],1320,[]⟩ 0 ⟨[],[(0,.l (.st SI.span))],[],[],1320,[]⟩ (.s .z (.s (.jx ⟨[(9,.v af)],[(0,.l (.st SI.span))],[0,1,2,3,10],[],1448,[]⟩ (.b (.s (.b (.l ⟨[(9,.v af)],[],[0,1,2,3,10],[0],1448,[]⟩ 2 ⟨[(9,.v af)],[],[0,1,2,3,10],[0],1448,[]⟩ (.s (.s (.j ⟨[(36,.v .bool)],[],[0,1,2,3,9,10],[0],1448,[]⟩ .z) .z) .z))) (ef (.s (.j ⟨[],[(0,.l (.st SI.span))],[0,1,2,3,9,10],[],3048,[]⟩ (.s .z (.s (.s .z (.b (.l ⟨[(11,.v af)],[(0,.l (.st SI.span))],[0,1,2,3,9,10],[],3496,[]⟩ 4 ⟨[],[(0,.l (.st SI.span))],[0,1,2,3,9,10],[],3496,[]⟩ .z))) .z))) (.s .z (.s (.s .z (.b (.l ⟨[(12,.v af)],[(0,.l (.st SI.span))],[0,1,2,3,9,10],[],3496,[]⟩ 6 ⟨[],[(0,.l (.st SI.span))],[0,1,2,3,9,10],[],3496,[]⟩ .z))) .z))))))) .z))))) .z))
theorem qD:aH 235 (qz n) :=cq aB func235 qC n
def vB:bz xx:=⟨[.mut (.st SI.span),.d af,.d af,.d af,.cT [.st SI.span,.st SI.span] af],[.d af,.mu (.st SI.span)],λa=>xN n a.1 a.2.1 a.2.2.1 a.2.2.2.1 a.2.2.2.2.1,none⟩
def vC:Hn SI:=(ef (.s (.b (.l ⟨[(11,.v af),(12,.v af)],[(0,.l (.st SI.span))],[0,1,4],[],2472,[]⟩ 0 ⟨[(11,.v af)],[(0,.l (.st SI.span))],[],[],2472,[]⟩ (.b (.s (.b (.l ⟨[(11,.v af)],[],[0,1,4,12],[0],2472,[]⟩ 2 ⟨[(11,.v af)],[],[0,1,4,12],[0],2472,[]⟩ (.s (.s (.j ⟨[(47,.v .bool)],[],[0,1,4,11,12],[0],2472,[]⟩ .z) .z) .z))) (.s (.b (.l ⟨[(12,.v af)],[],[0,1,4,11],[0],2472,[]⟩ 4 ⟨[(12,.v af)],[],[0,1,4,11],[0],2472,[]⟩ (.s (.s (.j ⟨[(65,.v .bool)],[],[0,1,4,11,12],[0],2472,[]⟩ .z) .z) .z))) .z))))) .z))
theorem vD:aH 236 (vB n) :=cq aB func236 vC n
def Bd:bz xx:=⟨[.mut (.st SI.span),.d af,.d af,.d af,.cT [.st SI.span,.st SI.span] af],[.d af,.d .bool,.mu (.st SI.span)],λa=>DJ n a.1 a.2.1 a.2.2.1 a.2.2.2.1 a.2.2.2.2.1,none⟩
def Be:Hn SI:=(ef (.s (.b (.l ⟨[(12,.v af)],[],[0,1,4,13],[0],2536,[]⟩ 0 ⟨[(12,.v af)],[],[0,1,4,13],[0],2536,[]⟩ (.s (.s (.j ⟨[(47,.v .bool)],[],[0,1,4,12,13],[0],2536,[]⟩ .z) .z) .z))) (.s (.b (.l ⟨[(13,.v af)],[],[0,1,4,12],[0],2536,[]⟩ 2 ⟨[(13,.v af)],[],[0,1,4,12],[0],2536,[]⟩ (.s (.s (.j ⟨[(66,.v .bool)],[],[0,1,4,12,13],[0],2536,[]⟩ .z) .z) .z))) (rb (.s (.b (.l ⟨[(12,.v af),(13,.v af)],[(0,.l (.st SI.span))],[0,1,4],[],4136,[]⟩ 4 ⟨[(13,.v af)],[(0,.l (.st SI.span))],[0,1],[],4136,[]⟩ (.b (.s (.b (.l ⟨[(12,.v af)],[],[0,1,4,13],[0],4136,[]⟩ 6 ⟨[(12,.v af)],[],[0,1,4,13],[0],4136,[]⟩ (.s (.s (.j ⟨[(120,.v .bool)],[],[0,1,4,12,13],[0],4136,[]⟩ .z) .z) .z))) (.s (.b (.l ⟨[(13,.v af)],[],[0,1,4,12],[0],4136,[]⟩ 8 ⟨[(13,.v af)],[],[0,1,4,12],[0],4136,[]⟩ (.s (.s (.j ⟨[(139,.v .bool)],[],[0,1,4,12,13],[0],4136,[]⟩ .z) .z) .z))) .z))))) .z)))))
theorem Bf:aH 237 (Bd n) :=cq aB func237 Be n
def Ee:Hn SI:=(cg (.b (.lx ⟨[(1,.v af),(2,.v af),(3,.v af),(10,.v .bool),(11,.v .bool)],[(0,.l (.st SI.span))],[0,4],[],1128,[]⟩ 999999 ⟨[],[],[],[],1128,[]⟩ (.b (ef (.s (.j ⟨[(3,.v af)],[(0,.l (.st SI.span))],[0,1,2,4,10,11,12],[],1640,[]⟩ .z) (.s .z (.s (.j ⟨[(13,.v af),(14,.v af)],[(0,.l (.st SI.span))],[0,1,2,3,4,10,11,12],[],2280,[]⟩ .z) (.s (.jx ⟨[],[(0,.l (.st SI.span))],[0,1,2,3,4,10,11,12,13],[],2280,[]⟩ (.s (.j ⟨[(75,.v .bool)],[],[0,1,2,3,4,10,11,12,13],[0],2280,[]⟩ .z) .z)) (.s (.s (.j ⟨[(97,.v .bool)],[],[0,1,2,3,4,10,11,12,13],[0],2280,[]⟩ .z) .z) .z))))))))))
theorem Ca(rc:((List aD))->(Int)->(Int)->(Int)->((aD×aD×Unit)->Option Int)->Option (List aD))(hr:aH 216 (kZ rc)):aH 216 (kZ (jb n rc)) :=cq (au (wE n) (au (BZ n) (au (wH n) (au yX (au (yA n) (au (qD n) (au (vD n) (au (Bf n) (au hr aB))))))))) func216 Ee n
theorem qL(n:Nat):∀m,aH 216 (kZ (eD n m))
 | 0=>xi (nP func216 (by kernel_rfl:Tryz.f216.body=some (Tryz.f216.body.getD .skip)) (by kernel_rfl)) (λ _ _ h=>(by cases h)) rfl
 |m+1=>Ca n _ (qL n m)
def Ef:bz xx:=⟨[.mut (.st SI.span),.d af,.d af,.d af,.cT [.st SI.span,.st SI.span] af],[.mu (.st SI.span)],λa=>nZ n a.1 a.2.1 a.2.2.1 a.2.2.2.1 a.2.2.2.2.1,none⟩
theorem Eg:aH 216 (Ef n):=qL n n
def NZ:bz xx:=⟨[.mut (.st SI.span),.cT [.st SI.span,.st SI.span] af],[.mu (.st SI.span)],λa=>qh n a.1 a.2.1,none⟩
theorem N7:aH 193 (NZ n) :=cq (au Ij (au (Eg n) aB)) func193 .z n
def Qv:bz xx:=⟨[.d af,.d af],[.d af],λa=>cmp_Compare_int a.1 a.2.1,none⟩
theorem pF:aH 103 Qv :=cq (au IL aB) func103 .z 0
def YS:bz xx:=⟨[.d (.st SI.span),.d (.st SI.span)],[.d af],λa=>zB a.1 a.2.1,none⟩
theorem YT:aH 194 YS :=cq (au pF aB) func194 .z 0
def afo:bz xx:=⟨[.d (.sl ax),.d af],[.fresh (.st SI.span)],λa=>LW n a.1 a.2.1,none⟩
def afp:Hn SI:=(cg (.s (.s .z (.b (.l ⟨[(5,.o 1320),(14,.v af)],[(1320,.l (.st SI.span))],[1,12,13],[],1321,[(5,.st SI.span)]⟩ 0 ⟨[(5,.o 1320)],[(1320,.l (.st SI.span))],[],[],1321,[]⟩ (cg (.s (.j ⟨[(5,.o 1385)],[(1385,.l (.st SI.span))],[1,12,13,14],[],1386,[]⟩ (.b (.s .z (.s (.j ⟨[(27,.v .bool)],[],[1,5,7,12,13,14],[1320,1513],1641,[]⟩ .z) .z)))) .z))))) (cg (.s (.s .z (.b (.l ⟨[(8,.o 1705),(41,.v af)],[(1705,.l (.st SI.span))],[39,40],[1320],1706,[(8,.st SI.span)]⟩ 2 ⟨[(8,.o 1705)],[(1705,.l (.st SI.span))],[],[],1706,[]⟩ (cg (.s (.j ⟨[(8,.o 1770)],[(1770,.l (.st SI.span))],[39,40,41],[1320],1771,[]⟩ (.b (cg (.s (.j ⟨[(59,.v .bool)],[],[8,10,11,39,40,41],[1320,1705,1898],2218,[]⟩ .z) .z)))) .z))))) .z))))
theorem afq:aH 154 (afo n) :=cq (au (N7 n) (au YT aB)) func154 afp n
def afr:bz xx:=⟨[.d (.sl (.sl ax))],[.fresh (.st SI.strip)],λa=>oP n a.1,none⟩
def afs:Hn SI:=(ef (.s (.s .z (.b (.l ⟨[(4,.o 1512),(13,.v af)],[(1512,.l af)],[3,11,12],[1128],1513,[(4,af)]⟩ 0 ⟨[(4,.o 1512)],[(1512,.l af)],[3],[1128],1513,[]⟩ .z))) (ef (.s (.s .z (.b (.l ⟨[(7,.o 1961),(8,.v af)],[(1961,.l (.st SI.strip))],[3,4],[1128,1512],1962,[(7,.st SI.strip)]⟩ 2 ⟨[(7,.o 1961)],[(1961,.l (.st SI.strip))],[],[],1962,[]⟩ .z))) .z))))
theorem Uj:aH 122 (afr n) :=cq (au (Sd n) (au (xh n) (au (wB n) (au (afq n) aB)))) func122 afs n
def UM:bz xx:=⟨[.d (.sl (.st SI.span)),.d (.sl (.st SI.span))],[.d .bool],λa=>wT n a.1 a.2.1,none⟩
def UN:Hn SI:=(cg (.s (.s .z (.b (.lx ⟨[(13,.v af)],[],[0,1,12],[],1576,[]⟩ 0 ⟨[],[],[],[],1576,[]⟩ .z))) .z))
theorem UO:aH 151 (UM n) :=cq aB func151 UN n
def ahw:bz xx:=⟨[.d (.sl (.st SI.strip))],[.fresh ax],λa=>KE n a.1,none⟩
def ahx:Hn SI:=(cg (.s (.s .z (.b (.l ⟨[(3,.o 1192),(4,.v af)],[(1192,.l ax)],[0],[],1193,[(3,ax)]⟩ 0 ⟨[(3,.o 1192)],[(1192,.l ax)],[],[],1193,[]⟩ (.s .z (.b (.s .z (.s (.b (.l ⟨[(5,.v af)],[],[0,3,4],[1192],1641,[]⟩ 2 ⟨[(5,.v af)],[],[0,3,4],[1192],1641,[]⟩ (.s (.s (.j ⟨[(30,.v .bool)],[],[0,3,4,5],[1192],1641,[]⟩ .z) .z) .z))) (.s (.s .z (.b (.l ⟨[(3,.o 2089),(39,.v af)],[(2089,.l ax)],[0,4,5,37,38],[],2090,[]⟩ 4 ⟨[(3,.o 2089)],[(2089,.l ax)],[0,5],[],2090,[]⟩ .z))) .z)))))))) .z))
theorem YU:aH 121 (ahw n) :=cq (au (UO n) aB) func121 ahx n
def ac8:bz xx:=⟨[.d (.sl ax)],[.d (.sl ax),.d af],λa=>AR a.1,none⟩
theorem Qw:aH 120 ac8 :=cq aB func120 .z 0
def amU:bz xx:=⟨[.d (.sl ax)],[.d (.sl ax),.d af],λa=>Lq n a.1,none⟩
def amV:Hn SI:=(.s .z (.s (.s .z (.b (.lx ⟨[(8,.v af)],[],[0,6,7],[],1320,[]⟩ 0 ⟨[],[],[0],[],1320,[]⟩ .z))) .z))
theorem amW:aH 78 (amU n) :=cq (au qy (au (Uj n) (au (YU n) (au Qw aB)))) func78 amV n
def UQ:bz xx:=⟨[.d (.sl ax),.d (.sl ax)],[.d .bool],λa=>oQ n a.1 a.2.1,none⟩
def UR:Hn SI:=(cg (.s (.s .z (.b (.lx ⟨[(13,.v af)],[],[0,1,12],[],1576,[]⟩ 0 ⟨[],[],[],[],1576,[]⟩ .z))) .z))
theorem IQ:aH 79 (UQ n) :=cq aB func79 UR n
def ahy:bz xx:=⟨[.d (.sl ax)],[.d .bool],λa=>oH n a.1,none⟩
theorem p8:aH 40 (ahy n) :=cq (au (amW n) (au (IQ n) aB)) func40 .z n
def vE:bz xx:=⟨[.d (.sl (.st SI.strip)),.d af,.cT [.st SI.strip,af] af],[.d af,.d .bool],λa=>jh n a.1 a.2.1 a.2.2.1,none⟩
def vF:Hn SI:=(ef (.s (.b (.l ⟨[(9,.v af),(10,.v af)],[],[0,1,2,8],[],1512,[]⟩ 0 ⟨[(9,.v af)],[],[0,1,2,8],[],1512,[]⟩ .z)) .z))
theorem vG:aH 162 (vE n) :=cq aB func162 vF n
def ahz:bz xx:=⟨[.d (.st SI.strip),.d af],[.d af],λa=>xQ a.1 a.2.1,none⟩
theorem ahA:aH 163 ahz :=cq aB func163 .z 0
def amX:bz xx:=⟨[.d (.sl (.st SI.strip)),.d af],[.d (.sl (.st SI.span))],λa=>Ya n a.1 a.2.1,none⟩
def amY:Hn SI:=(cg (.s (.s (.j ⟨[(25,.v .bool)],[],[0,5],[],1576,[]⟩ .z) .z) .z))
theorem amZ:aH 128 (amX n) :=cq (au (vG n) (au ahA aB)) func128 amY n
def YV:bz xx:=⟨[.nil,.d af],[.fresh (.st SI.span)],λa=>PO a.1 a.2.1,none⟩
theorem YW:aH 196 YV :=cq aB func196 .z 0
def Sj:bz xx:=⟨[.d (.sl (.sl (.st SI.span)))],[.fresh (.st SI.span)],λa=>AU n a.1,none⟩
def Sk:Hn SI:=(cg (.s (.s .z (.b (.l ⟨[(3,.v af),(11,.v af)],[],[0,9,10],[],1320,[]⟩ 0 ⟨[(3,.v af)],[],[0],[],1320,[]⟩ .z))) (.s .z (.s (.s .z (.b (.l ⟨[(6,.o 1704),(27,.v af)],[(1704,.l (.st SI.span))],[25,26],[],1705,[]⟩ 2 ⟨[(6,.o 1704)],[(1704,.l (.st SI.span))],[],[],1705,[]⟩ .z))) .z))))
theorem Sl:aH 160 (Sj n) :=cq (au YW aB) func160 Sk n
def wI:bz xx:=⟨[.d (.sl (.st SI.span)),.d af,.cT [.st SI.span,af] af],[.d af,.d .bool],λa=>jD n a.1 a.2.1 a.2.2.1,none⟩
def wJ:Hn SI:=(ef (.s (.b (.l ⟨[(9,.v af),(10,.v af)],[],[0,1,2,8],[],1512,[]⟩ 0 ⟨[(9,.v af)],[],[0,1,2,8],[],1512,[]⟩ .z)) .z))
theorem wK:aH 197 (wI n) :=cq aB func197 wJ n
def YX:bz xx:=⟨[.d (.st SI.span),.d af],[.d af],λa=>l5 a.1 a.2.1,none⟩
theorem YZ:aH 198 YX :=cq aB func198 .z 0
def aft:bz xx:=⟨[.d (.sl (.st SI.span)),.d af],[.d .bool],λa=>FC n a.1 a.2.1,none⟩
theorem afu:aH 161 (aft n) :=cq (au (wK n) (au YZ aB)) func161 .z n
def ahB:bz xx:=⟨[.d (.sl (.st SI.span)),.d (.sl (.st SI.span)),.cT [.bool,.bool] .bool],[.fresh (.st SI.span)],λa=>KF n a.1 a.2.1 a.2.2.1,none⟩
def ahC:Hn SI:=(cg (.s (.s .z (.b (.l ⟨[(7,.o 1512),(19,.v af)],[(1512,.l af)],[0,1,2,17,18],[1320],1513,[(7,af)]⟩ 0 ⟨[(7,.o 1512)],[(1512,.l af)],[0,1,2],[],1513,[]⟩ .z))) (ef (.s (.s .z (.b (.l ⟨[(10,.o 1961),(11,.v af)],[(1961,.l (.st SI.span))],[0,1,2,7],[1512],1962,[(10,.st SI.span)]⟩ 2 ⟨[(10,.o 1961)],[(1961,.l (.st SI.span))],[],[],1962,[]⟩ (.s .z (.s (.j ⟨[(10,.o 2218)],[(2218,.l (.st SI.span))],[0,1,2,7,11],[1512],2219,[]⟩ (.b (ef (.s (.j ⟨[(68,.v .bool)],[],[0,1,2,7,10,11,12,13],[1512,1961],3370,[]⟩ .z) .z)))) .z))))) .z))))
theorem ahD:aH 127 (ahB n) :=cq (au (Sl n) (au (xh n) (au (wB n) (au (afu n) aB)))) func127 ahC n
def ac9:bz xx:=⟨[.d (.sl ax),.d (.sl ax),.cT [.bool,.bool] .bool],[.d (.sl ax),.d af],λa=>Hl n a.1 a.2.1 a.2.2.1,none⟩
def ada:Hn SI:=(.s .z (.s (.s (.j ⟨[(20,.v .bool)],[],[0,1,2],[],1128,[]⟩ .z) .z) (.s (.f [6,7]) (.s .z (.s (.s .z (.b (.l ⟨[(33,.v af)],[(1832,.l (.st SI.strip))],[2,8,9,10,31,32],[],2152,[]⟩ 0 ⟨[],[(1832,.l (.st SI.strip))],[10],[],2152,[]⟩ .z))) .z)))))
theorem adb:aH 89 (ac9 n) :=cq (au (p8 n) (au (Uj n) (au (amZ n) (au (ahD n) (au (YU n) (au Qw aB)))))) func89 ada n
def Y0:bz xx:=⟨[.d .bool,.d .bool],[.d .bool],λa=>zC a.1 a.2.1,none⟩
theorem Y1:aH 90 Y0 :=cq aB func90 .z 0
def afv:bz xx:=⟨[.d (.sl ax),.d (.sl ax)],[.d (.sl ax),.d af],λa=>LX n a.1 a.2.1,none⟩
theorem afw:aH 47 (afv n) :=cq (au (adb n) (au Y1 aB)) func47 .z n
def alR:bz xx:=⟨[.d ax],[.d af],λa=>AX a.1,none⟩
theorem K9:aH 49 alR :=cq (au Ui aB) func49 .z 0
def ajZ:bz xx:=⟨[.d (.sl ax)],[.d af],λa=>PV n a.1,none⟩
def aj0:Hn SI:=(ef (.s (.s .z (.b (.l ⟨[(3,.v af),(11,.v af)],[],[9,10],[],1512,[]⟩ 0 ⟨[(3,.v af)],[],[],[],1512,[]⟩ .z))) .z))
theorem abF:aH 48 (ajZ n) :=cq (au (p8 n) (au K9 aB)) func48 aj0 n
def N8:bz xx:=⟨[.d bH,.ref (.st SI.Entry)],[.d .bool],λa=>vX a.1 a.2.1,none⟩
theorem N9:aH 51 N8 :=cq aB func51 .z 0
def Oa:bz xx:=⟨[.d (.sl bH),.cT [bH] .bool],[.d af],λa=>vY n a.1 a.2.1,none⟩
def Ob:Hn SI:=(.s .z (.s (.s .z (.b (.lx ⟨[(8,.v af)],[],[0,1,7],[],1256,[]⟩ 0 ⟨[],[],[],[],1256,[]⟩ .z))) .z))
theorem Oc:aH 92 (Oa n) :=cq aB func92 Ob n
def Jk:bz xx:=⟨[.d (.sl bH),.cT [bH] .bool],[.d .bool],λa=>ny n a.1 a.2.1,none⟩
theorem Jl:aH 50 (Jk n) :=cq (au (Oc n) aB) func50 .z n
def UU:bz xx:=⟨[.d (.st SI.lf),.d (.st SI.Lot),.d fB],[.d .bool],λa=>oU n a.1 a.2.1 a.2.2.1,none⟩
def UW:Hn SI:=(.s .z (.s (.s (.j ⟨[(30,.v .bool)],[],[3,4,5],[1000,1064,1128],1256,[]⟩ .z) .z) (.s (.s .z (.b (.lx ⟨[(34,.v af)],[],[3,4,5,32,33],[1000,1064,1128,1320],1512,[]⟩ 0 ⟨[],[],[3,5],[1000,1128],1512,[]⟩ (cg (.s (.b (cg (.s (.j ⟨[(58,.v .bool)],[],[3,4,5,32,33,34],[1000,1064,1128,1320],2600,[]⟩ .z) .z))) .z))))) (.s (.s .z (.b (.lx ⟨[(63,.v af)],[],[3,61,62],[1000],1768,[]⟩ 2 ⟨[],[],[],[],1768,[]⟩ (cg (.s (.b (cg (.b (.lx ⟨[(70,.v af)],[],[3,61,62,63,68,69],[1000],2344,[]⟩ 4 ⟨[],[],[3,61,62,63],[1000],2344,[]⟩ .z)))) .z))))) .z))))
theorem UX:aH 25 (UU n) :=cq (au (YO n) (au (p8 n) (au (Nh n) (au (afw n) (au (abF n) (au K9 (au (Jl n) (au N9 aB)))))))) func25 UW n
def Sm:bz xx:=⟨[.d fB],[.fresh aI],λa=>uL n a.1,none⟩
def Sn:Hn SI:=(cg (.s (.s .z (.b (.l ⟨[(3,.o 1448),(9,.v af)],[(1448,.l aI)],[7,8],[],1449,[(3,aI)]⟩ 0 ⟨[(3,.o 1448)],[(1448,.l aI)],[],[],1449,[]⟩ .z))) .z))
theorem Sq:aH 26 (Sm n) :=cq aB func26 Sn n
def Sr:bz xx:=⟨[.d (.sl (.st SI.iv))],[.fresh (.st SI.side)],λa=>pV n a.1,none⟩
def Sv:Hn SI:=(cg (.s (.s .z (.b (.l ⟨[(10,.v af)],[(1192,.l (.st SI.side))],[0,3,9],[],1512,[]⟩ 0 ⟨[],[(1192,.l (.st SI.side))],[3],[],1512,[]⟩ .z))) .z))
theorem FX:aH 165 (Sr n) :=cq aB func165 Sv n
def Sw:bz xx:=⟨[.d (.st SI.iv)],[.d .bool],λa=>uM a.1,none⟩
theorem Sy:aH 199 Sw :=cq aB func199 .z 0
def Io:bz xx:=⟨[.d (.st SI.side)],[.d .bool],λa=>gU a.1,none⟩
theorem vg:aH 166 Io :=cq aB func166 .z 0
def ade:bz xx:=⟨[.d (.sl af)],[.d af],λa=>sQ n a.1,none⟩
def adf:Hn SI:=(cg (.s (.s .z (.b (.lx ⟨[(8,.v af)],[],[3,6,7],[],1320,[]⟩ 0 ⟨[],[],[3],[],1320,[]⟩ .z))) .z))
theorem Qx:aH 129 (ade n) :=cq aB func129 adf n
def Qy:bz xx:=⟨[.d (.st SI.iv),.d (.st SI.iv)],[.d af],λa=>sj n a.1 a.2.1,none⟩
theorem Qz:aH 200 (Qy n) :=cq (au pF (au (Qx n) aB)) func200 .z n
def Ip:bz xx:=⟨[.d (.st SI.side),.d (.st SI.side)],[.d .bool],λa=>l6 a.1 a.2.1,none⟩
theorem Iq:aH 201 Ip :=cq aB func201 .z 0
def UY:bz xx:=⟨[.d (.sl (.st SI.iv))],[.d .bool],λa=>wV n a.1,none⟩
def UZ:Hn SI:=(.s .z (.s (.s (.j ⟨[(16,.v .bool)],[],[0],[],1064,[]⟩ .z) .z) (.s .z (.s (.s .z (.b (.lx ⟨[(21,.v af)],[],[0,3,19,20],[1128],1448,[]⟩ 0 ⟨[],[],[3],[1128],1448,[]⟩ (cg (.s (.b (cg (.s (.s (.j ⟨[(61,.v .bool)],[],[0,3,4,19,20,21],[1128],2536,[]⟩ .z) .z) (.s (.j ⟨[(74,.v .bool)],[],[0,3,19,20,21],[1128],2536,[]⟩ .z) .z)))) .z))))) (.s (.s .z (.b (.lx ⟨[(78,.v af)],[],[3,77],[1128],1640,[]⟩ 2 ⟨[],[],[3],[1128],1640,[]⟩ (cg (.s (.b (cg (.b (.lx ⟨[(8,.v af)],[],[3,7,77,78],[1128],2024,[]⟩ 4 ⟨[],[],[3,77,78],[1128],2024,[]⟩ (.s .z (.s (.b (.s (.j ⟨[(106,.v .bool)],[],[3,7,8,77,78],[1128],2280,[]⟩ .z) .z)) .z)))))) .z))))) .z)))))
theorem U0:aH 164 (UY n) :=cq (au (FX n) (au Sy (au vg (au (Qz n) (au Iq aB))))) func164 UZ n
def Sz:bz xx:=⟨[.d (.sl (.st SI.iv))],[.fresh ax,.d af],λa=>uN n a.1,none⟩
def SA:Hn SI:=(ef (.s (.s .z (.b (.l ⟨[(4,.o 1576),(19,.v af)],[(1576,.l af)],[0,17,18],[],1577,[(4,af)]⟩ 0 ⟨[(4,.o 1576)],[(1576,.l af)],[0],[],1577,[]⟩ .z))) (rb (.s (.s .z (.b (.l ⟨[(8,.o 2409),(38,.v af)],[(2409,.l ax)],[4,7,37],[1576,1961],2410,[(8,ax)]⟩ 2 ⟨[(8,.o 2409)],[(2409,.l ax)],[],[],2410,[]⟩ (cg (.s (.b (cg (.s (.s .z (.b (.l ⟨[(10,.o 2858),(43,.v af)],[(2858,.l af)],[4,7,8,9,37,38,41,42],[1576,1961,2409],2859,[(10,af)]⟩ 4 ⟨[(10,.o 2858)],[(2858,.l af)],[4,7,8,9,37,38],[1576,1961,2409],2859,[]⟩ (cg (.s (.j ⟨[(10,.o 2923)],[(2923,.l af)],[4,7,8,9,37,38,41,42,43],[1576,1961,2409],2924,[]⟩ (.b (.s .z (.s (.j ⟨[(77,.v .bool)],[],[4,7,8,9,10,12,37,38,41,42,43],[1576,1961,2409,2858,3051],3179,[]⟩ .z) .z)))) .z))))) (cg (.b (.l ⟨[(8,.o 3051),(13,.v af)],[(3051,.l ax)],[4,7,9,10,37,38],[1576,1961,2858],3052,[]⟩ 6 ⟨[(8,.o 3051)],[(3051,.l ax)],[4,7,37,38],[1576,1961],3052,[]⟩ .z)))))) .z))))) .z))))
theorem SB:aH 130 (Sz n) :=cq (au (U0 n) (au (xh n) (au (wB n) (au (FX n) (au vg aB))))) func130 SA n
def Y2:bz xx:=⟨[.d bC],[.fresh ax],λa=>zF n a.1,none⟩
theorem Y3:aH 94 (Y2 n) :=cq (au (SB n) aB) func94 .z n
def U1:bz xx:=⟨[.d (.sl ax),.d (.sl ax)],[.d af,.d (.st SI.iv)],λa=>wW n a.1 a.2.1,none⟩
def U2:Hn SI:=(cg (.s (.s .z (.b (.l ⟨[(6,.v af),(18,.v af)],[(1192,tE)],[1,5,7,16,17],[1064],1576,[]⟩ 0 ⟨[(6,.v af)],[(1192,tE)],[5,7],[1064],1576,[]⟩ (cg (.s (.b (cg (.b (.l ⟨[(6,.v af),(24,.v af)],[(1192,tE)],[1,5,7,9,16,17,18,22,23],[1064,1768],2088,[]⟩ 2 ⟨[(6,.v af)],[(1192,tE)],[1,5,7,16,17,18],[1064],2088,[]⟩ (cg (.s (.j ⟨[(6,.v af)],[(1192,tE)],[1,5,7,9,16,17,18,22,23,24],[1064,1768],2152,[]⟩ .z) .z)))))) .z))))) .z))
theorem U3:aH 93 (U1 n) :=cq (au D5 (au K9 (au pF (au (Qx n) aB)))) func93 U2 n
def U4:bz xx:=⟨[.d (.st SI.lf),.d (.sl ax)],[.fresh af],λa=>wX n a.1 a.2.1,none⟩
def U5:Hn SI:=(ef (.s (.s .z (.b (.l ⟨[(5,.o 1640),(16,.v af)],[(1640,.l af)],[1,14,15],[],1641,[(5,af)]⟩ 0 ⟨[(5,.o 1640)],[(1640,.l af)],[],[],1641,[]⟩ .z))) .z))
theorem U6:aH 52 (U4 n) :=cq (au (p8 n) (au (Y3 n) (au (U3 n) aB))) func52 U5 n
def afx:bz xx:=⟨[.d (.st SI.lf),.d (.sl ax)],[.fresh .str],λa=>FD n a.1 a.2.1,none⟩
def afy:Hn SI:=(ef (.s (.s .z (.b (.l ⟨[(6,.v af),(17,.v af)],[],[2,5,15,16],[1000,1256],1640,[]⟩ 0 ⟨[(6,.v af)],[],[2,5],[1000,1256],1640,[]⟩ (cg (.s (.j ⟨[(6,.v af)],[],[2,5,15,16,17],[1000,1256],1704,[]⟩ (.b (.s .z (.s (.j ⟨[(44,.v .bool)],[],[2,5,6,7,15,16,17],[1000,1256],2024,[]⟩ .z) .z)))) .z))))) (.s .z (.s (.s .z (.b (.l ⟨[(9,.o 1896),(49,.v af)],[(1896,.l .str)],[2,6,47,48],[1000,1256],1897,[(9,.str)]⟩ 2 ⟨[(9,.o 1896)],[(1896,.l .str)],[],[],1897,[]⟩ (cg (.s (.j ⟨[(9,.o 1961)],[(1961,.l .str)],[2,6,47,48,49],[1000,1256],1962,[]⟩ (.b (.s .z (.s (.j ⟨[(68,.v .bool)],[],[2,6,9,10,47,48,49],[1000,1256,1896],2281,[]⟩ .z) .z)))) .z))))) .z))))
theorem afz:aH 27 (afx n) :=cq (au (U6 n) aB) func27 afy n
def aan:bz xx:=⟨[.d (.st SI.jt),.d fB],[.d (.st SI.j8),.d af],λa=>xU n a.1 a.2.1,none⟩
theorem Ni:aH 15 (aan n) :=cq (au (ajX n) (au (UX n) (au (Sq n) (au (afz n) aB)))) func15 .z n
def QA:bz xx:=⟨[.d (.sl .str),.d .str],[.d af],λa=>sw n a.1 a.2.1,none⟩
def QB:Hn SI:=(.s .z (.s (.s .z (.b (.lx ⟨[(8,.v af)],[],[0,1,7],[],1256,[]⟩ 0 ⟨[],[],[],[],1256,[]⟩ .z))) .z))
theorem QC:aH 28 (QA n) :=cq aB func28 QB n
def La:bz xx:=⟨[.d (.sl .str),.d .str],[.d .bool],λa=>fM n a.1 a.2.1,none⟩
theorem p9:aH 17 (La n) :=cq (au (QC n) aB) func17 .z n
def Od:bz xx:=⟨[.d .str,.ref (.sl .str)],[.d .bool],λa=>kC n a.1 a.2.1,none⟩
theorem Oe:aH 53 (Od n) :=cq (au (p9 n) aB) func53 .z n
def Jm:bz xx:=⟨[.d (.sl .str),.cT [.str] .bool],[.d af],λa=>qU n a.1 a.2.1,none⟩
def Jo:Hn SI:=(.s .z (.s (.s .z (.b (.lx ⟨[(8,.v af)],[],[0,1,7],[],1256,[]⟩ 0 ⟨[],[],[],[],1256,[]⟩ .z))) .z))
theorem Jp:aH 95 (Jm n) :=cq aB func95 Jo n
def Eh:bz xx:=⟨[.d (.sl .str),.cT [.str] .bool],[.d .bool],λa=>fU n a.1 a.2.1,none⟩
theorem Ei:aH 54 (Eh n) :=cq (au (Jp n) aB) func54 .z n
def U7:bz xx:=⟨[.d bf,.d (.sl .str)],[.d .bool],λa=>rJ n a.1 a.2.1,none⟩
theorem U8:aH 29 (U7 n) :=cq (au (Ei n) (au (Oe n) aB)) func29 .z n
def Y4:bz xx:=⟨[.d (.st SI.lf),.d (.sl .str),.d af],[.fresh af],λa=>uO n a.1 a.2.1 a.2.2.1,none⟩
def Y5:Hn SI:=(cg (.s (.s .z (.b (.l ⟨[(7,.o 1448),(13,.v af)],[(1448,.l af)],[1,2,11,12],[],1449,[(7,af)]⟩ 0 ⟨[(7,.o 1448)],[(1448,.l af)],[],[],1449,[]⟩ (cg (.s (.j ⟨[(7,.o 1513)],[(1513,.l af)],[1,2,11,12,13],[],1514,[]⟩ (.b (.s .z (.s (.j ⟨[(37,.v .bool)],[],[1,2,7,8,11,12,13],[1448],1897,[]⟩ .z) .z)))) .z))))) .z))
theorem Y6:aH 18 (Y4 n) :=cq (au (U8 n) aB) func18 Y5 n
def wL:bz xx:=⟨[.mut ax,.d af,.d af,.cT [ax,ax] af],[.mu ax],λa=>yN n a.1 a.2.1 a.2.2.1 a.2.2.2.1,none⟩
def wM:Hn SI:=(.s .z (.b (.l ⟨[(8,.v af)],[(0,.l ax)],[0,1,2,3],[],1192,[]⟩ 0 ⟨[],[(0,.l ax)],[],[],1192,[]⟩ (.s .z (.s (.b (.s .z (.b (.l ⟨[(9,.v af)],[(0,.l ax)],[0,1,2,3,8],[],1512,[]⟩ 2 ⟨[],[(0,.l ax)],[0,1,2,3,8],[],1512,[]⟩ (.s (.s (.j ⟨[(34,.v .bool)],[],[0,1,2,3,8,9],[0],1512,[]⟩ .z) .z) .z))))) .z)))))
theorem wN:aH 172 (wL n) :=cq aB func172 wM n
def Cb:bz xx:=⟨[.mut ax,.d af,.d af,.d af,.cT [ax,ax] af],[.mu ax],λa=>FE n a.1 a.2.1 a.2.2.1 a.2.2.2.1 a.2.2.2.2.1,none⟩
def Cc:Hn SI:=(.s .z (.b (.lx ⟨[(10,.v af)],[(0,.l ax)],[0,2,3,4],[],1128,[]⟩ 0 ⟨[],[(0,.l ax)],[],[],1128,[]⟩ (.b (cg (.s (.j ⟨[(11,.v af)],[],[0,2,3,4,10],[0],1576,[]⟩ (.s (.j ⟨[(40,.v .bool)],[],[0,2,3,4,10,11],[0],1576,[]⟩ .z) .z)) .z))))))
theorem Ce:aH 208 (Cb n) :=cq aB func208 Cc n
def Cf:bz xx:=⟨[.mut ax,.d af,.d af,.cT [ax,ax] af],[.mu ax],λa=>FH n a.1 a.2.1 a.2.2.1 a.2.2.2.1,none⟩
def Cg:Hn SI:=(ef (.s (.s .z (.b (.l ⟨[(11,.v af)],[(0,.l ax)],[0,3,8,9,10],[],1704,[]⟩ 0 ⟨[],[(0,.l ax)],[0,3,8,9,10],[],1704,[]⟩ .z))) (.s .z (.b (.l ⟨[(12,.v af)],[(0,.l ax)],[0,3,8,9],[],1896,[]⟩ 2 ⟨[],[(0,.l ax)],[],[],1896,[]⟩ .z)))))
theorem Ch:aH 173 (Cf n) :=cq (au (Ce n) aB) func173 Cg n
def wO:bz xx:=⟨[.mut ax,.d af,.d af,.cT [ax,ax] af],[.mu ax],λa=>yO n a.1 a.2.1 a.2.2.1 a.2.2.2.1,none⟩
def wP:Hn SI:=(cg (.s (ef (.b (.l ⟨[(11,.v af)],[(0,.l ax),(1512,yf)],[0,1,8,9,10],[],2280,[]⟩ 0 ⟨[],[(0,.l ax)],[],[],2280,[]⟩ (.s .z (.s (.b (.s .z (.s (.j ⟨[(12,.v af)],[],[0,1,8,9,10,11],[0,1512],3176,[]⟩ .z) .z))) .z))))) .z))
theorem wQ:aH 174 (wO n) :=cq (au q8 (au tq aB)) func174 wP n
def FY:bz xx:=⟨[.d (.sl ax),.d af,.d af,.fp af,.cT [ax,ax] af],[.d af,.d af,.mr af],λa=>IZ a.1 a.2.1 a.2.2.1 a.2.2.2.1 a.2.2.2.2.1,none⟩
theorem FZ:aH 228 FY :=cq aB func228 .z 0
def F3:bz xx:=⟨[.d (.sl ax),.d af,.d af,.d af,.fp af,.cT [ax,ax] af],[.d af,.mr af],λa=>I4 a.1 a.2.1 a.2.2.1 a.2.2.2.1 a.2.2.2.2.1 a.2.2.2.2.2.1,none⟩
theorem uh:aH 212 F3 :=cq (au FZ aB) func212 .z 0
def vH:bz xx:=⟨[.d (.sl ax),.d af,.fp af,.cT [ax,ax] af],[.d af,.mr af],λa=>xV a.1 a.2.1 a.2.2.1 a.2.2.2.1,none⟩
theorem vI:aH 211 vH :=cq (au uh aB) func211 .z 0
def yY:bz xx:=⟨[.d (.sl ax),.d af,.d af,.cT [ax,ax] af],[.d af,.d af],λa=>AY a.1 a.2.1 a.2.2.1 a.2.2.2.1,none⟩
def yZ:Hn SI:=(yi (.s (.j ⟨[(13,.v af)],[(1384,tc)],[11],[],2600,[]⟩ (.s .z (.s (.s (.j ⟨[(12,.v af),(13,.v af),(14,.v af)],[(1384,tc)],[0,3,11],[],2728,[]⟩ .z) .z) .z))) .z))
theorem y5:aH 175 yY :=cq (au vI (au uh aB)) func175 yZ 0
def yB:bz xx:=⟨[.mut ax,.d af,.d af,.cT [ax,ax] af],[.mu ax],λa=>zH n a.1 a.2.1 a.2.2.1 a.2.2.2.1,none⟩
def yC:Hn SI:=(cg (.b (.l ⟨[(8,.v af),(9,.v af)],[(0,.l ax)],[0],[],1320,[]⟩ 0 ⟨[],[(0,.l ax)],[],[],1320,[]⟩ .z)))
theorem yD:aH 176 (yB n) :=cq aB func176 yC n
def qE:bz xx:=⟨[.mut ax,.d af,.d af,.cT [ax,ax] af],[.d .bool,.mu ax],λa=>rM n a.1 a.2.1 a.2.2.1 a.2.2.2.1,none⟩
def qF:Hn SI:=(cg (.s (.s .z (.b (.lx ⟨[(9,.v af),(10,.v af)],[(0,.l ax)],[0,1,2,3],[],1320,[]⟩ 0 ⟨[],[(0,.l ax)],[],[],1320,[]⟩ (.s .z (.s (.jx ⟨[(9,.v af)],[(0,.l ax)],[0,1,2,3,10],[],1448,[]⟩ (.b (.s (.b (.l ⟨[(9,.v af)],[],[0,1,2,3,10],[0],1448,[]⟩ 2 ⟨[(9,.v af)],[],[0,1,2,3,10],[0],1448,[]⟩ (.s (.s (.j ⟨[(36,.v .bool)],[],[0,1,2,3,9,10],[0],1448,[]⟩ .z) .z) .z))) (ef (.s (.j ⟨[],[(0,.l ax)],[0,1,2,3,9,10],[],3048,[]⟩ (.s .z (.s (.s .z (.b (.l ⟨[(11,.v af)],[(0,.l ax)],[0,1,2,3,9,10],[],3496,[]⟩ 4 ⟨[],[(0,.l ax)],[0,1,2,3,9,10],[],3496,[]⟩ .z))) .z))) (.s .z (.s (.s .z (.b (.l ⟨[(12,.v af)],[(0,.l ax)],[0,1,2,3,9,10],[],3496,[]⟩ 6 ⟨[],[(0,.l ax)],[0,1,2,3,9,10],[],3496,[]⟩ .z))) .z))))))) .z))))) .z))
theorem qG:aH 177 (qE n) :=cq aB func177 qF n
def vJ:bz xx:=⟨[.mut ax,.d af,.d af,.d af,.cT [ax,ax] af],[.d af,.mu ax],λa=>xW n a.1 a.2.1 a.2.2.1 a.2.2.2.1 a.2.2.2.2.1,none⟩
def vK:Hn SI:=(ef (.s (.b (.l ⟨[(11,.v af),(12,.v af)],[(0,.l ax)],[0,1,4],[],2472,[]⟩ 0 ⟨[(11,.v af)],[(0,.l ax)],[],[],2472,[]⟩ (.b (.s (.b (.l ⟨[(11,.v af)],[],[0,1,4,12],[0],2472,[]⟩ 2 ⟨[(11,.v af)],[],[0,1,4,12],[0],2472,[]⟩ (.s (.s (.j ⟨[(47,.v .bool)],[],[0,1,4,11,12],[0],2472,[]⟩ .z) .z) .z))) (.s (.b (.l ⟨[(12,.v af)],[],[0,1,4,11],[0],2472,[]⟩ 4 ⟨[(12,.v af)],[],[0,1,4,11],[0],2472,[]⟩ (.s (.s (.j ⟨[(65,.v .bool)],[],[0,1,4,11,12],[0],2472,[]⟩ .z) .z) .z))) .z))))) .z))
theorem vL:aH 178 (vJ n) :=cq aB func178 vK n
def Bg:bz xx:=⟨[.mut ax,.d af,.d af,.d af,.cT [ax,ax] af],[.d af,.d .bool,.mu ax],λa=>DK n a.1 a.2.1 a.2.2.1 a.2.2.2.1 a.2.2.2.2.1,none⟩
def Bh:Hn SI:=(ef (.s (.b (.l ⟨[(12,.v af)],[],[0,1,4,13],[0],2536,[]⟩ 0 ⟨[(12,.v af)],[],[0,1,4,13],[0],2536,[]⟩ (.s (.s (.j ⟨[(47,.v .bool)],[],[0,1,4,12,13],[0],2536,[]⟩ .z) .z) .z))) (.s (.b (.l ⟨[(13,.v af)],[],[0,1,4,12],[0],2536,[]⟩ 2 ⟨[(13,.v af)],[],[0,1,4,12],[0],2536,[]⟩ (.s (.s (.j ⟨[(66,.v .bool)],[],[0,1,4,12,13],[0],2536,[]⟩ .z) .z) .z))) (rb (.s (.b (.l ⟨[(12,.v af),(13,.v af)],[(0,.l ax)],[0,1,4],[],4136,[]⟩ 4 ⟨[(13,.v af)],[(0,.l ax)],[0,1],[],4136,[]⟩ (.b (.s (.b (.l ⟨[(12,.v af)],[],[0,1,4,13],[0],4136,[]⟩ 6 ⟨[(12,.v af)],[],[0,1,4,13],[0],4136,[]⟩ (.s (.s (.j ⟨[(120,.v .bool)],[],[0,1,4,12,13],[0],4136,[]⟩ .z) .z) .z))) (.s (.b (.l ⟨[(13,.v af)],[],[0,1,4,12],[0],4136,[]⟩ 8 ⟨[(13,.v af)],[],[0,1,4,12],[0],4136,[]⟩ (.s (.s (.j ⟨[(139,.v .bool)],[],[0,1,4,12,13],[0],4136,[]⟩ .z) .z) .z))) .z))))) .z)))))
theorem Bj:aH 179 (Bg n) :=cq aB func179 Bh n
def Ej:Hn SI:=(cg (.b (.lx ⟨[(1,.v af),(2,.v af),(3,.v af),(10,.v .bool),(11,.v .bool)],[(0,.l ax)],[0,4],[],1128,[]⟩ 999999 ⟨[],[],[],[],1128,[]⟩ (.b (ef (.s (.j ⟨[(3,.v af)],[(0,.l ax)],[0,1,2,4,10,11,12],[],1640,[]⟩ .z) (.s .z (.s (.j ⟨[(13,.v af),(14,.v af)],[(0,.l ax)],[0,1,2,3,4,10,11,12],[],2280,[]⟩ .z) (.s (.jx ⟨[],[(0,.l ax)],[0,1,2,3,4,10,11,12,13],[],2280,[]⟩ (.s (.j ⟨[(75,.v .bool)],[],[0,1,2,3,4,10,11,12,13],[0],2280,[]⟩ .z) .z)) (.s (.s (.j ⟨[(97,.v .bool)],[],[0,1,2,3,4,10,11,12,13],[0],2280,[]⟩ .z) .z) .z))))))))))
theorem Ci(rc:((List ay))->(Int)->(Int)->(Int)->((ay×ay×Unit)->Option Int)->Option (List ay))(hr:aH 141 (lg rc)):aH 141 (lg (jc n rc)) :=cq (au (wN n) (au (Ch n) (au (wQ n) (au y5 (au (yD n) (au (qG n) (au (vL n) (au (Bj n) (au hr aB))))))))) func141 Ej n
theorem qM(n:Nat):∀m,aH 141 (lg (eF n m))
 | 0=>xi (nP func141 (by kernel_rfl:Tryz.f141.body=some (Tryz.f141.body.getD .skip)) (by kernel_rfl)) (λ _ _ h=>(by cases h)) rfl
 |m+1=>Ci n _ (qM n m)
def El:bz xx:=⟨[.mut ax,.d af,.d af,.d af,.cT [ax,ax] af],[.mu ax],λa=>oh n a.1 a.2.1 a.2.2.1 a.2.2.2.1 a.2.2.2.2.1,none⟩
theorem Em:aH 141 (El n):=qM n n
def Og:bz xx:=⟨[.mut ax,.cT [ax,ax] af],[.mu ax],λa=>qw n a.1 a.2.1,none⟩
theorem Oh:aH 101 (Og n) :=cq (au Ij (au (Em n) aB)) func101 .z n
def F4:bz xx:=⟨[.d ax,.d ax],[.d af],λa=>iP a.1 a.2.1,none⟩
theorem F5:aH 102 F4 :=cq (au pF aB) func102 .z 0
def QD:bz xx:=⟨[.d aI],[.d af],λa=>lH a.1,none⟩
def QE:Hn SI:=(.s .z (.s (.s (.j ⟨[(9,.v .bool)],[],[1],[1000],1128,[]⟩ .z) .z) .z))
theorem Dk:aH 108 QD :=cq (au kW aB) func108 QE 0
def U9:bz xx:=⟨[.d aI],[.d af],λa=>oV a.1,none⟩
theorem IU:aH 106 U9 :=cq (au kW (au K9 (au Dk aB))) func106 .z 0
end
end Go.Proofs
