import Derived.Test.YtnagaonenljjiaaGreatS2
namespace Go.Proofs
open Go.Gb Go.RowKit
abbrev ff:OP SI:=.c 10 [[.v (.sl bq),.v (.sl bg),.v (.sl bC),.v (.sl aZ),.v (.sl bG),.v (.sl bD),.v (.sl aW),.v af,.v (.sl ax),.o 1]]
abbrev pT:OP SI:=.c 1 [[.o 1]]
abbrev q6:OP SI:=.c 2 [[.v (.sl bq),(.v (.sl (.sl af)))]]
abbrev tc:OP SI:=.c 1 [[.v af]]
abbrev ta:OP SI:=.c 10 [[.v (.sl bq),.v (.sl bg),.v (.sl bC),.v (.sl aZ),.v (.sl bG),.v (.sl bD),.v (.sl aW),.v af,.v (.sl ax),.o 2]]
abbrev tA:OP SI:=.c 2 [[.v af,.v af]]
abbrev ux:OP SI:=.c 1 [[.o 1384]]
abbrev xF:OP SI:=.c 1 [[.v (.int .u64)]]
abbrev xz:OP SI:=.c 4 [[.v af,.v af,.v af,.v af]]
abbrev Fi:OP SI:=.c 10 [[.v (.sl bq),.v (.sl bg),.v (.sl bC),.v (.sl aZ),.v (.sl bG),.v (.sl bD),.v (.sl aW),.v af,.v (.sl ax),.o 1960]]
abbrev ca(a:Hn SI):Hn SI:=.s .z (.s .z a)
abbrev ee(a:Hn SI):Hn SI:=.s .z (.s .z (.s .z a))
abbrev rK(a:Hn SI):Hn SI:=.s .z (.s .z (.s .z (.s .z a)))
abbrev NL(a:Hn SI):Hn SI:=.s .z (.s .z (.s .z (.s .z (.s .z a))))
abbrev xT(a:Hn SI):Hn SI:=.s .z (.s .z (.s .z (.s .z (.s .z (.s .z a)))))
open Tryz
noncomputable section
variable (n:Nat)
def ajs:bz xx:=⟨[.d af],[.d (.st SI.Expr)],λa=>Wc a.1,none⟩
theorem ajt:aH 17 ajs :=cq aB func17 .z 0
def Ul:bz xx:=⟨[.d (.sl ax)],[.fresh ax],λa=>Du a.1,none⟩
theorem Um:aH 92 Ul :=cq aB func92 .z 0
def Yj:bz xx:=⟨[.d (.sl af)],[.fresh af],λa=>GN a.1,none⟩
theorem Yk:aH 93 Yj :=cq aB func93 .z 0
def agV:bz xx:=⟨[.d (.st SI.Lot)],[.d (.st SI.Lot)],λa=>O8 a.1,none⟩
theorem agW:aH 52 agV :=cq (au Um (au Yk aB)) func52 .z 0
def aju:bz xx:=⟨[.d (.sl (.st SI.Lot)),.d af],[.d (.st SI.Lot),.d .bool],λa=>O9 n a.1 a.2.1,none⟩
def ajv:Hn SI:=(.s .z (.s (.s .z (.b (.lx ⟨[(10,.v af)],[],[1,4,8,9],[1000],1320,[]⟩ 0 ⟨[],[],[4],[1000],1320,[]⟩ .z))) .z))
theorem ajw:aH 32 (aju n) :=cq (au agW aB) func32 ajv n
def P5:bz xx:=⟨[.d fA,.d af,.d af],[.fresh aI],λa=>oo n a.1 a.2.1 a.2.2.1,none⟩
def P6:Hn SI:=(ca (.s (.s .z (.b (.l ⟨[(7,.o 1448),(13,.v af)],[(1448,.l aI)],[1,2,11,12],[],1449,[(7,aI)]⟩ 0 ⟨[(7,.o 1448)],[(1448,.l aI)],[],[],1449,[]⟩ (ca (.s (.j ⟨[(7,.o 1513)],[(1513,.l aI)],[1,2,11,12,13],[],1514,[]⟩ (.b (.s .z (.s (.j ⟨[(25,.v .bool)],[],[1,2,7,9,11,12,13],[1448,1705],1897,[]⟩ .z) .z)))) .z))))) .z))
theorem Da:aH 66 (P5 n) :=cq aB func66 P6 n
def ZK:bz xx:=⟨[.d fA],[.fresh aI],λa=>xA n a.1,none⟩
theorem MV:aH 54 (ZK n) :=cq (au (Da n) aB) func54 .z n
def ajx:bz xx:=⟨[.d ax],[.d .bool],λa=>oW a.1,none⟩
theorem qj:aH 82 ajx :=cq aB func82 .z 0
def IZ:bz xx:=⟨[.d aI],[.d .bool],λa=>gm a.1,none⟩
def I4:Hn SI:=(ca (.s (.s (.j ⟨[(26,.v .bool)],[],[1],[1000],1384,[]⟩ .z) .z) (.s (.s (.j ⟨[(34,.v .bool)],[],[1],[1000],1384,[]⟩ .z) .z) .z)))
theorem kN:aH 67 IZ :=cq (au qj aB) func67 I4 0
def aeR:bz xx:=⟨[.d ax],[.d ax,.d .bool],λa=>zX a.1,none⟩
theorem TD:aH 99 aeR :=cq (au qj aB) func99 .z 0
def ZL:bz xx:=⟨[.d ax,.d ax],[.d ax,.d .bool],λa=>tC a.1 a.2.1,none⟩
def ZM:Hn SI:=(.s .z (.s (.s (.j ⟨[(13,.v .bool)],[],[2,3,4],[1000,1064,1128],1256,[]⟩ .z) .z) .z))
theorem DK:aH 132 ZL :=cq (au qj (au TD aB)) func132 ZM 0
def Yl:bz xx:=⟨[.d (.st SI.CD),.d (.st SI.CD)],[.d .bool],λa=>ze a.1 a.2.1,none⟩
theorem Ym:aH 95 Yl :=cq (au DK aB) func95 .z 0
def P7:bz xx:=⟨[.d aI,.ref aI],[.d .bool],λa=>rR a.1 a.2.1,none⟩
theorem P8:aH 94 P7 :=cq (au Ym aB) func94 .z 0
def I5:bz xx:=⟨[.d (.sl aI),.cV [aI] .bool],[.d af],λa=>qJ n a.1 a.2.1,none⟩
def I6:Hn SI:=(.s .z (.s (.s .z (.b (.lx ⟨[(8,.v af)],[],[0,1,7],[],1256,[]⟩ 0 ⟨[],[],[],[],1256,[]⟩ .z))) .z))
theorem I7:aH 84 (I5 n) :=cq aB func84 I6 n
def DL:bz xx:=⟨[.d (.sl aI),.cV [aI] .bool],[.d .bool],λa=>fP n a.1 a.2.1,none⟩
theorem rJ:aH 46 (DL n) :=cq (au (I7 n) aB) func46 .z n
def acG:bz xx:=⟨[.d (.int .u8)],[.d .bool],λa=>GU a.1,none⟩
theorem P9:aH 163 acG :=cq aB func163 .z 0
def agX:bz xx:=⟨[.d .str,.cV [.int .u8] .bool],[.d af],λa=>Pb n a.1 a.2.1,none⟩
def agY:Hn SI:=(ca (.s (.b (.l ⟨[(5,.v af)],[],[0,1],[],1128,[]⟩ 0 ⟨[(5,.v af)],[],[],[],1128,[]⟩ (.s (.s (.j ⟨[(16,.v .bool)],[],[0,1,5],[],1128,[]⟩ .z) .z) .z))) .z))
theorem agZ:aH 164 (agX n) :=cq aB func164 agY n
def aeS:bz xx:=⟨[.d (.int .u8)],[.d .bool],λa=>Rj a.1,none⟩
theorem aeT:aH 166 aeS :=cq aB func166 .z 0
def ZN:bz xx:=⟨[.d (.int .u8)],[.d .bool],λa=>Cz a.1,none⟩
theorem ZO:aH 165 ZN :=cq (au P9 (au aeT aB)) func165 .z 0
def ag0:bz xx:=⟨[.d .str],[.d .bool],λa=>Pd n a.1,none⟩
def ag1:Hn SI:=(.s .z (.s (.s (.j ⟨[(15,.v .bool)],[],[0],[],1064,[]⟩ .z) .z) .z))
theorem ag2:aH 133 (ag0 n) :=cq (au P9 (au (agZ n) (au ZO aB))) func133 ag1 n
def Nz:bz xx:=⟨[.d .str,.d .str],[.d .bool],λa=>strings_Contains a.1 a.2.1,none⟩
theorem NA:aH 134 Nz:=by
 have hcall:iL Tryz.prog 134:=⟨_,func134,by kernel_rfl,by kernel_rfl⟩;refine xd hcall (λ a r h=>?_) rfl;obtain⟨s,b,⟨⟩⟩:=a;have h':strings_Contains s b=some r:=h;unfold strings_Contains at h';cases hb:Nat.ble s.size 4000000 with
 |false=>rw[hb]at h';cases h'
 |true=>
  rw[hb]at h';have h'':some (Lib.contains s.data.toList b.data.toList)=some r:=h';injection h'' with e;subst e;have hw:=Nat.le_of_ble_eq_true hb;exact ab9 (g:=0) rfl hcall λm w hm=>aec s b m w (by omega) hm
def ZP:bz xx:=⟨[.d .str],[.d .bool],λa=>xB n a.1,none⟩
theorem ZQ:aH 96 (ZP n) :=cq (au (ag2 n) (au NA aB)) func96 .z n
def Yn:bz xx:=⟨[.d fA],[.d .bool],λa=>zf n a.1,none⟩
def Yo:Hn SI:=(ca (.s (.s (.j ⟨[(42,.v .bool)],[],[1,3],[1000,1192],1320,[]⟩ .z) .z) (.s (.s .z (.b (.lx ⟨[(45,.v af)],[],[1,3,43,44],[1000,1192],1512,[]⟩ 0 ⟨[],[],[1],[1000],1512,[]⟩ (ca (.s (.b (.s .z (.s (.j ⟨[(59,.v .bool)],[],[1,3,43,44,45],[1000,1192],1960,[]⟩ .z) .z))) .z))))) (.s (.s .z (.b (.lx ⟨[(64,.v af)],[],[62,63],[],1768,[]⟩ 2 ⟨[],[],[],[],1768,[]⟩ (ca (.s (.b (ca (.s (.s .z (.b (.lx ⟨[(72,.v af)],[(2088,.m .str .bool)],[7,8,62,63,64,70,71],[1960],2472,[]⟩ 4 ⟨[],[],[7,62,63,64],[1960],2472,[]⟩ (ca (.s (.b (.s .z (.s (.s (.j ⟨[(95,.v .bool)],[],[7,8,10,62,63,64,70,71,72],[1960,2088,2664],2792,[]⟩ .z) .z) .z))) .z))))) .z))) .z))))) .z))))
theorem Yp:aH 53 (Yn n) :=cq (au (MV n) (au kN (au (rJ n) (au P8 (au (ZQ n) aB))))) func53 Yo n
def Yq:bz xx:=⟨[.nil,.d af],[.fresh ax],λa=>Pe a.1 a.2.1,none⟩
theorem Yr:aH 200 Yq :=cq aB func200 .z 0
def RH:bz xx:=⟨[.d (.sl (.sl ax))],[.fresh ax],λa=>Au n a.1,none⟩
def RI:Hn SI:=(ca (.s (.s .z (.b (.l ⟨[(3,.v af),(11,.v af)],[],[0,9,10],[],1320,[]⟩ 0 ⟨[(3,.v af)],[],[0],[],1320,[]⟩ .z))) (.s .z (.s (.s .z (.b (.l ⟨[(6,.o 1704),(27,.v af)],[(1704,.l ax)],[25,26],[],1705,[]⟩ 2 ⟨[(6,.o 1704)],[(1704,.l ax)],[],[],1705,[]⟩ .z))) .z))))
theorem RJ:aH 160 (RH n) :=cq (au Yr aB) func160 RI n
def acH:bz xx:=⟨[.d (.int .u64)],[.d af],λa=>bits_Len64 a.1,none⟩
def acI:Hn SI:=(.s .z (.s (.j ⟨[(0,.v (.int .u64)),(2,.v af)],[],[],[],1064,[]⟩ .z) (.s (.j ⟨[(0,.v (.int .u64)),(2,.v af)],[],[],[],1064,[]⟩ .z) (.s (.j ⟨[(0,.v (.int .u64)),(2,.v af)],[],[],[],1064,[]⟩ .z) .z))))
theorem acJ:aH 189 acH :=cq aB func189 acI 0
def ag3:bz xx:=⟨[.d (.int .u64)],[.d af],λa=>bits_Len a.1,none⟩
theorem H7:aH 150 ag3 :=cq (au acJ aB) func150 .z 0
def Un:bz xx:=⟨[.d af],[.d .bool],λa=>cmp_isNaN_int a.1,none⟩
theorem Iw:aH 151 Un :=cq aB func151 .z 0
def Yt:bz xx:=⟨[.d af,.d af],[.d .bool],λa=>cmp_Less_int a.1 a.2.1,none⟩
theorem kI:aH 196 Yt :=cq (au Iw aB) func196 .z 0
def xP:bz xx:=⟨[.mut af,.d af,.d af],[.mu af],λa=>zh n a.1 a.2.1 a.2.2.1,none⟩
def xQ:Hn SI:=(.s .z (.b (.l ⟨[(6,.v af)],[(0,.l af)],[0,1,2],[],1192,[]⟩ 0 ⟨[],[(0,.l af)],[],[],1192,[]⟩ (.s .z (.s (.b (.s .z (.b (.l ⟨[(7,.v af)],[(0,.l af)],[0,1,2,6],[],1512,[]⟩ 2 ⟨[],[(0,.l af)],[0,1,2,6],[],1512,[]⟩ (.s (.s (.j ⟨[(30,.v .bool)],[],[0,1,2,6,7],[0],1512,[]⟩ .z) .z) .z))))) .z)))))
theorem xR:aH 190 (xP n) :=cq (au kI aB) func190 xQ n
def DR:bz xx:=⟨[.mut af,.d af,.d af,.d af],[.mu af],λa=>GV n a.1 a.2.1 a.2.2.1 a.2.2.2.1,none⟩
def DT:Hn SI:=(.s .z (.b (.lx ⟨[(8,.v af)],[(0,.l af)],[0,2,3],[],1128,[]⟩ 0 ⟨[],[(0,.l af)],[],[],1128,[]⟩ (.b (ca (.s (.j ⟨[(9,.v af)],[],[0,2,3,8],[0],1576,[]⟩ (.s (.j ⟨[(36,.v .bool)],[],[0,2,3,8,9],[0],1576,[]⟩ .z) .z)) .z))))))
theorem DU:aH 221 (DR n) :=cq (au kI aB) func221 DT n
def DW:bz xx:=⟨[.mut af,.d af,.d af],[.mu af],λa=>GX n a.1 a.2.1 a.2.2.1,none⟩
def DX:Hn SI:=(ee (.s (.s .z (.b (.l ⟨[(9,.v af)],[(0,.l af)],[0,6,7,8],[],1704,[]⟩ 0 ⟨[],[(0,.l af)],[0,6,7,8],[],1704,[]⟩ .z))) (.s .z (.b (.l ⟨[(10,.v af)],[(0,.l af)],[0,6,7],[],1896,[]⟩ 2 ⟨[],[(0,.l af)],[],[],1896,[]⟩ .z)))))
theorem DY:aH 191 (DW n) :=cq (au (DU n) aB) func191 DX n
def Mc:bz xx:=⟨[.d af],[.d (.int .u64)],λa=>bA a.1,none⟩
theorem qQ:aH 217 Mc :=cq (au H7 aB) func217 .z 0
def NC:bz xx:=⟨[.fm (.int .u64)],[.d (.int .u64),.mr (.int .u64)],λa=>bH a.1,none⟩
theorem sP:aH 218 NC :=cq aB func218 .z 0
def xS:bz xx:=⟨[.mut af,.d af,.d af],[.mu af],λa=>zi n a.1 a.2.1 a.2.2.1,none⟩
def xU:Hn SI:=(ca (.s (ee (.b (.l ⟨[(9,.v af)],[(0,.l af),(1512,xF)],[0,1,6,7,8],[],2280,[]⟩ 0 ⟨[],[(0,.l af)],[],[],2280,[]⟩ (.s .z (.s (.b (.s .z (.s (.j ⟨[(10,.v af)],[],[0,1,6,7,8,9],[0,1512],3176,[]⟩ .z) .z))) .z))))) .z))
theorem xV:aH 192 (xS n) :=cq (au qQ (au sP aB)) func192 xU n
def H8:bz xx:=⟨[.d (.sl af),.d af,.d af,.fm af],[.d af,.d af,.mr af],λa=>Km a.1 a.2.1 a.2.2.1 a.2.2.2.1,none⟩
theorem H9:aH 237 H8 :=cq (au kI aB) func237 .z 0
def Ia:bz xx:=⟨[.d (.sl af),.d af,.d af,.d af,.fm af],[.d af,.mr af],λa=>Kn a.1 a.2.1 a.2.2.1 a.2.2.2.1 a.2.2.2.2.1,none⟩
theorem uT:aH 223 Ia :=cq (au H9 aB) func223 .z 0
def vS:bz xx:=⟨[.d (.sl af),.d af,.fm af],[.d af,.mr af],λa=>yx a.1 a.2.1 a.2.2.1,none⟩
theorem vT:aH 222 vS :=cq (au uT aB) func222 .z 0
def zJ:bz xx:=⟨[.d (.sl af),.d af,.d af],[.d af,.d af],λa=>Bw a.1 a.2.1 a.2.2.1,none⟩
def zK:Hn SI:=(xT (.s (.j ⟨[(11,.v af)],[(1384,tc)],[9],[],2600,[]⟩ (.s .z (.s (.s (.j ⟨[(10,.v af),(11,.v af),(12,.v af)],[(1384,tc)],[0,9],[],2728,[]⟩ .z) .z) .z))) .z))
theorem zL:aH 193 zJ :=cq (au vT (au uT aB)) func193 zK 0
def yH:bz xx:=⟨[.mut af,.d af,.d af],[.mu af],λa=>Av n a.1 a.2.1 a.2.2.1,none⟩
def yI:Hn SI:=(ca (.b (.l ⟨[(6,.v af),(7,.v af)],[(0,.l af)],[0],[],1320,[]⟩ 0 ⟨[],[(0,.l af)],[],[],1320,[]⟩ .z)))
theorem yJ:aH 194 (yH n) :=cq aB func194 yI n
def qR:bz xx:=⟨[.mut af,.d af,.d af],[.d .bool,.mu af],λa=>sH n a.1 a.2.1 a.2.2.1,none⟩
def qU:Hn SI:=(ca (.s (.s .z (.b (.lx ⟨[(7,.v af),(8,.v af)],[(0,.l af)],[0,1,2],[],1320,[]⟩ 0 ⟨[],[(0,.l af)],[],[],1320,[]⟩ (.s .z (.s (.jx ⟨[(7,.v af)],[(0,.l af)],[0,1,2,8],[],1448,[]⟩ (.b (.s (.b (.l ⟨[(7,.v af)],[],[0,1,2,8],[0],1448,[]⟩ 2 ⟨[(7,.v af)],[],[0,1,2,8],[0],1448,[]⟩ (.s (.s (.j ⟨[(32,.v .bool)],[],[0,1,2,7,8],[0],1448,[]⟩ .z) .z) .z))) (ee (.s (.j ⟨[],[(0,.l af)],[0,1,2,7,8],[],3048,[]⟩ (.s .z (.s (.s .z (.b (.l ⟨[(9,.v af)],[(0,.l af)],[0,1,2,7,8],[],3496,[]⟩ 4 ⟨[],[(0,.l af)],[0,1,2,7,8],[],3496,[]⟩ .z))) .z))) (.s .z (.s (.s .z (.b (.l ⟨[(10,.v af)],[(0,.l af)],[0,1,2,7,8],[],3496,[]⟩ 6 ⟨[],[(0,.l af)],[0,1,2,7,8],[],3496,[]⟩ .z))) .z))))))) .z))))) .z))
theorem qV:aH 195 (qR n) :=cq (au kI aB) func195 qU n
def vU:bz xx:=⟨[.mut af,.d af,.d af,.d af],[.d af,.mu af],λa=>yA n a.1 a.2.1 a.2.2.1 a.2.2.2.1,none⟩
def vV:Hn SI:=(ee (.s (.b (.l ⟨[(9,.v af),(10,.v af)],[(0,.l af)],[0,1],[],2472,[]⟩ 0 ⟨[(9,.v af)],[(0,.l af)],[],[],2472,[]⟩ (.b (.s (.b (.l ⟨[(9,.v af)],[],[0,1,10],[0],2472,[]⟩ 2 ⟨[(9,.v af)],[],[0,1,10],[0],2472,[]⟩ (.s (.s (.j ⟨[(43,.v .bool)],[],[0,1,9,10],[0],2472,[]⟩ .z) .z) .z))) (.s (.b (.l ⟨[(10,.v af)],[],[0,1,9],[0],2472,[]⟩ 4 ⟨[(10,.v af)],[],[0,1,9],[0],2472,[]⟩ (.s (.s (.j ⟨[(59,.v .bool)],[],[0,1,9,10],[0],2472,[]⟩ .z) .z) .z))) .z))))) .z))
theorem vW:aH 197 (vU n) :=cq (au kI aB) func197 vV n
def BB:bz xx:=⟨[.mut af,.d af,.d af,.d af],[.d af,.d .bool,.mu af],λa=>Fh n a.1 a.2.1 a.2.2.1 a.2.2.2.1,none⟩
def BD:Hn SI:=(ee (.s (.b (.l ⟨[(10,.v af)],[],[0,1,11],[0],2536,[]⟩ 0 ⟨[(10,.v af)],[],[0,1,11],[0],2536,[]⟩ (.s (.s (.j ⟨[(43,.v .bool)],[],[0,1,10,11],[0],2536,[]⟩ .z) .z) .z))) (.s (.b (.l ⟨[(11,.v af)],[],[0,1,10],[0],2536,[]⟩ 2 ⟨[(11,.v af)],[],[0,1,10],[0],2536,[]⟩ (.s (.s (.j ⟨[(60,.v .bool)],[],[0,1,10,11],[0],2536,[]⟩ .z) .z) .z))) (rK (.s (.b (.l ⟨[(10,.v af),(11,.v af)],[(0,.l af)],[0,1],[],4136,[]⟩ 4 ⟨[(11,.v af)],[(0,.l af)],[0,1],[],4136,[]⟩ (.b (.s (.b (.l ⟨[(10,.v af)],[],[0,1,11],[0],4136,[]⟩ 6 ⟨[(10,.v af)],[],[0,1,11],[0],4136,[]⟩ (.s (.s (.j ⟨[(112,.v .bool)],[],[0,1,10,11],[0],4136,[]⟩ .z) .z) .z))) (.s (.b (.l ⟨[(11,.v af)],[],[0,1,10],[0],4136,[]⟩ 8 ⟨[(11,.v af)],[],[0,1,10],[0],4136,[]⟩ (.s (.s (.j ⟨[(129,.v .bool)],[],[0,1,10,11],[0],4136,[]⟩ .z) .z) .z))) .z))))) .z)))))
theorem BF:aH 198 (BB n) :=cq (au kI aB) func198 BD n
def FH:Hn SI:=(ca (.b (.lx ⟨[(1,.v af),(2,.v af),(3,.v af),(8,.v .bool),(9,.v .bool)],[(0,.l af)],[0],[],1128,[]⟩ 999999 ⟨[],[],[],[],1128,[]⟩ (.b (ee (.s (.j ⟨[(3,.v af)],[(0,.l af)],[0,1,2,8,9,10],[],1640,[]⟩ .z) (.s .z (.s (.j ⟨[(11,.v af),(12,.v af)],[(0,.l af)],[0,1,2,3,8,9,10],[],2216,[]⟩ .z) (.s (.jx ⟨[],[(0,.l af)],[0,1,2,3,8,9,10,11],[],2216,[]⟩ (.s (.j ⟨[(68,.v .bool)],[],[0,1,2,3,8,9,10,11],[0],2216,[]⟩ .z) .z)) (.s (.s (.j ⟨[(87,.v .bool)],[],[0,1,2,3,8,9,10,11],[0],2216,[]⟩ .z) .z) .z))))))))))
theorem DZ(rc:((List Int))->(Int)->(Int)->(Int)->Option (List Int))(hr:aH 152 (mJ rc)):aH 152 (mJ (nk n rc)) :=cq (au (xR n) (au (DY n) (au (xV n) (au zL (au (yJ n) (au (qV n) (au kI (au (vW n) (au (BF n) (au hr aB)))))))))) func152 FH n
theorem rM(n:Nat):∀m,aH 152 (mJ (gK n m))
 | 0=>xd (nH func152 (by kernel_rfl:Tryz.f152.body=some (Tryz.f152.body.getD .skip)) (by kernel_rfl)) (λ _ _ h=>(by cases h)) rfl
 |m+1=>DZ n _ (rM n m)
def FI:bz xx:=⟨[.mut af,.d af,.d af,.d af],[.mu af],λa=>oQ n a.1 a.2.1 a.2.2.1 a.2.2.2.1,none⟩
theorem FJ:aH 152 (FI n):=rM n n
def ZR:bz xx:=⟨[.mut af],[.mu af],λa=>nI n a.1,none⟩
theorem wS:aH 112 (ZR n) :=cq (au H7 (au (FJ n) aB)) func112 .z n
def RL:bz xx:=⟨[.mut af],[.whole 0,.mu af],λa=>pI n a.1,none⟩
def RN:Hn SI:=(ca (.s (.s .z (.b (.lx ⟨[(3,.v af)],[],[0],[0],1320,[]⟩ 0 ⟨[],[],[0],[0],1320,[]⟩ (.s .z (.s (.b (.s .z (.s (.s .z (.s (.s .z (.b (.l ⟨[(3,.v af),(5,.v af)],[(0,.l af)],[0,4],[],2536,[]⟩ 2 ⟨[(3,.v af)],[(0,.l af)],[0],[],2536,[]⟩ (.s .z (.s (.j ⟨[(3,.v af)],[(0,.l af)],[0,4,5],[],2792,[]⟩ .z) .z))))) .z)) .z))) .z))))) .z))
theorem vX:aH 161 (RL n) :=cq aB func161 RN n
def vY:bz xx:=⟨[.mut (.st SI.span),.d af,.d af,.cV [.st SI.span,.st SI.span] af],[.mu (.st SI.span)],λa=>yB n a.1 a.2.1 a.2.2.1 a.2.2.2.1,none⟩
def vZ:Hn SI:=(.s .z (.b (.l ⟨[(8,.v af)],[(0,.l (.st SI.span))],[0,1,2,3],[],1192,[]⟩ 0 ⟨[],[(0,.l (.st SI.span))],[],[],1192,[]⟩ (.s .z (.s (.b (.s .z (.b (.l ⟨[(9,.v af)],[(0,.l (.st SI.span))],[0,1,2,3,8],[],1512,[]⟩ 2 ⟨[],[(0,.l (.st SI.span))],[0,1,2,3,8],[],1512,[]⟩ (.s (.s (.j ⟨[(34,.v .bool)],[],[0,1,2,3,8,9],[0],1512,[]⟩ .z) .z) .z))))) .z)))))
theorem wh:aH 238 (vY n) :=cq aB func238 vZ n
def BG:bz xx:=⟨[.mut (.st SI.span),.d af,.d af,.d af,.cV [.st SI.span,.st SI.span] af],[.mu (.st SI.span)],λa=>Fj n a.1 a.2.1 a.2.2.1 a.2.2.2.1 a.2.2.2.2.1,none⟩
def BH:Hn SI:=(.s .z (.b (.lx ⟨[(10,.v af)],[(0,.l (.st SI.span))],[0,2,3,4],[],1128,[]⟩ 0 ⟨[],[(0,.l (.st SI.span))],[],[],1128,[]⟩ (.b (ca (.s (.j ⟨[(11,.v af)],[],[0,2,3,4,10],[0],1576,[]⟩ (.s (.j ⟨[(40,.v .bool)],[],[0,2,3,4,10,11],[0],1576,[]⟩ .z) .z)) .z))))))
theorem BJ:aH 252 (BG n) :=cq aB func252 BH n
def BK:bz xx:=⟨[.mut (.st SI.span),.d af,.d af,.cV [.st SI.span,.st SI.span] af],[.mu (.st SI.span)],λa=>Fp n a.1 a.2.1 a.2.2.1 a.2.2.2.1,none⟩
def BL:Hn SI:=(ee (.s (.s .z (.b (.l ⟨[(11,.v af)],[(0,.l (.st SI.span))],[0,3,8,9,10],[],1704,[]⟩ 0 ⟨[],[(0,.l (.st SI.span))],[0,3,8,9,10],[],1704,[]⟩ .z))) (.s .z (.b (.l ⟨[(12,.v af)],[(0,.l (.st SI.span))],[0,3,8,9],[],1896,[]⟩ 2 ⟨[],[(0,.l (.st SI.span))],[],[],1896,[]⟩ .z)))))
theorem BM:aH 239 (BK n) :=cq (au (BJ n) aB) func239 BL n
def wm:bz xx:=⟨[.mut (.st SI.span),.d af,.d af,.cV [.st SI.span,.st SI.span] af],[.mu (.st SI.span)],λa=>yC n a.1 a.2.1 a.2.2.1 a.2.2.2.1,none⟩
def wo:Hn SI:=(ca (.s (ee (.b (.l ⟨[(11,.v af)],[(0,.l (.st SI.span)),(1512,xF)],[0,1,8,9,10],[],2280,[]⟩ 0 ⟨[],[(0,.l (.st SI.span))],[],[],2280,[]⟩ (.s .z (.s (.b (.s .z (.s (.j ⟨[(12,.v af)],[],[0,1,8,9,10,11],[0,1512],3176,[]⟩ .z) .z))) .z))))) .z))
theorem wu:aH 240 (wm n) :=cq (au qQ (au sP aB)) func240 wo n
def FK:bz xx:=⟨[.d (.sl (.st SI.span)),.d af,.d af,.fm af,.cV [.st SI.span,.st SI.span] af],[.d af,.d af,.mr af],λa=>IB a.1 a.2.1 a.2.2.1 a.2.2.2.1 a.2.2.2.2.1,none⟩
theorem FL:aH 266 FK :=cq aB func266 .z 0
def FM:bz xx:=⟨[.d (.sl (.st SI.span)),.d af,.d af,.d af,.fm af,.cV [.st SI.span,.st SI.span] af],[.d af,.mr af],λa=>IC a.1 a.2.1 a.2.2.1 a.2.2.2.1 a.2.2.2.2.1 a.2.2.2.2.2.1,none⟩
theorem tO:aH 254 FM :=cq (au FL aB) func254 .z 0
def uY:bz xx:=⟨[.d (.sl (.st SI.span)),.d af,.fm af,.cV [.st SI.span,.st SI.span] af],[.d af,.mr af],λa=>xC a.1 a.2.1 a.2.2.1 a.2.2.2.1,none⟩
theorem uZ:aH 253 uY :=cq (au tO aB) func253 .z 0
def yK:bz xx:=⟨[.d (.sl (.st SI.span)),.d af,.d af,.cV [.st SI.span,.st SI.span] af],[.d af,.d af],λa=>Aw a.1 a.2.1 a.2.2.1 a.2.2.2.1,none⟩
def yL:Hn SI:=(xT (.s (.j ⟨[(13,.v af)],[(1384,tc)],[11],[],2600,[]⟩ (.s .z (.s (.s (.j ⟨[(12,.v af),(13,.v af),(14,.v af)],[(1384,tc)],[0,3,11],[],2728,[]⟩ .z) .z) .z))) .z))
theorem yM:aH 241 yK :=cq (au uZ (au tO aB)) func241 yL 0
def xW:bz xx:=⟨[.mut (.st SI.span),.d af,.d af,.cV [.st SI.span,.st SI.span] af],[.mu (.st SI.span)],λa=>zk n a.1 a.2.1 a.2.2.1 a.2.2.2.1,none⟩
def xX:Hn SI:=(ca (.b (.l ⟨[(8,.v af),(9,.v af)],[(0,.l (.st SI.span))],[0],[],1320,[]⟩ 0 ⟨[],[(0,.l (.st SI.span))],[],[],1320,[]⟩ .z)))
theorem xY:aH 242 (xW n) :=cq aB func242 xX n
def ql:bz xx:=⟨[.mut (.st SI.span),.d af,.d af,.cV [.st SI.span,.st SI.span] af],[.d .bool,.mu (.st SI.span)],λa=>rf n a.1 a.2.1 a.2.2.1 a.2.2.2.1,none⟩
def qm:Hn SI:=(ca (.s (.s .z (.b (.lx ⟨[(9,.v af),(10,.v af)],[(0,.l (.st SI.span))],[0,1,2,3],[],1320,[]⟩ 0 ⟨[],[(0,.l (.st SI.span))],[],[],1320,[]⟩ (.s .z (.s (.jx ⟨[(9,.v af)],[(0,.l (.st SI.span))],[0,1,2,3,10],[],1448,[]⟩ (.b (.s (.b (.l ⟨[(9,.v af)],[],[0,1,2,3,10],[0],1448,[]⟩ 2 ⟨[(9,.v af)],[],[0,1,2,3,10],[0],1448,[]⟩ (.s (.s (.j ⟨[(36,.v .bool)],[],[0,1,2,3,9,10],[0],1448,[]⟩ .z) .z) .z))) (ee (.s (.j ⟨[],[(0,.l (.st SI.span))],[0,1,2,3,9,10],[],3048,[]⟩ (.s .z (.s (.s .z (.b (.l ⟨[(11,.v af)],[(0,.l (.st SI.span))],[0,1,2,3,9,10],[],3496,[]⟩ 4 ⟨[],[(0,.l (.st SI.span))],[0,1,2,3,9,10],[],3496,[]⟩ .z))) .z))) (.s .z (.s (.s .z (.b (.l ⟨[(12,.v af)],[(0,.l (.st SI.span))],[0,1,2,3,9,10],[],3496,[]⟩ 6 ⟨[],[(0,.l (.st SI.span))],[0,1,2,3,9,10],[],3496,[]⟩ .z))) .z))))))) .z))))) .z))
theorem qo:aH 243 (ql n) :=cq aB func243 qm n
def u6:bz xx:=⟨[.mut (.st SI.span),.d af,.d af,.d af,.cV [.st SI.span,.st SI.span] af],[.d af,.mu (.st SI.span)],λa=>xD n a.1 a.2.1 a.2.2.1 a.2.2.2.1 a.2.2.2.2.1,none⟩
def u7:Hn SI:=(ee (.s (.b (.l ⟨[(11,.v af),(12,.v af)],[(0,.l (.st SI.span))],[0,1,4],[],2472,[]⟩ 0 ⟨[(11,.v af)],[(0,.l (.st SI.span))],[],[],2472,[]⟩ (.b (.s (.b (.l ⟨[(11,.v af)],[],[0,1,4,12],[0],2472,[]⟩ 2 ⟨[(11,.v af)],[],[0,1,4,12],[0],2472,[]⟩ (.s (.s (.j ⟨[(47,.v .bool)],[],[0,1,4,11,12],[0],2472,[]⟩ .z) .z) .z))) (.s (.b (.l ⟨[(12,.v af)],[],[0,1,4,11],[0],2472,[]⟩ 4 ⟨[(12,.v af)],[],[0,1,4,11],[0],2472,[]⟩ (.s (.s (.j ⟨[(65,.v .bool)],[],[0,1,4,11,12],[0],2472,[]⟩ .z) .z) .z))) .z))))) .z))
theorem ve:aH 244 (u6 n) :=cq aB func244 u7 n
def AX:bz xx:=⟨[.mut (.st SI.span),.d af,.d af,.d af,.cV [.st SI.span,.st SI.span] af],[.d af,.d .bool,.mu (.st SI.span)],λa=>Dv n a.1 a.2.1 a.2.2.1 a.2.2.2.1 a.2.2.2.2.1,none⟩
def AY:Hn SI:=(ee (.s (.b (.l ⟨[(12,.v af)],[],[0,1,4,13],[0],2536,[]⟩ 0 ⟨[(12,.v af)],[],[0,1,4,13],[0],2536,[]⟩ (.s (.s (.j ⟨[(47,.v .bool)],[],[0,1,4,12,13],[0],2536,[]⟩ .z) .z) .z))) (.s (.b (.l ⟨[(13,.v af)],[],[0,1,4,12],[0],2536,[]⟩ 2 ⟨[(13,.v af)],[],[0,1,4,12],[0],2536,[]⟩ (.s (.s (.j ⟨[(66,.v .bool)],[],[0,1,4,12,13],[0],2536,[]⟩ .z) .z) .z))) (rK (.s (.b (.l ⟨[(12,.v af),(13,.v af)],[(0,.l (.st SI.span))],[0,1,4],[],4136,[]⟩ 4 ⟨[(13,.v af)],[(0,.l (.st SI.span))],[0,1],[],4136,[]⟩ (.b (.s (.b (.l ⟨[(12,.v af)],[],[0,1,4,13],[0],4136,[]⟩ 6 ⟨[(12,.v af)],[],[0,1,4,13],[0],4136,[]⟩ (.s (.s (.j ⟨[(120,.v .bool)],[],[0,1,4,12,13],[0],4136,[]⟩ .z) .z) .z))) (.s (.b (.l ⟨[(13,.v af)],[],[0,1,4,12],[0],4136,[]⟩ 8 ⟨[(13,.v af)],[],[0,1,4,12],[0],4136,[]⟩ (.s (.s (.j ⟨[(139,.v .bool)],[],[0,1,4,12,13],[0],4136,[]⟩ .z) .z) .z))) .z))))) .z)))))
theorem AZ:aH 245 (AX n) :=cq aB func245 AY n
def D5:Hn SI:=(ca (.b (.lx ⟨[(1,.v af),(2,.v af),(3,.v af),(10,.v .bool),(11,.v .bool)],[(0,.l (.st SI.span))],[0,4],[],1128,[]⟩ 999999 ⟨[],[],[],[],1128,[]⟩ (.b (ee (.s (.j ⟨[(3,.v af)],[(0,.l (.st SI.span))],[0,1,2,4,10,11,12],[],1640,[]⟩ .z) (.s .z (.s (.j ⟨[(13,.v af),(14,.v af)],[(0,.l (.st SI.span))],[0,1,2,3,4,10,11,12],[],2280,[]⟩ .z) (.s (.jx ⟨[],[(0,.l (.st SI.span))],[0,1,2,3,4,10,11,12,13],[],2280,[]⟩ (.s (.j ⟨[(75,.v .bool)],[],[0,1,2,3,4,10,11,12,13],[0],2280,[]⟩ .z) .z)) (.s (.s (.j ⟨[(97,.v .bool)],[],[0,1,2,3,4,10,11,12,13],[0],2280,[]⟩ .z) .z) .z))))))))))
theorem BN(rc:((List aD))->(Int)->(Int)->(Int)->((aD×aD×Unit)->Option Int)->Option (List aD))(hr:aH 224 (kT rc)):aH 224 (kT (iX n rc)) :=cq (au (wh n) (au (BM n) (au (wu n) (au yM (au (xY n) (au (qo n) (au (ve n) (au (AZ n) (au hr aB))))))))) func224 D5 n
theorem qD(n:Nat):∀m,aH 224 (kT (dZ n m))
 | 0=>xd (nH func224 (by kernel_rfl:Tryz.f224.body=some (Tryz.f224.body.getD .skip)) (by kernel_rfl)) (λ _ _ h=>(by cases h)) rfl
 |m+1=>BN n _ (qD n m)
def D6:bz xx:=⟨[.mut (.st SI.span),.d af,.d af,.d af,.cV [.st SI.span,.st SI.span] af],[.mu (.st SI.span)],λa=>nR n a.1 a.2.1 a.2.2.1 a.2.2.2.1 a.2.2.2.2.1,none⟩
theorem D7:aH 224 (D6 n):=qD n n
def ND:bz xx:=⟨[.mut (.st SI.span),.cV [.st SI.span,.st SI.span] af],[.mu (.st SI.span)],λa=>p8 n a.1 a.2.1,none⟩
theorem NE:aH 201 (ND n) :=cq (au H7 (au (D7 n) aB)) func201 .z n
def Qa:bz xx:=⟨[.d af,.d af],[.d af],λa=>cmp_Compare_int a.1 a.2.1,none⟩
theorem o7:aH 111 Qa :=cq (au Iw aB) func111 .z 0
def Yu:bz xx:=⟨[.d (.st SI.span),.d (.st SI.span)],[.d af],λa=>zl a.1 a.2.1,none⟩
theorem Yv:aH 202 Yu :=cq (au o7 aB) func202 .z 0
def aeU:bz xx:=⟨[.d (.sl ax),.d af],[.fresh (.st SI.span)],λa=>Lx n a.1 a.2.1,none⟩
def aeV:Hn SI:=(ca (.s (.s .z (.b (.l ⟨[(5,.o 1320),(14,.v af)],[(1320,.l (.st SI.span))],[1,12,13],[],1321,[(5,.st SI.span)]⟩ 0 ⟨[(5,.o 1320)],[(1320,.l (.st SI.span))],[],[],1321,[]⟩ (ca (.s (.j ⟨[(5,.o 1385)],[(1385,.l (.st SI.span))],[1,12,13,14],[],1386,[]⟩ (.b (.s .z (.s (.j ⟨[(27,.v .bool)],[],[1,5,7,12,13,14],[1320,1513],1641,[]⟩ .z) .z)))) .z))))) (ca (.s (.s .z (.b (.l ⟨[(8,.o 1705),(41,.v af)],[(1705,.l (.st SI.span))],[39,40],[1320],1706,[(8,.st SI.span)]⟩ 2 ⟨[(8,.o 1705)],[(1705,.l (.st SI.span))],[],[],1706,[]⟩ (ca (.s (.j ⟨[(8,.o 1770)],[(1770,.l (.st SI.span))],[39,40,41],[1320],1771,[]⟩ (.b (ca (.s (.j ⟨[(59,.v .bool)],[],[8,10,11,39,40,41],[1320,1705,1898],2218,[]⟩ .z) .z)))) .z))))) .z))))
theorem aeW:aH 162 (aeU n) :=cq (au (NE n) (au Yv aB)) func162 aeV n
def aeX:bz xx:=⟨[.d (.sl (.sl ax))],[.fresh (.st SI.strip)],λa=>oK n a.1,none⟩
def aeY:Hn SI:=(ee (.s (.s .z (.b (.l ⟨[(4,.o 1512),(13,.v af)],[(1512,.l af)],[3,11,12],[1128],1513,[(4,af)]⟩ 0 ⟨[(4,.o 1512)],[(1512,.l af)],[3],[1128],1513,[]⟩ .z))) (ee (.s (.s .z (.b (.l ⟨[(7,.o 1961),(8,.v af)],[(1961,.l (.st SI.strip))],[3,4],[1128,1512],1962,[(7,.st SI.strip)]⟩ 2 ⟨[(7,.o 1961)],[(1961,.l (.st SI.strip))],[],[],1962,[]⟩ .z))) .z))))
theorem TF:aH 130 (aeX n) :=cq (au (RJ n) (au (wS n) (au (vX n) (au (aeW n) aB)))) func130 aeY n
def Uo:bz xx:=⟨[.d (.sl (.st SI.span)),.d (.sl (.st SI.span))],[.d .bool],λa=>wK n a.1 a.2.1,none⟩
def Uq:Hn SI:=(ca (.s (.s .z (.b (.lx ⟨[(13,.v af)],[],[0,1,12],[],1576,[]⟩ 0 ⟨[],[],[],[],1576,[]⟩ .z))) .z))
theorem Ur:aH 159 (Uo n) :=cq aB func159 Uq n
def ag4:bz xx:=⟨[.d (.sl (.st SI.strip))],[.fresh ax],λa=>Ko n a.1,none⟩
def ag5:Hn SI:=(ca (.s (.s .z (.b (.l ⟨[(3,.o 1192),(4,.v af)],[(1192,.l ax)],[0],[],1193,[(3,ax)]⟩ 0 ⟨[(3,.o 1192)],[(1192,.l ax)],[],[],1193,[]⟩ (.s .z (.b (.s .z (.s (.b (.l ⟨[(5,.v af)],[],[0,3,4],[1192],1641,[]⟩ 2 ⟨[(5,.v af)],[],[0,3,4],[1192],1641,[]⟩ (.s (.s (.j ⟨[(30,.v .bool)],[],[0,3,4,5],[1192],1641,[]⟩ .z) .z) .z))) (.s (.s .z (.b (.l ⟨[(3,.o 2089),(39,.v af)],[(2089,.l ax)],[0,4,5,37,38],[],2090,[]⟩ 4 ⟨[(3,.o 2089)],[(2089,.l ax)],[0,5],[],2090,[]⟩ .z))) .z)))))))) .z))
theorem Yw:aH 129 (ag4 n) :=cq (au (Ur n) aB) func129 ag5 n
def acK:bz xx:=⟨[.d (.sl ax)],[.d (.sl ax),.d af],λa=>Ay a.1,none⟩
theorem Qb:aH 128 acK :=cq aB func128 .z 0
def amm:bz xx:=⟨[.d (.sl ax)],[.d (.sl ax),.d af],λa=>Lw n a.1,none⟩
def amn:Hn SI:=(.s .z (.s (.s .z (.b (.lx ⟨[(8,.v af)],[],[0,6,7],[],1320,[]⟩ 0 ⟨[],[],[0],[],1320,[]⟩ .z))) .z))
theorem amo:aH 86 (amm n) :=cq (au qj (au (TF n) (au (Yw n) (au Qb aB)))) func86 amn n
def Us:bz xx:=⟨[.d (.sl ax),.d (.sl ax)],[.d .bool],λa=>oL n a.1 a.2.1,none⟩
def Ut:Hn SI:=(ca (.s (.s .z (.b (.lx ⟨[(13,.v af)],[],[0,1,12],[],1576,[]⟩ 0 ⟨[],[],[],[],1576,[]⟩ .z))) .z))
theorem Iy:aH 87 (Us n) :=cq aB func87 Ut n
def ag6:bz xx:=⟨[.d (.sl ax)],[.d .bool],λa=>oq n a.1,none⟩
theorem pO:aH 48 (ag6 n) :=cq (au (amo n) (au (Iy n) aB)) func48 .z n
def vg:bz xx:=⟨[.d (.sl (.st SI.strip)),.d af,.cV [.st SI.strip,af] af],[.d af,.d .bool],λa=>jd n a.1 a.2.1 a.2.2.1,none⟩
def vk:Hn SI:=(ee (.s (.b (.l ⟨[(9,.v af),(10,.v af)],[],[0,1,2,8],[],1512,[]⟩ 0 ⟨[(9,.v af)],[],[0,1,2,8],[],1512,[]⟩ .z)) .z))
theorem vo:aH 170 (vg n) :=cq aB func170 vk n
def ag7:bz xx:=⟨[.d (.st SI.strip),.d af],[.d af],λa=>xH a.1 a.2.1,none⟩
theorem ag8:aH 171 ag7 :=cq aB func171 .z 0
def amq:bz xx:=⟨[.d (.sl (.st SI.strip)),.d af],[.d (.sl (.st SI.span))],λa=>XG n a.1 a.2.1,none⟩
def amr:Hn SI:=(ca (.s (.s (.j ⟨[(25,.v .bool)],[],[0,5],[],1576,[]⟩ .z) .z) .z))
theorem ams:aH 136 (amq n) :=cq (au (vo n) (au ag8 aB)) func136 amr n
def Yx:bz xx:=⟨[.nil,.d af],[.fresh (.st SI.span)],λa=>Pm a.1 a.2.1,none⟩
theorem Yy:aH 204 Yx :=cq aB func204 .z 0
def RO:bz xx:=⟨[.d (.sl (.sl (.st SI.span)))],[.fresh (.st SI.span)],λa=>Az n a.1,none⟩
def RP:Hn SI:=(ca (.s (.s .z (.b (.l ⟨[(3,.v af),(11,.v af)],[],[0,9,10],[],1320,[]⟩ 0 ⟨[(3,.v af)],[],[0],[],1320,[]⟩ .z))) (.s .z (.s (.s .z (.b (.l ⟨[(6,.o 1704),(27,.v af)],[(1704,.l (.st SI.span))],[25,26],[],1705,[]⟩ 2 ⟨[(6,.o 1704)],[(1704,.l (.st SI.span))],[],[],1705,[]⟩ .z))) .z))))
theorem RQ:aH 168 (RO n) :=cq (au Yy aB) func168 RP n
def wz:bz xx:=⟨[.d (.sl (.st SI.span)),.d af,.cV [.st SI.span,af] af],[.d af,.d .bool],λa=>jy n a.1 a.2.1 a.2.2.1,none⟩
def wB:Hn SI:=(ee (.s (.b (.l ⟨[(9,.v af),(10,.v af)],[],[0,1,2,8],[],1512,[]⟩ 0 ⟨[(9,.v af)],[],[0,1,2,8],[],1512,[]⟩ .z)) .z))
theorem wC:aH 205 (wz n) :=cq aB func205 wB n
def Yz:bz xx:=⟨[.d (.st SI.span),.d af],[.d af],λa=>lW a.1 a.2.1,none⟩
theorem YA:aH 206 Yz :=cq aB func206 .z 0
def aeZ:bz xx:=⟨[.d (.sl (.st SI.span)),.d af],[.d .bool],λa=>Fq n a.1 a.2.1,none⟩
theorem ae0:aH 169 (aeZ n) :=cq (au (wC n) (au YA aB)) func169 .z n
def ag9:bz xx:=⟨[.d (.sl (.st SI.span)),.d (.sl (.st SI.span)),.cV [.bool,.bool] .bool],[.fresh (.st SI.span)],λa=>Kq n a.1 a.2.1 a.2.2.1,none⟩
def aha:Hn SI:=(ca (.s (.s .z (.b (.l ⟨[(7,.o 1512),(19,.v af)],[(1512,.l af)],[0,1,2,17,18],[1320],1513,[(7,af)]⟩ 0 ⟨[(7,.o 1512)],[(1512,.l af)],[0,1,2],[],1513,[]⟩ .z))) (ee (.s (.s .z (.b (.l ⟨[(10,.o 1961),(11,.v af)],[(1961,.l (.st SI.span))],[0,1,2,7],[1512],1962,[(10,.st SI.span)]⟩ 2 ⟨[(10,.o 1961)],[(1961,.l (.st SI.span))],[],[],1962,[]⟩ (.s .z (.s (.j ⟨[(10,.o 2218)],[(2218,.l (.st SI.span))],[0,1,2,7,11],[1512],2219,[]⟩ (.b (ee (.s (.j ⟨[(68,.v .bool)],[],[0,1,2,7,10,11,12,13],[1512,1961],3370,[]⟩ .z) .z)))) .z))))) .z))))
theorem ahb:aH 135 (ag9 n) :=cq (au (RQ n) (au (wS n) (au (vX n) (au (ae0 n) aB)))) func135 aha n
def acL:bz xx:=⟨[.d (.sl ax),.d (.sl ax),.cV [.bool,.bool] .bool],[.d (.sl ax),.d af],λa=>GY n a.1 a.2.1 a.2.2.1,none⟩
def acM:Hn SI:=(.s .z (.s (.s (.j ⟨[(20,.v .bool)],[],[0,1,2],[],1128,[]⟩ .z) .z) (.s (.f [6,7]) (.s .z (.s (.s .z (.b (.l ⟨[(33,.v af)],[(1832,.l (.st SI.strip))],[2,8,9,10,31,32],[],2152,[]⟩ 0 ⟨[],[(1832,.l (.st SI.strip))],[10],[],2152,[]⟩ .z))) .z)))))
theorem acN:aH 97 (acL n) :=cq (au (pO n) (au (TF n) (au (ams n) (au (ahb n) (au (Yw n) (au Qb aB)))))) func97 acM n
def YB:bz xx:=⟨[.d .bool,.d .bool],[.d .bool],λa=>zm a.1 a.2.1,none⟩
theorem YC:aH 98 YB :=cq aB func98 .z 0
def ae1:bz xx:=⟨[.d (.sl ax),.d (.sl ax)],[.d (.sl ax),.d af],λa=>LA n a.1 a.2.1,none⟩
theorem ae2:aH 55 (ae1 n) :=cq (au (acN n) (au YC aB)) func55 .z n
def alk:bz xx:=⟨[.d ax],[.d af],λa=>AA a.1,none⟩
theorem KS:aH 57 alk :=cq (au TD aB) func57 .z 0
def ajy:bz xx:=⟨[.d (.sl ax)],[.d af],λa=>Pp n a.1,none⟩
def ajz:Hn SI:=(ee (.s (.s .z (.b (.l ⟨[(3,.v af),(11,.v af)],[],[9,10],[],1512,[]⟩ 0 ⟨[(3,.v af)],[],[],[],1512,[]⟩ .z))) .z))
theorem abd:aH 56 (ajy n) :=cq (au (pO n) (au KS aB)) func56 ajz n
def NF:bz xx:=⟨[.d bG,.ref (.st SI.Entry)],[.d .bool],λa=>vO a.1 a.2.1,none⟩
theorem NG:aH 59 NF :=cq aB func59 .z 0
def NH:bz xx:=⟨[.d (.sl bG),.cV [bG] .bool],[.d af],λa=>vP n a.1 a.2.1,none⟩
def NI:Hn SI:=(.s .z (.s (.s .z (.b (.lx ⟨[(8,.v af)],[],[0,1,7],[],1256,[]⟩ 0 ⟨[],[],[],[],1256,[]⟩ .z))) .z))
theorem NJ:aH 100 (NH n) :=cq aB func100 NI n
def I8:bz xx:=⟨[.d (.sl bG),.cV [bG] .bool],[.d .bool],λa=>mV n a.1 a.2.1,none⟩
theorem I9:aH 58 (I8 n) :=cq (au (NJ n) aB) func58 .z n
def Uu:bz xx:=⟨[.d (.st SI.ld),.d (.st SI.Lot),.d fA],[.d .bool],λa=>oM n a.1 a.2.1 a.2.2.1,none⟩
def Uv:Hn SI:=(.s .z (.s (.s (.j ⟨[(30,.v .bool)],[],[3,4,5],[1000,1064,1128],1256,[]⟩ .z) .z) (.s (.s .z (.b (.lx ⟨[(34,.v af)],[],[3,4,5,32,33],[1000,1064,1128,1320],1512,[]⟩ 0 ⟨[],[],[3,5],[1000,1128],1512,[]⟩ (ca (.s (.b (ca (.s (.j ⟨[(58,.v .bool)],[],[3,4,5,32,33,34],[1000,1064,1128,1320],2600,[]⟩ .z) .z))) .z))))) (.s (.s .z (.b (.lx ⟨[(63,.v af)],[],[3,61,62],[1000],1768,[]⟩ 2 ⟨[],[],[],[],1768,[]⟩ (ca (.s (.b (ca (.b (.lx ⟨[(70,.v af)],[],[3,61,62,63,68,69],[1000],2344,[]⟩ 4 ⟨[],[],[3,61,62,63],[1000],2344,[]⟩ .z)))) .z))))) .z))))
theorem Uw:aH 33 (Uu n) :=cq (au (Yp n) (au (pO n) (au (MV n) (au (ae2 n) (au (abd n) (au KS (au (I9 n) (au NG aB)))))))) func33 Uv n
def RS:bz xx:=⟨[.d fA],[.fresh aI],λa=>uD n a.1,none⟩
def RU:Hn SI:=(ca (.s (.s .z (.b (.l ⟨[(3,.o 1448),(9,.v af)],[(1448,.l aI)],[7,8],[],1449,[(3,aI)]⟩ 0 ⟨[(3,.o 1448)],[(1448,.l aI)],[],[],1449,[]⟩ .z))) .z))
theorem RX:aH 34 (RS n) :=cq aB func34 RU n
def RY:bz xx:=⟨[.d (.sl (.st SI.iu))],[.fresh (.st SI.side)],λa=>pJ n a.1,none⟩
def RZ:Hn SI:=(ca (.s (.s .z (.b (.l ⟨[(10,.v af)],[(1192,.l (.st SI.side))],[0,3,9],[],1512,[]⟩ 0 ⟨[],[(1192,.l (.st SI.side))],[3],[],1512,[]⟩ .z))) .z))
theorem FN:aH 173 (RY n) :=cq aB func173 RZ n
def R3:bz xx:=⟨[.d (.st SI.iu)],[.d .bool],λa=>uE a.1,none⟩
theorem R4:aH 207 R3 :=cq aB func207 .z 0
def Ib:bz xx:=⟨[.d (.st SI.side)],[.d .bool],λa=>gM a.1,none⟩
theorem uU:aH 174 Ib :=cq aB func174 .z 0
def acO:bz xx:=⟨[.d (.sl af)],[.d af],λa=>sI n a.1,none⟩
def acP:Hn SI:=(ca (.s (.s .z (.b (.lx ⟨[(8,.v af)],[],[3,6,7],[],1320,[]⟩ 0 ⟨[],[],[3],[],1320,[]⟩ .z))) .z))
theorem Qc:aH 137 (acO n) :=cq aB func137 acP n
def Qd:bz xx:=⟨[.d (.st SI.iu),.d (.st SI.iu)],[.d af],λa=>rT n a.1 a.2.1,none⟩
theorem Qe:aH 208 (Qd n) :=cq (au o7 (au (Qc n) aB)) func208 .z n
def Ic:bz xx:=⟨[.d (.st SI.side),.d (.st SI.side)],[.d .bool],λa=>lX a.1 a.2.1,none⟩
theorem Ie:aH 209 Ic :=cq aB func209 .z 0
def Ux:bz xx:=⟨[.d (.sl (.st SI.iu))],[.d .bool],λa=>wM n a.1,none⟩
def Uy:Hn SI:=(.s .z (.s (.s (.j ⟨[(16,.v .bool)],[],[0],[],1064,[]⟩ .z) .z) (.s .z (.s (.s .z (.b (.lx ⟨[(21,.v af)],[],[0,3,19,20],[1128],1448,[]⟩ 0 ⟨[],[],[3],[1128],1448,[]⟩ (ca (.s (.b (ca (.s (.s (.j ⟨[(61,.v .bool)],[],[0,3,4,19,20,21],[1128],2536,[]⟩ .z) .z) (.s (.j ⟨[(74,.v .bool)],[],[0,3,19,20,21],[1128],2536,[]⟩ .z) .z)))) .z))))) (.s (.s .z (.b (.lx ⟨[(78,.v af)],[],[3,77],[1128],1640,[]⟩ 2 ⟨[],[],[3],[1128],1640,[]⟩ (ca (.s (.b (ca (.b (.lx ⟨[(8,.v af)],[],[3,7,77,78],[1128],2024,[]⟩ 4 ⟨[],[],[3,77,78],[1128],2024,[]⟩ (.s .z (.s (.b (.s (.j ⟨[(106,.v .bool)],[],[3,7,8,77,78],[1128],2280,[]⟩ .z) .z)) .z)))))) .z))))) .z)))))
theorem Uz:aH 172 (Ux n) :=cq (au (FN n) (au R4 (au uU (au (Qe n) (au Ie aB))))) func172 Uy n
def R5:bz xx:=⟨[.d (.sl (.st SI.iu))],[.fresh ax,.d af],λa=>uF n a.1,none⟩
def R6:Hn SI:=(ee (.s (.s .z (.b (.l ⟨[(4,.o 1576),(19,.v af)],[(1576,.l af)],[0,17,18],[],1577,[(4,af)]⟩ 0 ⟨[(4,.o 1576)],[(1576,.l af)],[0],[],1577,[]⟩ .z))) (rK (.s (.s .z (.b (.l ⟨[(8,.o 2409),(38,.v af)],[(2409,.l ax)],[4,7,37],[1576,1961],2410,[(8,ax)]⟩ 2 ⟨[(8,.o 2409)],[(2409,.l ax)],[],[],2410,[]⟩ (ca (.s (.b (ca (.s (.s .z (.b (.l ⟨[(10,.o 2858),(43,.v af)],[(2858,.l af)],[4,7,8,9,37,38,41,42],[1576,1961,2409],2859,[(10,af)]⟩ 4 ⟨[(10,.o 2858)],[(2858,.l af)],[4,7,8,9,37,38],[1576,1961,2409],2859,[]⟩ (ca (.s (.j ⟨[(10,.o 2923)],[(2923,.l af)],[4,7,8,9,37,38,41,42,43],[1576,1961,2409],2924,[]⟩ (.b (.s .z (.s (.j ⟨[(77,.v .bool)],[],[4,7,8,9,10,12,37,38,41,42,43],[1576,1961,2409,2858,3051],3179,[]⟩ .z) .z)))) .z))))) (ca (.b (.l ⟨[(8,.o 3051),(13,.v af)],[(3051,.l ax)],[4,7,9,10,37,38],[1576,1961,2858],3052,[]⟩ 6 ⟨[(8,.o 3051)],[(3051,.l ax)],[4,7,37,38],[1576,1961],3052,[]⟩ .z)))))) .z))))) .z))))
theorem R7:aH 138 (R5 n) :=cq (au (Uz n) (au (wS n) (au (vX n) (au (FN n) (au uU aB))))) func138 R6 n
def YD:bz xx:=⟨[.d bC],[.fresh ax],λa=>zn n a.1,none⟩
theorem YE:aH 102 (YD n) :=cq (au (R7 n) aB) func102 .z n
def UA:bz xx:=⟨[.d (.sl ax),.d (.sl ax)],[.d af,.d (.st SI.iu)],λa=>wN n a.1 a.2.1,none⟩
def UB:Hn SI:=(ca (.s (.s .z (.b (.l ⟨[(6,.v af),(18,.v af)],[(1192,tA)],[1,5,7,16,17],[1064],1576,[]⟩ 0 ⟨[(6,.v af)],[(1192,tA)],[5,7],[1064],1576,[]⟩ (ca (.s (.b (ca (.b (.l ⟨[(6,.v af),(24,.v af)],[(1192,tA)],[1,5,7,9,16,17,18,22,23],[1064,1768],2088,[]⟩ 2 ⟨[(6,.v af)],[(1192,tA)],[1,5,7,16,17,18],[1064],2088,[]⟩ (ca (.s (.j ⟨[(6,.v af)],[(1192,tA)],[1,5,7,9,16,17,18,22,23,24],[1064,1768],2152,[]⟩ .z) .z)))))) .z))))) .z))
theorem UC:aH 101 (UA n) :=cq (au DK (au KS (au o7 (au (Qc n) aB)))) func101 UB n
def UD:bz xx:=⟨[.d (.st SI.ld),.d (.sl ax)],[.fresh af],λa=>wO n a.1 a.2.1,none⟩
def UE:Hn SI:=(ee (.s (.s .z (.b (.l ⟨[(5,.o 1640),(16,.v af)],[(1640,.l af)],[1,14,15],[],1641,[(5,af)]⟩ 0 ⟨[(5,.o 1640)],[(1640,.l af)],[],[],1641,[]⟩ .z))) .z))
theorem UF:aH 60 (UD n) :=cq (au (pO n) (au (YE n) (au (UC n) aB))) func60 UE n
def ae3:bz xx:=⟨[.d (.st SI.ld),.d (.sl ax)],[.fresh .str],λa=>Fs n a.1 a.2.1,none⟩
def ae4:Hn SI:=(ee (.s (.s .z (.b (.l ⟨[(6,.v af),(17,.v af)],[],[2,5,15,16],[1000,1256],1640,[]⟩ 0 ⟨[(6,.v af)],[],[2,5],[1000,1256],1640,[]⟩ (ca (.s (.j ⟨[(6,.v af)],[],[2,5,15,16,17],[1000,1256],1704,[]⟩ (.b (.s .z (.s (.j ⟨[(44,.v .bool)],[],[2,5,6,7,15,16,17],[1000,1256],2024,[]⟩ .z) .z)))) .z))))) (.s .z (.s (.s .z (.b (.l ⟨[(9,.o 1896),(49,.v af)],[(1896,.l .str)],[2,6,47,48],[1000,1256],1897,[(9,.str)]⟩ 2 ⟨[(9,.o 1896)],[(1896,.l .str)],[],[],1897,[]⟩ (ca (.s (.j ⟨[(9,.o 1961)],[(1961,.l .str)],[2,6,47,48,49],[1000,1256],1962,[]⟩ (.b (.s .z (.s (.j ⟨[(68,.v .bool)],[],[2,6,9,10,47,48,49],[1000,1256,1896],2281,[]⟩ .z) .z)))) .z))))) .z))))
theorem ae5:aH 35 (ae3 n) :=cq (au (UF n) aB) func35 ae4 n
def ZT:bz xx:=⟨[.d (.st SI.ju),.d fA],[.d (.st SI.j8),.d af],λa=>xK n a.1 a.2.1,none⟩
theorem MW:aH 19 (ZT n) :=cq (au (ajw n) (au (Uw n) (au (RX n) (au (ae5 n) aB)))) func19 .z n
def Qf:bz xx:=⟨[.d (.sl .str),.d .str],[.d af],λa=>rU n a.1 a.2.1,none⟩
def Qg:Hn SI:=(.s .z (.s (.s .z (.b (.lx ⟨[(8,.v af)],[],[0,1,7],[],1256,[]⟩ 0 ⟨[],[],[],[],1256,[]⟩ .z))) .z))
theorem Qh:aH 36 (Qf n) :=cq aB func36 Qg n
def KT:bz xx:=⟨[.d (.sl .str),.d .str],[.d .bool],λa=>fK n a.1 a.2.1,none⟩
theorem pQ:aH 21 (KT n) :=cq (au (Qh n) aB) func21 .z n
def NK:bz xx:=⟨[.d .str,.ref (.sl .str)],[.d .bool],λa=>j6 n a.1 a.2.1,none⟩
theorem NN:aH 61 (NK n) :=cq (au (pQ n) aB) func61 .z n
def Ja:bz xx:=⟨[.d (.sl .str),.cV [.str] .bool],[.d af],λa=>qK n a.1 a.2.1,none⟩
def Jb:Hn SI:=(.s .z (.s (.s .z (.b (.lx ⟨[(8,.v af)],[],[0,1,7],[],1256,[]⟩ 0 ⟨[],[],[],[],1256,[]⟩ .z))) .z))
theorem Jc:aH 103 (Ja n) :=cq aB func103 Jb n
def D8:bz xx:=⟨[.d (.sl .str),.cV [.str] .bool],[.d .bool],λa=>fQ n a.1 a.2.1,none⟩
theorem D9:aH 62 (D8 n) :=cq (au (Jc n) aB) func62 .z n
def UG:bz xx:=⟨[.d aZ,.d (.sl .str)],[.d .bool],λa=>ru n a.1 a.2.1,none⟩
theorem UH:aH 37 (UG n) :=cq (au (D9 n) (au (NN n) aB)) func37 .z n
def YF:bz xx:=⟨[.d (.st SI.ld),.d (.sl .str),.d af],[.fresh af],λa=>uG n a.1 a.2.1 a.2.2.1,none⟩
def YG:Hn SI:=(ca (.s (.s .z (.b (.l ⟨[(7,.o 1448),(13,.v af)],[(1448,.l af)],[1,2,11,12],[],1449,[(7,af)]⟩ 0 ⟨[(7,.o 1448)],[(1448,.l af)],[],[],1449,[]⟩ (ca (.s (.j ⟨[(7,.o 1513)],[(1513,.l af)],[1,2,11,12,13],[],1514,[]⟩ (.b (.s .z (.s (.j ⟨[(37,.v .bool)],[],[1,2,7,8,11,12,13],[1448],1897,[]⟩ .z) .z)))) .z))))) .z))
theorem YH:aH 22 (YF n) :=cq (au (UH n) aB) func22 YG n
def wD:bz xx:=⟨[.mut ax,.d af,.d af,.cV [ax,ax] af],[.mu ax],λa=>yD n a.1 a.2.1 a.2.2.1 a.2.2.2.1,none⟩
def wE:Hn SI:=(.s .z (.b (.l ⟨[(8,.v af)],[(0,.l ax)],[0,1,2,3],[],1192,[]⟩ 0 ⟨[],[(0,.l ax)],[],[],1192,[]⟩ (.s .z (.s (.b (.s .z (.b (.l ⟨[(9,.v af)],[(0,.l ax)],[0,1,2,3,8],[],1512,[]⟩ 2 ⟨[],[(0,.l ax)],[0,1,2,3,8],[],1512,[]⟩ (.s (.s (.j ⟨[(34,.v .bool)],[],[0,1,2,3,8,9],[0],1512,[]⟩ .z) .z) .z))))) .z)))))
theorem wF:aH 180 (wD n) :=cq aB func180 wE n
def BP:bz xx:=⟨[.mut ax,.d af,.d af,.d af,.cV [ax,ax] af],[.mu ax],λa=>Fu n a.1 a.2.1 a.2.2.1 a.2.2.2.1 a.2.2.2.2.1,none⟩
def BQ:Hn SI:=(.s .z (.b (.lx ⟨[(10,.v af)],[(0,.l ax)],[0,2,3,4],[],1128,[]⟩ 0 ⟨[],[(0,.l ax)],[],[],1128,[]⟩ (.b (ca (.s (.j ⟨[(11,.v af)],[],[0,2,3,4,10],[0],1576,[]⟩ (.s (.j ⟨[(40,.v .bool)],[],[0,2,3,4,10,11],[0],1576,[]⟩ .z) .z)) .z))))))
theorem BR:aH 216 (BP n) :=cq aB func216 BQ n
def BU:bz xx:=⟨[.mut ax,.d af,.d af,.cV [ax,ax] af],[.mu ax],λa=>Fv n a.1 a.2.1 a.2.2.1 a.2.2.2.1,none⟩
def BV:Hn SI:=(ee (.s (.s .z (.b (.l ⟨[(11,.v af)],[(0,.l ax)],[0,3,8,9,10],[],1704,[]⟩ 0 ⟨[],[(0,.l ax)],[0,3,8,9,10],[],1704,[]⟩ .z))) (.s .z (.b (.l ⟨[(12,.v af)],[(0,.l ax)],[0,3,8,9],[],1896,[]⟩ 2 ⟨[],[(0,.l ax)],[],[],1896,[]⟩ .z)))))
theorem BX:aH 181 (BU n) :=cq (au (BR n) aB) func181 BV n
def wG:bz xx:=⟨[.mut ax,.d af,.d af,.cV [ax,ax] af],[.mu ax],λa=>yE n a.1 a.2.1 a.2.2.1 a.2.2.2.1,none⟩
def wH:Hn SI:=(ca (.s (ee (.b (.l ⟨[(11,.v af)],[(0,.l ax),(1512,xF)],[0,1,8,9,10],[],2280,[]⟩ 0 ⟨[],[(0,.l ax)],[],[],2280,[]⟩ (.s .z (.s (.b (.s .z (.s (.j ⟨[(12,.v af)],[],[0,1,8,9,10,11],[0,1512],3176,[]⟩ .z) .z))) .z))))) .z))
theorem wI:aH 182 (wG n) :=cq (au qQ (au sP aB)) func182 wH n
def FO:bz xx:=⟨[.d (.sl ax),.d af,.d af,.fm af,.cV [ax,ax] af],[.d af,.d af,.mr af],λa=>IE a.1 a.2.1 a.2.2.1 a.2.2.2.1 a.2.2.2.2.1,none⟩
theorem FP:aH 236 FO :=cq aB func236 .z 0
def FQ:bz xx:=⟨[.d (.sl ax),.d af,.d af,.d af,.fm af,.cV [ax,ax] af],[.d af,.mr af],λa=>IG a.1 a.2.1 a.2.2.1 a.2.2.2.1 a.2.2.2.2.1 a.2.2.2.2.2.1,none⟩
theorem tQ:aH 220 FQ :=cq (au FP aB) func220 .z 0
def vv:bz xx:=⟨[.d (.sl ax),.d af,.fm af,.cV [ax,ax] af],[.d af,.mr af],λa=>xL a.1 a.2.1 a.2.2.1 a.2.2.2.1,none⟩
theorem vw:aH 219 vv :=cq (au tQ aB) func219 .z 0
def yN:bz xx:=⟨[.d (.sl ax),.d af,.d af,.cV [ax,ax] af],[.d af,.d af],λa=>AB a.1 a.2.1 a.2.2.1 a.2.2.2.1,none⟩
def yO:Hn SI:=(xT (.s (.j ⟨[(13,.v af)],[(1384,tc)],[11],[],2600,[]⟩ (.s .z (.s (.s (.j ⟨[(12,.v af),(13,.v af),(14,.v af)],[(1384,tc)],[0,3,11],[],2728,[]⟩ .z) .z) .z))) .z))
theorem yP:aH 183 yN :=cq (au vw (au tQ aB)) func183 yO 0
def xZ:bz xx:=⟨[.mut ax,.d af,.d af,.cV [ax,ax] af],[.mu ax],λa=>zq n a.1 a.2.1 a.2.2.1 a.2.2.2.1,none⟩
def yc:Hn SI:=(ca (.b (.l ⟨[(8,.v af),(9,.v af)],[(0,.l ax)],[0],[],1320,[]⟩ 0 ⟨[],[(0,.l ax)],[],[],1320,[]⟩ .z)))
theorem yg:aH 184 (xZ n) :=cq aB func184 yc n
def qp:bz xx:=⟨[.mut ax,.d af,.d af,.cV [ax,ax] af],[.d .bool,.mu ax],λa=>rz n a.1 a.2.1 a.2.2.1 a.2.2.2.1,none⟩
def qw:Hn SI:=(ca (.s (.s .z (.b (.lx ⟨[(9,.v af),(10,.v af)],[(0,.l ax)],[0,1,2,3],[],1320,[]⟩ 0 ⟨[],[(0,.l ax)],[],[],1320,[]⟩ (.s .z (.s (.jx ⟨[(9,.v af)],[(0,.l ax)],[0,1,2,3,10],[],1448,[]⟩ (.b (.s (.b (.l ⟨[(9,.v af)],[],[0,1,2,3,10],[0],1448,[]⟩ 2 ⟨[(9,.v af)],[],[0,1,2,3,10],[0],1448,[]⟩ (.s (.s (.j ⟨[(36,.v .bool)],[],[0,1,2,3,9,10],[0],1448,[]⟩ .z) .z) .z))) (ee (.s (.j ⟨[],[(0,.l ax)],[0,1,2,3,9,10],[],3048,[]⟩ (.s .z (.s (.s .z (.b (.l ⟨[(11,.v af)],[(0,.l ax)],[0,1,2,3,9,10],[],3496,[]⟩ 4 ⟨[],[(0,.l ax)],[0,1,2,3,9,10],[],3496,[]⟩ .z))) .z))) (.s .z (.s (.s .z (.b (.l ⟨[(12,.v af)],[(0,.l ax)],[0,1,2,3,9,10],[],3496,[]⟩ 6 ⟨[],[(0,.l ax)],[0,1,2,3,9,10],[],3496,[]⟩ .z))) .z))))))) .z))))) .z))
theorem qx:aH 185 (qp n) :=cq aB func185 qw n
def vz:bz xx:=⟨[.mut ax,.d af,.d af,.d af,.cV [ax,ax] af],[.d af,.mu ax],λa=>xM n a.1 a.2.1 a.2.2.1 a.2.2.2.1 a.2.2.2.2.1,none⟩
def vB:Hn SI:=(ee (.s (.b (.l ⟨[(11,.v af),(12,.v af)],[(0,.l ax)],[0,1,4],[],2472,[]⟩ 0 ⟨[(11,.v af)],[(0,.l ax)],[],[],2472,[]⟩ (.b (.s (.b (.l ⟨[(11,.v af)],[],[0,1,4,12],[0],2472,[]⟩ 2 ⟨[(11,.v af)],[],[0,1,4,12],[0],2472,[]⟩ (.s (.s (.j ⟨[(47,.v .bool)],[],[0,1,4,11,12],[0],2472,[]⟩ .z) .z) .z))) (.s (.b (.l ⟨[(12,.v af)],[],[0,1,4,11],[0],2472,[]⟩ 4 ⟨[(12,.v af)],[],[0,1,4,11],[0],2472,[]⟩ (.s (.s (.j ⟨[(65,.v .bool)],[],[0,1,4,11,12],[0],2472,[]⟩ .z) .z) .z))) .z))))) .z))
theorem vC:aH 186 (vz n) :=cq aB func186 vB n
def A7:bz xx:=⟨[.mut ax,.d af,.d af,.d af,.cV [ax,ax] af],[.d af,.d .bool,.mu ax],λa=>Dw n a.1 a.2.1 a.2.2.1 a.2.2.2.1 a.2.2.2.2.1,none⟩
def A8:Hn SI:=(ee (.s (.b (.l ⟨[(12,.v af)],[],[0,1,4,13],[0],2536,[]⟩ 0 ⟨[(12,.v af)],[],[0,1,4,13],[0],2536,[]⟩ (.s (.s (.j ⟨[(47,.v .bool)],[],[0,1,4,12,13],[0],2536,[]⟩ .z) .z) .z))) (.s (.b (.l ⟨[(13,.v af)],[],[0,1,4,12],[0],2536,[]⟩ 2 ⟨[(13,.v af)],[],[0,1,4,12],[0],2536,[]⟩ (.s (.s (.j ⟨[(66,.v .bool)],[],[0,1,4,12,13],[0],2536,[]⟩ .z) .z) .z))) (rK (.s (.b (.l ⟨[(12,.v af),(13,.v af)],[(0,.l ax)],[0,1,4],[],4136,[]⟩ 4 ⟨[(13,.v af)],[(0,.l ax)],[0,1],[],4136,[]⟩ (.b (.s (.b (.l ⟨[(12,.v af)],[],[0,1,4,13],[0],4136,[]⟩ 6 ⟨[(12,.v af)],[],[0,1,4,13],[0],4136,[]⟩ (.s (.s (.j ⟨[(120,.v .bool)],[],[0,1,4,12,13],[0],4136,[]⟩ .z) .z) .z))) (.s (.b (.l ⟨[(13,.v af)],[],[0,1,4,12],[0],4136,[]⟩ 8 ⟨[(13,.v af)],[],[0,1,4,12],[0],4136,[]⟩ (.s (.s (.j ⟨[(139,.v .bool)],[],[0,1,4,12,13],[0],4136,[]⟩ .z) .z) .z))) .z))))) .z)))))
theorem A9:aH 187 (A7 n) :=cq aB func187 A8 n
def Ea:Hn SI:=(ca (.b (.lx ⟨[(1,.v af),(2,.v af),(3,.v af),(10,.v .bool),(11,.v .bool)],[(0,.l ax)],[0,4],[],1128,[]⟩ 999999 ⟨[],[],[],[],1128,[]⟩ (.b (ee (.s (.j ⟨[(3,.v af)],[(0,.l ax)],[0,1,2,4,10,11,12],[],1640,[]⟩ .z) (.s .z (.s (.j ⟨[(13,.v af),(14,.v af)],[(0,.l ax)],[0,1,2,3,4,10,11,12],[],2280,[]⟩ .z) (.s (.jx ⟨[],[(0,.l ax)],[0,1,2,3,4,10,11,12,13],[],2280,[]⟩ (.s (.j ⟨[(75,.v .bool)],[],[0,1,2,3,4,10,11,12,13],[0],2280,[]⟩ .z) .z)) (.s (.s (.j ⟨[(97,.v .bool)],[],[0,1,2,3,4,10,11,12,13],[0],2280,[]⟩ .z) .z) .z))))))))))
theorem BZ(rc:((List ay))->(Int)->(Int)->(Int)->((ay×ay×Unit)->Option Int)->Option (List ay))(hr:aH 149 (kU rc)):aH 149 (kU (iY n rc)) :=cq (au (wF n) (au (BX n) (au (wI n) (au yP (au (yg n) (au (qx n) (au (vC n) (au (A9 n) (au hr aB))))))))) func149 Ea n
theorem qE(n:Nat):∀m,aH 149 (kU (d9 n m))
 | 0=>xd (nH func149 (by kernel_rfl:Tryz.f149.body=some (Tryz.f149.body.getD .skip)) (by kernel_rfl)) (λ _ _ h=>(by cases h)) rfl
 |m+1=>BZ n _ (qE n m)
def Eb:bz xx:=⟨[.mut ax,.d af,.d af,.d af,.cV [ax,ax] af],[.mu ax],λa=>nT n a.1 a.2.1 a.2.2.1 a.2.2.2.1 a.2.2.2.2.1,none⟩
theorem Ec:aH 149 (Eb n):=qE n n
def NP:bz xx:=⟨[.mut ax,.cV [ax,ax] af],[.mu ax],λa=>qg n a.1 a.2.1,none⟩
theorem NQ:aH 109 (NP n) :=cq (au H7 (au (Ec n) aB)) func109 .z n
def FR:bz xx:=⟨[.d ax,.d ax],[.d af],λa=>iM a.1 a.2.1,none⟩
theorem FT:aH 110 FR :=cq (au o7 aB) func110 .z 0
def Qi:bz xx:=⟨[.d aI],[.d af],λa=>lq a.1,none⟩
def Qj:Hn SI:=(.s .z (.s (.s (.j ⟨[(9,.v .bool)],[],[1],[1000],1128,[]⟩ .z) .z) .z))
theorem Db:aH 116 Qi :=cq (au kN aB) func116 Qj 0
def UI:bz xx:=⟨[.d aI],[.d af],λa=>oN a.1,none⟩
theorem Iz:aH 114 UI :=cq (au kN (au KS (au Db aB))) func114 .z 0
end
end Go.Proofs
